/- The program's Unit answers as the reference's Unit does, for all arguments. -/
import Derived.Test.YtpkclocdenagcaaPFnExactUnitx8
import Derived.Test.YtpkclocdenagcaaBits
import Derived.Test.YtpkclocdenagcaaLoops
namespace Go.Proofs.Ytpkclocdenagcaa.Pure
open Go Go.RowKit Go.Proofs.Ytpkclocdenagcaa.PFnExactUnit Go.Proofs.YtpkclocdenagcaaW.PrintWords Go.Proofs.YtpkclocdenagcaaW.PrintLast Go.Proofs.YtpkclocdenagcaaW.PrintMore Go.Proofs.Ytpkclocdenagcaa.BitsLib Go.Proofs.Ytpkclocdenagcaa.Loops
set_option linter.unusedVariables false
set_option linter.unusedSimpArgs false
set_option maxRecDepth 4000

/-! wrap_next -/
theorem wrap_next (i : Nat) (h : i < 4611686018427387904) : wrap64 ((i : Int) + 1) = ((i + 1 : Nat) : Int) := by
  rw [wrap64_id (by omega) (by omega)]; rfl

/-! szn_out -/
theorem szn_out (n : Nat) (left : Int) (hn : (n : Int) ≤ 9223372036854775807) (h0 : 0 ≤ left) (h1 : left ≤ 1048576) :
    ∃ r, (True → wrap64 (left - (n : Int)) = r) ∧ (r < 0 ∨ (0 ≤ r ∧ r ≤ left ∧ (n : Int) ≤ 1048576)) := by
  refine ⟨left - (n : Int), fun _ => wrap64_id (by omega) (by omega), ?_⟩
  by_cases c : left - (n : Int) < 0
  · exact .inl c
  · exact .inr (by omega)

/-! rdE_L1 -/
theorem rdE_L1 (l : List (List Int)) (i : Nat) (h : i < l.length) : rd_L1 l (i : Int) = l[i] := by
  unfold rd_L1
  rw [List.getD_eq_getElem?_getD, Int.toNat_natCast, List.getElem?_eq_getElem h]; rfl
theorem rdM_L1 (l : List (List Int)) (i : Nat) (h : i < l.length) : rd_L1 l (i : Int) ∈ l := by rw [rdE_L1 l i h]; exact List.getElem_mem h

/-! S32 -/
structure S32 where
  f0 : Int
  f1 : List (List Int)

/-! UpL_Cnf -/
def UpL_Cnf (c : Int) (x : S32) : Prop := ((x.f1.length : Int) ≤ c ∧ ∀ y ∈ x.f1, ((y.length : Int) ≤ c))

/-! sz_Int64S -/
theorem sz_Int64S (x : List Int) (left : Int) (hin : ((x.length : Int) ≤ 9223372036854775807)) (h0 : 0 ≤ left) (h1 : left ≤ 1048576) :
    ∃ r, Ev (fun k => laws_szInt64S.f x left) r ∧ (r < 0 ∨ (0 ≤ r ∧ r ≤ left ∧ ((x.length : Int) ≤ 1048576))) := by
  obtain ⟨r, hr, hb⟩ := szn_out x.length left hin h0 h1
  rcases hb with c | ⟨p0, q0, u0⟩
  · exact ⟨-1, ⟨0, fun k _ => by dsimp only; unfold laws_szInt64S.f; rw [hr trivial, if_pos c]⟩, .inl (by omega)⟩
  · exact ⟨r, ⟨0, fun k _ => by dsimp only; unfold laws_szInt64S.f; rw [hr trivial, if_neg (by omega)]⟩, .inr ⟨p0, q0, u0⟩⟩

/-! sz_Int64SS -/
theorem sz_Int64SS (x : List (List Int)) (left : Int) (hin : ((x.length : Int) ≤ 9223372036854775807 ∧ ∀ y ∈ x, ((y.length : Int) ≤ 9223372036854775807))) (h0 : 0 ≤ left) (h1 : left ≤ 1048576) :
    ∃ r, Ev (fun k => laws_szInt64SS.f k x left) r ∧ (r < 0 ∨ (0 ≤ r ∧ r ≤ left ∧ ((x.length : Int) ≤ 1048576 ∧ ∀ y ∈ x, ((y.length : Int) ≤ 1048576)))) := by
  obtain ⟨hl, hx⟩ := hin
  obtain ⟨r0, hr0, hb0⟩ := szn_out x.length left hl h0 h1
  rcases hb0 with c | ⟨p0, q0, u0⟩
  · exact ⟨-1, ⟨0, fun k _ => by dsimp only; unfold laws_szInt64SS.f; rw [hr0 trivial, if_pos c]⟩, .inl (by omega)⟩
  · have main : ∀ d i, x.length - i = d → i ≤ x.length → ∀ lf, 0 ≤ lf → lf ≤ left → ∃ r, Ev (fun k => laws_szInt64SS.l0 k x lf (i : Int)) r ∧ (r < 0 ∨ (0 ≤ r ∧ r ≤ lf ∧ ∀ j : Nat, i ≤ j → j < x.length → (((rd_L1 x (j : Int)).length : Int) ≤ 1048576))) := by
      intro d
      induction d with
      | zero =>
        intro i hd hi lf g0 g1
        exact ⟨lf, Ev.step (f := fun _ => some lf) (fun k => by simp only [laws_szInt64SS.l0]; rw [if_neg (by omega)]) (Ev.now _), .inr ⟨g0, Int.le_refl _, fun j g2 g3 => absurd g3 (by omega)⟩⟩
      | succ d ih =>
        intro i hd hi lf g0 g1
        have hil : i < x.length := by omega
        obtain ⟨r, ⟨K, hr⟩, hrb⟩ := sz_Int64S (rd_L1 x (i : Int)) lf (hx _ (rdM_L1 x i hil)) g0 (by omega)
        rcases hrb with hneg | ⟨p1, p2, p3⟩
        · refine ⟨-1, ⟨K + 1, fun k hk => ?_⟩, .inl (by omega)⟩
          obtain ⟨m, rfl⟩ : ∃ m, k = m + 1 := ⟨k - 1, by omega⟩
          have hr := hr m (by omega)
          dsimp only at hr ⊢
          simp only [laws_szInt64SS.l0]
          rw [if_pos (by omega), if_pos (by omega), hr]
          simp only [Option.bind_some]
          rw [if_pos hneg]
        · obtain ⟨r2, ⟨K2, h2⟩, hb2⟩ := ih (i + 1) (by omega) (by omega) r p1 (by omega)
          refine ⟨r2, ⟨K + K2 + 1, fun k hk => ?_⟩, ?_⟩
          · obtain ⟨m, rfl⟩ : ∃ m, k = m + 1 := ⟨k - 1, by omega⟩
            have hr := hr m (by omega)
            have h2 := h2 m (by omega)
            dsimp only at hr h2 ⊢
            simp only [laws_szInt64SS.l0]
            rw [if_pos (by omega), if_pos (by omega), hr]
            simp only [Option.bind_some]
            rw [if_neg (by omega), wrap_next i (by omega)]
            exact h2
          · rcases hb2 with hb2 | ⟨s0, s1, s2⟩
            · exact .inl hb2
            · refine .inr ⟨s0, by omega, fun j g2 g3 => ?_⟩
              by_cases e : j = i
              · rw [e]; exact p3
              · exact s2 j (by omega) g3
    obtain ⟨r, ⟨K, hr⟩, hb⟩ := main x.length 0 (by omega) (by omega) r0 p0 q0
    refine ⟨r, ⟨K, fun k hk => ?_⟩, ?_⟩
    · have hr := hr k hk
      dsimp only at hr ⊢
      unfold laws_szInt64SS.f
      rw [hr0 trivial, if_neg (by omega)]
      exact hr
    · rcases hb with hb | ⟨s0, s1, s2⟩
      · exact .inl hb
      · refine .inr ⟨s0, by omega, by omega, fun y hy => ?_⟩
        obtain ⟨j, hjl, rfl⟩ := List.getElem_of_mem hy
        have := s2 j (by omega) hjl
        rwa [rdE_L1 x j hjl] at this

/-! sz_Cnf -/
theorem sz_Cnf (x : S32) (left : Int) (hin : UpL_Cnf 9223372036854775807 x) (h0 : 0 ≤ left) (h1 : left ≤ 1048576) :
    ∃ r, Ev (fun k => laws_szCnf.f k x.f0 x.f1 left) r ∧ (r < 0 ∨ (0 ≤ r ∧ r ≤ left ∧ UpL_Cnf 1048576 x)) := by
  unfold UpL_Cnf at hin
  have i1 := hin
  obtain ⟨r1, ⟨K1, e1⟩, hb1⟩ := sz_Int64SS x.f1 left i1 (by omega) (by omega)
  rcases hb1 with c1 | ⟨p1, q1, u1⟩
  · exact ⟨-1, ⟨K1, fun k hk => by have e1 := e1 k (by omega); dsimp only at e1 ⊢; unfold laws_szCnf.f; rw [e1]; simp only [Option.bind_some]; rw [if_pos c1]⟩, .inl (by omega)⟩
  exact ⟨r1, ⟨K1, fun k hk => by have e1 := e1 k (by omega); dsimp only at e1 ⊢; unfold laws_szCnf.f; rw [e1]; simp only [Option.bind_some]; rw [if_neg (by omega)]⟩, .inr ⟨by omega, by omega, u1⟩⟩

/-! S37 -/
structure S37 where
  f0 : Int
  f1 : List (List Int)

/-! UpI_Cnf -/
def UpI_Cnf (c : Int) (x : S37) : Prop := ((x.f1.length : Int) ≤ c ∧ ∀ y ∈ x.f1, ((y.length : Int) ≤ c))

/-! cv_Cnf -/
def cv_Cnf (x : S32) : S37 := ⟨x.f0, x.f1⟩

/-! upcv_Cnf -/
theorem upcv_Cnf (c : Int) (x : S32) (h : UpL_Cnf c x) : UpI_Cnf c (cv_Cnf x) := by
  unfold UpL_Cnf at h
  unfold UpI_Cnf
  have i1 := h
  exact i1

/-! in_Cnf -/
theorem in_Cnf (x : S32) (h : (Lit.int .i64 x.f0).wf = true ∧ (x.f1.length ≤ 9223372036854775807 ∧ ∀ y0 ∈ x.f1, (y0.length ≤ 9223372036854775807 ∧ ∀ y1 ∈ y0, (Lit.int .i64 y1).wf = true))) : UpL_Cnf 9223372036854775807 x := by
  obtain ⟨j0, j1⟩ := h
  unfold UpL_Cnf
  exact ⟨Int.ofNat_le.2 j1.1, fun y hy => (Int.ofNat_le.2 (j1.2 y hy).1)⟩

/-! to_Int64S -/
theorem to_Int64S (x : List Int) (h : ((x.length : Int) ≤ 1048576)) : Ev (fun k => laws_toInt64S.f k x) x := by
  have hl := h
  have main := up_loop x.length (filled (fun i => (rd x i)) (List.replicate x.length 0)) (fun k xs i => laws_toInt64S.l0 k x xs i)
    (fun i hi r h2 => by
      obtain ⟨K2, h2⟩ := h2
      refine ⟨K2 + 1, fun k hk => ?_⟩
      obtain ⟨m, rfl⟩ : ∃ m, k = m + 1 := ⟨k - 1, by omega⟩
      have h2 := h2 m (by omega)
      dsimp only at h2 ⊢
      rw [← filled_set _ _ (by simpa using hi)] at h2
      simp only [laws_toInt64S.l0]
      rw [if_pos (by omega), if_pos (by omega)]
      rw [if_pos (by rw [filled_len _ _ (by simp; omega)]; simp; omega), Int.toNat_natCast, wrap64_id (by omega) (by omega)]
      exact h2)
    x (Ev.step (f := fun _ => some x) (fun k => by
      simp only [laws_toInt64S.l0]
      rw [if_neg (by omega), filled_all _ _ (by simp)]
      congr 1
      exact list_of_rd x) (Ev.now _))
  rw [filled_zero] at main
  refine Ev.congr (fun k => ?_) main
  unfold laws_toInt64S.f
  rw [if_pos (by omega), if_pos (by omega), Int.toNat_natCast]

/-! to_Int64SS -/
theorem to_Int64SS (x : List (List Int)) (h : ((x.length : Int) ≤ 1048576 ∧ ∀ y ∈ x, ((y.length : Int) ≤ 1048576))) : Ev (fun k => laws_toInt64SS.f k x) x := by
  have hl := h.1
  have main := up_loop x.length (filled (fun i => (rd_L1 x i)) (List.replicate x.length [])) (fun k xs i => laws_toInt64SS.l0 k x xs i)
    (fun i hi r h2 => by
      obtain ⟨K, he⟩ := to_Int64S (rd_L1 x (i : Int)) (h.2 _ (rdM_L1 x i hi))
      obtain ⟨K2, h2⟩ := h2
      refine ⟨K + K2 + 1, fun k hk => ?_⟩
      obtain ⟨m, rfl⟩ : ∃ m, k = m + 1 := ⟨k - 1, by omega⟩
      have h2 := h2 m (by omega)
      have he := he m (by omega)
      dsimp only at he h2 ⊢
      rw [← filled_set _ _ (by simpa using hi)] at h2
      simp only [laws_toInt64SS.l0]
      rw [if_pos (by omega), if_pos (by omega), he]
      simp only [Option.bind_some]
      rw [if_pos (by rw [filled_len _ _ (by simp; omega)]; simp; omega), Int.toNat_natCast, wrap64_id (by omega) (by omega)]
      exact h2)
    x (Ev.step (f := fun _ => some x) (fun k => by
      simp only [laws_toInt64SS.l0]
      rw [if_neg (by omega), filled_all _ _ (by simp)]
      congr 1
      apply List.ext_getElem?
      intro i
      by_cases hi : i < x.length
      · simp [hi, rdE_L1]
      · rw [List.getElem?_eq_none (by first | omega | (simp; omega)), List.getElem?_eq_none (by first | omega | (simp; omega))]) (Ev.now _))
  rw [filled_zero] at main
  refine Ev.congr (fun k => ?_) main
  unfold laws_toInt64SS.f
  rw [if_pos (by omega), if_pos (by omega), Int.toNat_natCast]

/-! to_Cnf -/
theorem to_Cnf (x : S32) (h : UpL_Cnf 1048576 x) : Ev (fun k => laws_toCnf.f k x.f0 x.f1) ((cv_Cnf x).f0, (cv_Cnf x).f1) := by
  unfold UpL_Cnf at h
  have i1 := h
  obtain ⟨K1, e1⟩ := to_Int64SS x.f1 i1
  refine ⟨K1, fun k hk => ?_⟩
  have e1 := e1 k (by omega)
  dsimp only at e1 ⊢
  simp only [laws_toCnf.f, e1, Option.bind_some]
  all_goals rfl

/-! eq_Int64S -/
theorem eq_Int64S (x : List Int) (h : ((x.length : Int) ≤ 1048576)) : Ev (fun k => laws_eqInt64S.f k x x) true := by
  have hl := h
  have main := up_loop x.length (fun _ => ()) (fun k _ i => laws_eqInt64S.l0 k x x i)
    (fun i hi r h2 => by
      obtain ⟨K2, h2⟩ := h2
      refine ⟨K2 + 1, fun k hk => ?_⟩
      obtain ⟨m, rfl⟩ : ∃ m, k = m + 1 := ⟨k - 1, by omega⟩
      have h2 := h2 m (by omega)
      dsimp only at h2 ⊢
      simp only [laws_eqInt64S.l0]
      rw [if_pos (by omega), if_pos (by omega), if_pos (by omega)]
      simp only [if_true]
      rw [wrap64_id (by omega) (by omega)]
      exact h2)
    true (Ev.step (f := fun _ => some true) (fun k => by
      simp only [laws_eqInt64S.l0]
      rw [if_neg (by omega)]) (Ev.now _))
  obtain ⟨K, h⟩ := main
  refine ⟨K, fun k hk => ?_⟩
  have h := h k hk
  dsimp only at h ⊢
  unfold laws_eqInt64S.f
  rw [if_pos rfl]
  exact h

/-! eq_Int64SS -/
theorem eq_Int64SS (x : List (List Int)) (h : ((x.length : Int) ≤ 1048576 ∧ ∀ y ∈ x, ((y.length : Int) ≤ 1048576))) : Ev (fun k => laws_eqInt64SS.f k x x) true := by
  have hl := h.1
  have main := up_loop x.length (fun _ => ()) (fun k _ i => laws_eqInt64SS.l0 k x x i)
    (fun i hi r h2 => by
      obtain ⟨K, he⟩ := eq_Int64S (rd_L1 x (i : Int)) (h.2 _ (rdM_L1 x i hi))
      obtain ⟨K2, h2⟩ := h2
      refine ⟨K + K2 + 1, fun k hk => ?_⟩
      obtain ⟨m, rfl⟩ : ∃ m, k = m + 1 := ⟨k - 1, by omega⟩
      have h2 := h2 m (by omega)
      have he := he m (by omega)
      dsimp only at he h2 ⊢
      simp only [laws_eqInt64SS.l0]
      rw [if_pos (by omega), if_pos (by omega), if_pos (by omega), he]
      simp only [Option.bind_some, if_true, ↓reduceIte]
      rw [wrap64_id (by omega) (by omega)]
      exact h2)
    true (Ev.step (f := fun _ => some true) (fun k => by
      simp only [laws_eqInt64SS.l0]
      rw [if_neg (by omega)]) (Ev.now _))
  obtain ⟨K, h⟩ := main
  refine ⟨K, fun k hk => ?_⟩
  have h := h k hk
  dsimp only at h ⊢
  unfold laws_eqInt64SS.f
  rw [if_pos rfl]
  exact h

/-! eq_Cnf -/
theorem eq_Cnf (x : S37) (h : UpI_Cnf 1048576 x) : Ev (fun k => laws_eqCnf.f k x.f0 x.f1 x.f0 x.f1) true := by
  unfold UpI_Cnf at h
  have i1 := h
  obtain ⟨K1, e1⟩ := eq_Int64SS x.f1 i1
  refine ⟨K1, fun k hk => ?_⟩
  have e1 := e1 k (by omega)
  dsimp only at e1 ⊢
  simp only [laws_eqCnf.f, e1, Option.bind_some, if_true, ↓reduceIte, bne_self_eq_false, Bool.false_eq_true]

/-! mark_Int64S -/
theorem mark_Int64S (x : List Int) (h : ((x.length : Int) ≤ 1048576)) (m : Int) (h0 : 0 ≤ m) (h1 : m ≤ 4611686018426339328) : ∃ (m' : Int) (x' : List Int), Ev (fun k => laws_markInt64S.f k x m) (m', x') ∧ m ≤ m' ∧ m' ≤ m + 1048576 ∧ Ev (fun k => laws_heldInt64S.f k x' m) m' := by
  have hl : (x.length : Int) ≤ 1048576 := h
  obtain ⟨conv, hconv⟩ : ∃ conv : Nat → Int, ∀ i, conv i = m + 1 * (i : Int) := ⟨fun i => _, fun _ => rfl⟩
  have main := up_loop x.length (fun i => (m + 1 * (i : Int), filled conv x i)) (fun k s i => laws_markInt64S.l0 k s.2 s.1 i)
    (fun i hi r h2 => by
      obtain ⟨K2, h2⟩ := h2
      refine ⟨K2 + 1, fun k hk => ?_⟩
      obtain ⟨mm, rfl⟩ : ∃ mm, k = mm + 1 := ⟨k - 1, by omega⟩
      have h2 := h2 mm (by omega)
      dsimp only at h2 ⊢
      have hlen : i < (filled conv x i).length := by rw [filled_len _ _ (by omega)]; exact hi
      rw [← filled_set conv x hi, hconv] at h2
      simp (disch := first | omega | (simp only [List.length_set]; omega)) only [laws_markInt64S.l0, ↓if_pos, Option.bind_some, Int.toNat_natCast, wrap64_id]
      rw [show m + 1 * (i : Int) + 1 = m + 1 * ((i + 1 : Nat) : Int) by omega]
      exact h2)
    (m + 1 * (x.length : Int), (List.range x.length).map conv) (Ev.step (f := fun _ => some (m + 1 * (x.length : Int), (List.range x.length).map conv)) (fun k => by
      simp only [laws_markInt64S.l0]
      rw [if_neg (by rw [filled_len _ _ (Nat.le_refl _)]; omega), filled_all _ _ rfl]) (Ev.now _))
  simp only [filled_zero] at main
  refine ⟨m + 1 * (x.length : Int), (List.range x.length).map conv, Ev.congr (fun k => by unfold laws_markInt64S.f; simp) main, by omega, by omega, ?_⟩
  have hrd : ∀ i : Nat, i < x.length → rd ((List.range x.length).map conv) (i : Int) = conv i := fun i hi => by
    rw [rd_getD]
    rw [List.getD_eq_getElem?_getD, Int.toNat_natCast, List.getElem?_map, List.getElem?_range hi]; rfl
  have main2 := up_loop x.length (fun i => m + 1 * (i : Int)) (fun k s i => laws_heldInt64S.l0 k ((List.range x.length).map conv) s i)
    (fun i hi r h2 => by
      obtain ⟨K2, h2⟩ := h2
      refine ⟨K2 + 1, fun k hk => ?_⟩
      obtain ⟨mm, rfl⟩ : ∃ mm, k = mm + 1 := ⟨k - 1, by omega⟩
      have h2 := h2 mm (by omega)
      dsimp only at h2 ⊢
      have hr := hrd i hi
      rw [hconv] at hr
      simp (disch := omega) only [laws_heldInt64S.l0, List.length_map, List.length_range, ↓if_pos, hr, wrap64_id, ↓reduceIte, bne_self_eq_false, Bool.false_eq_true]
      rw [show m + 1 * (i : Int) + 1 = m + 1 * ((i + 1 : Nat) : Int) by omega]
      exact h2)
    (m + 1 * (x.length : Int)) (Ev.step (f := fun _ => some (m + 1 * (x.length : Int))) (fun k => by
      simp only [laws_heldInt64S.l0]
      rw [if_neg (by simp)]) (Ev.now _))
  exact Ev.congr (fun k => by unfold laws_heldInt64S.f; simp) main2

/-! mark_Int64SS -/
theorem mark_Int64SS_loop (x : List (List Int)) (hl : x.length ≤ 1048576) (hx : ∀ j : Nat, j < x.length → (((rd_L1 x (j : Int)).length : Int) ≤ 1048576)) :
    ∀ d i, x.length - i = d → i ≤ x.length → ∀ (xs : List (List Int)) (m : Int), xs.length = x.length → (∀ j : Nat, i ≤ j → j < x.length → (rd_L1 xs (j : Int)) = (rd_L1 x (j : Int))) → 0 ≤ m → m ≤ 4611686018427387904 - (d : Int) * 1048576 →
      ∃ (m' : Int) (x' : List (List Int)), Ev (fun k => laws_markInt64SS.l0 k xs m (i : Int)) (m', x') ∧ m ≤ m' ∧ m' ≤ m + (d : Int) * 1048576 ∧ x'.length = x.length ∧ (∀ j : Nat, j < i → (rd_L1 x' (j : Int)) = (rd_L1 xs (j : Int))) := by
  intro d
  induction d with
  | zero =>
    intro i hd hi xs m hlen hrd h0 h1
    refine ⟨m, xs, Ev.step (f := fun _ => some (m, xs)) (fun k => ?_) (Ev.now _), by omega, by omega, hlen, fun _ _ => rfl⟩
    · simp (disch := omega) only [laws_markInt64SS.l0, ↓if_neg]
  | succ d ih =>
    intro i hd hi xs m hlen hrd h0 h1
    have hil : i < x.length := by omega
    have hr := hrd i (Nat.le_refl _) hil
    have hb := hx i hil
    rw [← hr] at hb
    have hb0 := hb
    obtain ⟨m0_, z0, ⟨K0, e0⟩, o0, u0⟩ := mark_Int64S (rd_L1 xs (i : Int)) hb0 (m) (by omega) (by omega)
    obtain ⟨m2, x', ⟨Kn, en⟩, p1, p2, p3, p4⟩ := ih (i + 1) (by omega) (by omega) (xs.set i (z0 : List Int)) (m0_) (by rw [List.length_set]; exact hlen) (fun j hj hjl => by
      rw [← hrd j (by omega) hjl]
      unfold rd_L1
      rw [List.getD_eq_getElem?_getD, List.getD_eq_getElem?_getD, Int.toNat_natCast, List.getElem?_set_ne (by omega)]) (by omega) (by omega)
    have hri : rd_L1 x' (i : Int) = (z0 : List Int) := by
      rw [p4 i (by omega)]
      unfold rd_L1
      rw [List.getD_eq_getElem?_getD, Int.toNat_natCast, List.getElem?_set_self (by omega)]
      rfl
    refine ⟨m2, x', ⟨K0 + Kn + 1, fun k hk => ?_⟩, by omega, by omega, p3, fun j hj => ?_⟩
    · obtain ⟨mm, rfl⟩ : ∃ mm, k = mm + 1 := ⟨k - 1, by omega⟩
      have e0 := e0 mm (by omega)
      have en := en mm (by omega)
      dsimp only at e0 en ⊢
      simp (disch := omega) only [laws_markInt64SS.l0, ↓if_pos, e0, Option.bind_some, Int.toNat_natCast, wrap_next]
      exact en
    · rw [p4 j (by omega)]
      unfold rd_L1
      rw [List.getD_eq_getElem?_getD, List.getD_eq_getElem?_getD, Int.toNat_natCast, List.getElem?_set_ne (by omega)]
theorem mark_Int64SS (x : List (List Int)) (h : ((x.length : Int) ≤ 1048576 ∧ ∀ y ∈ x, ((y.length : Int) ≤ 1048576))) (m : Int) (h0 : 0 ≤ m) (h1 : m ≤ 4611684918915760128) : ∃ (m' : Int) (x' : List (List Int)), Ev (fun k => laws_markInt64SS.f k x m) (m', x') ∧ m ≤ m' ∧ m' ≤ m + 1099511627776 := by
  obtain ⟨m', x', ev, p1, p2, _, _⟩ := mark_Int64SS_loop x (by omega) (fun j hj => h.2 _ (rdM_L1 x j hj)) x.length 0 (by omega) (by omega) x m rfl (fun _ _ _ => rfl) h0 (by omega)
  exact ⟨m', x', ev, p1, by omega⟩

/-! mark_Cnf -/
theorem mark_Cnf (x : S37) (h : UpI_Cnf 1048576 x) (m : Int) (h0 : 0 ≤ m) (h1 : m ≤ 4611684918915760127) : ∃ (m' : Int) (z0 : List (List Int)), Ev (fun k => laws_markCnf.f k x.f0 x.f1 m) (m', z0) ∧ m ≤ m' ∧ m' ≤ m + 1099511627777 := by
  unfold UpI_Cnf at h
  have i1 := h
  obtain ⟨m1, z0, ⟨K1, e1⟩, l1, u1⟩ := mark_Int64SS x.f1 i1 m (by omega) (by omega)
  refine ⟨m1, z0, ⟨K1, fun k hk => ?_⟩, by omega, by omega⟩
  · have e1 := e1 k (by omega); dsimp only at e1 ⊢; unfold laws_markCnf.f; rw [e1]; simp only [Option.bind_some]

/-! WfI_Cnf -/
def WfI_Cnf (x : S37) : Prop := (-9223372036854775808 ≤ x.f0 ∧ x.f0 ≤ 9223372036854775807) ∧ (∀ y ∈ x.f1, (∀ z ∈ y, (-9223372036854775808 ≤ z ∧ z ≤ 9223372036854775807)))

/-! wf_Cnf -/
theorem wf_Cnf (x : S32) (h : (Lit.int .i64 x.f0).wf = true ∧ (x.f1.length ≤ 9223372036854775807 ∧ ∀ y0 ∈ x.f1, (y0.length ≤ 9223372036854775807 ∧ ∀ y1 ∈ y0, (Lit.int .i64 y1).wf = true))) : WfI_Cnf (cv_Cnf x) := by
  obtain ⟨j0, j1⟩ := h
  exact ⟨(wf_i64 j0), (fun a1_ ha1_ => (fun a2_ ha2_ => (wf_i64 ((j1.2 a1_ ha1_).2 a2_ ha2_))))⟩

/-! implInside -/
theorem inside_eq (a b c : Int) : impl_inside.f a b c = some (decide (b ≤ a ∧ a ≤ c)) := by
  unfold impl_inside.f
  by_cases h1 : b ≤ a
  · rw [if_pos h1]; simp [h1]
  · rw [if_neg h1]; simp [h1]

/-! specIn -/
theorem l1In_eq (a b c : Int) : spec_l1In.f a b c = some (decide (b ≤ a ∧ a ≤ c)) := by
  unfold spec_l1In.f
  by_cases h1 : b ≤ a
  · rw [if_pos h1]; simp [h1]
  · rw [if_neg h1]; simp [h1]

/-! cnfOk -/
/-- A right clause. -/
def GoodClause (sw : Int) (p : List Int) : Prop := p.length ≤ 400 ∧ ∀ i : Nat, i < p.length → rd p (i : Int) ≠ 0 ∧ -sw ≤ rd p (i : Int) ∧ rd p (i : Int) ≤ sw
theorem abs_pos {n sw : Int} (h : sw ≤ 400) (h0 : n ≠ 0) (h1 : -sw ≤ n) (h2 : n ≤ sw) : ¬ mx n (wrap64 (-n)) ≤ 0 := by
  rw [wrap64_id (by omega) (by omega)]
  unfold mx
  split <;> omega
theorem clause_rows (sw : Int) (cl : List (List Int)) (v : Nat) (h0 : 0 ≤ sw) (h1 : sw ≤ 400) (hv : v < cl.length) (hcl : cl.length ≤ 4000) (hp : (rd_L1 cl (v : Int)).length ≤ 400) :
    ∀ d i, (rd_L1 cl (v : Int)).length - i = d → i ≤ (rd_L1 cl (v : Int)).length → ∀ bf : Int, (i = 0 → bf = 0) → (∀ j : Nat, j + 1 = i → bf = mx (rd (rd_L1 cl (v : Int)) (j : Int)) (wrap64 (-(rd (rd_L1 cl (v : Int)) (j : Int))))) →
      ((∀ j : Nat, i ≤ j → j < (rd_L1 cl (v : Int)).length → rd (rd_L1 cl (v : Int)) (j : Int) ≠ 0 ∧ -sw ≤ rd (rd_L1 cl (v : Int)) (j : Int) ∧ rd (rd_L1 cl (v : Int)) (j : Int) ≤ sw) ∧
        Ev (fun k => impl_clauseOk.l0 k sw bf (rd_L1 cl (v : Int)) ((rd_L1 cl (v : Int)).length : Int) (i : Int)) true ∧ (∀ z, Ev (fun k => spec_CnfOk.l0 k ((v : Int) + 1) sw cl) z → Ev (fun k => spec_CnfOk.l1 k (v : Int) (i : Int) sw cl) z)) ∨
      (Ev (fun k => impl_clauseOk.l0 k sw bf (rd_L1 cl (v : Int)) ((rd_L1 cl (v : Int)).length : Int) (i : Int)) false ∧ Ev (fun k => spec_CnfOk.l1 k (v : Int) (i : Int) sw cl) false) := by
  obtain ⟨p, hpe⟩ : ∃ p, p = rd_L1 cl (v : Int) := ⟨_, rfl⟩
  rw [← hpe] at hp ⊢
  have hw : True → wrap64 (-sw) = -sw := fun _ => wrap64_id (by omega) (by omega)
  intro d
  induction d with
  | zero =>
    intro i hd hi bf b0 b1
    left
    refine ⟨fun j g1 g2 => absurd g1 (by omega), Ev.step (f := fun _ => some true) (fun k => ?_) (Ev.now _), fun z hz => Ev.step (fun k => ?_) hz⟩
    · simp (disch := omega) only [impl_clauseOk.l0, ↓if_neg]
    · simp (disch := omega) only [spec_CnfOk.l1, ← hpe, ↓if_pos, ↓if_neg, wrap64_id]
  | succ d ih =>
    intro i hd hi bf b0 b1
    have hil : i < p.length := by omega
    obtain ⟨x, hx⟩ : ∃ x, x = rd p (i : Int) := ⟨_, rfl⟩
    by_cases c0 : x = 0
    · right
      refine ⟨Ev.step (f := fun _ => some false) (fun k => ?_) (Ev.now _), Ev.step (f := fun _ => some false) (fun k => ?_) (Ev.now _)⟩
      · simp (disch := omega) only [impl_clauseOk.l0, ← hx, ↓if_pos]
      · simp (disch := omega) only [spec_CnfOk.l1, ← hpe, ← hx, ↓if_pos]
    · by_cases cin : -sw ≤ x ∧ x ≤ sw
      · have din := decide_eq_true cin
        by_cases cb : mx x (wrap64 (-x)) ≤ bf
        · right
          have i0 : i ≠ 0 := fun h => abs_pos h1 c0 cin.1 cin.2 (by rw [b0 h] at cb; exact cb)
          obtain ⟨q, rfl⟩ : ∃ q, i = q + 1 := ⟨i - 1, by omega⟩
          have hq := b1 q rfl
          have e1 : True → wrap64 (((q + 1 : Nat) : Int) - 1) = (q : Int) := fun _ => by rw [wrap64_id (by omega) (by omega)]; omega
          refine ⟨Ev.step (f := fun _ => some false) (fun k => ?_) (Ev.now _), Ev.step (f := fun _ => some false) (fun k => ?_) (Ev.now _)⟩
          · simp (disch := first | omega | trivial) only [impl_clauseOk.l0, ← hx, ↓if_pos, ↓if_neg, inside_eq, hw, din, Option.bind_some, ↓reduceIte, if_pos cb]
          · simp (disch := first | omega | trivial) only [spec_CnfOk.l1, ← hpe, ← hx, ↓if_pos, ↓if_neg, l1In_eq, hw, din, Option.bind_some, ↓reduceIte, spec_l18Abs.f, e1, ← hq, if_pos cb]
        · have rest := ih (i + 1) (by omega) (by omega) (mx x (wrap64 (-x))) (fun h => absurd h (by omega)) (fun j hj => by
            obtain rfl : j = i := by omega
            rw [hx])
          have s1 : ∀ z, Ev (fun k => impl_clauseOk.l0 k sw (mx x (wrap64 (-x))) p (p.length : Int) ((i + 1 : Nat) : Int)) z → Ev (fun k => impl_clauseOk.l0 k sw bf p (p.length : Int) (i : Int)) z := fun z hz => Ev.step (fun k => by
            simp (disch := first | omega | trivial) only [impl_clauseOk.l0, ← hx, ↓if_pos, ↓if_neg, inside_eq, hw, din, Option.bind_some, ↓reduceIte, if_neg cb, wrap_next]) hz
          have s2 : ∀ z, Ev (fun k => spec_CnfOk.l1 k (v : Int) ((i + 1 : Nat) : Int) sw cl) z → Ev (fun k => spec_CnfOk.l1 k (v : Int) (i : Int) sw cl) z := fun z hz => by
            by_cases i0 : i = 0
            · exact Ev.step (fun k => by
                simp (disch := first | omega | trivial) only [spec_CnfOk.l1, ← hpe, ← hx, ↓if_pos, ↓if_neg, l1In_eq, hw, din, Option.bind_some, ↓reduceIte, wrap_next]) hz
            · obtain ⟨q, rfl⟩ : ∃ q, i = q + 1 := ⟨i - 1, by omega⟩
              have hq := b1 q rfl
              have e1 : True → wrap64 (((q + 1 : Nat) : Int) - 1) = (q : Int) := fun _ => by rw [wrap64_id (by omega) (by omega)]; omega
              exact Ev.step (fun k => by
                simp (disch := first | omega | trivial) only [spec_CnfOk.l1, ← hpe, ← hx, ↓if_pos, ↓if_neg, l1In_eq, hw, din, Option.bind_some, ↓reduceIte, spec_l18Abs.f, e1, ← hq, if_neg cb, wrap_next]) hz
          rcases rest with ⟨a1, a2, a3⟩ | ⟨a1, a2⟩
          · left
            refine ⟨fun j g1 g2 => ?_, s1 _ a2, fun z hz => s2 z (a3 z hz)⟩
            by_cases e : j = i
            · subst e
              rw [← hx]
              exact ⟨c0, cin.1, cin.2⟩
            · exact a1 j (by omega) g2
          · exact .inr ⟨s1 _ a1, s2 _ a2⟩
      · have din := decide_eq_false cin
        right
        refine ⟨Ev.step (f := fun _ => some false) (fun k => ?_) (Ev.now _), Ev.step (f := fun _ => some false) (fun k => ?_) (Ev.now _)⟩
        · simp (disch := first | omega | trivial) only [impl_clauseOk.l0, ← hx, ↓if_pos, ↓if_neg, inside_eq, hw, din, Option.bind_some, ↓reduceIte, Bool.false_eq_true]
        · simp (disch := first | omega | trivial) only [spec_CnfOk.l1, ← hpe, ← hx, ↓if_pos, ↓if_neg, l1In_eq, hw, din, Option.bind_some, ↓reduceIte, Bool.false_eq_true]
theorem cnf_loops (sw : Int) (cl : List (List Int)) (h0 : 0 ≤ sw) (h1 : sw ≤ 400) (hcl : cl.length ≤ 4000) :
    ∀ d v, cl.length - v = d → v ≤ cl.length →
      (Ev (fun k => spec_CnfOk.l0 k (v : Int) sw cl) true ∧ Ev (fun k => idxG (impl_CnfOk.p k sw) (cl.drop v) (v : Int)) (-1) ∧ ∀ p ∈ cl.drop v, GoodClause sw p) ∨
      (Ev (fun k => spec_CnfOk.l0 k (v : Int) sw cl) false ∧ ∃ r : Int, 0 ≤ r ∧ Ev (fun k => idxG (impl_CnfOk.p k sw) (cl.drop v) (v : Int)) r) := by
  intro d
  induction d with
  | zero =>
    intro v hd hv
    left
    have e : cl.drop v = [] := List.drop_eq_nil_of_le (by omega)
    rw [e]
    refine ⟨Ev.step (f := fun _ => some true) (fun k => ?_) (Ev.now _), ⟨0, fun k _ => rfl⟩, fun p hp => by cases hp⟩
    simp (disch := omega) only [spec_CnfOk.l0, ↓if_neg]
  | succ d ih =>
    intro v hd hv
    have hvl : v < cl.length := by omega
    obtain ⟨p, hpe⟩ : ∃ p, p = rd_L1 cl (v : Int) := ⟨_, rfl⟩
    have hdrop : cl.drop v = p :: cl.drop (v + 1) := by rw [List.drop_eq_getElem_cons hvl, hpe, rdE_L1 cl v hvl]
    rw [hdrop]
    have bad : Ev (fun k => impl_clauseOk.f k p sw) false → ∃ r : Int, 0 ≤ r ∧ Ev (fun k => idxG (impl_CnfOk.p k sw) (p :: cl.drop (v + 1)) (v : Int)) r := fun h => by
      obtain ⟨K, h⟩ := h
      refine ⟨(v : Int), by omega, K, fun k hk => ?_⟩
      have h := h k hk
      dsimp only at h ⊢
      simp only [idxG, impl_CnfOk.p, h, Option.bind_some, Bool.not_false, ↓reduceIte]
    by_cases c4 : (p.length : Int) > 400
    · right
      refine ⟨Ev.step (f := fun _ => some false) (fun k => ?_) (Ev.now _), bad ⟨0, fun k _ => ?_⟩⟩
      · simp (disch := omega) only [spec_CnfOk.l0, ← hpe, ↓if_pos]
      · simp (disch := omega) only [impl_clauseOk.f, ↓if_pos]
    · have hrow := clause_rows sw cl v h0 h1 hvl hcl (by rw [← hpe]; omega) _ 0 rfl (by omega) 0 (fun _ => rfl) (fun j hj => absurd hj (by omega))
      rw [← hpe] at hrow
      have hf : ∀ z, Ev (fun k => impl_clauseOk.l0 k sw 0 p (p.length : Int) ((0 : Nat) : Int)) z → Ev (fun k => impl_clauseOk.f k p sw) z := fun z hz => Ev.congr (fun k => by simp (disch := omega) only [impl_clauseOk.f, ↓if_neg]; rfl) hz
      have hs : ∀ z, Ev (fun k => spec_CnfOk.l1 k (v : Int) ((0 : Nat) : Int) sw cl) z → Ev (fun k => spec_CnfOk.l0 k (v : Int) sw cl) z := fun z hz => Ev.step (fun k => by simp (disch := omega) only [spec_CnfOk.l0, ← hpe, ↓if_pos, ↓if_neg]; rfl) hz
      rcases hrow with ⟨a1, a2, a3⟩ | ⟨a1, a2⟩
      · have hgo : ∀ r, Ev (fun k => idxG (impl_CnfOk.p k sw) (cl.drop (v + 1)) ((v + 1 : Nat) : Int)) r → Ev (fun k => idxG (impl_CnfOk.p k sw) (p :: cl.drop (v + 1)) (v : Int)) r := fun r hr => by
          obtain ⟨K, h⟩ := hf _ a2
          obtain ⟨K2, h2⟩ := hr
          refine ⟨K + K2, fun k hk => ?_⟩
          have h := h k (by omega)
          have h2 := h2 k (by omega)
          dsimp only at h h2 ⊢
          simp only [idxG, impl_CnfOk.p, h, Option.bind_some, Bool.not_true, Bool.false_eq_true, ↓reduceIte]
          exact h2
        rcases ih (v + 1) (by omega) (by omega) with ⟨b1, b2, b3⟩ | ⟨b1, r, b2, b3⟩
        · left
          refine ⟨hs _ (a3 _ (by simpa using b1)), hgo _ b2, fun q hq => ?_⟩
          rcases List.mem_cons.1 hq with rfl | hq
          · exact ⟨by omega, fun i hi => a1 i (by omega) hi⟩
          · exact b3 q hq
        · exact .inr ⟨hs _ (a3 _ (by simpa using b1)), r, b2, hgo _ b3⟩
      · exact .inr ⟨hs _ a2, bad (hf _ a1)⟩
theorem cnf_core (sw : Int) (cl : List (List Int)) : ∃ b, Ev (fun k => spec_CnfOk.f k sw cl) b ∧ Ev (fun k => impl_CnfOk.f k sw cl) b ∧ (b = true → 0 ≤ sw ∧ sw ≤ 400 ∧ cl.length ≤ 4000 ∧ ∀ p ∈ cl, GoodClause sw p) := by
  have no : ∀ (P : Prop), ((false : Bool) = true → P) := fun P h => by cases h
  by_cases cs : 0 ≤ sw ∧ sw ≤ 400
  · have ds := decide_eq_true cs
    by_cases c4 : (cl.length : Int) > 4000
    · have d4 := decide_eq_true c4
      refine ⟨false, ⟨1, fun k hk => ?_⟩, ⟨0, fun k hk => ?_⟩, no _⟩
      · obtain ⟨m, rfl⟩ : ∃ m, k = m + 1 := ⟨k - 1, by omega⟩
        simp (disch := omega) only [spec_CnfOk.f, l1In_eq, ds, Option.bind_some, ↓reduceIte, d4, spec_CnfOk.j0]
      · simp (disch := omega) only [impl_CnfOk.f, inside_eq, ds, Option.bind_some, ↓reduceIte, ↓if_pos]
    · have d4 := decide_eq_false c4
      have s1 : ∀ z, Ev (fun k => spec_CnfOk.l0 k ((0 : Nat) : Int) sw cl) z → Ev (fun k => spec_CnfOk.f k sw cl) z := by
        rintro z ⟨K, h⟩
        refine ⟨K + 1, fun k hk => ?_⟩
        obtain ⟨m, rfl⟩ : ∃ m, k = m + 1 := ⟨k - 1, by omega⟩
        have h := h m (by omega)
        simp (disch := omega) only [spec_CnfOk.f, l1In_eq, ds, Option.bind_some, ↓reduceIte, d4, spec_CnfOk.j0, Bool.false_eq_true]
        exact h
      have s2 : ∀ r : Int, Ev (fun k => idxG (impl_CnfOk.p k sw) cl ((0 : Nat) : Int)) r → Ev (fun k => impl_CnfOk.f k sw cl) (!decide (0 ≤ r)) := by
        rintro r ⟨K, h⟩
        refine ⟨K, fun k hk => ?_⟩
        have h : idxG (impl_CnfOk.p k sw) cl 0 = some r := h k (by omega)
        simp (disch := omega) only [impl_CnfOk.f, inside_eq, ds, Option.bind_some, ↓reduceIte, ↓if_neg, h]
      rcases cnf_loops sw cl cs.1 cs.2 (by omega) cl.length 0 (by omega) (by omega) with ⟨b1, b2, b3⟩ | ⟨b1, r, b2, b3⟩
      · rw [List.drop_zero] at b2 b3
        exact ⟨true, s1 _ b1, s2 _ b2, fun _ => ⟨cs.1, cs.2, by omega, b3⟩⟩
      · rw [List.drop_zero] at b3
        refine ⟨false, s1 _ b1, ?_, no _⟩
        have := s2 _ b3
        rwa [decide_eq_true b2] at this
  · have ds := decide_eq_false cs
    refine ⟨false, ⟨1, fun k hk => ?_⟩, ⟨0, fun k hk => ?_⟩, no _⟩
    · obtain ⟨m, rfl⟩ : ∃ m, k = m + 1 := ⟨k - 1, by omega⟩
      simp (disch := omega) only [spec_CnfOk.f, l1In_eq, ds, Option.bind_some, ↓reduceIte, Bool.false_eq_true, spec_CnfOk.j0]
    · simp (disch := omega) only [impl_CnfOk.f, inside_eq, ds, Option.bind_some, ↓reduceIte, Bool.false_eq_true]
theorem cnfOk_agree (sw : Int) (cl : List (List Int)) (U0 : UpI_Cnf 1048576 ⟨sw, cl⟩) (W0 : WfI_Cnf ⟨sw, cl⟩) : ∃ b, Ev (fun k => spec_CnfOk.f k sw cl) b ∧ Ev (fun k => impl_CnfOk.f k sw cl) b := by
  obtain ⟨b, h1, h2, _⟩ := cnf_core sw cl
  exact ⟨b, h1, h2⟩

/-! unit -/
theorem lit_wf (n : Int) (h0 : -1000000 ≤ n) (h1 : n ≤ 1000000) : (Lit.int .i64 n).wf = true := by
  have e1 : IntKind.i64.min = -9223372036854775808 := by decide
  have e2 : IntKind.i64.max = 9223372036854775807 := by decide
  simp only [Lit.wf, e1, e2, Bool.and_eq_true, decide_eq_true_eq]
  omega
theorem abs_eq (n : Int) (h0 : -1000000 ≤ n) (h1 : n ≤ 1000000) : mx n (wrap64 (-n)) = (n.natAbs : Int) := by
  rw [wrap64_id (by omega) (by omega)]
  unfold mx
  split <;> omega
theorem rd_set (l : List Int) (a b : Nat) (v : Int) (h : a < l.length) : rd (l.set a v) (b : Int) = if a = b then v else rd l (b : Int) := by
  unfold rd
  rw [List.getD_eq_getElem?_getD, List.getD_eq_getElem?_getD, Int.toNat_natCast, List.getElem?_set]
  by_cases e : a = b
  · subst e
    rw [if_pos rfl, if_pos rfl, if_pos h]
    rfl
  · rw [if_neg e, if_neg e]
theorem rd_get (l : List Int) (a : Nat) (h : a < l.length) : rd l (a : Int) = l[a] := by
  have := getElem?_rd h
  rw [List.getElem?_eq_getElem h] at this
  exact (Option.some.inj this).symm
/-- A number of n's place stands as n, the other way round, or not. -/
def sat (I : List Int) (n : Int) : Bool := decide (rd I (n.natAbs : Int) = n)
def neg (I : List Int) (n : Int) : Bool := decide (rd I (n.natAbs : Int) = -n)
def fre (I : List Int) (n : Int) : Bool := decide (rd I (n.natAbs : Int) = 0)
def IOk (sw : Int) (I : List Int) : Prop := (I.length : Int) = sw + 1 ∧ ∀ a : Nat, a < I.length → rd I (a : Int) = 0 ∨ rd I (a : Int) = a ∨ rd I (a : Int) = -a
def GoodN (sw n : Int) : Prop := n ≠ 0 ∧ -sw ≤ n ∧ n ≤ sw
def GoodCl (sw : Int) (cl : List (List Int)) : Prop := cl.length ≤ 4000 ∧ ∀ p ∈ cl, p.length ≤ 400 ∧ ∀ n ∈ p, GoodN sw n
theorem IOk.set {sw : Int} {I : List Int} (h : IOk sw I) (v : Int) (hv : GoodN sw v) : IOk sw (I.set v.natAbs v) := by
  obtain ⟨h1, h2⟩ := h
  obtain ⟨v0, v1, v2⟩ := hv
  have hl : v.natAbs < I.length := by omega
  refine ⟨by rw [List.length_set]; exact h1, fun a ha => ?_⟩
  rw [List.length_set] at ha
  rw [rd_set _ _ _ _ hl]
  split
  · omega
  · exact h2 a ha
theorem sat_set {sw : Int} {I : List Int} (h : IOk sw I) (v : Int) (hv : GoodN sw v) (h0 : rd I (v.natAbs : Int) = 0) : ∀ (p : List Int), (∀ n ∈ p, GoodN sw n) →
    p.countP (sat (I.set v.natAbs v)) = p.countP (sat I) + p.count v ∧ p.countP (neg (I.set v.natAbs v)) = p.countP (neg I) + p.count (-v) := by
  obtain ⟨h1, h2⟩ := h
  obtain ⟨v0, v1, v2⟩ := hv
  have hl : v.natAbs < I.length := by omega
  intro p
  induction p with
  | nil => intro _; exact ⟨rfl, rfl⟩
  | cons n p ih =>
    intro hp
    obtain ⟨a1, a2⟩ := ih (fun x hx => hp x (List.mem_cons_of_mem _ hx))
    obtain ⟨n0, n1, n2⟩ := hp n (List.mem_cons_self)
    rw [List.countP_cons, List.countP_cons, List.countP_cons, List.countP_cons, List.count_cons, List.count_cons, a1, a2]
    simp only [sat, neg, beq_iff_eq, decide_eq_true_eq]
    rw [rd_set _ _ _ _ hl]
    by_cases e : v.natAbs = n.natAbs
    · rw [if_pos e, ← e, h0]
      constructor <;> (repeat' split) <;> omega
    · rw [if_neg e, if_neg (show ¬ n = v by omega), if_neg (show ¬ n = -v by omega)]
      omega
/-- The seats that are named are counted. -/
theorem inc_ok (d : Int) (hd : d = 1 ∨ d = -1) : ∀ (l G : List Int), (∀ x ∈ l, 0 ≤ x ∧ x < (G.length : Int)) → (∀ i : Nat, i < G.length → -100000000 ≤ rd G (i : Int) - l.count (i : Int) ∧ rd G (i : Int) + l.count (i : Int) ≤ 100000000) →
    ∃ G', impl_trail.inc d G l = some G' ∧ G'.length = G.length ∧ ∀ i : Nat, i < G.length → rd G' (i : Int) = rd G (i : Int) + d * l.count (i : Int) := by
  intro l
  induction l with
  | nil => intro G _ _; exact ⟨G, rfl, rfl, fun i hi => by simp⟩
  | cons x xs ih =>
    intro G hx hb
    obtain ⟨x0, x1⟩ := hx x (List.mem_cons_self)
    obtain ⟨a, rfl⟩ : ∃ a : Nat, x = a := ⟨x.toNat, by omega⟩
    have ha : a < G.length := by omega
    have hba := hb a ha
    rw [List.count_cons_self] at hba
    have hw : wrap64 (rd G (a : Int) + d) = rd G (a : Int) + d := wrap64_id (by omega) (by omega)
    obtain ⟨G', e1, e2, e3⟩ := ih (G.set a (rd G (a : Int) + d)) (fun y hy => by rw [List.length_set]; exact hx y (List.mem_cons_of_mem _ hy)) (fun i hi => by
      rw [List.length_set] at hi
      have := hb i hi
      rw [List.count_cons] at this
      rw [rd_set _ _ _ _ ha]
      by_cases e : a = i
      · subst e
        rw [if_pos rfl]
        simp only [beq_self_eq_true, ↓reduceIte] at this
        omega
      · rw [if_neg e]
        rw [if_neg (by simp; omega)] at this
        omega)
    rw [List.length_set] at e2 e3
    refine ⟨G', ?_, e2, fun i hi => ?_⟩
    · unfold impl_trail.inc
      rw [if_pos x0, if_pos x1, hw, Int.toNat_natCast]
      exact e1
    · rw [e3 i hi, rd_set _ _ _ _ ha, List.count_cons]
      by_cases e : a = i
      · subst e
        rw [if_pos rfl]
        simp only [beq_self_eq_true, ↓reduceIte]
        rcases hd with rfl | rfl <;> omega
      · rw [if_neg e, if_neg (by simp; omega)]
        rcases hd with rfl | rfl <;> omega
/-- How often the clauses ahead of (i, j) name a number, told by the clause. -/
def occ (cl : List (List Int)) (i j : Nat) (n : Int) (q : Nat) : Nat := if q < i then (rd_L1 cl (q : Int)).count n else if q = i then ((rd_L1 cl (i : Int)).take j).count n else 0
def HOk (cl : List (List Int)) (i j : Nat) (H : Int → List Int) : Prop := ∀ n, (∀ x ∈ H n, 0 ≤ x ∧ x < (cl.length : Int)) ∧ ∀ q : Nat, (H n).count (q : Int) = occ cl i j n q
theorem occ_end (cl : List (List Int)) (i : Nat) (n : Int) (q : Nat) : occ cl i (rd_L1 cl (i : Int)).length n q = occ cl (i + 1) 0 n q := by
  unfold occ
  by_cases e1 : q < i
  · rw [if_pos e1, if_pos (by omega)]
  · by_cases e2 : q = i
    · subst e2
      rw [if_neg (by omega), if_pos rfl, if_pos (by omega), List.take_length]
    · rw [if_neg e1, if_neg e2, if_neg (by omega)]
      split
      · simp
      · rfl
theorem occ_step (cl : List (List Int)) (i j : Nat) (hj : j < (rd_L1 cl (i : Int)).length) (n : Int) (q : Nat) : occ cl i (j + 1) n q = occ cl i j n q + if q = i ∧ rd (rd_L1 cl (i : Int)) (j : Int) = n then 1 else 0 := by
  unfold occ
  by_cases e1 : q < i
  · rw [if_pos e1, if_pos e1, if_neg (by omega)]
    rfl
  · rw [if_neg e1, if_neg e1]
    by_cases e2 : q = i
    · subst e2
      rw [if_pos rfl, if_pos rfl, List.take_succ_eq_append_getElem hj, List.count_append, ← rd_get _ _ hj]
      congr 1
      by_cases e3 : rd (rd_L1 cl (q : Int)) (j : Int) = n
      · rw [if_pos ⟨rfl, e3⟩, e3]; simp
      · rw [if_neg (fun h => e3 h.2)]
        simp [List.count_cons, e3]
    · rw [if_neg e2, if_neg e2, if_neg (fun h => e2 h.1)]
theorem trail_row {sw : Int} (hs : 0 ≤ sw ∧ sw ≤ 400) (cl : List (List Int)) (hg : GoodCl sw cl) (i : Nat) (hi : i < cl.length)
    (next : ∀ H m, HOk cl (i + 1) 0 H → (∀ n, (H n).length ≤ m) → m ≤ 400 * (i + 1) → ∃ R, Ev (fun k => impl_newTrail.l0 k cl ((i + 1 : Nat) : Int) H m) R ∧ HOk cl cl.length 0 R) :
    ∀ d j, (rd_L1 cl (i : Int)).length - j = d → j ≤ (rd_L1 cl (i : Int)).length → ∀ H m, HOk cl i j H → (∀ n, (H n).length ≤ m) → m ≤ 400 * i + j →
      ∃ R, Ev (fun k => impl_newTrail.l1 k cl (i : Int) (rd_L1 cl (i : Int)) (j : Int) H m) R ∧ HOk cl cl.length 0 R := by
  have hmem : rd_L1 cl (i : Int) ∈ cl := by rw [rdE_L1 cl i hi]; exact List.getElem_mem hi
  obtain ⟨hlen, hn⟩ := hg.2 _ hmem
  have hcl := hg.1
  intro d
  induction d with
  | zero =>
    intro j hd hj H m h1 h2 h3
    obtain rfl : j = (rd_L1 cl (i : Int)).length := by omega
    obtain ⟨R, e1, e2⟩ := next H m (fun n => ⟨(h1 n).1, fun q => by rw [(h1 n).2 q, occ_end]⟩) h2 (by omega)
    refine ⟨R, Ev.step (fun k => ?_) e1, e2⟩
    rw [impl_newTrail.l1, if_neg (by omega), wrap_next i (by omega)]
  | succ d ih =>
    intro j hd hj H m h1 h2 h3
    have hjl : j < (rd_L1 cl (i : Int)).length := by omega
    have gx := hn _ (show rd (rd_L1 cl (i : Int)) (j : Int) ∈ rd_L1 cl (i : Int) by rw [rd_get _ _ hjl]; exact List.getElem_mem hjl)
    obtain ⟨x, hx⟩ : ∃ x, x = rd (rd_L1 cl (i : Int)) (j : Int) := ⟨_, rfl⟩
    rw [← hx] at gx
    have hwf := lit_wf x (by have := gx.2.1; omega) (by have := gx.2.2; omega)
    obtain ⟨R, e1, e2⟩ := ih (j + 1) (by omega) (by omega) (fun q => if q = x then H q ++ [(i : Int)] else H q) (m + 1) (fun n => by
      obtain ⟨g1, g2⟩ := h1 n
      dsimp only
      by_cases e : n = x
      · rw [if_pos e]
        refine ⟨fun y hy => ?_, fun q => ?_⟩
        · rcases List.mem_append.1 hy with hy | hy
          · exact g1 y hy
          · rw [List.mem_singleton] at hy
            subst hy
            omega
        · rw [List.count_append, g2 q, occ_step cl i j hjl, ← hx]
          congr 1
          by_cases eq : q = i
          · subst eq
            rw [if_pos ⟨rfl, e.symm⟩]
            simp
          · rw [if_neg (fun h => eq h.1)]
            simp [List.count_cons]
            omega
      · rw [if_neg e]
        exact ⟨g1, fun q => by rw [g2 q, occ_step cl i j hjl, ← hx, if_neg (fun h => e h.2.symm)]; rfl⟩) (fun n => by
      have := h2 n
      split
      · rw [List.length_append]
        simp
        omega
      · omega) (by omega)
    refine ⟨R, Ev.step (fun k => ?_) e1, e2⟩
    have := h2 x
    rw [impl_newTrail.l1, if_pos (by omega), if_pos (by omega), ← hx, if_pos hwf, if_pos (by omega), if_pos (by omega), wrap_next j (by omega)]
theorem trail_ok {sw : Int} (hs : 0 ≤ sw ∧ sw ≤ 400) (cl : List (List Int)) (hg : GoodCl sw cl) : ∃ H, Ev (fun k => impl_newTrail.f k sw cl) H ∧ HOk cl cl.length 0 H := by
  have hcl := hg.1
  have main : ∀ d i, cl.length - i = d → i ≤ cl.length → ∀ H m, HOk cl i 0 H → (∀ n, (H n).length ≤ m) → m ≤ 400 * i → ∃ R, Ev (fun k => impl_newTrail.l0 k cl (i : Int) H m) R ∧ HOk cl cl.length 0 R := by
    intro d
    induction d with
    | zero =>
      intro i hd hi H m h1 h2 h3
      obtain rfl : i = cl.length := by omega
      refine ⟨H, Ev.step (f := fun _ => some H) (fun k => ?_) (Ev.now _), h1⟩
      rw [impl_newTrail.l0, if_neg (by omega)]
    | succ d ih =>
      intro i hd hi H m h1 h2 h3
      obtain ⟨R, e1, e2⟩ := trail_row hs cl hg i (by omega) (fun H m a1 a2 a3 => ih (i + 1) (by omega) (by omega) H m a1 a2 a3) _ 0 rfl (by omega) H m h1 h2 (by omega)
      refine ⟨R, Ev.step (fun k => ?_) e1, e2⟩
      rw [impl_newTrail.l0, if_pos (by omega), if_pos (by omega)]
      rfl
  obtain ⟨R, e1, e2⟩ := main _ 0 rfl (by omega) (fun _ => []) 0 (fun n => ⟨fun x hx => (by cases hx), fun q => by unfold occ; simp⟩) (fun _ => by simp) (by omega)
  refine ⟨R, Ev.congr (fun k => ?_) e1, e2⟩
  unfold impl_newTrail.f
  rw [if_pos (by omega), if_pos (by omega)]
  rfl
/-- What a number's row counts, when the trail is made. -/
theorem HOk.count {cl : List (List Int)} {H : Int → List Int} (h : HOk cl cl.length 0 H) (n : Int) (q : Nat) (hq : q < cl.length) : (H n).count (q : Int) = (rd_L1 cl (q : Int)).count n := by
  rw [(h n).2 q, occ, if_pos hq]
def GB (cl : List (List Int)) (I G B : List Int) : Prop := G.length = cl.length ∧ B.length = cl.length ∧ ∀ q : Nat, q < cl.length → rd G (q : Int) = ((rd_L1 cl (q : Int)).countP (sat I) : Nat) ∧ rd B (q : Int) = ((rd_L1 cl (q : Int)).countP (neg I) : Nat)
theorem GoodCl.row {sw : Int} {cl : List (List Int)} (hg : GoodCl sw cl) (q : Nat) (hq : q < cl.length) : (rd_L1 cl (q : Int)).length ≤ 400 ∧ ∀ n ∈ rd_L1 cl (q : Int), GoodN sw n := hg.2 _ (by rw [rdE_L1 cl q hq]; exact List.getElem_mem hq)
theorem inc_row (d : Int) (hd : d = 1 ∨ d = -1) {sw : Int} {cl : List (List Int)} {H : Int → List Int} (hg : GoodCl sw cl) (hH : HOk cl cl.length 0 H) (G : List Int) (hl : G.length = cl.length) (hb : ∀ q : Nat, q < cl.length → 0 ≤ rd G (q : Int) ∧ rd G (q : Int) ≤ 400) (v : Int) :
    ∃ G', impl_trail.inc d G (H v) = some G' ∧ G'.length = cl.length ∧ ∀ q : Nat, q < cl.length → rd G' (q : Int) = rd G (q : Int) + d * (rd_L1 cl (q : Int)).count v := by
  obtain ⟨G', e1, e2, e3⟩ := inc_ok d hd (H v) G (by rw [hl]; exact (hH v).1) (fun i hi => by
    rw [hl] at hi
    have := hb i hi
    have hc := hH.count v i hi
    have := List.count_le_length (a := v) (l := rd_L1 cl (i : Int))
    have := (hg.row i hi).1
    omega)
  exact ⟨G', e1, e2.trans hl, fun q hq => by rw [e3 q (by omega), hH.count v q hq]⟩
theorem stand_ok {sw : Int} (hs : 0 ≤ sw ∧ sw ≤ 400) {cl : List (List Int)} {H : Int → List Int} (hg : GoodCl sw cl) (hH : HOk cl cl.length 0 H) {I G B S : List Int} (hI : IOk sw I) (hgb : GB cl I G B) (hS : S.length < 1000000) (v : Int) (hv : GoodN sw v) (h0 : rd I (v.natAbs : Int) = 0) :
    ∃ G' B', impl_trail_stand.f H G B S I v = some (G', B', S ++ [v], I.set v.natAbs v) ∧ GB cl (I.set v.natAbs v) G' B' := by
  obtain ⟨v0, v1, v2⟩ := hv
  obtain ⟨g1, g2, g3⟩ := hgb
  have bG : ∀ q : Nat, q < cl.length → 0 ≤ rd G (q : Int) ∧ rd G (q : Int) ≤ 400 := fun q hq => by
    have := List.countP_le_length (p := sat I) (l := rd_L1 cl (q : Int))
    have := (hg.row q hq).1
    have := (g3 q hq).1
    omega
  have bB : ∀ q : Nat, q < cl.length → 0 ≤ rd B (q : Int) ∧ rd B (q : Int) ≤ 400 := fun q hq => by
    have := List.countP_le_length (p := neg I) (l := rd_L1 cl (q : Int))
    have := (hg.row q hq).1
    have := (g3 q hq).2
    omega
  obtain ⟨G', a1, a2, a3⟩ := inc_row 1 (.inl rfl) hg hH G g1 bG v
  obtain ⟨B', b1, b2, b3⟩ := inc_row 1 (.inl rfl) hg hH B g2 bB (-v)
  refine ⟨G', B', ?_, a2, b2, fun q hq => ?_⟩
  · unfold impl_trail_stand.f
    have hIl := hI.1
    rw [abs_eq v (by omega) (by omega), wrap64_id (x := -v) (by omega) (by omega), if_pos (by omega), if_pos (by omega), if_pos (by omega), if_pos ⟨lit_wf v (by omega) (by omega), lit_wf (-v) (by omega) (by omega)⟩, a1, Option.bind_some, b1, Option.bind_some, Int.toNat_natCast]
  · obtain ⟨c1, c2⟩ := sat_set hI v ⟨v0, v1, v2⟩ h0 _ (hg.row q hq).2
    have := g3 q hq
    rw [a3 q hq, b3 q hq, c1, c2, this.1, this.2]
    constructor <;> omega
/-- The clause's numbers: each stands, stands the other way round, or does not stand. -/
theorem parts {sw : Int} {I : List Int} (hI : IOk sw I) : ∀ p : List Int, (∀ n ∈ p, GoodN sw n) → p.countP (sat I) + p.countP (neg I) + p.countP (fre I) = p.length := by
  intro p
  induction p with
  | nil => intro _; rfl
  | cons n p ih =>
    intro hp
    have h1 := ih (fun x hx => hp x (List.mem_cons_of_mem _ hx))
    obtain ⟨n0, n1, n2⟩ := hp n (List.mem_cons_self)
    have h2 := hI.2 n.natAbs (by have := hI.1; omega)
    rw [List.countP_cons, List.countP_cons, List.countP_cons, List.length_cons]
    simp only [sat, neg, fre, decide_eq_true_eq]
    split <;> split <;> split <;> omega
def stRes (I : List Int) : List Int → Int → Nat → Int × Int
  | [], left, kn => if kn = 0 then (2, 0) else if kn = 1 then (1, left) else (0, 0)
  | n :: r, left, kn => if sat I n = true then (0, 0) else if fre I n = true then stRes I r n (kn + 1) else stRes I r left kn
def lastF (I : List Int) : List Int → Int → Int
  | [], l => l
  | n :: r, l => if fre I n = true then lastF I r n else lastF I r l
theorem stRes_sat (I : List Int) : ∀ p left kn, 0 < p.countP (sat I) → stRes I p left kn = (0, 0) := by
  intro p
  induction p with
  | nil => intro _ _ h; cases h
  | cons n p ih =>
    intro left kn h
    rw [stRes]
    by_cases e : sat I n = true
    · rw [if_pos e]
    · rw [if_neg e]
      rw [List.countP_cons, if_neg e] at h
      split <;> exact ih _ _ h
theorem stRes_no (I : List Int) : ∀ p left kn, p.countP (sat I) = 0 → stRes I p left kn = if kn + p.countP (fre I) = 0 then (2, 0) else if kn + p.countP (fre I) = 1 then (1, lastF I p left) else (0, 0) := by
  intro p
  induction p with
  | nil => intro left kn _; rfl
  | cons n p ih =>
    intro left kn h
    have e : ¬ sat I n = true := fun e => by rw [List.countP_cons, if_pos e] at h; omega
    rw [List.countP_cons, if_neg e] at h
    rw [stRes, if_neg e, lastF, List.countP_cons]
    by_cases f : fre I n = true
    · rw [if_pos f, if_pos f, if_pos f, ih _ _ h, show kn + 1 + p.countP (fre I) = kn + (p.countP (fre I) + 1) by omega]
    · rw [if_neg f, if_neg f, if_neg f, ih _ _ h]
      rfl
theorem lastF_mem (I : List Int) : ∀ p l, (lastF I p l = l ∧ p.countP (fre I) = 0) ∨ (lastF I p l ∈ p ∧ fre I (lastF I p l) = true) := by
  intro p
  induction p with
  | nil => intro l; exact .inl ⟨rfl, rfl⟩
  | cons n p ih =>
    intro l
    rw [lastF, List.countP_cons]
    by_cases f : fre I n = true
    · rw [if_pos f]
      right
      rcases ih n with ⟨a, _⟩ | ⟨a, b⟩
      · rw [a]; exact ⟨List.mem_cons_self, f⟩
      · exact ⟨List.mem_cons_of_mem _ a, b⟩
    · rw [if_neg f, if_neg f]
      rcases ih l with ⟨a, b⟩ | ⟨a, b⟩
      · exact .inl ⟨a, b⟩
      · exact .inr ⟨List.mem_cons_of_mem _ a, b⟩
theorem fre_uniq (I : List Int) (p : List Int) (h : p.countP (fre I) = 1) (a b : Int) (ha : a ∈ p) (hb : b ∈ p) (fa : fre I a = true) (fb : fre I b = true) : a = b := by
  rw [List.countP_eq_length_filter, List.length_eq_one_iff] at h
  obtain ⟨c, hc⟩ := h
  have h1 : a ∈ p.filter (fre I) := List.mem_filter.2 ⟨ha, fa⟩
  have h2 : b ∈ p.filter (fre I) := List.mem_filter.2 ⟨hb, fb⟩
  rw [hc, List.mem_singleton] at h1 h2
  rw [h1, h2]
theorem left_ok {sw : Int} (hs : 0 ≤ sw ∧ sw ≤ 400) {I : List Int} (hI : IOk sw I) (p : List Int) (hp : ∀ n ∈ p, GoodN sw n) (h : 0 < p.countP (fre I)) : ∃ v ∈ p, fre I v = true ∧ impl_trail_left.f I p = some v := by
  have hIl := hI.1
  have main : ∀ (r : List Int) (i : Nat), (∀ n ∈ r, GoodN sw n) → 0 < r.countP (fre I) → ∃ k : Nat, ∃ hk : k < r.length, idxG (impl_trail_left.q I) r (i : Int) = some ((i + k : Nat) : Int) ∧ fre I r[k] = true := by
    intro r
    induction r with
    | nil => intro i _ h; cases h
    | cons n r ih =>
      intro i hr h
      obtain ⟨n0, n1, n2⟩ := hr n (List.mem_cons_self)
      have hq : impl_trail_left.q I n = some (fre I n) := by
        unfold impl_trail_left.q
        rw [abs_eq n (by omega) (by omega), if_pos (by omega)]
        rfl
      by_cases f : fre I n = true
      · refine ⟨0, by simp, ?_, f⟩
        simp only [idxG, hq, Option.bind_some, f, ↓reduceIte]
        rfl
      · rw [List.countP_cons, if_neg f] at h
        obtain ⟨k, hk, e1, e2⟩ := ih (i + 1) (fun x hx => hr x (List.mem_cons_of_mem _ hx)) h
        refine ⟨k + 1, by simp; omega, ?_, by simpa using e2⟩
        simp only [idxG, hq, Option.bind_some, f, ↓reduceIte, Bool.false_eq_true]
        rw [show i + (k + 1) = i + 1 + k by omega, ← e1]
        rfl
  obtain ⟨k, hk, e1, e2⟩ := main p 0 hp h
  refine ⟨p[k], List.getElem_mem hk, e2, ?_⟩
  unfold impl_trail_left.f
  have e1 : idxG (impl_trail_left.q I) p 0 = some ((0 + k : Nat) : Int) := e1
  rw [e1, Option.bind_some, if_pos (by omega), Nat.zero_add, rd_get _ _ hk]
theorem state_ev {sw : Int} (hs : 0 ≤ sw ∧ sw ≤ 400) {I : List Int} (hI : IOk sw I) (p : List Int) (hl : p.length ≤ 400) (hp : ∀ n ∈ p, GoodN sw n) :
    ∀ d i, p.length - i = d → i ≤ p.length → ∀ (left : Int) (kn : Nat), kn ≤ i → Ev (fun k => spec_l18State.l0 k p I left (kn : Int) (i : Int)) (stRes I (p.drop i) left kn) := by
  have hIl := hI.1
  intro d
  induction d with
  | zero =>
    intro i hd hi left kn hc
    rw [List.drop_eq_nil_of_le (by omega), stRes]
    refine Ev.step (f := fun _ => some _) (fun k => ?_) (Ev.now _)
    rw [spec_l18State.l0, if_neg (by omega)]
    by_cases c0 : kn = 0
    · rw [if_pos c0, if_pos (by omega)]
    · rw [if_neg c0, if_neg (by omega)]
      by_cases c1 : kn = 1
      · rw [if_pos c1, if_pos (by omega)]
      · rw [if_neg c1, if_neg (by omega)]
  | succ d ih =>
    intro i hd hi left kn hc
    have hil : i < p.length := by omega
    have hmem : p[i] ∈ p := List.getElem_mem hil
    obtain ⟨n0, n1, n2⟩ := hp _ hmem
    rw [List.drop_eq_getElem_cons hil, stRes]
    obtain ⟨x, hx⟩ : ∃ x, x = p[i] := ⟨_, rfl⟩
    have hrd := rd_get p i hil
    rw [← hx] at n0 n1 n2 hrd ⊢
    have ha := abs_eq x (by omega) (by omega)
    have step : ∀ r, Ev (fun k => if rd I (x.natAbs : Int) = x then some (0, 0) else if rd I (x.natAbs : Int) = 0 then spec_l18State.l0 k p I x (((kn + 1 : Nat)) : Int) ((i + 1 : Nat) : Int) else spec_l18State.l0 k p I left (kn : Int) ((i + 1 : Nat) : Int)) r → Ev (fun k => spec_l18State.l0 k p I left (kn : Int) (i : Int)) r := fun r hr => Ev.step (fun k => by
      rw [spec_l18State.l0, if_pos (by omega), if_pos (by omega), hrd, spec_l18Abs.f, Option.bind_some, ha, if_pos (by omega), if_pos (by omega), wrap_next i (by omega), wrap_next kn (by omega)]) hr
    apply step
    by_cases c1 : rd I (x.natAbs : Int) = x
    · rw [if_pos (show sat I x = true from decide_eq_true c1)]
      exact Ev.congr (fun k => if_pos c1) (Ev.now _)
    · rw [if_neg (show ¬ sat I x = true from fun h => c1 (of_decide_eq_true h))]
      by_cases c2 : rd I (x.natAbs : Int) = 0
      · rw [if_pos (show fre I x = true from decide_eq_true c2)]
        exact Ev.congr (fun k => by rw [if_neg c1, if_pos c2]) (ih (i + 1) (by omega) (by omega) x (kn + 1) (by omega))
      · rw [if_neg (show ¬ fre I x = true from fun h => c2 (of_decide_eq_true h))]
        exact Ev.congr (fun k => by rw [if_neg c1, if_neg c2]) (ih (i + 1) (by omega) (by omega) left kn (by omega))
def l1K (cl : List (List Int)) (sw : Int) (I S : List Int) (i : Int) (k : Nat) (bt : Int × Int) : Option (List Int × Bool) := if bt.1 = 2 then (some (S, false)) else (if bt.1 = 1 then ((spec_l18Abs.f bt.2).bind fun t137 => (if 0 ≤ t137 then (if t137 < (I.length : Int) then (if S.length < 17592186044416 then (spec_l18Unit.l1 k (I.set (t137 : Int).toNat bt.2) (S ++ [bt.2]) 0 sw cl) else (none)) else (none)) else (none))) else (spec_l18Unit.l1 k I S (wrap64 (i + 1)) sw cl))
theorem l1_step (cl : List (List Int)) (sw : Int) (I S : List Int) (i : Nat) (hi : i < cl.length) (st : Int × Int) (hst : Ev (fun k => spec_l18State.f k (rd_L1 cl (i : Int)) I) st) (r : List Int × Bool) (h : Ev (fun k => l1K cl sw I S (i : Int) k st) r) : Ev (fun k => spec_l18Unit.l1 k I S (i : Int) sw cl) r :=
  Ev.step (f := fun k => (spec_l18State.f k (rd_L1 cl (i : Int)) I).bind (l1K cl sw I S (i : Int) k)) (fun k => by
    rw [spec_l18Unit.l1, if_pos (by omega), if_pos (by omega)]
    rfl) (Ev.bind hst h)
/-- What the scan from i finds, told for both. -/
def ScanR (sw : Int) (cl : List (List Int)) (I S : List Int) (i : Nat) (o : Option (Option (Nat × Bool))) : Prop :=
  (o = some none ∧ Ev (fun k => spec_l18Unit.l1 k I S (i : Int) sw cl) (S, true) ∧ ∀ q, i ≤ q → q < cl.length → 0 < (rd_L1 cl (q : Int)).countP (sat I) ∨ 1 < (rd_L1 cl (q : Int)).countP (fre I)) ∨
  (∃ j, o = some (some (j, false)) ∧ Ev (fun k => spec_l18Unit.l1 k I S (i : Int) sw cl) (S, false) ∧ j < cl.length ∧ (rd_L1 cl (j : Int)).countP (sat I) = 0 ∧ (rd_L1 cl (j : Int)).countP (fre I) = 0) ∨
  (∃ j v, o = some (some (j, true)) ∧ j < cl.length ∧ impl_trail_left.f I (rd_L1 cl (j : Int)) = some v ∧ v ∈ rd_L1 cl (j : Int) ∧ GoodN sw v ∧ rd I (v.natAbs : Int) = 0 ∧ (rd_L1 cl (j : Int)).countP (sat I) = 0 ∧ (rd_L1 cl (j : Int)).countP (fre I) = 1 ∧ ∀ r, Ev (fun k => spec_l18Unit.l1 k (I.set v.natAbs v) (S ++ [v]) 0 sw cl) r → Ev (fun k => spec_l18Unit.l1 k I S (i : Int) sw cl) r)
theorem scan_ok {sw : Int} (hs : 0 ≤ sw ∧ sw ≤ 400) {cl : List (List Int)} (hg : GoodCl sw cl) {I G B : List Int} (hI : IOk sw I) (hgb : GB cl I G B) (S : List Int) (hS : S.length < 1000000) :
    ∀ d i, cl.length - i = d → i ≤ cl.length → ScanR sw cl I S i (impl_trail_unit.scan G B (cl.drop i) i) := by
  have hcl := hg.1
  have hIl := hI.1
  obtain ⟨gl, bl, g3⟩ := hgb
  intro d
  induction d with
  | zero =>
    intro i hd hi
    left
    rw [List.drop_eq_nil_of_le (by omega)]
    exact ⟨rfl, Ev.step (f := fun _ => some (S, true)) (fun k => by rw [spec_l18Unit.l1, if_neg (by omega)]) (Ev.now _), fun q h1 h2 => by omega⟩
  | succ d ih =>
    intro i hd hi
    have hil : i < cl.length := by omega
    obtain ⟨hlen, hn⟩ := hg.row i hil
    obtain ⟨gi, bi⟩ := g3 i hil
    have hpt := parts hI _ hn
    have hst := state_ev hs hI _ hlen hn _ 0 rfl (by omega) 0 0 (by omega)
    have hleft := left_ok hs hI _ hn
    have huniq := fre_uniq I (rd_L1 cl (i : Int))
    rw [List.drop_zero] at hst
    have hst : Ev (fun k => spec_l18State.f k (rd_L1 cl (i : Int)) I) (stRes I (rd_L1 cl (i : Int)) 0 0) := Ev.congr (fun k => rfl) hst
    rw [List.drop_eq_getElem_cons hil, ← rdE_L1 cl i hil, impl_trail_unit.scan, if_pos ⟨by omega, by omega⟩, gi, bi, wrap64_id (by omega) (by omega)]
    have go : stRes I (rd_L1 cl (i : Int)) 0 0 = (0, 0) → ∀ r, Ev (fun k => spec_l18Unit.l1 k I S ((i + 1 : Nat) : Int) sw cl) r → Ev (fun k => spec_l18Unit.l1 k I S (i : Int) sw cl) r := fun e r hr => by
      rw [e] at hst
      refine l1_step cl sw I S i hil _ hst r (Ev.congr (fun k => ?_) hr)
      simp only [l1K]
      rw [if_neg (by omega), if_neg (by omega), wrap_next i (by omega)]
    have rest : stRes I (rd_L1 cl (i : Int)) 0 0 = (0, 0) → (0 < (rd_L1 cl (i : Int)).countP (sat I) ∨ 1 < (rd_L1 cl (i : Int)).countP (fre I)) → ScanR sw cl I S i (impl_trail_unit.scan G B (cl.drop (i + 1)) (i + 1)) := fun e ho => (ih (i + 1) (by omega) (by omega)).imp (fun ⟨a1, a2, a3⟩ => ⟨a1, go e _ a2, fun q h1 h2 => by
      by_cases eq : q = i
      · subst eq; exact ho
      · exact a3 q (by omega) h2⟩) (Or.imp (fun ⟨j, a1, a2, a3⟩ => ⟨j, a1, go e _ a2, a3⟩) (fun ⟨j, v, a1, a2, a3, a4, a5, a6, a7, a8, a9⟩ => ⟨j, v, a1, a2, a3, a4, a5, a6, a7, a8, fun r hr => go e _ (a9 r hr)⟩))
    by_cases c1 : 0 < (rd_L1 cl (i : Int)).countP (sat I)
    · rw [if_pos (by omega)]
      exact rest (stRes_sat I _ _ _ c1) (.inl c1)
    · rw [if_neg (by omega)]
      have c1 : (rd_L1 cl (i : Int)).countP (sat I) = 0 := by omega
      have hno := stRes_no I (rd_L1 cl (i : Int)) 0 0 c1
      rw [Nat.zero_add] at hno
      by_cases c2 : 1 < (rd_L1 cl (i : Int)).countP (fre I)
      · rw [if_pos (by omega)]
        rw [if_neg (by omega), if_neg (by omega)] at hno
        exact rest hno (.inr c2)
      · rw [if_neg (by omega)]
        right
        by_cases c3 : (rd_L1 cl (i : Int)).countP (fre I) = 0
        · rw [if_pos (by omega)]
          rw [if_pos c3] at hno
          rw [hno] at hst
          exact .inl ⟨i, rfl, l1_step cl sw I S i hil _ hst _ (Ev.congr (fun k => by simp only [l1K]; rw [if_pos trivial]) (Ev.now _)), hil, c1, c3⟩
        · rw [if_neg (by omega)]
          have c4 : (rd_L1 cl (i : Int)).countP (fre I) = 1 := by omega
          rw [if_neg c3, if_pos c4] at hno
          obtain ⟨v, v1, v2, v3⟩ := hleft (by omega)
          have hlf : lastF I (rd_L1 cl (i : Int)) 0 = v := by
            rcases lastF_mem I (rd_L1 cl (i : Int)) 0 with ⟨_, b⟩ | ⟨a, b⟩
            · omega
            · exact huniq c4 _ _ a v1 b v2
          rw [hno, hlf] at hst
          obtain ⟨n0, n1, n2⟩ := hn v v1
          refine .inr ⟨i, v, rfl, hil, v3, v1, ⟨n0, n1, n2⟩, of_decide_eq_true v2, c1, c4, fun r hr => l1_step cl sw I S i hil _ hst r (Ev.congr (fun k => ?_) hr)⟩
          simp only [l1K]
          rw [if_neg (by omega), if_pos trivial, spec_l18Abs.f, Option.bind_some, abs_eq v (by omega) (by omega), if_pos (by omega), if_pos (by omega), if_pos (by omega), Int.toNat_natCast]
/-- The seats that do not stand. -/
def zer (I : List Int) : Nat := I.countP (fun x => decide (x = 0))
theorem zer_set {sw : Int} {I : List Int} (hI : IOk sw I) (v : Int) (hv : GoodN sw v) (h0 : rd I (v.natAbs : Int) = 0) : zer (I.set v.natAbs v) + 1 = zer I := by
  obtain ⟨v0, v1, v2⟩ := hv
  have hl : v.natAbs < I.length := by have := hI.1; omega
  rw [rd_get I _ hl] at h0
  unfold zer
  rw [List.countP_set hl, h0]
  have : 0 < I.countP (fun x => decide (x = 0)) := List.countP_pos_iff.2 ⟨I[v.natAbs], List.getElem_mem hl, by rw [h0]; rfl⟩
  simp [v0]
  omega
theorem unit_ok {sw : Int} (hs : 0 ≤ sw ∧ sw ≤ 400) {cl : List (List Int)} (hg : GoodCl sw cl) {H : Int → List Int} (hH : HOk cl cl.length 0 H) :
    ∀ (z : Nat) (I G B S : List Int), zer I = z → IOk sw I → GB cl I G B → S.length + z ≤ 1000 →
      ∃ b G1 B1 S1 I1, Ev (fun k => impl_trail_unit.f H cl k G B S I) (b, G1, B1, S1, I1) ∧ Ev (fun k => spec_l18Unit.l1 k I S 0 sw cl) (S1, b) ∧ S1.length ≤ 1000 := by
  intro z
  induction z with
  | zero =>
    intro I G B S hz hI hgb hS
    rcases scan_ok hs hg hI hgb S (by omega) _ 0 rfl (by omega) with ⟨a1, a2, _⟩ | ⟨j, a1, a2, _⟩ | ⟨j, v, a1, a2, a3, a3m, a4, a5, _⟩
    · exact ⟨true, G, B, S, I, Ev.step (f := fun _ => some _) (fun k => by rw [List.drop_zero] at a1; rw [impl_trail_unit.f, a1]; rfl) (Ev.now _), a2, by omega⟩
    · exact ⟨false, G, B, S, I, Ev.step (f := fun _ => some _) (fun k => by rw [List.drop_zero] at a1; rw [impl_trail_unit.f, a1]; rfl) (Ev.now _), a2, by omega⟩
    · have := zer_set hI v a4 a5
      omega
  | succ z ih =>
    intro I G B S hz hI hgb hS
    rcases scan_ok hs hg hI hgb S (by omega) _ 0 rfl (by omega) with ⟨a1, a2, _⟩ | ⟨j, a1, a2, _⟩ | ⟨j, v, a1, a2, a3, a3m, a4, a5, _, _, a6⟩
    · exact ⟨true, G, B, S, I, Ev.step (f := fun _ => some _) (fun k => by rw [List.drop_zero] at a1; rw [impl_trail_unit.f, a1]; rfl) (Ev.now _), a2, by omega⟩
    · exact ⟨false, G, B, S, I, Ev.step (f := fun _ => some _) (fun k => by rw [List.drop_zero] at a1; rw [impl_trail_unit.f, a1]; rfl) (Ev.now _), a2, by omega⟩
    · have hz2 := zer_set hI v a4 a5
      obtain ⟨G', B', c1, c2⟩ := stand_ok hs hg hH hI hgb (S := S) (by omega) v a4 a5
      obtain ⟨b, G1, B1, S1, I1, d1, d2, d3⟩ := ih (I.set v.natAbs v) G' B' (S ++ [v]) (by omega) (hI.set v a4) c2 (by rw [List.length_append, List.length_singleton]; omega)
      refine ⟨b, G1, B1, S1, I1, Ev.step (fun k => ?_) d1, a6 _ d2, d3⟩
      rw [List.drop_zero] at a1
      rw [impl_trail_unit.f, a1, Option.bind_some]
      dsimp only
      rw [a3, Option.bind_some, c1, Option.bind_some]
theorem hasU_ev (l : List Int) (a : Int) (hl : l.length ≤ 1048576) : ∀ d i, l.length - i = d → i ≤ l.length → Ev (fun k => spec_l1Has.l0 k l a (i : Int)) (decide (a ∈ l.drop i)) := by
  intro d
  induction d with
  | zero =>
    intro i hd hi
    rw [List.drop_eq_nil_of_le (by omega)]
    refine Ev.step (f := fun _ => some false) (fun k => ?_) (Ev.now _)
    simp (disch := omega) only [spec_l1Has.l0, ↓if_neg]
  | succ d ih =>
    intro i hd hi
    have hil : i < l.length := by omega
    have hdrop : l.drop i = rd l (i : Int) :: l.drop (i + 1) := by
      rw [List.drop_eq_getElem_cons hil]
      congr 1
      unfold rd
      rw [List.getD_eq_getElem?_getD, Int.toNat_natCast, List.getElem?_eq_getElem hil]
      rfl
    rw [hdrop]
    by_cases c : rd l (i : Int) = a
    · have e : decide (a ∈ rd l (i : Int) :: l.drop (i + 1)) = true := decide_eq_true (by rw [c]; exact List.mem_cons_self ..)
      rw [e]
      refine Ev.step (f := fun _ => some true) (fun k => ?_) (Ev.now _)
      simp (disch := omega) only [spec_l1Has.l0, ↓if_pos, if_pos c]
    · have e : decide (a ∈ rd l (i : Int) :: l.drop (i + 1)) = decide (a ∈ l.drop (i + 1)) := by
        have : (a ∈ rd l (i : Int) :: l.drop (i + 1)) = (a ∈ l.drop (i + 1)) := by
          rw [List.mem_cons]
          exact propext ⟨fun h => h.elim (fun h => absurd h.symm c) id, .inr⟩
        simp only [this]
      rw [e]
      refine Ev.step (fun k => ?_) (ih (i + 1) (by omega) (by omega))
      simp (disch := omega) only [spec_l1Has.l0, ↓if_pos, if_neg c, wrap_next]
theorem hasU (l : List Int) (a : Int) (hl : l.length ≤ 1048576) : Ev (fun k => spec_l1Has.f k l a) (decide (a ∈ l)) := by
  have h := hasU_ev l a hl _ 0 rfl (by omega)
  rw [List.drop_zero] at h
  exact Ev.congr (fun k => rfl) h
theorem setOk_ev {sw : Int} (hs : 0 ≤ sw ∧ sw ≤ 400) (cl : List (List Int)) (set : List Int) (hl : set.length ≤ 1048576) :
    ∀ d i, set.length - i = d → i ≤ set.length → ∀ seen : Int → Bool, (∀ q : Nat, seen (q : Int) = true ↔ ∃ y ∈ set.take i, y.natAbs = q) → (∀ y ∈ set.take i, GoodN sw y) → (set.take i).Pairwise (fun a b => a.natAbs ≠ b.natAbs) →
      (Ev (fun k => impl_setOk.l0 k set sw seen (i : Int)) false ∧ Ev (fun k => spec_Unit.l0 k set (i : Int) sw cl) ([], false)) ∨
      (Ev (fun k => impl_setOk.l0 k set sw seen (i : Int)) true ∧ (∀ y ∈ set, GoodN sw y) ∧ set.Pairwise (fun a b => a.natAbs ≠ b.natAbs) ∧ ∀ r, Ev (fun k => spec_l18Unit.f k sw cl set) r → Ev (fun k => spec_Unit.l0 k set (i : Int) sw cl) r) := by
  have hw : wrap64 (-sw) = -sw := wrap64_id (by omega) (by omega)
  intro d
  induction d with
  | zero =>
    intro i hd hi seen h1 h2 h3
    obtain rfl : i = set.length := by omega
    rw [List.take_length] at h2 h3
    refine .inr ⟨Ev.step (f := fun _ => some true) (fun k => ?_) (Ev.now _), h2, h3, fun r hr => Ev.step (fun k => ?_) (Ev.bind hr (Ev.now r))⟩
    · rw [impl_setOk.l0, if_neg (by omega)]
    · rw [spec_Unit.l0, if_neg (by omega)]
  | succ d ih =>
    intro i hd hi seen h1 h2 h3
    have hil : i < set.length := by omega
    obtain ⟨x, hx⟩ : ∃ x, x = rd set (i : Int) := ⟨_, rfl⟩
    have hxe : x = set[i] := by rw [hx, rd_get _ _ hil]
    by_cases c0 : x = 0
    · refine .inl ⟨Ev.step (f := fun _ => some false) (fun k => ?_) (Ev.now _), Ev.step (f := fun _ => some ([], false)) (fun k => ?_) (Ev.now _)⟩
      · rw [impl_setOk.l0, if_pos (by omega), if_pos (by omega), ← hx, if_pos c0]
      · rw [spec_Unit.l0, if_pos (by omega), if_pos (by omega), ← hx, if_pos c0]
    · by_cases ci : -sw ≤ x ∧ x ≤ sw
      · have di := decide_eq_true ci
        have ha : impl_setOk.m x = (x.natAbs : Int) := abs_eq x (by omega) (by omega)
        have hwf := lit_wf (x.natAbs : Int) (by omega) (by omega)
        have hwx : wrap64 (-x) = -x := wrap64_id (by omega) (by omega)
        have e1 := hasU (set.take i) x (by rw [List.length_take]; omega)
        have e2 := hasU (set.take i) (-x) (by rw [List.length_take]; omega)
        have hti : ((i : Int)).toNat = i := Int.toNat_natCast i
        have s1 : ∀ r, Ev (fun k => if decide (x ∈ set.take i) = true then some ([], false) else (spec_l1Has.f k (set.take i) (-x)).bind fun t => if t = true then some ([], false) else spec_Unit.l0 k set ((i + 1 : Nat) : Int) sw cl) r → Ev (fun k => spec_Unit.l0 k set (i : Int) sw cl) r := fun r hr =>
          Ev.step (f := fun k => (spec_l1Has.f k (set.take i) x).bind fun t => if t = true then some ([], false) else (spec_l1Has.f k (set.take i) (-x)).bind fun t => if t = true then some ([], false) else spec_Unit.l0 k set ((i + 1 : Nat) : Int) sw cl) (fun k => by
            rw [spec_Unit.l0, if_pos (by omega), if_pos (by omega), ← hx, if_neg c0, hw, l1In_eq, di, Option.bind_some, if_pos rfl, if_pos (by omega), hwx, hti, wrap_next i (by omega)]) (Ev.bind (f := fun k t => if t = true then some ([], false) else (spec_l1Has.f k (set.take i) (-x)).bind fun t => if t = true then some ([], false) else spec_Unit.l0 k set ((i + 1 : Nat) : Int) sw cl) e1 hr)
        have s2 : ∀ r, ¬ x ∈ set.take i → Ev (fun k => if decide (-x ∈ set.take i) = true then some ([], false) else spec_Unit.l0 k set ((i + 1 : Nat) : Int) sw cl) r → Ev (fun k => spec_Unit.l0 k set (i : Int) sw cl) r := fun r hn hr =>
          s1 r (Ev.congr (fun k => by rw [if_neg (by simpa using hn)]) (Ev.bind (f := fun k t => if t = true then some ([], false) else spec_Unit.l0 k set ((i + 1 : Nat) : Int) sw cl) e2 hr))
        have t1 : ∀ (b : Bool) z, seen (x.natAbs : Int) = b → Ev (fun k => if b = true then some false else impl_setOk.l0 k set sw (fun q => if q = (x.natAbs : Int) then true else seen q) ((i + 1 : Nat) : Int)) z → Ev (fun k => impl_setOk.l0 k set sw seen (i : Int)) z := fun b z hb hz => Ev.step (fun k => by
          rw [impl_setOk.l0, if_pos (by omega), if_pos (by omega), ← hx, if_neg c0, hw, inside_eq, di, Option.bind_some, if_pos rfl, ha, if_pos hwf, hb, wrap_next i (by omega)]) hz
        by_cases cs : seen (x.natAbs : Int) = true
        · refine .inl ⟨t1 true false cs (Ev.congr (fun k => if_pos rfl) (Ev.now _)), ?_⟩
          obtain ⟨y, hy, hye⟩ := (h1 x.natAbs).1 cs
          by_cases cx : x ∈ set.take i
          · exact s1 _ (Ev.congr (fun k => by rw [if_pos (by simpa using cx)]) (Ev.now _))
          · have : y = -x := by
              have : y ≠ x := fun e => cx (e ▸ hy)
              omega
            exact s2 _ cx (Ev.congr (fun k => by rw [if_pos (by rw [← this]; simpa using hy)]) (Ev.now _))
        · have hnot : ∀ y ∈ set.take i, y.natAbs ≠ x.natAbs := fun y hy e => cs ((h1 x.natAbs).2 ⟨y, hy, e⟩)
          have cx : ¬ x ∈ set.take i := fun h => hnot x h rfl
          have cy : ¬ -x ∈ set.take i := fun h => hnot (-x) h (by omega)
          have htake : set.take (i + 1) = set.take i ++ [x] := by rw [List.take_succ_eq_append_getElem hil, hxe]
          rcases ih (i + 1) (by omega) (by omega) (fun q => if q = (x.natAbs : Int) then true else seen q) (fun q => by
              rw [htake]
              by_cases e : q = x.natAbs
              · subst e
                rw [if_pos rfl]
                exact ⟨fun _ => ⟨x, by simp, rfl⟩, fun _ => rfl⟩
              · rw [if_neg (by omega), h1 q]
                refine ⟨fun ⟨y, hy, hye⟩ => ⟨y, List.mem_append.2 (.inl hy), hye⟩, fun ⟨y, hy, hye⟩ => ?_⟩
                rcases List.mem_append.1 hy with hy | hy
                · exact ⟨y, hy, hye⟩
                · rw [List.mem_singleton] at hy
                  subst hy
                  exact absurd hye.symm e)
            (by
              rw [htake]
              intro y hy
              rcases List.mem_append.1 hy with hy | hy
              · exact h2 y hy
              · rw [List.mem_singleton] at hy
                subst hy
                exact ⟨c0, ci.1, ci.2⟩)
            (by
              rw [htake]
              refine List.pairwise_append.2 ⟨h3, List.pairwise_singleton _ _, fun a ga b gb => ?_⟩
              rw [List.mem_singleton] at gb
              rw [gb]
              exact hnot a ga) with ⟨a1, a2⟩ | ⟨a1, a2, a3, a4⟩
          · exact .inl ⟨t1 false _ (by simpa using cs) (Ev.congr (fun k => if_neg (by decide)) a1), s2 _ cx (Ev.congr (fun k => by rw [if_neg (by simpa using cy)]) a2)⟩
          · exact .inr ⟨t1 false _ (by simpa using cs) (Ev.congr (fun k => if_neg (by decide)) a1), a2, a3, fun r hr => s2 _ cx (Ev.congr (fun k => by rw [if_neg (by simpa using cy)]) (a4 r hr))⟩
      · have di := decide_eq_false ci
        refine .inl ⟨Ev.step (f := fun _ => some false) (fun k => ?_) (Ev.now _), Ev.step (f := fun _ => some ([], false)) (fun k => ?_) (Ev.now _)⟩
        · rw [impl_setOk.l0, if_pos (by omega), if_pos (by omega), ← hx, if_neg c0, hw, inside_eq, di, Option.bind_some, if_neg (by decide)]
        · rw [spec_Unit.l0, if_pos (by omega), if_pos (by omega), ← hx, if_neg c0, hw, l1In_eq, di, Option.bind_some, if_neg (by decide)]
/-- The seats behind some numbers that stand. -/
def Iset (I : List Int) (xs : List Int) : List Int := xs.foldl (fun I v => I.set v.natAbs v) I
theorem stands_ok {sw : Int} (hs : 0 ≤ sw ∧ sw ≤ 400) {cl : List (List Int)} (hg : GoodCl sw cl) {H : Int → List Int} (hH : HOk cl cl.length 0 H) :
    ∀ (xs I G B S : List Int), IOk sw I → GB cl I G B → ((zer I + S.length : Nat) : Int) = sw + 1 → (∀ a : Nat, rd I (a : Int) ≠ 0 → ∃ y ∈ S, y.natAbs = a) → (∀ y ∈ S ++ xs, GoodN sw y) → (S ++ xs).Pairwise (fun a b => a.natAbs ≠ b.natAbs) →
      ∃ G' B', impl_Unit.stands H xs (G, B, S, I) = some (G', B', S ++ xs, Iset I xs) ∧ IOk sw (Iset I xs) ∧ GB cl (Iset I xs) G' B' ∧ ((zer (Iset I xs) + (S ++ xs).length : Nat) : Int) = sw + 1 ∧ (∀ a : Nat, rd (Iset I xs) (a : Int) ≠ 0 → ∃ y ∈ S ++ xs, y.natAbs = a) := by
  intro xs
  induction xs with
  | nil => intro I G B S h1 h2 h3 h4 h5 h6; rw [List.append_nil]; exact ⟨G, B, rfl, h1, h2, h3, h4⟩
  | cons v xs ih =>
    intro I G B S h1 h2 h3 h4 h5 h6
    have hv := h5 v (by simp)
    have h0 : rd I (v.natAbs : Int) = 0 := by
      by_cases c : rd I (v.natAbs : Int) = 0
      · exact c
      · obtain ⟨y, hy, hye⟩ := h4 _ c
        exact absurd hye ((List.pairwise_append.1 h6).2.2 y hy v (by simp))
    have hz := zer_set h1 v hv h0
    have hl : v.natAbs < I.length := by have := h1.1; obtain ⟨_, _, _⟩ := hv; omega
    obtain ⟨G', B', c1, c2⟩ := stand_ok hs hg hH h1 h2 (S := S) (by omega) v hv h0
    have e : S ++ v :: xs = (S ++ [v]) ++ xs := by simp
    rw [e] at h5 h6 ⊢
    obtain ⟨G2, B2, d1, d2⟩ := ih (I.set v.natAbs v) G' B' (S ++ [v]) (h1.set v hv) c2 (by rw [List.length_append, List.length_singleton]; omega) (fun a ha => by
      rw [rd_set _ _ _ _ hl] at ha
      by_cases ea : v.natAbs = a
      · exact ⟨v, by simp, ea⟩
      · rw [if_neg ea] at ha
        obtain ⟨y, hy, hye⟩ := h4 a ha
        exact ⟨y, List.mem_append.2 (.inl hy), hye⟩) h5 h6
    refine ⟨G2, B2, ?_, d2⟩
    rw [impl_Unit.stands]
    dsimp only
    rw [c1, Option.bind_some]
    exact d1
theorem spec_stands {sw : Int} (hs : 0 ≤ sw ∧ sw ≤ 400) (cl : List (List Int)) (set out : List Int) (hl : set.length ≤ 1048576) (hset : ∀ y ∈ set, GoodN sw y) (r : List Int × Bool) :
    ∀ d i, set.length - i = d → i ≤ set.length → ∀ I : List Int, (I.length : Int) = sw + 1 → Ev (fun k => spec_l18Unit.l1 k (Iset I (set.drop i)) out 0 sw cl) r → Ev (fun k => spec_l18Unit.l0 k set I out (i : Int) sw cl) r := by
  intro d
  induction d with
  | zero =>
    intro i hd hi I hI hr
    rw [List.drop_eq_nil_of_le (by omega)] at hr
    exact Ev.step (fun k => by rw [spec_l18Unit.l0, if_neg (by omega)]; rfl) hr
  | succ d ih =>
    intro i hd hi I hI hr
    have hil : i < set.length := by omega
    obtain ⟨n0, n1, n2⟩ := hset _ (List.getElem_mem hil)
    rw [List.drop_eq_getElem_cons hil] at hr
    refine Ev.step (fun k => ?_) (ih (i + 1) (by omega) (by omega) (I.set (set[i]).natAbs set[i]) (by rw [List.length_set]; exact hI) hr)
    rw [spec_l18Unit.l0, if_pos (by omega), if_pos (by omega), rd_get _ _ hil, spec_l18Abs.f, Option.bind_some, abs_eq _ (by omega) (by omega), if_pos (by omega), if_pos (by omega), Int.toNat_natCast, wrap_next i (by omega)]
theorem rd_zeros (n a : Nat) : rd (List.replicate n 0) (a : Int) = 0 := by
  unfold rd
  rw [List.getD_eq_getElem?_getD, Int.toNat_natCast]
  by_cases h : a < n
  · rw [List.getElem?_replicate, if_pos h]; rfl
  · rw [List.getElem?_eq_none (by simp; omega)]; rfl
theorem GoodCl.of {sw : Int} {cl : List (List Int)} (h1 : cl.length ≤ 4000) (h2 : ∀ p ∈ cl, GoodClause sw p) : GoodCl sw cl := ⟨h1, fun p hp => ⟨(h2 p hp).1, fun n hn => by
  obtain ⟨i, hi, rfl⟩ := List.mem_iff_getElem.1 hn
  have := (h2 p hp).2 i hi
  rw [rd_get _ _ hi] at this
  exact this⟩⟩
theorem unit_zero {sw : Int} (hs : 0 ≤ sw ∧ sw ≤ 400) {cl : List (List Int)} (hg : GoodCl sw cl) : IOk sw (List.replicate (sw + 1).toNat 0) ∧ GB cl (List.replicate (sw + 1).toNat 0) (List.replicate cl.length 0) (List.replicate cl.length 0) ∧ ((zer (List.replicate (sw + 1).toNat 0) + ([] : List Int).length : Nat) : Int) = sw + 1 := by
  refine ⟨⟨by simp; omega, fun a _ => .inl (rd_zeros _ _)⟩, ⟨by simp, by simp, fun q hq => ?_⟩, ?_⟩
  · obtain ⟨_, hn⟩ := hg.row q hq
    rw [rd_zeros]
    have e1 : (rd_L1 cl (q : Int)).countP (sat (List.replicate (sw + 1).toNat 0)) = 0 := List.countP_eq_zero.2 (fun n hn2 => by
      have := (hn n hn2).1
      simp only [sat, rd_zeros, decide_eq_true_eq]
      omega)
    have e2 : (rd_L1 cl (q : Int)).countP (neg (List.replicate (sw + 1).toNat 0)) = 0 := List.countP_eq_zero.2 (fun n hn2 => by
      have := (hn n hn2).1
      simp only [neg, rd_zeros, decide_eq_true_eq]
      omega)
    rw [e1, e2]
    exact ⟨rfl, rfl⟩
  · unfold zer
    rw [List.countP_replicate]
    simp
    omega
theorem unit_agree (sw : Int) (cl : List (List Int)) (set : List Int) (U0 : UpI_Cnf 1048576 ⟨sw, cl⟩) (W0 : WfI_Cnf ⟨sw, cl⟩) (U1 : (set.length : Int) ≤ 1048576) (W1 : ∀ y ∈ set, (-9223372036854775808 ≤ y ∧ y ≤ 9223372036854775807)) :
    ∃ y0 yy1, Ev (fun k => spec_Unit.f k sw cl set) (y0, yy1) ∧ Ev (fun k => impl_Unit.f k sw cl set) (y0, yy1) ∧ (y0.length : Int) ≤ 1048576 := by
  obtain ⟨b, h1, h2, h3⟩ := cnf_core sw cl
  cases b with
  | false =>
    refine ⟨[], false, Ev.bind (f := fun k t143 => if t143 = true then (spec_Unit.j0 k set (decide ((set.length : Int) > sw)) sw cl) else (spec_Unit.j0 k set true sw cl)) h1 (Ev.step (f := fun _ => some ([], false)) (fun k => ?_) (Ev.now _)), ?_, by simp⟩
    · rw [if_neg (by decide), spec_Unit.j0, if_pos rfl]
    · exact Ev.bind (f := fun k t => if t = true then ((impl_setOk.f k set sw).bind fun u => if u = true then ((impl_newTrail.f k sw cl).bind fun H => (impl_Unit.stands H set (impl_Unit.zero sw cl)).bind fun T => (impl_trail_unit.f H cl k T.1 T.2.1 T.2.2.1 T.2.2.2).bind fun r => some (r.2.2.2.1, r.1)) else some ([], false)) else some ([], false)) h2 (Ev.congr (fun k => if_neg (by decide)) (Ev.now _))
  | true =>
    obtain ⟨s0, s1, hc, hgc⟩ := h3 rfl
    have hs : 0 ≤ sw ∧ sw ≤ 400 := ⟨s0, s1⟩
    have hg := GoodCl.of hc hgc
    have S1 : ∀ r, Ev (fun k => spec_Unit.j0 k set (decide ((set.length : Int) > sw)) sw cl) r → Ev (fun k => spec_Unit.f k sw cl set) r := fun r hr => Ev.bind (f := fun k t143 => if t143 = true then (spec_Unit.j0 k set (decide ((set.length : Int) > sw)) sw cl) else (spec_Unit.j0 k set true sw cl)) h1 (Ev.congr (fun k => if_pos rfl) hr)
    have I1 : ∀ r, Ev (fun k => (impl_setOk.f k set sw).bind fun u => if u = true then ((impl_newTrail.f k sw cl).bind fun H => (impl_Unit.stands H set (impl_Unit.zero sw cl)).bind fun T => (impl_trail_unit.f H cl k T.1 T.2.1 T.2.2.1 T.2.2.2).bind fun r => some (r.2.2.2.1, r.1)) else some ([], false)) r → Ev (fun k => impl_Unit.f k sw cl set) r := fun r hr => Ev.bind (f := fun k t => if t = true then ((impl_setOk.f k set sw).bind fun u => if u = true then ((impl_newTrail.f k sw cl).bind fun H => (impl_Unit.stands H set (impl_Unit.zero sw cl)).bind fun T => (impl_trail_unit.f H cl k T.1 T.2.1 T.2.2.1 T.2.2.2).bind fun r => some (r.2.2.2.1, r.1)) else some ([], false)) else some ([], false)) h2 (Ev.congr (fun k => if_pos rfl) hr)
    have I2 : ∀ (b : Bool) r, Ev (fun k => impl_setOk.l0 k set sw (fun _ => false) ((0 : Nat) : Int)) b → Ev (fun k => if b = true then ((impl_newTrail.f k sw cl).bind fun H => (impl_Unit.stands H set (impl_Unit.zero sw cl)).bind fun T => (impl_trail_unit.f H cl k T.1 T.2.1 T.2.2.1 T.2.2.2).bind fun r => some (r.2.2.2.1, r.1)) else some ([], false)) r → Ev (fun k => impl_Unit.f k sw cl set) r := fun b r hb hr => I1 r (Ev.bind (f := fun k u => if u = true then ((impl_newTrail.f k sw cl).bind fun H => (impl_Unit.stands H set (impl_Unit.zero sw cl)).bind fun T => (impl_trail_unit.f H cl k T.1 T.2.1 T.2.2.1 T.2.2.2).bind fun r => some (r.2.2.2.1, r.1)) else some ([], false)) (Ev.congr (fun k => rfl) hb) hr)
    rcases setOk_ev hs cl set (by omega) _ 0 rfl (by omega) (fun _ => false) (fun q => by simp) (by simp) (by simp) with ⟨a1, a2⟩ | ⟨a1, a2, a3, a4⟩
    · refine ⟨[], false, S1 _ ?_, I2 false _ a1 (Ev.congr (fun k => if_neg (by decide)) (Ev.now _)), by simp⟩
      by_cases c : (set.length : Int) > sw
      · exact Ev.step (f := fun _ => some ([], false)) (fun k => by rw [spec_Unit.j0, if_pos (decide_eq_true c)]) (Ev.now _)
      · exact Ev.step (fun k => by rw [spec_Unit.j0, if_neg (by simpa using c)]; rfl) a2
    · obtain ⟨z1, z2, z3⟩ := unit_zero hs hg
      obtain ⟨H, t1, t2⟩ := trail_ok hs cl hg
      obtain ⟨G', B', d1, d2, d3, d4, d5⟩ := stands_ok hs hg t2 set (List.replicate (sw + 1).toNat 0) _ _ [] z1 z2 z3 (fun a ha => absurd (rd_zeros _ _) ha) (by simpa using a2) (by simpa using a3)
      rw [List.nil_append] at d1 d4
      have hpos : 0 < zer (Iset (List.replicate (sw + 1).toNat 0) set) := by
        have h0 : rd (Iset (List.replicate (sw + 1).toNat 0) set) ((0 : Nat) : Int) = 0 := by
          by_cases c : rd (Iset (List.replicate (sw + 1).toNat 0) set) ((0 : Nat) : Int) = 0
          · exact c
          · obtain ⟨y, hy, hye⟩ := d5 0 c
            have := (a2 y (by simpa using hy)).1
            omega
        have hl : 0 < (Iset (List.replicate (sw + 1).toNat 0) set).length := by have := d2.1; omega
        rw [rd_get _ _ hl] at h0
        exact List.countP_pos_iff.2 ⟨_, List.getElem_mem hl, by rw [h0]; rfl⟩
      have hlen : (set.length : Int) ≤ sw := by omega
      obtain ⟨b, G1, B1, S2, I3, u1, u2, u3⟩ := unit_ok hs hg t2 _ _ G' B' set rfl d2 d3 (by omega)
      refine ⟨S2, b, S1 _ (Ev.step (fun k => by rw [spec_Unit.j0, if_neg (by simp; omega)]; rfl) (a4 _ ?_)), I2 true _ a1 (Ev.congr (fun k => if_pos rfl) ?_), by omega⟩
      · have := spec_stands hs cl set set (by omega) a2 _ _ 0 rfl (by omega) (List.replicate (sw + 1).toNat 0) z1.1 (by rw [List.drop_zero]; exact u2)
        refine Ev.congr (fun k => ?_) this
        unfold spec_l18Unit.f
        have hw : wrap64 (sw + 1) = sw + 1 := wrap64_id (by omega) (by omega)
        rw [hw, if_pos (by omega), if_pos (by omega), Option.bind_some, if_pos (by simp; omega), List.nil_append]
        rfl
      · exact Ev.bind (f := fun k H => (impl_Unit.stands H set (impl_Unit.zero sw cl)).bind fun T => (impl_trail_unit.f H cl k T.1 T.2.1 T.2.2.1 T.2.2.2).bind fun r => some (r.2.2.2.1, r.1)) t1 (Ev.congr (fun k => by unfold impl_Unit.zero; rw [d1, Option.bind_some]) (Ev.bind (f := fun k r => some (r.2.2.2.1, r.1)) u1 (Ev.now _)))
-- SAYS: The program's Unit answers as the reference's Unit does, for all arguments.
theorem FnExactUnit (a0_0 : Int) (l0_1 : List (List Int)) (l1 : List Int) (q0_0 : (Lit.int .i64 a0_0).wf = true) (q0_1 : ∀ x ∈ l0_1, (x.length ≤ 9223372036854775807 ∧ ∀ y0 ∈ x, (Lit.int .i64 y0).wf = true)) (hl0_1 : l0_1.length ≤ 9223372036854775807) (q1 : ∀ x ∈ l1, (Lit.int .i64 x).wf = true) (hl1 : l1.length ≤ 9223372036854775807) : ∃ k, laws_FnExactUnit.f k a0_0 l0_1 l1 = some true := by
  by_cases b1 : (l1.length : Int) > 1048576
  · have c1 := eq_true b1
    exact ⟨1 + 1 + 1 + 1, by simp (disch := omega) only [laws_FnExactUnit.f, ↓reduceIte, c1]⟩
  have c1 := eq_false b1
  have u1 : (l1.length : Int) ≤ 1048576 := by omega
  obtain ⟨r0, g0, hb0⟩ := sz_Cnf (⟨a0_0, l0_1⟩ : S32) 1048576 (in_Cnf (⟨a0_0, l0_1⟩ : S32) ⟨q0_0, (And.intro hl0_1 q0_1)⟩) (by omega) (by omega)
  obtain ⟨Ks0, s0⟩ := Ev.binds (g0)
  try dsimp only [cv_Cnf] at s0
  rcases hb0 with hneg | ⟨p0, z0, u0⟩
  · have c0 := eq_true hneg
    exact ⟨Ks0 + 1 + 1 + 1 + 1, by simp (disch := omega) only [laws_FnExactUnit.f, ↓s0, ↓reduceIte, c1, c0]⟩
  have c0 := eq_false (show ¬ r0 < 0 by omega)
  have U0 : UpI_Cnf 1048576 ((cv_Cnf (⟨a0_0, l0_1⟩ : S32))) := (upcv_Cnf _ _ u0)
  have W0 : WfI_Cnf ((cv_Cnf (⟨a0_0, l0_1⟩ : S32))) := wf_Cnf (⟨a0_0, l0_1⟩ : S32) ⟨q0_0, (And.intro hl0_1 q0_1)⟩
  have U1 : ((l1.length : Int) ≤ 1048576) := u1
  have W1 : (∀ y ∈ l1, (-9223372036854775808 ≤ y ∧ y ≤ 9223372036854775807)) := (fun a3_ ha3_ => (wf_i64 ((And.intro hl1 q1).2 a3_ ha3_)))
  obtain ⟨y0, y1, e1, e2, v0⟩ := unit_agree a0_0 l0_1 l1 U0 W0 U1 W1
  obtain ⟨Kt0, t0⟩ := Ev.binds (to_Cnf (⟨a0_0, l0_1⟩ : S32) u0)
  try dsimp only [cv_Cnf] at t0
  obtain ⟨Kt1, t1⟩ := Ev.binds (to_Int64S l1 u1)
  try dsimp only [cv_Cnf] at t1
  obtain ⟨Khs, hs⟩ := Ev.binds (e1)
  obtain ⟨Khi, hi⟩ := Ev.binds (e2)
  obtain ⟨Ke0_, e0_⟩ := Ev.binds (eq_Cnf ((cv_Cnf (⟨a0_0, l0_1⟩ : S32))) U0)
  try dsimp only [cv_Cnf] at e0_
  obtain ⟨Ke1_, e1_⟩ := Ev.binds (eq_Int64S l1 U1)
  try dsimp only [cv_Cnf] at e1_
  obtain ⟨Kf0_, f0_⟩ := Ev.binds (eq_Int64S y0 v0)
  try dsimp only [cv_Cnf] at f0_
  obtain ⟨m0, n0_0, g0_, o0, w0⟩ := mark_Cnf ((cv_Cnf (⟨a0_0, l0_1⟩ : S32))) U0 1 (by omega) (by omega)
  obtain ⟨Kk0_, k0_⟩ := Ev.binds (g0_)
  try dsimp only [cv_Cnf] at k0_
  obtain ⟨m1, n1_0, g1_, o1, w1, _⟩ := mark_Int64S l1 U1 m0 (by omega) (by omega)
  obtain ⟨Kk1_, k1_⟩ := Ev.binds (g1_)
  try dsimp only [cv_Cnf] at k1_
  have cm := eq_false (show ¬ m1 < 0 by omega)
  obtain ⟨M0, N0_0, G0_, O0, A0, H0_⟩ := mark_Int64S y0 v0 1 (by omega) (by omega)
  obtain ⟨Kx0_, x0_⟩ := Ev.binds (G0_)
  try dsimp only [cv_Cnf] at x0_
  obtain ⟨Kz0_, z0_⟩ := Ev.binds (H0_)
  try dsimp only [cv_Cnf] at z0_
  have cn0 := eq_false (show ¬ M0 < 0 by omega)
  exact ⟨Ks0 + Kt0 + Kt1 + Khs + Khi + Ke0_ + Ke1_ + Kf0_ + Kk0_ + Kk1_ + Kx0_ + Kz0_ + 1 + 1 + 1 + 1, by simp (disch := omega) only [laws_FnExactUnit.f, ↓s0, ↓t0, ↓t1, ↓hs, ↓hi, ↓e0_, ↓e1_, ↓f0_, ↓k0_, ↓k1_, ↓x0_, ↓z0_, ↓reduceIte, c1, c0, cm, cn0, bne_self_eq_false, Bool.false_eq_true, Bool.not_true, Bool.not_false]⟩

end Go.Proofs.Ytpkclocdenagcaa.Pure
