/- The program's Meets answers as the reference's Meets does, for all arguments. -/
import Derived.Test.YtipoepnmklaahaaPFnExactMeetsx5
import Derived.Test.YtipoepnmklaahaaBits
import Derived.Test.YtipoepnmklaahaaLoops
namespace Go.Proofs.Ytipoepnmklaahaa.Pure
open Go Go.RowKit Go.Proofs.Ytipoepnmklaahaa.PFnExactMeets Go.Proofs.YtipoepnmklaahaaW.PrintWords Go.Proofs.YtipoepnmklaahaaW.PrintLast Go.Proofs.YtipoepnmklaahaaW.PrintMore Go.Proofs.Ytipoepnmklaahaa.BitsLib Go.Proofs.Ytipoepnmklaahaa.Loops
set_option linter.unusedVariables false
set_option linter.unusedSimpArgs false
set_option maxRecDepth 4000

/-! wrap_next -/
theorem wrap_next (i : Nat) (h : i < 4611686018427387904) : wrap64 ((i : Int) + 1) = ((i + 1 : Nat) : Int) := by
  rw [wrap64_id (by omega) (by omega)]; rfl

/-! szn_out -/
theorem szn_out (n : Nat) (left : Int) (hn : (n : Int) ≤ 9223372036854775807) (h0 : 0 ≤ left) (h1 : left ≤ 1048576) :
    ∃ r, (True → wrap64 (left - (n : Int)) = r) ∧ (r < 0 ∨ (0 ≤ r ∧ r ≤ left ∧ (n : Int) ≤ 1048576)) := by
  refine ⟨left - (n : Int), fun _ => wrap64_id (by omega) (by omega), ?_⟩
  by_cases c : left - (n : Int) < 0
  · exact .inl c
  · exact .inr (by omega)

/-! rdE_L1 -/
theorem rdE_L1 (l : List (List Int)) (i : Nat) (h : i < l.length) : rd_L1 l (i : Int) = l[i] := by
  unfold rd_L1
  rw [List.getD_eq_getElem?_getD, Int.toNat_natCast, List.getElem?_eq_getElem h]; rfl
theorem rdM_L1 (l : List (List Int)) (i : Nat) (h : i < l.length) : rd_L1 l (i : Int) ∈ l := by rw [rdE_L1 l i h]; exact List.getElem_mem h

/-! S65 -/
structure S65 where
  f0 : Int
  f1 : List (List Int)

/-! UpL_Cnf -/
def UpL_Cnf (c : Int) (x : S65) : Prop := ((x.f1.length : Int) ≤ c ∧ ∀ y ∈ x.f1, ((y.length : Int) ≤ c))

/-! sz_Int64S -/
theorem sz_Int64S (x : List Int) (left : Int) (hin : ((x.length : Int) ≤ 9223372036854775807)) (h0 : 0 ≤ left) (h1 : left ≤ 1048576) :
    ∃ r, Ev (fun k => laws_szInt64S.f x left) r ∧ (r < 0 ∨ (0 ≤ r ∧ r ≤ left ∧ ((x.length : Int) ≤ 1048576))) := by
  obtain ⟨r, hr, hb⟩ := szn_out x.length left hin h0 h1
  rcases hb with c | ⟨p0, q0, u0⟩
  · exact ⟨-1, ⟨0, fun k _ => by dsimp only; unfold laws_szInt64S.f; rw [hr trivial, if_pos c]⟩, .inl (by omega)⟩
  · exact ⟨r, ⟨0, fun k _ => by dsimp only; unfold laws_szInt64S.f; rw [hr trivial, if_neg (by omega)]⟩, .inr ⟨p0, q0, u0⟩⟩

/-! sz_Int64SS -/
theorem sz_Int64SS (x : List (List Int)) (left : Int) (hin : ((x.length : Int) ≤ 9223372036854775807 ∧ ∀ y ∈ x, ((y.length : Int) ≤ 9223372036854775807))) (h0 : 0 ≤ left) (h1 : left ≤ 1048576) :
    ∃ r, Ev (fun k => laws_szInt64SS.f k x left) r ∧ (r < 0 ∨ (0 ≤ r ∧ r ≤ left ∧ ((x.length : Int) ≤ 1048576 ∧ ∀ y ∈ x, ((y.length : Int) ≤ 1048576)))) := by
  obtain ⟨hl, hx⟩ := hin
  obtain ⟨r0, hr0, hb0⟩ := szn_out x.length left hl h0 h1
  rcases hb0 with c | ⟨p0, q0, u0⟩
  · exact ⟨-1, ⟨0, fun k _ => by dsimp only; unfold laws_szInt64SS.f; rw [hr0 trivial, if_pos c]⟩, .inl (by omega)⟩
  · have main : ∀ d i, x.length - i = d → i ≤ x.length → ∀ lf, 0 ≤ lf → lf ≤ left → ∃ r, Ev (fun k => laws_szInt64SS.l0 k x lf (i : Int)) r ∧ (r < 0 ∨ (0 ≤ r ∧ r ≤ lf ∧ ∀ j : Nat, i ≤ j → j < x.length → (((rd_L1 x (j : Int)).length : Int) ≤ 1048576))) := by
      intro d
      induction d with
      | zero =>
        intro i hd hi lf g0 g1
        exact ⟨lf, Ev.step (f := fun _ => some lf) (fun k => by simp only [laws_szInt64SS.l0]; rw [if_neg (by omega)]) (Ev.now _), .inr ⟨g0, Int.le_refl _, fun j g2 g3 => absurd g3 (by omega)⟩⟩
      | succ d ih =>
        intro i hd hi lf g0 g1
        have hil : i < x.length := by omega
        obtain ⟨r, ⟨K, hr⟩, hrb⟩ := sz_Int64S (rd_L1 x (i : Int)) lf (hx _ (rdM_L1 x i hil)) g0 (by omega)
        rcases hrb with hneg | ⟨p1, p2, p3⟩
        · refine ⟨-1, ⟨K + 1, fun k hk => ?_⟩, .inl (by omega)⟩
          obtain ⟨m, rfl⟩ : ∃ m, k = m + 1 := ⟨k - 1, by omega⟩
          have hr := hr m (by omega)
          dsimp only at hr ⊢
          simp only [laws_szInt64SS.l0]
          rw [if_pos (by omega), if_pos (by omega), hr]
          simp only [Option.bind_some]
          rw [if_pos hneg]
        · obtain ⟨r2, ⟨K2, h2⟩, hb2⟩ := ih (i + 1) (by omega) (by omega) r p1 (by omega)
          refine ⟨r2, ⟨K + K2 + 1, fun k hk => ?_⟩, ?_⟩
          · obtain ⟨m, rfl⟩ : ∃ m, k = m + 1 := ⟨k - 1, by omega⟩
            have hr := hr m (by omega)
            have h2 := h2 m (by omega)
            dsimp only at hr h2 ⊢
            simp only [laws_szInt64SS.l0]
            rw [if_pos (by omega), if_pos (by omega), hr]
            simp only [Option.bind_some]
            rw [if_neg (by omega), wrap_next i (by omega)]
            exact h2
          · rcases hb2 with hb2 | ⟨s0, s1, s2⟩
            · exact .inl hb2
            · refine .inr ⟨s0, by omega, fun j g2 g3 => ?_⟩
              by_cases e : j = i
              · rw [e]; exact p3
              · exact s2 j (by omega) g3
    obtain ⟨r, ⟨K, hr⟩, hb⟩ := main x.length 0 (by omega) (by omega) r0 p0 q0
    refine ⟨r, ⟨K, fun k hk => ?_⟩, ?_⟩
    · have hr := hr k hk
      dsimp only at hr ⊢
      unfold laws_szInt64SS.f
      rw [hr0 trivial, if_neg (by omega)]
      exact hr
    · rcases hb with hb | ⟨s0, s1, s2⟩
      · exact .inl hb
      · refine .inr ⟨s0, by omega, by omega, fun y hy => ?_⟩
        obtain ⟨j, hjl, rfl⟩ := List.getElem_of_mem hy
        have := s2 j (by omega) hjl
        rwa [rdE_L1 x j hjl] at this

/-! sz_Cnf -/
theorem sz_Cnf (x : S65) (left : Int) (hin : UpL_Cnf 9223372036854775807 x) (h0 : 0 ≤ left) (h1 : left ≤ 1048576) :
    ∃ r, Ev (fun k => laws_szCnf.f k x.f0 x.f1 left) r ∧ (r < 0 ∨ (0 ≤ r ∧ r ≤ left ∧ UpL_Cnf 1048576 x)) := by
  unfold UpL_Cnf at hin
  have i1 := hin
  obtain ⟨r1, ⟨K1, e1⟩, hb1⟩ := sz_Int64SS x.f1 left i1 (by omega) (by omega)
  rcases hb1 with c1 | ⟨p1, q1, u1⟩
  · exact ⟨-1, ⟨K1, fun k hk => by have e1 := e1 k (by omega); dsimp only at e1 ⊢; unfold laws_szCnf.f; rw [e1]; simp only [Option.bind_some]; rw [if_pos c1]⟩, .inl (by omega)⟩
  exact ⟨r1, ⟨K1, fun k hk => by have e1 := e1 k (by omega); dsimp only at e1 ⊢; unfold laws_szCnf.f; rw [e1]; simp only [Option.bind_some]; rw [if_neg (by omega)]⟩, .inr ⟨by omega, by omega, u1⟩⟩

/-! rdE_B -/
theorem rdE_B (l : List Bool) (i : Nat) (h : i < l.length) : rdOf false l (i : Int) = l[i] := by
  unfold rdOf
  rw [List.getD_eq_getElem?_getD, Int.toNat_natCast, List.getElem?_eq_getElem h]
  rfl

/-! to_BoolS -/
theorem to_BoolS (x : List Bool) (h : ((x.length : Int) ≤ 1048576)) : Ev (fun k => laws_toBoolS.f k x) x := by
  have hl := h
  have main := up_loop x.length (filled (fun i => (rdOf false x i)) (List.replicate x.length false)) (fun k xs i => laws_toBoolS.l0 k x xs i)
    (fun i hi r h2 => by
      obtain ⟨K2, h2⟩ := h2
      refine ⟨K2 + 1, fun k hk => ?_⟩
      obtain ⟨m, rfl⟩ : ∃ m, k = m + 1 := ⟨k - 1, by omega⟩
      have h2 := h2 m (by omega)
      dsimp only at h2 ⊢
      rw [← filled_set _ _ (by simpa using hi)] at h2
      simp only [laws_toBoolS.l0]
      rw [if_pos (by omega), if_pos (by omega)]
      rw [if_pos (by rw [filled_len _ _ (by simp; omega)]; simp; omega), Int.toNat_natCast, wrap64_id (by omega) (by omega)]
      exact h2)
    x (Ev.step (f := fun _ => some x) (fun k => by
      simp only [laws_toBoolS.l0]
      rw [if_neg (by omega), filled_all _ _ (by simp)]
      congr 1
      apply List.ext_getElem?
      intro i
      by_cases hi : i < x.length
      · simp [hi, rdE_B]
      · rw [List.getElem?_eq_none (by first | omega | (simp; omega)), List.getElem?_eq_none (by first | omega | (simp; omega))]) (Ev.now _))
  rw [filled_zero] at main
  refine Ev.congr (fun k => ?_) main
  unfold laws_toBoolS.f
  rw [if_pos (by omega), if_pos (by omega), Int.toNat_natCast]

/-! S69 -/
structure S69 where
  f0 : Int
  f1 : List (List Int)

/-! UpI_Cnf -/
def UpI_Cnf (c : Int) (x : S69) : Prop := ((x.f1.length : Int) ≤ c ∧ ∀ y ∈ x.f1, ((y.length : Int) ≤ c))

/-! cv_Cnf -/
def cv_Cnf (x : S65) : S69 := ⟨x.f0, x.f1⟩

/-! upcv_Cnf -/
theorem upcv_Cnf (c : Int) (x : S65) (h : UpL_Cnf c x) : UpI_Cnf c (cv_Cnf x) := by
  unfold UpL_Cnf at h
  unfold UpI_Cnf
  have i1 := h
  exact i1

/-! in_Cnf -/
theorem in_Cnf (x : S65) (h : (Lit.int .i64 x.f0).wf = true ∧ (x.f1.length ≤ 9223372036854775807 ∧ ∀ y0 ∈ x.f1, (y0.length ≤ 9223372036854775807 ∧ ∀ y1 ∈ y0, (Lit.int .i64 y1).wf = true))) : UpL_Cnf 9223372036854775807 x := by
  obtain ⟨j0, j1⟩ := h
  unfold UpL_Cnf
  exact ⟨Int.ofNat_le.2 j1.1, fun y hy => (Int.ofNat_le.2 (j1.2 y hy).1)⟩

/-! to_Int64S -/
theorem to_Int64S (x : List Int) (h : ((x.length : Int) ≤ 1048576)) : Ev (fun k => laws_toInt64S.f k x) x := by
  have hl := h
  have main := up_loop x.length (filled (fun i => (rd x i)) (List.replicate x.length 0)) (fun k xs i => laws_toInt64S.l0 k x xs i)
    (fun i hi r h2 => by
      obtain ⟨K2, h2⟩ := h2
      refine ⟨K2 + 1, fun k hk => ?_⟩
      obtain ⟨m, rfl⟩ : ∃ m, k = m + 1 := ⟨k - 1, by omega⟩
      have h2 := h2 m (by omega)
      dsimp only at h2 ⊢
      rw [← filled_set _ _ (by simpa using hi)] at h2
      simp only [laws_toInt64S.l0]
      rw [if_pos (by omega), if_pos (by omega)]
      rw [if_pos (by rw [filled_len _ _ (by simp; omega)]; simp; omega), Int.toNat_natCast, wrap64_id (by omega) (by omega)]
      exact h2)
    x (Ev.step (f := fun _ => some x) (fun k => by
      simp only [laws_toInt64S.l0]
      rw [if_neg (by omega), filled_all _ _ (by simp)]
      congr 1
      exact list_of_rd x) (Ev.now _))
  rw [filled_zero] at main
  refine Ev.congr (fun k => ?_) main
  unfold laws_toInt64S.f
  rw [if_pos (by omega), if_pos (by omega), Int.toNat_natCast]

/-! to_Int64SS -/
theorem to_Int64SS (x : List (List Int)) (h : ((x.length : Int) ≤ 1048576 ∧ ∀ y ∈ x, ((y.length : Int) ≤ 1048576))) : Ev (fun k => laws_toInt64SS.f k x) x := by
  have hl := h.1
  have main := up_loop x.length (filled (fun i => (rd_L1 x i)) (List.replicate x.length [])) (fun k xs i => laws_toInt64SS.l0 k x xs i)
    (fun i hi r h2 => by
      obtain ⟨K, he⟩ := to_Int64S (rd_L1 x (i : Int)) (h.2 _ (rdM_L1 x i hi))
      obtain ⟨K2, h2⟩ := h2
      refine ⟨K + K2 + 1, fun k hk => ?_⟩
      obtain ⟨m, rfl⟩ : ∃ m, k = m + 1 := ⟨k - 1, by omega⟩
      have h2 := h2 m (by omega)
      have he := he m (by omega)
      dsimp only at he h2 ⊢
      rw [← filled_set _ _ (by simpa using hi)] at h2
      simp only [laws_toInt64SS.l0]
      rw [if_pos (by omega), if_pos (by omega), he]
      simp only [Option.bind_some]
      rw [if_pos (by rw [filled_len _ _ (by simp; omega)]; simp; omega), Int.toNat_natCast, wrap64_id (by omega) (by omega)]
      exact h2)
    x (Ev.step (f := fun _ => some x) (fun k => by
      simp only [laws_toInt64SS.l0]
      rw [if_neg (by omega), filled_all _ _ (by simp)]
      congr 1
      apply List.ext_getElem?
      intro i
      by_cases hi : i < x.length
      · simp [hi, rdE_L1]
      · rw [List.getElem?_eq_none (by first | omega | (simp; omega)), List.getElem?_eq_none (by first | omega | (simp; omega))]) (Ev.now _))
  rw [filled_zero] at main
  refine Ev.congr (fun k => ?_) main
  unfold laws_toInt64SS.f
  rw [if_pos (by omega), if_pos (by omega), Int.toNat_natCast]

/-! to_Cnf -/
theorem to_Cnf (x : S65) (h : UpL_Cnf 1048576 x) : Ev (fun k => laws_toCnf.f k x.f0 x.f1) ((cv_Cnf x).f0, (cv_Cnf x).f1) := by
  unfold UpL_Cnf at h
  have i1 := h
  obtain ⟨K1, e1⟩ := to_Int64SS x.f1 i1
  refine ⟨K1, fun k hk => ?_⟩
  have e1 := e1 k (by omega)
  dsimp only at e1 ⊢
  simp only [laws_toCnf.f, e1, Option.bind_some]
  all_goals rfl

/-! eq_BoolS -/
theorem eq_BoolS (x : List Bool) (h : ((x.length : Int) ≤ 1048576)) : Ev (fun k => laws_eqBoolS.f k x x) true := by
  have hl := h
  have main := up_loop x.length (fun _ => ()) (fun k _ i => laws_eqBoolS.l0 k x x i)
    (fun i hi r h2 => by
      obtain ⟨K2, h2⟩ := h2
      refine ⟨K2 + 1, fun k hk => ?_⟩
      obtain ⟨m, rfl⟩ : ∃ m, k = m + 1 := ⟨k - 1, by omega⟩
      have h2 := h2 m (by omega)
      dsimp only at h2 ⊢
      simp only [laws_eqBoolS.l0]
      rw [if_pos (by omega), if_pos (by omega), if_pos (by omega)]
      simp only [if_true, bne_self_eq_false, Bool.false_eq_true, ↓reduceIte]
      rw [wrap64_id (by omega) (by omega)]
      exact h2)
    true (Ev.step (f := fun _ => some true) (fun k => by
      simp only [laws_eqBoolS.l0]
      rw [if_neg (by omega)]) (Ev.now _))
  obtain ⟨K, h⟩ := main
  refine ⟨K, fun k hk => ?_⟩
  have h := h k hk
  dsimp only at h ⊢
  unfold laws_eqBoolS.f
  rw [if_pos rfl]
  exact h

/-! eq_Int64S -/
theorem eq_Int64S (x : List Int) (h : ((x.length : Int) ≤ 1048576)) : Ev (fun k => laws_eqInt64S.f k x x) true := by
  have hl := h
  have main := up_loop x.length (fun _ => ()) (fun k _ i => laws_eqInt64S.l0 k x x i)
    (fun i hi r h2 => by
      obtain ⟨K2, h2⟩ := h2
      refine ⟨K2 + 1, fun k hk => ?_⟩
      obtain ⟨m, rfl⟩ : ∃ m, k = m + 1 := ⟨k - 1, by omega⟩
      have h2 := h2 m (by omega)
      dsimp only at h2 ⊢
      simp only [laws_eqInt64S.l0]
      rw [if_pos (by omega), if_pos (by omega), if_pos (by omega)]
      simp only [if_true]
      rw [wrap64_id (by omega) (by omega)]
      exact h2)
    true (Ev.step (f := fun _ => some true) (fun k => by
      simp only [laws_eqInt64S.l0]
      rw [if_neg (by omega)]) (Ev.now _))
  obtain ⟨K, h⟩ := main
  refine ⟨K, fun k hk => ?_⟩
  have h := h k hk
  dsimp only at h ⊢
  unfold laws_eqInt64S.f
  rw [if_pos rfl]
  exact h

/-! eq_Int64SS -/
theorem eq_Int64SS (x : List (List Int)) (h : ((x.length : Int) ≤ 1048576 ∧ ∀ y ∈ x, ((y.length : Int) ≤ 1048576))) : Ev (fun k => laws_eqInt64SS.f k x x) true := by
  have hl := h.1
  have main := up_loop x.length (fun _ => ()) (fun k _ i => laws_eqInt64SS.l0 k x x i)
    (fun i hi r h2 => by
      obtain ⟨K, he⟩ := eq_Int64S (rd_L1 x (i : Int)) (h.2 _ (rdM_L1 x i hi))
      obtain ⟨K2, h2⟩ := h2
      refine ⟨K + K2 + 1, fun k hk => ?_⟩
      obtain ⟨m, rfl⟩ : ∃ m, k = m + 1 := ⟨k - 1, by omega⟩
      have h2 := h2 m (by omega)
      have he := he m (by omega)
      dsimp only at he h2 ⊢
      simp only [laws_eqInt64SS.l0]
      rw [if_pos (by omega), if_pos (by omega), if_pos (by omega), he]
      simp only [Option.bind_some, if_true, ↓reduceIte]
      rw [wrap64_id (by omega) (by omega)]
      exact h2)
    true (Ev.step (f := fun _ => some true) (fun k => by
      simp only [laws_eqInt64SS.l0]
      rw [if_neg (by omega)]) (Ev.now _))
  obtain ⟨K, h⟩ := main
  refine ⟨K, fun k hk => ?_⟩
  have h := h k hk
  dsimp only at h ⊢
  unfold laws_eqInt64SS.f
  rw [if_pos rfl]
  exact h

/-! eq_Cnf -/
theorem eq_Cnf (x : S69) (h : UpI_Cnf 1048576 x) : Ev (fun k => laws_eqCnf.f k x.f0 x.f1 x.f0 x.f1) true := by
  unfold UpI_Cnf at h
  have i1 := h
  obtain ⟨K1, e1⟩ := eq_Int64SS x.f1 i1
  refine ⟨K1, fun k hk => ?_⟩
  have e1 := e1 k (by omega)
  dsimp only at e1 ⊢
  simp only [laws_eqCnf.f, e1, Option.bind_some, if_true, ↓reduceIte, bne_self_eq_false, Bool.false_eq_true]

/-! WfI_Cnf -/
def WfI_Cnf (x : S69) : Prop := (-9223372036854775808 ≤ x.f0 ∧ x.f0 ≤ 9223372036854775807) ∧ (∀ y ∈ x.f1, (∀ z ∈ y, (-9223372036854775808 ≤ z ∧ z ≤ 9223372036854775807)))

/-! wf_Cnf -/
theorem wf_Cnf (x : S65) (h : (Lit.int .i64 x.f0).wf = true ∧ (x.f1.length ≤ 9223372036854775807 ∧ ∀ y0 ∈ x.f1, (y0.length ≤ 9223372036854775807 ∧ ∀ y1 ∈ y0, (Lit.int .i64 y1).wf = true))) : WfI_Cnf (cv_Cnf x) := by
  obtain ⟨j0, j1⟩ := h
  exact ⟨(wf_i64 j0), (fun a1_ ha1_ => (fun a2_ ha2_ => (wf_i64 ((j1.2 a1_ ha1_).2 a2_ ha2_))))⟩

/-! implInside -/
theorem inside_eq (a b c : Int) : impl_inside.f a b c = some (decide (b ≤ a ∧ a ≤ c)) := by
  unfold impl_inside.f
  by_cases h1 : b ≤ a
  · rw [if_pos h1]; simp [h1]
  · rw [if_neg h1]; simp [h1]

/-! specIn -/
theorem l1In_eq (a b c : Int) : spec_l1In.f a b c = some (decide (b ≤ a ∧ a ≤ c)) := by
  unfold spec_l1In.f
  by_cases h1 : b ≤ a
  · rw [if_pos h1]; simp [h1]
  · rw [if_neg h1]; simp [h1]

/-! cnfOk -/
/-- A right clause. -/
def GoodClause (sw : Int) (p : List Int) : Prop := p.length ≤ 400 ∧ ∀ i : Nat, i < p.length → rd p (i : Int) ≠ 0 ∧ -sw ≤ rd p (i : Int) ∧ rd p (i : Int) ≤ sw
theorem abs_pos {n sw : Int} (h : sw ≤ 400) (h0 : n ≠ 0) (h1 : -sw ≤ n) (h2 : n ≤ sw) : ¬ mx n (wrap64 (-n)) ≤ 0 := by
  rw [wrap64_id (by omega) (by omega)]
  unfold mx
  split <;> omega
theorem clause_rows (sw : Int) (cl : List (List Int)) (v : Nat) (h0 : 0 ≤ sw) (h1 : sw ≤ 400) (hv : v < cl.length) (hcl : cl.length ≤ 4000) (hp : (rd_L1 cl (v : Int)).length ≤ 400) :
    ∀ d i, (rd_L1 cl (v : Int)).length - i = d → i ≤ (rd_L1 cl (v : Int)).length → ∀ bf : Int, (i = 0 → bf = 0) → (∀ j : Nat, j + 1 = i → bf = mx (rd (rd_L1 cl (v : Int)) (j : Int)) (wrap64 (-(rd (rd_L1 cl (v : Int)) (j : Int))))) →
      ((∀ j : Nat, i ≤ j → j < (rd_L1 cl (v : Int)).length → rd (rd_L1 cl (v : Int)) (j : Int) ≠ 0 ∧ -sw ≤ rd (rd_L1 cl (v : Int)) (j : Int) ∧ rd (rd_L1 cl (v : Int)) (j : Int) ≤ sw) ∧
        Ev (fun k => impl_clauseOk.l0 k sw bf (rd_L1 cl (v : Int)) ((rd_L1 cl (v : Int)).length : Int) (i : Int)) true ∧ (∀ z, Ev (fun k => spec_CnfOk.l0 k ((v : Int) + 1) sw cl) z → Ev (fun k => spec_CnfOk.l1 k (v : Int) (i : Int) sw cl) z)) ∨
      (Ev (fun k => impl_clauseOk.l0 k sw bf (rd_L1 cl (v : Int)) ((rd_L1 cl (v : Int)).length : Int) (i : Int)) false ∧ Ev (fun k => spec_CnfOk.l1 k (v : Int) (i : Int) sw cl) false) := by
  obtain ⟨p, hpe⟩ : ∃ p, p = rd_L1 cl (v : Int) := ⟨_, rfl⟩
  rw [← hpe] at hp ⊢
  have hw : True → wrap64 (-sw) = -sw := fun _ => wrap64_id (by omega) (by omega)
  intro d
  induction d with
  | zero =>
    intro i hd hi bf b0 b1
    left
    refine ⟨fun j g1 g2 => absurd g1 (by omega), Ev.step (f := fun _ => some true) (fun k => ?_) (Ev.now _), fun z hz => Ev.step (fun k => ?_) hz⟩
    · simp (disch := omega) only [impl_clauseOk.l0, ↓if_neg]
    · simp (disch := omega) only [spec_CnfOk.l1, ← hpe, ↓if_pos, ↓if_neg, wrap64_id]
  | succ d ih =>
    intro i hd hi bf b0 b1
    have hil : i < p.length := by omega
    obtain ⟨x, hx⟩ : ∃ x, x = rd p (i : Int) := ⟨_, rfl⟩
    by_cases c0 : x = 0
    · right
      refine ⟨Ev.step (f := fun _ => some false) (fun k => ?_) (Ev.now _), Ev.step (f := fun _ => some false) (fun k => ?_) (Ev.now _)⟩
      · simp (disch := omega) only [impl_clauseOk.l0, ← hx, ↓if_pos]
      · simp (disch := omega) only [spec_CnfOk.l1, ← hpe, ← hx, ↓if_pos]
    · by_cases cin : -sw ≤ x ∧ x ≤ sw
      · have din := decide_eq_true cin
        by_cases cb : mx x (wrap64 (-x)) ≤ bf
        · right
          have i0 : i ≠ 0 := fun h => abs_pos h1 c0 cin.1 cin.2 (by rw [b0 h] at cb; exact cb)
          obtain ⟨q, rfl⟩ : ∃ q, i = q + 1 := ⟨i - 1, by omega⟩
          have hq := b1 q rfl
          have e1 : True → wrap64 (((q + 1 : Nat) : Int) - 1) = (q : Int) := fun _ => by rw [wrap64_id (by omega) (by omega)]; omega
          refine ⟨Ev.step (f := fun _ => some false) (fun k => ?_) (Ev.now _), Ev.step (f := fun _ => some false) (fun k => ?_) (Ev.now _)⟩
          · simp (disch := first | omega | trivial) only [impl_clauseOk.l0, ← hx, ↓if_pos, ↓if_neg, inside_eq, hw, din, Option.bind_some, ↓reduceIte, if_pos cb]
          · simp (disch := first | omega | trivial) only [spec_CnfOk.l1, ← hpe, ← hx, ↓if_pos, ↓if_neg, l1In_eq, hw, din, Option.bind_some, ↓reduceIte, spec_l18Abs.f, e1, ← hq, if_pos cb]
        · have rest := ih (i + 1) (by omega) (by omega) (mx x (wrap64 (-x))) (fun h => absurd h (by omega)) (fun j hj => by
            obtain rfl : j = i := by omega
            rw [hx])
          have s1 : ∀ z, Ev (fun k => impl_clauseOk.l0 k sw (mx x (wrap64 (-x))) p (p.length : Int) ((i + 1 : Nat) : Int)) z → Ev (fun k => impl_clauseOk.l0 k sw bf p (p.length : Int) (i : Int)) z := fun z hz => Ev.step (fun k => by
            simp (disch := first | omega | trivial) only [impl_clauseOk.l0, ← hx, ↓if_pos, ↓if_neg, inside_eq, hw, din, Option.bind_some, ↓reduceIte, if_neg cb, wrap_next]) hz
          have s2 : ∀ z, Ev (fun k => spec_CnfOk.l1 k (v : Int) ((i + 1 : Nat) : Int) sw cl) z → Ev (fun k => spec_CnfOk.l1 k (v : Int) (i : Int) sw cl) z := fun z hz => by
            by_cases i0 : i = 0
            · exact Ev.step (fun k => by
                simp (disch := first | omega | trivial) only [spec_CnfOk.l1, ← hpe, ← hx, ↓if_pos, ↓if_neg, l1In_eq, hw, din, Option.bind_some, ↓reduceIte, wrap_next]) hz
            · obtain ⟨q, rfl⟩ : ∃ q, i = q + 1 := ⟨i - 1, by omega⟩
              have hq := b1 q rfl
              have e1 : True → wrap64 (((q + 1 : Nat) : Int) - 1) = (q : Int) := fun _ => by rw [wrap64_id (by omega) (by omega)]; omega
              exact Ev.step (fun k => by
                simp (disch := first | omega | trivial) only [spec_CnfOk.l1, ← hpe, ← hx, ↓if_pos, ↓if_neg, l1In_eq, hw, din, Option.bind_some, ↓reduceIte, spec_l18Abs.f, e1, ← hq, if_neg cb, wrap_next]) hz
          rcases rest with ⟨a1, a2, a3⟩ | ⟨a1, a2⟩
          · left
            refine ⟨fun j g1 g2 => ?_, s1 _ a2, fun z hz => s2 z (a3 z hz)⟩
            by_cases e : j = i
            · subst e
              rw [← hx]
              exact ⟨c0, cin.1, cin.2⟩
            · exact a1 j (by omega) g2
          · exact .inr ⟨s1 _ a1, s2 _ a2⟩
      · have din := decide_eq_false cin
        right
        refine ⟨Ev.step (f := fun _ => some false) (fun k => ?_) (Ev.now _), Ev.step (f := fun _ => some false) (fun k => ?_) (Ev.now _)⟩
        · simp (disch := first | omega | trivial) only [impl_clauseOk.l0, ← hx, ↓if_pos, ↓if_neg, inside_eq, hw, din, Option.bind_some, ↓reduceIte, Bool.false_eq_true]
        · simp (disch := first | omega | trivial) only [spec_CnfOk.l1, ← hpe, ← hx, ↓if_pos, ↓if_neg, l1In_eq, hw, din, Option.bind_some, ↓reduceIte, Bool.false_eq_true]
theorem cnf_loops (sw : Int) (cl : List (List Int)) (h0 : 0 ≤ sw) (h1 : sw ≤ 400) (hcl : cl.length ≤ 4000) :
    ∀ d v, cl.length - v = d → v ≤ cl.length →
      (Ev (fun k => spec_CnfOk.l0 k (v : Int) sw cl) true ∧ Ev (fun k => idxG (impl_CnfOk.p k sw) (cl.drop v) (v : Int)) (-1) ∧ ∀ p ∈ cl.drop v, GoodClause sw p) ∨
      (Ev (fun k => spec_CnfOk.l0 k (v : Int) sw cl) false ∧ ∃ r : Int, 0 ≤ r ∧ Ev (fun k => idxG (impl_CnfOk.p k sw) (cl.drop v) (v : Int)) r) := by
  intro d
  induction d with
  | zero =>
    intro v hd hv
    left
    have e : cl.drop v = [] := List.drop_eq_nil_of_le (by omega)
    rw [e]
    refine ⟨Ev.step (f := fun _ => some true) (fun k => ?_) (Ev.now _), ⟨0, fun k _ => rfl⟩, fun p hp => by cases hp⟩
    simp (disch := omega) only [spec_CnfOk.l0, ↓if_neg]
  | succ d ih =>
    intro v hd hv
    have hvl : v < cl.length := by omega
    obtain ⟨p, hpe⟩ : ∃ p, p = rd_L1 cl (v : Int) := ⟨_, rfl⟩
    have hdrop : cl.drop v = p :: cl.drop (v + 1) := by rw [List.drop_eq_getElem_cons hvl, hpe, rdE_L1 cl v hvl]
    rw [hdrop]
    have bad : Ev (fun k => impl_clauseOk.f k p sw) false → ∃ r : Int, 0 ≤ r ∧ Ev (fun k => idxG (impl_CnfOk.p k sw) (p :: cl.drop (v + 1)) (v : Int)) r := fun h => by
      obtain ⟨K, h⟩ := h
      refine ⟨(v : Int), by omega, K, fun k hk => ?_⟩
      have h := h k hk
      dsimp only at h ⊢
      simp only [idxG, impl_CnfOk.p, h, Option.bind_some, Bool.not_false, ↓reduceIte]
    by_cases c4 : (p.length : Int) > 400
    · right
      refine ⟨Ev.step (f := fun _ => some false) (fun k => ?_) (Ev.now _), bad ⟨0, fun k _ => ?_⟩⟩
      · simp (disch := omega) only [spec_CnfOk.l0, ← hpe, ↓if_pos]
      · simp (disch := omega) only [impl_clauseOk.f, ↓if_pos]
    · have hrow := clause_rows sw cl v h0 h1 hvl hcl (by rw [← hpe]; omega) _ 0 rfl (by omega) 0 (fun _ => rfl) (fun j hj => absurd hj (by omega))
      rw [← hpe] at hrow
      have hf : ∀ z, Ev (fun k => impl_clauseOk.l0 k sw 0 p (p.length : Int) ((0 : Nat) : Int)) z → Ev (fun k => impl_clauseOk.f k p sw) z := fun z hz => Ev.congr (fun k => by simp (disch := omega) only [impl_clauseOk.f, ↓if_neg]; rfl) hz
      have hs : ∀ z, Ev (fun k => spec_CnfOk.l1 k (v : Int) ((0 : Nat) : Int) sw cl) z → Ev (fun k => spec_CnfOk.l0 k (v : Int) sw cl) z := fun z hz => Ev.step (fun k => by simp (disch := omega) only [spec_CnfOk.l0, ← hpe, ↓if_pos, ↓if_neg]; rfl) hz
      rcases hrow with ⟨a1, a2, a3⟩ | ⟨a1, a2⟩
      · have hgo : ∀ r, Ev (fun k => idxG (impl_CnfOk.p k sw) (cl.drop (v + 1)) ((v + 1 : Nat) : Int)) r → Ev (fun k => idxG (impl_CnfOk.p k sw) (p :: cl.drop (v + 1)) (v : Int)) r := fun r hr => by
          obtain ⟨K, h⟩ := hf _ a2
          obtain ⟨K2, h2⟩ := hr
          refine ⟨K + K2, fun k hk => ?_⟩
          have h := h k (by omega)
          have h2 := h2 k (by omega)
          dsimp only at h h2 ⊢
          simp only [idxG, impl_CnfOk.p, h, Option.bind_some, Bool.not_true, Bool.false_eq_true, ↓reduceIte]
          exact h2
        rcases ih (v + 1) (by omega) (by omega) with ⟨b1, b2, b3⟩ | ⟨b1, r, b2, b3⟩
        · left
          refine ⟨hs _ (a3 _ (by simpa using b1)), hgo _ b2, fun q hq => ?_⟩
          rcases List.mem_cons.1 hq with rfl | hq
          · exact ⟨by omega, fun i hi => a1 i (by omega) hi⟩
          · exact b3 q hq
        · exact .inr ⟨hs _ (a3 _ (by simpa using b1)), r, b2, hgo _ b3⟩
      · exact .inr ⟨hs _ a2, bad (hf _ a1)⟩
theorem cnf_core (sw : Int) (cl : List (List Int)) : ∃ b, Ev (fun k => spec_CnfOk.f k sw cl) b ∧ Ev (fun k => impl_CnfOk.f k sw cl) b ∧ (b = true → 0 ≤ sw ∧ sw ≤ 400 ∧ cl.length ≤ 4000 ∧ ∀ p ∈ cl, GoodClause sw p) := by
  have no : ∀ (P : Prop), ((false : Bool) = true → P) := fun P h => by cases h
  by_cases cs : 0 ≤ sw ∧ sw ≤ 400
  · have ds := decide_eq_true cs
    by_cases c4 : (cl.length : Int) > 4000
    · have d4 := decide_eq_true c4
      refine ⟨false, ⟨1, fun k hk => ?_⟩, ⟨0, fun k hk => ?_⟩, no _⟩
      · obtain ⟨m, rfl⟩ : ∃ m, k = m + 1 := ⟨k - 1, by omega⟩
        simp (disch := omega) only [spec_CnfOk.f, l1In_eq, ds, Option.bind_some, ↓reduceIte, d4, spec_CnfOk.j0]
      · simp (disch := omega) only [impl_CnfOk.f, inside_eq, ds, Option.bind_some, ↓reduceIte, ↓if_pos]
    · have d4 := decide_eq_false c4
      have s1 : ∀ z, Ev (fun k => spec_CnfOk.l0 k ((0 : Nat) : Int) sw cl) z → Ev (fun k => spec_CnfOk.f k sw cl) z := by
        rintro z ⟨K, h⟩
        refine ⟨K + 1, fun k hk => ?_⟩
        obtain ⟨m, rfl⟩ : ∃ m, k = m + 1 := ⟨k - 1, by omega⟩
        have h := h m (by omega)
        simp (disch := omega) only [spec_CnfOk.f, l1In_eq, ds, Option.bind_some, ↓reduceIte, d4, spec_CnfOk.j0, Bool.false_eq_true]
        exact h
      have s2 : ∀ r : Int, Ev (fun k => idxG (impl_CnfOk.p k sw) cl ((0 : Nat) : Int)) r → Ev (fun k => impl_CnfOk.f k sw cl) (!decide (0 ≤ r)) := by
        rintro r ⟨K, h⟩
        refine ⟨K, fun k hk => ?_⟩
        have h : idxG (impl_CnfOk.p k sw) cl 0 = some r := h k (by omega)
        simp (disch := omega) only [impl_CnfOk.f, inside_eq, ds, Option.bind_some, ↓reduceIte, ↓if_neg, h]
      rcases cnf_loops sw cl cs.1 cs.2 (by omega) cl.length 0 (by omega) (by omega) with ⟨b1, b2, b3⟩ | ⟨b1, r, b2, b3⟩
      · rw [List.drop_zero] at b2 b3
        exact ⟨true, s1 _ b1, s2 _ b2, fun _ => ⟨cs.1, cs.2, by omega, b3⟩⟩
      · rw [List.drop_zero] at b3
        refine ⟨false, s1 _ b1, ?_, no _⟩
        have := s2 _ b3
        rwa [decide_eq_true b2] at this
  · have ds := decide_eq_false cs
    refine ⟨false, ⟨1, fun k hk => ?_⟩, ⟨0, fun k hk => ?_⟩, no _⟩
    · obtain ⟨m, rfl⟩ : ∃ m, k = m + 1 := ⟨k - 1, by omega⟩
      simp (disch := omega) only [spec_CnfOk.f, l1In_eq, ds, Option.bind_some, ↓reduceIte, Bool.false_eq_true, spec_CnfOk.j0]
    · simp (disch := omega) only [impl_CnfOk.f, inside_eq, ds, Option.bind_some, ↓reduceIte, Bool.false_eq_true]
theorem cnfOk_agree (sw : Int) (cl : List (List Int)) (U0 : UpI_Cnf 1048576 ⟨sw, cl⟩) (W0 : WfI_Cnf ⟨sw, cl⟩) : ∃ b, Ev (fun k => spec_CnfOk.f k sw cl) b ∧ Ev (fun k => impl_CnfOk.f k sw cl) b := by
  obtain ⟨b, h1, h2, _⟩ := cnf_core sw cl
  exact ⟨b, h1, h2⟩

/-! meets -/
theorem abs_in (n sw : Int) (h : sw ≤ 400) (h0 : n ≠ 0) (h1 : -sw ≤ n) (h2 : n ≤ sw) : 0 ≤ wrap64 (mx n (wrap64 (-n)) - 1) ∧ wrap64 (mx n (wrap64 (-n)) - 1) < sw := by
  rw [wrap64_id (x := -n) (by omega) (by omega)]
  have : 1 ≤ mx n (-n) ∧ mx n (-n) ≤ sw := by
    unfold mx
    split <;> omega
  rw [wrap64_id (by omega) (by omega)]
  omega
theorem meets_on (on : List Bool) (sw : Int) (cl : List (List Int)) (v : Nat) (hv : v < cl.length) (hcl : cl.length ≤ 4000) (hp : (rd_L1 cl (v : Int)).length ≤ 400) (z : Bool) (hz : Ev (fun k => spec_Meets.l0 k on ((v + 1 : Nat) : Int) sw cl) z) :
    ∀ d i, (rd_L1 cl (v : Int)).length - i = d → i ≤ (rd_L1 cl (v : Int)).length → Ev (fun k => spec_Meets.l1 k on (v : Int) true (i : Int) sw cl) z := by
  obtain ⟨p, hpe⟩ : ∃ p, p = rd_L1 cl (v : Int) := ⟨_, rfl⟩
  rw [← hpe] at hp ⊢
  intro d
  induction d with
  | zero =>
    intro i hd hi
    refine Ev.step (fun k => ?_) hz
    simp (disch := omega) only [spec_Meets.l1, ← hpe, ↓if_pos, ↓if_neg, ↓reduceIte, wrap_next]
  | succ d ih =>
    intro i hd hi
    refine Ev.step (fun k => ?_) (ih (i + 1) (by omega) (by omega))
    simp (disch := omega) only [spec_Meets.l1, ← hpe, ↓if_pos, ↓reduceIte, wrap_next]
theorem meets_row (on : List Bool) (sw : Int) (cl : List (List Int)) (v : Nat) (hv : v < cl.length) (hcl : cl.length ≤ 4000) (hsw : sw ≤ 400) (hon : (on.length : Int) = sw) (hg : GoodClause sw (rd_L1 cl (v : Int))) :
    ∀ d i, (rd_L1 cl (v : Int)).length - i = d → i ≤ (rd_L1 cl (v : Int)).length →
      (∃ r : Int, 0 ≤ r ∧ idxG (impl_Meets.q on) ((rd_L1 cl (v : Int)).drop i) (i : Int) = some r ∧ ∀ z, Ev (fun k => spec_Meets.l0 k on ((v + 1 : Nat) : Int) sw cl) z → Ev (fun k => spec_Meets.l1 k on (v : Int) false (i : Int) sw cl) z) ∨
      (idxG (impl_Meets.q on) ((rd_L1 cl (v : Int)).drop i) (i : Int) = some (-1) ∧ Ev (fun k => spec_Meets.l1 k on (v : Int) false (i : Int) sw cl) false) := by
  have hall := fun z hz => meets_on on sw cl v hv hcl hg.1 z hz
  obtain ⟨p, hpe⟩ : ∃ p, p = rd_L1 cl (v : Int) := ⟨_, rfl⟩
  rw [← hpe] at hg hall ⊢
  obtain ⟨hp, hg⟩ := hg
  intro d
  induction d with
  | zero =>
    intro i hd hi
    right
    refine ⟨?_, Ev.step (f := fun _ => some false) (fun k => ?_) (Ev.now _)⟩
    · rw [List.drop_eq_nil_of_le (by omega)]
      rfl
    · simp (disch := omega) only [spec_Meets.l1, ← hpe, ↓if_pos, ↓if_neg, ↓reduceIte, Bool.false_eq_true]
  | succ d ih =>
    intro i hd hi
    have hil : i < p.length := by omega
    obtain ⟨x, hx⟩ : ∃ x, x = rd p (i : Int) := ⟨_, rfl⟩
    have hdrop : p.drop i = x :: p.drop (i + 1) := by
      rw [List.drop_eq_getElem_cons hil, hx]
      congr 1
      unfold rd
      rw [List.getD_eq_getElem?_getD, Int.toNat_natCast, List.getElem?_eq_getElem hil]
      rfl
    have gx := hg i hil
    rw [← hx] at gx
    have hj := abs_in x sw hsw gx.1 gx.2.1 gx.2.2
    obtain ⟨j, hje⟩ : ∃ j, j = wrap64 (mx x (wrap64 (-x)) - 1) := ⟨_, rfl⟩
    rw [← hje] at hj
    obtain ⟨b, hb⟩ : ∃ b, b = ((rdOf false on j) == (decide (x > 0))) := ⟨_, rfl⟩
    have hq : impl_Meets.q on x = some b := by
      unfold impl_Meets.q
      rw [← hje, if_pos ⟨hj.1, by omega⟩, ← hb]
    have s2 : ∀ z, Ev (fun k => spec_Meets.l1 k on (v : Int) b ((i + 1 : Nat) : Int) sw cl) z → Ev (fun k => spec_Meets.l1 k on (v : Int) false (i : Int) sw cl) z := fun z hz => Ev.step (fun k => by
      simp (disch := omega) only [spec_Meets.l1, ← hpe, ← hx, ↓if_pos, ↓reduceIte, Bool.false_eq_true, spec_l18Abs.f, Option.bind_some, ← hje, ← hb, wrap_next]) hz
    rw [hdrop]
    cases b with
    | true =>
      left
      refine ⟨(i : Int), by omega, ?_, fun z hz => s2 z (hall z hz _ (i + 1) rfl (by omega))⟩
      simp only [idxG, hq, Option.bind_some, ↓reduceIte]
    | false =>
      have hi1 : idxG (impl_Meets.q on) (x :: p.drop (i + 1)) (i : Int) = idxG (impl_Meets.q on) (p.drop (i + 1)) ((i + 1 : Nat) : Int) := by
        simp only [idxG, hq, Option.bind_some, ↓reduceIte, Bool.false_eq_true]
        rfl
      rw [hi1]
      rcases ih (i + 1) (by omega) (by omega) with ⟨r, a0, a1, a2⟩ | ⟨a1, a2⟩
      · exact .inl ⟨r, a0, a1, fun z hz => s2 z (a2 z hz)⟩
      · exact .inr ⟨a1, s2 _ a2⟩
theorem meets_loops (on : List Bool) (sw : Int) (cl : List (List Int)) (hcl : cl.length ≤ 4000) (hsw : sw ≤ 400) (hon : (on.length : Int) = sw) (hg : ∀ v : Nat, v < cl.length → GoodClause sw (rd_L1 cl (v : Int))) :
    ∀ d v, cl.length - v = d → v ≤ cl.length → ∃ r : Int, idxG (impl_Meets.p on) (cl.drop v) (v : Int) = some r ∧ Ev (fun k => spec_Meets.l0 k on (v : Int) sw cl) (!decide (0 ≤ r)) := by
  intro d
  induction d with
  | zero =>
    intro v hd hv
    refine ⟨-1, by rw [List.drop_eq_nil_of_le (by omega)]; rfl, Ev.step (f := fun _ => some true) (fun k => ?_) (Ev.now _)⟩
    simp (disch := omega) only [spec_Meets.l0, ↓if_neg]
  | succ d ih =>
    intro v hd hv
    have hvl : v < cl.length := by omega
    obtain ⟨p, hpe⟩ : ∃ p, p = rd_L1 cl (v : Int) := ⟨_, rfl⟩
    have hdrop : cl.drop v = p :: cl.drop (v + 1) := by rw [List.drop_eq_getElem_cons hvl, hpe, rdE_L1 cl v hvl]
    have hrow := meets_row on sw cl v hvl hcl hsw hon (hg v hvl) _ 0 rfl (by omega)
    rw [← hpe, List.drop_zero] at hrow
    have s0 : ∀ z, Ev (fun k => spec_Meets.l1 k on (v : Int) false ((0 : Nat) : Int) sw cl) z → Ev (fun k => spec_Meets.l0 k on (v : Int) sw cl) z := fun z hz => Ev.step (fun k => by
      simp (disch := omega) only [spec_Meets.l0, ↓if_pos]
      rfl) hz
    rw [hdrop]
    rcases hrow with ⟨r, a0, a1, a2⟩ | ⟨a1, a2⟩
    · obtain ⟨r2, b1, b2⟩ := ih (v + 1) (by omega) (by omega)
      refine ⟨r2, ?_, s0 _ (a2 _ b2)⟩
      have a1 : idxG (impl_Meets.q on) p 0 = some r := a1
      have : impl_Meets.p on p = some false := by
        simp only [impl_Meets.p, a1, Option.bind_some, decide_eq_true a0, Bool.not_true]
      simp only [idxG, this, Option.bind_some, ↓reduceIte, Bool.false_eq_true]
      exact b1
    · refine ⟨(v : Int), ?_, ?_⟩
      · have a1 : idxG (impl_Meets.q on) p 0 = some (-1) := a1
        have : impl_Meets.p on p = some true := by
          simp only [impl_Meets.p, a1, Option.bind_some]
          rfl
        simp only [idxG, this, Option.bind_some, ↓reduceIte]
      · rw [decide_eq_true (show (0 : Int) ≤ (v : Int) by omega)]
        exact s0 _ a2
theorem meets_agree (sw : Int) (cl : List (List Int)) (on : List Bool) (U0 : UpI_Cnf 1048576 ⟨sw, cl⟩) (W0 : WfI_Cnf ⟨sw, cl⟩) (U1 : (on.length : Int) ≤ 1048576) (W1 : ∀ y ∈ on, True) : ∃ b, Ev (fun k => spec_Meets.f k sw cl on) b ∧ Ev (fun k => impl_Meets.f k sw cl on) b := by
  obtain ⟨b, ⟨K1, h1⟩, ⟨K2, h2⟩, h3⟩ := cnf_core sw cl
  cases b with
  | false =>
    refine ⟨false, ⟨K1 + 1, fun k hk => ?_⟩, K2, fun k hk => ?_⟩
    · have h1 := h1 k (by omega)
      obtain ⟨m, rfl⟩ : ∃ m, k = m + 1 := ⟨k - 1, by omega⟩
      dsimp only at h1 ⊢
      simp only [spec_Meets.f, h1, Option.bind_some, ↓reduceIte, Bool.false_eq_true, spec_Meets.j0]
    · have h2 := h2 k hk
      dsimp only at h2 ⊢
      simp only [impl_Meets.f, h2, Option.bind_some, ↓reduceIte, Bool.false_eq_true]
  | true =>
    obtain ⟨g0, g1, g2, g3⟩ := h3 rfl
    by_cases c : (on.length : Int) = sw
    · have hg : ∀ v : Nat, v < cl.length → GoodClause sw (rd_L1 cl (v : Int)) := fun v hv => by
        rw [rdE_L1 cl v hv]
        exact g3 _ (List.getElem_mem hv)
      obtain ⟨r, a1, K3, a2⟩ := meets_loops on sw cl g2 g1 c hg cl.length 0 (by omega) (by omega)
      rw [List.drop_zero] at a1
      refine ⟨!decide (0 ≤ r), ⟨K1 + K3 + 1, fun k hk => ?_⟩, K2, fun k hk => ?_⟩
      · have h1 := h1 k (by omega)
        obtain ⟨m, rfl⟩ : ∃ m, k = m + 1 := ⟨k - 1, by omega⟩
        have a2 := a2 m (by omega)
        have d : ((on.length : Int) != sw) = false := bne_eq_false_iff_eq.mpr c
        dsimp only at h1 a2 ⊢
        simp only [spec_Meets.f, h1, Option.bind_some, ↓reduceIte, d, Bool.false_eq_true, spec_Meets.j0]
        exact a2
      · have h2 := h2 k hk
        have a1 : idxG (impl_Meets.p on) cl 0 = some r := a1
        dsimp only at h2 ⊢
        simp only [impl_Meets.f, h2, Option.bind_some, ↓reduceIte, if_neg (not_not_intro c), a1]
    · refine ⟨false, ⟨K1 + 1, fun k hk => ?_⟩, K2, fun k hk => ?_⟩
      · have h1 := h1 k (by omega)
        obtain ⟨m, rfl⟩ : ∃ m, k = m + 1 := ⟨k - 1, by omega⟩
        have d : ((on.length : Int) != sw) = true := bne_iff_ne.mpr c
        dsimp only at h1 ⊢
        simp only [spec_Meets.f, h1, Option.bind_some, ↓reduceIte, d, spec_Meets.j0]
      · have h2 := h2 k hk
        dsimp only at h2 ⊢
        simp only [impl_Meets.f, h2, Option.bind_some, ↓reduceIte, if_pos (show (on.length : Int) ≠ sw from c)]
-- SAYS: The program's Meets answers as the reference's Meets does, for all arguments.
theorem FnExactMeets (a0_0 : Int) (l0_1 : List (List Int)) (l1 : List Bool) (q0_0 : (Lit.int .i64 a0_0).wf = true) (q0_1 : ∀ x ∈ l0_1, (x.length ≤ 9223372036854775807 ∧ ∀ y0 ∈ x, (Lit.int .i64 y0).wf = true)) (hl0_1 : l0_1.length ≤ 9223372036854775807) (q1 : ∀ x ∈ l1, True) (hl1 : l1.length ≤ 9223372036854775807) : ∃ k, laws_FnExactMeets.f k a0_0 l0_1 l1 = some true := by
  by_cases b1 : (l1.length : Int) > 1048576
  · have c1 := eq_true b1
    exact ⟨1 + 1 + 1 + 1, by simp (disch := omega) only [laws_FnExactMeets.f, ↓reduceIte, c1]⟩
  have c1 := eq_false b1
  have u1 : (l1.length : Int) ≤ 1048576 := by omega
  obtain ⟨r0, g0, hb0⟩ := sz_Cnf (⟨a0_0, l0_1⟩ : S65) 1048576 (in_Cnf (⟨a0_0, l0_1⟩ : S65) ⟨q0_0, (And.intro hl0_1 q0_1)⟩) (by omega) (by omega)
  obtain ⟨Ks0, s0⟩ := Ev.binds (g0)
  try dsimp only [cv_Cnf] at s0
  rcases hb0 with hneg | ⟨p0, z0, u0⟩
  · have c0 := eq_true hneg
    exact ⟨Ks0 + 1 + 1 + 1 + 1, by simp (disch := omega) only [laws_FnExactMeets.f, ↓s0, ↓reduceIte, c1, c0]⟩
  have c0 := eq_false (show ¬ r0 < 0 by omega)
  have U0 : UpI_Cnf 1048576 ((cv_Cnf (⟨a0_0, l0_1⟩ : S65))) := (upcv_Cnf _ _ u0)
  have W0 : WfI_Cnf ((cv_Cnf (⟨a0_0, l0_1⟩ : S65))) := wf_Cnf (⟨a0_0, l0_1⟩ : S65) ⟨q0_0, (And.intro hl0_1 q0_1)⟩
  have U1 : ((l1.length : Int) ≤ 1048576) := u1
  have W1 : (∀ y ∈ l1, True) := (fun a3_ ha3_ => trivial)
  obtain ⟨y0, e1, e2⟩ := meets_agree a0_0 l0_1 l1 U0 W0 U1 W1
  obtain ⟨Kt0, t0⟩ := Ev.binds (to_Cnf (⟨a0_0, l0_1⟩ : S65) u0)
  try dsimp only [cv_Cnf] at t0
  obtain ⟨Kt1, t1⟩ := Ev.binds (to_BoolS l1 u1)
  try dsimp only [cv_Cnf] at t1
  obtain ⟨Khs, hs⟩ := Ev.binds (e1)
  obtain ⟨Khi, hi⟩ := Ev.binds (e2)
  obtain ⟨Ke0_, e0_⟩ := Ev.binds (eq_Cnf ((cv_Cnf (⟨a0_0, l0_1⟩ : S65))) U0)
  try dsimp only [cv_Cnf] at e0_
  obtain ⟨Ke1_, e1_⟩ := Ev.binds (eq_BoolS l1 U1)
  try dsimp only [cv_Cnf] at e1_
  exact ⟨Ks0 + Kt0 + Kt1 + Khs + Khi + Ke0_ + Ke1_ + 1 + 1 + 1 + 1, by simp (disch := omega) only [laws_FnExactMeets.f, ↓s0, ↓t0, ↓t1, ↓hs, ↓hi, ↓e0_, ↓e1_, ↓reduceIte, c1, c0, bne_self_eq_false, Bool.false_eq_true, Bool.not_true, Bool.not_false]⟩

end Go.Proofs.Ytipoepnmklaahaa.Pure
