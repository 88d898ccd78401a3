/- The program's JoinBits answers as the reference's JoinBits does, for all arguments. -/
import Derived.Test.YtipoepnmklaahaaPFnExactJoinBitsx6
import Derived.Test.YtipoepnmklaahaaBits
import Derived.Test.YtipoepnmklaahaaLoops
namespace Go.Proofs.Ytipoepnmklaahaa.Pure
open Go Go.RowKit Go.Proofs.Ytipoepnmklaahaa.PFnExactJoinBits Go.Proofs.YtipoepnmklaahaaW.PrintWords Go.Proofs.YtipoepnmklaahaaW.PrintLast Go.Proofs.YtipoepnmklaahaaW.PrintMore Go.Proofs.Ytipoepnmklaahaa.BitsLib Go.Proofs.Ytipoepnmklaahaa.Loops
set_option linter.unusedVariables false
set_option linter.unusedSimpArgs false
set_option maxRecDepth 4000

/-! szn_out -/
theorem szn_out (n : Nat) (left : Int) (hn : (n : Int) ≤ 9223372036854775807) (h0 : 0 ≤ left) (h1 : left ≤ 1048576) :
    ∃ r, (True → wrap64 (left - (n : Int)) = r) ∧ (r < 0 ∨ (0 ≤ r ∧ r ≤ left ∧ (n : Int) ≤ 1048576)) := by
  refine ⟨left - (n : Int), fun _ => wrap64_id (by omega) (by omega), ?_⟩
  by_cases c : left - (n : Int) < 0
  · exact .inl c
  · exact .inr (by omega)

/-! S24 -/
structure S24 where
  f0 : Int
  f1 : List Int

/-! UpL_Bits -/
def UpL_Bits (c : Int) (x : S24) : Prop := ((x.f1.length : Int) ≤ c)

/-! sz_Uint64S -/
theorem sz_Uint64S (x : List Int) (left : Int) (hin : ((x.length : Int) ≤ 9223372036854775807)) (h0 : 0 ≤ left) (h1 : left ≤ 1048576) :
    ∃ r, Ev (fun k => laws_szUint64S.f x left) r ∧ (r < 0 ∨ (0 ≤ r ∧ r ≤ left ∧ ((x.length : Int) ≤ 1048576))) := by
  obtain ⟨r, hr, hb⟩ := szn_out x.length left hin h0 h1
  rcases hb with c | ⟨p0, q0, u0⟩
  · exact ⟨-1, ⟨0, fun k _ => by dsimp only; unfold laws_szUint64S.f; rw [hr trivial, if_pos c]⟩, .inl (by omega)⟩
  · exact ⟨r, ⟨0, fun k _ => by dsimp only; unfold laws_szUint64S.f; rw [hr trivial, if_neg (by omega)]⟩, .inr ⟨p0, q0, u0⟩⟩

/-! sz_Bits -/
theorem sz_Bits (x : S24) (left : Int) (hin : UpL_Bits 9223372036854775807 x) (h0 : 0 ≤ left) (h1 : left ≤ 1048576) :
    ∃ r, Ev (fun k => laws_szBits.f x.f0 x.f1 left) r ∧ (r < 0 ∨ (0 ≤ r ∧ r ≤ left ∧ UpL_Bits 1048576 x)) := by
  unfold UpL_Bits at hin
  have i1 := hin
  obtain ⟨r1, ⟨K1, e1⟩, hb1⟩ := sz_Uint64S x.f1 left i1 (by omega) (by omega)
  rcases hb1 with c1 | ⟨p1, q1, u1⟩
  · exact ⟨-1, ⟨K1, fun k hk => by have e1 := e1 k (by omega); dsimp only at e1 ⊢; unfold laws_szBits.f; rw [e1]; simp only [Option.bind_some]; rw [if_pos c1]⟩, .inl (by omega)⟩
  exact ⟨r1, ⟨K1, fun k hk => by have e1 := e1 k (by omega); dsimp only at e1 ⊢; unfold laws_szBits.f; rw [e1]; simp only [Option.bind_some]; rw [if_neg (by omega)]⟩, .inr ⟨by omega, by omega, u1⟩⟩

/-! S26 -/
structure S26 where
  f0 : Int
  f1 : List Int

/-! UpI_Bits -/
def UpI_Bits (c : Int) (x : S26) : Prop := ((x.f1.length : Int) ≤ c)

/-! cv_Bits -/
def cv_Bits (x : S24) : S26 := ⟨x.f0, x.f1⟩

/-! upcv_Bits -/
theorem upcv_Bits (c : Int) (x : S24) (h : UpL_Bits c x) : UpI_Bits c (cv_Bits x) := by
  unfold UpL_Bits at h
  unfold UpI_Bits
  have i1 := h
  exact i1

/-! in_Bits -/
theorem in_Bits (x : S24) (h : (Lit.int .i64 x.f0).wf = true ∧ (x.f1.length ≤ 9223372036854775807 ∧ ∀ y0 ∈ x.f1, (Lit.int .u64 y0).wf = true)) : UpL_Bits 9223372036854775807 x := by
  obtain ⟨j0, j1⟩ := h
  unfold UpL_Bits
  exact (Int.ofNat_le.2 j1.1)

/-! to_Uint64S -/
theorem to_Uint64S (x : List Int) (h : ((x.length : Int) ≤ 1048576)) : Ev (fun k => laws_toUint64S.f k x) x := by
  have hl := h
  have main := up_loop x.length (filled (fun i => (rd x i)) (List.replicate x.length 0)) (fun k xs i => laws_toUint64S.l0 k x xs i)
    (fun i hi r h2 => by
      obtain ⟨K2, h2⟩ := h2
      refine ⟨K2 + 1, fun k hk => ?_⟩
      obtain ⟨m, rfl⟩ : ∃ m, k = m + 1 := ⟨k - 1, by omega⟩
      have h2 := h2 m (by omega)
      dsimp only at h2 ⊢
      rw [← filled_set _ _ (by simpa using hi)] at h2
      simp only [laws_toUint64S.l0]
      rw [if_pos (by omega), if_pos (by omega)]
      rw [if_pos (by rw [filled_len _ _ (by simp; omega)]; simp; omega), Int.toNat_natCast, wrap64_id (by omega) (by omega)]
      exact h2)
    x (Ev.step (f := fun _ => some x) (fun k => by
      simp only [laws_toUint64S.l0]
      rw [if_neg (by omega), filled_all _ _ (by simp)]
      congr 1
      exact list_of_rd x) (Ev.now _))
  rw [filled_zero] at main
  refine Ev.congr (fun k => ?_) main
  unfold laws_toUint64S.f
  rw [if_pos (by omega), if_pos (by omega), Int.toNat_natCast]

/-! to_Bits -/
theorem to_Bits (x : S24) (h : UpL_Bits 1048576 x) : Ev (fun k => laws_toBits.f k x.f0 x.f1) ((cv_Bits x).f0, (cv_Bits x).f1) := by
  unfold UpL_Bits at h
  have i1 := h
  obtain ⟨K1, e1⟩ := to_Uint64S x.f1 i1
  refine ⟨K1, fun k hk => ?_⟩
  have e1 := e1 k (by omega)
  dsimp only at e1 ⊢
  simp only [laws_toBits.f, e1, Option.bind_some]
  all_goals rfl

/-! eq_Uint64S -/
theorem eq_Uint64S (x : List Int) (h : ((x.length : Int) ≤ 1048576)) : Ev (fun k => laws_eqUint64S.f k x x) true := by
  have hl := h
  have main := up_loop x.length (fun _ => ()) (fun k _ i => laws_eqUint64S.l0 k x x i)
    (fun i hi r h2 => by
      obtain ⟨K2, h2⟩ := h2
      refine ⟨K2 + 1, fun k hk => ?_⟩
      obtain ⟨m, rfl⟩ : ∃ m, k = m + 1 := ⟨k - 1, by omega⟩
      have h2 := h2 m (by omega)
      dsimp only at h2 ⊢
      simp only [laws_eqUint64S.l0]
      rw [if_pos (by omega), if_pos (by omega), if_pos (by omega)]
      simp only [if_true]
      rw [wrap64_id (by omega) (by omega)]
      exact h2)
    true (Ev.step (f := fun _ => some true) (fun k => by
      simp only [laws_eqUint64S.l0]
      rw [if_neg (by omega)]) (Ev.now _))
  obtain ⟨K, h⟩ := main
  refine ⟨K, fun k hk => ?_⟩
  have h := h k hk
  dsimp only at h ⊢
  unfold laws_eqUint64S.f
  rw [if_pos rfl]
  exact h

/-! eq_Bits -/
theorem eq_Bits (x : S26) (h : UpI_Bits 1048576 x) : Ev (fun k => laws_eqBits.f k x.f0 x.f1 x.f0 x.f1) true := by
  unfold UpI_Bits at h
  have i1 := h
  obtain ⟨K1, e1⟩ := eq_Uint64S x.f1 i1
  refine ⟨K1, fun k hk => ?_⟩
  have e1 := e1 k (by omega)
  dsimp only at e1 ⊢
  simp only [laws_eqBits.f, e1, Option.bind_some, if_true, ↓reduceIte, bne_self_eq_false, Bool.false_eq_true]

/-! mark_Uint64S -/
theorem mark_Uint64S (x : List Int) (h : ((x.length : Int) ≤ 1048576)) (m : Int) (h0 : 0 ≤ m) (h1 : m ≤ 4611686018426339328) : ∃ (m' : Int) (x' : List Int), Ev (fun k => laws_markUint64S.f k x m) (m', x') ∧ m ≤ m' ∧ m' ≤ m + 1048576 ∧ Ev (fun k => laws_heldUint64S.f k x' m) m' := by
  have hl : (x.length : Int) ≤ 1048576 := h
  obtain ⟨conv, hconv⟩ : ∃ conv : Nat → Int, ∀ i, conv i = IntKind.u64.wrap (m + 1 * (i : Int)) := ⟨fun i => _, fun _ => rfl⟩
  have main := up_loop x.length (fun i => (m + 1 * (i : Int), filled conv x i)) (fun k s i => laws_markUint64S.l0 k s.2 s.1 i)
    (fun i hi r h2 => by
      obtain ⟨K2, h2⟩ := h2
      refine ⟨K2 + 1, fun k hk => ?_⟩
      obtain ⟨mm, rfl⟩ : ∃ mm, k = mm + 1 := ⟨k - 1, by omega⟩
      have h2 := h2 mm (by omega)
      dsimp only at h2 ⊢
      have hlen : i < (filled conv x i).length := by rw [filled_len _ _ (by omega)]; exact hi
      rw [← filled_set conv x hi, hconv] at h2
      simp (disch := first | omega | (simp only [List.length_set]; omega)) only [laws_markUint64S.l0, ↓if_pos, Option.bind_some, Int.toNat_natCast, wrap64_id]
      rw [show m + 1 * (i : Int) + 1 = m + 1 * ((i + 1 : Nat) : Int) by omega]
      exact h2)
    (m + 1 * (x.length : Int), (List.range x.length).map conv) (Ev.step (f := fun _ => some (m + 1 * (x.length : Int), (List.range x.length).map conv)) (fun k => by
      simp only [laws_markUint64S.l0]
      rw [if_neg (by rw [filled_len _ _ (Nat.le_refl _)]; omega), filled_all _ _ rfl]) (Ev.now _))
  simp only [filled_zero] at main
  refine ⟨m + 1 * (x.length : Int), (List.range x.length).map conv, Ev.congr (fun k => by unfold laws_markUint64S.f; simp) main, by omega, by omega, ?_⟩
  have hrd : ∀ i : Nat, i < x.length → rd ((List.range x.length).map conv) (i : Int) = conv i := fun i hi => by
    rw [rd_getD]
    rw [List.getD_eq_getElem?_getD, Int.toNat_natCast, List.getElem?_map, List.getElem?_range hi]; rfl
  have main2 := up_loop x.length (fun i => m + 1 * (i : Int)) (fun k s i => laws_heldUint64S.l0 k ((List.range x.length).map conv) s i)
    (fun i hi r h2 => by
      obtain ⟨K2, h2⟩ := h2
      refine ⟨K2 + 1, fun k hk => ?_⟩
      obtain ⟨mm, rfl⟩ : ∃ mm, k = mm + 1 := ⟨k - 1, by omega⟩
      have h2 := h2 mm (by omega)
      dsimp only at h2 ⊢
      have hr := hrd i hi
      rw [hconv] at hr
      simp (disch := omega) only [laws_heldUint64S.l0, List.length_map, List.length_range, ↓if_pos, hr, wrap64_id, ↓reduceIte, bne_self_eq_false, Bool.false_eq_true]
      rw [show m + 1 * (i : Int) + 1 = m + 1 * ((i + 1 : Nat) : Int) by omega]
      exact h2)
    (m + 1 * (x.length : Int)) (Ev.step (f := fun _ => some (m + 1 * (x.length : Int))) (fun k => by
      simp only [laws_heldUint64S.l0]
      rw [if_neg (by simp)]) (Ev.now _))
  exact Ev.congr (fun k => by unfold laws_heldUint64S.f; simp) main2

/-! mark_Bits -/
theorem mark_Bits (x : S26) (h : UpI_Bits 1048576 x) (m : Int) (h0 : 0 ≤ m) (h1 : m ≤ 4611686018426339327) : ∃ (m' : Int) (z0 : List Int), Ev (fun k => laws_markBits.f k x.f0 x.f1 m) (m', z0) ∧ m ≤ m' ∧ m' ≤ m + 1048577 ∧ Ev (fun k => laws_heldBits.f k x.f0 z0 m) m' := by
  unfold UpI_Bits at h
  have i1 := h
  obtain ⟨m1, z0, ⟨K1, e1⟩, l1, u1, ⟨L1, d1⟩⟩ := mark_Uint64S x.f1 i1 m (by omega) (by omega)
  refine ⟨m1, z0, ⟨K1, fun k hk => ?_⟩, by omega, by omega, ⟨L1, fun k hk => ?_⟩⟩
  · have e1 := e1 k (by omega); dsimp only at e1 ⊢; unfold laws_markBits.f; rw [e1]; simp only [Option.bind_some]
  · have d1 := d1 k (by omega); dsimp only at d1 ⊢; unfold laws_heldBits.f; rw [d1]; simp only [Option.bind_some]; rw [if_neg (by omega)]

/-! WfI_Bits -/
def WfI_Bits (x : S26) : Prop := (-9223372036854775808 ≤ x.f0 ∧ x.f0 ≤ 9223372036854775807) ∧ (∀ y ∈ x.f1, W64 y)

/-! wf_Bits -/
theorem wf_Bits (x : S24) (h : (Lit.int .i64 x.f0).wf = true ∧ (x.f1.length ≤ 9223372036854775807 ∧ ∀ y0 ∈ x.f1, (Lit.int .u64 y0).wf = true)) : WfI_Bits (cv_Bits x) := by
  obtain ⟨j0, j1⟩ := h
  exact ⟨(wf_i64 j0), (fun a1_ ha1_ => (wf_u64 (j1.2 a1_ ha1_)))⟩

/-! okB -/
noncomputable def okB (w : Int) (l : List Int) : Bool := @decide (Right w l) (Classical.propDecidable _)
theorem okB_true {w : Int} {l : List Int} (h : Right w l) : okB w l = true := by unfold okB; exact @decide_eq_true _ (Classical.propDecidable _) h
theorem okB_false {w : Int} {l : List Int} (h : ¬ Right w l) : okB w l = false := by unfold okB; exact @decide_eq_false _ (Classical.propDecidable _) h
theorem okB_cases (w : Int) (l : List Int) : (okB w l = true ∧ Right w l) ∨ (okB w l = false ∧ ¬ Right w l) := by
  by_cases h : Right w l
  · exact .inl ⟨okB_true h, h⟩
  · exact .inr ⟨okB_false h, h⟩

/-! l1Bit -/
theorem l1Bit_eq (w : Int) (l : List Int) (h : U64s l) (i : Nat) (hi : i < 64 * l.length) (hl : l.length ≤ 1048576) : spec_l1Bit.f w l (i : Int) = some (bitI l i) := by
  unfold spec_l1Bit.f
  rw [tdiv64 i (by omega), utmod64, if_pos (by omega), if_pos (by omega), if_pos (by omega), bit_reads h]
  rcases bitI_01 l i with e | e <;> simp [e]

/-! specBitsOk -/
theorem specBitsOk_l0 (w : Int) (l : List Int) (h : U64s l) (hl : l.length ≤ 1048576) (h1 : 1 ≤ w) (hw : w ≤ 64 * l.length) :
    ∃ b, Ev (fun k => spec_BitsOk.l0 k w w l) b ∧ (b = true ↔ ∀ i : Nat, w ≤ i → bitN l i = false) := by
  rcases find_loop (64 * l.length - w.toNat) (fun i => bitN l (w.toNat + i)) (fun k i => spec_BitsOk.l0 k (w + i) w l) (fun _ => false) true
    (fun i hi hp => Ev.step (f := fun _ => some false) (fun k => by
      simp only [spec_BitsOk.l0]
      rw [wrap64_id (by omega) (by omega), if_pos (by omega), show w + (i : Int) = ((w.toNat + i : Nat) : Int) by omega, l1Bit_eq w l h _ (by omega) hl]
      simp only [Option.bind_some]
      rw [if_neg (by simp only [bitI, hp, if_true]; decide)]) (Ev.now _))
    (fun i hi hp r hr => Ev.step (fun k => by
      simp only [spec_BitsOk.l0]
      rw [wrap64_id (x := 64 * (l.length : Int)) (by omega) (by omega), if_pos (by omega)]
      have e := l1Bit_eq w l h (w.toNat + i) (by omega) hl
      rw [show w + (i : Int) = ((w.toNat + i : Nat) : Int) by omega, e]
      simp only [Option.bind_some]
      rw [if_pos (by simp only [bitI, hp]; rfl), wrap64_id (by omega) (by omega), show ((w.toNat + i : Nat) : Int) + 1 = w + ((i : Int) + 1) by omega]) hr)
    (Ev.step (f := fun _ => some true) (fun k => by
      simp only [spec_BitsOk.l0]
      rw [wrap64_id (by omega) (by omega), if_neg (by omega)]) (Ev.now _)) with ⟨i, hi, hp, _, hr⟩ | ⟨hp, hr⟩
  · refine ⟨false, by simpa using hr, (fun hb => by cases hb), fun hb => ?_⟩
    have := hb (w.toNat + i) (by omega)
    rw [this] at hp; cases hp
  · refine ⟨true, by simpa using hr, fun _ i hi => ?_, fun _ => rfl⟩
    by_cases ho : i < 64 * l.length
    · have := hp (i - w.toNat) (by omega)
      rwa [show w.toNat + (i - w.toNat) = i by omega] at this
    · exact bitN_out (by omega)
theorem specBitsOk_ev (w : Int) (l : List Int) (h : U64s l) (hl : l.length ≤ 1048576) (hw0 : -9223372036854775808 ≤ w) (hw1 : w ≤ 9223372036854775807) : Ev (fun k => spec_BitsOk.f k w l) (okB w l) := by
  by_cases hin : 1 ≤ w ∧ w ≤ 4096
  · have e1 : spec_l1In.f w 1 4096 = some true := by unfold spec_l1In.f; rw [if_pos (by omega), decide_eq_true (by omega)]
    have e2 := fun (_ : True) => words_of w (by omega) (by omega)
    by_cases hlen : (l.length : Int) = (w + 63) / 64
    · obtain ⟨b, hb, hbi⟩ := specBitsOk_l0 w l h hl hin.1 (by omega)
      have : okB w l = b := by
        cases b with
        | true => exact okB_true ⟨hin.1, hin.2, hlen, h, hbi.1 rfl⟩
        | false => exact okB_false fun hr => by have := hbi.2 hr.top; cases this
      rw [this]
      obtain ⟨K, hb⟩ := hb
      refine ⟨K + 1, fun k hk => ?_⟩
      obtain ⟨m, rfl⟩ : ∃ m, k = m + 1 := ⟨k - 1, by omega⟩
      dsimp only
      unfold spec_BitsOk.f
      rw [e1, e2 trivial]
      simp only [Option.bind_some, if_true, spec_BitsOk.j0]
      rw [if_neg (by simp [hlen])]
      exact hb m (by omega)
    · rw [okB_false fun hr => hlen hr.len]
      refine ⟨1, fun k hk => ?_⟩
      obtain ⟨m, rfl⟩ : ∃ m, k = m + 1 := ⟨k - 1, by omega⟩
      dsimp only
      unfold spec_BitsOk.f
      rw [e1, e2 trivial]
      simp only [Option.bind_some, if_true, spec_BitsOk.j0]
      rw [if_pos (by simpa using hlen)]
  · rw [okB_false fun hr => hin ⟨hr.low, hr.high⟩]
    have e1 : spec_l1In.f w 1 4096 = some false := by
      unfold spec_l1In.f
      by_cases h1 : w ≥ 1
      · rw [if_pos h1, decide_eq_false (by omega)]
      · rw [if_neg h1]
    refine ⟨1, fun k hk => ?_⟩
    obtain ⟨m, rfl⟩ : ∃ m, k = m + 1 := ⟨k - 1, by omega⟩
    dsimp only
    unfold spec_BitsOk.f
    rw [e1]
    simp [spec_BitsOk.j0]

/-! implInside -/
theorem inside_eq (a b c : Int) : impl_inside.f a b c = some (decide (b ≤ a ∧ a ≤ c)) := by
  unfold impl_inside.f
  by_cases h1 : b ≤ a
  · rw [if_pos h1]; simp [h1]
  · rw [if_neg h1]; simp [h1]

/-! wordsFor -/
theorem wordsFor_eq (w : Int) (h0 : 0 ≤ w) (h1 : w ≤ 1000000000) : impl_wordsFor.f w = some ((w + 63) / 64) := by
  unfold impl_wordsFor.f
  rw [wrap64_id (x := w + 63) (by omega) (by omega), Int.tdiv_eq_ediv_of_nonneg (by omega), wrap64_id (by omega) (by omega)]

/-! implBitsOk -/
theorem implBitsOk_eq (w : Int) (l : List Int) (h : U64s l) (hl : l.length ≤ 1048576) : impl_BitsOk.f w l = some (okB w l) := by
  unfold impl_BitsOk.f
  rw [inside_eq]
  simp only [Option.bind_some]
  by_cases hin : 1 ≤ w ∧ w ≤ 4096
  · rw [if_pos (decide_eq_true hin), wordsFor_eq w (by omega) (by omega)]
    simp only [Option.bind_some]
    by_cases hlen : (l.length : Int) = (w + 63) / 64
    · rw [if_pos hlen, Int.tmod_eq_emod_of_nonneg (by omega)]
      by_cases hm : w % 64 = 0
      · rw [if_pos hm, okB_true ⟨hin.1, hin.2, hlen, h, fun i hi => bitN_out (by omega)⟩]
      · rw [if_neg hm, wrap64_id (x := (l.length : Int) - 1) (by omega) (by omega), if_pos (by omega), if_pos (by omega), if_pos (by omega)]
        congr 1
        have hx := rd_w64 h ((l.length : Int) - 1)
        have hs := shr_w64 hx (n := w % 64) (by omega)
        by_cases hz : shr .u64 (rd l ((l.length : Int) - 1)) (w % 64) = 0
        · rw [hz]
          refine (okB_true ⟨hin.1, hin.2, hlen, h, fun i hi => ?_⟩).symm
          by_cases ho : i < 64 * l.length
          · have h2 := hs.2 (i % 64 - (w % 64).toNat)
            rw [hz] at h2
            have e : i / 64 = l.length - 1 := by omega
            unfold bitN
            rw [e, ← show (w % 64).toNat + (i % 64 - (w % 64).toNat) = i % 64 by omega]
            rw [rd_getD, show ((l.length : Int) - 1).toNat = l.length - 1 by omega] at h2
            rw [← h2]; simp
          · exact bitN_out (by omega)
        · have e : (shr .u64 (rd l ((l.length : Int) - 1)) (w % 64) == 0) = false := by simpa using hz
          rw [e]
          refine (okB_false fun hr => hz ?_).symm
          have h0 : (shr .u64 (rd l ((l.length : Int) - 1)) (w % 64)).toNat = 0 := by
            apply testBit_ext (by have := hs.1; unfold W64 at this; omega) (by decide)
            intro j hj
            rw [hs.2]
            by_cases hb : (w % 64).toNat + j < 64
            · have := hr.top (64 * (l.length - 1) + ((w % 64).toNat + j)) (by omega)
              unfold bitN at this
              rw [show (64 * (l.length - 1) + ((w % 64).toNat + j)) / 64 = l.length - 1 by omega, show (64 * (l.length - 1) + ((w % 64).toNat + j)) % 64 = (w % 64).toNat + j by omega] at this
              rw [rd_getD, show ((l.length : Int) - 1).toNat = l.length - 1 by omega, this]; simp
            · rw [testBit_w64 hx (by omega)]; simp
          have := hs.1.1
          omega
    · rw [if_neg hlen, okB_false fun hr => hlen hr.len]
  · rw [if_neg (by simpa using hin), okB_false fun hr => hin ⟨hr.low, hr.high⟩]

/-! bitsLsucc -/
theorem bitsL_succ (i : Nat) (l : List Int) : bitsL i l ++ [bitI l i] = bitsL (i + 1) l := by simp [bitsL, List.range_succ]

/-! l1List -/
theorem l1List_ev (w : Int) (l : List Int) (h : Right w l) : Ev (fun k => spec_l1List.f k w l) (bitsL w.toNat l) := by
  have hlen := h.len
  have hlo := h.low
  have hhi := h.high
  have main := up_loop w.toNat (fun i => bitsL i l) (fun k acc i => spec_l1List.l0 k acc i w l)
    (fun i hi r hr => Ev.step (fun k => by
      simp only [spec_l1List.l0]
      rw [if_pos (by omega), l1Bit_eq w l h.words i (by omega) (by omega)]
      simp only [Option.bind_some]
      rw [if_pos (by rw [bitsL_len]; omega), bitsL_succ, wrap64_id (by omega) (by omega)]) hr)
    (bitsL w.toNat l) (Ev.step (f := fun _ => some (bitsL w.toNat l)) (fun k => by
      simp only [spec_l1List.l0]
      rw [if_neg (by omega)]) (Ev.now _))
  exact Ev.congr (fun k => by unfold spec_l1List.f; simp [bitsL]) main

/-! packs -/
/-- ws is the row whose bits are z. -/
structure Packs (z : List Int) (ws : List Int) : Prop where
  right : Right (z.length : Int) ws
  bit : ∀ j, j < z.length → bitN ws j = decide (rd z (j : Int) = 1)
theorem Packs.uniq {z ws ws' : List Int} (h : Packs z ws) (k : Packs z ws') : ws = ws' :=
  h.right.ext k.right fun i hi => by rw [h.bit i (by omega), k.bit i (by omega)]
theorem packs_of {w : Int} {z ws : List Int} (hw : w = z.length) (h : Right w ws) (hb : ∀ j, j < z.length → bitN ws j = decide (rd z (j : Int) = 1)) : Packs z ws := by
  subst hw
  exact ⟨h, hb⟩

/-! l1From -/
theorem l1From_ev (z : List Int) (h01 : Bits01 z) (h1 : 1 ≤ z.length) (h2 : z.length ≤ 4096) :
    ∃ ws, Ev (fun k => spec_l1From.f k z) ((z.length : Int), ws, true) ∧ Packs z ws := by
  have ew := fun (_ : True) => words_of (z.length : Int) (by omega) (by omega)
  obtain ⟨ws, hI, hr⟩ := inv_loop z.length (fun i (ws : List Int) => (ws.length : Int) = ((z.length : Int) + 63) / 64 ∧ U64s ws ∧ ∀ j, bitN ws j = (decide (j < i) && decide (rd z (j : Int) = 1)))
    (fun k ws i => spec_l1From.l0 k z i (z.length : Int) ws)
    (fun i hi ws ⟨hl, hu, hb⟩ => by
      have hk : i / 64 < ws.length := by omega
      have hz := rd_01 h01 (i : Int)
      have e3 := fun (_ : True) => wrap_u64_id (x := rd z (i : Int)) (by omega) (by omega)
      have hzw : W64 (rd z (i : Int)) := by unfold W64; omega
      have hs := shl_nat hzw (i % 64)
      have ho := or_w64 (rd_w64 hu ((i / 64 : Nat) : Int)) hs.1
      refine ⟨ws.set (i / 64) (Go.bits .or .u64 (rd ws ((i / 64 : Nat) : Int)) (shl .u64 (rd z (i : Int)) ((i % 64 : Nat) : Int))), ⟨by simpa using hl, hu.set _ ho.1, fun j => ?_⟩, fun r h => Ev.step (fun k => ?_) h⟩
      · rw [bitN_set hk]
        by_cases hj : j / 64 = i / 64
        · have e4 : (rd ws ((i / 64 : Nat) : Int)).toNat.testBit (j % 64) = bitN ws j := by unfold bitN; rw [hj]; rfl
          rw [if_pos hj, ho.2, hs.2 _ (by omega), e4, hb, testBit_01 hz]
          by_cases hji : j = i
          · subst hji
            simp
          · have e5 : (decide (i % 64 ≤ j % 64) && decide (j % 64 - i % 64 = 0)) = false := by
              by_cases hle : i % 64 ≤ j % 64
              · rw [decide_eq_false (show ¬ j % 64 - i % 64 = 0 by omega)]; simp
              · rw [decide_eq_false hle]; simp
            rw [← Bool.and_assoc, e5]
            by_cases hlt : j < i
            · simp [hlt, show j < i + 1 by omega]
            · simp [hlt, show ¬ j < i + 1 by omega]
        · rw [if_neg hj, hb]
          have : j ≠ i := fun e => hj (by rw [e])
          by_cases hji : j < i
          · simp [hji, show j < i + 1 by omega]
          · simp [hji, show ¬ j < i + 1 by omega]
      · simp only [spec_l1From.l0]
        rw [if_pos (by omega), tdiv64 i (by omega), utmod64, e3 trivial, if_pos (by omega), if_pos (by omega), if_pos (by omega), if_pos (by omega), wrap_succ i (by omega), Int.toNat_natCast])
    (List.replicate (((z.length : Int) + 63) / 64).toNat 0) ⟨by simp; omega, U64s.replicate _, fun j => by rw [bitN_replicate]; simp⟩
  obtain ⟨hl, hu, hb⟩ := hI
  have hright : Right (z.length : Int) ws := ⟨by omega, by omega, by omega, hu, fun i hi => by rw [hb]; simp; omega⟩
  refine ⟨ws, ?_, hright, fun j hj => by rw [hb]; simp [hj]⟩
  have := hr ((z.length : Int), ws, true) (Ev.step (f := fun _ => some ((z.length : Int), ws, true)) (fun k => by simp only [spec_l1From.l0]; rw [if_neg (by omega)]) (Ev.now _))
  obtain ⟨K, hK⟩ := this
  refine ⟨K + 1, fun k hk => ?_⟩
  obtain ⟨m, rfl⟩ : ∃ m, k = m + 1 := ⟨k - 1, by omega⟩
  dsimp only
  unfold spec_l1From.f
  rw [if_neg (by omega), decide_eq_false (by omega)]
  simp only [spec_l1From.j0]
  rw [if_neg (by simp), ew trivial, if_pos (by omega), if_pos (by omega)]
  exact hK m (by omega)
theorem l1From_none (z : List Int) (h : z.length < 1 ∨ 4096 < z.length) : Ev (fun k => spec_l1From.f k z) (0, [], false) := by
  refine ⟨1, fun k hk => ?_⟩
  obtain ⟨m, rfl⟩ : ∃ m, k = m + 1 := ⟨k - 1, by omega⟩
  dsimp only
  unfold spec_l1From.f
  by_cases h1 : (z.length : Int) < 1
  · rw [if_pos h1]; simp [spec_l1From.j0]
  · rw [if_neg h1, decide_eq_true (by omega)]; simp [spec_l1From.j0]

/-! zeroBits -/
theorem zeroBits_eq (w : Int) (h0 : 0 ≤ w) (h1 : w ≤ 1000000) : impl_zeroBits.f w = some (w, List.replicate ((w + 63) / 64).toNat 0) := by
  unfold impl_zeroBits.f
  rw [wordsFor_eq w h0 (by omega)]
  simp only [Option.bind_some]
  rw [if_pos (by omega), if_pos (by omega)]

/-! implPut -/
theorem put_step (k : Nat) (a0 : Int) (s l2 : List Int) (at_ i n : Nat) (hn : l2.length = n) (hi : i < n) (hq : (at_ + 64 * i) / 64 < s.length) (s1 : s.length ≤ 100000) (s2 : n ≤ 100000) :
    impl_Bits_put.l0 (k + 1) (at_ : Int) l2 (n : Int) (i : Int) a0 s = impl_Bits_put.l0 k (at_ : Int) l2 (n : Int) ((i : Int) + 1) a0 (putW s (at_ + 64 * i) (rd l2 (i : Int))) := by
  have h0 := wrap_at at_ i (by omega) (by omega)
  obtain ⟨t, ht⟩ : ∃ t, t = at_ + 64 * i := ⟨_, rfl⟩
  rw [← ht] at h0 hq ⊢
  have c1 : (i : Int) < (n : Int) := by clear h0; omega
  have c2 : (0 : Int) ≤ (i : Int) := by clear h0; omega
  have c4 : (0 : Int) ≤ ((t / 64 : Nat) : Int) := by clear h0; omega
  have c5 : ((t / 64 : Nat) : Int) < (s.length : Int) := by clear h0; omega
  have c6 : (0 : Int) ≤ ((t % 64 : Nat) : Int) := by clear h0; omega
  have ht9 : t ≤ 1000000000 := by clear h0; omega
  simp only [impl_Bits_put.l0]
  rw [h0, tdiv64 t ht9, tmod64, wrap_succ' (t / 64) (by clear h0; omega), wrap_64, wrap_succ i (by clear h0; omega), hn, if_pos c1, if_pos c2, if_pos c1, if_pos c4, if_pos c5, if_pos c6]
  clear h0
  simp only [Option.bind_some, Int.toNat_natCast]
  unfold putW
  by_cases c1 : t % 64 = 0
  · rw [if_pos (show ((t % 64 : Nat) : Int) = 0 by omega), if_pos (.inl c1)]
  · rw [if_neg (show ¬ ((t % 64 : Nat) : Int) = 0 by omega)]
    by_cases c2 : t / 64 + 1 < s.length
    · rw [if_pos (show ((t / 64 + 1 : Nat) : Int) < (s.length : Int) by omega), if_pos (by omega), if_pos (by omega), if_neg (fun h => h.elim c1 (fun h => h c2))]
    · rw [if_neg (show ¬ ((t / 64 + 1 : Nat) : Int) < (s.length : Int) by omega), if_pos (.inr c2)]
theorem put_next (o s l2 : List Int) (at_ i : Nat) (hl : s.length = o.length) (hu : U64s s) (h2 : U64s l2) (hf : at_ + 64 * i < 64 * o.length)
    (hb : ∀ j, j < 64 * o.length → bitN s j = (bitN o j || (decide (at_ ≤ j) && decide (j - at_ < 64 * i) && bitN l2 (j - at_)))) (j : Nat) (hj : j < 64 * o.length) :
    bitN (putW s (at_ + 64 * i) (rd l2 (i : Int))) j = (bitN o j || (decide (at_ ≤ j) && decide (j - at_ < 64 * (i + 1)) && bitN l2 (j - at_))) := by
  rw [putW_bit hu _ (rd_w64 h2 _) (by omega) j (by omega), hb j hj, Bool.or_assoc]
  congr 1
  by_cases c1 : at_ + 64 * i ≤ j
  · by_cases c2 : j < at_ + 64 * i + 64
    · have hw : bitN l2 (j - at_) = (rd l2 (i : Int)).toNat.testBit (j - (at_ + 64 * i)) := by
        rw [← bitN_word _ _ _ (by omega)]; congr 1; omega
      rw [hw, decide_eq_true c1, decide_eq_true c2, decide_eq_false (show ¬ j - at_ < 64 * i by omega), decide_eq_true (show at_ ≤ j by omega), decide_eq_true (show j - at_ < 64 * (i + 1) by omega)]; simp
    · rw [decide_eq_false c2, decide_eq_false (show ¬ j - at_ < 64 * i by omega), decide_eq_false (show ¬ j - at_ < 64 * (i + 1) by omega)]; simp
  · rw [decide_eq_false c1]
    by_cases c3 : at_ ≤ j
    · rw [decide_eq_true (show j - at_ < 64 * i by omega), decide_eq_true (show j - at_ < 64 * (i + 1) by omega)]; simp
    · rw [decide_eq_false c3]; simp
theorem put_ev (a0 w2 : Int) (o l2 : List Int) (at_ : Nat) (ho : U64s o) (h2 : U64s l2) (hfit : ∀ i, i < l2.length → at_ + 64 * i < 64 * o.length) (s1 : o.length ≤ 100000) (s2 : l2.length ≤ 100000) :
    ∃ o', Ev (fun k => impl_Bits_put.f k a0 o (at_ : Int) w2 l2) o' ∧ o'.length = o.length ∧ U64s o' ∧ ∀ j, j < 64 * o.length → bitN o' j = (bitN o j || (decide (at_ ≤ j) && bitN l2 (j - at_))) := by
  obtain ⟨o', ⟨hl, hu, hb⟩, hr⟩ := inv_loop l2.length (fun i (s : List Int) => s.length = o.length ∧ U64s s ∧ ∀ j, j < 64 * o.length → bitN s j = (bitN o j || (decide (at_ ≤ j) && decide (j - at_ < 64 * i) && bitN l2 (j - at_))))
    (fun k s i => impl_Bits_put.l0 k (at_ : Int) l2 (l2.length : Int) i a0 s)
    (fun i hi s ⟨hl, hu, hb⟩ => ⟨putW s (at_ + 64 * i) (rd l2 (i : Int)), ⟨by rw [putW_len, hl], putW_u64 hu _ (rd_w64 h2 _) (by have := hfit i hi; omega), put_next o s l2 at_ i hl hu h2 (hfit i hi) hb⟩,
      fun r h => Ev.step (fun k => put_step k a0 s l2 at_ i l2.length rfl hi (by have := hfit i hi; omega) (by omega) s2) h⟩)
    o ⟨rfl, ho, fun j hj => by simp⟩
  refine ⟨o', ?_, hl, hu, fun j hj => ?_⟩
  · have := hr o' (Ev.step (f := fun _ => some o') (fun k => by simp only [impl_Bits_put.l0]; rw [if_neg (by omega)]) (Ev.now _))
    exact Ev.congr (fun k => by unfold impl_Bits_put.f; rfl) this
  · rw [hb j hj]
    by_cases c : j - at_ < 64 * l2.length
    · rw [decide_eq_true c]; simp
    · rw [bitN_out (l := l2) (i := j - at_) (by omega)]; simp

/-! implOver -/
theorem over_ev (w w2 : Int) (l l2 : List Int) (h : Right w l) (h2 : Right w2 l2) (hs : w + w2 ≤ 4096) :
    ∃ ws, Ev (fun k => impl_Bits_over.f k w l w2 l2) (w + w2, ws) ∧ Right (w + w2) ws ∧ ∀ j : Nat, bitN ws j = if (j : Int) < w2 then bitN l2 j else bitN l (j - w2.toNat) := by
  have a1 := h.low; have a2 := h2.low; have a3 := h.len; have a4 := h2.len
  have hz : ((List.replicate ((w + w2 + 63) / 64).toNat (0 : Int)).length : Int) = (w + w2 + 63) / 64 := by simp; omega
  obtain ⟨o1, e1, n1, u1, b1⟩ := put_ev (w + w2) w2 (List.replicate ((w + w2 + 63) / 64).toNat 0) l2 0 (U64s.replicate _) h2.words (fun i hi => by omega) (by omega) (by omega)
  obtain ⟨o2, e2, n2, u2, b2⟩ := put_ev (w + w2) w o1 l w2.toNat u1 h.words (fun i hi => by omega) (by omega) (by omega)
  have hb : ∀ j : Nat, j < 64 * o2.length → bitN o2 j = if (j : Int) < w2 then bitN l2 j else bitN l (j - w2.toNat) := by
    intro j hj
    rw [b2 j (by omega), b1 j (by omega), bitN_replicate]
    by_cases c : (j : Int) < w2
    · simp [c, show ¬ w2.toNat ≤ j by omega]
    · rw [if_neg c]
      simp [show w2.toNat ≤ j by omega, h2.top j (by omega)]
  have hb' : ∀ j : Nat, bitN o2 j = if (j : Int) < w2 then bitN l2 j else bitN l (j - w2.toNat) := by
    intro j
    by_cases hj : j < 64 * o2.length
    · exact hb j hj
    · rw [bitN_out (by omega), if_neg (by omega), h.top _ (by omega)]
  refine ⟨o2, ?_, ⟨by omega, hs, by omega, u2, fun j hj => ?_⟩, hb'⟩
  · obtain ⟨K1, e1⟩ := e1
    obtain ⟨K2, e2⟩ := e2
    refine ⟨K1 + K2, fun k hk => ?_⟩
    have e1 := e1 k (by omega)
    have e2 := e2 k (by omega)
    dsimp only at e1 e2 ⊢
    rw [show ((w2.toNat : Nat) : Int) = w2 by omega] at e2
    unfold impl_Bits_over.f
    rw [wrap64_id (by omega) (by omega), zeroBits_eq _ (by omega) (by omega)]
    simp only [Option.bind_some]
    rw [show ((0 : Nat) : Int) = 0 from rfl] at e1
    rw [e1]
    simp only [Option.bind_some]
    rw [e2]; rfl
  · rw [hb', if_neg (by omega), h.top _ (by omega)]

/-! rdq -/
theorem rd_q (z : List Int) (j : Nat) : rd z (j : Int) = (z[j]?).getD 0 := by rw [rd_getD, List.getD_eq_getElem?_getD, Int.toNat_natCast]
theorem bitI_one (l : List Int) (i : Nat) : decide (bitI l i = 1) = bitN l i := by unfold bitI; cases bitN l i <;> simp
theorem Bits01.append {a b : List Int} (ha : Bits01 a) (hb : Bits01 b) : Bits01 (a ++ b) := fun x hx => (List.mem_append.1 hx).elim (ha x) (hb x)
theorem Bits01.sub {a b : List Int} (ha : Bits01 a) (h : ∀ x ∈ b, x ∈ a) : Bits01 b := fun x hx => ha x (h x hx)
/-- What a call that tells bits is asked: both tell the same. -/
def Agree (f g : Nat → Option (Int × List Int × Bool)) : Prop := ∃ w ws ok, ws.length ≤ 1048576 ∧ Ev f (w, ws, ok) ∧ Ev g (w, ws, ok)

/-! joinBits -/
theorem joinBits_core (w : Int) (l : List Int) (w2 : Int) (l2 : List Int) (hu : U64s l) (hl : l.length ≤ 1048576) (hw : -9223372036854775808 ≤ w ∧ w ≤ 9223372036854775807) (hu2 : U64s l2) (hl2 : l2.length ≤ 1048576) (hw2 : -9223372036854775808 ≤ w2 ∧ w2 ≤ 9223372036854775807) :
    Agree (fun k => spec_JoinBits.f k w l w2 l2) (fun k => impl_JoinBits.f k w l w2 l2) := by
  obtain ⟨K1, g1⟩ := specBitsOk_ev w l hu hl hw.1 hw.2
  have g2 := implBitsOk_eq w l hu hl
  obtain ⟨K2, g3⟩ := specBitsOk_ev w2 l2 hu2 hl2 hw2.1 hw2.2
  have g4 := implBitsOk_eq w2 l2 hu2 hl2
  rcases okB_cases w l with ⟨e, hr⟩ | ⟨e, hr⟩
  · rcases okB_cases w2 l2 with ⟨e2, hr2⟩ | ⟨e2, hr2⟩
    · have b1 := hr.low; have b2 := hr.high; have b3 := hr.len; have b4 := hr2.low; have b5 := hr2.high; have b6 := hr2.len
      obtain ⟨K3, g5⟩ := l1List_ev w l hr
      obtain ⟨K4, g6⟩ := l1List_ev w2 l2 hr2
      have hzlen : (bitsL w2.toNat l2 ++ bitsL w.toNat l).length = (w + w2).toNat := by simp [bitsL_len]; omega
      by_cases hs : w + w2 ≤ 4096
      · obtain ⟨ws, ⟨K5, g7⟩, hp⟩ := l1From_ev (bitsL w2.toNat l2 ++ bitsL w.toNat l) (Bits01.append (bitsL_01 _ _) (bitsL_01 _ _)) (by omega) (by omega)
        obtain ⟨ws', ⟨K6, g8⟩, hr', hb'⟩ := over_ev w w2 l l2 hr hr2 hs
        have hp' : Packs (bitsL w2.toNat l2 ++ bitsL w.toNat l) ws' := packs_of (w := w + w2) (by omega) hr' fun j hj => by
          rw [hb' j, rd_q]
          by_cases c : (j : Int) < w2
          · rw [if_pos c, List.getElem?_append_left (by rw [bitsL_len]; omega), bitsL_get (by omega), Option.getD_some, bitI_one]
          · rw [if_neg c, List.getElem?_append_right (by rw [bitsL_len]; omega), bitsL_len, bitsL_get (by omega), Option.getD_some, bitI_one]
        have := hp.uniq hp'
        subst this
        refine ⟨w + w2, ws, true, by have := hr'.len; omega, ⟨K1 + K2 + K3 + K4 + K5 + 1, fun k hk => ?_⟩, ⟨K6, fun k hk => ?_⟩⟩
        · obtain ⟨m, rfl⟩ : ∃ m, k = m + 1 := ⟨k - 1, by omega⟩
          simp (disch := omega) only [spec_JoinBits.f, spec_JoinBits.j0, g1, g3, e, e2, g5, g6, Option.bind_some, if_true, Bool.not_true, Bool.false_eq_true, if_false, bitsL_len, if_pos]
          simp (disch := omega) only [g7]
          simp only [Option.bind_some, hzlen]
          congr 2
          omega
        · simp (disch := omega) only [impl_JoinBits.f, g2, g4, e, e2, wrap64_id, Option.bind_some, if_true, if_neg, if_pos]
          simp (disch := omega) only [g8, Option.bind_some]
      · obtain ⟨K5, g7⟩ := l1From_none (bitsL w2.toNat l2 ++ bitsL w.toNat l) (by omega)
        refine ⟨0, [], false, by simp, ⟨K1 + K2 + K3 + K4 + K5 + 1, fun k hk => ?_⟩, ⟨0, fun k hk => ?_⟩⟩
        · obtain ⟨m, rfl⟩ : ∃ m, k = m + 1 := ⟨k - 1, by omega⟩
          simp (disch := omega) only [spec_JoinBits.f, spec_JoinBits.j0, g1, g3, e, e2, g5, g6, Option.bind_some, if_true, Bool.not_true, Bool.false_eq_true, if_false, bitsL_len, if_pos]
          simp (disch := omega) only [g7, Option.bind_some]
        · simp (disch := omega) only [impl_JoinBits.f, g2, g4, e, e2, wrap64_id, Option.bind_some, if_true, if_neg, if_pos]
    · refine ⟨0, [], false, by simp, ⟨K1 + K2 + 1, fun k hk => ?_⟩, ⟨0, fun k hk => ?_⟩⟩
      · obtain ⟨m, rfl⟩ : ∃ m, k = m + 1 := ⟨k - 1, by omega⟩
        simp (disch := omega) only [spec_JoinBits.f, spec_JoinBits.j0, g1, g3, e, e2, Option.bind_some, if_true, if_false, Bool.false_eq_true, Bool.not_false]
      · simp (disch := omega) only [impl_JoinBits.f, g2, g4, e, e2, Option.bind_some, if_true, if_false, Bool.false_eq_true]
  · refine ⟨0, [], false, by simp, ⟨K1 + 1, fun k hk => ?_⟩, ⟨0, fun k hk => ?_⟩⟩
    · obtain ⟨m, rfl⟩ : ∃ m, k = m + 1 := ⟨k - 1, by omega⟩
      simp (disch := omega) only [spec_JoinBits.f, spec_JoinBits.j0, g1, e, Option.bind_some, if_true, if_false, Bool.false_eq_true]
    · simp (disch := omega) only [impl_JoinBits.f, g2, e, Option.bind_some, if_true, if_false, Bool.false_eq_true]

/-! joinBitsM -/
theorem joinBits_agree (w : Int) (l : List Int) (w2 : Int) (l2 : List Int) (U0 : UpI_Bits 1048576 ⟨w, l⟩) (W0 : WfI_Bits ⟨w, l⟩) (U1 : UpI_Bits 1048576 ⟨w2, l2⟩) (W1 : WfI_Bits ⟨w2, l2⟩) :
    ∃ y0_0 y0_1 y1, Ev (fun k => spec_JoinBits.f k w l w2 l2) (y0_0, y0_1, y1) ∧ Ev (fun k => impl_JoinBits.f k w l w2 l2) (y0_0, y0_1, y1) ∧ UpI_Bits 1048576 ⟨y0_0, y0_1⟩ := by
  have hl : l.length ≤ 1048576 := by unfold UpI_Bits at U0; simp only at U0; omega
  have hl2 : l2.length ≤ 1048576 := by unfold UpI_Bits at U1; simp only at U1; omega
  obtain ⟨a, b, c, h, e1, e2⟩ := joinBits_core w l w2 l2 W0.2 hl W0.1 W1.2 hl2 W1.1
  exact ⟨a, b, c, e1, e2, by unfold UpI_Bits; simp only; omega⟩
-- SAYS: The program's JoinBits answers as the reference's JoinBits does, for all arguments.
theorem FnExactJoinBits (a0_0 : Int) (l0_1 : List Int) (a1_0 : Int) (l1_1 : List Int) (q0_0 : (Lit.int .i64 a0_0).wf = true) (q0_1 : ∀ x ∈ l0_1, (Lit.int .u64 x).wf = true) (hl0_1 : l0_1.length ≤ 9223372036854775807) (q1_0 : (Lit.int .i64 a1_0).wf = true) (q1_1 : ∀ x ∈ l1_1, (Lit.int .u64 x).wf = true) (hl1_1 : l1_1.length ≤ 9223372036854775807) : ∃ k, laws_FnExactJoinBits.f k a0_0 l0_1 a1_0 l1_1 = some true := by
  obtain ⟨r0, g0, hb0⟩ := sz_Bits (⟨a0_0, l0_1⟩ : S24) 1048576 (in_Bits (⟨a0_0, l0_1⟩ : S24) ⟨q0_0, (And.intro hl0_1 q0_1)⟩) (by omega) (by omega)
  obtain ⟨Ks0, s00⟩ := Ev.binds (g0)
  have s0 := s00 Ks0 (Nat.le_refl _)
  try dsimp only [cv_Bits, cv_Bits] at s0
  rcases hb0 with hneg | ⟨p0, z0, u0⟩
  · have c0 := eq_true hneg
    exact ⟨1 + 1 + 1 + 1, by simp (disch := omega) only [laws_FnExactJoinBits.f, ↓s0, ↓reduceIte, c0]⟩
  have c0 := eq_false (show ¬ r0 < 0 by omega)
  obtain ⟨r1, g1, hb1⟩ := sz_Bits (⟨a1_0, l1_1⟩ : S24) r0 (in_Bits (⟨a1_0, l1_1⟩ : S24) ⟨q1_0, (And.intro hl1_1 q1_1)⟩) (by omega) (by omega)
  obtain ⟨Ks1, s10⟩ := Ev.binds (g1)
  have s1 := s10 Ks1 (Nat.le_refl _)
  try dsimp only [cv_Bits, cv_Bits] at s1
  rcases hb1 with hneg | ⟨p1, z1, u1⟩
  · have c1 := eq_true hneg
    exact ⟨1 + 1 + 1 + 1, by simp (disch := omega) only [laws_FnExactJoinBits.f, ↓s0, ↓s1, ↓reduceIte, c0, c1]⟩
  have c1 := eq_false (show ¬ r1 < 0 by omega)
  have U0 : UpI_Bits 1048576 ((cv_Bits (⟨a0_0, l0_1⟩ : S24))) := (upcv_Bits _ _ u0)
  have W0 : WfI_Bits ((cv_Bits (⟨a0_0, l0_1⟩ : S24))) := wf_Bits (⟨a0_0, l0_1⟩ : S24) ⟨q0_0, (And.intro hl0_1 q0_1)⟩
  have U1 : UpI_Bits 1048576 ((cv_Bits (⟨a1_0, l1_1⟩ : S24))) := (upcv_Bits _ _ u1)
  have W1 : WfI_Bits ((cv_Bits (⟨a1_0, l1_1⟩ : S24))) := wf_Bits (⟨a1_0, l1_1⟩ : S24) ⟨q1_0, (And.intro hl1_1 q1_1)⟩
  obtain ⟨y0_0, y0_1, y1, e1, e2, v0⟩ := joinBits_agree a0_0 l0_1 a1_0 l1_1 U0 W0 U1 W1
  obtain ⟨Kt0, t0⟩ := Ev.binds (to_Bits (⟨a0_0, l0_1⟩ : S24) u0)
  try dsimp only [cv_Bits, cv_Bits] at t0
  obtain ⟨Kt1, t1⟩ := Ev.binds (to_Bits (⟨a1_0, l1_1⟩ : S24) u1)
  try dsimp only [cv_Bits, cv_Bits] at t1
  obtain ⟨Khs, hs⟩ := Ev.binds (e1)
  obtain ⟨Khi, hi⟩ := Ev.binds (e2)
  obtain ⟨Ke0_, e0_⟩ := Ev.binds (eq_Bits ((cv_Bits (⟨a0_0, l0_1⟩ : S24))) U0)
  try dsimp only [cv_Bits, cv_Bits] at e0_
  obtain ⟨Ke1_, e1_⟩ := Ev.binds (eq_Bits ((cv_Bits (⟨a1_0, l1_1⟩ : S24))) U1)
  try dsimp only [cv_Bits, cv_Bits] at e1_
  obtain ⟨Kf0_, f0_⟩ := Ev.binds (eq_Bits (⟨y0_0, y0_1⟩ : S26) v0)
  try dsimp only [cv_Bits, cv_Bits] at f0_
  obtain ⟨m0, n0_0, g0_, o0, w0, _⟩ := mark_Bits ((cv_Bits (⟨a0_0, l0_1⟩ : S24))) U0 1 (by omega) (by omega)
  obtain ⟨Kk0_, k0_⟩ := Ev.binds (g0_)
  try dsimp only [cv_Bits, cv_Bits] at k0_
  obtain ⟨m1, n1_0, g1_, o1, w1, _⟩ := mark_Bits ((cv_Bits (⟨a1_0, l1_1⟩ : S24))) U1 m0 (by omega) (by omega)
  obtain ⟨Kk1_, k1_⟩ := Ev.binds (g1_)
  try dsimp only [cv_Bits, cv_Bits] at k1_
  have cm := eq_false (show ¬ m1 < 0 by omega)
  obtain ⟨M0, N0_0, G0_, O0, A0, H0_⟩ := mark_Bits (⟨y0_0, y0_1⟩ : S26) v0 1 (by omega) (by omega)
  obtain ⟨Kx0_, x0_⟩ := Ev.binds (G0_)
  try dsimp only [cv_Bits, cv_Bits] at x0_
  obtain ⟨Kz0_, z0_⟩ := Ev.binds (H0_)
  try dsimp only [cv_Bits, cv_Bits] at z0_
  have cn0 := eq_false (show ¬ M0 < 0 by omega)
  exact ⟨Kt0 + Kt1 + Khs + Khi + Ke0_ + Ke1_ + Kf0_ + Kk0_ + Kk1_ + Kx0_ + Kz0_ + 1 + 1 + 1 + 1, by simp (disch := omega) only [laws_FnExactJoinBits.f, ↓s0, ↓s1, ↓t0, ↓t1, ↓hs, ↓hi, ↓e0_, ↓e1_, ↓f0_, ↓k0_, ↓k1_, ↓x0_, ↓z0_, ↓reduceIte, c0, c1, cm, cn0, bne_self_eq_false, Bool.false_eq_true, Bool.not_true, Bool.not_false]⟩

end Go.Proofs.Ytipoepnmklaahaa.Pure
