/- The program's NextBits answers as the reference's NextBits does, for all arguments. -/
import Derived.Test.YtipoepnmklaahaaPFnExactNextBitsx5
import Derived.Test.YtipoepnmklaahaaBits
import Derived.Test.YtipoepnmklaahaaLoops
namespace Go.Proofs.Ytipoepnmklaahaa.Pure
open Go Go.RowKit Go.Proofs.Ytipoepnmklaahaa.PFnExactNextBits Go.Proofs.YtipoepnmklaahaaW.PrintWords Go.Proofs.YtipoepnmklaahaaW.PrintLast Go.Proofs.YtipoepnmklaahaaW.PrintMore Go.Proofs.Ytipoepnmklaahaa.BitsLib Go.Proofs.Ytipoepnmklaahaa.Loops
set_option linter.unusedVariables false
set_option linter.unusedSimpArgs false
set_option maxRecDepth 4000

/-! szn_out -/
theorem szn_out (n : Nat) (left : Int) (hn : (n : Int) ≤ 9223372036854775807) (h0 : 0 ≤ left) (h1 : left ≤ 1048576) :
    ∃ r, (True → wrap64 (left - (n : Int)) = r) ∧ (r < 0 ∨ (0 ≤ r ∧ r ≤ left ∧ (n : Int) ≤ 1048576)) := by
  refine ⟨left - (n : Int), fun _ => wrap64_id (by omega) (by omega), ?_⟩
  by_cases c : left - (n : Int) < 0
  · exact .inl c
  · exact .inr (by omega)

/-! S24 -/
structure S24 where
  f0 : Int
  f1 : List Int

/-! UpL_Bits -/
def UpL_Bits (c : Int) (x : S24) : Prop := ((x.f1.length : Int) ≤ c)

/-! sz_Uint64S -/
theorem sz_Uint64S (x : List Int) (left : Int) (hin : ((x.length : Int) ≤ 9223372036854775807)) (h0 : 0 ≤ left) (h1 : left ≤ 1048576) :
    ∃ r, Ev (fun k => laws_szUint64S.f x left) r ∧ (r < 0 ∨ (0 ≤ r ∧ r ≤ left ∧ ((x.length : Int) ≤ 1048576))) := by
  obtain ⟨r, hr, hb⟩ := szn_out x.length left hin h0 h1
  rcases hb with c | ⟨p0, q0, u0⟩
  · exact ⟨-1, ⟨0, fun k _ => by dsimp only; unfold laws_szUint64S.f; rw [hr trivial, if_pos c]⟩, .inl (by omega)⟩
  · exact ⟨r, ⟨0, fun k _ => by dsimp only; unfold laws_szUint64S.f; rw [hr trivial, if_neg (by omega)]⟩, .inr ⟨p0, q0, u0⟩⟩

/-! sz_Bits -/
theorem sz_Bits (x : S24) (left : Int) (hin : UpL_Bits 9223372036854775807 x) (h0 : 0 ≤ left) (h1 : left ≤ 1048576) :
    ∃ r, Ev (fun k => laws_szBits.f x.f0 x.f1 left) r ∧ (r < 0 ∨ (0 ≤ r ∧ r ≤ left ∧ UpL_Bits 1048576 x)) := by
  unfold UpL_Bits at hin
  have i1 := hin
  obtain ⟨r1, ⟨K1, e1⟩, hb1⟩ := sz_Uint64S x.f1 left i1 (by omega) (by omega)
  rcases hb1 with c1 | ⟨p1, q1, u1⟩
  · exact ⟨-1, ⟨K1, fun k hk => by have e1 := e1 k (by omega); dsimp only at e1 ⊢; unfold laws_szBits.f; rw [e1]; simp only [Option.bind_some]; rw [if_pos c1]⟩, .inl (by omega)⟩
  exact ⟨r1, ⟨K1, fun k hk => by have e1 := e1 k (by omega); dsimp only at e1 ⊢; unfold laws_szBits.f; rw [e1]; simp only [Option.bind_some]; rw [if_neg (by omega)]⟩, .inr ⟨by omega, by omega, u1⟩⟩

/-! S26 -/
structure S26 where
  f0 : Int
  f1 : List Int

/-! UpI_Bits -/
def UpI_Bits (c : Int) (x : S26) : Prop := ((x.f1.length : Int) ≤ c)

/-! cv_Bits -/
def cv_Bits (x : S24) : S26 := ⟨x.f0, x.f1⟩

/-! upcv_Bits -/
theorem upcv_Bits (c : Int) (x : S24) (h : UpL_Bits c x) : UpI_Bits c (cv_Bits x) := by
  unfold UpL_Bits at h
  unfold UpI_Bits
  have i1 := h
  exact i1

/-! in_Bits -/
theorem in_Bits (x : S24) (h : (Lit.int .i64 x.f0).wf = true ∧ (x.f1.length ≤ 9223372036854775807 ∧ ∀ y0 ∈ x.f1, (Lit.int .u64 y0).wf = true)) : UpL_Bits 9223372036854775807 x := by
  obtain ⟨j0, j1⟩ := h
  unfold UpL_Bits
  exact (Int.ofNat_le.2 j1.1)

/-! to_Uint64S -/
theorem to_Uint64S (x : List Int) (h : ((x.length : Int) ≤ 1048576)) : Ev (fun k => laws_toUint64S.f k x) x := by
  have hl := h
  have main := up_loop x.length (filled (fun i => (rd x i)) (List.replicate x.length 0)) (fun k xs i => laws_toUint64S.l0 k x xs i)
    (fun i hi r h2 => by
      obtain ⟨K2, h2⟩ := h2
      refine ⟨K2 + 1, fun k hk => ?_⟩
      obtain ⟨m, rfl⟩ : ∃ m, k = m + 1 := ⟨k - 1, by omega⟩
      have h2 := h2 m (by omega)
      dsimp only at h2 ⊢
      rw [← filled_set _ _ (by simpa using hi)] at h2
      simp only [laws_toUint64S.l0]
      rw [if_pos (by omega), if_pos (by omega)]
      rw [if_pos (by rw [filled_len _ _ (by simp; omega)]; simp; omega), Int.toNat_natCast, wrap64_id (by omega) (by omega)]
      exact h2)
    x (Ev.step (f := fun _ => some x) (fun k => by
      simp only [laws_toUint64S.l0]
      rw [if_neg (by omega), filled_all _ _ (by simp)]
      congr 1
      exact list_of_rd x) (Ev.now _))
  rw [filled_zero] at main
  refine Ev.congr (fun k => ?_) main
  unfold laws_toUint64S.f
  rw [if_pos (by omega), if_pos (by omega), Int.toNat_natCast]

/-! to_Bits -/
theorem to_Bits (x : S24) (h : UpL_Bits 1048576 x) : Ev (fun k => laws_toBits.f k x.f0 x.f1) ((cv_Bits x).f0, (cv_Bits x).f1) := by
  unfold UpL_Bits at h
  have i1 := h
  obtain ⟨K1, e1⟩ := to_Uint64S x.f1 i1
  refine ⟨K1, fun k hk => ?_⟩
  have e1 := e1 k (by omega)
  dsimp only at e1 ⊢
  simp only [laws_toBits.f, e1, Option.bind_some]
  all_goals rfl

/-! eq_Uint64S -/
theorem eq_Uint64S (x : List Int) (h : ((x.length : Int) ≤ 1048576)) : Ev (fun k => laws_eqUint64S.f k x x) true := by
  have hl := h
  have main := up_loop x.length (fun _ => ()) (fun k _ i => laws_eqUint64S.l0 k x x i)
    (fun i hi r h2 => by
      obtain ⟨K2, h2⟩ := h2
      refine ⟨K2 + 1, fun k hk => ?_⟩
      obtain ⟨m, rfl⟩ : ∃ m, k = m + 1 := ⟨k - 1, by omega⟩
      have h2 := h2 m (by omega)
      dsimp only at h2 ⊢
      simp only [laws_eqUint64S.l0]
      rw [if_pos (by omega), if_pos (by omega), if_pos (by omega)]
      simp only [if_true]
      rw [wrap64_id (by omega) (by omega)]
      exact h2)
    true (Ev.step (f := fun _ => some true) (fun k => by
      simp only [laws_eqUint64S.l0]
      rw [if_neg (by omega)]) (Ev.now _))
  obtain ⟨K, h⟩ := main
  refine ⟨K, fun k hk => ?_⟩
  have h := h k hk
  dsimp only at h ⊢
  unfold laws_eqUint64S.f
  rw [if_pos rfl]
  exact h

/-! eq_Bits -/
theorem eq_Bits (x : S26) (h : UpI_Bits 1048576 x) : Ev (fun k => laws_eqBits.f k x.f0 x.f1 x.f0 x.f1) true := by
  unfold UpI_Bits at h
  have i1 := h
  obtain ⟨K1, e1⟩ := eq_Uint64S x.f1 i1
  refine ⟨K1, fun k hk => ?_⟩
  have e1 := e1 k (by omega)
  dsimp only at e1 ⊢
  simp only [laws_eqBits.f, e1, Option.bind_some, if_true, ↓reduceIte]

/-! mark_Uint64S -/
theorem mark_Uint64S (x : List Int) (h : ((x.length : Int) ≤ 1048576)) (m : Int) (h0 : 0 ≤ m) (h1 : m ≤ 4611686018426339328) : ∃ (m' : Int) (x' : List Int), Ev (fun k => laws_markUint64S.f k x m) (m', x') ∧ m ≤ m' ∧ m' ≤ m + 1048576 ∧ Ev (fun k => laws_heldUint64S.f k x' m) m' := by
  have hl : (x.length : Int) ≤ 1048576 := h
  obtain ⟨conv, hconv⟩ : ∃ conv : Nat → Int, ∀ i, conv i = IntKind.u64.wrap (m + 1 * (i : Int)) := ⟨fun i => _, fun _ => rfl⟩
  have main := up_loop x.length (fun i => (m + 1 * (i : Int), filled conv x i)) (fun k s i => laws_markUint64S.l0 k s.2 s.1 i)
    (fun i hi r h2 => by
      obtain ⟨K2, h2⟩ := h2
      refine ⟨K2 + 1, fun k hk => ?_⟩
      obtain ⟨mm, rfl⟩ : ∃ mm, k = mm + 1 := ⟨k - 1, by omega⟩
      have h2 := h2 mm (by omega)
      dsimp only at h2 ⊢
      have hlen : i < (filled conv x i).length := by rw [filled_len _ _ (by omega)]; exact hi
      rw [← filled_set conv x hi, hconv] at h2
      simp (disch := first | omega | (simp only [List.length_set]; omega)) only [laws_markUint64S.l0, ↓if_pos, Option.bind_some, Int.toNat_natCast, wrap64_id]
      rw [show m + 1 * (i : Int) + 1 = m + 1 * ((i + 1 : Nat) : Int) by omega]
      exact h2)
    (m + 1 * (x.length : Int), (List.range x.length).map conv) (Ev.step (f := fun _ => some (m + 1 * (x.length : Int), (List.range x.length).map conv)) (fun k => by
      simp only [laws_markUint64S.l0]
      rw [if_neg (by rw [filled_len _ _ (Nat.le_refl _)]; omega), filled_all _ _ rfl]) (Ev.now _))
  simp only [filled_zero] at main
  refine ⟨m + 1 * (x.length : Int), (List.range x.length).map conv, Ev.congr (fun k => by unfold laws_markUint64S.f; simp) main, by omega, by omega, ?_⟩
  have hrd : ∀ i : Nat, i < x.length → rd ((List.range x.length).map conv) (i : Int) = conv i := fun i hi => by
    rw [rd_getD]
    rw [List.getD_eq_getElem?_getD, Int.toNat_natCast, List.getElem?_map, List.getElem?_range hi]; rfl
  have main2 := up_loop x.length (fun i => m + 1 * (i : Int)) (fun k s i => laws_heldUint64S.l0 k ((List.range x.length).map conv) s i)
    (fun i hi r h2 => by
      obtain ⟨K2, h2⟩ := h2
      refine ⟨K2 + 1, fun k hk => ?_⟩
      obtain ⟨mm, rfl⟩ : ∃ mm, k = mm + 1 := ⟨k - 1, by omega⟩
      have h2 := h2 mm (by omega)
      dsimp only at h2 ⊢
      have hr := hrd i hi
      rw [hconv] at hr
      simp (disch := omega) only [laws_heldUint64S.l0, List.length_map, List.length_range, ↓if_pos, hr, wrap64_id, ↓reduceIte, bne_self_eq_false, Bool.false_eq_true]
      rw [show m + 1 * (i : Int) + 1 = m + 1 * ((i + 1 : Nat) : Int) by omega]
      exact h2)
    (m + 1 * (x.length : Int)) (Ev.step (f := fun _ => some (m + 1 * (x.length : Int))) (fun k => by
      simp only [laws_heldUint64S.l0]
      rw [if_neg (by simp)]) (Ev.now _))
  exact Ev.congr (fun k => by unfold laws_heldUint64S.f; simp) main2

/-! mark_Bits -/
theorem mark_Bits (x : S26) (h : UpI_Bits 1048576 x) (m : Int) (h0 : 0 ≤ m) (h1 : m ≤ 4611686018426339327) : ∃ (m' : Int) (z0 : List Int), Ev (fun k => laws_markBits.f k x.f0 x.f1 m) (m', z0) ∧ m ≤ m' ∧ m' ≤ m + 1048577 ∧ Ev (fun k => laws_heldBits.f k x.f0 z0 m) m' := by
  unfold UpI_Bits at h
  have i1 := h
  obtain ⟨m1, z0, ⟨K1, e1⟩, l1, u1, ⟨L1, d1⟩⟩ := mark_Uint64S x.f1 i1 m (by omega) (by omega)
  refine ⟨m1, z0, ⟨K1, fun k hk => ?_⟩, by omega, by omega, ⟨L1, fun k hk => ?_⟩⟩
  · have e1 := e1 k (by omega); dsimp only at e1 ⊢; unfold laws_markBits.f; rw [e1]; simp only [Option.bind_some]
  · have d1 := d1 k (by omega); dsimp only at d1 ⊢; unfold laws_heldBits.f; rw [d1]; simp only [Option.bind_some]; rw [if_neg (by omega)]

/-! WfI_Bits -/
def WfI_Bits (x : S26) : Prop := (-9223372036854775808 ≤ x.f0 ∧ x.f0 ≤ 9223372036854775807) ∧ (∀ y ∈ x.f1, W64 y)

/-! wf_Bits -/
theorem wf_Bits (x : S24) (h : (Lit.int .i64 x.f0).wf = true ∧ (x.f1.length ≤ 9223372036854775807 ∧ ∀ y0 ∈ x.f1, (Lit.int .u64 y0).wf = true)) : WfI_Bits (cv_Bits x) := by
  obtain ⟨j0, j1⟩ := h
  exact ⟨(wf_i64 j0), (fun a1_ ha1_ => (wf_u64 (j1.2 a1_ ha1_)))⟩

/-! okB -/
noncomputable def okB (w : Int) (l : List Int) : Bool := @decide (Right w l) (Classical.propDecidable _)
theorem okB_true {w : Int} {l : List Int} (h : Right w l) : okB w l = true := by unfold okB; exact @decide_eq_true _ (Classical.propDecidable _) h
theorem okB_false {w : Int} {l : List Int} (h : ¬ Right w l) : okB w l = false := by unfold okB; exact @decide_eq_false _ (Classical.propDecidable _) h
theorem okB_cases (w : Int) (l : List Int) : (okB w l = true ∧ Right w l) ∨ (okB w l = false ∧ ¬ Right w l) := by
  by_cases h : Right w l
  · exact .inl ⟨okB_true h, h⟩
  · exact .inr ⟨okB_false h, h⟩

/-! l1Bit -/
theorem l1Bit_eq (w : Int) (l : List Int) (h : U64s l) (i : Nat) (hi : i < 64 * l.length) (hl : l.length ≤ 1048576) : spec_l1Bit.f w l (i : Int) = some (bitI l i) := by
  unfold spec_l1Bit.f
  rw [tdiv64 i (by omega), utmod64, if_pos (by omega), if_pos (by omega), if_pos (by omega), bit_reads h]
  rcases bitI_01 l i with e | e <;> simp [e]

/-! specBitsOk -/
theorem specBitsOk_l0 (w : Int) (l : List Int) (h : U64s l) (hl : l.length ≤ 1048576) (h1 : 1 ≤ w) (hw : w ≤ 64 * l.length) :
    ∃ b, Ev (fun k => spec_BitsOk.l0 k w w l) b ∧ (b = true ↔ ∀ i : Nat, w ≤ i → bitN l i = false) := by
  rcases find_loop (64 * l.length - w.toNat) (fun i => bitN l (w.toNat + i)) (fun k i => spec_BitsOk.l0 k (w + i) w l) (fun _ => false) true
    (fun i hi hp => Ev.step (f := fun _ => some false) (fun k => by
      simp only [spec_BitsOk.l0]
      rw [wrap64_id (by omega) (by omega), if_pos (by omega), show w + (i : Int) = ((w.toNat + i : Nat) : Int) by omega, l1Bit_eq w l h _ (by omega) hl]
      simp only [Option.bind_some]
      rw [if_neg (by simp only [bitI, hp, if_true]; decide)]) (Ev.now _))
    (fun i hi hp r hr => Ev.step (fun k => by
      simp only [spec_BitsOk.l0]
      rw [wrap64_id (x := 64 * (l.length : Int)) (by omega) (by omega), if_pos (by omega)]
      have e := l1Bit_eq w l h (w.toNat + i) (by omega) hl
      rw [show w + (i : Int) = ((w.toNat + i : Nat) : Int) by omega, e]
      simp only [Option.bind_some]
      rw [if_pos (by simp only [bitI, hp]; rfl), wrap64_id (by omega) (by omega), show ((w.toNat + i : Nat) : Int) + 1 = w + ((i : Int) + 1) by omega]) hr)
    (Ev.step (f := fun _ => some true) (fun k => by
      simp only [spec_BitsOk.l0]
      rw [wrap64_id (by omega) (by omega), if_neg (by omega)]) (Ev.now _)) with ⟨i, hi, hp, _, hr⟩ | ⟨hp, hr⟩
  · refine ⟨false, by simpa using hr, (fun hb => by cases hb), fun hb => ?_⟩
    have := hb (w.toNat + i) (by omega)
    rw [this] at hp; cases hp
  · refine ⟨true, by simpa using hr, fun _ i hi => ?_, fun _ => rfl⟩
    by_cases ho : i < 64 * l.length
    · have := hp (i - w.toNat) (by omega)
      rwa [show w.toNat + (i - w.toNat) = i by omega] at this
    · exact bitN_out (by omega)
theorem specBitsOk_ev (w : Int) (l : List Int) (h : U64s l) (hl : l.length ≤ 1048576) (hw0 : -9223372036854775808 ≤ w) (hw1 : w ≤ 9223372036854775807) : Ev (fun k => spec_BitsOk.f k w l) (okB w l) := by
  by_cases hin : 1 ≤ w ∧ w ≤ 4096
  · have e1 : spec_l1In.f w 1 4096 = some true := by unfold spec_l1In.f; rw [if_pos (by omega), decide_eq_true (by omega)]
    have e2 := fun (_ : True) => words_of w (by omega) (by omega)
    by_cases hlen : (l.length : Int) = (w + 63) / 64
    · obtain ⟨b, hb, hbi⟩ := specBitsOk_l0 w l h hl hin.1 (by omega)
      have : okB w l = b := by
        cases b with
        | true => exact okB_true ⟨hin.1, hin.2, hlen, h, hbi.1 rfl⟩
        | false => exact okB_false fun hr => by have := hbi.2 hr.top; cases this
      rw [this]
      obtain ⟨K, hb⟩ := hb
      refine ⟨K + 1, fun k hk => ?_⟩
      obtain ⟨m, rfl⟩ : ∃ m, k = m + 1 := ⟨k - 1, by omega⟩
      dsimp only
      unfold spec_BitsOk.f
      rw [e1, e2 trivial]
      simp only [Option.bind_some, if_true, spec_BitsOk.j0]
      rw [if_neg (by simp [hlen])]
      exact hb m (by omega)
    · rw [okB_false fun hr => hlen hr.len]
      refine ⟨1, fun k hk => ?_⟩
      obtain ⟨m, rfl⟩ : ∃ m, k = m + 1 := ⟨k - 1, by omega⟩
      dsimp only
      unfold spec_BitsOk.f
      rw [e1, e2 trivial]
      simp only [Option.bind_some, if_true, spec_BitsOk.j0]
      rw [if_pos (by simpa using hlen)]
  · rw [okB_false fun hr => hin ⟨hr.low, hr.high⟩]
    have e1 : spec_l1In.f w 1 4096 = some false := by
      unfold spec_l1In.f
      by_cases h1 : w ≥ 1
      · rw [if_pos h1, decide_eq_false (by omega)]
      · rw [if_neg h1]
    refine ⟨1, fun k hk => ?_⟩
    obtain ⟨m, rfl⟩ : ∃ m, k = m + 1 := ⟨k - 1, by omega⟩
    dsimp only
    unfold spec_BitsOk.f
    rw [e1]
    simp [spec_BitsOk.j0]

/-! implInside -/
theorem inside_eq (a b c : Int) : impl_inside.f a b c = some (decide (b ≤ a ∧ a ≤ c)) := by
  unfold impl_inside.f
  by_cases h1 : b ≤ a
  · rw [if_pos h1]; simp [h1]
  · rw [if_neg h1]; simp [h1]

/-! wordsFor -/
theorem wordsFor_eq (w : Int) (h0 : 0 ≤ w) (h1 : w ≤ 1000000000) : impl_wordsFor.f w = some ((w + 63) / 64) := by
  unfold impl_wordsFor.f
  rw [wrap64_id (x := w + 63) (by omega) (by omega), Int.tdiv_eq_ediv_of_nonneg (by omega), wrap64_id (by omega) (by omega)]

/-! implBitsOk -/
theorem implBitsOk_eq (w : Int) (l : List Int) (h : U64s l) (hl : l.length ≤ 1048576) : impl_BitsOk.f w l = some (okB w l) := by
  unfold impl_BitsOk.f
  rw [inside_eq]
  simp only [Option.bind_some]
  by_cases hin : 1 ≤ w ∧ w ≤ 4096
  · rw [if_pos (decide_eq_true hin), wordsFor_eq w (by omega) (by omega)]
    simp only [Option.bind_some]
    by_cases hlen : (l.length : Int) = (w + 63) / 64
    · rw [if_pos hlen, Int.tmod_eq_emod_of_nonneg (by omega)]
      by_cases hm : w % 64 = 0
      · rw [if_pos hm, okB_true ⟨hin.1, hin.2, hlen, h, fun i hi => bitN_out (by omega)⟩]
      · rw [if_neg hm, wrap64_id (x := (l.length : Int) - 1) (by omega) (by omega), if_pos (by omega), if_pos (by omega), if_pos (by omega)]
        congr 1
        have hx := rd_w64 h ((l.length : Int) - 1)
        have hs := shr_w64 hx (n := w % 64) (by omega)
        by_cases hz : shr .u64 (rd l ((l.length : Int) - 1)) (w % 64) = 0
        · rw [hz]
          refine (okB_true ⟨hin.1, hin.2, hlen, h, fun i hi => ?_⟩).symm
          by_cases ho : i < 64 * l.length
          · have h2 := hs.2 (i % 64 - (w % 64).toNat)
            rw [hz] at h2
            have e : i / 64 = l.length - 1 := by omega
            unfold bitN
            rw [e, ← show (w % 64).toNat + (i % 64 - (w % 64).toNat) = i % 64 by omega]
            rw [rd_getD, show ((l.length : Int) - 1).toNat = l.length - 1 by omega] at h2
            rw [← h2]; simp
          · exact bitN_out (by omega)
        · have e : (shr .u64 (rd l ((l.length : Int) - 1)) (w % 64) == 0) = false := by simpa using hz
          rw [e]
          refine (okB_false fun hr => hz ?_).symm
          have h0 : (shr .u64 (rd l ((l.length : Int) - 1)) (w % 64)).toNat = 0 := by
            apply testBit_ext (by have := hs.1; unfold W64 at this; omega) (by decide)
            intro j hj
            rw [hs.2]
            by_cases hb : (w % 64).toNat + j < 64
            · have := hr.top (64 * (l.length - 1) + ((w % 64).toNat + j)) (by omega)
              unfold bitN at this
              rw [show (64 * (l.length - 1) + ((w % 64).toNat + j)) / 64 = l.length - 1 by omega, show (64 * (l.length - 1) + ((w % 64).toNat + j)) % 64 = (w % 64).toNat + j by omega] at this
              rw [rd_getD, show ((l.length : Int) - 1).toNat = l.length - 1 by omega, this]; simp
            · rw [testBit_w64 hx (by omega)]; simp
          have := hs.1.1
          omega
    · rw [if_neg hlen, okB_false fun hr => hlen hr.len]
  · rw [if_neg (by simpa using hin), okB_false fun hr => hin ⟨hr.low, hr.high⟩]

/-! bitsLsucc -/
theorem bitsL_succ (i : Nat) (l : List Int) : bitsL i l ++ [bitI l i] = bitsL (i + 1) l := by simp [bitsL, List.range_succ]

/-! l1List -/
theorem l1List_ev (w : Int) (l : List Int) (h : Right w l) : Ev (fun k => spec_l1List.f k w l) (bitsL w.toNat l) := by
  have hlen := h.len
  have hlo := h.low
  have hhi := h.high
  have main := up_loop w.toNat (fun i => bitsL i l) (fun k acc i => spec_l1List.l0 k acc i w l)
    (fun i hi r hr => Ev.step (fun k => by
      simp only [spec_l1List.l0]
      rw [if_pos (by omega), l1Bit_eq w l h.words i (by omega) (by omega)]
      simp only [Option.bind_some]
      rw [if_pos (by rw [bitsL_len]; omega), bitsL_succ, wrap64_id (by omega) (by omega)]) hr)
    (bitsL w.toNat l) (Ev.step (f := fun _ => some (bitsL w.toNat l)) (fun k => by
      simp only [spec_l1List.l0]
      rw [if_neg (by omega)]) (Ev.now _))
  exact Ev.congr (fun k => by unfold spec_l1List.f; simp [bitsL]) main

/-! packs -/
/-- ws is the row whose bits are z. -/
structure Packs (z : List Int) (ws : List Int) : Prop where
  right : Right (z.length : Int) ws
  bit : ∀ j, j < z.length → bitN ws j = decide (rd z (j : Int) = 1)
theorem Packs.uniq {z ws ws' : List Int} (h : Packs z ws) (k : Packs z ws') : ws = ws' :=
  h.right.ext k.right fun i hi => by rw [h.bit i (by omega), k.bit i (by omega)]
theorem packs_of {w : Int} {z ws : List Int} (hw : w = z.length) (h : Right w ws) (hb : ∀ j, j < z.length → bitN ws j = decide (rd z (j : Int) = 1)) : Packs z ws := by
  subst hw
  exact ⟨h, hb⟩

/-! l1From -/
theorem l1From_ev (z : List Int) (h01 : Bits01 z) (h1 : 1 ≤ z.length) (h2 : z.length ≤ 4096) :
    ∃ ws, Ev (fun k => spec_l1From.f k z) ((z.length : Int), ws, true) ∧ Packs z ws := by
  have ew := fun (_ : True) => words_of (z.length : Int) (by omega) (by omega)
  obtain ⟨ws, hI, hr⟩ := inv_loop z.length (fun i (ws : List Int) => (ws.length : Int) = ((z.length : Int) + 63) / 64 ∧ U64s ws ∧ ∀ j, bitN ws j = (decide (j < i) && decide (rd z (j : Int) = 1)))
    (fun k ws i => spec_l1From.l0 k z i (z.length : Int) ws)
    (fun i hi ws ⟨hl, hu, hb⟩ => by
      have hk : i / 64 < ws.length := by omega
      have hz := rd_01 h01 (i : Int)
      have e3 := fun (_ : True) => wrap_u64_id (x := rd z (i : Int)) (by omega) (by omega)
      have hzw : W64 (rd z (i : Int)) := by unfold W64; omega
      have hs := shl_nat hzw (i % 64)
      have ho := or_w64 (rd_w64 hu ((i / 64 : Nat) : Int)) hs.1
      refine ⟨ws.set (i / 64) (Go.bits .or .u64 (rd ws ((i / 64 : Nat) : Int)) (shl .u64 (rd z (i : Int)) ((i % 64 : Nat) : Int))), ⟨by simpa using hl, hu.set _ ho.1, fun j => ?_⟩, fun r h => Ev.step (fun k => ?_) h⟩
      · rw [bitN_set hk]
        by_cases hj : j / 64 = i / 64
        · have e4 : (rd ws ((i / 64 : Nat) : Int)).toNat.testBit (j % 64) = bitN ws j := by unfold bitN; rw [hj]; rfl
          rw [if_pos hj, ho.2, hs.2 _ (by omega), e4, hb, testBit_01 hz]
          by_cases hji : j = i
          · subst hji
            simp
          · have e5 : (decide (i % 64 ≤ j % 64) && decide (j % 64 - i % 64 = 0)) = false := by
              by_cases hle : i % 64 ≤ j % 64
              · rw [decide_eq_false (show ¬ j % 64 - i % 64 = 0 by omega)]; simp
              · rw [decide_eq_false hle]; simp
            rw [← Bool.and_assoc, e5]
            by_cases hlt : j < i
            · simp [hlt, show j < i + 1 by omega]
            · simp [hlt, show ¬ j < i + 1 by omega]
        · rw [if_neg hj, hb]
          have : j ≠ i := fun e => hj (by rw [e])
          by_cases hji : j < i
          · simp [hji, show j < i + 1 by omega]
          · simp [hji, show ¬ j < i + 1 by omega]
      · simp only [spec_l1From.l0]
        rw [if_pos (by omega), tdiv64 i (by omega), utmod64, e3 trivial, if_pos (by omega), if_pos (by omega), if_pos (by omega), if_pos (by omega), wrap_succ i (by omega), Int.toNat_natCast])
    (List.replicate (((z.length : Int) + 63) / 64).toNat 0) ⟨by simp; omega, U64s.replicate _, fun j => by rw [bitN_replicate]; simp⟩
  obtain ⟨hl, hu, hb⟩ := hI
  have hright : Right (z.length : Int) ws := ⟨by omega, by omega, by omega, hu, fun i hi => by rw [hb]; simp; omega⟩
  refine ⟨ws, ?_, hright, fun j hj => by rw [hb]; simp [hj]⟩
  have := hr ((z.length : Int), ws, true) (Ev.step (f := fun _ => some ((z.length : Int), ws, true)) (fun k => by simp only [spec_l1From.l0]; rw [if_neg (by omega)]) (Ev.now _))
  obtain ⟨K, hK⟩ := this
  refine ⟨K + 1, fun k hk => ?_⟩
  obtain ⟨m, rfl⟩ : ∃ m, k = m + 1 := ⟨k - 1, by omega⟩
  dsimp only
  unfold spec_l1From.f
  rw [if_neg (by omega), decide_eq_false (by omega)]
  simp only [spec_l1From.j0]
  rw [if_neg (by simp), ew trivial, if_pos (by omega), if_pos (by omega)]
  exact hK m (by omega)
theorem l1From_none (z : List Int) (h : z.length < 1 ∨ 4096 < z.length) : Ev (fun k => spec_l1From.f k z) (0, [], false) := by
  refine ⟨1, fun k hk => ?_⟩
  obtain ⟨m, rfl⟩ : ∃ m, k = m + 1 := ⟨k - 1, by omega⟩
  dsimp only
  unfold spec_l1From.f
  by_cases h1 : (z.length : Int) < 1
  · rw [if_pos h1]; simp [spec_l1From.j0]
  · rw [if_neg h1, decide_eq_true (by omega)]; simp [spec_l1From.j0]

/-! rdq -/
theorem rd_q (z : List Int) (j : Nat) : rd z (j : Int) = (z[j]?).getD 0 := by rw [rd_getD, List.getD_eq_getElem?_getD, Int.toNat_natCast]
theorem bitI_one (l : List Int) (i : Nat) : decide (bitI l i = 1) = bitN l i := by unfold bitI; cases bitN l i <;> simp
theorem Bits01.append {a b : List Int} (ha : Bits01 a) (hb : Bits01 b) : Bits01 (a ++ b) := fun x hx => (List.mem_append.1 hx).elim (ha x) (hb x)
theorem Bits01.sub {a b : List Int} (ha : Bits01 a) (h : ∀ x ∈ b, x ∈ a) : Bits01 b := fun x hx => ha x (h x hx)
/-- What a call that tells bits is asked: both tell the same. -/
def Agree (f g : Nat → Option (Int × List Int × Bool)) : Prop := ∃ w ws ok, ws.length ≤ 1048576 ∧ Ev f (w, ws, ok) ∧ Ev g (w, ws, ok)

/-! pop -/
/-- The sum of f 0 .. f (n - 1). -/
def cnt (f : Nat → Int) : Nat → Int
  | 0 => 0
  | n + 1 => cnt f n + f n
theorem cnt_congr {f g : Nat → Int} : ∀ n, (∀ i, i < n → f i = g i) → cnt f n = cnt g n
  | 0, _ => rfl
  | n + 1, h => by show cnt f n + f n = cnt g n + g n; rw [cnt_congr n (fun i hi => h i (by omega)), h n (by omega)]
theorem cnt_add (f : Nat → Int) (m : Nat) : ∀ n, cnt f (m + n) = cnt f m + cnt (fun i => f (m + i)) n
  | 0 => by simp [cnt]
  | n + 1 => by show cnt f (m + n) + f (m + n) = cnt f m + (cnt (fun i => f (m + i)) n + f (m + n)); rw [cnt_add f m n]; omega
theorem cnt_bound {f : Nat → Int} (h : ∀ i, 0 ≤ f i ∧ f i ≤ 1) : ∀ n : Nat, 0 ≤ cnt f n ∧ cnt f n ≤ n
  | 0 => by simp [cnt]
  | n + 1 => by have := cnt_bound h n; have := h n; show 0 ≤ cnt f n + f n ∧ cnt f n + f n ≤ ((n + 1 : Nat) : Int); omega
def ofB : List Nat → Nat
  | [] => 0
  | b :: bs => b + 256 * ofB bs
theorem and_byte (x y : Nat) : x &&& y = (x % 256 &&& y % 256) + 256 * (x / 256 &&& y / 256) := by
  have h1 := Nat.and_mod_two_pow (a := x) (b := y) (n := 8)
  have h2 := Nat.and_div_two_pow (a := x) (b := y) (n := 8)
  have := Nat.div_add_mod (x &&& y) 256
  simp at h1 h2
  omega
theorem and_low (x c j : Nat) (hc : c < 2 ^ j) : x &&& c = (x % 2 ^ j) &&& c := by
  have h := Nat.and_mod_two_pow (a := x) (b := c) (n := j)
  rw [Nat.mod_eq_of_lt (Nat.lt_of_le_of_lt Nat.and_le_right hc), Nat.mod_eq_of_lt hc] at h
  exact h
/-- A byte and the bytes above it, shifted by s and masked. -/
theorem and_shift (b Y c C s j : Nat) (hb : b < 256) (hc : c < 2 ^ j) (hc2 : c < 256) (hs : 2 ^ j * s = 256) (hs0 : 0 < s) : ((b + 256 * Y) / s) &&& (c + 256 * C) = ((b / s) &&& c) + 256 * ((Y / s) &&& C) := by
  have e0 : (b + 256 * Y) / s = b / s + 2 ^ j * Y := by
    rw [← hs, show b + 2 ^ j * s * Y = b + s * (2 ^ j * Y) by rw [Nat.mul_comm (2 ^ j) s, Nat.mul_assoc], Nat.add_mul_div_left _ _ hs0]
  have hbs : b / s < 2 ^ j := by rw [Nat.div_lt_iff_lt_mul hs0, hs]; exact hb
  have e1 : (b / s + 2 ^ j * Y) % 256 = b / s + 2 ^ j * (Y % s) := by
    have hY := Nat.div_add_mod Y s
    have e : b / s + 2 ^ j * Y = (b / s + 2 ^ j * (Y % s)) + 256 * (Y / s) := by
      rw [← hs, Nat.mul_assoc, Nat.add_assoc, ← Nat.mul_add, Nat.add_comm (Y % s), hY]
    have hlt : b / s + 2 ^ j * (Y % s) < 256 := by
      have h1 : Y % s + 1 ≤ s := Nat.mod_lt _ hs0
      have h2 : 2 ^ j * (Y % s + 1) ≤ 2 ^ j * s := Nat.mul_le_mul_left _ h1
      rw [Nat.mul_add, hs] at h2
      omega
    rw [e, Nat.add_mul_mod_self_left, Nat.mod_eq_of_lt hlt]
  have e2 : (b / s + 2 ^ j * Y) / 256 = Y / s := by
    have h3 : (b / s + 2 ^ j * Y) / 2 ^ j / s = (b / s + 2 ^ j * Y) / 256 := by rw [Nat.div_div_eq_div_mul, hs]
    rw [← h3, Nat.add_mul_div_left _ _ (Nat.two_pow_pos j), Nat.div_eq_of_lt hbs, Nat.zero_add]
  rw [and_byte, e0, e1, e2, show (c + 256 * C) % 256 = c by omega, show (c + 256 * C) / 256 = C by omega]
  congr 1
  rw [and_low _ c j hc, Nat.add_mul_mod_self_left, ← and_low _ c j hc]
theorem and_plain (b Y c C : Nat) (hb : b < 256) (hc : c < 256) : (b + 256 * Y) &&& (c + 256 * C) = (b &&& c) + 256 * (Y &&& C) := by
  rw [and_byte, show (b + 256 * Y) % 256 = b by omega, show (b + 256 * Y) / 256 = Y by omega, show (c + 256 * C) % 256 = c by omega, show (c + 256 * C) / 256 = C by omega]
def y1 (b : Nat) : Nat := (b / 2 &&& 85) + (b &&& 85)
def y2 (b : Nat) : Nat := (y1 b / 4 &&& 51) + (y1 b &&& 51)
def y3 (b : Nat) : Nat := y2 b / 16 + y2 b % 16
def pc8 (b : Nat) : Nat := b % 2 + b / 2 % 2 + b / 4 % 2 + b / 8 % 2 + b / 16 % 2 + b / 32 % 2 + b / 64 % 2 + b / 128 % 2
theorem bytes_told : ∀ b, b < 256 → y1 b < 256 ∧ y2 b / 16 ≤ 4 ∧ y2 b % 16 ≤ 4 ∧ y3 b = pc8 b := by decide
theorem step1 (c C : Nat) : ∀ bs : List Nat, (∀ b ∈ bs, b < 256) → (ofB bs / 2 &&& ofB (bs.map fun _ => 85)) + (ofB bs &&& ofB (bs.map fun _ => 85)) = ofB (bs.map y1)
  | [], _ => by simp [ofB]
  | b :: bs, h => by
    have hb := h b (by simp)
    have ih := step1 c C bs fun x hx => h x (by simp [hx])
    simp only [ofB, List.map_cons]
    rw [and_shift b _ 85 _ 2 7 hb (by decide) (by decide) (by decide) (by decide), and_plain b _ 85 _ hb (by decide), ← ih]
    unfold y1
    omega
theorem step2 : ∀ bs : List Nat, (∀ b ∈ bs, b < 256) → (ofB (bs.map y1) / 4 &&& ofB (bs.map fun _ => 51)) + (ofB (bs.map y1) &&& ofB (bs.map fun _ => 51)) = ofB (bs.map y2)
  | [], _ => by simp [ofB]
  | b :: bs, h => by
    have hb := (bytes_told b (h b (by simp))).1
    have ih := step2 bs fun x hx => h x (by simp [hx])
    simp only [ofB, List.map_cons]
    rw [and_shift (y1 b) _ 51 _ 4 6 hb (by decide) (by decide) (by decide) (by decide), and_plain (y1 b) _ 51 _ hb (by decide), ← ih]
    unfold y2
    omega
theorem ofB_mod (b : Nat) (bs : List Nat) : ofB (b :: bs) % 16 = b % 16 := by simp only [ofB]; omega
theorem step3 : ∀ bs : List Nat, (∀ b ∈ bs, b < 256) → (ofB (bs.map y2) / 16 + ofB (bs.map y2)) &&& ofB (bs.map fun _ => 15) = ofB (bs.map y3)
  | [], _ => by simp [ofB]
  | b :: bs, h => by
    have hb := bytes_told b (h b (by simp))
    have ih := step3 bs fun x hx => h x (by simp [hx])
    have hn : ofB (bs.map y2) % 16 ≤ 4 := by
      cases bs with
      | nil => simp [ofB]
      | cons d ds => rw [List.map_cons, ofB_mod]; exact (bytes_told d (h d (by simp))).2.2.1
    simp only [ofB, List.map_cons]
    rw [show (y2 b + 256 * ofB (bs.map y2)) / 16 + (y2 b + 256 * ofB (bs.map y2)) = (y2 b / 16 + y2 b + 16 * (ofB (bs.map y2) % 16)) + 256 * (ofB (bs.map y2) / 16 + ofB (bs.map y2)) by omega,
      and_plain _ _ 15 _ (by omega) (by decide), ih, show (15 : Nat) = 2 ^ 4 - 1 by decide, Nat.and_two_pow_sub_one_eq_mod]
    unfold y3
    omega
def pcN (a : Nat) : Nat := pc8 (a % 256) + pc8 (a / 256 % 256) + pc8 (a / 65536 % 256) + pc8 (a / 16777216 % 256) + pc8 (a / 4294967296 % 256) + pc8 (a / 1099511627776 % 256) + pc8 (a / 281474976710656 % 256) + pc8 (a / 72057594037927936 % 256)
theorem pc8_le (b : Nat) : pc8 b ≤ 8 := by unfold pc8; omega
theorem swar_add (p q M x : Nat) (hp : p < 2 ^ 64) (hq : q < 2 ^ 64) (hM : M < 2 ^ 64) (h : (p &&& M) + (q &&& M) = x) (hx : x < 2 ^ 64) :
    IntKind.u64.wrap (Go.bits .and .u64 (p : Int) (M : Int) + Go.bits .and .u64 (q : Int) (M : Int)) = (x : Int) := by
  rw [and_u64 _ _ hp hM, and_u64 _ _ hq hM, ← Int.natCast_add, h, wrap_u64_id (by omega) (by omega)]
theorem swar_and (p M x : Nat) (hp : p < 2 ^ 64) (hM : M < 2 ^ 64) (h : p &&& M = x) : Go.bits .and .u64 (IntKind.u64.wrap (p : Int)) (M : Int) = (x : Int) := by
  rw [wrap_u64_id (by omega) (by omega), and_u64 _ _ hp hM, h]
theorem onesCount_shape (a : Int) (x1 x2 x3 : Int) (h1 : IntKind.u64.wrap (Go.bits .and .u64 (a / 2) 6148914691236517205 + Go.bits .and .u64 a 6148914691236517205) = x1)
    (h2 : IntKind.u64.wrap (Go.bits .and .u64 (x1 / 4) 3689348814741910323 + Go.bits .and .u64 x1 3689348814741910323) = x2)
    (h3 : Go.bits .and .u64 (IntKind.u64.wrap (x2 / 16 + x2)) 1085102592571150095 = x3) :
    bits_OnesCount64.f a = some (Go.bits .and .i64 (wrap64 (IntKind.u64.wrap (IntKind.u64.wrap (IntKind.u64.wrap (x3 + x3 / 256) + IntKind.u64.wrap (x3 + x3 / 256) / 65536) + IntKind.u64.wrap (IntKind.u64.wrap (x3 + x3 / 256) + IntKind.u64.wrap (x3 + x3 / 256) / 65536) / 4294967296))) 127) := by
  subst h1 h2 h3
  rfl
theorem seven (z0 z1 z2 z3 z4 z5 z6 z7 : Nat) : z0 + 256 * (z1 + 256 * (z2 + 256 * (z3 + 256 * (z4 + 256 * (z5 + 256 * (z6 + 256 * (z7 + 256 * 0))))))) = z0 + 256 * z1 + 65536 * z2 + 16777216 * z3 + 4294967296 * z4 + 1099511627776 * z5 + 281474976710656 * z6 + 72057594037927936 * z7 := by omega
theorem swar_tail1 (z0 z1 z2 z3 z4 z5 z6 z7 x3 : Nat) (h0 : z0 ≤ 8) (h1 : z1 ≤ 8) (h2 : z2 ≤ 8) (h3 : z3 ≤ 8) (h4 : z4 ≤ 8) (h5 : z5 ≤ 8) (h6 : z6 ≤ 8) (h7 : z7 ≤ 8) (e3 : x3 = z0 + 256 * z1 + 65536 * z2 + 16777216 * z3 + 4294967296 * z4 + 1099511627776 * z5 + 281474976710656 * z6 + 72057594037927936 * z7) :
    x3 + x3 / 256 = (z0 + z1) + 256 * (z1 + z2) + 65536 * (z2 + z3) + 16777216 * (z3 + z4) + 4294967296 * (z4 + z5) + 1099511627776 * (z5 + z6) + 281474976710656 * (z6 + z7) + 72057594037927936 * z7 := by
  have : x3 / 256 = z1 + 256 * z2 + 65536 * z3 + 16777216 * z4 + 4294967296 * z5 + 1099511627776 * z6 + 281474976710656 * z7 := by omega
  omega
theorem swar_tail2 (z0 z1 z2 z3 z4 z5 z6 z7 x4 : Nat) (h0 : z0 ≤ 8) (h1 : z1 ≤ 8) (h2 : z2 ≤ 8) (h3 : z3 ≤ 8) (h4 : z4 ≤ 8) (h5 : z5 ≤ 8) (h6 : z6 ≤ 8) (h7 : z7 ≤ 8) (e4 : x4 = (z0 + z1) + 256 * (z1 + z2) + 65536 * (z2 + z3) + 16777216 * (z3 + z4) + 4294967296 * (z4 + z5) + 1099511627776 * (z5 + z6) + 281474976710656 * (z6 + z7) + 72057594037927936 * z7) :
    x4 + x4 / 65536 = (z0 + z1 + z2 + z3) + 256 * (z1 + z2 + z3 + z4) + 65536 * (z2 + z3 + z4 + z5) + 16777216 * (z3 + z4 + z5 + z6) + 4294967296 * (z4 + z5 + z6 + z7) + 1099511627776 * (z5 + z6 + z7) + 281474976710656 * (z6 + z7) + 72057594037927936 * z7 := by
  have : x4 / 65536 = (z2 + z3) + 256 * (z3 + z4) + 65536 * (z4 + z5) + 16777216 * (z5 + z6) + 4294967296 * (z6 + z7) + 1099511627776 * z7 := by omega
  omega
theorem swar_tail3 (z0 z1 z2 z3 z4 z5 z6 z7 x5 : Nat) (h0 : z0 ≤ 8) (h1 : z1 ≤ 8) (h2 : z2 ≤ 8) (h3 : z3 ≤ 8) (h4 : z4 ≤ 8) (h5 : z5 ≤ 8) (h6 : z6 ≤ 8) (h7 : z7 ≤ 8) (e5 : x5 = (z0 + z1 + z2 + z3) + 256 * (z1 + z2 + z3 + z4) + 65536 * (z2 + z3 + z4 + z5) + 16777216 * (z3 + z4 + z5 + z6) + 4294967296 * (z4 + z5 + z6 + z7) + 1099511627776 * (z5 + z6 + z7) + 281474976710656 * (z6 + z7) + 72057594037927936 * z7) :
    (x5 + x5 / 4294967296) % 128 = z0 + z1 + z2 + z3 + z4 + z5 + z6 + z7 ∧ x5 < 2 ^ 62 := by
  have : x5 / 4294967296 = (z4 + z5 + z6 + z7) + 256 * (z5 + z6 + z7) + 65536 * (z6 + z7) + 16777216 * z7 := by omega
  omega
theorem and127 (z : Int) (h0 : 0 ≤ z) (h1 : z ≤ 9223372036854775807) : Go.bits .and .i64 (wrap64 z) 127 = z % 128 := by
  rw [wrap64_id (by omega) h1]
  have := bits_mask .i64 63 (by decide) (fun n h0 h1 => by rw [IntKind.wrap_i64]; omega) 7 (by decide) z h0 (by omega)
  simpa using this
theorem add_shift (x d : Nat) (h : x < 2 ^ 63) : IntKind.u64.wrap ((x : Int) + (x : Int) / (d : Int)) = ((x + x / d : Nat) : Int) := by
  have : x / d ≤ x := Nat.div_le_self _ _
  rw [← Int.natCast_ediv, ← Int.natCast_add, wrap_u64_id (Int.natCast_nonneg _) (by omega)]
theorem swar_end (z0 z1 z2 z3 z4 z5 z6 z7 x3 : Nat) (hz : z0 ≤ 8 ∧ z1 ≤ 8 ∧ z2 ≤ 8 ∧ z3 ≤ 8 ∧ z4 ≤ 8 ∧ z5 ≤ 8 ∧ z6 ≤ 8 ∧ z7 ≤ 8) (e3 : x3 = z0 + 256 * z1 + 65536 * z2 + 16777216 * z3 + 4294967296 * z4 + 1099511627776 * z5 + 281474976710656 * z6 + 72057594037927936 * z7) :
    Go.bits .and .i64 (wrap64 (IntKind.u64.wrap (IntKind.u64.wrap (IntKind.u64.wrap ((x3 : Int) + (x3 : Int) / 256) + IntKind.u64.wrap ((x3 : Int) + (x3 : Int) / 256) / 65536) + IntKind.u64.wrap (IntKind.u64.wrap ((x3 : Int) + (x3 : Int) / 256) + IntKind.u64.wrap ((x3 : Int) + (x3 : Int) / 256) / 65536) / 4294967296))) 127 = ((z0 + z1 + z2 + z3 + z4 + z5 + z6 + z7 : Nat) : Int) := by
  obtain ⟨h0, h1, h2, h3, h4, h5, h6, h7⟩ := hz
  have k4 := swar_tail1 z0 z1 z2 z3 z4 z5 z6 z7 x3 h0 h1 h2 h3 h4 h5 h6 h7 e3
  have l3 : x3 < 2 ^ 63 := by omega
  rw [show (256 : Int) = ((256 : Nat) : Int) from rfl, add_shift x3 256 l3]
  obtain ⟨x4, q4⟩ : ∃ x, x = x3 + x3 / 256 := ⟨_, rfl⟩
  rw [← q4] at k4 ⊢
  have k5 := swar_tail2 z0 z1 z2 z3 z4 z5 z6 z7 x4 h0 h1 h2 h3 h4 h5 h6 h7 k4
  have l4 : x4 < 2 ^ 63 := by clear q4 e3; omega
  rw [show (65536 : Int) = ((65536 : Nat) : Int) from rfl, add_shift x4 65536 l4]
  obtain ⟨x5, q5⟩ : ∃ x, x = x4 + x4 / 65536 := ⟨_, rfl⟩
  rw [← q5] at k5 ⊢
  obtain ⟨k6, l5⟩ := swar_tail3 z0 z1 z2 z3 z4 z5 z6 z7 x5 h0 h1 h2 h3 h4 h5 h6 h7 k5
  have l5' : x5 < 2 ^ 63 := by clear q5 q4 e3 k4 k5 k6; omega
  rw [show (4294967296 : Int) = ((4294967296 : Nat) : Int) from rfl, add_shift x5 4294967296 l5', and127 _ (Int.natCast_nonneg _) (by have : x5 / 4294967296 ≤ x5 := Nat.div_le_self _ _; clear q5 q4 e3 k4 k5 k6; omega)]
  rw [← k6]; rfl
theorem onesCount_eq (a : Nat) (ha : a < 2 ^ 64) : bits_OnesCount64.f (a : Int) = some ((pcN a : Nat) : Int) := by
  obtain ⟨bs, hbs⟩ : ∃ bs : List Nat, bs = [a % 256, a / 256 % 256, a / 65536 % 256, a / 16777216 % 256, a / 4294967296 % 256, a / 1099511627776 % 256, a / 281474976710656 % 256, a / 72057594037927936 % 256] := ⟨_, rfl⟩
  have hlt : ∀ b ∈ bs, b < 256 := by
    intro b hb
    rw [hbs] at hb
    simp only [List.mem_cons, List.not_mem_nil, or_false] at hb
    omega
  have hof : ofB bs = a := by rw [hbs]; simp only [ofB]; omega
  have m85 : ofB (bs.map fun _ => 85) = 6148914691236517205 := by rw [hbs]; simp only [List.map_cons, List.map_nil, ofB]
  have m51 : ofB (bs.map fun _ => 51) = 3689348814741910323 := by rw [hbs]; simp only [List.map_cons, List.map_nil, ofB]
  have m15 : ofB (bs.map fun _ => 15) = 1085102592571150095 := by rw [hbs]; simp only [List.map_cons, List.map_nil, ofB]
  have s1 := step1 0 0 bs hlt
  have s2 := step2 bs hlt
  have s3 := step3 bs hlt
  rw [m85, hof] at s1
  rw [m51] at s2
  rw [m15] at s3
  obtain ⟨x1, hx1⟩ : ∃ x, x = ofB (bs.map y1) := ⟨_, rfl⟩
  obtain ⟨x2, hx2⟩ : ∃ x, x = ofB (bs.map y2) := ⟨_, rfl⟩
  obtain ⟨x3, hx3⟩ : ∃ x, x = ofB (bs.map y3) := ⟨_, rfl⟩
  rw [← hx1] at s1 s2
  rw [← hx2] at s2 s3
  rw [← hx3] at s3
  have l1 : x1 < 2 ^ 64 := by
    have : ∀ b ∈ bs, y1 b < 256 := fun b hb => (bytes_told b (hlt b hb)).1
    rw [hbs] at this hx1
    simp only [List.mem_cons, List.not_mem_nil, or_false, forall_eq_or_imp, forall_eq] at this
    simp only [List.map_cons, List.map_nil, ofB] at hx1
    omega
  have l2 : x2 < 2 ^ 63 := by
    have : ∀ b ∈ bs, y2 b ≤ 68 := fun b hb => by have := bytes_told b (hlt b hb); omega
    rw [hbs] at this hx2
    simp only [List.mem_cons, List.not_mem_nil, or_false, forall_eq_or_imp, forall_eq] at this
    simp only [List.map_cons, List.map_nil, ofB] at hx2
    omega
  have e3 : x3 = pc8 (a % 256) + 256 * pc8 (a / 256 % 256) + 65536 * pc8 (a / 65536 % 256) + 16777216 * pc8 (a / 16777216 % 256) + 4294967296 * pc8 (a / 4294967296 % 256) + 1099511627776 * pc8 (a / 1099511627776 % 256) + 281474976710656 * pc8 (a / 281474976710656 % 256) + 72057594037927936 * pc8 (a / 72057594037927936 % 256) := by
    have : ∀ b ∈ bs, y3 b = pc8 b := fun b hb => (bytes_told b (hlt b hb)).2.2.2
    rw [hbs] at this hx3
    simp only [List.mem_cons, List.not_mem_nil, or_false, forall_eq_or_imp, forall_eq] at this
    simp only [List.map_cons, List.map_nil, ofB] at hx3
    rw [hx3]
    obtain ⟨t0, t1, t2, t3, t4, t5, t6, t7⟩ := this
    rw [t0, t1, t2, t3, t4, t5, t6, t7]
    exact seven _ _ _ _ _ _ _ _
  have p0 := pc8_le (a % 256); have p1 := pc8_le (a / 256 % 256); have p2 := pc8_le (a / 65536 % 256); have p3 := pc8_le (a / 16777216 % 256)
  have p4 := pc8_le (a / 4294967296 % 256); have p5 := pc8_le (a / 1099511627776 % 256); have p6 := pc8_le (a / 281474976710656 % 256); have p7 := pc8_le (a / 72057594037927936 % 256)
  have g1 := swar_add (a / 2) a 6148914691236517205 x1 (by omega) ha (by decide) s1 l1
  have g2 := swar_add (x1 / 4) x1 3689348814741910323 x2 (by omega) l1 (by decide) s2 (by omega)
  have g3 := swar_and (x2 / 16 + x2) 1085102592571150095 x3 (by omega) (by decide) s3
  rw [onesCount_shape (a : Int) x1 x2 x3 (by rw [← g1]; congr 1) (by rw [← g2]; congr 1) (by rw [← g3]; congr 2)]
  congr 1
  exact swar_end _ _ _ _ _ _ _ _ x3 ⟨p0, p1, p2, p3, p4, p5, p6, p7⟩ e3
theorem pc8_cnt : ∀ b, b < 256 → (pc8 b : Int) = cnt (fun d => if b.testBit d then 1 else 0) 8 := by decide
theorem cnt_byte (a k : Nat) : cnt (fun d => if a.testBit (k + d) then (1 : Int) else 0) 8 = (pc8 (a / 2 ^ k % 256) : Int) := by
  rw [pc8_cnt _ (Nat.mod_lt _ (by decide))]
  refine cnt_congr 8 fun d hd => ?_
  rw [show (256 : Nat) = 2 ^ 8 by decide, Nat.testBit_mod_two_pow, Nat.testBit_div_two_pow, Nat.add_comm]
  simp [hd]
theorem pcN_cnt (a : Nat) : cnt (fun d => if a.testBit d then (1 : Int) else 0) 64 = (pcN a : Int) := by
  have e := fun k => cnt_byte a k
  rw [show (64 : Nat) = 0 + 8 + 8 + 8 + 8 + 8 + 8 + 8 + 8 by decide]
  rw [cnt_add _ (0 + 8 + 8 + 8 + 8 + 8 + 8 + 8), cnt_add _ (0 + 8 + 8 + 8 + 8 + 8 + 8), cnt_add _ (0 + 8 + 8 + 8 + 8 + 8), cnt_add _ (0 + 8 + 8 + 8 + 8), cnt_add _ (0 + 8 + 8 + 8), cnt_add _ (0 + 8 + 8), cnt_add _ (0 + 8), cnt_add _ 0]
  rw [e, e, e, e, e, e, e, e]
  unfold pcN
  simp [cnt]

/-! implCount -/
theorem bitI_cnt2 (l : List Int) (h : U64s l) (i : Nat) : ∃ a : Nat, rd l (i : Int) = (a : Int) ∧ a < 2 ^ 64 ∧ cnt (bitI l) (64 * i + 64) = cnt (bitI l) (64 * i) + (pcN a : Int) := by
  obtain ⟨a, ha, hal⟩ := w64_nat (rd_w64 h (i : Int))
  refine ⟨a, ha, hal, ?_⟩
  rw [cnt_add, ← pcN_cnt]
  congr 1
  refine cnt_congr 64 fun d hd => ?_
  unfold bitI
  rw [bitN_word _ _ _ hd, ha, Int.toNat_natCast]
theorem implCount_ev (wd : Nat) (l : List Int) (hr : Right (wd : Int) l) : Ev (fun k => impl_CountOnes.f k (wd : Int) l) (cnt (bitI l) wd) := by
  have b1 := hr.low; have b2 := hr.high; have b3 := hr.len
  have g2 := implBitsOk_eq (wd : Int) l hr.words (by omega)
  have hb := cnt_bound (f := bitI l) (fun i => by rcases bitI_01 l i with e | e <;> omega)
  have e := okB_true hr
  have hc : cnt (bitI l) (64 * l.length) = cnt (bitI l) wd := by
    rw [show 64 * l.length = wd + (64 * l.length - wd) by omega, cnt_add]
    have : cnt (fun i => bitI l (wd + i)) (64 * l.length - wd) = cnt (fun _ => 0) (64 * l.length - wd) := cnt_congr _ fun i hi => by
      unfold bitI; rw [hr.top (wd + i) (by omega)]; rfl
    have z : ∀ n, cnt (fun _ => 0) n = 0 := fun n => by
      induction n with
      | zero => rfl
      | succ n ih => show cnt (fun _ => 0) n + 0 = 0; omega
    rw [this, z]; omega
  obtain ⟨K2, h⟩ := up_loop l.length (fun i => cnt (bitI l) (64 * i)) (fun k s i => impl_CountOnes.l0 k s l (l.length : Int) i)
    (fun i hi r h => Ev.step (fun k => by
      obtain ⟨a, ha, hal, hs⟩ := bitI_cnt2 l hr.words i
      have := hb (64 * i + 64)
      have h0 := hb (64 * i)
      simp only [impl_CountOnes.l0]
      rw [if_pos (by omega), if_pos (by omega), if_pos (by omega), ha, onesCount_eq a hal]
      simp only [Option.bind_some]
      rw [← hs, wrap64_id (by omega) (by omega), wrap64_id (by omega) (by omega)]; rfl) h)
    _ (Ev.step (f := fun _ => some (cnt (bitI l) (64 * l.length))) (fun k => by simp only [impl_CountOnes.l0]; rw [if_neg (by omega)]) (Ev.now _))
  rw [hc] at h
  refine ⟨K2, fun k hk => ?_⟩
  have h := h k (by omega)
  dsimp only at h ⊢
  simp (disch := omega) only [impl_CountOnes.f, g2, e, Option.bind_some, if_true]
  simpa [cnt] using h

/-! succBits -/
theorem succ_bits : ∀ q a : Nat, (∀ d, d < q → a.testBit d = true) → a.testBit q = false → ∀ j, (a + 1).testBit j = if j < q then false else if j = q then true else a.testBit j := by
  intro q
  induction q with
  | zero =>
    intro a _ h0 j
    rw [Nat.testBit_zero] at h0
    have he : a % 2 = 0 := by simpa using h0
    rw [if_neg (by omega)]
    cases j with
    | zero => rw [if_pos rfl, Nat.testBit_zero]; simp; omega
    | succ j => rw [if_neg (by omega), Nat.testBit_succ, Nat.testBit_succ, show (a + 1) / 2 = a / 2 by omega]
  | succ q ih =>
    intro a h1 h0 j
    have ho : a % 2 = 1 := by have := h1 0 (by omega); rw [Nat.testBit_zero] at this; simpa using this
    cases j with
    | zero => rw [if_pos (by omega), Nat.testBit_zero]; simp; omega
    | succ j =>
      rw [Nat.testBit_succ, show (a + 1) / 2 = a / 2 + 1 by omega, ih (a / 2) (fun d hd => by rw [← Nat.testBit_succ]; exact h1 (d + 1) (by omega)) (by rw [← Nat.testBit_succ]; exact h0) j, Nat.testBit_succ]
      by_cases c : j < q
      · have c' : j + 1 < q + 1 := by omega
        simp only [if_pos c, if_pos c']
      · have c' : ¬ j + 1 < q + 1 := by omega
        simp only [if_neg c, if_neg c']
        by_cases e : j = q
        · have e' : j + 1 = q + 1 := by omega
          simp only [if_pos e, if_pos e']
        · have e' : ¬ j + 1 = q + 1 := by omega
          simp only [if_neg e, if_neg e']
theorem all_ones (a : Nat) (h : a < 2 ^ 64) (h1 : ∀ d, d < 64 → a.testBit d = true) : a = 18446744073709551615 := by
  have : a = 2 ^ 64 - 1 := testBit_ext h (by decide) fun j hj => by rw [h1 j hj, Nat.testBit_two_pow_sub_one]; simp [hj]
  simpa using this
/-- The first place at which p is false, if there is one below n. -/
theorem first_false (p : Nat → Bool) : ∀ n, (∀ j, j < n → p j = true) ∨ ∃ q, q < n ∧ p q = false ∧ ∀ j, j < q → p j = true := by
  intro n
  induction n with
  | zero => exact .inl fun j hj => by omega
  | succ n ih =>
    rcases ih with h | ⟨q, h1, h2, h3⟩
    · cases e : p n with
      | true =>
        refine .inl fun j hj => ?_
        by_cases c : j = n
        · rw [c]; exact e
        · exact h j (by omega)
      | false => exact .inr ⟨n, by omega, e, h⟩
    · exact .inr ⟨q, by omega, h2, h3⟩

/-! nextBits -/
theorem cnt_ones (l : List Int) : ∀ n, (∀ j, j < n → bitN l j = true) → cnt (bitI l) n = n
  | 0, _ => rfl
  | n + 1, h => by
    show cnt (bitI l) n + bitI l n = _
    rw [cnt_ones l n (fun j hj => h j (by omega))]
    unfold bitI
    rw [h n (by omega)]
    simp
theorem cnt_less (l : List Int) (p : Nat) (hp : bitN l p = false) : ∀ n, p < n → cnt (bitI l) n < n
  | 0, h => absurd h (by omega)
  | n + 1, h => by
    have hb := cnt_bound (f := bitI l) (fun i => by rcases bitI_01 l i with e | e <;> omega) n
    show cnt (bitI l) n + bitI l n < _
    by_cases e : p = n
    · subst e
      have : bitI l p = 0 := by unfold bitI; rw [hp]; simp
      omega
    · have := cnt_less l p hp n (by omega)
      rcases bitI_01 l n with e | e <;> omega
/-- What comes behind a row whose first bit 0 is at p. -/
def nextB (l : List Int) (p j : Nat) : Bool := if j < p then false else if j = p then true else bitN l j
theorem next_impl (w : Int) (l : List Int) (hr : Right w l) (p : Nat) (hp : (p : Int) < w) (h0 : bitN l p = false) (h1 : ∀ j, j < p → bitN l j = true) :
    ∀ d i, l.length - i = d → 64 * i ≤ p → ∀ s : List Int, s.length = l.length → U64s s → (∀ j, bitN s j = if j < 64 * i then false else bitN l j) →
      ∃ y, Ev (fun k => impl_NextBits.l0 k (l.length : Int) (i : Int) w s) (w, y, true) ∧ y.length = l.length ∧ U64s y ∧ ∀ j, bitN y j = nextB l p j := by
  have hlen := hr.len
  have hhi := hr.high
  intro d
  induction d with
  | zero => intro i hd hi s hs _ _; omega
  | succ d ih =>
    intro i hd hi s hs hus hb
    have hil : i < l.length := by omega
    obtain ⟨a, ha, hal⟩ := w64_nat (rd_w64 hus (i : Int))
    have hbit : ∀ q, q < 64 → a.testBit q = bitN l (64 * i + q) := fun q hq => by
      have := hb (64 * i + q)
      rw [if_neg (by omega), bitN_word _ _ _ hq, ha, Int.toNat_natCast] at this
      exact this
    have w1 : ∀ v : Int, W64 v → U64s (s.set i v) := fun v hv => hus.set i hv
    by_cases c : 64 * i + 64 ≤ p
    · have hall : a = 18446744073709551615 := all_ones a hal fun q hq => by rw [hbit q hq]; exact h1 _ (by omega)
      have hz : IntKind.u64.wrap (rd s (i : Int) + 1) = 0 := by rw [ha, hall, wrap_u64]; rfl
      obtain ⟨y, ⟨K, hK⟩, g1, g2, g3⟩ := ih (i + 1) (by omega) (by omega) (s.set i 0) (by simpa using hs) (w1 0 ⟨by decide, by decide⟩) (fun j => by
        rw [bitN_set (by omega)]
        by_cases e : j / 64 = i
        · rw [if_pos e, if_pos (by omega)]; simp
        · rw [if_neg e, hb]
          by_cases e2 : j < 64 * i
          · rw [if_pos e2, if_pos (by omega)]
          · rw [if_neg e2, if_neg (by omega)])
      refine ⟨y, ⟨K + 1, fun k hk => ?_⟩, g1, g2, g3⟩
      obtain ⟨m, rfl⟩ : ∃ m, k = m + 1 := ⟨k - 1, by omega⟩
      have hK := hK m (by omega)
      have hrd : rd (s.set i 0) (i : Int) = 0 := by rw [rd_getD, List.getD_eq_getElem?_getD, Int.toNat_natCast, List.getElem?_set_self (by omega)]; rfl
      have c1 : (i : Int) < (s.length : Int) := by omega
      simp only [impl_NextBits.l0]
      rw [if_pos (by omega), if_pos (by omega), if_pos c1]
      simp only [Option.bind_some, Int.toNat_natCast]
      rw [hz, if_pos hrd, wrap64_id (by omega) (by omega)]
      exact hK
    · obtain ⟨q, rfl⟩ : ∃ q, p = 64 * i + q := ⟨p - 64 * i, by omega⟩
      have hsucc := succ_bits q a (fun e he => by rw [hbit e (by omega)]; exact h1 _ (by omega)) (by rw [hbit q (by omega)]; exact h0)
      have hlt : a + 1 < 2 ^ 64 := by
        rcases Nat.lt_or_ge (a + 1) (2 ^ 64) with h | h
        · exact h
        · exfalso
          have : a = 2 ^ 64 - 1 := by omega
          have t := hbit q (by omega)
          rw [h0, this, Nat.testBit_two_pow_sub_one] at t
          have : decide (q < 64) = true := decide_eq_true (by omega)
          rw [this] at t
          cases t
      have hw : IntKind.u64.wrap (rd s (i : Int) + 1) = ((a + 1 : Nat) : Int) := by rw [ha, wrap_u64_id (by omega) (by omega)]; rfl
      refine ⟨s.set i ((a + 1 : Nat) : Int), Ev.step (f := fun _ => some (w, s.set i ((a + 1 : Nat) : Int), true)) (fun k => ?_) (Ev.now _), by simpa using hs, w1 _ ⟨by omega, by omega⟩, fun j => ?_⟩
      · have hrd : ¬ rd (s.set i ((a + 1 : Nat) : Int)) (i : Int) = 0 := by rw [rd_getD, List.getD_eq_getElem?_getD, Int.toNat_natCast, List.getElem?_set_self (by omega), Option.getD_some]; omega
        have c1 : (i : Int) < (s.length : Int) := by omega
        simp only [impl_NextBits.l0]
        rw [if_pos (by omega), if_pos (by omega), if_pos c1]
        simp only [Option.bind_some, Int.toNat_natCast]
        rw [hw, if_neg hrd]
      · rw [bitN_set (by omega)]
        unfold nextB
        by_cases e : j / 64 = i
        · rw [if_pos e, Int.toNat_natCast, hsucc]
          by_cases e1 : j < 64 * i + q
          · rw [if_pos e1, if_pos (by omega)]
          · rw [if_neg e1, if_neg (by omega)]
            by_cases e2 : j = 64 * i + q
            · rw [if_pos e2, if_pos (by omega)]
            · rw [if_neg e2, if_neg (by omega), hbit _ (by omega)]
              congr 1; omega
        · rw [if_neg e, hb]
          by_cases e1 : j < 64 * i
          · rw [if_pos e1, if_pos (by omega)]
          · rw [if_neg e1, if_neg (by omega), if_neg (by omega)]
/-- The list of bits, those below i turned to 0. -/
def zeroBelow (l : List Int) (wd i : Nat) : List Int := (List.range wd).map fun (j : Nat) => if j < i then 0 else bitI l j
theorem zeroBelow_len (l : List Int) (wd i : Nat) : (zeroBelow l wd i).length = wd := by simp [zeroBelow]
theorem zeroBelow_rd (l : List Int) (wd i j : Nat) (h : j < wd) : rd (zeroBelow l wd i) (j : Int) = if j < i then 0 else bitI l j := by
  rw [rd_getD, List.getD_eq_getElem?_getD, Int.toNat_natCast, zeroBelow, List.getElem?_map, List.getElem?_range h]; rfl
theorem zeroBelow_zero (l : List Int) (wd : Nat) : zeroBelow l wd 0 = bitsL wd l := by simp [zeroBelow, bitsL]
theorem zeroBelow_set (l : List Int) (wd i : Nat) (h : i < wd) : (zeroBelow l wd i).set i 0 = zeroBelow l wd (i + 1) := by
  apply ext_rd
  · simp [zeroBelow_len]
  · intro j hj
    rw [List.length_set, zeroBelow_len] at hj
    rw [zeroBelow_rd _ _ _ _ hj, rd_getD, List.getD_eq_getElem?_getD, Int.toNat_natCast]
    by_cases e : j = i
    · subst e
      rw [List.getElem?_set_self (by rw [zeroBelow_len]; omega), if_pos (by omega)]; rfl
    · rw [List.getElem?_set_ne (Ne.symm e), getElem?_rd (by rw [zeroBelow_len]; omega), Option.getD_some, zeroBelow_rd _ _ _ _ hj]
      by_cases c : j < i
      · rw [if_pos c, if_pos (by omega)]
      · rw [if_neg c, if_neg (by omega)]
theorem nextBits_agree (w : Int) (l : List Int) (U0 : UpI_Bits 1048576 ⟨w, l⟩) (W0 : WfI_Bits ⟨w, l⟩) :
    ∃ y0_0 y0_1 y1, Ev (fun k => spec_NextBits.f k w l) (y0_0, y0_1, y1) ∧ Ev (fun k => impl_NextBits.f k w l) (y0_0, y0_1, y1) ∧ UpI_Bits 1048576 ⟨y0_0, y0_1⟩ := by
  have hl : l.length ≤ 1048576 := by unfold UpI_Bits at U0; simp only at U0; omega
  have hu : U64s l := W0.2
  obtain ⟨K1, g1⟩ := Ev.binds (specBitsOk_ev w l hu hl W0.1.1 W0.1.2)
  have g2 := implBitsOk_eq w l hu hl
  have none_ : UpI_Bits 1048576 ⟨0, ([] : List Int)⟩ := by unfold UpI_Bits; decide
  rcases okB_cases w l with ⟨e, hr⟩ | ⟨e, hr⟩
  · have b1 := hr.low; have b2 := hr.high; have b3 := hr.len
    obtain ⟨wd, rfl⟩ := Int.eq_ofNat_of_zero_le (show 0 ≤ w by omega)
    obtain ⟨K2, g3⟩ := Ev.binds (l1List_ev (wd : Int) l hr)
    rw [Int.toNat_natCast] at g3
    obtain ⟨K3, g4⟩ := Ev.binds (implCount_ev wd l hr)
    -- the reference's rounds over ones
    have walk : ∀ p, p ≤ wd → (∀ j, j < p → bitN l j = true) → ∀ r, Ev (fun k => spec_NextBits.l0 k (zeroBelow l wd p) (p : Int)) r → Ev (fun k => spec_NextBits.l0 k (bitsL wd l) 0) r := by
      intro p hp h1 r hend
      have main := up_loop p (fun i => zeroBelow l wd i) (fun k s i => spec_NextBits.l0 k s i)
        (fun i hi r h => Ev.step (fun k => by
          have c1 : (i : Int) < ((zeroBelow l wd i).length : Int) := by rw [zeroBelow_len]; omega
          have e1 : rd (zeroBelow l wd i) (i : Int) = 1 := by rw [zeroBelow_rd _ _ _ _ (by omega), if_neg (by omega)]; unfold bitI; rw [h1 i hi]; rfl
          have e2 : rd (zeroBelow l wd (i + 1)) (i : Int) = 0 := by rw [zeroBelow_rd _ _ _ _ (by omega), if_pos (by omega)]
          simp only [spec_NextBits.l0]
          rw [if_pos c1, if_pos (by omega)]
          simp only [Option.bind_some, Int.toNat_natCast]
          rw [e1, show ((1 : Int) - 1) % 256 = 0 by decide, zeroBelow_set _ _ _ (by omega), e2, if_neg (by decide), wrap64_id (by omega) (by omega)]) h) r hend
      rwa [zeroBelow_zero] at main
    rcases first_false (bitN l) wd with hall | ⟨p, hp, h0, h1⟩
    · have hc : (cnt (bitI l) wd == (wd : Int)) = true := by rw [cnt_ones l wd hall]; exact beq_self_eq_true _
      have hs := walk wd (Nat.le_refl _) hall (0, [], false) (Ev.step (f := fun _ => some (0, [], false)) (fun k => by
        have c1 : ¬ (wd : Int) < ((zeroBelow l wd wd).length : Int) := by rw [zeroBelow_len]; omega
        simp only [spec_NextBits.l0]
        rw [if_neg c1]) (Ev.now _))
      obtain ⟨K4, g5⟩ := hs
      refine ⟨0, [], false, ⟨K1 + K2 + K4, fun k hk => ?_⟩, ⟨K3 + 2, fun k hk => ?_⟩, none_⟩
      · have g5 := g5 k (by omega)
        simp (disch := omega) only [spec_NextBits.f, ↓g1, e, ↓reduceIte, ↓g3]
        exact g5
      · obtain ⟨m, rfl⟩ : ∃ m, k = m + 1 := ⟨k - 1, by omega⟩
        simp (disch := omega) only [impl_NextBits.f, g2, e, Option.bind_some, ↓reduceIte, ↓g4, hc, impl_NextBits.j0]
    · have hc : (cnt (bitI l) wd == (wd : Int)) = false := beq_eq_false_iff_ne.2 (by have := cnt_less l p h0 wd hp; omega)
      obtain ⟨y, ⟨K4, g5⟩, y1, y2, y3⟩ := next_impl (wd : Int) l hr p (by omega) h0 h1 l.length 0 (by omega) (by omega) l rfl hu (fun j => by rw [if_neg (by omega)])
      have hry : Right (wd : Int) y := ⟨b1, b2, by rw [y1]; exact b3, y2, fun i hi => by
        rw [y3]; unfold nextB
        rw [if_neg (by omega), if_neg (by omega)]
        exact hr.top i hi⟩
      obtain ⟨z, hz⟩ : ∃ z, z = (zeroBelow l wd p).set p 1 := ⟨_, rfl⟩
      have hzl : z.length = wd := by rw [hz]; simp [zeroBelow_len]
      have hzr : ∀ j, j < wd → rd z (j : Int) = if j = p then 1 else if j < p then 0 else bitI l j := fun j hj => by
        rw [hz, rd_getD, List.getD_eq_getElem?_getD, Int.toNat_natCast]
        by_cases c : j = p
        · subst c
          rw [List.getElem?_set_self (by rw [zeroBelow_len]; omega), if_pos rfl]; rfl
        · rw [List.getElem?_set_ne (Ne.symm c), getElem?_rd (by rw [zeroBelow_len]; omega), Option.getD_some, zeroBelow_rd _ _ _ _ hj, if_neg c]
      have h01 : Bits01 z := fun x hx => by
        obtain ⟨j, hj, rfl⟩ := List.getElem_of_mem hx
        have := hzr j (by omega)
        have e2 := getElem?_rd hj
        rw [List.getElem?_eq_getElem hj] at e2
        rw [Option.some.inj e2, this]
        by_cases c : j = p
        · rw [if_pos c]; exact .inr rfl
        · rw [if_neg c]
          by_cases c2 : j < p
          · rw [if_pos c2]; exact .inl rfl
          · rw [if_neg c2]; exact bitI_01 l j
      obtain ⟨ws, hws, hpk⟩ := l1From_ev z h01 (by omega) (by omega)
      have hpk' : Packs z y := packs_of (w := (wd : Int)) (by omega) hry fun j hj => by
        rw [y3, hzr j (by omega)]
        unfold nextB
        by_cases c : j = p
        · rw [if_neg (by omega), if_pos c, if_pos c]; rfl
        · by_cases c2 : j < p
          · rw [if_pos c2, if_neg c, if_pos c2]; rfl
          · rw [if_neg c2, if_neg c, if_neg c, if_neg c2, bitI_one]
      have := hpk.uniq hpk'
      subst this
      obtain ⟨K5, g6⟩ := Ev.binds hws
      have hs := walk p (by omega) h1 ((wd : Int), ws, true) ⟨K5 + 1, fun k hk => by
        obtain ⟨m, rfl⟩ : ∃ m, k = m + 1 := ⟨k - 1, by omega⟩
        have c1 : (p : Int) < ((zeroBelow l wd p).length : Int) := by rw [zeroBelow_len]; omega
        have e1 : rd (zeroBelow l wd p) (p : Int) = 0 := by rw [zeroBelow_rd _ _ _ _ (by omega), if_neg (by omega)]; unfold bitI; rw [h0]; rfl
        have e2 : rd z (p : Int) = 1 := by rw [hzr p hp, if_pos rfl]
        simp only [spec_NextBits.l0]
        rw [if_pos c1, if_pos (by omega)]
        simp only [Option.bind_some, Int.toNat_natCast]
        rw [e1, show ((1 : Int) - 0) % 256 = 1 by decide, ← hz, if_pos e2]
        simp (disch := omega) only [↓g6]
        rw [hzl]⟩
      obtain ⟨K6, g7⟩ := hs
      refine ⟨(wd : Int), ws, true, ⟨K1 + K2 + K6, fun k hk => ?_⟩, ⟨K3 + K4 + 1, fun k hk => ?_⟩, ?_⟩
      · have g7 := g7 k (by omega)
        simp (disch := omega) only [spec_NextBits.f, ↓g1, e, ↓reduceIte, ↓g3]
        exact g7
      · obtain ⟨m, rfl⟩ : ∃ m, k = m + 1 := ⟨k - 1, by omega⟩
        have g5 := g5 m (by omega)
        simp (disch := omega) only [impl_NextBits.f, g2, e, Option.bind_some, ↓reduceIte, ↓g4, hc, impl_NextBits.j0, Bool.false_eq_true, impl_cloneBits.f, slices_Clone_uint64_uint64.f, ↓if_pos]
        exact g5
      · have := hry.len
        unfold UpI_Bits
        simp only
        omega
  · refine ⟨0, [], false, ⟨K1, fun k hk => ?_⟩, ⟨1, fun k hk => ?_⟩, none_⟩
    · simp (disch := omega) only [spec_NextBits.f, ↓g1, e, ↓reduceIte, Bool.false_eq_true]
    · obtain ⟨m, rfl⟩ : ∃ m, k = m + 1 := ⟨k - 1, by omega⟩
      simp (disch := omega) only [impl_NextBits.f, g2, e, Option.bind_some, ↓reduceIte, Bool.false_eq_true, impl_NextBits.j0]
-- SAYS: The program's NextBits answers as the reference's NextBits does, for all arguments.
theorem FnExactNextBits (a0_0 : Int) (l0_1 : List Int) (q0_0 : (Lit.int .i64 a0_0).wf = true) (q0_1 : ∀ x ∈ l0_1, (Lit.int .u64 x).wf = true) (hl0_1 : l0_1.length ≤ 9223372036854775807) : ∃ k, laws_FnExactNextBits.f k a0_0 l0_1 = some true := by
  obtain ⟨r0, g0, hb0⟩ := sz_Bits (⟨a0_0, l0_1⟩ : S24) 1048576 (in_Bits (⟨a0_0, l0_1⟩ : S24) ⟨q0_0, (And.intro hl0_1 q0_1)⟩) (by omega) (by omega)
  obtain ⟨Ks0, s00⟩ := Ev.binds (g0)
  have s0 := s00 Ks0 (Nat.le_refl _)
  try dsimp only [cv_Bits] at s0
  rcases hb0 with hneg | ⟨p0, z0, u0⟩
  · have c0 := eq_true hneg
    exact ⟨1 + 1 + 1 + 1, by simp (disch := omega) only [laws_FnExactNextBits.f, laws_FnExactNextBits.j0, laws_FnExactNextBits.j1, laws_FnExactNextBits.j2, ↓s0, ↓reduceIte, c0]⟩
  have c0 := eq_false (show ¬ r0 < 0 by omega)
  have U0 : UpI_Bits 1048576 ((cv_Bits (⟨a0_0, l0_1⟩ : S24))) := (upcv_Bits _ _ u0)
  have W0 : WfI_Bits ((cv_Bits (⟨a0_0, l0_1⟩ : S24))) := wf_Bits (⟨a0_0, l0_1⟩ : S24) ⟨q0_0, (And.intro hl0_1 q0_1)⟩
  obtain ⟨y0_0, y0_1, y1, e1, e2, v0⟩ := nextBits_agree a0_0 l0_1 U0 W0
  obtain ⟨Kt0, t0⟩ := Ev.binds (to_Bits (⟨a0_0, l0_1⟩ : S24) u0)
  try dsimp only [cv_Bits] at t0
  obtain ⟨Khs, hs⟩ := Ev.binds (e1)
  obtain ⟨Khi, hi⟩ := Ev.binds (e2)
  obtain ⟨Ke0_, e0_⟩ := Ev.binds (eq_Bits ((cv_Bits (⟨a0_0, l0_1⟩ : S24))) U0)
  try dsimp only [cv_Bits] at e0_
  obtain ⟨Kf0_, f0_⟩ := Ev.binds (eq_Bits (⟨y0_0, y0_1⟩ : S26) v0)
  try dsimp only [cv_Bits] at f0_
  obtain ⟨m0, n0_0, g0_, o0, w0, _⟩ := mark_Bits ((cv_Bits (⟨a0_0, l0_1⟩ : S24))) U0 1 (by omega) (by omega)
  obtain ⟨Kk0_, k0_⟩ := Ev.binds (g0_)
  try dsimp only [cv_Bits] at k0_
  have cm := eq_false (show ¬ m0 < 0 by omega)
  obtain ⟨M0, N0_0, G0_, O0, A0, H0_⟩ := mark_Bits (⟨y0_0, y0_1⟩ : S26) v0 1 (by omega) (by omega)
  obtain ⟨Kx0_, x0_⟩ := Ev.binds (G0_)
  try dsimp only [cv_Bits] at x0_
  obtain ⟨Kz0_, z0_⟩ := Ev.binds (H0_)
  try dsimp only [cv_Bits] at z0_
  have cn0 := eq_false (show ¬ M0 < 0 by omega)
  exact ⟨Kt0 + Khs + Khi + Ke0_ + Kf0_ + Kk0_ + Kx0_ + Kz0_ + 1 + 1 + 1 + 1, by simp (disch := omega) only [laws_FnExactNextBits.f, laws_FnExactNextBits.j0, laws_FnExactNextBits.j1, laws_FnExactNextBits.j2, ↓s0, ↓t0, ↓hs, ↓hi, ↓e0_, ↓f0_, ↓k0_, ↓x0_, ↓z0_, ↓reduceIte, c0, cm, cn0, bne_self_eq_false, Bool.false_eq_true]⟩

end Go.Proofs.Ytipoepnmklaahaa.Pure
