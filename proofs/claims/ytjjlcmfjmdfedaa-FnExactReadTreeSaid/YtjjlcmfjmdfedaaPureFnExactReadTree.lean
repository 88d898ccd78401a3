/- The program's ReadTree answers as the reference's ReadTree does, for all arguments. -/
import Derived.Test.YtjjlcmfjmdfedaaPFnExactReadTreex6
import Derived.Test.YtjjlcmfjmdfedaaBits
import Derived.Test.YtjjlcmfjmdfedaaLoops
namespace Go.Proofs.Ytjjlcmfjmdfedaa.Pure
open Go Go.RowKit Go.Proofs.Ytjjlcmfjmdfedaa.PFnExactReadTree Go.Proofs.YtjjlcmfjmdfedaaW.PrintWords Go.Proofs.YtjjlcmfjmdfedaaW.PrintLast Go.Proofs.YtjjlcmfjmdfedaaW.PrintMore Go.Proofs.Ytjjlcmfjmdfedaa.BitsLib Go.Proofs.Ytjjlcmfjmdfedaa.Loops
set_option linter.unusedVariables false
set_option linter.unusedSimpArgs false
set_option maxRecDepth 4000

/-! wrap_next -/
theorem wrap_next (i : Nat) (h : i < 4611686018427387904) : wrap64 ((i : Int) + 1) = ((i + 1 : Nat) : Int) := by
  rw [wrap64_id (by omega) (by omega)]; rfl

/-! eq_Int64S -/
theorem eq_Int64S (x : List Int) (h : ((x.length : Int) ≤ 1048576)) : Ev (fun k => laws_eqInt64S.f k x x) true := by
  have hl := h
  have main := up_loop x.length (fun _ => ()) (fun k _ i => laws_eqInt64S.l0 k x x i)
    (fun i hi r h2 => by
      obtain ⟨K2, h2⟩ := h2
      refine ⟨K2 + 1, fun k hk => ?_⟩
      obtain ⟨m, rfl⟩ : ∃ m, k = m + 1 := ⟨k - 1, by omega⟩
      have h2 := h2 m (by omega)
      dsimp only at h2 ⊢
      simp only [laws_eqInt64S.l0]
      rw [if_pos (by omega), if_pos (by omega), if_pos (by omega)]
      simp only [if_true]
      rw [wrap64_id (by omega) (by omega)]
      exact h2)
    true (Ev.step (f := fun _ => some true) (fun k => by
      simp only [laws_eqInt64S.l0]
      rw [if_neg (by omega)]) (Ev.now _))
  obtain ⟨K, h⟩ := main
  refine ⟨K, fun k hk => ?_⟩
  have h := h k hk
  dsimp only at h ⊢
  unfold laws_eqInt64S.f
  rw [if_pos rfl]
  exact h

/-! UpI_Node -/
def UpI_Node (c : Int) (x : S66) : Prop := ((x.f0.size : Int) ≤ c) ∧ ((x.f1.length : Int) ≤ c)

/-! rdE_T66 -/
theorem rdE_T66 (l : List S66) (i : Nat) (h : i < l.length) : rd_T66 l (i : Int) = l[i] := by
  unfold rd_T66
  rw [List.getD_eq_getElem?_getD, Int.toNat_natCast, List.getElem?_eq_getElem h]; rfl
theorem rdM_T66 (l : List S66) (i : Nat) (h : i < l.length) : rd_T66 l (i : Int) ∈ l := by rw [rdE_T66 l i h]; exact List.getElem_mem h

/-! eq_Node -/
theorem eq_Node (x : S66) (h : UpI_Node 1048576 x) : Ev (fun k => laws_eqNode.f k x.f0 x.f1 x.f0 x.f1) true := by
  unfold UpI_Node at h
  obtain ⟨i0, i1⟩ := h
  obtain ⟨K1, e1⟩ := eq_Int64S x.f1 i1
  refine ⟨K1, fun k hk => ?_⟩
  have e1 := e1 k (by omega)
  dsimp only at e1 ⊢
  simp only [laws_eqNode.f, e1, Option.bind_some, if_true, ↓reduceIte, bne_self_eq_false, Bool.false_eq_true]

/-! eq_NodeS -/
theorem eq_NodeS (x : List S66) (h : ((x.length : Int) ≤ 1048576 ∧ ∀ y ∈ x, UpI_Node 1048576 y)) : Ev (fun k => laws_eqNodeS.f k x x) true := by
  have hl := h.1
  have main := up_loop x.length (fun _ => ()) (fun k _ i => laws_eqNodeS.l0 k x x i)
    (fun i hi r h2 => by
      obtain ⟨K, he⟩ := eq_Node (rd_T66 x (i : Int)) (h.2 _ (rdM_T66 x i hi))
      obtain ⟨K2, h2⟩ := h2
      refine ⟨K + K2 + 1, fun k hk => ?_⟩
      obtain ⟨m, rfl⟩ : ∃ m, k = m + 1 := ⟨k - 1, by omega⟩
      have h2 := h2 m (by omega)
      have he := he m (by omega)
      dsimp only at he h2 ⊢
      simp only [laws_eqNodeS.l0]
      rw [if_pos (by omega), if_pos (by omega), if_pos (by omega), he]
      simp only [Option.bind_some, if_true, ↓reduceIte]
      rw [wrap64_id (by omega) (by omega)]
      exact h2)
    true (Ev.step (f := fun _ => some true) (fun k => by
      simp only [laws_eqNodeS.l0]
      rw [if_neg (by omega)]) (Ev.now _))
  obtain ⟨K, h⟩ := main
  refine ⟨K, fun k hk => ?_⟩
  have h := h k hk
  dsimp only at h ⊢
  unfold laws_eqNodeS.f
  rw [if_pos rfl]
  exact h

/-! S29 -/
structure S29 where
  f0 : List S66

/-! UpI_Tree -/
def UpI_Tree (c : Int) (x : S29) : Prop := ((x.f0.length : Int) ≤ c ∧ ∀ y ∈ x.f0, UpI_Node c y)

/-! eq_Tree -/
theorem eq_Tree (x : S29) (h : UpI_Tree 1048576 x) : Ev (fun k => laws_eqTree.f k x.f0 x.f0) true := by
  unfold UpI_Tree at h
  have i0 := h
  obtain ⟨K0, e0⟩ := eq_NodeS x.f0 i0
  refine ⟨K0, fun k hk => ?_⟩
  have e0 := e0 k (by omega)
  dsimp only at e0 ⊢
  simp only [laws_eqTree.f, e0, Option.bind_some, if_true, ↓reduceIte, bne_self_eq_false, Bool.false_eq_true]

/-! mark_Int64S -/
theorem mark_Int64S (x : List Int) (h : ((x.length : Int) ≤ 1048576)) (m : Int) (h0 : 0 ≤ m) (h1 : m ≤ 4611686018426339328) : ∃ (m' : Int) (x' : List Int), Ev (fun k => laws_markInt64S.f k x m) (m', x') ∧ m ≤ m' ∧ m' ≤ m + 1048576 ∧ Ev (fun k => laws_heldInt64S.f k x' m) m' := by
  have hl : (x.length : Int) ≤ 1048576 := h
  obtain ⟨conv, hconv⟩ : ∃ conv : Nat → Int, ∀ i, conv i = m + 1 * (i : Int) := ⟨fun i => _, fun _ => rfl⟩
  have main := up_loop x.length (fun i => (m + 1 * (i : Int), filled conv x i)) (fun k s i => laws_markInt64S.l0 k s.2 s.1 i)
    (fun i hi r h2 => by
      obtain ⟨K2, h2⟩ := h2
      refine ⟨K2 + 1, fun k hk => ?_⟩
      obtain ⟨mm, rfl⟩ : ∃ mm, k = mm + 1 := ⟨k - 1, by omega⟩
      have h2 := h2 mm (by omega)
      dsimp only at h2 ⊢
      have hlen : i < (filled conv x i).length := by rw [filled_len _ _ (by omega)]; exact hi
      rw [← filled_set conv x hi, hconv] at h2
      simp (disch := first | omega | (simp only [List.length_set]; omega)) only [laws_markInt64S.l0, ↓if_pos, Option.bind_some, Int.toNat_natCast, wrap64_id]
      rw [show m + 1 * (i : Int) + 1 = m + 1 * ((i + 1 : Nat) : Int) by omega]
      exact h2)
    (m + 1 * (x.length : Int), (List.range x.length).map conv) (Ev.step (f := fun _ => some (m + 1 * (x.length : Int), (List.range x.length).map conv)) (fun k => by
      simp only [laws_markInt64S.l0]
      rw [if_neg (by rw [filled_len _ _ (Nat.le_refl _)]; omega), filled_all _ _ rfl]) (Ev.now _))
  simp only [filled_zero] at main
  refine ⟨m + 1 * (x.length : Int), (List.range x.length).map conv, Ev.congr (fun k => by unfold laws_markInt64S.f; simp) main, by omega, by omega, ?_⟩
  have hrd : ∀ i : Nat, i < x.length → rd ((List.range x.length).map conv) (i : Int) = conv i := fun i hi => by
    rw [rd_getD]
    rw [List.getD_eq_getElem?_getD, Int.toNat_natCast, List.getElem?_map, List.getElem?_range hi]; rfl
  have main2 := up_loop x.length (fun i => m + 1 * (i : Int)) (fun k s i => laws_heldInt64S.l0 k ((List.range x.length).map conv) s i)
    (fun i hi r h2 => by
      obtain ⟨K2, h2⟩ := h2
      refine ⟨K2 + 1, fun k hk => ?_⟩
      obtain ⟨mm, rfl⟩ : ∃ mm, k = mm + 1 := ⟨k - 1, by omega⟩
      have h2 := h2 mm (by omega)
      dsimp only at h2 ⊢
      have hr := hrd i hi
      rw [hconv] at hr
      simp (disch := omega) only [laws_heldInt64S.l0, List.length_map, List.length_range, ↓if_pos, hr, wrap64_id, ↓reduceIte, bne_self_eq_false, Bool.false_eq_true]
      rw [show m + 1 * (i : Int) + 1 = m + 1 * ((i + 1 : Nat) : Int) by omega]
      exact h2)
    (m + 1 * (x.length : Int)) (Ev.step (f := fun _ => some (m + 1 * (x.length : Int))) (fun k => by
      simp only [laws_heldInt64S.l0]
      rw [if_neg (by simp)]) (Ev.now _))
  exact Ev.congr (fun k => by unfold laws_heldInt64S.f; simp) main2

/-! mtext_ev -/
theorem mtext_loop : ∀ n : Nat, ∀ z : Int, 0 ≤ z → z < 10 ^ n → z ≤ 9223372036854775807 → ∀ s : ByteArray, s.size + n ≤ 1000000 → ∃ t, Ev (fun k => laws_markText.l0 k z s) t := by
  intro n
  induction n with
  | zero =>
    intro z h0 h1 big s hs
    have : z = 0 := by simp at h1; omega
    subst this
    exact ⟨_, Ev.step (f := fun _ => some ((⟨#[109]⟩ : ByteArray) ++ s)) (fun k => by simp (disch := omega) only [laws_markText.l0, ↓if_neg, ↓if_pos]) (Ev.now _)⟩
  | succ n ih =>
    intro z h0 h1 big s hs
    by_cases c : z > 0
    · have e1 : Int.tdiv z 10 = z / 10 := Int.tdiv_eq_ediv_of_nonneg (by omega)
      · have hsz : ∀ v : Int, (strOfNums [v]).size = 1 := fun v => rfl
        obtain ⟨t, h⟩ := ih (z / 10) (by omega) (by rw [Int.pow_succ] at h1; omega) (by omega) (strOfNums [(wrap64 (48 + (Int.tmod z 10))) % 256] ++ s) (by rw [ByteArray.size_append, hsz]; omega)
        refine ⟨t, Ev.step (fun k => ?_) h⟩
        have hle : (strOfNums [(wrap64 (48 + (Int.tmod z 10))) % 256]).size + s.size ≤ 9223372036854775807 := by rw [hsz]; omega
        simp only [laws_markText.l0]
        rw [if_pos c]
        simp only [Option.bind_some]
        rw [if_pos hle, e1, wrap64_id (by omega) (by omega)]
    · have : z = 0 := by omega
      subst this
      exact ⟨_, Ev.step (f := fun _ => some ((⟨#[109]⟩ : ByteArray) ++ s)) (fun k => by simp (disch := omega) only [laws_markText.l0, ↓if_neg, ↓if_pos]) (Ev.now _)⟩
theorem mtext_ev : ∀ z : Int, ∃ t : ByteArray, (0 ≤ z → z ≤ 4611686018427387904 → Ev (fun k => laws_markText.f k z) t) := by
  intro z
  by_cases c : 0 ≤ z ∧ z ≤ 4611686018427387904
  · by_cases c0 : z ≤ 0
    · exact ⟨_, fun _ _ => Ev.congr (fun k => by unfold laws_markText.f; rw [if_pos c0]) (Ev.now _)⟩
    · obtain ⟨t, h⟩ := mtext_loop 19 z c.1 (by rw [show (10 : Int) ^ 19 = 10000000000000000000 from by decide]; omega) (by omega) ⟨#[]⟩ (by decide)
      exact ⟨t, fun _ _ => Ev.congr (fun k => by unfold laws_markText.f; rw [if_neg c0]) h⟩
  · exact ⟨ByteArray.empty, fun h0 h1 => absurd ⟨h0, h1⟩ c⟩

/-! mark_NodeS -/
theorem mark_NodeS_loop (x : List S66) (hl : x.length ≤ 1048576) (hx : ∀ j : Nat, j < x.length → (((rd_T66 x (j : Int)).f1.length : Int) ≤ 1048576)) (T : Int → ByteArray) (hT : ∀ z : Int, 0 ≤ z → z ≤ 4611686018427387904 → Ev (fun k => laws_markText.f k z) (T z)) :
    ∀ d i, x.length - i = d → i ≤ x.length → ∀ (xs : List S66) (m : Int), xs.length = x.length → (∀ j : Nat, i ≤ j → j < x.length → (rd_T66 xs (j : Int)) = (rd_T66 x (j : Int))) → 0 ≤ m → m ≤ 4611686018427387904 - (d : Int) * 1048577 →
      ∃ (m' : Int) (x' : List S66), Ev (fun k => laws_markNodeS.l0 k xs m (i : Int)) (m', x') ∧ m ≤ m' ∧ m' ≤ m + (d : Int) * 1048577 ∧ x'.length = x.length ∧ (∀ j : Nat, j < i → (rd_T66 x' (j : Int)) = (rd_T66 xs (j : Int))) ∧ Ev (fun k => laws_heldNodeS.l0 k x' m (i : Int)) m' := by
  intro d
  induction d with
  | zero =>
    intro i hd hi xs m hlen hrd h0 h1
    refine ⟨m, xs, Ev.step (f := fun _ => some (m, xs)) (fun k => ?_) (Ev.now _), by omega, by omega, hlen, fun _ _ => rfl, Ev.step (f := fun _ => some m) (fun k => ?_) (Ev.now _)⟩
    · simp (disch := omega) only [laws_markNodeS.l0, ↓if_neg]
    · simp (disch := omega) only [laws_heldNodeS.l0, ↓if_neg]
  | succ d ih =>
    intro i hd hi xs m hlen hrd h0 h1
    have hil : i < x.length := by omega
    have hr := hrd i (Nat.le_refl _) hil
    have hb := hx i hil
    rw [← hr] at hb
    have hb0 := hb
    obtain ⟨m0_, z0, ⟨K0, e0⟩, o0, u0, ⟨L0, d0⟩⟩ := mark_Int64S (rd_T66 xs (i : Int)).f1 hb0 (m + 1) (by omega) (by omega)
    obtain ⟨KT0, hT0⟩ := hT (m) (by omega) (by omega)
    obtain ⟨m2, x', ⟨Kn, en⟩, p1, p2, p3, p4, ⟨Kh, eh⟩⟩ := ih (i + 1) (by omega) (by omega) (xs.set i (⟨T (m), z0⟩ : S66)) (m0_) (by rw [List.length_set]; exact hlen) (fun j hj hjl => by
      rw [← hrd j (by omega) hjl]
      unfold rd_T66
      rw [List.getD_eq_getElem?_getD, List.getD_eq_getElem?_getD, Int.toNat_natCast, List.getElem?_set_ne (by omega)]) (by omega) (by omega)
    have hri : rd_T66 x' (i : Int) = (⟨T (m), z0⟩ : S66) := by
      rw [p4 i (by omega)]
      unfold rd_T66
      rw [List.getD_eq_getElem?_getD, Int.toNat_natCast, List.getElem?_set_self (by omega)]
      rfl
    refine ⟨m2, x', ⟨K0 + KT0 + Kn + 1, fun k hk => ?_⟩, by omega, by omega, p3, fun j hj => ?_, ⟨L0 + KT0 + Kh + 1, fun k hk => ?_⟩⟩
    · obtain ⟨mm, rfl⟩ : ∃ mm, k = mm + 1 := ⟨k - 1, by omega⟩
      have e0 := e0 mm (by omega)
      have hT0 := hT0 mm (by omega)
      have en := en mm (by omega)
      dsimp only at e0 hT0 en ⊢
      simp (disch := omega) only [laws_markNodeS.l0, ↓if_pos, wrap64_id (x := m + 1), e0, hT0, Option.bind_some, Int.toNat_natCast, wrap_next]
      exact en
    · rw [p4 j (by omega)]
      unfold rd_T66
      rw [List.getD_eq_getElem?_getD, List.getD_eq_getElem?_getD, Int.toNat_natCast, List.getElem?_set_ne (by omega)]
    · obtain ⟨mm, rfl⟩ : ∃ mm, k = mm + 1 := ⟨k - 1, by omega⟩
      have d0 := d0 mm (by omega)
      have hT0 := hT0 mm (by omega)
      have eh := eh mm (by omega)
      dsimp only at d0 hT0 eh ⊢
      simp (disch := omega) only [laws_heldNodeS.l0, hri, ↓if_pos, ↓reduceIte, wrap64_id (x := m + 1), d0, hT0, Option.bind_some, ↓if_neg, wrap_next, bne_self_eq_false, Bool.false_eq_true, beq_self_eq_true]
      exact eh
theorem mark_NodeS (x : List S66) (h : ((x.length : Int) ≤ 1048576 ∧ ∀ y ∈ x, UpI_Node 1048576 y)) (m : Int) (h0 : 0 ≤ m) (h1 : m ≤ 4611684918914711552) : ∃ (m' : Int) (x' : List S66), Ev (fun k => laws_markNodeS.f k x m) (m', x') ∧ m ≤ m' ∧ m' ≤ m + 1099512676352 ∧ Ev (fun k => laws_heldNodeS.f k x' m) m' := by
  obtain ⟨T, hT⟩ := Classical.axiomOfChoice mtext_ev
  obtain ⟨m', x', ev, p1, p2, _, _, e2⟩ := mark_NodeS_loop x (by omega) (fun j hj => by
    have hu := h.2 _ (rdM_T66 x j hj)
    simp only [UpI_Node] at hu
    try simp only [and_true, true_and] at hu ⊢
    omega) T hT x.length 0 (by omega) (by omega) x m rfl (fun _ _ _ => rfl) h0 (by omega)
  exact ⟨m', x', ev, p1, by omega, e2⟩

/-! mark_Tree -/
theorem mark_Tree (x : S29) (h : UpI_Tree 1048576 x) (m : Int) (h0 : 0 ≤ m) (h1 : m ≤ 4611684918914711552) : ∃ (m' : Int) (z0 : List S66), Ev (fun k => laws_markTree.f k x.f0 m) (m', z0) ∧ m ≤ m' ∧ m' ≤ m + 1099512676352 ∧ Ev (fun k => laws_heldTree.f k z0 m) m' := by
  unfold UpI_Tree at h
  have i0 := h
  obtain ⟨m0, z0, ⟨K0, e0⟩, l0, u0, ⟨L0, d0⟩⟩ := mark_NodeS x.f0 i0 m (by omega) (by omega)
  refine ⟨m0, z0, ⟨K0, fun k hk => ?_⟩, by omega, by omega, ⟨L0, fun k hk => ?_⟩⟩
  · have e0 := e0 k (by omega); dsimp only at e0 ⊢; unfold laws_markTree.f; rw [e0]; simp only [Option.bind_some]
  · have d0 := d0 k (by omega); dsimp only at d0 ⊢; unfold laws_heldTree.f; rw [d0]; simp only [Option.bind_some]; rw [if_neg (by omega)]

/-! btL -/
theorem bt_L (s : ByteArray) (i : Nat) : bt s (i : Int) = ((s.data.toList.getD i 0).toNat : Int) := by
  unfold bt
  by_cases h : i < s.size
  · have h2 : i < s.data.toList.length := by simpa using h
    rw [dif_pos (show (i : Int).toNat < s.size by omega), List.getD_eq_getElem?_getD, List.getElem?_eq_getElem h2]
    rfl
  · have h2 : s.data.toList.length ≤ i := by simpa using h
    rw [dif_neg (show ¬ (i : Int).toNat < s.size by omega), List.getD_eq_getElem?_getD, List.getElem?_eq_none h2]
    rfl
theorem ext_len (s : ByteArray) (a b : Nat) (h : a ≤ b) (hb : b ≤ s.size) : (s.extract a b).size = b - a := by
  have h1 := congrArg List.length (Lib.extract_data s a b)
  rw [List.length_take, List.length_drop, Array.length_toList, Array.length_toList] at h1
  have h2 : s.data.size = s.size := rfl
  have h3 : (s.extract a b).data.size = (s.extract a b).size := rfl
  omega
theorem bt_ext (s : ByteArray) (a b j : Nat) (h : a + j < b) : bt (s.extract a b) (j : Int) = bt s ((a + j : Nat) : Int) := by
  rw [bt_L, bt_L, Lib.extract_data, List.getD_eq_getElem?_getD, List.getD_eq_getElem?_getD, List.getElem?_take_of_lt (by omega), List.getElem?_drop]

/-! readA -/
/-- A byte of an atom. -/
def isA (c : Int) : Bool := decide (33 ≤ c ∧ c ≤ 126 ∧ c ≠ 40 ∧ c ≠ 41 ∧ c ≠ 59)
theorem atomByte_is (c : Int) : impl_atomByte.f c = some (isA c) := by
  unfold impl_atomByte.f isA
  by_cases h1 : c ≥ 33
  · rw [if_pos h1]
    by_cases h2 : c ≤ 126
    · rw [if_pos h2]
      by_cases h3 : c = 40
      · rw [if_pos h3, decide_eq_false (by omega)]
      · rw [if_neg h3]
        by_cases h4 : c = 41
        · rw [if_pos h4, decide_eq_false (by omega)]
        · rw [if_neg h4]
          by_cases h5 : c = 59
          · rw [decide_eq_false (by omega), h5]; rfl
          · rw [decide_eq_true (by omega), bne_iff_ne.2 h5]
    · rw [if_neg h2, decide_eq_false (by omega)]
  · rw [if_neg h1, decide_eq_false (by omega)]
theorem l2Atom_one (T : ByteArray) (x : Nat) (hx : x < T.size) : Ev (fun k => spec_l2Atom.f k (T.extract x (x + 1))) (isA (bt T (x : Int))) := by
  have hs := ext_len T x (x + 1) (by omega) (by omega)
  have hb : bt (T.extract x (x + 1)) ((0 : Nat) : Int) = bt T (x : Int) := bt_ext T x (x + 1) 0 (by omega)
  obtain ⟨c, hc⟩ : ∃ c, bt T (x : Int) = c := ⟨_, rfl⟩
  rw [hc] at hb ⊢
  have hb : bt (T.extract x (x + 1)) 0 = c := hb
  have go : ∀ v : Bool, isA c = v → (∀ k, spec_l2Atom.l0 (k + 1 + 1) (T.extract x (x + 1)) 0 = some v) → Ev (fun k => spec_l2Atom.f k (T.extract x (x + 1))) (isA c) := fun v hv h => ⟨2, fun k hk => by
    obtain ⟨m, rfl⟩ : ∃ m, k = m + 1 + 1 := ⟨k - 2, by omega⟩
    show spec_l2Atom.l0 (m + 1 + 1) (T.extract x (x + 1)) 0 = some (isA c)
    rw [h m, hv]⟩
  have e0 : (0 : Int) < ((T.extract x (x + 1)).size : Int) := by omega
  have e1 : ¬ (1 : Int) < ((T.extract x (x + 1)).size : Int) := by omega
  have w1 : wrap64 (0 + 1) = 1 := wrap64_id (by decide) (by decide)
  by_cases h1 : c < 33
  · exact go false (decide_eq_false (by omega)) fun k => by simp only [spec_l2Atom.l0, hb]; rw [if_pos e0, if_pos (Int.le_refl 0), if_pos h1]
  · by_cases h2 : c > 126
    · exact go false (decide_eq_false (by omega)) fun k => by simp only [spec_l2Atom.l0, hb]; rw [if_pos e0, if_pos (Int.le_refl 0), if_neg h1, if_pos h2]
    · by_cases h3 : c = 40
      · exact go false (decide_eq_false (by omega)) fun k => by simp only [spec_l2Atom.l0, hb]; rw [if_pos e0, if_pos (Int.le_refl 0), if_neg h1, if_neg h2, if_pos h3]
      · by_cases h4 : c = 41
        · exact go false (decide_eq_false (by omega)) fun k => by simp only [spec_l2Atom.l0, hb]; rw [if_pos e0, if_pos (Int.le_refl 0), if_neg h1, if_neg h2, if_neg h3, if_pos h4]
        · by_cases h5 : c = 59
          · exact go false (decide_eq_false (by omega)) fun k => by simp only [spec_l2Atom.l0, hb]; rw [if_pos e0, if_pos (Int.le_refl 0), if_neg h1, if_neg h2, if_neg h3, if_neg h4, if_pos h5]
          · exact go true (decide_eq_true (by omega)) fun k => by
              rw [spec_l2Atom.l0, hb, if_pos e0, if_pos (Int.le_refl 0), if_neg h1, if_neg h2, if_neg h3, if_neg h4, if_neg h5, w1, spec_l2Atom.l0, if_neg e1, decide_eq_true (by omega)]
/-- Where an atom ends. -/
theorem end_agree (T : ByteArray) (hT : T.size ≤ 1048576) : ∀ d x : Nat, T.size - x = d → x ≤ T.size → ∃ e : Nat, x ≤ e ∧ e ≤ T.size ∧ (∀ j : Nat, x ≤ j → j < e → isA (bt T (j : Int)) = true) ∧ (e = T.size ∨ isA (bt T (e : Int)) = false) ∧
    Ev (fun k => spec_l2End.l0 k T (x : Int)) (e : Int) ∧ Ev (fun k => impl_scanner_next.l1 k T (x : Int)) (e : Int) := by
  intro d
  induction d with
  | zero =>
    intro x hd hx
    have e : x = T.size := by omega
    refine ⟨x, Nat.le_refl _, hx, fun j h1 h2 => by omega, .inl e, ?_, ?_⟩
    · exact Ev.step (f := fun _ => some (x : Int)) (fun k => by simp only [spec_l2End.l0]; rw [if_neg (by omega)]) (Ev.now _)
    · exact Ev.step (f := fun _ => some (x : Int)) (fun k => by simp only [impl_scanner_next.l1]; rw [if_neg (by omega)]) (Ev.now _)
  | succ d ih =>
    intro x hd hx
    have hlt : x < T.size := by omega
    have hw : True → wrap64 ((x : Int) + 1) = ((x + 1 : Nat) : Int) := fun _ => wrap_next x (by omega)
    obtain ⟨K, hat⟩ := l2Atom_one T x hlt
    have hat2 : ∀ k, K ≤ k → spec_l2Atom.f k (T.extract ((x : Int)).toNat (((x + 1 : Nat) : Int)).toNat) = some (isA (bt T (x : Int))) := fun k hk => by rw [Int.toNat_natCast, Int.toNat_natCast]; exact hat k hk
    cases hA : isA (bt T (x : Int)) with
    | true =>
      obtain ⟨e, g1, g2, g3, g4, ⟨K1, g5⟩, ⟨K2, g6⟩⟩ := ih (x + 1) (by omega) (by omega)
      refine ⟨e, by omega, g2, fun j h1 h2 => ?_, g4, ⟨K + K1 + 1, fun k hk => ?_⟩, ⟨K2 + 1, fun k hk => ?_⟩⟩
      · by_cases ej : j = x
        · rw [ej]; exact hA
        · exact g3 j (by omega) h2
      · obtain ⟨m, rfl⟩ : ∃ m, k = m + 1 := ⟨k - 1, by omega⟩
        have g5 : spec_l2End.l0 m T ((x + 1 : Nat) : Int) = some (e : Int) := g5 m (by omega)
        simp only [spec_l2End.l0]
        rw [if_pos (by omega), if_pos (by omega), hw trivial, if_pos (by omega), if_pos (by omega), hat2 m (by omega), hA]
        exact g5
      · obtain ⟨m, rfl⟩ : ∃ m, k = m + 1 := ⟨k - 1, by omega⟩
        have g6 : impl_scanner_next.l1 m T ((x + 1 : Nat) : Int) = some (e : Int) := g6 m (by omega)
        simp only [impl_scanner_next.l1]
        rw [if_pos (by omega), if_pos (by omega), atomByte_is, hA, hw trivial]
        exact g6
    | false =>
      refine ⟨x, Nat.le_refl _, hx, fun j h1 h2 => by omega, .inr hA, ⟨K + 1, fun k hk => ?_⟩, ⟨1, fun k hk => ?_⟩⟩
      · obtain ⟨m, rfl⟩ : ∃ m, k = m + 1 := ⟨k - 1, by omega⟩
        simp only [spec_l2End.l0]
        rw [if_pos (by omega), if_pos (by omega), hw trivial, if_pos (by omega), if_pos (by omega), hat2 m (by omega), hA]
        rfl
      · obtain ⟨m, rfl⟩ : ∃ m, k = m + 1 := ⟨k - 1, by omega⟩
        simp only [impl_scanner_next.l1]
        rw [if_pos (by omega), if_pos (by omega), atomByte_is, hA]
        rfl
/-- Where a remark ends. -/
theorem rem_agree (T : ByteArray) (hT : T.size ≤ 1048576) : ∀ d x : Nat, T.size - x = d → x ≤ T.size → ∃ e : Nat, x ≤ e ∧ e ≤ T.size ∧ Ev (fun k => spec_ReadTree.l1 k T (x : Int)) (e : Int) ∧ Ev (fun k => impl_scanner_next.l0 k T (x : Int)) (e : Int) := by
  intro d
  induction d with
  | zero =>
    intro x hd hx
    refine ⟨x, Nat.le_refl _, hx, ?_, ?_⟩
    · exact Ev.step (f := fun _ => some (x : Int)) (fun k => by simp only [spec_ReadTree.l1]; rw [if_neg (by omega)]) (Ev.now _)
    · exact Ev.step (f := fun _ => some (x : Int)) (fun k => by simp only [impl_scanner_next.l0]; rw [if_neg (by omega)]) (Ev.now _)
  | succ d ih =>
    intro x hd hx
    have hlt : x < T.size := by omega
    have hw : True → wrap64 ((x : Int) + 1) = ((x + 1 : Nat) : Int) := fun _ => wrap_next x (by omega)
    obtain ⟨c, hc⟩ : ∃ c, bt T (x : Int) = c := ⟨_, rfl⟩
    have here : ¬ (c ≥ 32 ∧ c ≤ 126) → ∃ e : Nat, x ≤ e ∧ e ≤ T.size ∧ Ev (fun k => spec_ReadTree.l1 k T (x : Int)) (e : Int) ∧ Ev (fun k => impl_scanner_next.l0 k T (x : Int)) (e : Int) := fun hn => by
      refine ⟨x, Nat.le_refl _, hx, Ev.step (f := fun _ => some (x : Int)) (fun k => ?_) (Ev.now _), Ev.step (f := fun _ => some (x : Int)) (fun k => ?_) (Ev.now _)⟩
      · simp only [spec_ReadTree.l1, hc]
        rw [if_pos (by omega), if_pos (by omega)]
        by_cases h10 : c = 10
        · rw [if_pos h10]
        · rw [if_neg h10]
          by_cases h32 : c ≥ 32
          · rw [if_pos h32, if_neg (by omega)]
          · rw [if_neg h32]
      · simp only [impl_scanner_next.l0, hc]
        rw [if_pos (by omega), if_pos (by omega)]
        by_cases h32 : c ≥ 32
        · rw [if_pos h32, if_neg (by omega)]
        · rw [if_neg h32]
    by_cases h : c ≥ 32 ∧ c ≤ 126
    · clear here
      obtain ⟨e, g1, g2, g3, g4⟩ := ih (x + 1) (by omega) (by omega)
      refine ⟨e, Nat.le_trans (Nat.le_succ x) g1, g2, Ev.step (fun k => ?_) g3, Ev.step (fun k => ?_) g4⟩
      · simp only [spec_ReadTree.l1, hc]
        rw [if_pos (by omega), if_pos (by omega), if_neg (by omega), if_pos h.1, if_pos h.2, hw trivial]
      · simp only [impl_scanner_next.l0, hc]
        rw [if_pos (by omega), if_pos (by omega), if_pos h.1, if_pos h.2, hw trivial]
    · exact here h
/-- What stands while a tree is read. -/
structure RtJ (ns : List S66) (op : List Int) : Prop where
  len : ns.length ≤ 2000
  deep : op.length ≤ 101
  inn : ∀ x ∈ op, 0 ≤ x ∧ x < (ns.length : Int)
  kids : ∀ x ∈ ns, x.f1.length ≤ ns.length ∧ x.f0.size ≤ 20000
theorem rd_T_mem (ns : List S66) (i : Int) (h0 : 0 ≤ i) (h1 : i < (ns.length : Int)) : rd_T66 ns i ∈ ns := by
  unfold rd_T66
  rw [List.getD_eq_getElem?_getD, List.getElem?_eq_getElem (by omega : i.toNat < ns.length)]
  exact List.getElem_mem _
theorem rd_last (op : List Int) (h : op ≠ []) : rd op ((op.length : Int) - 1) = op.getLast h := by
  have hp : 0 < op.length := List.length_pos_iff.2 h
  rw [show ((op.length : Int) - 1) = ((op.length - 1 : Nat) : Int) from by omega]
  unfold rd
  rw [Int.toNat_natCast, List.getD_eq_getElem?_getD, List.getElem?_eq_getElem (by omega : op.length - 1 < op.length), List.getLast_eq_getElem]
  rfl
theorem begin_ok (ns : List S66) (op : List Int) (text : ByteArray) (J : RtJ ns op) (ht : text.size ≤ 20000) :
    (∃ ns', rtBegin ns op text = some (0, ns') ∧ RtJ ns' op ∧ ns'.length = ns.length + 1 ∧ op.length ≤ 100) ∨ (∃ code, code ≠ 0 ∧ rtBegin ns op text = some (code, ns)) := by
  unfold rtBegin
  by_cases c1 : op.length = 0
  · rw [if_pos c1]
    by_cases c2 : 0 < ns.length
    · rw [if_pos c2]; exact .inr ⟨4, by decide, rfl⟩
    · rw [if_neg c2]
      have e : ns = [] := List.length_eq_zero_iff.1 (by omega)
      have e2 : op = [] := List.length_eq_zero_iff.1 c1
      subst e e2
      refine .inl ⟨_, rfl, ⟨by simp, by simp, (fun x hx => by cases hx), fun x hx => ?_⟩, by simp, by simp⟩
      rw [List.nil_append, List.mem_singleton] at hx
      subst hx
      exact ⟨Nat.zero_le _, ht⟩
  · rw [if_neg c1]
    by_cases c2 : 100 < op.length
    · rw [if_pos c2]; exact .inr ⟨5, by decide, rfl⟩
    · rw [if_neg c2]
      by_cases c3 : ns.length = 2000
      · rw [if_pos c3]; exact .inr ⟨6, by decide, rfl⟩
      · rw [if_neg c3]
        have hl := J.len
        have hne : op ≠ [] := fun h => c1 (by rw [h]; rfl)
        rw [rd_last op hne]
        obtain ⟨up, hup⟩ : ∃ up, op.getLast hne = up := ⟨_, rfl⟩
        have hi := J.inn _ (List.getLast_mem hne)
        rw [hup] at hi ⊢
        have hm := rd_T_mem ns up hi.1 hi.2
        have hk := J.kids _ hm
        rw [if_pos (by omega), if_pos hi.1, if_pos hi.2, if_pos (by omega)]
        have hl2 : (rtKid ns up ns.length ++ [S66.mk text []]).length = ns.length + 1 := by unfold rtKid; rw [List.length_append, List.length_set]; rfl
        refine .inl ⟨_, rfl, ⟨by rw [hl2]; omega, J.deep, fun x hx => by have := J.inn x hx; rw [hl2]; omega, fun x hx => ?_⟩, hl2, by omega⟩
        rw [hl2]
        rcases List.mem_append.1 hx with hx | hx
        · unfold rtKid at hx
          rcases List.mem_or_eq_of_mem_set hx with hx | hx
          · have := J.kids x hx; omega
          · subst hx
            refine ⟨?_, hk.2⟩
            show ((rd_T66 ns up).f1 ++ [(ns.length : Int)]).length ≤ _
            rw [List.length_append, List.length_singleton]
            omega
        · rw [List.mem_singleton] at hx
          subst hx
          exact ⟨Nat.zero_le _, ht⟩
/-- One thing is read by both. -/
theorem step_ok (T : ByteArray) (hT : T.size ≤ 20000) (a : Nat) (ha : a < T.size) (ns : List S66) (op : List Int) (J : RtJ ns op) :
    (∃ (b : Nat) (ns' : List S66) (op' : List Int), a < b ∧ b ≤ T.size ∧ RtJ ns' op' ∧ Ev (fun k => spec_ReadTree.step k T (a : Int) ns op) (0, (b : Int), ns', op') ∧ Ev (fun k => impl_scanner_next.f k T (a : Int) ns op) (0, (b : Int), ns', op')) ∨
    (∃ code, code ≠ 0 ∧ (∃ b ns' op', Ev (fun k => spec_ReadTree.step k T (a : Int) ns op) (code, b, ns', op')) ∧ ∃ ns' op', Ev (fun k => impl_scanner_next.f k T (a : Int) ns op) (code, (a : Int), ns', op')) := by
  have hw : True → wrap64 ((a : Int) + 1) = ((a + 1 : Nat) : Int) := fun _ => wrap_next a (by omega)
  have p0 : (0 : Int) ≤ (a : Int) := Int.natCast_nonneg a
  have p1 : (a : Int) < (T.size : Int) := by omega
  obtain ⟨c, hc⟩ : ∃ c, bt T (a : Int) = c := ⟨_, rfl⟩
  have skip : ∀ v : Int, c = v → v = 10 ∨ v = 32 → ∃ (b : Nat) (ns' : List S66) (op' : List Int), a < b ∧ b ≤ T.size ∧ RtJ ns' op' ∧ Ev (fun k => spec_ReadTree.step k T (a : Int) ns op) (0, (b : Int), ns', op') ∧ Ev (fun k => impl_scanner_next.f k T (a : Int) ns op) (0, (b : Int), ns', op') := fun v hv hv2 => by
    refine ⟨a + 1, ns, op, by omega, by omega, J, ⟨0, fun k _ => ?_⟩, ⟨0, fun k _ => ?_⟩⟩
    · simp only [spec_ReadTree.step]
      rw [hc, hv, hw trivial]
      rcases hv2 with rfl | rfl <;> rfl
    · simp only [impl_scanner_next.f]
      rw [if_pos p0, if_pos p1, hc, hv, hw trivial]
      rcases hv2 with rfl | rfl <;> rfl
  by_cases c32 : c = 32
  · exact .inl (skip 32 c32 (.inr rfl))
  by_cases c10 : c = 10
  · exact .inl (skip 10 c10 (.inl rfl))
  by_cases hlo : c < 32
  · refine .inr ⟨2, by decide, ⟨((a + 1 : Nat) : Int), ns, op, ⟨0, fun k _ => ?_⟩⟩, ns, op, ⟨0, fun k _ => ?_⟩⟩
    · simp only [spec_ReadTree.step]
      rw [hc, if_neg c32, if_neg c10, if_pos hlo, hw trivial]
    · simp only [impl_scanner_next.f]
      rw [if_pos p0, if_pos p1, hc, if_neg c10, if_neg c32, if_neg (by omega), if_neg (by omega), if_neg (by omega), atomByte_is, show isA c = false from decide_eq_false (by omega)]
      rfl
  by_cases hhi : c > 126
  · refine .inr ⟨2, by decide, ⟨((a + 1 : Nat) : Int), ns, op, ⟨0, fun k _ => ?_⟩⟩, ns, op, ⟨0, fun k _ => ?_⟩⟩
    · simp only [spec_ReadTree.step]
      rw [hc, if_neg c32, if_neg c10, if_neg hlo, if_pos hhi, hw trivial]
    · simp only [impl_scanner_next.f]
      rw [if_pos p0, if_pos p1, hc, if_neg c10, if_neg c32, if_neg (by omega), if_neg (by omega), if_neg (by omega), atomByte_is, show isA c = false from decide_eq_false (by omega)]
      rfl
  by_cases c59 : c = 59
  · obtain ⟨e, g1, g2, ⟨K1, g3⟩, ⟨K2, g4⟩⟩ := rem_agree T (by omega) _ (a + 1) rfl (by omega)
    refine .inl ⟨e, ns, op, by omega, g2, J, ⟨K1, fun k hk => ?_⟩, ⟨K2, fun k hk => ?_⟩⟩
    · have g3 : spec_ReadTree.l1 k T ((a + 1 : Nat) : Int) = some (e : Int) := g3 k hk
      simp only [spec_ReadTree.step]
      rw [hc, if_neg c32, if_neg c10, if_neg hlo, if_neg hhi, if_pos c59, hw trivial, g3]
      rfl
    · have g4 : impl_scanner_next.l0 k T ((a + 1 : Nat) : Int) = some (e : Int) := g4 k hk
      simp only [impl_scanner_next.f]
      rw [if_pos p0, if_pos p1, hc, if_neg c10, if_neg c32, if_pos c59, hw trivial, g4]
      rfl
  by_cases c41 : c = 41
  · by_cases cn : op.length = 0
    · refine .inr ⟨3, by decide, ⟨((a + 1 : Nat) : Int), ns, op, ⟨0, fun k _ => ?_⟩⟩, ns, op, ⟨0, fun k _ => ?_⟩⟩
      · simp only [spec_ReadTree.step]
        rw [hc, if_neg c32, if_neg c10, if_neg hlo, if_neg hhi, if_neg c59, if_pos c41, if_pos cn, hw trivial]
      · simp only [impl_scanner_next.f]
        rw [if_pos p0, if_pos p1, hc, if_neg c10, if_neg c32, if_neg c59, if_neg (by omega), if_pos c41, if_pos cn]
    · refine .inl ⟨a + 1, ns, op.take (op.length - 1), by omega, by omega, ⟨J.len, by rw [List.length_take]; have := J.deep; omega, fun x hx => J.inn x (List.mem_of_mem_take hx), J.kids⟩, ⟨0, fun k _ => ?_⟩, ⟨0, fun k _ => ?_⟩⟩
      · simp only [spec_ReadTree.step]
        rw [hc, if_neg c32, if_neg c10, if_neg hlo, if_neg hhi, if_neg c59, if_pos c41, if_neg cn, hw trivial]
      · simp only [impl_scanner_next.f]
        rw [if_pos p0, if_pos p1, hc, if_neg c10, if_neg c32, if_neg c59, if_neg (by omega), if_pos c41, if_neg cn, hw trivial]
  by_cases c40 : c = 40
  · have hdeep := J.deep
    rcases begin_ok ns op ⟨#[]⟩ J (by decide) with ⟨ns', g1, g2, g3, g4⟩ | ⟨code, g0, g1⟩
    · have hwl : wrap64 ((ns'.length : Int) - 1) = (ns.length : Int) := by have := J.len; rw [g3, wrap64_id (by omega) (by omega)]; omega
      have hJ : RtJ ns' (op ++ [(ns.length : Int)]) := ⟨g2.len, by rw [List.length_append, List.length_singleton]; omega, fun x hx => by
        rcases List.mem_append.1 hx with hx | hx
        · exact g2.inn x hx
        · rw [List.mem_singleton] at hx; subst hx; rw [g3]; omega, g2.kids⟩
      refine .inl ⟨a + 1, ns', op ++ [(ns.length : Int)], by omega, by omega, hJ, ⟨0, fun k _ => ?_⟩, ⟨0, fun k _ => ?_⟩⟩
      · simp only [spec_ReadTree.step]
        rw [hc, if_neg c32, if_neg c10, if_neg hlo, if_neg hhi, if_neg c59, if_neg c41, if_pos c40, g1, Option.bind_some]
        dsimp only
        rw [if_pos (by omega), hwl, hw trivial]
      · simp only [impl_scanner_next.f]
        rw [if_pos p0, if_pos p1, hc, if_neg c10, if_neg c32, if_neg c59, if_pos c40, g1, Option.bind_some]
        dsimp only
        rw [if_pos rfl, if_pos (by omega), hwl, hw trivial]
    · refine .inr ⟨code, g0, ⟨((a + 1 : Nat) : Int), ns, op ++ [wrap64 ((ns.length : Int) - 1)], ⟨0, fun k _ => ?_⟩⟩, ns, op, ⟨0, fun k _ => ?_⟩⟩
      · simp only [spec_ReadTree.step]
        rw [hc, if_neg c32, if_neg c10, if_neg hlo, if_neg hhi, if_neg c59, if_neg c41, if_pos c40, g1, Option.bind_some]
        dsimp only
        rw [if_pos (by omega), hw trivial]
      · simp only [impl_scanner_next.f]
        rw [if_pos p0, if_pos p1, hc, if_neg c10, if_neg c32, if_neg c59, if_pos c40, g1, Option.bind_some]
        dsimp only
        rw [if_neg g0]
  · have hA : isA c = true := decide_eq_true (by omega)
    obtain ⟨e, g1, g2, g3, g4, ⟨K1, g5⟩, ⟨K2, g6⟩⟩ := end_agree T (by omega) _ a rfl (by omega)
    have hae : a < e := by
      rcases Nat.lt_or_ge a e with h | h
      · exact h
      · exfalso
        have : e = a := by omega
        subst this
        rcases g4 with g4 | g4
        · omega
        · rw [hc, hA] at g4; cases g4
    have hex : ∀ k : Nat, T.extract ((a : Int)).toNat ((e : Int)).toNat = T.extract a e := fun _ => by rw [Int.toNat_natCast, Int.toNat_natCast]
    have hsz := ext_len T a e (by omega) g2
    rcases begin_ok ns op (T.extract a e) J (by omega) with ⟨ns', q1, q2, q3, q4⟩ | ⟨code, q0, q1⟩
    · refine .inl ⟨e, ns', op, hae, g2, q2, ⟨K1, fun k hk => ?_⟩, ⟨K2, fun k hk => ?_⟩⟩
      · have g5 : spec_l2End.f k T (a : Int) = some (e : Int) := g5 k hk
        simp only [spec_ReadTree.step]
        rw [hc, if_neg c32, if_neg c10, if_neg hlo, if_neg hhi, if_neg c59, if_neg c41, if_neg c40, g5, Option.bind_some, if_pos (by omega), if_pos (by omega), hex k, q1]
        rfl
      · have g6 : impl_scanner_next.l1 k T (a : Int) = some (e : Int) := g6 k hk
        simp only [impl_scanner_next.f]
        rw [if_pos p0, if_pos p1, hc, if_neg c10, if_neg c32, if_neg c59, if_neg c40, if_neg c41, atomByte_is, hA, Option.bind_some, if_pos rfl, g6, Option.bind_some, if_pos (by omega), if_pos (by omega), hex k, q1]
        rfl
    · refine .inr ⟨code, q0, ⟨(e : Int), ns, op, ⟨K1, fun k hk => ?_⟩⟩, ns, op, ⟨K2, fun k hk => ?_⟩⟩
      · have g5 : spec_l2End.f k T (a : Int) = some (e : Int) := g5 k hk
        simp only [spec_ReadTree.step]
        rw [hc, if_neg c32, if_neg c10, if_neg hlo, if_neg hhi, if_neg c59, if_neg c41, if_neg c40, g5, Option.bind_some, if_pos (by omega), if_pos (by omega), hex k, q1]
        rfl
      · have g6 : impl_scanner_next.l1 k T (a : Int) = some (e : Int) := g6 k hk
        simp only [impl_scanner_next.f]
        rw [if_pos p0, if_pos p1, hc, if_neg c10, if_neg c32, if_neg c59, if_neg c40, if_neg c41, atomByte_is, hA, Option.bind_some, if_pos rfl, g6, Option.bind_some, if_pos (by omega), if_pos (by omega), hex k, q1]
        simp only [Option.bind_some]
        rw [if_neg q0]
/-- All is read by both. -/
theorem read_agree (T : ByteArray) (hT : T.size ≤ 20000) : ∀ n a : Nat, T.size - a ≤ n → a ≤ T.size → ∀ (ns : List S66) (op : List Int), RtJ ns op →
    ∃ (r : List S66) (c p : Int), (r = [] ∨ ∃ op', RtJ r op') ∧ Ev (fun k => spec_ReadTree.l0 k T (a : Int) ns op) (r, c, p) ∧ Ev (fun k => impl_ReadTree.l0 k T (a : Int) ns op) (r, c, p) := by
  intro n
  induction n with
  | zero =>
    intro a hn ha ns op J
    have e : ¬ (a : Int) < (T.size : Int) := by omega
    by_cases c1 : 0 < op.length
    · exact ⟨[], 7, T.size, .inl rfl, Ev.step (f := fun _ => some ([], 7, (T.size : Int))) (fun k => by simp only [spec_ReadTree.l0]; rw [if_neg e, if_pos c1]) (Ev.now _), Ev.step (f := fun _ => some ([], 7, (T.size : Int))) (fun k => by simp only [impl_ReadTree.l0]; rw [if_neg e, if_pos c1]) (Ev.now _)⟩
    · by_cases c2 : ns.length = 0
      · exact ⟨[], 8, T.size, .inl rfl, Ev.step (f := fun _ => some ([], 8, (T.size : Int))) (fun k => by simp only [spec_ReadTree.l0]; rw [if_neg e, if_neg c1, if_pos c2]) (Ev.now _), Ev.step (f := fun _ => some ([], 8, (T.size : Int))) (fun k => by simp only [impl_ReadTree.l0]; rw [if_neg e, if_neg c1, if_pos c2]) (Ev.now _)⟩
      · exact ⟨ns, 0, 0, .inr ⟨op, J⟩, Ev.step (f := fun _ => some (ns, 0, 0)) (fun k => by simp only [spec_ReadTree.l0]; rw [if_neg e, if_neg c1, if_neg c2]) (Ev.now _), Ev.step (f := fun _ => some (ns, 0, 0)) (fun k => by simp only [impl_ReadTree.l0]; rw [if_neg e, if_neg c1, if_neg c2]) (Ev.now _)⟩
  | succ n ih =>
    intro a hn ha ns op J
    by_cases hlt : a < T.size
    · have e : (a : Int) < (T.size : Int) := by omega
      rcases step_ok T hT a hlt ns op J with ⟨b, ns', op', h1, h2, hJ, ⟨K1, h3⟩, ⟨K2, h4⟩⟩ | ⟨code, hc, ⟨b, ns', op', ⟨K1, h3⟩⟩, ns2, op2, ⟨K2, h4⟩⟩
      · obtain ⟨r, c, p, hr, ⟨K3, h5⟩, ⟨K4, h6⟩⟩ := ih b (by omega) h2 ns' op' hJ
        refine ⟨r, c, p, hr, ⟨K1 + K3 + 1, fun k hk => ?_⟩, ⟨K2 + K4 + 1, fun k hk => ?_⟩⟩
        · obtain ⟨m, rfl⟩ : ∃ m, k = m + 1 := ⟨k - 1, by omega⟩
          have h3 : spec_ReadTree.step m T (a : Int) ns op = some (0, (b : Int), ns', op') := h3 m (by omega)
          have h5 : spec_ReadTree.l0 m T (b : Int) ns' op' = some (r, c, p) := h5 m (by omega)
          simp only [spec_ReadTree.l0]
          rw [if_pos e, if_pos (by omega), h3, Option.bind_some]
          dsimp only
          rw [if_pos rfl]
          exact h5
        · obtain ⟨m, rfl⟩ : ∃ m, k = m + 1 := ⟨k - 1, by omega⟩
          have h4 : impl_scanner_next.f m T (a : Int) ns op = some (0, (b : Int), ns', op') := h4 m (by omega)
          have h6 : impl_ReadTree.l0 m T (b : Int) ns' op' = some (r, c, p) := h6 m (by omega)
          simp only [impl_ReadTree.l0]
          rw [if_pos e, h4, Option.bind_some]
          dsimp only
          rw [if_pos rfl]
          exact h6
      · refine ⟨[], code, a, .inl rfl, ⟨K1 + 1, fun k hk => ?_⟩, ⟨K2 + 1, fun k hk => ?_⟩⟩
        · obtain ⟨m, rfl⟩ : ∃ m, k = m + 1 := ⟨k - 1, by omega⟩
          have h3 : spec_ReadTree.step m T (a : Int) ns op = some (code, b, ns', op') := h3 m (by omega)
          simp only [spec_ReadTree.l0]
          rw [if_pos e, if_pos (by omega), h3, Option.bind_some]
          dsimp only
          rw [if_neg hc]
        · obtain ⟨m, rfl⟩ : ∃ m, k = m + 1 := ⟨k - 1, by omega⟩
          have h4 : impl_scanner_next.f m T (a : Int) ns op = some (code, (a : Int), ns2, op2) := h4 m (by omega)
          simp only [impl_ReadTree.l0]
          rw [if_pos e, h4, Option.bind_some]
          dsimp only
          rw [if_neg hc]
    · exact ih a (by omega) ha ns op J
theorem rtJ_nil : RtJ [] [] := ⟨by simp, by simp, (fun x hx => by cases hx), (fun x hx => by cases hx)⟩

/-! readTree -/
theorem readTree_agree (s : ByteArray) (u : (s.size : Int) ≤ 1048576) : ∃ (r : List S66) (c p : Int), Ev (fun k => spec_ReadTree.f k s) (r, c, p) ∧ Ev (fun k => impl_ReadTree.f k s) (r, c, p) ∧ UpI_Tree 1048576 ⟨r⟩ := by
  have hnil : UpI_Tree 1048576 ⟨[]⟩ := ⟨by simp, fun x hx => by cases hx⟩
  by_cases c1 : 20000 < s.size
  · exact ⟨[], 1, 0, ⟨0, fun k _ => by simp only [spec_ReadTree.f]; rw [if_pos c1]⟩, ⟨0, fun k _ => by simp only [impl_ReadTree.f]; rw [if_pos c1]⟩, hnil⟩
  · obtain ⟨r, c, p, hr, h1, h2⟩ := read_agree s (by omega) _ 0 (Nat.le_refl _) (Nat.zero_le _) [] [] rtJ_nil
    refine ⟨r, c, p, Ev.congr (fun k => by simp only [spec_ReadTree.f]; rw [if_neg c1]; rfl) h1, Ev.congr (fun k => by simp only [impl_ReadTree.f]; rw [if_neg c1]; rfl) h2, ?_⟩
    rcases hr with rfl | ⟨op', J⟩
    · exact hnil
    · have hl := J.len
      refine ⟨by simp only; omega, fun x hx => ?_⟩
      have := J.kids x hx
      unfold UpI_Node
      omega
-- SAYS: The program's ReadTree answers as the reference's ReadTree does, for all arguments.
theorem FnExactReadTree (a0 : ByteArray) (q0 : a0.size ≤ maxLen) : ∃ k, laws_FnExactReadTree.f k a0 = some true := by
  by_cases b0 : (a0.size : Int) > 1048576
  · have c0 := eq_true b0
    exact ⟨1 + 1 + 1 + 1, by simp (disch := omega) only [laws_FnExactReadTree.f, ↓reduceIte, c0]⟩
  have c0 := eq_false b0
  have u0 : (a0.size : Int) ≤ 1048576 := by omega
  obtain ⟨y0_0, y1, y2, e1, e2, v0⟩ := readTree_agree a0 u0
  obtain ⟨Khs, hs⟩ := Ev.binds (e1)
  obtain ⟨Khi, hi⟩ := Ev.binds (e2)
  obtain ⟨Kf0_, f0_⟩ := Ev.binds (eq_Tree (⟨y0_0⟩ : S29) v0)
  obtain ⟨M0, N0_0, G0_, O0, A0, H0_⟩ := mark_Tree (⟨y0_0⟩ : S29) v0 1 (by omega) (by omega)
  obtain ⟨Kx0_, x0_⟩ := Ev.binds (G0_)
  obtain ⟨Kz0_, z0_⟩ := Ev.binds (H0_)
  have cn0 := eq_false (show ¬ M0 < 0 by omega)
  exact ⟨Khs + Khi + Kf0_ + Kx0_ + Kz0_ + 1 + 1 + 1 + 1, by simp (disch := omega) only [laws_FnExactReadTree.f, ↓hs, ↓hi, ↓f0_, ↓x0_, ↓z0_, ↓reduceIte, c0, cn0, bne_self_eq_false, Bool.false_eq_true, Bool.not_true, Bool.not_false]⟩

end Go.Proofs.Ytjjlcmfjmdfedaa.Pure
