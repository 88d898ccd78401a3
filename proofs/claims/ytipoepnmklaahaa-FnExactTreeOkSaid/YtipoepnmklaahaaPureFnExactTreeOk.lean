/- The program's TreeOk answers as the reference's TreeOk does, for every tree. -/
import Derived.Test.YtipoepnmklaahaaPFnExactTreeOkx5
import Derived.Test.YtipoepnmklaahaaBits
import Derived.Test.YtipoepnmklaahaaLoops
namespace Go.Proofs.Ytipoepnmklaahaa.Pure
open Go Go.RowKit Go.Proofs.Ytipoepnmklaahaa.PFnExactTreeOk Go.Proofs.YtipoepnmklaahaaW.PrintWords Go.Proofs.YtipoepnmklaahaaW.PrintLast Go.Proofs.YtipoepnmklaahaaW.PrintMore Go.Proofs.Ytipoepnmklaahaa.BitsLib Go.Proofs.Ytipoepnmklaahaa.Loops
set_option linter.unusedVariables false
set_option linter.unusedSimpArgs false
set_option maxRecDepth 4000

/-! szInt64S -/
theorem szInt64S_eq (l : List Int) (left : Int) (hl : l.length ≤ 9223372036854775807) (h0 : 0 ≤ left) (h1 : left ≤ 1048576) :
    laws_szInt64S.f l left = some (if left - l.length < 0 then -1 else left - l.length) := by
  unfold laws_szInt64S.f
  rw [wrap64_id (by omega) (by omega)]
  split <;> rfl

/-! toInt64S -/
theorem toInt64S_ev (l : List Int) (hl : l.length ≤ 1048576) : Ev (fun k => laws_toInt64S.f k l) l := by
  have main := up_loop l.length (filled (fun i => rd l i) (List.replicate l.length 0)) (fun k xs i => laws_toInt64S.l0 k l xs i)
    (fun i hi r h => Ev.step (fun k => by
      simp only [laws_toInt64S.l0]
      rw [if_pos (by omega), if_pos (by omega), if_pos (by rw [filled_len _ _ (by simp; omega)]; simp; omega), Int.toNat_natCast, filled_set _ _ (by simpa using hi), wrap64_id (by omega) (by omega)]) h)
    l (Ev.step (f := fun _ => some l) (fun k => by
      simp only [laws_toInt64S.l0]
      rw [if_neg (by omega), filled_all _ _ (by simp), list_of_rd]) (Ev.now l))
  rw [filled_zero] at main
  refine Ev.congr (fun k => ?_) main
  unfold laws_toInt64S.f
  rw [if_pos (by omega), if_pos (by omega), Int.toNat_natCast]

/-! eqInt64S -/
theorem eqInt64S_ev (l m : List Int) (hl : l.length ≤ 1048576) : Ev (fun k => laws_eqInt64S.f k l m) (decide (l = m)) := by
  by_cases hlen : l.length = m.length
  · have := all_loop l.length (l = m) (fun i => rd l i != rd m i) (fun k i => laws_eqInt64S.l0 k l m i) false true
      (fun i hi hp => Ev.step (f := fun _ => some false) (fun k => by
        simp only [laws_eqInt64S.l0]
        rw [if_pos (by omega), if_pos (by omega), if_pos (by omega), if_neg (by simpa using hp)]) (Ev.now _))
      (fun i hi hp r h => Ev.step (fun k => by
        simp only [laws_eqInt64S.l0]
        rw [if_pos (by omega), if_pos (by omega), if_pos (by omega), if_pos (by simpa using hp), wrap64_id (by omega) (by omega)]) h)
      (Ev.step (f := fun _ => some true) (fun k => by
        simp only [laws_eqInt64S.l0]
        rw [if_neg (by omega)]) (Ev.now _))
      ⟨fun h j hj => by rw [h]; simp, fun h => ext_rd hlen fun i hi => by simpa using h i hi⟩
    have e : decide (l = m) = if l = m then true else false := by by_cases h : l = m <;> simp [h]
    rw [e]
    refine Ev.congr (fun k => ?_) this
    unfold laws_eqInt64S.f
    rw [if_pos (by omega)]
  · have e : decide (l = m) = false := decide_eq_false (fun h => hlen (by rw [h]))
    rw [e]
    exact Ev.congr (fun k => by unfold laws_eqInt64S.f; rw [if_neg (by omega)]) (Ev.now _)

/-! szTree -/
def cvNode (x : S140) : S115 := ⟨x.f0, x.f1⟩
theorem szNode_out (s : ByteArray) (l : List Int) (left : Int) (hs : s.size ≤ 9223372036854775807) (hl : l.length ≤ 9223372036854775807) (h0 : 0 ≤ left) (h1 : left ≤ 1048576) :
    ∃ r, laws_szNode.f s l left = some r ∧ (r < 0 ∨ (0 ≤ r ∧ r ≤ left ∧ (s.size : Int) ≤ left ∧ (l.length : Int) ≤ left)) := by
  unfold laws_szNode.f
  rw [wrap64_id (by omega) (by omega)]
  by_cases c : left - (s.size : Int) < 0
  · exact ⟨-1, by rw [if_pos c], .inl (by omega)⟩
  · rw [if_neg c, szInt64S_eq l _ hl (by omega) (by omega)]
    simp only [Option.bind_some]
    by_cases c2 : left - (s.size : Int) - (l.length : Int) < 0
    · exact ⟨-1, by rw [if_pos c2]; rfl, .inl (by omega)⟩
    · exact ⟨left - (s.size : Int) - (l.length : Int), by rw [if_neg c2, if_neg c2], .inr (by omega)⟩
theorem szNodeS_out (l : List S140) (left : Int) (hl : l.length ≤ 9223372036854775807) (hx : ∀ x ∈ l, x.f0.size ≤ 9223372036854775807 ∧ x.f1.length ≤ 9223372036854775807) (h0 : 0 ≤ left) (h1 : left ≤ 1048576) :
    ∃ r, Ev (fun k => laws_szNodeS.f k l left) r ∧ (r < 0 ∨ (0 ≤ r ∧ r ≤ left ∧ (l.length : Int) ≤ left ∧ ∀ x ∈ l, (x.f0.size : Int) ≤ left ∧ (x.f1.length : Int) ≤ left)) := by
  by_cases c : left - (l.length : Int) < 0
  · refine ⟨-1, Ev.congr (fun k => ?_) (Ev.now _), .inl (by omega)⟩
    unfold laws_szNodeS.f
    rw [wrap64_id (by omega) (by omega), if_pos c]
  · have main : ∀ d i, l.length - i = d → i ≤ l.length → ∀ lf, 0 ≤ lf → lf ≤ left → ∃ r, Ev (fun k => laws_szNodeS.l0 k l lf (i : Int)) r ∧ (r < 0 ∨ (0 ≤ r ∧ r ≤ lf ∧ ∀ j, i ≤ j → j < l.length → ((rd_T140 l (j : Int)).f0.size : Int) ≤ left ∧ ((rd_T140 l (j : Int)).f1.length : Int) ≤ left)) := by
      intro d
      induction d with
      | zero =>
        intro i hd hi lf g0 g1
        exact ⟨lf, Ev.step (f := fun _ => some lf) (fun k => by simp only [laws_szNodeS.l0]; rw [if_neg (by omega)]) (Ev.now _), .inr ⟨g0, Int.le_refl _, fun j g2 g3 => by omega⟩⟩
      | succ d ih =>
        intro i hd hi lf g0 g1
        have hil : i < l.length := by omega
        have hmem : rd_T140 l (i : Int) ∈ l := by
          unfold rd_T140
          rw [List.getD_eq_getElem?_getD, Int.toNat_natCast, List.getElem?_eq_getElem hil]; exact List.getElem_mem hil
        obtain ⟨r, hr, hrb⟩ := szNode_out (rd_T140 l (i : Int)).f0 (rd_T140 l (i : Int)).f1 lf (hx _ hmem).1 (hx _ hmem).2 g0 (by omega)
        rcases hrb with hneg | ⟨p0, p1, p2, p3⟩
        · refine ⟨-1, Ev.step (f := fun _ => some (-1)) (fun k => ?_) (Ev.now _), .inl (by omega)⟩
          simp only [laws_szNodeS.l0]
          rw [if_pos (by omega), if_pos (by omega), hr]
          simp only [Option.bind_some]
          rw [if_pos hneg]
        · obtain ⟨r2, h2, hb2⟩ := ih (i + 1) (by omega) (by omega) r p0 (by omega)
          refine ⟨r2, Ev.step (fun k => ?_) h2, ?_⟩
          · simp only [laws_szNodeS.l0]
            rw [if_pos (by omega), if_pos (by omega), hr]
            simp only [Option.bind_some]
            rw [if_neg (by omega), wrap64_id (by omega) (by omega)]; rfl
          · rcases hb2 with hb2 | ⟨s0, s1, s2⟩
            · exact .inl hb2
            · refine .inr ⟨s0, by omega, fun j g2 g3 => ?_⟩
              by_cases e : j = i
              · rw [e]; omega
              · exact s2 j (by omega) g3
    obtain ⟨r, hr, hb⟩ := main l.length 0 (by omega) (by omega) (left - (l.length : Int)) (by omega) (by omega)
    refine ⟨r, Ev.congr (fun k => ?_) hr, ?_⟩
    · unfold laws_szNodeS.f
      rw [wrap64_id (by omega) (by omega), if_neg c]; rfl
    · rcases hb with hb | ⟨s0, s1, s2⟩
      · exact .inl hb
      · refine .inr ⟨s0, by omega, by omega, fun x hx2 => ?_⟩
        obtain ⟨j, hj⟩ := List.getElem?_of_mem hx2
        have hjl : j < l.length := (List.getElem?_eq_some_iff.1 hj).1
        have := s2 j (by omega) hjl
        unfold rd_T140 at this
        rw [List.getD_eq_getElem?_getD, Int.toNat_natCast, hj] at this
        exact this
theorem szTree_out (l : List S140) (left : Int) (hl : l.length ≤ 9223372036854775807) (hx : ∀ x ∈ l, x.f0.size ≤ 9223372036854775807 ∧ x.f1.length ≤ 9223372036854775807) (h0 : 0 ≤ left) (h1 : left ≤ 1048576) :
    ∃ r, Ev (fun k => laws_szTree.f k l left) r ∧ (r < 0 ∨ (0 ≤ r ∧ r ≤ left ∧ (l.length : Int) ≤ left ∧ ∀ x ∈ l, (x.f0.size : Int) ≤ left ∧ (x.f1.length : Int) ≤ left)) := by
  obtain ⟨r, ⟨K, h⟩, hb⟩ := szNodeS_out l left hl hx h0 h1
  by_cases c : r < 0
  · exact ⟨-1, ⟨K, fun k hk => by have h := h k hk; dsimp only at h ⊢; unfold laws_szTree.f; rw [h]; simp only [Option.bind_some]; rw [if_pos c]⟩, .inl (by omega)⟩
  · exact ⟨r, ⟨K, fun k hk => by have h := h k hk; dsimp only at h ⊢; unfold laws_szTree.f; rw [h]; simp only [Option.bind_some]; rw [if_neg c]⟩, hb⟩

/-! toTree -/
theorem toTree_ev (l : List S140) (hl : l.length ≤ 1048576) (hx : ∀ x ∈ l, x.f1.length ≤ 1048576) : Ev (fun k => laws_toTree.f k l) (l.map cvNode) := by
  have hmem : ∀ i, i < l.length → rd_T140 l (i : Int) ∈ l := fun i hi => by
    unfold rd_T140
    rw [List.getD_eq_getElem?_getD, Int.toNat_natCast, List.getElem?_eq_getElem hi]; exact List.getElem_mem hi
  have main := up_loop l.length (filled (fun i => cvNode (rd_T140 l i)) (List.replicate l.length z115)) (fun k xs i => laws_toNodeS.l0 k l xs i)
    (fun i hi r h => by
      obtain ⟨K1, h1⟩ := toInt64S_ev (rd_T140 l (i : Int)).f1 (hx _ (hmem i hi))
      obtain ⟨K2, h2⟩ := h
      refine ⟨K1 + K2 + 1, fun k hk => ?_⟩
      obtain ⟨m, rfl⟩ : ∃ m, k = m + 1 := ⟨k - 1, by omega⟩
      have h1 := h1 m (by omega)
      have h2 := h2 m (by omega)
      dsimp only at h1 h2 ⊢
      simp only [laws_toNodeS.l0, laws_toNode.f]
      rw [if_pos (by omega), if_pos (by omega), h1]
      simp only [Option.bind_some]
      rw [if_pos (by rw [filled_len _ _ (by simp; omega)]; simp; omega), Int.toNat_natCast, wrap64_id (by omega) (by omega)]
      rw [← filled_set _ _ (by simpa using hi)] at h2
      exact h2)
    (l.map cvNode) (Ev.step (f := fun _ => some (l.map cvNode)) (fun k => by
      simp only [laws_toNodeS.l0]
      rw [if_neg (by omega), filled_all _ _ (by simp)]
      congr 1
      apply List.ext_getElem?
      intro i
      by_cases hi : i < l.length
      · simp [hi, rd_T140, List.getD_eq_getElem?_getD]
      · rw [List.getElem?_eq_none (by simp; omega), List.getElem?_eq_none (by simp; omega)]) (Ev.now _))
  rw [filled_zero] at main
  refine Ev.congr (fun k => ?_) main
  unfold laws_toTree.f laws_toNodeS.f
  rw [if_pos (by omega), if_pos (by omega), Int.toNat_natCast]
  cases laws_toNodeS.l0 k l (List.replicate l.length z115) 0 <;> rfl

/-! eqTree -/
theorem eqTree_ev (l : List S115) (hl : l.length ≤ 1048576) (hx : ∀ x ∈ l, x.f1.length ≤ 1048576) : Ev (fun k => laws_eqTree.f k l l) true := by
  have hmem : ∀ i, i < l.length → rd_T115 l (i : Int) ∈ l := fun i hi => by
    unfold rd_T115
    rw [List.getD_eq_getElem?_getD, Int.toNat_natCast, List.getElem?_eq_getElem hi]; exact List.getElem_mem hi
  have main := up_loop l.length (fun _ => ()) (fun k _ i => laws_eqNodeS.l0 k l l i)
    (fun i hi r h => by
      obtain ⟨K1, h1⟩ := eqInt64S_ev (rd_T115 l (i : Int)).f1 (rd_T115 l (i : Int)).f1 (hx _ (hmem i hi))
      obtain ⟨K2, h2⟩ := h
      refine ⟨K1 + K2 + 1, fun k hk => ?_⟩
      obtain ⟨m, rfl⟩ : ∃ m, k = m + 1 := ⟨k - 1, by omega⟩
      have h1 := h1 m (by omega)
      have h2 := h2 m (by omega)
      dsimp only at h1 h2 ⊢
      rw [decide_eq_true rfl] at h1
      simp only [laws_eqNodeS.l0, laws_eqNode.f]
      rw [if_pos (by omega), if_pos (by omega), if_pos (by omega), if_pos trivial, h1]
      simp only [Option.bind_some, if_true]
      rw [wrap64_id (by omega) (by omega)]
      exact h2)
    true (Ev.step (f := fun _ => some true) (fun k => by
      simp only [laws_eqNodeS.l0]
      rw [if_neg (by omega)]) (Ev.now _))
  obtain ⟨K, h⟩ := main
  refine ⟨K, fun k hk => ?_⟩
  have h := h k hk
  dsimp only at h ⊢
  unfold laws_eqTree.f laws_eqNodeS.f
  rw [if_pos rfl, h]; rfl

/-! atoms -/
theorem atoms_agree (s : ByteArray) (hs : s.size ≤ 9223372036854775807) : ∃ b, Ev (fun k => spec_l2Atom.f k s) b ∧ Ev (fun k => impl_atomOk.f k s) b := by
  have main : ∀ d i, s.size - i = d → i ≤ s.size → ∃ b, Ev (fun k => spec_l2Atom.l0 k s (i : Int)) b ∧ Ev (fun k => impl_atomOk.l0 k s (i : Int)) b := by
    intro d
    induction d with
    | zero =>
      intro i hd hi
      refine ⟨decide ((s.size : Int) > 0), Ev.step (f := fun _ => some (decide ((s.size : Int) > 0))) (fun k => ?_) (Ev.now _), Ev.step (f := fun _ => some (decide ((s.size : Int) > 0))) (fun k => ?_) (Ev.now _)⟩
      · simp only [spec_l2Atom.l0]; rw [if_neg (by omega)]
      · simp only [impl_atomOk.l0]; rw [if_neg (by omega)]
        congr 1
        by_cases c : s.size = 0
        · have : s.toList = [] := (toList_nil s).2 c
          rw [this]; simp [c]
        · have : s.toList ≠ [] := fun h => c ((toList_nil s).1 h)
          rw [decide_eq_true (by omega)]; simpa using this
    | succ d ih =>
      intro i hd hi
      obtain ⟨b, h1, h2⟩ := ih (i + 1) (by omega) (by omega)
      have hno : ∀ v, impl_atomByte.f (bt s (i : Int)) = some v → v = false → Ev (fun k => impl_atomOk.l0 k s (i : Int)) false := fun v hv hf => Ev.step (f := fun _ => some false) (fun k => by
        simp only [impl_atomOk.l0]
        rw [if_pos (by omega), if_pos (by omega), hv]
        simp only [Option.bind_some]
        rw [hf]; rfl) (Ev.now _)
      have hyes : impl_atomByte.f (bt s (i : Int)) = some true → Ev (fun k => impl_atomOk.l0 k s (i : Int)) b := fun hv => Ev.step (fun k => by
        simp only [impl_atomOk.l0]
        rw [if_pos (by omega), if_pos (by omega), hv]
        simp only [Option.bind_some, if_true]
        rw [wrap64_id (by omega) (by omega)]; rfl) h2
      by_cases c1 : bt s (i : Int) < 33
      · exact ⟨false, Ev.step (f := fun _ => some false) (fun k => by simp only [spec_l2Atom.l0]; rw [if_pos (by omega), if_pos (by omega), if_pos c1]) (Ev.now _), hno false (by unfold impl_atomByte.f; rw [if_neg (by omega)]) rfl⟩
      · by_cases c2 : bt s (i : Int) > 126
        · exact ⟨false, Ev.step (f := fun _ => some false) (fun k => by simp only [spec_l2Atom.l0]; rw [if_pos (by omega), if_pos (by omega), if_neg c1, if_pos c2]) (Ev.now _), hno false (by unfold impl_atomByte.f; rw [if_pos (by omega), if_neg (by omega)]) rfl⟩
        · by_cases c3 : bt s (i : Int) = 40
          · exact ⟨false, Ev.step (f := fun _ => some false) (fun k => by simp only [spec_l2Atom.l0]; rw [if_pos (by omega), if_pos (by omega), if_neg c1, if_neg c2, if_pos c3]) (Ev.now _), hno false (by unfold impl_atomByte.f; rw [if_pos (by omega), if_pos (by omega), if_pos c3]) rfl⟩
          · by_cases c4 : bt s (i : Int) = 41
            · exact ⟨false, Ev.step (f := fun _ => some false) (fun k => by simp only [spec_l2Atom.l0]; rw [if_pos (by omega), if_pos (by omega), if_neg c1, if_neg c2, if_neg c3, if_pos c4]) (Ev.now _), hno false (by unfold impl_atomByte.f; rw [if_pos (by omega), if_pos (by omega), if_neg c3, if_pos c4]) rfl⟩
            · by_cases c5 : bt s (i : Int) = 59
              · exact ⟨false, Ev.step (f := fun _ => some false) (fun k => by simp only [spec_l2Atom.l0]; rw [if_pos (by omega), if_pos (by omega), if_neg c1, if_neg c2, if_neg c3, if_neg c4, if_pos c5]) (Ev.now _), hno false (by unfold impl_atomByte.f; rw [if_pos (by omega), if_pos (by omega), if_neg c3, if_neg c4, c5]; rfl) rfl⟩
              · exact ⟨b, Ev.step (fun k => by simp only [spec_l2Atom.l0]; rw [if_pos (by omega), if_pos (by omega), if_neg c1, if_neg c2, if_neg c3, if_neg c4, if_neg c5, wrap64_id (by omega) (by omega)]; rfl) h1, hyes (by unfold impl_atomByte.f; rw [if_pos (by omega), if_pos (by omega), if_neg c3, if_neg c4]; simpa using c5)⟩
  obtain ⟨b, h1, h2⟩ := main s.size 0 (by omega) (by omega)
  exact ⟨b, Ev.congr (fun k => rfl) h1, Ev.congr (fun k => rfl) h2⟩

/-! walks -/
/-- Both walks through a tree tell the same: a place, or that it isn't right. -/
def WalkAgree (t : List S115) (f : Nat → Option Int) (g : Nat → Option (Int × Bool)) (at_ : Int) : Prop :=
  (∃ r, at_ < r ∧ r ≤ t.length ∧ Ev f r ∧ Ev g (r, true)) ∨ (Ev f (-1) ∧ ∃ x, Ev g (x, false))
theorem walks_agree (t : List S115) (hl : t.length ≤ 1048576) (hx : ∀ x ∈ t, x.f0.size ≤ 1048576 ∧ x.f1.length ≤ 1048576) :
    ∀ D : Nat, ∀ at_ d : Nat, d + D = 101 → at_ < t.length → WalkAgree t (fun k => spec_l2Walk.f k t (at_ : Int) (d : Int)) (fun k => impl_Tree_below.f k t (at_ : Int) (d : Int)) (at_ : Int) := by
  intro D
  induction D with
  | zero =>
    intro at_ d hd hat
    right
    refine ⟨⟨2, fun k hk => ?_⟩, 0, ⟨2, fun k hk => ?_⟩⟩
    · obtain ⟨m, rfl⟩ : ∃ m, k = m + 1 + 1 := ⟨k - 2, by omega⟩
      simp only [spec_l2Walk.f, spec_l2Walk.j0]
      rw [if_pos (by omega), if_pos (by omega), if_pos (by omega)]; first | rw [if_pos rfl] | rw [if_pos trivial]
    · obtain ⟨m, rfl⟩ : ∃ m, k = m + 1 + 1 := ⟨k - 2, by omega⟩
      simp only [impl_Tree_below.f, impl_Tree_below.j0]
      rw [if_neg (by omega), decide_eq_true (by omega)]; first | rw [if_pos rfl] | rw [if_pos trivial]
  | succ D ih =>
    intro at_ d hd hat
    have hmem : rd_T115 t (at_ : Int) ∈ t := by
      unfold rd_T115
      rw [List.getD_eq_getElem?_getD, Int.toNat_natCast, List.getElem?_eq_getElem hat]; exact List.getElem_mem hat
    have hb := hx _ hmem
    obtain ⟨kids, hkids⟩ : ∃ kids, kids = (rd_T115 t (at_ : Int)).f1 := ⟨_, rfl⟩
    obtain ⟨text, htext⟩ : ∃ text, text = (rd_T115 t (at_ : Int)).f0 := ⟨_, rfl⟩
    rw [← hkids, ← htext] at hb
    have loop : ∀ n i, kids.length - i = n → i ≤ kids.length → ∀ next : Nat, at_ < next → next ≤ t.length →
        WalkAgree t (fun k => spec_l2Walk.l0 k (d : Int) (next : Int) (i : Int) t text kids) (fun k => impl_Tree_below.l0 k (d : Int) (next : Int) kids (kids.length : Int) (i : Int) t) (at_ : Int) := by
      intro n
      induction n with
      | zero =>
        intro i hn hi next g1 g2
        left
        refine ⟨(next : Int), by omega, by omega, Ev.step (f := fun _ => some (next : Int)) (fun k => ?_) (Ev.now _), Ev.step (f := fun _ => some ((next : Int), true)) (fun k => ?_) (Ev.now _)⟩
        · simp only [spec_l2Walk.l0]; rw [if_neg (by omega)]
        · simp only [impl_Tree_below.l0]; rw [if_neg (by omega)]
      | succ n ihn =>
        intro i hn hi next g1 g2
        by_cases ck : rd kids (i : Int) = (next : Int)
        · by_cases cn : next < t.length
          · have hdec : decide ((next : Int) ≥ (t.length : Int)) = false := decide_eq_false (by omega)
            rcases ih next (d + 1) (by omega) cn with ⟨r, r1, r2, ⟨K1, h1⟩, ⟨K2, h2⟩⟩ | ⟨⟨K1, h1⟩, x, ⟨K2, h2⟩⟩
            · obtain ⟨r, rfl⟩ := Int.eq_ofNat_of_zero_le (show 0 ≤ r by omega)
              have rest := ihn (i + 1) (by omega) (by omega) r (by omega) (by omega)
              have s1 : ∀ z, Ev (fun k => spec_l2Walk.l0 k (d : Int) (r : Int) ((i + 1 : Nat) : Int) t text kids) z → Ev (fun k => spec_l2Walk.l0 k (d : Int) (next : Int) (i : Int) t text kids) z := by
                rintro z ⟨K3, h3⟩
                refine ⟨K1 + K3 + 2, fun k hk => ?_⟩
                obtain ⟨m, rfl⟩ : ∃ m, k = m + 1 + 1 := ⟨k - 2, by omega⟩
                have h1 := h1 m (by omega)
                have h3 := h3 m (by omega)
                dsimp only at h1 h3 ⊢
                simp only [spec_l2Walk.l0, spec_l2Walk.j2]
                rw [if_pos (by omega), if_pos (by omega), if_pos ck, hdec, if_neg (by decide), wrap64_id (by omega) (by omega), show (d : Int) + 1 = ((d + 1 : Nat) : Int) by omega, h1]
                simp only [Option.bind_some]
                rw [if_neg (by omega), wrap64_id (by omega) (by omega)]
                exact h3
              have s2 : ∀ z, Ev (fun k => impl_Tree_below.l0 k (d : Int) (r : Int) kids (kids.length : Int) ((i + 1 : Nat) : Int) t) z → Ev (fun k => impl_Tree_below.l0 k (d : Int) (next : Int) kids (kids.length : Int) (i : Int) t) z := by
                rintro z ⟨K3, h3⟩
                refine ⟨K2 + K3 + 1, fun k hk => ?_⟩
                obtain ⟨m, rfl⟩ : ∃ m, k = m + 1 := ⟨k - 1, by omega⟩
                have h2 := h2 m (by omega)
                have h3 := h3 m (by omega)
                dsimp only at h2 h3 ⊢
                simp only [impl_Tree_below.l0]
                rw [if_pos (by omega), if_pos (by omega), if_pos (by omega), if_pos ck, ck, wrap64_id (by omega) (by omega), show (d : Int) + 1 = ((d + 1 : Nat) : Int) by omega, h2]
                simp only [Option.bind_some, if_true]
                rw [wrap64_id (by omega) (by omega)]
                exact h3
              rcases rest with ⟨z, z1, z2, z3, z4⟩ | ⟨z3, x, z4⟩
              · exact .inl ⟨z, z1, z2, s1 _ z3, s2 _ z4⟩
              · exact .inr ⟨s1 _ z3, x, s2 _ z4⟩
            · right
              refine ⟨⟨K1 + 2, fun k hk => ?_⟩, 0, ⟨K2 + 1, fun k hk => ?_⟩⟩
              · obtain ⟨m, rfl⟩ : ∃ m, k = m + 1 + 1 := ⟨k - 2, by omega⟩
                have h1 := h1 m (by omega)
                dsimp only at h1 ⊢
                simp only [spec_l2Walk.l0, spec_l2Walk.j2]
                rw [if_pos (by omega), if_pos (by omega), if_pos ck, hdec, if_neg (by decide), wrap64_id (by omega) (by omega), show (d : Int) + 1 = ((d + 1 : Nat) : Int) by omega, h1]
                rfl
              · obtain ⟨m, rfl⟩ : ∃ m, k = m + 1 := ⟨k - 1, by omega⟩
                have h2 := h2 m (by omega)
                dsimp only at h2 ⊢
                simp only [impl_Tree_below.l0]
                rw [if_pos (by omega), if_pos (by omega), if_pos (by omega), if_pos ck, ck, wrap64_id (by omega) (by omega), show (d : Int) + 1 = ((d + 1 : Nat) : Int) by omega, h2]
                rfl
          · right
            have hdec : decide ((next : Int) ≥ (t.length : Int)) = true := decide_eq_true (by omega)
            refine ⟨⟨2, fun k hk => ?_⟩, 0, ⟨3, fun k hk => ?_⟩⟩
            · obtain ⟨m, rfl⟩ : ∃ m, k = m + 1 + 1 := ⟨k - 2, by omega⟩
              simp only [spec_l2Walk.l0, spec_l2Walk.j2]
              rw [if_pos (by omega), if_pos (by omega), if_pos ck, hdec]; first | rw [if_pos rfl] | rw [if_pos trivial]
            · obtain ⟨m, rfl⟩ : ∃ m, k = m + 1 + 1 + 1 := ⟨k - 3, by omega⟩
              simp only [impl_Tree_below.l0, impl_Tree_below.f, impl_Tree_below.j0]
              rw [if_pos (by omega), if_pos (by omega), if_pos (by omega), if_pos ck, ck, if_pos (by omega)]; first | rw [if_pos rfl] | rw [if_pos trivial]
              rfl
        · right
          refine ⟨⟨2, fun k hk => ?_⟩, 0, ⟨1, fun k hk => ?_⟩⟩
          · obtain ⟨m, rfl⟩ : ∃ m, k = m + 1 + 1 := ⟨k - 2, by omega⟩
            simp only [spec_l2Walk.l0, spec_l2Walk.j2]
            rw [if_pos (by omega), if_pos (by omega), if_neg ck]; first | rw [if_pos rfl] | rw [if_pos trivial]
          · obtain ⟨m, rfl⟩ : ∃ m, k = m + 1 := ⟨k - 1, by omega⟩
            simp only [impl_Tree_below.l0]
            rw [if_pos (by omega), if_pos (by omega), if_pos (by omega), if_neg ck, if_neg ck]
    have hd100 : ¬ (d : Int) > 100 := by omega
    have hdd : decide ((d : Int) > 100) = false := decide_eq_false hd100
    by_cases ct : text.toList = []
    · have l := loop kids.length 0 (by omega) (by omega) (at_ + 1) (by omega) (by omega)
      have s1 : ∀ z, Ev (fun k => spec_l2Walk.l0 k (d : Int) ((at_ + 1 : Nat) : Int) ((0 : Nat) : Int) t text kids) z → Ev (fun k => spec_l2Walk.f k t (at_ : Int) (d : Int)) z := by
        rintro z ⟨K, h⟩
        refine ⟨K + 2, fun k hk => ?_⟩
        obtain ⟨m, rfl⟩ : ∃ m, k = m + 1 + 1 := ⟨k - 2, by omega⟩
        have h := h m (by omega)
        dsimp only at h ⊢
        simp only [spec_l2Walk.f, spec_l2Walk.j0]
        rw [← htext, ← hkids, if_pos (by omega), if_pos (by omega), if_neg hd100, if_pos ct, if_neg (by decide), wrap64_id (by omega) (by omega)]
        exact h
      have s2 : ∀ z, Ev (fun k => impl_Tree_below.l0 k (d : Int) ((at_ + 1 : Nat) : Int) kids (kids.length : Int) ((0 : Nat) : Int) t) z → Ev (fun k => impl_Tree_below.f k t (at_ : Int) (d : Int)) z := by
        rintro z ⟨K, h⟩
        refine ⟨K + 2, fun k hk => ?_⟩
        obtain ⟨m, rfl⟩ : ∃ m, k = m + 1 + 1 := ⟨k - 2, by omega⟩
        have h := h m (by omega)
        dsimp only at h ⊢
        simp only [impl_Tree_below.f, impl_Tree_below.j0]
        rw [← htext, ← hkids, if_neg (by omega), hdd, if_neg (by decide), if_pos (by omega), if_pos (by omega), if_pos ct, wrap64_id (by omega) (by omega)]
        exact h
      rcases l with ⟨z, z1, z2, z3, z4⟩ | ⟨z3, x, z4⟩
      · exact .inl ⟨z, z1, z2, s1 _ z3, s2 _ z4⟩
      · exact .inr ⟨s1 _ z3, x, s2 _ z4⟩
    · obtain ⟨b, ⟨K1, h1⟩, ⟨K2, h2⟩⟩ := atoms_agree text (by omega)
      by_cases ck : kids.length = 0
      · have hnk : decide ((kids.length : Int) > 0) = false := decide_eq_false (by omega)
        cases b with
        | true =>
          left
          refine ⟨((at_ + 1 : Nat) : Int), by omega, by omega, ⟨K1 + 3, fun k hk => ?_⟩, ⟨K2 + 2, fun k hk => ?_⟩⟩
          · obtain ⟨m, rfl⟩ : ∃ m, k = m + 1 + 1 + 1 := ⟨k - 3, by omega⟩
            have h1 := h1 (m + 1 + 1) (by omega)
            dsimp only at h1 ⊢
            simp only [spec_l2Walk.f, spec_l2Walk.j0, spec_l2Walk.l0]
            rw [← htext, ← hkids, if_pos (by omega), if_pos (by omega), if_neg hd100, if_neg ct, h1]
            simp only [Option.bind_some, if_true]
            rw [hnk, if_neg (by decide), if_neg (by omega), wrap64_id (by omega) (by omega)]
            rfl
          · obtain ⟨m, rfl⟩ : ∃ m, k = m + 1 + 1 := ⟨k - 2, by omega⟩
            have h2 := h2 m (by omega)
            dsimp only at h2 ⊢
            simp only [impl_Tree_below.f, impl_Tree_below.j0]
            rw [← htext, ← hkids, if_neg (by omega), hdd, if_neg (by decide), if_pos (by omega), if_pos (by omega), if_neg ct, if_pos (by omega), h2]
            simp only [Option.bind_some]
            rw [wrap64_id (by omega) (by omega)]
            rfl
        | false =>
          right
          refine ⟨⟨K1 + 2, fun k hk => ?_⟩, ((at_ + 1 : Nat) : Int), ⟨K2 + 2, fun k hk => ?_⟩⟩
          · obtain ⟨m, rfl⟩ : ∃ m, k = m + 1 + 1 := ⟨k - 2, by omega⟩
            have h1 := h1 (m + 1) (by omega)
            dsimp only at h1 ⊢
            simp only [spec_l2Walk.f, spec_l2Walk.j0]
            rw [← htext, ← hkids, if_pos (by omega), if_pos (by omega), if_neg hd100, if_neg ct, h1]
            rfl
          · obtain ⟨m, rfl⟩ : ∃ m, k = m + 1 + 1 := ⟨k - 2, by omega⟩
            have h2 := h2 m (by omega)
            dsimp only at h2 ⊢
            simp only [impl_Tree_below.f, impl_Tree_below.j0]
            rw [← htext, ← hkids, if_neg (by omega), hdd, if_neg (by decide), if_pos (by omega), if_pos (by omega), if_neg ct, if_pos (by omega), h2]
            simp only [Option.bind_some]
            rw [wrap64_id (by omega) (by omega)]
            rfl
      · have hnk : decide ((kids.length : Int) > 0) = true := decide_eq_true (by omega)
        right
        refine ⟨⟨K1 + 2, fun k hk => ?_⟩, ((at_ + 1 : Nat) : Int), ⟨2, fun k hk => ?_⟩⟩
        · obtain ⟨m, rfl⟩ : ∃ m, k = m + 1 + 1 := ⟨k - 2, by omega⟩
          have h1 := h1 (m + 1) (by omega)
          dsimp only at h1 ⊢
          simp only [spec_l2Walk.f, spec_l2Walk.j0]
          rw [← htext, ← hkids, if_pos (by omega), if_pos (by omega), if_neg hd100, if_neg ct, h1]
          simp only [Option.bind_some, hnk]
          cases b <;> rfl
        · obtain ⟨m, rfl⟩ : ∃ m, k = m + 1 + 1 := ⟨k - 2, by omega⟩
          dsimp only
          simp only [impl_Tree_below.f, impl_Tree_below.j0]
          rw [← htext, ← hkids, if_neg (by omega), hdd, if_neg (by decide), if_pos (by omega), if_pos (by omega), if_neg ct, if_neg (by omega), wrap64_id (by omega) (by omega)]
          rfl

/-! treeOk -/
theorem treeOk_agree (t : List S115) (hl : t.length ≤ 1048576) (hx : ∀ x ∈ t, x.f0.size ≤ 1048576 ∧ x.f1.length ≤ 1048576) : ∃ b, Ev (fun k => spec_TreeOk.f k t) b ∧ Ev (fun k => impl_TreeOk.f k t) b := by
  by_cases c1 : (t.length : Int) < 1
  · exact ⟨false, Ev.congr (fun k => by unfold spec_TreeOk.f; rw [if_pos c1]) (Ev.now _), Ev.congr (fun k => by unfold impl_TreeOk.f; rw [if_pos c1]) (Ev.now _)⟩
  · by_cases c2 : (t.length : Int) > 2000
    · exact ⟨false, Ev.congr (fun k => by unfold spec_TreeOk.f; rw [if_neg c1, if_pos c2]) (Ev.now _), Ev.congr (fun k => by unfold impl_TreeOk.f; rw [if_neg c1, if_pos c2]) (Ev.now _)⟩
    · rcases walks_agree t hl hx 101 0 0 rfl (by omega) with ⟨r, _, _, ⟨K1, h1⟩, ⟨K2, h2⟩⟩ | ⟨⟨K1, h1⟩, x, ⟨K2, h2⟩⟩
      · refine ⟨r == (t.length : Int), ⟨K1, fun k hk => ?_⟩, ⟨K2, fun k hk => ?_⟩⟩
        · have h1 : spec_l2Walk.f k t 0 0 = some r := h1 k hk
          dsimp only
          unfold spec_TreeOk.f
          rw [if_neg c1, if_neg c2, h1]; rfl
        · have h2 : impl_Tree_below.f k t 0 0 = some (r, true) := h2 k hk
          dsimp only
          unfold impl_TreeOk.f
          rw [if_neg c1, if_neg c2, h2]; rfl
      · refine ⟨false, ⟨K1, fun k hk => ?_⟩, ⟨K2, fun k hk => ?_⟩⟩
        · have h1 : spec_l2Walk.f k t 0 0 = some (-1) := h1 k hk
          dsimp only
          unfold spec_TreeOk.f
          rw [if_neg c1, if_neg c2, h1]
          simp only [Option.bind_some]
          congr 1
        · have h2 : impl_Tree_below.f k t 0 0 = some (x, false) := h2 k hk
          dsimp only
          unfold impl_TreeOk.f
          rw [if_neg c1, if_neg c2, h2]; rfl
-- SAYS: The program's TreeOk answers as the reference's TreeOk does, for every tree.
theorem FnExactTreeOk (l0_0 : List S140) (q0 : ∀ x ∈ l0_0, x.f0.size ≤ maxLen ∧ x.f1.length ≤ 9223372036854775807 ∧ ∀ y ∈ x.f1, (Lit.int .i64 y).wf = true) (hl : l0_0.length ≤ 9223372036854775807) : ∃ k, laws_FnExactTreeOk.f k l0_0 = some true := by
  have hx : ∀ x ∈ l0_0, x.f0.size ≤ 9223372036854775807 ∧ x.f1.length ≤ 9223372036854775807 := fun x h => ⟨by have := (q0 x h).1; unfold maxLen at this; omega, (q0 x h).2.1⟩
  obtain ⟨r, ⟨K0, h0⟩, hb⟩ := szTree_out l0_0 1048576 hl hx (by decide) (by decide)
  rcases hb with hneg | ⟨b0, b1, b2, b3⟩
  · exact ⟨K0, by simp (disch := omega) only [laws_FnExactTreeOk.f, h0, Option.bind_some, if_pos]⟩
  · have hl2 : l0_0.length ≤ 1048576 := by omega
    have hx2 : ∀ x ∈ l0_0, x.f1.length ≤ 1048576 := fun x h => by have := (b3 x h).2; omega
    have hxi : ∀ x ∈ l0_0.map cvNode, x.f0.size ≤ 1048576 ∧ x.f1.length ≤ 1048576 := fun x h => by
      obtain ⟨y, hy, rfl⟩ := List.mem_map.1 h
      have := b3 y hy
      exact ⟨by show y.f0.size ≤ _; omega, by show y.f1.length ≤ _; omega⟩
    obtain ⟨K1, h1⟩ := toTree_ev l0_0 hl2 hx2
    obtain ⟨b, ⟨K2, h2⟩, ⟨K3, h3⟩⟩ := treeOk_agree (l0_0.map cvNode) (by simpa using hl2) hxi
    obtain ⟨K4, h4⟩ := eqTree_ev (l0_0.map cvNode) (by simpa using hl2) (fun x h => (hxi x h).2)
    refine ⟨K0 + K1 + K2 + K3 + K4, ?_⟩
    simp (disch := omega) only [laws_FnExactTreeOk.f, h0, h1, h2, h3, h4, Option.bind_some, bne_self_eq_false, Bool.false_eq_true, if_true, if_false, if_neg]

end Go.Proofs.Ytipoepnmklaahaa.Pure
