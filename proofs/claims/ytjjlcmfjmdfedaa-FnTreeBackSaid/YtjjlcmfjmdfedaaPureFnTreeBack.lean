/- For all codes: a drawn tree's text is read back as the tree; what a drawn text is read as is right, and is written as what is read as the same. -/
import Derived.Test.YtjjlcmfjmdfedaaPFnTreeBackx11
import Derived.Test.YtjjlcmfjmdfedaaBits
import Derived.Test.YtjjlcmfjmdfedaaLoops
namespace Go.Proofs.Ytjjlcmfjmdfedaa.Pure
open Go Go.RowKit Go.Proofs.Ytjjlcmfjmdfedaa.PFnTreeBack Go.Proofs.YtjjlcmfjmdfedaaW.PrintWords Go.Proofs.YtjjlcmfjmdfedaaW.PrintLast Go.Proofs.YtjjlcmfjmdfedaaW.PrintMore Go.Proofs.Ytjjlcmfjmdfedaa.BitsLib Go.Proofs.Ytjjlcmfjmdfedaa.Loops
set_option linter.unusedVariables false
set_option linter.unusedSimpArgs false
set_option maxRecDepth 4000

/-! wrap_next -/
theorem wrap_next (i : Nat) (h : i < 4611686018427387904) : wrap64 ((i : Int) + 1) = ((i + 1 : Nat) : Int) := by
  rw [wrap64_id (by omega) (by omega)]; rfl

/-! atoms -/
theorem atoms_agree (s : ByteArray) (hs : s.size ≤ 9223372036854775807) : ∃ b, Ev (fun k => spec_l2Atom.f k s) b ∧ Ev (fun k => impl_atomOk.f k s) b := by
  have main : ∀ d i, s.size - i = d → i ≤ s.size → ∃ b, Ev (fun k => spec_l2Atom.l0 k s (i : Int)) b ∧ Ev (fun k => impl_atomOk.l0 k s (i : Int)) b := by
    intro d
    induction d with
    | zero =>
      intro i hd hi
      refine ⟨decide ((s.size : Int) > 0), Ev.step (f := fun _ => some (decide ((s.size : Int) > 0))) (fun k => ?_) (Ev.now _), Ev.step (f := fun _ => some (decide ((s.size : Int) > 0))) (fun k => ?_) (Ev.now _)⟩
      · simp only [spec_l2Atom.l0]; rw [if_neg (by omega)]
      · simp only [impl_atomOk.l0]; rw [if_neg (by omega)]
        congr 1
        by_cases c : s.size = 0
        · have : s.toList = [] := (toList_nil s).2 c
          rw [this]; simp [c]
        · have : s.toList ≠ [] := fun h => c ((toList_nil s).1 h)
          rw [decide_eq_true (by omega)]; simpa using this
    | succ d ih =>
      intro i hd hi
      obtain ⟨b, h1, h2⟩ := ih (i + 1) (by omega) (by omega)
      have hno : ∀ v, impl_atomByte.f (bt s (i : Int)) = some v → v = false → Ev (fun k => impl_atomOk.l0 k s (i : Int)) false := fun v hv hf => Ev.step (f := fun _ => some false) (fun k => by
        simp only [impl_atomOk.l0]
        rw [if_pos (by omega), if_pos (by omega), hv]
        simp only [Option.bind_some]
        rw [hf]; rfl) (Ev.now _)
      have hyes : impl_atomByte.f (bt s (i : Int)) = some true → Ev (fun k => impl_atomOk.l0 k s (i : Int)) b := fun hv => Ev.step (fun k => by
        simp only [impl_atomOk.l0]
        rw [if_pos (by omega), if_pos (by omega), hv]
        simp only [Option.bind_some, if_true]
        rw [wrap64_id (by omega) (by omega)]; rfl) h2
      by_cases c1 : bt s (i : Int) < 33
      · exact ⟨false, Ev.step (f := fun _ => some false) (fun k => by simp only [spec_l2Atom.l0]; rw [if_pos (by omega), if_pos (by omega), if_pos c1]) (Ev.now _), hno false (by unfold impl_atomByte.f; rw [if_neg (by omega)]) rfl⟩
      · by_cases c2 : bt s (i : Int) > 126
        · exact ⟨false, Ev.step (f := fun _ => some false) (fun k => by simp only [spec_l2Atom.l0]; rw [if_pos (by omega), if_pos (by omega), if_neg c1, if_pos c2]) (Ev.now _), hno false (by unfold impl_atomByte.f; rw [if_pos (by omega), if_neg (by omega)]) rfl⟩
        · by_cases c3 : bt s (i : Int) = 40
          · exact ⟨false, Ev.step (f := fun _ => some false) (fun k => by simp only [spec_l2Atom.l0]; rw [if_pos (by omega), if_pos (by omega), if_neg c1, if_neg c2, if_pos c3]) (Ev.now _), hno false (by unfold impl_atomByte.f; rw [if_pos (by omega), if_pos (by omega), if_pos c3]) rfl⟩
          · by_cases c4 : bt s (i : Int) = 41
            · exact ⟨false, Ev.step (f := fun _ => some false) (fun k => by simp only [spec_l2Atom.l0]; rw [if_pos (by omega), if_pos (by omega), if_neg c1, if_neg c2, if_neg c3, if_pos c4]) (Ev.now _), hno false (by unfold impl_atomByte.f; rw [if_pos (by omega), if_pos (by omega), if_neg c3, if_pos c4]) rfl⟩
            · by_cases c5 : bt s (i : Int) = 59
              · exact ⟨false, Ev.step (f := fun _ => some false) (fun k => by simp only [spec_l2Atom.l0]; rw [if_pos (by omega), if_pos (by omega), if_neg c1, if_neg c2, if_neg c3, if_neg c4, if_pos c5]) (Ev.now _), hno false (by unfold impl_atomByte.f; rw [if_pos (by omega), if_pos (by omega), if_neg c3, if_neg c4, c5]; rfl) rfl⟩
              · exact ⟨b, Ev.step (fun k => by simp only [spec_l2Atom.l0]; rw [if_pos (by omega), if_pos (by omega), if_neg c1, if_neg c2, if_neg c3, if_neg c4, if_neg c5, wrap64_id (by omega) (by omega)]; rfl) h1, hyes (by unfold impl_atomByte.f; rw [if_pos (by omega), if_pos (by omega), if_neg c3, if_neg c4]; simpa using c5)⟩
  obtain ⟨b, h1, h2⟩ := main s.size 0 (by omega) (by omega)
  exact ⟨b, Ev.congr (fun k => rfl) h1, Ev.congr (fun k => rfl) h2⟩

/-! walks -/
/-- Both walks through a tree tell the same: a place, or that it isn't right. -/
def WalkAgree (t : List S66) (f : Nat → Option Int) (g : Nat → Option (Int × Bool)) (at_ : Int) : Prop :=
  (∃ r, at_ < r ∧ r ≤ t.length ∧ Ev f r ∧ Ev g (r, true)) ∨ (Ev f (-1) ∧ ∃ x, Ev g (x, false))
theorem walks_agree (t : List S66) (hl : t.length ≤ 1048576) (hx : ∀ x ∈ t, x.f0.size ≤ 1048576 ∧ x.f1.length ≤ 1048576) :
    ∀ D : Nat, ∀ at_ d : Nat, d + D = 101 → at_ < t.length → WalkAgree t (fun k => spec_l2Walk.f k t (at_ : Int) (d : Int)) (fun k => impl_Tree_below.f k t (at_ : Int) (d : Int)) (at_ : Int) := by
  intro D
  induction D with
  | zero =>
    intro at_ d hd hat
    right
    refine ⟨⟨2, fun k hk => ?_⟩, 0, ⟨2, fun k hk => ?_⟩⟩
    · obtain ⟨m, rfl⟩ : ∃ m, k = m + 1 + 1 := ⟨k - 2, by omega⟩
      simp only [spec_l2Walk.f, spec_l2Walk.j0]
      rw [if_pos (by omega), if_pos (by omega), if_pos (by omega)]; first | rw [if_pos rfl] | rw [if_pos trivial]
    · obtain ⟨m, rfl⟩ : ∃ m, k = m + 1 + 1 := ⟨k - 2, by omega⟩
      simp only [impl_Tree_below.f, impl_Tree_below.j0]
      rw [if_neg (by omega), decide_eq_true (by omega)]; first | rw [if_pos rfl] | rw [if_pos trivial]
  | succ D ih =>
    intro at_ d hd hat
    have hmem : rd_T66 t (at_ : Int) ∈ t := by
      unfold rd_T66
      rw [List.getD_eq_getElem?_getD, Int.toNat_natCast, List.getElem?_eq_getElem hat]; exact List.getElem_mem hat
    have hb := hx _ hmem
    obtain ⟨kids, hkids⟩ : ∃ kids, kids = (rd_T66 t (at_ : Int)).f1 := ⟨_, rfl⟩
    obtain ⟨text, htext⟩ : ∃ text, text = (rd_T66 t (at_ : Int)).f0 := ⟨_, rfl⟩
    rw [← hkids, ← htext] at hb
    have loop : ∀ n i, kids.length - i = n → i ≤ kids.length → ∀ next : Nat, at_ < next → next ≤ t.length →
        WalkAgree t (fun k => spec_l2Walk.l0 k (d : Int) (next : Int) (i : Int) t text kids) (fun k => impl_Tree_below.l0 k (d : Int) (next : Int) kids (kids.length : Int) (i : Int) t) (at_ : Int) := by
      intro n
      induction n with
      | zero =>
        intro i hn hi next g1 g2
        left
        refine ⟨(next : Int), by omega, by omega, Ev.step (f := fun _ => some (next : Int)) (fun k => ?_) (Ev.now _), Ev.step (f := fun _ => some ((next : Int), true)) (fun k => ?_) (Ev.now _)⟩
        · simp only [spec_l2Walk.l0]; rw [if_neg (by omega)]
        · simp only [impl_Tree_below.l0]; rw [if_neg (by omega)]
      | succ n ihn =>
        intro i hn hi next g1 g2
        by_cases ck : rd kids (i : Int) = (next : Int)
        · by_cases cn : next < t.length
          · have hdec : decide ((next : Int) ≥ (t.length : Int)) = false := decide_eq_false (by omega)
            rcases ih next (d + 1) (by omega) cn with ⟨r, r1, r2, ⟨K1, h1⟩, ⟨K2, h2⟩⟩ | ⟨⟨K1, h1⟩, x, ⟨K2, h2⟩⟩
            · obtain ⟨r, rfl⟩ := Int.eq_ofNat_of_zero_le (show 0 ≤ r by omega)
              have rest := ihn (i + 1) (by omega) (by omega) r (by omega) (by omega)
              have s1 : ∀ z, Ev (fun k => spec_l2Walk.l0 k (d : Int) (r : Int) ((i + 1 : Nat) : Int) t text kids) z → Ev (fun k => spec_l2Walk.l0 k (d : Int) (next : Int) (i : Int) t text kids) z := by
                rintro z ⟨K3, h3⟩
                refine ⟨K1 + K3 + 2, fun k hk => ?_⟩
                obtain ⟨m, rfl⟩ : ∃ m, k = m + 1 + 1 := ⟨k - 2, by omega⟩
                have h1 := h1 m (by omega)
                have h3 := h3 m (by omega)
                dsimp only at h1 h3 ⊢
                simp only [spec_l2Walk.l0, spec_l2Walk.j2]
                rw [if_pos (by omega), if_pos (by omega), if_pos ck, hdec, if_neg (by decide), wrap64_id (by omega) (by omega), show (d : Int) + 1 = ((d + 1 : Nat) : Int) by omega, h1]
                simp only [Option.bind_some]
                rw [if_neg (by omega), wrap64_id (by omega) (by omega)]
                exact h3
              have s2 : ∀ z, Ev (fun k => impl_Tree_below.l0 k (d : Int) (r : Int) kids (kids.length : Int) ((i + 1 : Nat) : Int) t) z → Ev (fun k => impl_Tree_below.l0 k (d : Int) (next : Int) kids (kids.length : Int) (i : Int) t) z := by
                rintro z ⟨K3, h3⟩
                refine ⟨K2 + K3 + 1, fun k hk => ?_⟩
                obtain ⟨m, rfl⟩ : ∃ m, k = m + 1 := ⟨k - 1, by omega⟩
                have h2 := h2 m (by omega)
                have h3 := h3 m (by omega)
                dsimp only at h2 h3 ⊢
                simp only [impl_Tree_below.l0]
                rw [if_pos (by omega), if_pos (by omega), if_pos (by omega), if_pos ck, ck, wrap64_id (by omega) (by omega), show (d : Int) + 1 = ((d + 1 : Nat) : Int) by omega, h2]
                simp only [Option.bind_some, if_true]
                rw [wrap64_id (by omega) (by omega)]
                exact h3
              rcases rest with ⟨z, z1, z2, z3, z4⟩ | ⟨z3, x, z4⟩
              · exact .inl ⟨z, z1, z2, s1 _ z3, s2 _ z4⟩
              · exact .inr ⟨s1 _ z3, x, s2 _ z4⟩
            · right
              refine ⟨⟨K1 + 2, fun k hk => ?_⟩, 0, ⟨K2 + 1, fun k hk => ?_⟩⟩
              · obtain ⟨m, rfl⟩ : ∃ m, k = m + 1 + 1 := ⟨k - 2, by omega⟩
                have h1 := h1 m (by omega)
                dsimp only at h1 ⊢
                simp only [spec_l2Walk.l0, spec_l2Walk.j2]
                rw [if_pos (by omega), if_pos (by omega), if_pos ck, hdec, if_neg (by decide), wrap64_id (by omega) (by omega), show (d : Int) + 1 = ((d + 1 : Nat) : Int) by omega, h1]
                rfl
              · obtain ⟨m, rfl⟩ : ∃ m, k = m + 1 := ⟨k - 1, by omega⟩
                have h2 := h2 m (by omega)
                dsimp only at h2 ⊢
                simp only [impl_Tree_below.l0]
                rw [if_pos (by omega), if_pos (by omega), if_pos (by omega), if_pos ck, ck, wrap64_id (by omega) (by omega), show (d : Int) + 1 = ((d + 1 : Nat) : Int) by omega, h2]
                rfl
          · right
            have hdec : decide ((next : Int) ≥ (t.length : Int)) = true := decide_eq_true (by omega)
            refine ⟨⟨2, fun k hk => ?_⟩, 0, ⟨3, fun k hk => ?_⟩⟩
            · obtain ⟨m, rfl⟩ : ∃ m, k = m + 1 + 1 := ⟨k - 2, by omega⟩
              simp only [spec_l2Walk.l0, spec_l2Walk.j2]
              rw [if_pos (by omega), if_pos (by omega), if_pos ck, hdec]; first | rw [if_pos rfl] | rw [if_pos trivial]
            · obtain ⟨m, rfl⟩ : ∃ m, k = m + 1 + 1 + 1 := ⟨k - 3, by omega⟩
              simp only [impl_Tree_below.l0, impl_Tree_below.f, impl_Tree_below.j0]
              rw [if_pos (by omega), if_pos (by omega), if_pos (by omega), if_pos ck, ck, if_pos (by omega)]; first | rw [if_pos rfl] | rw [if_pos trivial]
              rfl
        · right
          refine ⟨⟨2, fun k hk => ?_⟩, 0, ⟨1, fun k hk => ?_⟩⟩
          · obtain ⟨m, rfl⟩ : ∃ m, k = m + 1 + 1 := ⟨k - 2, by omega⟩
            simp only [spec_l2Walk.l0, spec_l2Walk.j2]
            rw [if_pos (by omega), if_pos (by omega), if_neg ck]; first | rw [if_pos rfl] | rw [if_pos trivial]
          · obtain ⟨m, rfl⟩ : ∃ m, k = m + 1 := ⟨k - 1, by omega⟩
            simp only [impl_Tree_below.l0]
            rw [if_pos (by omega), if_pos (by omega), if_pos (by omega), if_neg ck, if_neg ck]
    have hd100 : ¬ (d : Int) > 100 := by omega
    have hdd : decide ((d : Int) > 100) = false := decide_eq_false hd100
    by_cases ct : text.toList = []
    · have l := loop kids.length 0 (by omega) (by omega) (at_ + 1) (by omega) (by omega)
      have s1 : ∀ z, Ev (fun k => spec_l2Walk.l0 k (d : Int) ((at_ + 1 : Nat) : Int) ((0 : Nat) : Int) t text kids) z → Ev (fun k => spec_l2Walk.f k t (at_ : Int) (d : Int)) z := by
        rintro z ⟨K, h⟩
        refine ⟨K + 2, fun k hk => ?_⟩
        obtain ⟨m, rfl⟩ : ∃ m, k = m + 1 + 1 := ⟨k - 2, by omega⟩
        have h := h m (by omega)
        dsimp only at h ⊢
        simp only [spec_l2Walk.f, spec_l2Walk.j0]
        rw [← htext, ← hkids, if_pos (by omega), if_pos (by omega), if_neg hd100, if_pos ct, if_neg (by decide), wrap64_id (by omega) (by omega)]
        exact h
      have s2 : ∀ z, Ev (fun k => impl_Tree_below.l0 k (d : Int) ((at_ + 1 : Nat) : Int) kids (kids.length : Int) ((0 : Nat) : Int) t) z → Ev (fun k => impl_Tree_below.f k t (at_ : Int) (d : Int)) z := by
        rintro z ⟨K, h⟩
        refine ⟨K + 2, fun k hk => ?_⟩
        obtain ⟨m, rfl⟩ : ∃ m, k = m + 1 + 1 := ⟨k - 2, by omega⟩
        have h := h m (by omega)
        dsimp only at h ⊢
        simp only [impl_Tree_below.f, impl_Tree_below.j0]
        rw [← htext, ← hkids, if_neg (by omega), hdd, if_neg (by decide), if_pos (by omega), if_pos (by omega), if_pos ct, wrap64_id (by omega) (by omega)]
        exact h
      rcases l with ⟨z, z1, z2, z3, z4⟩ | ⟨z3, x, z4⟩
      · exact .inl ⟨z, z1, z2, s1 _ z3, s2 _ z4⟩
      · exact .inr ⟨s1 _ z3, x, s2 _ z4⟩
    · obtain ⟨b, ⟨K1, h1⟩, ⟨K2, h2⟩⟩ := atoms_agree text (by omega)
      by_cases ck : kids.length = 0
      · have hnk : decide ((kids.length : Int) > 0) = false := decide_eq_false (by omega)
        cases b with
        | true =>
          left
          refine ⟨((at_ + 1 : Nat) : Int), by omega, by omega, ⟨K1 + 3, fun k hk => ?_⟩, ⟨K2 + 2, fun k hk => ?_⟩⟩
          · obtain ⟨m, rfl⟩ : ∃ m, k = m + 1 + 1 + 1 := ⟨k - 3, by omega⟩
            have h1 := h1 (m + 1 + 1) (by omega)
            dsimp only at h1 ⊢
            simp only [spec_l2Walk.f, spec_l2Walk.j0, spec_l2Walk.l0]
            rw [← htext, ← hkids, if_pos (by omega), if_pos (by omega), if_neg hd100, if_neg ct, h1]
            simp only [Option.bind_some, if_true]
            rw [hnk, if_neg (by decide), if_neg (by omega), wrap64_id (by omega) (by omega)]
            rfl
          · obtain ⟨m, rfl⟩ : ∃ m, k = m + 1 + 1 := ⟨k - 2, by omega⟩
            have h2 := h2 m (by omega)
            dsimp only at h2 ⊢
            simp only [impl_Tree_below.f, impl_Tree_below.j0]
            rw [← htext, ← hkids, if_neg (by omega), hdd, if_neg (by decide), if_pos (by omega), if_pos (by omega), if_neg ct, if_pos (by omega), h2]
            simp only [Option.bind_some]
            rw [wrap64_id (by omega) (by omega)]
            rfl
        | false =>
          right
          refine ⟨⟨K1 + 2, fun k hk => ?_⟩, ((at_ + 1 : Nat) : Int), ⟨K2 + 2, fun k hk => ?_⟩⟩
          · obtain ⟨m, rfl⟩ : ∃ m, k = m + 1 + 1 := ⟨k - 2, by omega⟩
            have h1 := h1 (m + 1) (by omega)
            dsimp only at h1 ⊢
            simp only [spec_l2Walk.f, spec_l2Walk.j0]
            rw [← htext, ← hkids, if_pos (by omega), if_pos (by omega), if_neg hd100, if_neg ct, h1]
            rfl
          · obtain ⟨m, rfl⟩ : ∃ m, k = m + 1 + 1 := ⟨k - 2, by omega⟩
            have h2 := h2 m (by omega)
            dsimp only at h2 ⊢
            simp only [impl_Tree_below.f, impl_Tree_below.j0]
            rw [← htext, ← hkids, if_neg (by omega), hdd, if_neg (by decide), if_pos (by omega), if_pos (by omega), if_neg ct, if_pos (by omega), h2]
            simp only [Option.bind_some]
            rw [wrap64_id (by omega) (by omega)]
            rfl
      · have hnk : decide ((kids.length : Int) > 0) = true := decide_eq_true (by omega)
        right
        refine ⟨⟨K1 + 2, fun k hk => ?_⟩, ((at_ + 1 : Nat) : Int), ⟨2, fun k hk => ?_⟩⟩
        · obtain ⟨m, rfl⟩ : ∃ m, k = m + 1 + 1 := ⟨k - 2, by omega⟩
          have h1 := h1 (m + 1) (by omega)
          dsimp only at h1 ⊢
          simp only [spec_l2Walk.f, spec_l2Walk.j0]
          rw [← htext, ← hkids, if_pos (by omega), if_pos (by omega), if_neg hd100, if_neg ct, h1]
          simp only [Option.bind_some, hnk]
          cases b <;> rfl
        · obtain ⟨m, rfl⟩ : ∃ m, k = m + 1 + 1 := ⟨k - 2, by omega⟩
          dsimp only
          simp only [impl_Tree_below.f, impl_Tree_below.j0]
          rw [← htext, ← hkids, if_neg (by omega), hdd, if_neg (by decide), if_pos (by omega), if_pos (by omega), if_neg ct, if_neg (by omega), wrap64_id (by omega) (by omega)]
          rfl

/-! treeOk -/
theorem treeOk_agree (t : List S66) (hl : t.length ≤ 1048576) (hx : ∀ x ∈ t, x.f0.size ≤ 1048576 ∧ x.f1.length ≤ 1048576) : ∃ b, Ev (fun k => spec_TreeOk.f k t) b ∧ Ev (fun k => impl_TreeOk.f k t) b := by
  by_cases c1 : (t.length : Int) < 1
  · exact ⟨false, Ev.congr (fun k => by unfold spec_TreeOk.f; rw [if_pos c1]) (Ev.now _), Ev.congr (fun k => by unfold impl_TreeOk.f; rw [if_pos c1]) (Ev.now _)⟩
  · by_cases c2 : (t.length : Int) > 2000
    · exact ⟨false, Ev.congr (fun k => by unfold spec_TreeOk.f; rw [if_neg c1, if_pos c2]) (Ev.now _), Ev.congr (fun k => by unfold impl_TreeOk.f; rw [if_neg c1, if_pos c2]) (Ev.now _)⟩
    · rcases walks_agree t hl hx 101 0 0 rfl (by omega) with ⟨r, _, _, ⟨K1, h1⟩, ⟨K2, h2⟩⟩ | ⟨⟨K1, h1⟩, x, ⟨K2, h2⟩⟩
      · refine ⟨r == (t.length : Int), ⟨K1, fun k hk => ?_⟩, ⟨K2, fun k hk => ?_⟩⟩
        · have h1 : spec_l2Walk.f k t 0 0 = some r := h1 k hk
          dsimp only
          unfold spec_TreeOk.f
          rw [if_neg c1, if_neg c2, h1]; rfl
        · have h2 : impl_Tree_below.f k t 0 0 = some (r, true) := h2 k hk
          dsimp only
          unfold impl_TreeOk.f
          rw [if_neg c1, if_neg c2, h2]; rfl
      · refine ⟨false, ⟨K1, fun k hk => ?_⟩, ⟨K2, fun k hk => ?_⟩⟩
        · have h1 : spec_l2Walk.f k t 0 0 = some (-1) := h1 k hk
          dsimp only
          unfold spec_TreeOk.f
          rw [if_neg c1, if_neg c2, h1]
          simp only [Option.bind_some]
          congr 1
        · have h2 : impl_Tree_below.f k t 0 0 = some (x, false) := h2 k hk
          dsimp only
          unfold impl_TreeOk.f
          rw [if_neg c1, if_neg c2, h2]; rfl

/-! draws -/
/-- A code that draws are made of. -/
structure Code (b : List Int) : Prop where
  len : b.length ≤ 1048576
  byte : ∀ i : Nat, i < b.length → 0 ≤ rd b (i : Int) ∧ rd b (i : Int) ≤ 255
def At (b : List Int) (p : Int) : Prop := 0 ≤ p ∧ p ≤ (b.length : Int)
theorem next_ev (b : List Int) (hb : Code b) (p : Int) (hp : At b p) : ∃ v q, spec_l1Rd_next.f b p = some (v, q) ∧ 0 ≤ v ∧ v ≤ 255 ∧ At b q := by
  have hl := hb.len
  obtain ⟨h0, h1⟩ := hp
  obtain ⟨i, rfl⟩ := Int.eq_ofNat_of_zero_le h0
  unfold spec_l1Rd_next.f
  by_cases c : (i : Int) ≥ (b.length : Int)
  · rw [if_pos c]
    exact ⟨0, i, rfl, by omega, by omega, h0, h1⟩
  · rw [if_neg c]
    have e1 : wrap64 ((i : Int) + 1) = (i : Int) + 1 := wrap64_id (by omega) (by omega)
    have e2 : wrap64 ((i : Int) + 1 - 1) = (i : Int) := by rw [wrap64_id (by omega) (by omega)]; omega
    have hby := hb.byte i (by omega)
    have e3 : wrap64 (rd b (i : Int)) = rd b (i : Int) := wrap64_id (by omega) (by omega)
    rw [e1, e2, if_pos (by omega), if_pos (by omega), e3]
    exact ⟨_, _, rfl, hby.1, hby.2, by omega, by omega⟩
theorem below_ev (b : List Int) (hb : Code b) (p : Int) (hp : At b p) (n : Int) (hn : n ≤ 65536) : ∃ v q, spec_l1Rd_below.f b p n = some (v, q) ∧ 0 ≤ v ∧ (v < n ∨ (n ≤ 1 ∧ v = 0)) ∧ At b q := by
  unfold spec_l1Rd_below.f
  by_cases c : n ≤ 1
  · rw [if_pos c]
    exact ⟨0, p, rfl, by omega, .inr ⟨c, rfl⟩, hp⟩
  · rw [if_neg c]
    obtain ⟨m, rfl⟩ := Int.eq_ofNat_of_zero_le (show 0 ≤ n by omega)
    by_cases c2 : ((m : Nat) : Int) ≤ 256
    · rw [if_pos c2]
      obtain ⟨v, q, e, v0, v1, hq⟩ := next_ev b hb p hp
      obtain ⟨u, rfl⟩ := Int.eq_ofNat_of_zero_le v0
      rw [e]
      simp only [Option.bind_some]
      rw [if_neg (by omega)]
      refine ⟨_, _, rfl, ?_, .inl ?_, hq⟩
      · rw [← Int.ofNat_tmod]; exact Int.natCast_nonneg _
      · rw [← Int.ofNat_tmod]; exact Int.ofNat_lt.2 (Nat.mod_lt _ (by omega))
    · rw [if_neg c2]
      obtain ⟨v, q, e, v0, v1, hq⟩ := next_ev b hb p hp
      obtain ⟨v', q', e', v0', v1', hq'⟩ := next_ev b hb q hq
      obtain ⟨u, rfl⟩ := Int.eq_ofNat_of_zero_le v0
      obtain ⟨u', rfl⟩ := Int.eq_ofNat_of_zero_le v0'
      have w1 : wrap64 ((u : Int) * 256) = ((u * 256 : Nat) : Int) := by rw [wrap64_id (by omega) (by omega)]; omega
      have w2 : wrap64 (((u * 256 : Nat) : Int) + (u' : Int)) = ((u * 256 + u' : Nat) : Int) := by rw [wrap64_id (by omega) (by omega)]; omega
      rw [e]
      simp only [Option.bind_some]
      rw [e']
      simp only [Option.bind_some]
      rw [if_neg (by omega), w1, w2]
      refine ⟨_, _, rfl, ?_, .inl ?_, hq'⟩
      · rw [← Int.ofNat_tmod]; exact Int.natCast_nonneg _
      · rw [← Int.ofNat_tmod]; exact Int.ofNat_lt.2 (Nat.mod_lt _ (by omega))
theorem once_ev (b : List Int) (hb : Code b) (p : Int) (hp : At b p) (n : Int) (hn : n ≤ 65536) : ∃ v q, spec_l1Rd_once.f b p n = some (v, q) ∧ At b q := by
  obtain ⟨v, q, e, _, _, hq⟩ := below_ev b hb p hp n hn
  unfold spec_l1Rd_once.f
  rw [e]
  exact ⟨_, _, rfl, hq⟩

/-! codeOf -/
theorem wf_u8 {x : Int} (h : (Lit.int .u8 x).wf = true) : 0 ≤ x ∧ x ≤ 255 := by
  simp [Lit.wf, IntKind.min, IntKind.max, IntKind.signed, IntKind.bits] at h
  omega
theorem code_of (l : List Int) (q : ∀ x ∈ l, (Lit.int .u8 x).wf = true) (hl : l.length ≤ 1048576) : Code l := ⟨hl, fun i hi => by
  have e : rd l (i : Int) = l[i] := by
    unfold rd
    rw [List.getD_eq_getElem?_getD, Int.toNat_natCast, List.getElem?_eq_getElem hi]
    rfl
  rw [e]
  exact wf_u8 (q _ (List.getElem_mem hi))⟩

/-! drawsOff -/
theorem wrapU_w64 (x : Int) : W64 (IntKind.u64.wrap x) := by
  unfold W64
  rw [wrap_u64]
  omega
theorem word_ev (b : List Int) (hb : Code b) (p : Int) (hp : At b p) : ∃ v q, Ev (fun k => spec_l1Rd_word.f k b p) (v, q) ∧ 0 ≤ v ∧ v < 18446744073709551616 ∧ At b q := by
  obtain ⟨s, ⟨h0, h1, h2⟩, hr⟩ := inv_loop 8 (fun i (s : Int × Int) => 0 ≤ s.1 ∧ s.1 < 18446744073709551616 ∧ At b s.2) (fun k s i => spec_l1Rd_word.l0 k s.1 i b s.2)
    (fun i hi s ⟨h0, h1, h2⟩ => by
      obtain ⟨v, q, e, v0, v1, hq⟩ := next_ev b hb s.2 h2
      have hw : W64 (Go.bits .or .u64 (IntKind.u64.wrap (s.1 * 256)) (IntKind.u64.wrap v)) := (or_w64 (wrapU_w64 _) (wrapU_w64 _)).1
      unfold W64 at hw
      refine ⟨(Go.bits .or .u64 (IntKind.u64.wrap (s.1 * 256)) (IntKind.u64.wrap v), q), ⟨by omega, by omega, hq⟩, fun r h => Ev.step (fun k => ?_) h⟩
      simp only [spec_l1Rd_word.l0]
      rw [if_pos (by omega), e]
      simp only [Option.bind_some]
      rw [wrap64_id (by omega) (by omega)])
    (0, p) ⟨Int.le_refl _, show (0 : Int) < 18446744073709551616 by omega, hp⟩
  refine ⟨s.1, s.2, Ev.congr (fun k => rfl) (hr (s.1, s.2) (Ev.step (f := fun _ => some (s.1, s.2)) (fun k => ?_) (Ev.now _))), h0, h1, h2⟩
  simp only [spec_l1Rd_word.l0]
  rw [if_neg (by omega)]
def I64 (v : Int) : Prop := -9223372036854775808 ≤ v ∧ v ≤ 9223372036854775807
theorem I64.wrap (v : Int) : I64 (wrap64 v) := by
  unfold I64 wrap64
  omega
theorem near_ev (b : List Int) (hb : Code b) (p : Int) (hp : At b p) (lo hi : Int) (hlo : -4611686018427387904 ≤ lo ∧ lo ≤ 4611686018427387904) (hhi : I64 hi) :
    ∃ v q, Ev (fun k => spec_l1Rd_near.f k b p lo hi) (v, q) ∧ I64 v ∧ At b q := by
  obtain ⟨v, q, e, v0, v1, hq⟩ := below_ev b hb p hp 8 (by omega)
  have hlo2 : I64 lo := by unfold I64; omega
  by_cases c0 : v = 0
  · exact ⟨lo, q, ⟨0, fun k _ => by unfold spec_l1Rd_near.f; rw [e]; simp only [Option.bind_some]; rw [if_pos c0]⟩, hlo2, hq⟩
  · by_cases c1 : v = 1
    · exact ⟨hi, q, ⟨0, fun k _ => by unfold spec_l1Rd_near.f; rw [e]; simp only [Option.bind_some]; rw [if_neg c0, if_pos c1]⟩, hhi, hq⟩
    · by_cases c2 : hi < lo
      · exact ⟨lo, q, ⟨0, fun k _ => by unfold spec_l1Rd_near.f; rw [e]; simp only [Option.bind_some]; rw [if_neg c0, if_neg c1, if_pos c2]⟩, hlo2, hq⟩
      · obtain ⟨x, q', ⟨K, hx⟩, x0, x1, hq'⟩ := word_ev b hb q hq
        have w3 : IntKind.u64.wrap (wrap64 (wrap64 (hi - lo) + 1)) = hi - lo + 1 := by
          obtain ⟨j0, j1⟩ := hhi
          rw [wrap_u64]
          unfold wrap64
          omega
        refine ⟨wrap64 (lo + wrap64 (Int.tmod (x / 2) (hi - lo + 1))), q', ⟨K, fun k hk => ?_⟩, I64.wrap _, hq'⟩
        have hx := hx k hk
        dsimp only at hx ⊢
        unfold spec_l1Rd_near.f
        rw [e]
        simp only [Option.bind_some]
        rw [if_neg c0, if_neg c1, if_neg c2, hx]
        simp only [Option.bind_some]
        rw [w3, if_neg (by omega)]
theorem off_ev (b : List Int) (hb : Code b) (p : Int) (hp : At b p) (lo hi : Int) (hlo : -4611686018427387904 ≤ lo ∧ lo ≤ 4611686018427387904) (hhi : I64 hi) :
    ∃ v q, Ev (fun k => spec_l1Rd_off.f k b p lo hi) (v, q) ∧ I64 v ∧ At b q := by
  obtain ⟨t, q, e, hq⟩ := once_ev b hb p hp 24 (by omega)
  cases t with
  | true =>
    obtain ⟨v, q', e', v0, v1, hq'⟩ := below_ev b hb q hq 4 (by omega)
    have hv : I64 (rd [wrap64 (lo - 1), wrap64 (hi + 1), (-9223372036854775808), 9223372036854775807] v) := by
      have h4 : v = 0 ∨ v = 1 ∨ v = 2 ∨ v = 3 := by omega
      rcases h4 with rfl | rfl | rfl | rfl
      · exact I64.wrap _
      · exact I64.wrap _
      · show I64 (-9223372036854775808)
        unfold I64
        omega
      · show I64 9223372036854775807
        unfold I64
        omega
    refine ⟨_, q', ⟨0, fun k _ => ?_⟩, hv, hq'⟩
    unfold spec_l1Rd_off.f
    rw [e]
    simp only [Option.bind_some, if_true]
    rw [e']
    simp only [Option.bind_some]
    rw [if_pos v0, if_pos (by simp; omega)]
  | false =>
    obtain ⟨v, q', ⟨K, hv⟩, hi2, hq'⟩ := near_ev b hb q hq lo hi hlo hhi
    refine ⟨v, q', ⟨K, fun k hk => ?_⟩, hi2, hq'⟩
    have hv := hv k hk
    dsimp only at hv ⊢
    unfold spec_l1Rd_off.f
    rw [e]
    simp only [Option.bind_some, Bool.false_eq_true, if_false]
    rw [hv]
    rfl

/-! writeTree0 -/
/-- What is told of a text that is written: all of it, or more than there may be. -/
def Tells (out T out' : List UInt8) : Prop := out' = out ++ T ∨ (20000 < out'.length ∧ out'.length ≤ out.length + T.length)
theorem walk_place (t : List S66) (hl : t.length ≤ 1048576) (hx : ∀ x ∈ t, x.f0.size ≤ 1048576 ∧ x.f1.length ≤ 1048576) (at_ d : Nat) (hd : d ≤ 101) (hat : at_ < t.length) (r : Int) (hr : 0 ≤ r) (hw : Ev (fun k => spec_l2Walk.f k t (at_ : Int) (d : Int)) r) :
    (at_ : Int) < r ∧ r ≤ t.length := by
  rcases walks_agree t hl hx (101 - d) at_ d (by omega) hat with ⟨r1, g1, g2, h1, _⟩ | ⟨h1, _⟩
  · have := Ev.uniq hw h1
    omega
  · have := Ev.uniq hw h1
    omega
set_option maxHeartbeats 4000000 in
theorem text_agree (t : List S66) (hl : t.length ≤ 1048576) (hx : ∀ x ∈ t, x.f0.size ≤ 1048576 ∧ x.f1.length ≤ 1048576) :
    ∀ D : Nat, D ≤ 101 → ∀ at_ d : Nat, d + D = 101 → at_ < t.length → ∀ r : Int, 0 ≤ r → Ev (fun k => spec_l2Walk.f k t (at_ : Int) (d : Int)) r →
      ∃ T : List UInt8, (T.length : Int) ≤ (r - at_) * 1048580 - 1 ∧ ∀ out : List UInt8, out.length + T.length ≤ 100000000000000 →
        Ev (fun k => impl_Tree_write.f k t (at_ : Int) out) (out ++ T) ∧ ∃ out', Ev (fun k => spec_l2Text.f k t (at_ : Int) (ints out)) (ints out') ∧ Tells out T out' := by
  intro D
  induction D with
  | zero =>
    intro _ at_ d hd hat r hr hw
    exfalso
    have h : Ev (fun k => spec_l2Walk.f k t (at_ : Int) (d : Int)) (-1) := ⟨2, fun k hk => by
      obtain ⟨m, rfl⟩ : ∃ m, k = m + 1 + 1 := ⟨k - 2, by omega⟩
      simp (disch := omega) only [spec_l2Walk.f, spec_l2Walk.j0, ↓if_pos, ↓reduceIte]⟩
    have := Ev.uniq hw h
    omega
  | succ D ih =>
    intro hD at_ d hd hat r hr hw
    have hplace := walk_place t hl hx at_ d (by omega) hat r hr hw
    have hmem : rd_T66 t (at_ : Int) ∈ t := by
      unfold rd_T66
      rw [List.getD_eq_getElem?_getD, Int.toNat_natCast, List.getElem?_eq_getElem hat]; exact List.getElem_mem hat
    have hb := hx _ hmem
    obtain ⟨kids, hkids⟩ : ∃ kids, kids = (rd_T66 t (at_ : Int)).f1 := ⟨_, rfl⟩
    obtain ⟨text, htext⟩ : ∃ text, text = (rd_T66 t (at_ : Int)).f0 := ⟨_, rfl⟩
    rw [← hkids, ← htext] at hb
    have loop : ∀ n i, kids.length - i = n → i ≤ kids.length → ∀ next : Nat, ∀ r : Int, 0 ≤ r → Ev (fun k => spec_l2Walk.l0 k (d : Int) (next : Int) (i : Int) t text kids) r →
        ∃ T : List UInt8, (next : Int) ≤ r ∧ (T.length : Int) ≤ (r - next) * 1048580 + 1 ∧ ∀ out : List UInt8, out.length + T.length ≤ 100000000000000 →
          Ev (fun k => impl_Tree_write.l0 k t kids (i : Int) out) (out ++ T) ∧ ∃ out', Ev (fun k => spec_l2Text.l0 k (ints out) (i : Int) t text kids) (ints out') ∧ Tells out T out' := by
      intro n
      induction n with
      | zero =>
        intro i hn hi next r hr hw
        have h0 : Ev (fun k => spec_l2Walk.l0 k (d : Int) (next : Int) (i : Int) t text kids) (next : Int) := Ev.step (f := fun _ => some (next : Int)) (fun k => by simp (disch := omega) only [spec_l2Walk.l0, ↓if_neg]) (Ev.now _)
        have hrn := Ev.uniq hw h0
        refine ⟨[41], by omega, by simp only [List.length_singleton]; omega, fun out ho => ⟨Ev.step (f := fun _ => some (out ++ [41])) (fun k => ?_) (Ev.now _), out ++ [41], Ev.step (f := fun _ => some (ints (out ++ [41]))) (fun k => ?_) (Ev.now _), .inl rfl⟩⟩
        · simp only [List.length_singleton] at ho
          simp (disch := omega) only [impl_Tree_write.l0, ↓if_neg, ↓if_pos]
        · simp only [List.length_singleton] at ho
          have hlen := ints_len out
          simp (disch := omega) only [spec_l2Text.l0, ↓if_neg, ↓if_pos]
          rw [ints_snoc]
          rfl
      | succ n ihn =>
        intro i hn hi next r hr hw
        by_cases ck : rd kids (i : Int) = (next : Int)
        · by_cases cn : next < t.length
          · have hdec : decide ((next : Int) ≥ (t.length : Int)) = false := decide_eq_false (by omega)
            rcases walks_agree t hl hx D next (d + 1) (by omega) cn with ⟨r1, g1, g2, ⟨K1, h1⟩, _⟩ | ⟨⟨K1, h1⟩, _⟩
            · obtain ⟨r2, rfl⟩ := Int.eq_ofNat_of_zero_le (show 0 ≤ r1 by omega)
              obtain ⟨T1, a0, a1⟩ := ih (by omega) next (d + 1) (by omega) cn (r2 : Int) (by omega) ⟨K1, h1⟩
              obtain ⟨K, hw⟩ := hw
              have hrest : Ev (fun k => spec_l2Walk.l0 k (d : Int) (r2 : Int) ((i + 1 : Nat) : Int) t text kids) r := ⟨K + K1, fun m hm => by
                have h := hw (m + 1 + 1) (by omega)
                have h1 : spec_l2Walk.f m t (next : Int) ((d : Int) + 1) = some (r2 : Int) := h1 m (by omega)
                dsimp only at h ⊢
                simp (disch := omega) only [spec_l2Walk.l0, spec_l2Walk.j2, ↓if_pos, ↓if_neg, ck, hdec, ↓reduceIte, Bool.false_eq_true, wrap64_id, h1, Option.bind_some] at h
                exact h⟩
              obtain ⟨T2, b0, b1, b2⟩ := ihn (i + 1) (by omega) (by omega) r2 r hr hrest
              have hwi : wrap64 ((i : Int) + 1) = ((i + 1 : Nat) : Int) := wrap_next i (by omega)
              have f1 : (i : Int) < (kids.length : Int) := Int.ofNat_lt.2 (Nat.lt_of_sub_eq_succ hn)
              have f2 : (0 : Int) ≤ (i : Int) := Int.natCast_nonneg i
              have two : ∀ (out0 : List UInt8), out0.length + T1.length + T2.length ≤ 100000000000000 →
                  Ev (fun k => (impl_Tree_write.f k t (next : Int) out0).bind fun o => impl_Tree_write.l0 k t kids ((i + 1 : Nat) : Int) o) (out0 ++ (T1 ++ T2)) ∧ ∃ out', Ev (fun k => (spec_l2Text.f k t (next : Int) (ints out0)).bind fun o => spec_l2Text.l0 k o ((i + 1 : Nat) : Int) t text kids) (ints out') ∧ Tells out0 (T1 ++ T2) out' := by
                intro out0 h0
                obtain ⟨⟨K3, h3⟩, o1, ⟨K4, h4⟩, h5⟩ := a1 out0 (by omega)
                have hl1 : o1.length ≤ out0.length + T1.length := by
                  rcases h5 with h5 | h5
                  · rw [h5, List.length_append]; exact Nat.le_refl _
                  · exact h5.2
                obtain ⟨⟨K6, h6⟩, _⟩ := b2 (out0 ++ T1) (by rw [List.length_append]; omega)
                obtain ⟨_, o2, ⟨K8, h8⟩, h9⟩ := b2 o1 (by omega)
                refine ⟨⟨K3 + K6, fun k hk => ?_⟩, o2, ⟨K4 + K8, fun k hk => ?_⟩, ?_⟩
                · have h3 : impl_Tree_write.f k t (next : Int) out0 = some (out0 ++ T1) := h3 k (by omega)
                  dsimp only
                  rw [h3, Option.bind_some, ← List.append_assoc]
                  exact h6 k (by omega)
                · have h4 : spec_l2Text.f k t (next : Int) (ints out0) = some (ints o1) := h4 k (by omega)
                  dsimp only
                  rw [h4, Option.bind_some]
                  exact h8 k (by omega)
                · unfold Tells at h5 h9 ⊢
                  rw [List.length_append]
                  rcases h5 with h5 | h5
                  · rcases h9 with h9 | h9
                    · exact .inl (by rw [h9, h5, List.append_assoc])
                    · exact .inr ⟨h9.1, by omega⟩
                  · rcases h9 with h9 | h9
                    · refine .inr ?_
                      rw [h9, List.length_append]
                      omega
                    · exact .inr ⟨h9.1, by omega⟩
              by_cases ip : i = 0
              · subst ip
                refine ⟨T1 ++ T2, by omega, by rw [List.length_append]; omega, fun out ho => ?_⟩
                rw [List.length_append] at ho
                obtain ⟨h3, o2, h4, h5⟩ := two out (by omega)
                refine ⟨Ev.step (fun k => ?_) h3, o2, Ev.step (fun k => ?_) h4, h5⟩
                · simp only [impl_Tree_write.l0]
                  rw [if_pos f1, if_pos f2, if_neg (show ¬ ((0 : Nat) : Int) > 0 by decide), ck, hwi]
                · simp only [spec_l2Text.l0]
                  rw [if_pos f1, if_neg (show ¬ ((0 : Nat) : Int) > 0 by decide), if_pos f2, ck, hwi]
              · refine ⟨[32] ++ (T1 ++ T2), by omega, by rw [List.length_append, List.length_append, List.length_singleton]; omega, fun out ho => ?_⟩
                rw [List.length_append, List.length_append, List.length_singleton] at ho
                obtain ⟨h3, o2, h4, h5⟩ := two (out ++ [32]) (by rw [List.length_append, List.length_singleton]; omega)
                rw [List.append_assoc] at h3
                have hlen := ints_len out
                have hsn : ints (out ++ [32]) = ints out ++ [32] := ints_snoc out 32
                have f3 : (i : Int) > 0 := Int.natCast_pos.2 (Nat.pos_of_ne_zero ip)
                have f4 : out.length < 140737488355328 := Nat.lt_of_le_of_lt (Nat.le_trans (Nat.le_add_right _ _) ho) (by decide)
                have f5 : (ints out).length < 140737488355328 := by rw [hlen]; exact f4
                refine ⟨Ev.step (fun k => ?_) h3, o2, Ev.step (fun k => ?_) h4, ?_⟩
                · simp only [impl_Tree_write.l0]
                  rw [if_pos f1, if_pos f2, if_pos f3, if_pos f4, ck, hwi]
                · simp only [spec_l2Text.l0]
                  rw [if_pos f1, if_pos f3, if_pos f5, if_pos f2, ck, hwi, ← hsn]
                · unfold Tells at h5 ⊢
                  rw [List.append_assoc] at h5
                  rcases h5 with h5 | h5
                  · exact .inl h5
                  · refine .inr ⟨h5.1, ?_⟩
                    have := h5.2
                    simp only [List.length_append, List.length_singleton] at this ⊢
                    omega
            · exfalso
              have h : Ev (fun k => spec_l2Walk.l0 k (d : Int) (next : Int) (i : Int) t text kids) (-1) := ⟨K1 + 2, fun k hk => by
                obtain ⟨m, rfl⟩ : ∃ m, k = m + 1 + 1 := ⟨k - 2, by omega⟩
                have h1 : spec_l2Walk.f m t (next : Int) ((d : Int) + 1) = some (-1) := h1 m (by omega)
                simp (disch := omega) only [spec_l2Walk.l0, spec_l2Walk.j2, ↓if_pos, ↓if_neg, ck, hdec, ↓reduceIte, Bool.false_eq_true, wrap64_id, h1, Option.bind_some]⟩
              have := Ev.uniq hw h
              omega
          · exfalso
            have hdec : decide ((next : Int) ≥ (t.length : Int)) = true := decide_eq_true (by omega)
            have h : Ev (fun k => spec_l2Walk.l0 k (d : Int) (next : Int) (i : Int) t text kids) (-1) := ⟨2, fun k hk => by
              obtain ⟨m, rfl⟩ : ∃ m, k = m + 1 + 1 := ⟨k - 2, by omega⟩
              simp (disch := omega) only [spec_l2Walk.l0, spec_l2Walk.j2, ↓if_pos, ↓if_neg, ck, hdec, ↓reduceIte]⟩
            have := Ev.uniq hw h
            omega
        · exfalso
          have h : Ev (fun k => spec_l2Walk.l0 k (d : Int) (next : Int) (i : Int) t text kids) (-1) := ⟨2, fun k hk => by
            obtain ⟨m, rfl⟩ : ∃ m, k = m + 1 + 1 := ⟨k - 2, by omega⟩
            simp (disch := omega) only [spec_l2Walk.l0, spec_l2Walk.j2, ↓if_pos, if_neg ck, ↓reduceIte]⟩
          have := Ev.uniq hw h
          omega
    have big : ∀ (T out : List UInt8), 20000 < out.length → ∃ out', Ev (fun k => spec_l2Text.f k t (at_ : Int) (ints out)) (ints out') ∧ Tells out T out' := fun T out ho => by
      have hlen := ints_len out
      refine ⟨out, ⟨1, fun k hk => ?_⟩, .inr ⟨ho, by omega⟩⟩
      obtain ⟨m, rfl⟩ : ∃ m, k = m + 1 := ⟨k - 1, by omega⟩
      simp (disch := omega) only [spec_l2Text.f, ↓if_pos]
    by_cases ct : text.toList = []
    · obtain ⟨K, hw⟩ := hw
      have h0 : Ev (fun k => spec_l2Walk.l0 k (d : Int) ((at_ + 1 : Nat) : Int) ((0 : Nat) : Int) t text kids) r := ⟨K, fun m hm => by
        have h := hw (m + 1 + 1) (by omega)
        dsimp only at h ⊢
        simp (disch := omega) only [spec_l2Walk.f, spec_l2Walk.j0, ← htext, ← hkids, ↓if_pos, ↓if_neg, ct, ↓reduceIte, Bool.false_eq_true, wrap64_id] at h
        exact h⟩
      obtain ⟨T, b0, b1, b2⟩ := loop kids.length 0 (by omega) (by omega) (at_ + 1) r hr h0
      refine ⟨[40] ++ T, by rw [List.length_append, List.length_singleton]; omega, fun out ho => ?_⟩
      rw [List.length_append, List.length_singleton] at ho
      obtain ⟨⟨K4, h4⟩, o1, ⟨K5, h5⟩, h6⟩ := b2 (out ++ [40]) (by rw [List.length_append, List.length_singleton]; omega)
      rw [List.append_assoc] at h4
      have hlen := ints_len out
      have hsn : ints (out ++ [40]) = ints out ++ [40] := ints_snoc out 40
      refine ⟨⟨K4 + 1, fun k hk => ?_⟩, ?_⟩
      · obtain ⟨m, rfl⟩ : ∃ m, k = m + 1 := ⟨k - 1, by omega⟩
        have h4 := h4 m (by omega)
        simp (disch := omega) only [impl_Tree_write.f, ← htext, ← hkids, ↓if_pos, ct, ↓reduceIte]
        exact h4
      · by_cases cb : 20000 < out.length
        · exact big _ out cb
        · refine ⟨o1, ⟨K5 + 1, fun k hk => ?_⟩, ?_⟩
          · obtain ⟨m, rfl⟩ : ∃ m, k = m + 1 := ⟨k - 1, by omega⟩
            have h5 := h5 m (by omega)
            rw [hsn] at h5
            simp (disch := omega) only [spec_l2Text.f, ← htext, ← hkids, ↓if_pos, ↓if_neg, ct, ↓reduceIte]
            exact h5
          · unfold Tells at h6 ⊢
            rw [List.append_assoc] at h6
            rcases h6 with h6 | h6
            · exact .inl h6
            · refine .inr ⟨h6.1, ?_⟩
              have := h6.2
              simp only [List.length_append, List.length_singleton] at this ⊢
              omega
    · have hsz : text.data.toList.length = text.size := by rw [Array.length_toList]; rfl
      refine ⟨text.data.toList, by rw [hsz]; omega, fun out ho => ?_⟩
      rw [hsz] at ho
      have hlen := ints_len out
      have hit := ints_text out text
      refine ⟨⟨1, fun k hk => ?_⟩, ?_⟩
      · obtain ⟨m, rfl⟩ : ∃ m, k = m + 1 := ⟨k - 1, by omega⟩
        simp (disch := omega) only [impl_Tree_write.f, ← htext, ↓if_pos, if_neg ct]
      · by_cases cb : 20000 < out.length
        · exact big _ out cb
        · refine ⟨out ++ text.data.toList, ⟨1, fun k hk => ?_⟩, .inl rfl⟩
          obtain ⟨m, rfl⟩ : ∃ m, k = m + 1 := ⟨k - 1, by omega⟩
          simp (disch := omega) only [spec_l2Text.f, ← htext, ↓if_pos, ↓if_neg, if_neg ct, hit]
theorem writeTree_both (t : List S66) (hl : t.length ≤ 1048576) (hx : ∀ x ∈ t, x.f0.size ≤ 1048576 ∧ x.f1.length ≤ 1048576) : ∃ v, Ev (fun k => spec_WriteTree.f k t) v ∧ Ev (fun k => impl_WriteTree.f k t) v := by
  obtain ⟨b, g1, g2⟩ := treeOk_agree t hl hx
  obtain ⟨K1, h1⟩ := Ev.binds g1
  obtain ⟨K2, h2⟩ := Ev.binds g2
  cases b with
  | false => exact ⟨⟨#[]⟩, ⟨K1, fun k hk => by simp (disch := omega) only [spec_WriteTree.f, ↓h1, ↓reduceIte, Bool.false_eq_true]⟩, ⟨K2, fun k hk => by simp (disch := omega) only [impl_WriteTree.f, ↓h2, ↓reduceIte, Bool.false_eq_true]⟩⟩
  | true =>
    have hpos : 0 < t.length := by
      rcases Nat.eq_zero_or_pos t.length with h | h
      · exfalso
        have : Ev (fun k => spec_TreeOk.f k t) false := ⟨0, fun k _ => by simp (disch := omega) only [spec_TreeOk.f, ↓if_pos]⟩
        exact absurd (Ev.uniq g1 this) (by decide)
      · exact h
    rcases walks_agree t hl hx 101 0 0 rfl hpos with ⟨r, g3, g4, g5, _⟩ | ⟨g5, _⟩
    · obtain ⟨T, c0, c1⟩ := text_agree t hl hx 101 (by omega) 0 0 rfl hpos r (by omega) g5
      obtain ⟨⟨K3, h3⟩, o1, ⟨K4, h4⟩, h5⟩ := c1 [] (by simp only [List.length_nil]; omega)
      rw [List.nil_append] at h3
      have hlo := ints_len o1
      by_cases cb : 20000 < T.length
      · have cb1 : (T.length : Int) > 20000 := by omega
        have cb2 : ((ints o1).length : Int) > 20000 := by
          unfold Tells at h5
          rw [List.nil_append] at h5
          rcases h5 with h5 | h5
          · rw [hlo, h5]; omega
          · omega
        refine ⟨⟨#[]⟩, ⟨K1 + K4, fun k hk => ?_⟩, ⟨K2 + K3, fun k hk => ?_⟩⟩
        · have h4 : spec_l2Text.f k t 0 [] = some (ints o1) := h4 k (by omega)
          simp (disch := omega) only [spec_WriteTree.f, ↓h1, ↓reduceIte, h4, Option.bind_some, if_pos cb2]
        · have h3 : impl_Tree_write.f k t 0 [] = some T := h3 k (by omega)
          simp (disch := omega) only [impl_WriteTree.f, ↓h2, ↓reduceIte, h3, Option.bind_some, if_pos cb1]
      · have e1 : o1 = T := by
          unfold Tells at h5
          rw [List.nil_append, List.length_nil] at h5
          rcases h5 with h5 | h5
          · exact h5
          · omega
        subst e1
        have cb1 : ¬ (o1.length : Int) > 20000 := by omega
        have cb2 : ¬ ((ints o1).length : Int) > 20000 := by rw [hlo]; omega
        have es : strOfNums (ints o1) = ⟨o1.toArray⟩ := by simp [strOfNums, ints, List.map_map, Function.comp_def]
        refine ⟨⟨o1.toArray⟩, ⟨K1 + K4, fun k hk => ?_⟩, ⟨K2 + K3, fun k hk => ?_⟩⟩
        · have h4 : spec_l2Text.f k t 0 [] = some (ints o1) := h4 k (by omega)
          simp (disch := omega) only [spec_WriteTree.f, ↓h1, ↓reduceIte, h4, Option.bind_some, if_neg cb2, es]
        · have h3 : impl_Tree_write.f k t 0 [] = some o1 := h3 k (by omega)
          simp (disch := omega) only [impl_WriteTree.f, ↓h2, ↓reduceIte, h3, Option.bind_some, if_neg cb1]
    · exfalso
      by_cases c2 : (t.length : Int) > 2000
      · have : Ev (fun k => spec_TreeOk.f k t) false := ⟨0, fun k _ => by simp (disch := omega) only [spec_TreeOk.f, ↓if_neg, ↓if_pos]⟩
        exact absurd (Ev.uniq g1 this) (by decide)
      · obtain ⟨K5, h5⟩ := g5
        have : Ev (fun k => spec_TreeOk.f k t) false := ⟨K5, fun k hk => by
          have h5 : spec_l2Walk.f k t 0 0 = some (-1) := h5 k (by omega)
          simp (disch := omega) only [spec_TreeOk.f, ↓if_neg, h5, Option.bind_some]
          congr 1⟩
        exact absurd (Ev.uniq g1 this) (by decide)

/-! btL -/
theorem bt_L (s : ByteArray) (i : Nat) : bt s (i : Int) = ((s.data.toList.getD i 0).toNat : Int) := by
  unfold bt
  by_cases h : i < s.size
  · have h2 : i < s.data.toList.length := by simpa using h
    rw [dif_pos (show (i : Int).toNat < s.size by omega), List.getD_eq_getElem?_getD, List.getElem?_eq_getElem h2]
    rfl
  · have h2 : s.data.toList.length ≤ i := by simpa using h
    rw [dif_neg (show ¬ (i : Int).toNat < s.size by omega), List.getD_eq_getElem?_getD, List.getElem?_eq_none h2]
    rfl
theorem ext_len (s : ByteArray) (a b : Nat) (h : a ≤ b) (hb : b ≤ s.size) : (s.extract a b).size = b - a := by
  have h1 := congrArg List.length (Lib.extract_data s a b)
  rw [List.length_take, List.length_drop, Array.length_toList, Array.length_toList] at h1
  have h2 : s.data.size = s.size := rfl
  have h3 : (s.extract a b).data.size = (s.extract a b).size := rfl
  omega
theorem bt_ext (s : ByteArray) (a b j : Nat) (h : a + j < b) : bt (s.extract a b) (j : Int) = bt s ((a + j : Nat) : Int) := by
  rw [bt_L, bt_L, Lib.extract_data, List.getD_eq_getElem?_getD, List.getD_eq_getElem?_getD, List.getElem?_take_of_lt (by omega), List.getElem?_drop]

/-! readA -/
/-- A byte of an atom. -/
def isA (c : Int) : Bool := decide (33 ≤ c ∧ c ≤ 126 ∧ c ≠ 40 ∧ c ≠ 41 ∧ c ≠ 59)
theorem atomByte_is (c : Int) : impl_atomByte.f c = some (isA c) := by
  unfold impl_atomByte.f isA
  by_cases h1 : c ≥ 33
  · rw [if_pos h1]
    by_cases h2 : c ≤ 126
    · rw [if_pos h2]
      by_cases h3 : c = 40
      · rw [if_pos h3, decide_eq_false (by omega)]
      · rw [if_neg h3]
        by_cases h4 : c = 41
        · rw [if_pos h4, decide_eq_false (by omega)]
        · rw [if_neg h4]
          by_cases h5 : c = 59
          · rw [decide_eq_false (by omega), h5]; rfl
          · rw [decide_eq_true (by omega), bne_iff_ne.2 h5]
    · rw [if_neg h2, decide_eq_false (by omega)]
  · rw [if_neg h1, decide_eq_false (by omega)]
theorem l2Atom_one (T : ByteArray) (x : Nat) (hx : x < T.size) : Ev (fun k => spec_l2Atom.f k (T.extract x (x + 1))) (isA (bt T (x : Int))) := by
  have hs := ext_len T x (x + 1) (by omega) (by omega)
  have hb : bt (T.extract x (x + 1)) ((0 : Nat) : Int) = bt T (x : Int) := bt_ext T x (x + 1) 0 (by omega)
  obtain ⟨c, hc⟩ : ∃ c, bt T (x : Int) = c := ⟨_, rfl⟩
  rw [hc] at hb ⊢
  have hb : bt (T.extract x (x + 1)) 0 = c := hb
  have go : ∀ v : Bool, isA c = v → (∀ k, spec_l2Atom.l0 (k + 1 + 1) (T.extract x (x + 1)) 0 = some v) → Ev (fun k => spec_l2Atom.f k (T.extract x (x + 1))) (isA c) := fun v hv h => ⟨2, fun k hk => by
    obtain ⟨m, rfl⟩ : ∃ m, k = m + 1 + 1 := ⟨k - 2, by omega⟩
    show spec_l2Atom.l0 (m + 1 + 1) (T.extract x (x + 1)) 0 = some (isA c)
    rw [h m, hv]⟩
  have e0 : (0 : Int) < ((T.extract x (x + 1)).size : Int) := by omega
  have e1 : ¬ (1 : Int) < ((T.extract x (x + 1)).size : Int) := by omega
  have w1 : wrap64 (0 + 1) = 1 := wrap64_id (by decide) (by decide)
  by_cases h1 : c < 33
  · exact go false (decide_eq_false (by omega)) fun k => by simp only [spec_l2Atom.l0, hb]; rw [if_pos e0, if_pos (Int.le_refl 0), if_pos h1]
  · by_cases h2 : c > 126
    · exact go false (decide_eq_false (by omega)) fun k => by simp only [spec_l2Atom.l0, hb]; rw [if_pos e0, if_pos (Int.le_refl 0), if_neg h1, if_pos h2]
    · by_cases h3 : c = 40
      · exact go false (decide_eq_false (by omega)) fun k => by simp only [spec_l2Atom.l0, hb]; rw [if_pos e0, if_pos (Int.le_refl 0), if_neg h1, if_neg h2, if_pos h3]
      · by_cases h4 : c = 41
        · exact go false (decide_eq_false (by omega)) fun k => by simp only [spec_l2Atom.l0, hb]; rw [if_pos e0, if_pos (Int.le_refl 0), if_neg h1, if_neg h2, if_neg h3, if_pos h4]
        · by_cases h5 : c = 59
          · exact go false (decide_eq_false (by omega)) fun k => by simp only [spec_l2Atom.l0, hb]; rw [if_pos e0, if_pos (Int.le_refl 0), if_neg h1, if_neg h2, if_neg h3, if_neg h4, if_pos h5]
          · exact go true (decide_eq_true (by omega)) fun k => by
              rw [spec_l2Atom.l0, hb, if_pos e0, if_pos (Int.le_refl 0), if_neg h1, if_neg h2, if_neg h3, if_neg h4, if_neg h5, w1, spec_l2Atom.l0, if_neg e1, decide_eq_true (by omega)]
/-- Where an atom ends. -/
theorem end_agree (T : ByteArray) (hT : T.size ≤ 1048576) : ∀ d x : Nat, T.size - x = d → x ≤ T.size → ∃ e : Nat, x ≤ e ∧ e ≤ T.size ∧ (∀ j : Nat, x ≤ j → j < e → isA (bt T (j : Int)) = true) ∧ (e = T.size ∨ isA (bt T (e : Int)) = false) ∧
    Ev (fun k => spec_l2End.l0 k T (x : Int)) (e : Int) ∧ Ev (fun k => impl_scanner_next.l1 k T (x : Int)) (e : Int) := by
  intro d
  induction d with
  | zero =>
    intro x hd hx
    have e : x = T.size := by omega
    refine ⟨x, Nat.le_refl _, hx, fun j h1 h2 => by omega, .inl e, ?_, ?_⟩
    · exact Ev.step (f := fun _ => some (x : Int)) (fun k => by simp only [spec_l2End.l0]; rw [if_neg (by omega)]) (Ev.now _)
    · exact Ev.step (f := fun _ => some (x : Int)) (fun k => by simp only [impl_scanner_next.l1]; rw [if_neg (by omega)]) (Ev.now _)
  | succ d ih =>
    intro x hd hx
    have hlt : x < T.size := by omega
    have hw : True → wrap64 ((x : Int) + 1) = ((x + 1 : Nat) : Int) := fun _ => wrap_next x (by omega)
    obtain ⟨K, hat⟩ := l2Atom_one T x hlt
    have hat2 : ∀ k, K ≤ k → spec_l2Atom.f k (T.extract ((x : Int)).toNat (((x + 1 : Nat) : Int)).toNat) = some (isA (bt T (x : Int))) := fun k hk => by rw [Int.toNat_natCast, Int.toNat_natCast]; exact hat k hk
    cases hA : isA (bt T (x : Int)) with
    | true =>
      obtain ⟨e, g1, g2, g3, g4, ⟨K1, g5⟩, ⟨K2, g6⟩⟩ := ih (x + 1) (by omega) (by omega)
      refine ⟨e, by omega, g2, fun j h1 h2 => ?_, g4, ⟨K + K1 + 1, fun k hk => ?_⟩, ⟨K2 + 1, fun k hk => ?_⟩⟩
      · by_cases ej : j = x
        · rw [ej]; exact hA
        · exact g3 j (by omega) h2
      · obtain ⟨m, rfl⟩ : ∃ m, k = m + 1 := ⟨k - 1, by omega⟩
        have g5 : spec_l2End.l0 m T ((x + 1 : Nat) : Int) = some (e : Int) := g5 m (by omega)
        simp only [spec_l2End.l0]
        rw [if_pos (by omega), if_pos (by omega), hw trivial, if_pos (by omega), if_pos (by omega), hat2 m (by omega), hA]
        exact g5
      · obtain ⟨m, rfl⟩ : ∃ m, k = m + 1 := ⟨k - 1, by omega⟩
        have g6 : impl_scanner_next.l1 m T ((x + 1 : Nat) : Int) = some (e : Int) := g6 m (by omega)
        simp only [impl_scanner_next.l1]
        rw [if_pos (by omega), if_pos (by omega), atomByte_is, hA, hw trivial]
        exact g6
    | false =>
      refine ⟨x, Nat.le_refl _, hx, fun j h1 h2 => by omega, .inr hA, ⟨K + 1, fun k hk => ?_⟩, ⟨1, fun k hk => ?_⟩⟩
      · obtain ⟨m, rfl⟩ : ∃ m, k = m + 1 := ⟨k - 1, by omega⟩
        simp only [spec_l2End.l0]
        rw [if_pos (by omega), if_pos (by omega), hw trivial, if_pos (by omega), if_pos (by omega), hat2 m (by omega), hA]
        rfl
      · obtain ⟨m, rfl⟩ : ∃ m, k = m + 1 := ⟨k - 1, by omega⟩
        simp only [impl_scanner_next.l1]
        rw [if_pos (by omega), if_pos (by omega), atomByte_is, hA]
        rfl
/-- Where a remark ends. -/
theorem rem_agree (T : ByteArray) (hT : T.size ≤ 1048576) : ∀ d x : Nat, T.size - x = d → x ≤ T.size → ∃ e : Nat, x ≤ e ∧ e ≤ T.size ∧ Ev (fun k => spec_ReadTree.l1 k T (x : Int)) (e : Int) ∧ Ev (fun k => impl_scanner_next.l0 k T (x : Int)) (e : Int) := by
  intro d
  induction d with
  | zero =>
    intro x hd hx
    refine ⟨x, Nat.le_refl _, hx, ?_, ?_⟩
    · exact Ev.step (f := fun _ => some (x : Int)) (fun k => by simp only [spec_ReadTree.l1]; rw [if_neg (by omega)]) (Ev.now _)
    · exact Ev.step (f := fun _ => some (x : Int)) (fun k => by simp only [impl_scanner_next.l0]; rw [if_neg (by omega)]) (Ev.now _)
  | succ d ih =>
    intro x hd hx
    have hlt : x < T.size := by omega
    have hw : True → wrap64 ((x : Int) + 1) = ((x + 1 : Nat) : Int) := fun _ => wrap_next x (by omega)
    obtain ⟨c, hc⟩ : ∃ c, bt T (x : Int) = c := ⟨_, rfl⟩
    have here : ¬ (c ≥ 32 ∧ c ≤ 126) → ∃ e : Nat, x ≤ e ∧ e ≤ T.size ∧ Ev (fun k => spec_ReadTree.l1 k T (x : Int)) (e : Int) ∧ Ev (fun k => impl_scanner_next.l0 k T (x : Int)) (e : Int) := fun hn => by
      refine ⟨x, Nat.le_refl _, hx, Ev.step (f := fun _ => some (x : Int)) (fun k => ?_) (Ev.now _), Ev.step (f := fun _ => some (x : Int)) (fun k => ?_) (Ev.now _)⟩
      · simp only [spec_ReadTree.l1, hc]
        rw [if_pos (by omega), if_pos (by omega)]
        by_cases h10 : c = 10
        · rw [if_pos h10]
        · rw [if_neg h10]
          by_cases h32 : c ≥ 32
          · rw [if_pos h32, if_neg (by omega)]
          · rw [if_neg h32]
      · simp only [impl_scanner_next.l0, hc]
        rw [if_pos (by omega), if_pos (by omega)]
        by_cases h32 : c ≥ 32
        · rw [if_pos h32, if_neg (by omega)]
        · rw [if_neg h32]
    by_cases h : c ≥ 32 ∧ c ≤ 126
    · clear here
      obtain ⟨e, g1, g2, g3, g4⟩ := ih (x + 1) (by omega) (by omega)
      refine ⟨e, Nat.le_trans (Nat.le_succ x) g1, g2, Ev.step (fun k => ?_) g3, Ev.step (fun k => ?_) g4⟩
      · simp only [spec_ReadTree.l1, hc]
        rw [if_pos (by omega), if_pos (by omega), if_neg (by omega), if_pos h.1, if_pos h.2, hw trivial]
      · simp only [impl_scanner_next.l0, hc]
        rw [if_pos (by omega), if_pos (by omega), if_pos h.1, if_pos h.2, hw trivial]
    · exact here h
/-- What stands while a tree is read. -/
structure RtJ (ns : List S66) (op : List Int) : Prop where
  len : ns.length ≤ 2000
  deep : op.length ≤ 101
  inn : ∀ x ∈ op, 0 ≤ x ∧ x < (ns.length : Int)
  kids : ∀ x ∈ ns, x.f1.length ≤ ns.length ∧ x.f0.size ≤ 20000
theorem rd_T_mem (ns : List S66) (i : Int) (h0 : 0 ≤ i) (h1 : i < (ns.length : Int)) : rd_T66 ns i ∈ ns := by
  unfold rd_T66
  rw [List.getD_eq_getElem?_getD, List.getElem?_eq_getElem (by omega : i.toNat < ns.length)]
  exact List.getElem_mem _
theorem rd_last (op : List Int) (h : op ≠ []) : rd op ((op.length : Int) - 1) = op.getLast h := by
  have hp : 0 < op.length := List.length_pos_iff.2 h
  rw [show ((op.length : Int) - 1) = ((op.length - 1 : Nat) : Int) from by omega]
  unfold rd
  rw [Int.toNat_natCast, List.getD_eq_getElem?_getD, List.getElem?_eq_getElem (by omega : op.length - 1 < op.length), List.getLast_eq_getElem]
  rfl
theorem begin_ok (ns : List S66) (op : List Int) (text : ByteArray) (J : RtJ ns op) (ht : text.size ≤ 20000) :
    (∃ ns', rtBegin ns op text = some (0, ns') ∧ RtJ ns' op ∧ ns'.length = ns.length + 1 ∧ op.length ≤ 100) ∨ (∃ code, code ≠ 0 ∧ rtBegin ns op text = some (code, ns)) := by
  unfold rtBegin
  by_cases c1 : op.length = 0
  · rw [if_pos c1]
    by_cases c2 : 0 < ns.length
    · rw [if_pos c2]; exact .inr ⟨4, by decide, rfl⟩
    · rw [if_neg c2]
      have e : ns = [] := List.length_eq_zero_iff.1 (by omega)
      have e2 : op = [] := List.length_eq_zero_iff.1 c1
      subst e e2
      refine .inl ⟨_, rfl, ⟨by simp, by simp, (fun x hx => by cases hx), fun x hx => ?_⟩, by simp, by simp⟩
      rw [List.nil_append, List.mem_singleton] at hx
      subst hx
      exact ⟨Nat.zero_le _, ht⟩
  · rw [if_neg c1]
    by_cases c2 : 100 < op.length
    · rw [if_pos c2]; exact .inr ⟨5, by decide, rfl⟩
    · rw [if_neg c2]
      by_cases c3 : ns.length = 2000
      · rw [if_pos c3]; exact .inr ⟨6, by decide, rfl⟩
      · rw [if_neg c3]
        have hl := J.len
        have hne : op ≠ [] := fun h => c1 (by rw [h]; rfl)
        rw [rd_last op hne]
        obtain ⟨up, hup⟩ : ∃ up, op.getLast hne = up := ⟨_, rfl⟩
        have hi := J.inn _ (List.getLast_mem hne)
        rw [hup] at hi ⊢
        have hm := rd_T_mem ns up hi.1 hi.2
        have hk := J.kids _ hm
        rw [if_pos (by omega), if_pos hi.1, if_pos hi.2, if_pos (by omega)]
        have hl2 : (rtKid ns up ns.length ++ [S66.mk text []]).length = ns.length + 1 := by unfold rtKid; rw [List.length_append, List.length_set]; rfl
        refine .inl ⟨_, rfl, ⟨by rw [hl2]; omega, J.deep, fun x hx => by have := J.inn x hx; rw [hl2]; omega, fun x hx => ?_⟩, hl2, by omega⟩
        rw [hl2]
        rcases List.mem_append.1 hx with hx | hx
        · unfold rtKid at hx
          rcases List.mem_or_eq_of_mem_set hx with hx | hx
          · have := J.kids x hx; omega
          · subst hx
            refine ⟨?_, hk.2⟩
            show ((rd_T66 ns up).f1 ++ [(ns.length : Int)]).length ≤ _
            rw [List.length_append, List.length_singleton]
            omega
        · rw [List.mem_singleton] at hx
          subst hx
          exact ⟨Nat.zero_le _, ht⟩
/-- The text of an atom. -/
def atomS (s : ByteArray) : Prop := 0 < s.size ∧ ∀ j : Nat, j < s.size → isA (bt s (j : Int)) = true
/-- What one thing that is read does. -/
def RtT (ns : List S66) (op : List Int) (ns' : List S66) (op' : List Int) : Prop :=
  (ns' = ns ∧ op' = op) ∨ (∃ t, atomS t ∧ rtBegin ns op t = some (0, ns') ∧ op' = op) ∨ (rtBegin ns op ⟨#[]⟩ = some (0, ns') ∧ op' = op ++ [(ns.length : Int)]) ∨ (op ≠ [] ∧ ns' = ns ∧ op' = op.take (op.length - 1))
/-- One thing is read by both. -/
theorem step_ok (T : ByteArray) (hT : T.size ≤ 20000) (a : Nat) (ha : a < T.size) (ns : List S66) (op : List Int) (J : RtJ ns op) :
    (∃ (b : Nat) (ns' : List S66) (op' : List Int), a < b ∧ b ≤ T.size ∧ RtJ ns' op' ∧ RtT ns op ns' op' ∧ Ev (fun k => spec_ReadTree.step k T (a : Int) ns op) (0, (b : Int), ns', op') ∧ Ev (fun k => impl_scanner_next.f k T (a : Int) ns op) (0, (b : Int), ns', op')) ∨
    (∃ code, code ≠ 0 ∧ (∃ b ns' op', Ev (fun k => spec_ReadTree.step k T (a : Int) ns op) (code, b, ns', op')) ∧ ∃ ns' op', Ev (fun k => impl_scanner_next.f k T (a : Int) ns op) (code, (a : Int), ns', op')) := by
  have hw : True → wrap64 ((a : Int) + 1) = ((a + 1 : Nat) : Int) := fun _ => wrap_next a (by omega)
  have p0 : (0 : Int) ≤ (a : Int) := Int.natCast_nonneg a
  have p1 : (a : Int) < (T.size : Int) := by omega
  obtain ⟨c, hc⟩ : ∃ c, bt T (a : Int) = c := ⟨_, rfl⟩
  have skip : ∀ v : Int, c = v → v = 10 ∨ v = 32 → ∃ (b : Nat) (ns' : List S66) (op' : List Int), a < b ∧ b ≤ T.size ∧ RtJ ns' op' ∧ RtT ns op ns' op' ∧ Ev (fun k => spec_ReadTree.step k T (a : Int) ns op) (0, (b : Int), ns', op') ∧ Ev (fun k => impl_scanner_next.f k T (a : Int) ns op) (0, (b : Int), ns', op') := fun v hv hv2 => by
    refine ⟨a + 1, ns, op, by omega, by omega, J, .inl ⟨rfl, rfl⟩, ⟨0, fun k _ => ?_⟩, ⟨0, fun k _ => ?_⟩⟩
    · simp only [spec_ReadTree.step]
      rw [hc, hv, hw trivial]
      rcases hv2 with rfl | rfl <;> rfl
    · simp only [impl_scanner_next.f]
      rw [if_pos p0, if_pos p1, hc, hv, hw trivial]
      rcases hv2 with rfl | rfl <;> rfl
  by_cases c32 : c = 32
  · exact .inl (skip 32 c32 (.inr rfl))
  by_cases c10 : c = 10
  · exact .inl (skip 10 c10 (.inl rfl))
  by_cases hlo : c < 32
  · refine .inr ⟨2, by decide, ⟨((a + 1 : Nat) : Int), ns, op, ⟨0, fun k _ => ?_⟩⟩, ns, op, ⟨0, fun k _ => ?_⟩⟩
    · simp only [spec_ReadTree.step]
      rw [hc, if_neg c32, if_neg c10, if_pos hlo, hw trivial]
    · simp only [impl_scanner_next.f]
      rw [if_pos p0, if_pos p1, hc, if_neg c10, if_neg c32, if_neg (by omega), if_neg (by omega), if_neg (by omega), atomByte_is, show isA c = false from decide_eq_false (by omega)]
      rfl
  by_cases hhi : c > 126
  · refine .inr ⟨2, by decide, ⟨((a + 1 : Nat) : Int), ns, op, ⟨0, fun k _ => ?_⟩⟩, ns, op, ⟨0, fun k _ => ?_⟩⟩
    · simp only [spec_ReadTree.step]
      rw [hc, if_neg c32, if_neg c10, if_neg hlo, if_pos hhi, hw trivial]
    · simp only [impl_scanner_next.f]
      rw [if_pos p0, if_pos p1, hc, if_neg c10, if_neg c32, if_neg (by omega), if_neg (by omega), if_neg (by omega), atomByte_is, show isA c = false from decide_eq_false (by omega)]
      rfl
  by_cases c59 : c = 59
  · obtain ⟨e, g1, g2, ⟨K1, g3⟩, ⟨K2, g4⟩⟩ := rem_agree T (by omega) _ (a + 1) rfl (by omega)
    refine .inl ⟨e, ns, op, by omega, g2, J, .inl ⟨rfl, rfl⟩, ⟨K1, fun k hk => ?_⟩, ⟨K2, fun k hk => ?_⟩⟩
    · have g3 : spec_ReadTree.l1 k T ((a + 1 : Nat) : Int) = some (e : Int) := g3 k hk
      simp only [spec_ReadTree.step]
      rw [hc, if_neg c32, if_neg c10, if_neg hlo, if_neg hhi, if_pos c59, hw trivial, g3]
      rfl
    · have g4 : impl_scanner_next.l0 k T ((a + 1 : Nat) : Int) = some (e : Int) := g4 k hk
      simp only [impl_scanner_next.f]
      rw [if_pos p0, if_pos p1, hc, if_neg c10, if_neg c32, if_pos c59, hw trivial, g4]
      rfl
  by_cases c41 : c = 41
  · by_cases cn : op.length = 0
    · refine .inr ⟨3, by decide, ⟨((a + 1 : Nat) : Int), ns, op, ⟨0, fun k _ => ?_⟩⟩, ns, op, ⟨0, fun k _ => ?_⟩⟩
      · simp only [spec_ReadTree.step]
        rw [hc, if_neg c32, if_neg c10, if_neg hlo, if_neg hhi, if_neg c59, if_pos c41, if_pos cn, hw trivial]
      · simp only [impl_scanner_next.f]
        rw [if_pos p0, if_pos p1, hc, if_neg c10, if_neg c32, if_neg c59, if_neg (by omega), if_pos c41, if_pos cn]
    · refine .inl ⟨a + 1, ns, op.take (op.length - 1), by omega, by omega, ⟨J.len, by rw [List.length_take]; have := J.deep; omega, fun x hx => J.inn x (List.mem_of_mem_take hx), J.kids⟩, .inr (.inr (.inr ⟨(fun h => cn (by rw [h]; rfl)), rfl, rfl⟩)), ⟨0, fun k _ => ?_⟩, ⟨0, fun k _ => ?_⟩⟩
      · simp only [spec_ReadTree.step]
        rw [hc, if_neg c32, if_neg c10, if_neg hlo, if_neg hhi, if_neg c59, if_pos c41, if_neg cn, hw trivial]
      · simp only [impl_scanner_next.f]
        rw [if_pos p0, if_pos p1, hc, if_neg c10, if_neg c32, if_neg c59, if_neg (by omega), if_pos c41, if_neg cn, hw trivial]
  by_cases c40 : c = 40
  · have hdeep := J.deep
    rcases begin_ok ns op ⟨#[]⟩ J (by decide) with ⟨ns', g1, g2, g3, g4⟩ | ⟨code, g0, g1⟩
    · have hwl : wrap64 ((ns'.length : Int) - 1) = (ns.length : Int) := by have := J.len; rw [g3, wrap64_id (by omega) (by omega)]; omega
      have hJ : RtJ ns' (op ++ [(ns.length : Int)]) := ⟨g2.len, by rw [List.length_append, List.length_singleton]; omega, fun x hx => by
        rcases List.mem_append.1 hx with hx | hx
        · exact g2.inn x hx
        · rw [List.mem_singleton] at hx; subst hx; rw [g3]; omega, g2.kids⟩
      refine .inl ⟨a + 1, ns', op ++ [(ns.length : Int)], by omega, by omega, hJ, .inr (.inr (.inl ⟨g1, rfl⟩)), ⟨0, fun k _ => ?_⟩, ⟨0, fun k _ => ?_⟩⟩
      · simp only [spec_ReadTree.step]
        rw [hc, if_neg c32, if_neg c10, if_neg hlo, if_neg hhi, if_neg c59, if_neg c41, if_pos c40, g1, Option.bind_some]
        dsimp only
        rw [if_pos (by omega), hwl, hw trivial]
      · simp only [impl_scanner_next.f]
        rw [if_pos p0, if_pos p1, hc, if_neg c10, if_neg c32, if_neg c59, if_pos c40, g1, Option.bind_some]
        dsimp only
        rw [if_pos rfl, if_pos (by omega), hwl, hw trivial]
    · refine .inr ⟨code, g0, ⟨((a + 1 : Nat) : Int), ns, op ++ [wrap64 ((ns.length : Int) - 1)], ⟨0, fun k _ => ?_⟩⟩, ns, op, ⟨0, fun k _ => ?_⟩⟩
      · simp only [spec_ReadTree.step]
        rw [hc, if_neg c32, if_neg c10, if_neg hlo, if_neg hhi, if_neg c59, if_neg c41, if_pos c40, g1, Option.bind_some]
        dsimp only
        rw [if_pos (by omega), hw trivial]
      · simp only [impl_scanner_next.f]
        rw [if_pos p0, if_pos p1, hc, if_neg c10, if_neg c32, if_neg c59, if_pos c40, g1, Option.bind_some]
        dsimp only
        rw [if_neg g0]
  · have hA : isA c = true := decide_eq_true (by omega)
    obtain ⟨e, g1, g2, g3, g4, ⟨K1, g5⟩, ⟨K2, g6⟩⟩ := end_agree T (by omega) _ a rfl (by omega)
    have hae : a < e := by
      rcases Nat.lt_or_ge a e with h | h
      · exact h
      · exfalso
        have : e = a := by omega
        subst this
        rcases g4 with g4 | g4
        · omega
        · rw [hc, hA] at g4; cases g4
    have hex : ∀ k : Nat, T.extract ((a : Int)).toNat ((e : Int)).toNat = T.extract a e := fun _ => by rw [Int.toNat_natCast, Int.toNat_natCast]
    have hsz := ext_len T a e (by omega) g2
    have hat : atomS (T.extract a e) := ⟨by omega, fun j hj => by rw [bt_ext T a e j (by omega)]; exact g3 (a + j) (by omega) (by omega)⟩
    rcases begin_ok ns op (T.extract a e) J (by omega) with ⟨ns', q1, q2, q3, q4⟩ | ⟨code, q0, q1⟩
    · refine .inl ⟨e, ns', op, hae, g2, q2, .inr (.inl ⟨_, hat, q1, rfl⟩), ⟨K1, fun k hk => ?_⟩, ⟨K2, fun k hk => ?_⟩⟩
      · have g5 : spec_l2End.f k T (a : Int) = some (e : Int) := g5 k hk
        simp only [spec_ReadTree.step]
        rw [hc, if_neg c32, if_neg c10, if_neg hlo, if_neg hhi, if_neg c59, if_neg c41, if_neg c40, g5, Option.bind_some, if_pos (by omega), if_pos (by omega), hex k, q1]
        rfl
      · have g6 : impl_scanner_next.l1 k T (a : Int) = some (e : Int) := g6 k hk
        simp only [impl_scanner_next.f]
        rw [if_pos p0, if_pos p1, hc, if_neg c10, if_neg c32, if_neg c59, if_neg c40, if_neg c41, atomByte_is, hA, Option.bind_some, if_pos rfl, g6, Option.bind_some, if_pos (by omega), if_pos (by omega), hex k, q1]
        rfl
    · refine .inr ⟨code, q0, ⟨(e : Int), ns, op, ⟨K1, fun k hk => ?_⟩⟩, ns, op, ⟨K2, fun k hk => ?_⟩⟩
      · have g5 : spec_l2End.f k T (a : Int) = some (e : Int) := g5 k hk
        simp only [spec_ReadTree.step]
        rw [hc, if_neg c32, if_neg c10, if_neg hlo, if_neg hhi, if_neg c59, if_neg c41, if_neg c40, g5, Option.bind_some, if_pos (by omega), if_pos (by omega), hex k, q1]
        rfl
      · have g6 : impl_scanner_next.l1 k T (a : Int) = some (e : Int) := g6 k hk
        simp only [impl_scanner_next.f]
        rw [if_pos p0, if_pos p1, hc, if_neg c10, if_neg c32, if_neg c59, if_neg c40, if_neg c41, atomByte_is, hA, Option.bind_some, if_pos rfl, g6, Option.bind_some, if_pos (by omega), if_pos (by omega), hex k, q1]
        simp only [Option.bind_some]
        rw [if_neg q0]
/-- All is read by both. -/
theorem read_agree (T : ByteArray) (hT : T.size ≤ 20000) (I : List S66 → List Int → Prop) (hI : ∀ ns op ns' op', RtJ ns op → RtT ns op ns' op' → I ns op → I ns' op') : ∀ n a : Nat, T.size - a ≤ n → a ≤ T.size → ∀ (ns : List S66) (op : List Int), RtJ ns op → I ns op →
    ∃ (r : List S66) (c p : Int), ((c ≠ 0 ∧ r = []) ∨ (c = 0 ∧ r ≠ [] ∧ RtJ r [] ∧ I r [])) ∧ Ev (fun k => spec_ReadTree.l0 k T (a : Int) ns op) (r, c, p) ∧ Ev (fun k => impl_ReadTree.l0 k T (a : Int) ns op) (r, c, p) := by
  intro n
  induction n with
  | zero =>
    intro a hn ha ns op J HI
    have e : ¬ (a : Int) < (T.size : Int) := by omega
    by_cases c1 : 0 < op.length
    · exact ⟨[], 7, T.size, .inl ⟨by decide, rfl⟩, Ev.step (f := fun _ => some ([], 7, (T.size : Int))) (fun k => by simp only [spec_ReadTree.l0]; rw [if_neg e, if_pos c1]) (Ev.now _), Ev.step (f := fun _ => some ([], 7, (T.size : Int))) (fun k => by simp only [impl_ReadTree.l0]; rw [if_neg e, if_pos c1]) (Ev.now _)⟩
    · by_cases c2 : ns.length = 0
      · exact ⟨[], 8, T.size, .inl ⟨by decide, rfl⟩, Ev.step (f := fun _ => some ([], 8, (T.size : Int))) (fun k => by simp only [spec_ReadTree.l0]; rw [if_neg e, if_neg c1, if_pos c2]) (Ev.now _), Ev.step (f := fun _ => some ([], 8, (T.size : Int))) (fun k => by simp only [impl_ReadTree.l0]; rw [if_neg e, if_neg c1, if_pos c2]) (Ev.now _)⟩
      · have eo : op = [] := List.length_eq_zero_iff.1 (by omega)
        subst eo
        exact ⟨ns, 0, 0, .inr ⟨rfl, (fun h => c2 (by rw [h]; rfl)), J, HI⟩, Ev.step (f := fun _ => some (ns, 0, 0)) (fun k => by simp only [spec_ReadTree.l0]; rw [if_neg e, if_neg c1, if_neg c2]) (Ev.now _), Ev.step (f := fun _ => some (ns, 0, 0)) (fun k => by simp only [impl_ReadTree.l0]; rw [if_neg e, if_neg c1, if_neg c2]) (Ev.now _)⟩
  | succ n ih =>
    intro a hn ha ns op J HI
    by_cases hlt : a < T.size
    · have e : (a : Int) < (T.size : Int) := by omega
      rcases step_ok T hT a hlt ns op J with ⟨b, ns', op', h1, h2, hJ, hT2, ⟨K1, h3⟩, ⟨K2, h4⟩⟩ | ⟨code, hc, ⟨b, ns', op', ⟨K1, h3⟩⟩, ns2, op2, ⟨K2, h4⟩⟩
      · obtain ⟨r, c, p, hr, ⟨K3, h5⟩, ⟨K4, h6⟩⟩ := ih b (by omega) h2 ns' op' hJ (hI _ _ _ _ J hT2 HI)
        refine ⟨r, c, p, hr, ⟨K1 + K3 + 1, fun k hk => ?_⟩, ⟨K2 + K4 + 1, fun k hk => ?_⟩⟩
        · obtain ⟨m, rfl⟩ : ∃ m, k = m + 1 := ⟨k - 1, by omega⟩
          have h3 : spec_ReadTree.step m T (a : Int) ns op = some (0, (b : Int), ns', op') := h3 m (by omega)
          have h5 : spec_ReadTree.l0 m T (b : Int) ns' op' = some (r, c, p) := h5 m (by omega)
          simp only [spec_ReadTree.l0]
          rw [if_pos e, if_pos (by omega), h3, Option.bind_some]
          dsimp only
          rw [if_pos rfl]
          exact h5
        · obtain ⟨m, rfl⟩ : ∃ m, k = m + 1 := ⟨k - 1, by omega⟩
          have h4 : impl_scanner_next.f m T (a : Int) ns op = some (0, (b : Int), ns', op') := h4 m (by omega)
          have h6 : impl_ReadTree.l0 m T (b : Int) ns' op' = some (r, c, p) := h6 m (by omega)
          simp only [impl_ReadTree.l0]
          rw [if_pos e, h4, Option.bind_some]
          dsimp only
          rw [if_pos rfl]
          exact h6
      · refine ⟨[], code, a, .inl ⟨hc, rfl⟩, ⟨K1 + 1, fun k hk => ?_⟩, ⟨K2 + 1, fun k hk => ?_⟩⟩
        · obtain ⟨m, rfl⟩ : ∃ m, k = m + 1 := ⟨k - 1, by omega⟩
          have h3 : spec_ReadTree.step m T (a : Int) ns op = some (code, b, ns', op') := h3 m (by omega)
          simp only [spec_ReadTree.l0]
          rw [if_pos e, if_pos (by omega), h3, Option.bind_some]
          dsimp only
          rw [if_neg hc]
        · obtain ⟨m, rfl⟩ : ∃ m, k = m + 1 := ⟨k - 1, by omega⟩
          have h4 : impl_scanner_next.f m T (a : Int) ns op = some (code, (a : Int), ns2, op2) := h4 m (by omega)
          simp only [impl_ReadTree.l0]
          rw [if_pos e, h4, Option.bind_some]
          dsimp only
          rw [if_neg hc]
    · exact ih a (by omega) ha ns op J HI
theorem rtJ_nil : RtJ [] [] := ⟨by simp, by simp, (fun x hx => by cases hx), (fun x hx => by cases hx)⟩

/-! rose -/
/-- A forest: its first tree (an atom, or a list and its kids) and the rest. -/
inductive Rs where
  | nil : Rs
  | atom : ByteArray → Rs → Rs
  | list : Rs → Rs → Rs
def Rs.size : Rs → Nat
  | .nil => 0
  | .atom _ r => 1 + r.size
  | .list k r => 1 + k.size + r.size
def Rs.roots : Rs → Nat → List Int
  | .nil, _ => []
  | .atom _ r, a => (a : Int) :: r.roots (a + 1)
  | .list k r, a => (a : Int) :: r.roots (a + 1 + k.size)
def Rs.flat : Rs → Nat → List S66
  | .nil, _ => []
  | .atom s r, a => S66.mk s [] :: r.flat (a + 1)
  | .list k r, a => S66.mk ⟨#[]⟩ (k.roots (a + 1)) :: (k.flat (a + 1) ++ r.flat (a + 1 + k.size))
def Rs.app : Rs → Rs → Rs
  | .nil, g => g
  | .atom s r, g => .atom s (r.app g)
  | .list k r, g => .list k (r.app g)
def Rs.ok : Rs → Nat → Prop
  | .nil, _ => True
  | .atom s r, d => d ≤ 100 ∧ atomS s ∧ r.ok d
  | .list k r, d => d ≤ 100 ∧ k.ok (d + 1) ∧ r.ok d
def Rs.isNil : Rs → Bool
  | .nil => true
  | .atom _ _ => false
  | .list _ _ => false
/-- The text of a forest, a space ahead of each tree but the first. -/
def Rs.txt : Rs → Bool → List UInt8
  | .nil, _ => []
  | .atom s r, b => (if b then [] else [32]) ++ (s.data.toList ++ r.txt false)
  | .list k r, b => (if b then [] else [32]) ++ ([40] ++ (k.txt true ++ ([41] ++ r.txt false)))
theorem Rs.flat_len : ∀ (f : Rs) (a : Nat), (f.flat a).length = f.size
  | .nil, _ => rfl
  | .atom s r, a => by rw [Rs.flat, Rs.size, List.length_cons, Rs.flat_len r, Nat.add_comm]
  | .list k r, a => by rw [Rs.flat, Rs.size, List.length_cons, List.length_append, Rs.flat_len k, Rs.flat_len r]; omega
theorem Rs.roots_len : ∀ (f : Rs) (a : Nat), (f.roots a).length ≤ f.size
  | .nil, _ => Nat.le_refl _
  | .atom s r, a => by rw [Rs.roots, Rs.size, List.length_cons]; have := Rs.roots_len r (a + 1); omega
  | .list k r, a => by rw [Rs.roots, Rs.size, List.length_cons]; have := Rs.roots_len r (a + 1 + k.size); omega
theorem Rs.app_size : ∀ (f g : Rs), (f.app g).size = f.size + g.size
  | .nil, g => by rw [Rs.app, Rs.size]; omega
  | .atom s r, g => by rw [Rs.app, Rs.size, Rs.size, Rs.app_size r]; omega
  | .list k r, g => by rw [Rs.app, Rs.size, Rs.size, Rs.app_size r]; omega
theorem Rs.app_roots : ∀ (f g : Rs) (a : Nat), (f.app g).roots a = f.roots a ++ g.roots (a + f.size)
  | .nil, g, a => by rw [Rs.app, Rs.roots, Rs.size]; rfl
  | .atom s r, g, a => by rw [Rs.app, Rs.roots, Rs.roots, Rs.app_roots r, Rs.size, List.cons_append, show a + 1 + r.size = a + (1 + r.size) from by omega]
  | .list k r, g, a => by rw [Rs.app, Rs.roots, Rs.roots, Rs.app_roots r, Rs.size, List.cons_append, show a + 1 + k.size + r.size = a + (1 + k.size + r.size) from by omega]
theorem Rs.app_flat : ∀ (f g : Rs) (a : Nat), (f.app g).flat a = f.flat a ++ g.flat (a + f.size)
  | .nil, g, a => by rw [Rs.app, Rs.flat, Rs.size]; rfl
  | .atom s r, g, a => by rw [Rs.app, Rs.flat, Rs.flat, Rs.app_flat r, Rs.size, List.cons_append, show a + 1 + r.size = a + (1 + r.size) from by omega]
  | .list k r, g, a => by rw [Rs.app, Rs.flat, Rs.flat, Rs.app_flat r, Rs.size, List.cons_append, List.append_assoc, show a + 1 + k.size + r.size = a + (1 + k.size + r.size) from by omega]
theorem Rs.app_ok : ∀ (f g : Rs) (d : Nat), f.ok d → g.ok d → (f.app g).ok d
  | .nil, g, d, _, h => h
  | .atom s r, g, d, h, hg => ⟨h.1, h.2.1, Rs.app_ok r g d h.2.2 hg⟩
  | .list k r, g, d, h, hg => ⟨h.1, h.2.1, Rs.app_ok r g d h.2.2 hg⟩
theorem Rs.app_nil : ∀ (f g : Rs), g.isNil = false → (f.app g).isNil = false
  | .nil, _, h => h
  | .atom _ _, _, _ => rfl
  | .list _ _, _, _ => rfl
/-- One tree. -/
def Rs.one : Rs → Prop
  | .nil => False
  | .atom _ r => r = .nil
  | .list _ r => r = .nil
theorem Rs.nil_of {f : Rs} (h : f.isNil = true) : f = .nil := by cases f <;> first | rfl | cases h
/-- Kids more of a node. -/
def addN (ns : List S66) (p : Nat) (ks : List Int) : List S66 := ns.set p (S66.mk (ns.getD p z66).f0 ((ns.getD p z66).f1 ++ ks))
theorem addN_len (ns : List S66) (p : Nat) (ks : List Int) : (addN ns p ks).length = ns.length := by unfold addN; rw [List.length_set]
theorem addN_nil (ns : List S66) (p : Nat) (hp : p < ns.length) : addN ns p [] = ns := by
  unfold addN
  rw [List.append_nil, List.getD_eq_getElem?_getD, List.getElem?_eq_getElem hp]
  exact List.set_getElem_self hp
theorem addN_get (ns : List S66) (p : Nat) (ks : List Int) (hp : p < ns.length) : (addN ns p ks).getD p z66 = S66.mk (ns.getD p z66).f0 ((ns.getD p z66).f1 ++ ks) := by
  unfold addN
  generalize S66.mk (ns.getD p z66).f0 ((ns.getD p z66).f1 ++ ks) = X
  rw [List.getD_eq_getElem?_getD, List.getElem?_set_self hp]
  rfl
theorem addN_addN (ns : List S66) (p : Nat) (k1 k2 : List Int) (hp : p < ns.length) : addN (addN ns p k1) p k2 = addN ns p (k1 ++ k2) := by
  show (addN ns p k1).set p _ = _
  rw [addN_get ns p k1 hp]
  unfold addN
  rw [List.set_set, List.append_assoc]
theorem addN_left (ns ms : List S66) (p : Nat) (ks : List Int) (hp : p < ns.length) : addN (ns ++ ms) p ks = addN ns p ks ++ ms := by
  unfold addN
  rw [List.getD_eq_getElem?_getD, List.getElem?_append_left hp, List.set_append_left _ _ hp, List.getD_eq_getElem?_getD]
theorem addN_right (ns ms : List S66) (q : Nat) (ks : List Int) : addN (ns ++ ms) (ns.length + q) ks = ns ++ addN ms q ks := by
  unfold addN
  rw [List.getD_eq_getElem?_getD, List.getElem?_append_right (Nat.le_add_right _ _), List.set_append_right _ _ (Nat.le_add_right _ _), Nat.add_sub_cancel_left, List.getD_eq_getElem?_getD]
theorem addN_cons (x : S66) (ms : List S66) (q : Nat) (ks : List Int) : addN (x :: ms) (q + 1) ks = x :: addN ms q ks := rfl
theorem addN_zero (s : ByteArray) (k : List Int) (ms : List S66) (ks : List Int) : addN (S66.mk s k :: ms) 0 ks = S66.mk s (k ++ ks) :: ms := rfl
/-- A node begins below the last open one. -/
theorem begin_in (ns : List S66) (o : List Int) (p : Nat) (t : ByteArray) (hp : p < ns.length) (hd : o.length < 100) (hn : ns.length < 2000) (hk : (ns.getD p z66).f1.length < 17592186044416) :
    rtBegin ns (o ++ [(p : Int)]) t = some (0, addN ns p [(ns.length : Int)] ++ [S66.mk t []]) := by
  have hl : (o ++ [(p : Int)]).length = o.length + 1 := by rw [List.length_append]; rfl
  have hr : rd (o ++ [(p : Int)]) (((o ++ [(p : Int)]).length : Int) - 1) = (p : Int) := by
    rw [rd_last _ (by simp)]; simp
  have hrd : rd_T66 ns (p : Int) = ns.getD p z66 := by unfold rd_T66; rw [Int.toNat_natCast]
  unfold rtBegin
  rw [hr, hrd, if_neg (by omega), if_neg (by omega), if_neg (by omega), if_pos hn, if_pos (Int.natCast_nonneg p), if_pos (Int.ofNat_lt.2 hp), if_pos hk]
  unfold rtKid addN
  rw [hrd, Int.toNat_natCast]
theorem begin_top (t : ByteArray) : rtBegin [] [] t = some (0, [S66.mk t []]) := rfl
/-- What a node that begins comes to. -/
theorem begin_form (ns : List S66) (op : List Int) (t : ByteArray) (ns' : List S66) (h : rtBegin ns op t = some (0, ns')) :
    op.length ≤ 100 ∧ ns.length < 2000 ∧ ((op = [] ∧ ns = [] ∧ ns' = [S66.mk t []]) ∨ (op ≠ [] ∧ ∀ (o : List Int) (p : Nat), op = o ++ [(p : Int)] → ns' = addN ns p [(ns.length : Int)] ++ [S66.mk t []])) := by
  unfold rtBegin at h
  by_cases c1 : op.length = 0
  · rw [if_pos c1] at h
    have eo : op = [] := List.length_eq_zero_iff.1 c1
    by_cases c2 : 0 < ns.length
    · rw [if_pos c2] at h
      have := (Prod.mk.inj (Option.some.inj h)).1
      omega
    · rw [if_neg c2] at h
      have en : ns = [] := List.length_eq_zero_iff.1 (by omega)
      subst en
      refine ⟨by omega, by simp, .inl ⟨eo, rfl, ?_⟩⟩
      exact (Prod.mk.inj (Option.some.inj h)).2.symm
  · rw [if_neg c1] at h
    by_cases c2 : 100 < op.length
    · rw [if_pos c2] at h
      have := (Prod.mk.inj (Option.some.inj h)).1
      omega
    · rw [if_neg c2] at h
      by_cases c3 : ns.length = 2000
      · rw [if_pos c3] at h
        have := (Prod.mk.inj (Option.some.inj h)).1
        omega
      · rw [if_neg c3] at h
        by_cases c4 : ns.length < 2000
        · rw [if_pos c4] at h
          refine ⟨by omega, c4, .inr ⟨(fun h => c1 (by rw [h]; rfl)), fun o p ho => ?_⟩⟩
          subst ho
          have hr : rd (o ++ [(p : Int)]) (((o ++ [(p : Int)]).length : Int) - 1) = (p : Int) := by
            rw [rd_last _ (by simp)]; simp
          have hrd : rd_T66 ns (p : Int) = ns.getD p z66 := by unfold rd_T66; rw [Int.toNat_natCast]
          rw [hr] at h
          obtain ⟨_, h⟩ := iteP_ h
          obtain ⟨_, h⟩ := iteP_ h
          obtain ⟨_, h⟩ := iteP_ h
          rw [← (Prod.mk.inj (Option.some.inj h)).2]
          unfold rtKid addN
          rw [hrd, Int.toNat_natCast]
        · rw [if_neg c4] at h; cases h

/-! roseOpen -/
/-- So many lists are open along the right. -/
def Rs.way : Rs → Nat → Prop
  | _, 0 => True
  | .nil, _ + 1 => False
  | .atom _ r, d + 1 => r.way (d + 1)
  | .list k r, d + 1 => if r.isNil = true then k.way d else r.way (d + 1)
def Rs.rp : Rs → Nat → Nat → List Int
  | _, 0, _ => []
  | .nil, _ + 1, _ => []
  | .atom _ r, d + 1, a => r.rp (d + 1) (a + 1)
  | .list k r, d + 1, a => if r.isNil = true then (a : Int) :: k.rp d (a + 1) else r.rp (d + 1) (a + 1 + k.size)
/-- A tree more in the last open list. -/
def Rs.push : Rs → Nat → Rs → Rs
  | f, 0, x => f.app x
  | .nil, _ + 1, _ => .nil
  | .atom s r, d + 1, x => .atom s (r.push (d + 1) x)
  | .list k r, d + 1, x => if r.isNil = true then .list (k.push d x) r else .list k (r.push (d + 1) x)
theorem Rs.push_zero (f x : Rs) : f.push 0 x = f.app x := by cases f <;> rfl
theorem Rs.way_zero (f : Rs) : f.way 0 := by cases f <;> exact trivial
theorem Rs.rp_zero (f : Rs) (a : Nat) : f.rp 0 a = [] := by cases f <;> rfl
theorem Rs.push_nil : ∀ (f : Rs) (d : Nat) (x : Rs), f.way (d + 1) → (f.push (d + 1) x).isNil = false
  | .nil, _, _, h => h.elim
  | .atom _ _, _, _, _ => rfl
  | .list k r, d, x, _ => by rw [Rs.push]; split <;> rfl
theorem Rs.push_size : ∀ (f : Rs) (d : Nat) (x : Rs), f.way d → (f.push d x).size = f.size + x.size
  | f, 0, x, _ => by rw [Rs.push_zero, Rs.app_size]
  | .nil, _ + 1, _, h => h.elim
  | .atom s r, d + 1, x, h => by rw [Rs.push, Rs.size, Rs.size, Rs.push_size r (d + 1) x h]; omega
  | .list k r, d + 1, x, h => by
    rw [Rs.way] at h
    rw [Rs.push]
    by_cases c : r.isNil = true
    · rw [if_pos c] at h ⊢
      rw [Rs.size, Rs.size, Rs.push_size k d x h]; omega
    · rw [if_neg c] at h ⊢
      rw [Rs.size, Rs.size, Rs.push_size r (d + 1) x h]; omega
theorem Rs.push_roots : ∀ (f : Rs) (d : Nat) (x : Rs) (a : Nat), f.way (d + 1) → (f.push (d + 1) x).roots a = f.roots a
  | .nil, _, _, _, h => h.elim
  | .atom s r, d, x, a, h => by rw [Rs.push, Rs.roots, Rs.roots, Rs.push_roots r d x _ h]
  | .list k r, d, x, a, h => by
    rw [Rs.way] at h
    rw [Rs.push]
    by_cases c : r.isNil = true
    · rw [if_pos c]
      have := Rs.nil_of c
      subst this
      rfl
    · rw [if_neg c] at h ⊢
      rw [Rs.roots, Rs.roots, Rs.push_roots r d x _ h]
theorem Rs.push_ok : ∀ (f : Rs) (d : Nat) (x : Rs) (e : Nat), f.way d → f.ok e → x.ok (e + d) → (f.push d x).ok e
  | f, 0, x, e, _, h, hx => by rw [Rs.push_zero]; exact Rs.app_ok f x e h hx
  | .nil, _ + 1, _, _, h, _, _ => h.elim
  | .atom s r, d + 1, x, e, h, ho, hx => ⟨ho.1, ho.2.1, Rs.push_ok r (d + 1) x e h ho.2.2 hx⟩
  | .list k r, d + 1, x, e, h, ho, hx => by
    rw [Rs.way] at h
    rw [Rs.push]
    by_cases c : r.isNil = true
    · rw [if_pos c] at h ⊢
      exact ⟨ho.1, Rs.push_ok k d x (e + 1) h ho.2.1 (by rw [show e + 1 + d = e + (d + 1) from by omega]; exact hx), ho.2.2⟩
    · rw [if_neg c] at h ⊢
      exact ⟨ho.1, ho.2.1, Rs.push_ok r (d + 1) x e h ho.2.2 hx⟩
theorem Rs.push_way : ∀ (f : Rs) (d : Nat) (x : Rs) (a : Nat), f.way d → (f.push d x).way d ∧ (f.push d x).rp d a = f.rp d a
  | f, 0, x, a, _ => ⟨Rs.way_zero _, by rw [Rs.rp_zero, Rs.rp_zero]⟩
  | .nil, _ + 1, _, _, h => h.elim
  | .atom s r, d + 1, x, a, h => Rs.push_way r (d + 1) x (a + 1) h
  | .list k r, d + 1, x, a, h => by
    rw [Rs.way] at h
    rw [Rs.push]
    by_cases c : r.isNil = true
    · rw [if_pos c] at h ⊢
      obtain ⟨h1, h2⟩ := Rs.push_way k d x (a + 1) h
      rw [Rs.way, Rs.rp, Rs.rp, if_pos c, if_pos c, if_pos c, h2]
      exact ⟨h1, rfl⟩
    · rw [if_neg c] at h ⊢
      obtain ⟨h1, h2⟩ := Rs.push_way r (d + 1) x (a + 1 + k.size) h
      have hn := Rs.push_nil r d x h
      rw [Rs.way, Rs.rp, Rs.rp, if_neg (by rw [hn]; decide), if_neg (by rw [hn]; decide), if_neg c, h2]
      exact ⟨h1, rfl⟩
/-- A list more is open. -/
theorem Rs.push_list : ∀ (f : Rs) (d : Nat) (a : Nat), f.way d → (f.push d (.list .nil .nil)).way (d + 1) ∧ (f.push d (.list .nil .nil)).rp (d + 1) a = f.rp d a ++ [((a + f.size : Nat) : Int)]
  | .nil, 0, a, _ => ⟨trivial, rfl⟩
  | .atom s r, 0, a, _ => by
    obtain ⟨h1, h2⟩ := Rs.push_list r 0 (a + 1) (Rs.way_zero r)
    rw [Rs.push_zero, Rs.rp_zero] at *
    refine ⟨h1, ?_⟩
    rw [Rs.app, Rs.rp, h2, Rs.size, show a + 1 + r.size = a + (1 + r.size) from by omega]
  | .list k r, 0, a, _ => by
    obtain ⟨h1, h2⟩ := Rs.push_list r 0 (a + 1 + k.size) (Rs.way_zero r)
    rw [Rs.push_zero, Rs.rp_zero] at *
    have hn : (r.app (.list .nil .nil)).isNil = false := Rs.app_nil r _ rfl
    rw [Rs.app, Rs.way, Rs.rp, if_neg (by rw [hn]; decide), if_neg (by rw [hn]; decide), h2, Rs.size, show a + 1 + k.size + r.size = a + (1 + k.size + r.size) from by omega]
    exact ⟨h1, rfl⟩
  | .nil, _ + 1, _, h => h.elim
  | .atom s r, d + 1, a, h => by
    obtain ⟨h1, h2⟩ := Rs.push_list r (d + 1) (a + 1) h
    refine ⟨h1, ?_⟩
    rw [Rs.push, Rs.rp, h2, Rs.rp, Rs.size, show a + 1 + r.size = a + (1 + r.size) from by omega]
  | .list k r, d + 1, a, h => by
    rw [Rs.way] at h
    rw [Rs.push]
    by_cases c : r.isNil = true
    · rw [if_pos c] at h ⊢
      obtain ⟨h1, h2⟩ := Rs.push_list k d (a + 1) h
      rw [Rs.way, Rs.rp, Rs.rp, if_pos c, if_pos c, if_pos c, h2, Rs.size, List.cons_append]
      have := Rs.nil_of c
      subst this
      exact ⟨h1, by rw [Rs.size, show a + 1 + k.size = a + (1 + k.size + 0) from by omega]⟩
    · rw [if_neg c] at h ⊢
      obtain ⟨h1, h2⟩ := Rs.push_list r (d + 1) (a + 1 + k.size) h
      have hn := Rs.push_nil r d (.list .nil .nil) h
      rw [Rs.way, Rs.rp, Rs.rp, if_neg (by rw [hn]; decide), if_neg (by rw [hn]; decide), if_neg c, h2, Rs.size, show a + 1 + k.size + r.size = a + (1 + k.size + r.size) from by omega]
      exact ⟨h1, rfl⟩
/-- The last open list: where it lies, and what a tree more in it does. -/
theorem Rs.push_flat (x : Rs) (hx : ∀ b : Nat, x.roots b = [(b : Int)]) : ∀ (f : Rs) (e a : Nat), f.way (e + 1) → ∃ p : Nat, p < f.size ∧ f.rp (e + 1) a = f.rp e a ++ [((a + p : Nat) : Int)] ∧ f.way e ∧
    (f.push (e + 1) x).flat a = addN (f.flat a) p [((a + f.size : Nat) : Int)] ++ x.flat (a + f.size)
  | .nil, _, _, h => h.elim
  | .atom s r, e, a, h => by
    obtain ⟨p, h1, h2, h3, h4⟩ := Rs.push_flat x hx r e (a + 1) h
    refine ⟨p + 1, by rw [Rs.size]; omega, ?_, ?_, ?_⟩
    · rw [Rs.rp, h2, show a + 1 + p = a + (p + 1) from by omega]
      cases e with
      | zero => rw [Rs.rp_zero, Rs.rp_zero]
      | succ e => rfl
    · cases e with
      | zero => exact trivial
      | succ e => exact h3
    · rw [Rs.push, Rs.flat, Rs.flat, h4, addN_cons, List.cons_append, Rs.size, show a + 1 + r.size = a + (1 + r.size) from by omega]
  | .list k r, e, a, h => by
    rw [Rs.way] at h
    rw [Rs.push]
    by_cases c : r.isNil = true
    · rw [if_pos c] at h ⊢
      have hr := Rs.nil_of c
      subst hr
      have hs : a + 1 + k.size = a + (Rs.list k Rs.nil).size := by rw [Rs.size, Rs.size]; omega
      have F1 : ∀ d b, (Rs.list k .nil).rp (d + 1) b = (b : Int) :: k.rp d (b + 1) := fun _ _ => rfl
      have F2 : ∀ (q : Rs) b, (Rs.list q .nil).flat b = S66.mk ⟨#[]⟩ (q.roots (b + 1)) :: q.flat (b + 1) := fun q b => by rw [Rs.flat, Rs.flat, List.append_nil]
      cases e with
      | zero =>
        refine ⟨0, by rw [Rs.size]; omega, ?_, Rs.way_zero _, ?_⟩
        · rw [F1, Rs.rp_zero, Rs.rp_zero]; rfl
        · rw [Rs.push_zero, F2 (k.app x), F2 k, Rs.app_roots, Rs.app_flat, addN_zero, hx, List.cons_append, hs]
      | succ e =>
        obtain ⟨p, h1, h2, h3, h4⟩ := Rs.push_flat x hx k e (a + 1) h
        refine ⟨p + 1, by rw [Rs.size]; omega, ?_, ?_, ?_⟩
        · rw [F1, h2, F1, List.cons_append, show a + 1 + p = a + (p + 1) from by omega]
        · exact h3
        · rw [F2 (k.push (e + 1) x), F2 k, Rs.push_roots k e x _ h, h4, addN_cons, List.cons_append, hs]
    · rw [if_neg c] at h ⊢
      obtain ⟨p, h1, h2, h3, h4⟩ := Rs.push_flat x hx r e (a + 1 + k.size) h
      refine ⟨1 + k.size + p, by rw [Rs.size]; omega, ?_, ?_, ?_⟩
      · rw [Rs.rp, if_neg c, h2, show a + 1 + k.size + p = a + (1 + k.size + p) from by omega]
        cases e with
        | zero => rw [Rs.rp_zero, Rs.rp_zero]
        | succ e => rw [Rs.rp, if_neg c]
      · cases e with
        | zero => exact trivial
        | succ e => rw [Rs.way, if_neg c]; exact h3
      · rw [Rs.flat, Rs.flat, h4, show 1 + k.size + p = (k.size + p) + 1 from by omega, addN_cons]
        have := addN_right (k.flat (a + 1)) (r.flat (a + 1 + k.size)) p [((a + 1 + k.size + r.size : Nat) : Int)]
        rw [Rs.flat_len] at this
        rw [Rs.size, show a + (1 + k.size + r.size) = a + 1 + k.size + r.size from by omega, this, List.cons_append, List.append_assoc]
theorem Rs.push_one (f : Rs) (d : Nat) (x : Rs) (h : f.one) (hw : f.way (d + 1)) : (f.push (d + 1) x).one := by
  cases f with
  | nil => exact h.elim
  | atom s r =>
    have hr : r = .nil := h
    subst hr
    exact hw.elim
  | list k r =>
    have hr : r = .nil := h
    subst hr
    rfl
/-- What stands while a tree is read: the tree as far as it is, so many lists of it open. -/
def RtI (ns : List S66) (op : List Int) : Prop := ∃ (f : Rs) (d : Nat), f.way d ∧ ((f = .nil ∧ d = 0) ∨ f.one) ∧ ns = f.flat 0 ∧ op = f.rp d 0 ∧ f.ok 0
theorem RtI.nil : RtI [] [] := ⟨.nil, 0, trivial, .inl ⟨rfl, rfl⟩, rfl, rfl, trivial⟩
theorem RtI.add (ns : List S66) (op : List Int) (t : ByteArray) (ns' : List S66) (x : Rs) (hx : ∀ b : Nat, x.roots b = [(b : Int)]) (hf : ∀ b : Nat, x.flat b = [S66.mk t []]) (hone : x.one) (hok : ∀ d, d ≤ 100 → x.ok d) (f : Rs) (d : Nat) (hw : f.way d) (h1 : (f = .nil ∧ d = 0) ∨ f.one) (hns : ns = f.flat 0) (hop : op = f.rp d 0) (ho : f.ok 0)
    (h : rtBegin ns op t = some (0, ns')) : (f.push d x).one ∧ ns' = (f.push d x).flat 0 ∧ (f.push d x).ok 0 := by
  obtain ⟨g1, g2, g3⟩ := begin_form ns op t ns' h
  have hpl : ∀ (f : Rs) (d a : Nat), f.way d → (f.rp d a).length = d := by
    intro f d
    induction d with
    | zero => intro a _; rw [Rs.rp_zero]; rfl
    | succ d ih =>
      intro a hw
      obtain ⟨p, _, q2, q3, _⟩ := Rs.push_flat x hx f d a hw
      rw [q2, List.length_append, ih a q3]
      rfl
  have hd := hpl f d 0 hw
  rw [← hop] at hd
  have hok2 : (f.push d x).ok 0 := Rs.push_ok f d x 0 hw ho (by rw [Nat.zero_add]; exact hok d (by omega))
  have hlen : ns.length = f.size := by rw [hns, Rs.flat_len]
  cases d with
  | zero =>
    have eo : op = [] := List.length_eq_zero_iff.1 hd
    rcases g3 with ⟨_, en, q⟩ | g3
    · have e0 : f = .nil := by
        cases f with
        | nil => rfl
        | atom s r => rw [en] at hlen; rw [Rs.size] at hlen; simp at hlen; omega
        | list k r => rw [en] at hlen; rw [Rs.size] at hlen; simp at hlen; omega
      subst e0
      exact ⟨hone, by rw [q, Rs.push_zero, Rs.app, hf], hok2⟩
    · exact absurd eo g3.1
  | succ e =>
    obtain ⟨p, q1, q2, q3, q4⟩ := Rs.push_flat x hx f e 0 hw
    rw [Nat.zero_add] at q2 q4
    have hopp : op = f.rp e 0 ++ [(p : Int)] := hop.trans q2
    have h1' : f.one := by
      rcases h1 with ⟨_, h1⟩ | h1
      · omega
      · exact h1
    refine ⟨Rs.push_one f e x h1' hw, ?_, hok2⟩
    rcases g3 with ⟨q, _⟩ | ⟨_, g3⟩
    · rw [q] at hd; simp at hd
    · rw [g3 _ p hopp, q4, hf, hlen, hns]
theorem RtI.step : ∀ ns op ns' op', RtJ ns op → RtT ns op ns' op' → RtI ns op → RtI ns' op' := by
  rintro ns op ns' op' J hT ⟨f, d, hw, h1, hns, hop, ho⟩
  rcases hT with ⟨rfl, rfl⟩ | ⟨t, ht, hb, rfl⟩ | ⟨hb, rfl⟩ | ⟨hne, rfl, rfl⟩
  · exact ⟨f, d, hw, h1, hns, hop, ho⟩
  · obtain ⟨g1, g2, g3⟩ := RtI.add ns op' t ns' (.atom t .nil) (fun _ => rfl) (fun _ => rfl) rfl (fun d hd => ⟨hd, ht, trivial⟩) f d hw h1 hns hop ho hb
    obtain ⟨g4, g5⟩ := Rs.push_way f d (.atom t .nil) 0 hw
    exact ⟨f.push d (.atom t .nil), d, g4, .inr g1, g2, hop.trans g5.symm, g3⟩
  · obtain ⟨g1, g2, g3⟩ := RtI.add ns op ⟨#[]⟩ ns' (.list .nil .nil) (fun _ => rfl) (fun _ => rfl) rfl (fun d hd => ⟨hd, trivial, trivial⟩) f d hw h1 hns hop ho hb
    obtain ⟨g4, g5⟩ := Rs.push_list f d 0 hw
    rw [Nat.zero_add] at g5
    exact ⟨f.push d (.list .nil .nil), d + 1, g4, .inr g1, g2, by rw [g5, hop, hns, Rs.flat_len], g3⟩
  · cases d with
    | zero => rw [Rs.rp_zero] at hop; exact absurd hop hne
    | succ e =>
      obtain ⟨p, q1, q2, q3, q4⟩ := Rs.push_flat (.list .nil .nil) (fun _ => rfl) f e 0 hw
      have h1' : f.one := by
        rcases h1 with ⟨_, h1⟩ | h1
        · omega
        · exact h1
      refine ⟨f, e, q3, .inr h1', hns, ?_, ho⟩
      rw [hop, q2, List.length_append, List.length_singleton, Nat.add_sub_cancel, List.take_left']
      rfl

/-! roseRead -/
/-- From one place on the reading goes as from the other. -/
def RdR (T : ByteArray) (a : Nat) (ns : List S66) (op : List Int) (b : Nat) (ns' : List S66) (op' : List Int) : Prop :=
  ∀ r, Ev (fun k => impl_ReadTree.l0 k T (b : Int) ns' op') r → Ev (fun k => impl_ReadTree.l0 k T (a : Int) ns op) r
theorem rdR_next {T : ByteArray} {a b : Nat} {ns ns' : List S66} {op op' : List Int} (ha : a < T.size) (h : Ev (fun k => impl_scanner_next.f k T (a : Int) ns op) (0, (b : Int), ns', op')) : RdR T a ns op b ns' op' := by
  rintro r ⟨K2, h2⟩
  obtain ⟨K1, h1⟩ := h
  refine ⟨K1 + K2 + 1, fun k hk => ?_⟩
  obtain ⟨m, rfl⟩ : ∃ m, k = m + 1 := ⟨k - 1, by omega⟩
  have h1 : impl_scanner_next.f m T (a : Int) ns op = some (0, (b : Int), ns', op') := h1 m (by omega)
  have h2 : impl_ReadTree.l0 m T (b : Int) ns' op' = some r := h2 m (by omega)
  simp only [impl_ReadTree.l0]
  rw [if_pos (by omega), h1, Option.bind_some]
  dsimp only
  rw [if_pos rfl]
  exact h2
/-- What stands at a place of a text. -/
theorem drop_bt {T : ByteArray} {a : Nat} {c : UInt8} {r : List UInt8} (h : T.data.toList.drop a = c :: r) : a < T.size ∧ bt T (a : Int) = (c.toNat : Int) ∧ T.data.toList.drop (a + 1) = r := by
  have h1 : T.data.toList[a]? = some c := by
    have := congrArg (fun l => l[0]?) h
    simpa using this
  have h2 : a < T.data.toList.length := (List.getElem?_eq_some_iff.1 h1).1
  refine ⟨by simpa using h2, by rw [bt_L, List.getD_eq_getElem?_getD, h1]; rfl, ?_⟩
  have := congrArg (List.drop 1) h
  rw [List.drop_drop] at this
  exact this
theorem rdR_space {T : ByteArray} (hT : T.size ≤ 20000) {a : Nat} {ns : List S66} {op : List Int} {r : List UInt8} (h : T.data.toList.drop a = 32 :: r) : RdR T a ns op (a + 1) ns op := by
  obtain ⟨h1, h2, _⟩ := drop_bt h
  have h2 : bt T (a : Int) = 32 := h2
  refine rdR_next h1 ⟨0, fun k _ => ?_⟩
  have hw : wrap64 ((a : Int) + 1) = ((a + 1 : Nat) : Int) := wrap_next a (by omega)
  simp only [impl_scanner_next.f]
  rw [if_pos (Int.natCast_nonneg a), if_pos (by omega), h2, hw]
  rfl
theorem rdR_open {T : ByteArray} (hT : T.size ≤ 20000) {a : Nat} {ns ns' : List S66} {op : List Int} {r : List UInt8} (h : T.data.toList.drop a = 40 :: r) (hb : rtBegin ns op ⟨#[]⟩ = some (0, ns')) (hl : ns'.length = ns.length + 1) (hn : ns.length ≤ 4000) (ho : op.length ≤ 4000) :
    RdR T a ns op (a + 1) ns' (op ++ [(ns.length : Int)]) := by
  obtain ⟨h1, h2, _⟩ := drop_bt h
  have h2 : bt T (a : Int) = 40 := h2
  refine rdR_next h1 ⟨0, fun k _ => ?_⟩
  have hw : wrap64 ((a : Int) + 1) = ((a + 1 : Nat) : Int) := wrap_next a (by omega)
  have hwl : wrap64 ((ns'.length : Int) - 1) = (ns.length : Int) := by rw [hl, wrap64_id (by omega) (by omega)]; omega
  simp only [impl_scanner_next.f]
  rw [if_pos (Int.natCast_nonneg a), if_pos (by omega), h2, if_neg (by decide), if_neg (by decide), if_neg (by decide), if_pos rfl, hb, Option.bind_some]
  dsimp only
  rw [if_pos rfl, if_pos (by omega), hwl, hw]
theorem rdR_close {T : ByteArray} (hT : T.size ≤ 20000) {a : Nat} {ns : List S66} {o : List Int} {p : Int} {r : List UInt8} (h : T.data.toList.drop a = 41 :: r) : RdR T a ns (o ++ [p]) (a + 1) ns o := by
  obtain ⟨h1, h2, _⟩ := drop_bt h
  have h2 : bt T (a : Int) = 41 := h2
  refine rdR_next h1 ⟨0, fun k _ => ?_⟩
  have hw : wrap64 ((a : Int) + 1) = ((a + 1 : Nat) : Int) := wrap_next a (by omega)
  have hl : (o ++ [p]).length = o.length + 1 := by rw [List.length_append]; rfl
  have ht : (o ++ [p]).take ((o ++ [p]).length - 1) = o := by rw [hl, Nat.add_sub_cancel, List.take_left' rfl]
  simp only [impl_scanner_next.f]
  rw [if_pos (Int.natCast_nonneg a), if_pos (by omega), h2, if_neg (by decide), if_neg (by decide), if_neg (by decide), if_neg (by decide), if_pos rfl, if_neg (by omega), ht, hw]
theorem bytes_ext {s u : ByteArray} (h : s.data.toList = u.data.toList) : s = u := by
  cases s
  cases u
  congr 1
  exact Array.toList_inj.1 h
theorem atom_at {T s : ByteArray} {a : Nat} {r : List UInt8} (h : T.data.toList.drop a = s.data.toList ++ r) : a + s.size ≤ max T.size a ∧ (∀ j : Nat, j < s.size → bt T ((a + j : Nat) : Int) = bt s (j : Int)) ∧ T.extract a (a + s.size) = s ∧ T.data.toList.drop (a + s.size) = r := by
  have hs : s.data.toList.length = s.size := by rw [Array.length_toList]; rfl
  have hT : T.data.toList.length = T.size := by rw [Array.length_toList]; rfl
  have hl := congrArg List.length h
  rw [List.length_drop, List.length_append, hs, hT] at hl
  refine ⟨by omega, fun j hj => ?_, ?_, ?_⟩
  · rw [bt_L, bt_L, List.getD_eq_getElem?_getD, List.getD_eq_getElem?_getD]
    have := congrArg (fun l => l[j]?) h
    simp only [List.getElem?_drop] at this
    rw [this, List.getElem?_append_left (by omega)]
  · refine bytes_ext ?_
    rw [Lib.extract_data, h, Nat.add_sub_cancel_left, ← hs, List.take_left' rfl]
  · have := congrArg (List.drop s.size) h
    rw [List.drop_drop] at this
    rw [this, ← hs, List.drop_left' rfl]
/-- What stands behind ends an atom. -/
def EndA (rest : List UInt8) : Prop := ∀ c r, rest = c :: r → isA (c.toNat : Int) = false
theorem rdR_atom {T : ByteArray} (hT : T.size ≤ 20000) {a : Nat} {ns ns' : List S66} {op : List Int} {s : ByteArray} {r : List UInt8} (hs : atomS s) (h : T.data.toList.drop a = s.data.toList ++ r) (hr : EndA r) (hb : rtBegin ns op s = some (0, ns')) : RdR T a ns op (a + s.size) ns' op := by
  obtain ⟨g1, g2, g3, g4⟩ := atom_at h
  have hpos := hs.1
  have hle : a + s.size ≤ T.size := by omega
  obtain ⟨e, q1, q2, q3, q4, _, ⟨K, q6⟩⟩ := end_agree T (by omega) _ a rfl (by omega)
  have he : e = a + s.size := by
    rcases Nat.lt_trichotomy e (a + s.size) with hlt | heq | hgt
    · exfalso
      have h1 := g2 (e - a) (by omega)
      have h2 := hs.2 (e - a) (by omega)
      rw [show a + (e - a) = e from by omega] at h1
      rcases q4 with q4 | q4
      · omega
      · rw [h1, h2] at q4; cases q4
    · exact heq
    · exfalso
      have h1 := q3 (a + s.size) (by omega) hgt
      cases hr2 : r with
      | nil =>
        rw [hr2] at g4
        have := congrArg List.length g4
        rw [List.length_drop, Array.length_toList] at this
        have h3 : T.data.size = T.size := rfl
        simp only [List.length_nil] at this
        omega
      | cons c r2 =>
        rw [hr2] at g4
        obtain ⟨_, h2, _⟩ := drop_bt g4
        rw [h2, hr c r2 hr2] at h1
        cases h1
  subst he
  have h0 := g2 0 hpos
  have h0b := hs.2 0 hpos
  rw [Nat.add_zero] at h0
  obtain ⟨c, hc⟩ : ∃ c, bt T (a : Int) = c := ⟨_, rfl⟩
  have hA : isA c = true := by rw [← hc, h0]; exact h0b
  have hcc : 33 ≤ c ∧ c ≤ 126 ∧ c ≠ 40 ∧ c ≠ 41 ∧ c ≠ 59 := of_decide_eq_true hA
  refine rdR_next (by omega) ⟨K, fun k hk => ?_⟩
  have q6 : impl_scanner_next.l1 k T (a : Int) = some ((a + s.size : Nat) : Int) := q6 k hk
  simp only [impl_scanner_next.f]
  rw [if_pos (Int.natCast_nonneg a), if_pos (by omega), hc, if_neg (by omega), if_neg (by omega), if_neg (by omega), if_neg (by omega), if_neg (by omega), atomByte_is, hA, Option.bind_some, if_pos rfl, q6, Option.bind_some, if_pos (by omega), if_pos (by omega), Int.toNat_natCast, Int.toNat_natCast, g3, hb]
  rfl
theorem Rs.txt_end (f : Rs) (rest : List UInt8) (h : EndA rest) : EndA (f.txt false ++ rest) := by
  intro c r e
  cases f with
  | nil => exact h c r e
  | atom s f =>
    have := (List.cons.inj (show (32 : UInt8) :: _ = c :: r from e)).1
    subst this
    exact decide_eq_false (by decide)
  | list k f =>
    have := (List.cons.inj (show (32 : UInt8) :: _ = c :: r from e)).1
    subst this
    exact decide_eq_false (by decide)
/-- A forest's text is read as the forest, in the last open list. -/
theorem read_rose (T : ByteArray) (hT : T.size ≤ 20000) : ∀ (f : Rs) (b : Bool) (a : Nat) (ns : List S66) (o : List Int) (p : Nat) (rest : List UInt8), p < ns.length → f.ok (o.length + 1) → ns.length + f.size ≤ 2000 → (ns.getD p z66).f1.length + f.size ≤ 4000 →
    T.data.toList.drop a = f.txt b ++ rest → EndA rest → RdR T a ns (o ++ [(p : Int)]) (a + (f.txt b).length) (addN ns p (f.roots ns.length) ++ f.flat ns.length) (o ++ [(p : Int)]) ∧ T.data.toList.drop (a + (f.txt b).length) = rest := by
  have sep : ∀ (b : Bool) (a : Nat) (ns : List S66) (op : List Int) (L : List UInt8), T.data.toList.drop a = (if b then [] else [32]) ++ L → ∃ a1, a1 = a + (if b then ([] : List UInt8) else [32]).length ∧ RdR T a ns op a1 ns op ∧ T.data.toList.drop a1 = L := by
    intro b a ns op L h
    cases b with
    | true => exact ⟨a, rfl, fun r hr => hr, h⟩
    | false => exact ⟨a + 1, rfl, rdR_space hT h, (drop_bt h).2.2⟩
  intro f
  induction f with
  | nil =>
    intro b a ns o p rest hp _ _ _ h _
    refine ⟨?_, h⟩
    rw [Rs.roots, Rs.flat, addN_nil ns p hp, List.append_nil]
    exact fun r hr => hr
  | atom s r ih =>
    intro b a ns o p rest hp hok hn hk h hr
    rw [Rs.txt, List.append_assoc, List.append_assoc] at h
    rw [Rs.size] at hn hk
    obtain ⟨a1, e1, h1, h2⟩ := sep b a ns (o ++ [(p : Int)]) _ h
    have hbg := begin_in ns o p s hp (by have := hok.1; omega) (by omega) (by omega)
    have h3 := rdR_atom hT hok.2.1 h2 (Rs.txt_end r rest hr) hbg
    obtain ⟨_, _, _, h4⟩ := atom_at h2
    have hl1 : (addN ns p [(ns.length : Int)] ++ [S66.mk s []]).length = ns.length + 1 := by rw [List.length_append, addN_len]; rfl
    have hp1 : p < (addN ns p [(ns.length : Int)]).length := by rw [addN_len]; exact hp
    have hg : (addN ns p [(ns.length : Int)] ++ [S66.mk s []]).getD p z66 = (addN ns p [(ns.length : Int)]).getD p z66 := by
      rw [List.getD_eq_getElem?_getD, List.getElem?_append_left hp1, ← List.getD_eq_getElem?_getD]
    obtain ⟨h5, h6⟩ := ih false (a1 + s.size) (addN ns p [(ns.length : Int)] ++ [S66.mk s []]) o p rest (by rw [hl1]; omega) hok.2.2 (by rw [hl1]; omega) (by
      rw [hg, addN_get ns p _ hp]
      show ((ns.getD p z66).f1 ++ [(ns.length : Int)]).length + r.size ≤ 4000
      rw [List.length_append, List.length_singleton]; omega) h4 hr
    have hs : s.data.toList.length = s.size := by rw [Array.length_toList]; rfl
    have hpos : a + ((Rs.atom s r).txt b).length = a1 + s.size + (r.txt false).length := by
      rw [Rs.txt, List.length_append, List.length_append, hs, e1]; omega
    rw [hpos]
    refine ⟨fun q hq => h1 q (h3 q (h5 q ?_)), h6⟩
    rw [hl1, addN_left _ _ p _ hp1, addN_addN ns p _ _ hp, List.append_assoc]
    rw [Rs.roots, Rs.flat] at hq
    exact hq
  | list kd r ihk ihr =>
    intro b a ns o p rest hp hok hn hk h hr
    rw [Rs.txt, List.append_assoc] at h
    rw [Rs.size] at hn hk
    obtain ⟨a1, e1, h1, h2⟩ := sep b a ns (o ++ [(p : Int)]) _ h
    have h2 : T.data.toList.drop a1 = 40 :: (kd.txt true ++ (41 :: (r.txt false ++ rest))) := by
      rw [h2]
      simp only [List.append_assoc, List.cons_append, List.nil_append]
    have hbg := begin_in ns o p ⟨#[]⟩ hp (by have := hok.1; omega) (by omega) (by omega)
    have hl1 : (addN ns p [(ns.length : Int)] ++ [S66.mk ⟨#[]⟩ []]).length = ns.length + 1 := by rw [List.length_append, addN_len]; rfl
    have hp1 : p < (addN ns p [(ns.length : Int)]).length := by rw [addN_len]; exact hp
    have hol : (o ++ [(p : Int)]).length = o.length + 1 := by rw [List.length_append]; rfl
    have h3 := rdR_open hT h2 hbg hl1 (by omega) (by have := hok.1; omega)
    have hgn : (addN ns p [(ns.length : Int)] ++ [S66.mk ⟨#[]⟩ []]).getD ns.length z66 = S66.mk ⟨#[]⟩ [] := by
      rw [List.getD_eq_getElem?_getD, List.getElem?_append_right (by rw [addN_len]; exact Nat.le_refl _), addN_len, Nat.sub_self]; rfl
    obtain ⟨h5, h6⟩ := ihk true (a1 + 1) (addN ns p [(ns.length : Int)] ++ [S66.mk ⟨#[]⟩ []]) (o ++ [(p : Int)]) ns.length (41 :: (r.txt false ++ rest)) (by rw [hl1]; omega) (by rw [hol]; exact hok.2.1) (by rw [hl1]; omega) (by
      rw [hgn]
      show ([] : List Int).length + kd.size ≤ 4000
      rw [List.length_nil]; omega) (drop_bt h2).2.2 (by
        intro c q e
        have := (List.cons.inj e).1
        subst this
        exact decide_eq_false (by decide))
    have h7 := rdR_close hT (ns := addN (addN ns p [(ns.length : Int)] ++ [S66.mk ⟨#[]⟩ []]) ns.length (kd.roots (addN ns p [(ns.length : Int)] ++ [S66.mk ⟨#[]⟩ []]).length) ++ kd.flat (addN ns p [(ns.length : Int)] ++ [S66.mk ⟨#[]⟩ []]).length) (o := o ++ [(p : Int)]) (p := (ns.length : Int)) h6
    have h8 := (drop_bt h6).2.2
    have hN : addN (addN ns p [(ns.length : Int)] ++ [S66.mk ⟨#[]⟩ []]) ns.length (kd.roots (addN ns p [(ns.length : Int)] ++ [S66.mk ⟨#[]⟩ []]).length) ++ kd.flat (addN ns p [(ns.length : Int)] ++ [S66.mk ⟨#[]⟩ []]).length
        = addN ns p [(ns.length : Int)] ++ (S66.mk ⟨#[]⟩ (kd.roots (ns.length + 1)) :: kd.flat (ns.length + 1)) := by
      rw [hl1]
      have := addN_right (addN ns p [(ns.length : Int)]) [S66.mk ⟨#[]⟩ []] 0 (kd.roots (ns.length + 1))
      rw [addN_len, Nat.add_zero, addN_zero] at this
      rw [this, List.append_assoc]
      rfl
    rw [hN] at h5 h7
    have hl2 : (addN ns p [(ns.length : Int)] ++ (S66.mk ⟨#[]⟩ (kd.roots (ns.length + 1)) :: kd.flat (ns.length + 1))).length = ns.length + 1 + kd.size := by
      rw [List.length_append, addN_len, List.length_cons, Rs.flat_len]; omega
    have hg : (addN ns p [(ns.length : Int)] ++ (S66.mk ⟨#[]⟩ (kd.roots (ns.length + 1)) :: kd.flat (ns.length + 1))).getD p z66 = (addN ns p [(ns.length : Int)]).getD p z66 := by
      rw [List.getD_eq_getElem?_getD, List.getElem?_append_left hp1, ← List.getD_eq_getElem?_getD]
    obtain ⟨h9, h10⟩ := ihr false _ (addN ns p [(ns.length : Int)] ++ (S66.mk ⟨#[]⟩ (kd.roots (ns.length + 1)) :: kd.flat (ns.length + 1))) o p rest (by rw [hl2]; omega) hok.2.2 (by rw [hl2]; omega) (by
      rw [hg, addN_get ns p _ hp]
      show ((ns.getD p z66).f1 ++ [(ns.length : Int)]).length + r.size ≤ 4000
      rw [List.length_append, List.length_singleton]; omega) h8 hr
    have hpos : a + ((Rs.list kd r).txt b).length = a1 + 1 + (kd.txt true).length + 1 + (r.txt false).length := by
      rw [Rs.txt, List.length_append, List.length_append, List.length_append, List.length_append, e1, List.length_singleton, List.length_singleton]; omega
    rw [hpos]
    refine ⟨fun q hq => h1 q (h3 q (h5 q (h7 q (h9 q ?_)))), h10⟩
    rw [hl2, addN_left _ _ p _ hp1, addN_addN ns p _ _ hp, List.append_assoc]
    rw [Rs.roots, Rs.flat] at hq
    exact hq
theorem read_end {T : ByteArray} {a : Nat} {ns : List S66} (ha : T.data.toList.drop a = []) (hn : ns ≠ []) : Ev (fun k => impl_ReadTree.l0 k T (a : Int) ns []) (ns, 0, 0) := by
  have h : T.size ≤ a := by
    have := congrArg List.length ha
    rw [List.length_drop, Array.length_toList] at this
    have h3 : T.data.size = T.size := rfl
    simp only [List.length_nil] at this
    omega
  exact Ev.step (f := fun _ => some (ns, 0, 0)) (fun k => by
    simp only [impl_ReadTree.l0]
    rw [if_neg (by omega), if_neg (by simp), if_neg (fun h => hn (List.length_eq_zero_iff.1 h))]) (Ev.now _)
/-- A tree's text is read as the tree. -/
theorem read_one (T : ByteArray) (hT : T.size ≤ 20000) (f : Rs) (h1 : f.one) (ho : f.ok 0) (hs : f.size ≤ 2000) (h : T.data.toList = f.txt true) : Ev (fun k => impl_ReadTree.f k T) (f.flat 0, 0, 0) := by
  have hend : EndA [] := fun c r e => by cases e
  refine Ev.congr (f := fun k => impl_ReadTree.l0 k T ((0 : Nat) : Int) [] []) (fun k => by unfold impl_ReadTree.f; rw [if_neg (by omega)]; rfl) ?_
  cases f with
  | nil => exact h1.elim
  | atom s r =>
    have hr : r = .nil := h1
    subst hr
    have h : T.data.toList.drop 0 = s.data.toList ++ [] := by rw [List.drop_zero, h]; rfl
    have g1 := rdR_atom hT (ns := []) (op := []) ho.2.1 h hend (begin_top s)
    obtain ⟨_, _, _, g2⟩ := atom_at h
    exact g1 _ (read_end g2 (by simp))
  | list kd r =>
    have hr : r = .nil := h1
    subst hr
    have h : T.data.toList.drop 0 = 40 :: (kd.txt true ++ (41 :: [])) := by rw [List.drop_zero, h]; rfl
    have g1 := rdR_open hT (ns := []) (op := []) h (begin_top ⟨#[]⟩) rfl (by simp) (by simp)
    rw [Rs.size, Rs.size] at hs
    obtain ⟨g2, g3⟩ := read_rose T hT kd true (0 + 1) [S66.mk ⟨#[]⟩ []] [] 0 (41 :: []) (by simp) ho.2.1 (by simp; omega) (by show ([] : List Int).length + _ ≤ _; simp; omega) (drop_bt h).2.2 (by
        intro c q e
        have := (List.cons.inj e).1
        subst this
        exact decide_eq_false (by decide))
    have g4 := rdR_close hT (ns := addN [S66.mk ⟨#[]⟩ []] 0 (kd.roots 1) ++ kd.flat 1) (o := []) (p := ((0 : Nat) : Int)) g3
    refine g1 _ (g2 _ (g4 _ ?_))
    have he := read_end (ns := addN [S66.mk ⟨#[]⟩ []] 0 (kd.roots 1) ++ kd.flat 1) (drop_bt g3).2.2 (by rw [addN_zero]; simp)
    have e2 : (Rs.list kd Rs.nil).flat 0 = addN [S66.mk ⟨#[]⟩ []] 0 (kd.roots 1) ++ kd.flat 1 := by
      rw [Rs.flat, Rs.flat, List.append_nil, addN_zero]; rfl
    rw [e2]
    exact he

/-! roseAt -/
theorem drop_rd {t r : List S66} {a : Nat} {x : S66} (h : t.drop a = x :: r) : a < t.length ∧ rd_T66 t (a : Int) = x ∧ t.drop (a + 1) = r := by
  have h1 : t[a]? = some x := by
    have := congrArg (fun l => l[0]?) h
    simpa using this
  refine ⟨(List.getElem?_eq_some_iff.1 h1).1, ?_, ?_⟩
  · unfold rd_T66
    rw [List.getD_eq_getElem?_getD, Int.toNat_natCast, h1]
    rfl
  · have := congrArg (List.drop 1) h
    rw [List.drop_drop] at this
    exact this
theorem drop_ri {t r : List Int} {a : Nat} {x : Int} (h : t.drop a = x :: r) : a < t.length ∧ rd t (a : Int) = x ∧ t.drop (a + 1) = r := by
  have h1 : t[a]? = some x := by
    have := congrArg (fun l => l[0]?) h
    simpa using this
  refine ⟨(List.getElem?_eq_some_iff.1 h1).1, ?_, ?_⟩
  · unfold rd
    rw [List.getD_eq_getElem?_getD, Int.toNat_natCast, h1]
    rfl
  · have := congrArg (List.drop 1) h
    rw [List.drop_drop] at this
    exact this
theorem atom_text {s : ByteArray} (h : atomS s) : ¬ s.toList = ([] : List UInt8) := fun e => by
  have := (toList_nil s).1 e
  have := h.1
  omega
theorem empty_text : (⟨#[]⟩ : ByteArray).toList = ([] : List UInt8) := (toList_nil _).2 rfl
theorem seg_drop (f : Rs) (t rest : List S66) (a : Nat) (h : t.drop a = f.flat a ++ rest) : t.drop (a + f.size) = rest := by
  have := congrArg (List.drop f.size) h
  rw [List.drop_drop, ← Rs.flat_len f a, List.drop_left' rfl, Rs.flat_len] at this
  exact this
theorem seg_le (f : Rs) (t rest : List S66) (a : Nat) (h : t.drop a = f.flat a ++ rest) : a + f.size ≤ max t.length a := by
  have := congrArg List.length h
  rw [List.length_drop, List.length_append, Rs.flat_len] at this
  omega
theorem Rs.one_roots {f : Rs} (h : f.one) (a : Nat) : f.roots a = [(a : Int)] := by
  cases f with
  | nil => exact h.elim
  | atom s r => have hr : r = .nil := h; subst hr; rfl
  | list k r => have hr : r = .nil := h; subst hr; rfl

/-! roseText -/
theorem Rs.txt_len (M : Nat) : ∀ (f : Rs) (a : Nat) (b : Bool), (∀ x ∈ f.flat a, x.f0.size ≤ M) → (f.txt b).length ≤ f.size * (M + 4)
  | .nil, _, _, _ => Nat.zero_le _
  | .atom s r, a, b, h => by
    have h1 := h (S66.mk s []) (by rw [Rs.flat]; exact List.mem_cons_self ..)
    have h2 := Rs.txt_len M r (a + 1) false (fun x hx => h x (by rw [Rs.flat]; exact List.mem_cons_of_mem _ hx))
    have h1 : s.size ≤ M := h1
    have hs : s.data.toList.length = s.size := by rw [Array.length_toList]; rfl
    rw [Rs.txt, List.length_append, List.length_append, hs, Rs.size, Nat.add_mul, Nat.one_mul]
    have : (if b = true then ([] : List UInt8) else [32]).length ≤ 1 := by cases b <;> decide
    omega
  | .list k r, a, b, h => by
    have h2 := Rs.txt_len M r (a + 1 + k.size) false (fun x hx => h x (by rw [Rs.flat]; exact List.mem_cons_of_mem _ (List.mem_append_right _ hx)))
    have h3 := Rs.txt_len M k (a + 1) true (fun x hx => h x (by rw [Rs.flat]; exact List.mem_cons_of_mem _ (List.mem_append_left _ hx)))
    rw [Rs.txt, List.length_append, List.length_append, List.length_append, List.length_append, Rs.size, Nat.add_mul, Nat.add_mul, Nat.one_mul, List.length_singleton, List.length_singleton]
    have : (if b = true then ([] : List UInt8) else [32]).length ≤ 1 := by cases b <;> decide
    omega
/-- A forest is written. -/
theorem write_rose (t : List S66) (hl : t.length ≤ 1048576) : ∀ (f : Rs) (a d : Nat) (kids : List Int) (i : Nat) (out : List UInt8) (rest : List S66), kids.length ≤ 1048576 → kids.drop i = f.roots a → i ≤ kids.length → t.drop a = f.flat a ++ rest → f.ok d →
    out.length + (f.txt (decide (i = 0))).length + 10 ≤ 100000000000000 → Ev (fun k => impl_Tree_write.l0 k t kids (i : Int) out) (out ++ (f.txt (decide (i = 0)) ++ [41])) := by
  have sep : ∀ (kids : List Int) (i a : Nat) (out : List UInt8) (X r : List UInt8), i < kids.length → kids.length ≤ 1048576 → rd kids (i : Int) = (a : Int) → out.length + 10 ≤ 100000000000000 →
      Ev (fun k => impl_Tree_write.f k t (a : Int) (out ++ (if decide (i = 0) then [] else [32]))) X → Ev (fun k => impl_Tree_write.l0 k t kids ((i + 1 : Nat) : Int) X) r → Ev (fun k => impl_Tree_write.l0 k t kids (i : Int) out) r := by
    rintro kids i a out X r hi hkl hrd ho ⟨K1, h1⟩ ⟨K2, h2⟩
    refine ⟨K1 + K2 + 1, fun k hk => ?_⟩
    obtain ⟨m, rfl⟩ : ∃ m, k = m + 1 := ⟨k - 1, by omega⟩
    have h1 := h1 m (by omega)
    have h2 : impl_Tree_write.l0 m t kids ((i + 1 : Nat) : Int) X = some r := h2 m (by omega)
    dsimp only at h1
    have hw : wrap64 ((i : Int) + 1) = ((i + 1 : Nat) : Int) := wrap_next i (by omega)
    simp only [impl_Tree_write.l0]
    rw [if_pos (by omega), if_pos (by omega), hrd, hw]
    by_cases c : i = 0
    · rw [decide_eq_true c] at h1
      rw [if_neg (by omega)]
      rw [if_pos rfl, List.append_nil] at h1
      rw [h1, Option.bind_some]
      exact h2
    · rw [decide_eq_false c] at h1
      rw [if_pos (by omega), if_pos (by omega)]
      rw [if_neg (by decide)] at h1
      rw [h1, Option.bind_some]
      exact h2
  intro f
  induction f with
  | nil =>
    intro a d kids i out rest hkl hk hi ht ho hlen
    rw [Rs.roots] at hk
    have hi2 : kids.length ≤ i := List.drop_eq_nil_iff.1 hk
    refine Ev.step (f := fun _ => some (out ++ [41])) (fun k => ?_) (Ev.now _)
    simp only [impl_Tree_write.l0]
    rw [if_neg (by omega), if_pos (by omega)]
  | atom s r ih =>
    intro a d kids i out rest hkl hk hi ht ho hlen
    rw [Rs.roots] at hk
    obtain ⟨k1, k2, k3⟩ := drop_ri hk
    rw [Rs.flat, List.cons_append] at ht
    obtain ⟨t1, t2, t3⟩ := drop_rd ht
    have hs : s.data.toList.length = s.size := by rw [Array.length_toList]; rfl
    rw [Rs.txt, List.length_append, List.length_append, hs] at hlen
    have hd : decide (i + 1 = 0) = false := decide_eq_false (by omega)
    have h1 := ih (a + 1) d kids (i + 1) ((out ++ (if decide (i = 0) then [] else [32])) ++ s.data.toList) rest hkl k3 (by omega) t3 ho.2.2 (by rw [hd, List.length_append, List.length_append, hs]; omega)
    rw [hd] at h1
    refine sep kids i a out _ _ k1 hkl k2 (by omega) (Ev.step (f := fun _ => some ((out ++ (if decide (i = 0) then [] else [32])) ++ s.data.toList)) (fun k => ?_) (Ev.now _)) ?_
    · simp only [impl_Tree_write.f]
      rw [if_pos (by omega), if_pos (by omega), t2]
      dsimp only
      rw [if_neg (atom_text ho.2.1), if_pos (by rw [List.length_append]; omega)]
    · rw [Rs.txt]
      simp only [List.append_assoc] at h1 ⊢
      exact h1
  | list kd r ihk ihr =>
    intro a d kids i out rest hkl hk hi ht ho hlen
    rw [Rs.roots] at hk
    obtain ⟨k1, k2, k3⟩ := drop_ri hk
    rw [Rs.flat, List.cons_append, List.append_assoc] at ht
    obtain ⟨t1, t2, t3⟩ := drop_rd ht
    rw [Rs.txt, List.length_append, List.length_append, List.length_append, List.length_append, List.length_singleton, List.length_singleton] at hlen
    have hd : decide (i + 1 = 0) = false := decide_eq_false (by omega)
    have hrl := Rs.roots_len kd (a + 1)
    have hsl := seg_le kd t _ (a + 1) t3
    have h0 := ihk (a + 1) (d + 1) (kd.roots (a + 1)) 0 ((out ++ (if decide (i = 0) then [] else [32])) ++ [40]) _ (by omega) rfl (Nat.zero_le _) t3 ho.2.1 (by
      rw [List.length_append, List.length_append, List.length_singleton]
      show _ + (kd.txt true).length + 10 ≤ _
      omega)
    have h0 : Ev (fun k => impl_Tree_write.l0 k t (kd.roots (a + 1)) 0 ((out ++ (if decide (i = 0) then [] else [32])) ++ [40])) (((out ++ (if decide (i = 0) then [] else [32])) ++ [40]) ++ (kd.txt true ++ [41])) := h0
    have h1 := ihr (a + 1 + kd.size) d kids (i + 1) (((out ++ (if decide (i = 0) then [] else [32])) ++ [40]) ++ (kd.txt true ++ [41])) rest hkl k3 (by omega) (seg_drop kd t _ (a + 1) t3) ho.2.2 (by rw [hd]; simp only [List.length_append, List.length_singleton]; omega)
    rw [hd] at h1
    refine sep kids i a out _ _ k1 hkl k2 (by omega) (Ev.step (fun k => ?_) h0) ?_
    · simp only [impl_Tree_write.f]
      rw [if_pos (by omega), if_pos (by omega), t2]
      dsimp only
      rw [if_pos empty_text, if_pos (by rw [List.length_append]; omega)]
    · rw [Rs.txt]
      simp only [List.append_assoc] at h1 ⊢
      exact h1
theorem write_one (f : Rs) (h1 : f.one) (ho : f.ok 0) (hl : f.size ≤ 1048576) (hlen : (f.txt true).length + 100 ≤ 100000000000000) : Ev (fun k => impl_Tree_write.f k (f.flat 0) 0 []) (f.txt true) := by
  have hfl := Rs.flat_len f 0
  cases f with
  | nil => exact h1.elim
  | atom s r =>
    have hr : r = .nil := h1
    subst hr
    have hs : s.data.toList.length = s.size := by rw [Array.length_toList]; rfl
    have e : (Rs.atom s .nil).txt true = s.data.toList := by rw [Rs.txt, Rs.txt, List.append_nil]; rfl
    rw [e, hs] at hlen
    rw [e]
    refine Ev.step (f := fun _ => some s.data.toList) (fun k => ?_) (Ev.now _)
    simp only [impl_Tree_write.f]
    rw [if_pos (Int.le_refl 0), if_pos (by rw [hfl, Rs.size]; omega), show rd_T66 ((Rs.atom s .nil).flat 0) 0 = S66.mk s [] from rfl]
    dsimp only
    rw [if_neg (atom_text ho.2.1), if_pos (by simp only [List.length_nil]; omega)]
    rfl
  | list kd r =>
    have hr : r = .nil := h1
    subst hr
    have e : (Rs.list kd .nil).txt true = [40] ++ (kd.txt true ++ [41]) := by rw [Rs.txt, Rs.txt, List.append_nil]; rfl
    rw [e] at hlen ⊢
    have hf : (Rs.list kd .nil).flat 0 = S66.mk ⟨#[]⟩ (kd.roots 1) :: kd.flat 1 := by rw [Rs.flat, Rs.flat, List.append_nil]
    have hrl := Rs.roots_len kd 1
    rw [Rs.size, Rs.size] at hl
    have h0 := write_rose ((Rs.list kd .nil).flat 0) (by rw [hfl, Rs.size, Rs.size]; omega) kd 1 1 (kd.roots 1) 0 [40] [] (by omega) rfl (Nat.zero_le _) (by rw [hf, List.append_nil]; rfl) ho.2.1 (by
      show ([40] : List UInt8).length + (kd.txt true).length + 10 ≤ _
      simp only [List.length_append, List.length_singleton] at hlen ⊢
      omega)
    refine Ev.step (fun k => ?_) h0
    simp only [impl_Tree_write.f]
    rw [if_pos (Int.le_refl 0), if_pos (by rw [hfl, Rs.size, Rs.size]; omega), show rd_T66 ((Rs.list kd .nil).flat 0) 0 = S66.mk ⟨#[]⟩ (kd.roots 1) from by rw [hf]; rfl]
    dsimp only
    rw [if_pos empty_text, if_pos (by simp only [List.length_nil]; omega)]
    rfl

/-! roseWalk -/
theorem l2Atom_all (s : ByteArray) (hs : s.size ≤ 1048576) (h : Ev (fun k => spec_l2Atom.f k s) true) : atomS s := by
  have main : ∀ d i : Nat, s.size - i = d → i ≤ s.size → Ev (fun k => spec_l2Atom.l0 k s (i : Int)) true → (∀ j : Nat, i ≤ j → j < s.size → isA (bt s (j : Int)) = true) ∧ 0 < s.size := by
    intro d
    induction d with
    | zero =>
      intro i hd hi h
      refine ⟨fun j h1 h2 => by omega, ?_⟩
      have h2 : Ev (fun k => spec_l2Atom.l0 k s (i : Int)) (decide ((s.size : Int) > 0)) := Ev.step (f := fun _ => some (decide ((s.size : Int) > 0))) (fun k => by simp only [spec_l2Atom.l0]; rw [if_neg (by omega)]) (Ev.now _)
      have := of_decide_eq_true (Ev.uniq h2 h)
      omega
    | succ d ih =>
      intro i hd hi h
      obtain ⟨c, hc⟩ : ∃ c, bt s (i : Int) = c := ⟨_, rfl⟩
      have no : ¬ (33 ≤ c ∧ c ≤ 126 ∧ c ≠ 40 ∧ c ≠ 41 ∧ c ≠ 59) → False := fun hn => by
        have h2 : Ev (fun k => spec_l2Atom.l0 k s (i : Int)) false := Ev.step (f := fun _ => some false) (fun k => by
          simp only [spec_l2Atom.l0, hc]
          rw [if_pos (by omega), if_pos (by omega)]
          by_cases c1 : c < 33
          · rw [if_pos c1]
          · rw [if_neg c1]
            by_cases c2 : c > 126
            · rw [if_pos c2]
            · rw [if_neg c2]
              by_cases c3 : c = 40
              · rw [if_pos c3]
              · rw [if_neg c3]
                by_cases c4 : c = 41
                · rw [if_pos c4]
                · rw [if_neg c4, if_pos (by omega)]) (Ev.now _)
        exact absurd (Ev.uniq h2 h) (by decide)
      by_cases hA : 33 ≤ c ∧ c ≤ 126 ∧ c ≠ 40 ∧ c ≠ 41 ∧ c ≠ 59
      · clear no
        obtain ⟨K, h⟩ := h
        have hw : True → wrap64 ((i : Int) + 1) = ((i + 1 : Nat) : Int) := fun _ => wrap_next i (by omega)
        have h3 : Ev (fun k => spec_l2Atom.l0 k s ((i + 1 : Nat) : Int)) true := ⟨K, fun k hk => by
          have h := h (k + 1) (by omega)
          dsimp only at h
          simp only [spec_l2Atom.l0, hc] at h
          rw [if_pos (by omega), if_pos (by omega), if_neg (by omega), if_neg (by omega), if_neg (by omega), if_neg (by omega), if_neg (by omega), hw trivial] at h
          exact h⟩
        obtain ⟨g1, g2⟩ := ih (i + 1) (by omega) (by omega) h3
        refine ⟨fun j h1 h2 => ?_, g2⟩
        by_cases e : j = i
        · rw [e, hc]; exact decide_eq_true hA
        · exact g1 j (by omega) h2
      · exact (no hA).elim
  obtain ⟨g1, g2⟩ := main s.size 0 (by omega) (by omega) (Ev.congr (fun k => rfl) h)
  exact ⟨g2, fun j hj => g1 j (Nat.zero_le _) hj⟩
theorem l2Atom_yes (s : ByteArray) (hs : s.size ≤ 1048576) (h : atomS s) : Ev (fun k => spec_l2Atom.f k s) true := by
  have main : ∀ d i : Nat, s.size - i = d → i ≤ s.size → Ev (fun k => spec_l2Atom.l0 k s (i : Int)) true := by
    intro d
    induction d with
    | zero =>
      intro i hd hi
      have hp := h.1
      have e : true = decide ((s.size : Int) > 0) := (decide_eq_true (by omega)).symm
      rw [e]
      exact Ev.step (f := fun _ => some (decide ((s.size : Int) > 0))) (fun k => by simp only [spec_l2Atom.l0]; rw [if_neg (by omega)]) (Ev.now _)
    | succ d ih =>
      intro i hd hi
      have hA := of_decide_eq_true (h.2 i (by omega))
      have hw : True → wrap64 ((i : Int) + 1) = ((i + 1 : Nat) : Int) := fun _ => wrap_next i (by omega)
      obtain ⟨c, hc⟩ : ∃ c, bt s (i : Int) = c := ⟨_, rfl⟩
      rw [hc] at hA
      refine Ev.step (fun k => ?_) (ih (i + 1) (by omega) (by omega))
      simp only [spec_l2Atom.l0, hc]
      rw [if_pos (by omega), if_pos (by omega), if_neg (by omega), if_neg (by omega), if_neg (by omega), if_neg (by omega), if_neg (by omega), hw trivial]
  exact Ev.congr (fun k => rfl) (main s.size 0 (by omega) (by omega))
theorem walk_atom (t : List S66) (a d : Nat) (s : ByteArray) (hd : d ≤ 100) (hs : s.size ≤ 1048576) (hat : atomS s) (hl : a < t.length) (hll : t.length ≤ 1048576) (hx : rd_T66 t (a : Int) = S66.mk s []) : Ev (fun k => spec_l2Walk.f k t (a : Int) (d : Int)) ((a + 1 : Nat) : Int) := by
  obtain ⟨K, h⟩ := l2Atom_yes s hs hat
  refine ⟨K + 3, fun k hk => ?_⟩
  obtain ⟨m, rfl⟩ : ∃ m, k = m + 1 + 1 + 1 := ⟨k - 3, by omega⟩
  have h : spec_l2Atom.f (m + 1 + 1) s = some true := h (m + 1 + 1) (by omega)
  have hw : wrap64 ((a : Int) + 1) = ((a + 1 : Nat) : Int) := wrap_next a (by omega)
  simp only [spec_l2Walk.f]
  rw [if_pos (by omega), if_pos (by omega), if_neg (by omega), hx]
  dsimp only
  rw [if_neg (atom_text hat), h, Option.bind_some, if_pos rfl, spec_l2Walk.j0, if_neg (by simp), spec_l2Walk.l0, if_neg (by simp), hw]
theorem walk_list (t : List S66) (a d : Nat) (kids : List Int) (r : Int) (hd : d ≤ 100) (hl : a < t.length) (hll : t.length ≤ 1048576) (hx : rd_T66 t (a : Int) = S66.mk ⟨#[]⟩ kids) (h : Ev (fun k => spec_l2Walk.l0 k (d : Int) ((a + 1 : Nat) : Int) ((0 : Nat) : Int) t ⟨#[]⟩ kids) r) : Ev (fun k => spec_l2Walk.f k t (a : Int) (d : Int)) r := by
  obtain ⟨K, h⟩ := h
  refine ⟨K + 2, fun k hk => ?_⟩
  obtain ⟨m, rfl⟩ : ∃ m, k = m + 1 + 1 := ⟨k - 2, by omega⟩
  have h : spec_l2Walk.l0 m (d : Int) ((a + 1 : Nat) : Int) 0 t ⟨#[]⟩ kids = some r := h m (by omega)
  have hw : wrap64 ((a : Int) + 1) = ((a + 1 : Nat) : Int) := wrap_next a (by omega)
  simp only [spec_l2Walk.f]
  rw [if_pos (by omega), if_pos (by omega), if_neg (by omega), hx]
  dsimp only
  rw [if_pos empty_text, spec_l2Walk.j0, if_neg (by decide), hw]
  exact h
theorem walk_kid (t : List S66) (a d i b : Nat) (text : ByteArray) (kids : List Int) (r : Int) (hd : d ≤ 100) (hl : a < t.length) (hll : t.length ≤ 1048576) (hi : i < kids.length) (hkl : kids.length ≤ 1048576) (hrd : rd kids (i : Int) = (a : Int))
    (h1 : Ev (fun k => spec_l2Walk.f k t (a : Int) ((d + 1 : Nat) : Int)) (b : Int)) (h2 : Ev (fun k => spec_l2Walk.l0 k (d : Int) (b : Int) ((i + 1 : Nat) : Int) t text kids) r) : Ev (fun k => spec_l2Walk.l0 k (d : Int) (a : Int) (i : Int) t text kids) r := by
  obtain ⟨K1, h1⟩ := h1
  obtain ⟨K2, h2⟩ := h2
  refine ⟨K1 + K2 + 2, fun k hk => ?_⟩
  obtain ⟨m, rfl⟩ : ∃ m, k = m + 1 + 1 := ⟨k - 2, by omega⟩
  have h1 : spec_l2Walk.f m t (a : Int) ((d + 1 : Nat) : Int) = some (b : Int) := h1 m (by omega)
  have h2 : spec_l2Walk.l0 m (d : Int) (b : Int) ((i + 1 : Nat) : Int) t text kids = some r := h2 m (by omega)
  have hw : wrap64 ((i : Int) + 1) = ((i + 1 : Nat) : Int) := wrap_next i (by omega)
  have hw2 : wrap64 ((d : Int) + 1) = ((d + 1 : Nat) : Int) := wrap_next d (by omega)
  show spec_l2Walk.l0 (m + 1 + 1) (d : Int) (a : Int) (i : Int) t text kids = some r
  rw [spec_l2Walk.l0, if_pos (by omega), if_pos (by omega), if_pos hrd, show decide ((a : Int) ≥ (t.length : Int)) = false from decide_eq_false (by omega), spec_l2Walk.j2, if_neg (by decide), hw2, h1, Option.bind_some, if_neg (by omega), hw]
  exact h2
theorem walk_done (t : List S66) (a d i : Nat) (text : ByteArray) (kids : List Int) (hi : kids.length ≤ i) : Ev (fun k => spec_l2Walk.l0 k (d : Int) (a : Int) (i : Int) t text kids) (a : Int) :=
  Ev.step (f := fun _ => some (a : Int)) (fun k => by simp only [spec_l2Walk.l0]; rw [if_neg (by omega)]) (Ev.now _)
/-- A forest that is right is walked through. -/
theorem walk_rose (t : List S66) (hl : t.length ≤ 1048576) (hx : ∀ x ∈ t, x.f0.size ≤ 1048576) : ∀ (f : Rs) (a d : Nat) (text : ByteArray) (kids : List Int) (i : Nat) (rest : List S66), kids.length ≤ 1048576 → d ≤ 100 → f.ok (d + 1) → kids.drop i = f.roots a → t.drop a = f.flat a ++ rest →
    Ev (fun k => spec_l2Walk.l0 k (d : Int) (a : Int) (i : Int) t text kids) ((a + f.size : Nat) : Int) := by
  intro f
  induction f with
  | nil =>
    intro a d text kids i rest hkl hd ho hk ht
    rw [Rs.roots] at hk
    exact walk_done t a d i text kids (List.drop_eq_nil_iff.1 hk)
  | atom s r ih =>
    intro a d text kids i rest hkl hd ho hk ht
    rw [Rs.roots] at hk
    obtain ⟨k1, k2, k3⟩ := drop_ri hk
    rw [Rs.flat, List.cons_append] at ht
    obtain ⟨t1, t2, t3⟩ := drop_rd ht
    have hmem := hx _ (rd_T_mem t (a : Int) (by omega) (by omega))
    rw [t2] at hmem
    have h2 := ih (a + 1) d text kids (i + 1) rest hkl hd ho.2.2 k3 t3
    rw [show a + 1 + r.size = a + (Rs.atom s r).size from by rw [Rs.size]; omega] at h2
    exact walk_kid t a d i (a + 1) text kids _ hd t1 hl k1 hkl k2 (walk_atom t a (d + 1) s ho.1 hmem ho.2.1 t1 hl t2) h2
  | list kd r ihk ihr =>
    intro a d text kids i rest hkl hd ho hk ht
    rw [Rs.roots] at hk
    obtain ⟨k1, k2, k3⟩ := drop_ri hk
    rw [Rs.flat, List.cons_append, List.append_assoc] at ht
    obtain ⟨t1, t2, t3⟩ := drop_rd ht
    have hrl := Rs.roots_len kd (a + 1)
    have hsl := seg_le kd t _ (a + 1) t3
    have h1 := ihk (a + 1) (d + 1) ⟨#[]⟩ (kd.roots (a + 1)) 0 _ (by omega) ho.1 ho.2.1 rfl t3
    have h2 := ihr (a + 1 + kd.size) d text kids (i + 1) rest hkl hd ho.2.2 k3 (seg_drop kd t _ (a + 1) t3)
    rw [show a + 1 + kd.size + r.size = a + (Rs.list kd r).size from by rw [Rs.size]; omega] at h2
    exact walk_kid t a d i (a + 1 + kd.size) text kids _ hd t1 hl k1 hkl k2 (walk_list t a (d + 1) _ _ ho.1 t1 hl t2 h1) h2
theorem walk_one (f : Rs) (h1 : f.one) (ho : f.ok 0) (hl : f.size ≤ 1048576) (hx : ∀ x ∈ f.flat 0, x.f0.size ≤ 1048576) : Ev (fun k => spec_l2Walk.f k (f.flat 0) ((0 : Nat) : Int) ((0 : Nat) : Int)) (f.size : Int) := by
  have hfl := Rs.flat_len f 0
  cases f with
  | nil => exact h1.elim
  | atom s r =>
    have hr : r = .nil := h1
    subst hr
    have hm := hx (S66.mk s []) (List.mem_cons_self ..)
    exact walk_atom _ 0 0 s (by omega) hm ho.2.1 (by rw [hfl, Rs.size]; omega) (by rw [hfl]; omega) rfl
  | list kd r =>
    have hr : r = .nil := h1
    subst hr
    have hf : (Rs.list kd .nil).flat 0 = S66.mk ⟨#[]⟩ (kd.roots 1) :: kd.flat 1 := by rw [Rs.flat, Rs.flat, List.append_nil]
    have hrl := Rs.roots_len kd 1
    rw [Rs.size, Rs.size] at hl
    have h0 := walk_rose ((Rs.list kd .nil).flat 0) (by rw [hfl, Rs.size, Rs.size]; omega) hx kd 1 0 ⟨#[]⟩ (kd.roots 1) 0 [] (by omega) (by omega) ho.2.1 rfl (by rw [hf, List.append_nil]; rfl)
    rw [show 1 + kd.size = (Rs.list kd .nil).size from by rw [Rs.size, Rs.size]; rfl] at h0
    exact walk_list _ 0 0 (kd.roots 1) _ (by omega) (by rw [hfl, Rs.size, Rs.size]; omega) (by rw [hfl, Rs.size, Rs.size]; omega) (by rw [hf]; rfl) h0

/-! roseOf -/
theorem bad_kid (t : List S66) (a d i : Nat) (text : ByteArray) (kids : List Int) (hi : i < kids.length) (h : rd kids (i : Int) ≠ (a : Int) ∨ t.length ≤ a) : Ev (fun k => spec_l2Walk.l0 k (d : Int) (a : Int) (i : Int) t text kids) (-1) := ⟨2, fun k hk => by
  obtain ⟨m, rfl⟩ : ∃ m, k = m + 1 + 1 := ⟨k - 2, by omega⟩
  show spec_l2Walk.l0 (m + 1 + 1) (d : Int) (a : Int) (i : Int) t text kids = some (-1)
  rw [spec_l2Walk.l0, if_pos (by omega), if_pos (by omega)]
  by_cases c : rd kids (i : Int) = (a : Int)
  · have ha : t.length ≤ a := h.elim (fun h => absurd c h) id
    rw [if_pos c, show decide ((a : Int) ≥ (t.length : Int)) = true from decide_eq_true (by omega), spec_l2Walk.j2, if_pos rfl]
  · rw [if_neg c, spec_l2Walk.j2, if_pos rfl]⟩
set_option maxHeartbeats 4000000 in
/-- What is walked through is a tree that is right. -/
theorem rose_of (t : List S66) (hl : t.length ≤ 1048576) (hx : ∀ x ∈ t, x.f0.size ≤ 1048576 ∧ x.f1.length ≤ 1048576) :
    ∀ D : Nat, D ≤ 101 → ∀ at_ d : Nat, d + D = 101 → at_ < t.length → ∀ r : Int, 0 ≤ r → Ev (fun k => spec_l2Walk.f k t (at_ : Int) (d : Int)) r →
      ∃ f : Rs, f.one ∧ f.ok d ∧ r = ((at_ + f.size : Nat) : Int) ∧ t.drop at_ = f.flat at_ ++ t.drop (at_ + f.size) := by
  intro D
  induction D with
  | zero =>
    intro _ at_ d hd hat r hr hw
    exfalso
    have h : Ev (fun k => spec_l2Walk.f k t (at_ : Int) (d : Int)) (-1) := ⟨2, fun k hk => by
      obtain ⟨m, rfl⟩ : ∃ m, k = m + 1 + 1 := ⟨k - 2, by omega⟩
      simp (disch := omega) only [spec_l2Walk.f, spec_l2Walk.j0, ↓if_pos, ↓reduceIte]⟩
    have := Ev.uniq hw h
    omega
  | succ D ih =>
    intro hD at_ d hd hat r hr hw
    have hd100 : d ≤ 100 := by omega
    have hmem := rd_T_mem t (at_ : Int) (by omega) (by omega)
    have hb := hx _ hmem
    obtain ⟨x, hxx⟩ : ∃ x, rd_T66 t (at_ : Int) = x := ⟨_, rfl⟩
    rw [hxx] at hb
    obtain ⟨text, kids⟩ := x
    have hb1 : text.size ≤ 1048576 := hb.1
    have hb2 : kids.length ≤ 1048576 := hb.2
    have hdrop : t.drop at_ = S66.mk text kids :: t.drop (at_ + 1) := by
      rw [List.drop_eq_getElem_cons hat]
      congr 1
      rw [← hxx]
      unfold rd_T66
      rw [List.getD_eq_getElem?_getD, Int.toNat_natCast, List.getElem?_eq_getElem hat]
      rfl
    have loop : ∀ n i, kids.length - i = n → i ≤ kids.length → ∀ next : Nat, ∀ r : Int, 0 ≤ r → Ev (fun k => spec_l2Walk.l0 k (d : Int) (next : Int) (i : Int) t text kids) r →
        ∃ g : Rs, g.ok (d + 1) ∧ kids.drop i = g.roots next ∧ r = ((next + g.size : Nat) : Int) ∧ t.drop next = g.flat next ++ t.drop (next + g.size) := by
      intro n
      induction n with
      | zero =>
        intro i hn hi next r hr hw
        have := Ev.uniq hw (walk_done t next d i text kids (by omega))
        exact ⟨.nil, trivial, List.drop_eq_nil_iff.2 (by omega), by rw [this, Rs.size]; rfl, rfl⟩
      | succ n ihn =>
        intro i hn hi next r hr hw
        have e1 : kids.length - (i + 1) = n := by omega
        have e2 : i + 1 ≤ kids.length := by omega
        have e3 : (i : Int) < (kids.length : Int) := by omega
        have e4 : (0 : Int) ≤ (i : Int) := Int.natCast_nonneg i
        have e5 : d + 1 + D = 101 := by omega
        have e6 : D ≤ 101 := by omega
        have e7 : i < 4611686018427387904 := by omega
        have e8 : d < 4611686018427387904 := by omega
        have neg : Ev (fun k => spec_l2Walk.l0 k (d : Int) (next : Int) (i : Int) t text kids) (-1) → False := fun h => by
          have := Ev.uniq hw h
          omega
        clear hn hi hd hD hat hmem hb
        by_cases ck : rd kids (i : Int) = (next : Int)
        · by_cases cn : next < t.length
          · have e9 : decide ((next : Int) ≥ (t.length : Int)) = false := decide_eq_false (by omega)
            rcases walks_agree t hl hx D next (d + 1) e5 cn with ⟨r1, g1, g2, h1, _⟩ | ⟨⟨K1, h1⟩, _⟩
            · obtain ⟨f1, q1, q2, q3, q4⟩ := ih e6 next (d + 1) e5 cn r1 (Int.le_trans (Int.natCast_nonneg next) (Int.le_of_lt g1)) h1
              rw [q3] at h1
              obtain ⟨K1, h1⟩ := h1
              obtain ⟨K, hw⟩ := hw
              have hrest : Ev (fun k => spec_l2Walk.l0 k (d : Int) ((next + f1.size : Nat) : Int) ((i + 1 : Nat) : Int) t text kids) r := ⟨K + K1, fun m hm => by
                have h : spec_l2Walk.l0 (m + 1 + 1) (d : Int) (next : Int) (i : Int) t text kids = some r := hw (m + 1 + 1) (Nat.le_trans (Nat.le_add_right K K1) (Nat.le_trans hm (Nat.le_add_right m 2)))
                have h1 : spec_l2Walk.f m t (next : Int) ((d + 1 : Nat) : Int) = some ((next + f1.size : Nat) : Int) := h1 m (Nat.le_trans (Nat.le_add_left K1 K) hm)
                rw [spec_l2Walk.l0, if_pos e3, if_pos e4, if_pos ck, e9, spec_l2Walk.j2, if_neg (by decide), wrap_next d e8, h1, Option.bind_some, if_neg (Int.not_lt.2 (Int.natCast_nonneg _)), wrap_next i e7] at h
                exact h⟩
              obtain ⟨g, p1, p2, p3, p4⟩ := ihn (i + 1) e1 e2 (next + f1.size) r hr hrest
              have hk : kids.drop i = (next : Int) :: kids.drop (i + 1) := by
                rw [List.drop_eq_getElem_cons e2, ← ck]
                congr 1
                unfold rd
                rw [List.getD_eq_getElem?_getD, Int.toNat_natCast, List.getElem?_eq_getElem e2]
                rfl
              refine ⟨f1.app g, Rs.app_ok f1 g (d + 1) q2 p1, ?_, ?_, ?_⟩
              · rw [Rs.app_roots, Rs.one_roots q1, hk, p2]; rfl
              · rw [p3, Rs.app_size, Nat.add_assoc]
              · rw [Rs.app_flat, Rs.app_size, q4, p4, List.append_assoc, Nat.add_assoc]
            · exact (neg ⟨K1 + 2, fun k hk => by
                obtain ⟨m, rfl⟩ : ∃ m, k = m + 1 + 1 := ⟨k - 2, (Nat.sub_add_cancel (Nat.le_trans (Nat.le_add_left 2 K1) hk)).symm⟩
                have h1 : spec_l2Walk.f m t (next : Int) ((d + 1 : Nat) : Int) = some (-1) := h1 m (Nat.le_of_add_le_add_right (b := 2) hk)
                show spec_l2Walk.l0 (m + 1 + 1) (d : Int) (next : Int) (i : Int) t text kids = some (-1)
                rw [spec_l2Walk.l0, if_pos e3, if_pos e4, if_pos ck, e9, spec_l2Walk.j2, if_neg (by decide), wrap_next d e8, h1, Option.bind_some, if_pos (by decide)]⟩).elim
          · exact (neg (bad_kid t next d i text kids e2 (.inr (Nat.le_of_not_lt cn)))).elim
        · exact (neg (bad_kid t next d i text kids e2 (.inl ck))).elim
    have hw1 : True → wrap64 ((at_ : Int) + 1) = ((at_ + 1 : Nat) : Int) := fun _ => wrap_next at_ (by omega)
    by_cases ct : text.toList = []
    · have e0 : text = ⟨#[]⟩ := by
        have h0 := (toList_nil text).1 ct
        refine bytes_ext ?_
        have : text.data.toList.length = 0 := by rw [Array.length_toList]; exact h0
        rw [List.length_eq_zero_iff.1 this]
      obtain ⟨K, hw⟩ := hw
      have h0 : Ev (fun k => spec_l2Walk.l0 k (d : Int) ((at_ + 1 : Nat) : Int) ((0 : Nat) : Int) t text kids) r := ⟨K, fun m hm => by
        have h : spec_l2Walk.f (m + 1 + 1) t (at_ : Int) (d : Int) = some r := hw (m + 1 + 1) (by omega)
        rw [spec_l2Walk.f, if_pos (by omega), if_pos (by omega), if_neg (by omega), hxx] at h
        dsimp only at h
        rw [if_pos ct, spec_l2Walk.j0, if_neg (by decide), hw1 trivial] at h
        exact h⟩
      obtain ⟨g, p1, p2, p3, p4⟩ := loop kids.length 0 (by omega) (by omega) (at_ + 1) r hr h0
      rw [List.drop_zero] at p2
      refine ⟨.list g .nil, rfl, ⟨hd100, p1, trivial⟩, ?_, ?_⟩
      · rw [p3, Rs.size, Rs.size]; omega
      · rw [hdrop, p4, e0, p2, Rs.flat, Rs.flat, List.append_nil, Rs.size, Rs.size, List.cons_append, show at_ + 1 + g.size = at_ + (1 + g.size + 0) from by omega]
    · obtain ⟨b, hA, _⟩ := atoms_agree text (by omega)
      have hbad : ∀ x : Bool, b = false ∨ 0 < kids.length → False := fun _ hx => by
        obtain ⟨K, hA⟩ := hA
        have h : Ev (fun k => spec_l2Walk.f k t (at_ : Int) (d : Int)) (-1) := ⟨K + 2, fun k hk => by
          obtain ⟨m, rfl⟩ : ∃ m, k = m + 1 + 1 := ⟨k - 2, by omega⟩
          have hA : spec_l2Atom.f (m + 1) text = some b := hA (m + 1) (by omega)
          simp only [spec_l2Walk.f]
          rw [if_pos (by omega), if_pos (by omega), if_neg (by omega), hxx]
          dsimp only
          rw [if_neg ct, hA, Option.bind_some]
          cases b with
          | false => rw [if_neg (by decide), spec_l2Walk.j0, if_pos rfl]
          | true =>
            rcases hx with hx | hx
            · cases hx
            · rw [if_pos rfl, show decide ((kids.length : Int) > 0) = true from decide_eq_true (by omega), spec_l2Walk.j0, if_pos rfl]⟩
        have := Ev.uniq hw h
        omega
      cases b with
      | false => exact (hbad true (.inl rfl)).elim
      | true =>
        by_cases hk : 0 < kids.length
        · exact (hbad true (.inr hk)).elim
        · have ek : kids = [] := List.length_eq_zero_iff.1 (by omega)
          subst ek
          have hat2 := l2Atom_all text hb1 hA
          have := Ev.uniq hw (walk_atom t at_ d text hd100 hb1 hat2 hat hl hxx)
          exact ⟨.atom text .nil, rfl, ⟨hd100, hat2, trivial⟩, by rw [this, Rs.size, Rs.size], by rw [hdrop]; rfl⟩

/-! backOk -/
/-- A tree that is right is a rose. -/
theorem rose_tree (t : List S66) (hl : t.length ≤ 1048576) (hx : ∀ x ∈ t, x.f0.size ≤ 1048576 ∧ x.f1.length ≤ 1048576) (h : Ev (fun k => spec_TreeOk.f k t) true) : ∃ f : Rs, f.one ∧ f.ok 0 ∧ t = f.flat 0 ∧ f.size ≤ 2000 := by
  by_cases c1 : (t.length : Int) < 1
  · exfalso
    have h2 : Ev (fun k => spec_TreeOk.f k t) false := ⟨0, fun k _ => by simp only [spec_TreeOk.f]; rw [if_pos c1]⟩
    exact absurd (Ev.uniq h h2) (by decide)
  · by_cases c2 : (t.length : Int) > 2000
    · exfalso
      have h2 : Ev (fun k => spec_TreeOk.f k t) false := ⟨0, fun k _ => by simp only [spec_TreeOk.f]; rw [if_neg c1, if_pos c2]⟩
      exact absurd (Ev.uniq h h2) (by decide)
    · have hw : ∀ r, Ev (fun k => spec_l2Walk.f k t ((0 : Nat) : Int) ((0 : Nat) : Int)) r → r = (t.length : Int) := fun r ⟨K, hr⟩ => by
        have h2 : Ev (fun k => spec_TreeOk.f k t) (r == (t.length : Int)) := ⟨K, fun k hk => by
          have hr : spec_l2Walk.f k t 0 0 = some r := hr k hk
          simp only [spec_TreeOk.f]
          rw [if_neg c1, if_neg c2, hr]
          rfl⟩
        exact beq_iff_eq.1 (Ev.uniq h2 h)
      rcases walks_agree t hl hx 101 0 0 rfl (by omega) with ⟨r, g3, g4, g5, _⟩ | ⟨g5, _⟩
      · have hr := hw r g5
        obtain ⟨f, q1, q2, q3, q4⟩ := rose_of t hl hx 101 (by omega) 0 0 rfl (by omega) r (by omega) g5
        rw [Nat.zero_add] at q3 q4
        have hs : f.size = t.length := by omega
        rw [List.drop_zero, hs, List.drop_length, List.append_nil] at q4
        exact ⟨f, q1, q2, q4, by omega⟩
      · have := hw _ g5
        omega
theorem rose_ok (f : Rs) (h1 : f.one) (ho : f.ok 0) (hs : f.size ≤ 2000) (hx : ∀ x ∈ f.flat 0, x.f0.size ≤ 1048576) : Ev (fun k => spec_TreeOk.f k (f.flat 0)) true := by
  obtain ⟨K, h⟩ := walk_one f h1 ho (by omega) hx
  have hfl := Rs.flat_len f 0
  have hp : 0 < f.size := by
    cases f with
    | nil => exact h1.elim
    | atom s r => rw [Rs.size]; omega
    | list k r => rw [Rs.size]; omega
  refine ⟨K, fun k hk => ?_⟩
  have h : spec_l2Walk.f k (f.flat 0) 0 0 = some (f.size : Int) := h k hk
  simp only [spec_TreeOk.f]
  rw [if_neg (by omega), if_neg (by omega), h, hfl, Option.bind_some, beq_self_eq_true]
/-- What is written of a tree is read as the tree. -/
theorem back_ok (t : List S66) (hl : t.length ≤ 1048576) (hx : ∀ x ∈ t, x.f0.size ≤ 1048576 ∧ x.f1.length ≤ 1048576) :
    ∃ s : ByteArray, Ev (fun k => spec_WriteTree.f k t) s ∧ Ev (fun k => impl_WriteTree.f k t) s ∧ (s.toList = ([] : List UInt8) ∨ (¬ s.toList = ([] : List UInt8) ∧ Ev (fun k => impl_ReadTree.f k s) (t, 0, 0))) := by
  obtain ⟨s, w1, w2⟩ := writeTree_both t hl hx
  refine ⟨s, w1, w2, ?_⟩
  by_cases he : s.toList = []
  · exact .inl he
  · refine .inr ⟨he, ?_⟩
    obtain ⟨b, g1, g2⟩ := treeOk_agree t hl hx
    cases b with
    | false =>
      exfalso
      obtain ⟨K, g2⟩ := g2
      have h2 : Ev (fun k => impl_WriteTree.f k t) ⟨#[]⟩ := ⟨K, fun k hk => by
        have g2 : impl_TreeOk.f k t = some false := g2 k hk
        simp only [impl_WriteTree.f]
        rw [g2]
        rfl⟩
      rw [Ev.uniq w2 h2] at he
      exact he empty_text
    | true =>
      obtain ⟨f, q1, q2, rfl, q4⟩ := rose_tree t hl hx g1
      have hlen := Rs.txt_len 1048576 f 0 true (fun x hx2 => (hx x hx2).1)
      have hmul : f.size * (1048576 + 4) ≤ 2000 * (1048576 + 4) := Nat.mul_le_mul_right _ q4
      obtain ⟨K1, h1⟩ := write_one f q1 q2 (by omega) (by omega)
      obtain ⟨K2, g2⟩ := g2
      have h3 : Ev (fun k => impl_WriteTree.f k (f.flat 0)) (if ((f.txt true).length : Int) > 20000 then ⟨#[]⟩ else ⟨(f.txt true).toArray⟩) := ⟨K1 + K2, fun k hk => by
        have g2 : impl_TreeOk.f k (f.flat 0) = some true := g2 k (by omega)
        have h1 : impl_Tree_write.f k (f.flat 0) 0 [] = some (f.txt true) := h1 k (by omega)
        simp only [impl_WriteTree.f]
        rw [g2, Option.bind_some, if_pos rfl, h1, Option.bind_some]
        split <;> rfl⟩
      have hs := Ev.uniq w2 h3
      by_cases c : ((f.txt true).length : Int) > 20000
      · rw [if_pos c] at hs
        rw [hs] at he
        exact (he empty_text).elim
      · rw [if_neg c] at hs
        have hsz : s.size = (f.txt true).length := by rw [hs]; rfl
        exact read_one s (by omega) f q1 q2 q4 (by rw [hs])

/-! roseDeep -/
theorem deep_rose (t : List S66) (hl : t.length ≤ 1048576) : ∀ (f : Rs) (a d : Nat) (kids : List Int) (i : Nat) (most : Int) (rest : List S66), kids.length ≤ 1048576 → d ≤ 100 → f.ok (d + 1) → kids.drop i = f.roots a → t.drop a = f.flat a ++ rest → 0 ≤ most → most ≤ 100 - (d : Int) →
    ∃ v : Int, 0 ≤ v ∧ v ≤ 101 - (d : Int) ∧ Ev (fun k => impl_Tree_depth.l0 k most kids (kids.length : Int) (i : Int) t) v := by
  have kid : ∀ (a i : Nat) (kids : List Int) (most h r : Int), i < kids.length → kids.length ≤ 1048576 → rd kids (i : Int) = (a : Int) → Ev (fun k => impl_Tree_depth.f k t (a : Int)) h → Ev (fun k => impl_Tree_depth.l0 k (mx most h) kids (kids.length : Int) ((i + 1 : Nat) : Int) t) r → Ev (fun k => impl_Tree_depth.l0 k most kids (kids.length : Int) (i : Int) t) r := by
    rintro a i kids most h r hi hkl hrd ⟨K1, h1⟩ ⟨K2, h2⟩
    refine ⟨K1 + K2 + 1, fun k hk => ?_⟩
    obtain ⟨m, rfl⟩ : ∃ m, k = m + 1 := ⟨k - 1, by omega⟩
    have h1 : impl_Tree_depth.f m t (a : Int) = some h := h1 m (by omega)
    have h2 : impl_Tree_depth.l0 m (mx most h) kids (kids.length : Int) ((i + 1 : Nat) : Int) t = some r := h2 m (by omega)
    simp only [impl_Tree_depth.l0]
    rw [if_pos (by omega), if_pos (by omega), if_pos (by omega), hrd, h1, Option.bind_some, wrap_next i (by omega)]
    exact h2
  have hmx : ∀ (most h B : Int), 0 ≤ most → most ≤ B → 0 ≤ h → h ≤ B → 0 ≤ mx most h ∧ mx most h ≤ B := fun most h B h1 h2 h3 h4 => by
    unfold mx
    split <;> omega
  intro f
  induction f with
  | nil =>
    intro a d kids i most rest hkl hd ho hk ht m0 m1
    rw [Rs.roots] at hk
    have hi := List.drop_eq_nil_iff.1 hk
    refine ⟨most + 1, by omega, by omega, Ev.step (f := fun _ => some (most + 1)) (fun k => ?_) (Ev.now _)⟩
    simp only [impl_Tree_depth.l0]
    rw [if_neg (by omega), wrap64_id (by omega) (by omega)]
  | atom s r ih =>
    intro a d kids i most rest hkl hd ho hk ht m0 m1
    rw [Rs.roots] at hk
    obtain ⟨k1, k2, k3⟩ := drop_ri hk
    rw [Rs.flat, List.cons_append] at ht
    obtain ⟨t1, t2, t3⟩ := drop_rd ht
    obtain ⟨q1, q2⟩ := hmx most 0 (100 - (d : Int)) m0 m1 (Int.le_refl 0) (by omega)
    obtain ⟨v, v0, v1, hv⟩ := ih (a + 1) d kids (i + 1) (mx most 0) rest hkl hd ho.2.2 k3 t3 q1 q2
    refine ⟨v, v0, v1, kid a i kids most 0 v k1 hkl k2 (Ev.step (f := fun _ => some 0) (fun k => ?_) (Ev.now _)) hv⟩
    simp only [impl_Tree_depth.f]
    rw [if_pos (by omega), if_pos (by omega), t2]
    dsimp only
    rw [if_neg (atom_text ho.2.1)]
  | list kd r ihk ihr =>
    intro a d kids i most rest hkl hd ho hk ht m0 m1
    rw [Rs.roots] at hk
    obtain ⟨k1, k2, k3⟩ := drop_ri hk
    rw [Rs.flat, List.cons_append, List.append_assoc] at ht
    obtain ⟨t1, t2, t3⟩ := drop_rd ht
    have hrl := Rs.roots_len kd (a + 1)
    have hsl := seg_le kd t _ (a + 1) t3
    have hd1 := ho.1
    obtain ⟨h, h0, h1, hh⟩ := ihk (a + 1) (d + 1) (kd.roots (a + 1)) 0 0 _ (by omega) ho.1 ho.2.1 rfl t3 (Int.le_refl 0) (by omega)
    obtain ⟨q1, q2⟩ := hmx most h (100 - (d : Int)) m0 m1 h0 (by omega)
    obtain ⟨v, v0, v1, hv⟩ := ihr (a + 1 + kd.size) d kids (i + 1) (mx most h) rest hkl hd ho.2.2 k3 (seg_drop kd t _ (a + 1) t3) q1 q2
    refine ⟨v, v0, v1, kid a i kids most h v k1 hkl k2 (Ev.step (fun k => ?_) hh) hv⟩
    simp only [impl_Tree_depth.f]
    rw [if_pos (by omega), if_pos (by omega), t2]
    dsimp only
    rw [if_pos empty_text]
    rfl
theorem deep_one (f : Rs) (h1 : f.one) (ho : f.ok 0) (hl : f.size ≤ 1048576) : ∃ v : Int, 0 ≤ v ∧ v ≤ 101 ∧ Ev (fun k => impl_Tree_depth.f k (f.flat 0) 0) v := by
  have hfl := Rs.flat_len f 0
  cases f with
  | nil => exact h1.elim
  | atom s r =>
    have hr : r = .nil := h1
    subst hr
    refine ⟨0, by omega, by omega, Ev.step (f := fun _ => some 0) (fun k => ?_) (Ev.now _)⟩
    simp only [impl_Tree_depth.f]
    rw [if_pos (by omega), if_pos (by rw [hfl, Rs.size]; omega), show rd_T66 ((Rs.atom s .nil).flat 0) 0 = S66.mk s [] from rfl]
    dsimp only
    rw [if_neg (atom_text ho.2.1)]
  | list kd r =>
    have hr : r = .nil := h1
    subst hr
    have hf : (Rs.list kd .nil).flat 0 = S66.mk ⟨#[]⟩ (kd.roots 1) :: kd.flat 1 := by rw [Rs.flat, Rs.flat, List.append_nil]
    have hrl := Rs.roots_len kd 1
    rw [Rs.size, Rs.size] at hl
    obtain ⟨v, v0, v1, hv⟩ := deep_rose ((Rs.list kd .nil).flat 0) (by rw [hfl, Rs.size, Rs.size]; omega) kd 1 0 (kd.roots 1) 0 0 [] (by omega) (by omega) ho.2.1 rfl (by rw [hf, List.append_nil]; rfl) (Int.le_refl 0) (by omega)
    refine ⟨v, v0, by omega, Ev.step (fun k => ?_) hv⟩
    simp only [impl_Tree_depth.f]
    rw [if_pos (by omega), if_pos (by rw [hfl, Rs.size, Rs.size]; omega), show rd_T66 ((Rs.list kd .nil).flat 0) 0 = S66.mk ⟨#[]⟩ (kd.roots 1) from by rw [hf]; rfl]
    dsimp only
    rw [if_pos empty_text]
    rfl

/-! sameTree -/
theorem sameInts_ev (l : List Int) (hl : l.length ≤ 1048576) : Ev (fun k => laws_sameInts.f k l l) true := by
  have main : ∀ d i : Nat, l.length - i = d → i ≤ l.length → Ev (fun k => laws_sameInts.l0 k l l (i : Int)) true := by
    intro d
    induction d with
    | zero => intro i hd hi; exact Ev.step (f := fun _ => some true) (fun k => by simp only [laws_sameInts.l0]; rw [if_neg (by omega)]) (Ev.now _)
    | succ d ih =>
      intro i hd hi
      refine Ev.step (fun k => ?_) (ih (i + 1) (by omega) (by omega))
      simp only [laws_sameInts.l0]
      rw [if_pos (by omega), if_pos (by omega), if_pos (by omega), if_pos trivial, wrap_next i (by omega)]
  exact Ev.congr (fun k => by simp only [laws_sameInts.f]; rw [if_pos trivial]; rfl) (main l.length 0 (by omega) (by omega))
theorem sameTree_ev (t : List S66) (hl : t.length ≤ 1048576) (hx : ∀ x ∈ t, x.f1.length ≤ 1048576) : Ev (fun k => laws_sameTree.f k t t) true := by
  have main : ∀ d i : Nat, t.length - i = d → i ≤ t.length → Ev (fun k => laws_sameTree.l0 k (i : Int) t t) true := by
    intro d
    induction d with
    | zero => intro i hd hi; exact Ev.step (f := fun _ => some true) (fun k => by simp only [laws_sameTree.l0]; rw [if_neg (by omega)]) (Ev.now _)
    | succ d ih =>
      intro i hd hi
      have hm : rd_T66 t (i : Int) ∈ t := by
        unfold rd_T66
        rw [List.getD_eq_getElem?_getD, Int.toNat_natCast, List.getElem?_eq_getElem (by omega : i < t.length)]
        exact List.getElem_mem _
      obtain ⟨K1, h1⟩ := sameInts_ev (rd_T66 t (i : Int)).f1 (hx _ hm)
      obtain ⟨K2, h2⟩ := ih (i + 1) (by omega) (by omega)
      refine ⟨K1 + K2 + 1, fun k hk => ?_⟩
      obtain ⟨m, rfl⟩ : ∃ m, k = m + 1 := ⟨k - 1, by omega⟩
      have h1 : laws_sameInts.f m (rd_T66 t (i : Int)).f1 (rd_T66 t (i : Int)).f1 = some true := h1 m (by omega)
      have h2 : laws_sameTree.l0 m ((i + 1 : Nat) : Int) t t = some true := h2 m (by omega)
      simp only [laws_sameTree.l0]
      rw [if_pos (by omega), if_pos (by omega), if_pos (by omega), if_pos trivial, h1, Option.bind_some, if_pos rfl, wrap_next i (by omega)]
      exact h2
  exact Ev.congr (fun k => by simp only [laws_sameTree.f]; rw [if_pos trivial]; rfl) (main t.length 0 (by omega) (by omega))

/-! growDraw -/
def growB (d : Nat) : Nat := 13 * 4 ^ d - 9
theorem lit8 (v : Int) (h0 : 0 ≤ v) (h1 : v < 8) : (rdOf ByteArray.empty ([(⟨#[97]⟩ : ByteArray), (⟨#[98, 49]⟩ : ByteArray), (⟨#[35, 98, 48, 49]⟩ : ByteArray), (⟨#[43]⟩ : ByteArray), (⟨#[120, 46, 121]⟩ : ByteArray), (⟨#[49, 50]⟩ : ByteArray), (⟨#[99, 97, 116]⟩ : ByteArray), (⟨#[33]⟩ : ByteArray)] : List ByteArray) v).size ≤ 4 := by
  have : v = 0 ∨ v = 1 ∨ v = 2 ∨ v = 3 ∨ v = 4 ∨ v = 5 ∨ v = 6 ∨ v = 7 := by omega
  rcases this with rfl | rfl | rfl | rfl | rfl | rfl | rfl | rfl <;> decide
theorem lit5 (v : Int) (h0 : 0 ≤ v) (h1 : v < 5) : (rdOf ByteArray.empty ([(⟨#[32]⟩ : ByteArray), (⟨#[32]⟩ : ByteArray), (⟨#[10]⟩ : ByteArray), (⟨#[32, 32]⟩ : ByteArray), (⟨#[32, 59, 122, 32, 40, 10]⟩ : ByteArray)] : List ByteArray) v).size ≤ 6 := by
  have : v = 0 ∨ v = 1 ∨ v = 2 ∨ v = 3 ∨ v = 4 := by omega
  rcases this with rfl | rfl | rfl | rfl | rfl <;> decide
theorem grow_lit (b : List Int) (hb : Code b) (p : Int) (hp : At b p) (x : Int) : ∃ s q, Ev (fun k => spec_l2Grow.j0 k x true b p) (s, q) ∧ At b q ∧ s.size ≤ 4 := by
  obtain ⟨v, q, e, v0, v1, hq⟩ := below_ev b hb p hp 8 (by omega)
  have hv : v < 8 := by omega
  refine ⟨_, q, Ev.step (f := fun _ => some (_, q)) (fun k => ?_) (Ev.now _), hq, lit8 v v0 hv⟩
  simp only [spec_l2Grow.j0]
  rw [if_pos trivial, Option.bind_some, e, Option.bind_some]
  dsimp only
  rw [if_pos v0, if_pos (by simpa using hv)]
theorem growB_le (d : Nat) (hd : d ≤ 5) : growB d ≤ 13303 := by
  have : d = 0 ∨ d = 1 ∨ d = 2 ∨ d = 3 ∨ d = 4 ∨ d = 5 := by omega
  rcases this with rfl | rfl | rfl | rfl | rfl | rfl <;> decide
theorem growB_step (d : Nat) : 4 * (growB d + 6) + 2 ≤ growB (d + 1) := by
  unfold growB
  have h4 : ∀ d : Nat, 1 ≤ 4 ^ d := by
    intro d
    induction d with
    | zero => decide
    | succ n ih => rw [Nat.pow_succ]; omega
  have := h4 d
  rw [Nat.pow_succ]
  omega
theorem grow_ev (b : List Int) (hb : Code b) : ∀ d : Nat, d ≤ 5 → ∀ p, At b p → ∃ s q, Ev (fun k => spec_l2Grow.f k b p (d : Int)) (s, q) ∧ At b q ∧ s.size ≤ growB d := by
  intro d
  induction d with
  | zero =>
    intro _ p hp
    obtain ⟨s, q, h, hq, hs⟩ := grow_lit b hb p hp 0
    exact ⟨s, q, Ev.step (fun k => by simp only [spec_l2Grow.f]; rw [if_pos (show ((0 : Nat) : Int) = 0 from rfl)]; rfl) h, hq, hs⟩
  | succ d ih =>
    intro hd p hp
    have ih := ih (by omega)
    have hB := growB_le d (by omega)
    have hS := growB_step d
    have loop : ∀ n : Nat, n ≤ 4 → ∀ (s : ByteArray) (p : Int), s.size + n * 13309 ≤ 90000 → At b p → ∃ s' q, Ev (fun k => spec_l2Grow.l0 k ((d + 1 : Nat) : Int) s (n : Int) b p) (s', q) ∧ At b q ∧ s'.size ≤ s.size + n * (growB d + 6) + 1 := by
      intro n
      induction n with
      | zero =>
        intro _ s p hs hp
        refine ⟨s ++ ⟨#[41]⟩, p, Ev.step (f := fun _ => some (s ++ ⟨#[41]⟩, p)) (fun k => ?_) (Ev.now _), hp, by rw [ByteArray.size_append, show (⟨#[41]⟩ : ByteArray).size = 1 from rfl]; omega⟩
        simp only [spec_l2Grow.l0]
        rw [if_neg (by omega), if_pos (by omega)]
      | succ n ihn =>
        intro hn s p hs hp
        obtain ⟨s1, q1, ⟨K1, h1⟩, hq1, hs1⟩ := ih p hp
        obtain ⟨v, q2, e, v0, v1, hq2⟩ := below_ev b hb q1 hq1 5 (by omega)
        have hv : v < 5 := by omega
        have h6 := lit5 v v0 hv
        obtain ⟨Y, hY⟩ : ∃ Y, rdOf ByteArray.empty ([(⟨#[32]⟩ : ByteArray), (⟨#[32]⟩ : ByteArray), (⟨#[10]⟩ : ByteArray), (⟨#[32, 32]⟩ : ByteArray), (⟨#[32, 59, 122, 32, 40, 10]⟩ : ByteArray)] : List ByteArray) v = Y := ⟨_, rfl⟩
        rw [hY] at h6
        obtain ⟨s', q, ⟨K2, h2⟩, hq, hs'⟩ := ihn (by omega) ((s ++ s1) ++ Y) q2 (by rw [ByteArray.size_append, ByteArray.size_append]; omega) hq2
        rw [ByteArray.size_append, ByteArray.size_append] at hs'
        refine ⟨s', q, ⟨K1 + K2 + 1, fun k hk => ?_⟩, hq, by rw [Nat.add_mul, Nat.one_mul]; omega⟩
        obtain ⟨m, rfl⟩ : ∃ m, k = m + 1 := ⟨k - 1, by omega⟩
        have h1 : spec_l2Grow.f m b p (d : Int) = some (s1, q1) := h1 m (by omega)
        have h2 : spec_l2Grow.l0 m ((d + 1 : Nat) : Int) ((s ++ s1) ++ Y) (n : Int) b q2 = some (s', q) := h2 m (by omega)
        have w1 : wrap64 (((d + 1 : Nat) : Int) - 1) = (d : Int) := by rw [wrap64_id (by omega) (by omega)]; omega
        have w2 : wrap64 (((n + 1 : Nat) : Int) - 1) = (n : Int) := by rw [wrap64_id (by omega) (by omega)]; omega
        simp only [spec_l2Grow.l0]
        rw [if_pos (by omega), w1, h1, Option.bind_some]
        dsimp only
        rw [if_pos (by omega), Option.bind_some, e, Option.bind_some]
        dsimp only
        rw [if_pos v0, if_pos (by simpa using hv), hY, if_pos (by rw [ByteArray.size_append]; omega), w2]
        exact h2
    obtain ⟨t, q1, e1, hq1⟩ := once_ev b hb p hp 3 (by omega)
    have hne : ¬ ((d + 1 : Nat) : Int) = 0 := by omega
    cases t with
    | true =>
      obtain ⟨s, q, h, hq, hs⟩ := grow_lit b hb q1 hq1 ((d + 1 : Nat) : Int)
      refine ⟨s, q, Ev.step (fun k => by simp only [spec_l2Grow.f]; rw [if_neg hne, e1, Option.bind_some]) h, hq, ?_⟩
      have : 4 ≤ growB (d + 1) := by omega
      omega
    | false =>
      obtain ⟨v, q2, e2, v0, v1, hq2⟩ := below_ev b hb q1 hq1 5 (by omega)
      obtain ⟨n, rfl⟩ := Int.eq_ofNat_of_zero_le v0
      obtain ⟨s', q, h, hq, hs'⟩ := loop n (by omega) ⟨#[40]⟩ q2 (by rw [show (⟨#[40]⟩ : ByteArray).size = 1 from rfl]; omega) hq2
      have hmul : n * (growB d + 6) ≤ 4 * (growB d + 6) := Nat.mul_le_mul_right _ (by omega)
      have h40 : (⟨#[40]⟩ : ByteArray).size = 1 := rfl
      refine ⟨s', q, Ev.step (f := fun k => spec_l2Grow.j0 k ((d + 1 : Nat) : Int) false b q1) (fun k => by simp only [spec_l2Grow.f]; rw [if_neg hne, e1, Option.bind_some]) (Ev.step (fun k => ?_) h), hq, by omega⟩
      simp only [spec_l2Grow.j0]
      rw [if_neg (by decide), e2, Option.bind_some]
/-- A text that is drawn. -/
theorem grown_ev (b : List Int) (hb : Code b) (p : Int) (hp : At b p) : ∃ v q s q', spec_l1Rd_below.f b p (mn 5 (wrap64 (1 + (wrap64 ((b.length : Int) / 8))))) = some (v, q) ∧ Ev (fun k => spec_l2Grow.f k b q (wrap64 (1 + v))) (s, q') ∧ At b q' ∧ s.size ≤ 13303 := by
  have hm : mn 5 (wrap64 (1 + (wrap64 ((b.length : Int) / 8)))) ≤ 5 := by unfold mn; split <;> omega
  obtain ⟨M, hM⟩ : ∃ M, mn 5 (wrap64 (1 + (wrap64 ((b.length : Int) / 8)))) = M := ⟨_, rfl⟩
  rw [hM] at hm ⊢
  obtain ⟨v, q, e, v0, v1, hq⟩ := below_ev b hb p hp M (by omega)
  obtain ⟨n, rfl⟩ := Int.eq_ofNat_of_zero_le v0
  have hn : n + 1 ≤ 5 := by omega
  obtain ⟨s, q', h, hq', hs⟩ := grow_ev b hb (n + 1) hn q hq
  have hw : wrap64 (1 + (n : Int)) = ((n + 1 : Nat) : Int) := by rw [wrap64_id (by omega) (by omega)]; omega
  exact ⟨n, q, s, q', e, by rw [hw]; exact h, hq', Nat.le_trans hs (growB_le _ hn)⟩

/-! treeDraw -/
def smallT (t : List S66) : Prop := t.length ≤ 2001 ∧ ∀ x ∈ t, x.f0.size ≤ 20000 ∧ x.f1.length ≤ 2001
theorem small_set (t : List S66) (i : Nat) (x : S66) (h : t.length ≤ 2000 ∧ ∀ x ∈ t, x.f0.size ≤ 20000 ∧ x.f1.length ≤ 2000) (hx : x.f0.size ≤ 20000 ∧ x.f1.length ≤ 2001) : smallT (t.set i x) := by
  refine ⟨by rw [List.length_set]; omega, fun y hy => ?_⟩
  rcases List.mem_or_eq_of_mem_set hy with hy | rfl
  · have := h.2 y hy; omega
  · exact hx
theorem lit5t (v : Int) (h0 : 0 ≤ v) (h1 : v < 5) : (rdOf ByteArray.empty ([(⟨#[]⟩ : ByteArray), (⟨#[40]⟩ : ByteArray), (⟨#[97, 32, 98]⟩ : ByteArray), (⟨#[127]⟩ : ByteArray), (⟨#[120]⟩ : ByteArray)] : List ByteArray) v).size ≤ 20000 := by
  have : v = 0 ∨ v = 1 ∨ v = 2 ∨ v = 3 ∨ v = 4 := by omega
  rcases this with rfl | rfl | rfl | rfl | rfl <;> decide
theorem tree_ev (b : List Int) (hb : Code b) (p : Int) (hp : At b p) : ∃ t q, Ev (fun k => spec_l1Rd_tree.f k b p) (t, q) ∧ smallT t := by
  obtain ⟨v, q, s, q', e1, ⟨K1, h1⟩, hq', hs⟩ := grown_ev b hb p hp
  obtain ⟨r, c, pl, hr, ⟨K2, h2⟩, _⟩ := read_agree s (by omega) (fun _ _ => True) (fun _ _ _ _ _ _ _ => trivial) _ 0 (Nat.le_refl _) (Nat.zero_le _) [] [] rtJ_nil trivial
  have head : ∀ k : Nat, K1 + K2 ≤ k → spec_l2Grow.f k b q (wrap64 (1 + v)) = some (s, q') ∧ spec_ReadTree.f k s = some (r, c, pl) := fun k hk => by
    refine ⟨h1 k (by omega), ?_⟩
    have h2 : spec_ReadTree.l0 k s 0 [] [] = some (r, c, pl) := h2 k (by omega)
    unfold spec_ReadTree.f
    rw [if_neg (by omega)]
    exact h2
  by_cases c0 : (r.length : Int) = 0
  · refine ⟨[S66.mk ⟨#[97]⟩ []], q', ⟨K1 + K2, fun k hk => ?_⟩, ?_⟩
    · obtain ⟨g1, g2⟩ := head k hk
      simp only [spec_l1Rd_tree.f]
      rw [e1, Option.bind_some]
      dsimp only
      rw [g1, Option.bind_some]
      dsimp only
      rw [g2, Option.bind_some]
      dsimp only
      rw [if_pos c0]
    · refine ⟨by simp, fun x hx => ?_⟩
      rw [List.mem_singleton] at hx
      subst hx
      exact ⟨show (1 : Nat) ≤ 20000 from by decide, Nat.zero_le _⟩
  · have hJ : RtJ r [] := by
      rcases hr with ⟨_, hr⟩ | ⟨_, _, hr, _⟩
      · rw [hr] at c0; exact absurd rfl c0
      · exact hr
    have hR : r.length ≤ 2000 ∧ ∀ x ∈ r, x.f0.size ≤ 20000 ∧ x.f1.length ≤ 2000 := ⟨hJ.len, fun x hx => by have := hJ.kids x hx; have := hJ.len; omega⟩
    obtain ⟨i, qi, ei, i0, i1, hqi⟩ := below_ev b hb q' hq' (r.length : Int) (by have := hR.1; omega)
    have hi : i < (r.length : Int) := by omega
    obtain ⟨w, qw, ew, w0, w1, hqw⟩ := below_ev b hb qi hqi 30 (by omega)
    have hmem := rd_T_mem r i i0 hi
    have hx := hR.2 _ hmem
    have go : ∀ (t : List S66) (qt : Int) (K : Nat), (∀ k, K ≤ k → (if w = 0 then ((some (([(⟨#[]⟩ : ByteArray), (⟨#[40]⟩ : ByteArray), (⟨#[97, 32, 98]⟩ : ByteArray), (⟨#[127]⟩ : ByteArray), (⟨#[120]⟩ : ByteArray)] : List ByteArray) : List ByteArray)).bind fun y214 => ((spec_l1Rd_below.f b qw 5).bind fun bt217 => (if 0 ≤ bt217.1 then (if bt217.1 < (y214.length : Int) then (if 0 ≤ i then (if i < (r.length : Int) then (some ((r.set (i : Int).toNat (⟨rdOf ByteArray.empty y214 bt217.1, (rd_T66 r i).f1⟩ : S66)), bt217.2)) else (none)) else (none)) else (none)) else (none)))) else (if w = 1 then (if 0 ≤ i then (if i < (r.length : Int) then ((spec_l1Rd_off.f k b qw 0 (r.length : Int)).bind fun bt222 => (if ((rd_T66 r i).f1).length < 17592186044416 then (some ((r.set (i : Int).toNat (⟨(rd_T66 r i).f0, (((rd_T66 r i).f1) ++ [bt222.1])⟩ : S66)), bt222.2)) else (none))) else (none)) else (none)) else (if w = 2 then (if 0 ≤ i then (if i ≤ (r.length : Int) then (some ((r.take (i : Int).toNat), qw)) else (none)) else (none)) else (if w = 3 then (if r.length < 3518437208883 then (some ((r ++ [(⟨(⟨#[113]⟩ : ByteArray), ([] : List Int)⟩ : S66)]), qw)) else (none)) else (some (r, qw)))))) = some (t, qt)) → smallT t → ∃ t q, Ev (fun k => spec_l1Rd_tree.f k b p) (t, q) ∧ smallT t := fun t qt K ht hsm => by
      refine ⟨t, qt, ⟨K1 + K2 + K, fun k hk => ?_⟩, hsm⟩
      obtain ⟨g1, g2⟩ := head k (by omega)
      have ht := ht k (by omega)
      simp only [spec_l1Rd_tree.f]
      rw [e1, Option.bind_some]
      dsimp only
      rw [g1, Option.bind_some]
      dsimp only
      rw [g2, Option.bind_some]
      dsimp only
      rw [if_neg c0, ei, Option.bind_some]
      dsimp only
      rw [ew, Option.bind_some]
      dsimp only
      exact ht
    by_cases k0 : w = 0
    · obtain ⟨z, qz, ez, z0, z1, hqz⟩ := below_ev b hb qw hqw 5 (by omega)
      have hz : z < 5 := by omega
      refine go (r.set i.toNat (⟨rdOf ByteArray.empty ([(⟨#[]⟩ : ByteArray), (⟨#[40]⟩ : ByteArray), (⟨#[97, 32, 98]⟩ : ByteArray), (⟨#[127]⟩ : ByteArray), (⟨#[120]⟩ : ByteArray)] : List ByteArray) z, (rd_T66 r i).f1⟩ : S66)) qz 0 (fun k _ => ?_) (small_set r i.toNat _ hR ⟨lit5t z z0 hz, ?_⟩)
      · rw [if_pos k0, Option.bind_some, ez, Option.bind_some]
        dsimp only
        rw [if_pos z0, if_pos (by simpa using hz), if_pos i0, if_pos hi]
      · show (rd_T66 r i).f1.length ≤ 2001
        omega
    · by_cases k1 : w = 1
      · obtain ⟨z, qz, ⟨K, ez⟩, _, _⟩ := off_ev b hb qw hqw 0 (r.length : Int) (by omega) (by unfold I64; have := hR.1; omega)
        refine go (r.set i.toNat (⟨(rd_T66 r i).f0, (((rd_T66 r i).f1) ++ [z])⟩ : S66)) qz K (fun k hk => ?_) (small_set r i.toNat _ hR ⟨hx.1, ?_⟩)
        · have ez : spec_l1Rd_off.f k b qw 0 (r.length : Int) = some (z, qz) := ez k hk
          rw [if_neg k0, if_pos k1, if_pos i0, if_pos hi, ez, Option.bind_some]
          dsimp only
          rw [if_pos (by omega)]
        · show ((rd_T66 r i).f1 ++ [z]).length ≤ 2001
          rw [List.length_append, List.length_singleton]
          omega
      · by_cases k2 : w = 2
        · refine go (r.take i.toNat) qw 0 (fun k _ => by rw [if_neg k0, if_neg k1, if_pos k2, if_pos i0, if_pos (by omega)]) ⟨by rw [List.length_take]; omega, fun x hx => by have := hR.2 x (List.mem_of_mem_take hx); omega⟩
        · by_cases k3 : w = 3
          · refine go (r ++ [(⟨(⟨#[113]⟩ : ByteArray), ([] : List Int)⟩ : S66)]) qw 0 (fun k _ => by rw [if_neg k0, if_neg k1, if_neg k2, if_pos k3, if_pos (by omega)]) ⟨by rw [List.length_append, List.length_singleton]; omega, fun x hx => ?_⟩
            rcases List.mem_append.1 hx with hx | hx
            · have := hR.2 x hx; omega
            · rw [List.mem_singleton] at hx
              subst hx
              exact ⟨show (1 : Nat) ≤ 20000 from by decide, Nat.zero_le _⟩
          · exact go r qw 0 (fun k _ => by rw [if_neg k0, if_neg k1, if_neg k2, if_neg k3]) ⟨by omega, fun x hx => by have := hR.2 x hx; omega⟩
theorem drawTree_ev (b : List Int) (hb : Code b) : ∃ t, Ev (fun k => spec_DrawWriteTree.f k b) t ∧ smallT t := by
  have lift : ∀ t, Ev (fun k => spec_DrawTreeOk.f k b) t → Ev (fun k => spec_DrawWriteTree.f k b) t := fun t ⟨K, h⟩ => ⟨K, fun k hk => by
    have h : spec_DrawTreeOk.f k b = some t := h k hk
    simp only [spec_DrawWriteTree.f]
    rw [h, Option.bind_some]⟩
  obtain ⟨o, q, e, hq⟩ := once_ev b hb 0 ⟨Int.le_refl 0, Int.natCast_nonneg _⟩ 20 (by omega)
  cases o with
  | false =>
    obtain ⟨t, q2, ⟨K, h⟩, hs⟩ := tree_ev b hb q hq
    refine ⟨t, lift t ⟨K, fun k hk => ?_⟩, hs⟩
    have h : spec_l1Rd_tree.f k b q = some (t, q2) := h k hk
    simp only [spec_DrawTreeOk.f, spec_l1Open.f]
    rw [Option.bind_some]
    dsimp only
    rw [e, Option.bind_some]
    dsimp only
    rw [if_neg (by decide), h, Option.bind_some]
  | true =>
    obtain ⟨v, q2, e2, v0, v1, hq2⟩ := below_ev b hb q hq 3 (by omega)
    obtain ⟨n, rfl⟩ := Int.eq_ofNat_of_zero_le v0
    have main : ∀ d i : Nat, (100 + n) - i = d → i ≤ 100 + n → ∀ t : List S66, t.length = i → (∀ x ∈ t, x.f0.size ≤ 20000 ∧ x.f1.length ≤ 2001) → ∃ t', Ev (fun k => spec_DrawTreeOk.l0 k ((100 + n : Nat) : Int) (i : Int) t) t' ∧ smallT t' := by
      intro d
      induction d with
      | zero =>
        intro i hd hi t ht hx
        refine ⟨t ++ [(⟨(⟨#[97]⟩ : ByteArray), ([] : List Int)⟩ : S66)], Ev.step (f := fun _ => some (t ++ [(⟨(⟨#[97]⟩ : ByteArray), ([] : List Int)⟩ : S66)])) (fun k => ?_) (Ev.now _), by rw [List.length_append, List.length_singleton]; omega, fun x hx2 => ?_⟩
        · simp only [spec_DrawTreeOk.l0]
          rw [if_neg (by omega), if_pos (by omega)]
        · rcases List.mem_append.1 hx2 with hx2 | hx2
          · exact hx x hx2
          · rw [List.mem_singleton] at hx2
            subst hx2
            exact ⟨show (1 : Nat) ≤ 20000 from by decide, Nat.zero_le _⟩
      | succ d ih =>
        intro i hd hi t ht hx
        obtain ⟨t', h, hs⟩ := ih (i + 1) (by omega) (by omega) (t ++ [(⟨(⟨#[]⟩ : ByteArray), (([((i + 1 : Nat) : Int)] : List Int))⟩ : S66)]) (by rw [List.length_append, List.length_singleton]; omega) (fun x hx2 => by
          rcases List.mem_append.1 hx2 with hx2 | hx2
          · exact hx x hx2
          · rw [List.mem_singleton] at hx2
            subst hx2
            exact ⟨Nat.zero_le _, show (1 : Nat) ≤ 2001 from by decide⟩)
        refine ⟨t', Ev.step (fun k => ?_) h, hs⟩
        simp only [spec_DrawTreeOk.l0]
        rw [if_pos (by omega), if_pos (by omega), wrap_next i (by omega)]
    obtain ⟨t', ⟨K, h⟩, hs⟩ := main (100 + n) 0 (by omega) (by omega) [] rfl (fun x hx => by cases hx)
    refine ⟨t', lift t' ⟨K, fun k hk => ?_⟩, hs⟩
    have h : spec_DrawTreeOk.l0 k ((100 + n : Nat) : Int) 0 [] = some t' := h k hk
    have hw : wrap64 (100 + (n : Int)) = ((100 + n : Nat) : Int) := by rw [wrap64_id (by omega) (by omega)]; omega
    simp only [spec_DrawTreeOk.f, spec_l1Open.f]
    rw [Option.bind_some]
    dsimp only
    rw [e, Option.bind_some, if_pos rfl, e2, Option.bind_some, hw]
    exact h

/-! textDraw -/
theorem chain_ev (n : Nat) (hn : n ≤ 200) : ∃ s, Ev (fun k => spec_l2Chain.f k (n : Int)) s ∧ s.size ≤ 1000 := by
  have main : ∀ d i : Nat, n - i = d → i ≤ n → ∀ s : ByteArray, s.size ≤ 1 + 2 * i → ∃ s', Ev (fun k => spec_l2Chain.l0 k (n : Int) s (i : Int)) s' ∧ s'.size ≤ 1000 := by
    intro d
    induction d with
    | zero => intro i hd hi s hs; exact ⟨s, Ev.step (f := fun _ => some s) (fun k => by simp only [spec_l2Chain.l0]; rw [if_neg (by omega)]) (Ev.now _), by omega⟩
    | succ d ih =>
      intro i hd hi s hs
      have e1 : (⟨#[40]⟩ ++ s : ByteArray).size = 1 + s.size := by rw [ByteArray.size_append]; rfl
      have e2 : ((⟨#[40]⟩ ++ s : ByteArray) ++ (⟨#[41]⟩ : ByteArray)).size = 1 + s.size + 1 := by rw [ByteArray.size_append, e1]; rfl
      obtain ⟨s', h, hs'⟩ := ih (i + 1) (by omega) (by omega) ((⟨#[40]⟩ ++ s : ByteArray) ++ (⟨#[41]⟩ : ByteArray)) (by omega)
      refine ⟨s', Ev.step (fun k => ?_) h, hs'⟩
      simp only [spec_l2Chain.l0]
      rw [if_pos (by omega), if_pos (by omega), if_pos (by omega), wrap_next i (by omega)]
  obtain ⟨s, h, hs⟩ := main n 0 (by omega) (by omega) ⟨#[97]⟩ (by decide)
  exact ⟨s, Ev.congr (fun k => rfl) h, hs⟩
theorem many_ev : ∀ n : Nat, n ≤ 3000 → ∀ s : ByteArray, s.size ≤ 10000 - 2 * n → ∃ s', Ev (fun k => spec_DrawReadTree.l0 k s (n : Int)) s' ∧ s'.size ≤ 100000 := by
  intro n
  induction n with
  | zero =>
    intro _ s hs
    refine ⟨s ++ ⟨#[41]⟩, Ev.step (f := fun _ => some (s ++ ⟨#[41]⟩)) (fun k => ?_) (Ev.now _), ?_⟩
    · simp only [spec_DrawReadTree.l0]
      rw [if_neg (by omega), if_pos (by omega)]
    · rw [ByteArray.size_append, show (⟨#[41]⟩ : ByteArray).size = 1 from rfl]; omega
  | succ n ih =>
    intro hn s hs
    have e1 : (s ++ ⟨#[97, 32]⟩ : ByteArray).size = s.size + 2 := by rw [ByteArray.size_append]; rfl
    obtain ⟨s', h, hs'⟩ := ih (by omega) (s ++ ⟨#[97, 32]⟩) (by omega)
    have hw : wrap64 (((n + 1 : Nat) : Int) - 1) = (n : Int) := by rw [wrap64_id (by omega) (by omega)]; omega
    refine ⟨s', Ev.step (fun k => ?_) h, hs'⟩
    simp only [spec_DrawReadTree.l0]
    rw [if_pos (by omega), if_pos (by omega), hw]
theorem long_ev (b : List Int) (hb : Code b) : ∀ d : Nat, ∀ s : ByteArray, 20002 - s.size ≤ d → s.size ≤ 100000 → ∀ p, At b p → ∃ s', Ev (fun k => spec_DrawReadTree.l1 k s b p) s' ∧ s'.size ≤ 100000 := by
  intro d
  induction d with
  | zero =>
    intro s hd hs p hp
    obtain ⟨v, q, e, v0, v1, hq⟩ := below_ev b hb p hp 2 (by omega)
    have hw : wrap64 (20000 + v) = 20000 + v := wrap64_id (by omega) (by omega)
    refine ⟨s, Ev.step (f := fun _ => some s) (fun k => ?_) (Ev.now _), hs⟩
    simp only [spec_DrawReadTree.l1]
    rw [e, Option.bind_some]
    dsimp only
    rw [hw, if_neg (by omega)]
  | succ d ih =>
    intro s hd hs p hp
    obtain ⟨v, q, e, v0, v1, hq⟩ := below_ev b hb p hp 2 (by omega)
    have hw : True → wrap64 (20000 + v) = 20000 + v := fun _ => wrap64_id (by omega) (by omega)
    by_cases c : (s.size : Int) < 20000 + v
    · have e1 : (s ++ (⟨#[32, 32, 32, 32, 32, 32, 32, 32, 32, 32, 32, 32, 32, 32, 32, 32, 32, 32, 32, 32, 32, 32, 32, 32, 32, 32, 32, 32, 32, 32, 32, 32, 32, 32, 32, 32, 32, 32, 32, 32, 32, 32, 32, 32, 32, 32, 32, 32, 32, 32]⟩ : ByteArray)).size = s.size + 50 := by rw [ByteArray.size_append]; rfl
      obtain ⟨s', h, hs'⟩ := ih (s ++ (⟨#[32, 32, 32, 32, 32, 32, 32, 32, 32, 32, 32, 32, 32, 32, 32, 32, 32, 32, 32, 32, 32, 32, 32, 32, 32, 32, 32, 32, 32, 32, 32, 32, 32, 32, 32, 32, 32, 32, 32, 32, 32, 32, 32, 32, 32, 32, 32, 32, 32, 32]⟩ : ByteArray)) (by omega) (by omega) q hq
      refine ⟨s', Ev.step (fun k => ?_) h, hs'⟩
      simp only [spec_DrawReadTree.l1]
      rw [e, Option.bind_some]
      dsimp only
      rw [hw trivial, if_pos c, if_pos (by omega)]
    · refine ⟨s, Ev.step (f := fun _ => some s) (fun k => ?_) (Ev.now _), hs⟩
      simp only [spec_DrawReadTree.l1]
      rw [e, Option.bind_some]
      dsimp only
      rw [hw trivial, if_neg c]
theorem lit6 (v : Int) (h0 : 0 ≤ v) (h1 : v < 6) : (rdOf ByteArray.empty ([(⟨#[41]⟩ : ByteArray), (⟨#[40]⟩ : ByteArray), (⟨#[32, 98]⟩ : ByteArray), (⟨#[9]⟩ : ByteArray), (⟨#[59]⟩ : ByteArray), (⟨#[10]⟩ : ByteArray)] : List ByteArray) v).size ≤ 4 := by
  have : v = 0 ∨ v = 1 ∨ v = 2 ∨ v = 3 ∨ v = 4 ∨ v = 5 := by omega
  rcases this with rfl | rfl | rfl | rfl | rfl | rfl <;> decide
theorem lit8r (v : Int) (h0 : 0 ≤ v) (h1 : v < 8) : (rdOf ByteArray.empty ([(⟨#[]⟩ : ByteArray), (⟨#[32]⟩ : ByteArray), (⟨#[59, 97]⟩ : ByteArray), (⟨#[97, 32, 98]⟩ : ByteArray), (⟨#[97, 41]⟩ : ByteArray), (⟨#[97, 59, 98]⟩ : ByteArray), (⟨#[40, 97, 59, 41, 10, 41]⟩ : ByteArray), (⟨#[97, 59, 1]⟩ : ByteArray)] : List ByteArray) v).size ≤ 100000 := by
  have : v = 0 ∨ v = 1 ∨ v = 2 ∨ v = 3 ∨ v = 4 ∨ v = 5 ∨ v = 6 ∨ v = 7 := by omega
  rcases this with rfl | rfl | rfl | rfl | rfl | rfl | rfl | rfl <;> decide
theorem drawText_ev (b : List Int) (hb : Code b) : ∃ s, Ev (fun k => spec_DrawReadTree.f k b) s ∧ s.size ≤ 100000 := by
  obtain ⟨v, q, s, q', e1, ⟨K1, h1⟩, hq', hs⟩ := grown_ev b hb 0 ⟨Int.le_refl 0, Int.natCast_nonneg _⟩
  obtain ⟨w, qw, ew, w0, w1, hqw⟩ := below_ev b hb q' hq' 12 (by omega)
  have head : ∀ (r : ByteArray) (K : Nat), (∀ k, K ≤ k → (spec_l2Grow.f k b q (wrap64 (1 + v))) = some (s, q') → spec_DrawReadTree.f k b = some r) → r.size ≤ 100000 → ∃ s, Ev (fun k => spec_DrawReadTree.f k b) s ∧ s.size ≤ 100000 := fun r K h hr => ⟨r, ⟨K1 + K, fun k hk => h k (by omega) (h1 k (by omega))⟩, hr⟩
  have hws : True → wrap64 ((s.size : Int) + 1) = (s.size : Int) + 1 := fun _ => wrap64_id (by omega) (by omega)
  by_cases k0 : w = 0
  · obtain ⟨i, qi, ei, i0, i1, hqi⟩ := below_ev b hb qw hqw ((s.size : Int) + 1) (by omega)
    obtain ⟨z, qz, ez, z0, z1, hqz⟩ := below_ev b hb qi hqi 6 (by omega)
    have hz : z < 6 := by omega
    have hi : i ≤ (s.size : Int) := by omega
    have h6 := lit6 z z0 hz
    obtain ⟨Y, hY⟩ : ∃ Y, rdOf ByteArray.empty ([(⟨#[41]⟩ : ByteArray), (⟨#[40]⟩ : ByteArray), (⟨#[32, 98]⟩ : ByteArray), (⟨#[9]⟩ : ByteArray), (⟨#[59]⟩ : ByteArray), (⟨#[10]⟩ : ByteArray)] : List ByteArray) z = Y := ⟨_, rfl⟩
    rw [hY] at h6
    have l1 := ext_len s 0 i.toNat (Nat.zero_le _) (by omega)
    have l2 := ext_len s i.toNat s.size (by omega) (Nat.le_refl _)
    have l3 : ((s.extract 0 i.toNat) ++ Y).size = (s.extract 0 i.toNat).size + Y.size := ByteArray.size_append
    refine head (((s.extract 0 i.toNat) ++ Y) ++ (s.extract i.toNat s.size)) 0 (fun k _ hg => ?_) (by rw [ByteArray.size_append]; omega)
    simp only [spec_DrawReadTree.f, spec_l1Open.f]
    rw [Option.bind_some]
    dsimp only
    rw [e1, Option.bind_some]
    dsimp only
    rw [hg, Option.bind_some]
    dsimp only
    rw [ew, Option.bind_some]
    dsimp only
    rw [if_pos k0, hws trivial, ei, Option.bind_some]
    dsimp only
    rw [if_pos i0, if_pos hi, Option.bind_some, ez, Option.bind_some]
    dsimp only
    rw [if_pos z0, if_pos (by simpa using hz), hY, if_pos (by omega), if_pos (by omega)]
  · by_cases k1 : w = 1
    · obtain ⟨i, qi, ei, i0, i1, hqi⟩ := below_ev b hb qw hqw ((s.size : Int) + 1) (by omega)
      have hi : i ≤ (s.size : Int) := by omega
      have l1 := ext_len s 0 i.toNat (Nat.zero_le _) (by omega)
      refine head (s.extract 0 i.toNat) 0 (fun k _ hg => ?_) (by omega)
      simp only [spec_DrawReadTree.f, spec_l1Open.f]
      rw [Option.bind_some]
      dsimp only
      rw [e1, Option.bind_some]
      dsimp only
      rw [hg, Option.bind_some]
      dsimp only
      rw [ew, Option.bind_some]
      dsimp only
      rw [if_neg k0, if_pos k1, hws trivial, ei, Option.bind_some]
      dsimp only
      rw [if_pos i0, if_pos hi]
    · by_cases k2 : w = 2
      · obtain ⟨z, qz, ez, z0, z1, hqz⟩ := below_ev b hb qw hqw 3 (by omega)
        obtain ⟨n, rfl⟩ := Int.eq_ofNat_of_zero_le z0
        have hw : wrap64 (100 + (n : Int)) = ((100 + n : Nat) : Int) := by rw [wrap64_id (by omega) (by omega)]; omega
        obtain ⟨r, ⟨K, hr⟩, hrs⟩ := chain_ev (100 + n) (by omega)
        refine head r K (fun k hk hg => ?_) (by omega)
        have hr : spec_l2Chain.f k ((100 + n : Nat) : Int) = some r := hr k hk
        simp only [spec_DrawReadTree.f, spec_l1Open.f]
        rw [Option.bind_some]
        dsimp only
        rw [e1, Option.bind_some]
        dsimp only
        rw [hg, Option.bind_some]
        dsimp only
        rw [ew, Option.bind_some]
        dsimp only
        rw [if_neg k0, if_neg k1, if_pos k2, ez, Option.bind_some]
        dsimp only
        rw [hw, hr, Option.bind_some]
      · by_cases k3 : w = 3
        · obtain ⟨z, qz, ez, z0, z1, hqz⟩ := below_ev b hb qw hqw 3 (by omega)
          obtain ⟨n, rfl⟩ := Int.eq_ofNat_of_zero_le z0
          have hw : wrap64 (1998 + (n : Int)) = ((1998 + n : Nat) : Int) := by rw [wrap64_id (by omega) (by omega)]; omega
          obtain ⟨r, ⟨K, hr⟩, hrs⟩ := many_ev (1998 + n) (by omega) ⟨#[40]⟩ (by rw [show (⟨#[40]⟩ : ByteArray).size = 1 from rfl]; omega)
          refine head r K (fun k hk hg => ?_) hrs
          have hr : spec_DrawReadTree.l0 k ⟨#[40]⟩ ((1998 + n : Nat) : Int) = some r := hr k hk
          simp only [spec_DrawReadTree.f, spec_l1Open.f]
          rw [Option.bind_some]
          dsimp only
          rw [e1, Option.bind_some]
          dsimp only
          rw [hg, Option.bind_some]
          dsimp only
          rw [ew, Option.bind_some]
          dsimp only
          rw [if_neg k0, if_neg k1, if_neg k2, if_pos k3, ez, Option.bind_some]
          dsimp only
          rw [hw, hr]
        · by_cases k4 : w = 4
          · obtain ⟨z, qz, ez, z0, z1, hqz⟩ := below_ev b hb qw hqw 8 (by omega)
            have hz : z < 8 := by omega
            refine head _ 0 (fun k _ hg => ?_) (lit8r z z0 hz)
            simp only [spec_DrawReadTree.f, spec_l1Open.f]
            rw [Option.bind_some]
            dsimp only
            rw [e1, Option.bind_some]
            dsimp only
            rw [hg, Option.bind_some]
            dsimp only
            rw [ew, Option.bind_some]
            dsimp only
            rw [if_neg k0, if_neg k1, if_neg k2, if_neg k3, if_pos k4, Option.bind_some, ez, Option.bind_some]
            dsimp only
            rw [if_pos z0, if_pos (by simpa using hz)]
          · by_cases k5 : w = 5
            · obtain ⟨r, ⟨K, hr⟩, hrs⟩ := long_ev b hb 20002 s (by omega) (by omega) qw hqw
              refine head r K (fun k hk hg => ?_) hrs
              have hr : spec_DrawReadTree.l1 k s b qw = some r := hr k hk
              simp only [spec_DrawReadTree.f, spec_l1Open.f]
              rw [Option.bind_some]
              dsimp only
              rw [e1, Option.bind_some]
              dsimp only
              rw [hg, Option.bind_some]
              dsimp only
              rw [ew, Option.bind_some]
              dsimp only
              rw [if_neg k0, if_neg k1, if_neg k2, if_neg k3, if_neg k4, if_pos k5, hr]
            · refine head s 0 (fun k _ hg => ?_) (by omega)
              simp only [spec_DrawReadTree.f, spec_l1Open.f]
              rw [Option.bind_some]
              dsimp only
              rw [e1, Option.bind_some]
              dsimp only
              rw [hg, Option.bind_some]
              dsimp only
              rw [ew, Option.bind_some]
              dsimp only
              rw [if_neg k0, if_neg k1, if_neg k2, if_neg k3, if_neg k4, if_neg k5]
/-- What any text is read as. -/
theorem readAll (T : ByteArray) (hT : T.size ≤ 1048576) : ∃ (r : List S66) (c p : Int), Ev (fun k => spec_ReadTree.f k T) (r, c, p) ∧ Ev (fun k => impl_ReadTree.f k T) (r, c, p) ∧
    ((c ≠ 0 ∧ r = []) ∨ (c = 0 ∧ (∃ f : Rs, f.one ∧ f.ok 0 ∧ r = f.flat 0 ∧ f.size ≤ 2000) ∧ r.length ≤ 2000 ∧ ∀ x ∈ r, x.f0.size ≤ 20000 ∧ x.f1.length ≤ 2000)) := by
  by_cases c1 : 20000 < T.size
  · exact ⟨[], 1, 0, ⟨0, fun k _ => by simp only [spec_ReadTree.f]; rw [if_pos c1]⟩, ⟨0, fun k _ => by simp only [impl_ReadTree.f]; rw [if_pos c1]⟩, .inl ⟨by decide, rfl⟩⟩
  · obtain ⟨r, c, p, hr, h1, h2⟩ := read_agree T (by omega) RtI RtI.step _ 0 (Nat.le_refl _) (Nat.zero_le _) [] [] rtJ_nil RtI.nil
    refine ⟨r, c, p, Ev.congr (fun k => by simp only [spec_ReadTree.f]; rw [if_neg c1]; rfl) h1, Ev.congr (fun k => by simp only [impl_ReadTree.f]; rw [if_neg c1]; rfl) h2, ?_⟩
    rcases hr with hr | ⟨hc, hne, J, f, d, hw, q1, q2, q3, q4⟩
    · exact .inl hr
    · refine .inr ⟨hc, ?_, J.len, fun x hx => by have := J.kids x hx; have := J.len; omega⟩
      have hd : d = 0 := by
        cases d with
        | zero => rfl
        | succ e =>
          obtain ⟨p, g1, g2, _, _⟩ := Rs.push_flat (.list .nil .nil) (fun _ => rfl) f e 0 hw
          rw [g2] at q3
          have := congrArg List.length q3
          rw [List.length_append] at this
          simp at this
      have h1 : f.one := by
        rcases q1 with ⟨q1, _⟩ | q1
        · rw [q1] at q2; exact absurd q2 hne
        · exact q1
      exact ⟨f, h1, q4, q2, by rw [← Rs.flat_len f 0, ← q2]; exact J.len⟩
-- SAYS: For all codes: a drawn tree's text is read back as the tree; what a drawn text is read as is right, and is written as what is read as the same.
theorem FnTreeBack (l0 l1 : List Int) (q0 : ∀ x ∈ l0, (Lit.int .u8 x).wf = true) (hl0 : l0.length ≤ 9223372036854775807) (q1 : ∀ x ∈ l1, (Lit.int .u8 x).wf = true) (hl1 : l1.length ≤ 9223372036854775807) : ∃ k, laws_FnTreeBack.f k l0 l1 = some true := by
  have jt : ∀ k, laws_FnTreeBack.j0 (k + 1) l0 l1 true = some true := fun k => by simp only [laws_FnTreeBack.j0]; rw [if_pos trivial]
  by_cases b0 : (l0.length : Int) > 1048576
  · have db := decide_eq_true b0
    exact ⟨1, by unfold laws_FnTreeBack.f laws_big.f; rw [db, Option.bind_some, if_pos rfl]; exact jt 0⟩
  by_cases b1 : (l1.length : Int) > 1048576
  · have db0 := decide_eq_false b0
    have db1 := decide_eq_true b1
    exact ⟨1, by unfold laws_FnTreeBack.f laws_big.f; rw [db0, Option.bind_some, if_neg (by decide), db1, Option.bind_some]; exact jt 0⟩
  have db0 := decide_eq_false b0
  have db1 := decide_eq_false b1
  obtain ⟨t, ht, hts⟩ := drawTree_ev l0 (code_of l0 q0 (by omega))
  obtain ⟨T, hT, hTs⟩ := drawText_ev l1 (code_of l1 q1 (by omega))
  have hx1 : ∀ x ∈ t, x.f0.size ≤ 1048576 ∧ x.f1.length ≤ 1048576 := fun x hx => by have := hts.2 x hx; omega
  have hl1 : t.length ≤ 1048576 := by have := hts.1; omega
  obtain ⟨s, w1, w2, hs⟩ := back_ok t hl1 hx1
  obtain ⟨r, c, p, r1, r2, hr⟩ := readAll T (by omega)
  have last : Ev (fun k => laws_FnTreeBack.j2 k c false r) true := by
    rcases hr with ⟨hc, rfl⟩ | ⟨rfl, ⟨f, f1, f2, rfl, f4⟩, hl, hx⟩
    · exact Ev.step (f := fun _ => some true) (fun k => by simp only [laws_FnTreeBack.j2]; rw [if_neg (by decide), if_neg hc]; rfl) (Ev.now _)
    · have hx2 : ∀ x ∈ f.flat 0, x.f0.size ≤ 1048576 ∧ x.f1.length ≤ 1048576 := fun x hx1 => by have := hx x hx1; omega
      obtain ⟨s2, ⟨K1, v1⟩, ⟨K2, v2⟩, hs2⟩ := back_ok (f.flat 0) (by omega) hx2
      have hok := rose_ok f f1 f2 f4 (fun x hx1 => (hx2 x hx1).1)
      obtain ⟨bb, g1, ⟨K3, g2⟩⟩ := treeOk_agree (f.flat 0) (by omega) hx2
      have hbb := Ev.uniq g1 hok
      subst hbb
      obtain ⟨v, v0, v1', ⟨K4, hv⟩⟩ := deep_one f f1 f2 (by omega)
      obtain ⟨K5, hsm⟩ := sameTree_ev (f.flat 0) (by omega) (fun x hx1 => (hx2 x hx1).2)
      obtain ⟨rr, cc, pp, _, ⟨K6, r6⟩, _⟩ := readAll s2 (by
        rcases Nat.lt_or_ge 1048576 s2.size with h | h
        · exfalso
          rcases hs2 with h2 | ⟨h2, K, h3⟩
          · have := (toList_nil s2).1 h2; omega
          · have h3 : impl_ReadTree.f K s2 = some (f.flat 0, 0, 0) := h3 K (Nat.le_refl _)
            unfold impl_ReadTree.f at h3
            rw [if_pos (by omega)] at h3
            have := (Prod.mk.inj (Prod.mk.inj (Option.some.inj h3)).2).1
            omega
        · exact h)
      refine ⟨K1 + K2 + K3 + K4 + K5 + K6 + 1, fun k hk => ?_⟩
      obtain ⟨m, rfl⟩ : ∃ m, k = m + 1 := ⟨k - 1, by omega⟩
      have v2 : impl_WriteTree.f m (f.flat 0) = some s2 := v2 m (by omega)
      have g2 : impl_TreeOk.f m (f.flat 0) = some true := g2 m (by omega)
      have hv : impl_Tree_depth.f m (f.flat 0) 0 = some v := hv m (by omega)
      have hsm : laws_sameTree.f m (f.flat 0) (f.flat 0) = some true := hsm m (by omega)
      have r6a : impl_ReadTree.f m s2 = some (rr, cc, pp) := r6 m (by omega)
      have hd : impl_DepthOf.f m (f.flat 0) = some v := by unfold impl_DepthOf.f; rw [g2, Option.bind_some, if_pos rfl, hv, Option.bind_some]
      simp only [laws_FnTreeBack.j2]
      rw [if_neg (by decide), if_pos trivial, v2, Option.bind_some, r6a, Option.bind_some, g2, Option.bind_some, if_pos rfl, hd, Option.bind_some, if_pos v0, Option.bind_some, if_pos v1', Option.bind_some]
      rcases hs2 with h2 | ⟨h2, h3⟩
      · rw [if_pos h2]
      · have he := Ev.uniq ⟨K6, r6⟩ h3
        obtain ⟨e1, e2⟩ := Prod.mk.inj he
        obtain ⟨e2, _⟩ := Prod.mk.inj e2
        subst e1 e2
        rw [if_neg h2]
        dsimp only
        rw [if_pos rfl, hsm, Option.bind_some]
  have second : Ev (fun k => laws_FnTreeBack.j1 k l1) true := by
    obtain ⟨K1, h1⟩ := hT
    obtain ⟨K2, h2⟩ := r1
    obtain ⟨K3, h3⟩ := r2
    obtain ⟨K4, h4⟩ := last
    refine ⟨K1 + K2 + K3 + K4 + 1, fun k hk => ?_⟩
    obtain ⟨m, rfl⟩ : ∃ m, k = m + 1 := ⟨k - 1, by omega⟩
    have h1 : spec_DrawReadTree.f m l1 = some T := h1 m (by omega)
    have h2 : spec_ReadTree.f m T = some (r, c, p) := h2 m (by omega)
    have h3 : impl_ReadTree.f m T = some (r, c, p) := h3 m (by omega)
    have h4 : laws_FnTreeBack.j2 m c false r = some true := h4 m (by omega)
    simp only [laws_FnTreeBack.j1]
    rw [h1, Option.bind_some, h2, Option.bind_some, h3, Option.bind_some]
    dsimp only
    rw [if_pos rfl, bne_self_eq_false]
    exact h4
  have first : Ev (fun k => laws_FnTreeBack.j0 k l0 l1 false) true := by
    obtain ⟨K1, h1⟩ := ht
    obtain ⟨K2, h2⟩ := w1
    obtain ⟨K3, h3⟩ := w2
    obtain ⟨K4, h4⟩ := second
    obtain ⟨K5, h5⟩ := sameTree_ev t hl1 (fun x hx => (hx1 x hx).2)
    have main : ∀ K6 : Nat, (∀ m, K6 ≤ m → (if s.toList = ([] : List UInt8) then (laws_FnTreeBack.j1 m l1) else ((impl_ReadTree.f m s).bind fun bt317 => (if bt317.2.1 = 0 then ((laws_sameTree.f m bt317.1 t).bind fun t323 => (if t323 = true then (laws_FnTreeBack.j1 m l1) else (some false))) else (some false)))) = some true) → Ev (fun k => laws_FnTreeBack.j0 k l0 l1 false) true := fun K6 h6 => by
      refine ⟨K1 + K2 + K3 + K6 + 1, fun k hk => ?_⟩
      obtain ⟨m, rfl⟩ : ∃ m, k = m + 1 := ⟨k - 1, by omega⟩
      have h1 : spec_DrawWriteTree.f m l0 = some t := h1 m (by omega)
      have h2 : spec_WriteTree.f m t = some s := h2 m (by omega)
      have h3 : impl_WriteTree.f m t = some s := h3 m (by omega)
      simp only [laws_FnTreeBack.j0]
      rw [if_neg (by decide), h1, Option.bind_some, h3, Option.bind_some, h2, Option.bind_some, if_pos rfl]
      exact h6 m (by omega)
    rcases hs with hs | ⟨hs, K6, h6⟩
    · exact main K4 (fun m hm => by rw [if_pos hs]; exact h4 m hm)
    · refine main (K4 + K5 + K6) (fun m hm => ?_)
      have h6 : impl_ReadTree.f m s = some (t, 0, 0) := h6 m (by omega)
      have h5 : laws_sameTree.f m t t = some true := h5 m (by omega)
      rw [if_neg hs, h6, Option.bind_some]
      dsimp only
      rw [if_pos rfl, h5, Option.bind_some, if_pos rfl]
      exact h4 m (by omega)
  obtain ⟨K, hK⟩ := first
  refine ⟨K, ?_⟩
  have hK := hK K (Nat.le_refl _)
  dsimp only at hK
  unfold laws_FnTreeBack.f laws_big.f
  rw [db0, Option.bind_some, if_neg (by decide), db1, Option.bind_some]
  exact hK

end Go.Proofs.Ytjjlcmfjmdfedaa.Pure
