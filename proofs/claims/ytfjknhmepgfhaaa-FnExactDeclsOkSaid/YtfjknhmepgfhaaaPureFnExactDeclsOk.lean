/- The program's DeclsOk answers as the reference's DeclsOk does, for all decls. -/
import Derived.Test.YtfjknhmepgfhaaaPFnExactDeclsOkx4
import Derived.Test.YtfjknhmepgfhaaaBits
import Derived.Test.YtfjknhmepgfhaaaLoops
namespace Go.Proofs.Ytfjknhmepgfhaaa.Pure
open Go Go.RowKit Go.Proofs.Ytfjknhmepgfhaaa.PFnExactDeclsOk Go.Proofs.YtfjknhmepgfhaaaW.PrintWords Go.Proofs.YtfjknhmepgfhaaaW.PrintLast Go.Proofs.YtfjknhmepgfhaaaW.PrintMore Go.Proofs.Ytfjknhmepgfhaaa.BitsLib Go.Proofs.Ytfjknhmepgfhaaa.Loops
set_option linter.unusedVariables false
set_option linter.unusedSimpArgs false
set_option maxRecDepth 4000

/-! implInside -/
theorem inside_eq (a b c : Int) : impl_inside.f a b c = some (decide (b ≤ a ∧ a ≤ c)) := by
  unfold impl_inside.f
  by_cases h1 : b ≤ a
  · rw [if_pos h1]; simp [h1]
  · rw [if_neg h1]; simp [h1]

/-! specIn -/
theorem l1In_eq (a b c : Int) : spec_l1In.f a b c = some (decide (b ≤ a ∧ a ≤ c)) := by
  unfold spec_l1In.f
  by_cases h1 : b ≤ a
  · rw [if_pos h1]; simp [h1]
  · rw [if_neg h1]; simp [h1]

/-! memD -/
theorem rdD (l : List S87) (i : Nat) (h : i < l.length) : rd_T87 l (i : Int) = l[i] := by
  unfold rd_T87
  rw [List.getD_eq_getElem?_getD, Int.toNat_natCast, List.getElem?_eq_getElem h]; rfl
theorem rdD_mem (l : List S87) (i : Nat) (h : i < l.length) : rd_T87 l (i : Int) ∈ l := by rw [rdD l i h]; exact List.getElem_mem h

/-! memLD -/
theorem rdLD (l : List S86) (i : Nat) (h : i < l.length) : rd_T86 l (i : Int) = l[i] := by
  unfold rd_T86
  rw [List.getD_eq_getElem?_getD, Int.toNat_natCast, List.getElem?_eq_getElem h]; rfl
theorem rdLD_mem (l : List S86) (i : Nat) (h : i < l.length) : rd_T86 l (i : Int) ∈ l := by rw [rdLD l i h]; exact List.getElem_mem h
def cvDecl (x : S86) : S87 := ⟨x.f0, x.f1⟩

/-! szDeclS -/
theorem szDecl_out (s : ByteArray) (v left : Int) (hs : s.size ≤ 9223372036854775807) (h0 : 0 ≤ left) (h1 : left ≤ 1048576) :
    ∃ r, laws_szDecl.f s v left = some r ∧ (r < 0 ∨ (0 ≤ r ∧ r ≤ left ∧ (s.size : Int) ≤ left)) := by
  unfold laws_szDecl.f
  rw [wrap64_id (by omega) (by omega)]
  by_cases c : left - (s.size : Int) < 0
  · exact ⟨-1, by rw [if_pos c], .inl (by omega)⟩
  · exact ⟨left - (s.size : Int), by rw [if_neg c], .inr (by omega)⟩
theorem szDeclS_out (l : List S86) (left : Int) (hl : l.length ≤ 9223372036854775807) (hx : ∀ x ∈ l, x.f0.size ≤ 9223372036854775807) (h0 : 0 ≤ left) (h1 : left ≤ 1048576) :
    ∃ r, Ev (fun k => laws_szDeclS.f k l left) r ∧ (r < 0 ∨ (0 ≤ r ∧ r ≤ left ∧ (l.length : Int) ≤ left ∧ ∀ x ∈ l, (x.f0.size : Int) ≤ left)) := by
  by_cases c : left - (l.length : Int) < 0
  · refine ⟨-1, Ev.congr (fun k => ?_) (Ev.now _), .inl (by omega)⟩
    unfold laws_szDeclS.f
    rw [wrap64_id (by omega) (by omega), if_pos c]
  · have main : ∀ d i, l.length - i = d → i ≤ l.length → ∀ lf, 0 ≤ lf → lf ≤ left → ∃ r, Ev (fun k => laws_szDeclS.l0 k l lf (i : Int)) r ∧ (r < 0 ∨ (0 ≤ r ∧ r ≤ lf ∧ ∀ j, i ≤ j → j < l.length → ((rd_T86 l (j : Int)).f0.size : Int) ≤ left)) := by
      intro d
      induction d with
      | zero =>
        intro i hd hi lf g0 g1
        exact ⟨lf, Ev.step (f := fun _ => some lf) (fun k => by simp only [laws_szDeclS.l0]; rw [if_neg (by omega)]) (Ev.now _), .inr ⟨g0, Int.le_refl _, fun j g2 g3 => by omega⟩⟩
      | succ d ih =>
        intro i hd hi lf g0 g1
        have hil : i < l.length := by omega
        obtain ⟨r, hr, hrb⟩ := szDecl_out (rd_T86 l (i : Int)).f0 (rd_T86 l (i : Int)).f1 lf (hx _ (rdLD_mem l i hil)) g0 (by omega)
        rcases hrb with hneg | ⟨p0, p1, p2⟩
        · refine ⟨-1, Ev.step (f := fun _ => some (-1)) (fun k => ?_) (Ev.now _), .inl (by omega)⟩
          simp only [laws_szDeclS.l0]
          rw [if_pos (by omega), if_pos (by omega), hr]
          simp only [Option.bind_some]
          rw [if_pos hneg]
        · obtain ⟨r2, h2, hb2⟩ := ih (i + 1) (by omega) (by omega) r p0 (by omega)
          refine ⟨r2, Ev.step (fun k => ?_) h2, ?_⟩
          · simp only [laws_szDeclS.l0]
            rw [if_pos (by omega), if_pos (by omega), hr]
            simp only [Option.bind_some]
            rw [if_neg (by omega), wrap64_id (by omega) (by omega)]; rfl
          · rcases hb2 with hb2 | ⟨s0, s1, s2⟩
            · exact .inl hb2
            · refine .inr ⟨s0, by omega, fun j g2 g3 => ?_⟩
              by_cases e : j = i
              · rw [e]; omega
              · exact s2 j (by omega) g3
    obtain ⟨r, hr, hb⟩ := main l.length 0 (by omega) (by omega) (left - (l.length : Int)) (by omega) (by omega)
    refine ⟨r, Ev.congr (fun k => ?_) hr, ?_⟩
    · unfold laws_szDeclS.f
      rw [wrap64_id (by omega) (by omega), if_neg c]; rfl
    · rcases hb with hb | ⟨s0, s1, s2⟩
      · exact .inl hb
      · refine .inr ⟨s0, by omega, by omega, fun x hx2 => ?_⟩
        obtain ⟨j, hjl, rfl⟩ := List.getElem_of_mem hx2
        have := s2 j (by omega) hjl
        rwa [rdLD l j hjl] at this

/-! toDeclS -/
theorem toDeclS_ev (l : List S86) (hl : l.length ≤ 1048576) : Ev (fun k => laws_toDeclS.f k l) (l.map cvDecl) := by
  have main := up_loop l.length (filled (fun i => cvDecl (rd_T86 l i)) (List.replicate l.length z87)) (fun k xs i => laws_toDeclS.l0 k l xs i)
    (fun i hi r h => Ev.step (fun k => by
      simp only [laws_toDeclS.l0, laws_toDecl.f]
      rw [if_pos (by omega), if_pos (by omega)]
      simp only [Option.bind_some]
      rw [if_pos (by rw [filled_len _ _ (by simp; omega)]; simp; omega), Int.toNat_natCast, wrap64_id (by omega) (by omega), ← filled_set _ _ (by simpa using hi)]
      rfl) h)
    (l.map cvDecl) (Ev.step (f := fun _ => some (l.map cvDecl)) (fun k => by
      simp only [laws_toDeclS.l0]
      rw [if_neg (by omega), filled_all _ _ (by simp)]
      congr 1
      apply List.ext_getElem?
      intro i
      by_cases hi : i < l.length
      · simp [hi, rdLD]
      · rw [List.getElem?_eq_none (by simp; omega), List.getElem?_eq_none (by simp; omega)]) (Ev.now _))
  rw [filled_zero] at main
  refine Ev.congr (fun k => ?_) main
  unfold laws_toDeclS.f
  rw [if_pos (by omega), if_pos (by omega), Int.toNat_natCast]

/-! eqDeclS -/
theorem eqDeclS_ev (l : List S87) (hl : l.length ≤ 1048576) : Ev (fun k => laws_eqDeclS.f k l l) true := by
  have main := up_loop l.length (fun _ => ()) (fun k _ i => laws_eqDeclS.l0 k l l i)
    (fun i hi r h => Ev.step (fun k => by
      simp only [laws_eqDeclS.l0, laws_eqDecl.f]
      rw [if_pos (by omega), if_pos (by omega), if_pos (by omega)]
      simp only [if_true, Option.bind_some]
      rw [wrap64_id (by omega) (by omega)]) h)
    true (Ev.step (f := fun _ => some true) (fun k => by
      simp only [laws_eqDeclS.l0]
      rw [if_neg (by omega)]) (Ev.now _))
  obtain ⟨K, h⟩ := main
  refine ⟨K, fun k hk => ?_⟩
  have h := h k hk
  dsimp only at h ⊢
  unfold laws_eqDeclS.f
  rw [if_pos rfl]
  exact h

/-! names -/
theorem names_agree (s : ByteArray) (hs : s.size ≤ 1048576) : ∃ b, Ev (fun k => spec_l1Name.f k s) b ∧ Ev (fun k => impl_nameOk.f k s) b := by
  have digit : ∀ c, spec_l1Digit.f c = some (decide (48 ≤ c ∧ c ≤ 57)) := fun c => by
    unfold spec_l1Digit.f
    by_cases h : 48 ≤ c
    · rw [if_pos h]; simp [h]
    · rw [if_neg h]; simp [h]
  have main : ∀ d i, s.size - i = d → i ≤ s.size → ∃ b, Ev (fun k => spec_l1Name.l0 k s (i : Int)) b ∧ Ev (fun k => impl_nameOk.l0 k s (i : Int)) b := by
    intro d
    induction d with
    | zero =>
      intro i hd hi
      refine ⟨true, Ev.step (f := fun _ => some true) (fun k => ?_) (Ev.now _), Ev.step (f := fun _ => some true) (fun k => ?_) (Ev.now _)⟩
      · simp only [spec_l1Name.l0]; rw [if_neg (by omega)]
      · simp only [impl_nameOk.l0]; rw [if_neg (by omega)]
    | succ d ih =>
      intro i hd hi
      obtain ⟨b, h1, h2⟩ := ih (i + 1) (by omega) (by omega)
      have hw : True → wrap64 ((i : Int) + 1) = ((i + 1 : Nat) : Int) := fun _ => wrap_succ' i (by omega)
      have p1 : (i : Int) < (s.size : Int) := by omega
      have p2 : (0 : Int) ≤ (i : Int) := by omega
      by_cases cd : 48 ≤ bt s (i : Int) ∧ bt s (i : Int) ≤ 57
      · refine ⟨b, Ev.step (fun k => ?_) h1, Ev.step (fun k => ?_) h2⟩
        · simp only [spec_l1Name.l0]
          rw [hw trivial, if_pos p1, if_pos p2, digit, decide_eq_true cd]
          simp only [Option.bind_some, if_true]
        · simp only [impl_nameOk.l0]
          rw [hw trivial, if_pos p1, if_pos p2, if_pos (by omega), if_neg (by omega), if_neg (by omega)]
      · by_cases ca : bt s (i : Int) < 97
        · refine ⟨false, Ev.step (f := fun _ => some false) (fun k => ?_) (Ev.now _), Ev.step (f := fun _ => some false) (fun k => ?_) (Ev.now _)⟩
          · simp only [spec_l1Name.l0]
            rw [if_pos p1, if_pos p2, digit, decide_eq_false cd]
            simp only [Option.bind_some]
            rw [if_neg (by decide), if_pos ca]
          · simp only [impl_nameOk.l0]
            rw [if_pos p1, if_pos p2, if_pos ca]
            by_cases c48 : bt s (i : Int) < 48
            · rw [if_pos c48]
            · rw [if_neg c48, if_pos (by omega)]
        · by_cases cz : bt s (i : Int) > 122
          · refine ⟨false, Ev.step (f := fun _ => some false) (fun k => ?_) (Ev.now _), Ev.step (f := fun _ => some false) (fun k => ?_) (Ev.now _)⟩
            · simp only [spec_l1Name.l0]
              rw [if_pos p1, if_pos p2, digit, decide_eq_false cd]
              simp only [Option.bind_some]
              rw [if_neg (by decide), if_neg ca, if_pos cz]
            · simp only [impl_nameOk.l0]
              rw [if_pos p1, if_pos p2, if_neg ca, if_pos cz, if_neg (by omega), if_pos (by omega)]
          · refine ⟨b, Ev.step (fun k => ?_) h1, Ev.step (fun k => ?_) h2⟩
            · simp only [spec_l1Name.l0]
              rw [hw trivial, if_pos p1, if_pos p2, digit, decide_eq_false cd]
              simp only [Option.bind_some]
              rw [if_neg (by decide), if_neg ca, if_neg cz]
            · simp only [impl_nameOk.l0]
              rw [hw trivial, if_pos p1, if_pos p2, if_neg ca, if_neg cz]
  have yes1 : Ev (fun k => spec_l1Name.j0 k s true) false := Ev.step (f := fun _ => some false) (fun k => by simp only [spec_l1Name.j0, if_true]) (Ev.now _)
  have yes2 : Ev (fun k => impl_nameOk.j0 k s true) false := Ev.step (f := fun _ => some false) (fun k => by simp only [impl_nameOk.j0, if_true]) (Ev.now _)
  by_cases c1 : (s.size : Int) < 1
  · exact ⟨false, Ev.congr (fun k => by unfold spec_l1Name.f; rw [if_pos c1]) yes1, Ev.congr (fun k => by unfold impl_nameOk.f; rw [if_pos c1]) yes2⟩
  · by_cases c2 : (s.size : Int) > 12
    · exact ⟨false, Ev.congr (fun k => by unfold spec_l1Name.f; rw [if_neg c1, if_pos c2]) yes1, Ev.congr (fun k => by unfold impl_nameOk.f; rw [if_neg c1, if_pos c2]) yes2⟩
    · obtain ⟨b, h1, h2⟩ := main s.size 0 (by omega) (by omega)
      have p0 : (0 : Int) < (s.size : Int) := by omega
      have go1 : ∀ z, z = false → Ev (fun k => spec_l1Name.j0 k s z) b := fun z hz => Ev.step (fun k => by subst hz; simp only [spec_l1Name.j0]; rw [if_neg (by decide)]; rfl) h1
      have go2 : ∀ z, z = false → Ev (fun k => impl_nameOk.j0 k s z) b := fun z hz => Ev.step (fun k => by subst hz; simp only [impl_nameOk.j0]; rw [if_neg (by decide)]; rfl) h2
      by_cases cd : 48 ≤ bt s 0 ∧ bt s 0 ≤ 57
      · refine ⟨false, Ev.congr (fun k => ?_) yes1, Ev.congr (fun k => ?_) yes2⟩
        · unfold spec_l1Name.f; rw [if_neg c1, if_neg c2, if_pos p0, digit, decide_eq_true cd]; rfl
        · unfold impl_nameOk.f; rw [if_neg c1, if_neg c2, if_pos p0, if_pos (by omega)]
      · have e1 : ∀ k, spec_l1Name.f k s = spec_l1Name.j0 k s false := fun k => by unfold spec_l1Name.f; rw [if_neg c1, if_neg c2, if_pos p0, digit, decide_eq_false cd]; rfl
        by_cases ca : bt s 0 < 97
        · -- the loop's first round says no
          obtain ⟨d, hd⟩ : ∃ d, d = s.size := ⟨_, rfl⟩
          refine ⟨false, Ev.congr e1 (Ev.step (fun k => by simp only [spec_l1Name.j0]; rw [if_neg (by decide)]) (Ev.step (g := fun k => spec_l1Name.l0 k s 0) (f := fun _ => some false) (fun k => ?_) (Ev.now _))), Ev.congr (fun k => ?_) yes2⟩
          · simp only [spec_l1Name.l0]
            rw [if_pos p0, if_pos (by decide), digit, decide_eq_false cd]
            simp only [Option.bind_some]
            rw [if_neg (by decide), if_pos ca]
          · unfold impl_nameOk.f; rw [if_neg c1, if_neg c2, if_pos p0, if_pos ca]
        · by_cases cz : bt s 0 > 122
          · refine ⟨false, Ev.congr e1 (Ev.step (fun k => by simp only [spec_l1Name.j0]; rw [if_neg (by decide)]) (Ev.step (g := fun k => spec_l1Name.l0 k s 0) (f := fun _ => some false) (fun k => ?_) (Ev.now _))), Ev.congr (fun k => ?_) yes2⟩
            · simp only [spec_l1Name.l0]
              rw [if_pos p0, if_pos (by decide), digit, decide_eq_false cd]
              simp only [Option.bind_some]
              rw [if_neg (by decide), if_neg ca, if_pos cz]
            · unfold impl_nameOk.f; rw [if_neg c1, if_neg c2, if_pos p0, if_neg ca, decide_eq_true cz]
          · refine ⟨b, Ev.congr e1 (go1 _ rfl), Ev.congr (fun k => ?_) (go2 _ (decide_eq_false cz))⟩
            unfold impl_nameOk.f; rw [if_neg c1, if_neg c2, if_pos p0, if_neg ca]

/-! idxD -/
theorem idxD_none (nm : ByteArray) : ∀ (l : List S87) (i : Int), (∀ x ∈ l, x.f0.toList ≠ nm.toList) → idxD nm l i = -1
  | [], i, _ => rfl
  | x :: xs, i, h => by
    simp only [idxD]
    rw [if_neg (by have := h x (by simp); simpa using this)]
    exact idxD_none nm xs (i + 1) fun y hy => h y (by simp [hy])
theorem idxD_some (nm : ByteArray) : ∀ (l : List S87) (i : Int), 0 ≤ i → (∃ x ∈ l, x.f0.toList = nm.toList) → 0 ≤ idxD nm l i
  | [], i, _, h => by obtain ⟨x, hx, _⟩ := h; cases hx
  | x :: xs, i, hi, h => by
    simp only [idxD]
    by_cases c : (x.f0.toList == nm.toList) = true
    · rw [if_pos c]; exact hi
    · rw [if_neg c]
      obtain ⟨y, hy, he⟩ := h
      rcases List.mem_cons.1 hy with rfl | hy
      · exact absurd (by simpa using he) c
      · exact idxD_some nm xs (i + 1) (by omega) ⟨y, hy, he⟩

/-! declsOk -/
def sumD : List S87 → Int
  | [] => 0
  | x :: xs => x.f1 + sumD xs
/-- What right decls are good for. -/
structure GoodDecls (l : List S87) : Prop where
  len : l.length ≤ 60
  width : ∀ x ∈ l, 1 ≤ x.f1 ∧ x.f1 ≤ 4096
  total : sumD l ≤ 20000
theorem decls_loops (l : List S87) (hl : l.length ≤ 60) (hx : ∀ x ∈ l, x.f0.size ≤ 1048576) :
    ∀ d i, l.length - i = d → i ≤ l.length → ∀ s : Int, 0 ≤ s → s ≤ 4096 * i → ∃ b, Ev (fun k => spec_DeclsOk.l0 k l s (i : Int)) b ∧ Ev (fun k => impl_DeclsOk.l0 k l s l (l.length : Int) (i : Int)) b ∧
      (b = true → (∀ x ∈ l.drop i, 1 ≤ x.f1 ∧ x.f1 ≤ 4096) ∧ s + sumD (l.drop i) ≤ 20000) := by
  intro d
  induction d with
  | zero =>
    intro i hd hi s g0 g1
    refine ⟨decide (s ≤ 20000), Ev.step (f := fun _ => some (decide (s ≤ 20000))) (fun k => ?_) (Ev.now _), Ev.step (f := fun _ => some (decide (s ≤ 20000))) (fun k => ?_) (Ev.now _), fun hb => ?_⟩
    · simp only [spec_DeclsOk.l0]; rw [if_neg (by omega)]
    · simp only [impl_DeclsOk.l0]; rw [if_neg (by omega)]
    · have e : l.drop i = [] := List.drop_eq_nil_of_le (by omega)
      rw [e]
      refine ⟨(fun x hx => by cases hx), ?_⟩
      have := of_decide_eq_true hb
      show s + 0 ≤ 20000
      omega
  | succ d ih =>
    intro i hd hi s g0 g1
    have hil : i < l.length := by omega
    obtain ⟨x, hxx⟩ : ∃ x, x = rd_T87 l (i : Int) := ⟨_, rfl⟩
    have hxm : x ∈ l := by rw [hxx]; exact rdD_mem l i hil
    have hdrop : l.drop i = x :: l.drop (i + 1) := by rw [List.drop_eq_getElem_cons hil, hxx, rdD l i hil]
    obtain ⟨bn, ⟨K1, h1⟩, ⟨K2, h2⟩⟩ := names_agree x.f0 (hx x hxm)
    have q1 : (i : Int) < (l.length : Int) := by omega
    have q2 : (0 : Int) ≤ (i : Int) := by omega
    have q3 : (i : Int) ≤ (l.length : Int) := by omega
    have no : ∀ (P : Prop), ((false : Bool) = true → P) := fun P h => by cases h
    have specNo : ∀ m, spec_DeclsOk.j1 (m + 1) l s (i : Int) true = some false := fun m => by simp only [spec_DeclsOk.j1, if_true]
    cases bn with
    | false =>
      refine ⟨false, ⟨K1 + 2, fun k hk => ?_⟩, ⟨K2 + 1, fun k hk => ?_⟩, no _⟩
      · obtain ⟨m, rfl⟩ : ∃ m, k = m + 1 + 1 := ⟨k - 2, by omega⟩
        have h1 := h1 (m + 1) (by omega)
        dsimp only at h1 ⊢
        simp only [spec_DeclsOk.l0]
        rw [← hxx, if_pos q1, if_pos q2, h1]
        simp only [Option.bind_some]
        rw [if_neg (by decide)]
        exact specNo m
      · obtain ⟨m, rfl⟩ : ∃ m, k = m + 1 := ⟨k - 1, by omega⟩
        have h2 := h2 m (by omega)
        dsimp only at h2 ⊢
        simp only [impl_DeclsOk.l0]
        rw [← hxx, if_pos q1, if_pos q2, if_pos q1, h2]
        simp only [Option.bind_some]
        rw [if_neg (by decide)]
    | true =>
      by_cases cw : 1 ≤ x.f1 ∧ x.f1 ≤ 4096
      · by_cases cd : ∃ y ∈ l.take i, y.f0.toList = x.f0.toList
        · have hidx := idxD_some x.f0 (l.take i) 0 (by decide) cd
          -- the reference's inner loop finds it
          have inner : Ev (fun k => spec_DeclsOk.l1 k l s (i : Int) 0) false := by
            obtain ⟨y, hy, he⟩ := cd
            obtain ⟨j0, hj0, hyj⟩ := List.getElem_of_mem hy
            rw [List.length_take] at hj0
            rw [List.getElem_take] at hyj
            have heq : (rd_T87 l (j0 : Int)).f0.toList = x.f0.toList := by rw [rdD l j0 (by omega), hyj]; exact he
            have go : ∀ d j, j0 - j = d → j ≤ j0 → Ev (fun k => spec_DeclsOk.l1 k l s (i : Int) (j : Int)) false := by
              intro d
              induction d with
              | zero =>
                intro j hd hj
                have e : j = j0 := by omega
                subst e
                refine Ev.step (f := fun _ => some false) (fun k => ?_) (Ev.now _)
                simp only [spec_DeclsOk.l1]
                rw [← hxx, if_pos (by omega), if_pos (by omega), if_pos (by omega), if_pos q2, if_pos q1, if_pos heq]
              | succ d ih2 =>
                intro j hd hj
                by_cases e : (rd_T87 l (j : Int)).f0.toList = x.f0.toList
                · refine Ev.step (f := fun _ => some false) (fun k => ?_) (Ev.now _)
                  simp only [spec_DeclsOk.l1]
                  rw [← hxx, if_pos (by omega), if_pos (by omega), if_pos (by omega), if_pos q2, if_pos q1, if_pos e]
                · refine Ev.step (fun k => ?_) (ih2 (j + 1) (by omega) (by omega))
                  simp only [spec_DeclsOk.l1]
                  rw [← hxx, if_pos (by omega), if_pos (by omega), if_pos (by omega), if_pos q2, if_pos q1, if_neg e, wrap_succ' j (by omega)]
            exact go j0 0 (by omega) (by omega)
          obtain ⟨K3, h3⟩ := inner
          refine ⟨false, ⟨K1 + K3 + 2, fun k hk => ?_⟩, ⟨K2 + 1, fun k hk => ?_⟩, no _⟩
          · obtain ⟨m, rfl⟩ : ∃ m, k = m + 1 + 1 := ⟨k - 2, by omega⟩
            have h1 := h1 (m + 1) (by omega)
            have h3 := h3 m (by omega)
            dsimp only at h1 h3 ⊢
            simp only [spec_DeclsOk.l0]
            rw [← hxx, if_pos q1, if_pos q2, h1]
            simp only [Option.bind_some, if_true]
            rw [l1In_eq, decide_eq_true cw]
            simp only [Option.bind_some, Bool.not_true, spec_DeclsOk.j1]
            rw [if_neg (by decide)]
            exact h3
          · obtain ⟨m, rfl⟩ : ∃ m, k = m + 1 := ⟨k - 1, by omega⟩
            have h2 := h2 m (by omega)
            dsimp only at h2 ⊢
            simp only [impl_DeclsOk.l0, impl_declared.f]
            rw [← hxx, if_pos q1, if_pos q2, if_pos q1, h2]
            simp only [Option.bind_some, if_true]
            rw [inside_eq, decide_eq_true cw]
            simp only [Option.bind_some, if_true]
            rw [if_pos q3, Int.toNat_natCast, if_pos hidx]
        · have hidx := idxD_none x.f0 (l.take i) 0 (fun y hy he => cd ⟨y, hy, he⟩)
          obtain ⟨b, hs, hi2, hb⟩ := ih (i + 1) (by omega) (by omega) (s + x.f1) (by omega) (by omega)
          have hws : True → wrap64 (s + x.f1) = s + x.f1 := fun _ => wrap64_id (by omega) (by omega)
          have hwi : True → wrap64 ((i : Int) + 1) = ((i + 1 : Nat) : Int) := fun _ => wrap_succ' i (by omega)
          have inner : Ev (fun k => spec_DeclsOk.l1 k l s (i : Int) 0) b := by
            refine up_loop i (fun _ => ()) (fun k _ j => spec_DeclsOk.l1 k l s (i : Int) j) (fun j hj r h => Ev.step (fun k => ?_) h) b (Ev.step (fun k => ?_) hs)
            · have hne : ¬ (rd_T87 l (j : Int)).f0.toList = x.f0.toList := fun he => cd ⟨rd_T87 l (j : Int), by rw [rdD l j (by omega)]; exact List.mem_take_iff_getElem.2 ⟨j, by omega, rfl⟩, he⟩
              simp only [spec_DeclsOk.l1]
              rw [← hxx, if_pos (by omega), if_pos (by omega), if_pos (by omega), if_pos q2, if_pos q1, if_neg hne, wrap64_id (by omega) (by omega)]
            · simp only [spec_DeclsOk.l1]
              rw [← hxx, hws trivial, hwi trivial, if_neg (by omega), if_pos q2, if_pos q1]
          obtain ⟨K3, h3⟩ := inner
          obtain ⟨K4, h4⟩ := hi2
          refine ⟨b, ⟨K1 + K3 + 2, fun k hk => ?_⟩, ⟨K2 + K4 + 1, fun k hk => ?_⟩, fun hbt => ?_⟩
          · obtain ⟨m, rfl⟩ : ∃ m, k = m + 1 + 1 := ⟨k - 2, by omega⟩
            have h1 := h1 (m + 1) (by omega)
            have h3 := h3 m (by omega)
            dsimp only at h1 h3 ⊢
            simp only [spec_DeclsOk.l0]
            rw [← hxx, if_pos q1, if_pos q2, h1]
            simp only [Option.bind_some, if_true]
            rw [l1In_eq, decide_eq_true cw]
            simp only [Option.bind_some, Bool.not_true, spec_DeclsOk.j1]
            rw [if_neg (by decide)]
            exact h3
          · obtain ⟨m, rfl⟩ : ∃ m, k = m + 1 := ⟨k - 1, by omega⟩
            have h2 := h2 m (by omega)
            have h4 := h4 m (by omega)
            dsimp only at h2 h4 ⊢
            simp only [impl_DeclsOk.l0, impl_declared.f]
            rw [← hxx, if_pos q1, if_pos q2, if_pos q1, h2]
            simp only [Option.bind_some, if_true]
            rw [inside_eq, decide_eq_true cw]
            simp only [Option.bind_some, if_true]
            rw [if_pos q3, Int.toNat_natCast, hidx, if_neg (by decide), hws trivial, hwi trivial]
            exact h4
          · obtain ⟨t1, t2⟩ := hb hbt
            rw [hdrop]
            refine ⟨fun y hy => ?_, ?_⟩
            · rcases List.mem_cons.1 hy with rfl | hy
              · exact cw
              · exact t1 y hy
            · show s + (x.f1 + sumD (l.drop (i + 1))) ≤ 20000
              omega
      · refine ⟨false, ⟨K1 + 2, fun k hk => ?_⟩, ⟨K2 + 1, fun k hk => ?_⟩, no _⟩
        · obtain ⟨m, rfl⟩ : ∃ m, k = m + 1 + 1 := ⟨k - 2, by omega⟩
          have h1 := h1 (m + 1) (by omega)
          dsimp only at h1 ⊢
          simp only [spec_DeclsOk.l0]
          rw [← hxx, if_pos q1, if_pos q2, h1]
          simp only [Option.bind_some, if_true]
          rw [l1In_eq, decide_eq_false cw]
          simp only [Option.bind_some, Bool.not_false]
          exact specNo m
        · obtain ⟨m, rfl⟩ : ∃ m, k = m + 1 := ⟨k - 1, by omega⟩
          have h2 := h2 m (by omega)
          dsimp only at h2 ⊢
          simp only [impl_DeclsOk.l0]
          rw [← hxx, if_pos q1, if_pos q2, if_pos q1, h2]
          simp only [Option.bind_some, if_true]
          rw [inside_eq, decide_eq_false cw]
          rfl
theorem declsOk_agree (l : List S87) (hx : ∀ x ∈ l, x.f0.size ≤ 1048576) :
    ∃ b, Ev (fun k => spec_DeclsOk.f k l) b ∧ Ev (fun k => impl_DeclsOk.f k l) b ∧ (b = true → GoodDecls l) := by
  by_cases c : (l.length : Int) > 60
  · exact ⟨false, Ev.congr (fun k => by unfold spec_DeclsOk.f; rw [if_pos c]) (Ev.now _), Ev.congr (fun k => by unfold impl_DeclsOk.f; rw [if_pos c]) (Ev.now _), fun h => by cases h⟩
  · obtain ⟨b, h1, h2, h3⟩ := decls_loops l (by omega) hx l.length 0 (by omega) (by omega) 0 (by decide) (by decide)
    refine ⟨b, Ev.congr (fun k => by unfold spec_DeclsOk.f; rw [if_neg c]; rfl) h1, Ev.congr (fun k => by unfold impl_DeclsOk.f; rw [if_neg c]; rfl) h2, fun hb => ?_⟩
    obtain ⟨t1, t2⟩ := h3 hb
    rw [List.drop_zero] at t1 t2
    exact ⟨by omega, t1, by omega⟩
-- SAYS: The program's DeclsOk answers as the reference's DeclsOk does, for all decls.
theorem FnExactDeclsOk (l0 : List S86) (q0 : ∀ x ∈ l0, x.f0.size ≤ maxLen ∧ (Lit.int .i64 x.f1).wf = true) (hl : l0.length ≤ 9223372036854775807) : ∃ k, laws_FnExactDeclsOk.f k l0 = some true := by
  have hx : ∀ x ∈ l0, x.f0.size ≤ 9223372036854775807 := fun x h => by have := (q0 x h).1; unfold maxLen at this; omega
  obtain ⟨r, g0, hb⟩ := szDeclS_out l0 1048576 hl hx (by decide) (by decide)
  obtain ⟨K0, h0⟩ := Ev.binds g0
  rcases hb with hneg | ⟨b0, b1, b2, b3⟩
  · have hb := eq_true hneg
    exact ⟨K0, by simp (disch := omega) only [laws_FnExactDeclsOk.f, ↓h0, ↓reduceIte, hb]⟩
  · have hl2 : l0.length ≤ 1048576 := by omega
    have hxi : ∀ x ∈ l0.map cvDecl, x.f0.size ≤ 1048576 := fun x h => by
      obtain ⟨y, hy, rfl⟩ := List.mem_map.1 h
      have := b3 y hy
      show y.f0.size ≤ _
      omega
    obtain ⟨b, g2, g3, _⟩ := declsOk_agree (l0.map cvDecl) hxi
    obtain ⟨K1, h1⟩ := Ev.binds (toDeclS_ev l0 hl2)
    obtain ⟨K2, h2⟩ := Ev.binds g2
    obtain ⟨K3, h3⟩ := Ev.binds g3
    obtain ⟨K4, h4⟩ := Ev.binds (eqDeclS_ev (l0.map cvDecl) (by simpa using hl2))
    have hb := eq_false (show ¬ r < 0 by omega)
    refine ⟨K0 + K1 + K2 + K3 + K4, ?_⟩
    simp (disch := omega) only [laws_FnExactDeclsOk.f, ↓h0, ↓h1, ↓h2, ↓h3, ↓h4, ↓reduceIte, hb, bne_self_eq_false, Bool.false_eq_true]

end Go.Proofs.Ytfjknhmepgfhaaa.Pure
