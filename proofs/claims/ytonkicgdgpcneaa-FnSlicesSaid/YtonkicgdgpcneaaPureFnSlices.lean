/- For every code: the slices by the drawn cuts cover each variable from its lowest bit to its highest one, and are as many as the gauge says. -/
import Derived.Test.YtonkicgdgpcneaaPFnSlicesx9
import Derived.Test.YtonkicgdgpcneaaBits
import Derived.Test.YtonkicgdgpcneaaLoops
namespace Go.Proofs.Ytonkicgdgpcneaa.Pure
open Go Go.RowKit Go.Proofs.Ytonkicgdgpcneaa.PFnSlices Go.Proofs.YtonkicgdgpcneaaW.PrintWords Go.Proofs.YtonkicgdgpcneaaW.PrintLast Go.Proofs.YtonkicgdgpcneaaW.PrintMore Go.Proofs.Ytonkicgdgpcneaa.BitsLib Go.Proofs.Ytonkicgdgpcneaa.Loops
set_option linter.unusedVariables false
set_option linter.unusedSimpArgs false
set_option maxRecDepth 4000

/-! wrap_next -/
theorem wrap_next (i : Nat) (h : i < 4611686018427387904) : wrap64 ((i : Int) + 1) = ((i + 1 : Nat) : Int) := by
  rw [wrap64_id (by omega) (by omega)]; rfl

/-! rdE_L4 -/
theorem rdE_L4 (l : List (List Int)) (i : Nat) (h : i < l.length) : rd_L4 l (i : Int) = l[i] := by
  unfold rd_L4
  rw [List.getD_eq_getElem?_getD, Int.toNat_natCast, List.getElem?_eq_getElem h]; rfl
theorem rdM_L4 (l : List (List Int)) (i : Nat) (h : i < l.length) : rd_L4 l (i : Int) ∈ l := by rw [rdE_L4 l i h]; exact List.getElem_mem h

/-! implInside -/
theorem inside_eq (a b c : Int) : impl_inside.f a b c = some (decide (b ≤ a ∧ a ≤ c)) := by
  unfold impl_inside.f
  by_cases h1 : b ≤ a
  · rw [if_pos h1]; simp [h1]
  · rw [if_neg h1]; simp [h1]

/-! specIn -/
theorem l1In_eq (a b c : Int) : spec_l1In.f a b c = some (decide (b ≤ a ∧ a ≤ c)) := by
  unfold spec_l1In.f
  by_cases h1 : b ≤ a
  · rw [if_pos h1]; simp [h1]
  · rw [if_neg h1]; simp [h1]

/-! memD -/
theorem rdD (l : List S63) (i : Nat) (h : i < l.length) : rd_T63 l (i : Int) = l[i] := by
  unfold rd_T63
  rw [List.getD_eq_getElem?_getD, Int.toNat_natCast, List.getElem?_eq_getElem h]; rfl
theorem rdD_mem (l : List S63) (i : Nat) (h : i < l.length) : rd_T63 l (i : Int) ∈ l := by rw [rdD l i h]; exact List.getElem_mem h

/-! names -/
theorem names_agree (s : ByteArray) (hs : s.size ≤ 1048576) : ∃ b, Ev (fun k => spec_l1Name.f k s) b ∧ Ev (fun k => impl_nameOk.f k s) b := by
  have digit : ∀ c, spec_l1Digit.f c = some (decide (48 ≤ c ∧ c ≤ 57)) := fun c => by
    unfold spec_l1Digit.f
    by_cases h : 48 ≤ c
    · rw [if_pos h]; simp [h]
    · rw [if_neg h]; simp [h]
  have main : ∀ d i, s.size - i = d → i ≤ s.size → ∃ b, Ev (fun k => spec_l1Name.l0 k s (i : Int)) b ∧ Ev (fun k => impl_nameOk.l0 k s (i : Int)) b := by
    intro d
    induction d with
    | zero =>
      intro i hd hi
      refine ⟨true, Ev.step (f := fun _ => some true) (fun k => ?_) (Ev.now _), Ev.step (f := fun _ => some true) (fun k => ?_) (Ev.now _)⟩
      · simp only [spec_l1Name.l0]; rw [if_neg (by omega)]
      · simp only [impl_nameOk.l0]; rw [if_neg (by omega)]
    | succ d ih =>
      intro i hd hi
      obtain ⟨b, h1, h2⟩ := ih (i + 1) (by omega) (by omega)
      have hw : True → wrap64 ((i : Int) + 1) = ((i + 1 : Nat) : Int) := fun _ => wrap_succ' i (by omega)
      have p1 : (i : Int) < (s.size : Int) := by omega
      have p2 : (0 : Int) ≤ (i : Int) := by omega
      by_cases cd : 48 ≤ bt s (i : Int) ∧ bt s (i : Int) ≤ 57
      · refine ⟨b, Ev.step (fun k => ?_) h1, Ev.step (fun k => ?_) h2⟩
        · simp only [spec_l1Name.l0]
          rw [hw trivial, if_pos p1, if_pos p2, digit, decide_eq_true cd]
          simp only [Option.bind_some, if_true]
        · simp only [impl_nameOk.l0]
          rw [hw trivial, if_pos p1, if_pos p2, if_pos (by omega), if_neg (by omega), if_neg (by omega)]
      · by_cases ca : bt s (i : Int) < 97
        · refine ⟨false, Ev.step (f := fun _ => some false) (fun k => ?_) (Ev.now _), Ev.step (f := fun _ => some false) (fun k => ?_) (Ev.now _)⟩
          · simp only [spec_l1Name.l0]
            rw [if_pos p1, if_pos p2, digit, decide_eq_false cd]
            simp only [Option.bind_some]
            rw [if_neg (by decide), if_pos ca]
          · simp only [impl_nameOk.l0]
            rw [if_pos p1, if_pos p2, if_pos ca]
            by_cases c48 : bt s (i : Int) < 48
            · rw [if_pos c48]
            · rw [if_neg c48, if_pos (by omega)]
        · by_cases cz : bt s (i : Int) > 122
          · refine ⟨false, Ev.step (f := fun _ => some false) (fun k => ?_) (Ev.now _), Ev.step (f := fun _ => some false) (fun k => ?_) (Ev.now _)⟩
            · simp only [spec_l1Name.l0]
              rw [if_pos p1, if_pos p2, digit, decide_eq_false cd]
              simp only [Option.bind_some]
              rw [if_neg (by decide), if_neg ca, if_pos cz]
            · simp only [impl_nameOk.l0]
              rw [if_pos p1, if_pos p2, if_neg ca, if_pos cz, if_neg (by omega), if_pos (by omega)]
          · refine ⟨b, Ev.step (fun k => ?_) h1, Ev.step (fun k => ?_) h2⟩
            · simp only [spec_l1Name.l0]
              rw [hw trivial, if_pos p1, if_pos p2, digit, decide_eq_false cd]
              simp only [Option.bind_some]
              rw [if_neg (by decide), if_neg ca, if_neg cz]
            · simp only [impl_nameOk.l0]
              rw [hw trivial, if_pos p1, if_pos p2, if_neg ca, if_neg cz]
  have yes1 : Ev (fun k => spec_l1Name.j0 k s true) false := Ev.step (f := fun _ => some false) (fun k => by simp only [spec_l1Name.j0, if_true]) (Ev.now _)
  have yes2 : Ev (fun k => impl_nameOk.j0 k s true) false := Ev.step (f := fun _ => some false) (fun k => by simp only [impl_nameOk.j0, if_true]) (Ev.now _)
  by_cases c1 : (s.size : Int) < 1
  · exact ⟨false, Ev.congr (fun k => by unfold spec_l1Name.f; rw [if_pos c1]) yes1, Ev.congr (fun k => by unfold impl_nameOk.f; rw [if_pos c1]) yes2⟩
  · by_cases c2 : (s.size : Int) > 12
    · exact ⟨false, Ev.congr (fun k => by unfold spec_l1Name.f; rw [if_neg c1, if_pos c2]) yes1, Ev.congr (fun k => by unfold impl_nameOk.f; rw [if_neg c1, if_pos c2]) yes2⟩
    · obtain ⟨b, h1, h2⟩ := main s.size 0 (by omega) (by omega)
      have p0 : (0 : Int) < (s.size : Int) := by omega
      have go1 : ∀ z, z = false → Ev (fun k => spec_l1Name.j0 k s z) b := fun z hz => Ev.step (fun k => by subst hz; simp only [spec_l1Name.j0]; rw [if_neg (by decide)]; rfl) h1
      have go2 : ∀ z, z = false → Ev (fun k => impl_nameOk.j0 k s z) b := fun z hz => Ev.step (fun k => by subst hz; simp only [impl_nameOk.j0]; rw [if_neg (by decide)]; rfl) h2
      by_cases cd : 48 ≤ bt s 0 ∧ bt s 0 ≤ 57
      · refine ⟨false, Ev.congr (fun k => ?_) yes1, Ev.congr (fun k => ?_) yes2⟩
        · unfold spec_l1Name.f; rw [if_neg c1, if_neg c2, if_pos p0, digit, decide_eq_true cd]; rfl
        · unfold impl_nameOk.f; rw [if_neg c1, if_neg c2, if_pos p0, if_pos (by omega)]
      · have e1 : ∀ k, spec_l1Name.f k s = spec_l1Name.j0 k s false := fun k => by unfold spec_l1Name.f; rw [if_neg c1, if_neg c2, if_pos p0, digit, decide_eq_false cd]; rfl
        by_cases ca : bt s 0 < 97
        · -- the loop's first round says no
          obtain ⟨d, hd⟩ : ∃ d, d = s.size := ⟨_, rfl⟩
          refine ⟨false, Ev.congr e1 (Ev.step (fun k => by simp only [spec_l1Name.j0]; rw [if_neg (by decide)]) (Ev.step (g := fun k => spec_l1Name.l0 k s 0) (f := fun _ => some false) (fun k => ?_) (Ev.now _))), Ev.congr (fun k => ?_) yes2⟩
          · simp only [spec_l1Name.l0]
            rw [if_pos p0, if_pos (by decide), digit, decide_eq_false cd]
            simp only [Option.bind_some]
            rw [if_neg (by decide), if_pos ca]
          · unfold impl_nameOk.f; rw [if_neg c1, if_neg c2, if_pos p0, if_pos ca]
        · by_cases cz : bt s 0 > 122
          · refine ⟨false, Ev.congr e1 (Ev.step (fun k => by simp only [spec_l1Name.j0]; rw [if_neg (by decide)]) (Ev.step (g := fun k => spec_l1Name.l0 k s 0) (f := fun _ => some false) (fun k => ?_) (Ev.now _))), Ev.congr (fun k => ?_) yes2⟩
            · simp only [spec_l1Name.l0]
              rw [if_pos p0, if_pos (by decide), digit, decide_eq_false cd]
              simp only [Option.bind_some]
              rw [if_neg (by decide), if_neg ca, if_pos cz]
            · unfold impl_nameOk.f; rw [if_neg c1, if_neg c2, if_pos p0, if_neg ca, decide_eq_true cz]
          · refine ⟨b, Ev.congr e1 (go1 _ rfl), Ev.congr (fun k => ?_) (go2 _ (decide_eq_false cz))⟩
            unfold impl_nameOk.f; rw [if_neg c1, if_neg c2, if_pos p0, if_neg ca]

/-! idxD -/
theorem idxD_none (nm : ByteArray) : ∀ (l : List S63) (i : Int), (∀ x ∈ l, x.f0.toList ≠ nm.toList) → idxD nm l i = -1
  | [], i, _ => rfl
  | x :: xs, i, h => by
    simp only [idxD]
    rw [if_neg (by have := h x (by simp); simpa using this)]
    exact idxD_none nm xs (i + 1) fun y hy => h y (by simp [hy])
theorem idxD_some (nm : ByteArray) : ∀ (l : List S63) (i : Int), 0 ≤ i → (∃ x ∈ l, x.f0.toList = nm.toList) → 0 ≤ idxD nm l i
  | [], i, _, h => by obtain ⟨x, hx, _⟩ := h; cases hx
  | x :: xs, i, hi, h => by
    simp only [idxD]
    by_cases c : (x.f0.toList == nm.toList) = true
    · rw [if_pos c]; exact hi
    · rw [if_neg c]
      obtain ⟨y, hy, he⟩ := h
      rcases List.mem_cons.1 hy with rfl | hy
      · exact absurd (by simpa using he) c
      · exact idxD_some nm xs (i + 1) (by omega) ⟨y, hy, he⟩

/-! declsOk -/
def sumD : List S63 → Int
  | [] => 0
  | x :: xs => x.f1 + sumD xs
/-- What right decls are good for. -/
structure GoodDecls (l : List S63) : Prop where
  len : l.length ≤ 60
  width : ∀ x ∈ l, 1 ≤ x.f1 ∧ x.f1 ≤ 4096
  total : sumD l ≤ 20000
theorem decls_loops (l : List S63) (hl : l.length ≤ 60) (hx : ∀ x ∈ l, x.f0.size ≤ 1048576) :
    ∀ d i, l.length - i = d → i ≤ l.length → ∀ s : Int, 0 ≤ s → s ≤ 4096 * i → ∃ b, Ev (fun k => spec_DeclsOk.l0 k l s (i : Int)) b ∧ Ev (fun k => impl_DeclsOk.l0 k l s l (l.length : Int) (i : Int)) b ∧
      (b = true → (∀ x ∈ l.drop i, 1 ≤ x.f1 ∧ x.f1 ≤ 4096) ∧ s + sumD (l.drop i) ≤ 20000) := by
  intro d
  induction d with
  | zero =>
    intro i hd hi s g0 g1
    refine ⟨decide (s ≤ 20000), Ev.step (f := fun _ => some (decide (s ≤ 20000))) (fun k => ?_) (Ev.now _), Ev.step (f := fun _ => some (decide (s ≤ 20000))) (fun k => ?_) (Ev.now _), fun hb => ?_⟩
    · simp only [spec_DeclsOk.l0]; rw [if_neg (by omega)]
    · simp only [impl_DeclsOk.l0]; rw [if_neg (by omega)]
    · have e : l.drop i = [] := List.drop_eq_nil_of_le (by omega)
      rw [e]
      refine ⟨(fun x hx => by cases hx), ?_⟩
      have := of_decide_eq_true hb
      show s + 0 ≤ 20000
      omega
  | succ d ih =>
    intro i hd hi s g0 g1
    have hil : i < l.length := by omega
    obtain ⟨x, hxx⟩ : ∃ x, x = rd_T63 l (i : Int) := ⟨_, rfl⟩
    have hxm : x ∈ l := by rw [hxx]; exact rdD_mem l i hil
    have hdrop : l.drop i = x :: l.drop (i + 1) := by rw [List.drop_eq_getElem_cons hil, hxx, rdD l i hil]
    obtain ⟨bn, ⟨K1, h1⟩, ⟨K2, h2⟩⟩ := names_agree x.f0 (hx x hxm)
    have q1 : (i : Int) < (l.length : Int) := by omega
    have q2 : (0 : Int) ≤ (i : Int) := by omega
    have q3 : (i : Int) ≤ (l.length : Int) := by omega
    have no : ∀ (P : Prop), ((false : Bool) = true → P) := fun P h => by cases h
    have specNo : ∀ m, spec_DeclsOk.j1 (m + 1) l s (i : Int) true = some false := fun m => by simp only [spec_DeclsOk.j1, if_true]
    cases bn with
    | false =>
      refine ⟨false, ⟨K1 + 2, fun k hk => ?_⟩, ⟨K2 + 1, fun k hk => ?_⟩, no _⟩
      · obtain ⟨m, rfl⟩ : ∃ m, k = m + 1 + 1 := ⟨k - 2, by omega⟩
        have h1 := h1 (m + 1) (by omega)
        dsimp only at h1 ⊢
        simp only [spec_DeclsOk.l0]
        rw [← hxx, if_pos q1, if_pos q2, h1]
        simp only [Option.bind_some]
        rw [if_neg (by decide)]
        exact specNo m
      · obtain ⟨m, rfl⟩ : ∃ m, k = m + 1 := ⟨k - 1, by omega⟩
        have h2 := h2 m (by omega)
        dsimp only at h2 ⊢
        simp only [impl_DeclsOk.l0]
        rw [← hxx, if_pos q1, if_pos q2, if_pos q1, h2]
        simp only [Option.bind_some]
        rw [if_neg (by decide)]
    | true =>
      by_cases cw : 1 ≤ x.f1 ∧ x.f1 ≤ 4096
      · by_cases cd : ∃ y ∈ l.take i, y.f0.toList = x.f0.toList
        · have hidx := idxD_some x.f0 (l.take i) 0 (by decide) cd
          -- the reference's inner loop finds it
          have inner : Ev (fun k => spec_DeclsOk.l1 k l s (i : Int) 0) false := by
            obtain ⟨y, hy, he⟩ := cd
            obtain ⟨j0, hj0, hyj⟩ := List.getElem_of_mem hy
            rw [List.length_take] at hj0
            rw [List.getElem_take] at hyj
            have heq : (rd_T63 l (j0 : Int)).f0.toList = x.f0.toList := by rw [rdD l j0 (by omega), hyj]; exact he
            have go : ∀ d j, j0 - j = d → j ≤ j0 → Ev (fun k => spec_DeclsOk.l1 k l s (i : Int) (j : Int)) false := by
              intro d
              induction d with
              | zero =>
                intro j hd hj
                have e : j = j0 := by omega
                subst e
                refine Ev.step (f := fun _ => some false) (fun k => ?_) (Ev.now _)
                simp only [spec_DeclsOk.l1]
                rw [← hxx, if_pos (by omega), if_pos (by omega), if_pos (by omega), if_pos q2, if_pos q1, if_pos heq]
              | succ d ih2 =>
                intro j hd hj
                by_cases e : (rd_T63 l (j : Int)).f0.toList = x.f0.toList
                · refine Ev.step (f := fun _ => some false) (fun k => ?_) (Ev.now _)
                  simp only [spec_DeclsOk.l1]
                  rw [← hxx, if_pos (by omega), if_pos (by omega), if_pos (by omega), if_pos q2, if_pos q1, if_pos e]
                · refine Ev.step (fun k => ?_) (ih2 (j + 1) (by omega) (by omega))
                  simp only [spec_DeclsOk.l1]
                  rw [← hxx, if_pos (by omega), if_pos (by omega), if_pos (by omega), if_pos q2, if_pos q1, if_neg e, wrap_succ' j (by omega)]
            exact go j0 0 (by omega) (by omega)
          obtain ⟨K3, h3⟩ := inner
          refine ⟨false, ⟨K1 + K3 + 2, fun k hk => ?_⟩, ⟨K2 + 1, fun k hk => ?_⟩, no _⟩
          · obtain ⟨m, rfl⟩ : ∃ m, k = m + 1 + 1 := ⟨k - 2, by omega⟩
            have h1 := h1 (m + 1) (by omega)
            have h3 := h3 m (by omega)
            dsimp only at h1 h3 ⊢
            simp only [spec_DeclsOk.l0]
            rw [← hxx, if_pos q1, if_pos q2, h1]
            simp only [Option.bind_some, if_true]
            rw [l1In_eq, decide_eq_true cw]
            simp only [Option.bind_some, Bool.not_true, spec_DeclsOk.j1]
            rw [if_neg (by decide)]
            exact h3
          · obtain ⟨m, rfl⟩ : ∃ m, k = m + 1 := ⟨k - 1, by omega⟩
            have h2 := h2 m (by omega)
            dsimp only at h2 ⊢
            simp only [impl_DeclsOk.l0, impl_declared.f]
            rw [← hxx, if_pos q1, if_pos q2, if_pos q1, h2]
            simp only [Option.bind_some, if_true]
            rw [inside_eq, decide_eq_true cw]
            simp only [Option.bind_some, if_true]
            rw [if_pos q3, Int.toNat_natCast, if_pos hidx]
        · have hidx := idxD_none x.f0 (l.take i) 0 (fun y hy he => cd ⟨y, hy, he⟩)
          obtain ⟨b, hs, hi2, hb⟩ := ih (i + 1) (by omega) (by omega) (s + x.f1) (by omega) (by omega)
          have hws : True → wrap64 (s + x.f1) = s + x.f1 := fun _ => wrap64_id (by omega) (by omega)
          have hwi : True → wrap64 ((i : Int) + 1) = ((i + 1 : Nat) : Int) := fun _ => wrap_succ' i (by omega)
          have inner : Ev (fun k => spec_DeclsOk.l1 k l s (i : Int) 0) b := by
            refine up_loop i (fun _ => ()) (fun k _ j => spec_DeclsOk.l1 k l s (i : Int) j) (fun j hj r h => Ev.step (fun k => ?_) h) b (Ev.step (fun k => ?_) hs)
            · have hne : ¬ (rd_T63 l (j : Int)).f0.toList = x.f0.toList := fun he => cd ⟨rd_T63 l (j : Int), by rw [rdD l j (by omega)]; exact List.mem_take_iff_getElem.2 ⟨j, by omega, rfl⟩, he⟩
              simp only [spec_DeclsOk.l1]
              rw [← hxx, if_pos (by omega), if_pos (by omega), if_pos (by omega), if_pos q2, if_pos q1, if_neg hne, wrap64_id (by omega) (by omega)]
            · simp only [spec_DeclsOk.l1]
              rw [← hxx, hws trivial, hwi trivial, if_neg (by omega), if_pos q2, if_pos q1]
          obtain ⟨K3, h3⟩ := inner
          obtain ⟨K4, h4⟩ := hi2
          refine ⟨b, ⟨K1 + K3 + 2, fun k hk => ?_⟩, ⟨K2 + K4 + 1, fun k hk => ?_⟩, fun hbt => ?_⟩
          · obtain ⟨m, rfl⟩ : ∃ m, k = m + 1 + 1 := ⟨k - 2, by omega⟩
            have h1 := h1 (m + 1) (by omega)
            have h3 := h3 m (by omega)
            dsimp only at h1 h3 ⊢
            simp only [spec_DeclsOk.l0]
            rw [← hxx, if_pos q1, if_pos q2, h1]
            simp only [Option.bind_some, if_true]
            rw [l1In_eq, decide_eq_true cw]
            simp only [Option.bind_some, Bool.not_true, spec_DeclsOk.j1]
            rw [if_neg (by decide)]
            exact h3
          · obtain ⟨m, rfl⟩ : ∃ m, k = m + 1 := ⟨k - 1, by omega⟩
            have h2 := h2 m (by omega)
            have h4 := h4 m (by omega)
            dsimp only at h2 h4 ⊢
            simp only [impl_DeclsOk.l0, impl_declared.f]
            rw [← hxx, if_pos q1, if_pos q2, if_pos q1, h2]
            simp only [Option.bind_some, if_true]
            rw [inside_eq, decide_eq_true cw]
            simp only [Option.bind_some, if_true]
            rw [if_pos q3, Int.toNat_natCast, hidx, if_neg (by decide), hws trivial, hwi trivial]
            exact h4
          · obtain ⟨t1, t2⟩ := hb hbt
            rw [hdrop]
            refine ⟨fun y hy => ?_, ?_⟩
            · rcases List.mem_cons.1 hy with rfl | hy
              · exact cw
              · exact t1 y hy
            · show s + (x.f1 + sumD (l.drop (i + 1))) ≤ 20000
              omega
      · refine ⟨false, ⟨K1 + 2, fun k hk => ?_⟩, ⟨K2 + 1, fun k hk => ?_⟩, no _⟩
        · obtain ⟨m, rfl⟩ : ∃ m, k = m + 1 + 1 := ⟨k - 2, by omega⟩
          have h1 := h1 (m + 1) (by omega)
          dsimp only at h1 ⊢
          simp only [spec_DeclsOk.l0]
          rw [← hxx, if_pos q1, if_pos q2, h1]
          simp only [Option.bind_some, if_true]
          rw [l1In_eq, decide_eq_false cw]
          simp only [Option.bind_some, Bool.not_false]
          exact specNo m
        · obtain ⟨m, rfl⟩ : ∃ m, k = m + 1 := ⟨k - 1, by omega⟩
          have h2 := h2 m (by omega)
          dsimp only at h2 ⊢
          simp only [impl_DeclsOk.l0]
          rw [← hxx, if_pos q1, if_pos q2, if_pos q1, h2]
          simp only [Option.bind_some, if_true]
          rw [inside_eq, decide_eq_false cw]
          rfl
theorem declsOk_agree (l : List S63) (hx : ∀ x ∈ l, x.f0.size ≤ 1048576) :
    ∃ b, Ev (fun k => spec_DeclsOk.f k l) b ∧ Ev (fun k => impl_DeclsOk.f k l) b ∧ (b = true → GoodDecls l) := by
  by_cases c : (l.length : Int) > 60
  · exact ⟨false, Ev.congr (fun k => by unfold spec_DeclsOk.f; rw [if_pos c]) (Ev.now _), Ev.congr (fun k => by unfold impl_DeclsOk.f; rw [if_pos c]) (Ev.now _), fun h => by cases h⟩
  · obtain ⟨b, h1, h2, h3⟩ := decls_loops l (by omega) hx l.length 0 (by omega) (by omega) 0 (by decide) (by decide)
    refine ⟨b, Ev.congr (fun k => by unfold spec_DeclsOk.f; rw [if_neg c]; rfl) h1, Ev.congr (fun k => by unfold impl_DeclsOk.f; rw [if_neg c]; rfl) h2, fun hb => ?_⟩
    obtain ⟨t1, t2⟩ := h3 hb
    rw [List.drop_zero] at t1 t2
    exact ⟨by omega, t1, by omega⟩

/-! cutsOk -/
/-- Right cuts of one variable of a width. -/
def GoodRow (p : List Int) (w : Int) : Prop := ∀ i : Nat, i < p.length → 1 ≤ rd p (i : Int) ∧ rd p (i : Int) ≤ w - 1 ∧ ∀ j : Nat, j + 1 = i → rd p (j : Int) < rd p (i : Int)
def GoodCuts (l : List S63) (at_ : List (List Int)) : Prop := at_.length = l.length ∧ ∀ v : Nat, v < at_.length → GoodRow (rd_L4 at_ (v : Int)) (rd_T63 l (v : Int)).f1
theorem cuts_row (l : List S63) (at_ : List (List Int)) (v : Nat) (hl : l.length ≤ 1048576) (hv : v < at_.length) (hvl : v < l.length) (hp : (rd_L4 at_ (v : Int)).length ≤ 1048576)
    (hw : 1 ≤ (rd_T63 l (v : Int)).f1 ∧ (rd_T63 l (v : Int)).f1 ≤ 4096) (z : Bool)
    (hs : Ev (fun k => spec_CutsOk.l0 k l ((v : Int) + 1) at_) z) (hi : Ev (fun k => impl_cutsOk.l0 k l at_ (at_.length : Int) ((v : Int) + 1)) z) :
    ∀ d i, (rd_L4 at_ (v : Int)).length - i = d → i ≤ (rd_L4 at_ (v : Int)).length → ∀ bf : Int, 0 ≤ bf → bf ≤ 4096 → (i = 0 → bf = 0) → (∀ j : Nat, j + 1 = i → bf = rd (rd_L4 at_ (v : Int)) (j : Int)) →
    ∃ b, Ev (fun k => spec_CutsOk.l1 k l (v : Int) (i : Int) at_) b ∧ Ev (fun k => impl_cutsOk.l1 k l (v : Int) bf at_ (at_.length : Int) (v : Int) (rd_L4 at_ (v : Int)) ((rd_L4 at_ (v : Int)).length : Int) (i : Int)) b ∧
      (b = true → z = true ∧ ∀ j : Nat, i ≤ j → j < (rd_L4 at_ (v : Int)).length → 1 ≤ rd (rd_L4 at_ (v : Int)) (j : Int) ∧ rd (rd_L4 at_ (v : Int)) (j : Int) ≤ (rd_T63 l (v : Int)).f1 - 1 ∧ ∀ m : Nat, m + 1 = j → rd (rd_L4 at_ (v : Int)) (m : Int) < rd (rd_L4 at_ (v : Int)) (j : Int)) := by
  obtain ⟨p, hpe⟩ : ∃ p, p = rd_L4 at_ (v : Int) := ⟨_, rfl⟩
  obtain ⟨w, hwe⟩ : ∃ w, w = (rd_T63 l (v : Int)).f1 := ⟨_, rfl⟩
  rw [← hwe] at hw ⊢
  rw [← hpe] at hp ⊢
  have no : ∀ (P : Prop), ((false : Bool) = true → P) := fun P h => by cases h
  intro d
  induction d with
  | zero =>
    intro i hd hile bf b0 b1 hb0 hb1
    refine ⟨z, Ev.step (fun k => ?_) hs, Ev.step (fun k => ?_) hi, fun hz => ⟨hz, fun j g1 g2 => absurd g1 (by omega)⟩⟩
    · simp (disch := omega) only [spec_CutsOk.l1, ← hpe, ↓if_pos, ↓if_neg, wrap64_id]
    · simp (disch := omega) only [impl_cutsOk.l1, ↓if_pos, ↓if_neg, wrap64_id]
  | succ d ih =>
    intro i hd hile bf b0 b1 hb0 hb1
    have hil : i < p.length := by omega
    obtain ⟨x, hx⟩ : ∃ x, x = rd p (i : Int) := ⟨_, rfl⟩
    by_cases c : bf + 1 ≤ x ∧ x ≤ w - 1
    · obtain ⟨b, h1, h2, h3⟩ := ih (i + 1) (by omega) (by omega) x (by omega) (by omega) (fun h => absurd h (by omega)) (fun j hj => by
        obtain rfl : j = i := by omega
        exact hx)
      have cs : decide (1 ≤ x ∧ x ≤ w - 1) = true := decide_eq_true (by omega)
      have ci : decide (bf + 1 ≤ x ∧ x ≤ w - 1) = true := decide_eq_true c
      refine ⟨b, ?_, Ev.step (fun k => ?_) h2, fun hb => ⟨(h3 hb).1, fun j g1 g2 => ?_⟩⟩
      · by_cases i0 : i = 0
        · refine Ev.step (fun k => ?_) h1
          simp (disch := omega) only [spec_CutsOk.l1, ← hpe, ← hwe, ← hx, ↓if_pos, ↓if_neg, l1In_eq, wrap_next, wrap64_id, Option.bind_some, cs, ↓reduceIte] <;> rfl
        · obtain ⟨j, rfl⟩ : ∃ j, i = j + 1 := ⟨i - 1, by omega⟩
          have hbj := hb1 j rfl
          refine Ev.step (fun k => ?_) h1
          have e1 : True → wrap64 (((j + 1 : Nat) : Int) - 1) = (j : Int) := fun _ => by rw [wrap64_id (by omega) (by omega)]; omega
          simp (disch := first | omega | trivial) only [spec_CutsOk.l1, ← hpe, ← hwe, ← hx, e1, ← hbj, ↓if_pos, ↓if_neg, l1In_eq, wrap_next, wrap64_id, Option.bind_some, cs, ↓reduceIte] <;> rfl
      · simp (disch := omega) only [impl_cutsOk.l1, ← hpe, ← hwe, ← hx, ↓if_pos, ↓if_neg, inside_eq, wrap_next, wrap64_id, Option.bind_some, ci, ↓reduceIte] <;> rfl
      · by_cases e : j = i
        · subst e
          rw [← hx]
          exact ⟨by omega, by omega, fun m hm => by rw [← hb1 m hm]; omega⟩
        · exact (h3 hb).2 j (by omega) g2
    · have ci : decide (bf + 1 ≤ x ∧ x ≤ w - 1) = false := decide_eq_false c
      refine ⟨false, ?_, Ev.step (f := fun _ => some false) (fun k => ?_) (Ev.now _), no _⟩
      · by_cases c2 : 1 ≤ x ∧ x ≤ w - 1
        · have cs : decide (1 ≤ x ∧ x ≤ w - 1) = true := decide_eq_true c2
          have i0 : i ≠ 0 := fun h => c (by have := hb0 h; omega)
          obtain ⟨j, rfl⟩ : ∃ j, i = j + 1 := ⟨i - 1, by omega⟩
          have hbj := hb1 j rfl
          refine Ev.step (f := fun _ => some false) (fun k => ?_) (Ev.now _)
          have e1 : True → wrap64 (((j + 1 : Nat) : Int) - 1) = (j : Int) := fun _ => by rw [wrap64_id (by omega) (by omega)]; omega
          simp (disch := first | omega | trivial) only [spec_CutsOk.l1, ← hpe, ← hwe, ← hx, e1, ← hbj, ↓if_pos, ↓if_neg, l1In_eq, wrap_next, wrap64_id, Option.bind_some, cs, ↓reduceIte] <;> rfl
        · have cs : decide (1 ≤ x ∧ x ≤ w - 1) = false := decide_eq_false c2
          refine Ev.step (f := fun _ => some false) (fun k => ?_) (Ev.now _)
          simp (disch := omega) only [spec_CutsOk.l1, ← hpe, ← hwe, ← hx, ↓if_pos, ↓if_neg, l1In_eq, wrap_next, wrap64_id, Option.bind_some, cs, ↓reduceIte, Bool.false_eq_true] <;> rfl
      · simp (disch := omega) only [impl_cutsOk.l1, ← hpe, ← hwe, ← hx, ↓if_pos, ↓if_neg, inside_eq, wrap_next, wrap64_id, Option.bind_some, ci, ↓reduceIte, Bool.false_eq_true] <;> rfl
theorem cuts_loops (l : List S63) (at_ : List (List Int)) (hg : GoodDecls l) (hlen : at_.length = l.length) (hp : ∀ y ∈ at_, (y.length : Int) ≤ 1048576) :
    ∀ d v, at_.length - v = d → v ≤ at_.length → ∃ b, Ev (fun k => spec_CutsOk.l0 k l (v : Int) at_) b ∧ Ev (fun k => impl_cutsOk.l0 k l at_ (at_.length : Int) (v : Int)) b ∧
      (b = true → ∀ u : Nat, v ≤ u → u < at_.length → GoodRow (rd_L4 at_ (u : Int)) (rd_T63 l (u : Int)).f1) := by
  have hl := hg.len
  intro d
  induction d with
  | zero =>
    intro v hd hv
    refine ⟨true, Ev.step (f := fun _ => some true) (fun k => ?_) (Ev.now _), Ev.step (f := fun _ => some true) (fun k => ?_) (Ev.now _), fun _ u g1 g2 => absurd g1 (by omega)⟩
    · simp (disch := omega) only [spec_CutsOk.l0, ↓if_neg]
    · simp (disch := omega) only [impl_cutsOk.l0, ↓if_neg]
  | succ d ih =>
    intro v hd hv
    have hvl : v < at_.length := by omega
    obtain ⟨z, h1, h2, h3⟩ := ih (v + 1) (by omega) (by omega)
    have hw := hg.width _ (rdD_mem l v (by omega))
    have hpl := hp _ (rdM_L4 at_ v hvl)
    obtain ⟨b, g1, g2, g3⟩ := cuts_row l at_ v (by omega) hvl (by omega) (by omega) hw z (by simpa using h1) (by simpa using h2) _ 0 rfl (by omega) 0 (by decide) (by decide) (fun _ => rfl) (fun j hj => absurd hj (by omega))
    refine ⟨b, Ev.step (fun k => ?_) g1, Ev.step (fun k => ?_) g2, fun hb u u1 u2 => ?_⟩
    · simp (disch := omega) only [spec_CutsOk.l0, ↓if_pos]; rfl
    · simp (disch := omega) only [impl_cutsOk.l0, ↓if_pos]; rfl
    · by_cases e : u = v
      · subst e
        intro i hi
        exact (g3 hb).2 i (by omega) hi
      · exact h3 (g3 hb).1 u (by omega) u2
theorem cuts_core (l : List S63) (at_ : List (List Int)) (hx : ∀ x ∈ l, x.f0.size ≤ 1048576) (hat : (at_.length : Int) ≤ 1048576) (hp : ∀ y ∈ at_, (y.length : Int) ≤ 1048576) :
    ∃ b, Ev (fun k => spec_CutsOk.f k l at_) b ∧ Ev (fun k => impl_CutsOk.f k l at_) b ∧ (b = true → GoodDecls l ∧ GoodCuts l at_) := by
  have no : ∀ (P : Prop), ((false : Bool) = true → P) := fun P h => by cases h
  obtain ⟨bd, g1, g2, hg⟩ := declsOk_agree l hx
  obtain ⟨K1, h1⟩ := Ev.binds g1
  obtain ⟨K2, h2⟩ := Ev.binds g2
  cases bd with
  | false =>
    refine ⟨false, ⟨K1 + 2, fun k hk => ?_⟩, ⟨K2, fun k hk => ?_⟩, no _⟩
    · obtain ⟨m, rfl⟩ : ∃ m, k = m + 1 := ⟨k - 1, by omega⟩
      simp (disch := omega) only [spec_CutsOk.f, ↓h1, ↓reduceIte, Bool.false_eq_true, spec_CutsOk.j0]
    · simp (disch := omega) only [impl_CutsOk.f, ↓h2, ↓reduceIte, Bool.false_eq_true]
  | true =>
    have hg := hg rfl
    by_cases c : at_.length = l.length
    · obtain ⟨b, e1, e2, e3⟩ := cuts_loops l at_ hg c hp at_.length 0 (by omega) (by omega)
      obtain ⟨K3, h3⟩ := e1
      obtain ⟨K4, h4⟩ := Ev.binds e2
      have cn : ((at_.length : Int) != (l.length : Int)) = false := by rw [c]; exact bne_self_eq_false _
      refine ⟨b, ⟨K1 + K3 + 1, fun k hk => ?_⟩, ⟨K2 + K4, fun k hk => ?_⟩, fun hb => ⟨hg, c, fun v hv => e3 hb v (by omega) hv⟩⟩
      · obtain ⟨m, rfl⟩ : ∃ m, k = m + 1 := ⟨k - 1, by omega⟩
        have h3 := h3 m (by omega)
        simp (disch := omega) only [spec_CutsOk.f, ↓h1, ↓reduceIte, cn, spec_CutsOk.j0, Bool.false_eq_true]
        exact h3
      · have e : impl_cutsOk.f k l at_ = impl_cutsOk.l0 k l at_ (at_.length : Int) ((0 : Nat) : Int) := by unfold impl_cutsOk.f; rw [if_pos (by omega)]; rfl
        simp (disch := omega) only [impl_CutsOk.f, ↓h2, ↓reduceIte]
        rw [e]
        exact h4 k (by omega) _ _
    · have cn : ((at_.length : Int) != (l.length : Int)) = true := bne_iff_ne.2 (by omega)
      refine ⟨false, ⟨K1 + 2, fun k hk => ?_⟩, ⟨K2, fun k hk => ?_⟩, no _⟩
      · obtain ⟨m, rfl⟩ : ∃ m, k = m + 1 := ⟨k - 1, by omega⟩
        simp (disch := omega) only [spec_CutsOk.f, ↓h1, ↓reduceIte, cn, spec_CutsOk.j0]
      · simp (disch := omega) only [impl_CutsOk.f, ↓h2, ↓reduceIte, impl_cutsOk.f, ↓if_neg, Option.bind_some]

/-! goodRow -/
theorem GoodRow.low {p : List Int} {w : Int} (h : GoodRow p w) : ∀ i : Nat, i < p.length → (i : Int) + 1 ≤ rd p (i : Int)
  | 0, hi => by have := (h 0 hi).1; omega
  | i + 1, hi => by
    have h1 := GoodRow.low h i (by omega)
    have h2 := (h (i + 1) hi).2.2 i rfl
    omega
theorem GoodRow.len {p : List Int} {w : Int} (h : GoodRow p w) (hw : 1 ≤ w) : (p.length : Int) ≤ w - 1 := by
  rcases Nat.eq_zero_or_pos p.length with h0 | h0
  · omega
  · have h1 := GoodRow.low h (p.length - 1) (by omega)
    have h2 := (h (p.length - 1) (by omega)).2.1
    omega

/-! draws -/
/-- A code that draws are made of. -/
structure Code (b : List Int) : Prop where
  len : b.length ≤ 1048576
  byte : ∀ i : Nat, i < b.length → 0 ≤ rd b (i : Int) ∧ rd b (i : Int) ≤ 255
def At (b : List Int) (p : Int) : Prop := 0 ≤ p ∧ p ≤ (b.length : Int)
theorem next_ev (b : List Int) (hb : Code b) (p : Int) (hp : At b p) : ∃ v q, spec_l1Rd_next.f b p = some (v, q) ∧ 0 ≤ v ∧ v ≤ 255 ∧ At b q := by
  have hl := hb.len
  obtain ⟨h0, h1⟩ := hp
  obtain ⟨i, rfl⟩ := Int.eq_ofNat_of_zero_le h0
  unfold spec_l1Rd_next.f
  by_cases c : (i : Int) ≥ (b.length : Int)
  · rw [if_pos c]
    exact ⟨0, i, rfl, by omega, by omega, h0, h1⟩
  · rw [if_neg c]
    have e1 : wrap64 ((i : Int) + 1) = (i : Int) + 1 := wrap64_id (by omega) (by omega)
    have e2 : wrap64 ((i : Int) + 1 - 1) = (i : Int) := by rw [wrap64_id (by omega) (by omega)]; omega
    have hby := hb.byte i (by omega)
    have e3 : wrap64 (rd b (i : Int)) = rd b (i : Int) := wrap64_id (by omega) (by omega)
    rw [e1, e2, if_pos (by omega), if_pos (by omega), e3]
    exact ⟨_, _, rfl, hby.1, hby.2, by omega, by omega⟩
theorem below_ev (b : List Int) (hb : Code b) (p : Int) (hp : At b p) (n : Int) (hn : n ≤ 65536) : ∃ v q, spec_l1Rd_below.f b p n = some (v, q) ∧ 0 ≤ v ∧ (v < n ∨ (n ≤ 1 ∧ v = 0)) ∧ At b q := by
  unfold spec_l1Rd_below.f
  by_cases c : n ≤ 1
  · rw [if_pos c]
    exact ⟨0, p, rfl, by omega, .inr ⟨c, rfl⟩, hp⟩
  · rw [if_neg c]
    obtain ⟨m, rfl⟩ := Int.eq_ofNat_of_zero_le (show 0 ≤ n by omega)
    by_cases c2 : ((m : Nat) : Int) ≤ 256
    · rw [if_pos c2]
      obtain ⟨v, q, e, v0, v1, hq⟩ := next_ev b hb p hp
      obtain ⟨u, rfl⟩ := Int.eq_ofNat_of_zero_le v0
      rw [e]
      simp only [Option.bind_some]
      rw [if_neg (by omega)]
      refine ⟨_, _, rfl, ?_, .inl ?_, hq⟩
      · rw [← Int.ofNat_tmod]; exact Int.natCast_nonneg _
      · rw [← Int.ofNat_tmod]; exact Int.ofNat_lt.2 (Nat.mod_lt _ (by omega))
    · rw [if_neg c2]
      obtain ⟨v, q, e, v0, v1, hq⟩ := next_ev b hb p hp
      obtain ⟨v', q', e', v0', v1', hq'⟩ := next_ev b hb q hq
      obtain ⟨u, rfl⟩ := Int.eq_ofNat_of_zero_le v0
      obtain ⟨u', rfl⟩ := Int.eq_ofNat_of_zero_le v0'
      have w1 : wrap64 ((u : Int) * 256) = ((u * 256 : Nat) : Int) := by rw [wrap64_id (by omega) (by omega)]; omega
      have w2 : wrap64 (((u * 256 : Nat) : Int) + (u' : Int)) = ((u * 256 + u' : Nat) : Int) := by rw [wrap64_id (by omega) (by omega)]; omega
      rw [e]
      simp only [Option.bind_some]
      rw [e']
      simp only [Option.bind_some]
      rw [if_neg (by omega), w1, w2]
      refine ⟨_, _, rfl, ?_, .inl ?_, hq'⟩
      · rw [← Int.ofNat_tmod]; exact Int.natCast_nonneg _
      · rw [← Int.ofNat_tmod]; exact Int.ofNat_lt.2 (Nat.mod_lt _ (by omega))
theorem once_ev (b : List Int) (hb : Code b) (p : Int) (hp : At b p) (n : Int) (hn : n ≤ 65536) : ∃ v q, spec_l1Rd_once.f b p n = some (v, q) ∧ At b q := by
  obtain ⟨v, q, e, _, _, hq⟩ := below_ev b hb p hp n hn
  unfold spec_l1Rd_once.f
  rw [e]
  exact ⟨_, _, rfl, hq⟩

/-! codeOf -/
theorem wf_u8 {x : Int} (h : (Lit.int .u8 x).wf = true) : 0 ≤ x ∧ x ≤ 255 := by
  simp [Lit.wf, IntKind.min, IntKind.max, IntKind.signed, IntKind.bits] at h
  omega
theorem code_of (l : List Int) (q : ∀ x ∈ l, (Lit.int .u8 x).wf = true) (hl : l.length ≤ 1048576) : Code l := ⟨hl, fun i hi => by
  have e : rd l (i : Int) = l[i] := by
    unfold rd
    rw [List.getD_eq_getElem?_getD, Int.toNat_natCast, List.getElem?_eq_getElem hi]
    rfl
  rw [e]
  exact wf_u8 (q _ (List.getElem_mem hi))⟩

/-! drawsOff -/
theorem wrapU_w64 (x : Int) : W64 (IntKind.u64.wrap x) := by
  unfold W64
  rw [wrap_u64]
  omega
theorem word_ev (b : List Int) (hb : Code b) (p : Int) (hp : At b p) : ∃ v q, Ev (fun k => spec_l1Rd_word.f k b p) (v, q) ∧ 0 ≤ v ∧ v < 18446744073709551616 ∧ At b q := by
  obtain ⟨s, ⟨h0, h1, h2⟩, hr⟩ := inv_loop 8 (fun i (s : Int × Int) => 0 ≤ s.1 ∧ s.1 < 18446744073709551616 ∧ At b s.2) (fun k s i => spec_l1Rd_word.l0 k s.1 i b s.2)
    (fun i hi s ⟨h0, h1, h2⟩ => by
      obtain ⟨v, q, e, v0, v1, hq⟩ := next_ev b hb s.2 h2
      have hw : W64 (Go.bits .or .u64 (IntKind.u64.wrap (s.1 * 256)) (IntKind.u64.wrap v)) := (or_w64 (wrapU_w64 _) (wrapU_w64 _)).1
      unfold W64 at hw
      refine ⟨(Go.bits .or .u64 (IntKind.u64.wrap (s.1 * 256)) (IntKind.u64.wrap v), q), ⟨by omega, by omega, hq⟩, fun r h => Ev.step (fun k => ?_) h⟩
      simp only [spec_l1Rd_word.l0]
      rw [if_pos (by omega), e]
      simp only [Option.bind_some]
      rw [wrap64_id (by omega) (by omega)])
    (0, p) ⟨Int.le_refl _, show (0 : Int) < 18446744073709551616 by omega, hp⟩
  refine ⟨s.1, s.2, Ev.congr (fun k => rfl) (hr (s.1, s.2) (Ev.step (f := fun _ => some (s.1, s.2)) (fun k => ?_) (Ev.now _))), h0, h1, h2⟩
  simp only [spec_l1Rd_word.l0]
  rw [if_neg (by omega)]
def I64 (v : Int) : Prop := -9223372036854775808 ≤ v ∧ v ≤ 9223372036854775807
theorem I64.wrap (v : Int) : I64 (wrap64 v) := by
  unfold I64 wrap64
  omega
theorem near_ev (b : List Int) (hb : Code b) (p : Int) (hp : At b p) (lo hi : Int) (hlo : -4611686018427387904 ≤ lo ∧ lo ≤ 4611686018427387904) (hhi : I64 hi) :
    ∃ v q, Ev (fun k => spec_l1Rd_near.f k b p lo hi) (v, q) ∧ I64 v ∧ At b q := by
  obtain ⟨v, q, e, v0, v1, hq⟩ := below_ev b hb p hp 8 (by omega)
  have hlo2 : I64 lo := by unfold I64; omega
  by_cases c0 : v = 0
  · exact ⟨lo, q, ⟨0, fun k _ => by unfold spec_l1Rd_near.f; rw [e]; simp only [Option.bind_some]; rw [if_pos c0]⟩, hlo2, hq⟩
  · by_cases c1 : v = 1
    · exact ⟨hi, q, ⟨0, fun k _ => by unfold spec_l1Rd_near.f; rw [e]; simp only [Option.bind_some]; rw [if_neg c0, if_pos c1]⟩, hhi, hq⟩
    · by_cases c2 : hi < lo
      · exact ⟨lo, q, ⟨0, fun k _ => by unfold spec_l1Rd_near.f; rw [e]; simp only [Option.bind_some]; rw [if_neg c0, if_neg c1, if_pos c2]⟩, hlo2, hq⟩
      · obtain ⟨x, q', ⟨K, hx⟩, x0, x1, hq'⟩ := word_ev b hb q hq
        have w3 : IntKind.u64.wrap (wrap64 (wrap64 (hi - lo) + 1)) = hi - lo + 1 := by
          obtain ⟨j0, j1⟩ := hhi
          rw [wrap_u64]
          unfold wrap64
          omega
        refine ⟨wrap64 (lo + wrap64 (Int.tmod (x / 2) (hi - lo + 1))), q', ⟨K, fun k hk => ?_⟩, I64.wrap _, hq'⟩
        have hx := hx k hk
        dsimp only at hx ⊢
        unfold spec_l1Rd_near.f
        rw [e]
        simp only [Option.bind_some]
        rw [if_neg c0, if_neg c1, if_neg c2, hx]
        simp only [Option.bind_some]
        rw [w3, if_neg (by omega)]
theorem off_ev (b : List Int) (hb : Code b) (p : Int) (hp : At b p) (lo hi : Int) (hlo : -4611686018427387904 ≤ lo ∧ lo ≤ 4611686018427387904) (hhi : I64 hi) :
    ∃ v q, Ev (fun k => spec_l1Rd_off.f k b p lo hi) (v, q) ∧ I64 v ∧ At b q := by
  obtain ⟨t, q, e, hq⟩ := once_ev b hb p hp 24 (by omega)
  cases t with
  | true =>
    obtain ⟨v, q', e', v0, v1, hq'⟩ := below_ev b hb q hq 4 (by omega)
    have hv : I64 (rd [wrap64 (lo - 1), wrap64 (hi + 1), (-9223372036854775808), 9223372036854775807] v) := by
      have h4 : v = 0 ∨ v = 1 ∨ v = 2 ∨ v = 3 := by omega
      rcases h4 with rfl | rfl | rfl | rfl
      · exact I64.wrap _
      · exact I64.wrap _
      · show I64 (-9223372036854775808)
        unfold I64
        omega
      · show I64 9223372036854775807
        unfold I64
        omega
    refine ⟨_, q', ⟨0, fun k _ => ?_⟩, hv, hq'⟩
    unfold spec_l1Rd_off.f
    rw [e]
    simp only [Option.bind_some, if_true]
    rw [e']
    simp only [Option.bind_some]
    rw [if_pos v0, if_pos (by simp; omega)]
  | false =>
    obtain ⟨v, q', ⟨K, hv⟩, hi2, hq'⟩ := near_ev b hb q hq lo hi hlo hhi
    refine ⟨v, q', ⟨K, fun k hk => ?_⟩, hi2, hq'⟩
    have hv := hv k hk
    dsimp only at hv ⊢
    unfold spec_l1Rd_off.f
    rw [e]
    simp only [Option.bind_some, Bool.false_eq_true, if_false]
    rw [hv]
    rfl

/-! drawDecls -/
theorem wide_ev (b : List Int) (hb : Code b) (p : Int) (hp : At b p) : ∃ v q, spec_l1Rd_wide.f b p = some (v, q) ∧ 1 ≤ v ∧ v ≤ 200 ∧ At b q := by
  obtain ⟨v, p1, e1, v0, v1, hp1⟩ := below_ev b hb p hp 10 (by omega)
  unfold spec_l1Rd_wide.f
  rw [e1]
  simp only [Option.bind_some]
  by_cases c0 : v = 0
  · obtain ⟨u, p2, e2, u0, u1, hp2⟩ := below_ev b hb p1 hp1 7 (by omega)
    rw [if_pos c0, e2]
    simp only [Option.bind_some]
    rw [if_pos u0, if_pos (by simp; omega)]
    refine ⟨_, _, rfl, ?_, ?_, hp2⟩
    all_goals
      obtain ⟨n, rfl⟩ := Int.eq_ofNat_of_zero_le u0
      obtain rfl | rfl | rfl | rfl | rfl | rfl | rfl : n = 0 ∨ n = 1 ∨ n = 2 ∨ n = 3 ∨ n = 4 ∨ n = 5 ∨ n = 6 := by omega
      all_goals decide
  · rw [if_neg c0]
    by_cases c1 : v = 1
    · obtain ⟨u, p2, e2, u0, u1, hp2⟩ := below_ev b hb p1 hp1 40 (by omega)
      rw [if_pos c1, e2]
      simp only [Option.bind_some]
      exact ⟨_, _, rfl, by rw [wrap64_id (by omega) (by omega)]; omega, by rw [wrap64_id (by omega) (by omega)]; omega, hp2⟩
    · obtain ⟨u, p2, e2, u0, u1, hp2⟩ := below_ev b hb p1 hp1 12 (by omega)
      rw [if_neg c1, e2]
      simp only [Option.bind_some]
      exact ⟨_, _, rfl, by rw [wrap64_id (by omega) (by omega)]; omega, by rw [wrap64_id (by omega) (by omega)]; omega, hp2⟩
/-- Drawn declarations. -/
structure DrawnD (ds : List S63) : Prop where
  len : ds.length ≤ 6
  name : ∀ x ∈ ds, x.f0.size = 1
  width : ∀ x ∈ ds, 1 ≤ x.f1 ∧ x.f1 ≤ 200
theorem decls_loop (b : List Int) (hb : Code b) : ∀ (d : Nat) (ds : List S63), ds.length + d ≤ 6 → DrawnD ds → ∀ p, At b p → ∃ ds' q, Ev (fun k => spec_l1Rd_decls.l0 k ds (d : Int) b p) (ds', q) ∧ DrawnD ds' ∧ ds'.length = ds.length + d ∧ At b q := by
  intro d
  induction d with
  | zero =>
    intro ds h6 h p hp
    exact ⟨ds, p, Ev.step (f := fun _ => some (ds, p)) (fun k => by simp only [spec_l1Rd_decls.l0]; rw [if_neg (by omega)]) (Ev.now _), h, rfl, hp⟩
  | succ d ih =>
    intro ds h6 h p hp
    obtain ⟨v, p1, e1, v0, v1, hp1⟩ := below_ev b hb p hp 8 (by omega)
    obtain ⟨t, p2, e2, hp2⟩ := once_ev b hb p1 hp1 6 (by omega)
    have ew : wrap64 (((d + 1 : Nat) : Int) - 1) = (d : Int) := by rw [wrap64_id (by omega) (by omega)]; omega
    have add : ∀ x : S63, x.f0.size = 1 → 1 ≤ x.f1 → x.f1 ≤ 200 → DrawnD (ds ++ [x]) := fun x x0 x1 x2 => by
      refine ⟨by simp only [List.length_append, List.length_singleton]; omega, fun y hy => ?_, fun y hy => ?_⟩ <;> rcases List.mem_append.1 hy with hy | hy
      · exact h.name y hy
      · rw [List.mem_singleton.1 hy]; exact x0
      · exact h.width y hy
      · rw [List.mem_singleton.1 hy]; exact ⟨x1, x2⟩
    have hs1 : ∀ y : Int, (strOfNums ([y] : List Int)).size = 1 := fun y => by rw [strOfNums_size]; rfl
    cases t with
    | true =>
      obtain ⟨u, p3, e3, u0, u1, hp3⟩ := wide_ev b hb p2 hp2
      obtain ⟨ds', q, e4, g1, g2, g3⟩ := ih (ds ++ [⟨strOfNums (([97 + ((ds.length : Int) % 26)] : List Int)), u⟩]) (by simp only [List.length_append, List.length_singleton]; omega) (add _ (hs1 _) u0 u1) p3 hp3
      refine ⟨ds', q, Ev.step (fun k => ?_) e4, g1, by rw [g2]; simp only [List.length_append, List.length_singleton]; omega, g3⟩
      simp only [spec_l1Rd_decls.l0]
      rw [if_pos (by omega), e1]
      simp only [Option.bind_some]
      rw [e2]
      simp only [Option.bind_some, if_true]
      rw [e3]
      simp only [Option.bind_some]
      rw [if_pos (by omega), ew]
    | false =>
      have w1 : wrap64 (1 + v) = 1 + v := wrap64_id (by omega) (by omega)
      obtain ⟨ds', q, e4, g1, g2, g3⟩ := ih (ds ++ [⟨strOfNums (([97 + ((ds.length : Int) % 26)] : List Int)), 1 + v⟩]) (by simp only [List.length_append, List.length_singleton]; omega) (add _ (hs1 _) (by show 1 ≤ 1 + v; omega) (by show 1 + v ≤ 200; omega)) p2 hp2
      refine ⟨ds', q, Ev.step (fun k => ?_) e4, g1, by rw [g2]; simp only [List.length_append, List.length_singleton]; omega, g3⟩
      simp only [spec_l1Rd_decls.l0]
      rw [if_pos (by omega), e1]
      simp only [Option.bind_some]
      rw [e2]
      simp only [Option.bind_some, Bool.false_eq_true, if_false]
      rw [if_pos (by omega), ew, w1]
theorem decls_ev (b : List Int) (hb : Code b) (p : Int) (hp : At b p) : ∃ ds q, Ev (fun k => spec_l1Rd_decls.f k b p) (ds, q) ∧ DrawnD ds ∧ 1 ≤ ds.length ∧ At b q := by
  have hl := hb.len
  have hm : mn 6 (wrap64 (2 + (wrap64 ((b.length : Int) / 10)))) ≤ 6 ∧ 2 ≤ mn 6 (wrap64 (2 + (wrap64 ((b.length : Int) / 10)))) := by
    rw [wrap64_id (x := (b.length : Int) / 10) (by omega) (by omega), wrap64_id (by omega) (by omega)]
    unfold mn
    split <;> omega
  obtain ⟨v, p1, e1, v0, v1, hp1⟩ := below_ev b hb p hp _ (show mn 6 (wrap64 (2 + (wrap64 ((b.length : Int) / 10)))) ≤ 65536 by omega)
  obtain ⟨n, rfl⟩ := Int.eq_ofNat_of_zero_le v0
  obtain ⟨ds, q, e2, g1, g2, g3⟩ := decls_loop b hb (1 + n) [] (by simp only [List.length_nil]; omega) ⟨by simp, fun x hx => absurd hx (by simp), fun x hx => absurd hx (by simp)⟩ p1 hp1
  have hw : wrap64 (1 + (n : Int)) = ((1 + n : Nat) : Int) := by rw [wrap64_id (by omega) (by omega)]; omega
  refine ⟨ds, q, Ev.congr (fun k => ?_) e2, g1, by rw [g2]; omega, g3⟩
  unfold spec_l1Rd_decls.f
  rw [e1]
  simp only [Option.bind_some]
  rw [hw]

/-! drawCuts -/
theorem l6None_loop (ds : List S63) (hd : ds.length ≤ 6) : ∀ d v, ds.length - v = d → v ≤ ds.length → ∀ xs : List (List Int), xs.length = v → Ev (fun k => spec_l6None.l0 k ds (v : Int) xs) (xs ++ List.replicate d []) := by
  intro d
  induction d with
  | zero =>
    intro v hv hle xs hx
    rw [List.replicate_zero, List.append_nil]
    refine Ev.step (f := fun _ => some xs) (fun k => ?_) (Ev.now _)
    simp only [spec_l6None.l0]
    rw [if_neg (by omega)]
  | succ d ih =>
    intro v hv hle xs hx
    have h1 := ih (v + 1) (by omega) (by omega) (xs ++ [[]]) (by simp; omega)
    rw [List.append_assoc, List.singleton_append, ← List.replicate_succ] at h1
    refine Ev.step (fun k => ?_) h1
    simp only [spec_l6None.l0]
    rw [if_pos (by omega), if_pos (by omega), wrap64_id (by omega) (by omega)]
    rfl
/-- Rows of at most so many elements. -/
def Rows (n : Nat) (C : List (List Int)) (m : Nat) : Prop := C.length = n ∧ ∀ y ∈ C, y.length ≤ m
theorem Rows.up {n m m' : Nat} {C : List (List Int)} (h : Rows n C m) (hm : m ≤ m') : Rows n C m' := ⟨h.1, fun y hy => Nat.le_trans (h.2 y hy) hm⟩
theorem Rows.g {n m : Nat} {C : List (List Int)} (h : Rows n C m) (v : Int) : (spec_l1Rd_cuts.g C v).length ≤ m := by
  unfold spec_l1Rd_cuts.g
  by_cases c : v.toNat < C.length
  · rw [List.getD_eq_getElem?_getD, List.getElem?_eq_getElem c]
    exact h.2 _ (List.getElem_mem c)
  · rw [List.getD_eq_getElem?_getD, List.getElem?_eq_none (by omega)]
    exact Nat.zero_le _
theorem Rows.set {n m : Nat} {C : List (List Int)} (h : Rows n C m) (v x : Int) : Rows n (C.set v.toNat (spec_l1Rd_cuts.g C v ++ [x])) (m + 1) := by
  refine ⟨by rw [List.length_set]; exact h.1, fun y hy => ?_⟩
  rcases List.mem_or_eq_of_mem_set hy with hy | rfl
  · have := h.2 y hy; omega
  · have := h.g v
    simp only [List.length_append, List.length_singleton]
    omega
theorem cuts_fin (b : List Int) (hb : Code b) (ds : List S63) (hd : DrawnD ds) (h1 : 1 ≤ ds.length) (C : List (List Int)) (hC : Rows ds.length C 1206) (p : Int) (hp : At b p) :
    ∃ C' q, Ev (fun k => spec_l1Rd_cuts.fin k b ds C p) (C', q) ∧ C'.length ≤ 6 ∧ (∀ y ∈ C', y.length ≤ 1207) := by
  have hd6 := hd.len
  obtain ⟨hc1, hc2⟩ := hC
  obtain ⟨v, p1, e1, v0, v1, hp1⟩ := below_ev b hb p hp 30 (by omega)
  by_cases c0 : v = 0
  · obtain ⟨u, p2, e2, u0, u1, hp2⟩ := below_ev b hb p1 hp1 (ds.length : Int) (by omega)
    have ul : u < (ds.length : Int) := by omega
    obtain ⟨n, rfl⟩ := Int.eq_ofNat_of_zero_le u0
    have hw := hd.width _ (rdD_mem ds n (by omega))
    obtain ⟨x, p3, ⟨K, e3⟩, x0, hp3⟩ := off_ev b hb p2 hp2 0 (rd_T63 ds (n : Int)).f1 (by omega) (by unfold I64; omega)
    have hg := Rows.g (n := ds.length) ⟨hc1, hc2⟩ (n : Int)
    have hs := Rows.set (n := ds.length) ⟨hc1, hc2⟩ (n : Int) x
    refine ⟨_, p3, ⟨K, fun k hk => ?_⟩, by rw [hs.1]; omega, hs.2⟩
    have e3 := e3 k hk
    dsimp only at e3 ⊢
    unfold spec_l1Rd_cuts.fin
    rw [e1]
    simp only [Option.bind_some]
    rw [if_pos c0, e2]
    simp only [Option.bind_some]
    rw [if_pos u0, if_pos (by omega), if_pos ul, e3]
    simp only [Option.bind_some]
    rw [if_pos (by omega)]
  · by_cases c1 : v = 1
    · refine ⟨C.drop 1, p1, ⟨0, fun k hk => ?_⟩, by rw [List.length_drop]; omega, fun y hy => by have := hc2 y (List.mem_of_mem_drop hy); omega⟩
      dsimp only
      unfold spec_l1Rd_cuts.fin
      rw [e1]
      simp only [Option.bind_some]
      rw [if_neg c0, if_pos c1, if_pos (by omega)]
    · refine ⟨C, p1, ⟨0, fun k hk => ?_⟩, by omega, fun y hy => by have := hc2 y hy; omega⟩
      dsimp only
      unfold spec_l1Rd_cuts.fin
      rw [e1]
      simp only [Option.bind_some]
      rw [if_neg c0, if_neg c1]
theorem cuts_inner (b : List Int) (hb : Code b) (ds : List S63) (hd : DrawnD ds) (v : Nat) (hv : v < ds.length) (R : List (List Int) × Int → Prop)
    (next : ∀ C p, Rows ds.length C (200 * (v + 1)) → At b p → ∃ r, Ev (fun k => spec_l1Rd_cuts.l0 k b ds C p ((v + 1 : Nat) : Int)) r ∧ R r) :
    ∀ d q, 200 - q = d → q ≤ 200 → ∀ C p, Rows ds.length C (200 * v + q) → At b p → ∃ r, Ev (fun k => spec_l1Rd_cuts.l1 k b ds C p (v : Int) (q : Int)) r ∧ R r := by
  have hd6 := hd.len
  have hw := hd.width _ (rdD_mem ds v hv)
  intro d
  induction d with
  | zero =>
    intro q hq hle C p hC hp
    obtain ⟨r, e, hr⟩ := next C p (hC.up (by omega)) hp
    refine ⟨r, Ev.step (fun k => ?_) e, hr⟩
    simp only [spec_l1Rd_cuts.l1]
    rw [if_pos (by omega), if_pos (by omega), wrap_next v (by omega)]
    by_cases c : (q : Int) < (rd_T63 ds (v : Int)).f1
    · rw [if_pos c, if_neg (by omega)]
    · rw [if_neg c]
  | succ d ih =>
    intro q hq hle C p hC hp
    by_cases c : (q : Int) < (rd_T63 ds (v : Int)).f1
    · obtain ⟨t, p1, e1, hp1⟩ := once_ev b hb p hp 6 (by omega)
      have wn : wrap64 ((q : Int) + 1) = ((q + 1 : Nat) : Int) := by rw [wrap64_id (by omega) (by omega)]; omega
      cases t with
      | true =>
        have hg := hC.g (v : Int)
        obtain ⟨r, e, hr⟩ := ih (q + 1) (by omega) (by omega) _ p1 (hC.set (v : Int) (q : Int)) hp1
        refine ⟨r, Ev.step (fun k => ?_) e, hr⟩
        simp only [spec_l1Rd_cuts.l1]
        rw [if_pos (by omega), if_pos (by omega), if_pos c, if_pos (by omega), e1]
        simp only [Option.bind_some, if_true]
        rw [if_pos (by rw [hC.1]; omega), if_pos (by omega), wn]
      | false =>
        obtain ⟨r, e, hr⟩ := ih (q + 1) (by omega) (by omega) C p1 (hC.up (by omega)) hp1
        refine ⟨r, Ev.step (fun k => ?_) e, hr⟩
        simp only [spec_l1Rd_cuts.l1]
        rw [if_pos (by omega), if_pos (by omega), if_pos c, if_pos (by omega), e1]
        simp only [Option.bind_some, Bool.false_eq_true, if_false]
        rw [wn]
    · obtain ⟨r, e, hr⟩ := next C p (hC.up (by omega)) hp
      refine ⟨r, Ev.step (fun k => ?_) e, hr⟩
      simp only [spec_l1Rd_cuts.l1]
      rw [if_pos (by omega), if_pos (by omega), wrap_next v (by omega), if_neg c]
theorem cuts_loop (b : List Int) (hb : Code b) (ds : List S63) (hd : DrawnD ds) (h1 : 1 ≤ ds.length) :
    ∀ d v, ds.length - v = d → v ≤ ds.length → ∀ C p, Rows ds.length C (200 * v) → At b p → ∃ r, Ev (fun k => spec_l1Rd_cuts.l0 k b ds C p (v : Int)) r ∧ (r.1.length ≤ 6 ∧ ∀ y ∈ r.1, y.length ≤ 1207) := by
  have hd6 := hd.len
  intro d
  induction d with
  | zero =>
    intro v hv hle C p hC hp
    obtain ⟨C', q, e, g1, g2⟩ := cuts_fin b hb ds hd h1 C (hC.up (by omega)) p hp
    refine ⟨(C', q), Ev.step (fun k => ?_) e, g1, g2⟩
    simp only [spec_l1Rd_cuts.l0]
    rw [if_neg (by omega)]
  | succ d ih =>
    intro v hv hle C p hC hp
    obtain ⟨r, e, hr⟩ := cuts_inner b hb ds hd v (by omega) _ (fun C p hC hp => ih (v + 1) (by omega) (by omega) C p hC hp) 199 1 (by omega) (by omega) C p (hC.up (by omega)) hp
    refine ⟨r, Ev.step (fun k => ?_) e, hr⟩
    simp only [spec_l1Rd_cuts.l0]
    rw [if_pos (by omega)]
    rfl
theorem drawCuts_ev (b : List Int) (hb : Code b) : ∃ ds C, Ev (fun k => spec_DrawCutsOk.f k b) (ds, C) ∧ DrawnD ds ∧ C.length ≤ 6 ∧ ∀ y ∈ C, y.length ≤ 1207 := by
  obtain ⟨ds, p1, ⟨K1, e1⟩, hd, h1, hp1⟩ := decls_ev b hb 0 ⟨by omega, by omega⟩
  have hd6 := hd.len
  obtain ⟨K2, e2⟩ := l6None_loop ds hd6 ds.length 0 (by omega) (by omega) [] rfl
  obtain ⟨⟨C, q⟩, ⟨K3, e3⟩, g1, g2⟩ := cuts_loop b hb ds hd h1 ds.length 0 (by omega) (by omega) (List.replicate ds.length []) p1 ⟨by simp, fun y hy => by rw [List.eq_of_mem_replicate hy]; exact Nat.zero_le _⟩ hp1
  refine ⟨ds, C, ⟨K1 + K2 + K3, fun k hk => ?_⟩, hd, g1, g2⟩
  have e1 : spec_l1Rd_decls.f k b 0 = some (ds, p1) := e1 k (by omega)
  have e2 : spec_l6None.l0 k ds 0 [] = some ([] ++ List.replicate ds.length []) := e2 k (by omega)
  have e3 : spec_l1Rd_cuts.l0 k b ds (List.replicate ds.length []) p1 0 = some (C, q) := e3 k (by omega)
  clear hk hb hd h1 hp1 hd6 g1 g2
  rw [List.nil_append] at e2
  have e4 : spec_l1Rd_cuts.f k b p1 ds = some (C, q) := by
    unfold spec_l1Rd_cuts.f spec_l6None.f
    rw [e2, Option.bind_some]
    exact e3
  clear e2 e3
  show spec_DrawCutsOk.f k b = some (ds, C)
  unfold spec_DrawCutsOk.f spec_l1Open.f
  rw [Option.bind_some, e1, Option.bind_some, e4, Option.bind_some]

/-! slicesList -/
/-- The slices of one variable, from a bit on, by the cuts ahead. -/
def rowS (v : Int) : Int → List Int → List S65
  | _, [] => []
  | low, q :: qs => ⟨v, low, wrap64 (q - low)⟩ :: rowS v q qs
theorem rowS_len (v : Int) : ∀ (qs : List Int) (low : Int), (rowS v low qs).length = qs.length
  | [], _ => rfl
  | q :: qs, low => by rw [rowS, List.length_cons, List.length_cons, rowS_len v qs q]
def allS (l : List S63) (at_ : List (List Int)) : Nat → Nat → List S65
  | 0, _ => []
  | d + 1, v => rowS (v : Int) 0 (rd_L4 at_ (v : Int) ++ [(rd_T63 l (v : Int)).f1]) ++ allS l at_ d (v + 1)
def cutN (at_ : List (List Int)) : Nat → Nat → Nat
  | 0, _ => 0
  | d + 1, v => (rd_L4 at_ (v : Int)).length + cutN at_ d (v + 1)
theorem allS_len (l : List S63) (at_ : List (List Int)) : ∀ d v, (allS l at_ d v).length = d + cutN at_ d v
  | 0, _ => rfl
  | d + 1, v => by rw [allS, cutN, List.length_append, rowS_len, allS_len l at_ d (v + 1), List.length_append, List.length_singleton]; omega
theorem cutN_le (at_ : List (List Int)) (B : Nat) (hB : ∀ y ∈ at_, y.length ≤ B) : ∀ d v, at_.length - v = d → cutN at_ d v ≤ B * d
  | 0, _, _ => Nat.le_refl _
  | d + 1, v, h => by
    have h1 := hB _ (rdM_L4 at_ v (by omega))
    have h2 := cutN_le at_ B hB d (v + 1) (by omega)
    rw [cutN, Nat.mul_succ]
    omega
theorem slices_row (l : List S63) (at_ : List (List Int)) (v : Nat) (q : List Int) (hq : q.length ≤ 4096) (z : List S65) (hv : v < 1000) :
    ∀ d i, q.length - i = d → i ≤ q.length → ∀ (xs : List S65) (low : Int), xs.length + d ≤ 100000000 →
      Ev (fun k => impl_slicesOf.l0 k l (xs ++ rowS (v : Int) low (q.drop i)) at_ (at_.length : Int) ((v + 1 : Nat) : Int)) z → Ev (fun k => impl_slicesOf.l1 k l xs (v : Int) low at_ (at_.length : Int) (v : Int) q (q.length : Int) (i : Int)) z := by
  intro d
  induction d with
  | zero =>
    intro i hd hi xs low hx hz
    rw [List.drop_eq_nil_of_le (by omega), rowS, List.append_nil] at hz
    refine Ev.step (fun k => ?_) hz
    simp (disch := omega) only [impl_slicesOf.l1, ↓if_neg, wrap_next]
  | succ d ih =>
    intro i hd hi xs low hx hz
    have hil : i < q.length := by omega
    have er : q[i] = rd q (i : Int) := by
      unfold rd
      rw [List.getD_eq_getElem?_getD, Int.toNat_natCast, List.getElem?_eq_getElem hil]
      rfl
    rw [List.drop_eq_getElem_cons hil, rowS, er] at hz
    have h1 := ih (i + 1) (by omega) (by omega) (xs ++ [⟨(v : Int), low, wrap64 (rd q (i : Int) - low)⟩]) (rd q (i : Int)) (by simp only [List.length_append, List.length_singleton]; omega) (by rw [List.append_assoc]; exact hz)
    refine Ev.step (fun k => ?_) h1
    simp (disch := first | omega | (simp only [List.length_singleton]; omega)) only [impl_slicesOf.l1, ↓if_pos, wrap_next, Option.bind_some]
theorem slices_loops (l : List S63) (at_ : List (List Int)) (hg : GoodDecls l) (hc : GoodCuts l at_) :
    ∀ d v, at_.length - v = d → v ≤ at_.length → ∀ xs : List S65, xs.length ≤ 4096 * v → Ev (fun k => impl_slicesOf.l0 k l xs at_ (at_.length : Int) (v : Int)) (xs ++ allS l at_ d v) := by
  have hl := hg.len
  have hlen := hc.1
  intro d
  induction d with
  | zero =>
    intro v hd hv xs hxs
    rw [allS, List.append_nil]
    refine Ev.step (f := fun _ => some xs) (fun k => ?_) (Ev.now _)
    simp (disch := omega) only [impl_slicesOf.l0, ↓if_neg]
  | succ d ih =>
    intro v hd hv xs hxs
    have hvl : v < at_.length := by omega
    have hrow := hc.2 v hvl
    have hwd := hg.width _ (rdD_mem l v (by omega))
    rw [allS]
    obtain ⟨w, hw⟩ : ∃ w, (rd_T63 l (v : Int)).f1 = w := ⟨_, rfl⟩
    obtain ⟨p, hp⟩ : ∃ p, rd_L4 at_ (v : Int) = p := ⟨_, rfl⟩
    rw [hw] at hrow hwd ⊢
    rw [hp] at hrow ⊢
    have hpl := GoodRow.len hrow (by omega)
    have h0 := ih (v + 1) (by omega) (by omega) (xs ++ rowS (v : Int) 0 (p ++ [w])) (by rw [List.length_append, rowS_len, List.length_append, List.length_singleton]; omega)
    rw [List.append_assoc] at h0
    have h1 := slices_row l at_ v (p ++ [w]) (by rw [List.length_append, List.length_singleton]; omega) _ (by omega) (p ++ [w]).length 0 (by omega) (by omega) xs 0 (by rw [List.length_append, List.length_singleton]; omega) h0
    refine Ev.step (fun k => ?_) h1
    simp (disch := first | omega | (simp only [List.length_singleton]; omega)) only [impl_slicesOf.l0, slices_Clone_int64_int64.f, hp, hw, ↓if_pos, Option.bind_some]
    rfl
theorem gauge_vals (l : List S63) (at_ : List (List Int)) (hat : at_.length ≤ 60) (hp : ∀ y ∈ at_, (y.length : Int) ≤ 1048576) :
    ∀ d v, at_.length - v = d → v ≤ at_.length → ∀ n : Int, 0 ≤ n → n ≤ 1048576 + 1048576 * v → Ev (fun k => spec_Gauge.l0 k n (v : Int) at_) (n + (cutN at_ d v : Nat)) ∧ Ev (fun k => impl_Gauge.l0 k n at_ (at_.length : Int) (v : Int)) (n + (cutN at_ d v : Nat)) := by
  intro d
  induction d with
  | zero =>
    intro v hd hv n n0 n1
    rw [cutN, Int.natCast_zero, Int.add_zero]
    exact ⟨Ev.step (f := fun _ => some n) (fun k => by simp (disch := omega) only [spec_Gauge.l0, ↓if_neg]) (Ev.now _), Ev.step (f := fun _ => some n) (fun k => by simp (disch := omega) only [impl_Gauge.l0, ↓if_neg]) (Ev.now _)⟩
  | succ d ih =>
    intro v hd hv n n0 n1
    have hvl : v < at_.length := by omega
    have hpl := hp _ (rdM_L4 at_ v hvl)
    obtain ⟨h1, h2⟩ := ih (v + 1) (by omega) (by omega) (n + ((rd_L4 at_ (v : Int)).length : Int)) (by omega) (by omega)
    rw [cutN, Int.natCast_add, ← Int.add_assoc]
    exact ⟨Ev.step (fun k => by simp (disch := omega) only [spec_Gauge.l0, ↓if_pos, wrap_next, wrap64_id] <;> rfl) h1, Ev.step (fun k => by simp (disch := omega) only [impl_Gauge.l0, ↓if_pos, wrap_next, wrap64_id] <;> rfl) h2⟩

/-! slicesLaw -/
def Chain : Int → List Int → Int → Prop
  | low, [], w => low = w
  | low, q :: qs, w => low < q ∧ Chain q qs w
theorem Chain.le : ∀ {qs : List Int} {low w : Int}, Chain low qs w → low ≤ w
  | [], _, _, h => Int.le_of_eq h
  | q :: qs, low, w, h => by have := h.1; have := Chain.le h.2; omega
theorem chain_of {p : List Int} {w : Int} (h : GoodRow p w) : ∀ d i, p.length - i = d → i ≤ p.length → ∀ low, low < w → (i < p.length → low < rd p (i : Int)) → Chain low (p.drop i ++ [w]) w := by
  intro d
  induction d with
  | zero =>
    intro i hd hi low h1 _
    rw [List.drop_eq_nil_of_le (by omega)]
    exact ⟨h1, rfl⟩
  | succ d ih =>
    intro i hd hi low h1 h2
    have hil : i < p.length := by omega
    have er : p[i] = rd p (i : Int) := by
      unfold rd
      rw [List.getD_eq_getElem?_getD, Int.toNat_natCast, List.getElem?_eq_getElem hil]
      rfl
    rw [List.drop_eq_getElem_cons hil, er]
    have g := h i hil
    refine ⟨h2 hil, ih (i + 1) (by omega) (by omega) _ (by omega) (fun hn => (h (i + 1) hn).2.2 i rfl)⟩
theorem rdS_drop {xs rest : List S65} {n : Nat} {x : S65} (h : xs.drop n = x :: rest) : n < xs.length ∧ rd_T65 xs (n : Int) = x ∧ xs.drop (n + 1) = rest := by
  have hn : n < xs.length := by
    apply Nat.lt_of_not_le
    intro hle
    rw [List.drop_eq_nil_of_le hle] at h
    cases h
  rw [List.drop_eq_getElem_cons hn] at h
  injection h with h1 h2
  refine ⟨hn, ?_, h2⟩
  unfold rd_T65
  rw [List.getD_eq_getElem?_getD, Int.toNat_natCast, List.getElem?_eq_getElem hn]
  exact h1
theorem law_row (ds : List S63) (n : Int) (xs : List S65) (hx : xs.length ≤ 100000000) (v : Nat) (hv : v < ds.length) (hd : ds.length ≤ 60) (w : Int) (hw : (rd_T63 ds (v : Int)).f1 = w) (w4 : w ≤ 4096) (rest : List S65)
    (next : ∀ m : Nat, m ≤ xs.length → xs.drop m = rest → Ev (fun k => laws_FnSlices.l0 k ds n xs (m : Int) ((v + 1 : Nat) : Int)) true) :
    ∀ (qs : List Int) (low : Int) (m : Nat), m ≤ xs.length → 0 ≤ low → Chain low qs w → xs.drop m = rowS (v : Int) low qs ++ rest → Ev (fun k => laws_FnSlices.l1 k ds n xs (m : Int) (v : Int) low) true := by
  intro qs
  induction qs with
  | nil =>
    intro low m hle0 h0 hc hm
    have hc : low = w := hc
    refine Ev.step (fun k => ?_) (next m hle0 hm)
    simp only [laws_FnSlices.l1]
    rw [if_pos (by omega), if_pos (by omega), hw, if_neg (by omega), if_pos hc, wrap_next v (by omega)]
  | cons q qs ih =>
    intro low m hle0 h0 hc hm
    obtain ⟨c1, c2⟩ := hc
    have hle := Chain.le c2
    obtain ⟨hml, hr, hdr⟩ := rdS_drop (xs := xs) (rest := rowS (v : Int) q qs ++ rest) hm
    have w1 : wrap64 (q - low) = q - low := wrap64_id (by omega) (by omega)
    have w2 : wrap64 (low + (q - low)) = q := by rw [wrap64_id (by omega) (by omega)]; omega
    have w3 : wrap64 ((m : Int) + 1) = ((m + 1 : Nat) : Int) := by rw [wrap64_id (by omega) (by omega)]; omega
    have w4_ : ¬ (q - low < 1) := by omega
    refine Ev.step (fun k => ?_) (ih q (m + 1) hml (Int.le_of_lt (Int.lt_of_le_of_lt h0 c1)) c2 hdr)
    simp only [laws_FnSlices.l1]
    rw [if_pos (Int.natCast_nonneg v), if_pos (Int.ofNat_lt.2 hv), hw, if_pos (Int.lt_of_lt_of_le c1 hle), if_neg (Int.not_le.2 (Int.ofNat_lt.2 hml)), if_pos (Int.natCast_nonneg m), if_pos (Int.ofNat_lt.2 hml), hr]
    dsimp only
    rw [if_pos rfl, if_pos rfl, w1, if_neg w4_, w2, w3]
theorem law_loops (ds : List S63) (at_ : List (List Int)) (hg : GoodDecls ds) (hc : GoodCuts ds at_) (xs : List S65) (hx : xs.length ≤ 100000000) :
    ∀ d v, at_.length - v = d → v ≤ at_.length → ∀ m : Nat, m + (allS ds at_ d v).length = xs.length → xs.drop m = allS ds at_ d v → Ev (fun k => laws_FnSlices.l0 k ds (xs.length : Int) xs (m : Int) (v : Int)) true := by
  have hl := hg.len
  have hlen := hc.1
  intro d
  induction d with
  | zero =>
    intro v hd hv m hm _
    rw [allS, List.length_nil] at hm
    refine Ev.step (f := fun _ => some true) (fun k => ?_) (Ev.now _)
    simp only [laws_FnSlices.l0]
    rw [if_neg (by omega), if_pos (by omega)]
    exact congrArg some (beq_iff_eq.2 (by omega))
  | succ d ih =>
    intro v hd hv m hm hdr
    have hvl : v < at_.length := by omega
    have hrow := hc.2 v hvl
    have hwd := hg.width _ (rdD_mem ds v (by omega))
    rw [allS] at hm hdr
    have hch := chain_of hrow (rd_L4 at_ (v : Int)).length 0 (by omega) (by omega) 0 (by omega) (fun h => by have := (hrow 0 h).1; omega)
    rw [List.drop_zero] at hch
    refine Ev.step (fun k => ?_) (law_row ds (xs.length : Int) xs hx v (by omega) hl _ rfl (by omega) (allS ds at_ d (v + 1)) (fun m' hl' hm' => ih (v + 1) (by omega) (by omega) m' (by have := congrArg List.length hm'; rw [List.length_drop] at this; omega) hm') _ 0 m (by omega) (by omega) hch hdr)
    simp only [laws_FnSlices.l0]
    rw [if_pos (by omega)]
-- SAYS: For every code: the slices by the drawn cuts cover each variable from its lowest bit to its highest one, and are as many as the gauge says.
theorem FnSlices (l0 : List Int) (q0 : ∀ x ∈ l0, (Lit.int .u8 x).wf = true) (hl0 : l0.length ≤ 9223372036854775807) : ∃ k, laws_FnSlices.f k l0 = some true := by
  by_cases hbig : (l0.length : Int) > 1048576
  · have db := decide_eq_true hbig
    exact ⟨0, by unfold laws_FnSlices.f laws_big.f; rw [db]; simp only [Option.bind_some, if_true]⟩
  · have db := decide_eq_false hbig
    obtain ⟨ds, C, hd, hD, hC, hy⟩ := drawCuts_ev l0 (code_of l0 q0 (by omega))
    have hD6 := hD.len
    obtain ⟨b, g1, g2, hg⟩ := cuts_core ds C (fun x hx => by rw [hD.name x hx]; omega) (by omega) (fun y hy_ => by have := hy y hy_; omega)
    obtain ⟨K1, h1⟩ := Ev.binds g1
    obtain ⟨K2, h2⟩ := Ev.binds g2
    obtain ⟨K3, h3⟩ := Ev.binds hd
    cases b with
    | false =>
      refine ⟨K1 + K2 + K3, ?_⟩
      have h1 := fun β g => h1 (K1 + K2 + K3) (by omega) β g
      have h2 := fun β g => h2 (K1 + K2 + K3) (by omega) β g
      have h3 := fun β g => h3 (K1 + K2 + K3) (by omega) β g
      simp only [laws_FnSlices.f, laws_big.f, db, Option.bind_some, Bool.false_eq_true, ↓reduceIte, spec_DrawSlicesOf.f, ↓h3, impl_Gauge.f, spec_Gauge.f, impl_SlicesOf.f, ↓h1, ↓h2]
      rfl
    | true =>
      obtain ⟨hgd, hgc⟩ := hg rfl
      have hlen := hgc.1
      obtain ⟨⟨K4, h4⟩, ⟨K5, h5⟩⟩ := gauge_vals ds C (by omega) (fun y hy_ => by have := hy y hy_; omega) C.length 0 (by omega) (by omega) (ds.length : Int) (by omega) (by omega)
      obtain ⟨K6, h6⟩ := slices_loops ds C hgd hgc C.length 0 (by omega) (by omega) [] (by simp)
      have hal := allS_len ds C C.length 0
      obtain ⟨xs, hxs⟩ : ∃ xs, xs = allS ds C C.length 0 := ⟨_, rfl⟩
      rw [List.nil_append, ← hxs] at h6
      have hcn := cutN_le C 1207 hy C.length 0 (by omega)
      have hx : xs.length ≤ 100000000 := by rw [hxs, hal]; omega
      obtain ⟨K7, h7⟩ := law_loops ds C hgd hgc xs hx C.length 0 (by omega) (by omega) 0 (by rw [hxs]; omega) (by rw [hxs]; rfl)
      have en : (ds.length : Int) + (cutN C C.length 0 : Nat) = (xs.length : Int) := by rw [hxs, hal]; omega
      rw [en] at h4 h5
      obtain ⟨K, hK⟩ : ∃ K, K = K1 + K2 + K3 + K4 + K5 + K6 + K7 := ⟨_, rfl⟩
      refine ⟨K, ?_⟩
      have h1 := fun β g => h1 K (by omega) β g
      have h2 := fun β g => h2 K (by omega) β g
      have h3 := fun β g => h3 K (by omega) β g
      have h4 : spec_Gauge.l0 K (ds.length : Int) 0 C = some (xs.length : Int) := h4 K (by omega)
      have h5 : impl_Gauge.l0 K (ds.length : Int) C (C.length : Int) 0 = some (xs.length : Int) := h5 K (by omega)
      have h6 : impl_slicesOf.l0 K ds [] C (C.length : Int) 0 = some xs := h6 K (by omega)
      have h7 : laws_FnSlices.l0 K ds (xs.length : Int) xs 0 0 = some true := h7 K (by omega)
      have e1 : impl_Gauge.f K ds C = some (xs.length : Int) := by unfold impl_Gauge.f; rw [h2, if_pos rfl, h5]
      have e2 : spec_Gauge.f K ds C = some (xs.length : Int) := by unfold spec_Gauge.f; rw [h1, if_pos rfl, h4]
      have e3 : impl_SlicesOf.f K ds C = some xs := by unfold impl_SlicesOf.f impl_slicesOf.f; rw [h2, if_pos rfl, h6]; rfl
      unfold laws_FnSlices.f laws_big.f spec_DrawSlicesOf.f
      rw [db, Option.bind_some, if_neg (by decide), h3]
      simp only [Option.bind_some]
      rw [e1, Option.bind_some, e2, Option.bind_some, if_pos rfl, e3, Option.bind_some, if_neg (by omega)]
      exact h7

end Go.Proofs.Ytonkicgdgpcneaa.Pure
