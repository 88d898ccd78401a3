/- For every code: what follows from the drawn numbers, told by Unit, answers as the law says. -/
import Derived.Test.YtpkclocdenagcaaPFnUnitsx10
import Derived.Test.YtpkclocdenagcaaBits
import Derived.Test.YtpkclocdenagcaaLoops
namespace Go.Proofs.Ytpkclocdenagcaa.Pure
open Go Go.RowKit Go.Proofs.Ytpkclocdenagcaa.PFnUnits Go.Proofs.YtpkclocdenagcaaW.PrintWords Go.Proofs.YtpkclocdenagcaaW.PrintLast Go.Proofs.YtpkclocdenagcaaW.PrintMore Go.Proofs.Ytpkclocdenagcaa.BitsLib Go.Proofs.Ytpkclocdenagcaa.Loops
set_option linter.unusedVariables false
set_option linter.unusedSimpArgs false
set_option maxRecDepth 4000

/-! wrap_next -/
theorem wrap_next (i : Nat) (h : i < 4611686018427387904) : wrap64 ((i : Int) + 1) = ((i + 1 : Nat) : Int) := by
  rw [wrap64_id (by omega) (by omega)]; rfl

/-! rdE_L1 -/
theorem rdE_L1 (l : List (List Int)) (i : Nat) (h : i < l.length) : rd_L1 l (i : Int) = l[i] := by
  unfold rd_L1
  rw [List.getD_eq_getElem?_getD, Int.toNat_natCast, List.getElem?_eq_getElem h]; rfl
theorem rdM_L1 (l : List (List Int)) (i : Nat) (h : i < l.length) : rd_L1 l (i : Int) ∈ l := by rw [rdE_L1 l i h]; exact List.getElem_mem h

/-! implInside -/
theorem inside_eq (a b c : Int) : impl_inside.f a b c = some (decide (b ≤ a ∧ a ≤ c)) := by
  unfold impl_inside.f
  by_cases h1 : b ≤ a
  · rw [if_pos h1]; simp [h1]
  · rw [if_neg h1]; simp [h1]

/-! specIn -/
theorem l1In_eq (a b c : Int) : spec_l1In.f a b c = some (decide (b ≤ a ∧ a ≤ c)) := by
  unfold spec_l1In.f
  by_cases h1 : b ≤ a
  · rw [if_pos h1]; simp [h1]
  · rw [if_neg h1]; simp [h1]

/-! cnfOk -/
/-- A right clause. -/
def GoodClause (sw : Int) (p : List Int) : Prop := p.length ≤ 400 ∧ ∀ i : Nat, i < p.length → rd p (i : Int) ≠ 0 ∧ -sw ≤ rd p (i : Int) ∧ rd p (i : Int) ≤ sw
theorem abs_pos {n sw : Int} (h : sw ≤ 400) (h0 : n ≠ 0) (h1 : -sw ≤ n) (h2 : n ≤ sw) : ¬ mx n (wrap64 (-n)) ≤ 0 := by
  rw [wrap64_id (by omega) (by omega)]
  unfold mx
  split <;> omega
theorem clause_rows (sw : Int) (cl : List (List Int)) (v : Nat) (h0 : 0 ≤ sw) (h1 : sw ≤ 400) (hv : v < cl.length) (hcl : cl.length ≤ 4000) (hp : (rd_L1 cl (v : Int)).length ≤ 400) :
    ∀ d i, (rd_L1 cl (v : Int)).length - i = d → i ≤ (rd_L1 cl (v : Int)).length → ∀ bf : Int, (i = 0 → bf = 0) → (∀ j : Nat, j + 1 = i → bf = mx (rd (rd_L1 cl (v : Int)) (j : Int)) (wrap64 (-(rd (rd_L1 cl (v : Int)) (j : Int))))) →
      ((∀ j : Nat, i ≤ j → j < (rd_L1 cl (v : Int)).length → rd (rd_L1 cl (v : Int)) (j : Int) ≠ 0 ∧ -sw ≤ rd (rd_L1 cl (v : Int)) (j : Int) ∧ rd (rd_L1 cl (v : Int)) (j : Int) ≤ sw) ∧
        Ev (fun k => impl_clauseOk.l0 k sw bf (rd_L1 cl (v : Int)) ((rd_L1 cl (v : Int)).length : Int) (i : Int)) true ∧ (∀ z, Ev (fun k => spec_CnfOk.l0 k ((v : Int) + 1) sw cl) z → Ev (fun k => spec_CnfOk.l1 k (v : Int) (i : Int) sw cl) z)) ∨
      (Ev (fun k => impl_clauseOk.l0 k sw bf (rd_L1 cl (v : Int)) ((rd_L1 cl (v : Int)).length : Int) (i : Int)) false ∧ Ev (fun k => spec_CnfOk.l1 k (v : Int) (i : Int) sw cl) false) := by
  obtain ⟨p, hpe⟩ : ∃ p, p = rd_L1 cl (v : Int) := ⟨_, rfl⟩
  rw [← hpe] at hp ⊢
  have hw : True → wrap64 (-sw) = -sw := fun _ => wrap64_id (by omega) (by omega)
  intro d
  induction d with
  | zero =>
    intro i hd hi bf b0 b1
    left
    refine ⟨fun j g1 g2 => absurd g1 (by omega), Ev.step (f := fun _ => some true) (fun k => ?_) (Ev.now _), fun z hz => Ev.step (fun k => ?_) hz⟩
    · simp (disch := omega) only [impl_clauseOk.l0, ↓if_neg]
    · simp (disch := omega) only [spec_CnfOk.l1, ← hpe, ↓if_pos, ↓if_neg, wrap64_id]
  | succ d ih =>
    intro i hd hi bf b0 b1
    have hil : i < p.length := by omega
    obtain ⟨x, hx⟩ : ∃ x, x = rd p (i : Int) := ⟨_, rfl⟩
    by_cases c0 : x = 0
    · right
      refine ⟨Ev.step (f := fun _ => some false) (fun k => ?_) (Ev.now _), Ev.step (f := fun _ => some false) (fun k => ?_) (Ev.now _)⟩
      · simp (disch := omega) only [impl_clauseOk.l0, ← hx, ↓if_pos]
      · simp (disch := omega) only [spec_CnfOk.l1, ← hpe, ← hx, ↓if_pos]
    · by_cases cin : -sw ≤ x ∧ x ≤ sw
      · have din := decide_eq_true cin
        by_cases cb : mx x (wrap64 (-x)) ≤ bf
        · right
          have i0 : i ≠ 0 := fun h => abs_pos h1 c0 cin.1 cin.2 (by rw [b0 h] at cb; exact cb)
          obtain ⟨q, rfl⟩ : ∃ q, i = q + 1 := ⟨i - 1, by omega⟩
          have hq := b1 q rfl
          have e1 : True → wrap64 (((q + 1 : Nat) : Int) - 1) = (q : Int) := fun _ => by rw [wrap64_id (by omega) (by omega)]; omega
          refine ⟨Ev.step (f := fun _ => some false) (fun k => ?_) (Ev.now _), Ev.step (f := fun _ => some false) (fun k => ?_) (Ev.now _)⟩
          · simp (disch := first | omega | trivial) only [impl_clauseOk.l0, ← hx, ↓if_pos, ↓if_neg, inside_eq, hw, din, Option.bind_some, ↓reduceIte, if_pos cb]
          · simp (disch := first | omega | trivial) only [spec_CnfOk.l1, ← hpe, ← hx, ↓if_pos, ↓if_neg, l1In_eq, hw, din, Option.bind_some, ↓reduceIte, spec_l18Abs.f, e1, ← hq, if_pos cb]
        · have rest := ih (i + 1) (by omega) (by omega) (mx x (wrap64 (-x))) (fun h => absurd h (by omega)) (fun j hj => by
            obtain rfl : j = i := by omega
            rw [hx])
          have s1 : ∀ z, Ev (fun k => impl_clauseOk.l0 k sw (mx x (wrap64 (-x))) p (p.length : Int) ((i + 1 : Nat) : Int)) z → Ev (fun k => impl_clauseOk.l0 k sw bf p (p.length : Int) (i : Int)) z := fun z hz => Ev.step (fun k => by
            simp (disch := first | omega | trivial) only [impl_clauseOk.l0, ← hx, ↓if_pos, ↓if_neg, inside_eq, hw, din, Option.bind_some, ↓reduceIte, if_neg cb, wrap_next]) hz
          have s2 : ∀ z, Ev (fun k => spec_CnfOk.l1 k (v : Int) ((i + 1 : Nat) : Int) sw cl) z → Ev (fun k => spec_CnfOk.l1 k (v : Int) (i : Int) sw cl) z := fun z hz => by
            by_cases i0 : i = 0
            · exact Ev.step (fun k => by
                simp (disch := first | omega | trivial) only [spec_CnfOk.l1, ← hpe, ← hx, ↓if_pos, ↓if_neg, l1In_eq, hw, din, Option.bind_some, ↓reduceIte, wrap_next]) hz
            · obtain ⟨q, rfl⟩ : ∃ q, i = q + 1 := ⟨i - 1, by omega⟩
              have hq := b1 q rfl
              have e1 : True → wrap64 (((q + 1 : Nat) : Int) - 1) = (q : Int) := fun _ => by rw [wrap64_id (by omega) (by omega)]; omega
              exact Ev.step (fun k => by
                simp (disch := first | omega | trivial) only [spec_CnfOk.l1, ← hpe, ← hx, ↓if_pos, ↓if_neg, l1In_eq, hw, din, Option.bind_some, ↓reduceIte, spec_l18Abs.f, e1, ← hq, if_neg cb, wrap_next]) hz
          rcases rest with ⟨a1, a2, a3⟩ | ⟨a1, a2⟩
          · left
            refine ⟨fun j g1 g2 => ?_, s1 _ a2, fun z hz => s2 z (a3 z hz)⟩
            by_cases e : j = i
            · subst e
              rw [← hx]
              exact ⟨c0, cin.1, cin.2⟩
            · exact a1 j (by omega) g2
          · exact .inr ⟨s1 _ a1, s2 _ a2⟩
      · have din := decide_eq_false cin
        right
        refine ⟨Ev.step (f := fun _ => some false) (fun k => ?_) (Ev.now _), Ev.step (f := fun _ => some false) (fun k => ?_) (Ev.now _)⟩
        · simp (disch := first | omega | trivial) only [impl_clauseOk.l0, ← hx, ↓if_pos, ↓if_neg, inside_eq, hw, din, Option.bind_some, ↓reduceIte, Bool.false_eq_true]
        · simp (disch := first | omega | trivial) only [spec_CnfOk.l1, ← hpe, ← hx, ↓if_pos, ↓if_neg, l1In_eq, hw, din, Option.bind_some, ↓reduceIte, Bool.false_eq_true]
theorem cnf_loops (sw : Int) (cl : List (List Int)) (h0 : 0 ≤ sw) (h1 : sw ≤ 400) (hcl : cl.length ≤ 4000) :
    ∀ d v, cl.length - v = d → v ≤ cl.length →
      (Ev (fun k => spec_CnfOk.l0 k (v : Int) sw cl) true ∧ Ev (fun k => idxG (impl_CnfOk.p k sw) (cl.drop v) (v : Int)) (-1) ∧ ∀ p ∈ cl.drop v, GoodClause sw p) ∨
      (Ev (fun k => spec_CnfOk.l0 k (v : Int) sw cl) false ∧ ∃ r : Int, 0 ≤ r ∧ Ev (fun k => idxG (impl_CnfOk.p k sw) (cl.drop v) (v : Int)) r) := by
  intro d
  induction d with
  | zero =>
    intro v hd hv
    left
    have e : cl.drop v = [] := List.drop_eq_nil_of_le (by omega)
    rw [e]
    refine ⟨Ev.step (f := fun _ => some true) (fun k => ?_) (Ev.now _), ⟨0, fun k _ => rfl⟩, fun p hp => by cases hp⟩
    simp (disch := omega) only [spec_CnfOk.l0, ↓if_neg]
  | succ d ih =>
    intro v hd hv
    have hvl : v < cl.length := by omega
    obtain ⟨p, hpe⟩ : ∃ p, p = rd_L1 cl (v : Int) := ⟨_, rfl⟩
    have hdrop : cl.drop v = p :: cl.drop (v + 1) := by rw [List.drop_eq_getElem_cons hvl, hpe, rdE_L1 cl v hvl]
    rw [hdrop]
    have bad : Ev (fun k => impl_clauseOk.f k p sw) false → ∃ r : Int, 0 ≤ r ∧ Ev (fun k => idxG (impl_CnfOk.p k sw) (p :: cl.drop (v + 1)) (v : Int)) r := fun h => by
      obtain ⟨K, h⟩ := h
      refine ⟨(v : Int), by omega, K, fun k hk => ?_⟩
      have h := h k hk
      dsimp only at h ⊢
      simp only [idxG, impl_CnfOk.p, h, Option.bind_some, Bool.not_false, ↓reduceIte]
    by_cases c4 : (p.length : Int) > 400
    · right
      refine ⟨Ev.step (f := fun _ => some false) (fun k => ?_) (Ev.now _), bad ⟨0, fun k _ => ?_⟩⟩
      · simp (disch := omega) only [spec_CnfOk.l0, ← hpe, ↓if_pos]
      · simp (disch := omega) only [impl_clauseOk.f, ↓if_pos]
    · have hrow := clause_rows sw cl v h0 h1 hvl hcl (by rw [← hpe]; omega) _ 0 rfl (by omega) 0 (fun _ => rfl) (fun j hj => absurd hj (by omega))
      rw [← hpe] at hrow
      have hf : ∀ z, Ev (fun k => impl_clauseOk.l0 k sw 0 p (p.length : Int) ((0 : Nat) : Int)) z → Ev (fun k => impl_clauseOk.f k p sw) z := fun z hz => Ev.congr (fun k => by simp (disch := omega) only [impl_clauseOk.f, ↓if_neg]; rfl) hz
      have hs : ∀ z, Ev (fun k => spec_CnfOk.l1 k (v : Int) ((0 : Nat) : Int) sw cl) z → Ev (fun k => spec_CnfOk.l0 k (v : Int) sw cl) z := fun z hz => Ev.step (fun k => by simp (disch := omega) only [spec_CnfOk.l0, ← hpe, ↓if_pos, ↓if_neg]; rfl) hz
      rcases hrow with ⟨a1, a2, a3⟩ | ⟨a1, a2⟩
      · have hgo : ∀ r, Ev (fun k => idxG (impl_CnfOk.p k sw) (cl.drop (v + 1)) ((v + 1 : Nat) : Int)) r → Ev (fun k => idxG (impl_CnfOk.p k sw) (p :: cl.drop (v + 1)) (v : Int)) r := fun r hr => by
          obtain ⟨K, h⟩ := hf _ a2
          obtain ⟨K2, h2⟩ := hr
          refine ⟨K + K2, fun k hk => ?_⟩
          have h := h k (by omega)
          have h2 := h2 k (by omega)
          dsimp only at h h2 ⊢
          simp only [idxG, impl_CnfOk.p, h, Option.bind_some, Bool.not_true, Bool.false_eq_true, ↓reduceIte]
          exact h2
        rcases ih (v + 1) (by omega) (by omega) with ⟨b1, b2, b3⟩ | ⟨b1, r, b2, b3⟩
        · left
          refine ⟨hs _ (a3 _ (by simpa using b1)), hgo _ b2, fun q hq => ?_⟩
          rcases List.mem_cons.1 hq with rfl | hq
          · exact ⟨by omega, fun i hi => a1 i (by omega) hi⟩
          · exact b3 q hq
        · exact .inr ⟨hs _ (a3 _ (by simpa using b1)), r, b2, hgo _ b3⟩
      · exact .inr ⟨hs _ a2, bad (hf _ a1)⟩
theorem cnf_core (sw : Int) (cl : List (List Int)) : ∃ b, Ev (fun k => spec_CnfOk.f k sw cl) b ∧ Ev (fun k => impl_CnfOk.f k sw cl) b ∧ (b = true → 0 ≤ sw ∧ sw ≤ 400 ∧ cl.length ≤ 4000 ∧ ∀ p ∈ cl, GoodClause sw p) := by
  have no : ∀ (P : Prop), ((false : Bool) = true → P) := fun P h => by cases h
  by_cases cs : 0 ≤ sw ∧ sw ≤ 400
  · have ds := decide_eq_true cs
    by_cases c4 : (cl.length : Int) > 4000
    · have d4 := decide_eq_true c4
      refine ⟨false, ⟨1, fun k hk => ?_⟩, ⟨0, fun k hk => ?_⟩, no _⟩
      · obtain ⟨m, rfl⟩ : ∃ m, k = m + 1 := ⟨k - 1, by omega⟩
        simp (disch := omega) only [spec_CnfOk.f, l1In_eq, ds, Option.bind_some, ↓reduceIte, d4, spec_CnfOk.j0]
      · simp (disch := omega) only [impl_CnfOk.f, inside_eq, ds, Option.bind_some, ↓reduceIte, ↓if_pos]
    · have d4 := decide_eq_false c4
      have s1 : ∀ z, Ev (fun k => spec_CnfOk.l0 k ((0 : Nat) : Int) sw cl) z → Ev (fun k => spec_CnfOk.f k sw cl) z := by
        rintro z ⟨K, h⟩
        refine ⟨K + 1, fun k hk => ?_⟩
        obtain ⟨m, rfl⟩ : ∃ m, k = m + 1 := ⟨k - 1, by omega⟩
        have h := h m (by omega)
        simp (disch := omega) only [spec_CnfOk.f, l1In_eq, ds, Option.bind_some, ↓reduceIte, d4, spec_CnfOk.j0, Bool.false_eq_true]
        exact h
      have s2 : ∀ r : Int, Ev (fun k => idxG (impl_CnfOk.p k sw) cl ((0 : Nat) : Int)) r → Ev (fun k => impl_CnfOk.f k sw cl) (!decide (0 ≤ r)) := by
        rintro r ⟨K, h⟩
        refine ⟨K, fun k hk => ?_⟩
        have h : idxG (impl_CnfOk.p k sw) cl 0 = some r := h k (by omega)
        simp (disch := omega) only [impl_CnfOk.f, inside_eq, ds, Option.bind_some, ↓reduceIte, ↓if_neg, h]
      rcases cnf_loops sw cl cs.1 cs.2 (by omega) cl.length 0 (by omega) (by omega) with ⟨b1, b2, b3⟩ | ⟨b1, r, b2, b3⟩
      · rw [List.drop_zero] at b2 b3
        exact ⟨true, s1 _ b1, s2 _ b2, fun _ => ⟨cs.1, cs.2, by omega, b3⟩⟩
      · rw [List.drop_zero] at b3
        refine ⟨false, s1 _ b1, ?_, no _⟩
        have := s2 _ b3
        rwa [decide_eq_true b2] at this
  · have ds := decide_eq_false cs
    refine ⟨false, ⟨1, fun k hk => ?_⟩, ⟨0, fun k hk => ?_⟩, no _⟩
    · obtain ⟨m, rfl⟩ : ∃ m, k = m + 1 := ⟨k - 1, by omega⟩
      simp (disch := omega) only [spec_CnfOk.f, l1In_eq, ds, Option.bind_some, ↓reduceIte, Bool.false_eq_true, spec_CnfOk.j0]
    · simp (disch := omega) only [impl_CnfOk.f, inside_eq, ds, Option.bind_some, ↓reduceIte, Bool.false_eq_true]

/-! trail -/
theorem lit_wf (n : Int) (h0 : -1000000 ≤ n) (h1 : n ≤ 1000000) : (Lit.int .i64 n).wf = true := by
  have e1 : IntKind.i64.min = -9223372036854775808 := by decide
  have e2 : IntKind.i64.max = 9223372036854775807 := by decide
  simp only [Lit.wf, e1, e2, Bool.and_eq_true, decide_eq_true_eq]
  omega
theorem abs_eq (n : Int) (h0 : -1000000 ≤ n) (h1 : n ≤ 1000000) : mx n (wrap64 (-n)) = (n.natAbs : Int) := by
  rw [wrap64_id (by omega) (by omega)]
  unfold mx
  split <;> omega
theorem rd_set (l : List Int) (a b : Nat) (v : Int) (h : a < l.length) : rd (l.set a v) (b : Int) = if a = b then v else rd l (b : Int) := by
  unfold rd
  rw [List.getD_eq_getElem?_getD, List.getD_eq_getElem?_getD, Int.toNat_natCast, List.getElem?_set]
  by_cases e : a = b
  · subst e
    rw [if_pos rfl, if_pos rfl, if_pos h]
    rfl
  · rw [if_neg e, if_neg e]
theorem rd_get (l : List Int) (a : Nat) (h : a < l.length) : rd l (a : Int) = l[a] := by
  have := getElem?_rd h
  rw [List.getElem?_eq_getElem h] at this
  exact (Option.some.inj this).symm
/-- A number of n's place stands as n, the other way round, or not. -/
def sat (I : List Int) (n : Int) : Bool := decide (rd I (n.natAbs : Int) = n)
def neg (I : List Int) (n : Int) : Bool := decide (rd I (n.natAbs : Int) = -n)
def fre (I : List Int) (n : Int) : Bool := decide (rd I (n.natAbs : Int) = 0)
def IOk (sw : Int) (I : List Int) : Prop := (I.length : Int) = sw + 1 ∧ ∀ a : Nat, a < I.length → rd I (a : Int) = 0 ∨ rd I (a : Int) = a ∨ rd I (a : Int) = -a
def GoodN (sw n : Int) : Prop := n ≠ 0 ∧ -sw ≤ n ∧ n ≤ sw
def GoodCl (sw : Int) (cl : List (List Int)) : Prop := cl.length ≤ 4000 ∧ ∀ p ∈ cl, p.length ≤ 400 ∧ ∀ n ∈ p, GoodN sw n
theorem IOk.set {sw : Int} {I : List Int} (h : IOk sw I) (v : Int) (hv : GoodN sw v) : IOk sw (I.set v.natAbs v) := by
  obtain ⟨h1, h2⟩ := h
  obtain ⟨v0, v1, v2⟩ := hv
  have hl : v.natAbs < I.length := by omega
  refine ⟨by rw [List.length_set]; exact h1, fun a ha => ?_⟩
  rw [List.length_set] at ha
  rw [rd_set _ _ _ _ hl]
  split
  · omega
  · exact h2 a ha
theorem sat_set {sw : Int} {I : List Int} (h : IOk sw I) (v : Int) (hv : GoodN sw v) (h0 : rd I (v.natAbs : Int) = 0) : ∀ (p : List Int), (∀ n ∈ p, GoodN sw n) →
    p.countP (sat (I.set v.natAbs v)) = p.countP (sat I) + p.count v ∧ p.countP (neg (I.set v.natAbs v)) = p.countP (neg I) + p.count (-v) := by
  obtain ⟨h1, h2⟩ := h
  obtain ⟨v0, v1, v2⟩ := hv
  have hl : v.natAbs < I.length := by omega
  intro p
  induction p with
  | nil => intro _; exact ⟨rfl, rfl⟩
  | cons n p ih =>
    intro hp
    obtain ⟨a1, a2⟩ := ih (fun x hx => hp x (List.mem_cons_of_mem _ hx))
    obtain ⟨n0, n1, n2⟩ := hp n (List.mem_cons_self)
    rw [List.countP_cons, List.countP_cons, List.countP_cons, List.countP_cons, List.count_cons, List.count_cons, a1, a2]
    simp only [sat, neg, beq_iff_eq, decide_eq_true_eq]
    rw [rd_set _ _ _ _ hl]
    by_cases e : v.natAbs = n.natAbs
    · rw [if_pos e, ← e, h0]
      constructor <;> (repeat' split) <;> omega
    · rw [if_neg e, if_neg (show ¬ n = v by omega), if_neg (show ¬ n = -v by omega)]
      omega
/-- The seats that are named are counted. -/
theorem inc_ok (d : Int) (hd : d = 1 ∨ d = -1) : ∀ (l G : List Int), (∀ x ∈ l, 0 ≤ x ∧ x < (G.length : Int)) → (∀ i : Nat, i < G.length → -100000000 ≤ rd G (i : Int) - l.count (i : Int) ∧ rd G (i : Int) + l.count (i : Int) ≤ 100000000) →
    ∃ G', impl_trail.inc d G l = some G' ∧ G'.length = G.length ∧ ∀ i : Nat, i < G.length → rd G' (i : Int) = rd G (i : Int) + d * l.count (i : Int) := by
  intro l
  induction l with
  | nil => intro G _ _; exact ⟨G, rfl, rfl, fun i hi => by simp⟩
  | cons x xs ih =>
    intro G hx hb
    obtain ⟨x0, x1⟩ := hx x (List.mem_cons_self)
    obtain ⟨a, rfl⟩ : ∃ a : Nat, x = a := ⟨x.toNat, by omega⟩
    have ha : a < G.length := by omega
    have hba := hb a ha
    rw [List.count_cons_self] at hba
    have hw : wrap64 (rd G (a : Int) + d) = rd G (a : Int) + d := wrap64_id (by omega) (by omega)
    obtain ⟨G', e1, e2, e3⟩ := ih (G.set a (rd G (a : Int) + d)) (fun y hy => by rw [List.length_set]; exact hx y (List.mem_cons_of_mem _ hy)) (fun i hi => by
      rw [List.length_set] at hi
      have := hb i hi
      rw [List.count_cons] at this
      rw [rd_set _ _ _ _ ha]
      by_cases e : a = i
      · subst e
        rw [if_pos rfl]
        simp only [beq_self_eq_true, ↓reduceIte] at this
        omega
      · rw [if_neg e]
        rw [if_neg (by simp; omega)] at this
        omega)
    rw [List.length_set] at e2 e3
    refine ⟨G', ?_, e2, fun i hi => ?_⟩
    · unfold impl_trail.inc
      rw [if_pos x0, if_pos x1, hw, Int.toNat_natCast]
      exact e1
    · rw [e3 i hi, rd_set _ _ _ _ ha, List.count_cons]
      by_cases e : a = i
      · subst e
        rw [if_pos rfl]
        simp only [beq_self_eq_true, ↓reduceIte]
        rcases hd with rfl | rfl <;> omega
      · rw [if_neg e, if_neg (by simp; omega)]
        rcases hd with rfl | rfl <;> omega
/-- How often the clauses ahead of (i, j) name a number, told by the clause. -/
def occ (cl : List (List Int)) (i j : Nat) (n : Int) (q : Nat) : Nat := if q < i then (rd_L1 cl (q : Int)).count n else if q = i then ((rd_L1 cl (i : Int)).take j).count n else 0
def HOk (cl : List (List Int)) (i j : Nat) (H : Int → List Int) : Prop := ∀ n, (∀ x ∈ H n, 0 ≤ x ∧ x < (cl.length : Int)) ∧ ∀ q : Nat, (H n).count (q : Int) = occ cl i j n q
theorem occ_end (cl : List (List Int)) (i : Nat) (n : Int) (q : Nat) : occ cl i (rd_L1 cl (i : Int)).length n q = occ cl (i + 1) 0 n q := by
  unfold occ
  by_cases e1 : q < i
  · rw [if_pos e1, if_pos (by omega)]
  · by_cases e2 : q = i
    · subst e2
      rw [if_neg (by omega), if_pos rfl, if_pos (by omega), List.take_length]
    · rw [if_neg e1, if_neg e2, if_neg (by omega)]
      split
      · simp
      · rfl
theorem occ_step (cl : List (List Int)) (i j : Nat) (hj : j < (rd_L1 cl (i : Int)).length) (n : Int) (q : Nat) : occ cl i (j + 1) n q = occ cl i j n q + if q = i ∧ rd (rd_L1 cl (i : Int)) (j : Int) = n then 1 else 0 := by
  unfold occ
  by_cases e1 : q < i
  · rw [if_pos e1, if_pos e1, if_neg (by omega)]
    rfl
  · rw [if_neg e1, if_neg e1]
    by_cases e2 : q = i
    · subst e2
      rw [if_pos rfl, if_pos rfl, List.take_succ_eq_append_getElem hj, List.count_append, ← rd_get _ _ hj]
      congr 1
      by_cases e3 : rd (rd_L1 cl (q : Int)) (j : Int) = n
      · rw [if_pos ⟨rfl, e3⟩, e3]; simp
      · rw [if_neg (fun h => e3 h.2)]
        simp [List.count_cons, e3]
    · rw [if_neg e2, if_neg e2, if_neg (fun h => e2 h.1)]
theorem trail_row {sw : Int} (hs : 0 ≤ sw ∧ sw ≤ 400) (cl : List (List Int)) (hg : GoodCl sw cl) (i : Nat) (hi : i < cl.length)
    (next : ∀ H m, HOk cl (i + 1) 0 H → (∀ n, (H n).length ≤ m) → m ≤ 400 * (i + 1) → ∃ R, Ev (fun k => impl_newTrail.l0 k cl ((i + 1 : Nat) : Int) H m) R ∧ HOk cl cl.length 0 R) :
    ∀ d j, (rd_L1 cl (i : Int)).length - j = d → j ≤ (rd_L1 cl (i : Int)).length → ∀ H m, HOk cl i j H → (∀ n, (H n).length ≤ m) → m ≤ 400 * i + j →
      ∃ R, Ev (fun k => impl_newTrail.l1 k cl (i : Int) (rd_L1 cl (i : Int)) (j : Int) H m) R ∧ HOk cl cl.length 0 R := by
  have hmem : rd_L1 cl (i : Int) ∈ cl := by rw [rdE_L1 cl i hi]; exact List.getElem_mem hi
  obtain ⟨hlen, hn⟩ := hg.2 _ hmem
  have hcl := hg.1
  intro d
  induction d with
  | zero =>
    intro j hd hj H m h1 h2 h3
    obtain rfl : j = (rd_L1 cl (i : Int)).length := by omega
    obtain ⟨R, e1, e2⟩ := next H m (fun n => ⟨(h1 n).1, fun q => by rw [(h1 n).2 q, occ_end]⟩) h2 (by omega)
    refine ⟨R, Ev.step (fun k => ?_) e1, e2⟩
    rw [impl_newTrail.l1, if_neg (by omega), wrap_next i (by omega)]
  | succ d ih =>
    intro j hd hj H m h1 h2 h3
    have hjl : j < (rd_L1 cl (i : Int)).length := by omega
    have gx := hn _ (show rd (rd_L1 cl (i : Int)) (j : Int) ∈ rd_L1 cl (i : Int) by rw [rd_get _ _ hjl]; exact List.getElem_mem hjl)
    obtain ⟨x, hx⟩ : ∃ x, x = rd (rd_L1 cl (i : Int)) (j : Int) := ⟨_, rfl⟩
    rw [← hx] at gx
    have hwf := lit_wf x (by have := gx.2.1; omega) (by have := gx.2.2; omega)
    obtain ⟨R, e1, e2⟩ := ih (j + 1) (by omega) (by omega) (fun q => if q = x then H q ++ [(i : Int)] else H q) (m + 1) (fun n => by
      obtain ⟨g1, g2⟩ := h1 n
      dsimp only
      by_cases e : n = x
      · rw [if_pos e]
        refine ⟨fun y hy => ?_, fun q => ?_⟩
        · rcases List.mem_append.1 hy with hy | hy
          · exact g1 y hy
          · rw [List.mem_singleton] at hy
            subst hy
            omega
        · rw [List.count_append, g2 q, occ_step cl i j hjl, ← hx]
          congr 1
          by_cases eq : q = i
          · subst eq
            rw [if_pos ⟨rfl, e.symm⟩]
            simp
          · rw [if_neg (fun h => eq h.1)]
            simp [List.count_cons]
            omega
      · rw [if_neg e]
        exact ⟨g1, fun q => by rw [g2 q, occ_step cl i j hjl, ← hx, if_neg (fun h => e h.2.symm)]; rfl⟩) (fun n => by
      have := h2 n
      split
      · rw [List.length_append]
        simp
        omega
      · omega) (by omega)
    refine ⟨R, Ev.step (fun k => ?_) e1, e2⟩
    have := h2 x
    rw [impl_newTrail.l1, if_pos (by omega), if_pos (by omega), ← hx, if_pos hwf, if_pos (by omega), if_pos (by omega), wrap_next j (by omega)]
theorem trail_ok {sw : Int} (hs : 0 ≤ sw ∧ sw ≤ 400) (cl : List (List Int)) (hg : GoodCl sw cl) : ∃ H, Ev (fun k => impl_newTrail.f k sw cl) H ∧ HOk cl cl.length 0 H := by
  have hcl := hg.1
  have main : ∀ d i, cl.length - i = d → i ≤ cl.length → ∀ H m, HOk cl i 0 H → (∀ n, (H n).length ≤ m) → m ≤ 400 * i → ∃ R, Ev (fun k => impl_newTrail.l0 k cl (i : Int) H m) R ∧ HOk cl cl.length 0 R := by
    intro d
    induction d with
    | zero =>
      intro i hd hi H m h1 h2 h3
      obtain rfl : i = cl.length := by omega
      refine ⟨H, Ev.step (f := fun _ => some H) (fun k => ?_) (Ev.now _), h1⟩
      rw [impl_newTrail.l0, if_neg (by omega)]
    | succ d ih =>
      intro i hd hi H m h1 h2 h3
      obtain ⟨R, e1, e2⟩ := trail_row hs cl hg i (by omega) (fun H m a1 a2 a3 => ih (i + 1) (by omega) (by omega) H m a1 a2 a3) _ 0 rfl (by omega) H m h1 h2 (by omega)
      refine ⟨R, Ev.step (fun k => ?_) e1, e2⟩
      rw [impl_newTrail.l0, if_pos (by omega), if_pos (by omega)]
      rfl
  obtain ⟨R, e1, e2⟩ := main _ 0 rfl (by omega) (fun _ => []) 0 (fun n => ⟨fun x hx => (by cases hx), fun q => by unfold occ; simp⟩) (fun _ => by simp) (by omega)
  refine ⟨R, Ev.congr (fun k => ?_) e1, e2⟩
  unfold impl_newTrail.f
  rw [if_pos (by omega), if_pos (by omega)]
  rfl
/-- What a number's row counts, when the trail is made. -/
theorem HOk.count {cl : List (List Int)} {H : Int → List Int} (h : HOk cl cl.length 0 H) (n : Int) (q : Nat) (hq : q < cl.length) : (H n).count (q : Int) = (rd_L1 cl (q : Int)).count n := by
  rw [(h n).2 q, occ, if_pos hq]
def GB (cl : List (List Int)) (I G B : List Int) : Prop := G.length = cl.length ∧ B.length = cl.length ∧ ∀ q : Nat, q < cl.length → rd G (q : Int) = ((rd_L1 cl (q : Int)).countP (sat I) : Nat) ∧ rd B (q : Int) = ((rd_L1 cl (q : Int)).countP (neg I) : Nat)
theorem GoodCl.row {sw : Int} {cl : List (List Int)} (hg : GoodCl sw cl) (q : Nat) (hq : q < cl.length) : (rd_L1 cl (q : Int)).length ≤ 400 ∧ ∀ n ∈ rd_L1 cl (q : Int), GoodN sw n := hg.2 _ (by rw [rdE_L1 cl q hq]; exact List.getElem_mem hq)
theorem inc_row (d : Int) (hd : d = 1 ∨ d = -1) {sw : Int} {cl : List (List Int)} {H : Int → List Int} (hg : GoodCl sw cl) (hH : HOk cl cl.length 0 H) (G : List Int) (hl : G.length = cl.length) (hb : ∀ q : Nat, q < cl.length → 0 ≤ rd G (q : Int) ∧ rd G (q : Int) ≤ 400) (v : Int) :
    ∃ G', impl_trail.inc d G (H v) = some G' ∧ G'.length = cl.length ∧ ∀ q : Nat, q < cl.length → rd G' (q : Int) = rd G (q : Int) + d * (rd_L1 cl (q : Int)).count v := by
  obtain ⟨G', e1, e2, e3⟩ := inc_ok d hd (H v) G (by rw [hl]; exact (hH v).1) (fun i hi => by
    rw [hl] at hi
    have := hb i hi
    have hc := hH.count v i hi
    have := List.count_le_length (a := v) (l := rd_L1 cl (i : Int))
    have := (hg.row i hi).1
    omega)
  exact ⟨G', e1, e2.trans hl, fun q hq => by rw [e3 q (by omega), hH.count v q hq]⟩
theorem stand_ok {sw : Int} (hs : 0 ≤ sw ∧ sw ≤ 400) {cl : List (List Int)} {H : Int → List Int} (hg : GoodCl sw cl) (hH : HOk cl cl.length 0 H) {I G B S : List Int} (hI : IOk sw I) (hgb : GB cl I G B) (hS : S.length < 1000000) (v : Int) (hv : GoodN sw v) (h0 : rd I (v.natAbs : Int) = 0) :
    ∃ G' B', impl_trail_stand.f H G B S I v = some (G', B', S ++ [v], I.set v.natAbs v) ∧ GB cl (I.set v.natAbs v) G' B' := by
  obtain ⟨v0, v1, v2⟩ := hv
  obtain ⟨g1, g2, g3⟩ := hgb
  have bG : ∀ q : Nat, q < cl.length → 0 ≤ rd G (q : Int) ∧ rd G (q : Int) ≤ 400 := fun q hq => by
    have := List.countP_le_length (p := sat I) (l := rd_L1 cl (q : Int))
    have := (hg.row q hq).1
    have := (g3 q hq).1
    omega
  have bB : ∀ q : Nat, q < cl.length → 0 ≤ rd B (q : Int) ∧ rd B (q : Int) ≤ 400 := fun q hq => by
    have := List.countP_le_length (p := neg I) (l := rd_L1 cl (q : Int))
    have := (hg.row q hq).1
    have := (g3 q hq).2
    omega
  obtain ⟨G', a1, a2, a3⟩ := inc_row 1 (.inl rfl) hg hH G g1 bG v
  obtain ⟨B', b1, b2, b3⟩ := inc_row 1 (.inl rfl) hg hH B g2 bB (-v)
  refine ⟨G', B', ?_, a2, b2, fun q hq => ?_⟩
  · unfold impl_trail_stand.f
    have hIl := hI.1
    rw [abs_eq v (by omega) (by omega), wrap64_id (x := -v) (by omega) (by omega), if_pos (by omega), if_pos (by omega), if_pos (by omega), if_pos ⟨lit_wf v (by omega) (by omega), lit_wf (-v) (by omega) (by omega)⟩, a1, Option.bind_some, b1, Option.bind_some, Int.toNat_natCast]
  · obtain ⟨c1, c2⟩ := sat_set hI v ⟨v0, v1, v2⟩ h0 _ (hg.row q hq).2
    have := g3 q hq
    rw [a3 q hq, b3 q hq, c1, c2, this.1, this.2]
    constructor <;> omega
/-- The clause's numbers: each stands, stands the other way round, or does not stand. -/
theorem parts {sw : Int} {I : List Int} (hI : IOk sw I) : ∀ p : List Int, (∀ n ∈ p, GoodN sw n) → p.countP (sat I) + p.countP (neg I) + p.countP (fre I) = p.length := by
  intro p
  induction p with
  | nil => intro _; rfl
  | cons n p ih =>
    intro hp
    have h1 := ih (fun x hx => hp x (List.mem_cons_of_mem _ hx))
    obtain ⟨n0, n1, n2⟩ := hp n (List.mem_cons_self)
    have h2 := hI.2 n.natAbs (by have := hI.1; omega)
    rw [List.countP_cons, List.countP_cons, List.countP_cons, List.length_cons]
    simp only [sat, neg, fre, decide_eq_true_eq]
    split <;> split <;> split <;> omega
def stRes (I : List Int) : List Int → Int → Nat → Int × Int
  | [], left, kn => if kn = 0 then (2, 0) else if kn = 1 then (1, left) else (0, 0)
  | n :: r, left, kn => if sat I n = true then (0, 0) else if fre I n = true then stRes I r n (kn + 1) else stRes I r left kn
def lastF (I : List Int) : List Int → Int → Int
  | [], l => l
  | n :: r, l => if fre I n = true then lastF I r n else lastF I r l
theorem stRes_sat (I : List Int) : ∀ p left kn, 0 < p.countP (sat I) → stRes I p left kn = (0, 0) := by
  intro p
  induction p with
  | nil => intro _ _ h; cases h
  | cons n p ih =>
    intro left kn h
    rw [stRes]
    by_cases e : sat I n = true
    · rw [if_pos e]
    · rw [if_neg e]
      rw [List.countP_cons, if_neg e] at h
      split <;> exact ih _ _ h
theorem stRes_no (I : List Int) : ∀ p left kn, p.countP (sat I) = 0 → stRes I p left kn = if kn + p.countP (fre I) = 0 then (2, 0) else if kn + p.countP (fre I) = 1 then (1, lastF I p left) else (0, 0) := by
  intro p
  induction p with
  | nil => intro left kn _; rfl
  | cons n p ih =>
    intro left kn h
    have e : ¬ sat I n = true := fun e => by rw [List.countP_cons, if_pos e] at h; omega
    rw [List.countP_cons, if_neg e] at h
    rw [stRes, if_neg e, lastF, List.countP_cons]
    by_cases f : fre I n = true
    · rw [if_pos f, if_pos f, if_pos f, ih _ _ h, show kn + 1 + p.countP (fre I) = kn + (p.countP (fre I) + 1) by omega]
    · rw [if_neg f, if_neg f, if_neg f, ih _ _ h]
      rfl
theorem lastF_mem (I : List Int) : ∀ p l, (lastF I p l = l ∧ p.countP (fre I) = 0) ∨ (lastF I p l ∈ p ∧ fre I (lastF I p l) = true) := by
  intro p
  induction p with
  | nil => intro l; exact .inl ⟨rfl, rfl⟩
  | cons n p ih =>
    intro l
    rw [lastF, List.countP_cons]
    by_cases f : fre I n = true
    · rw [if_pos f]
      right
      rcases ih n with ⟨a, _⟩ | ⟨a, b⟩
      · rw [a]; exact ⟨List.mem_cons_self, f⟩
      · exact ⟨List.mem_cons_of_mem _ a, b⟩
    · rw [if_neg f, if_neg f]
      rcases ih l with ⟨a, b⟩ | ⟨a, b⟩
      · exact .inl ⟨a, b⟩
      · exact .inr ⟨List.mem_cons_of_mem _ a, b⟩
theorem fre_uniq (I : List Int) (p : List Int) (h : p.countP (fre I) = 1) (a b : Int) (ha : a ∈ p) (hb : b ∈ p) (fa : fre I a = true) (fb : fre I b = true) : a = b := by
  rw [List.countP_eq_length_filter, List.length_eq_one_iff] at h
  obtain ⟨c, hc⟩ := h
  have h1 : a ∈ p.filter (fre I) := List.mem_filter.2 ⟨ha, fa⟩
  have h2 : b ∈ p.filter (fre I) := List.mem_filter.2 ⟨hb, fb⟩
  rw [hc, List.mem_singleton] at h1 h2
  rw [h1, h2]
theorem left_ok {sw : Int} (hs : 0 ≤ sw ∧ sw ≤ 400) {I : List Int} (hI : IOk sw I) (p : List Int) (hp : ∀ n ∈ p, GoodN sw n) (h : 0 < p.countP (fre I)) : ∃ v ∈ p, fre I v = true ∧ impl_trail_left.f I p = some v := by
  have hIl := hI.1
  have main : ∀ (r : List Int) (i : Nat), (∀ n ∈ r, GoodN sw n) → 0 < r.countP (fre I) → ∃ k : Nat, ∃ hk : k < r.length, idxG (impl_trail_left.q I) r (i : Int) = some ((i + k : Nat) : Int) ∧ fre I r[k] = true := by
    intro r
    induction r with
    | nil => intro i _ h; cases h
    | cons n r ih =>
      intro i hr h
      obtain ⟨n0, n1, n2⟩ := hr n (List.mem_cons_self)
      have hq : impl_trail_left.q I n = some (fre I n) := by
        unfold impl_trail_left.q
        rw [abs_eq n (by omega) (by omega), if_pos (by omega)]
        rfl
      by_cases f : fre I n = true
      · refine ⟨0, by simp, ?_, f⟩
        simp only [idxG, hq, Option.bind_some, f, ↓reduceIte]
        rfl
      · rw [List.countP_cons, if_neg f] at h
        obtain ⟨k, hk, e1, e2⟩ := ih (i + 1) (fun x hx => hr x (List.mem_cons_of_mem _ hx)) h
        refine ⟨k + 1, by simp; omega, ?_, by simpa using e2⟩
        simp only [idxG, hq, Option.bind_some, f, ↓reduceIte, Bool.false_eq_true]
        rw [show i + (k + 1) = i + 1 + k by omega, ← e1]
        rfl
  obtain ⟨k, hk, e1, e2⟩ := main p 0 hp h
  refine ⟨p[k], List.getElem_mem hk, e2, ?_⟩
  unfold impl_trail_left.f
  have e1 : idxG (impl_trail_left.q I) p 0 = some ((0 + k : Nat) : Int) := e1
  rw [e1, Option.bind_some, if_pos (by omega), Nat.zero_add, rd_get _ _ hk]
theorem state_ev {sw : Int} (hs : 0 ≤ sw ∧ sw ≤ 400) {I : List Int} (hI : IOk sw I) (p : List Int) (hl : p.length ≤ 400) (hp : ∀ n ∈ p, GoodN sw n) :
    ∀ d i, p.length - i = d → i ≤ p.length → ∀ (left : Int) (kn : Nat), kn ≤ i → Ev (fun k => spec_l18State.l0 k p I left (kn : Int) (i : Int)) (stRes I (p.drop i) left kn) := by
  have hIl := hI.1
  intro d
  induction d with
  | zero =>
    intro i hd hi left kn hc
    rw [List.drop_eq_nil_of_le (by omega), stRes]
    refine Ev.step (f := fun _ => some _) (fun k => ?_) (Ev.now _)
    rw [spec_l18State.l0, if_neg (by omega)]
    by_cases c0 : kn = 0
    · rw [if_pos c0, if_pos (by omega)]
    · rw [if_neg c0, if_neg (by omega)]
      by_cases c1 : kn = 1
      · rw [if_pos c1, if_pos (by omega)]
      · rw [if_neg c1, if_neg (by omega)]
  | succ d ih =>
    intro i hd hi left kn hc
    have hil : i < p.length := by omega
    have hmem : p[i] ∈ p := List.getElem_mem hil
    obtain ⟨n0, n1, n2⟩ := hp _ hmem
    rw [List.drop_eq_getElem_cons hil, stRes]
    obtain ⟨x, hx⟩ : ∃ x, x = p[i] := ⟨_, rfl⟩
    have hrd := rd_get p i hil
    rw [← hx] at n0 n1 n2 hrd ⊢
    have ha := abs_eq x (by omega) (by omega)
    have step : ∀ r, Ev (fun k => if rd I (x.natAbs : Int) = x then some (0, 0) else if rd I (x.natAbs : Int) = 0 then spec_l18State.l0 k p I x (((kn + 1 : Nat)) : Int) ((i + 1 : Nat) : Int) else spec_l18State.l0 k p I left (kn : Int) ((i + 1 : Nat) : Int)) r → Ev (fun k => spec_l18State.l0 k p I left (kn : Int) (i : Int)) r := fun r hr => Ev.step (fun k => by
      rw [spec_l18State.l0, if_pos (by omega), if_pos (by omega), hrd, spec_l18Abs.f, Option.bind_some, ha, if_pos (by omega), if_pos (by omega), wrap_next i (by omega), wrap_next kn (by omega)]) hr
    apply step
    by_cases c1 : rd I (x.natAbs : Int) = x
    · rw [if_pos (show sat I x = true from decide_eq_true c1)]
      exact Ev.congr (fun k => if_pos c1) (Ev.now _)
    · rw [if_neg (show ¬ sat I x = true from fun h => c1 (of_decide_eq_true h))]
      by_cases c2 : rd I (x.natAbs : Int) = 0
      · rw [if_pos (show fre I x = true from decide_eq_true c2)]
        exact Ev.congr (fun k => by rw [if_neg c1, if_pos c2]) (ih (i + 1) (by omega) (by omega) x (kn + 1) (by omega))
      · rw [if_neg (show ¬ fre I x = true from fun h => c2 (of_decide_eq_true h))]
        exact Ev.congr (fun k => by rw [if_neg c1, if_neg c2]) (ih (i + 1) (by omega) (by omega) left kn (by omega))
def l1K (cl : List (List Int)) (sw : Int) (I S : List Int) (i : Int) (k : Nat) (bt : Int × Int) : Option (List Int × Bool) := if bt.1 = 2 then (some (S, false)) else (if bt.1 = 1 then ((spec_l18Abs.f bt.2).bind fun t137 => (if 0 ≤ t137 then (if t137 < (I.length : Int) then (if S.length < 17592186044416 then (spec_l18Unit.l1 k (I.set (t137 : Int).toNat bt.2) (S ++ [bt.2]) 0 sw cl) else (none)) else (none)) else (none))) else (spec_l18Unit.l1 k I S (wrap64 (i + 1)) sw cl))
theorem l1_step (cl : List (List Int)) (sw : Int) (I S : List Int) (i : Nat) (hi : i < cl.length) (st : Int × Int) (hst : Ev (fun k => spec_l18State.f k (rd_L1 cl (i : Int)) I) st) (r : List Int × Bool) (h : Ev (fun k => l1K cl sw I S (i : Int) k st) r) : Ev (fun k => spec_l18Unit.l1 k I S (i : Int) sw cl) r :=
  Ev.step (f := fun k => (spec_l18State.f k (rd_L1 cl (i : Int)) I).bind (l1K cl sw I S (i : Int) k)) (fun k => by
    rw [spec_l18Unit.l1, if_pos (by omega), if_pos (by omega)]
    rfl) (Ev.bind hst h)
/-- What the scan from i finds, told for both. -/
def ScanR (sw : Int) (cl : List (List Int)) (I S : List Int) (i : Nat) (o : Option (Option (Nat × Bool))) : Prop :=
  (o = some none ∧ Ev (fun k => spec_l18Unit.l1 k I S (i : Int) sw cl) (S, true) ∧ ∀ q, i ≤ q → q < cl.length → 0 < (rd_L1 cl (q : Int)).countP (sat I) ∨ 1 < (rd_L1 cl (q : Int)).countP (fre I)) ∨
  (∃ j, o = some (some (j, false)) ∧ Ev (fun k => spec_l18Unit.l1 k I S (i : Int) sw cl) (S, false) ∧ j < cl.length ∧ (rd_L1 cl (j : Int)).countP (sat I) = 0 ∧ (rd_L1 cl (j : Int)).countP (fre I) = 0) ∨
  (∃ j v, o = some (some (j, true)) ∧ j < cl.length ∧ impl_trail_left.f I (rd_L1 cl (j : Int)) = some v ∧ v ∈ rd_L1 cl (j : Int) ∧ GoodN sw v ∧ rd I (v.natAbs : Int) = 0 ∧ (rd_L1 cl (j : Int)).countP (sat I) = 0 ∧ (rd_L1 cl (j : Int)).countP (fre I) = 1 ∧ ∀ r, Ev (fun k => spec_l18Unit.l1 k (I.set v.natAbs v) (S ++ [v]) 0 sw cl) r → Ev (fun k => spec_l18Unit.l1 k I S (i : Int) sw cl) r)
theorem scan_ok {sw : Int} (hs : 0 ≤ sw ∧ sw ≤ 400) {cl : List (List Int)} (hg : GoodCl sw cl) {I G B : List Int} (hI : IOk sw I) (hgb : GB cl I G B) (S : List Int) (hS : S.length < 1000000) :
    ∀ d i, cl.length - i = d → i ≤ cl.length → ScanR sw cl I S i (impl_trail_unit.scan G B (cl.drop i) i) := by
  have hcl := hg.1
  have hIl := hI.1
  obtain ⟨gl, bl, g3⟩ := hgb
  intro d
  induction d with
  | zero =>
    intro i hd hi
    left
    rw [List.drop_eq_nil_of_le (by omega)]
    exact ⟨rfl, Ev.step (f := fun _ => some (S, true)) (fun k => by rw [spec_l18Unit.l1, if_neg (by omega)]) (Ev.now _), fun q h1 h2 => by omega⟩
  | succ d ih =>
    intro i hd hi
    have hil : i < cl.length := by omega
    obtain ⟨hlen, hn⟩ := hg.row i hil
    obtain ⟨gi, bi⟩ := g3 i hil
    have hpt := parts hI _ hn
    have hst := state_ev hs hI _ hlen hn _ 0 rfl (by omega) 0 0 (by omega)
    have hleft := left_ok hs hI _ hn
    have huniq := fre_uniq I (rd_L1 cl (i : Int))
    rw [List.drop_zero] at hst
    have hst : Ev (fun k => spec_l18State.f k (rd_L1 cl (i : Int)) I) (stRes I (rd_L1 cl (i : Int)) 0 0) := Ev.congr (fun k => rfl) hst
    rw [List.drop_eq_getElem_cons hil, ← rdE_L1 cl i hil, impl_trail_unit.scan, if_pos ⟨by omega, by omega⟩, gi, bi, wrap64_id (by omega) (by omega)]
    have go : stRes I (rd_L1 cl (i : Int)) 0 0 = (0, 0) → ∀ r, Ev (fun k => spec_l18Unit.l1 k I S ((i + 1 : Nat) : Int) sw cl) r → Ev (fun k => spec_l18Unit.l1 k I S (i : Int) sw cl) r := fun e r hr => by
      rw [e] at hst
      refine l1_step cl sw I S i hil _ hst r (Ev.congr (fun k => ?_) hr)
      simp only [l1K]
      rw [if_neg (by omega), if_neg (by omega), wrap_next i (by omega)]
    have rest : stRes I (rd_L1 cl (i : Int)) 0 0 = (0, 0) → (0 < (rd_L1 cl (i : Int)).countP (sat I) ∨ 1 < (rd_L1 cl (i : Int)).countP (fre I)) → ScanR sw cl I S i (impl_trail_unit.scan G B (cl.drop (i + 1)) (i + 1)) := fun e ho => (ih (i + 1) (by omega) (by omega)).imp (fun ⟨a1, a2, a3⟩ => ⟨a1, go e _ a2, fun q h1 h2 => by
      by_cases eq : q = i
      · subst eq; exact ho
      · exact a3 q (by omega) h2⟩) (Or.imp (fun ⟨j, a1, a2, a3⟩ => ⟨j, a1, go e _ a2, a3⟩) (fun ⟨j, v, a1, a2, a3, a4, a5, a6, a7, a8, a9⟩ => ⟨j, v, a1, a2, a3, a4, a5, a6, a7, a8, fun r hr => go e _ (a9 r hr)⟩))
    by_cases c1 : 0 < (rd_L1 cl (i : Int)).countP (sat I)
    · rw [if_pos (by omega)]
      exact rest (stRes_sat I _ _ _ c1) (.inl c1)
    · rw [if_neg (by omega)]
      have c1 : (rd_L1 cl (i : Int)).countP (sat I) = 0 := by omega
      have hno := stRes_no I (rd_L1 cl (i : Int)) 0 0 c1
      rw [Nat.zero_add] at hno
      by_cases c2 : 1 < (rd_L1 cl (i : Int)).countP (fre I)
      · rw [if_pos (by omega)]
        rw [if_neg (by omega), if_neg (by omega)] at hno
        exact rest hno (.inr c2)
      · rw [if_neg (by omega)]
        right
        by_cases c3 : (rd_L1 cl (i : Int)).countP (fre I) = 0
        · rw [if_pos (by omega)]
          rw [if_pos c3] at hno
          rw [hno] at hst
          exact .inl ⟨i, rfl, l1_step cl sw I S i hil _ hst _ (Ev.congr (fun k => by simp only [l1K]; rw [if_pos trivial]) (Ev.now _)), hil, c1, c3⟩
        · rw [if_neg (by omega)]
          have c4 : (rd_L1 cl (i : Int)).countP (fre I) = 1 := by omega
          rw [if_neg c3, if_pos c4] at hno
          obtain ⟨v, v1, v2, v3⟩ := hleft (by omega)
          have hlf : lastF I (rd_L1 cl (i : Int)) 0 = v := by
            rcases lastF_mem I (rd_L1 cl (i : Int)) 0 with ⟨_, b⟩ | ⟨a, b⟩
            · omega
            · exact huniq c4 _ _ a v1 b v2
          rw [hno, hlf] at hst
          obtain ⟨n0, n1, n2⟩ := hn v v1
          refine .inr ⟨i, v, rfl, hil, v3, v1, ⟨n0, n1, n2⟩, of_decide_eq_true v2, c1, c4, fun r hr => l1_step cl sw I S i hil _ hst r (Ev.congr (fun k => ?_) hr)⟩
          simp only [l1K]
          rw [if_neg (by omega), if_pos trivial, spec_l18Abs.f, Option.bind_some, abs_eq v (by omega) (by omega), if_pos (by omega), if_pos (by omega), if_pos (by omega), Int.toNat_natCast]
/-- The seats that do not stand. -/
def zer (I : List Int) : Nat := I.countP (fun x => decide (x = 0))
theorem zer_set {sw : Int} {I : List Int} (hI : IOk sw I) (v : Int) (hv : GoodN sw v) (h0 : rd I (v.natAbs : Int) = 0) : zer (I.set v.natAbs v) + 1 = zer I := by
  obtain ⟨v0, v1, v2⟩ := hv
  have hl : v.natAbs < I.length := by have := hI.1; omega
  rw [rd_get I _ hl] at h0
  unfold zer
  rw [List.countP_set hl, h0]
  have : 0 < I.countP (fun x => decide (x = 0)) := List.countP_pos_iff.2 ⟨I[v.natAbs], List.getElem_mem hl, by rw [h0]; rfl⟩
  simp [v0]
  omega
theorem unit_ok {sw : Int} (hs : 0 ≤ sw ∧ sw ≤ 400) {cl : List (List Int)} (hg : GoodCl sw cl) {H : Int → List Int} (hH : HOk cl cl.length 0 H) :
    ∀ (z : Nat) (I G B S : List Int), zer I = z → IOk sw I → GB cl I G B → S.length + z ≤ 1000 →
      ∃ b G1 B1 S1 I1, Ev (fun k => impl_trail_unit.f H cl k G B S I) (b, G1, B1, S1, I1) ∧ Ev (fun k => spec_l18Unit.l1 k I S 0 sw cl) (S1, b) ∧ S1.length ≤ 1000 := by
  intro z
  induction z with
  | zero =>
    intro I G B S hz hI hgb hS
    rcases scan_ok hs hg hI hgb S (by omega) _ 0 rfl (by omega) with ⟨a1, a2, _⟩ | ⟨j, a1, a2, _⟩ | ⟨j, v, a1, a2, a3, a3m, a4, a5, _⟩
    · exact ⟨true, G, B, S, I, Ev.step (f := fun _ => some _) (fun k => by rw [List.drop_zero] at a1; rw [impl_trail_unit.f, a1]; rfl) (Ev.now _), a2, by omega⟩
    · exact ⟨false, G, B, S, I, Ev.step (f := fun _ => some _) (fun k => by rw [List.drop_zero] at a1; rw [impl_trail_unit.f, a1]; rfl) (Ev.now _), a2, by omega⟩
    · have := zer_set hI v a4 a5
      omega
  | succ z ih =>
    intro I G B S hz hI hgb hS
    rcases scan_ok hs hg hI hgb S (by omega) _ 0 rfl (by omega) with ⟨a1, a2, _⟩ | ⟨j, a1, a2, _⟩ | ⟨j, v, a1, a2, a3, a3m, a4, a5, _, _, a6⟩
    · exact ⟨true, G, B, S, I, Ev.step (f := fun _ => some _) (fun k => by rw [List.drop_zero] at a1; rw [impl_trail_unit.f, a1]; rfl) (Ev.now _), a2, by omega⟩
    · exact ⟨false, G, B, S, I, Ev.step (f := fun _ => some _) (fun k => by rw [List.drop_zero] at a1; rw [impl_trail_unit.f, a1]; rfl) (Ev.now _), a2, by omega⟩
    · have hz2 := zer_set hI v a4 a5
      obtain ⟨G', B', c1, c2⟩ := stand_ok hs hg hH hI hgb (S := S) (by omega) v a4 a5
      obtain ⟨b, G1, B1, S1, I1, d1, d2, d3⟩ := ih (I.set v.natAbs v) G' B' (S ++ [v]) (by omega) (hI.set v a4) c2 (by rw [List.length_append, List.length_singleton]; omega)
      refine ⟨b, G1, B1, S1, I1, Ev.step (fun k => ?_) d1, a6 _ d2, d3⟩
      rw [List.drop_zero] at a1
      rw [impl_trail_unit.f, a1, Option.bind_some]
      dsimp only
      rw [a3, Option.bind_some, c1, Option.bind_some]
/-- The seats behind some numbers that stand. -/
def Iset (I : List Int) (xs : List Int) : List Int := xs.foldl (fun I v => I.set v.natAbs v) I
theorem spec_stands {sw : Int} (hs : 0 ≤ sw ∧ sw ≤ 400) (cl : List (List Int)) (set out : List Int) (hl : set.length ≤ 1048576) (hset : ∀ y ∈ set, GoodN sw y) (r : List Int × Bool) :
    ∀ d i, set.length - i = d → i ≤ set.length → ∀ I : List Int, (I.length : Int) = sw + 1 → Ev (fun k => spec_l18Unit.l1 k (Iset I (set.drop i)) out 0 sw cl) r → Ev (fun k => spec_l18Unit.l0 k set I out (i : Int) sw cl) r := by
  intro d
  induction d with
  | zero =>
    intro i hd hi I hI hr
    rw [List.drop_eq_nil_of_le (by omega)] at hr
    exact Ev.step (fun k => by rw [spec_l18Unit.l0, if_neg (by omega)]; rfl) hr
  | succ d ih =>
    intro i hd hi I hI hr
    have hil : i < set.length := by omega
    obtain ⟨n0, n1, n2⟩ := hset _ (List.getElem_mem hil)
    rw [List.drop_eq_getElem_cons hil] at hr
    refine Ev.step (fun k => ?_) (ih (i + 1) (by omega) (by omega) (I.set (set[i]).natAbs set[i]) (by rw [List.length_set]; exact hI) hr)
    rw [spec_l18Unit.l0, if_pos (by omega), if_pos (by omega), rd_get _ _ hil, spec_l18Abs.f, Option.bind_some, abs_eq _ (by omega) (by omega), if_pos (by omega), if_pos (by omega), Int.toNat_natCast, wrap_next i (by omega)]
theorem rd_zeros (n a : Nat) : rd (List.replicate n 0) (a : Int) = 0 := by
  unfold rd
  rw [List.getD_eq_getElem?_getD, Int.toNat_natCast]
  by_cases h : a < n
  · rw [List.getElem?_replicate, if_pos h]; rfl
  · rw [List.getElem?_eq_none (by simp; omega)]; rfl
theorem GoodCl.of {sw : Int} {cl : List (List Int)} (h1 : cl.length ≤ 4000) (h2 : ∀ p ∈ cl, GoodClause sw p) : GoodCl sw cl := ⟨h1, fun p hp => ⟨(h2 p hp).1, fun n hn => by
  obtain ⟨i, hi, rfl⟩ := List.mem_iff_getElem.1 hn
  have := (h2 p hp).2 i hi
  rw [rd_get _ _ hi] at this
  exact this⟩⟩
theorem unit_zero {sw : Int} (hs : 0 ≤ sw ∧ sw ≤ 400) {cl : List (List Int)} (hg : GoodCl sw cl) : IOk sw (List.replicate (sw + 1).toNat 0) ∧ GB cl (List.replicate (sw + 1).toNat 0) (List.replicate cl.length 0) (List.replicate cl.length 0) ∧ ((zer (List.replicate (sw + 1).toNat 0) + ([] : List Int).length : Nat) : Int) = sw + 1 := by
  refine ⟨⟨by simp; omega, fun a _ => .inl (rd_zeros _ _)⟩, ⟨by simp, by simp, fun q hq => ?_⟩, ?_⟩
  · obtain ⟨_, hn⟩ := hg.row q hq
    rw [rd_zeros]
    have e1 : (rd_L1 cl (q : Int)).countP (sat (List.replicate (sw + 1).toNat 0)) = 0 := List.countP_eq_zero.2 (fun n hn2 => by
      have := (hn n hn2).1
      simp only [sat, rd_zeros, decide_eq_true_eq]
      omega)
    have e2 : (rd_L1 cl (q : Int)).countP (neg (List.replicate (sw + 1).toNat 0)) = 0 := List.countP_eq_zero.2 (fun n hn2 => by
      have := (hn n hn2).1
      simp only [neg, rd_zeros, decide_eq_true_eq]
      omega)
    rw [e1, e2]
    exact ⟨rfl, rfl⟩
  · unfold zer
    rw [List.countP_replicate]
    simp
    omega

/-! unitHas -/
theorem hasU_ev (l : List Int) (a : Int) (hl : l.length ≤ 1048576) : ∀ d i, l.length - i = d → i ≤ l.length → Ev (fun k => spec_l1Has.l0 k l a (i : Int)) (decide (a ∈ l.drop i)) := by
  intro d
  induction d with
  | zero =>
    intro i hd hi
    rw [List.drop_eq_nil_of_le (by omega)]
    refine Ev.step (f := fun _ => some false) (fun k => ?_) (Ev.now _)
    simp (disch := omega) only [spec_l1Has.l0, ↓if_neg]
  | succ d ih =>
    intro i hd hi
    have hil : i < l.length := by omega
    have hdrop : l.drop i = rd l (i : Int) :: l.drop (i + 1) := by
      rw [List.drop_eq_getElem_cons hil]
      congr 1
      unfold rd
      rw [List.getD_eq_getElem?_getD, Int.toNat_natCast, List.getElem?_eq_getElem hil]
      rfl
    rw [hdrop]
    by_cases c : rd l (i : Int) = a
    · have e : decide (a ∈ rd l (i : Int) :: l.drop (i + 1)) = true := decide_eq_true (by rw [c]; exact List.mem_cons_self ..)
      rw [e]
      refine Ev.step (f := fun _ => some true) (fun k => ?_) (Ev.now _)
      simp (disch := omega) only [spec_l1Has.l0, ↓if_pos, if_pos c]
    · have e : decide (a ∈ rd l (i : Int) :: l.drop (i + 1)) = decide (a ∈ l.drop (i + 1)) := by
        have : (a ∈ rd l (i : Int) :: l.drop (i + 1)) = (a ∈ l.drop (i + 1)) := by
          rw [List.mem_cons]
          exact propext ⟨fun h => h.elim (fun h => absurd h.symm c) id, .inr⟩
        simp only [this]
      rw [e]
      refine Ev.step (fun k => ?_) (ih (i + 1) (by omega) (by omega))
      simp (disch := omega) only [spec_l1Has.l0, ↓if_pos, if_neg c, wrap_next]
theorem hasU (l : List Int) (a : Int) (hl : l.length ≤ 1048576) : Ev (fun k => spec_l1Has.f k l a) (decide (a ∈ l)) := by
  have h := hasU_ev l a hl _ 0 rfl (by omega)
  rw [List.drop_zero] at h
  exact Ev.congr (fun k => rfl) h
theorem setOk_ev {sw : Int} (hs : 0 ≤ sw ∧ sw ≤ 400) (cl : List (List Int)) (set : List Int) (hl : set.length ≤ 1048576) :
    ∀ d i, set.length - i = d → i ≤ set.length → ∀ seen : Int → Bool, (∀ q : Nat, seen (q : Int) = true ↔ ∃ y ∈ set.take i, y.natAbs = q) → (∀ y ∈ set.take i, GoodN sw y) → (set.take i).Pairwise (fun a b => a.natAbs ≠ b.natAbs) →
      (Ev (fun k => impl_setOk.l0 k set sw seen (i : Int)) false ∧ Ev (fun k => spec_Unit.l0 k set (i : Int) sw cl) ([], false) ∧ ¬ ((∀ y ∈ set, GoodN sw y) ∧ set.Pairwise (fun a b => a.natAbs ≠ b.natAbs))) ∨
      (Ev (fun k => impl_setOk.l0 k set sw seen (i : Int)) true ∧ (∀ y ∈ set, GoodN sw y) ∧ set.Pairwise (fun a b => a.natAbs ≠ b.natAbs) ∧ ∀ r, Ev (fun k => spec_l18Unit.f k sw cl set) r → Ev (fun k => spec_Unit.l0 k set (i : Int) sw cl) r) := by
  have hw : wrap64 (-sw) = -sw := wrap64_id (by omega) (by omega)
  intro d
  induction d with
  | zero =>
    intro i hd hi seen h1 h2 h3
    obtain rfl : i = set.length := by omega
    rw [List.take_length] at h2 h3
    refine .inr ⟨Ev.step (f := fun _ => some true) (fun k => ?_) (Ev.now _), h2, h3, fun r hr => Ev.step (fun k => ?_) (Ev.bind hr (Ev.now r))⟩
    · rw [impl_setOk.l0, if_neg (by omega)]
    · rw [spec_Unit.l0, if_neg (by omega)]
  | succ d ih =>
    intro i hd hi seen h1 h2 h3
    have hil : i < set.length := by omega
    obtain ⟨x, hx⟩ : ∃ x, x = rd set (i : Int) := ⟨_, rfl⟩
    have hxe : x = set[i] := by rw [hx, rd_get _ _ hil]
    have hmem : x ∈ set := by rw [hxe]; exact List.getElem_mem hil
    by_cases c0 : x = 0
    · refine .inl ⟨Ev.step (f := fun _ => some false) (fun k => ?_) (Ev.now _), Ev.step (f := fun _ => some ([], false)) (fun k => ?_) (Ev.now _), fun hb => (hb.1 x hmem).1 c0⟩
      · rw [impl_setOk.l0, if_pos (by omega), if_pos (by omega), ← hx, if_pos c0]
      · rw [spec_Unit.l0, if_pos (by omega), if_pos (by omega), ← hx, if_pos c0]
    · by_cases ci : -sw ≤ x ∧ x ≤ sw
      · have di := decide_eq_true ci
        have ha : impl_setOk.m x = (x.natAbs : Int) := abs_eq x (by omega) (by omega)
        have hwf := lit_wf (x.natAbs : Int) (by omega) (by omega)
        have hwx : wrap64 (-x) = -x := wrap64_id (by omega) (by omega)
        have e1 := hasU (set.take i) x (by rw [List.length_take]; omega)
        have e2 := hasU (set.take i) (-x) (by rw [List.length_take]; omega)
        have hti : ((i : Int)).toNat = i := Int.toNat_natCast i
        have s1 : ∀ r, Ev (fun k => if decide (x ∈ set.take i) = true then some ([], false) else (spec_l1Has.f k (set.take i) (-x)).bind fun t => if t = true then some ([], false) else spec_Unit.l0 k set ((i + 1 : Nat) : Int) sw cl) r → Ev (fun k => spec_Unit.l0 k set (i : Int) sw cl) r := fun r hr =>
          Ev.step (f := fun k => (spec_l1Has.f k (set.take i) x).bind fun t => if t = true then some ([], false) else (spec_l1Has.f k (set.take i) (-x)).bind fun t => if t = true then some ([], false) else spec_Unit.l0 k set ((i + 1 : Nat) : Int) sw cl) (fun k => by
            rw [spec_Unit.l0, if_pos (by omega), if_pos (by omega), ← hx, if_neg c0, hw, l1In_eq, di, Option.bind_some, if_pos rfl, if_pos (by omega), hwx, hti, wrap_next i (by omega)]) (Ev.bind (f := fun k t => if t = true then some ([], false) else (spec_l1Has.f k (set.take i) (-x)).bind fun t => if t = true then some ([], false) else spec_Unit.l0 k set ((i + 1 : Nat) : Int) sw cl) e1 hr)
        have s2 : ∀ r, ¬ x ∈ set.take i → Ev (fun k => if decide (-x ∈ set.take i) = true then some ([], false) else spec_Unit.l0 k set ((i + 1 : Nat) : Int) sw cl) r → Ev (fun k => spec_Unit.l0 k set (i : Int) sw cl) r := fun r hn hr =>
          s1 r (Ev.congr (fun k => by rw [if_neg (by simpa using hn)]) (Ev.bind (f := fun k t => if t = true then some ([], false) else spec_Unit.l0 k set ((i + 1 : Nat) : Int) sw cl) e2 hr))
        have t1 : ∀ (b : Bool) z, seen (x.natAbs : Int) = b → Ev (fun k => if b = true then some false else impl_setOk.l0 k set sw (fun q => if q = (x.natAbs : Int) then true else seen q) ((i + 1 : Nat) : Int)) z → Ev (fun k => impl_setOk.l0 k set sw seen (i : Int)) z := fun b z hb hz => Ev.step (fun k => by
          rw [impl_setOk.l0, if_pos (by omega), if_pos (by omega), ← hx, if_neg c0, hw, inside_eq, di, Option.bind_some, if_pos rfl, ha, if_pos hwf, hb, wrap_next i (by omega)]) hz
        by_cases cs : seen (x.natAbs : Int) = true
        · obtain ⟨y, hy, hye⟩ := (h1 x.natAbs).1 cs
          refine .inl ⟨t1 true false cs (Ev.congr (fun k => if_pos rfl) (Ev.now _)), ?_, fun hb => ?_⟩
          rotate_left
          · have hp := hb.2
            rw [← List.take_append_drop i set, List.pairwise_append] at hp
            exact hp.2.2 y hy x (by rw [List.drop_eq_getElem_cons hil, hxe]; exact List.mem_cons_self) hye
          by_cases cx : x ∈ set.take i
          · exact s1 _ (Ev.congr (fun k => by rw [if_pos (by simpa using cx)]) (Ev.now _))
          · have : y = -x := by
              have : y ≠ x := fun e => cx (e ▸ hy)
              omega
            exact s2 _ cx (Ev.congr (fun k => by rw [if_pos (by rw [← this]; simpa using hy)]) (Ev.now _))
        · have hnot : ∀ y ∈ set.take i, y.natAbs ≠ x.natAbs := fun y hy e => cs ((h1 x.natAbs).2 ⟨y, hy, e⟩)
          have cx : ¬ x ∈ set.take i := fun h => hnot x h rfl
          have cy : ¬ -x ∈ set.take i := fun h => hnot (-x) h (by omega)
          have htake : set.take (i + 1) = set.take i ++ [x] := by rw [List.take_succ_eq_append_getElem hil, hxe]
          rcases ih (i + 1) (by omega) (by omega) (fun q => if q = (x.natAbs : Int) then true else seen q) (fun q => by
              rw [htake]
              by_cases e : q = x.natAbs
              · subst e
                rw [if_pos rfl]
                exact ⟨fun _ => ⟨x, by simp, rfl⟩, fun _ => rfl⟩
              · rw [if_neg (by omega), h1 q]
                refine ⟨fun ⟨y, hy, hye⟩ => ⟨y, List.mem_append.2 (.inl hy), hye⟩, fun ⟨y, hy, hye⟩ => ?_⟩
                rcases List.mem_append.1 hy with hy | hy
                · exact ⟨y, hy, hye⟩
                · rw [List.mem_singleton] at hy
                  subst hy
                  exact absurd hye.symm e)
            (by
              rw [htake]
              intro y hy
              rcases List.mem_append.1 hy with hy | hy
              · exact h2 y hy
              · rw [List.mem_singleton] at hy
                subst hy
                exact ⟨c0, ci.1, ci.2⟩)
            (by
              rw [htake]
              refine List.pairwise_append.2 ⟨h3, List.pairwise_singleton _ _, fun a ga b gb => ?_⟩
              rw [List.mem_singleton] at gb
              rw [gb]
              exact hnot a ga) with ⟨a1, a2, a5⟩ | ⟨a1, a2, a3, a4⟩
          · exact .inl ⟨t1 false _ (by simpa using cs) (Ev.congr (fun k => if_neg (by decide)) a1), s2 _ cx (Ev.congr (fun k => by rw [if_neg (by simpa using cy)]) a2), a5⟩
          · exact .inr ⟨t1 false _ (by simpa using cs) (Ev.congr (fun k => if_neg (by decide)) a1), a2, a3, fun r hr => s2 _ cx (Ev.congr (fun k => by rw [if_neg (by simpa using cy)]) (a4 r hr))⟩
      · have di := decide_eq_false ci
        refine .inl ⟨Ev.step (f := fun _ => some false) (fun k => ?_) (Ev.now _), Ev.step (f := fun _ => some ([], false)) (fun k => ?_) (Ev.now _), fun hb => ci (hb.1 x hmem).2⟩
        · rw [impl_setOk.l0, if_pos (by omega), if_pos (by omega), ← hx, if_neg c0, hw, inside_eq, di, Option.bind_some, if_neg (by decide)]
        · rw [spec_Unit.l0, if_pos (by omega), if_pos (by omega), ← hx, if_neg c0, hw, l1In_eq, di, Option.bind_some, if_neg (by decide)]
theorem stands_ok {sw : Int} (hs : 0 ≤ sw ∧ sw ≤ 400) {cl : List (List Int)} (hg : GoodCl sw cl) {H : Int → List Int} (hH : HOk cl cl.length 0 H) :
    ∀ (xs I G B S : List Int), IOk sw I → GB cl I G B → ((zer I + S.length : Nat) : Int) = sw + 1 → (∀ a : Nat, rd I (a : Int) ≠ 0 → ∃ y ∈ S, y.natAbs = a) → (∀ y ∈ S ++ xs, GoodN sw y) → (S ++ xs).Pairwise (fun a b => a.natAbs ≠ b.natAbs) →
      ∃ G' B', impl_Unit.stands H xs (G, B, S, I) = some (G', B', S ++ xs, Iset I xs) ∧ IOk sw (Iset I xs) ∧ GB cl (Iset I xs) G' B' ∧ ((zer (Iset I xs) + (S ++ xs).length : Nat) : Int) = sw + 1 ∧ (∀ a : Nat, rd (Iset I xs) (a : Int) ≠ 0 → ∃ y ∈ S ++ xs, y.natAbs = a) := by
  intro xs
  induction xs with
  | nil => intro I G B S h1 h2 h3 h4 h5 h6; rw [List.append_nil]; exact ⟨G, B, rfl, h1, h2, h3, h4⟩
  | cons v xs ih =>
    intro I G B S h1 h2 h3 h4 h5 h6
    have hv := h5 v (by simp)
    have h0 : rd I (v.natAbs : Int) = 0 := by
      by_cases c : rd I (v.natAbs : Int) = 0
      · exact c
      · obtain ⟨y, hy, hye⟩ := h4 _ c
        exact absurd hye ((List.pairwise_append.1 h6).2.2 y hy v (by simp))
    have hz := zer_set h1 v hv h0
    have hl : v.natAbs < I.length := by have := h1.1; obtain ⟨_, _, _⟩ := hv; omega
    obtain ⟨G', B', c1, c2⟩ := stand_ok hs hg hH h1 h2 (S := S) (by omega) v hv h0
    have e : S ++ v :: xs = (S ++ [v]) ++ xs := by simp
    rw [e] at h5 h6 ⊢
    obtain ⟨G2, B2, d1, d2⟩ := ih (I.set v.natAbs v) G' B' (S ++ [v]) (h1.set v hv) c2 (by rw [List.length_append, List.length_singleton]; omega) (fun a ha => by
      rw [rd_set _ _ _ _ hl] at ha
      by_cases ea : v.natAbs = a
      · exact ⟨v, by simp, ea⟩
      · rw [if_neg ea] at ha
        obtain ⟨y, hy, hye⟩ := h4 a ha
        exact ⟨y, List.mem_append.2 (.inl hy), hye⟩) h5 h6
    refine ⟨G2, B2, ?_, d2⟩
    rw [impl_Unit.stands]
    dsimp only
    rw [c1, Option.bind_some]
    exact d1

/-! draws -/
/-- A code that draws are made of. -/
structure Code (b : List Int) : Prop where
  len : b.length ≤ 1048576
  byte : ∀ i : Nat, i < b.length → 0 ≤ rd b (i : Int) ∧ rd b (i : Int) ≤ 255
def At (b : List Int) (p : Int) : Prop := 0 ≤ p ∧ p ≤ (b.length : Int)
theorem next_ev (b : List Int) (hb : Code b) (p : Int) (hp : At b p) : ∃ v q, spec_l1Rd_next.f b p = some (v, q) ∧ 0 ≤ v ∧ v ≤ 255 ∧ At b q := by
  have hl := hb.len
  obtain ⟨h0, h1⟩ := hp
  obtain ⟨i, rfl⟩ := Int.eq_ofNat_of_zero_le h0
  unfold spec_l1Rd_next.f
  by_cases c : (i : Int) ≥ (b.length : Int)
  · rw [if_pos c]
    exact ⟨0, i, rfl, by omega, by omega, h0, h1⟩
  · rw [if_neg c]
    have e1 : wrap64 ((i : Int) + 1) = (i : Int) + 1 := wrap64_id (by omega) (by omega)
    have e2 : wrap64 ((i : Int) + 1 - 1) = (i : Int) := by rw [wrap64_id (by omega) (by omega)]; omega
    have hby := hb.byte i (by omega)
    have e3 : wrap64 (rd b (i : Int)) = rd b (i : Int) := wrap64_id (by omega) (by omega)
    rw [e1, e2, if_pos (by omega), if_pos (by omega), e3]
    exact ⟨_, _, rfl, hby.1, hby.2, by omega, by omega⟩
theorem below_ev (b : List Int) (hb : Code b) (p : Int) (hp : At b p) (n : Int) (hn : n ≤ 65536) : ∃ v q, spec_l1Rd_below.f b p n = some (v, q) ∧ 0 ≤ v ∧ (v < n ∨ (n ≤ 1 ∧ v = 0)) ∧ At b q := by
  unfold spec_l1Rd_below.f
  by_cases c : n ≤ 1
  · rw [if_pos c]
    exact ⟨0, p, rfl, by omega, .inr ⟨c, rfl⟩, hp⟩
  · rw [if_neg c]
    obtain ⟨m, rfl⟩ := Int.eq_ofNat_of_zero_le (show 0 ≤ n by omega)
    by_cases c2 : ((m : Nat) : Int) ≤ 256
    · rw [if_pos c2]
      obtain ⟨v, q, e, v0, v1, hq⟩ := next_ev b hb p hp
      obtain ⟨u, rfl⟩ := Int.eq_ofNat_of_zero_le v0
      rw [e]
      simp only [Option.bind_some]
      rw [if_neg (by omega)]
      refine ⟨_, _, rfl, ?_, .inl ?_, hq⟩
      · rw [← Int.ofNat_tmod]; exact Int.natCast_nonneg _
      · rw [← Int.ofNat_tmod]; exact Int.ofNat_lt.2 (Nat.mod_lt _ (by omega))
    · rw [if_neg c2]
      obtain ⟨v, q, e, v0, v1, hq⟩ := next_ev b hb p hp
      obtain ⟨v', q', e', v0', v1', hq'⟩ := next_ev b hb q hq
      obtain ⟨u, rfl⟩ := Int.eq_ofNat_of_zero_le v0
      obtain ⟨u', rfl⟩ := Int.eq_ofNat_of_zero_le v0'
      have w1 : wrap64 ((u : Int) * 256) = ((u * 256 : Nat) : Int) := by rw [wrap64_id (by omega) (by omega)]; omega
      have w2 : wrap64 (((u * 256 : Nat) : Int) + (u' : Int)) = ((u * 256 + u' : Nat) : Int) := by rw [wrap64_id (by omega) (by omega)]; omega
      rw [e]
      simp only [Option.bind_some]
      rw [e']
      simp only [Option.bind_some]
      rw [if_neg (by omega), w1, w2]
      refine ⟨_, _, rfl, ?_, .inl ?_, hq'⟩
      · rw [← Int.ofNat_tmod]; exact Int.natCast_nonneg _
      · rw [← Int.ofNat_tmod]; exact Int.ofNat_lt.2 (Nat.mod_lt _ (by omega))
theorem once_ev (b : List Int) (hb : Code b) (p : Int) (hp : At b p) (n : Int) (hn : n ≤ 65536) : ∃ v q, spec_l1Rd_once.f b p n = some (v, q) ∧ At b q := by
  obtain ⟨v, q, e, _, _, hq⟩ := below_ev b hb p hp n hn
  unfold spec_l1Rd_once.f
  rw [e]
  exact ⟨_, _, rfl, hq⟩

/-! codeOf -/
theorem wf_u8 {x : Int} (h : (Lit.int .u8 x).wf = true) : 0 ≤ x ∧ x ≤ 255 := by
  simp [Lit.wf, IntKind.min, IntKind.max, IntKind.signed, IntKind.bits] at h
  omega
theorem code_of (l : List Int) (q : ∀ x ∈ l, (Lit.int .u8 x).wf = true) (hl : l.length ≤ 1048576) : Code l := ⟨hl, fun i hi => by
  have e : rd l (i : Int) = l[i] := by
    unfold rd
    rw [List.getD_eq_getElem?_getD, Int.toNat_natCast, List.getElem?_eq_getElem hi]
    rfl
  rw [e]
  exact wf_u8 (q _ (List.getElem_mem hi))⟩

/-! drawsOff -/
theorem wrapU_w64 (x : Int) : W64 (IntKind.u64.wrap x) := by
  unfold W64
  rw [wrap_u64]
  omega
theorem word_ev (b : List Int) (hb : Code b) (p : Int) (hp : At b p) : ∃ v q, Ev (fun k => spec_l1Rd_word.f k b p) (v, q) ∧ 0 ≤ v ∧ v < 18446744073709551616 ∧ At b q := by
  obtain ⟨s, ⟨h0, h1, h2⟩, hr⟩ := inv_loop 8 (fun i (s : Int × Int) => 0 ≤ s.1 ∧ s.1 < 18446744073709551616 ∧ At b s.2) (fun k s i => spec_l1Rd_word.l0 k s.1 i b s.2)
    (fun i hi s ⟨h0, h1, h2⟩ => by
      obtain ⟨v, q, e, v0, v1, hq⟩ := next_ev b hb s.2 h2
      have hw : W64 (Go.bits .or .u64 (IntKind.u64.wrap (s.1 * 256)) (IntKind.u64.wrap v)) := (or_w64 (wrapU_w64 _) (wrapU_w64 _)).1
      unfold W64 at hw
      refine ⟨(Go.bits .or .u64 (IntKind.u64.wrap (s.1 * 256)) (IntKind.u64.wrap v), q), ⟨by omega, by omega, hq⟩, fun r h => Ev.step (fun k => ?_) h⟩
      simp only [spec_l1Rd_word.l0]
      rw [if_pos (by omega), e]
      simp only [Option.bind_some]
      rw [wrap64_id (by omega) (by omega)])
    (0, p) ⟨Int.le_refl _, show (0 : Int) < 18446744073709551616 by omega, hp⟩
  refine ⟨s.1, s.2, Ev.congr (fun k => rfl) (hr (s.1, s.2) (Ev.step (f := fun _ => some (s.1, s.2)) (fun k => ?_) (Ev.now _))), h0, h1, h2⟩
  simp only [spec_l1Rd_word.l0]
  rw [if_neg (by omega)]
def I64 (v : Int) : Prop := -9223372036854775808 ≤ v ∧ v ≤ 9223372036854775807
theorem I64.wrap (v : Int) : I64 (wrap64 v) := by
  unfold I64 wrap64
  omega
theorem near_ev (b : List Int) (hb : Code b) (p : Int) (hp : At b p) (lo hi : Int) (hlo : -4611686018427387904 ≤ lo ∧ lo ≤ 4611686018427387904) (hhi : I64 hi) :
    ∃ v q, Ev (fun k => spec_l1Rd_near.f k b p lo hi) (v, q) ∧ I64 v ∧ At b q := by
  obtain ⟨v, q, e, v0, v1, hq⟩ := below_ev b hb p hp 8 (by omega)
  have hlo2 : I64 lo := by unfold I64; omega
  by_cases c0 : v = 0
  · exact ⟨lo, q, ⟨0, fun k _ => by unfold spec_l1Rd_near.f; rw [e]; simp only [Option.bind_some]; rw [if_pos c0]⟩, hlo2, hq⟩
  · by_cases c1 : v = 1
    · exact ⟨hi, q, ⟨0, fun k _ => by unfold spec_l1Rd_near.f; rw [e]; simp only [Option.bind_some]; rw [if_neg c0, if_pos c1]⟩, hhi, hq⟩
    · by_cases c2 : hi < lo
      · exact ⟨lo, q, ⟨0, fun k _ => by unfold spec_l1Rd_near.f; rw [e]; simp only [Option.bind_some]; rw [if_neg c0, if_neg c1, if_pos c2]⟩, hlo2, hq⟩
      · obtain ⟨x, q', ⟨K, hx⟩, x0, x1, hq'⟩ := word_ev b hb q hq
        have w3 : IntKind.u64.wrap (wrap64 (wrap64 (hi - lo) + 1)) = hi - lo + 1 := by
          obtain ⟨j0, j1⟩ := hhi
          rw [wrap_u64]
          unfold wrap64
          omega
        refine ⟨wrap64 (lo + wrap64 (Int.tmod (x / 2) (hi - lo + 1))), q', ⟨K, fun k hk => ?_⟩, I64.wrap _, hq'⟩
        have hx := hx k hk
        dsimp only at hx ⊢
        unfold spec_l1Rd_near.f
        rw [e]
        simp only [Option.bind_some]
        rw [if_neg c0, if_neg c1, if_neg c2, hx]
        simp only [Option.bind_some]
        rw [w3, if_neg (by omega)]
theorem off_ev (b : List Int) (hb : Code b) (p : Int) (hp : At b p) (lo hi : Int) (hlo : -4611686018427387904 ≤ lo ∧ lo ≤ 4611686018427387904) (hhi : I64 hi) :
    ∃ v q, Ev (fun k => spec_l1Rd_off.f k b p lo hi) (v, q) ∧ I64 v ∧ At b q := by
  obtain ⟨t, q, e, hq⟩ := once_ev b hb p hp 24 (by omega)
  cases t with
  | true =>
    obtain ⟨v, q', e', v0, v1, hq'⟩ := below_ev b hb q hq 4 (by omega)
    have hv : I64 (rd [wrap64 (lo - 1), wrap64 (hi + 1), (-9223372036854775808), 9223372036854775807] v) := by
      have h4 : v = 0 ∨ v = 1 ∨ v = 2 ∨ v = 3 := by omega
      rcases h4 with rfl | rfl | rfl | rfl
      · exact I64.wrap _
      · exact I64.wrap _
      · show I64 (-9223372036854775808)
        unfold I64
        omega
      · show I64 9223372036854775807
        unfold I64
        omega
    refine ⟨_, q', ⟨0, fun k _ => ?_⟩, hv, hq'⟩
    unfold spec_l1Rd_off.f
    rw [e]
    simp only [Option.bind_some, if_true]
    rw [e']
    simp only [Option.bind_some]
    rw [if_pos v0, if_pos (by simp; omega)]
  | false =>
    obtain ⟨v, q', ⟨K, hv⟩, hi2, hq'⟩ := near_ev b hb q hq lo hi hlo hhi
    refine ⟨v, q', ⟨K, fun k hk => ?_⟩, hi2, hq'⟩
    have hv := hv k hk
    dsimp only at hv ⊢
    unfold spec_l1Rd_off.f
    rw [e]
    simp only [Option.bind_some, Bool.false_eq_true, if_false]
    rw [hv]
    rfl

/-! trailFull -/
/-- What stands and its list tell the same. -/
structure Own (sw : Int) (I S : List Int) : Prop where
  mem : ∀ y ∈ S, GoodN sw y ∧ rd I (y.natAbs : Int) = y
  all : ∀ a : Nat, rd I (a : Int) ≠ 0 → rd I (a : Int) ∈ S
  apart : S.Pairwise (fun a b => a.natAbs ≠ b.natAbs)
  made : I = Iset (List.replicate (sw + 1).toNat 0) S
theorem Own.snoc {sw : Int} {I S : List Int} (h : Own sw I S) (hI : IOk sw I) (v : Int) (hv : GoodN sw v) (h0 : rd I (v.natAbs : Int) = 0) : Own sw (I.set v.natAbs v) (S ++ [v]) := by
  have hl : v.natAbs < I.length := by have := hI.1; obtain ⟨_, _, _⟩ := hv; omega
  have hne : ∀ y ∈ S, v.natAbs ≠ y.natAbs := fun y hy e => by
    obtain ⟨⟨y0, _, _⟩, y1⟩ := h.mem y hy
    rw [← e, h0] at y1
    exact y0 y1.symm
  refine ⟨fun y hy => ?_, fun a ha => ?_, ?_, ?_⟩
  · rw [rd_set _ _ _ _ hl]
    rcases List.mem_append.1 hy with hy | hy
    · rw [if_neg (hne y hy)]
      exact h.mem y hy
    · rw [List.mem_singleton] at hy
      subst hy
      exact ⟨hv, if_pos rfl⟩
  · rw [rd_set _ _ _ _ hl] at ha ⊢
    by_cases e : v.natAbs = a
    · rw [if_pos e]
      exact List.mem_append.2 (.inr (List.mem_singleton.2 rfl))
    · rw [if_neg e] at ha ⊢
      exact List.mem_append.2 (.inl (h.all a ha))
  · refine List.pairwise_append.2 ⟨h.apart, List.pairwise_singleton _ _, fun a ha b hb => ?_⟩
    rw [List.mem_singleton] at hb
    rw [hb]
    exact fun e => hne a ha e.symm
  · rw [h.made]
    unfold Iset
    rw [List.foldl_append]
    rfl
theorem Own.zero (sw : Int) : Own sw (List.replicate (sw + 1).toNat 0) [] := ⟨fun y hy => (by cases hy), fun a ha => absurd (rd_zeros _ _) ha, List.Pairwise.nil, rfl⟩
theorem Own.sets {sw : Int} : ∀ (xs I S : List Int), Own sw I S → IOk sw I → (∀ y ∈ xs, GoodN sw y) → (S ++ xs).Pairwise (fun a b => a.natAbs ≠ b.natAbs) → Own sw (Iset I xs) (S ++ xs) ∧ IOk sw (Iset I xs) := by
  intro xs
  induction xs with
  | nil => intro I S h hI _ _; rw [List.append_nil]; exact ⟨h, hI⟩
  | cons v xs ih =>
    intro I S h hI hg hp
    have hv := hg v List.mem_cons_self
    have h0 : rd I (v.natAbs : Int) = 0 := by
      by_cases c : rd I (v.natAbs : Int) = 0
      · exact c
      · have hm := h.all _ c
        have h2 := hI.2 v.natAbs (by have := hI.1; obtain ⟨_, _, _⟩ := hv; omega)
        exact absurd (show (rd I (v.natAbs : Int)).natAbs = v.natAbs by omega) ((List.pairwise_append.1 hp).2.2 _ hm v List.mem_cons_self)
    have e : S ++ v :: xs = (S ++ [v]) ++ xs := by simp
    rw [e] at hp ⊢
    exact ih _ _ (h.snoc hI v hv h0) (hI.set v hv) (fun y hy => hg y (List.mem_cons_of_mem _ hy)) hp
/-- A reading of the numbers that meets all clauses. -/
structure Reads (cl : List (List Int)) (T : Int → Bool) : Prop where
  opp : ∀ n, n ≠ 0 → T (-n) = !T n
  meets : ∀ p ∈ cl, ∃ n ∈ p, T n = true
def Holds (T : Int → Bool) (I : List Int) : Prop := ∀ a : Nat, rd I (a : Int) ≠ 0 → T (rd I (a : Int)) = true
theorem clause_left {sw : Int} {cl : List (List Int)} {T : Int → Bool} (hT : Reads cl T) {I : List Int} (hI : IOk sw I) (hH : Holds T I) (p : List Int) (hm : p ∈ cl) (hp : ∀ n ∈ p, GoodN sw n) (c : p.countP (sat I) = 0) : ∃ n ∈ p, T n = true ∧ fre I n = true := by
  obtain ⟨n, hn, ht⟩ := hT.meets p hm
  obtain ⟨n0, n1, n2⟩ := hp n hn
  refine ⟨n, hn, ht, decide_eq_true ?_⟩
  have hns : ¬ rd I (n.natAbs : Int) = n := fun e => List.countP_eq_zero.1 c n hn (decide_eq_true e)
  have h2 := hI.2 n.natAbs (by have := hI.1; omega)
  by_cases c0 : rd I (n.natAbs : Int) = 0
  · exact c0
  · have e : rd I (n.natAbs : Int) = -n := by omega
    have h3 := hH n.natAbs c0
    rw [e, hT.opp n n0, ht] at h3
    cases h3
theorem Holds.set {T : Int → Bool} {I : List Int} (h : Holds T I) (v : Int) (hl : v.natAbs < I.length) (ht : T v = true) : Holds T (I.set v.natAbs v) := fun a ha => by
  rw [rd_set _ _ _ _ hl] at ha ⊢
  split
  · exact ht
  · rename_i c
    rw [if_neg c] at ha
    exact h a ha
def FullI (cl : List (List Int)) (I : List Int) : Prop := ∀ q : Nat, q < cl.length → 0 < (rd_L1 cl (q : Int)).countP (sat I) ∨ 1 < (rd_L1 cl (q : Int)).countP (fre I)
theorem unit_full {sw : Int} (hs : 0 ≤ sw ∧ sw ≤ 400) {cl : List (List Int)} (hg : GoodCl sw cl) {H : Int → List Int} (hH : HOk cl cl.length 0 H) :
    ∀ (z : Nat) (I G B S : List Int), zer I = z → IOk sw I → GB cl I G B → S.length + z ≤ 1000 → Own sw I S →
      ∃ b G1 B1 S1 I1, Ev (fun k => impl_trail_unit.f H cl k G B S I) (b, G1, B1, S1, I1) ∧ Ev (fun k => spec_l18Unit.l1 k I S 0 sw cl) (S1, b) ∧ IOk sw I1 ∧ GB cl I1 G1 B1 ∧ Own sw I1 S1 ∧ S1.length + zer I1 = S.length + z ∧ (∃ ext, S1 = S ++ ext) ∧
        (b = true → Ev (fun k => spec_l18Unit.l1 k I1 S1 0 sw cl) (S1, true) ∧ FullI cl I1) ∧ ∀ T, Reads cl T → Holds T I → b = true ∧ Holds T I1 := by
  intro z
  induction z with
  | zero =>
    intro I G B S hz hI hgb hS hO
    rcases scan_ok hs hg hI hgb S (by omega) _ 0 rfl (by omega) with ⟨a1, a2, a3⟩ | ⟨j, a1, a2, a3, a4, a5⟩ | ⟨j, v, a1, a2, a3, a3m, a4, a5, _⟩
    · exact ⟨true, G, B, S, I, Ev.step (f := fun _ => some _) (fun k => by rw [List.drop_zero] at a1; rw [impl_trail_unit.f, a1]; rfl) (Ev.now _), a2, hI, hgb, hO, by omega, ⟨[], by simp⟩, fun _ => ⟨a2, fun q hq => a3 q (by omega) hq⟩, fun T hT hH => ⟨rfl, hH⟩⟩
    · refine ⟨false, G, B, S, I, Ev.step (f := fun _ => some _) (fun k => by rw [List.drop_zero] at a1; rw [impl_trail_unit.f, a1]; rfl) (Ev.now _), a2, hI, hgb, hO, by omega, ⟨[], by simp⟩, fun h => (by cases h), fun T hT hH => ?_⟩
      obtain ⟨n, hn, _, hf⟩ := clause_left hT hI hH _ (by rw [rdE_L1 cl j a3]; exact List.getElem_mem a3) (hg.row j a3).2 a4
      exact absurd hf (List.countP_eq_zero.1 a5 n hn)
    · have := zer_set hI v a4 a5
      omega
  | succ z ih =>
    intro I G B S hz hI hgb hS hO
    rcases scan_ok hs hg hI hgb S (by omega) _ 0 rfl (by omega) with ⟨a1, a2, a3⟩ | ⟨j, a1, a2, a3, a4, a5⟩ | ⟨j, v, a1, a2, a3, a3m, a4, a5, a5s, a5f, a6⟩
    · exact ⟨true, G, B, S, I, Ev.step (f := fun _ => some _) (fun k => by rw [List.drop_zero] at a1; rw [impl_trail_unit.f, a1]; rfl) (Ev.now _), a2, hI, hgb, hO, by omega, ⟨[], by simp⟩, fun _ => ⟨a2, fun q hq => a3 q (by omega) hq⟩, fun T hT hH => ⟨rfl, hH⟩⟩
    · refine ⟨false, G, B, S, I, Ev.step (f := fun _ => some _) (fun k => by rw [List.drop_zero] at a1; rw [impl_trail_unit.f, a1]; rfl) (Ev.now _), a2, hI, hgb, hO, by omega, ⟨[], by simp⟩, fun h => (by cases h), fun T hT hH => ?_⟩
      obtain ⟨n, hn, _, hf⟩ := clause_left hT hI hH _ (by rw [rdE_L1 cl j a3]; exact List.getElem_mem a3) (hg.row j a3).2 a4
      exact absurd hf (List.countP_eq_zero.1 a5 n hn)
    · have hz2 := zer_set hI v a4 a5
      have hl : v.natAbs < I.length := by have := hI.1; obtain ⟨_, _, _⟩ := a4; omega
      obtain ⟨G', B', c1, c2⟩ := stand_ok hs hg hH hI hgb (S := S) (by omega) v a4 a5
      obtain ⟨b, G1, B1, S1, I1, d1, d2, d3, d4, d5, d6, ⟨ext, d7⟩, d8, d9⟩ := ih (I.set v.natAbs v) G' B' (S ++ [v]) (by omega) (hI.set v a4) c2 (by rw [List.length_append, List.length_singleton]; omega) (hO.snoc hI v a4 a5)
      refine ⟨b, G1, B1, S1, I1, Ev.step (fun k => ?_) d1, a6 _ d2, d3, d4, d5, ?_, ⟨v :: ext, by rw [d7]; simp⟩, d8, fun T hT hH => d9 T hT (hH.set v hl ?_)⟩
      · rw [List.drop_zero] at a1
        rw [impl_trail_unit.f, a1, Option.bind_some]
        dsimp only
        rw [a3, Option.bind_some, c1, Option.bind_some]
      · rw [d6, List.length_append, List.length_singleton]
        omega
      · obtain ⟨n, hn, ht, hf⟩ := clause_left hT hI hH _ (by rw [rdE_L1 cl j a2]; exact List.getElem_mem a2) (hg.row j a2).2 a5s
        rw [fre_uniq I _ a5f v n a3m hn (decide_eq_true a5) hf]
        exact ht

/-! unitCore -/
theorem unit_no (sw : Int) (cl : List (List Int)) (set : List Int) (h1 : Ev (fun k => spec_CnfOk.f k sw cl) false) (h2 : Ev (fun k => impl_CnfOk.f k sw cl) false) : Ev (fun k => spec_Unit.f k sw cl set) ([], false) ∧ Ev (fun k => impl_Unit.f k sw cl set) ([], false) := by
  refine ⟨Ev.bind (f := fun k t143 => if t143 = true then (spec_Unit.j0 k set (decide ((set.length : Int) > sw)) sw cl) else (spec_Unit.j0 k set true sw cl)) h1 (Ev.step (f := fun _ => some ([], false)) (fun k => ?_) (Ev.now _)), ?_⟩
  · rw [if_neg (by decide), spec_Unit.j0, if_pos rfl]
  · exact Ev.bind (f := fun k t => if t = true then ((impl_setOk.f k set sw).bind fun u => if u = true then ((impl_newTrail.f k sw cl).bind fun H => (impl_Unit.stands H set (impl_Unit.zero sw cl)).bind fun T => (impl_trail_unit.f H cl k T.1 T.2.1 T.2.2.1 T.2.2.2).bind fun r => some (r.2.2.2.1, r.1)) else some ([], false)) else some ([], false)) h2 (Ev.congr (fun k => if_neg (by decide)) (Ev.now _))
theorem unit_core {sw : Int} (hs : 0 ≤ sw ∧ sw ≤ 400) {cl : List (List Int)} (hg : GoodCl sw cl) (h1 : Ev (fun k => spec_CnfOk.f k sw cl) true) (h2 : Ev (fun k => impl_CnfOk.f k sw cl) true) (set : List Int) (U1 : set.length ≤ 1048576) :
    (Ev (fun k => spec_Unit.f k sw cl set) ([], false) ∧ Ev (fun k => impl_Unit.f k sw cl set) ([], false) ∧ ¬ ((∀ y ∈ set, GoodN sw y) ∧ set.Pairwise (fun a b => a.natAbs ≠ b.natAbs))) ∨
    (∃ b S1 I1, Ev (fun k => spec_Unit.f k sw cl set) (S1, b) ∧ Ev (fun k => impl_Unit.f k sw cl set) (S1, b) ∧ (∀ y ∈ set, GoodN sw y) ∧ S1.length ≤ 1000 ∧ Own sw I1 S1 ∧ Ev (fun k => spec_l18Unit.l1 k (Iset (List.replicate (sw + 1).toNat 0) set) set 0 sw cl) (S1, b) ∧
      (b = true → Ev (fun k => spec_l18Unit.l1 k I1 S1 0 sw cl) (S1, true)) ∧ ∀ T, Reads cl T → (∀ y ∈ set, T y = true) → b = true ∧ ∀ y ∈ S1, T y = true) := by
  have S1 : ∀ r, Ev (fun k => spec_Unit.j0 k set (decide ((set.length : Int) > sw)) sw cl) r → Ev (fun k => spec_Unit.f k sw cl set) r := fun r hr => Ev.bind (f := fun k t143 => if t143 = true then (spec_Unit.j0 k set (decide ((set.length : Int) > sw)) sw cl) else (spec_Unit.j0 k set true sw cl)) h1 (Ev.congr (fun k => if_pos rfl) hr)
  have I1 : ∀ r, Ev (fun k => (impl_setOk.f k set sw).bind fun u => if u = true then ((impl_newTrail.f k sw cl).bind fun H => (impl_Unit.stands H set (impl_Unit.zero sw cl)).bind fun T => (impl_trail_unit.f H cl k T.1 T.2.1 T.2.2.1 T.2.2.2).bind fun r => some (r.2.2.2.1, r.1)) else some ([], false)) r → Ev (fun k => impl_Unit.f k sw cl set) r := fun r hr => Ev.bind (f := fun k t => if t = true then ((impl_setOk.f k set sw).bind fun u => if u = true then ((impl_newTrail.f k sw cl).bind fun H => (impl_Unit.stands H set (impl_Unit.zero sw cl)).bind fun T => (impl_trail_unit.f H cl k T.1 T.2.1 T.2.2.1 T.2.2.2).bind fun r => some (r.2.2.2.1, r.1)) else some ([], false)) else some ([], false)) h2 (Ev.congr (fun k => if_pos rfl) hr)
  have I2 : ∀ (b : Bool) r, Ev (fun k => impl_setOk.l0 k set sw (fun _ => false) ((0 : Nat) : Int)) b → Ev (fun k => if b = true then ((impl_newTrail.f k sw cl).bind fun H => (impl_Unit.stands H set (impl_Unit.zero sw cl)).bind fun T => (impl_trail_unit.f H cl k T.1 T.2.1 T.2.2.1 T.2.2.2).bind fun r => some (r.2.2.2.1, r.1)) else some ([], false)) r → Ev (fun k => impl_Unit.f k sw cl set) r := fun b r hb hr => I1 r (Ev.bind (f := fun k u => if u = true then ((impl_newTrail.f k sw cl).bind fun H => (impl_Unit.stands H set (impl_Unit.zero sw cl)).bind fun T => (impl_trail_unit.f H cl k T.1 T.2.1 T.2.2.1 T.2.2.2).bind fun r => some (r.2.2.2.1, r.1)) else some ([], false)) (Ev.congr (fun k => rfl) hb) hr)
  rcases setOk_ev hs cl set (by omega) _ 0 rfl (by omega) (fun _ => false) (fun q => by simp) (by simp) (by simp) with ⟨a1, a2, a3⟩ | ⟨a1, a2, a3, a4⟩
  · refine .inl ⟨S1 _ ?_, I2 false _ a1 (Ev.congr (fun k => if_neg (by decide)) (Ev.now _)), a3⟩
    by_cases c : (set.length : Int) > sw
    · exact Ev.step (f := fun _ => some ([], false)) (fun k => by rw [spec_Unit.j0, if_pos (decide_eq_true c)]) (Ev.now _)
    · exact Ev.step (fun k => by rw [spec_Unit.j0, if_neg (by simpa using c)]; rfl) a2
  · obtain ⟨z1, z2, z3⟩ := unit_zero hs hg
    obtain ⟨H, t1, t2⟩ := trail_ok hs cl hg
    obtain ⟨G', B', d1, d2, d3, d4, d5⟩ := stands_ok hs hg t2 set (List.replicate (sw + 1).toNat 0) _ _ [] z1 z2 z3 (fun a ha => absurd (rd_zeros _ _) ha) (by simpa using a2) (by simpa using a3)
    rw [List.nil_append] at d1 d4
    have hO := (Own.sets set _ _ (Own.zero sw) z1 a2 (by simpa using a3)).1
    rw [List.nil_append] at hO
    have hpos : 0 < zer (Iset (List.replicate (sw + 1).toNat 0) set) := by
      have h0 : rd (Iset (List.replicate (sw + 1).toNat 0) set) ((0 : Nat) : Int) = 0 := by
        by_cases c : rd (Iset (List.replicate (sw + 1).toNat 0) set) ((0 : Nat) : Int) = 0
        · exact c
        · obtain ⟨y, hy, hye⟩ := d5 0 c
          have := (a2 y (by simpa using hy)).1
          omega
      have hl : 0 < (Iset (List.replicate (sw + 1).toNat 0) set).length := by have := d2.1; omega
      rw [rd_get _ _ hl] at h0
      exact List.countP_pos_iff.2 ⟨_, List.getElem_mem hl, by rw [h0]; rfl⟩
    have hlen : (set.length : Int) ≤ sw := by omega
    obtain ⟨b, G1, B1, S2, I3, u1, u2, u3, u4, u5, u6, _, u7, u8⟩ := unit_full hs hg t2 _ _ G' B' set rfl d2 d3 (by omega) hO
    refine .inr ⟨b, S2, I3, S1 _ (Ev.step (fun k => by rw [spec_Unit.j0, if_neg (by simp; omega)]; rfl) (a4 _ ?_)), I2 true _ a1 (Ev.congr (fun k => if_pos rfl) ?_), a2, by omega, u5, u2, fun h => (u7 h).1, fun T hT hst => ?_⟩
    · have := spec_stands hs cl set set (by omega) a2 _ _ 0 rfl (by omega) (List.replicate (sw + 1).toNat 0) z1.1 (by rw [List.drop_zero]; exact u2)
      refine Ev.congr (fun k => ?_) this
      unfold spec_l18Unit.f
      have hw : wrap64 (sw + 1) = sw + 1 := wrap64_id (by omega) (by omega)
      rw [hw, if_pos (by omega), if_pos (by omega), Option.bind_some, if_pos (by simp; omega), List.nil_append]
      rfl
    · exact Ev.bind (f := fun k H => (impl_Unit.stands H set (impl_Unit.zero sw cl)).bind fun T => (impl_trail_unit.f H cl k T.1 T.2.1 T.2.2.1 T.2.2.2).bind fun r => some (r.2.2.2.1, r.1)) t1 (Ev.congr (fun k => by unfold impl_Unit.zero; rw [d1, Option.bind_some]) (Ev.bind (f := fun k r => some (r.2.2.2.1, r.1)) u1 (Ev.now _)))
    · obtain ⟨e1, e2⟩ := u8 T hT (fun a ha => hst _ (hO.all a ha))
      refine ⟨e1, fun y hy => ?_⟩
      obtain ⟨⟨y0, _⟩, y1⟩ := u5.mem y hy
      have := e2 y.natAbs (by rw [y1]; exact y0)
      rwa [y1] at this

/-! meetsSem -/
theorem idxG_some {α : Type} (p : α → Option Bool) (g : α → Bool) : ∀ (l : List α) (i : Int), 0 ≤ i → (∀ x ∈ l, p x = some (g x)) → ∃ r, idxG p l i = some r ∧ (0 ≤ r ↔ ∃ x ∈ l, g x = true) := by
  intro l
  induction l with
  | nil => intro i h _; exact ⟨-1, rfl, by simp⟩
  | cons x l ih =>
    intro i h hp
    cases c : g x with
    | true => exact ⟨i, by simp only [idxG, hp x List.mem_cons_self, c, Option.bind_some, ↓reduceIte], ⟨fun _ => ⟨x, List.mem_cons_self, c⟩, fun _ => h⟩⟩
    | false =>
      obtain ⟨r, e1, e2⟩ := ih (i + 1) (by omega) (fun y hy => hp y (List.mem_cons_of_mem _ hy))
      refine ⟨r, by simp only [idxG, hp x List.mem_cons_self, c, Option.bind_some, Bool.false_eq_true, ↓reduceIte, e1], e2.trans ⟨fun ⟨y, hy, hg⟩ => ⟨y, List.mem_cons_of_mem _ hy, hg⟩, fun ⟨y, hy, hg⟩ => ?_⟩⟩
      rcases List.mem_cons.1 hy with rfl | hy
      · rw [c] at hg; cases hg
      · exact ⟨y, hy, hg⟩
/-- A number stands by flags. -/
def byOn (on : List Bool) (n : Int) : Bool := rdOf false on ((n.natAbs : Int) - 1) == decide (n > 0)
theorem byOn_opp (on : List Bool) (n : Int) (h : n ≠ 0) : byOn on (-n) = !byOn on n := by
  unfold byOn
  rw [Int.natAbs_neg]
  by_cases c : n > 0
  · rw [decide_eq_true c, decide_eq_false (show ¬ (-n > 0) by omega)]
    cases rdOf false on ((n.natAbs : Int) - 1) <;> rfl
  · rw [decide_eq_false c, decide_eq_true (show -n > 0 by omega)]
    cases rdOf false on ((n.natAbs : Int) - 1) <;> rfl
theorem seat_of {sw n : Int} (hs : 0 ≤ sw ∧ sw ≤ 400) (h : GoodN sw n) : wrap64 (mx n (wrap64 (-n)) - 1) = (n.natAbs : Int) - 1 ∧ 0 ≤ (n.natAbs : Int) - 1 ∧ (n.natAbs : Int) - 1 < sw := by
  obtain ⟨h0, h1, h2⟩ := h
  rw [abs_eq n (by omega) (by omega)]
  exact ⟨wrap64_id (by omega) (by omega), by omega, by omega⟩
theorem meets_sem {sw : Int} (hs : 0 ≤ sw ∧ sw ≤ 400) {cl : List (List Int)} (hg : GoodCl sw cl) (h2 : Ev (fun k => impl_CnfOk.f k sw cl) true) (on : List Bool) (hon : (on.length : Int) = sw) :
    ∃ b, Ev (fun k => impl_Meets.f k sw cl on) b ∧ (b = true ↔ ∀ p ∈ cl, ∃ n ∈ p, byOn on n = true) := by
  have hq : ∀ p ∈ cl, ∀ n ∈ p, impl_Meets.q on n = some (byOn on n) := fun p hp n hn => by
    obtain ⟨e1, e2, e3⟩ := seat_of hs ((hg.2 p hp).2 n hn)
    unfold impl_Meets.q byOn
    rw [e1, if_pos ⟨e2, by omega⟩]
  have hp : ∀ p ∈ cl, impl_Meets.p on p = some (!p.any (byOn on)) := fun p hp => by
    obtain ⟨r, e1, e2⟩ := idxG_some (impl_Meets.q on) (byOn on) p 0 (by omega) (hq p hp)
    unfold impl_Meets.p
    rw [e1, Option.bind_some]
    congr 2
    by_cases c : 0 ≤ r
    · rw [decide_eq_true c]
      exact (List.any_eq_true.2 (e2.1 c)).symm
    · rw [decide_eq_false c]
      cases h : p.any (byOn on) with
      | false => rfl
      | true => exact absurd (e2.2 (List.any_eq_true.1 h)) c
  obtain ⟨r, e1, e2⟩ := idxG_some (impl_Meets.p on) (fun p => !p.any (byOn on)) cl 0 (by omega) hp
  obtain ⟨K, h2⟩ := h2
  refine ⟨!decide (0 ≤ r), ⟨K, fun k hk => ?_⟩, ?_⟩
  · have h2 := h2 k hk
    dsimp only at h2 ⊢
    unfold impl_Meets.f
    rw [h2, Option.bind_some, if_pos rfl, if_neg (not_not_intro hon), e1, Option.bind_some]
  · by_cases c : 0 ≤ r
    · rw [decide_eq_true c]
      obtain ⟨p, hp, hb⟩ := e2.1 c
      refine ⟨fun h => (by cases h), fun h => ?_⟩
      rw [List.any_eq_true.2 (h p hp)] at hb
      cases hb
    · rw [decide_eq_false c]
      refine ⟨fun _ p hp => ?_, fun _ => rfl⟩
      cases h : p.any (byOn on) with
      | false => exact absurd (e2.2 ⟨p, hp, by rw [h]; rfl⟩) c
      | true => exact List.any_eq_true.1 h

/-! standSem -/
theorem stand_ev {sw : Int} (hs : 0 ≤ sw ∧ sw ≤ 400) (on : List Bool) (hon : (on.length : Int) = sw) (set : List Int) (hl : set.length ≤ 1048576) (hset : ∀ y ∈ set, GoodN sw y) :
    ∀ d i, set.length - i = d → i ≤ set.length → Ev (fun k => laws_stand.l0 k on set (i : Int)) ((set.drop i).all (byOn on)) := by
  intro d
  induction d with
  | zero =>
    intro i hd hi
    rw [List.drop_eq_nil_of_le (by omega)]
    refine Ev.step (f := fun _ => some true) (fun k => ?_) (Ev.now _)
    rw [laws_stand.l0, if_neg (by omega)]
  | succ d ih =>
    intro i hd hi
    have hil : i < set.length := by omega
    have hr := rd_get set i hil
    have gx := hset _ (List.getElem_mem hil)
    rw [List.drop_eq_getElem_cons hil, List.all_cons]
    obtain ⟨x, hx⟩ : ∃ x, x = set[i] := ⟨_, rfl⟩
    rw [← hx] at hr gx ⊢
    obtain ⟨e1, e2, e3⟩ := seat_of hs gx
    have st : ∀ k, laws_stand.l0 (k + 1) on set (i : Int) = if (!byOn on x) = true then some false else laws_stand.l0 k on set ((i + 1 : Nat) : Int) := fun k => by
      rw [laws_stand.l0, if_pos (by omega), if_pos (by omega), hr, e1, if_pos e2, if_pos (by omega), wrap_next i (by omega)]
      rfl
    cases c : byOn on x with
    | true =>
      rw [Bool.true_and]
      exact Ev.step (fun k => by rw [st, c]; rfl) (ih (i + 1) (by omega) (by omega))
    | false =>
      rw [Bool.false_and]
      exact Ev.step (f := fun _ => some false) (fun k => by rw [st, c]; rfl) (Ev.now _)
theorem stand_is {sw : Int} (hs : 0 ≤ sw ∧ sw ≤ 400) (on : List Bool) (hon : (on.length : Int) = sw) (set : List Int) (hl : set.length ≤ 1048576) (hset : ∀ y ∈ set, GoodN sw y) : Ev (fun k => laws_stand.f k on set) (set.all (byOn on)) := by
  have h := stand_ev hs on hon set hl hset _ 0 rfl (by omega)
  rw [List.drop_zero] at h
  exact Ev.congr (fun k => rfl) h

/-! sameInts -/
theorem same_ev (xs : List Int) (hl : xs.length ≤ 1048576) : ∀ d i, xs.length - i = d → i ≤ xs.length → Ev (fun k => laws_sameInts.l0 k xs xs (i : Int)) true := by
  intro d
  induction d with
  | zero =>
    intro i hd hi
    refine Ev.step (f := fun _ => some true) (fun k => ?_) (Ev.now _)
    rw [laws_sameInts.l0, if_neg (by omega)]
  | succ d ih =>
    intro i hd hi
    exact Ev.step (fun k => by rw [laws_sameInts.l0, if_pos (by omega), if_pos (by omega), if_pos (by omega), if_pos rfl, wrap_next i (by omega)]) (ih (i + 1) (by omega) (by omega))
theorem same_is (xs : List Int) (hl : xs.length ≤ 1048576) : Ev (fun k => laws_sameInts.f k xs xs) true := Ev.congr (fun k => by unfold laws_sameInts.f; rw [if_pos rfl]; rfl) (same_ev xs hl _ 0 rfl (by omega))

/-! drawsOffGen -/
theorem near_gen (b : List Int) (hb : Code b) (p : Int) (hp : At b p) (lo hi : Int) (hlo : I64 lo) (hhi : I64 hi) (hm : (hi - lo + 1) % 18446744073709551616 ≠ 0) :
    ∃ v q, Ev (fun k => spec_l1Rd_near.f k b p lo hi) (v, q) ∧ I64 v ∧ At b q := by
  obtain ⟨v, q, e, v0, v1, hq⟩ := below_ev b hb p hp 8 (by omega)
  by_cases c0 : v = 0
  · exact ⟨lo, q, ⟨0, fun k _ => by unfold spec_l1Rd_near.f; rw [e]; simp only [Option.bind_some]; rw [if_pos c0]⟩, hlo, hq⟩
  · by_cases c1 : v = 1
    · exact ⟨hi, q, ⟨0, fun k _ => by unfold spec_l1Rd_near.f; rw [e]; simp only [Option.bind_some]; rw [if_neg c0, if_pos c1]⟩, hhi, hq⟩
    · by_cases c2 : hi < lo
      · exact ⟨lo, q, ⟨0, fun k _ => by unfold spec_l1Rd_near.f; rw [e]; simp only [Option.bind_some]; rw [if_neg c0, if_neg c1, if_pos c2]⟩, hlo, hq⟩
      · obtain ⟨x, q', ⟨K, hx⟩, x0, x1, hq'⟩ := word_ev b hb q hq
        obtain ⟨m, hme⟩ : ∃ m, m = IntKind.u64.wrap (wrap64 (wrap64 (hi - lo) + 1)) := ⟨_, rfl⟩
        have w3 : m ≠ 0 := by
          rw [hme, wrap_u64]
          unfold wrap64
          omega
        refine ⟨wrap64 (lo + wrap64 (Int.tmod (x / 2) m)), q', ⟨K, fun k hk => ?_⟩, I64.wrap _, hq'⟩
        have hx := hx k hk
        dsimp only at hx ⊢
        unfold spec_l1Rd_near.f
        rw [e]
        simp only [Option.bind_some]
        rw [if_neg c0, if_neg c1, if_neg c2, hx]
        simp only [Option.bind_some]
        rw [← hme, if_neg w3]
theorem off_gen (b : List Int) (hb : Code b) (p : Int) (hp : At b p) (lo hi : Int) (hlo : I64 lo) (hhi : I64 hi) (hm : (hi - lo + 1) % 18446744073709551616 ≠ 0) :
    ∃ v q, Ev (fun k => spec_l1Rd_off.f k b p lo hi) (v, q) ∧ I64 v ∧ At b q := by
  obtain ⟨t, q, e, hq⟩ := once_ev b hb p hp 24 (by omega)
  cases t with
  | true =>
    obtain ⟨v, q', e', v0, v1, hq'⟩ := below_ev b hb q hq 4 (by omega)
    have hv : I64 (rd [wrap64 (lo - 1), wrap64 (hi + 1), (-9223372036854775808), 9223372036854775807] v) := by
      have h4 : v = 0 ∨ v = 1 ∨ v = 2 ∨ v = 3 := by omega
      rcases h4 with rfl | rfl | rfl | rfl
      · exact I64.wrap _
      · exact I64.wrap _
      · show I64 (-9223372036854775808)
        unfold I64
        omega
      · show I64 9223372036854775807
        unfold I64
        omega
    refine ⟨_, q', ⟨0, fun k _ => ?_⟩, hv, hq'⟩
    unfold spec_l1Rd_off.f
    rw [e]
    simp only [Option.bind_some, if_true]
    rw [e']
    simp only [Option.bind_some]
    rw [if_pos v0, if_pos (by simp; omega)]
  | false =>
    obtain ⟨v, q', ⟨K, hv⟩, hi2, hq'⟩ := near_gen b hb q hq lo hi hlo hhi hm
    refine ⟨v, q', ⟨K, fun k hk => ?_⟩, hi2, hq'⟩
    have hv := hv k hk
    dsimp only at hv ⊢
    unfold spec_l1Rd_off.f
    rw [e]
    simp only [Option.bind_some, Bool.false_eq_true, if_false]
    rw [hv]
    rfl
theorem odd_room (x : Int) (h : I64 x) : I64 (wrap64 (-x)) ∧ (x - wrap64 (-x) + 1) % 18446744073709551616 ≠ 0 := by
  refine ⟨I64.wrap _, ?_⟩
  unfold I64 at h
  unfold wrap64
  omega

/-! drawCnf -/
theorem size_ev (b : List Int) (hb : Code b) (p : Int) (hp : At b p) : ∃ (v : Nat) (q : Int), spec_l1Rd_size.f b p 3 24 = some ((v : Int), q) ∧ v ≤ 24 ∧ At b q := by
  have hl := hb.len
  obtain ⟨m, hm⟩ : ∃ m, m = wrap64 (1 + wrap64 ((b.length : Int) / 3)) := ⟨_, rfl⟩
  have hm2 : 1 ≤ m ∧ m ≤ 1000000 := by
    rw [hm]
    have h3 : 0 ≤ (b.length : Int) / 3 ∧ (b.length : Int) / 3 ≤ 349526 := by omega
    rw [wrap64_id (x := (b.length : Int) / 3) (by omega) (by omega), wrap64_id (by omega) (by omega)]
    omega
  have fin : ∀ n : Int, 1 ≤ n → n ≤ 24 → ∃ (v : Nat) (q : Int), ((spec_l1Rd_below.f b p n).bind fun bt => some (wrap64 (1 + bt.1), bt.2)) = some ((v : Int), q) ∧ v ≤ 24 ∧ At b q := fun n n0 n1 => by
    obtain ⟨v, q, e, v0, v1, hq⟩ := below_ev b hb p hp n (by omega)
    obtain ⟨u, rfl⟩ := Int.eq_ofNat_of_zero_le v0
    refine ⟨1 + u, q, ?_, by omega, hq⟩
    rw [e, Option.bind_some]
    dsimp only
    rw [wrap64_id (by omega) (by omega)]
    rfl
  unfold spec_l1Rd_size.f
  rw [if_neg (by decide), ← hm]
  by_cases c : m > 24
  · rw [if_pos c]
    exact fin 24 (by omega) (by omega)
  · rw [if_neg c]
    exact fin m hm2.1 (by omega)
/-- A draw of clauses tells something. -/
def ResC (b : List Int) (F : Nat → Option (Int × List (List Int) × Int)) : Prop := ∃ y0 y1 q, Ev F (y0, y1, q) ∧ I64 y0 ∧ At b q
theorem ResC.step {b : List Int} {F G : Nat → Option (Int × List (List Int) × Int)} (h : ∀ k, F (k + 1) = G k) (hg : ResC b G) : ResC b F := by
  obtain ⟨y0, y1, q, e, h1, h2⟩ := hg
  exact ⟨y0, y1, q, Ev.step h e, h1, h2⟩
theorem cnf_row (b : List Int) (hb : Code b) (n : Nat) (hn : n ≤ 8) (x4 : Int) (cl : List (List Int)) (hcl : cl.length ≤ 1000) (next : ∀ cl' p', cl'.length ≤ cl.length + 1 → At b p' → ResC b (fun k => spec_l1Rd_cnf.l0 k (wrap64 (x4 - 1)) b p' (n : Int) cl')) :
    ∀ (d j : Nat), n + 1 - j = d → j ≤ n + 1 → ∀ (cur : List Int) (p : Int), cur.length ≤ 3 → At b p → ResC b (fun k => spec_l1Rd_cnf.l1 k x4 cur (j : Int) b p (n : Int) cl) := by
  intro d
  induction d with
  | zero =>
    intro j hd hj cur p hcur hp
    by_cases c : (cur.length : Int) > 0
    · refine ResC.step (fun k => ?_) (next (cl ++ [cur]) p (by simp) hp)
      rw [spec_l1Rd_cnf.l1, if_neg (by omega), if_pos c, if_pos (by omega)]
    · obtain ⟨v, q, e, hq⟩ := once_ev b hb p hp 30 (by omega)
      cases v with
      | true =>
        refine ResC.step (fun k => ?_) (next (cl ++ [cur]) q (by simp) hq)
        rw [spec_l1Rd_cnf.l1, if_neg (by omega), if_neg c, e, Option.bind_some]
        dsimp only
        rw [if_pos rfl, if_pos (by omega)]
      | false =>
        refine ResC.step (fun k => ?_) (next cl q (by omega) hq)
        rw [spec_l1Rd_cnf.l1, if_neg (by omega), if_neg c, e, Option.bind_some]
        dsimp only
        rw [if_neg (by decide)]
  | succ d ih =>
    intro j hd hj cur p hcur hp
    obtain ⟨v, q, e, hq⟩ := once_ev b hb p hp 3 (by omega)
    have hw : wrap64 ((j : Int) + 1) = ((j + 1 : Nat) : Int) := wrap_next j (by omega)
    cases v with
    | true =>
      by_cases c : (cur.length : Int) < 3
      · obtain ⟨u, q', e', _, _, hq'⟩ := below_ev b hb q hq 2 (by omega)
        refine ResC.step (fun k => ?_) (ih (j + 1) (by omega) (by omega) (cur ++ [wrap64 ((j : Int) * (wrap64 (1 - (wrap64 (2 * u)))))]) q' (by simp; omega) hq')
        rw [spec_l1Rd_cnf.l1, if_pos (by omega), e, Option.bind_some]
        dsimp only
        rw [if_pos rfl, if_pos c, e', Option.bind_some]
        dsimp only
        rw [if_pos (by omega), hw]
      · refine ResC.step (fun k => ?_) (ih (j + 1) (by omega) (by omega) cur q hcur hq)
        rw [spec_l1Rd_cnf.l1, if_pos (by omega), e, Option.bind_some]
        dsimp only
        rw [if_pos rfl, if_neg c, hw]
    | false =>
      refine ResC.step (fun k => ?_) (ih (j + 1) (by omega) (by omega) cur q hcur hq)
      rw [spec_l1Rd_cnf.l1, if_pos (by omega), e, Option.bind_some]
      dsimp only
      rw [if_neg (by decide), hw]
theorem cnf_end (b : List Int) (hb : Code b) (n : Nat) (hn : n ≤ 8) (cl : List (List Int)) (hcl : cl.length ≤ 1000) (p : Int) (hp : At b p) : ResC b (fun k => spec_l1Rd_cnf.l0 k 0 b p (n : Int) cl) := by
  obtain ⟨v, p1, e1, v0, v1, hp1⟩ := below_ev b hb p hp 30 (by omega)
  have hI : I64 (n : Int) := by unfold I64; omega
  by_cases c0 : v = 0
  · obtain ⟨o1, o2⟩ := odd_room (n : Int) hI
    obtain ⟨x, p2, ⟨K2, e2⟩, _, hp2⟩ := off_gen b hb p1 hp1 _ (n : Int) o1 hI o2
    refine ⟨(n : Int), cl ++ [[x]], p2, ⟨K2 + 1, fun k hk => ?_⟩, hI, hp2⟩
    obtain ⟨m, rfl⟩ : ∃ m, k = m + 1 := ⟨k - 1, by omega⟩
    have e2 := e2 m (by omega)
    dsimp only at e2 ⊢
    rw [spec_l1Rd_cnf.l0, if_neg (by omega), e1, Option.bind_some]
    dsimp only
    rw [if_pos c0, e2, Option.bind_some]
    dsimp only
    rw [if_pos (by omega)]
  · by_cases c1 : v = 1
    · obtain ⟨x, p2, ⟨K2, e2⟩, hx, hp2⟩ := off_ev b hb p1 hp1 0 400 (by omega) (by unfold I64; omega)
      refine ⟨x, cl, p2, ⟨K2 + 1, fun k hk => ?_⟩, hx, hp2⟩
      obtain ⟨m, rfl⟩ : ∃ m, k = m + 1 := ⟨k - 1, by omega⟩
      have e2 := e2 m (by omega)
      dsimp only at e2 ⊢
      rw [spec_l1Rd_cnf.l0, if_neg (by omega), e1, Option.bind_some]
      dsimp only
      rw [if_neg c0, if_pos c1, e2, Option.bind_some]
    · by_cases c2 : v = 2
      · refine ⟨(n : Int), cl ++ [[1, -1]], p1, ⟨1, fun k hk => ?_⟩, hI, hp1⟩
        obtain ⟨m, rfl⟩ : ∃ m, k = m + 1 := ⟨k - 1, by omega⟩
        dsimp only
        rw [spec_l1Rd_cnf.l0, if_neg (by omega), e1, Option.bind_some]
        dsimp only
        rw [if_neg c0, if_neg c1, if_pos c2, if_pos (by omega)]
      · refine ⟨(n : Int), cl, p1, ⟨1, fun k hk => ?_⟩, hI, hp1⟩
        obtain ⟨m, rfl⟩ : ∃ m, k = m + 1 := ⟨k - 1, by omega⟩
        dsimp only
        rw [spec_l1Rd_cnf.l0, if_neg (by omega), e1, Option.bind_some]
        dsimp only
        rw [if_neg c0, if_neg c1, if_neg c2]
theorem cnf_rows (b : List Int) (hb : Code b) (n : Nat) (hn : n ≤ 8) : ∀ (d : Nat) (cl : List (List Int)) (p : Int), cl.length + d ≤ 100 → At b p → ResC b (fun k => spec_l1Rd_cnf.l0 k (d : Int) b p (n : Int) cl) := by
  intro d
  induction d with
  | zero => intro cl p hd hp; exact cnf_end b hb n hn cl (by omega) p hp
  | succ d ih =>
    intro cl p hd hp
    have hw : wrap64 (((d + 1 : Nat) : Int) - 1) = (d : Int) := by rw [wrap64_id (by omega) (by omega)]; omega
    refine ResC.step (fun k => ?_) (cnf_row b hb n hn ((d + 1 : Nat) : Int) cl (by omega) (fun cl' p' h1 h2 => by rw [hw]; exact ih cl' p' (by omega) h2) _ 1 rfl (by omega) [] p (by simp) hp)
    rw [spec_l1Rd_cnf.l0, if_pos (by omega)]
    rfl
theorem cnf_ev (b : List Int) (hb : Code b) (p : Int) (hp : At b p) : ResC b (fun k => spec_l1Rd_cnf.f k b p) := by
  obtain ⟨v, p1, e1, v0, v1, hp1⟩ := below_ev b hb p hp 7 (by omega)
  obtain ⟨d, p2, e2, d1, hp2⟩ := size_ev b hb p1 hp1
  obtain ⟨n, rfl⟩ := Int.eq_ofNat_of_zero_le v0
  obtain ⟨y0, y1, q, ⟨K, g⟩, h1, h2⟩ := cnf_rows b hb (1 + n) (by omega) d [] p2 (by simp; omega) hp2
  refine ⟨y0, y1, q, ⟨K, fun k hk => ?_⟩, h1, h2⟩
  have g := g k hk
  dsimp only at g ⊢
  unfold spec_l1Rd_cnf.f
  rw [e1, Option.bind_some]
  dsimp only
  rw [e2, Option.bind_some]
  dsimp only
  rw [wrap64_id (x := 1 + (n : Int)) (by omega) (by omega)]
  exact g

/-! drawUnit -/
theorem unit_draws (b : List Int) (hb : Code b) (sw : Int) (hsw : I64 sw) (cl : List (List Int)) : ∀ (d j : Nat), 20 - j = d → j ≤ 20 → ∀ (cur : List Int) (p : Int), cur.length ≤ j → At b p → ∃ set, Ev (fun k => spec_DrawUnit.l0 k cur (j : Int) b p sw cl) (sw, cl, set) ∧ set.length ≤ 21 := by
  have fin : ∀ (j : Nat) (cur : List Int) (p : Int), cur.length ≤ 20 → At b p → ∃ set, Ev (fun k => spec_DrawUnit.j1 k cur (j : Int) false b p sw cl) (sw, cl, set) ∧ set.length ≤ 21 := by
    intro j cur p hcur hp
    obtain ⟨v, q, e, hq⟩ := once_ev b hb p hp 20 (by omega)
    cases v with
    | true =>
      obtain ⟨o1, o2⟩ := odd_room sw hsw
      obtain ⟨x, p2, ⟨K2, e2⟩, _, hp2⟩ := off_gen b hb q hq _ sw o1 hsw o2
      refine ⟨cur ++ [x], ⟨K2 + 1, fun k hk => ?_⟩, by simp; omega⟩
      obtain ⟨m, rfl⟩ : ∃ m, k = m + 1 := ⟨k - 1, by omega⟩
      have e2 := e2 m (by omega)
      dsimp only at e2 ⊢
      rw [spec_DrawUnit.j1, if_neg (by decide), e, Option.bind_some]
      dsimp only
      rw [if_pos rfl, e2, Option.bind_some]
      dsimp only
      rw [if_pos (by omega)]
    | false =>
      refine ⟨cur, ⟨1, fun k hk => ?_⟩, by omega⟩
      obtain ⟨m, rfl⟩ : ∃ m, k = m + 1 := ⟨k - 1, by omega⟩
      dsimp only
      rw [spec_DrawUnit.j1, if_neg (by decide), e, Option.bind_some]
      dsimp only
      rw [if_neg (by decide)]
  intro d
  induction d with
  | zero =>
    intro j hd hj cur p hcur hp
    obtain ⟨set, e, h⟩ := fin j cur p (by omega) hp
    refine ⟨set, Ev.step (fun k => ?_) e, h⟩
    rw [spec_DrawUnit.l0, decide_eq_false (show ¬ (j : Int) < 20 by omega)]
    split <;> rfl
  | succ d ih =>
    intro j hd hj cur p hcur hp
    by_cases c : (j : Int) ≤ sw
    · have hw : wrap64 ((j : Int) + 1) = ((j + 1 : Nat) : Int) := wrap_next j (by omega)
      obtain ⟨v, q, e, hq⟩ := once_ev b hb p hp 4 (by omega)
      have s0 : ∀ set, Ev (fun k => spec_DrawUnit.j1 k cur (j : Int) true b p sw cl) (sw, cl, set) → Ev (fun k => spec_DrawUnit.l0 k cur (j : Int) b p sw cl) (sw, cl, set) := fun set he => Ev.step (fun k => by rw [spec_DrawUnit.l0, if_pos c, decide_eq_true (show (j : Int) < 20 by omega)]) he
      cases v with
      | true =>
        obtain ⟨u, q', e', _, _, hq'⟩ := below_ev b hb q hq 2 (by omega)
        obtain ⟨set, g, h⟩ := ih (j + 1) (by omega) (by omega) (cur ++ [wrap64 ((j : Int) * (wrap64 (1 - (wrap64 (2 * u)))))]) q' (by simp; omega) hq'
        refine ⟨set, s0 _ (Ev.step (fun k => ?_) g), h⟩
        rw [spec_DrawUnit.j1, if_pos rfl, e, Option.bind_some]
        dsimp only
        rw [if_pos rfl, e', Option.bind_some]
        dsimp only
        rw [if_pos (by omega), hw]
      | false =>
        obtain ⟨set, g, h⟩ := ih (j + 1) (by omega) (by omega) cur q (by omega) hq
        refine ⟨set, s0 _ (Ev.step (fun k => ?_) g), h⟩
        rw [spec_DrawUnit.j1, if_pos rfl, e, Option.bind_some]
        dsimp only
        rw [if_neg (by decide), hw]
    · obtain ⟨set, e, h⟩ := fin j cur p (by omega) hp
      refine ⟨set, Ev.step (fun k => ?_) e, h⟩
      rw [spec_DrawUnit.l0, if_neg c]
theorem drawUnit_ev (b : List Int) (hb : Code b) : ∃ sw cl set, Ev (fun k => spec_DrawUnit.f k b) (sw, cl, set) ∧ set.length ≤ 21 := by
  obtain ⟨sw, cl, q, ⟨K1, h1⟩, hI, hq⟩ := cnf_ev b hb 0 ⟨by omega, by omega⟩
  obtain ⟨set, ⟨K2, h2⟩, hl⟩ := unit_draws b hb sw hI cl _ 1 rfl (by omega) [] q (by simp) hq
  refine ⟨sw, cl, set, ⟨K1 + K2, fun k hk => ?_⟩, hl⟩
  have h1 := h1 k (by omega)
  have h2 := h2 k (by omega)
  dsimp only at h1 h2 ⊢
  unfold spec_DrawUnit.f spec_l1Open.f
  rw [Option.bind_some, h1, Option.bind_some]
  exact h2

/-! shlBound -/
theorem shl_room (sw : Int) (h0 : 0 ≤ sw) (h1 : sw ≤ 9) : ∃ M : Nat, M ≤ 512 ∧ shl .i64 1 (IntKind.u64.wrap sw) = (M : Int) := by
  have h : sw = 0 ∨ sw = 1 ∨ sw = 2 ∨ sw = 3 ∨ sw = 4 ∨ sw = 5 ∨ sw = 6 ∨ sw = 7 ∨ sw = 8 ∨ sw = 9 := by omega
  rcases h with rfl | rfl | rfl | rfl | rfl | rfl | rfl | rfl | rfl | rfl
  · exact ⟨1, by omega, by decide⟩
  · exact ⟨2, by omega, by decide⟩
  · exact ⟨4, by omega, by decide⟩
  · exact ⟨8, by omega, by decide⟩
  · exact ⟨16, by omega, by decide⟩
  · exact ⟨32, by omega, by decide⟩
  · exact ⟨64, by omega, by decide⟩
  · exact ⟨128, by omega, by decide⟩
  · exact ⟨256, by omega, by decide⟩
  · exact ⟨512, by omega, by decide⟩
theorem u64_pos (x : Int) : 0 ≤ IntKind.u64.wrap x := by
  rw [wrap_u64]
  omega

/-! flagTry -/
def unitsTail (k : Nat) (x4 x7 : List Int) (x8 : Bool) (x11 sw : Int) (cl : List (List Int)) (x12 : List Bool) : Option Bool := (impl_Meets.f k sw cl x12).bind fun t311 => (if t311 = true then ((laws_stand.f k x12 x4).bind fun t312 => (laws_FnUnits.j5 k x4 x7 x8 x11 x12 (!t312) sw cl)) else (laws_FnUnits.j5 k x4 x7 x8 x11 x12 true sw cl))
theorem units_try (x4 x7 : List Int) (x8 : Bool) (x11 : Int) (n : Nat) (hn : n ≤ 9) (cl : List (List Int)) (r : Bool) (next : ∀ on : List Bool, on.length = n → Ev (fun k => unitsTail k x4 x7 x8 x11 (n : Int) cl on) r) :
    ∀ (d j : Nat), n - j = d → j ≤ n → ∀ on : List Bool, on.length = j → Ev (fun k => laws_FnUnits.l1 k x4 x7 x8 x11 on (j : Int) (n : Int) cl) r := by
  intro d
  induction d with
  | zero =>
    intro j hd hj on hon
    exact Ev.step (fun k => by rw [laws_FnUnits.l1, if_neg (by omega)]; rfl) (next on (by omega))
  | succ d ih =>
    intro j hd hj on hon
    exact Ev.step (fun k => by rw [laws_FnUnits.l1, if_pos (by omega), if_pos (u64_pos _), if_pos (by omega), wrap_next j (by omega)]) (ih (j + 1) (by omega) (by omega) _ (by simp; omega))
theorem units_loop {n : Nat} (hn : n ≤ 9) {cl : List (List Int)} (hg : GoodCl (n : Int) cl) (h2 : Ev (fun k => impl_CnfOk.f k (n : Int) cl) true) (set out : List Int) (ok : Bool) (hset : ∀ y ∈ set, GoodN (n : Int) y) (hout : ∀ y ∈ out, GoodN (n : Int) y) (l1 : set.length ≤ 1048576) (l2 : out.length ≤ 1048576)
    (hS : ∀ T, Reads cl T → (∀ y ∈ set, T y = true) → ok = true ∧ ∀ y ∈ out, T y = true) (M : Nat) (hM : M ≤ 512) (hsh : shl .i64 1 (IntKind.u64.wrap (n : Int)) = (M : Int)) :
    ∀ (d j : Nat), M - j = d → j ≤ M → Ev (fun k => laws_FnUnits.l0 k set out ok (j : Int) (n : Int) cl) true := by
  intro d
  induction d with
  | zero =>
    intro j hd hj
    refine Ev.step (f := fun _ => some true) (fun k => ?_) (Ev.now _)
    rw [laws_FnUnits.l0, if_pos (u64_pos _), hsh, if_neg (by omega)]
  | succ d ih =>
    intro j hd hj
    have g := ih (j + 1) (by omega) (by omega)
    have hw : wrap64 ((j : Int) + 1) = ((j + 1 : Nat) : Int) := wrap_next j (by omega)
    refine Ev.step (fun k => ?_) (units_try set out ok (j : Int) n hn cl true (fun on hon => ?_) _ 0 rfl (by omega) [] rfl)
    · rw [laws_FnUnits.l0, if_pos (u64_pos _), hsh, if_pos (by omega)]
      rfl
    · have j5t : Ev (fun k => laws_FnUnits.j5 k set out ok (j : Int) on true (n : Int) cl) true := Ev.step (fun k => by rw [laws_FnUnits.j5, if_pos rfl, hw]) g
      obtain ⟨b, m1, m2⟩ := meets_sem (sw := (n : Int)) ⟨by omega, by omega⟩ hg h2 on (by omega)
      refine Ev.bind (f := fun k t311 => (if t311 = true then ((laws_stand.f k on set).bind fun t312 => (laws_FnUnits.j5 k set out ok (j : Int) on (!t312) (n : Int) cl)) else (laws_FnUnits.j5 k set out ok (j : Int) on true (n : Int) cl))) m1 ?_
      cases b with
      | false => exact Ev.congr (fun k => if_neg (by decide)) j5t
      | true =>
        refine Ev.congr (fun k => if_pos rfl) (Ev.bind (f := fun k t312 => laws_FnUnits.j5 k set out ok (j : Int) on (!t312) (n : Int) cl) (stand_is (sw := (n : Int)) ⟨by omega, by omega⟩ on (by omega) set l1 hset) ?_)
        cases c : set.all (byOn on) with
        | false => exact Ev.congr (fun k => rfl) j5t
        | true =>
          obtain ⟨e1, e2⟩ := hS (byOn on) ⟨byOn_opp on, m2.1 rfl⟩ (List.all_eq_true.1 c)
          have e3 : out.all (byOn on) = true := List.all_eq_true.2 e2
          have so := stand_is (sw := (n : Int)) ⟨by omega, by omega⟩ on (by omega) out l2 hout
          rw [e3] at so
          refine Ev.step (f := fun k => (laws_stand.f k on out).bind fun t313 => if t313 = true then (laws_FnUnits.l0 k set out ok (wrap64 ((j : Int) + 1)) (n : Int) cl) else (some false)) (fun k => ?_) (Ev.bind (f := fun k t313 => if t313 = true then (laws_FnUnits.l0 k set out ok (wrap64 ((j : Int) + 1)) (n : Int) cl) else (some false)) so (Ev.congr (fun k => by rw [if_pos rfl, hw]) g))
          rw [laws_FnUnits.j5, if_neg (by decide), if_pos e1]

/-! unitsLaw -/
theorem units_end (l0 : List Int) (db : decide ((l0.length : Int) > 1048576) = false) {sw : Int} {cl : List (List Int)} {set out : List Int} {ok : Bool} (hd : Ev (fun k => spec_DrawUnit.f k l0) (sw, cl, set)) (hl : out.length ≤ 1048576) (j1 : Ev (fun k => spec_Unit.f k sw cl set) (out, ok)) (j2 : Ev (fun k => impl_Unit.f k sw cl set) (out, ok))
    (ht : Ev (fun k => laws_FnUnits.j0 k set out ok false sw cl) true) : ∃ k, laws_FnUnits.f k l0 = some true := by
  obtain ⟨K1, h1⟩ := Ev.binds hd
  obtain ⟨K2, h2⟩ := Ev.binds j1
  obtain ⟨K3, h3⟩ := Ev.binds j2
  obtain ⟨K4, h4⟩ := Ev.binds (same_is out hl)
  obtain ⟨K5, ht⟩ := ht
  obtain ⟨K, hK⟩ : ∃ K, K = K1 + K2 + K3 + K4 + K5 := ⟨_, rfl⟩
  have ht := ht K (by omega)
  have h1 := fun β g => h1 K (by omega) β g
  have h2 := fun β g => h2 K (by omega) β g
  have h3 := fun β g => h3 K (by omega) β g
  have h4 := fun β g => h4 K (by omega) β g
  clear hd j1 j2 hK
  dsimp only at ht
  exact ⟨K, by
    simp only [laws_FnUnits.f, laws_big.f, db, Option.bind_some, Bool.false_eq_true, ↓reduceIte, ↓h1, ↓h2, ↓h3, bne_self_eq_false, ↓h4, Bool.not_true]
    exact ht⟩
theorem units_none (sw : Int) (cl : List (List Int)) (set : List Int) : Ev (fun k => laws_FnUnits.j0 k set [] false false sw cl) true := by
  obtain ⟨b, h1, _, _⟩ := cnf_core sw cl
  have j2t : Ev (fun k => laws_FnUnits.j2 k set [] false true sw cl) true := Ev.step (f := fun _ => some true) (fun k => by rw [laws_FnUnits.j2, if_pos rfl]) (Ev.now _)
  refine Ev.step (f := fun k => laws_FnUnits.j1 k set [] false sw cl) (fun k => by rw [laws_FnUnits.j0, if_neg (by decide), if_neg (by decide)]) ?_
  by_cases c : sw > 9
  · exact Ev.step (fun k => by rw [laws_FnUnits.j1, if_pos c]) j2t
  · refine Ev.step (f := fun k => (spec_CnfOk.f k sw cl).bind fun t304 => (if t304 = true then (if (([] : List Int).length : Int) = 0 then (laws_FnUnits.j2 k set [] false (!false) sw cl) else (laws_FnUnits.j2 k set [] false false sw cl)) else (laws_FnUnits.j2 k set [] false true sw cl))) (fun k => by rw [laws_FnUnits.j1, if_neg c]) (Ev.bind (f := fun k t304 => (if t304 = true then (if (([] : List Int).length : Int) = 0 then (laws_FnUnits.j2 k set [] false (!false) sw cl) else (laws_FnUnits.j2 k set [] false false sw cl)) else (laws_FnUnits.j2 k set [] false true sw cl))) h1 ?_)
    cases b with
    | true => exact Ev.congr (fun k => by rw [if_pos rfl, if_pos (by simp)]; rfl) j2t
    | false => exact Ev.congr (fun k => by rw [if_neg (by decide)]) j2t
-- SAYS: For every code: what follows from the drawn numbers, told by Unit, answers as the law says.
theorem FnUnits (l0 : List Int) (q0 : ∀ x ∈ l0, (Lit.int .u8 x).wf = true) (hl0 : l0.length ≤ 9223372036854775807) : ∃ k, laws_FnUnits.f k l0 = some true := by
  by_cases hbig : (l0.length : Int) > 1048576
  · have db := decide_eq_true hbig
    exact ⟨0, by unfold laws_FnUnits.f laws_big.f; rw [db]; simp only [Option.bind_some, if_true]⟩
  · have db := decide_eq_false hbig
    obtain ⟨sw, cl, set, hd, hl⟩ := drawUnit_ev l0 (code_of l0 q0 (by omega))
    obtain ⟨b, h1, h2, h3⟩ := cnf_core sw cl
    cases b with
    | false =>
      obtain ⟨e1, e2⟩ := unit_no sw cl set h1 h2
      exact units_end l0 db hd (by simp) e1 e2 (units_none sw cl set)
    | true =>
      obtain ⟨s0, s1, hc, hgc⟩ := h3 rfl
      have hs : 0 ≤ sw ∧ sw ≤ 400 := ⟨s0, s1⟩
      have hg := GoodCl.of hc hgc
      rcases unit_core hs hg h1 h2 set (by omega) with ⟨e1, e2, _⟩ | ⟨ok, S1, I1, e1, e2, e3, e4, e5, _, e7, e8⟩
      · exact units_end l0 db hd (by simp) e1 e2 (units_none sw cl set)
      · refine units_end l0 db hd (by omega) e1 e2 ?_
        have tail : Ev (fun k => laws_FnUnits.j1 k set S1 ok sw cl) true := by
          have j2t : Ev (fun k => laws_FnUnits.j2 k set S1 ok true sw cl) true := Ev.step (f := fun _ => some true) (fun k => by rw [laws_FnUnits.j2, if_pos rfl]) (Ev.now _)
          by_cases c : sw > 9
          · exact Ev.step (fun k => by rw [laws_FnUnits.j1, if_pos c]) j2t
          · obtain ⟨n, rfl⟩ := Int.eq_ofNat_of_zero_le s0
            obtain ⟨M, hM, hsh⟩ := shl_room (n : Int) (by omega) (by omega)
            have lp := units_loop (by omega) hg h2 set S1 ok e3 (fun y hy => (e5.mem y hy).1) (by omega) (by omega) e8 M hM hsh _ 0 rfl (by omega)
            have j2f : Ev (fun k => laws_FnUnits.j2 k set S1 ok false (n : Int) cl) true := Ev.step (fun k => by rw [laws_FnUnits.j2, if_neg (by decide)]; rfl) lp
            have j2a : ∀ x, Ev (fun k => laws_FnUnits.j2 k set S1 ok x (n : Int) cl) true := fun x => by
              cases x with
              | true => exact j2t
              | false => exact j2f
            refine Ev.step (f := fun k => (spec_CnfOk.f k (n : Int) cl).bind fun t304 => (if t304 = true then (if (S1.length : Int) = 0 then (laws_FnUnits.j2 k set S1 ok (!ok) (n : Int) cl) else (laws_FnUnits.j2 k set S1 ok false (n : Int) cl)) else (laws_FnUnits.j2 k set S1 ok true (n : Int) cl))) (fun k => by rw [laws_FnUnits.j1, if_neg c]) (Ev.bind (f := fun k t304 => (if t304 = true then (if (S1.length : Int) = 0 then (laws_FnUnits.j2 k set S1 ok (!ok) (n : Int) cl) else (laws_FnUnits.j2 k set S1 ok false (n : Int) cl)) else (laws_FnUnits.j2 k set S1 ok true (n : Int) cl))) h1 ?_)
            by_cases c2 : (S1.length : Int) = 0
            · exact Ev.congr (fun k => by rw [if_pos rfl, if_pos c2]) (j2a (!ok))
            · exact Ev.congr (fun k => by rw [if_pos rfl, if_neg c2]) j2f
        cases ok with
        | false => exact Ev.step (fun k => by rw [laws_FnUnits.j0, if_neg (by decide), if_neg (by decide)]) tail
        | true =>
          have a1 : Ev (fun k => impl_Unit.f k sw cl ([] ++ S1)) (S1, true) := by
            rw [List.nil_append]
            rcases unit_core hs hg h1 h2 S1 (by omega) with ⟨_, _, f3⟩ | ⟨ok', S2, I2, f1, f2, f3, f4, f5, f6, _⟩
            · exact absurd ⟨fun y hy => (e5.mem y hy).1, e5.apart⟩ f3
            · have f7 := e7 rfl
              rw [e5.made] at f7
              have := Ev.uniq f6 f7
              injection this with g1 g2
              subst g1 g2
              exact f2
          refine Ev.step (f := fun k => (impl_Unit.f k sw cl ([] ++ S1)).bind fun bt299 => (if bt299.2 = true then ((laws_sameInts.f k bt299.1 S1).bind fun t303 => (if t303 = true then (laws_FnUnits.j1 k set S1 true sw cl) else (some false))) else (some false))) (fun k => ?_) (Ev.bind (f := fun k bt299 => (if bt299.2 = true then ((laws_sameInts.f k bt299.1 S1).bind fun t303 => (if t303 = true then (laws_FnUnits.j1 k set S1 true sw cl) else (some false))) else (some false))) a1 (Ev.congr (fun k => if_pos rfl) (Ev.bind (f := fun k t303 => (if t303 = true then (laws_FnUnits.j1 k set S1 true sw cl) else (some false))) (same_is S1 (by omega)) (Ev.congr (fun k => if_pos rfl) tail))))
          rw [laws_FnUnits.j0, if_neg (by decide), if_pos rfl, Option.bind_some, if_pos (by simp; omega)]

end Go.Proofs.Ytpkclocdenagcaa.Pure
