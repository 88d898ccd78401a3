/- For every code: what Settle tells of the drawn clauses answers as the law says. -/
import Derived.Test.YtpkclocdenagcaaPFnSettledx9
import Derived.Test.YtpkclocdenagcaaBits
import Derived.Test.YtpkclocdenagcaaLoops
namespace Go.Proofs.Ytpkclocdenagcaa.Pure
open Go Go.RowKit Go.Proofs.Ytpkclocdenagcaa.PFnSettled Go.Proofs.YtpkclocdenagcaaW.PrintWords Go.Proofs.YtpkclocdenagcaaW.PrintLast Go.Proofs.YtpkclocdenagcaaW.PrintMore Go.Proofs.Ytpkclocdenagcaa.BitsLib Go.Proofs.Ytpkclocdenagcaa.Loops
set_option linter.unusedVariables false
set_option linter.unusedSimpArgs false
set_option maxRecDepth 4000

/-! wrap_next -/
theorem wrap_next (i : Nat) (h : i < 4611686018427387904) : wrap64 ((i : Int) + 1) = ((i + 1 : Nat) : Int) := by
  rw [wrap64_id (by omega) (by omega)]; rfl

/-! rdE_L2 -/
theorem rdE_L2 (l : List (List Int)) (i : Nat) (h : i < l.length) : rd_L2 l (i : Int) = l[i] := by
  unfold rd_L2
  rw [List.getD_eq_getElem?_getD, Int.toNat_natCast, List.getElem?_eq_getElem h]; rfl
theorem rdM_L2 (l : List (List Int)) (i : Nat) (h : i < l.length) : rd_L2 l (i : Int) ∈ l := by rw [rdE_L2 l i h]; exact List.getElem_mem h

/-! implInside -/
theorem inside_eq (a b c : Int) : impl_inside.f a b c = some (decide (b ≤ a ∧ a ≤ c)) := by
  unfold impl_inside.f
  by_cases h1 : b ≤ a
  · rw [if_pos h1]; simp [h1]
  · rw [if_neg h1]; simp [h1]

/-! specIn -/
theorem l1In_eq (a b c : Int) : spec_l1In.f a b c = some (decide (b ≤ a ∧ a ≤ c)) := by
  unfold spec_l1In.f
  by_cases h1 : b ≤ a
  · rw [if_pos h1]; simp [h1]
  · rw [if_neg h1]; simp [h1]

/-! cnfOk -/
/-- A right clause. -/
def GoodClause (sw : Int) (p : List Int) : Prop := p.length ≤ 400 ∧ ∀ i : Nat, i < p.length → rd p (i : Int) ≠ 0 ∧ -sw ≤ rd p (i : Int) ∧ rd p (i : Int) ≤ sw
theorem abs_pos {n sw : Int} (h : sw ≤ 400) (h0 : n ≠ 0) (h1 : -sw ≤ n) (h2 : n ≤ sw) : ¬ mx n (wrap64 (-n)) ≤ 0 := by
  rw [wrap64_id (by omega) (by omega)]
  unfold mx
  split <;> omega
theorem clause_rows (sw : Int) (cl : List (List Int)) (v : Nat) (h0 : 0 ≤ sw) (h1 : sw ≤ 400) (hv : v < cl.length) (hcl : cl.length ≤ 4000) (hp : (rd_L2 cl (v : Int)).length ≤ 400) :
    ∀ d i, (rd_L2 cl (v : Int)).length - i = d → i ≤ (rd_L2 cl (v : Int)).length → ∀ bf : Int, (i = 0 → bf = 0) → (∀ j : Nat, j + 1 = i → bf = mx (rd (rd_L2 cl (v : Int)) (j : Int)) (wrap64 (-(rd (rd_L2 cl (v : Int)) (j : Int))))) →
      ((∀ j : Nat, i ≤ j → j < (rd_L2 cl (v : Int)).length → rd (rd_L2 cl (v : Int)) (j : Int) ≠ 0 ∧ -sw ≤ rd (rd_L2 cl (v : Int)) (j : Int) ∧ rd (rd_L2 cl (v : Int)) (j : Int) ≤ sw) ∧
        Ev (fun k => impl_clauseOk.l0 k sw bf (rd_L2 cl (v : Int)) ((rd_L2 cl (v : Int)).length : Int) (i : Int)) true ∧ (∀ z, Ev (fun k => spec_CnfOk.l0 k ((v : Int) + 1) sw cl) z → Ev (fun k => spec_CnfOk.l1 k (v : Int) (i : Int) sw cl) z)) ∨
      (Ev (fun k => impl_clauseOk.l0 k sw bf (rd_L2 cl (v : Int)) ((rd_L2 cl (v : Int)).length : Int) (i : Int)) false ∧ Ev (fun k => spec_CnfOk.l1 k (v : Int) (i : Int) sw cl) false) := by
  obtain ⟨p, hpe⟩ : ∃ p, p = rd_L2 cl (v : Int) := ⟨_, rfl⟩
  rw [← hpe] at hp ⊢
  have hw : True → wrap64 (-sw) = -sw := fun _ => wrap64_id (by omega) (by omega)
  intro d
  induction d with
  | zero =>
    intro i hd hi bf b0 b1
    left
    refine ⟨fun j g1 g2 => absurd g1 (by omega), Ev.step (f := fun _ => some true) (fun k => ?_) (Ev.now _), fun z hz => Ev.step (fun k => ?_) hz⟩
    · simp (disch := omega) only [impl_clauseOk.l0, ↓if_neg]
    · simp (disch := omega) only [spec_CnfOk.l1, ← hpe, ↓if_pos, ↓if_neg, wrap64_id]
  | succ d ih =>
    intro i hd hi bf b0 b1
    have hil : i < p.length := by omega
    obtain ⟨x, hx⟩ : ∃ x, x = rd p (i : Int) := ⟨_, rfl⟩
    by_cases c0 : x = 0
    · right
      refine ⟨Ev.step (f := fun _ => some false) (fun k => ?_) (Ev.now _), Ev.step (f := fun _ => some false) (fun k => ?_) (Ev.now _)⟩
      · simp (disch := omega) only [impl_clauseOk.l0, ← hx, ↓if_pos]
      · simp (disch := omega) only [spec_CnfOk.l1, ← hpe, ← hx, ↓if_pos]
    · by_cases cin : -sw ≤ x ∧ x ≤ sw
      · have din := decide_eq_true cin
        by_cases cb : mx x (wrap64 (-x)) ≤ bf
        · right
          have i0 : i ≠ 0 := fun h => abs_pos h1 c0 cin.1 cin.2 (by rw [b0 h] at cb; exact cb)
          obtain ⟨q, rfl⟩ : ∃ q, i = q + 1 := ⟨i - 1, by omega⟩
          have hq := b1 q rfl
          have e1 : True → wrap64 (((q + 1 : Nat) : Int) - 1) = (q : Int) := fun _ => by rw [wrap64_id (by omega) (by omega)]; omega
          refine ⟨Ev.step (f := fun _ => some false) (fun k => ?_) (Ev.now _), Ev.step (f := fun _ => some false) (fun k => ?_) (Ev.now _)⟩
          · simp (disch := first | omega | trivial) only [impl_clauseOk.l0, ← hx, ↓if_pos, ↓if_neg, inside_eq, hw, din, Option.bind_some, ↓reduceIte, if_pos cb]
          · simp (disch := first | omega | trivial) only [spec_CnfOk.l1, ← hpe, ← hx, ↓if_pos, ↓if_neg, l1In_eq, hw, din, Option.bind_some, ↓reduceIte, spec_l18Abs.f, e1, ← hq, if_pos cb]
        · have rest := ih (i + 1) (by omega) (by omega) (mx x (wrap64 (-x))) (fun h => absurd h (by omega)) (fun j hj => by
            obtain rfl : j = i := by omega
            rw [hx])
          have s1 : ∀ z, Ev (fun k => impl_clauseOk.l0 k sw (mx x (wrap64 (-x))) p (p.length : Int) ((i + 1 : Nat) : Int)) z → Ev (fun k => impl_clauseOk.l0 k sw bf p (p.length : Int) (i : Int)) z := fun z hz => Ev.step (fun k => by
            simp (disch := first | omega | trivial) only [impl_clauseOk.l0, ← hx, ↓if_pos, ↓if_neg, inside_eq, hw, din, Option.bind_some, ↓reduceIte, if_neg cb, wrap_next]) hz
          have s2 : ∀ z, Ev (fun k => spec_CnfOk.l1 k (v : Int) ((i + 1 : Nat) : Int) sw cl) z → Ev (fun k => spec_CnfOk.l1 k (v : Int) (i : Int) sw cl) z := fun z hz => by
            by_cases i0 : i = 0
            · exact Ev.step (fun k => by
                simp (disch := first | omega | trivial) only [spec_CnfOk.l1, ← hpe, ← hx, ↓if_pos, ↓if_neg, l1In_eq, hw, din, Option.bind_some, ↓reduceIte, wrap_next]) hz
            · obtain ⟨q, rfl⟩ : ∃ q, i = q + 1 := ⟨i - 1, by omega⟩
              have hq := b1 q rfl
              have e1 : True → wrap64 (((q + 1 : Nat) : Int) - 1) = (q : Int) := fun _ => by rw [wrap64_id (by omega) (by omega)]; omega
              exact Ev.step (fun k => by
                simp (disch := first | omega | trivial) only [spec_CnfOk.l1, ← hpe, ← hx, ↓if_pos, ↓if_neg, l1In_eq, hw, din, Option.bind_some, ↓reduceIte, spec_l18Abs.f, e1, ← hq, if_neg cb, wrap_next]) hz
          rcases rest with ⟨a1, a2, a3⟩ | ⟨a1, a2⟩
          · left
            refine ⟨fun j g1 g2 => ?_, s1 _ a2, fun z hz => s2 z (a3 z hz)⟩
            by_cases e : j = i
            · subst e
              rw [← hx]
              exact ⟨c0, cin.1, cin.2⟩
            · exact a1 j (by omega) g2
          · exact .inr ⟨s1 _ a1, s2 _ a2⟩
      · have din := decide_eq_false cin
        right
        refine ⟨Ev.step (f := fun _ => some false) (fun k => ?_) (Ev.now _), Ev.step (f := fun _ => some false) (fun k => ?_) (Ev.now _)⟩
        · simp (disch := first | omega | trivial) only [impl_clauseOk.l0, ← hx, ↓if_pos, ↓if_neg, inside_eq, hw, din, Option.bind_some, ↓reduceIte, Bool.false_eq_true]
        · simp (disch := first | omega | trivial) only [spec_CnfOk.l1, ← hpe, ← hx, ↓if_pos, ↓if_neg, l1In_eq, hw, din, Option.bind_some, ↓reduceIte, Bool.false_eq_true]
theorem cnf_loops (sw : Int) (cl : List (List Int)) (h0 : 0 ≤ sw) (h1 : sw ≤ 400) (hcl : cl.length ≤ 4000) :
    ∀ d v, cl.length - v = d → v ≤ cl.length →
      (Ev (fun k => spec_CnfOk.l0 k (v : Int) sw cl) true ∧ Ev (fun k => idxG (impl_CnfOk.p k sw) (cl.drop v) (v : Int)) (-1) ∧ ∀ p ∈ cl.drop v, GoodClause sw p) ∨
      (Ev (fun k => spec_CnfOk.l0 k (v : Int) sw cl) false ∧ ∃ r : Int, 0 ≤ r ∧ Ev (fun k => idxG (impl_CnfOk.p k sw) (cl.drop v) (v : Int)) r) := by
  intro d
  induction d with
  | zero =>
    intro v hd hv
    left
    have e : cl.drop v = [] := List.drop_eq_nil_of_le (by omega)
    rw [e]
    refine ⟨Ev.step (f := fun _ => some true) (fun k => ?_) (Ev.now _), ⟨0, fun k _ => rfl⟩, fun p hp => by cases hp⟩
    simp (disch := omega) only [spec_CnfOk.l0, ↓if_neg]
  | succ d ih =>
    intro v hd hv
    have hvl : v < cl.length := by omega
    obtain ⟨p, hpe⟩ : ∃ p, p = rd_L2 cl (v : Int) := ⟨_, rfl⟩
    have hdrop : cl.drop v = p :: cl.drop (v + 1) := by rw [List.drop_eq_getElem_cons hvl, hpe, rdE_L2 cl v hvl]
    rw [hdrop]
    have bad : Ev (fun k => impl_clauseOk.f k p sw) false → ∃ r : Int, 0 ≤ r ∧ Ev (fun k => idxG (impl_CnfOk.p k sw) (p :: cl.drop (v + 1)) (v : Int)) r := fun h => by
      obtain ⟨K, h⟩ := h
      refine ⟨(v : Int), by omega, K, fun k hk => ?_⟩
      have h := h k hk
      dsimp only at h ⊢
      simp only [idxG, impl_CnfOk.p, h, Option.bind_some, Bool.not_false, ↓reduceIte]
    by_cases c4 : (p.length : Int) > 400
    · right
      refine ⟨Ev.step (f := fun _ => some false) (fun k => ?_) (Ev.now _), bad ⟨0, fun k _ => ?_⟩⟩
      · simp (disch := omega) only [spec_CnfOk.l0, ← hpe, ↓if_pos]
      · simp (disch := omega) only [impl_clauseOk.f, ↓if_pos]
    · have hrow := clause_rows sw cl v h0 h1 hvl hcl (by rw [← hpe]; omega) _ 0 rfl (by omega) 0 (fun _ => rfl) (fun j hj => absurd hj (by omega))
      rw [← hpe] at hrow
      have hf : ∀ z, Ev (fun k => impl_clauseOk.l0 k sw 0 p (p.length : Int) ((0 : Nat) : Int)) z → Ev (fun k => impl_clauseOk.f k p sw) z := fun z hz => Ev.congr (fun k => by simp (disch := omega) only [impl_clauseOk.f, ↓if_neg]; rfl) hz
      have hs : ∀ z, Ev (fun k => spec_CnfOk.l1 k (v : Int) ((0 : Nat) : Int) sw cl) z → Ev (fun k => spec_CnfOk.l0 k (v : Int) sw cl) z := fun z hz => Ev.step (fun k => by simp (disch := omega) only [spec_CnfOk.l0, ← hpe, ↓if_pos, ↓if_neg]; rfl) hz
      rcases hrow with ⟨a1, a2, a3⟩ | ⟨a1, a2⟩
      · have hgo : ∀ r, Ev (fun k => idxG (impl_CnfOk.p k sw) (cl.drop (v + 1)) ((v + 1 : Nat) : Int)) r → Ev (fun k => idxG (impl_CnfOk.p k sw) (p :: cl.drop (v + 1)) (v : Int)) r := fun r hr => by
          obtain ⟨K, h⟩ := hf _ a2
          obtain ⟨K2, h2⟩ := hr
          refine ⟨K + K2, fun k hk => ?_⟩
          have h := h k (by omega)
          have h2 := h2 k (by omega)
          dsimp only at h h2 ⊢
          simp only [idxG, impl_CnfOk.p, h, Option.bind_some, Bool.not_true, Bool.false_eq_true, ↓reduceIte]
          exact h2
        rcases ih (v + 1) (by omega) (by omega) with ⟨b1, b2, b3⟩ | ⟨b1, r, b2, b3⟩
        · left
          refine ⟨hs _ (a3 _ (by simpa using b1)), hgo _ b2, fun q hq => ?_⟩
          rcases List.mem_cons.1 hq with rfl | hq
          · exact ⟨by omega, fun i hi => a1 i (by omega) hi⟩
          · exact b3 q hq
        · exact .inr ⟨hs _ (a3 _ (by simpa using b1)), r, b2, hgo _ b3⟩
      · exact .inr ⟨hs _ a2, bad (hf _ a1)⟩
theorem cnf_core (sw : Int) (cl : List (List Int)) : ∃ b, Ev (fun k => spec_CnfOk.f k sw cl) b ∧ Ev (fun k => impl_CnfOk.f k sw cl) b ∧ (b = true → 0 ≤ sw ∧ sw ≤ 400 ∧ cl.length ≤ 4000 ∧ ∀ p ∈ cl, GoodClause sw p) := by
  have no : ∀ (P : Prop), ((false : Bool) = true → P) := fun P h => by cases h
  by_cases cs : 0 ≤ sw ∧ sw ≤ 400
  · have ds := decide_eq_true cs
    by_cases c4 : (cl.length : Int) > 4000
    · have d4 := decide_eq_true c4
      refine ⟨false, ⟨1, fun k hk => ?_⟩, ⟨0, fun k hk => ?_⟩, no _⟩
      · obtain ⟨m, rfl⟩ : ∃ m, k = m + 1 := ⟨k - 1, by omega⟩
        simp (disch := omega) only [spec_CnfOk.f, l1In_eq, ds, Option.bind_some, ↓reduceIte, d4, spec_CnfOk.j0]
      · simp (disch := omega) only [impl_CnfOk.f, inside_eq, ds, Option.bind_some, ↓reduceIte, ↓if_pos]
    · have d4 := decide_eq_false c4
      have s1 : ∀ z, Ev (fun k => spec_CnfOk.l0 k ((0 : Nat) : Int) sw cl) z → Ev (fun k => spec_CnfOk.f k sw cl) z := by
        rintro z ⟨K, h⟩
        refine ⟨K + 1, fun k hk => ?_⟩
        obtain ⟨m, rfl⟩ : ∃ m, k = m + 1 := ⟨k - 1, by omega⟩
        have h := h m (by omega)
        simp (disch := omega) only [spec_CnfOk.f, l1In_eq, ds, Option.bind_some, ↓reduceIte, d4, spec_CnfOk.j0, Bool.false_eq_true]
        exact h
      have s2 : ∀ r : Int, Ev (fun k => idxG (impl_CnfOk.p k sw) cl ((0 : Nat) : Int)) r → Ev (fun k => impl_CnfOk.f k sw cl) (!decide (0 ≤ r)) := by
        rintro r ⟨K, h⟩
        refine ⟨K, fun k hk => ?_⟩
        have h : idxG (impl_CnfOk.p k sw) cl 0 = some r := h k (by omega)
        simp (disch := omega) only [impl_CnfOk.f, inside_eq, ds, Option.bind_some, ↓reduceIte, ↓if_neg, h]
      rcases cnf_loops sw cl cs.1 cs.2 (by omega) cl.length 0 (by omega) (by omega) with ⟨b1, b2, b3⟩ | ⟨b1, r, b2, b3⟩
      · rw [List.drop_zero] at b2 b3
        exact ⟨true, s1 _ b1, s2 _ b2, fun _ => ⟨cs.1, cs.2, by omega, b3⟩⟩
      · rw [List.drop_zero] at b3
        refine ⟨false, s1 _ b1, ?_, no _⟩
        have := s2 _ b3
        rwa [decide_eq_true b2] at this
  · have ds := decide_eq_false cs
    refine ⟨false, ⟨1, fun k hk => ?_⟩, ⟨0, fun k hk => ?_⟩, no _⟩
    · obtain ⟨m, rfl⟩ : ∃ m, k = m + 1 := ⟨k - 1, by omega⟩
      simp (disch := omega) only [spec_CnfOk.f, l1In_eq, ds, Option.bind_some, ↓reduceIte, Bool.false_eq_true, spec_CnfOk.j0]
    · simp (disch := omega) only [impl_CnfOk.f, inside_eq, ds, Option.bind_some, ↓reduceIte, Bool.false_eq_true]

/-! trail -/
theorem lit_wf (n : Int) (h0 : -1000000 ≤ n) (h1 : n ≤ 1000000) : (Lit.int .i64 n).wf = true := by
  have e1 : IntKind.i64.min = -9223372036854775808 := by decide
  have e2 : IntKind.i64.max = 9223372036854775807 := by decide
  simp only [Lit.wf, e1, e2, Bool.and_eq_true, decide_eq_true_eq]
  omega
theorem abs_eq (n : Int) (h0 : -1000000 ≤ n) (h1 : n ≤ 1000000) : mx n (wrap64 (-n)) = (n.natAbs : Int) := by
  rw [wrap64_id (by omega) (by omega)]
  unfold mx
  split <;> omega
theorem rd_set (l : List Int) (a b : Nat) (v : Int) (h : a < l.length) : rd (l.set a v) (b : Int) = if a = b then v else rd l (b : Int) := by
  unfold rd
  rw [List.getD_eq_getElem?_getD, List.getD_eq_getElem?_getD, Int.toNat_natCast, List.getElem?_set]
  by_cases e : a = b
  · subst e
    rw [if_pos rfl, if_pos rfl, if_pos h]
    rfl
  · rw [if_neg e, if_neg e]
theorem rd_get (l : List Int) (a : Nat) (h : a < l.length) : rd l (a : Int) = l[a] := by
  have := getElem?_rd h
  rw [List.getElem?_eq_getElem h] at this
  exact (Option.some.inj this).symm
/-- A number of n's place stands as n, the other way round, or not. -/
def sat (I : List Int) (n : Int) : Bool := decide (rd I (n.natAbs : Int) = n)
def neg (I : List Int) (n : Int) : Bool := decide (rd I (n.natAbs : Int) = -n)
def fre (I : List Int) (n : Int) : Bool := decide (rd I (n.natAbs : Int) = 0)
def IOk (sw : Int) (I : List Int) : Prop := (I.length : Int) = sw + 1 ∧ ∀ a : Nat, a < I.length → rd I (a : Int) = 0 ∨ rd I (a : Int) = a ∨ rd I (a : Int) = -a
def GoodN (sw n : Int) : Prop := n ≠ 0 ∧ -sw ≤ n ∧ n ≤ sw
def GoodCl (sw : Int) (cl : List (List Int)) : Prop := cl.length ≤ 4000 ∧ ∀ p ∈ cl, p.length ≤ 400 ∧ ∀ n ∈ p, GoodN sw n
theorem IOk.set {sw : Int} {I : List Int} (h : IOk sw I) (v : Int) (hv : GoodN sw v) : IOk sw (I.set v.natAbs v) := by
  obtain ⟨h1, h2⟩ := h
  obtain ⟨v0, v1, v2⟩ := hv
  have hl : v.natAbs < I.length := by omega
  refine ⟨by rw [List.length_set]; exact h1, fun a ha => ?_⟩
  rw [List.length_set] at ha
  rw [rd_set _ _ _ _ hl]
  split
  · omega
  · exact h2 a ha
theorem sat_set {sw : Int} {I : List Int} (h : IOk sw I) (v : Int) (hv : GoodN sw v) (h0 : rd I (v.natAbs : Int) = 0) : ∀ (p : List Int), (∀ n ∈ p, GoodN sw n) →
    p.countP (sat (I.set v.natAbs v)) = p.countP (sat I) + p.count v ∧ p.countP (neg (I.set v.natAbs v)) = p.countP (neg I) + p.count (-v) := by
  obtain ⟨h1, h2⟩ := h
  obtain ⟨v0, v1, v2⟩ := hv
  have hl : v.natAbs < I.length := by omega
  intro p
  induction p with
  | nil => intro _; exact ⟨rfl, rfl⟩
  | cons n p ih =>
    intro hp
    obtain ⟨a1, a2⟩ := ih (fun x hx => hp x (List.mem_cons_of_mem _ hx))
    obtain ⟨n0, n1, n2⟩ := hp n (List.mem_cons_self)
    rw [List.countP_cons, List.countP_cons, List.countP_cons, List.countP_cons, List.count_cons, List.count_cons, a1, a2]
    simp only [sat, neg, beq_iff_eq, decide_eq_true_eq]
    rw [rd_set _ _ _ _ hl]
    by_cases e : v.natAbs = n.natAbs
    · rw [if_pos e, ← e, h0]
      constructor <;> (repeat' split) <;> omega
    · rw [if_neg e, if_neg (show ¬ n = v by omega), if_neg (show ¬ n = -v by omega)]
      omega
/-- The seats that are named are counted. -/
theorem inc_ok (d : Int) (hd : d = 1 ∨ d = -1) : ∀ (l G : List Int), (∀ x ∈ l, 0 ≤ x ∧ x < (G.length : Int)) → (∀ i : Nat, i < G.length → -100000000 ≤ rd G (i : Int) - l.count (i : Int) ∧ rd G (i : Int) + l.count (i : Int) ≤ 100000000) →
    ∃ G', impl_trail.inc d G l = some G' ∧ G'.length = G.length ∧ ∀ i : Nat, i < G.length → rd G' (i : Int) = rd G (i : Int) + d * l.count (i : Int) := by
  intro l
  induction l with
  | nil => intro G _ _; exact ⟨G, rfl, rfl, fun i hi => by simp⟩
  | cons x xs ih =>
    intro G hx hb
    obtain ⟨x0, x1⟩ := hx x (List.mem_cons_self)
    obtain ⟨a, rfl⟩ : ∃ a : Nat, x = a := ⟨x.toNat, by omega⟩
    have ha : a < G.length := by omega
    have hba := hb a ha
    rw [List.count_cons_self] at hba
    have hw : wrap64 (rd G (a : Int) + d) = rd G (a : Int) + d := wrap64_id (by omega) (by omega)
    obtain ⟨G', e1, e2, e3⟩ := ih (G.set a (rd G (a : Int) + d)) (fun y hy => by rw [List.length_set]; exact hx y (List.mem_cons_of_mem _ hy)) (fun i hi => by
      rw [List.length_set] at hi
      have := hb i hi
      rw [List.count_cons] at this
      rw [rd_set _ _ _ _ ha]
      by_cases e : a = i
      · subst e
        rw [if_pos rfl]
        simp only [beq_self_eq_true, ↓reduceIte] at this
        omega
      · rw [if_neg e]
        rw [if_neg (by simp; omega)] at this
        omega)
    rw [List.length_set] at e2 e3
    refine ⟨G', ?_, e2, fun i hi => ?_⟩
    · unfold impl_trail.inc
      rw [if_pos x0, if_pos x1, hw, Int.toNat_natCast]
      exact e1
    · rw [e3 i hi, rd_set _ _ _ _ ha, List.count_cons]
      by_cases e : a = i
      · subst e
        rw [if_pos rfl]
        simp only [beq_self_eq_true, ↓reduceIte]
        rcases hd with rfl | rfl <;> omega
      · rw [if_neg e, if_neg (by simp; omega)]
        rcases hd with rfl | rfl <;> omega
/-- How often the clauses ahead of (i, j) name a number, told by the clause. -/
def occ (cl : List (List Int)) (i j : Nat) (n : Int) (q : Nat) : Nat := if q < i then (rd_L2 cl (q : Int)).count n else if q = i then ((rd_L2 cl (i : Int)).take j).count n else 0
def HOk (cl : List (List Int)) (i j : Nat) (H : Int → List Int) : Prop := ∀ n, (∀ x ∈ H n, 0 ≤ x ∧ x < (cl.length : Int)) ∧ ∀ q : Nat, (H n).count (q : Int) = occ cl i j n q
theorem occ_end (cl : List (List Int)) (i : Nat) (n : Int) (q : Nat) : occ cl i (rd_L2 cl (i : Int)).length n q = occ cl (i + 1) 0 n q := by
  unfold occ
  by_cases e1 : q < i
  · rw [if_pos e1, if_pos (by omega)]
  · by_cases e2 : q = i
    · subst e2
      rw [if_neg (by omega), if_pos rfl, if_pos (by omega), List.take_length]
    · rw [if_neg e1, if_neg e2, if_neg (by omega)]
      split
      · simp
      · rfl
theorem occ_step (cl : List (List Int)) (i j : Nat) (hj : j < (rd_L2 cl (i : Int)).length) (n : Int) (q : Nat) : occ cl i (j + 1) n q = occ cl i j n q + if q = i ∧ rd (rd_L2 cl (i : Int)) (j : Int) = n then 1 else 0 := by
  unfold occ
  by_cases e1 : q < i
  · rw [if_pos e1, if_pos e1, if_neg (by omega)]
    rfl
  · rw [if_neg e1, if_neg e1]
    by_cases e2 : q = i
    · subst e2
      rw [if_pos rfl, if_pos rfl, List.take_succ_eq_append_getElem hj, List.count_append, ← rd_get _ _ hj]
      congr 1
      by_cases e3 : rd (rd_L2 cl (q : Int)) (j : Int) = n
      · rw [if_pos ⟨rfl, e3⟩, e3]; simp
      · rw [if_neg (fun h => e3 h.2)]
        simp [List.count_cons, e3]
    · rw [if_neg e2, if_neg e2, if_neg (fun h => e2 h.1)]
theorem trail_row {sw : Int} (hs : 0 ≤ sw ∧ sw ≤ 400) (cl : List (List Int)) (hg : GoodCl sw cl) (i : Nat) (hi : i < cl.length)
    (next : ∀ H m, HOk cl (i + 1) 0 H → (∀ n, (H n).length ≤ m) → m ≤ 400 * (i + 1) → ∃ R, Ev (fun k => impl_newTrail.l0 k cl ((i + 1 : Nat) : Int) H m) R ∧ HOk cl cl.length 0 R) :
    ∀ d j, (rd_L2 cl (i : Int)).length - j = d → j ≤ (rd_L2 cl (i : Int)).length → ∀ H m, HOk cl i j H → (∀ n, (H n).length ≤ m) → m ≤ 400 * i + j →
      ∃ R, Ev (fun k => impl_newTrail.l1 k cl (i : Int) (rd_L2 cl (i : Int)) (j : Int) H m) R ∧ HOk cl cl.length 0 R := by
  have hmem : rd_L2 cl (i : Int) ∈ cl := by rw [rdE_L2 cl i hi]; exact List.getElem_mem hi
  obtain ⟨hlen, hn⟩ := hg.2 _ hmem
  have hcl := hg.1
  intro d
  induction d with
  | zero =>
    intro j hd hj H m h1 h2 h3
    obtain rfl : j = (rd_L2 cl (i : Int)).length := by omega
    obtain ⟨R, e1, e2⟩ := next H m (fun n => ⟨(h1 n).1, fun q => by rw [(h1 n).2 q, occ_end]⟩) h2 (by omega)
    refine ⟨R, Ev.step (fun k => ?_) e1, e2⟩
    rw [impl_newTrail.l1, if_neg (by omega), wrap_next i (by omega)]
  | succ d ih =>
    intro j hd hj H m h1 h2 h3
    have hjl : j < (rd_L2 cl (i : Int)).length := by omega
    have gx := hn _ (show rd (rd_L2 cl (i : Int)) (j : Int) ∈ rd_L2 cl (i : Int) by rw [rd_get _ _ hjl]; exact List.getElem_mem hjl)
    obtain ⟨x, hx⟩ : ∃ x, x = rd (rd_L2 cl (i : Int)) (j : Int) := ⟨_, rfl⟩
    rw [← hx] at gx
    have hwf := lit_wf x (by have := gx.2.1; omega) (by have := gx.2.2; omega)
    obtain ⟨R, e1, e2⟩ := ih (j + 1) (by omega) (by omega) (fun q => if q = x then H q ++ [(i : Int)] else H q) (m + 1) (fun n => by
      obtain ⟨g1, g2⟩ := h1 n
      dsimp only
      by_cases e : n = x
      · rw [if_pos e]
        refine ⟨fun y hy => ?_, fun q => ?_⟩
        · rcases List.mem_append.1 hy with hy | hy
          · exact g1 y hy
          · rw [List.mem_singleton] at hy
            subst hy
            omega
        · rw [List.count_append, g2 q, occ_step cl i j hjl, ← hx]
          congr 1
          by_cases eq : q = i
          · subst eq
            rw [if_pos ⟨rfl, e.symm⟩]
            simp
          · rw [if_neg (fun h => eq h.1)]
            simp [List.count_cons]
            omega
      · rw [if_neg e]
        exact ⟨g1, fun q => by rw [g2 q, occ_step cl i j hjl, ← hx, if_neg (fun h => e h.2.symm)]; rfl⟩) (fun n => by
      have := h2 n
      split
      · rw [List.length_append]
        simp
        omega
      · omega) (by omega)
    refine ⟨R, Ev.step (fun k => ?_) e1, e2⟩
    have := h2 x
    rw [impl_newTrail.l1, if_pos (by omega), if_pos (by omega), ← hx, if_pos hwf, if_pos (by omega), if_pos (by omega), wrap_next j (by omega)]
theorem trail_ok {sw : Int} (hs : 0 ≤ sw ∧ sw ≤ 400) (cl : List (List Int)) (hg : GoodCl sw cl) : ∃ H, Ev (fun k => impl_newTrail.f k sw cl) H ∧ HOk cl cl.length 0 H := by
  have hcl := hg.1
  have main : ∀ d i, cl.length - i = d → i ≤ cl.length → ∀ H m, HOk cl i 0 H → (∀ n, (H n).length ≤ m) → m ≤ 400 * i → ∃ R, Ev (fun k => impl_newTrail.l0 k cl (i : Int) H m) R ∧ HOk cl cl.length 0 R := by
    intro d
    induction d with
    | zero =>
      intro i hd hi H m h1 h2 h3
      obtain rfl : i = cl.length := by omega
      refine ⟨H, Ev.step (f := fun _ => some H) (fun k => ?_) (Ev.now _), h1⟩
      rw [impl_newTrail.l0, if_neg (by omega)]
    | succ d ih =>
      intro i hd hi H m h1 h2 h3
      obtain ⟨R, e1, e2⟩ := trail_row hs cl hg i (by omega) (fun H m a1 a2 a3 => ih (i + 1) (by omega) (by omega) H m a1 a2 a3) _ 0 rfl (by omega) H m h1 h2 (by omega)
      refine ⟨R, Ev.step (fun k => ?_) e1, e2⟩
      rw [impl_newTrail.l0, if_pos (by omega), if_pos (by omega)]
      rfl
  obtain ⟨R, e1, e2⟩ := main _ 0 rfl (by omega) (fun _ => []) 0 (fun n => ⟨fun x hx => (by cases hx), fun q => by unfold occ; simp⟩) (fun _ => by simp) (by omega)
  refine ⟨R, Ev.congr (fun k => ?_) e1, e2⟩
  unfold impl_newTrail.f
  rw [if_pos (by omega), if_pos (by omega)]
  rfl
/-- What a number's row counts, when the trail is made. -/
theorem HOk.count {cl : List (List Int)} {H : Int → List Int} (h : HOk cl cl.length 0 H) (n : Int) (q : Nat) (hq : q < cl.length) : (H n).count (q : Int) = (rd_L2 cl (q : Int)).count n := by
  rw [(h n).2 q, occ, if_pos hq]
def GB (cl : List (List Int)) (I G B : List Int) : Prop := G.length = cl.length ∧ B.length = cl.length ∧ ∀ q : Nat, q < cl.length → rd G (q : Int) = ((rd_L2 cl (q : Int)).countP (sat I) : Nat) ∧ rd B (q : Int) = ((rd_L2 cl (q : Int)).countP (neg I) : Nat)
theorem GoodCl.row {sw : Int} {cl : List (List Int)} (hg : GoodCl sw cl) (q : Nat) (hq : q < cl.length) : (rd_L2 cl (q : Int)).length ≤ 400 ∧ ∀ n ∈ rd_L2 cl (q : Int), GoodN sw n := hg.2 _ (by rw [rdE_L2 cl q hq]; exact List.getElem_mem hq)
theorem inc_row (d : Int) (hd : d = 1 ∨ d = -1) {sw : Int} {cl : List (List Int)} {H : Int → List Int} (hg : GoodCl sw cl) (hH : HOk cl cl.length 0 H) (G : List Int) (hl : G.length = cl.length) (hb : ∀ q : Nat, q < cl.length → 0 ≤ rd G (q : Int) ∧ rd G (q : Int) ≤ 400) (v : Int) :
    ∃ G', impl_trail.inc d G (H v) = some G' ∧ G'.length = cl.length ∧ ∀ q : Nat, q < cl.length → rd G' (q : Int) = rd G (q : Int) + d * (rd_L2 cl (q : Int)).count v := by
  obtain ⟨G', e1, e2, e3⟩ := inc_ok d hd (H v) G (by rw [hl]; exact (hH v).1) (fun i hi => by
    rw [hl] at hi
    have := hb i hi
    have hc := hH.count v i hi
    have := List.count_le_length (a := v) (l := rd_L2 cl (i : Int))
    have := (hg.row i hi).1
    omega)
  exact ⟨G', e1, e2.trans hl, fun q hq => by rw [e3 q (by omega), hH.count v q hq]⟩
theorem stand_ok {sw : Int} (hs : 0 ≤ sw ∧ sw ≤ 400) {cl : List (List Int)} {H : Int → List Int} (hg : GoodCl sw cl) (hH : HOk cl cl.length 0 H) {I G B S : List Int} (hI : IOk sw I) (hgb : GB cl I G B) (hS : S.length < 1000000) (v : Int) (hv : GoodN sw v) (h0 : rd I (v.natAbs : Int) = 0) :
    ∃ G' B', impl_trail_stand.f H G B S I v = some (G', B', S ++ [v], I.set v.natAbs v) ∧ GB cl (I.set v.natAbs v) G' B' := by
  obtain ⟨v0, v1, v2⟩ := hv
  obtain ⟨g1, g2, g3⟩ := hgb
  have bG : ∀ q : Nat, q < cl.length → 0 ≤ rd G (q : Int) ∧ rd G (q : Int) ≤ 400 := fun q hq => by
    have := List.countP_le_length (p := sat I) (l := rd_L2 cl (q : Int))
    have := (hg.row q hq).1
    have := (g3 q hq).1
    omega
  have bB : ∀ q : Nat, q < cl.length → 0 ≤ rd B (q : Int) ∧ rd B (q : Int) ≤ 400 := fun q hq => by
    have := List.countP_le_length (p := neg I) (l := rd_L2 cl (q : Int))
    have := (hg.row q hq).1
    have := (g3 q hq).2
    omega
  obtain ⟨G', a1, a2, a3⟩ := inc_row 1 (.inl rfl) hg hH G g1 bG v
  obtain ⟨B', b1, b2, b3⟩ := inc_row 1 (.inl rfl) hg hH B g2 bB (-v)
  refine ⟨G', B', ?_, a2, b2, fun q hq => ?_⟩
  · unfold impl_trail_stand.f
    have hIl := hI.1
    rw [abs_eq v (by omega) (by omega), wrap64_id (x := -v) (by omega) (by omega), if_pos (by omega), if_pos (by omega), if_pos (by omega), if_pos ⟨lit_wf v (by omega) (by omega), lit_wf (-v) (by omega) (by omega)⟩, a1, Option.bind_some, b1, Option.bind_some, Int.toNat_natCast]
  · obtain ⟨c1, c2⟩ := sat_set hI v ⟨v0, v1, v2⟩ h0 _ (hg.row q hq).2
    have := g3 q hq
    rw [a3 q hq, b3 q hq, c1, c2, this.1, this.2]
    constructor <;> omega
/-- The clause's numbers: each stands, stands the other way round, or does not stand. -/
theorem parts {sw : Int} {I : List Int} (hI : IOk sw I) : ∀ p : List Int, (∀ n ∈ p, GoodN sw n) → p.countP (sat I) + p.countP (neg I) + p.countP (fre I) = p.length := by
  intro p
  induction p with
  | nil => intro _; rfl
  | cons n p ih =>
    intro hp
    have h1 := ih (fun x hx => hp x (List.mem_cons_of_mem _ hx))
    obtain ⟨n0, n1, n2⟩ := hp n (List.mem_cons_self)
    have h2 := hI.2 n.natAbs (by have := hI.1; omega)
    rw [List.countP_cons, List.countP_cons, List.countP_cons, List.length_cons]
    simp only [sat, neg, fre, decide_eq_true_eq]
    split <;> split <;> split <;> omega
def stRes (I : List Int) : List Int → Int → Nat → Int × Int
  | [], left, kn => if kn = 0 then (2, 0) else if kn = 1 then (1, left) else (0, 0)
  | n :: r, left, kn => if sat I n = true then (0, 0) else if fre I n = true then stRes I r n (kn + 1) else stRes I r left kn
def lastF (I : List Int) : List Int → Int → Int
  | [], l => l
  | n :: r, l => if fre I n = true then lastF I r n else lastF I r l
theorem stRes_sat (I : List Int) : ∀ p left kn, 0 < p.countP (sat I) → stRes I p left kn = (0, 0) := by
  intro p
  induction p with
  | nil => intro _ _ h; cases h
  | cons n p ih =>
    intro left kn h
    rw [stRes]
    by_cases e : sat I n = true
    · rw [if_pos e]
    · rw [if_neg e]
      rw [List.countP_cons, if_neg e] at h
      split <;> exact ih _ _ h
theorem stRes_no (I : List Int) : ∀ p left kn, p.countP (sat I) = 0 → stRes I p left kn = if kn + p.countP (fre I) = 0 then (2, 0) else if kn + p.countP (fre I) = 1 then (1, lastF I p left) else (0, 0) := by
  intro p
  induction p with
  | nil => intro left kn _; rfl
  | cons n p ih =>
    intro left kn h
    have e : ¬ sat I n = true := fun e => by rw [List.countP_cons, if_pos e] at h; omega
    rw [List.countP_cons, if_neg e] at h
    rw [stRes, if_neg e, lastF, List.countP_cons]
    by_cases f : fre I n = true
    · rw [if_pos f, if_pos f, if_pos f, ih _ _ h, show kn + 1 + p.countP (fre I) = kn + (p.countP (fre I) + 1) by omega]
    · rw [if_neg f, if_neg f, if_neg f, ih _ _ h]
      rfl
theorem lastF_mem (I : List Int) : ∀ p l, (lastF I p l = l ∧ p.countP (fre I) = 0) ∨ (lastF I p l ∈ p ∧ fre I (lastF I p l) = true) := by
  intro p
  induction p with
  | nil => intro l; exact .inl ⟨rfl, rfl⟩
  | cons n p ih =>
    intro l
    rw [lastF, List.countP_cons]
    by_cases f : fre I n = true
    · rw [if_pos f]
      right
      rcases ih n with ⟨a, _⟩ | ⟨a, b⟩
      · rw [a]; exact ⟨List.mem_cons_self, f⟩
      · exact ⟨List.mem_cons_of_mem _ a, b⟩
    · rw [if_neg f, if_neg f]
      rcases ih l with ⟨a, b⟩ | ⟨a, b⟩
      · exact .inl ⟨a, b⟩
      · exact .inr ⟨List.mem_cons_of_mem _ a, b⟩
theorem fre_uniq (I : List Int) (p : List Int) (h : p.countP (fre I) = 1) (a b : Int) (ha : a ∈ p) (hb : b ∈ p) (fa : fre I a = true) (fb : fre I b = true) : a = b := by
  rw [List.countP_eq_length_filter, List.length_eq_one_iff] at h
  obtain ⟨c, hc⟩ := h
  have h1 : a ∈ p.filter (fre I) := List.mem_filter.2 ⟨ha, fa⟩
  have h2 : b ∈ p.filter (fre I) := List.mem_filter.2 ⟨hb, fb⟩
  rw [hc, List.mem_singleton] at h1 h2
  rw [h1, h2]
theorem left_ok {sw : Int} (hs : 0 ≤ sw ∧ sw ≤ 400) {I : List Int} (hI : IOk sw I) (p : List Int) (hp : ∀ n ∈ p, GoodN sw n) (h : 0 < p.countP (fre I)) : ∃ v ∈ p, fre I v = true ∧ impl_trail_left.f I p = some v := by
  have hIl := hI.1
  have main : ∀ (r : List Int) (i : Nat), (∀ n ∈ r, GoodN sw n) → 0 < r.countP (fre I) → ∃ k : Nat, ∃ hk : k < r.length, idxG (impl_trail_left.q I) r (i : Int) = some ((i + k : Nat) : Int) ∧ fre I r[k] = true := by
    intro r
    induction r with
    | nil => intro i _ h; cases h
    | cons n r ih =>
      intro i hr h
      obtain ⟨n0, n1, n2⟩ := hr n (List.mem_cons_self)
      have hq : impl_trail_left.q I n = some (fre I n) := by
        unfold impl_trail_left.q
        rw [abs_eq n (by omega) (by omega), if_pos (by omega)]
        rfl
      by_cases f : fre I n = true
      · refine ⟨0, by simp, ?_, f⟩
        simp only [idxG, hq, Option.bind_some, f, ↓reduceIte]
        rfl
      · rw [List.countP_cons, if_neg f] at h
        obtain ⟨k, hk, e1, e2⟩ := ih (i + 1) (fun x hx => hr x (List.mem_cons_of_mem _ hx)) h
        refine ⟨k + 1, by simp; omega, ?_, by simpa using e2⟩
        simp only [idxG, hq, Option.bind_some, f, ↓reduceIte, Bool.false_eq_true]
        rw [show i + (k + 1) = i + 1 + k by omega, ← e1]
        rfl
  obtain ⟨k, hk, e1, e2⟩ := main p 0 hp h
  refine ⟨p[k], List.getElem_mem hk, e2, ?_⟩
  unfold impl_trail_left.f
  have e1 : idxG (impl_trail_left.q I) p 0 = some ((0 + k : Nat) : Int) := e1
  rw [e1, Option.bind_some, if_pos (by omega), Nat.zero_add, rd_get _ _ hk]
theorem state_ev {sw : Int} (hs : 0 ≤ sw ∧ sw ≤ 400) {I : List Int} (hI : IOk sw I) (p : List Int) (hl : p.length ≤ 400) (hp : ∀ n ∈ p, GoodN sw n) :
    ∀ d i, p.length - i = d → i ≤ p.length → ∀ (left : Int) (kn : Nat), kn ≤ i → Ev (fun k => spec_l18State.l0 k p I left (kn : Int) (i : Int)) (stRes I (p.drop i) left kn) := by
  have hIl := hI.1
  intro d
  induction d with
  | zero =>
    intro i hd hi left kn hc
    rw [List.drop_eq_nil_of_le (by omega), stRes]
    refine Ev.step (f := fun _ => some _) (fun k => ?_) (Ev.now _)
    rw [spec_l18State.l0, if_neg (by omega)]
    by_cases c0 : kn = 0
    · rw [if_pos c0, if_pos (by omega)]
    · rw [if_neg c0, if_neg (by omega)]
      by_cases c1 : kn = 1
      · rw [if_pos c1, if_pos (by omega)]
      · rw [if_neg c1, if_neg (by omega)]
  | succ d ih =>
    intro i hd hi left kn hc
    have hil : i < p.length := by omega
    have hmem : p[i] ∈ p := List.getElem_mem hil
    obtain ⟨n0, n1, n2⟩ := hp _ hmem
    rw [List.drop_eq_getElem_cons hil, stRes]
    obtain ⟨x, hx⟩ : ∃ x, x = p[i] := ⟨_, rfl⟩
    have hrd := rd_get p i hil
    rw [← hx] at n0 n1 n2 hrd ⊢
    have ha := abs_eq x (by omega) (by omega)
    have step : ∀ r, Ev (fun k => if rd I (x.natAbs : Int) = x then some (0, 0) else if rd I (x.natAbs : Int) = 0 then spec_l18State.l0 k p I x (((kn + 1 : Nat)) : Int) ((i + 1 : Nat) : Int) else spec_l18State.l0 k p I left (kn : Int) ((i + 1 : Nat) : Int)) r → Ev (fun k => spec_l18State.l0 k p I left (kn : Int) (i : Int)) r := fun r hr => Ev.step (fun k => by
      rw [spec_l18State.l0, if_pos (by omega), if_pos (by omega), hrd, spec_l18Abs.f, Option.bind_some, ha, if_pos (by omega), if_pos (by omega), wrap_next i (by omega), wrap_next kn (by omega)]) hr
    apply step
    by_cases c1 : rd I (x.natAbs : Int) = x
    · rw [if_pos (show sat I x = true from decide_eq_true c1)]
      exact Ev.congr (fun k => if_pos c1) (Ev.now _)
    · rw [if_neg (show ¬ sat I x = true from fun h => c1 (of_decide_eq_true h))]
      by_cases c2 : rd I (x.natAbs : Int) = 0
      · rw [if_pos (show fre I x = true from decide_eq_true c2)]
        exact Ev.congr (fun k => by rw [if_neg c1, if_pos c2]) (ih (i + 1) (by omega) (by omega) x (kn + 1) (by omega))
      · rw [if_neg (show ¬ fre I x = true from fun h => c2 (of_decide_eq_true h))]
        exact Ev.congr (fun k => by rw [if_neg c1, if_neg c2]) (ih (i + 1) (by omega) (by omega) left kn (by omega))
def l1K (cl : List (List Int)) (sw : Int) (I S : List Int) (i : Int) (k : Nat) (bt : Int × Int) : Option (List Int × Bool) := if bt.1 = 2 then (some (S, false)) else (if bt.1 = 1 then ((spec_l18Abs.f bt.2).bind fun t137 => (if 0 ≤ t137 then (if t137 < (I.length : Int) then (if S.length < 17592186044416 then (spec_l18Unit.l1 k (I.set (t137 : Int).toNat bt.2) (S ++ [bt.2]) 0 sw cl) else (none)) else (none)) else (none))) else (spec_l18Unit.l1 k I S (wrap64 (i + 1)) sw cl))
theorem l1_step (cl : List (List Int)) (sw : Int) (I S : List Int) (i : Nat) (hi : i < cl.length) (st : Int × Int) (hst : Ev (fun k => spec_l18State.f k (rd_L2 cl (i : Int)) I) st) (r : List Int × Bool) (h : Ev (fun k => l1K cl sw I S (i : Int) k st) r) : Ev (fun k => spec_l18Unit.l1 k I S (i : Int) sw cl) r :=
  Ev.step (f := fun k => (spec_l18State.f k (rd_L2 cl (i : Int)) I).bind (l1K cl sw I S (i : Int) k)) (fun k => by
    rw [spec_l18Unit.l1, if_pos (by omega), if_pos (by omega)]
    rfl) (Ev.bind hst h)
/-- What the scan from i finds, told for both. -/
def ScanR (sw : Int) (cl : List (List Int)) (I S : List Int) (i : Nat) (o : Option (Option (Nat × Bool))) : Prop :=
  (o = some none ∧ Ev (fun k => spec_l18Unit.l1 k I S (i : Int) sw cl) (S, true) ∧ ∀ q, i ≤ q → q < cl.length → 0 < (rd_L2 cl (q : Int)).countP (sat I) ∨ 1 < (rd_L2 cl (q : Int)).countP (fre I)) ∨
  (∃ j, o = some (some (j, false)) ∧ Ev (fun k => spec_l18Unit.l1 k I S (i : Int) sw cl) (S, false) ∧ j < cl.length ∧ (rd_L2 cl (j : Int)).countP (sat I) = 0 ∧ (rd_L2 cl (j : Int)).countP (fre I) = 0) ∨
  (∃ j v, o = some (some (j, true)) ∧ j < cl.length ∧ impl_trail_left.f I (rd_L2 cl (j : Int)) = some v ∧ v ∈ rd_L2 cl (j : Int) ∧ GoodN sw v ∧ rd I (v.natAbs : Int) = 0 ∧ (rd_L2 cl (j : Int)).countP (sat I) = 0 ∧ (rd_L2 cl (j : Int)).countP (fre I) = 1 ∧ ∀ r, Ev (fun k => spec_l18Unit.l1 k (I.set v.natAbs v) (S ++ [v]) 0 sw cl) r → Ev (fun k => spec_l18Unit.l1 k I S (i : Int) sw cl) r)
theorem scan_ok {sw : Int} (hs : 0 ≤ sw ∧ sw ≤ 400) {cl : List (List Int)} (hg : GoodCl sw cl) {I G B : List Int} (hI : IOk sw I) (hgb : GB cl I G B) (S : List Int) (hS : S.length < 1000000) :
    ∀ d i, cl.length - i = d → i ≤ cl.length → ScanR sw cl I S i (impl_trail_unit.scan G B (cl.drop i) i) := by
  have hcl := hg.1
  have hIl := hI.1
  obtain ⟨gl, bl, g3⟩ := hgb
  intro d
  induction d with
  | zero =>
    intro i hd hi
    left
    rw [List.drop_eq_nil_of_le (by omega)]
    exact ⟨rfl, Ev.step (f := fun _ => some (S, true)) (fun k => by rw [spec_l18Unit.l1, if_neg (by omega)]) (Ev.now _), fun q h1 h2 => by omega⟩
  | succ d ih =>
    intro i hd hi
    have hil : i < cl.length := by omega
    obtain ⟨hlen, hn⟩ := hg.row i hil
    obtain ⟨gi, bi⟩ := g3 i hil
    have hpt := parts hI _ hn
    have hst := state_ev hs hI _ hlen hn _ 0 rfl (by omega) 0 0 (by omega)
    have hleft := left_ok hs hI _ hn
    have huniq := fre_uniq I (rd_L2 cl (i : Int))
    rw [List.drop_zero] at hst
    have hst : Ev (fun k => spec_l18State.f k (rd_L2 cl (i : Int)) I) (stRes I (rd_L2 cl (i : Int)) 0 0) := Ev.congr (fun k => rfl) hst
    rw [List.drop_eq_getElem_cons hil, ← rdE_L2 cl i hil, impl_trail_unit.scan, if_pos ⟨by omega, by omega⟩, gi, bi, wrap64_id (by omega) (by omega)]
    have go : stRes I (rd_L2 cl (i : Int)) 0 0 = (0, 0) → ∀ r, Ev (fun k => spec_l18Unit.l1 k I S ((i + 1 : Nat) : Int) sw cl) r → Ev (fun k => spec_l18Unit.l1 k I S (i : Int) sw cl) r := fun e r hr => by
      rw [e] at hst
      refine l1_step cl sw I S i hil _ hst r (Ev.congr (fun k => ?_) hr)
      simp only [l1K]
      rw [if_neg (by omega), if_neg (by omega), wrap_next i (by omega)]
    have rest : stRes I (rd_L2 cl (i : Int)) 0 0 = (0, 0) → (0 < (rd_L2 cl (i : Int)).countP (sat I) ∨ 1 < (rd_L2 cl (i : Int)).countP (fre I)) → ScanR sw cl I S i (impl_trail_unit.scan G B (cl.drop (i + 1)) (i + 1)) := fun e ho => (ih (i + 1) (by omega) (by omega)).imp (fun ⟨a1, a2, a3⟩ => ⟨a1, go e _ a2, fun q h1 h2 => by
      by_cases eq : q = i
      · subst eq; exact ho
      · exact a3 q (by omega) h2⟩) (Or.imp (fun ⟨j, a1, a2, a3⟩ => ⟨j, a1, go e _ a2, a3⟩) (fun ⟨j, v, a1, a2, a3, a4, a5, a6, a7, a8, a9⟩ => ⟨j, v, a1, a2, a3, a4, a5, a6, a7, a8, fun r hr => go e _ (a9 r hr)⟩))
    by_cases c1 : 0 < (rd_L2 cl (i : Int)).countP (sat I)
    · rw [if_pos (by omega)]
      exact rest (stRes_sat I _ _ _ c1) (.inl c1)
    · rw [if_neg (by omega)]
      have c1 : (rd_L2 cl (i : Int)).countP (sat I) = 0 := by omega
      have hno := stRes_no I (rd_L2 cl (i : Int)) 0 0 c1
      rw [Nat.zero_add] at hno
      by_cases c2 : 1 < (rd_L2 cl (i : Int)).countP (fre I)
      · rw [if_pos (by omega)]
        rw [if_neg (by omega), if_neg (by omega)] at hno
        exact rest hno (.inr c2)
      · rw [if_neg (by omega)]
        right
        by_cases c3 : (rd_L2 cl (i : Int)).countP (fre I) = 0
        · rw [if_pos (by omega)]
          rw [if_pos c3] at hno
          rw [hno] at hst
          exact .inl ⟨i, rfl, l1_step cl sw I S i hil _ hst _ (Ev.congr (fun k => by simp only [l1K]; rw [if_pos trivial]) (Ev.now _)), hil, c1, c3⟩
        · rw [if_neg (by omega)]
          have c4 : (rd_L2 cl (i : Int)).countP (fre I) = 1 := by omega
          rw [if_neg c3, if_pos c4] at hno
          obtain ⟨v, v1, v2, v3⟩ := hleft (by omega)
          have hlf : lastF I (rd_L2 cl (i : Int)) 0 = v := by
            rcases lastF_mem I (rd_L2 cl (i : Int)) 0 with ⟨_, b⟩ | ⟨a, b⟩
            · omega
            · exact huniq c4 _ _ a v1 b v2
          rw [hno, hlf] at hst
          obtain ⟨n0, n1, n2⟩ := hn v v1
          refine .inr ⟨i, v, rfl, hil, v3, v1, ⟨n0, n1, n2⟩, of_decide_eq_true v2, c1, c4, fun r hr => l1_step cl sw I S i hil _ hst r (Ev.congr (fun k => ?_) hr)⟩
          simp only [l1K]
          rw [if_neg (by omega), if_pos trivial, spec_l18Abs.f, Option.bind_some, abs_eq v (by omega) (by omega), if_pos (by omega), if_pos (by omega), if_pos (by omega), Int.toNat_natCast]
/-- The seats that do not stand. -/
def zer (I : List Int) : Nat := I.countP (fun x => decide (x = 0))
theorem zer_set {sw : Int} {I : List Int} (hI : IOk sw I) (v : Int) (hv : GoodN sw v) (h0 : rd I (v.natAbs : Int) = 0) : zer (I.set v.natAbs v) + 1 = zer I := by
  obtain ⟨v0, v1, v2⟩ := hv
  have hl : v.natAbs < I.length := by have := hI.1; omega
  rw [rd_get I _ hl] at h0
  unfold zer
  rw [List.countP_set hl, h0]
  have : 0 < I.countP (fun x => decide (x = 0)) := List.countP_pos_iff.2 ⟨I[v.natAbs], List.getElem_mem hl, by rw [h0]; rfl⟩
  simp [v0]
  omega
theorem unit_ok {sw : Int} (hs : 0 ≤ sw ∧ sw ≤ 400) {cl : List (List Int)} (hg : GoodCl sw cl) {H : Int → List Int} (hH : HOk cl cl.length 0 H) :
    ∀ (z : Nat) (I G B S : List Int), zer I = z → IOk sw I → GB cl I G B → S.length + z ≤ 1000 →
      ∃ b G1 B1 S1 I1, Ev (fun k => impl_trail_unit.f H cl k G B S I) (b, G1, B1, S1, I1) ∧ Ev (fun k => spec_l18Unit.l1 k I S 0 sw cl) (S1, b) ∧ S1.length ≤ 1000 := by
  intro z
  induction z with
  | zero =>
    intro I G B S hz hI hgb hS
    rcases scan_ok hs hg hI hgb S (by omega) _ 0 rfl (by omega) with ⟨a1, a2, _⟩ | ⟨j, a1, a2, _⟩ | ⟨j, v, a1, a2, a3, a3m, a4, a5, _⟩
    · exact ⟨true, G, B, S, I, Ev.step (f := fun _ => some _) (fun k => by rw [List.drop_zero] at a1; rw [impl_trail_unit.f, a1]; rfl) (Ev.now _), a2, by omega⟩
    · exact ⟨false, G, B, S, I, Ev.step (f := fun _ => some _) (fun k => by rw [List.drop_zero] at a1; rw [impl_trail_unit.f, a1]; rfl) (Ev.now _), a2, by omega⟩
    · have := zer_set hI v a4 a5
      omega
  | succ z ih =>
    intro I G B S hz hI hgb hS
    rcases scan_ok hs hg hI hgb S (by omega) _ 0 rfl (by omega) with ⟨a1, a2, _⟩ | ⟨j, a1, a2, _⟩ | ⟨j, v, a1, a2, a3, a3m, a4, a5, _, _, a6⟩
    · exact ⟨true, G, B, S, I, Ev.step (f := fun _ => some _) (fun k => by rw [List.drop_zero] at a1; rw [impl_trail_unit.f, a1]; rfl) (Ev.now _), a2, by omega⟩
    · exact ⟨false, G, B, S, I, Ev.step (f := fun _ => some _) (fun k => by rw [List.drop_zero] at a1; rw [impl_trail_unit.f, a1]; rfl) (Ev.now _), a2, by omega⟩
    · have hz2 := zer_set hI v a4 a5
      obtain ⟨G', B', c1, c2⟩ := stand_ok hs hg hH hI hgb (S := S) (by omega) v a4 a5
      obtain ⟨b, G1, B1, S1, I1, d1, d2, d3⟩ := ih (I.set v.natAbs v) G' B' (S ++ [v]) (by omega) (hI.set v a4) c2 (by rw [List.length_append, List.length_singleton]; omega)
      refine ⟨b, G1, B1, S1, I1, Ev.step (fun k => ?_) d1, a6 _ d2, d3⟩
      rw [List.drop_zero] at a1
      rw [impl_trail_unit.f, a1, Option.bind_some]
      dsimp only
      rw [a3, Option.bind_some, c1, Option.bind_some]
/-- The seats behind some numbers that stand. -/
def Iset (I : List Int) (xs : List Int) : List Int := xs.foldl (fun I v => I.set v.natAbs v) I
theorem spec_stands {sw : Int} (hs : 0 ≤ sw ∧ sw ≤ 400) (cl : List (List Int)) (set out : List Int) (hl : set.length ≤ 1048576) (hset : ∀ y ∈ set, GoodN sw y) (r : List Int × Bool) :
    ∀ d i, set.length - i = d → i ≤ set.length → ∀ I : List Int, (I.length : Int) = sw + 1 → Ev (fun k => spec_l18Unit.l1 k (Iset I (set.drop i)) out 0 sw cl) r → Ev (fun k => spec_l18Unit.l0 k set I out (i : Int) sw cl) r := by
  intro d
  induction d with
  | zero =>
    intro i hd hi I hI hr
    rw [List.drop_eq_nil_of_le (by omega)] at hr
    exact Ev.step (fun k => by rw [spec_l18Unit.l0, if_neg (by omega)]; rfl) hr
  | succ d ih =>
    intro i hd hi I hI hr
    have hil : i < set.length := by omega
    obtain ⟨n0, n1, n2⟩ := hset _ (List.getElem_mem hil)
    rw [List.drop_eq_getElem_cons hil] at hr
    refine Ev.step (fun k => ?_) (ih (i + 1) (by omega) (by omega) (I.set (set[i]).natAbs set[i]) (by rw [List.length_set]; exact hI) hr)
    rw [spec_l18Unit.l0, if_pos (by omega), if_pos (by omega), rd_get _ _ hil, spec_l18Abs.f, Option.bind_some, abs_eq _ (by omega) (by omega), if_pos (by omega), if_pos (by omega), Int.toNat_natCast, wrap_next i (by omega)]
theorem rd_zeros (n a : Nat) : rd (List.replicate n 0) (a : Int) = 0 := by
  unfold rd
  rw [List.getD_eq_getElem?_getD, Int.toNat_natCast]
  by_cases h : a < n
  · rw [List.getElem?_replicate, if_pos h]; rfl
  · rw [List.getElem?_eq_none (by simp; omega)]; rfl
theorem GoodCl.of {sw : Int} {cl : List (List Int)} (h1 : cl.length ≤ 4000) (h2 : ∀ p ∈ cl, GoodClause sw p) : GoodCl sw cl := ⟨h1, fun p hp => ⟨(h2 p hp).1, fun n hn => by
  obtain ⟨i, hi, rfl⟩ := List.mem_iff_getElem.1 hn
  have := (h2 p hp).2 i hi
  rw [rd_get _ _ hi] at this
  exact this⟩⟩
theorem unit_zero {sw : Int} (hs : 0 ≤ sw ∧ sw ≤ 400) {cl : List (List Int)} (hg : GoodCl sw cl) : IOk sw (List.replicate (sw + 1).toNat 0) ∧ GB cl (List.replicate (sw + 1).toNat 0) (List.replicate cl.length 0) (List.replicate cl.length 0) ∧ ((zer (List.replicate (sw + 1).toNat 0) + ([] : List Int).length : Nat) : Int) = sw + 1 := by
  refine ⟨⟨by simp; omega, fun a _ => .inl (rd_zeros _ _)⟩, ⟨by simp, by simp, fun q hq => ?_⟩, ?_⟩
  · obtain ⟨_, hn⟩ := hg.row q hq
    rw [rd_zeros]
    have e1 : (rd_L2 cl (q : Int)).countP (sat (List.replicate (sw + 1).toNat 0)) = 0 := List.countP_eq_zero.2 (fun n hn2 => by
      have := (hn n hn2).1
      simp only [sat, rd_zeros, decide_eq_true_eq]
      omega)
    have e2 : (rd_L2 cl (q : Int)).countP (neg (List.replicate (sw + 1).toNat 0)) = 0 := List.countP_eq_zero.2 (fun n hn2 => by
      have := (hn n hn2).1
      simp only [neg, rd_zeros, decide_eq_true_eq]
      omega)
    rw [e1, e2]
    exact ⟨rfl, rfl⟩
  · unfold zer
    rw [List.countP_replicate]
    simp
    omega

/-! hasU -/
theorem hasU_ev (l : List Int) (a : Int) (hl : l.length ≤ 1048576) : ∀ d i, l.length - i = d → i ≤ l.length → Ev (fun k => spec_l1Has.l0 k l a (i : Int)) (decide (a ∈ l.drop i)) := by
  intro d
  induction d with
  | zero =>
    intro i hd hi
    rw [List.drop_eq_nil_of_le (by omega)]
    refine Ev.step (f := fun _ => some false) (fun k => ?_) (Ev.now _)
    simp (disch := omega) only [spec_l1Has.l0, ↓if_neg]
  | succ d ih =>
    intro i hd hi
    have hil : i < l.length := by omega
    have hdrop : l.drop i = rd l (i : Int) :: l.drop (i + 1) := by
      rw [List.drop_eq_getElem_cons hil]
      congr 1
      unfold rd
      rw [List.getD_eq_getElem?_getD, Int.toNat_natCast, List.getElem?_eq_getElem hil]
      rfl
    rw [hdrop]
    by_cases c : rd l (i : Int) = a
    · have e : decide (a ∈ rd l (i : Int) :: l.drop (i + 1)) = true := decide_eq_true (by rw [c]; exact List.mem_cons_self ..)
      rw [e]
      refine Ev.step (f := fun _ => some true) (fun k => ?_) (Ev.now _)
      simp (disch := omega) only [spec_l1Has.l0, ↓if_pos, if_pos c]
    · have e : decide (a ∈ rd l (i : Int) :: l.drop (i + 1)) = decide (a ∈ l.drop (i + 1)) := by
        have : (a ∈ rd l (i : Int) :: l.drop (i + 1)) = (a ∈ l.drop (i + 1)) := by
          rw [List.mem_cons]
          exact propext ⟨fun h => h.elim (fun h => absurd h.symm c) id, .inr⟩
        simp only [this]
      rw [e]
      refine Ev.step (fun k => ?_) (ih (i + 1) (by omega) (by omega))
      simp (disch := omega) only [spec_l1Has.l0, ↓if_pos, if_neg c, wrap_next]
theorem hasU (l : List Int) (a : Int) (hl : l.length ≤ 1048576) : Ev (fun k => spec_l1Has.f k l a) (decide (a ∈ l)) := by
  have h := hasU_ev l a hl _ 0 rfl (by omega)
  rw [List.drop_zero] at h
  exact Ev.congr (fun k => rfl) h

/-! draws -/
/-- A code that draws are made of. -/
structure Code (b : List Int) : Prop where
  len : b.length ≤ 1048576
  byte : ∀ i : Nat, i < b.length → 0 ≤ rd b (i : Int) ∧ rd b (i : Int) ≤ 255
def At (b : List Int) (p : Int) : Prop := 0 ≤ p ∧ p ≤ (b.length : Int)
theorem next_ev (b : List Int) (hb : Code b) (p : Int) (hp : At b p) : ∃ v q, spec_l1Rd_next.f b p = some (v, q) ∧ 0 ≤ v ∧ v ≤ 255 ∧ At b q := by
  have hl := hb.len
  obtain ⟨h0, h1⟩ := hp
  obtain ⟨i, rfl⟩ := Int.eq_ofNat_of_zero_le h0
  unfold spec_l1Rd_next.f
  by_cases c : (i : Int) ≥ (b.length : Int)
  · rw [if_pos c]
    exact ⟨0, i, rfl, by omega, by omega, h0, h1⟩
  · rw [if_neg c]
    have e1 : wrap64 ((i : Int) + 1) = (i : Int) + 1 := wrap64_id (by omega) (by omega)
    have e2 : wrap64 ((i : Int) + 1 - 1) = (i : Int) := by rw [wrap64_id (by omega) (by omega)]; omega
    have hby := hb.byte i (by omega)
    have e3 : wrap64 (rd b (i : Int)) = rd b (i : Int) := wrap64_id (by omega) (by omega)
    rw [e1, e2, if_pos (by omega), if_pos (by omega), e3]
    exact ⟨_, _, rfl, hby.1, hby.2, by omega, by omega⟩
theorem below_ev (b : List Int) (hb : Code b) (p : Int) (hp : At b p) (n : Int) (hn : n ≤ 65536) : ∃ v q, spec_l1Rd_below.f b p n = some (v, q) ∧ 0 ≤ v ∧ (v < n ∨ (n ≤ 1 ∧ v = 0)) ∧ At b q := by
  unfold spec_l1Rd_below.f
  by_cases c : n ≤ 1
  · rw [if_pos c]
    exact ⟨0, p, rfl, by omega, .inr ⟨c, rfl⟩, hp⟩
  · rw [if_neg c]
    obtain ⟨m, rfl⟩ := Int.eq_ofNat_of_zero_le (show 0 ≤ n by omega)
    by_cases c2 : ((m : Nat) : Int) ≤ 256
    · rw [if_pos c2]
      obtain ⟨v, q, e, v0, v1, hq⟩ := next_ev b hb p hp
      obtain ⟨u, rfl⟩ := Int.eq_ofNat_of_zero_le v0
      rw [e]
      simp only [Option.bind_some]
      rw [if_neg (by omega)]
      refine ⟨_, _, rfl, ?_, .inl ?_, hq⟩
      · rw [← Int.ofNat_tmod]; exact Int.natCast_nonneg _
      · rw [← Int.ofNat_tmod]; exact Int.ofNat_lt.2 (Nat.mod_lt _ (by omega))
    · rw [if_neg c2]
      obtain ⟨v, q, e, v0, v1, hq⟩ := next_ev b hb p hp
      obtain ⟨v', q', e', v0', v1', hq'⟩ := next_ev b hb q hq
      obtain ⟨u, rfl⟩ := Int.eq_ofNat_of_zero_le v0
      obtain ⟨u', rfl⟩ := Int.eq_ofNat_of_zero_le v0'
      have w1 : wrap64 ((u : Int) * 256) = ((u * 256 : Nat) : Int) := by rw [wrap64_id (by omega) (by omega)]; omega
      have w2 : wrap64 (((u * 256 : Nat) : Int) + (u' : Int)) = ((u * 256 + u' : Nat) : Int) := by rw [wrap64_id (by omega) (by omega)]; omega
      rw [e]
      simp only [Option.bind_some]
      rw [e']
      simp only [Option.bind_some]
      rw [if_neg (by omega), w1, w2]
      refine ⟨_, _, rfl, ?_, .inl ?_, hq'⟩
      · rw [← Int.ofNat_tmod]; exact Int.natCast_nonneg _
      · rw [← Int.ofNat_tmod]; exact Int.ofNat_lt.2 (Nat.mod_lt _ (by omega))
theorem once_ev (b : List Int) (hb : Code b) (p : Int) (hp : At b p) (n : Int) (hn : n ≤ 65536) : ∃ v q, spec_l1Rd_once.f b p n = some (v, q) ∧ At b q := by
  obtain ⟨v, q, e, _, _, hq⟩ := below_ev b hb p hp n hn
  unfold spec_l1Rd_once.f
  rw [e]
  exact ⟨_, _, rfl, hq⟩

/-! codeOf -/
theorem wf_u8 {x : Int} (h : (Lit.int .u8 x).wf = true) : 0 ≤ x ∧ x ≤ 255 := by
  simp [Lit.wf, IntKind.min, IntKind.max, IntKind.signed, IntKind.bits] at h
  omega
theorem code_of (l : List Int) (q : ∀ x ∈ l, (Lit.int .u8 x).wf = true) (hl : l.length ≤ 1048576) : Code l := ⟨hl, fun i hi => by
  have e : rd l (i : Int) = l[i] := by
    unfold rd
    rw [List.getD_eq_getElem?_getD, Int.toNat_natCast, List.getElem?_eq_getElem hi]
    rfl
  rw [e]
  exact wf_u8 (q _ (List.getElem_mem hi))⟩

/-! drawsOff -/
theorem wrapU_w64 (x : Int) : W64 (IntKind.u64.wrap x) := by
  unfold W64
  rw [wrap_u64]
  omega
theorem word_ev (b : List Int) (hb : Code b) (p : Int) (hp : At b p) : ∃ v q, Ev (fun k => spec_l1Rd_word.f k b p) (v, q) ∧ 0 ≤ v ∧ v < 18446744073709551616 ∧ At b q := by
  obtain ⟨s, ⟨h0, h1, h2⟩, hr⟩ := inv_loop 8 (fun i (s : Int × Int) => 0 ≤ s.1 ∧ s.1 < 18446744073709551616 ∧ At b s.2) (fun k s i => spec_l1Rd_word.l0 k s.1 i b s.2)
    (fun i hi s ⟨h0, h1, h2⟩ => by
      obtain ⟨v, q, e, v0, v1, hq⟩ := next_ev b hb s.2 h2
      have hw : W64 (Go.bits .or .u64 (IntKind.u64.wrap (s.1 * 256)) (IntKind.u64.wrap v)) := (or_w64 (wrapU_w64 _) (wrapU_w64 _)).1
      unfold W64 at hw
      refine ⟨(Go.bits .or .u64 (IntKind.u64.wrap (s.1 * 256)) (IntKind.u64.wrap v), q), ⟨by omega, by omega, hq⟩, fun r h => Ev.step (fun k => ?_) h⟩
      simp only [spec_l1Rd_word.l0]
      rw [if_pos (by omega), e]
      simp only [Option.bind_some]
      rw [wrap64_id (by omega) (by omega)])
    (0, p) ⟨Int.le_refl _, show (0 : Int) < 18446744073709551616 by omega, hp⟩
  refine ⟨s.1, s.2, Ev.congr (fun k => rfl) (hr (s.1, s.2) (Ev.step (f := fun _ => some (s.1, s.2)) (fun k => ?_) (Ev.now _))), h0, h1, h2⟩
  simp only [spec_l1Rd_word.l0]
  rw [if_neg (by omega)]
def I64 (v : Int) : Prop := -9223372036854775808 ≤ v ∧ v ≤ 9223372036854775807
theorem I64.wrap (v : Int) : I64 (wrap64 v) := by
  unfold I64 wrap64
  omega
theorem near_ev (b : List Int) (hb : Code b) (p : Int) (hp : At b p) (lo hi : Int) (hlo : -4611686018427387904 ≤ lo ∧ lo ≤ 4611686018427387904) (hhi : I64 hi) :
    ∃ v q, Ev (fun k => spec_l1Rd_near.f k b p lo hi) (v, q) ∧ I64 v ∧ At b q := by
  obtain ⟨v, q, e, v0, v1, hq⟩ := below_ev b hb p hp 8 (by omega)
  have hlo2 : I64 lo := by unfold I64; omega
  by_cases c0 : v = 0
  · exact ⟨lo, q, ⟨0, fun k _ => by unfold spec_l1Rd_near.f; rw [e]; simp only [Option.bind_some]; rw [if_pos c0]⟩, hlo2, hq⟩
  · by_cases c1 : v = 1
    · exact ⟨hi, q, ⟨0, fun k _ => by unfold spec_l1Rd_near.f; rw [e]; simp only [Option.bind_some]; rw [if_neg c0, if_pos c1]⟩, hhi, hq⟩
    · by_cases c2 : hi < lo
      · exact ⟨lo, q, ⟨0, fun k _ => by unfold spec_l1Rd_near.f; rw [e]; simp only [Option.bind_some]; rw [if_neg c0, if_neg c1, if_pos c2]⟩, hlo2, hq⟩
      · obtain ⟨x, q', ⟨K, hx⟩, x0, x1, hq'⟩ := word_ev b hb q hq
        have w3 : IntKind.u64.wrap (wrap64 (wrap64 (hi - lo) + 1)) = hi - lo + 1 := by
          obtain ⟨j0, j1⟩ := hhi
          rw [wrap_u64]
          unfold wrap64
          omega
        refine ⟨wrap64 (lo + wrap64 (Int.tmod (x / 2) (hi - lo + 1))), q', ⟨K, fun k hk => ?_⟩, I64.wrap _, hq'⟩
        have hx := hx k hk
        dsimp only at hx ⊢
        unfold spec_l1Rd_near.f
        rw [e]
        simp only [Option.bind_some]
        rw [if_neg c0, if_neg c1, if_neg c2, hx]
        simp only [Option.bind_some]
        rw [w3, if_neg (by omega)]
theorem off_ev (b : List Int) (hb : Code b) (p : Int) (hp : At b p) (lo hi : Int) (hlo : -4611686018427387904 ≤ lo ∧ lo ≤ 4611686018427387904) (hhi : I64 hi) :
    ∃ v q, Ev (fun k => spec_l1Rd_off.f k b p lo hi) (v, q) ∧ I64 v ∧ At b q := by
  obtain ⟨t, q, e, hq⟩ := once_ev b hb p hp 24 (by omega)
  cases t with
  | true =>
    obtain ⟨v, q', e', v0, v1, hq'⟩ := below_ev b hb q hq 4 (by omega)
    have hv : I64 (rd [wrap64 (lo - 1), wrap64 (hi + 1), (-9223372036854775808), 9223372036854775807] v) := by
      have h4 : v = 0 ∨ v = 1 ∨ v = 2 ∨ v = 3 := by omega
      rcases h4 with rfl | rfl | rfl | rfl
      · exact I64.wrap _
      · exact I64.wrap _
      · show I64 (-9223372036854775808)
        unfold I64
        omega
      · show I64 9223372036854775807
        unfold I64
        omega
    refine ⟨_, q', ⟨0, fun k _ => ?_⟩, hv, hq'⟩
    unfold spec_l1Rd_off.f
    rw [e]
    simp only [Option.bind_some, if_true]
    rw [e']
    simp only [Option.bind_some]
    rw [if_pos v0, if_pos (by simp; omega)]
  | false =>
    obtain ⟨v, q', ⟨K, hv⟩, hi2, hq'⟩ := near_ev b hb q hq lo hi hlo hhi
    refine ⟨v, q', ⟨K, fun k hk => ?_⟩, hi2, hq'⟩
    have hv := hv k hk
    dsimp only at hv ⊢
    unfold spec_l1Rd_off.f
    rw [e]
    simp only [Option.bind_some, Bool.false_eq_true, if_false]
    rw [hv]
    rfl

/-! trailFull -/
/-- What stands and its list tell the same. -/
structure Own (sw : Int) (I S : List Int) : Prop where
  mem : ∀ y ∈ S, GoodN sw y ∧ rd I (y.natAbs : Int) = y
  all : ∀ a : Nat, rd I (a : Int) ≠ 0 → rd I (a : Int) ∈ S
  apart : S.Pairwise (fun a b => a.natAbs ≠ b.natAbs)
  made : I = Iset (List.replicate (sw + 1).toNat 0) S
theorem Own.snoc {sw : Int} {I S : List Int} (h : Own sw I S) (hI : IOk sw I) (v : Int) (hv : GoodN sw v) (h0 : rd I (v.natAbs : Int) = 0) : Own sw (I.set v.natAbs v) (S ++ [v]) := by
  have hl : v.natAbs < I.length := by have := hI.1; obtain ⟨_, _, _⟩ := hv; omega
  have hne : ∀ y ∈ S, v.natAbs ≠ y.natAbs := fun y hy e => by
    obtain ⟨⟨y0, _, _⟩, y1⟩ := h.mem y hy
    rw [← e, h0] at y1
    exact y0 y1.symm
  refine ⟨fun y hy => ?_, fun a ha => ?_, ?_, ?_⟩
  · rw [rd_set _ _ _ _ hl]
    rcases List.mem_append.1 hy with hy | hy
    · rw [if_neg (hne y hy)]
      exact h.mem y hy
    · rw [List.mem_singleton] at hy
      subst hy
      exact ⟨hv, if_pos rfl⟩
  · rw [rd_set _ _ _ _ hl] at ha ⊢
    by_cases e : v.natAbs = a
    · rw [if_pos e]
      exact List.mem_append.2 (.inr (List.mem_singleton.2 rfl))
    · rw [if_neg e] at ha ⊢
      exact List.mem_append.2 (.inl (h.all a ha))
  · refine List.pairwise_append.2 ⟨h.apart, List.pairwise_singleton _ _, fun a ha b hb => ?_⟩
    rw [List.mem_singleton] at hb
    rw [hb]
    exact fun e => hne a ha e.symm
  · rw [h.made]
    unfold Iset
    rw [List.foldl_append]
    rfl
theorem Own.zero (sw : Int) : Own sw (List.replicate (sw + 1).toNat 0) [] := ⟨fun y hy => (by cases hy), fun a ha => absurd (rd_zeros _ _) ha, List.Pairwise.nil, rfl⟩
theorem Own.sets {sw : Int} : ∀ (xs I S : List Int), Own sw I S → IOk sw I → (∀ y ∈ xs, GoodN sw y) → (S ++ xs).Pairwise (fun a b => a.natAbs ≠ b.natAbs) → Own sw (Iset I xs) (S ++ xs) ∧ IOk sw (Iset I xs) := by
  intro xs
  induction xs with
  | nil => intro I S h hI _ _; rw [List.append_nil]; exact ⟨h, hI⟩
  | cons v xs ih =>
    intro I S h hI hg hp
    have hv := hg v List.mem_cons_self
    have h0 : rd I (v.natAbs : Int) = 0 := by
      by_cases c : rd I (v.natAbs : Int) = 0
      · exact c
      · have hm := h.all _ c
        have h2 := hI.2 v.natAbs (by have := hI.1; obtain ⟨_, _, _⟩ := hv; omega)
        exact absurd (show (rd I (v.natAbs : Int)).natAbs = v.natAbs by omega) ((List.pairwise_append.1 hp).2.2 _ hm v List.mem_cons_self)
    have e : S ++ v :: xs = (S ++ [v]) ++ xs := by simp
    rw [e] at hp ⊢
    exact ih _ _ (h.snoc hI v hv h0) (hI.set v hv) (fun y hy => hg y (List.mem_cons_of_mem _ hy)) hp
/-- A reading of the numbers that meets all clauses. -/
structure Reads (cl : List (List Int)) (T : Int → Bool) : Prop where
  opp : ∀ n, n ≠ 0 → T (-n) = !T n
  meets : ∀ p ∈ cl, ∃ n ∈ p, T n = true
def Holds (T : Int → Bool) (I : List Int) : Prop := ∀ a : Nat, rd I (a : Int) ≠ 0 → T (rd I (a : Int)) = true
theorem clause_left {sw : Int} {cl : List (List Int)} {T : Int → Bool} (hT : Reads cl T) {I : List Int} (hI : IOk sw I) (hH : Holds T I) (p : List Int) (hm : p ∈ cl) (hp : ∀ n ∈ p, GoodN sw n) (c : p.countP (sat I) = 0) : ∃ n ∈ p, T n = true ∧ fre I n = true := by
  obtain ⟨n, hn, ht⟩ := hT.meets p hm
  obtain ⟨n0, n1, n2⟩ := hp n hn
  refine ⟨n, hn, ht, decide_eq_true ?_⟩
  have hns : ¬ rd I (n.natAbs : Int) = n := fun e => List.countP_eq_zero.1 c n hn (decide_eq_true e)
  have h2 := hI.2 n.natAbs (by have := hI.1; omega)
  by_cases c0 : rd I (n.natAbs : Int) = 0
  · exact c0
  · have e : rd I (n.natAbs : Int) = -n := by omega
    have h3 := hH n.natAbs c0
    rw [e, hT.opp n n0, ht] at h3
    cases h3
theorem Holds.set {T : Int → Bool} {I : List Int} (h : Holds T I) (v : Int) (hl : v.natAbs < I.length) (ht : T v = true) : Holds T (I.set v.natAbs v) := fun a ha => by
  rw [rd_set _ _ _ _ hl] at ha ⊢
  split
  · exact ht
  · rename_i c
    rw [if_neg c] at ha
    exact h a ha
def FullI (cl : List (List Int)) (I : List Int) : Prop := ∀ q : Nat, q < cl.length → 0 < (rd_L2 cl (q : Int)).countP (sat I) ∨ 1 < (rd_L2 cl (q : Int)).countP (fre I)
theorem unit_full {sw : Int} (hs : 0 ≤ sw ∧ sw ≤ 400) {cl : List (List Int)} (hg : GoodCl sw cl) {H : Int → List Int} (hH : HOk cl cl.length 0 H) :
    ∀ (z : Nat) (I G B S : List Int), zer I = z → IOk sw I → GB cl I G B → S.length + z ≤ 1000 → Own sw I S →
      ∃ b G1 B1 S1 I1, Ev (fun k => impl_trail_unit.f H cl k G B S I) (b, G1, B1, S1, I1) ∧ Ev (fun k => spec_l18Unit.l1 k I S 0 sw cl) (S1, b) ∧ IOk sw I1 ∧ GB cl I1 G1 B1 ∧ Own sw I1 S1 ∧ S1.length + zer I1 = S.length + z ∧ (∃ ext, S1 = S ++ ext) ∧
        (b = true → Ev (fun k => spec_l18Unit.l1 k I1 S1 0 sw cl) (S1, true) ∧ FullI cl I1) ∧ ∀ T, Reads cl T → Holds T I → b = true ∧ Holds T I1 := by
  intro z
  induction z with
  | zero =>
    intro I G B S hz hI hgb hS hO
    rcases scan_ok hs hg hI hgb S (by omega) _ 0 rfl (by omega) with ⟨a1, a2, a3⟩ | ⟨j, a1, a2, a3, a4, a5⟩ | ⟨j, v, a1, a2, a3, a3m, a4, a5, _⟩
    · exact ⟨true, G, B, S, I, Ev.step (f := fun _ => some _) (fun k => by rw [List.drop_zero] at a1; rw [impl_trail_unit.f, a1]; rfl) (Ev.now _), a2, hI, hgb, hO, by omega, ⟨[], by simp⟩, fun _ => ⟨a2, fun q hq => a3 q (by omega) hq⟩, fun T hT hH => ⟨rfl, hH⟩⟩
    · refine ⟨false, G, B, S, I, Ev.step (f := fun _ => some _) (fun k => by rw [List.drop_zero] at a1; rw [impl_trail_unit.f, a1]; rfl) (Ev.now _), a2, hI, hgb, hO, by omega, ⟨[], by simp⟩, fun h => (by cases h), fun T hT hH => ?_⟩
      obtain ⟨n, hn, _, hf⟩ := clause_left hT hI hH _ (by rw [rdE_L2 cl j a3]; exact List.getElem_mem a3) (hg.row j a3).2 a4
      exact absurd hf (List.countP_eq_zero.1 a5 n hn)
    · have := zer_set hI v a4 a5
      omega
  | succ z ih =>
    intro I G B S hz hI hgb hS hO
    rcases scan_ok hs hg hI hgb S (by omega) _ 0 rfl (by omega) with ⟨a1, a2, a3⟩ | ⟨j, a1, a2, a3, a4, a5⟩ | ⟨j, v, a1, a2, a3, a3m, a4, a5, a5s, a5f, a6⟩
    · exact ⟨true, G, B, S, I, Ev.step (f := fun _ => some _) (fun k => by rw [List.drop_zero] at a1; rw [impl_trail_unit.f, a1]; rfl) (Ev.now _), a2, hI, hgb, hO, by omega, ⟨[], by simp⟩, fun _ => ⟨a2, fun q hq => a3 q (by omega) hq⟩, fun T hT hH => ⟨rfl, hH⟩⟩
    · refine ⟨false, G, B, S, I, Ev.step (f := fun _ => some _) (fun k => by rw [List.drop_zero] at a1; rw [impl_trail_unit.f, a1]; rfl) (Ev.now _), a2, hI, hgb, hO, by omega, ⟨[], by simp⟩, fun h => (by cases h), fun T hT hH => ?_⟩
      obtain ⟨n, hn, _, hf⟩ := clause_left hT hI hH _ (by rw [rdE_L2 cl j a3]; exact List.getElem_mem a3) (hg.row j a3).2 a4
      exact absurd hf (List.countP_eq_zero.1 a5 n hn)
    · have hz2 := zer_set hI v a4 a5
      have hl : v.natAbs < I.length := by have := hI.1; obtain ⟨_, _, _⟩ := a4; omega
      obtain ⟨G', B', c1, c2⟩ := stand_ok hs hg hH hI hgb (S := S) (by omega) v a4 a5
      obtain ⟨b, G1, B1, S1, I1, d1, d2, d3, d4, d5, d6, ⟨ext, d7⟩, d8, d9⟩ := ih (I.set v.natAbs v) G' B' (S ++ [v]) (by omega) (hI.set v a4) c2 (by rw [List.length_append, List.length_singleton]; omega) (hO.snoc hI v a4 a5)
      refine ⟨b, G1, B1, S1, I1, Ev.step (fun k => ?_) d1, a6 _ d2, d3, d4, d5, ?_, ⟨v :: ext, by rw [d7]; simp⟩, d8, fun T hT hH => d9 T hT (hH.set v hl ?_)⟩
      · rw [List.drop_zero] at a1
        rw [impl_trail_unit.f, a1, Option.bind_some]
        dsimp only
        rw [a3, Option.bind_some, c1, Option.bind_some]
      · rw [d6, List.length_append, List.length_singleton]
        omega
      · obtain ⟨n, hn, ht, hf⟩ := clause_left hT hI hH _ (by rw [rdE_L2 cl j a2]; exact List.getElem_mem a2) (hg.row j a2).2 a5s
        rw [fre_uniq I _ a5f v n a3m hn (decide_eq_true a5) hf]
        exact ht

/-! meetsSem -/
theorem idxG_some {α : Type} (p : α → Option Bool) (g : α → Bool) : ∀ (l : List α) (i : Int), 0 ≤ i → (∀ x ∈ l, p x = some (g x)) → ∃ r, idxG p l i = some r ∧ (0 ≤ r ↔ ∃ x ∈ l, g x = true) := by
  intro l
  induction l with
  | nil => intro i h _; exact ⟨-1, rfl, by simp⟩
  | cons x l ih =>
    intro i h hp
    cases c : g x with
    | true => exact ⟨i, by simp only [idxG, hp x List.mem_cons_self, c, Option.bind_some, ↓reduceIte], ⟨fun _ => ⟨x, List.mem_cons_self, c⟩, fun _ => h⟩⟩
    | false =>
      obtain ⟨r, e1, e2⟩ := ih (i + 1) (by omega) (fun y hy => hp y (List.mem_cons_of_mem _ hy))
      refine ⟨r, by simp only [idxG, hp x List.mem_cons_self, c, Option.bind_some, Bool.false_eq_true, ↓reduceIte, e1], e2.trans ⟨fun ⟨y, hy, hg⟩ => ⟨y, List.mem_cons_of_mem _ hy, hg⟩, fun ⟨y, hy, hg⟩ => ?_⟩⟩
      rcases List.mem_cons.1 hy with rfl | hy
      · rw [c] at hg; cases hg
      · exact ⟨y, hy, hg⟩
/-- A number stands by flags. -/
def byOn (on : List Bool) (n : Int) : Bool := rdOf false on ((n.natAbs : Int) - 1) == decide (n > 0)
theorem byOn_opp (on : List Bool) (n : Int) (h : n ≠ 0) : byOn on (-n) = !byOn on n := by
  unfold byOn
  rw [Int.natAbs_neg]
  by_cases c : n > 0
  · rw [decide_eq_true c, decide_eq_false (show ¬ (-n > 0) by omega)]
    cases rdOf false on ((n.natAbs : Int) - 1) <;> rfl
  · rw [decide_eq_false c, decide_eq_true (show -n > 0 by omega)]
    cases rdOf false on ((n.natAbs : Int) - 1) <;> rfl
theorem seat_of {sw n : Int} (hs : 0 ≤ sw ∧ sw ≤ 400) (h : GoodN sw n) : wrap64 (mx n (wrap64 (-n)) - 1) = (n.natAbs : Int) - 1 ∧ 0 ≤ (n.natAbs : Int) - 1 ∧ (n.natAbs : Int) - 1 < sw := by
  obtain ⟨h0, h1, h2⟩ := h
  rw [abs_eq n (by omega) (by omega)]
  exact ⟨wrap64_id (by omega) (by omega), by omega, by omega⟩
theorem meets_sem {sw : Int} (hs : 0 ≤ sw ∧ sw ≤ 400) {cl : List (List Int)} (hg : GoodCl sw cl) (h2 : Ev (fun k => impl_CnfOk.f k sw cl) true) (on : List Bool) (hon : (on.length : Int) = sw) :
    ∃ b, Ev (fun k => impl_Meets.f k sw cl on) b ∧ (b = true ↔ ∀ p ∈ cl, ∃ n ∈ p, byOn on n = true) := by
  have hq : ∀ p ∈ cl, ∀ n ∈ p, impl_Meets.q on n = some (byOn on n) := fun p hp n hn => by
    obtain ⟨e1, e2, e3⟩ := seat_of hs ((hg.2 p hp).2 n hn)
    unfold impl_Meets.q byOn
    rw [e1, if_pos ⟨e2, by omega⟩]
  have hp : ∀ p ∈ cl, impl_Meets.p on p = some (!p.any (byOn on)) := fun p hp => by
    obtain ⟨r, e1, e2⟩ := idxG_some (impl_Meets.q on) (byOn on) p 0 (by omega) (hq p hp)
    unfold impl_Meets.p
    rw [e1, Option.bind_some]
    congr 2
    by_cases c : 0 ≤ r
    · rw [decide_eq_true c]
      exact (List.any_eq_true.2 (e2.1 c)).symm
    · rw [decide_eq_false c]
      cases h : p.any (byOn on) with
      | false => rfl
      | true => exact absurd (e2.2 (List.any_eq_true.1 h)) c
  obtain ⟨r, e1, e2⟩ := idxG_some (impl_Meets.p on) (fun p => !p.any (byOn on)) cl 0 (by omega) hp
  obtain ⟨K, h2⟩ := h2
  refine ⟨!decide (0 ≤ r), ⟨K, fun k hk => ?_⟩, ?_⟩
  · have h2 := h2 k hk
    dsimp only at h2 ⊢
    unfold impl_Meets.f
    rw [h2, Option.bind_some, if_pos rfl, if_neg (not_not_intro hon), e1, Option.bind_some]
  · by_cases c : 0 ≤ r
    · rw [decide_eq_true c]
      obtain ⟨p, hp, hb⟩ := e2.1 c
      refine ⟨fun h => (by cases h), fun h => ?_⟩
      rw [List.any_eq_true.2 (h p hp)] at hb
      cases hb
    · rw [decide_eq_false c]
      refine ⟨fun _ p hp => ?_, fun _ => rfl⟩
      cases h : p.any (byOn on) with
      | false => exact absurd (e2.2 ⟨p, hp, by rw [h]; rfl⟩) c
      | true => exact List.any_eq_true.1 h

/-! drawsOffGen -/
theorem near_gen (b : List Int) (hb : Code b) (p : Int) (hp : At b p) (lo hi : Int) (hlo : I64 lo) (hhi : I64 hi) (hm : (hi - lo + 1) % 18446744073709551616 ≠ 0) :
    ∃ v q, Ev (fun k => spec_l1Rd_near.f k b p lo hi) (v, q) ∧ I64 v ∧ At b q := by
  obtain ⟨v, q, e, v0, v1, hq⟩ := below_ev b hb p hp 8 (by omega)
  by_cases c0 : v = 0
  · exact ⟨lo, q, ⟨0, fun k _ => by unfold spec_l1Rd_near.f; rw [e]; simp only [Option.bind_some]; rw [if_pos c0]⟩, hlo, hq⟩
  · by_cases c1 : v = 1
    · exact ⟨hi, q, ⟨0, fun k _ => by unfold spec_l1Rd_near.f; rw [e]; simp only [Option.bind_some]; rw [if_neg c0, if_pos c1]⟩, hhi, hq⟩
    · by_cases c2 : hi < lo
      · exact ⟨lo, q, ⟨0, fun k _ => by unfold spec_l1Rd_near.f; rw [e]; simp only [Option.bind_some]; rw [if_neg c0, if_neg c1, if_pos c2]⟩, hlo, hq⟩
      · obtain ⟨x, q', ⟨K, hx⟩, x0, x1, hq'⟩ := word_ev b hb q hq
        obtain ⟨m, hme⟩ : ∃ m, m = IntKind.u64.wrap (wrap64 (wrap64 (hi - lo) + 1)) := ⟨_, rfl⟩
        have w3 : m ≠ 0 := by
          rw [hme, wrap_u64]
          unfold wrap64
          omega
        refine ⟨wrap64 (lo + wrap64 (Int.tmod (x / 2) m)), q', ⟨K, fun k hk => ?_⟩, I64.wrap _, hq'⟩
        have hx := hx k hk
        dsimp only at hx ⊢
        unfold spec_l1Rd_near.f
        rw [e]
        simp only [Option.bind_some]
        rw [if_neg c0, if_neg c1, if_neg c2, hx]
        simp only [Option.bind_some]
        rw [← hme, if_neg w3]
theorem off_gen (b : List Int) (hb : Code b) (p : Int) (hp : At b p) (lo hi : Int) (hlo : I64 lo) (hhi : I64 hi) (hm : (hi - lo + 1) % 18446744073709551616 ≠ 0) :
    ∃ v q, Ev (fun k => spec_l1Rd_off.f k b p lo hi) (v, q) ∧ I64 v ∧ At b q := by
  obtain ⟨t, q, e, hq⟩ := once_ev b hb p hp 24 (by omega)
  cases t with
  | true =>
    obtain ⟨v, q', e', v0, v1, hq'⟩ := below_ev b hb q hq 4 (by omega)
    have hv : I64 (rd [wrap64 (lo - 1), wrap64 (hi + 1), (-9223372036854775808), 9223372036854775807] v) := by
      have h4 : v = 0 ∨ v = 1 ∨ v = 2 ∨ v = 3 := by omega
      rcases h4 with rfl | rfl | rfl | rfl
      · exact I64.wrap _
      · exact I64.wrap _
      · show I64 (-9223372036854775808)
        unfold I64
        omega
      · show I64 9223372036854775807
        unfold I64
        omega
    refine ⟨_, q', ⟨0, fun k _ => ?_⟩, hv, hq'⟩
    unfold spec_l1Rd_off.f
    rw [e]
    simp only [Option.bind_some, if_true]
    rw [e']
    simp only [Option.bind_some]
    rw [if_pos v0, if_pos (by simp; omega)]
  | false =>
    obtain ⟨v, q', ⟨K, hv⟩, hi2, hq'⟩ := near_gen b hb q hq lo hi hlo hhi hm
    refine ⟨v, q', ⟨K, fun k hk => ?_⟩, hi2, hq'⟩
    have hv := hv k hk
    dsimp only at hv ⊢
    unfold spec_l1Rd_off.f
    rw [e]
    simp only [Option.bind_some, Bool.false_eq_true, if_false]
    rw [hv]
    rfl
theorem odd_room (x : Int) (h : I64 x) : I64 (wrap64 (-x)) ∧ (x - wrap64 (-x) + 1) % 18446744073709551616 ≠ 0 := by
  refine ⟨I64.wrap _, ?_⟩
  unfold I64 at h
  unfold wrap64
  omega

/-! drawCnf -/
theorem size_ev (b : List Int) (hb : Code b) (p : Int) (hp : At b p) : ∃ (v : Nat) (q : Int), spec_l1Rd_size.f b p 3 24 = some ((v : Int), q) ∧ v ≤ 24 ∧ At b q := by
  have hl := hb.len
  obtain ⟨m, hm⟩ : ∃ m, m = wrap64 (1 + wrap64 ((b.length : Int) / 3)) := ⟨_, rfl⟩
  have hm2 : 1 ≤ m ∧ m ≤ 1000000 := by
    rw [hm]
    have h3 : 0 ≤ (b.length : Int) / 3 ∧ (b.length : Int) / 3 ≤ 349526 := by omega
    rw [wrap64_id (x := (b.length : Int) / 3) (by omega) (by omega), wrap64_id (by omega) (by omega)]
    omega
  have fin : ∀ n : Int, 1 ≤ n → n ≤ 24 → ∃ (v : Nat) (q : Int), ((spec_l1Rd_below.f b p n).bind fun bt => some (wrap64 (1 + bt.1), bt.2)) = some ((v : Int), q) ∧ v ≤ 24 ∧ At b q := fun n n0 n1 => by
    obtain ⟨v, q, e, v0, v1, hq⟩ := below_ev b hb p hp n (by omega)
    obtain ⟨u, rfl⟩ := Int.eq_ofNat_of_zero_le v0
    refine ⟨1 + u, q, ?_, by omega, hq⟩
    rw [e, Option.bind_some]
    dsimp only
    rw [wrap64_id (by omega) (by omega)]
    rfl
  unfold spec_l1Rd_size.f
  rw [if_neg (by decide), ← hm]
  by_cases c : m > 24
  · rw [if_pos c]
    exact fin 24 (by omega) (by omega)
  · rw [if_neg c]
    exact fin m hm2.1 (by omega)
/-- A draw of clauses tells something. -/
def ResC (b : List Int) (F : Nat → Option (Int × List (List Int) × Int)) : Prop := ∃ y0 y1 q, Ev F (y0, y1, q) ∧ I64 y0 ∧ At b q
theorem ResC.step {b : List Int} {F G : Nat → Option (Int × List (List Int) × Int)} (h : ∀ k, F (k + 1) = G k) (hg : ResC b G) : ResC b F := by
  obtain ⟨y0, y1, q, e, h1, h2⟩ := hg
  exact ⟨y0, y1, q, Ev.step h e, h1, h2⟩
theorem cnf_row (b : List Int) (hb : Code b) (n : Nat) (hn : n ≤ 8) (x4 : Int) (cl : List (List Int)) (hcl : cl.length ≤ 1000) (next : ∀ cl' p', cl'.length ≤ cl.length + 1 → At b p' → ResC b (fun k => spec_l1Rd_cnf.l0 k (wrap64 (x4 - 1)) b p' (n : Int) cl')) :
    ∀ (d j : Nat), n + 1 - j = d → j ≤ n + 1 → ∀ (cur : List Int) (p : Int), cur.length ≤ 3 → At b p → ResC b (fun k => spec_l1Rd_cnf.l1 k x4 cur (j : Int) b p (n : Int) cl) := by
  intro d
  induction d with
  | zero =>
    intro j hd hj cur p hcur hp
    by_cases c : (cur.length : Int) > 0
    · refine ResC.step (fun k => ?_) (next (cl ++ [cur]) p (by simp) hp)
      rw [spec_l1Rd_cnf.l1, if_neg (by omega), if_pos c, if_pos (by omega)]
    · obtain ⟨v, q, e, hq⟩ := once_ev b hb p hp 30 (by omega)
      cases v with
      | true =>
        refine ResC.step (fun k => ?_) (next (cl ++ [cur]) q (by simp) hq)
        rw [spec_l1Rd_cnf.l1, if_neg (by omega), if_neg c, e, Option.bind_some]
        dsimp only
        rw [if_pos rfl, if_pos (by omega)]
      | false =>
        refine ResC.step (fun k => ?_) (next cl q (by omega) hq)
        rw [spec_l1Rd_cnf.l1, if_neg (by omega), if_neg c, e, Option.bind_some]
        dsimp only
        rw [if_neg (by decide)]
  | succ d ih =>
    intro j hd hj cur p hcur hp
    obtain ⟨v, q, e, hq⟩ := once_ev b hb p hp 3 (by omega)
    have hw : wrap64 ((j : Int) + 1) = ((j + 1 : Nat) : Int) := wrap_next j (by omega)
    cases v with
    | true =>
      by_cases c : (cur.length : Int) < 3
      · obtain ⟨u, q', e', _, _, hq'⟩ := below_ev b hb q hq 2 (by omega)
        refine ResC.step (fun k => ?_) (ih (j + 1) (by omega) (by omega) (cur ++ [wrap64 ((j : Int) * (wrap64 (1 - (wrap64 (2 * u)))))]) q' (by simp; omega) hq')
        rw [spec_l1Rd_cnf.l1, if_pos (by omega), e, Option.bind_some]
        dsimp only
        rw [if_pos rfl, if_pos c, e', Option.bind_some]
        dsimp only
        rw [if_pos (by omega), hw]
      · refine ResC.step (fun k => ?_) (ih (j + 1) (by omega) (by omega) cur q hcur hq)
        rw [spec_l1Rd_cnf.l1, if_pos (by omega), e, Option.bind_some]
        dsimp only
        rw [if_pos rfl, if_neg c, hw]
    | false =>
      refine ResC.step (fun k => ?_) (ih (j + 1) (by omega) (by omega) cur q hcur hq)
      rw [spec_l1Rd_cnf.l1, if_pos (by omega), e, Option.bind_some]
      dsimp only
      rw [if_neg (by decide), hw]
theorem cnf_end (b : List Int) (hb : Code b) (n : Nat) (hn : n ≤ 8) (cl : List (List Int)) (hcl : cl.length ≤ 1000) (p : Int) (hp : At b p) : ResC b (fun k => spec_l1Rd_cnf.l0 k 0 b p (n : Int) cl) := by
  obtain ⟨v, p1, e1, v0, v1, hp1⟩ := below_ev b hb p hp 30 (by omega)
  have hI : I64 (n : Int) := by unfold I64; omega
  by_cases c0 : v = 0
  · obtain ⟨o1, o2⟩ := odd_room (n : Int) hI
    obtain ⟨x, p2, ⟨K2, e2⟩, _, hp2⟩ := off_gen b hb p1 hp1 _ (n : Int) o1 hI o2
    refine ⟨(n : Int), cl ++ [[x]], p2, ⟨K2 + 1, fun k hk => ?_⟩, hI, hp2⟩
    obtain ⟨m, rfl⟩ : ∃ m, k = m + 1 := ⟨k - 1, by omega⟩
    have e2 := e2 m (by omega)
    dsimp only at e2 ⊢
    rw [spec_l1Rd_cnf.l0, if_neg (by omega), e1, Option.bind_some]
    dsimp only
    rw [if_pos c0, e2, Option.bind_some]
    dsimp only
    rw [if_pos (by omega)]
  · by_cases c1 : v = 1
    · obtain ⟨x, p2, ⟨K2, e2⟩, hx, hp2⟩ := off_ev b hb p1 hp1 0 400 (by omega) (by unfold I64; omega)
      refine ⟨x, cl, p2, ⟨K2 + 1, fun k hk => ?_⟩, hx, hp2⟩
      obtain ⟨m, rfl⟩ : ∃ m, k = m + 1 := ⟨k - 1, by omega⟩
      have e2 := e2 m (by omega)
      dsimp only at e2 ⊢
      rw [spec_l1Rd_cnf.l0, if_neg (by omega), e1, Option.bind_some]
      dsimp only
      rw [if_neg c0, if_pos c1, e2, Option.bind_some]
    · by_cases c2 : v = 2
      · refine ⟨(n : Int), cl ++ [[1, -1]], p1, ⟨1, fun k hk => ?_⟩, hI, hp1⟩
        obtain ⟨m, rfl⟩ : ∃ m, k = m + 1 := ⟨k - 1, by omega⟩
        dsimp only
        rw [spec_l1Rd_cnf.l0, if_neg (by omega), e1, Option.bind_some]
        dsimp only
        rw [if_neg c0, if_neg c1, if_pos c2, if_pos (by omega)]
      · refine ⟨(n : Int), cl, p1, ⟨1, fun k hk => ?_⟩, hI, hp1⟩
        obtain ⟨m, rfl⟩ : ∃ m, k = m + 1 := ⟨k - 1, by omega⟩
        dsimp only
        rw [spec_l1Rd_cnf.l0, if_neg (by omega), e1, Option.bind_some]
        dsimp only
        rw [if_neg c0, if_neg c1, if_neg c2]
theorem cnf_rows (b : List Int) (hb : Code b) (n : Nat) (hn : n ≤ 8) : ∀ (d : Nat) (cl : List (List Int)) (p : Int), cl.length + d ≤ 100 → At b p → ResC b (fun k => spec_l1Rd_cnf.l0 k (d : Int) b p (n : Int) cl) := by
  intro d
  induction d with
  | zero => intro cl p hd hp; exact cnf_end b hb n hn cl (by omega) p hp
  | succ d ih =>
    intro cl p hd hp
    have hw : wrap64 (((d + 1 : Nat) : Int) - 1) = (d : Int) := by rw [wrap64_id (by omega) (by omega)]; omega
    refine ResC.step (fun k => ?_) (cnf_row b hb n hn ((d + 1 : Nat) : Int) cl (by omega) (fun cl' p' h1 h2 => by rw [hw]; exact ih cl' p' (by omega) h2) _ 1 rfl (by omega) [] p (by simp) hp)
    rw [spec_l1Rd_cnf.l0, if_pos (by omega)]
    rfl
theorem cnf_ev (b : List Int) (hb : Code b) (p : Int) (hp : At b p) : ResC b (fun k => spec_l1Rd_cnf.f k b p) := by
  obtain ⟨v, p1, e1, v0, v1, hp1⟩ := below_ev b hb p hp 7 (by omega)
  obtain ⟨d, p2, e2, d1, hp2⟩ := size_ev b hb p1 hp1
  obtain ⟨n, rfl⟩ := Int.eq_ofNat_of_zero_le v0
  obtain ⟨y0, y1, q, ⟨K, g⟩, h1, h2⟩ := cnf_rows b hb (1 + n) (by omega) d [] p2 (by simp; omega) hp2
  refine ⟨y0, y1, q, ⟨K, fun k hk => ?_⟩, h1, h2⟩
  have g := g k hk
  dsimp only at g ⊢
  unfold spec_l1Rd_cnf.f
  rw [e1, Option.bind_some]
  dsimp only
  rw [e2, Option.bind_some]
  dsimp only
  rw [wrap64_id (x := 1 + (n : Int)) (by omega) (by omega)]
  exact g

/-! shlBound -/
theorem shl_room (sw : Int) (h0 : 0 ≤ sw) (h1 : sw ≤ 9) : ∃ M : Nat, M ≤ 512 ∧ shl .i64 1 (IntKind.u64.wrap sw) = (M : Int) := by
  have h : sw = 0 ∨ sw = 1 ∨ sw = 2 ∨ sw = 3 ∨ sw = 4 ∨ sw = 5 ∨ sw = 6 ∨ sw = 7 ∨ sw = 8 ∨ sw = 9 := by omega
  rcases h with rfl | rfl | rfl | rfl | rfl | rfl | rfl | rfl | rfl | rfl
  · exact ⟨1, by omega, by decide⟩
  · exact ⟨2, by omega, by decide⟩
  · exact ⟨4, by omega, by decide⟩
  · exact ⟨8, by omega, by decide⟩
  · exact ⟨16, by omega, by decide⟩
  · exact ⟨32, by omega, by decide⟩
  · exact ⟨64, by omega, by decide⟩
  · exact ⟨128, by omega, by decide⟩
  · exact ⟨256, by omega, by decide⟩
  · exact ⟨512, by omega, by decide⟩
theorem u64_pos (x : Int) : 0 ≤ IntKind.u64.wrap x := by
  rw [wrap_u64]
  omega

/-! settleBack -/
/-- What stands, told for both. -/
structure Inv (sw : Int) (cl : List (List Int)) (I G B S : List Int) : Prop where
  ok : IOk sw I
  gb : GB cl I G B
  own : Own sw I S
  room : ((S.length + zer I : Nat) : Int) = sw + 1
theorem zer_pos {sw : Int} {I : List Int} (h0 : 0 ≤ sw) (h : IOk sw I) : 0 < zer I := by
  have hl : 0 < I.length := by have := h.1; omega
  have h2 := h.2 0 hl
  have h3 : rd I ((0 : Nat) : Int) = 0 := by omega
  rw [rd_get _ _ hl] at h3
  exact List.countP_pos_iff.2 ⟨_, List.getElem_mem hl, by rw [h3]; rfl⟩
theorem Inv.stand {sw : Int} (hs : 0 ≤ sw ∧ sw ≤ 400) {cl : List (List Int)} {H : Int → List Int} (hg : GoodCl sw cl) (hH : HOk cl cl.length 0 H) {I G B S : List Int} (h : Inv sw cl I G B S) (v : Int) (hv : GoodN sw v) (h0 : rd I (v.natAbs : Int) = 0) :
    ∃ G' B', impl_trail_stand.f H G B S I v = some (G', B', S ++ [v], I.set v.natAbs v) ∧ Inv sw cl (I.set v.natAbs v) G' B' (S ++ [v]) ∧ zer (I.set v.natAbs v) + 1 = zer I := by
  have hz := zer_set h.ok v hv h0
  have hr := h.room
  obtain ⟨G', B', c1, c2⟩ := stand_ok hs hg hH h.ok h.gb (S := S) (by omega) v hv h0
  exact ⟨G', B', c1, ⟨h.ok.set v hv, c2, h.own.snoc h.ok v hv h0, by rw [List.length_append, List.length_singleton]; omega⟩, hz⟩
/-- The last number is taken away. -/
theorem Own.pop {sw : Int} (hs : 0 ≤ sw ∧ sw ≤ 400) {I S : List Int} {v : Int} (h : Own sw I (S ++ [v])) : Own sw (Iset (List.replicate (sw + 1).toNat 0) S) S ∧ IOk sw (Iset (List.replicate (sw + 1).toNat 0) S) ∧ GoodN sw v ∧ rd (Iset (List.replicate (sw + 1).toNat 0) S) (v.natAbs : Int) = 0 ∧ I = (Iset (List.replicate (sw + 1).toNat 0) S).set v.natAbs v ∧ I.set v.natAbs 0 = Iset (List.replicate (sw + 1).toNat 0) S := by
  have z1 : IOk sw (List.replicate (sw + 1).toNat 0) := ⟨by simp; omega, fun a _ => .inl (rd_zeros _ _)⟩
  have hp := List.pairwise_append.1 h.apart
  have hgv := (h.mem v (by simp)).1
  obtain ⟨o1, o2⟩ := Own.sets S _ [] (Own.zero sw) z1 (fun y hy => (h.mem y (List.mem_append.2 (.inl hy))).1) (by simpa using hp.1)
  rw [List.nil_append] at o1
  obtain ⟨J, hJ⟩ : ∃ J, J = Iset (List.replicate (sw + 1).toNat 0) S := ⟨_, rfl⟩
  rw [← hJ] at o1 o2 ⊢
  have hl : v.natAbs < J.length := by have := o2.1; obtain ⟨_, _, _⟩ := hgv; omega
  have h0 : rd J (v.natAbs : Int) = 0 := by
    by_cases c : rd J (v.natAbs : Int) = 0
    · exact c
    · have hm := o1.all _ c
      have h2 := o2.2 v.natAbs hl
      exact absurd (show (rd J (v.natAbs : Int)).natAbs = v.natAbs by omega) (hp.2.2 _ hm v (by simp))
  have hI : I = J.set v.natAbs v := by
    rw [h.made, hJ]
    unfold Iset
    rw [List.foldl_append]
    rfl
  refine ⟨o1, o2, hgv, h0, hI, ?_⟩
  rw [hI, List.set_set]
  rw [rd_get _ _ hl] at h0
  rw [← h0, List.set_getElem_self]
theorem back_step {sw : Int} (hs : 0 ≤ sw ∧ sw ≤ 400) {cl : List (List Int)} {H : Int → List Int} (hg : GoodCl sw cl) (hH : HOk cl cl.length 0 H) (count : Nat) {I G B S : List Int} {v : Int} (h : Inv sw cl I G B (S ++ [v])) (hc : count ≤ S.length) :
    ∃ G' B' I', Inv sw cl I' G' B' S ∧ ∀ r, Ev (fun k => impl_trail_back.f H count k G' B' S I') r → Ev (fun k => impl_trail_back.f H count k G B (S ++ [v]) I) r := by
  obtain ⟨o1, o2, hgv, h0, hI, hI0⟩ := h.own.pop hs
  obtain ⟨J, hJ⟩ : ∃ J, J = Iset (List.replicate (sw + 1).toNat 0) S := ⟨_, rfl⟩
  rw [← hJ] at o1 o2 h0 hI hI0
  have ⟨v0, v1, v2⟩ := hgv
  obtain ⟨g1, g2, g3⟩ := h.gb
  have bG : ∀ q : Nat, q < cl.length → 0 ≤ rd G (q : Int) ∧ rd G (q : Int) ≤ 400 := fun q hq => by
    have := List.countP_le_length (p := sat I) (l := rd_L2 cl (q : Int))
    have := (hg.row q hq).1
    have := (g3 q hq).1
    omega
  have bB : ∀ q : Nat, q < cl.length → 0 ≤ rd B (q : Int) ∧ rd B (q : Int) ≤ 400 := fun q hq => by
    have := List.countP_le_length (p := neg I) (l := rd_L2 cl (q : Int))
    have := (hg.row q hq).1
    have := (g3 q hq).2
    omega
  obtain ⟨G', a1, a2, a3⟩ := inc_row (-1) (.inr rfl) hg hH G g1 bG v
  obtain ⟨B', b1, b2, b3⟩ := inc_row (-1) (.inr rfl) hg hH B g2 bB (-v)
  have hz := zer_set o2 v hgv h0
  rw [← hI] at hz
  have hr := h.room
  rw [List.length_append, List.length_singleton] at hr
  refine ⟨G', B', J, ⟨o2, ⟨a2, b2, fun q hq => ?_⟩, o1, by omega⟩, fun r hr2 => Ev.step (fun k => ?_) hr2⟩
  · obtain ⟨c1, c2⟩ := sat_set o2 v hgv h0 _ (hg.row q hq).2
    rw [← hI] at c1 c2
    have := g3 q hq
    rw [a3 q hq, b3 q hq, this.1, this.2, c1, c2]
    constructor <;> omega
  · have hIl := h.ok.1
    have e1 : (S ++ [v]).length - 1 = S.length := by simp
    have e2 : rd (S ++ [v]) (S.length : Int) = v := by
      rw [rd_get _ _ (by simp)]
      simp
    rw [impl_trail_back.f, e1, e2, if_pos (by simp; omega), abs_eq v (by omega) (by omega), wrap64_id (x := -v) (by omega) (by omega), if_pos ⟨lit_wf v (by omega) (by omega), lit_wf (-v) (by omega) (by omega), by omega, by omega⟩, a1, Option.bind_some, b1, Option.bind_some, Int.toNat_natCast, hI0, List.take_left' rfl]
theorem back_ok {sw : Int} (hs : 0 ≤ sw ∧ sw ≤ 400) {cl : List (List Int)} {H : Int → List Int} (hg : GoodCl sw cl) (hH : HOk cl cl.length 0 H) (S : List Int) :
    ∀ (d : Nat) (ext I G B : List Int), ext.length = d → Inv sw cl I G B (S ++ ext) → ∃ G' B' I', Ev (fun k => impl_trail_back.f H S.length k G B (S ++ ext) I) (G', B', S, I') ∧ Inv sw cl I' G' B' S := by
  intro d
  induction d with
  | zero =>
    intro ext I G B hd h
    obtain rfl := List.length_eq_zero_iff.1 hd
    rw [List.append_nil] at h ⊢
    exact ⟨G, B, I, Ev.step (f := fun _ => some _) (fun k => by rw [impl_trail_back.f, if_neg (by omega)]) (Ev.now _), h⟩
  | succ d ih =>
    intro ext I G B hd h
    rcases List.eq_nil_or_concat ext with rfl | ⟨e, v, rfl⟩
    · cases hd
    · rw [List.concat_eq_append] at hd h ⊢
      rw [← List.append_assoc] at h ⊢
      obtain ⟨G', B', I', h1, h2⟩ := back_step hs hg hH S.length h (by simp)
      obtain ⟨G2, B2, I2, h3, h4⟩ := ih e I' G' B' (by simpa using hd) h1
      exact ⟨G2, B2, I2, h2 _ h3, h4⟩
theorem Inv.same {sw : Int} {cl : List (List Int)} {I G B I' G' B' S : List Int} (h : Inv sw cl I G B S) (h' : Inv sw cl I' G' B' S) : I' = I := h'.own.made.trans h.own.made.symm

/-! settleVisit -/
theorem Own.has {sw : Int} {I S : List Int} (h : Own sw I S) (hI : IOk sw I) (n : Nat) (h1 : 1 ≤ n) (h2 : (n : Int) ≤ sw) : ((n : Int) ∈ S ∨ -(n : Int) ∈ S) ↔ rd I (n : Int) ≠ 0 := by
  constructor
  · rintro (hm | hm)
    · obtain ⟨_, e⟩ := h.mem _ hm
      rw [Int.natAbs_natCast] at e
      omega
    · obtain ⟨_, e⟩ := h.mem _ hm
      rw [Int.natAbs_neg, Int.natAbs_natCast] at e
      omega
  · intro hn
    have hm := h.all n hn
    have h3 := hI.2 n (by have := hI.1; omega)
    rcases h3 with e | e | e
    · exact absurd e hn
    · rw [e] at hm; exact .inl hm
    · rw [e] at hm; exact .inr hm
/-- The first seat that is free, told for both. -/
theorem next_ok {sw : Int} (hs : 0 ≤ sw ∧ sw ≤ 400) {I S : List Int} (hI : IOk sw I) (hO : Own sw I S) (hS : S.length ≤ 1000) :
    ∀ (d n : Nat), sw.toNat + 1 - n = d → 1 ≤ n → (n : Int) ≤ sw + 1 →
      (∃ q : Nat, 1 ≤ q ∧ (q : Int) ≤ sw ∧ rd I (q : Int) = 0 ∧ Ev (fun k => spec_visit.next k S sw (n : Int)) (q : Int) ∧ Ev (fun k => slices_Index_int64_int64.l0 k (I.drop 1) 0 ((I.drop 1).length : Int) ((n : Int) - 1)) ((q : Int) - 1)) ∨
      (Ev (fun k => spec_visit.next k S sw (n : Int)) (sw + 1) ∧ Ev (fun k => slices_Index_int64_int64.l0 k (I.drop 1) 0 ((I.drop 1).length : Int) ((n : Int) - 1)) (-1) ∧ ∀ q : Nat, n ≤ q → (q : Int) ≤ sw → rd I (q : Int) ≠ 0) := by
  have hl : ((I.drop 1).length : Int) = sw := by rw [List.length_drop]; have := hI.1; omega
  intro d
  induction d with
  | zero =>
    intro n hd h1 h2
    have e : (n : Int) = sw + 1 := by omega
    right
    refine ⟨Ev.step (f := fun _ => some _) (fun k => ?_) (Ev.now _), Ev.step (f := fun _ => some _) (fun k => ?_) (Ev.now _), fun q hq1 hq2 => by omega⟩
    · rw [spec_visit.next, if_neg (by omega), e]
    · rw [slices_Index_int64_int64.l0, if_neg (by omega)]
  | succ d ih =>
    intro n hd h1 h2
    have hn : (n : Int) ≤ sw := by omega
    have hh := hO.has hI n h1 hn
    have e1 := hasU S (n : Int) (by omega)
    have e2 := hasU S (-(n : Int)) (by omega)
    have hw : wrap64 ((n : Int) + 1) = ((n + 1 : Nat) : Int) := wrap_next n (by omega)
    have hw2 : wrap64 ((n : Int) - 1 + 1) = ((n + 1 : Nat) : Int) - 1 := by rw [wrap64_id (by omega) (by omega)]; omega
    have hwn : wrap64 (-(n : Int)) = -(n : Int) := wrap64_id (by omega) (by omega)
    have hrd : rd (I.drop 1) ((n : Int) - 1) = rd I (n : Int) := by
      obtain ⟨m, rfl⟩ : ∃ m, n = m + 1 := ⟨n - 1, by omega⟩
      rw [show ((m + 1 : Nat) : Int) - 1 = (m : Int) by omega, rd_get _ _ (by rw [List.length_drop]; have := hI.1; omega), rd_get _ _ (by have := hI.1; omega), List.getElem_drop]
      congr 1
      omega
    by_cases c : rd I (n : Int) = 0
    · left
      have d1 : decide ((n : Int) ∈ S) = false := decide_eq_false (fun h => hh.1 (.inl h) c)
      have d2 : decide (-(n : Int) ∈ S) = false := decide_eq_false (fun h => hh.1 (.inr h) c)
      rw [d1] at e1
      rw [d2] at e2
      refine ⟨n, h1, hn, c, ?_, Ev.step (f := fun _ => some _) (fun k => ?_) (Ev.now _)⟩
      · refine Ev.step (f := fun k => (spec_l1Has.f k S (n : Int)).bind fun t => if t = true then spec_visit.next k S sw (wrap64 ((n : Int) + 1)) else (spec_l1Has.f k S (wrap64 (-(n : Int)))).bind fun t => if t = true then spec_visit.next k S sw (wrap64 ((n : Int) + 1)) else some (n : Int)) (fun k => by rw [spec_visit.next, if_pos hn]) ?_
        refine Ev.bind (f := fun k t => if t = true then spec_visit.next k S sw (wrap64 ((n : Int) + 1)) else (spec_l1Has.f k S (wrap64 (-(n : Int)))).bind fun t => if t = true then spec_visit.next k S sw (wrap64 ((n : Int) + 1)) else some (n : Int)) e1 (Ev.congr (fun k => by rw [if_neg (by decide), hwn]) (Ev.bind (f := fun k t => if t = true then spec_visit.next k S sw (wrap64 ((n : Int) + 1)) else some (n : Int)) e2 (Ev.congr (fun k => if_neg (by decide)) (Ev.now _))))
      · rw [slices_Index_int64_int64.l0, if_pos (by omega), if_pos (by omega), if_pos (by omega), hrd, if_pos c.symm]
    · have step2 : ∀ r, Ev (fun k => slices_Index_int64_int64.l0 k (I.drop 1) 0 ((I.drop 1).length : Int) (((n + 1 : Nat) : Int) - 1)) r → Ev (fun k => slices_Index_int64_int64.l0 k (I.drop 1) 0 ((I.drop 1).length : Int) ((n : Int) - 1)) r := fun r hr => Ev.step (fun k => by
        rw [slices_Index_int64_int64.l0, if_pos (by omega), if_pos (by omega), if_pos (by omega), hrd, if_neg (fun h => c h.symm), hw2]) hr
      have step1 : ∀ r, Ev (fun k => spec_visit.next k S sw ((n + 1 : Nat) : Int)) r → Ev (fun k => spec_visit.next k S sw (n : Int)) r := fun r hr => by
        refine Ev.step (f := fun k => (spec_l1Has.f k S (n : Int)).bind fun t => if t = true then spec_visit.next k S sw (wrap64 ((n : Int) + 1)) else (spec_l1Has.f k S (wrap64 (-(n : Int)))).bind fun t => if t = true then spec_visit.next k S sw (wrap64 ((n : Int) + 1)) else some (n : Int)) (fun k => by rw [spec_visit.next, if_pos hn]) ?_
        refine Ev.bind (f := fun k t => if t = true then spec_visit.next k S sw (wrap64 ((n : Int) + 1)) else (spec_l1Has.f k S (wrap64 (-(n : Int)))).bind fun t => if t = true then spec_visit.next k S sw (wrap64 ((n : Int) + 1)) else some (n : Int)) e1 ?_
        by_cases c1 : (n : Int) ∈ S
        · exact Ev.congr (fun k => by rw [if_pos (by simpa using c1), hw]) hr
        · have c2 : -(n : Int) ∈ S := (hh.2 c).resolve_left c1
          refine Ev.congr (fun k => by rw [if_neg (by simpa using c1), hwn]) (Ev.bind (f := fun k t => if t = true then spec_visit.next k S sw (wrap64 ((n : Int) + 1)) else some (n : Int)) e2 (Ev.congr (fun k => by rw [if_pos (by simpa using c2), hw]) hr))
      rcases ih (n + 1) (by omega) (by omega) (by omega) with ⟨q, q1, q2, q3, q4, q5⟩ | ⟨q1, q2, q3⟩
      · exact .inl ⟨q, q1, q2, q3, step1 _ q4, step2 _ q5⟩
      · refine .inr ⟨step1 _ q1, step2 _ q2, fun q h3 h4 => ?_⟩
        by_cases e : q = n
        · rw [e]; exact c
        · exact q3 q (by omega) h4
theorem l18Unit_ev {sw : Int} (hs : 0 ≤ sw ∧ sw ≤ 400) (cl : List (List Int)) {I S : List Int} (hO : Own sw I S) (hl : S.length ≤ 1000) (r : List Int × Bool) (h : Ev (fun k => spec_l18Unit.l1 k I S 0 sw cl) r) : Ev (fun k => spec_l18Unit.f k sw cl S) r := by
  rw [hO.made] at h
  have := spec_stands hs cl S S (by omega) (fun y hy => (hO.mem y hy).1) r _ 0 rfl (by omega) (List.replicate (sw + 1).toNat 0) (by simp; omega) (by rw [List.drop_zero]; exact h)
  refine Ev.congr (fun k => ?_) this
  unfold spec_l18Unit.f
  have hw : wrap64 (sw + 1) = sw + 1 := wrap64_id (by omega) (by omega)
  rw [hw, if_pos (by omega), if_pos (by omega), Option.bind_some, if_pos (by simp; omega), List.nil_append]
  rfl
/-- What a visit tells, for both. -/
def VisR (sw most : Int) (cl : List (List Int)) (H : Int → List Int) (v : Int) (I G B S fo : List Int) : Prop :=
  ∃ code v' G' B' S' I' b m' fo', Ev (fun k => impl_visit.f H cl most k v G B S I) (code, v', G', B', S', I') ∧ Ev (fun k => spec_visit.f sw most cl k v false fo S) (b, v', m', fo') ∧ Inv sw cl I' G' B' S' ∧ (∃ ext, S' = S ++ ext) ∧ v ≤ v' ∧ v' ≤ most ∧
    ((code = 1 ∧ b = true ∧ m' = false ∧ fo' = S' ∧ FullI cl I' ∧ ∀ q : Nat, 1 ≤ q → (q : Int) ≤ sw → rd I' (q : Int) ≠ 0) ∨ (code = 3 ∧ b = false ∧ m' = true) ∨ (code = 2 ∧ b = false ∧ m' = false ∧ ∀ T, Reads cl T → ¬ Holds T I))
theorem visit_ok {sw most : Int} (hs : 0 ≤ sw ∧ sw ≤ 400) (hm : most ≤ 20000) {cl : List (List Int)} (hg : GoodCl sw cl) {H : Int → List Int} (hH : HOk cl cl.length 0 H) :
    ∀ (z : Nat) (v : Int) (I G B S fo : List Int), zer I ≤ z → Inv sw cl I G B S → 0 ≤ v → v ≤ most → VisR sw most cl H v I G B S fo := by
  intro z
  induction z with
  | zero => intro v I G B S fo hz h; have := zer_pos hs.1 h.ok; omega
  | succ z ih =>
    intro v I G B S fo hz h v0 v1
    by_cases c1 : v = most
    · exact ⟨3, v, G, B, S, I, false, true, fo, Ev.step (f := fun _ => some _) (fun k => by rw [impl_visit.f, if_pos c1]) (Ev.now _), Ev.step (f := fun _ => some _) (fun k => by rw [spec_visit.f, if_pos c1]) (Ev.now _), h, ⟨[], by simp⟩, by omega, by omega, .inr (.inl ⟨rfl, rfl, rfl⟩)⟩
    · have hr := h.room
      have hw : wrap64 (v + 1) = v + 1 := wrap64_id (by omega) (by omega)
      obtain ⟨b, G1, B1, S1, I1, u1, u2, u3, u4, u5, u6, ⟨ext, u7⟩, u8, u9⟩ := unit_full hs hg hH _ I G B S rfl h.ok h.gb (by omega) h.own
      have h1 : Inv sw cl I1 G1 B1 S1 := ⟨u3, u4, u5, by omega⟩
      have hle : S.length ≤ S1.length := by rw [u7, List.length_append]; omega
      have sU := l18Unit_ev hs cl h.own (by omega) _ u2
      obtain ⟨K1, hK1⟩ := u1
      obtain ⟨K2, hK2⟩ := sU
      have iStep : ∀ k, K1 ≤ k → impl_visit.f H cl most (k + 1) v G B S I = if b = true then (if 0 < I.length then (slices_Index_int64_int64.f k (I1.drop 1) 0).bind fun r => if wrap64 (r + 1) = 0 then some (1, v + 1, (G1, B1, S1, I1)) else impl_visit.try H (impl_visit.f H cl most k) k S1.length [wrap64 (-(wrap64 (r + 1))), wrap64 (r + 1)] (v + 1) G1 B1 S1 I1 else none) else some (2, v + 1, (G1, B1, S1, I1)) := fun k hk => by
        have a := hK1 k hk
        dsimp only at a
        rw [impl_visit.f, if_neg c1, a, Option.bind_some, hw]
      have sStep : ∀ k, K2 ≤ k → spec_visit.f sw most cl (k + 1) v false fo S = if b = true then ((spec_visit.next k S1 sw 1).bind fun n => if n ≤ sw then (if S1.length < 17592186044416 then (spec_visit.f sw most cl k (v + 1) false fo (S1 ++ [wrap64 (-n)])).bind fun r => if r.1 = true then some r else if r.2.2.1 = true then some r else spec_visit.f sw most cl k r.2.1 r.2.2.1 r.2.2.2 (S1 ++ [n]) else none) else some (true, v + 1, false, S1)) else some (false, v + 1, false, fo) := fun k hk => by
        have a := hK2 k hk
        dsimp only at a
        rw [spec_visit.f, if_neg c1, a, Option.bind_some, hw]
      have mkI : ∀ (F : Nat → Option (Int × Int × List Int × List Int × List Int × List Int)) r, (∀ k, K1 ≤ k → impl_visit.f H cl most (k + 1) v G B S I = F k) → Ev F r → Ev (fun k => impl_visit.f H cl most k v G B S I) r := fun F r hF ⟨K, hK⟩ => ⟨K1 + K + 1, fun k hk => by
        obtain ⟨m, rfl⟩ : ∃ m, k = m + 1 := ⟨k - 1, by omega⟩
        exact (hF m (by omega)).trans (hK m (by omega))⟩
      have mkS : ∀ (F : Nat → Option (Bool × Int × Bool × List Int)) r, (∀ k, K2 ≤ k → spec_visit.f sw most cl (k + 1) v false fo S = F k) → Ev F r → Ev (fun k => spec_visit.f sw most cl k v false fo S) r := fun F r hF ⟨K, hK⟩ => ⟨K2 + K + 1, fun k hk => by
        obtain ⟨m, rfl⟩ : ∃ m, k = m + 1 := ⟨k - 1, by omega⟩
        exact (hF m (by omega)).trans (hK m (by omega))⟩
      cases b with
      | false => exact ⟨2, v + 1, G1, B1, S1, I1, false, false, fo, mkI (fun _ => some _) _ (fun k hk => by rw [iStep k hk, if_neg (by decide)]) (Ev.now _), mkS (fun _ => some _) _ (fun k hk => by rw [sStep k hk, if_neg (by decide)]) (Ev.now _), h1, ⟨ext, u7⟩, by omega, by omega, .inr (.inr ⟨rfl, rfl, rfl, fun T hT hHo => by have := (u9 T hT hHo).1; cases this⟩)⟩
      | true =>
        have hIl : 0 < I.length := by have := h.ok.1; omega
        rcases next_ok hs u3 u5 (by have := h1.room; omega) _ 1 rfl (Nat.le_refl _) (by omega) with ⟨q, q1, q2, q3, q4, q5⟩ | ⟨q1, q2, q3⟩
        · have q5 : Ev (fun k => slices_Index_int64_int64.f k (I1.drop 1) 0) ((q : Int) - 1) := Ev.congr (fun k => rfl) q5
          have q4 : Ev (fun k => spec_visit.next k S1 sw 1) (q : Int) := q4
          have wq : wrap64 ((q : Int) - 1 + 1) = (q : Int) := by rw [wrap64_id (by omega) (by omega)]; omega
          have wn : wrap64 (-(q : Int)) = -(q : Int) := wrap64_id (by omega) (by omega)
          have hgq : GoodN sw (q : Int) := ⟨by omega, by omega, by omega⟩
          have hgn : GoodN sw (-(q : Int)) := ⟨by omega, by omega, by omega⟩
          obtain ⟨K3, hK3⟩ := q5
          obtain ⟨K4, hK4⟩ := q4
          have iTry : ∀ r, Ev (fun k => impl_visit.try H (impl_visit.f H cl most k) k S1.length [-(q : Int), (q : Int)] (v + 1) G1 B1 S1 I1) r → Ev (fun k => impl_visit.f H cl most k v G B S I) r := fun r ⟨K, hK⟩ => mkI (fun k => (slices_Index_int64_int64.f k (I1.drop 1) 0).bind fun r => if wrap64 (r + 1) = 0 then some (1, v + 1, (G1, B1, S1, I1)) else impl_visit.try H (impl_visit.f H cl most k) k S1.length [wrap64 (-(wrap64 (r + 1))), wrap64 (r + 1)] (v + 1) G1 B1 S1 I1) r (fun k hk => by rw [iStep k hk, if_pos rfl, if_pos hIl]) ⟨K + K3, fun k hk => by
            have := hK3 k (by omega)
            dsimp only at this ⊢
            rw [this, Option.bind_some, wq, if_neg (by omega), wn]
            exact hK k (by omega)⟩
          have sTry : ∀ r, Ev (fun k => (spec_visit.f sw most cl k (v + 1) false fo (S1 ++ [-(q : Int)])).bind fun r => if r.1 = true then some r else if r.2.2.1 = true then some r else spec_visit.f sw most cl k r.2.1 r.2.2.1 r.2.2.2 (S1 ++ [(q : Int)])) r → Ev (fun k => spec_visit.f sw most cl k v false fo S) r := fun r ⟨K, hK⟩ => mkS (fun k => (spec_visit.next k S1 sw 1).bind fun n => if n ≤ sw then (if S1.length < 17592186044416 then (spec_visit.f sw most cl k (v + 1) false fo (S1 ++ [wrap64 (-n)])).bind fun r => if r.1 = true then some r else if r.2.2.1 = true then some r else spec_visit.f sw most cl k r.2.1 r.2.2.1 r.2.2.2 (S1 ++ [n]) else none) else some (true, v + 1, false, S1)) r (fun k hk => by rw [sStep k hk, if_pos rfl]) ⟨K + K4, fun k hk => by
            have := hK4 k (by omega)
            dsimp only at this ⊢
            rw [this, Option.bind_some, if_pos q2, if_pos (by have := h1.room; omega), wn]
            exact hK k (by omega)⟩
          -- the first of the two
          have en : ((-(q : Int)).natAbs : Int) = (q : Int) := by omega
          obtain ⟨Ga, Ba, a1, a2, a3⟩ := h1.stand hs hg hH (-(q : Int)) hgn (by rw [en]; exact q3)
          obtain ⟨ca, va, Gb, Bb, Sb, Ib, ba, ma, foa, i1, i2, i3, ⟨ex1, i4⟩, i5, i6, i7⟩ := ih (v + 1) _ Ga Ba _ fo (by omega) a2 (by omega) (by omega)
          have hSb : Sb = S1 ++ (-(q : Int) :: ex1) := by rw [i4]; simp
          have t1 : ∀ r, ca ≠ 2 → r = (ca, va, Gb, Bb, Sb, Ib) → Ev (fun k => impl_visit.try H (impl_visit.f H cl most k) k S1.length [-(q : Int), (q : Int)] (v + 1) G1 B1 S1 I1) r := fun r hne hre => by
            obtain ⟨K, hK⟩ := i1
            refine ⟨K, fun k hk => ?_⟩
            have := hK k hk
            dsimp only at this ⊢
            rw [impl_visit.try, a1, Option.bind_some, this, Option.bind_some]
            dsimp only
            rw [if_neg hne, hre]
          have hS1 : ∃ e, Sb = S ++ e := ⟨ext ++ (-(q : Int) :: ex1), by rw [hSb, u7]; simp⟩
          rcases i7 with ⟨rfl, rfl, rfl, j1⟩ | ⟨rfl, rfl, rfl⟩ | ⟨rfl, rfl, rfl, j1⟩
          · refine ⟨1, va, Gb, Bb, Sb, Ib, true, false, foa, iTry _ (t1 _ (by omega) rfl), sTry _ ?_, i3, hS1, by omega, i6, .inl ⟨rfl, rfl, rfl, j1⟩⟩
            exact Ev.bind (f := fun k r => if r.1 = true then some r else if r.2.2.1 = true then some r else spec_visit.f sw most cl k r.2.1 r.2.2.1 r.2.2.2 (S1 ++ [(q : Int)])) i2 (Ev.congr (fun k => if_pos rfl) (Ev.now _))
          · refine ⟨3, va, Gb, Bb, Sb, Ib, false, true, foa, iTry _ (t1 _ (by omega) rfl), sTry _ ?_, i3, hS1, by omega, i6, .inr (.inl ⟨rfl, rfl, rfl⟩)⟩
            exact Ev.bind (f := fun k r => if r.1 = true then some r else if r.2.2.1 = true then some r else spec_visit.f sw most cl k r.2.1 r.2.2.1 r.2.2.2 (S1 ++ [(q : Int)])) i2 (Ev.congr (fun k => by dsimp only; rw [if_neg (by decide), if_pos rfl]) (Ev.now _))
          · -- the second
            rw [hSb] at i3 i1
            obtain ⟨Gc, Bc, Ic, k1, k2⟩ := back_ok hs hg hH S1 _ _ Ib Gb Bb rfl i3
            have hIc : Ic = I1 := h1.same k2
            rw [hIc] at k1 k2
            obtain ⟨Gd, Bd, d1, d2, d3⟩ := k2.stand hs hg hH (q : Int) hgq (by rw [Int.natAbs_natCast]; exact q3)
            obtain ⟨cb, vb, Ge, Be, Se, Ie, bb, mb, fob, e1, e2, e3, ⟨ex2, e4⟩, e5, e6, e7⟩ := ih va _ Gd Bd _ foa (by omega) d2 (by omega) i6
            have hSe : Se = S1 ++ ((q : Int) :: ex2) := by rw [e4]; simp
            have hS2 : ∃ e, Se = S ++ e := ⟨ext ++ ((q : Int) :: ex2), by rw [hSe, u7]; simp⟩
            have s2 : Ev (fun k => spec_visit.f sw most cl k v false fo S) (bb, vb, mb, fob) := sTry _ (Ev.bind (f := fun k r => if r.1 = true then some r else if r.2.2.1 = true then some r else spec_visit.f sw most cl k r.2.1 r.2.2.1 r.2.2.2 (S1 ++ [(q : Int)])) i2 (Ev.congr (fun k => by dsimp only; rw [if_neg (by decide), if_neg (by decide)]) e2))
            obtain ⟨Ka, hKa⟩ := i1
            obtain ⟨Kb, hKb⟩ := k1
            have t2 : ∀ r, Ev (fun k => (impl_visit.f H cl most k va Gd Bd (S1 ++ [(q : Int)]) (I1.set ((q : Int)).natAbs (q : Int))).bind fun r => if r.1 = 2 then ((impl_trail_back.f H S1.length k r.2.2.1 r.2.2.2.1 r.2.2.2.2.1 r.2.2.2.2.2).bind fun T => some (2, r.2.1, T.1, T.2.1, T.2.2.1, T.2.2.2)) else some r) r → Ev (fun k => impl_visit.try H (impl_visit.f H cl most k) k S1.length [-(q : Int), (q : Int)] (v + 1) G1 B1 S1 I1) r := fun r ⟨K, hK⟩ => ⟨Ka + Kb + K, fun k hk => by
              have g1 := hKa k (by omega)
              have g2 := hKb k (by omega)
              have g3 := hK k (by omega)
              dsimp only at g1 g2 g3 ⊢
              rw [impl_visit.try, a1, Option.bind_some, g1, Option.bind_some]
              dsimp only
              rw [if_pos rfl, g2, Option.bind_some]
              dsimp only
              rw [impl_visit.try, d1, Option.bind_some]
              exact g3⟩
            rcases e7 with ⟨rfl, rfl, rfl, j2⟩ | ⟨rfl, rfl, rfl⟩ | ⟨rfl, rfl, rfl, j2⟩
            · refine ⟨1, vb, Ge, Be, Se, Ie, true, false, fob, iTry _ (t2 _ ?_), s2, e3, hS2, by omega, e6, .inl ⟨rfl, rfl, rfl, j2⟩⟩
              exact Ev.bind (f := fun k r => if r.1 = 2 then ((impl_trail_back.f H S1.length k r.2.2.1 r.2.2.2.1 r.2.2.2.2.1 r.2.2.2.2.2).bind fun T => some (2, r.2.1, T.1, T.2.1, T.2.2.1, T.2.2.2)) else some r) e1 (Ev.congr (fun k => by dsimp only; rw [if_neg (by decide)]) (Ev.now _))
            · refine ⟨3, vb, Ge, Be, Se, Ie, false, true, fob, iTry _ (t2 _ ?_), s2, e3, hS2, by omega, e6, .inr (.inl ⟨rfl, rfl, rfl⟩)⟩
              exact Ev.bind (f := fun k r => if r.1 = 2 then ((impl_trail_back.f H S1.length k r.2.2.1 r.2.2.2.1 r.2.2.2.2.1 r.2.2.2.2.2).bind fun T => some (2, r.2.1, T.1, T.2.1, T.2.2.1, T.2.2.2)) else some r) e1 (Ev.congr (fun k => by dsimp only; rw [if_neg (by decide)]) (Ev.now _))
            · rw [hSe] at e3 e1
              obtain ⟨Gf, Bf, If, f1, f2⟩ := back_ok hs hg hH S1 _ _ Ie Ge Be rfl e3
              refine ⟨2, vb, Gf, Bf, S1, If, false, false, fob, iTry _ (t2 _ ?_), s2, f2, ⟨ext, u7⟩, by omega, e6, .inr (.inr ⟨rfl, rfl, rfl, fun T hT hHo => ?_⟩)⟩
              · exact Ev.bind (f := fun k r => if r.1 = 2 then ((impl_trail_back.f H S1.length k r.2.2.1 r.2.2.2.1 r.2.2.2.2.1 r.2.2.2.2.2).bind fun T => some (2, r.2.1, T.1, T.2.1, T.2.2.1, T.2.2.2)) else some r) e1 (Ev.congr (fun k => if_pos rfl) (Ev.bind (f := fun k T => some (2, vb, T.1, T.2.1, T.2.2.1, T.2.2.2)) f1 (Ev.now _)))
              · have hH1 := (u9 T hT hHo).2
                have hl1 : q < I1.length := by have := u3.1; omega
                cases c : T (q : Int) with
                | true => exact j2 T hT (hH1.set (q : Int) (by omega) c)
                | false => exact j1 T hT (hH1.set (-(q : Int)) (by omega) (by rw [hT.opp _ (by omega), c]; rfl))
        · have q2 : Ev (fun k => slices_Index_int64_int64.f k (I1.drop 1) 0) (-1) := Ev.congr (fun k => rfl) q2
          have q1 : Ev (fun k => spec_visit.next k S1 sw 1) (sw + 1) := q1
          refine ⟨1, v + 1, G1, B1, S1, I1, true, false, S1, mkI (fun k => (slices_Index_int64_int64.f k (I1.drop 1) 0).bind fun r => if wrap64 (r + 1) = 0 then some (1, v + 1, (G1, B1, S1, I1)) else impl_visit.try H (impl_visit.f H cl most k) k S1.length [wrap64 (-(wrap64 (r + 1))), wrap64 (r + 1)] (v + 1) G1 B1 S1 I1) _ (fun k hk => by rw [iStep k hk, if_pos rfl, if_pos hIl]) ?_, mkS (fun k => (spec_visit.next k S1 sw 1).bind fun n => if n ≤ sw then (if S1.length < 17592186044416 then (spec_visit.f sw most cl k (v + 1) false fo (S1 ++ [wrap64 (-n)])).bind fun r => if r.1 = true then some r else if r.2.2.1 = true then some r else spec_visit.f sw most cl k r.2.1 r.2.2.1 r.2.2.2 (S1 ++ [n]) else none) else some (true, v + 1, false, S1)) _ (fun k hk => by rw [sStep k hk, if_pos rfl]) ?_, h1, ⟨ext, u7⟩, by omega, by omega, .inl ⟨rfl, rfl, rfl, rfl, (u8 rfl).2, fun q h3 h4 => q3 q h3 h4⟩⟩
          · exact Ev.bind (f := fun k r => if wrap64 (r + 1) = 0 then some (1, v + 1, (G1, B1, S1, I1)) else impl_visit.try H (impl_visit.f H cl most k) k S1.length [wrap64 (-(wrap64 (r + 1))), wrap64 (r + 1)] (v + 1) G1 B1 S1 I1) q2 (Ev.congr (fun k => if_pos (by rw [wrap64_id (x := (-1 : Int) + 1) (by omega) (by omega)]; decide)) (Ev.now _))
          · exact Ev.bind (f := fun k n => if n ≤ sw then (if S1.length < 17592186044416 then (spec_visit.f sw most cl k (v + 1) false fo (S1 ++ [wrap64 (-n)])).bind fun r => if r.1 = true then some r else if r.2.2.1 = true then some r else spec_visit.f sw most cl k r.2.1 r.2.2.1 r.2.2.2 (S1 ++ [n]) else none) else some (true, v + 1, false, S1)) q1 (Ev.congr (fun k => if_neg (by omega)) (Ev.now _))

/-! settleCore -/
def flagsOf (sw : Int) (I : List Int) : List Bool := (List.range sw.toNat).map (fun i => decide (rd I ((i + 1 : Nat) : Int) > 0))
theorem flags_take (sw : Int) (I : List Int) (i : Nat) (h : (i : Int) < sw) : (flagsOf sw I).take (i + 1) = (flagsOf sw I).take i ++ [decide (rd I ((i + 1 : Nat) : Int) > 0)] := by
  have hl : i < (flagsOf sw I).length := by unfold flagsOf; simp; omega
  rw [List.take_succ_eq_append_getElem hl]
  congr 2
  unfold flagsOf
  simp
theorem spec_flags {sw : Int} (hs : 0 ≤ sw ∧ sw ≤ 400) {I S : List Int} (hI : IOk sw I) (hO : Own sw I S) (hS : S.length ≤ 1000) :
    ∀ d i, sw.toNat - i = d → (i : Int) ≤ sw → Ev (fun k => spec_Settle.l0 k S sw ((flagsOf sw I).take i) ((i + 1 : Nat) : Int)) (flagsOf sw I) := by
  have hfl : (flagsOf sw I).length = sw.toNat := by unfold flagsOf; simp
  intro d
  induction d with
  | zero =>
    intro i hd hi
    refine Ev.step (f := fun _ => some _) (fun k => ?_) (Ev.now _)
    rw [spec_Settle.l0, if_neg (by omega), List.take_of_length_le (by omega)]
  | succ d ih =>
    intro i hd hi
    have hil : (i : Int) < sw := by omega
    have e := hasU S ((i + 1 : Nat) : Int) (by omega)
    have hb : decide (((i + 1 : Nat) : Int) ∈ S) = decide (rd I ((i + 1 : Nat) : Int) > 0) := by
      congr 1
      apply propext
      constructor
      · intro hm
        obtain ⟨_, e⟩ := hO.mem _ hm
        rw [Int.natAbs_natCast] at e
        omega
      · intro hp
        have hm := hO.all (i + 1) (by omega)
        have h3 := hI.2 (i + 1) (by have := hI.1; omega)
        have h4 : rd I ((i + 1 : Nat) : Int) = ((i + 1 : Nat) : Int) := by omega
        rwa [h4] at hm
    rw [hb] at e
    have g := ih (i + 1) (by omega) (by omega)
    rw [flags_take sw I i hil] at g
    have hw : wrap64 (((i + 1 : Nat) : Int) + 1) = ((i + 1 + 1 : Nat) : Int) := wrap_next (i + 1) (by omega)
    refine Ev.step (f := fun k => (spec_l1Has.f k S ((i + 1 : Nat) : Int)).bind fun t => if ((flagsOf sw I).take i).length < 140737488355328 then spec_Settle.l0 k S sw ((flagsOf sw I).take i ++ [t]) (wrap64 (((i + 1 : Nat) : Int) + 1)) else none) (fun k => by rw [spec_Settle.l0, if_pos (by omega)]) ?_
    exact Ev.bind (f := fun k t => if ((flagsOf sw I).take i).length < 140737488355328 then spec_Settle.l0 k S sw ((flagsOf sw I).take i ++ [t]) (wrap64 (((i + 1 : Nat) : Int) + 1)) else none) e (Ev.congr (fun k => by rw [if_pos (by rw [List.length_take]; omega), hw]) g)
theorem impl_flags {sw : Int} (hs : 0 ≤ sw ∧ sw ≤ 400) {I : List Int} (hI : IOk sw I) :
    ∀ d i, sw.toNat - i = d → (i : Int) ≤ sw → ∀ on : List Bool, on.length = sw.toNat → on.take i = (flagsOf sw I).take i → Ev (fun k => impl_settle.l0 k I on i) (flagsOf sw I) := by
  have hfl : (flagsOf sw I).length = sw.toNat := by unfold flagsOf; simp
  intro d
  induction d with
  | zero =>
    intro i hd hi on hl ht
    rw [List.take_of_length_le (by omega), List.take_of_length_le (by omega)] at ht
    refine Ev.step (f := fun _ => some _) (fun k => ?_) (Ev.now _)
    rw [impl_settle.l0, if_neg (by omega), ht]
  | succ d ih =>
    intro i hd hi on hl ht
    have hil : (i : Int) < sw := by omega
    refine Ev.step (fun k => ?_) (ih (i + 1) (by omega) (by omega) (on.set i (decide (rd I ((i + 1 : Nat) : Int) > 0))) (by rw [List.length_set]; exact hl) ?_)
    · rw [impl_settle.l0, if_pos (by omega), if_pos (by have := hI.1; omega)]
    · rw [flags_take sw I i hil, ← ht, List.take_succ_eq_append_getElem (by rw [List.length_set]; omega), List.getElem_set_self, List.take_set_of_le (Nat.le_refl _)]
theorem zero_inv {sw : Int} (hs : 0 ≤ sw ∧ sw ≤ 400) {cl : List (List Int)} (hg : GoodCl sw cl) : Inv sw cl (List.replicate (sw + 1).toNat 0) (List.replicate cl.length 0) (List.replicate cl.length 0) [] := by
  obtain ⟨z1, z2, z3⟩ := unit_zero hs hg
  exact ⟨z1, z2, Own.zero sw, by rw [Nat.add_comm]; exact z3⟩
/-- What both answer of right clauses. -/
theorem settle_core {sw : Int} (hs : 0 ≤ sw ∧ sw ≤ 400) {cl : List (List Int)} (hg : GoodCl sw cl) (h1 : Ev (fun k => spec_CnfOk.f k sw cl) true) (h2 : Ev (fun k => impl_CnfOk.f k sw cl) true) (most : Int) (hm : 0 ≤ most ∧ most ≤ 20000) :
    ∃ (out : List Bool) (v st : Int), Ev (fun k => spec_Settle.f k sw cl most) (out, v, st) ∧ Ev (fun k => impl_Settle.f k sw cl most) (out, v, st) ∧ out.length ≤ 1000 ∧ v ≤ most ∧
      ((st = 1 ∧ ∃ I, IOk sw I ∧ out = flagsOf sw I ∧ FullI cl I ∧ ∀ q : Nat, 1 ≤ q → (q : Int) ≤ sw → rd I (q : Int) ≠ 0) ∨ (st = 2 ∧ out = [] ∧ ∀ T, ¬ Reads cl T) ∨ (st = 3 ∧ out = [])) := by
  obtain ⟨H, t1, t2⟩ := trail_ok hs cl hg
  obtain ⟨code, v, G, B, S, I, b, m, fo, i1, i2, i3, _, i5, i6, i7⟩ := visit_ok hs hm.2 hg t2 _ 0 _ _ _ [] [] (Nat.le_refl _) (zero_inv hs hg) (Int.le_refl _) hm.1
  have dm : decide (0 ≤ most ∧ most ≤ 20000) = true := decide_eq_true hm
  obtain ⟨K1, h1⟩ := h1
  obtain ⟨K2, h2⟩ := h2
  obtain ⟨K3, t1⟩ := t1
  obtain ⟨K4, i1⟩ := i1
  obtain ⟨K5, i2⟩ := i2
  have sp : ∀ k, K1 + K5 ≤ k → spec_Settle.f k sw cl most = if m = true then some ([], most, 3) else if b = true then ((spec_Settle.l0 k fo sw [] 1).bind fun out => some (out, v, 1)) else some ([], v, 2) := fun k hk => by
    have a1 := h1 k (by omega)
    have a2 := i2 k (by omega)
    dsimp only at a1 a2
    unfold spec_Settle.f
    rw [a1, Option.bind_some, if_pos rfl, l1In_eq, dm, Option.bind_some, if_pos rfl, a2, Option.bind_some]
  have im : ∀ k, K2 + K3 + K4 ≤ k → impl_Settle.f k sw cl most = if code = 2 then some ([], v, 2) else if code = 3 then some ([], most, 3) else (if 0 ≤ sw ∧ sw ≤ 1000000 then (impl_settle.l0 k I (List.replicate sw.toNat false) 0).bind fun on => some (on, v, 1) else none) := fun k hk => by
    have a1 := h2 k (by omega)
    have a2 := t1 k (by omega)
    have a3 := i1 k (by omega)
    dsimp only at a1 a2 a3
    unfold impl_Settle.f
    rw [a1, Option.bind_some, if_pos rfl, inside_eq, dm, Option.bind_some, if_pos rfl]
    unfold impl_settle.f
    rw [a2, Option.bind_some, a3, Option.bind_some]
  rcases i7 with ⟨rfl, rfl, rfl, rfl, j1, j2⟩ | ⟨rfl, rfl, rfl⟩ | ⟨rfl, rfl, rfl, j1⟩
  · obtain ⟨K6, f1⟩ := spec_flags hs i3.ok i3.own (by have := i3.room; omega) _ 0 rfl (by omega)
    obtain ⟨K7, f2⟩ := impl_flags hs i3.ok _ 0 rfl (by omega) (List.replicate sw.toNat false) (by simp) (by simp)
    refine ⟨flagsOf sw I, v, 1, ⟨K1 + K5 + K6, fun k hk => ?_⟩, ⟨K2 + K3 + K4 + K7, fun k hk => ?_⟩, by unfold flagsOf; simp; omega, i6, .inl ⟨rfl, I, i3.ok, rfl, j1, j2⟩⟩
    · have := f1 k (by omega)
      dsimp only at this ⊢
      rw [List.take_zero] at this
      rw [sp k (by omega), if_neg (by decide), if_pos rfl]
      rw [show (1 : Int) = ((0 + 1 : Nat) : Int) from rfl, this, Option.bind_some]
    · have := f2 k (by omega)
      dsimp only at this ⊢
      rw [im k (by omega), if_neg (by decide), if_neg (by decide), if_pos (by omega), this, Option.bind_some]
  · exact ⟨[], most, 3, ⟨K1 + K5, fun k hk => (sp k hk).trans (if_pos rfl)⟩, ⟨K2 + K3 + K4, fun k hk => (im k hk).trans ((if_neg (by decide)).trans (if_pos rfl))⟩, by simp, Int.le_refl _, .inr (.inr ⟨rfl, rfl⟩)⟩
  · exact ⟨[], v, 2, ⟨K1 + K5, fun k hk => (sp k hk).trans ((if_neg (by decide)).trans (if_neg (by decide)))⟩, ⟨K2 + K3 + K4, fun k hk => (im k hk).trans (if_pos rfl)⟩, by simp, i6, .inr (.inl ⟨rfl, rfl, fun T hT => j1 T hT (fun a ha => absurd (rd_zeros _ _) ha)⟩)⟩
theorem settle_bad (sw : Int) (cl : List (List Int)) (most : Int) (b : Bool) (h1 : Ev (fun k => spec_CnfOk.f k sw cl) b) (h2 : Ev (fun k => impl_CnfOk.f k sw cl) b) (hb : b = true → ¬ (0 ≤ most ∧ most ≤ 20000)) :
    Ev (fun k => spec_Settle.f k sw cl most) ([], -1, 4) ∧ Ev (fun k => impl_Settle.f k sw cl most) ([], -1, 4) := by
  obtain ⟨K1, h1⟩ := h1
  obtain ⟨K2, h2⟩ := h2
  cases b with
  | false =>
    refine ⟨⟨K1, fun k hk => ?_⟩, ⟨K2, fun k hk => ?_⟩⟩
    · have := h1 k hk
      dsimp only at this ⊢
      unfold spec_Settle.f
      rw [this, Option.bind_some, if_neg (by decide)]
    · have := h2 k hk
      dsimp only at this ⊢
      unfold impl_Settle.f
      rw [this, Option.bind_some, if_neg (by decide)]
  | true =>
    have dm : decide (0 ≤ most ∧ most ≤ 20000) = false := decide_eq_false (hb rfl)
    refine ⟨⟨K1, fun k hk => ?_⟩, ⟨K2, fun k hk => ?_⟩⟩
    · have := h1 k hk
      dsimp only at this ⊢
      unfold spec_Settle.f
      rw [this, Option.bind_some, if_pos rfl, l1In_eq, dm, Option.bind_some, if_neg (by decide)]
    · have := h2 k hk
      dsimp only at this ⊢
      unfold impl_Settle.f
      rw [this, Option.bind_some, if_pos rfl, inside_eq, dm, Option.bind_some, if_neg (by decide)]

/-! drawSettle -/
theorem drawSettle_ev (b : List Int) (hb : Code b) : ∃ sw cl most, Ev (fun k => spec_DrawSettle.f k b) (sw, cl, most) := by
  obtain ⟨sw, cl, q, ⟨K1, h1⟩, hI, hq⟩ := cnf_ev b hb 0 ⟨by omega, by omega⟩
  have fin : ∀ s : Int, ∃ most, Ev (fun k => spec_DrawSettle.j0 k b q s cl) (s, cl, most) := fun s => by
    obtain ⟨t, p1, e1, hp1⟩ := once_ev b hb q hq 4 (by omega)
    cases t with
    | true =>
      obtain ⟨x, p2, ⟨K2, e2⟩, _, _⟩ := off_ev b hb p1 hp1 0 5 (by omega) (by unfold I64; omega)
      refine ⟨x, ⟨K2 + 1, fun k hk => ?_⟩⟩
      obtain ⟨m, rfl⟩ : ∃ m, k = m + 1 := ⟨k - 1, by omega⟩
      have e2 := e2 m (by omega)
      dsimp only at e2 ⊢
      rw [spec_DrawSettle.j0, e1, Option.bind_some]
      dsimp only
      rw [if_pos rfl, e2, Option.bind_some]
    | false =>
      obtain ⟨x, p2, ⟨K2, e2⟩, _, _⟩ := off_ev b hb p1 hp1 0 300 (by omega) (by unfold I64; omega)
      refine ⟨x, ⟨K2 + 1, fun k hk => ?_⟩⟩
      obtain ⟨m, rfl⟩ : ∃ m, k = m + 1 := ⟨k - 1, by omega⟩
      have e2 := e2 m (by omega)
      dsimp only at e2 ⊢
      rw [spec_DrawSettle.j0, e1, Option.bind_some]
      dsimp only
      rw [if_neg (by decide), e2, Option.bind_some]
  by_cases c : sw > 12
  · obtain ⟨most, ⟨K2, h2⟩⟩ := fin 12
    refine ⟨12, cl, most, ⟨K1 + K2, fun k hk => ?_⟩⟩
    have h1 := h1 k (by omega)
    have h2 := h2 k (by omega)
    dsimp only at h1 h2 ⊢
    unfold spec_DrawSettle.f spec_l1Open.f
    rw [Option.bind_some, h1, Option.bind_some]
    dsimp only
    rw [if_pos c]
    exact h2
  · obtain ⟨most, ⟨K2, h2⟩⟩ := fin sw
    refine ⟨sw, cl, most, ⟨K1 + K2, fun k hk => ?_⟩⟩
    have h1 := h1 k (by omega)
    have h2 := h2 k (by omega)
    dsimp only at h1 h2 ⊢
    unfold spec_DrawSettle.f spec_l1Open.f
    rw [Option.bind_some, h1, Option.bind_some]
    dsimp only
    rw [if_neg c]
    exact h2

/-! settledLaw -/
theorem flags_on {sw : Int} (hs : 0 ≤ sw ∧ sw ≤ 400) (I : List Int) (n : Int) (hn : GoodN sw n) (h : rd I (n.natAbs : Int) = n) : byOn (flagsOf sw I) n = true := by
  obtain ⟨n0, n1, n2⟩ := hn
  obtain ⟨m, hm⟩ : ∃ m, n.natAbs = m + 1 := ⟨n.natAbs - 1, by omega⟩
  have hml : m < sw.toNat := by omega
  unfold byOn
  rw [hm] at h ⊢
  have e : ((m + 1 : Nat) : Int) - 1 = (m : Int) := by omega
  have e2 : rdOf false (flagsOf sw I) (m : Int) = decide (rd I ((m + 1 : Nat) : Int) > 0) := by
    unfold rdOf flagsOf
    rw [Int.toNat_natCast, List.getD_eq_getElem?_getD, List.getElem?_map, List.getElem?_range hml]
    rfl
  rw [e, e2, h]
  exact beq_self_eq_true _
theorem flags_meet {sw : Int} (hs : 0 ≤ sw ∧ sw ≤ 400) {cl : List (List Int)} (hg : GoodCl sw cl) {I : List Int} (hF : FullI cl I) (hall : ∀ q : Nat, 1 ≤ q → (q : Int) ≤ sw → rd I (q : Int) ≠ 0) : ∀ p ∈ cl, ∃ n ∈ p, byOn (flagsOf sw I) n = true := by
  intro p hp
  obtain ⟨q, hq, rfl⟩ := List.mem_iff_getElem.1 hp
  have hn := (hg.2 _ hp).2
  have h := hF q hq
  rw [rdE_L2 cl q hq] at h
  have hf0 : (cl[q]).countP (fre I) = 0 := List.countP_eq_zero.2 (fun n hm hc => by
    obtain ⟨n0, n1, n2⟩ := hn n hm
    exact hall n.natAbs (by omega) (by omega) (of_decide_eq_true hc))
  have hs0 : 0 < (cl[q]).countP (sat I) := by omega
  obtain ⟨n, hm, hc⟩ := List.countP_pos_iff.1 hs0
  exact ⟨n, hm, flags_on hs I n (hn n hm) (of_decide_eq_true hc)⟩
def settledTail (k : Nat) (x11 sw : Int) (cl : List (List Int)) (x12 : List Bool) : Option Bool := (impl_Meets.f k sw cl x12).bind fun t253 => (if t253 = true then (some false) else (laws_FnSettled.l0 k (wrap64 (x11 + 1)) sw cl))
theorem settled_try (x11 : Int) (n : Nat) (hn : n ≤ 9) (cl : List (List Int)) (r : Bool) (next : ∀ on : List Bool, on.length = n → Ev (fun k => settledTail k x11 (n : Int) cl on) r) :
    ∀ (d j : Nat), n - j = d → j ≤ n → ∀ on : List Bool, on.length = j → Ev (fun k => laws_FnSettled.l1 k x11 on (j : Int) (n : Int) cl) r := by
  intro d
  induction d with
  | zero =>
    intro j hd hj on hon
    exact Ev.step (fun k => by rw [laws_FnSettled.l1, if_neg (by omega)]; rfl) (next on (by omega))
  | succ d ih =>
    intro j hd hj on hon
    exact Ev.step (fun k => by rw [laws_FnSettled.l1, if_pos (by omega), if_pos (u64_pos _), if_pos (by omega), wrap_next j (by omega)]) (ih (j + 1) (by omega) (by omega) _ (by simp; omega))
theorem settled_loop {n : Nat} (hn : n ≤ 9) {cl : List (List Int)} (hg : GoodCl (n : Int) cl) (h2 : Ev (fun k => impl_CnfOk.f k (n : Int) cl) true) (hno : ∀ T, ¬ Reads cl T) (M : Nat) (hM : M ≤ 512) (hsh : shl .i64 1 (IntKind.u64.wrap (n : Int)) = (M : Int)) :
    ∀ (d j : Nat), M - j = d → j ≤ M → Ev (fun k => laws_FnSettled.l0 k (j : Int) (n : Int) cl) true := by
  intro d
  induction d with
  | zero =>
    intro j hd hj
    refine Ev.step (f := fun _ => some true) (fun k => ?_) (Ev.now _)
    rw [laws_FnSettled.l0, if_pos (u64_pos _), hsh, if_neg (by omega)]
  | succ d ih =>
    intro j hd hj
    have g := ih (j + 1) (by omega) (by omega)
    have hw : wrap64 ((j : Int) + 1) = ((j + 1 : Nat) : Int) := wrap_next j (by omega)
    refine Ev.step (fun k => ?_) (settled_try (j : Int) n hn cl true (fun on hon => ?_) _ 0 rfl (by omega) [] rfl)
    · rw [laws_FnSettled.l0, if_pos (u64_pos _), hsh, if_pos (by omega)]
      rfl
    · obtain ⟨b, m1, m2⟩ := meets_sem (sw := (n : Int)) ⟨by omega, by omega⟩ hg h2 on (by omega)
      refine Ev.bind (f := fun k t253 => (if t253 = true then (some false) else (laws_FnSettled.l0 k (wrap64 ((j : Int) + 1)) (n : Int) cl))) m1 ?_
      cases b with
      | false => exact Ev.congr (fun k => by rw [if_neg (by decide), hw]) g
      | true => exact absurd ⟨byOn_opp on, m2.1 rfl⟩ (hno (byOn on))
theorem settled_end (l0 : List Int) (db : decide ((l0.length : Int) > 1048576) = false) {sw most v st : Int} {cl : List (List Int)} {out : List Bool} (hd : Ev (fun k => spec_DrawSettle.f k l0) (sw, cl, most)) (j1 : Ev (fun k => spec_Settle.f k sw cl most) (out, v, st)) (j2 : Ev (fun k => impl_Settle.f k sw cl most) (out, v, st))
    (ht : Ev (fun k => laws_FnSettled.j0 k most out v st false sw cl) true) : ∃ k, laws_FnSettled.f k l0 = some true := by
  obtain ⟨K1, h1⟩ := Ev.binds hd
  obtain ⟨K2, h2⟩ := Ev.binds j1
  obtain ⟨K3, h3⟩ := Ev.binds j2
  obtain ⟨K5, ht⟩ := ht
  obtain ⟨K, hK⟩ : ∃ K, K = K1 + K2 + K3 + K5 := ⟨_, rfl⟩
  have ht := ht K (by omega)
  have h1 := fun β g => h1 K (by omega) β g
  have h2 := fun β g => h2 K (by omega) β g
  have h3 := fun β g => h3 K (by omega) β g
  clear hd j1 j2 hK
  dsimp only at ht
  exact ⟨K, by
    simp only [laws_FnSettled.f, laws_big.f, db, Option.bind_some, Bool.false_eq_true, ↓reduceIte, ↓h1, ↓h2, ↓h3, bne_self_eq_false]
    exact ht⟩
theorem settled_nil (most v st sw : Int) (cl : List (List Int)) (h1 : st ≠ 1) (h2 : st ≠ 2) : Ev (fun k => laws_FnSettled.j0 k most [] v st false sw cl) true :=
  Ev.step (f := fun k => laws_FnSettled.j1 k [] true sw cl) (fun k => by rw [laws_FnSettled.j0, if_neg (by decide), if_neg h1, if_neg h2]) (Ev.step (f := fun _ => some true) (fun k => by rw [laws_FnSettled.j1, if_pos rfl]; rfl) (Ev.now _))
-- SAYS: For every code: what Settle tells of the drawn clauses answers as the law says.
theorem FnSettled (l0 : List Int) (q0 : ∀ x ∈ l0, (Lit.int .u8 x).wf = true) (hl0 : l0.length ≤ 9223372036854775807) : ∃ k, laws_FnSettled.f k l0 = some true := by
  by_cases hbig : (l0.length : Int) > 1048576
  · have db := decide_eq_true hbig
    exact ⟨0, by unfold laws_FnSettled.f laws_big.f; rw [db]; simp only [Option.bind_some, if_true]⟩
  · have db := decide_eq_false hbig
    obtain ⟨sw, cl, most, hd⟩ := drawSettle_ev l0 (code_of l0 q0 (by omega))
    obtain ⟨b, h1, h2, h3⟩ := cnf_core sw cl
    by_cases c : b = true ∧ 0 ≤ most ∧ most ≤ 20000
    · obtain ⟨rfl, hm⟩ := c
      obtain ⟨s0, s1, hc, hgc⟩ := h3 rfl
      have hs : 0 ≤ sw ∧ sw ≤ 400 := ⟨s0, s1⟩
      have hg := GoodCl.of hc hgc
      obtain ⟨out, v, st, e1, e2, e3, e4, e5⟩ := settle_core hs hg h1 h2 most hm
      refine settled_end l0 db hd e1 e2 ?_
      rcases e5 with ⟨rfl, I, i1, rfl, i2, i3⟩ | ⟨rfl, rfl, i1⟩ | ⟨rfl, rfl⟩
      · have hfl : ((flagsOf sw I).length : Int) = sw := by unfold flagsOf; simp; omega
        obtain ⟨b, m1, m2⟩ := meets_sem hs hg h2 (flagsOf sw I) hfl
        have hb := m2.2 (flags_meet hs hg i2 i3)
        subst hb
        have dv : decide (v ≤ most) = true := decide_eq_true e4
        refine Ev.step (f := fun k => (impl_Meets.f k sw cl (flagsOf sw I)).bind fun t246 => (if t246 = true then (some (decide (v ≤ most))) else (some false))) (fun k => by rw [laws_FnSettled.j0, if_neg (by decide), if_pos rfl]) (Ev.bind (f := fun k t246 => (if t246 = true then (some (decide (v ≤ most))) else (some false))) m1 (Ev.congr (fun k => by rw [if_pos rfl, dv]) (Ev.now _)))
      · by_cases c9 : sw > 9
        · exact Ev.step (f := fun k => laws_FnSettled.j1 k [] true sw cl) (fun k => by rw [laws_FnSettled.j0, if_neg (by decide), if_neg (by decide), if_pos rfl, decide_eq_true c9]) (Ev.step (f := fun _ => some true) (fun k => by rw [laws_FnSettled.j1, if_pos rfl]; rfl) (Ev.now _))
        · obtain ⟨n, rfl⟩ := Int.eq_ofNat_of_zero_le s0
          obtain ⟨M, hM, hsh⟩ := shl_room (n : Int) (by omega) (by omega)
          have lp := settled_loop (by omega) hg h2 i1 M hM hsh _ 0 rfl (by omega)
          exact Ev.step (f := fun k => laws_FnSettled.j1 k [] false (n : Int) cl) (fun k => by rw [laws_FnSettled.j0, if_neg (by decide), if_neg (by decide), if_pos rfl, decide_eq_false c9]) (Ev.step (f := fun k => laws_FnSettled.l0 k 0 (n : Int) cl) (fun k => by rw [laws_FnSettled.j1, if_neg (by decide)]) lp)
      · exact settled_nil _ _ _ _ _ (by decide) (by decide)
    · obtain ⟨e1, e2⟩ := settle_bad sw cl most b h1 h2 (fun hb hm => c ⟨hb, hm⟩)
      exact settled_end l0 db hd e1 e2 (settled_nil _ _ _ _ _ (by decide) (by decide))

end Go.Proofs.Ytpkclocdenagcaa.Pure
