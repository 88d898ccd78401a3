/- What a law's walk keeps: the memory of its own, object by object (rows, boxes), each in blocks of its own. -/
import Derived.Test.YtjjlcmfjmdfedaaWMore
import Derived.Test.YtjjlcmfjmdfedaaWLast
import Derived.Test.YtjjlcmfjmdfedaaWApart
import Derived.Test.YtjjlcmfjmdfedaaWKept
import Derived.Test.YtjjlcmfjmdfedaaWShare
namespace Go.Proofs.YtjjlcmfjmdfedaaW.PrintMore
open Go Go.RowKit Go.Proofs.YtjjlcmfjmdfedaaW.PrintWords Go.Proofs.YtjjlcmfjmdfedaaW.PrintLast
set_option linter.unusedVariables false

structure Ob where
  ok : Nat → Prop
  P : World → Prop
def Ob.foot (o : Ob) : Prop := ∀ W W' : World, (∀ k, o.ok k → k < W.heap.size → W'.heap[k]? = W.heap[k]?) → o.P W → o.P W'
def Ob.R {α : Type} (w0 : World) (d : Kd α) (e : Nat) (ok : Nat → Prop) (v : Value) (xs : List α) : Ob := ⟨ok, fun W => d.R e W w0.heap.size ok v xs⟩
def Ob.S {α : Type} (w0 : World) (d : Kd α) (e : Nat) (ok : Nat → Prop) (v : Value) (xs : List α) : Ob := ⟨ok, fun W => Kd.S d e W w0.heap.size ok v xs⟩
def Ob.B (g : Nat) (o : Obj) : Ob := ⟨fun k => k = g, fun W => W.heap[g]? = some o⟩
theorem Ob.R_foot {α : Type} (w0 : World) (d : Kd α) (e : Nat) (ok : Nat → Prop) (v : Value) (xs : List α) : (Ob.R w0 d e ok v xs).foot := fun _ _ hm h => Kd.R_step h hm
theorem Ob.S_foot {α : Type} (w0 : World) (d : Kd α) (e : Nat) (ok : Nat → Prop) (v : Value) (xs : List α) : (Ob.S w0 d e ok v xs).foot := fun _ _ hm h => Kd.S_step h hm
theorem Ob.B_foot (g : Nat) (o : Obj) : (Ob.B g o).foot := fun _ _ hm h => (hm g rfl (blk_lt h)).trans h
def nth : List Ob → Nat → Option Ob
  | [], _ => none
  | a :: _, 0 => some a
  | _ :: l, n + 1 => nth l n
def put : List Ob → Nat → Ob → List Ob
  | [], _, _ => []
  | _ :: l, 0, x => x :: l
  | a :: l, n + 1, x => a :: put l n x
def cutAt : List Ob → Nat → List Ob
  | [], _ => []
  | _ :: l, 0 => l
  | a :: l, n + 1 => a :: cutAt l n
theorem nth_mem {l : List Ob} : ∀ {i : Nat} {o : Ob}, nth l i = some o → o ∈ l := by
  induction l with
  | nil => intro i o h; cases h
  | cons a l ih =>
    intro i o h
    cases i with
    | zero => cases h; exact List.mem_cons_self ..
    | succ i => exact List.mem_cons_of_mem _ (ih h)
theorem cutAt_sub {l : List Ob} : ∀ {i : Nat}, (cutAt l i).Sublist l := by
  induction l with
  | nil => intro i; exact List.Sublist.refl _
  | cons a l ih =>
    intro i
    cases i with
    | zero => exact List.sublist_cons_self a l
    | succ i => exact List.Sublist.cons_cons a ih
structure St (w0 W : World) (l : List Ob) : Prop where
  below : Below w0.heap.size w0 W
  each : ∀ o ∈ l, (∀ k, o.ok k → w0.heap.size ≤ k ∧ k < W.heap.size) ∧ o.foot ∧ o.P W
  apart : l.Pairwise (fun a b => ∀ k, a.ok k → b.ok k → False)
theorem St.nil (w : World) : Aside0 (St w w []) := ⟨⟨Below.refl _ _, fun _ h => absurd h (by simp), List.Pairwise.nil⟩⟩
theorem St.step {w0 W W1 : World} {l : List Ob} (h : St w0 W l) (hb : Below W.heap.size W W1) : St w0 W1 l :=
  ⟨below_step h.below hb, fun o ho => ⟨fun k hk => ⟨((h.each o ho).1 k hk).1, Nat.lt_of_lt_of_le ((h.each o ho).1 k hk).2 hb.size⟩, (h.each o ho).2.1, (h.each o ho).2.1 W W1 (fun k _ hlt => hb.block k hlt) (h.each o ho).2.2⟩, h.apart⟩
theorem St.cons {w0 W : World} {l : List Ob} {o : Ob} (h : St w0 W l) (hok : ∀ k, o.ok k → w0.heap.size ≤ k ∧ k < W.heap.size) (hf : o.foot) (hP : o.P W) (ha : ∀ o' ∈ l, ∀ k, o.ok k → o'.ok k → False) : St w0 W (o :: l) :=
  ⟨h.below, fun o' ho' => by
    rcases List.mem_cons.1 ho' with rfl | hm
    · exact ⟨hok, hf, hP⟩
    · exact h.each o' hm, List.Pairwise.cons ha h.apart⟩
theorem St.lift {w0 W W' : World} {l : List Ob} (h : Aside0 (St w0 W l)) (q : ∃ n, W' = W.drewN n := by first | exact ⟨_, rfl⟩ | exact ⟨0, rfl⟩) : St w0 W' l := by
  obtain ⟨n, rfl⟩ := q
  exact h.out.step (pw_below_drewN (Below.refl _ _) n)
/-- A call that keeps what there is. -/
theorem St.call {w0 W W' W1 : World} {l : List Ob} (h : Aside0 (St w0 W l)) (hb : Below W'.heap.size W' W1) (q : ∃ n, W' = W.drewN n := by first | exact ⟨_, rfl⟩ | exact ⟨0, rfl⟩) : Aside0 (St w0 W1 l) := ⟨(St.lift h q).step hb⟩
/-- A new box. -/
theorem St.box {w0 W W' W1 : World} {l : List Ob} {g : Nat} {o : Obj} (h : Aside0 (St w0 W l)) (hg : g = W'.heap.size) (hx : W1.heap[g]? = some o) (hb : Below W'.heap.size W' W1) (q : ∃ n, W' = W.drewN n := by first | exact ⟨_, rfl⟩ | exact ⟨0, rfl⟩) : Aside0 (St w0 W1 (Ob.B g o :: l)) := by
  have h1 := St.lift h q
  refine ⟨(h1.step hb).cons (fun k hk => ?_) (Ob.B_foot _ _) hx (fun o' ho' k hk hk' => ?_)⟩
  · have hk : k = g := hk
    subst hk
    exact ⟨by rw [hg]; exact h1.below.size, blk_lt hx⟩
  · have hk : k = g := hk
    have := ((h1.each o' ho').1 k hk').2
    omega
theorem St.getR {α : Type} {d : Kd α} {e : Nat} {ok : Nat → Prop} {v : Value} {xs : List α} {w0 W W' : World} {l : List Ob} (h : Aside0 (St w0 W l)) (i : Nat) (hi : nth l i = some (Ob.R w0 d e ok v xs)) (q : ∃ n, W' = W.drewN n := by first | exact ⟨_, rfl⟩ | exact ⟨0, rfl⟩) : d.R e W' w0.heap.size ok v xs := ((St.lift h q).each _ (nth_mem hi)).2.2
theorem St.getS {α : Type} {d : Kd α} {e : Nat} {ok : Nat → Prop} {v : Value} {xs : List α} {w0 W W' : World} {l : List Ob} (h : Aside0 (St w0 W l)) (i : Nat) (hi : nth l i = some (Ob.S w0 d e ok v xs)) (q : ∃ n, W' = W.drewN n := by first | exact ⟨_, rfl⟩ | exact ⟨0, rfl⟩) : Kd.S d e W' w0.heap.size ok v xs := ((St.lift h q).each _ (nth_mem hi)).2.2
theorem St.getB {g : Nat} {o : Obj} {w0 W W' : World} {l : List Ob} (h : Aside0 (St w0 W l)) (i : Nat) (hi : nth l i = some (Ob.B g o)) (q : ∃ n, W' = W.drewN n := by first | exact ⟨_, rfl⟩ | exact ⟨0, rfl⟩) : W'.heap[g]? = some o := ((St.lift h q).each _ (nth_mem hi)).2.2
theorem St.lowB {g : Nat} {o : Obj} {w0 W : World} {l : List Ob} (h : Aside0 (St w0 W l)) (i : Nat) (hi : nth l i = some (Ob.B g o)) : w0.heap.size ≤ g := ((h.out.each _ (nth_mem hi)).1 g rfl).1
theorem nth_apart {l : List Ob} : ∀ {i j : Nat} {a b : Ob}, l.Pairwise (fun a b => ∀ k, a.ok k → b.ok k → False) → nth l i = some a → nth l j = some b → i < j → ∀ k, a.ok k → b.ok k → False := by
  induction l with
  | nil => intro i j a b _ h; cases h
  | cons x l ih =>
    intro i j a b hp hi hj hij
    have hp1 := List.pairwise_cons.1 hp
    cases j with
    | zero => omega
    | succ j =>
      cases i with
      | zero => cases hi; exact hp1.1 b (nth_mem hj)
      | succ i => exact ih hp1.2 hi hj (by omega)
theorem St.neB {g g' : Nat} {o o' : Obj} {w0 W : World} {l : List Ob} (h : Aside0 (St w0 W l)) (i j : Nat) (hi : nth l i = some (Ob.B g o)) (hj : nth l j = some (Ob.B g' o')) (hij : i < j) : g ≠ g' ∧ g' ≠ g := by
  have hn : g ≠ g' := fun e => nth_apart h.out.apart hi hj hij g rfl e
  exact ⟨hn, Ne.symm hn⟩
theorem St.drop {w0 W : World} {l : List Ob} (h : Aside0 (St w0 W l)) (i : Nat) : Aside0 (St w0 W (cutAt l i)) := ⟨⟨h.out.below, fun o ho => h.out.each o (cutAt_sub.subset ho), h.out.apart.sublist cutAt_sub⟩⟩
/-- One object is told anew, what the others have is kept. -/
theorem St.turn {w0 W W1 : World} {l : List Ob} {o o' : Ob} (h : St w0 W l) (i : Nat) (hi : nth l i = some o) (hb : Below w0.heap.size w0 W1) (hs : W.heap.size ≤ W1.heap.size) (hk : ∀ k, k < W.heap.size → ¬ o.ok k → W1.heap[k]? = W.heap[k]?)
    (hok : ∀ k, o'.ok k → o.ok k ∨ (W.heap.size ≤ k ∧ k < W1.heap.size)) (hf : o'.foot) (hP : o'.P W1) : St w0 W1 (put l i o') := by
  have key : ∀ (l : List Ob) (i : Nat), nth l i = some o → l.Pairwise (fun a b => ∀ k, a.ok k → b.ok k → False) → (∀ x ∈ l, (∀ k, x.ok k → w0.heap.size ≤ k ∧ k < W.heap.size) ∧ x.foot ∧ x.P W) →
      (∀ x ∈ put l i o', (∀ k, x.ok k → w0.heap.size ≤ k ∧ k < W1.heap.size) ∧ x.foot ∧ x.P W1) ∧ (put l i o').Pairwise (fun a b => ∀ k, a.ok k → b.ok k → False) ∧ (∀ x ∈ put l i o', ∀ k, x.ok k → (∃ y ∈ l, y.ok k) ∨ W.heap.size ≤ k) := by
    intro l
    induction l with
    | nil => intro i hi; cases hi
    | cons a l ih =>
      intro i hi hp he
      have hother : ∀ x ∈ (a :: l), (∀ k, o.ok k → x.ok k → False) → (∀ k, x.ok k → w0.heap.size ≤ k ∧ k < W1.heap.size) ∧ x.foot ∧ x.P W1 := fun x hx ho => ⟨fun k hxk => ⟨((he x hx).1 k hxk).1, Nat.lt_of_lt_of_le ((he x hx).1 k hxk).2 hs⟩, (he x hx).2.1, (he x hx).2.1 W W1 (fun k hxk hlt => hk k hlt (fun h => ho k h hxk)) (he x hx).2.2⟩
      cases i with
      | zero =>
        cases hi
        have hp1 := List.pairwise_cons.1 hp
        have hoo := he o (List.mem_cons_self ..)
        refine ⟨fun x hx => ?_, List.Pairwise.cons (fun y hy k hk1 hk2 => ?_) hp1.2, fun x hx k hxk => ?_⟩
        · rcases List.mem_cons.1 hx with rfl | hx
          · exact ⟨fun k h1 => (hok k h1).elim (fun h2 => ⟨(hoo.1 k h2).1, Nat.lt_of_lt_of_le (hoo.1 k h2).2 hs⟩) (fun h2 => ⟨Nat.le_trans (show w0.heap.size ≤ W.heap.size from h.below.size) h2.1, h2.2⟩), hf, hP⟩
          · exact hother x (List.mem_cons_of_mem _ hx) (fun k h1 h2 => hp1.1 x hx k h1 h2)
        · rcases hok k hk1 with h2 | h2
          · exact hp1.1 y hy k h2 hk2
          · have := ((he y (List.mem_cons_of_mem _ hy)).1 k hk2).2; omega
        · rcases List.mem_cons.1 hx with rfl | hx
          · exact (hok k hxk).elim (fun h2 => Or.inl ⟨o, List.mem_cons_self .., h2⟩) (fun h2 => .inr h2.1)
          · exact .inl ⟨x, List.mem_cons_of_mem _ hx, hxk⟩
      | succ i =>
        have hp1 := List.pairwise_cons.1 hp
        obtain ⟨r1, r2, r3⟩ := ih i hi hp1.2 (fun x hx => he x (List.mem_cons_of_mem _ hx))
        refine ⟨fun x hx => ?_, List.Pairwise.cons (fun y hy k hk1 hk2 => ?_) r2, fun x hx k hxk => ?_⟩
        · rcases List.mem_cons.1 hx with rfl | hx
          · exact hother x (List.mem_cons_self ..) (fun k h1 h2 => hp1.1 o (nth_mem hi) k h2 h1)
          · exact r1 x hx
        · rcases r3 y hy k hk2 with ⟨z, hz, hzk⟩ | h2
          · exact hp1.1 z hz k hk1 hzk
          · have := ((he a (List.mem_cons_self ..)).1 k hk1).2; omega
        · rcases List.mem_cons.1 hx with rfl | hx
          · exact .inl ⟨x, List.mem_cons_self .., hxk⟩
          · exact (r3 x hx k hxk).elim (fun ⟨z, hz, hzk⟩ => .inl ⟨z, List.mem_cons_of_mem _ hz, hzk⟩) .inr
  obtain ⟨r1, r2, _⟩ := key l i hi h.apart h.each
  exact ⟨hb, r1, r2⟩
/-- A store into a box. -/
theorem St.store {g : Nat} {o o' : Obj} {w0 W W1 : World} {l : List Ob} (h : Aside0 (St w0 W l)) (i : Nat) (hi : nth l i = some (Ob.B g o)) (hk : KeepBut W W1 g none) (hx : W1.heap[g]? = some o') (hb : Below w0.heap.size w0 W1) : Aside0 (St w0 W1 (put l i (Ob.B g o'))) :=
  ⟨St.turn h.out i hi hb hk.1 (fun k hlt hn => hk.2 k hlt (fun e => hn e) (by simp)) (fun k hk1 => .inl hk1) (Ob.B_foot _ _) hx⟩
/-- An element of a row is lent: its cells, what it leads to; whatever is done to that alone (and to new blocks), and then to the element's own cells, the row is told anew. -/
theorem St.lendS {α : Type} {d : Kd α} {e g n cap : Nat} {ok : Nat → Prop} {xs : List α} {w0 W W' : World} {l : List Ob} (h : Aside0 (St w0 W l)) (i : Nat) (hi : nth l i = some (Ob.S w0 d e ok (.slice (some ⟨g, 0, none⟩) n cap) xs)) (z : α) (p : Int) (h0 : 0 ≤ p) (h1 : p < n) (q : ∃ n, W' = W.drewN n := by first | exact ⟨_, rfl⟩ | exact ⟨0, rfl⟩) :
    ∃ (oki : Nat → Prop) (c : List Value), c.length = d.sz ∧ d.M W' w0.heap.size oki (xs.getD p.toNat z) c ∧ (∀ k, oki k → ok k ∧ k ≠ g ∧ k < W'.heap.size) ∧
      (∀ W1 : World, Kept W' W1 oki → (∀ j u, c[j]? = some u → W1.cell? ⟨g, p.toNat * d.sz + j, none⟩ = some u) ∧ (∀ j, W1.frozen? ⟨g, p.toNat * d.sz + j, none⟩ = false)) ∧
      ∀ (W1 : World) (x' : α) (q : Nat) (seg : List Value), Below w0.heap.size w0 W1 → Kept W' W1 oki → q + seg.length ≤ d.sz → d.M W1 w0.heap.size (fun k => oki k ∨ W'.heap.size ≤ k) x' (c.take q ++ seg ++ c.drop (q + seg.length)) →
        ∃ ok', Aside0 (St w0 (W1.setCells g (p.toNat * d.sz + q) seg) (put l i (Ob.S w0 d e ok' (.slice (some ⟨g, 0, none⟩) n cap) (xs.set p.toNat x')))) := by
  have h2 := St.lift h q
  have hS := St.getS h i hi q
  have hSb := Kd.S_bound hS
  obtain ⟨oki, c, hcl, hM, hcc, hfr, hoki, hH⟩ := Kd.S_elem (Kd.S_mono (ok' := fun k => ok k ∧ k < W'.heap.size) hSb (fun k hk => ⟨hk.1, hk.2.2.1⟩)) z p h0 h1
  have hgo : (Value.slice (some ⟨g, 0, none⟩) n cap).ownBlock = some g := by simp [Value.ownBlock]
  have hgok : ok g := (Kd.S_R hS).1 g hgo
  have hglt : g < W'.heap.size := Kd.S_lt hS g hgo
  have hglow : w0.heap.size ≤ g := Kd.S_base hS g hgo
  obtain ⟨cells, hgb⟩ := Kd.S_typed hS g hgo
  refine ⟨oki, c, hcl, hM, fun k hk => ⟨(hoki k hk).1.1, (hoki k hk).2, (hoki k hk).1.2⟩, fun W1 hk => ?_, fun W1 x' q seg hB hk hq hM1 => ?_⟩
  · have hb1 : W1.heap[g]? = W'.heap[g]? := hk.2 g hglt (fun ho => (hoki g ho).2 rfl)
    exact ⟨fun j u hu => by have := hcc j u hu; simpa [World.cell?, hb1] using this, fun j => by have := hfr j; simpa [World.frozen?, hb1] using this⟩
  · have hH1 := Kd.H_step (w1 := W1) hH (fun k _ hn hlt => hk.2 k hlt hn)
    have hH2 := Kd.H_mono (ok' := fun k => (ok k ∨ (W'.heap.size ≤ k ∧ k < W1.heap.size)) ∧ ¬ (W'.heap.size ≤ k ∧ k < W1.heap.size)) hH1 (show ∀ k, (ok k ∧ k < W'.heap.size) → ((ok k ∨ (W'.heap.size ≤ k ∧ k < W1.heap.size)) ∧ ¬ (W'.heap.size ≤ k ∧ k < W1.heap.size)) from fun k hk1 => ⟨Or.inl hk1.1, fun hc => by have := hk1.2; omega⟩)
    have hM2 := d.M_mono (ok' := fun k => oki k ∨ (W'.heap.size ≤ k ∧ k < W1.heap.size)) (fun k hk1 => hk1.1.elim .inl (fun h3 => .inr ⟨h3, hk1.2.2.1⟩)) (d.M_bound hM1)
    obtain ⟨r1, r2⟩ := Kd.S_seg hH2 h0 h1 (seg := seg) (j := q) hq hM2 (fun k hk1 => hk1) (fun k hk1 => ⟨.inr hk1, by omega⟩)
    refine ⟨fun k => (ok k ∨ (W'.heap.size ≤ k ∧ k < W1.heap.size)) ∧ k < (W1.setCells g (p.toNat * d.sz + q) seg).heap.size, ⟨St.turn h2 i hi (pw_below_grown hB (some g) hB.size r2 (fun k hk1 => by injection hk1 with hk1; omega)) (Nat.le_trans hk.1 r2.size) (fun k hlt hn => ?_) (fun k hk1 => ?_) (Ob.S_foot _ _ _ _ _ _) (Kd.S_mono (Kd.S_bound r1) (fun k hk1 => ⟨hk1.1, hk1.2.2.1⟩))⟩⟩
    · have hne : some k ≠ some g := fun he => by injection he with he; subst he; exact hn hgok
      exact (r2.block k (Nat.lt_of_lt_of_le hlt hk.1) hne).trans (hk.2 k hlt (fun ho => hn (hoki k ho).1.1))
    · exact hk1.1.elim .inl (fun h3 => .inr ⟨h3.1, hk1.2⟩)
theorem iteP_ {α : Type} {c : Prop} [Decidable c] {x : Option α} {r : α} (h : (if c then x else none) = some r) : c ∧ x = some r := by
  by_cases hc : c
  · rw [if_pos hc] at h; exact ⟨hc, h⟩
  · rw [if_neg hc] at h; cases h
end Go.Proofs.YtjjlcmfjmdfedaaW.PrintMore
