/- A map with int64 keys that a call itself has made: told by the value at each key. -/
import Derived.Test.YtonkicgdgpcneaaWMore
import Derived.Maps.Own
import Derived.Maps.OwnSet
import Derived.Maps.Views
namespace Go.Proofs.YtonkicgdgpcneaaW.PrintMore
open Go Go.RowKit Go.ChangeMaps Go.Maps Go.Proofs.YtonkicgdgpcneaaW.PrintWords Go.Proofs.YtonkicgdgpcneaaW.PrintLast
set_option linter.unusedVariables false
def heldV (v : Value) : Option (DataW Value × List MemPlace) := some (.held v, [])
/-- Block b of W is a map with int64 keys, of at most n entries; z: the zero value of its elements. -/
def MapI (P : Program) (k : TypeId) (z : Value) (W : World) (b n : Nat) (F : Int → Value) : Prop := ∃ D : DataW Value, W.ownsMap P k heldV b n D ∧ ∀ i : Int, (Lit.int .i64 i).wf = true → D.atKey (.int .i64 i) (.held z) = .held (F i)
section
variable {P : Program} {k : TypeId} {z : Value} {W : World} {b n : Nat} {F : Int → Value}
theorem MapI.made (W : World) (P : Program) (k : TypeId) (z : Value) : MapI P k z (W.alloc (.map #[] 0)) W.heap.size 0 (fun _ => z) := ⟨.map [], World.ownsMap_made W P k _, fun i _ => rfl⟩
theorem MapI.lt (h : MapI P k z W b n F) : b < W.heap.size := by
  obtain ⟨D, h1, _⟩ := h
  exact h1.lt
theorem MapI.step (h : MapI P k z W b n F) {W' : World} (hb : W'.heap[b]? = W.heap[b]?) : MapI P k z W' b n F := by
  obtain ⟨D, ⟨es, clock, h1, h2⟩, h3⟩ := h
  exact ⟨D, ⟨es, clock, hb.trans h1, h2⟩, h3⟩
theorem MapI.lookup {t e : TypeId} (h : MapI P k z W b n F) (ht : P.underlying t = some (.map k e)) (hk : P.underlying k = some (.int .i64)) (hz : (zeroValue e).run P W = .ok z W) (i : Int) (hi : (Lit.int .i64 i).wf = true) :
    (Instr.lookup t (.map (some b)) (.int .i64 i) false).run P W = .ok (F i) W := by
  obtain ⟨D, h1, h2⟩ := h
  obtain ⟨v, ps, hr, hv⟩ := h1.lookup (int_keyed hk) ht hz (zd := .held z) (zp := []) rfl (keyOf_int_mk hk hi)
  rw [h2 i hi] at hv
  have e1 : v = F i := by
    have := (Prod.mk.inj (Option.some.inj hv)).1
    injection this
  rw [hr, e1]
theorem MapI.update {t e : TypeId} (h : MapI P k z W b n F) (ht : P.underlying t = some (.map k e)) (hk : P.underlying k = some (.int .i64)) (hn : n < maxLen) (i : Int) (hi : (Lit.int .i64 i).wf = true) (v : Value) :
    ∃ W', (Instr.mapUpdate t (.map (some b)) (.int .i64 i) v).run P W = .ok () W' ∧ MapI P k z W' b (n + 1) (fun j => if j = i then v else F j) ∧ W.grownBy W' (some b) := by
  obtain ⟨D, h1, h2⟩ := h
  obtain ⟨W', hr, h3, h4⟩ := h1.update (int_keyed hk) ht hn (keyOf_int_mk hk hi) (val := v) (d := .held v) (ps := []) rfl
  refine ⟨W', hr, ⟨_, h3, fun j hj => ?_⟩, h4⟩
  by_cases c : j = i
  · subst c
    show (D.put _ _).atKey _ _ = .held (if j = j then v else F j)
    rw [if_pos rfl, atKey_put_same h1.isMap (by simp [WideAt.IsKeyLit])]
  · show (D.put _ _).atKey _ _ = .held (if j = i then v else F j)
    rw [if_neg c, atKey_put_other (fun e => c (by injection e)), h2 j hj]
/-- .. told by the value at each key, if there is one. -/
def MapO (P : Program) (k : TypeId) (W : World) (b n : Nat) (F : Int → Option Value) : Prop := ∃ D : DataW Value, W.ownsMap P k heldV b n D ∧ ∀ i : Int, (Lit.int .i64 i).wf = true → ∀ zd, D.atKey (.int .i64 i) zd = ((F i).map DataW.held).getD zd
end
section
variable {P : Program} {k : TypeId} {z : Value} {W : World} {b n : Nat} {F : Int → Option Value}
theorem MapO.made (W : World) (P : Program) (k : TypeId) : MapO P k (W.alloc (.map #[] 0)) W.heap.size 0 (fun _ => none) := ⟨.map [], World.ownsMap_made W P k _, fun i _ _ => rfl⟩
theorem MapO.lt (h : MapO P k W b n F) : b < W.heap.size := by
  obtain ⟨D, h1, _⟩ := h
  exact h1.lt
theorem MapO.step (h : MapO P k W b n F) {W' : World} (hb : W'.heap[b]? = W.heap[b]?) : MapO P k W' b n F := by
  obtain ⟨D, ⟨es, clock, h1, h2⟩, h3⟩ := h
  exact ⟨D, ⟨es, clock, hb.trans h1, h2⟩, h3⟩
theorem MapO.lookup {t e : TypeId} (h : MapO P k W b n F) (ht : P.underlying t = some (.map k e)) (hk : P.underlying k = some (.int .i64)) (hz : (zeroValue e).run P W = .ok z W) (i : Int) (hi : (Lit.int .i64 i).wf = true) :
    (Instr.lookup t (.map (some b)) (.int .i64 i) false).run P W = .ok ((F i).getD z) W := by
  obtain ⟨D, h1, h2⟩ := h
  obtain ⟨v, ps, hr, hv⟩ := h1.lookup (int_keyed hk) ht hz (zd := .held z) (zp := []) rfl (keyOf_int_mk hk hi)
  rw [h2 i hi] at hv
  have e1 : v = (F i).getD z := by
    have := (Prod.mk.inj (Option.some.inj hv)).1
    cases hF : F i with
    | none => rw [hF] at this; injection this
    | some u => rw [hF] at this; injection this
  rw [hr, e1]
theorem MapO.look_ok {t e : TypeId} (h : MapO P k W b n F) (ht : P.underlying t = some (.map k e)) (hk : P.underlying k = some (.int .i64)) (hz : (zeroValue e).run P W = .ok z W) (i : Int) (hi : (Lit.int .i64 i).wf = true) :
    (Instr.lookup t (.map (some b)) (.int .i64 i) true).run P W = .ok (.tuple #[(F i).getD z, .bool (F i).isSome]) W := by
  obtain ⟨D, h1, h2⟩ := h
  obtain ⟨v, ps, hr, hv⟩ := h1.look_ok (int_keyed hk) ht hz (zd := .held z) (zp := []) rfl (keyOf_int_mk hk hi)
  rw [h2 i hi] at hv
  have h3 := h2 i hi
  have e1 : v = (F i).getD z ∧ Maps.has D (.int .i64 i) = (F i).isSome := by
    have := (Prod.mk.inj (Option.some.inj hv)).1
    cases hF : F i with
    | none =>
      rw [hF] at this h3
      exact ⟨by injection this, Maps.has_false_of_atKey h3⟩
    | some u =>
      rw [hF] at this h3
      exact ⟨by injection this, Maps.has_true_of_atKey h3⟩
  rw [hr, e1.1, e1.2]
theorem MapO.update {t e : TypeId} (h : MapO P k W b n F) (ht : P.underlying t = some (.map k e)) (hk : P.underlying k = some (.int .i64)) (hn : n < maxLen) (i : Int) (hi : (Lit.int .i64 i).wf = true) (v : Value) :
    ∃ W', (Instr.mapUpdate t (.map (some b)) (.int .i64 i) v).run P W = .ok () W' ∧ MapO P k W' b (n + 1) (fun j => if j = i then some v else F j) ∧ W.grownBy W' (some b) := by
  obtain ⟨D, h1, h2⟩ := h
  obtain ⟨W', hr, h3, h4⟩ := h1.update (int_keyed hk) ht hn (keyOf_int_mk hk hi) (val := v) (d := .held v) (ps := []) rfl
  refine ⟨W', hr, ⟨_, h3, fun j hj zd => ?_⟩, h4⟩
  by_cases c : j = i
  · subst c
    show (D.put _ _).atKey _ _ = ((if j = j then some v else F j).map DataW.held).getD zd
    rw [if_pos rfl, atKey_put_same h1.isMap (by simp [WideAt.IsKeyLit])]
    rfl
  · show (D.put _ _).atKey _ _ = ((if j = i then some v else F j).map DataW.held).getD zd
    rw [if_neg c, atKey_put_other (fun e => c (by injection e)), h2 j hj]
end
end Go.Proofs.YtonkicgdgpcneaaW.PrintMore
