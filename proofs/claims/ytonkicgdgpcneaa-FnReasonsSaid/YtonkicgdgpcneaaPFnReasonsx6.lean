-- Written by a program of this session (a turned copy of the kit's printer); Lean checks it.
-- half the depth
import Derived.Test.YtonkicgdgpcneaaPFnReasonsx0
namespace Go.Proofs.Ytonkicgdgpcneaa.PFnReasons
open Go.RowKit Go.Proofs.YtonkicgdgpcneaaW.PrintWords Go.Proofs.YtonkicgdgpcneaaW.PrintLast Go.Proofs.YtonkicgdgpcneaaW.PrintMore
attribute [local go_sem] max2_int min2_int max_two min_two max_three min_three max_four min_four   -- for this text's walks alone
set_option linter.unusedVariables false
set_option linter.unusedSimpArgs false

-- NOT PRINTED: function 115 (cmp_isNaN_int64)

-- NOT PRINTED: function 97 (cmp_Less_int64)

-- NOT PRINTED: function 91 (slices_insertionSortOrdered_int64)

-- NOT PRINTED: function 110 (slices_siftDownOrdered_int64)

-- NOT PRINTED: function 92 (slices_heapSortOrdered_int64)

-- NOT PRINTED: function 100 (bits_Len32)

-- NOT PRINTED: function 101 (bits_Len64)

-- NOT PRINTED: function 80 (bits_Len)

-- NOT PRINTED: function 111 (slices_nextPowerOfTwo)

-- NOT PRINTED: function 112 (slices_xorshift_Next)

-- NOT PRINTED: function 93 (slices_breakPatternsOrdered_int64)

-- NOT PRINTED: function 116 (slices_order2Ordered_int64)

-- NOT PRINTED: function 114 (slices_medianOrdered_int64)

-- NOT PRINTED: function 113 (slices_medianAdjacentOrdered_int64)

-- NOT PRINTED: function 94 (slices_choosePivotOrdered_int64)

-- NOT PRINTED: function 95 (slices_reverseRangeOrdered_int64)

-- NOT PRINTED: function 96 (slices_partialInsertionSortOrdered_int64)

-- NOT PRINTED: function 98 (slices_partitionEqualOrdered_int64)

-- NOT PRINTED: function 99 (slices_partitionOrdered_int64)

-- NOT PRINTED: function 79 (slices_pdqsortOrdered_int64)

-- NOT PRINTED: function 56 (slices_Sort_int64_int64)

-- NOT PRINTED: function 57 (slices_Compact_int64_int64)

/-! ### impl_wayOf: function 43 -/
theorem impl_wayOf.info70 : (Try.prog.info? 70).map (fun i => (i.zero, i.size, i.bytes)) = some (some (.agg #[.int .i64 0, .int .i64 0, .int .i64 0]), 3, 24) := by kernel_rfl
theorem impl_wayOf.info2 : (Try.prog.info? 2).map (fun i => (i.zero, i.size, i.bytes)) = some (some (.int .i64 0), 1, 8) := by kernel_rfl
/-- A map of rows: its block, its rows in blocks of ok. -/
def ObG (w0 : World) (b n : Nat) (ok : Nat → Prop) (H : Int → List S70) : Ob := ⟨fun q => q = b ∨ ok q, fun W => ∃ (F : Int → Value) (okr : Int → Nat → Prop), MapI Try.prog 2 (.slice none 0 0) W b n F ∧ (∀ k, k70.R 70 W w0.heap.size (okr k) (F k) (H k)) ∧ (∀ k q, okr k q → ok q ∧ q ≠ b) ∧ (∀ k k' q, k ≠ k' → okr k q → okr k' q → False)⟩
theorem ObG_foot (w0 : World) (b n : Nat) (ok : Nat → Prop) (H : Int → List S70) : (ObG w0 b n ok H).foot := fun W W' hm ⟨F, okr, h1, h2, h3, h4⟩ =>
 ⟨F, okr, MapI.step h1 (hm b (.inl rfl) (MapI.lt h1)), fun k => Kd.R_step (h2 k) (fun q hq hlt => hm q (.inr (h3 k q hq).1) hlt), h3, h4⟩
theorem ObG_of {w0 W : World} {b : Nat} (h : MapI Try.prog 2 (.slice none 0 0) W b 0 (fun _ => .slice none 0 0)) : (ObG w0 b 0 (fun _ => False) (fun _ => [])).P W :=
 ⟨_, fun _ _ => False, h, fun k => Kd.R_nil _ _ _ _ _, fun _ _ hq => hq.elim, fun _ _ _ _ hq _ => hq.elim⟩
theorem putG {w0 W : World} {l : List Ob} {b n : Nat} {ok : Nat → Prop} {H : Int → List S70} (h : Aside0 (St w0 W l)) (i : Nat) (hi : nth l i = some (ObG w0 b n ok H)) {F : Int → Value} {okr : Int → Nat → Prop} (hM : MapI Try.prog 2 (.slice none 0 0) W b n F) (hR : ∀ k, k70.R 70 W w0.heap.size (okr k) (F k) (H k)) (hsub : ∀ k q, okr k q → ok q ∧ q ≠ b) (hdis : ∀ k k' q, k ≠ k' → okr k q → okr k' q → False)
  (key : Int) (x : S70) (hkey : (Lit.int .i64 key).wf = true) (hn : n < maxLen) (w6 : World) (v6 : Value) (hg : W.grownBy w6 (F key).ownBlock) (hb6 : Below w0.heap.size w0 w6) (hr6 : k70.R 70 w6 w0.heap.size (fun q => okr key q ∨ W.heap.size ≤ q) v6 (H key ++ [x])) :
  ∃ w7, (Instr.mapUpdate 106 (.map (some b)) (.int .i64 key) v6).run Try.prog w6 = .ok () w7 ∧ ∃ ok', Aside0 (St w0 w7 (put l i (ObG w0 b (n + 1) ok' (fun q => if q = key then H q ++ [x] else H q)))) ∧ w6.grownBy w7 (some b) := by
 have hE := h.out.each _ (nth_mem hi); have hblt := MapI.lt hM
 have hnb : ∀ q, (F key).ownBlock = some q → okr key q := fun q hq => (hR key).1 q hq
 have hbF : some b ≠ (F key).ownBlock := fun e => (hsub key b (hnb b e.symm)).2 rfl
 obtain ⟨w7, hrun, hM7, hg7⟩ := MapI.update (MapI.step hM (hg.block b hblt hbF)) Try.underlying106 Try.underlying2 hn key hkey v6; have hs6 : W.heap.size ≤ w6.heap.size := hg.size; have hs7 : w6.heap.size ≤ w7.heap.size := hg7.size; have hR7 : k70.R 70 w7 w0.heap.size (fun q => (okr key q ∨ W.heap.size ≤ q) ∧ q < w7.heap.size) v6 (H key ++ [x]) :=
  Kd.R_mono (Kd.R_bound (Kd.R_step hr6 (fun q hq hlt => hg7.block q hlt (fun e => by
   have e := Option.some.inj e
   subst e
   exact hq.elim (fun h1 => (hsub key _ h1).2 rfl) (fun h1 => by omega))))) (fun q hq => ⟨hq.1, hq.2.2.1⟩)
 have keep : ∀ q, q < W.heap.size → q ≠ b → some q ≠ (F key).ownBlock → w7.heap[q]? = W.heap[q]? := fun q h1 h2 h3 => (hg7.block q (by omega) (fun e => h2 (Option.some.inj e))).trans (hg.block q h1 h3)
 refine ⟨w7, hrun, fun q => ok q ∨ (W.heap.size ≤ q ∧ q < w7.heap.size), ⟨St.turn h.out i hi (hb6.grown hg7 hb6.size (fun q hq => by rw [← Option.some.inj hq]; exact (hE.1 b (.inl rfl)).1)) (by omega) (fun q hlt hnq => keep q hlt (fun e => hnq (.inl e)) (fun e => hnq (.inr (hsub key q (hnb q e.symm)).1))) (fun q hq => hq.elim (fun e => .inl (.inl e)) (fun e => e.imp .inr id)) (ObG_foot _ _ _ _ _) ?_⟩, hg7⟩
 refine ⟨_, fun k q => if k = key then (okr key q ∨ W.heap.size ≤ q) ∧ q < w7.heap.size else okr k q, hM7, fun k => ?_, fun k q hq => ?_, fun k k' q hne h1 h2 => ?_⟩
 ·by_cases c : k = key
  ·subst c
   simp only [if_true]
   exact hR7
  ·simp only [if_neg c]
   exact Kd.R_step (hR k) (fun q hq hlt => keep q hlt (hsub k q hq).2 (fun e => hdis k key q c hq (hnb q e.symm)))
 ·dsimp only at hq
  by_cases c : k = key
  ·rw [if_pos c] at hq
   rcases hq.1 with h1 | h1
   ·exact ⟨.inl (hsub key q h1).1, (hsub key q h1).2⟩
   ·exact ⟨.inr ⟨h1, hq.2⟩, fun e => by omega⟩
  ·rw [if_neg c] at hq
   exact ⟨.inl (hsub k q hq).1, (hsub k q hq).2⟩
 ·have far : ∀ k q, k ≠ key → okr k q → ¬ ((okr key q ∨ W.heap.size ≤ q) ∧ q < w7.heap.size) := fun k q hk h1 h2 => h2.1.elim (fun h3 => hdis k key q hk h1 h3) (fun h3 => by
   have := (hE.1 q (.inr (hsub k q h1).1)).2
   omega)
  dsimp only at h1 h2
  by_cases c : k = key
  ·by_cases c' : k' = key
   ·exact hne (c.trans c'.symm)
   ·rw [if_pos c] at h1
    rw [if_neg c'] at h2
    exact far k' q c' h2 h1
  ·rw [if_neg c] at h1
   by_cases c' : k' = key
   ·rw [if_pos c'] at h2
    exact far k q c h1 h2
   ·rw [if_neg c'] at h2
    exact hdis k k' q hne h1 h2
theorem startG {w0 W : World} {l : List Ob} (h : Aside0 (St w0 W l)) : Aside0 (St w0 (W.alloc (.map #[] 0)) (ObG w0 W.heap.size 0 (fun _ => False) (fun _ => []) :: l)) := by
 refine ⟨(h.out.step (below_alloc (Below.refl _ _) _)).cons (fun q hq => ?_) (ObG_foot _ _ _ _ _) (ObG_of (MapI.made W _ _ _)) (fun o' ho' q hq hq' => ?_)⟩
 ·rcases hq with e | e
  ·rw [e]
   exact ⟨h.out.below.size, blk_lt (blk_new W _)⟩
  ·exact e.elim
 ·rcases hq with e | e
  ·have := ((h.out.each o' ho').1 q hq').2
   omega
  ·exact e.elim
/-- A map of links, told by the link at each key, if there is one. -/
def aggL (x : S70) : Value := .agg #[.int .i64 x.f0, .int .i64 x.f1, .int .i64 x.f2]
def ObF (b n : Nat) (F : Int → Option S70) : Ob := ⟨fun q => q = b, fun W => MapO Try.prog 2 W b n (fun i => (F i).map aggL)⟩
theorem ObF_foot (b n : Nat) (F : Int → Option S70) : (ObF b n F).foot := fun W W' hm h => MapO.step h (hm b rfl (MapO.lt h))
theorem startF {w0 W : World} {l : List Ob} (h : Aside0 (St w0 W l)) : Aside0 (St w0 (W.alloc (.map #[] 0)) (ObF W.heap.size 0 (fun _ => none) :: l)) := by
 refine ⟨(h.out.step (below_alloc (Below.refl _ _) _)).cons (fun q hq => ?_) (ObF_foot _ _ _) (MapO.made W _ _) (fun o' ho' q hq hq' => ?_)⟩
 ·rw [show q = W.heap.size from hq]
  exact ⟨h.out.below.size, blk_lt (blk_new W _)⟩
 ·have e : q = W.heap.size := hq
  have := ((h.out.each o' ho').1 q hq').2
  omega
theorem getF {w0 W W' : World} {l : List Ob} {b n : Nat} {F : Int → Option S70} (h : Aside0 (St w0 W l)) (i : Nat) (hi : nth l i = some (ObF b n F)) (q : ∃ n, W' = W.drewN n := by first | exact ⟨_, rfl⟩ | exact ⟨0, rfl⟩) : MapO Try.prog 2 W' b n (fun i => (F i).map aggL) := ((St.lift h q).each _ (nth_mem hi)).2.2
theorem putF {w0 W : World} {l : List Ob} {b n : Nat} {F : Int → Option S70} (h : Aside0 (St w0 W l)) (i : Nat) (hi : nth l i = some (ObF b n F)) (hn : n < maxLen) (key : Int) (hk : (Lit.int .i64 key).wf = true) (x : S70) :
  ∃ W', (Instr.mapUpdate 107 (.map (some b)) (.int .i64 key) (aggL x)).run Try.prog W = .ok () W' ∧ Aside0 (St w0 W' (put l i (ObF b (n + 1) (fun q => if q = key then some x else F q)))) ∧ W.grownBy W' (some b) := by
 obtain ⟨W', h1, h2, h3⟩ := MapO.update (getF (W' := W) h i hi ⟨0, rfl⟩) Try.underlying107 Try.underlying2 hn key hk (aggL x)
 have e : (fun j => if j = key then some (aggL x) else (F j).map aggL) = fun j => ((if j = key then some x else F j).map aggL) := by
  funext j
  by_cases c : j = key
  ·rw [if_pos c, if_pos c]; rfl
  ·rw [if_neg c, if_neg c]
 rw [e] at h2; refine ⟨W', h1, ⟨St.turn h.out i hi (h.out.below.grown h3 h.out.below.size (fun q hq => ?_)) h3.size (fun q hlt hn2 => h3.block q hlt (fun e => hn2 (Option.some.inj e))) (fun q hq => .inl hq) (ObF_foot _ _ _) h2⟩, h3⟩; rw [← Option.some.inj hq]
 exact ((h.out.each _ (nth_mem hi)).1 b rfl).1
/-- A row that may begin behind its block's beginning. -/
def Qu (ok : Nat → Prop) (W : World) (base : Nat) (v : Value) (xs : List Int) : Prop := ∃ (g off c : Nat) (cells : Array Value), v = .slice (some ⟨g, off, none⟩) xs.length c ∧ xs.length ≤ c ∧ base ≤ g ∧ ok g ∧ W.heap[g]? = some (.cells cells 2 (0, 0)) ∧ off + c ≤ cells.size ∧ ∀ (j : Nat) (h : j < xs.length), cells[off + j]? = some (.int .i64 xs[j])
def ObQ (w0 : World) (ok : Nat → Prop) (v : Value) (xs : List Int) : Ob := ⟨ok, fun W => Qu ok W w0.heap.size v xs⟩
theorem ObQ_foot (w0 : World) (ok : Nat → Prop) (v : Value) (xs : List Int) : (ObQ w0 ok v xs).foot := fun W W' hm ⟨g, off, c, cells, h1, h2, h3, h4, h5, h6, h7⟩ =>
 ⟨g, off, c, cells, h1, h2, h3, h4, (hm g h4 (blk_lt h5)).trans h5, h6, h7⟩
theorem Qu.of_R {ok : Nat → Prop} {W : World} {base : Nat} {v : Value} {xs : List Int} (h : (Kd.int .i64).R 2 W base ok v xs) (hp : 0 < xs.length) : Qu ok W base v xs := by
 obtain ⟨g, cap, rfl, hb, hl, cells, hc⟩ := Kd.R_form h hp; obtain ⟨hok, inner, ⟨hil, hv⟩, hr⟩ := h
 rcases hv with ⟨hv, _⟩ | ⟨g', cap', cur, hv, hb', hcell, hnc, hcm, hcs, htk⟩
 ·cases hv
 ·injection hv with e1 e2 e3
  injection e1 with e1
  injection e1 with e1 _ _
  subst e1
  subst e3
  refine ⟨g, 0, cap, cur, rfl, hnc, hb, hok g rfl, hcell, by rw [hcs]; show 0 + cap ≤ cap * 1; omega, fun j hj => ?_⟩
  have hM := hr.2 j xs[j] (List.getElem?_eq_getElem hj); have hM : ((inner.drop (j * 1)).take 1) = [Value.int .i64 xs[j]] := hM; rw [Nat.mul_one] at hM
  have h1 : inner[j]? = some (Value.int .i64 xs[j]) := by
   have h2 := congrArg (fun l => l[0]?) hM
   simp only [List.getElem?_take, List.getElem?_drop] at h2
   simpa using h2
  rw [← htk, List.getElem?_take] at h1
  split at h1
  ·rw [Nat.zero_add, ← Array.getElem?_toList]
   exact h1
  ·cases h1
theorem Qu.cell {ok : Nat → Prop} {W : World} {base : Nat} {v : Value} {x : Int} {xs : List Int} (h : Qu ok W base v (x :: xs)) : ∃ g off c, v = .slice (some ⟨g, off, none⟩) (xs.length + 1) c ∧ W.cell? ⟨g, off, none⟩ = some (.int .i64 x) := by
 obtain ⟨g, off, c, cells, h1, h2, h3, h4, h5, h6, h7⟩ := h; refine ⟨g, off, c, h1, ?_⟩; have := h7 0 (by simp)
 simp only [World.cell?, h5]
 simpa using this
theorem impl_wayOf.cut1 (W : World) (g off n c : Nat) (hi : 1 ≤ n) (hn : n ≤ c) : (Instr.slice 26 (.slice (some ⟨g, off, none⟩) n c) (some (.int .i64 1)) none none).run Try.prog W = .ok (.slice (if c = 1 then some ⟨g, off, none⟩ else some ⟨g, off + 1, none⟩) (n - 1) (c - 1)) W := by
 obtain ⟨i0, hi0, hz⟩ := Option.map_eq_some_iff.1 impl_wayOf.info2
 have hel : Try.prog.elem 26 = 2 := by simp [Program.elem, Try.underlying26]
 have hu : Try.prog.underlying 26 = some (.slice (Try.prog.elem 26)) := by rw [hel]; exact Try.underlying26
 have hs : i0.size = 1 := by simp only [Prod.mk.injEq] at hz; exact hz.2.1
 rw [run_slice_l W 26 _ n c hu .i64 1 (by decide) (by omega), hel]
 by_cases e : c = 1
 ·subst e
  simp [sizeOf, typeInfo, hi0, hs, sliced, Result.andThen]
 ·simp [sizeOf, typeInfo, hi0, hs, sliced, Result.andThen, Addr.add, e]
theorem Qu.cut {ok : Nat → Prop} {W : World} {base g off n c : Nat} {x : Int} {xs : List Int} (h : Qu ok W base (.slice (some ⟨g, off, none⟩) n c) (x :: xs)) : Qu ok W base (.slice (if c = 1 then some ⟨g, off, none⟩ else some ⟨g, off + 1, none⟩) (n - 1) (c - 1)) xs := by
 obtain ⟨g', off', c', cells, h1, h2, h3, h4, h5, h6, h7⟩ := h
 injection h1 with e1 e2 e3
 injection e1 with e1
 injection e1 with e1 e4 _
 subst e1 e2 e3 e4
 have h2 : xs.length + 1 ≤ c := h2
 by_cases e : c = 1
 ·have hx : xs = [] := List.eq_nil_of_length_eq_zero (by omega)
  subst hx
  rw [if_pos e]
  exact ⟨g, off, c - 1, cells, rfl, by simp, h3, h4, h5, by omega, fun j hj => absurd hj (by simp)⟩
 ·rw [if_neg e]
  refine ⟨g, off + 1, c - 1, cells, rfl, by omega, h3, h4, h5, by omega, fun j hj => ?_⟩; have := h7 (j + 1) (by simp; omega)
  rw [show off + (j + 1) = off + 1 + j by omega] at this
  simpa using this
theorem St.cutQ {w0 W : World} {l : List Ob} {ok : Nat → Prop} {g off n c : Nat} {x : Int} {xs : List Int} (h : Aside0 (St w0 W l)) (i : Nat) (hi : nth l i = some (ObQ w0 ok (.slice (some ⟨g, off, none⟩) n c) (x :: xs))) : Aside0 (St w0 W (put l i (ObQ w0 ok (.slice (if c = 1 then some ⟨g, off, none⟩ else some ⟨g, off + 1, none⟩) (n - 1) (c - 1)) xs))) :=
 ⟨St.turn h.out i hi h.out.below (Nat.le_refl _) (fun _ _ _ => rfl) (fun q hq => .inl hq) (ObQ_foot _ _ _ _) (Qu.cut ((h.out.each _ (nth_mem hi)).2.2))⟩
theorem getQ {w0 W W' : World} {l : List Ob} {ok : Nat → Prop} {v : Value} {xs : List Int} (h : Aside0 (St w0 W l)) (i : Nat) (hi : nth l i = some (ObQ w0 ok v xs)) (q : ∃ n, W' = W.drewN n := by first | exact ⟨_, rfl⟩ | exact ⟨0, rfl⟩) : Qu ok W' w0.heap.size v xs := ((St.lift h q).each _ (nth_mem hi)).2.2
/-- A number is appended to the row. -/
theorem Qu.app {ok : Nat → Prop} {W : World} {base : Nat} {v : Value} {xs : List Int} (h : Qu ok W base v xs) (x : Int) (b : Addr) (c1 : Nat) (hx : W.cell? b = some (.int .i64 x)) (hl : xs.length < 1000000) :
  ∃ v' W', (Builtin.append_ #[26, 26] 26 #[v, .slice (some b) 1 c1]).run Try.prog W = .ok v' W' ∧ (∃ A n c, v' = .slice A n c) ∧ Qu (fun q => ok q ∨ (W.heap.size ≤ q ∧ q < W'.heap.size)) W' base v' (xs ++ [x]) ∧ (∀ q, q < W.heap.size → ¬ ok q → W'.heap[q]? = W.heap[q]?) ∧ W.heap.size ≤ W'.heap.size ∧ (∀ w0 : World, base = w0.heap.size → Below base w0 W → Below base w0 W') := by
 obtain ⟨g, off, c, cells, rfl, h2, h3, h4, h5, h6, h7⟩ := h; obtain ⟨i0, hi0, hz⟩ := Option.map_eq_some_iff.1 impl_wayOf.info2
 have hz1 : i0.zero = some (.int .i64 0) ∧ i0.size = 1 ∧ i0.bytes = 8 := by simp only [Prod.mk.injEq] at hz; exact ⟨hz.1, hz.2.1, hz.2.2⟩
 have hnews : ∀ j u, [Value.int .i64 x][j]? = some u → W.cell? (b.add j) = some u := fun j u hu => by
  cases j with
  | zero =>
   have e : Value.int .i64 x = u := by simpa using hu
   rw [← e]
   simpa [Addr.add] using hx
  | succ j => simp at hu
 by_cases c2 : xs.length + 1 ≤ c
 ·have hcell : ∀ j, j < [Value.int .i64 x].length → (W.cell? ⟨g, off + xs.length * i0.size + j, none⟩).isSome = true := fun j hj => by
   have hj : j = 0 := by simpa using hj
   subst hj
   simp only [World.cell?, h5, hz1.2.1]
   rw [Nat.mul_one, Nat.add_zero]
   have : off + xs.length < cells.size := by omega
   simp [this]
  have hfr : ∀ j, j < [Value.int .i64 x].length → W.frozen? ⟨g, off + xs.length * i0.size + j, none⟩ = false := fun j _ => blk_frozen h5 _
  have hr := run_append_room_cells (P := Try.prog) W 26 26 2 i0 Try.underlying26 hi0 g off xs.length c b 1 c1 [.int .i64 x] (by rw [hz1.2.1]; rfl) hnews (by simp [Value.oneCell']) c2 hcell hfr
  rw [hz1.2.1, Nat.mul_one] at hr; have hone : W.setCells g (off + xs.length) [.int .i64 x] = W.setCell ⟨g, off + xs.length, none⟩ (.int .i64 x) := rfl; rw [hone] at hr; refine ⟨_, _, hr, ⟨_, _, _, rfl⟩, ⟨g, off, c, cells.setIfInBounds (off + xs.length) (.int .i64 x), by rw [List.length_append]; rfl, by rw [List.length_append]; exact c2, h3, .inl h4, ?_, by simpa using h6, fun j hj => ?_⟩, fun q hq hn => Below.heap_setCell W ⟨g, off + xs.length, none⟩ _ q (fun e => hn (by rw [e]; exact h4)), by rw [World.size_setCell]; exact Nat.le_refl _, fun w0 hb0 hb => ?_⟩
  ·exact blk_put h5 (off + xs.length) (.int .i64 x) rfl
  ·rw [List.length_append, List.length_singleton] at hj
   rw [Array.getElem?_setIfInBounds]
   by_cases e : j = xs.length
   ·subst e
    have : off + xs.length < cells.size := by omega
    simp [this]
   ·rw [if_neg (by omega), h7 j (by omega), List.getElem_append_left (by omega)]
  ·subst hb0
   exact below_set hb h3
 ·have holds : ∀ j u, (xs.map (Value.int .i64))[j]? = some u → W.cell? ((⟨g, off, none⟩ : Addr).add j) = some u := fun j u hu => by
   rw [List.getElem?_map] at hu
   by_cases hj : j < xs.length
   ·rw [List.getElem?_eq_getElem hj] at hu
    have e : Value.int .i64 xs[j] = u := by simpa using hu
    rw [← e]; have := h7 j hj
    by_cases e0 : j = 0
    ·subst e0
     simp only [Addr.add, World.cell?]
     simpa [h5] using this
    ·simp only [Addr.add, if_neg e0, World.cell?, h5]
     simpa using this
   ·rw [List.getElem?_eq_none (by omega)] at hu
    cases hu
  obtain ⟨v', W', hr, hown, hg⟩ := run_append_arg_grows (P := Try.prog) W 26 26 2 i0 (.int .i64 0) 1 8 Try.underlying26 hi0 hz1.1 hz1.2.1 hz1.2.2 rfl (by decide) ⟨g, off, none⟩ xs.length c (xs.map (Value.int .i64)) (by simp) holds b 1 c1 [.int .i64 x] rfl hnews (by omega) (by unfold maxLen; omega) (by omega)
  obtain ⟨hol, hv⟩ := hown
  rcases hv with ⟨_, h0⟩ | ⟨g2, cap, cur, rfl, hb2, hcell, hnc, hcm, hcs, htk⟩
  ·omega
  ·refine ⟨_, W', hr, ⟨_, _, _, rfl⟩, ⟨g2, 0, cap, cur, by rw [List.length_append]; rfl, by rw [List.length_append]; exact hnc, Nat.le_trans (Nat.le_trans h3 (Nat.le_of_lt (blk_lt h5))) hb2, .inr ⟨hb2, blk_lt hcell⟩, hcell, by rw [hcs]; omega, fun j hj => ?_⟩, fun q hq hn => hg.block q hq (by simp), hg.size, fun w0 hb0 hb => ?_⟩
   ·have h8 : (cur.toList.take ((xs.length + 1) * 1))[j]? = (xs.map (Value.int .i64) ++ [.int .i64 x])[j]? := by rw [htk]
    rw [List.getElem?_take, if_pos (by rw [List.length_append, List.length_singleton] at hj; omega), Array.getElem?_toList] at h8
    rw [Nat.zero_add, h8]
    have h9 : xs.map (Value.int .i64) ++ [Value.int .i64 x] = (xs ++ [x]).map (Value.int .i64) := by simp
    rw [h9, List.getElem?_map, List.getElem?_eq_getElem hj]
    rfl
   ·exact hb.grown hg (by rw [hb0]; exact hb.size) (fun q hq => by cases hq)
theorem St.appQ {w0 W : World} {l : List Ob} {ok : Nat → Prop} {v : Value} {xs : List Int} (h : Aside0 (St w0 W l)) (i : Nat) (hi : nth l i = some (ObQ w0 ok v xs)) (x : Int) (b : Addr) (c1 : Nat) (hx : W.cell? b = some (.int .i64 x)) (hl : xs.length < 1000000) :
  ∃ v' W' ok', (Builtin.append_ #[26, 26] 26 #[v, .slice (some b) 1 c1]).run Try.prog W = .ok v' W' ∧ (∃ A n c, v' = .slice A n c) ∧ Aside0 (St w0 W' (put l i (ObQ w0 ok' v' (xs ++ [x])))) := by
 obtain ⟨v', W', hr, hsh, hQ, hk, hs, hb⟩ := Qu.app ((h.out.each _ (nth_mem hi)).2.2) x b c1 hx hl
 exact ⟨v', W', _, hr, hsh, ⟨St.turn h.out i hi (hb w0 rfl h.out.below) hs hk (fun q hq => hq) (ObQ_foot _ _ _ _) hQ⟩⟩
/-- The map of rows when it is not written any more: its values by name. -/
def ObH (w0 : World) (b n : Nat) (ok : Nat → Prop) (F : Int → Value) (okr : Int → Nat → Prop) (H : Int → List S70) : Ob := ⟨fun q => q = b ∨ ok q, fun W => MapI Try.prog 2 (.slice none 0 0) W b n F ∧ (∀ k, k70.R 70 W w0.heap.size (okr k) (F k) (H k)) ∧ (∀ k q, okr k q → ok q ∧ q ≠ b) ∧ (∀ k k' q, k ≠ k' → okr k q → okr k' q → False)⟩
theorem ObH_foot (w0 : World) (b n : Nat) (ok : Nat → Prop) (F : Int → Value) (okr : Int → Nat → Prop) (H : Int → List S70) : (ObH w0 b n ok F okr H).foot := fun W W' hm ⟨h1, h2, h3, h4⟩ =>
 ⟨MapI.step h1 (hm b (.inl rfl) (MapI.lt h1)), fun k => Kd.R_step (h2 k) (fun q hq hlt => hm q (.inr (h3 k q hq).1) hlt), h3, h4⟩
theorem St.asH {w0 W : World} {l : List Ob} {b n : Nat} {ok : Nat → Prop} {H : Int → List S70} (h : Aside0 (St w0 W l)) (i : Nat) (hi : nth l i = some (ObG w0 b n ok H)) : ∃ (F : Int → Value) (okr : Int → Nat → Prop), Aside0 (St w0 W (put l i (ObH w0 b n ok F okr H))) := by
 obtain ⟨F, okr, h1, h2, h3, h4⟩ := (h.out.each _ (nth_mem hi)).2.2
 exact ⟨F, okr, ⟨St.turn h.out i hi h.out.below (Nat.le_refl _) (fun _ _ _ => rfl) (fun q hq => .inl hq) (ObH_foot _ _ _ _ _ _ _) ⟨h1, h2, h3, h4⟩⟩⟩
theorem getH {w0 W W' : World} {l : List Ob} {b n : Nat} {ok : Nat → Prop} {F : Int → Value} {okr : Int → Nat → Prop} {H : Int → List S70} (h : Aside0 (St w0 W l)) (i : Nat) (hi : nth l i = some (ObH w0 b n ok F okr H)) (q : ∃ n, W' = W.drewN n := by first | exact ⟨_, rfl⟩ | exact ⟨0, rfl⟩) : (ObH w0 b n ok F okr H).P W' := ((St.lift h q).each _ (nth_mem hi)).2.2
theorem St.growR {α : Type} {d : Kd α} {e : Nat} {ok : Nat → Prop} {v v2 : Value} {xs ys : List α} {w0 W w2 : World} {l : List Ob} (h : Aside0 (St w0 W l)) (i : Nat) (hi : nth l i = some (Ob.R w0 d e ok v xs)) (hg : W.grownBy w2 v.ownBlock) (hb : Below w0.heap.size w0 w2) (hr : d.R e w2 w0.heap.size (fun q => ok q ∨ W.heap.size ≤ q) v2 ys) :
  ∃ ok', Aside0 (St w0 w2 (put l i (Ob.R w0 d e ok' v2 ys))) :=
 ⟨fun q => (ok q ∨ W.heap.size ≤ q) ∧ q < w2.heap.size, ⟨St.turn h.out i hi hb hg.size (fun q hlt hn => hg.block q hlt (fun e => hn ((St.getR h i hi ⟨0, rfl⟩).1 q e.symm))) (fun q hq => hq.1.elim .inl (fun e => .inr ⟨e, hq.2⟩)) (Ob.R_foot _ _ _ _ _ _) (Kd.R_mono (Kd.R_bound hr) (fun q hq => ⟨hq.1, hq.2.2.1⟩))⟩⟩
theorem nth_put {l : List Ob} : ∀ {i : Nat} {a x : Ob}, nth l i = some a → nth (put l i x) i = some x := by
 induction l with
 | nil => intro i a x h; cases h
 | cons b l ih =>
  intro i a x h
  cases i with
  | zero => rfl
  | succ i => exact ih (i := i) h
theorem St.asQ {w0 W : World} {l : List Ob} {ok : Nat → Prop} {v : Value} {xs : List Int} (h : Aside0 (St w0 W l)) (i : Nat) (hi : nth l i = some (Ob.R w0 (Kd.int .i64) 2 ok v xs)) (hp : 0 < xs.length) : Aside0 (St w0 W (put l i (ObQ w0 ok v xs))) :=
 ⟨St.turn h.out i hi h.out.below (Nat.le_refl _) (fun _ _ _ => rfl) (fun q hq => .inl hq) (ObQ_foot _ _ _ _) (Qu.of_R (St.getR (W' := W) h i hi ⟨0, rfl⟩) hp)⟩
theorem wpList_appQ {w0 W : World} {l : List Ob} {ops : Array Oper} {rest : List Oper} {o : Oper} {a : Act} {Q : Exit → Act → World → Prop} (hgd : o.guard = none) (s x : Operand) (ho : o.op = .call { callee := .builtin .append, args := #[s, x], argTypes := #[26, 26] }) (hty : o.type = 26) (v : Value) (xs : List Int) (ok : Nat → Prop) (y : Int) (b : Addr) (c1 : Nat) (hs : a.eval s = v) (hx : a.eval x = .slice (some b) 1 c1)
  (HS : Aside0 (St w0 W l)) (i : Nat) (hi : nth l i = some (ObQ w0 ok v xs)) (hc : W.cell? b = some (.int .i64 y)) (hl : xs.length < 1000000)
  (h : ∀ g off c W' ok', Aside0 (St w0 W' (put l i (ObQ w0 ok' (.slice (some ⟨g, off, none⟩) (xs ++ [y]).length c) (xs ++ [y])))) → wpList Try.prog ops Q rest (a.put o.dst (.slice (some ⟨g, off, none⟩) (xs ++ [y]).length c)) W') : wpList Try.prog ops Q (o :: rest) a W := by
 refine wpList_plain hgd fun K hK => ?_
 obtain ⟨v', W', ok', hr, _, HS2⟩ := St.appQ HS i hi y b c1 hc hl; have hnth : nth (put l i (ObQ w0 ok' v' (xs ++ [y]))) i = some (ObQ w0 ok' v' (xs ++ [y])) := nth_put hi; obtain ⟨g, off, c, cells, rfl, _⟩ := getQ (W' := W') HS2 i hnth ⟨0, rfl⟩
 unfold Oper.wp execOp
 simp only [ho, hty, resolve, invoke, builtin, Sem.run_bind, Sem.run_pure, Result.andThen_ok, List.map_toArray, List.map_cons, List.map_nil, hs, hx, hr]
 exact hK _ _ (h g off c W' ok' HS2)
theorem put_cells (ys : List Int) (cur : Array Value) (h : ys.length ≤ cur.size) : (Go.Sort.putCells (Value.int .i64) 0 ys.toArray cur).toList.take ys.length = ys.map (Value.int .i64) := by
 apply List.ext_getElem?
 intro j
 by_cases hj : j < ys.length
 ·rw [List.getElem?_take, if_pos hj, List.getElem?_map, List.getElem?_eq_getElem hj, Array.getElem?_toList]
  unfold Go.Sort.putCells
  rw [Array.getElem?_mapIdx, Array.getElem?_eq_getElem (by omega : j < cur.size)]
  simp [hj]
 ·rw [List.getElem?_eq_none (by simp; omega), List.getElem?_eq_none (by simp; omega)]
theorem put_block (W : World) (q g : Nat) (ys : List Int) (cur : Array Value) (e : TypeId) (h : W.heap[g]? = some (.cells cur e (0, 0))) : (Go.Sort.putRow (Value.int .i64) (Go.Sort.ahead W q) g 0 ys.toArray).heap[g]? = some (.cells (Go.Sort.putCells (Value.int .i64) 0 ys.toArray cur) e (0, 0)) := by
 unfold Go.Sort.putRow Go.Sort.mapBlock
 show (W.heap.modify g _)[g]? = _
 rw [Array.getElem?_modify, if_pos rfl, h]
 rfl
theorem put_other (W : World) (q g : Nat) (ys : List Int) (k : Nat) (hk : k ≠ g) : (Go.Sort.putRow (Value.int .i64) (Go.Sort.ahead W q) g 0 ys.toArray).heap[k]? = W.heap[k]? := by
 unfold Go.Sort.putRow Go.Sort.mapBlock
 show (W.heap.modify g _)[k]? = _
 rw [Array.getElem?_modify, if_neg (fun h => hk h.symm)]
/-- A row of ints whose cells are written anew (and the room behind it, too), new blocks behind it: told by the first m of them. -/
theorem put_row {W : World} {base e g n cap : Nat} {ok : Nat → Prop} {xs : List Int} (h : (Kd.int .i64).R e W base ok (.slice (some ⟨g, 0, none⟩) n cap) xs) (ys : List Int) (hy : ys.length = n) (q : Nat) (os : Array Obj) (m : Nat) (hm : m ≤ n) :
  (Kd.int .i64).R e (Go.Sort.grow (Go.Sort.putRow (Value.int .i64) (Go.Sort.ahead W q) g 0 ys.toArray) os) base ok (.slice (some ⟨g, 0, none⟩) m cap) (ys.take m) ∧ W.grownBy (Go.Sort.grow (Go.Sort.putRow (Value.int .i64) (Go.Sort.ahead W q) g 0 ys.toArray) os) (some g) := by
 obtain ⟨hok, inner, ⟨hl, hv⟩, hr⟩ := h
 rcases hv with ⟨hv, _⟩ | ⟨g', cap', cur, hv, hb, hcell, hnc, hcm, hcs, htk⟩
 ·cases hv
 ·injection hv with e1 e2 e3
  injection e1 with e1
  injection e1 with e1 _ _
  subst e1
  subst e3
  subst e2
  have hglt : g < W.heap.size := blk_lt hcell; have hpb := put_block W q g ys cur e hcell
  have hsz : (Go.Sort.putRow (Value.int .i64) (Go.Sort.ahead W q) g 0 ys.toArray).heap.size = W.heap.size := by rw [Go.Sort.size_putRow]; rfl
  have hgr : ∀ k, k < W.heap.size → (Go.Sort.grow (Go.Sort.putRow (Value.int .i64) (Go.Sort.ahead W q) g 0 ys.toArray) os).heap[k]? = (Go.Sort.putRow (Value.int .i64) (Go.Sort.ahead W q) g 0 ys.toArray).heap[k]? := fun k hk => by
   show ((Go.Sort.putRow (Value.int .i64) (Go.Sort.ahead W q) g 0 ys.toArray).heap ++ os)[k]? = _
   rw [Array.getElem?_append_left (by omega)]
  have hcz : cur.size = cap := by rw [hcs]; show cap * 1 = cap; omega
  have hps : (Go.Sort.putCells (Value.int .i64) 0 ys.toArray cur).size = cur.size := by unfold Go.Sort.putCells; simp
  refine ⟨⟨fun k hk => hok k (by simpa [Value.ownBlock] using hk), (ys.take m).map (Value.int .i64), ⟨?_, .inr ⟨g, cap, _, ?_, hb, (hgr g hglt).trans hpb, ?_, hcm, by rw [hps]; exact hcs, ?_⟩⟩, ?_⟩, ?_⟩
  ·show _ = (ys.take m).length * 1
   simp
  ·rw [List.length_take, Nat.min_eq_left (by omega)]
  ·rw [List.length_take]
   omega
  ·have h1 := put_cells ys cur (by omega)
   have h2 := congrArg (List.take m) h1; rw [List.take_take, Nat.min_eq_left (by omega)] at h2
   show (Go.Sort.putCells (Value.int .i64) 0 ys.toArray cur).toList.take ((ys.take m).length * 1) = _
   rw [List.length_take, Nat.min_eq_left (by omega), Nat.mul_one, h2, List.map_take]
  ·refine ⟨by show _ = (ys.take m).length * 1; simp, fun j p hp => ?_⟩
   show ((List.drop (j * 1) _).take 1) = [Value.int .i64 p]
   rw [Nat.mul_one]; have hj : j < (ys.take m).length := (List.getElem?_eq_some_iff.1 hp).1; rw [List.drop_eq_getElem_cons (by simpa using hj)]; have : (ys.take m)[j] = p := (List.getElem?_eq_some_iff.1 hp).2
   simp only [List.getElem_map, this, List.take_succ_cons, List.take_zero]
  ·refine ⟨rfl, rfl, rfl, ?_, fun k hk hne => ?_⟩
   ·show W.heap.size ≤ ((Go.Sort.putRow (Value.int .i64) (Go.Sort.ahead W q) g 0 ys.toArray).heap ++ os).size
    rw [Array.size_append, hsz]
    omega
   ·rw [hgr k hk]
    exact put_other W q g ys k (fun he => hne (by rw [he]))
theorem holds_row {W : World} {base e g n cap : Nat} {ok : Nat → Prop} {xs : List Int} (h : (Kd.int .i64).R e W base ok (.slice (some ⟨g, 0, none⟩) n cap) xs) : Go.Sort.Holds (Value.int .i64) W g 0 xs.toArray := by
 intro j hj
 have hj2 : j < xs.length := by simpa using hj
 have hn := (Kd.R_reads' h).1; obtain ⟨c, hcl, hM, hcc, hfr⟩ := Kd.R_elem h 0 (j : Int) (by omega) (by omega); have hM : c = [Value.int .i64 (xs.getD (j : Int).toNat 0)] := hM
 subst hM
 have h1 := hcc 0 _ rfl; have h2 := hfr 0
 have e2 : (j : Int).toNat * (Kd.int .i64).sz + 0 = 0 + j := by show (j : Int).toNat * 1 + 0 = 0 + j; omega
 rw [e2] at h1 h2; refine ⟨h1.trans ?_, h2⟩; rw [Int.toNat_natCast, List.getD_eq_getElem?_getD, List.getElem?_eq_getElem hj2]
 simp [hj2]
/-- slices.Sort on a row that is owned. -/
theorem sort_row {W : World} {base e g n cap : Nat} {ok : Nat → Prop} {xs : List Int} (h : (Kd.int .i64).R e W base ok (.slice (some ⟨g, 0, none⟩) n cap) xs) (hn : n < 4611686018427387904) :
  Calls Try.prog 56 #[.slice (some ⟨g, 0, none⟩) n cap] W fun e' W' => e' = .returned (.tuple #[]) ∧ (Kd.int .i64).R e W' base ok (.slice (some ⟨g, 0, none⟩) n cap) (xs.mergeSort fun x y => decide (x ≤ y)) ∧ W.grownBy W' (some g) := by
 have hnx := (Kd.R_reads' h).1; have hg : g < W.heap.size := Kd.R_lt h g (by simp [Value.ownBlock])
 have hl : (xs.mergeSort fun x y => decide (x ≤ y)).length = n := by rw [List.length_mergeSort]; exact hnx.symm
 subst hnx
 refine (Try.slices_Sort_int g 0 cap xs W (holds_row h) hg hn).mono ?_; rintro e' W' ⟨rfl, q, os, rfl⟩; obtain ⟨h1, h2⟩ := put_row h (xs.mergeSort fun x y => decide (x ≤ y)) hl q os xs.length (Nat.le_refl _); rw [List.take_of_length_le (by omega)] at h1
 exact ⟨rfl, h1, h2⟩
/-- slices.Compact on a row that is owned. -/
theorem compact_row {W : World} {base e g n cap : Nat} {ok : Nat → Prop} {xs : List Int} (h : (Kd.int .i64).R e W base ok (.slice (some ⟨g, 0, none⟩) n cap) xs) (hn : n < 4611686018427387904) :
  Calls Try.prog 57 #[.slice (some ⟨g, 0, none⟩) n cap] W fun e' W' => e' = .returned (.slice (some ⟨g, 0, none⟩) (Lib.compact xs).length cap) ∧ (Kd.int .i64).R e W' base ok (.slice (some ⟨g, 0, none⟩) (Lib.compact xs).length cap) (Lib.compact xs) ∧ W.grownBy W' (some g) := by
 have hnx := (Kd.R_reads' h).1; have hnc := (Kd.R_reads' h).2.1; have hcl : (Lib.compact xs).length ≤ xs.length := Lib.compact_length_le xs
 subst hnx
 refine (Try.slices_Compact_int g 0 cap xs W (holds_row h) (by omega) hnc).mono ?_; rintro e' W' ⟨rfl, q, rfl⟩; obtain ⟨h1, h2⟩ := put_row h (Lib.compact xs ++ List.replicate (xs.length - (Lib.compact xs).length) 0) (by simp; omega) q #[] (Lib.compact xs).length hcl
 rw [List.take_left, Go.Sort.grow_empty] at h1; rw [Go.Sort.grow_empty] at h2
 exact ⟨rfl, h1, h2⟩

def impl_wayOf.addL (H : Int → List S70) (key : Int) (x : S70) : Int → List S70 := fun q => if q = key then H q ++ [x] else H q
/-- The links at each node. -/
def impl_wayOf.beside : List S70 → (Int → List S70) → Option (Int → List S70)
 | [], H => some H
 | l :: ls, H => if (Lit.int .i64 l.f0).wf = true ∧ (Lit.int .i64 l.f1).wf = true then (if (H l.f0).length < 1000000 then (if (impl_wayOf.addL H l.f0 l l.f1).length < 1000000 then impl_wayOf.beside ls (impl_wayOf.addL (impl_wayOf.addL H l.f0 l) l.f1 ⟨l.f1, l.f0, l.f2⟩) else none) else none) else none
/-- The nodes that are met over the links of a row. -/
def impl_wayOf.row : List S70 → (Int → Option S70) → List Int → Nat → Option ((Int → Option S70) × List Int × Nat)
 | [], F, t, m => some (F, t, m)
 | l :: ls, F, t, m => if (Lit.int .i64 l.f1).wf = true then (if (F l.f1).isSome = true then impl_wayOf.row ls F t m else if t.length < 1000000 then (if m < 1000000 then impl_wayOf.row ls (fun q => if q = l.f1 then some l else F q) (t ++ [l.f1]) (m + 1) else none) else none) else none
def impl_wayOf.bfs (H : Int → List S70) : Nat → (Int → Option S70) → List Int → Nat → Option (Int → Option S70)
 | 0, _, _, _ => none
 | k + 1, F, [], m => some F
 | k + 1, F, x :: t, m => if (Lit.int .i64 x).wf = true then (impl_wayOf.row (H x) F t m).bind fun r => impl_wayOf.bfs H k r.1 r.2.1 r.2.2 else none
def impl_wayOf.back (F : Int → Option S70) (a : Int) : Nat → Int → List Int → Option (List Int)
 | 0, _, _ => none
 | k + 1, at_, out => if at_ = a then some out else if (Lit.int .i64 at_).wf = true then (if out.length < 1000000 then impl_wayOf.back F a k ((F at_).getD z70).f0 (out ++ [((F at_).getD z70).f2]) else none) else none
def impl_wayOf.T5 : Bool × List (List Nat × List Nat) := (true, [([], []), ([], []), ([1], [1]), ([], []), ([], []), ([4], [4]), ([3, 5], [3, 5]), ([], []), ([7], [7]), ([6, 8], [6, 8]), ([0, 2, 9, 9, 0, 1, 2, 3, 4, 5, 6, 7, 8, 9], [0, 2, 9])])
def impl_wayOf.B5 : List Nat := [0, 0, 2, 0, 0, 16, 56, 0, 128, 504, 1023]
theorem impl_wayOf.tab5 : rtab .any (opsOf Try.f43 5) = impl_wayOf.T5 := by kernel_rfl
theorem impl_wayOf.bits5 : waitsOk impl_wayOf.T5.2 impl_wayOf.B5 = true := by kernel_rfl
def impl_wayOf.T6 : Bool × List (List Nat × List Nat) := (true, [([], []), ([], []), ([1], [1]), ([], []), ([], []), ([4], [4]), ([3, 5], [3, 5]), ([], []), ([7], [7]), ([], []), ([9], [9]), ([], []), ([11], [11]), ([8, 10, 12], [8, 10, 12]), ([13], [13]), ([6, 14], [6, 14]), ([0, 2, 15, 15, 0, 1, 2, 3, 4, 5, 6, 7, 8, 9, 10, 11, 12, 13, 14, 15], [0, 2, 15])])
def impl_wayOf.B6 : List Nat := [0, 0, 2, 0, 0, 16, 56, 0, 128, 0, 512, 0, 2048, 8064, 16256, 32760, 65535]
theorem impl_wayOf.tab6 : rtab .any (opsOf Try.f43 6) = impl_wayOf.T6 := by kernel_rfl
theorem impl_wayOf.bits6 : waitsOk impl_wayOf.T6.2 impl_wayOf.B6 = true := by kernel_rfl
theorem impl_wayOf.fld2 (W : World) (x y z : Value) : (Instr.field 70 (.agg #[x, y, z]) 2).run Try.prog W = .ok z W := by
 simp [Instr.field, run_underlying Try.underlying70, Result.andThen, asAgg, part]
theorem impl_wayOf.fld0 (W : World) (x y z : Value) : (Instr.field 70 (.agg #[x, y, z]) 0).run Try.prog W = .ok x W := by
 simp [Instr.field, run_underlying Try.underlying70, Result.andThen, asAgg, part]
theorem impl_wayOf.zero29 (W : World) : (zeroValue 29).run Try.prog W = .ok (.slice none 0 0) W := Try.zeroValue29 W
theorem impl_wayOf.zero70 (W : World) : (zeroValue 70).run Try.prog W = .ok (aggL z70) W := Try.zeroValue70 W
def impl_wayOf.f (k : Nat) (l0 : List S70) (a1 a2 : Int) : Option (List Int) := if l0.length ≤ 1000000 then (if (Lit.int .i64 a1).wf = true then (impl_wayOf.beside l0 (fun _ => [])).bind fun H => (impl_wayOf.bfs H k (fun q => if q = a1 then some ⟨a1, a1, 0⟩ else none) [a1] 1).bind fun F => (impl_wayOf.back F a1 k a2 []).bind fun out => some (Go.Lib.compact (out.mergeSort fun x y => decide (x ≤ y))) else none) else none
set_option maxHeartbeats 8000000 in
set_option maxRecDepth 100000 in
theorem impl_wayOf.calls (k : Nat) (A0 : Option Addr) (c0 : Nat) (l0 : List (S70)) (a1 : Int) (a2 : Int) (r : List Int) (w : World) (hr0 : Kd.C k70 w A0 l0.length l0) (hc0 : l0.length ≤ c0) (h : impl_wayOf.f k l0 a1 a2 = some r) :
  Calls Try.prog 43 #[.slice A0 l0.length c0, .int .i64 a1, .int .i64 a2] w fun e w' => ∃ v0_ : Value, e = .returned (v0_) ∧ Kd.R (Kd.int .i64) 2 w' w.heap.size (fun _ => True) v0_ r ∧ Below w.heap.size w w' := by
 have HR0 := Aside0.mk hr0; clear hr0 hc0
 unfold impl_wayOf.f at h
 by_cases q1 : l0.length ≤ 1000000
 ·rw [if_pos q1] at h
  by_cases q2 : (Lit.int .i64 a1).wf = true
  ·rw [if_pos q2] at h
   obtain ⟨H, hH, h⟩ := Option.bind_eq_some_iff.mp h; obtain ⟨F, hF, h⟩ := Option.bind_eq_some_iff.mp h; obtain ⟨out, ho, h⟩ := Option.bind_eq_some_iff.mp h; have h := (Option.some.inj h).symm
   subst h
   have HH := Aside0.mk hH; have HF := Aside0.mk hF; have HO := Aside0.mk ho; have HQ1 := Aside0.mk q1; have HQ2 := Aside0.mk q2; clear hH hF ho q1 q2
   go_enter Try.func43, Try.ntmps43
   have hmk : ∀ W : World, (Instr.makeMap 106 none).run Try.prog W = .ok (.map (some W.heap.size)) (W.alloc (.map #[] 0)) := fun W => rfl
   go_wp2
   have HS1 := startG (St.nil w); generalize (w.alloc (.map #[] 0)) = w1 at HS1 ⊢; generalize hgm_ : w.heap.size = gm at HS1 ⊢
   (try simp only [Act.put, List.setIfInBounds_toArray, List.set_cons_zero, List.set_cons_succ])
   clear hmk
   go_loopg [22] l0.length (fun kq s22 wr => ∃ (i n : Nat) (H' : Int → List S70) (okm : Nat → Prop), s22 = .int .i64 i ∧ Aside0 (i ≤ l0.length) ∧ Aside0 (l0.length - i ≤ kq) ∧ Aside0 (n ≤ 2 * i) ∧ Aside0 (impl_wayOf.beside (l0.drop i) H' = some H) ∧ Aside0 (St w wr [ObG w gm n okm H']))
   case atStart => exact ⟨0, 0, fun _ => [], _, rfl, ⟨Nat.zero_le _⟩, ⟨by omega⟩, ⟨Nat.zero_le _⟩, ⟨HH.out⟩, ⟨St.lift HS1⟩⟩
   case round =>
    clear HH HS1; obtain ⟨i, n0, H', okm, rfl, HI, HIK, HN, HX, HS⟩ := hrel
    by_cases hi : i < l0.length
    ·cases gk with
     | zero => have := HIK.out; omega
     | succ g1 =>
     have HWI : Aside0 (wrap64 ((i : Int) + 1) = ((i + 1 : Nat) : Int)) := ⟨by have := HQ1.out; clear HS; unfold wrap64; omega⟩
     have hx := HX.out
     have hdrop : l0.drop i = rd_T70 l0 (i : Int) :: l0.drop (i + 1) := by
      rw [List.drop_eq_getElem_cons hi]
      congr 1
      unfold rd_T70
      rw [List.getD_eq_getElem?_getD, Int.toNat_natCast, List.getElem?_eq_getElem hi]
      rfl
     rw [hdrop, impl_wayOf.beside] at hx; obtain ⟨ad, eA, hx0, hx1, hx2⟩ := at_T70 HR0.out (i : Int) (Int.natCast_nonneg i) (Int.ofNat_lt.2 hi); rw [Int.toNat_natCast] at hx0 hx1 hx2
     subst eA
     have hbl : ∀ (p : Addr) (u : Value), w.cell? p = some u → wr.cell? p = some u := fun p u hp => (HS.out.below.cell (World.block_lt_of_cell? w p hp)).trans hp
     replace hx0 := hbl _ _ hx0; replace hx1 := hbl _ _ hx1; replace hx2 := hbl _ _ hx2; obtain ⟨⟨A, B, C⟩, hl⟩ : ∃ l, rd_T70 l0 (i : Int) = l := ⟨_, rfl⟩; rw [hl] at hx hx0 hx1 hx2
     dsimp only at hx hx0 hx1 hx2
     by_cases cw : (Lit.int .i64 A).wf = true ∧ (Lit.int .i64 B).wf = true
     ·rw [if_pos cw] at hx
      by_cases ca : (H' A).length < 1000000
      ·rw [if_pos ca] at hx
       obtain ⟨H2, hH2⟩ : ∃ H2, impl_wayOf.addL H' A ⟨A, B, C⟩ = H2 := ⟨_, rfl⟩; rw [hH2] at hx
       by_cases cb : (H2 B).length < 1000000
       ·rw [if_pos cb] at hx
        have HX2 := Aside0.mk hx; have HCW := Aside0.mk cw; have HCA := Aside0.mk ca; have HCB := Aside0.mk cb; have HH2 := Aside0.mk hH2; have HI1 := Aside0.mk hi; have hib : decide ((i : Int) < (l0.length : Int)) = true := decide_eq_true (Int.ofNat_lt.2 hi); have hic : decide (i < l0.length) = true := decide_eq_true hi; have hii : ((i : Int) < (l0.length : Int)) = True := eq_true (Int.ofNat_lt.2 hi); have i0 : (0 ≤ (i : Int)) = True := eq_true (Int.natCast_nonneg i); clear hx HX cw ca cb hH2 hi hl hdrop hbl
        go_upto_region 5 with (fail)
        have HSb : Aside0 (St w (wr.alloc (.cells #[.int .i64 A, .int .i64 B, .int .i64 C] 70 (0, 0))) (Ob.B wr.heap.size (.cells #[.int .i64 A, .int .i64 B, .int .i64 C] 70 (0, 0)) :: [ObG w gm n0 okm H'])) := St.box HS (W' := wr) (g := wr.heap.size) rfl (blk_new wr _) (below_alloc (Below.refl _ _) _); clear hx0 hx1 hx2 HS; generalize wr.alloc (.cells #[.int .i64 A, .int .i64 B, .int .i64 C] 70 (0, 0)) = wl at HSb ⊢; generalize wr.heap.size = gl at HSb ⊢; have HSb_d : Aside0 (St w wl.drew _) := ⟨HSb.out.step (below_drew (Below.refl _ _))⟩; obtain ⟨FV, okr, hM, hR, hsub, hdis⟩ := (HSb_d.out.each _ (nth_mem (i := 1) rfl)).2.2; obtain ⟨Av, cv, eF⟩ := Kd.R_slice (hR A)
        have hlk : ∀ w' : World, w'.heap[gm]? = wl.drew.heap[gm]? → (Instr.lookup 106 (.map (some gm)) (.int .i64 A) false).run Try.prog w' = .ok (.slice Av (H' A).length cv) w' := fun w' e => by
         have h1 := MapI.lookup (MapI.step hM e) Try.underlying106 Try.underlying2 (impl_wayOf.zero29 w') A HCW.out.1; rw [eF] at h1
         exact h1
        refine start_ (n := 11) (S := (fun w' => w'.cell? ⟨gl, 0, none⟩ = some (.int .i64 A) ∧ w'.cell? ⟨gl, 1, none⟩ = some (.int .i64 B) ∧ w'.cell? ⟨gl, 2, none⟩ = some (.int .i64 C) ∧ (Instr.lookup 106 (.map (some gm)) (.int .i64 A) false).run Try.prog w' = .ok (.slice Av (H' A).length cv) w')) (ds := [10]) (tf 0 11) (by kernel_rfl) rfl rfl ⟨(blk_cell (St.getB HSb_d 0 rfl ⟨0, rfl⟩) 0).trans rfl, (blk_cell (St.getB HSb_d 0 rfl ⟨0, rfl⟩) 1).trans rfl, (blk_cell (St.getB HSb_d 0 rfl ⟨0, rfl⟩) 2).trans rfl, hlk _ rfl⟩ (fun hHeld => ?_); refine with_tabW impl_wayOf.tab5 impl_wayOf.bits5 (fun HT_ HW_ => ?_); clear HSb; have HM := Aside0.mk hM; have HRR := Aside0.mk hR; have HSUB := Aside0.mk hsub; have HDIS := Aside0.mk hdis; have HLK := Aside0.mk hlk; have HEF := Aside0.mk eF; clear hM hR hsub hdis hlk eF; generalize wl.drew = wx at HSb_d HM HRR HLK hHeld ⊢; refine pu HT_ 0 26 10 ?_; refine pu HT_ 1 27 9 ?_; refine ta HT_ HW_ hHeld 2 28 8 ?_; refine pu HT_ 3 29 7 ?_; refine pu HT_ 4 30 6 ?_; refine ta HT_ HW_ hHeld 5 31 5 ?_; refine ta HT_ HW_ hHeld 6 32 4 ?_; refine ta HT_ HW_ hHeld 7 33 3 ?_; refine on HT_ 8 34 2 (fun K hK => ?_); refine value_ (w1 := wx.alloc (.cells #[.int .i64 A, .int .i64 B, .int .i64 C] 70)) (v := .slice (some ⟨wx.heap.size, 0, none⟩) 1 1) (by rfl) rfl ?_ ?_
        ·first | (go_simp; done) | (go_simp; constructor <;> rfl) | (go_simp; rfl)
        have HV2 : Aside0 (Below wx.heap.size wx (wx.alloc (.cells #[.int .i64 A, .int .i64 B, .int .i64 C] 70))) := ⟨below_alloc (Below.refl _ _) _⟩; refine hK.out _ _ ⟨(HV2.out.cell (World.block_lt_of_cell? wx _ hHeld.1)).trans hHeld.1, (HV2.out.cell (World.block_lt_of_cell? wx _ hHeld.2.1)).trans hHeld.2.1, (HV2.out.cell (World.block_lt_of_cell? wx _ hHeld.2.2.1)).trans hHeld.2.2.1, HLK.out _ (HV2.out.block gm (MapI.lt HM.out))⟩ (fun hHeld2 => ?_); clear hK K HV2 hHeld2; refine nm 34 ?_; refine on HT_ 9 35 1 (fun K hK => ?_); refine Kd.R_append_step k70 (w0 := w) w.heap.size (by rfl) (.tmp 32) (.tmp 34) 29 70 (.agg #[.int .i64 0, .int .i64 0, .int .i64 0]) 24 rfl Try.underlying29 impl_wayOf.info70 rfl (by decide) (by omega) (.slice Av (H' A).length cv) (H' A) ⟨A, B, C⟩ [.int .i64 A, .int .i64 B, .int .i64 C] (fun k_ => okr A k_ ∨ wx.heap.size ≤ k_) (fun _ => False) rfl rfl ?aP (fun _ hk => hk.elim) ?aF ?aO ?aB ?aS ?aL ?_
        (case aP => exact k70_mkM _ _ _ ⟨A, B, C⟩)
        (case aF => exact (fun k_ hk => .inr hk))
        (case aO => have h_ := HRR.out A; rw [HEF.out] at h_; exact Kd.R_mono h_ (fun _ h_ => .inl h_))
        (case aB => exact HSb_d.out.below)
        (case aS => exact HSb_d.out.below.size)
        (case aL => have := HCA.out; omega)
        intro v6 w6 ho hb6 hg6 hat6
        have hrow : ∀ q, (.slice Av (H' A).length cv : Value).ownBlock = some q → okr A q := fun q hq => (HRR.out A).1 q (by rw [HEF.out]; exact hq)
        have hgl : w6.heap[gl]? = wx.heap[gl]? := hg6.block gl (blk_lt (St.getB HSb_d 0 rfl ⟨0, rfl⟩)) (fun e_ => nth_apart HSb_d.out.apart (i := 0) (j := 1) rfl rfl (by decide) gl rfl (.inr (HSUB.out A gl (hrow gl e_.symm)).1)); have hgmb : w6.heap[gm]? = wx.heap[gm]? := hg6.block gm (MapI.lt HM.out) (fun e_ => (HSUB.out A gm (hrow gm e_.symm)).2 rfl); obtain ⟨w7, hrun, okm7, HSc, hg7⟩ := putG HSb_d 1 rfl HM.out HRR.out HSUB.out HDIS.out A ⟨A, B, C⟩ HCW.out.1 (by have := HN.out; have := HI1.out; have := HQ1.out; unfold maxLen; omega) w6 v6 (by rw [HEF.out]; exact hg6) hb6 ho
        have hgl6 := hgl.trans (St.getB HSb_d 0 rfl ⟨0, rfl⟩); refine hK.out _ _ ⟨(blk_cell hgl6 0).trans rfl, (blk_cell hgl6 1).trans rfl, (blk_cell hgl6 2).trans rfl, HLK.out _ hgmb⟩ (fun hHeld3 => ?_); clear hK K ho hb6 hg6 hat6 hgl hgl6 hgmb hrow hHeld hHeld3; refine nm 35 ?_; refine last_ (i := 10) (N := none) (tf 11 0) rfl rfl (one_of HT_.out (by kernel_rfl)) (by decide) (fun K hK => ?_); refine skip_ (w1 := w7) (by rfl) rfl ?_ ?_
        ·first | (go_simp; done) | (go_simp; rfl)
        refine hK.out _ _ ?_; clear hK K; refine done_ (done_of HT_.out (by kernel_rfl)) ?_; clear hrun hg7 HSb_d HM HRR HSUB HDIS HLK HEF HT_ HW_; rw [show (fun q => if q = A then H' q ++ [(⟨A, B, C⟩ : S70)] else H' q) = H2 from HH2.out] at HSc
        go_upto_region 6 with (fail)
        have HSc_d : Aside0 (St w w7.drew _) := ⟨HSc.out.step (below_drew (Below.refl _ _))⟩; obtain ⟨FV, okr, hM, hR, hsub, hdis⟩ := (HSc_d.out.each _ (nth_mem (i := 1) rfl)).2.2; obtain ⟨Av, cv, eF⟩ := Kd.R_slice (hR B)
        have hlk : ∀ w' : World, w'.heap[gm]? = w7.drew.heap[gm]? → (Instr.lookup 106 (.map (some gm)) (.int .i64 B) false).run Try.prog w' = .ok (.slice Av (H2 B).length cv) w' := fun w' e => by
         have h1 := MapI.lookup (MapI.step hM e) Try.underlying106 Try.underlying2 (impl_wayOf.zero29 w') B HCW.out.2; rw [eF] at h1
         exact h1
        refine start_ (n := 17) (S := (fun w' => w'.cell? ⟨gl, 0, none⟩ = some (.int .i64 A) ∧ w'.cell? ⟨gl, 1, none⟩ = some (.int .i64 B) ∧ w'.cell? ⟨gl, 2, none⟩ = some (.int .i64 C) ∧ (Instr.lookup 106 (.map (some gm)) (.int .i64 B) false).run Try.prog w' = .ok (.slice Av (H2 B).length cv) w')) (ds := [16]) (tf 0 17) (by kernel_rfl) rfl rfl ⟨(blk_cell (St.getB HSc_d 0 rfl ⟨0, rfl⟩) 0).trans rfl, (blk_cell (St.getB HSc_d 0 rfl ⟨0, rfl⟩) 1).trans rfl, (blk_cell (St.getB HSc_d 0 rfl ⟨0, rfl⟩) 2).trans rfl, hlk _ rfl⟩ (fun hHeld => ?_); refine with_tabW impl_wayOf.tab6 impl_wayOf.bits6 (fun HT_ HW_ => ?_); clear HSc; have HM := Aside0.mk hM; have HRR := Aside0.mk hR; have HSUB := Aside0.mk hsub; have HDIS := Aside0.mk hdis; have HLK := Aside0.mk hlk; have HEF := Aside0.mk eF; clear hM hR hsub hdis hlk eF; generalize w7.drew = wx at HSc_d HM HRR HLK hHeld ⊢; refine pu HT_ 0 36 16 ?_; refine pu HT_ 1 37 15 ?_; refine ta HT_ HW_ hHeld 2 38 14 ?_; refine pu HT_ 3 39 13 ?_; refine pu HT_ 4 40 12 ?_; refine ta HT_ HW_ hHeld 5 41 11 ?_; refine ta HT_ HW_ hHeld 6 42 10 ?_; refine pu HT_ 7 43 9 ?_; refine ta HT_ HW_ hHeld 8 44 8 ?_; refine pu HT_ 9 45 7 ?_; refine ta HT_ HW_ hHeld 10 46 6 ?_; refine pu HT_ 11 47 5 ?_; refine ta HT_ HW_ hHeld 12 48 4 ?_; refine pu HT_ 13 49 3 ?_; refine on HT_ 14 50 2 (fun K hK => ?_); refine value_ (w1 := wx.alloc (.cells #[.int .i64 B, .int .i64 A, .int .i64 C] 70)) (v := .slice (some ⟨wx.heap.size, 0, none⟩) 1 1) (by rfl) rfl ?_ ?_
        ·first | (go_simp; done) | (go_simp; constructor <;> rfl) | (go_simp; rfl)
        have HV2 : Aside0 (Below wx.heap.size wx (wx.alloc (.cells #[.int .i64 B, .int .i64 A, .int .i64 C] 70))) := ⟨below_alloc (Below.refl _ _) _⟩; refine hK.out _ _ ⟨(HV2.out.cell (World.block_lt_of_cell? wx _ hHeld.1)).trans hHeld.1, (HV2.out.cell (World.block_lt_of_cell? wx _ hHeld.2.1)).trans hHeld.2.1, (HV2.out.cell (World.block_lt_of_cell? wx _ hHeld.2.2.1)).trans hHeld.2.2.1, HLK.out _ (HV2.out.block gm (MapI.lt HM.out))⟩ (fun hHeld2 => ?_); clear hK K HV2 hHeld2; refine nm 50 ?_; refine on HT_ 15 51 1 (fun K hK => ?_); refine Kd.R_append_step k70 (w0 := w) w.heap.size (by rfl) (.tmp 42) (.tmp 50) 29 70 (.agg #[.int .i64 0, .int .i64 0, .int .i64 0]) 24 rfl Try.underlying29 impl_wayOf.info70 rfl (by decide) (by omega) (.slice Av (H2 B).length cv) (H2 B) ⟨B, A, C⟩ [.int .i64 B, .int .i64 A, .int .i64 C] (fun k_ => okr B k_ ∨ wx.heap.size ≤ k_) (fun _ => False) rfl rfl ?aP (fun _ hk => hk.elim) ?aF ?aO ?aB ?aS ?aL ?_
        (case aP => exact k70_mkM _ _ _ ⟨B, A, C⟩)
        (case aF => exact (fun k_ hk => .inr hk))
        (case aO => have h_ := HRR.out B; rw [HEF.out] at h_; exact Kd.R_mono h_ (fun _ h_ => .inl h_))
        (case aB => exact HSc_d.out.below)
        (case aS => exact HSc_d.out.below.size)
        (case aL => have := HCB.out; omega)
        intro v6 w6 ho hb6 hg6 hat6
        have hrow : ∀ q, (.slice Av (H2 B).length cv : Value).ownBlock = some q → okr B q := fun q hq => (HRR.out B).1 q (by rw [HEF.out]; exact hq)
        have hgl : w6.heap[gl]? = wx.heap[gl]? := hg6.block gl (blk_lt (St.getB HSc_d 0 rfl ⟨0, rfl⟩)) (fun e_ => nth_apart HSc_d.out.apart (i := 0) (j := 1) rfl rfl (by decide) gl rfl (.inr (HSUB.out B gl (hrow gl e_.symm)).1)); have hgmb : w6.heap[gm]? = wx.heap[gm]? := hg6.block gm (MapI.lt HM.out) (fun e_ => (HSUB.out B gm (hrow gm e_.symm)).2 rfl); obtain ⟨w7, hrun, okm7, HSe, hg7⟩ := putG HSc_d 1 rfl HM.out HRR.out HSUB.out HDIS.out B ⟨B, A, C⟩ HCW.out.2 (by have := HN.out; have := HI1.out; have := HQ1.out; unfold maxLen; omega) w6 v6 (by rw [HEF.out]; exact hg6) hb6 ho
        have hgl6 := hgl.trans (St.getB HSc_d 0 rfl ⟨0, rfl⟩); refine hK.out _ _ ⟨(blk_cell hgl6 0).trans rfl, (blk_cell hgl6 1).trans rfl, (blk_cell hgl6 2).trans rfl, HLK.out _ hgmb⟩ (fun hHeld3 => ?_); clear hK K ho hb6 hg6 hat6 hgl hgl6 hgmb hrow hHeld hHeld3; refine nm 51 ?_; refine last_ (i := 16) (N := none) (tf 17 0) rfl rfl (one_of HT_.out (by kernel_rfl)) (by decide) (fun K hK => ?_); refine skip_ (w1 := w7) (by rfl) rfl ?_ ?_
        ·first | (go_simp; done) | (go_simp; rfl)
        refine hK.out _ _ ?_; clear hK K; refine done_ (done_of HT_.out (by kernel_rfl)) ?_; clear hrun hg7 HSc_d HM HRR HSUB HDIS HLK HEF HT_ HW_
        go_wp2
        go_roundg g1
        case measure => omega
        case rel => exact ⟨i + 1, n0 + 1 + 1, _, okm7, by rw [HWI.out], ⟨HI1.out⟩, ⟨by have := HIK.out; have := HI1.out; omega⟩, ⟨by have := HN.out; omega⟩, HX2, St.drop ⟨St.lift HSe⟩ 0⟩
       ·rw [if_neg cb] at hx; cases hx
      ·rw [if_neg ca] at hx; cases hx
     ·rw [if_neg cw] at hx; cases hx
    ·have hib : decide ((i : Int) < (l0.length : Int)) = false := decide_eq_false (by omega)
     have hic : decide (i < l0.length) = false := decide_eq_false hi; have hx := HX.out; rw [List.drop_eq_nil_of_le (by omega), impl_wayOf.beside] at hx; obtain rfl := Option.some.inj hx; clear hx HX hi; obtain ⟨FV, okr, HS1⟩ := St.asH HS 0 rfl
     have hmk : ∀ W : World, (Instr.makeMap 107 none).run Try.prog W = .ok (.map (some W.heap.size)) (W.alloc (.map #[] 0)) := fun W => rfl
     obtain ⟨W2, hrun, HS2, hg2⟩ := putF (startF HS1) 0 rfl (by unfold maxLen; omega) a1 HQ2.out ⟨a1, a1, 0⟩
     replace hrun : (Instr.mapUpdate 107 (.map (some wr.heap.size)) (.int .i64 a1) (.agg #[.int .i64 a1, .int .i64 a1, .int .i64 0])).run Try.prog (wr.alloc (.map #[] 0)) = .ok () W2 := hrun
     go_upto_region 9 with (fail)
     clear hrun hg2 hmk HS HS1; generalize hgf_ : wr.heap.size = gf at HS2 ⊢; clear hgf_
     go_wp2_with (first | ((with_reducible refine gate_dst (N := 60) rfl ?_); refine Kd.R_lit (Kd.int .i64) _ 2 ?hg (N := 60) ?hd (xs := ([a1] : List Int)) (inner := [.int .i64 a1]) (ok := fun _ => True) (okp := fun _ => True) ?hr ?hp (fun _ hk => hk) trivial (Below.refl _ _) (Nat.le_refl _) (by simp) ?_; (case hd => rfl); (case hg => rfl); (case hr => first | (go_simp; done) | (go_simp; rfl)); (case hp => exact (Reps.one (show Kd.M (Kd.int .i64) _ _ _ a1 [.int .i64 a1] from rfl) (Reps.none _ _))); intro va wa hra hba hga hna; clear hga hna; obtain ⟨okAa, Aa, ca, rfl, hcaAa, HSa⟩ := St.callR HS2 hba hra; clear hra hba))
     (try simp only [Act.put, List.setIfInBounds_toArray, List.set_cons_zero, List.set_cons_succ])
     have HSq := St.asQ HSa 0 rfl (by simp); obtain ⟨ga, offa, caq, cella, eva, _⟩ := getQ (W' := wa) HSq 0 rfl ⟨0, rfl⟩
     have eAa : Aa = some ⟨ga, offa, none⟩ := by injection eva
     subst eAa
     clear eva HSa HS2
     go_loopg [11] k (fun kq s11 wr => ∃ (F' : Int → Option S70) (todo : List Int) (m n g off c : Nat) (okq : Nat → Prop), s11 = .slice (some ⟨g, off, none⟩) todo.length c ∧ Aside0 (n ≤ m) ∧ Aside0 (impl_wayOf.bfs H' kq F' todo m = some F) ∧ Aside0 (St w wr [ObQ w okq (.slice (some ⟨g, off, none⟩) todo.length c) todo, ObF gf n F', ObH w gm n0 okm FV okr H']))
     case atStart => exact ⟨_, [a1], 1, 1, ga, offa, ca, _, rfl, ⟨Nat.le_refl _⟩, ⟨HF.out⟩, ⟨St.lift HSq⟩⟩
     case round =>
      clear HF HSq HIK HI HN HR0 hib hic; obtain ⟨F', todo, m, n, g, off, c, okq, rfl, HN, HX, HS⟩ := hrel; have hx := HX.out
      cases gk with
      | zero => cases hx
      | succ g1 =>
      cases todo with
      | nil =>
       rw [impl_wayOf.bfs] at hx; obtain rfl := Option.some.inj hx; clear hx HX
       go_wp2_with (first | ((with_reducible refine gate_dst (N := 96) rfl ?_); refine Kd.R_lit (Kd.int .i64) _ 2 ?hg (N := 96) ?hd (xs := ([] : List Int)) (inner := []) (ok := fun _ => True) (okp := fun _ => True) ?hr ?hp (fun _ hk => hk) trivial (Below.refl _ _) (Nat.le_refl _) (by simp) ?_; (case hd => rfl); (case hg => rfl); (case hr => first | (go_simp; done) | (go_simp; rfl)); (case hp => exact (Reps.none _ _)); intro va wa hra hba hga hna; clear hga hna; obtain ⟨okAo, Ao, co, rfl, hcaAo, HSo⟩ := St.callR HS hba hra; clear hra hba))
       (try simp only [Act.put, List.setIfInBounds_toArray, List.set_cons_zero, List.set_cons_succ])
       clear HS
       go_loopg [17, 18] k (fun kq s17 s18 wr => ∃ (at_ : Int) (ys : List Int) (oko : Nat → Prop) (Ao : Option Addr) (co : Nat), s17 = .slice Ao ys.length co ∧ s18 = .int .i64 at_ ∧ Aside0 (ys.length ≤ 1000000) ∧ Aside0 (impl_wayOf.back F' a1 kq at_ ys = some out) ∧ Aside0 (St w wr (Ob.R w (Kd.int .i64) 2 oko (.slice Ao ys.length co) ys :: [ObQ w okq (.slice (some ⟨g, off, none⟩) ([] : List Int).length c) [], ObF gf n F', ObH w gm n0 okm FV okr H'])))
       case atStart => exact ⟨a2, [], okAo, Ao, co, rfl, rfl, ⟨by simp⟩, HO, ⟨St.lift HSo⟩⟩
       case round =>
        clear HO HSo; obtain ⟨at_, ys, oko, Ao, co, rfl, rfl, HYL, HX, HS⟩ := hrel; have hx := HX.out
        cases gk with
        | zero => cases hx
        | succ g1 =>
        rw [impl_wayOf.back] at hx
        by_cases ce : at_ = a1
        ·rw [if_pos ce] at hx
         obtain rfl := Option.some.inj hx; have ceb : (at_ != a1) = false := bne_eq_false_iff_eq.2 ce; clear hx HX; have hrr := St.getR (W' := wr) HS 0 rfl ⟨0, rfl⟩
         have hnb : ys.length < 4611686018427387904 := by have := HYL.out; omega
         by_cases cn : ys.length = 0
         ·have hnil : ys = [] := List.length_eq_zero_iff.1 cn
          subst hnil
          go_wp2_with (first
           | (go_at_call 56; refine (Try.slices_Sort_int_none Ao co _).mono ?_; rintro e w5 ⟨rfl, rfl⟩)
           | (go_at_call 57; refine (Try.slices_Compact_int_empty Ao co _).mono ?_; rintro e w6 ⟨rfl, rfl⟩))
          go_ret
          have e0 : Go.Lib.compact (([] : List Int).mergeSort fun x y => decide (x ≤ y)) = [] := List.eq_nil_of_length_eq_zero (Nat.le_zero.1 (Nat.le_trans (Go.Lib.compact_length_le _) (by rw [List.length_mergeSort]; exact Nat.le_refl _)))
          rw [e0]
          exact ⟨.slice Ao ([] : List Int).length co, rfl, Kd.R_mono (St.getR HS 0 rfl) (fun _ _ => trivial), (St.lift HS).below⟩
         ·obtain ⟨go, cr, er, hgo, _, _, _⟩ := Kd.R_form hrr (by omega)
          have eX : Ao = some ⟨go, 0, none⟩ := by injection er
          subst eX
          clear er; have HGO := Aside0.mk hgo; have HNB := Aside0.mk hnb; have HLS : Aside0 ((ys.mergeSort fun x y => decide (x ≤ y)).length = ys.length) := ⟨List.length_mergeSort _⟩; clear hrr hnb cn hgo
          go_wp2_with (first
           | (go_at_call 56; refine St.absC (fun W_ hE_ => ?_); have hW_ : ∃ n, W_ = wr.drewN n := (by first | exact ⟨_, hE_⟩ | exact ⟨0, hE_⟩); have hBW := Aside0.mk (St.lift (W' := W_) HS hW_).below; refine (sort_row (St.getR (W' := W_) HS 0 rfl hW_) HNB.out).mono ?_; rintro e w5 ⟨rfl, hr5, hg5⟩)
           | (go_at_call 57; refine (compact_row hr5 HNB.out).mono ?_; rintro e w6 ⟨rfl, hr6, hg6⟩))
          go_ret
          exact ⟨_, rfl, Kd.R_mono hr6 (fun _ _ => trivial), (hBW.out.grown hg5 hBW.out.size (fun q hq => by rw [← Option.some.inj hq]; exact HGO.out)).grown hg6 (hBW.out.grown hg5 hBW.out.size (fun q hq => by rw [← Option.some.inj hq]; exact HGO.out)).size (fun q hq => by rw [← Option.some.inj hq]; exact HGO.out)⟩
        ·rw [if_neg ce] at hx
         by_cases cw : (Lit.int .i64 at_).wf = true
         ·rw [if_pos cw] at hx
          by_cases cl_ : ys.length < 1000000
          ·rw [if_pos cl_] at hx
           have ceb : (at_ != a1) = true := bne_iff_ne.2 ce; have HCW := Aside0.mk cw; have HCL := Aside0.mk cl_
           have hy : ((F' at_).map aggL).getD (aggL z70) = aggL ((F' at_).getD z70) := by
            cases F' at_ with
            | none => rfl
            | some u => rfl
           have hlk := MapO.lookup (getF (W' := wr) HS 2 rfl ⟨0, rfl⟩) Try.underlying107 Try.underlying2 (impl_wayOf.zero70 wr) at_ HCW.out; rw [hy] at hlk; have HY := Aside0.mk hy; obtain ⟨⟨y0, y1, y2⟩, hye⟩ : ∃ y, (F' at_).getD z70 = y := ⟨_, rfl⟩; rw [hye] at hx hlk
           dsimp only at hx
           replace hlk : (Instr.lookup 107 (.map (some gf)) (.int .i64 at_) false).run Try.prog wr = .ok (.agg #[.int .i64 y0, .int .i64 y1, .int .i64 y2]) wr := hlk; have HYE := Aside0.mk hye; have HX2 := Aside0.mk hx
           have hf2 := fun W_ : World => impl_wayOf.fld2 W_ (.int .i64 y0) (.int .i64 y1) (.int .i64 y2)
           have hf0 := fun W_ : World => impl_wayOf.fld0 W_ (.int .i64 y0) (.int .i64 y1) (.int .i64 y2)
           clear hx HX cw cl_ hy hye ce
           go_wp2_with (first | ((with_reducible refine gate_builtin (b := .append) (xs := #[.tmp 105, .tmp 110]) rfl ?_); at_builtin; refine Kd.R_append (Kd.int .i64) (w0 := w) w.heap.size rfl (.tmp 105) (.tmp 110) 26 2 (.int .i64 0) 8 rfl Try.underlying26 impl_wayOf.info2 rfl (by decide) (by omega) (.slice Ao ys.length co) ys y2 [.int .i64 y2] (fun k_ => oko k_ ∨ wr.heap.size ≤ k_) (fun _ => False) rfl (by first | (go_simp; done) | (go_simp; rfl)) ?aP (fun _ hk => hk.elim) ?aF ?aO ?aB ?aS ?aL ?_; (case aP => exact rfl); (case aF => exact fun _ hk => .inr hk); (case aO => exact Kd.R_mono (St.getR (W' := wr) HS 0 rfl ⟨0, rfl⟩) (fun _ h_ => .inl h_)); (case aB => exact HS.out.below); (case aS => exact HS.out.below.size); (case aL => (have h_ := HCL.out; omega)); intro vc wc hrc hbc hgc hac; clear hac; obtain ⟨okc, HSc⟩ := St.growR HS 0 rfl hgc hbc hrc; obtain ⟨Ac, cc, rfl⟩ := Kd.R_slice hrc; clear hrc hbc hgc hlk; have hlk := MapO.lookup (getF (W' := wc) HSc 2 rfl ⟨0, rfl⟩) Try.underlying107 Try.underlying2 (impl_wayOf.zero70 wc) at_ HCW.out; rw [HY.out, HYE.out] at hlk; replace hlk : (Instr.lookup 107 (.map (some gf)) (.int .i64 at_) false).run Try.prog wc = .ok (.agg #[.int .i64 y0, .int .i64 y1, .int .i64 y2]) wc := hlk))
           go_roundg g1
           case measure => omega
           case rel => exact ⟨y0, ys ++ [y2], okc, Ac, cc, by first | rfl | (simp; done), rfl, ⟨by rw [List.length_append, List.length_singleton]; have := HCL.out; omega⟩, HX2, ⟨St.lift HSc⟩⟩
          ·rw [if_neg cl_] at hx; cases hx
         ·rw [if_neg cw] at hx; cases hx
      | cons x todo =>
       rw [impl_wayOf.bfs] at hx
       by_cases cx : (Lit.int .i64 x).wf = true
       ·rw [if_pos cx] at hx
        obtain ⟨r, hr, hx⟩ := Option.bind_eq_some_iff.mp hx; have HR := Aside0.mk hr; have HX2 := Aside0.mk hx; have HCX := Aside0.mk cx; have hq := getQ (W' := wr) HS 0 rfl ⟨0, rfl⟩; obtain ⟨g_, off_, c_, ev, hxc⟩ := Qu.cell hq
        injection ev with ev1 ev2 ev3
        injection ev1 with ev1
        injection ev1 with ev4 ev5 _
        subst ev4 ev5 ev3
        have hlc : todo.length + 1 ≤ c := by obtain ⟨_, _, _, _, e_, h_, _⟩ := hq; injection e_ with _ _ e3; subst e3; exact h_
        have hcut := fun W_ : World => impl_wayOf.cut1 W_ g off (todo.length + 1) c (by omega) hlc
        have HSk := St.cutQ HS 0 rfl
        obtain ⟨off1, ho1⟩ : ∃ off1, (if c = 1 then some (⟨g, off, none⟩ : Addr) else some ⟨g, off + 1, none⟩) = some ⟨g, off1, none⟩ := by
         by_cases e : c = 1
         ·exact ⟨off, if_pos e⟩
         ·exact ⟨off + 1, if_neg e⟩
        simp only [ho1] at hcut
        rw [ho1] at HSk; have hrow := (getH (W' := wr) HSk 2 rfl ⟨0, rfl⟩).2.1 x; have hlk := MapI.lookup (getH (W' := wr) HSk 2 rfl ⟨0, rfl⟩).1 Try.underlying106 Try.underlying2 (impl_wayOf.zero29 wr) x HCX.out; obtain ⟨Av, cv, eF⟩ := Kd.R_slice hrow; rw [eF] at hlk hrow; have HEF := Aside0.mk eF; have HMX := Aside0.mk (Kd.C_max (Kd.R_reads' hrow).2.2)
        have hlen : ((x :: todo).length : Int) = (todo.length : Int) + 1 := by simp
        have hl0 : decide (0 < (todo.length : Int) + 1) = true := decide_eq_true (by omega); clear hr hx cx HX HS hq ev2 hrow eF ho1
        go_wp2
        (try simp only [Act.put, List.setIfInBounds_toArray, List.set_cons_zero, List.set_cons_succ])
        clear hlk hcut hxc hl0 hlen
        go_loopg [11, 73] (H' x).length (fun kq s11 s73 wr => ∃ (j : Nat) (F' : Int → Option S70) (todo : List Int) (m n g off c : Nat) (okq : Nat → Prop), s11 = .slice (some ⟨g, off, none⟩) todo.length c ∧ s73 = .int .i64 j ∧ Aside0 (n ≤ m) ∧ Aside0 (j ≤ (H' x).length) ∧ Aside0 ((H' x).length - j ≤ kq) ∧ Aside0 (impl_wayOf.row ((H' x).drop j) F' todo m = some r) ∧ Aside0 (St w wr [ObQ w okq (.slice (some ⟨g, off, none⟩) todo.length c) todo, ObF gf n F', ObH w gm n0 okm FV okr H']))
        case atStart => exact ⟨0, F', todo, m, n, g, off1, c - 1, okq, rfl, rfl, HN, ⟨Nat.zero_le _⟩, ⟨by omega⟩, HR, ⟨St.lift HSk⟩⟩
        case round =>
         clear HR HSk HN hlc; obtain ⟨j, F', todo, m, n, g, off, c, okq, rfl, rfl, HN, HJ, HJK, HX, HS⟩ := hrel; have hx := HX.out
         by_cases hj : j < (H' x).length
         ·cases gk with
          | zero => have := HJK.out; omega
          | succ g2 =>
          have hdrop : (H' x).drop j = rd_T70 (H' x) (j : Int) :: (H' x).drop (j + 1) := by
           rw [List.drop_eq_getElem_cons hj]
           congr 1
           unfold rd_T70
           rw [List.getD_eq_getElem?_getD, Int.toNat_natCast, List.getElem?_eq_getElem hj]
           rfl
          rw [hdrop, impl_wayOf.row] at hx; have hrow := (getH (W' := wr) HS 2 rfl ⟨0, rfl⟩).2.1 x; rw [HEF.out] at hrow; obtain ⟨ad, eA, hx0, hx1, hx2⟩ := at_T70 (Kd.R_reads' hrow).2.2 (j : Int) (Int.natCast_nonneg j) (Int.ofNat_lt.2 hj); rw [Int.toNat_natCast] at hx0 hx1 hx2
          subst eA
          obtain ⟨⟨A, B, C⟩, hl⟩ : ∃ l, rd_T70 (H' x) (j : Int) = l := ⟨_, rfl⟩; rw [hl] at hx hx0 hx1 hx2
          dsimp only at hx hx0 hx1 hx2
          have HWJ : Aside0 (wrap64 ((j : Int) + 1) = ((j + 1 : Nat) : Int)) := ⟨by have := HMX.out; clear HS; unfold wrap64; omega⟩
          by_cases cw : (Lit.int .i64 B).wf = true
          ·rw [if_pos cw] at hx
           have HX2 := Aside0.mk hx; have HCW := Aside0.mk cw; have HJ1 := Aside0.mk hj; have hjb : decide ((j : Int) < ((H' x).length : Int)) = true := decide_eq_true (Int.ofNat_lt.2 hj); have hjc : decide (j < (H' x).length) = true := decide_eq_true hj; have hji : ((j : Int) < ((H' x).length : Int)) = True := eq_true (Int.ofNat_lt.2 hj); have j0 : (0 ≤ (j : Int)) = True := eq_true (Int.natCast_nonneg j); clear hx HX cw hj hl hdrop hrow
           go_upto_region 16 with (fail)
           have HSb : Aside0 (St w (wr.alloc (.cells #[.int .i64 A, .int .i64 B, .int .i64 C] 70 (0, 0))) (Ob.B wr.heap.size (.cells #[.int .i64 A, .int .i64 B, .int .i64 C] 70 (0, 0)) :: _)) := St.box HS (W' := wr) (g := wr.heap.size) rfl (blk_new wr _) (below_alloc (Below.refl _ _) _); clear hx0 hx1 hx2 HS; generalize wr.alloc (.cells #[.int .i64 A, .int .i64 B, .int .i64 C] 70 (0, 0)) = wl at HSb ⊢; generalize wr.heap.size = gl at HSb ⊢; have hz0 : wl.cell? ⟨gl, 0, none⟩ = some (.int .i64 A) := (blk_cell (St.getB HSb 0 rfl ⟨0, rfl⟩) 0).trans rfl; have hz1 : wl.cell? ⟨gl, 1, none⟩ = some (.int .i64 B) := (blk_cell (St.getB HSb 0 rfl ⟨0, rfl⟩) 1).trans rfl; have hz2 : wl.cell? ⟨gl, 2, none⟩ = some (.int .i64 C) := (blk_cell (St.getB HSb 0 rfl ⟨0, rfl⟩) 2).trans rfl; have hlk := MapO.look_ok (getF (W' := wl) HSb 2 rfl ⟨0, rfl⟩) Try.underlying107 Try.underlying2 (impl_wayOf.zero70 wl) B HCW.out
           obtain ⟨y, hy⟩ : ∃ y : S70, ((F' B).map aggL).getD (aggL z70) = aggL y := by
            cases F' B with
            | none => exact ⟨z70, rfl⟩
            | some u => exact ⟨u, rfl⟩
           obtain ⟨y0, y1, y2⟩ := y; rw [hy, Option.isSome_map] at hlk; replace hlk : (Instr.lookup 107 (.map (some gf)) (.int .i64 B) true).run Try.prog wl = .ok (.tuple #[.agg #[.int .i64 y0, .int .i64 y1, .int .i64 y2], .bool (F' B).isSome]) wl := hlk; clear hy
           go_upto_region 17 with (fail)
           have HSd : Aside0 (St w (wl.alloc (.cells #[.int .i64 y0, .int .i64 y1, .int .i64 y2] 70 (0, 0))) _) := St.call HSb (below_alloc (Below.refl _ _) _); clear hz0 hz1 hz2 hlk HSb; generalize wl.alloc (.cells #[.int .i64 y0, .int .i64 y1, .int .i64 y2] 70 (0, 0)) = wd at HSd ⊢
           cases hmet : (F' B).isSome with
           | true =>
            have hx := HX2.out; rw [if_pos hmet] at hx; have HX3 := Aside0.mk hx; clear hx HX2
            go_wp2
            go_roundg g2
            case measure => omega
            case rel => exact ⟨j + 1, F', todo, m, n, g, off, c, okq, rfl, by rw [HWJ.out], HN, ⟨HJ1.out⟩, ⟨by have := HJK.out; have := HJ1.out; omega⟩, HX3, St.drop ⟨St.lift HSd⟩ 0⟩
           | false =>
            have hx := HX2.out; rw [if_neg (by rw [hmet]; decide)] at hx
            by_cases ct : todo.length < 1000000
            ·rw [if_pos ct] at hx
             by_cases cm : m < 1000000
             ·rw [if_pos cm] at hx
              have HX3 := Aside0.mk hx; have HCT := Aside0.mk ct; have HCM := Aside0.mk cm; have hz0 : wd.cell? ⟨gl, 0, none⟩ = some (.int .i64 A) := (blk_cell (St.getB HSd 0 rfl ⟨0, rfl⟩) 0).trans rfl; have hz1 : wd.cell? ⟨gl, 1, none⟩ = some (.int .i64 B) := (blk_cell (St.getB HSd 0 rfl ⟨0, rfl⟩) 1).trans rfl; have hz2 : wd.cell? ⟨gl, 2, none⟩ = some (.int .i64 C) := (blk_cell (St.getB HSd 0 rfl ⟨0, rfl⟩) 2).trans rfl; obtain ⟨we, hrun, HSe, _⟩ := putF HSd 2 rfl (by have := HN.out; unfold maxLen; omega) B HCW.out ⟨A, B, C⟩
              replace hrun : (Instr.mapUpdate 107 (.map (some gf)) (.int .i64 B) (.agg #[.int .i64 A, .int .i64 B, .int .i64 C])).run Try.prog wd = .ok () we := hrun; clear hx HX2 ct cm hmet
              go_upto_region 19 with (fail)
              clear hrun hz0 hz1 hz2 HSd; have hz1 : we.cell? ⟨gl, 1, none⟩ = some (.int .i64 B) := (blk_cell (St.getB HSe 0 rfl ⟨0, rfl⟩) 1).trans rfl
              go_wp2_with (first | ((with_reducible refine gate_builtin (b := .append) (xs := #[.tmp 90, .tmp 93]) rfl ?_); at_builtin; refine wpList_appQ rfl (.tmp 90) (.tmp 93) rfl rfl (.slice (some ⟨g, off, none⟩) todo.length c) todo okq B ⟨we.heap.size, 0, none⟩ 1 rfl (by first | (go_simp; done) | (go_simp; rfl)) (w0 := w) (show Aside0 (St w (we.alloc (.cells #[.int .i64 B] 2 (0, 0))) _) from St.call HSe (below_alloc (Below.refl _ _) _)) 1 rfl ((blk_cell (blk_new we (.cells #[.int .i64 B] 2 (0, 0))) 0).trans rfl) HCT.out ?_; intro gq oq cq wg okq' HSg))
              go_roundg g2
              case measure => omega
              case rel => exact ⟨j + 1, _, todo ++ [B], m + 1, n + 1, gq, oq, cq, okq', by first | rfl | (simp; done), by rw [HWJ.out], ⟨by have := HN.out; omega⟩, ⟨HJ1.out⟩, ⟨by have := HJK.out; have := HJ1.out; omega⟩, HX3, St.drop ⟨St.lift HSg⟩ 0⟩
             ·rw [if_neg cm] at hx; cases hx
            ·rw [if_neg ct] at hx; cases hx
          ·rw [if_neg cw] at hx; cases hx
         ·rw [List.drop_eq_nil_of_le (by omega), impl_wayOf.row] at hx
          have hx := (Option.some.inj hx).symm
          subst hx
          have hjb : decide ((j : Int) < ((H' x).length : Int)) = false := decide_eq_false (by omega); have hjc : decide (j < (H' x).length) = false := decide_eq_false hj; clear HX hj
          go_wp2
          go_roundg g1
          case measure => omega
          case rel => exact ⟨F', todo, m, n, g, off, c, okq, rfl, HN, HX2, ⟨St.lift HS⟩⟩
       ·rw [if_neg cx] at hx; cases hx
  ·rw [if_neg q2] at h; cases h
 ·rw [if_neg q1] at h; cases h

end Go.Proofs.Ytonkicgdgpcneaa.PFnReasons
