-- Written by a program of this session (a turned copy of the kit's printer); Lean checks it.
-- half the depth
import Derived.Test.YtonkicgdgpcneaaPFnExactAddCutsx0
import Derived.Test.YtonkicgdgpcneaaPFnExactAddCutsx6
import Derived.Test.YtonkicgdgpcneaaPFnExactAddCutsx8
namespace Go.Proofs.Ytonkicgdgpcneaa.PFnExactAddCuts
open Go.RowKit Go.Proofs.YtonkicgdgpcneaaW.PrintWords Go.Proofs.YtonkicgdgpcneaaW.PrintLast Go.Proofs.YtonkicgdgpcneaaW.PrintMore
attribute [local go_sem] max2_int min2_int max_two min_two max_three min_three max_four min_four   -- for this text's walks alone
set_option linter.unusedVariables false
set_option linter.unusedSimpArgs false

/-! ### impl_CutsOk: function 53 -/
def impl_CutsOk.f (k : Nat) (l0 : List (S63)) (l1_0 : List (List Int)) : Option (Bool) := (impl_DeclsOk.f k l0).bind fun t219 => (if t219 = true then ((impl_cutsOk.f k l0 l1_0).bind fun t220 => (some t220)) else (some false))
set_option maxHeartbeats 8000000 in
set_option maxRecDepth 100000 in
theorem impl_CutsOk.calls (k : Nat) (A0 : Option Addr) (c0 : Nat) (l0 : List (S63)) (A1_0 : Option Addr) (c1_0 : Nat) (l1_0 : List (List Int)) (r : Bool) (w : World) (hr0 : Kd.C k63 w A0 l0.length l0) (hc0 : l0.length ≤ c0) (hr1_0 : Kd.C (Kd.slice 2 (Kd.int .i64)) w A1_0 l1_0.length l1_0) (hc1_0 : l1_0.length ≤ c1_0) (h : impl_CutsOk.f k l0 l1_0 = some r) :
  Calls Try.prog 53 #[.slice A0 l0.length c0, .agg #[.slice A1_0 l1_0.length c1_0]] w fun e w' => e = .returned (.bool r) ∧ Below w.heap.size w w' := by
 have hu44 := Try.underlying44; have HR0 := Aside0.mk hr0; have HC0 := Aside0.mk hc0; clear hr0 hc0; have HR1_0 := Aside0.mk hr1_0; have HC1_0 := Aside0.mk hc1_0; clear hr1_0 hc1_0; have HB := Aside0.mk (Below.refl w.heap.size w); have H : ((impl_DeclsOk.f k l0).bind fun t219 => (if t219 = true then ((impl_cutsOk.f k l0 l1_0).bind fun t220 => (some t220)) else (some false))) = some r := h; clear h; replace H := Option.bind_eq_some_iff.mp H; obtain ⟨t219, A30, H⟩ := H; replace H : (if t219 = true then ((impl_cutsOk.f k l0 l1_0).bind fun t220 => (some t220)) else (some false)) = some r := H; have A3 := Aside0.mk A30; clear A30
 by_cases c4 : t219 = true
 ·subst c4
  have H1 : ((impl_cutsOk.f k l0 l1_0).bind fun t220 => (some t220)) = some r := by rw [if_pos rfl] at H; exact H
  clear H; have H := H1; clear H1; replace H := Option.bind_eq_some_iff.mp H; obtain ⟨t220, A50, H⟩ := H; replace H : (some t220) = some r := H; have A5 := Aside0.mk A50; clear A50; obtain rfl := Option.some.inj H
  go_enter Try.func53, Try.ntmps53
  go_wp2_with (first | ((with_reducible refine gate_dst (N := 3) rfl ?_); refine be 3 #[.slice A1_0 l1_0.length c1_0] 44 ?_; intro gb218 hg w6 hbox hb; have n0_ := Aside0.mk (below_step (bl HB) hb); have n1_ := Aside0.mk (hbox); have n2_ := Aside0.mk (gs HB hg); have n3_ := Aside0.mk (gs HB hg); clear HB; have HB := n0_; have BK218 := n1_; have GW218 := n2_; have GE218 := n3_; clear n0_ n1_ n2_ n3_; clear hb hbox hg) | ((with_reducible refine gate_callee (f := 77) rfl ?_); refine goesL_ (some 6) rfl rfl Try.func77 (by kernel_rfl) rfl #[.slice A0 l0.length c0] rfl ma ?_; (with_reducible refine (impl_DeclsOk.calls k _ _ l0 true _ ?side1 ?side2 A3.out).mono ?_); (case side1 => exact rc HR0 HB); (case side2 => exact HC0.out); rintro e w7 ⟨rfl, hb⟩; refine ⟨_, rfl, ?_⟩; have n0_ := Aside0.mk (blk_below (g := gb218) (o := .cells #[.slice A1_0 l1_0.length c1_0] 44 (0, 0)) (bk BK218) hb); have n1_ := Aside0.mk (below_step (bs HB GE218) hb); clear BK218; clear HB; have BK218 := n0_; have HB := n1_; clear n0_ n1_; (try clear hb); (try clear hb2); (try clear hk); (try clear hi); have hcz8_0 : w7.cell? ⟨gb218, 0, none⟩ = some (.slice A1_0 l1_0.length c1_0) := (blk_cell BK218.out 0).trans rfl; have hfz8_0 := blk_frozen BK218.out 0) | (go_at_call 54; (with_reducible refine (impl_cutsOk.calls k _ _ l0 _ _ l1_0 t220 _ ?side1 ?side2 ?side3 ?side4 A5.out).mono ?_); (case side1 => exact rc HR0 HB); (case side2 => exact HC0.out); (case side3 => exact rc HR1_0 HB); (case side4 => exact HC1_0.out); rintro e w9 ⟨rfl, hb⟩; have n0_ := Aside0.mk (blk_below (g := gb218) (o := .cells #[.slice A1_0 l1_0.length c1_0] 44 (0, 0)) (bk BK218) hb); have n1_ := Aside0.mk (below_step (bs HB GE218) hb); clear BK218; clear HB; have BK218 := n0_; have HB := n1_; clear n0_ n1_; (try clear hb); (try clear hb2); (try clear hk); (try clear hi)))
  go_ret
  exact ⟨by first | rfl | (simp [errW_none, errW_some] <;> rfl) | (simp [*, errW_none, errW_some] <;> rfl), bs HB GE218⟩
 ·replace c4 := Bool.eq_false_iff.mpr c4
  subst c4
  have H1 : (some false) = some r := by rw [if_neg (show ¬ (false = true) by decide)] at H; exact H
  clear H; have H := H1; clear H1; obtain rfl := Option.some.inj H
  go_enter Try.func53, Try.ntmps53
  go_wp2_with (first | ((with_reducible refine gate_dst (N := 3) rfl ?_); refine be 3 #[.slice A1_0 l1_0.length c1_0] 44 ?_; intro gb218 hg w10 hbox hb; have n0_ := Aside0.mk (below_step (bl HB) hb); have n1_ := Aside0.mk (hbox); have n2_ := Aside0.mk (gs HB hg); have n3_ := Aside0.mk (gs HB hg); clear HB; have HB := n0_; have BK218 := n1_; have GW218 := n2_; have GE218 := n3_; clear n0_ n1_ n2_ n3_; clear hb hbox hg) | ((with_reducible refine gate_callee (f := 77) rfl ?_); refine goesL_ (some 6) rfl rfl Try.func77 (by kernel_rfl) rfl #[.slice A0 l0.length c0] rfl ma ?_; (with_reducible refine (impl_DeclsOk.calls k _ _ l0 false _ ?side1 ?side2 A3.out).mono ?_); (case side1 => exact rc HR0 HB); (case side2 => exact HC0.out); rintro e w11 ⟨rfl, hb⟩; refine ⟨_, rfl, ?_⟩; have n0_ := Aside0.mk (blk_below (g := gb218) (o := .cells #[.slice A1_0 l1_0.length c1_0] 44 (0, 0)) (bk BK218) hb); have n1_ := Aside0.mk (below_step (bs HB GE218) hb); clear BK218; clear HB; have BK218 := n0_; have HB := n1_; clear n0_ n1_; (try clear hb); (try clear hb2); (try clear hk); (try clear hi)))
  go_ret
  exact ⟨by first | rfl | (simp [errW_none, errW_some] <;> rfl) | (simp [*, errW_none, errW_some] <;> rfl), bs HB GE218⟩

-- NOT PRINTED: function 78 (slices_Grow_int64_int64)

-- NOT PRINTED: function 55 (slices_Concat_int64_int64)

-- NOT PRINTED: function 115 (cmp_isNaN_int64)

-- NOT PRINTED: function 97 (cmp_Less_int64)

-- NOT PRINTED: function 91 (slices_insertionSortOrdered_int64)

-- NOT PRINTED: function 110 (slices_siftDownOrdered_int64)

-- NOT PRINTED: function 92 (slices_heapSortOrdered_int64)

-- NOT PRINTED: function 100 (bits_Len32)

-- NOT PRINTED: function 101 (bits_Len64)

-- NOT PRINTED: function 80 (bits_Len)

-- NOT PRINTED: function 111 (slices_nextPowerOfTwo)

-- NOT PRINTED: function 112 (slices_xorshift_Next)

-- NOT PRINTED: function 93 (slices_breakPatternsOrdered_int64)

-- NOT PRINTED: function 116 (slices_order2Ordered_int64)

-- NOT PRINTED: function 114 (slices_medianOrdered_int64)

-- NOT PRINTED: function 113 (slices_medianAdjacentOrdered_int64)

-- NOT PRINTED: function 94 (slices_choosePivotOrdered_int64)

-- NOT PRINTED: function 95 (slices_reverseRangeOrdered_int64)

-- NOT PRINTED: function 96 (slices_partialInsertionSortOrdered_int64)

-- NOT PRINTED: function 98 (slices_partitionEqualOrdered_int64)

-- NOT PRINTED: function 99 (slices_partitionOrdered_int64)

-- NOT PRINTED: function 79 (slices_pdqsortOrdered_int64)

-- NOT PRINTED: function 56 (slices_Sort_int64_int64)

-- NOT PRINTED: function 57 (slices_Compact_int64_int64)

/-! ### impl_AddCuts: function 21 -/

theorem put_cells (ys : List Int) (cur : Array Value) (h : ys.length ≤ cur.size) : (Go.Sort.putCells (Value.int .i64) 0 ys.toArray cur).toList.take ys.length = ys.map (Value.int .i64) := by
 apply List.ext_getElem?
 intro j
 by_cases hj : j < ys.length
 ·rw [List.getElem?_take, if_pos hj, List.getElem?_map, List.getElem?_eq_getElem hj, Array.getElem?_toList]
  unfold Go.Sort.putCells
  rw [Array.getElem?_mapIdx, Array.getElem?_eq_getElem (by omega : j < cur.size)]
  simp [hj]
 ·rw [List.getElem?_eq_none (by simp; omega), List.getElem?_eq_none (by simp; omega)]
theorem put_block (W : World) (q g : Nat) (ys : List Int) (cur : Array Value) (e : TypeId) (h : W.heap[g]? = some (.cells cur e (0, 0))) : (Go.Sort.putRow (Value.int .i64) (Go.Sort.ahead W q) g 0 ys.toArray).heap[g]? = some (.cells (Go.Sort.putCells (Value.int .i64) 0 ys.toArray cur) e (0, 0)) := by
 unfold Go.Sort.putRow Go.Sort.mapBlock
 show (W.heap.modify g _)[g]? = _
 rw [Array.getElem?_modify, if_pos rfl, h]
 rfl
theorem put_other (W : World) (q g : Nat) (ys : List Int) (k : Nat) (hk : k ≠ g) : (Go.Sort.putRow (Value.int .i64) (Go.Sort.ahead W q) g 0 ys.toArray).heap[k]? = W.heap[k]? := by
 unfold Go.Sort.putRow Go.Sort.mapBlock
 show (W.heap.modify g _)[k]? = _
 rw [Array.getElem?_modify, if_neg (fun h => hk h.symm)]
/-- A row of ints whose cells are written anew (and the room behind it, too), new blocks behind it: told by the first m of them. -/
theorem put_row {W : World} {base e g n cap : Nat} {ok : Nat → Prop} {xs : List Int} (h : (Kd.int .i64).R e W base ok (.slice (some ⟨g, 0, none⟩) n cap) xs) (ys : List Int) (hy : ys.length = n) (q : Nat) (os : Array Obj) (m : Nat) (hm : m ≤ n) :
  (Kd.int .i64).R e (Go.Sort.grow (Go.Sort.putRow (Value.int .i64) (Go.Sort.ahead W q) g 0 ys.toArray) os) base ok (.slice (some ⟨g, 0, none⟩) m cap) (ys.take m) ∧ W.grownBy (Go.Sort.grow (Go.Sort.putRow (Value.int .i64) (Go.Sort.ahead W q) g 0 ys.toArray) os) (some g) := by
 obtain ⟨hok, inner, ⟨hl, hv⟩, hr⟩ := h
 rcases hv with ⟨hv, _⟩ | ⟨g', cap', cur, hv, hb, hcell, hnc, hcm, hcs, htk⟩
 ·cases hv
 ·injection hv with e1 e2 e3
  injection e1 with e1
  injection e1 with e1 _ _
  subst e1
  subst e3
  subst e2
  have hglt : g < W.heap.size := blk_lt hcell; have hpb := put_block W q g ys cur e hcell
  have hsz : (Go.Sort.putRow (Value.int .i64) (Go.Sort.ahead W q) g 0 ys.toArray).heap.size = W.heap.size := by rw [Go.Sort.size_putRow]; rfl
  have hgr : ∀ k, k < W.heap.size → (Go.Sort.grow (Go.Sort.putRow (Value.int .i64) (Go.Sort.ahead W q) g 0 ys.toArray) os).heap[k]? = (Go.Sort.putRow (Value.int .i64) (Go.Sort.ahead W q) g 0 ys.toArray).heap[k]? := fun k hk => by
   show ((Go.Sort.putRow (Value.int .i64) (Go.Sort.ahead W q) g 0 ys.toArray).heap ++ os)[k]? = _
   rw [Array.getElem?_append_left (by omega)]
  have hcz : cur.size = cap := by rw [hcs]; show cap * 1 = cap; omega
  have hps : (Go.Sort.putCells (Value.int .i64) 0 ys.toArray cur).size = cur.size := by unfold Go.Sort.putCells; simp
  refine ⟨⟨fun k hk => hok k (by simpa [Value.ownBlock] using hk), (ys.take m).map (Value.int .i64), ⟨?_, .inr ⟨g, cap, _, ?_, hb, (hgr g hglt).trans hpb, ?_, hcm, by rw [hps]; exact hcs, ?_⟩⟩, ?_⟩, ?_⟩
  ·show _ = (ys.take m).length * 1
   simp
  ·rw [List.length_take, Nat.min_eq_left (by omega)]
  ·rw [List.length_take]
   omega
  ·have h1 := put_cells ys cur (by omega)
   have h2 := congrArg (List.take m) h1; rw [List.take_take, Nat.min_eq_left (by omega)] at h2
   show (Go.Sort.putCells (Value.int .i64) 0 ys.toArray cur).toList.take ((ys.take m).length * 1) = _
   rw [List.length_take, Nat.min_eq_left (by omega), Nat.mul_one, h2, List.map_take]
  ·refine ⟨by show _ = (ys.take m).length * 1; simp, fun j p hp => ?_⟩
   show ((List.drop (j * 1) _).take 1) = [Value.int .i64 p]
   rw [Nat.mul_one]; have hj : j < (ys.take m).length := (List.getElem?_eq_some_iff.1 hp).1; rw [List.drop_eq_getElem_cons (by simpa using hj)]; have : (ys.take m)[j] = p := (List.getElem?_eq_some_iff.1 hp).2
   simp only [List.getElem_map, this, List.take_succ_cons, List.take_zero]
  ·refine ⟨rfl, rfl, rfl, ?_, fun k hk hne => ?_⟩
   ·show W.heap.size ≤ ((Go.Sort.putRow (Value.int .i64) (Go.Sort.ahead W q) g 0 ys.toArray).heap ++ os).size
    rw [Array.size_append, hsz]
    omega
   ·rw [hgr k hk]
    exact put_other W q g ys k (fun he => hne (by rw [he]))
theorem holds_row {W : World} {base e g n cap : Nat} {ok : Nat → Prop} {xs : List Int} (h : (Kd.int .i64).R e W base ok (.slice (some ⟨g, 0, none⟩) n cap) xs) : Go.Sort.Holds (Value.int .i64) W g 0 xs.toArray := by
 intro j hj
 have hj2 : j < xs.length := by simpa using hj
 have hn := (Kd.R_reads' h).1; obtain ⟨c, hcl, hM, hcc, hfr⟩ := Kd.R_elem h 0 (j : Int) (by omega) (by omega); have hM : c = [Value.int .i64 (xs.getD (j : Int).toNat 0)] := hM
 subst hM
 have h1 := hcc 0 _ rfl; have h2 := hfr 0
 have e2 : (j : Int).toNat * (Kd.int .i64).sz + 0 = 0 + j := by show (j : Int).toNat * 1 + 0 = 0 + j; omega
 rw [e2] at h1 h2; refine ⟨h1.trans ?_, h2⟩; rw [Int.toNat_natCast, List.getD_eq_getElem?_getD, List.getElem?_eq_getElem hj2]
 simp [hj2]
/-- slices.Sort on a row that is owned. -/
theorem sort_row {W : World} {base e g n cap : Nat} {ok : Nat → Prop} {xs : List Int} (h : (Kd.int .i64).R e W base ok (.slice (some ⟨g, 0, none⟩) n cap) xs) (hn : n < 4611686018427387904) :
  Calls Try.prog 56 #[.slice (some ⟨g, 0, none⟩) n cap] W fun e' W' => e' = .returned (.tuple #[]) ∧ (Kd.int .i64).R e W' base ok (.slice (some ⟨g, 0, none⟩) n cap) (xs.mergeSort fun x y => decide (x ≤ y)) ∧ W.grownBy W' (some g) := by
 have hnx := (Kd.R_reads' h).1; have hg : g < W.heap.size := Kd.R_lt h g (by simp [Value.ownBlock])
 have hl : (xs.mergeSort fun x y => decide (x ≤ y)).length = n := by rw [List.length_mergeSort]; exact hnx.symm
 subst hnx
 refine (Try.slices_Sort_int g 0 cap xs W (holds_row h) hg hn).mono ?_; rintro e' W' ⟨rfl, q, os, rfl⟩; obtain ⟨h1, h2⟩ := put_row h (xs.mergeSort fun x y => decide (x ≤ y)) hl q os xs.length (Nat.le_refl _); rw [List.take_of_length_le (by omega)] at h1
 exact ⟨rfl, h1, h2⟩
/-- slices.Compact on a row that is owned. -/
theorem compact_row {W : World} {base e g n cap : Nat} {ok : Nat → Prop} {xs : List Int} (h : (Kd.int .i64).R e W base ok (.slice (some ⟨g, 0, none⟩) n cap) xs) (hn : n < 4611686018427387904) :
  Calls Try.prog 57 #[.slice (some ⟨g, 0, none⟩) n cap] W fun e' W' => e' = .returned (.slice (some ⟨g, 0, none⟩) (Lib.compact xs).length cap) ∧ (Kd.int .i64).R e W' base ok (.slice (some ⟨g, 0, none⟩) (Lib.compact xs).length cap) (Lib.compact xs) ∧ W.grownBy W' (some g) := by
 have hnx := (Kd.R_reads' h).1; have hnc := (Kd.R_reads' h).2.1; have hcl : (Lib.compact xs).length ≤ xs.length := Lib.compact_length_le xs
 subst hnx
 refine (Try.slices_Compact_int g 0 cap xs W (holds_row h) (by omega) hnc).mono ?_; rintro e' W' ⟨rfl, q, rfl⟩; obtain ⟨h1, h2⟩ := put_row h (Lib.compact xs ++ List.replicate (xs.length - (Lib.compact xs).length) 0) (by simp; omega) q #[] (Lib.compact xs).length hcl
 rw [List.take_left, Go.Sort.grow_empty] at h1; rw [Go.Sort.grow_empty] at h2
 exact ⟨rfl, h1, h2⟩
theorem inf2_ : (Try.prog.info? 2).map (fun i => (i.zero, i.size, i.bytes)) = some (some (.int .i64 0), 1, 8) := by kernel_rfl
theorem cutH (W : World) (A : Option Addr) (n c i : Nat) (hi : i ≤ c) : (Instr.slice 26 (.slice A n c) none (some (.int .i64 (i : Int))) none).run Try.prog W = .ok (.slice A i c) W := by
 obtain ⟨i0, hi0, hz⟩ := Option.map_eq_some_iff.1 inf2_
 have hel : Try.prog.elem 26 = 2 := by simp [Program.elem, Try.underlying26]
 have hu : Try.prog.underlying 26 = some (.slice (Try.prog.elem 26)) := by rw [hel]; exact Try.underlying26
 have hs : i0.size = 1 := by simp only [Prod.mk.injEq] at hz; exact hz.2.1
 have ha : (A.map fun x => x.add 0) = A := by cases A <;> simp [Addr.add]
 rw [run_slice_h W 26 A n c hu .i64 (i : Int) (Int.natCast_nonneg _) (by omega), hel]
 simp [sizeOf, typeInfo, hi0, hs, sliced, Result.andThen, ha]
set_option maxHeartbeats 4000000 in
set_option maxRecDepth 100000 in
/-- slices.Grow(nil, n). -/
theorem grow_nil (n : Nat) (hn : n ≤ 10000000) (W : World) : Calls Try.prog 78 #[.slice none 0 0, .int .i64 n] W fun e W' => ∃ v, e = .returned v ∧ (Kd.int .i64).R 2 W' W.heap.size (fun _ => True) v [] ∧ Below W.heap.size W W' := by
 by_cases h0 : n = 0
 ·subst h0
  go_enter Try.func78, Try.ntmps78
  go_wp2
  go_ret
  exact ⟨_, rfl, Kd.R_nil _ _ _ _ _, by repeat (first | exact Below.refl _ _ | apply pw_below_drewN)⟩
 ·obtain ⟨z, hz⟩ : ∃ z : Int, z = (n : Int) := ⟨_, rfl⟩
  have hz0 : decide (z < 0) = false := decide_eq_false (by omega); have hz1 : decide (z > 0) = true := decide_eq_true (by omega); have hz2 : decide (0 < z) = true := decide_eq_true (by omega)
  have hz3 : wrap64 z = z := by unfold wrap64; omega
  have HW : Aside0 (wrap64 z = z) := ⟨hz3⟩; have HZ : Aside0 (0 ≤ z ∧ z ≤ 10000000) := ⟨by omega, by omega⟩; rw [← hz]; clear hz hn h0; have k1 : (Instr.slice 26 (.slice none 0 0) none (some (.int .i64 0)) none).run Try.prog W = .ok (.slice none 0 0) W := cutH W none 0 0 0 (Nat.le_refl _); have hu3 := Try.underlying3
  go_enter Try.func78, Try.ntmps78
  go_wp2_with (first | ((with_reducible refine gate_builtin (b := .append) (xs := #[.tmp 20, .tmp 21]) rfl ?_); at_builtin; (refine Kd.R_append_zeros (Kd.int .i64) (w0 := W) W.heap.size rfl (.tmp 20) (.tmp 21) 26 3 2 (.int .i64 0) 8 rfl Try.underlying26 Try.underlying3 inf2_ rfl (by decide) (by omega) (.slice none 0 0) ([] : List Int) (0 : Int) (wrap64 z) (fun _ => True) rfl rfl ?aZ (fun _ _ => trivial) (Kd.R_nil _ _ _ _ _) (by rw [HW.out]; exact HZ.out.1) ?aB (Nat.le_refl _) ?aL ?_; (case aZ => exact rfl); (case aB => exact Below.refl _ _); (case aL => (have h_ := HZ.out; rw [HW.out]; simp only [List.length_nil]; omega)); intro v1 w1 ho hb hg hat; obtain ⟨A1, c1, rfl⟩ := Kd.R_slice ho; have k2 : (∀ nn : Nat, (Instr.slice 26 (.slice A1 nn c1) none (some (.int .i64 0)) none).run Try.prog w1 = .ok (.slice A1 0 c1) w1) := (fun nn => cutH w1 A1 nn c1 0 (Nat.zero_le _)); have HO := Aside0.mk ho; have HB := Aside0.mk hb; clear ho hb hg hat)))
  go_ret
  exact ⟨_, rfl, Kd.R_take (xs := [] ++ List.replicate (wrap64 z).toNat 0) (by repeat (first | exact HO.out | apply Kd.R_drewN)) (Nat.zero_le _), by repeat (first | exact HB.out | apply pw_below_drewN)⟩
theorem elemR {w : World} {A0 : Option Addr} {l0 : List (List Int)} (h : Kd.C (Kd.slice 2 (Kd.int .i64)) w A0 l0.length l0) (k : Nat) (hk : k < l0.length) : ∃ ad A c, A0 = some ad ∧ w.cell? (ad.add k) = some (.slice A (l0.getD k []).length c) ∧ (l0.getD k []).length ≤ c ∧ (Kd.int .i64).C w A (l0.getD k []).length (l0.getD k []) := by
 obtain ⟨ad, cs, e, _, ⟨A, c, rfl, h1, h2⟩, hc⟩ := Kd.C_get h ([] : List Int) (k : Int) (by omega) (by omega); have h0 := hc 0 _ rfl
 have e2 : (k : Int).toNat * (Kd.slice 2 (Kd.int .i64)).sz + 0 = k := by show (k : Int).toNat * 1 + 0 = k; omega
 rw [e2] at h0; rw [Int.toNat_natCast] at h0 h1 h2
 exact ⟨ad, A, c, e, h0, h1, h2⟩
theorem flat_take (l : List (List Int)) (i : Nat) (h : i < l.length) : (l.take (i + 1)).flatten = (l.take i).flatten ++ l.getD i [] := by
 rw [← List.take_append_getElem h, List.flatten_append, List.getD_eq_getElem?_getD, List.getElem?_eq_getElem h]
 simp
theorem flat_le (l : List (List Int)) (i : Nat) : (l.take i).flatten.length ≤ l.flatten.length := by
 have : l.flatten = (l.take i).flatten ++ (l.drop i).flatten := by rw [← List.flatten_append, List.take_append_drop]
 rw [this, List.length_append]
 omega
set_option maxHeartbeats 4000000 in
set_option maxRecDepth 100000 in
/-- slices.Concat. -/
theorem concat_rows (l : List (List Int)) (A : Option Addr) (c : Nat) (W : World) (hr : Kd.C (Kd.slice 2 (Kd.int .i64)) W A l.length l) (hs : l.flatten.length ≤ 10000000) :
  Calls Try.prog 55 #[.slice A l.length c] W fun e W' => ∃ v, e = .returned v ∧ (Kd.int .i64).R 2 W' W.heap.size (fun _ => True) v l.flatten ∧ Below W.heap.size W W' := by
 have hmax := Kd.C_max hr; have HR := Aside0.mk hr; have HS := Aside0.mk hs; clear hr hs
 go_enter Try.func55, Try.ntmps55
 go_wp2
 go_loopg [3, 11] l.length (fun gg s3 s11 wr => ∃ (i t : Nat), i ≤ l.length ∧ l.length - i ≤ gg ∧ s3 = .int .i64 t ∧ s11 = .int .i64 i ∧ Aside0 (t = (l.take i).flatten.length) ∧ Aside0 (Below W.heap.size W wr))
 case atStart => exact ⟨0, 0, Nat.zero_le _, by omega, rfl, rfl, ⟨by simp⟩, ⟨by repeat (first | exact Below.refl _ _ | apply pw_below_drewN)⟩⟩
 case round =>
  obtain ⟨i, t, hi, hg, rfl, rfl, HT, HB⟩ := hrel
  by_cases hlt : i < l.length
  ·have hltz : (i : Int) < (l.length : Int) := by omega
   obtain ⟨ad, A1, c1, e0, hx0, _, _⟩ := elemR HR.out i hlt
   cases e0
   replace hx0 := (HB.out.cell (World.block_lt_of_cell? W _ hx0)).trans hx0; obtain ⟨n, hn⟩ : ∃ n, n = (l.getD i []).length := ⟨_, rfl⟩; rw [← hn] at hx0
   have ht2 : t + n = (l.take (i + 1)).flatten.length := by rw [flat_take l i hlt, List.length_append, ← HT.out, ← hn]
   have hb := flat_le l (i + 1)
   have hle : t + n ≤ 10000000 := by rw [ht2]; exact Nat.le_trans hb HS.out
   have HT2 : Aside0 (t + n = (l.take (i + 1)).flatten.length) := ⟨ht2⟩
   have hsum : wrap64 ((t : Int) + (n : Int)) = ((t + n : Nat) : Int) := by unfold wrap64; omega
   have hneg : decide (((t + n : Nat) : Int) < 0) = false := decide_eq_false (Int.not_lt.2 (Int.natCast_nonneg _)); clear ht2 hb hn
   go_wp2
   go_roundg (l.length - (i + 1))
   case measure => omega
   case rel => exact ⟨i + 1, t + n, by omega, by omega, by first | rfl | go_num, by go_num, HT2, ⟨by repeat (first | exact HB.out | apply pw_below_drewN)⟩⟩
  ·have hltz : ¬ (i : Int) < (l.length : Int) := by omega
   obtain rfl : i = l.length := by omega
   have ht : t = l.flatten.length := by have := HT.out; rw [List.take_length] at this; exact this
   have htl : t ≤ 10000000 := by rw [ht]; exact HS.out
   have HTL := Aside0.mk htl; clear ht htl HT
   go_wp2_with (first | ((with_reducible refine gate_dst (N := 24) rfl ?_); refine goesL_ (some 24) rfl rfl Try.func78 (by kernel_rfl) rfl #[.slice none 0 0, .int .i64 t] rfl ma ?_; refine (grow_nil t HTL.out _).mono ?_; rintro e w1 ⟨v1, rfl, hr1, hb1⟩; obtain ⟨A1, c1, rfl⟩ := Kd.R_slice hr1; have HB1 : Aside0 (Below W.heap.size W w1) := ⟨below_step (by repeat (first | exact HB.out | apply pw_below_drewN)) hb1⟩; have HO1 : Aside0 ((Kd.int .i64).R 2 w1 W.heap.size (fun _ => True) (.slice A1 ([] : List Int).length c1) []) := ⟨Kd.R_lower hr1 (by have := HB.out.size; first | exact this | (simpa using this))⟩; clear hr1 hb1; refine ⟨_, rfl, ?_⟩))
   go_loopg [6, 27] l.length (fun gg s6 s27 wr => ∃ (i : Nat) (acc : List Int) (A6 : Option Addr) (c6 : Nat), i ≤ l.length ∧ l.length - i ≤ gg ∧ s6 = .slice A6 acc.length c6 ∧ s27 = .int .i64 i ∧ Aside0 (acc = (l.take i).flatten) ∧ Aside0 ((Kd.int .i64).R 2 wr W.heap.size (fun _ => True) (.slice A6 acc.length c6) acc) ∧ Aside0 (Below W.heap.size W wr))
   case atStart => exact ⟨0, [], A1, c1, Nat.zero_le _, by omega, by first | rfl | (simp; done), rfl, ⟨by simp⟩, ⟨by repeat (first | exact HO1.out | apply Kd.R_drewN)⟩, ⟨by repeat (first | exact HB1.out | apply pw_below_drewN)⟩⟩
   case round =>
    clear HB1 HO1; obtain ⟨i, acc, A6, c6, hi, hg, rfl, rfl, HT, HO, HB2⟩ := hrel
    by_cases hlt : i < l.length
    ·have hltz : (i : Int) < (l.length : Int) := by omega
     obtain ⟨ad, A1', c1', e0, hx0, hl0, hC0⟩ := elemR HR.out i hlt
     cases e0
     replace hx0 := (HB2.out.cell (World.block_lt_of_cell? W _ hx0)).trans hx0; obtain ⟨ys, hys⟩ : ∃ ys, ys = l.getD i [] := ⟨_, rfl⟩; rw [← hys] at hx0 hC0
     have hnx : acc ++ ys = (l.take (i + 1)).flatten := by rw [flat_take l i hlt, ← HT.out, ← hys]
     have hb := flat_le l (i + 1)
     have hle : acc.length + ys.length ≤ 10000000 := by rw [← hnx, List.length_append] at hb; exact Nat.le_trans hb HS.out
     have HLE := Aside0.mk hle; have HNX := Aside0.mk hnx; have HC0 := Aside0.mk (Kd.C_below hC0 HB2.out); clear hnx hb hle hC0 hys hl0
     go_wp2_with (first | ((with_reducible refine gate_builtin (b := .append) (xs := #[.tmp 31, .tmp 32]) rfl ?_); at_builtin; (refine Kd.R_append_rows (Kd.int .i64) (Rr := (Kd.int .i64).K wr) (w0 := W) W.heap.size rfl (.tmp 31) (.tmp 32) 26 2 (.int .i64 0) 8 rfl Try.underlying26 inf2_ rfl (by decide) (by omega) (.slice A6 acc.length c6) acc ys A1' ys.length c1' (fun _ => True) (fun _ => False) rfl rfl ?aO ?aR (fun x cs h => h) (fun _ h => h.elim) (fun _ _ => trivial) ?aB ?aS ?aL ?_; (case aO => repeat (first | exact HO.out | apply Kd.R_drewN)); (case aR => exact HC0.out); (case aB => repeat (first | exact HB2.out | apply pw_below_drewN)); (case aS => exact HB2.out.size); (case aL => (have h_ := HLE.out; omega)); intro v3 w3 ho hb3 hg3 hat3; obtain ⟨A3, c3, rfl⟩ := Kd.R_slice ho; have HO3 := Aside0.mk ho; have HB3 := Aside0.mk hb3; clear ho hb3 hg3 hat3)))
     go_roundg (l.length - (i + 1))
     case measure => omega
     case rel => exact ⟨i + 1, acc ++ ys, A3, c3, by omega, by omega, by first | rfl | (simp; done), by go_num, HNX, ⟨by repeat (first | exact HO3.out | apply Kd.R_drewN)⟩, ⟨by repeat (first | exact HB3.out | apply pw_below_drewN)⟩⟩
    ·have hltz : ¬ (i : Int) < (l.length : Int) := by omega
     obtain rfl : i = l.length := by omega
     have ha : acc = l.flatten := by have := HT.out; rw [List.take_length] at this; exact this
     have HA := Aside0.mk ha; clear ha HT
     go_wp2
     go_ret
     exact ⟨_, rfl, by rw [← HA.out]; repeat (first | exact HO.out | apply Kd.R_drewN), by repeat (first | exact HB2.out | apply pw_below_drewN)⟩
theorem sort_any {W : World} {base cp : Nat} {Ap : Option Addr} {Z : List Int} (h : (Kd.int .i64).R 2 W base (fun _ => True) (.slice Ap Z.length cp) Z) (hn : Z.length ≤ 10000000) :
  Calls Try.prog 56 #[.slice Ap Z.length cp] W fun e W' => e = .returned (.tuple #[]) ∧ (Kd.int .i64).R 2 W' base (fun _ => True) (.slice Ap Z.length cp) (Z.mergeSort fun x y => decide (x ≤ y)) ∧ W.grownBy W' (Value.slice Ap Z.length cp).ownBlock := by
 by_cases c : Z.length = 0
 ·obtain rfl := List.eq_nil_of_length_eq_zero c
  refine (Try.slices_Sort_int_none Ap cp W).mono ?_; rintro e W' ⟨rfl, rfl⟩
  exact ⟨rfl, by simpa using h, World.grownBy.refl _ _⟩
 ·obtain ⟨g, cap, e1, _, _, _⟩ := Kd.R_form h (by omega)
  injection e1 with e1 _ e3
  subst e1
  subst e3
  refine (sort_row h (by omega)).mono ?_; rintro e W' ⟨rfl, h1, h2⟩
  exact ⟨rfl, h1, by simpa [Value.ownBlock] using h2⟩
theorem compact_any {W : World} {base cp : Nat} {Ap : Option Addr} {Z : List Int} (h : (Kd.int .i64).R 2 W base (fun _ => True) (.slice Ap Z.length cp) Z) (hn : Z.length ≤ 10000000) :
  Calls Try.prog 57 #[.slice Ap Z.length cp] W fun e W' => e = .returned (.slice Ap (Lib.compact Z).length cp) ∧ (Kd.int .i64).R 2 W' base (fun _ => True) (.slice Ap (Lib.compact Z).length cp) (Lib.compact Z) ∧ W.grownBy W' (Value.slice Ap Z.length cp).ownBlock := by
 by_cases c : Z.length = 0
 ·obtain rfl := List.eq_nil_of_length_eq_zero c
  refine (Try.slices_Compact_int_empty Ap cp W).mono ?_; rintro e W' ⟨rfl, rfl⟩
  exact ⟨rfl, h, World.grownBy.refl _ _⟩
 ·obtain ⟨g, cap, e1, _, _, _⟩ := Kd.R_form h (by omega)
  injection e1 with e1 _ e3
  subst e1
  subst e3
  refine (compact_row h (by omega)).mono ?_; rintro e W' ⟨rfl, h1, h2⟩
  exact ⟨rfl, h1, by simpa [Value.ownBlock] using h2⟩
theorem sort_n {W : World} {base n cp : Nat} {Ap : Option Addr} {Z : List Int} (h : (Kd.int .i64).R 2 W base (fun _ => True) (.slice Ap n cp) Z) (hn : n ≤ 10000000) :
  Calls Try.prog 56 #[.slice Ap n cp] W fun e W' => e = .returned (.tuple #[]) ∧ (Kd.int .i64).R 2 W' base (fun _ => True) (.slice Ap n cp) (Z.mergeSort fun x y => decide (x ≤ y)) ∧ W.grownBy W' (Value.slice Ap n cp).ownBlock := by
 have e := (Kd.R_reads' h).1
 subst e
 exact sort_any h hn
theorem compact_n {W : World} {base n cp : Nat} {Ap : Option Addr} {Z : List Int} (h : (Kd.int .i64).R 2 W base (fun _ => True) (.slice Ap n cp) Z) (hn : n ≤ 10000000) :
  Calls Try.prog 57 #[.slice Ap n cp] W fun e W' => e = .returned (.slice Ap (Lib.compact Z).length cp) ∧ (Kd.int .i64).R 2 W' base (fun _ => True) (.slice Ap (Lib.compact Z).length cp) (Lib.compact Z) ∧ W.grownBy W' (Value.slice Ap n cp).ownBlock := by
 have e := (Kd.R_reads' h).1
 subst e
 exact compact_any h hn
theorem row_below {w W W' : World} {v : Value} {Z : List Int} (hB : Below w.heap.size w W) (h : (Kd.int .i64).R 2 W w.heap.size (fun _ => True) v Z) (hg : W.grownBy W' v.ownBlock) : Below w.heap.size w W' := pw_below_grown hB v.ownBlock hB.size hg (fun k hk => Kd.R_base h k hk)
theorem inf26_ : (Try.prog.info? 26).map (fun i => (i.zero, i.size, i.bytes)) = some (some (.slice none 0 0), 1, 24) := by kernel_rfl
theorem row_form {w : World} {base : Nat} {ok : Nat → Prop} {v : Value} {xs : List (List Int)} {b : Nat} (h : Kd.S (Kd.slice 2 (Kd.int .i64)) 26 w base ok v xs) (hb : v.ownBlock = some b) : ∃ g c, v = .slice (some ⟨g, 0, none⟩) xs.length c := by
 obtain ⟨inner, _, ⟨rfl, _⟩ | ⟨g, cap, cur, rfl, _⟩⟩ := Kd.S_own h
 ·cases hb
 ·exact ⟨g, cap, rfl⟩
def impl_AddCuts.g (s : List (List Int)) (r : Int) : List Int := s.getD r.toNat []
def impl_AddCuts.l0 : Nat → List (List Int) → List (List Int) → List (List Int) → Int → Int → Option (List (List Int))
 | 0, _, _, _, _, _ => none
 | k + 1, a, b, out, v, n => if v < n then (if 0 ≤ v then (if v < (a.length : Int) then (if v < (b.length : Int) then (if (impl_AddCuts.g a v ++ impl_AddCuts.g b v).length ≤ 10000000 then (if v < (out.length : Int) then impl_AddCuts.l0 k a b (out.set v.toNat (Lib.compact ((impl_AddCuts.g a v ++ impl_AddCuts.g b v).mergeSort fun x y => decide (x ≤ y)))) (wrap64 (v + 1)) n else none) else none) else none) else none) else none) else some out
def impl_AddCuts.f (k : Nat) (l0 : List S63) (l1_0 : List (List Int)) (l2_0 : List (List Int)) : Option (List (List Int) × Bool) := (impl_CutsOk.f k l0 l1_0).bind fun t => if t = true then ((impl_cutsOk.f k l0 l2_0).bind fun t2 => if t2 = true then (if l0.length ≤ 5864062014805 then ((impl_AddCuts.l0 k l1_0 l2_0 (List.replicate l0.length []) 0 (l0.length : Int)).bind fun o => some (o, true)) else none) else some ([], false)) else some ([], false)
def impl_AddCuts.T7 : Bool × List (List Nat × List Nat) := (true, [([], []), ([0], [0]), ([], []), ([1, 2], [1, 2]), ([3], [3]), ([], []), ([5], [5]), ([], []), ([6, 7], [6, 7]), ([8], [8]), ([4, 9], [4, 9]), ([10], [10]), ([11, 11, 0, 1, 2, 3, 4, 5, 6, 7, 8, 9, 10, 11], [11])])
def impl_AddCuts.B7 : List Nat := [0, 1, 0, 7, 15, 0, 32, 0, 224, 480, 1023, 2047, 4095]
theorem impl_AddCuts.tab7 : rtab .any (opsOf Try.f21 7) = impl_AddCuts.T7 := by kernel_rfl
theorem impl_AddCuts.bits7 : waitsOk impl_AddCuts.T7.2 impl_AddCuts.B7 = true := by kernel_rfl
def impl_AddCuts.T9 : Bool × List (List Nat × List Nat) := (true, [([], []), ([0], [0]), ([], []), ([], []), ([3], [3]), ([1, 2, 0, 1, 2, 3, 4], [1, 2]), ([5, 4, 4, 0, 1, 2, 3, 4], [4, 5])])
def impl_AddCuts.B9 : List Nat := [0, 1, 0, 0, 8, 31, 63]
theorem impl_AddCuts.tab9 : rtab .any (opsOf Try.f21 9) = impl_AddCuts.T9 := by kernel_rfl
theorem impl_AddCuts.bits9 : waitsOk impl_AddCuts.T9.2 impl_AddCuts.B9 = true := by kernel_rfl
/-- A literal of two rows, read. -/
theorem two_rows {W' : World} {Aa Ab : Option Addr} {ca cb : Nat} {xs ys : List Int} {g : Nat} (hb : W'.heap[g]? = some (.cells #[.slice Aa xs.length ca, .slice Ab ys.length cb] 26 (0, 0))) (ha : (Kd.int .i64).C W' Aa xs.length xs) (hla : xs.length ≤ ca) (hbb : (Kd.int .i64).C W' Ab ys.length ys) (hlb : ys.length ≤ cb) :
  Kd.C (Kd.slice 2 (Kd.int .i64)) W' (some ⟨g, 0, none⟩) 2 [xs, ys] := by
 refine ⟨rfl, by decide, fun _ => ⟨_, rfl, fun j p hp => ?_⟩⟩
 match j, hp with
 | 0, hp =>
  simp only [List.getElem?_cons_zero, Option.some.injEq] at hp
  subst hp
  refine ⟨[.slice Aa xs.length ca], rfl, ⟨Aa, ca, rfl, hla, ha⟩, fun i u hu => ?_⟩
  match i, hu with
  | 0, hu =>
   simp only [List.getElem?_cons_zero, Option.some.injEq] at hu
   subst hu
   exact (blk_cell hb 0).trans rfl
 | 1, hp =>
  simp only [List.getElem?_cons_succ, List.getElem?_cons_zero, Option.some.injEq] at hp
  subst hp
  refine ⟨[.slice Ab ys.length cb], rfl, ⟨Ab, cb, rfl, hlb, hbb⟩, fun i u hu => ?_⟩
  match i, hu with
  | 0, hu =>
   simp only [List.getElem?_cons_zero, Option.some.injEq] at hu
   subst hu
   exact (blk_cell hb 1).trans rfl
set_option maxHeartbeats 8000000 in
set_option maxRecDepth 100000 in
theorem impl_AddCuts.calls (k : Nat) (A0 : Option Addr) (c0 : Nat) (l0 : List (S63)) (A1_0 : Option Addr) (c1_0 : Nat) (l1_0 : List (List Int)) (A2_0 : Option Addr) (c2_0 : Nat) (l2_0 : List (List Int)) (r1 : List (List Int)) (r2 : Bool) (w : World) (hr0 : Kd.C k63 w A0 l0.length l0) (hc0 : l0.length ≤ c0) (hr1_0 : Kd.C (Kd.slice 2 (Kd.int .i64)) w A1_0 l1_0.length l1_0) (hc1_0 : l1_0.length ≤ c1_0) (hr2_0 : Kd.C (Kd.slice 2 (Kd.int .i64)) w A2_0 l2_0.length l2_0) (hc2_0 : l2_0.length ≤ c2_0) (h : impl_AddCuts.f k l0 l1_0 l2_0 = some (r1, r2)) :
  Calls Try.prog 21 #[.slice A0 l0.length c0, .agg #[.slice A1_0 l1_0.length c1_0], .agg #[.slice A2_0 l2_0.length c2_0]] w fun e w' => ∃ v0_ : Value, e = .returned (.tuple #[.agg #[v0_], .bool r2]) ∧ Kd.S (Kd.slice 2 (Kd.int .i64)) 26 w' w.heap.size (fun _ => True) v0_ r1 ∧ Below w.heap.size w w' := by
 have HR0 := Aside0.mk hr0; have HC0 := Aside0.mk hc0; have HR1 := Aside0.mk hr1_0; have HC1 := Aside0.mk hc1_0; have HR2 := Aside0.mk hr2_0; have HC2 := Aside0.mk hc2_0; clear hr0 hc0 hr1_0 hc1_0 hr2_0 hc2_0; have hu44 := Try.underlying44; have HS := St.nil w; obtain ⟨t, A1_, h⟩ := Option.bind_eq_some_iff.1 h; have H1 := Aside0.mk A1_; clear A1_
 cases t with
 | false =>
  replace h : some (([] : List (List Int)), false) = some (r1, r2) := h
  cases h
  go_enter Try.func21, Try.ntmps21
  go_wp2_with (first | ((with_reducible refine gate_dst (N := 4) rfl ?_); refine be 4 #[.slice A1_0 l1_0.length c1_0] 44 ?_; intro g4 hg4 w1 hx4 hb4; have HS1 := St.box HS hg4 hx4 hb4; clear hg4 hx4 hb4) | ((with_reducible refine gate_dst (N := 5) rfl ?_); refine be 5 #[.slice A2_0 l2_0.length c2_0] 44 ?_; intro g5 hg5 w2 hx5 hb5; have HS2 := St.box HS1 hg5 hx5 hb5; clear hg5 hx5 hb5) | ((with_reducible refine gate_dst (N := 6) rfl ?_); refine be 6 #[.slice none 0 0] 44 ?_; intro g6 hg6 w3 hx6 hb6; have HS3 := St.box HS2 hg6 hx6 hb6; clear hg6 hx6 hb6; have hc4 : w3.cell? ⟨g4, 0, none⟩ = some (.slice A1_0 l1_0.length c1_0) := (blk_cell (St.getB HS3 2 rfl ⟨0, rfl⟩) 0).trans rfl; have hc5 : w3.cell? ⟨g5, 0, none⟩ = some (.slice A2_0 l2_0.length c2_0) := (blk_cell (St.getB HS3 1 rfl ⟨0, rfl⟩) 0).trans rfl) | ((with_reducible refine gate_dst (N := 13) rfl ?_); refine goesL_ (some 13) rfl rfl Try.func53 (by kernel_rfl) rfl #[.slice A0 l0.length c0, .agg #[.slice A1_0 l1_0.length c1_0]] rfl ma ?_; refine (impl_CutsOk.calls k A0 c0 l0 A1_0 c1_0 l1_0 false _ (Kd.C_below HR0.out (St.lift HS3).below) HC0.out (Kd.C_below HR1.out (St.lift HS3).below) HC1.out H1.out).mono ?_; rintro e w4 ⟨rfl, hb⟩; have HS4 := St.call HS3 hb; clear hb; have hc44 : w4.cell? ⟨g4, 0, none⟩ = some (.slice A1_0 l1_0.length c1_0) := (blk_cell (St.getB HS4 2 rfl ⟨0, rfl⟩) 0).trans rfl; have hc45 : w4.cell? ⟨g5, 0, none⟩ = some (.slice A2_0 l2_0.length c2_0) := (blk_cell (St.getB HS4 1 rfl ⟨0, rfl⟩) 0).trans rfl; have hc46 : w4.cell? ⟨g6, 0, none⟩ = some (.slice none 0 0) := (blk_cell (St.getB HS4 0 rfl ⟨0, rfl⟩) 0).trans rfl; have hf46 : w4.frozen? ⟨g6, 0, none⟩ = false := blk_frozen (St.getB HS4 0 rfl ⟨0, rfl⟩) 0; refine ⟨_, rfl, ?_⟩))
  refine bodyPost_ret (results_ct rfl _ _ g6 44 #[.slice none 0 0] (0, 0) _ rfl (blk_put (cs := #[.slice none 0 0]) (St.getB HS4 0 rfl ⟨0, rfl⟩) 0 _ rfl) hu44 rfl (by kernel_rfl)) rfl ?_
  exact ⟨_, rfl, Kd.S_nil _ _ _ _ _, below_set HS4.out.below (St.lowB HS4 0 rfl)⟩
 | true =>
  replace h : ((impl_cutsOk.f k l0 l2_0).bind fun t2 => if t2 = true then (if l0.length ≤ 5864062014805 then ((impl_AddCuts.l0 k l1_0 l2_0 (List.replicate l0.length []) 0 (l0.length : Int)).bind fun o => some (o, true)) else none) else some ([], false)) = some (r1, r2) := h; obtain ⟨t2, A2_, h⟩ := Option.bind_eq_some_iff.1 h; have H2 := Aside0.mk A2_; clear A2_
  cases t2 with
  | false =>
   replace h : some (([] : List (List Int)), false) = some (r1, r2) := h
   cases h
   go_enter Try.func21, Try.ntmps21
   go_wp2_with (first | ((with_reducible refine gate_dst (N := 4) rfl ?_); refine be 4 #[.slice A1_0 l1_0.length c1_0] 44 ?_; intro g4 hg4 w1 hx4 hb4; have HS1 := St.box HS hg4 hx4 hb4; clear hg4 hx4 hb4) | ((with_reducible refine gate_dst (N := 5) rfl ?_); refine be 5 #[.slice A2_0 l2_0.length c2_0] 44 ?_; intro g5 hg5 w2 hx5 hb5; have HS2 := St.box HS1 hg5 hx5 hb5; clear hg5 hx5 hb5) | ((with_reducible refine gate_dst (N := 6) rfl ?_); refine be 6 #[.slice none 0 0] 44 ?_; intro g6 hg6 w3 hx6 hb6; have HS3 := St.box HS2 hg6 hx6 hb6; clear hg6 hx6 hb6; have hc4 : w3.cell? ⟨g4, 0, none⟩ = some (.slice A1_0 l1_0.length c1_0) := (blk_cell (St.getB HS3 2 rfl ⟨0, rfl⟩) 0).trans rfl; have hc5 : w3.cell? ⟨g5, 0, none⟩ = some (.slice A2_0 l2_0.length c2_0) := (blk_cell (St.getB HS3 1 rfl ⟨0, rfl⟩) 0).trans rfl) | ((with_reducible refine gate_dst (N := 13) rfl ?_); refine goesL_ (some 13) rfl rfl Try.func53 (by kernel_rfl) rfl #[.slice A0 l0.length c0, .agg #[.slice A1_0 l1_0.length c1_0]] rfl ma ?_; refine (impl_CutsOk.calls k A0 c0 l0 A1_0 c1_0 l1_0 true _ (Kd.C_below HR0.out (St.lift HS3).below) HC0.out (Kd.C_below HR1.out (St.lift HS3).below) HC1.out H1.out).mono ?_; rintro e w4 ⟨rfl, hb⟩; have HS4 := St.call HS3 hb; clear hb; have hc44 : w4.cell? ⟨g4, 0, none⟩ = some (.slice A1_0 l1_0.length c1_0) := (blk_cell (St.getB HS4 2 rfl ⟨0, rfl⟩) 0).trans rfl; have hc45 : w4.cell? ⟨g5, 0, none⟩ = some (.slice A2_0 l2_0.length c2_0) := (blk_cell (St.getB HS4 1 rfl ⟨0, rfl⟩) 0).trans rfl; have hc46 : w4.cell? ⟨g6, 0, none⟩ = some (.slice none 0 0) := (blk_cell (St.getB HS4 0 rfl ⟨0, rfl⟩) 0).trans rfl; have hf46 : w4.frozen? ⟨g6, 0, none⟩ = false := blk_frozen (St.getB HS4 0 rfl ⟨0, rfl⟩) 0; refine ⟨_, rfl, ?_⟩) | (go_at_call 54; (with_reducible refine (impl_cutsOk.calls k A0 c0 l0 A2_0 c2_0 l2_0 false _ ?q1 ?q2 ?q3 ?q4 H2.out).mono ?_); (case q1 => exact Kd.C_below HR0.out (St.lift HS4).below); (case q2 => exact HC0.out); (case q3 => exact Kd.C_below HR2.out (St.lift HS4).below); (case q4 => exact HC2.out); rintro e w5 ⟨rfl, hb⟩; have HS5 := St.call HS4 hb; clear hb; have hc54 : w5.cell? ⟨g4, 0, none⟩ = some (.slice A1_0 l1_0.length c1_0) := (blk_cell (St.getB HS5 2 rfl ⟨0, rfl⟩) 0).trans rfl; have hc55 : w5.cell? ⟨g5, 0, none⟩ = some (.slice A2_0 l2_0.length c2_0) := (blk_cell (St.getB HS5 1 rfl ⟨0, rfl⟩) 0).trans rfl; have hc56 : w5.cell? ⟨g6, 0, none⟩ = some (.slice none 0 0) := (blk_cell (St.getB HS5 0 rfl ⟨0, rfl⟩) 0).trans rfl; have hf56 : w5.frozen? ⟨g6, 0, none⟩ = false := blk_frozen (St.getB HS5 0 rfl ⟨0, rfl⟩) 0))
   refine bodyPost_ret (results_ct rfl _ _ g6 44 #[.slice none 0 0] (0, 0) _ rfl (blk_put (cs := #[.slice none 0 0]) (St.getB HS5 0 rfl ⟨0, rfl⟩) 0 _ rfl) hu44 rfl (by kernel_rfl)) rfl ?_
   exact ⟨_, rfl, Kd.S_nil _ _ _ _ _, below_set HS5.out.below (St.lowB HS5 0 rfl)⟩
  | true =>
   replace h : (if l0.length ≤ 5864062014805 then ((impl_AddCuts.l0 k l1_0 l2_0 (List.replicate l0.length []) 0 (l0.length : Int)).bind fun o => some (o, true)) else none) = some (r1, r2) := h
   by_cases hl : l0.length ≤ 5864062014805
   ·rw [if_pos hl] at h
    obtain ⟨o, A3_, h⟩ := Option.bind_eq_some_iff.1 h; obtain ⟨h1_, h2_⟩ := Prod.mk.inj (Option.some.inj h)
    subst h1_ h2_
    clear h; obtain ⟨S0, hS0⟩ : ∃ S0, S0 = List.replicate ((l0.length : Int)).toNat ([] : List Int) := ⟨_, rfl⟩; have HX0 : Aside0 (impl_AddCuts.l0 k l1_0 l2_0 S0 0 (l0.length : Int) = some o) := ⟨by rw [hS0, Int.toNat_natCast]; exact A3_⟩
    have HS0 := Aside0.mk hS0; have HLE := Aside0.mk hl; clear A3_ hS0 hl
    go_enter Try.func21, Try.ntmps21
    go_wp2_with (first | ((with_reducible refine gate_dst (N := 4) rfl ?_); refine be 4 #[.slice A1_0 l1_0.length c1_0] 44 ?_; intro g4 hg4 w1 hx4 hb4; have HS1 := St.box HS hg4 hx4 hb4; clear hg4 hx4 hb4) | ((with_reducible refine gate_dst (N := 5) rfl ?_); refine be 5 #[.slice A2_0 l2_0.length c2_0] 44 ?_; intro g5 hg5 w2 hx5 hb5; have HS2 := St.box HS1 hg5 hx5 hb5; clear hg5 hx5 hb5) | ((with_reducible refine gate_dst (N := 6) rfl ?_); refine be 6 #[.slice none 0 0] 44 ?_; intro g6 hg6 w3 hx6 hb6; have HS3 := St.box HS2 hg6 hx6 hb6; clear hg6 hx6 hb6; have hc4 : w3.cell? ⟨g4, 0, none⟩ = some (.slice A1_0 l1_0.length c1_0) := (blk_cell (St.getB HS3 2 rfl ⟨0, rfl⟩) 0).trans rfl; have hc5 : w3.cell? ⟨g5, 0, none⟩ = some (.slice A2_0 l2_0.length c2_0) := (blk_cell (St.getB HS3 1 rfl ⟨0, rfl⟩) 0).trans rfl) | ((with_reducible refine gate_dst (N := 13) rfl ?_); refine goesL_ (some 13) rfl rfl Try.func53 (by kernel_rfl) rfl #[.slice A0 l0.length c0, .agg #[.slice A1_0 l1_0.length c1_0]] rfl ma ?_; refine (impl_CutsOk.calls k A0 c0 l0 A1_0 c1_0 l1_0 true _ (Kd.C_below HR0.out (St.lift HS3).below) HC0.out (Kd.C_below HR1.out (St.lift HS3).below) HC1.out H1.out).mono ?_; rintro e w4 ⟨rfl, hb⟩; have HS4 := St.call HS3 hb; clear hb; have hc44 : w4.cell? ⟨g4, 0, none⟩ = some (.slice A1_0 l1_0.length c1_0) := (blk_cell (St.getB HS4 2 rfl ⟨0, rfl⟩) 0).trans rfl; have hc45 : w4.cell? ⟨g5, 0, none⟩ = some (.slice A2_0 l2_0.length c2_0) := (blk_cell (St.getB HS4 1 rfl ⟨0, rfl⟩) 0).trans rfl; have hc46 : w4.cell? ⟨g6, 0, none⟩ = some (.slice none 0 0) := (blk_cell (St.getB HS4 0 rfl ⟨0, rfl⟩) 0).trans rfl; have hf46 : w4.frozen? ⟨g6, 0, none⟩ = false := blk_frozen (St.getB HS4 0 rfl ⟨0, rfl⟩) 0; refine ⟨_, rfl, ?_⟩) | (go_at_call 54; (with_reducible refine (impl_cutsOk.calls k A0 c0 l0 A2_0 c2_0 l2_0 true _ ?q1 ?q2 ?q3 ?q4 H2.out).mono ?_); (case q1 => exact Kd.C_below HR0.out (St.lift HS4).below); (case q2 => exact HC0.out); (case q3 => exact Kd.C_below HR2.out (St.lift HS4).below); (case q4 => exact HC2.out); rintro e w5 ⟨rfl, hb⟩; have HS5 := St.call HS4 hb; clear hb; have hc54 : w5.cell? ⟨g4, 0, none⟩ = some (.slice A1_0 l1_0.length c1_0) := (blk_cell (St.getB HS5 2 rfl ⟨0, rfl⟩) 0).trans rfl; have hc55 : w5.cell? ⟨g5, 0, none⟩ = some (.slice A2_0 l2_0.length c2_0) := (blk_cell (St.getB HS5 1 rfl ⟨0, rfl⟩) 0).trans rfl; have hc56 : w5.cell? ⟨g6, 0, none⟩ = some (.slice none 0 0) := (blk_cell (St.getB HS5 0 rfl ⟨0, rfl⟩) 0).trans rfl; have hf56 : w5.frozen? ⟨g6, 0, none⟩ = false := blk_frozen (St.getB HS5 0 rfl ⟨0, rfl⟩) 0) | ((with_reducible refine gate_dst (N := 24) rfl ?_); (refine Kd.S_make (Kd.slice 2 (Kd.int .i64)) _ 26 rfl (N := 24) rfl 39 _ _ rfl (l0.length : Int) rfl rfl Try.underlying39 (.slice none 0 0) 24 inf26_ rfl (by decide) (by omega) [] (ok := fun _ => True) (okp := fun _ => True) ⟨_, rfl, Kd.R_nil _ _ _ _ _⟩ (fun _ hk => hk) trivial (Int.natCast_nonneg _) (by have h_ := HLE.out; omega) (Below.refl _ _) (Nat.le_refl _) ?_; intro v6 w6 hs6 hb6 hg6_ hat6; rw [← HS0.out] at hs6; obtain ⟨b6, hat6, _⟩ := hat6; obtain ⟨g, cap, rfl⟩ := row_form hs6 hat6; obtain ⟨ok6, A6, c6, e6, HC6, HS6⟩ := St.callS HS5 hb6 hs6; cases e6; clear hat6 hs6 hb6 hg6_)) | ((with_reducible refine gate_dst (N := 8) rfl ?_); refine be 8 #[.slice none 0 0] 44 ?_; intro g8 hg8 w7 hx8 hb8; have HS7 := St.box HS6 hg8 hx8 hb8; clear hg8 hx8 hb8; have hc8 : w7.cell? ⟨g8, 0, none⟩ = some (.slice none 0 0) := (blk_cell (St.getB HS7 0 rfl ⟨0, rfl⟩) 0).trans rfl; have hf8 : w7.frozen? ⟨g8, 0, none⟩ = false := blk_frozen (St.getB HS7 0 rfl ⟨0, rfl⟩) 0) | ((with_reducible refine gate_store (t := 44) (p := 8) rfl ?_); refine store_event (t := 44) (p := 8) (v := ?vo) (w1 := w7.setCell ⟨g8, 0, none⟩ (.slice (some ⟨g, 0, none⟩) S0.length cap)) ?hg ?ho ?hn ?hr ?_; (case ho => rfl); (case hg => rfl); (case hn => rfl); (case hr => first | (go_simp; done) | (go_simp; rfl)); intro w8 hw; have hlo := St.lowB HS7 0 rfl; have hkp : KeepBut w7 w8 g8 none := (by rw [hw]; repeat (first | exact KeepBut.refl _ _ _ | apply KeepBut.set_)); have hbx : w8.heap[g8]? = some (.cells #[.slice (some ⟨g, 0, none⟩) S0.length cap] 44 (0, 0)) := (by rw [hw]; refine blk_put (cs := #[.slice none 0 0]) ?_ 0 _ rfl; exact St.getB HS7 0 rfl ⟨0, rfl⟩); have hbl : Below w.heap.size w w8 := (by rw [hw]; exact below_set HS7.out.below hlo); have HS8 := St.store HS7 0 rfl hkp hbx hbl; clear hw hkp hbx hbl hlo hc8 hf8))
    go_loopg [28] k (fun kq s28 wr => ∃ (S : List (List Int)) (v : Int) (ok : Nat → Prop), s28 = .int .i64 v ∧ Aside0 (S.length = S0.length) ∧ Aside0 (impl_AddCuts.l0 kq l1_0 l2_0 S v (l0.length : Int) = some o) ∧ Aside0 (St w wr [Ob.B g8 (.cells #[.slice (some ⟨g, 0, none⟩) S0.length cap] 44 (0, 0)), Ob.S w (Kd.slice 2 (Kd.int .i64)) 26 ok (.slice (some ⟨g, 0, none⟩) S0.length cap) S, Ob.B g6 (.cells #[.slice none 0 0] 44 (0, 0)), Ob.B g5 (.cells #[.slice A2_0 l2_0.length c2_0] 44 (0, 0)), Ob.B g4 (.cells #[.slice A1_0 l1_0.length c1_0] 44 (0, 0))]))
    case atStart => exact ⟨S0, 0, ok6, rfl, ⟨rfl⟩, HX0, ⟨St.lift HS8⟩⟩
    case round =>
     clear HX0 HS HS1 HS2 HS3 HS4 HS5 HS6 HS7 HS8; obtain ⟨S, v, ok, rfl, HL, HX, H⟩ := hrel
     cases gk with
     | zero => exact absurd HX.out (by simp [impl_AddCuts.l0])
     | succ kq =>
      by_cases hlt : v < (l0.length : Int)
      ·have hX := HX.out
       clear HX
       simp only [impl_AddCuts.l0] at hX
       rw [if_pos hlt] at hX
       by_cases v0 : 0 ≤ v
       ·rw [if_pos v0] at hX
        by_cases va : v < (l1_0.length : Int)
        ·rw [if_pos va] at hX
         by_cases vb : v < (l2_0.length : Int)
         ·rw [if_pos vb] at hX
          by_cases vl : (impl_AddCuts.g l1_0 v ++ impl_AddCuts.g l2_0 v).length ≤ 10000000
          ·rw [if_pos vl] at hX
           by_cases vs : v < (S.length : Int)
           ·rw [if_pos vs] at hX
            obtain ⟨ad1, Aa, ca, e1, hza, hla, hCa⟩ := elemR HR1.out v.toNat (by omega); obtain ⟨ad2, Ab, cb, e2, hzb, hlb, hCb⟩ := elemR HR2.out v.toNat (by omega)
            subst e1
            subst e2
            obtain ⟨xs, hxs⟩ : ∃ xs, xs = impl_AddCuts.g l1_0 v := ⟨_, rfl⟩; obtain ⟨ys, hys⟩ : ∃ ys, ys = impl_AddCuts.g l2_0 v := ⟨_, rfl⟩; replace hza := (show w.cell? (ad1.add v.toNat) = some (.slice Aa xs.length ca) from hxs ▸ hza); replace hzb := (show w.cell? (ad2.add v.toNat) = some (.slice Ab ys.length cb) from hys ▸ hzb); replace hla : xs.length ≤ ca := hxs ▸ hla; replace hlb : ys.length ≤ cb := hys ▸ hlb; replace hCa : (Kd.int .i64).C w Aa xs.length xs := hxs ▸ hCa; replace hCb : (Kd.int .i64).C w Ab ys.length ys := hys ▸ hCb; rw [← hxs, ← hys] at hX vl; obtain ⟨Z, hZ⟩ : ∃ Z, Z = xs ++ ys := ⟨_, rfl⟩; rw [← hZ] at hX vl; have HFL : Aside0 ([xs, ys].flatten = Z) := ⟨by rw [hZ]; simp⟩
            have hvs0 : v < (S0.length : Int) := by rw [← HL.out]; exact vs
            obtain ⟨oki, cc, hcl, hM, hoki, hcells, hlend⟩ := St.lendS (W' := wr) H 1 rfl ([] : List Int) v v0 hvs0; obtain ⟨vo, rfl, _⟩ := hM
            have e2 : v.toNat * (Kd.slice 2 (Kd.int .i64)).sz + 0 = v.toNat := by show v.toNat * 1 + 0 = v.toNat; omega
            have HE2 := Aside0.mk e2; have HCELLS := Aside0.mk hcells; have HLEND := Aside0.mk hlend; clear hcl hoki hcells hlend e2 hZ; replace hvs0 := eq_true hvs0; have hz8 : wr.cell? ⟨g8, 0, none⟩ = some (.slice (some ⟨g, 0, none⟩) S0.length cap) := (blk_cell (St.getB H 0 rfl ⟨0, rfl⟩) 0).trans rfl; have HXY := Aside0.mk hX; have HVL := Aside0.mk vl; have HBW : Aside0 (Below w.heap.size w wr) := ⟨H.out.below⟩; replace hza := (HBW.out.cell (World.block_lt_of_cell? w _ hza)).trans hza; replace hzb := (HBW.out.cell (World.block_lt_of_cell? w _ hzb)).trans hzb; have HCa := Aside0.mk (Kd.C_below hCa HBW.out); have HCb := Aside0.mk (Kd.C_below hCb HBW.out); have HLa := Aside0.mk hla; have HLb := Aside0.mk hlb; have HV0 := Aside0.mk v0; have HVS := Aside0.mk vs; have hz4 : wr.cell? ⟨g4, 0, none⟩ = some (.slice (some ad1) l1_0.length c1_0) := (blk_cell (St.getB H 4 rfl ⟨0, rfl⟩) 0).trans rfl; have hz5 : wr.cell? ⟨g5, 0, none⟩ = some (.slice (some ad2) l2_0.length c2_0) := (blk_cell (St.getB H 3 rfl ⟨0, rfl⟩) 0).trans rfl; have hd : decide (v < (l0.length : Int)) = true := decide_eq_true hlt; clear hX vl hCa hCb hla hlb hxs hys vs; replace v0 := eq_true v0; replace va := eq_true va; replace vb := eq_true vb; clear hlt
            go_wp2
            have H1_ : Aside0 (St w wr.drew _) := ⟨H.out.step (below_drew (Below.refl _ _))⟩; have HV1 : Aside0 (Below wr.heap.size wr wr.drew) := ⟨below_drew (Below.refl _ _)⟩; refine start_ (n := 13) (S := (fun w' => w'.cell? ⟨g4, 0, none⟩ = some (.slice (some ad1) l1_0.length c1_0) ∧ w'.cell? (ad1.add v.toNat) = some (.slice Aa xs.length ca) ∧ w'.cell? ⟨g5, 0, none⟩ = some (.slice (some ad2) l2_0.length c2_0) ∧ w'.cell? (ad2.add v.toNat) = some (.slice Ab ys.length cb))) (ds := []) (tf 0 13) (by kernel_rfl) rfl rfl ⟨hz4, hza, hz5, hzb⟩ (fun hHeld => ?_); refine with_tabW impl_AddCuts.tab7 impl_AddCuts.bits7 (fun HT_ HW_ => ?_); generalize wr.drew = wa at H1_ HV1 hHeld ⊢; refine pu HT_ 0 31 12 ?_; refine ta HT_ HW_ hHeld 1 32 11 ?_; refine pu HT_ 2 33 10 ?_; refine pu HT_ 3 34 9 ?_; refine ta HT_ HW_ hHeld 4 35 8 ?_; refine pu HT_ 5 36 7 ?_; refine ta HT_ HW_ hHeld 6 37 6 ?_; refine pu HT_ 7 38 5 ?_; refine pu HT_ 8 39 4 ?_; refine ta HT_ HW_ hHeld 9 40 3 ?_; refine on HT_ 10 41 2 (fun K hK => ?_); refine value_ (w1 := wa.alloc (.cells #[.slice Aa xs.length ca, .slice Ab ys.length cb] 26)) (v := .slice (some ⟨wa.heap.size, 0, none⟩) 2 2) (by rfl) rfl ?_ ?_
            ·first | (go_simp; done) | (go_simp; constructor <;> rfl) | (go_simp; rfl)
            have hlit : (wa.alloc (.cells #[.slice Aa xs.length ca, .slice Ab ys.length cb] 26)).heap[wa.heap.size]? = some (.cells #[.slice Aa xs.length ca, .slice Ab ys.length cb] 26 (0, 0)) := blk_new wa _; have HV2 : Aside0 (Below wr.heap.size wr (wa.alloc (.cells #[.slice Aa xs.length ca, .slice Ab ys.length cb] 26))) := ⟨below_alloc HV1.out _⟩; have H2_ := St.call H1_ (below_alloc (Below.refl wa.heap.size wa) (.cells #[.slice Aa xs.length ca, .slice Ab ys.length cb] 26)); have HLIT := Aside0.mk hlit; clear hlit; generalize wa.heap.size = gl at HLIT ⊢; generalize wa.alloc (.cells #[.slice Aa xs.length ca, .slice Ab ys.length cb] 26) = wb at HV2 H2_ HLIT ⊢; refine hK.out _ _ ⟨(HV2.out.cell (World.block_lt_of_cell? wr _ hz4)).trans hz4, (HV2.out.cell (World.block_lt_of_cell? wr _ hza)).trans hza, (HV2.out.cell (World.block_lt_of_cell? wr _ hz5)).trans hz5, (HV2.out.cell (World.block_lt_of_cell? wr _ hzb)).trans hzb⟩ (fun hHeld => ?_); clear hK K; refine nm 41 ?_; refine on HT_ 11 42 1 (fun K hK => ?_); refine goes_ Try.func55 (by kernel_rfl) rfl #[.slice (some ⟨gl, 0, none⟩) 2 2] (by rfl) rfl rfl ma ?_; have hcat := concat_rows [xs, ys] (some ⟨gl, 0, none⟩) 2 _ (two_rows HLIT.out (Kd.C_below HCa.out HV2.out) HLa.out (Kd.C_below HCb.out HV2.out) HLb.out) (by rw [HFL.out]; exact HVL.out)
            rw [HFL.out] at hcat; refine hcat.mono ?_; clear hcat; rintro e wc ⟨vc, rfl, hrc, hbc⟩; obtain ⟨Ap, cp, rfl⟩ := Kd.R_slice hrc; refine ⟨_, rfl, ?_⟩; have HV3 : Aside0 (Below wr.heap.size wr wc) := ⟨below_step HV2.out hbc⟩; have HRC : Aside0 ((Kd.int .i64).R 2 wc wr.heap.size (fun _ => True) (.slice Ap Z.length cp) Z) := ⟨Kd.R_lower hrc HV2.out.size⟩; clear hrc hbc; refine hK.out _ _ ⟨(HV3.out.cell (World.block_lt_of_cell? wr _ hz4)).trans hz4, (HV3.out.cell (World.block_lt_of_cell? wr _ hza)).trans hza, (HV3.out.cell (World.block_lt_of_cell? wr _ hz5)).trans hz5, (HV3.out.cell (World.block_lt_of_cell? wr _ hzb)).trans hzb⟩ (fun hHeld => ?_); clear hK K; refine nm 42 ?_; refine pu HT_ 12 10 0 ?_; refine done_ (done_of HT_.out (by kernel_rfl)) ?_; clear hHeld HT_ HW_ H1_ H2_ HV1 HLIT hz4 hz5 hza hzb
            go_wp2_with (first | ((with_reducible refine gate_dst (N := 44) rfl ?_); refine goesL_ (some 44) rfl rfl Try.func56 (by kernel_rfl) rfl #[.slice Ap Z.length cp] rfl ma ?_; refine (sort_n HRC.out HVL.out).mono ?_; rintro e wd ⟨rfl, hrd, hgd⟩; have HRD := Aside0.mk hrd; have HV4 : Aside0 (Below wr.heap.size wr wd) := ⟨row_below HV3.out HRC.out hgd⟩; clear hrd hgd; refine ⟨_, rfl, ?_⟩))
            obtain ⟨Z2, hZ2⟩ : ∃ Z2, Z2 = Z.mergeSort fun x y => decide (x ≤ y) := ⟨_, rfl⟩
            rw [← hZ2] at HRD HXY; clear hZ2; have HRE : Aside0 ((Kd.int .i64).R 2 wd.drew wr.heap.size (fun _ => True) (.slice Ap Z.length cp) Z2) := ⟨Kd.R_drew HRD.out⟩; have HV5 : Aside0 (Below wr.heap.size wr wd.drew) := ⟨below_drew HV4.out⟩; refine start_ (n := 7) (S := (fun w' => w'.cell? ⟨g8, 0, none⟩ = some (.slice (some ⟨g, 0, none⟩) S0.length cap))) (ds := [6]) (tf 0 7) (by kernel_rfl) rfl rfl ((HV4.out.cell (World.block_lt_of_cell? wr _ hz8)).trans hz8) (fun hHeld => ?_); refine with_tabW impl_AddCuts.tab9 impl_AddCuts.bits9 (fun HT_ HW_ => ?_); generalize wd.drew = we at HRE HV5 hHeld ⊢; refine pu HT_ 0 45 6 ?_; refine ta HT_ HW_ hHeld 1 46 5 ?_; refine pu HT_ 2 47 4 ?_; refine pu HT_ 3 48 3 ?_; refine on HT_ 4 49 2 (fun K hK => ?_); refine goes_ Try.func57 (by kernel_rfl) rfl #[.slice Ap Z.length cp] (by rfl) rfl rfl ma ?_; refine (compact_n HRE.out HVL.out).mono ?_; rintro e wf ⟨rfl, hrf, hgf⟩; refine ⟨_, rfl, ?_⟩; have HV6 : Aside0 (Below wr.heap.size wr wf) := ⟨row_below HV5.out HRE.out hgf⟩; have hkf : Kept wr wf oki := ⟨HV6.out.size, fun k hk _ => HV6.out.block k hk⟩; obtain ⟨okn, H9⟩ := HLEND.out wf (Lib.compact Z2) 0 [.slice Ap (Lib.compact Z2).length cp] (below_step HBW.out HV6.out) hkf (show 0 + 1 ≤ 1 from by decide) ⟨_, rfl, Kd.R_mono (Kd.R_lower (Kd.R_bound hrf) HBW.out.size) (fun k hk => .inr hk.2.1)⟩; rw [HE2.out] at H9; have hxo := (HCELLS.out wf hkf).1 0 _ rfl; have hfo := (HCELLS.out wf hkf).2 0; rw [HE2.out] at hxo hfo; clear hrf hgf hkf; refine hK.out _ _ ((HV6.out.cell (World.block_lt_of_cell? wr _ hz8)).trans hz8) (fun hHeld => ?_); clear hK K; refine nm 49 ?_; refine pu HT_ 5 50 1 ?_; refine last_ (i := 6) (N := none) (tf 7 0) rfl rfl (one_of HT_.out (by kernel_rfl)) (by decide) (fun K hK => ?_); refine skip_ (w1 := wf.setCell ⟨g, v.toNat, none⟩ (.slice Ap (Lib.compact Z2).length cp)) (by rfl) rfl ?_ ?_
            ·first | (go_simp; done) | (go_simp; rfl)
            refine hK.out _ _ ?_; clear hK K; refine done_ (done_of HT_.out (by kernel_rfl)) ?_; clear hHeld HT_ HW_ hxo hfo; replace H9 : Aside0 (St w (wf.setCell ⟨g, v.toNat, none⟩ (.slice Ap (Lib.compact Z2).length cp)) _) := H9; generalize wf.setCell ⟨g, v.toNat, none⟩ (.slice Ap (Lib.compact Z2).length cp) = wg at H9 ⊢
            go_wp2
            go_roundg kq
            case measure => omega
            case rel => exact ⟨S.set v.toNat (Lib.compact Z2), wrap64 (v + 1), okn, by first | rfl | (simp; done) | go_num, ⟨by rw [List.length_set]; exact HL.out⟩, HXY, ⟨St.lift H9⟩⟩
           ·rw [if_neg vs] at hX; cases hX
          ·rw [if_neg vl] at hX; cases hX
         ·rw [if_neg vb] at hX; cases hX
        ·rw [if_neg va] at hX; cases hX
       ·rw [if_neg v0] at hX; cases hX
      ·have hX := HX.out
       simp only [impl_AddCuts.l0] at hX
       rw [if_neg hlt] at hX; replace hX := Option.some.inj hX
       subst hX
       have hd : decide (v < (l0.length : Int)) = false := decide_eq_false hlt; have hz8 : wr.cell? ⟨g8, 0, none⟩ = some (.slice (some ⟨g, 0, none⟩) S0.length cap) := (blk_cell (St.getB H 0 rfl ⟨0, rfl⟩) 0).trans rfl; have hz6 : wr.cell? ⟨g6, 0, none⟩ = some (.slice none 0 0) := (blk_cell (St.getB H 2 rfl ⟨0, rfl⟩) 0).trans rfl; have hzf6 : wr.frozen? ⟨g6, 0, none⟩ = false := blk_frozen (St.getB H 2 rfl ⟨0, rfl⟩) 0; clear hlt HX
       have hap : ∀ q, ok q → q ≠ g6 := fun q hq he => nth_apart H.out.apart (i := 1) (j := 2) rfl rfl (by decide) q hq he
       have HAP := Aside0.mk hap; clear hap
       go_wp2
       refine bodyPost_ret (results_ct rfl _ _ g6 44 #[.slice (some ⟨g, 0, none⟩) S0.length cap] (0, 0) _ rfl (blk_put (cs := #[.slice none 0 0]) (St.getB H 2 rfl ⟨0, rfl⟩) 0 _ rfl) hu44 rfl (by kernel_rfl)) rfl ?_
       exact ⟨_, rfl, Kd.S_mono (Kd.S_far (p := ⟨g6, 0, none⟩) (St.getS H 1 rfl ⟨0, rfl⟩) HAP.out _) (fun _ _ => trivial), below_set H.out.below (St.lowB H 2 rfl)⟩
   ·rw [if_neg hl] at h; cases h

/-! ### laws_eqInt64S: function 11 -/
def laws_eqInt64S.l0 : Nat → List Int → List Int → Int → Option (Bool)
 | 0, _, _, _ => none
 | k + 1, x0, x1, x5 => if x5 < (x0.length : Int) then (if 0 ≤ x5 then (if x5 < (x1.length : Int) then (if (rd x0 x5) = (rd x1 x5) then (laws_eqInt64S.l0 k x0 x1 (wrap64 (x5 + 1))) else (some false)) else (none)) else (none)) else (some true)
def laws_eqInt64S.f (k : Nat) (l0 : List Int) (l1 : List Int) : Option (Bool) := if (l0.length : Int) = (l1.length : Int) then (laws_eqInt64S.l0 k l0 l1 0) else (some false)
set_option maxHeartbeats 8000000 in
set_option maxRecDepth 100000 in
theorem laws_eqInt64S.calls (k : Nat) (A0 : Option Addr) (c0 : Nat) (l0 : List Int) (A1 : Option Addr) (c1 : Nat) (l1 : List Int) (r : Bool) (w : World) (hr0 : Kd.C (Kd.int .i64) w A0 l0.length l0) (hc0 : l0.length ≤ c0) (hr1 : Kd.C (Kd.int .i64) w A1 l1.length l1) (hc1 : l1.length ≤ c1) (h : laws_eqInt64S.f k l0 l1 = some r) :
  Calls Try.prog 11 #[.slice A0 l0.length c0, .slice A1 l1.length c1] w fun e w' => e = .returned (.bool r) ∧ Drawn0 w w' := by
 have HR0 := Aside0.mk hr0; have HC0 := Aside0.mk hc0; clear hr0 hc0; have HR1 := Aside0.mk hr1; have HC1 := Aside0.mk hc1; clear hr1 hc1; have H : (if (l0.length : Int) = (l1.length : Int) then (laws_eqInt64S.l0 k l0 l1 0) else (some false)) = some r := h; clear h
 by_cases c3 : (l0.length : Int) = (l1.length : Int)
 ·rw [if_pos c3] at H
  have c3b0 : ((l0.length : Int) == (l1.length : Int)) = true := beq_iff_eq.mpr c3; have c3b1 : ((l0.length : Int) != (l1.length : Int)) = false := bne_eq_false_iff_eq.mpr c3
  have c3b2 : (l0.length == l1.length) = true := by first | simpa using c3 | (simp at c3 ⊢; omega)
  clear c3; have H' := Aside0.mk H; clear H
  go_enter Try.func11, Try.ntmps11
  go_wp2
  repeat (go_quiet (fail); try go_wp2)
  go_loopg [5] k (fun kq v5 w' => ∃ (x5_1 : Int), v5 = .int .i64 x5_1 ∧ Aside0 (laws_eqInt64S.l0 kq l0 l1 x5_1 = some r) ∧ Aside0 (kq ≤ k) ∧ Drawn0 w w')
  case atStart => exact ⟨(0), au, H', ⟨Nat.le_refl _⟩, dr⟩
  case round =>
   clear H'
   try clear c1
   try clear p2
   try clear c3
   try clear c3b0
   try clear c3b1
   try clear c3b2
   obtain ⟨x5_1, rfl, HA, HK1, ⟨m1, rfl⟩⟩ := hrel
   cases gk with
   | zero => exact absurd HA.out (by simp [laws_eqInt64S.l0])
   | succ k1 =>
    have H := HA.out; clear HA
    simp only [laws_eqInt64S.l0] at H
    by_cases c4 : x5_1 < (l0.length : Int)
    ·rw [if_pos c4] at H
     have c4b0 : decide (x5_1 < (l0.length : Int)) = true := decide_eq_true c4; clear c4
     by_cases c5 : 0 ≤ x5_1
     ·rw [if_pos c5] at H
      have c5b0 : decide (0 ≤ x5_1) = true := decide_eq_true c5; clear c5
      by_cases c6 : x5_1 < (l1.length : Int)
      ·rw [if_pos c6] at H
       have c6b0 : decide (x5_1 < (l1.length : Int)) = true := decide_eq_true c6; clear c6
       by_cases c7 : (rd l0 x5_1) = (rd l1 x5_1)
       ·rw [if_pos c7] at H
        have c7b0 : ((rd l0 x5_1) == (rd l1 x5_1)) = true := beq_iff_eq.mpr c7; have c7b1 : ((rd l0 x5_1) != (rd l1 x5_1)) = false := bne_eq_false_iff_eq.mpr c7; clear c7; have H' := Aside0.mk H; clear H; have p221 : 0 ≤ (x5_1 : Int) := ode; have q221 : x5_1 < (l0.length : Int) := ode; obtain ⟨ad221, e221, hx221_0⟩ := Kd.at_int HR0.out x5_1 p221 q221
        cases e221
        replace p221 := eq_true p221; replace q221 := eq_true q221; have p222 : 0 ≤ (x5_1 : Int) := ode; have q222 : x5_1 < (l1.length : Int) := ode; obtain ⟨ad222, e222, hx222_0⟩ := Kd.at_int HR1.out x5_1 p222 q222
        cases e222
        replace p222 := eq_true p222; replace q222 := eq_true q222
        go_wp2
        repeat (go_quiet (fail); try go_wp2)
        go_roundg k1
        case measure => have := HK1.out; omega
        case rel => exact ⟨(wrap64 (x5_1 + 1)), au, H', ⟨by have := HK1.out; omega⟩, dr⟩
       ·rw [if_neg c7] at H
        have c7b0 : ((rd l0 x5_1) == (rd l1 x5_1)) = false := beq_eq_false_iff_ne.mpr c7; have c7b1 : ((rd l0 x5_1) != (rd l1 x5_1)) = true := bne_iff_ne.mpr c7; obtain rfl := Option.some.inj H; have p221 : 0 ≤ (x5_1 : Int) := ode; have q221 : x5_1 < (l0.length : Int) := ode; obtain ⟨ad221, e221, hx221_0⟩ := Kd.at_int HR0.out x5_1 p221 q221
        cases e221
        replace p221 := eq_true p221; replace q221 := eq_true q221; have p222 : 0 ≤ (x5_1 : Int) := ode; have q222 : x5_1 < (l1.length : Int) := ode; obtain ⟨ad222, e222, hx222_0⟩ := Kd.at_int HR1.out x5_1 p222 q222
        cases e222
        replace p222 := eq_true p222; replace q222 := eq_true q222
        go_wp2
        repeat (go_quiet (fail); try go_wp2)
        go_ret
        exact ⟨au, dr⟩
      ·rw [if_neg c6] at H
       exact absurd H (by simp)
     ·rw [if_neg c5] at H
      exact absurd H (by simp)
    ·rw [if_neg c4] at H
     have c4b0 : decide (x5_1 < (l0.length : Int)) = false := decide_eq_false c4; clear c4; obtain rfl := Option.some.inj H
     go_wp2
     repeat (go_quiet (fail); try go_wp2)
     go_ret
     exact ⟨au, dr⟩
 ·rw [if_neg c3] at H
  have c3b0 : ((l0.length : Int) == (l1.length : Int)) = false := beq_eq_false_iff_ne.mpr c3; have c3b1 : ((l0.length : Int) != (l1.length : Int)) = true := bne_iff_ne.mpr c3
  have c3b2 : (l0.length == l1.length) = false := by first | simpa using c3 | (simp at c3 ⊢; omega)
  obtain rfl := Option.some.inj H
  go_enter Try.func11, Try.ntmps11
  go_wp2
  repeat (go_quiet (fail); try go_wp2)
  go_ret
  exact ⟨au, dr⟩

end Go.Proofs.Ytonkicgdgpcneaa.PFnExactAddCuts
