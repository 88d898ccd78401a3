-- Written by a program of this session (a turned copy of the kit's printer); Lean checks it.
-- half the depth
import Derived.Test.YtkjlplcdjdenkaaPFnExactJoinx0
import Derived.Test.YtkjlplcdjdenkaaPFnExactJoinx4
namespace Go.Proofs.Ytkjlplcdjdenkaa.PFnExactJoin
open Go.RowKit Go.Proofs.YtkjlplcdjdenkaaW.PrintWords Go.Proofs.YtkjlplcdjdenkaaW.PrintLast Go.Proofs.YtkjlplcdjdenkaaW.PrintMore
attribute [local go_sem] max2_int min2_int max_two min_two max_three min_three max_four min_four   -- for this text's walks alone
set_option linter.unusedVariables false
set_option linter.unusedSimpArgs false

/-! ### impl_roots: function 86 -/
mutual
def impl_roots.j0 : Nat → Bool → Int → List (S51) → Option (List Int × Bool)
 | 0, _, _, _ => none
 | k + 1, x23, x200000, x200001 => if x23 = true then (some (([] : List Int), false)) else (if 0 ≤ x200000 then (if (x200000 : Int).toNat ≤ 35184372088832 then ((some (List.replicate (x200000 : Int).toNat 0 : List Int)).bind fun y201 => (impl_roots.l0 k y201 (y201.length : Int) 0 x200000 x200001)) else (none)) else (none))
def impl_roots.l0 : Nat → List Int → Int → Int → Int → List (S51) → Option (List Int × Bool)
 | 0, _, _, _, _, _ => none
 | k + 1, x4, x28, x29, x200000, x200001 => if x29 < x28 then (if 0 ≤ x29 then (if x29 < (x4.length : Int) then (impl_roots.l0 k (x4.set (x29 : Int).toNat x29) x28 (wrap64 (x29 + 1)) x200000 x200001) else (none)) else (none)) else (impl_roots.l1 k x4 x200001 (x200001.length : Int) 0 x200000 x200001)
def impl_roots.l1 : Nat → List Int → List (S51) → Int → Int → Int → List (S51) → Option (List Int × Bool)
 | 0, _, _, _, _, _, _ => none
 | k + 1, x4, x38, x39, x40, x200000, x200001 => if x40 < x39 then (if 0 ≤ x40 then (if x40 < (x38.length : Int) then ((impl_inside.f ((rd_T51 x38 x40).f0) 0 (wrap64 (x200000 - 1))).bind fun t207 => (if t207 = true then ((impl_inside.f ((rd_T51 x38 x40).f1) 0 (wrap64 (x200000 - 1))).bind fun t208 => (if t208 = true then ((impl_inside.f ((rd_T51 x38 x40).f2) 0 1000000).bind fun t209 => (if t209 = true then (if 0 ≤ ((rd_T51 x38 x40).f0) then (if ((rd_T51 x38 x40).f0) < (x4.length : Int) then (if 0 ≤ ((rd_T51 x38 x40).f1) then (if ((rd_T51 x38 x40).f1) < (x4.length : Int) then (impl_roots.j3 k x4 x38 x39 x40 ((rd x4 ((rd_T51 x38 x40).f0)) == (rd x4 ((rd_T51 x38 x40).f1))) x200000 x200001 ((rd_T51 x38 x40).f0) ((rd_T51 x38 x40).f1) ((rd_T51 x38 x40).f2)) else (none)) else (none)) else (none)) else (none)) else (impl_roots.j3 k x4 x38 x39 x40 true x200000 x200001 ((rd_T51 x38 x40).f0) ((rd_T51 x38 x40).f1) ((rd_T51 x38 x40).f2)))) else (impl_roots.j3 k x4 x38 x39 x40 true x200000 x200001 ((rd_T51 x38 x40).f0) ((rd_T51 x38 x40).f1) ((rd_T51 x38 x40).f2)))) else (impl_roots.j3 k x4 x38 x39 x40 true x200000 x200001 ((rd_T51 x38 x40).f0) ((rd_T51 x38 x40).f1) ((rd_T51 x38 x40).f2)))) else (none)) else (none)) else (some (x4, true))
def impl_roots.j3 : Nat → List Int → List (S51) → Int → Int → Bool → Int → List (S51) → Int → Int → Int → Option (List Int × Bool)
 | 0, _, _, _, _, _, _, _, _, _, _ => none
 | k + 1, x4, x38, x39, x40, x78, x200000, x200001, x207000, x207001, x207002 => if x78 = true then (some (([] : List Int), false)) else (if 0 ≤ x207000 then (if x207000 < (x4.length : Int) then (if 0 ≤ x207001 then (if x207001 < (x4.length : Int) then (impl_roots.l2 k x4 (mn (rd x4 x207000) (rd x4 x207001)) (mx (rd x4 x207000) (rd x4 x207001)) x38 x39 x40 (x4.length : Int) 0 x200000 x200001) else (none)) else (none)) else (none)) else (none))
def impl_roots.l2 : Nat → List Int → Int → Int → List (S51) → Int → Int → Int → Int → Int → List (S51) → Option (List Int × Bool)
 | 0, _, _, _, _, _, _, _, _, _, _ => none
 | k + 1, x4, x8, x9, x38, x39, x40, x102, x103, x200000, x200001 => if x103 < x102 then (if 0 ≤ x103 then (if x103 < (x4.length : Int) then (if (rd x4 x103) = x9 then (impl_roots.l2 k (x4.set (x103 : Int).toNat x8) x8 x9 x38 x39 x40 x102 (wrap64 (x103 + 1)) x200000 x200001) else (impl_roots.l2 k x4 x8 x9 x38 x39 x40 x102 (wrap64 (x103 + 1)) x200000 x200001)) else (none)) else (none)) else (impl_roots.l1 k x4 x38 x39 (wrap64 (x40 + 1)) x200000 x200001)
end
def impl_roots.f (k : Nat) (a0_0 : Int) (l0_1 : List (S51)) : Option (List Int × Bool) := (impl_inside.f a0_0 0 1000).bind fun t200 => (if t200 = true then (impl_roots.j0 k (decide ((l0_1.length : Int) > a0_0)) a0_0 l0_1) else (impl_roots.j0 k true a0_0 l0_1))
theorem impl_roots.mono_l : ∀ k, (∀ y0 y1 y2, LeO (impl_roots.j0 k y0 y1 y2) (impl_roots.j0 (k + 1) y0 y1 y2)) ∧ (∀ y0 y1 y2 y3 y4, LeO (impl_roots.l0 k y0 y1 y2 y3 y4) (impl_roots.l0 (k + 1) y0 y1 y2 y3 y4)) ∧ (∀ y0 y1 y2 y3 y4 y5, LeO (impl_roots.l1 k y0 y1 y2 y3 y4 y5) (impl_roots.l1 (k + 1) y0 y1 y2 y3 y4 y5)) ∧ (∀ y0 y1 y2 y3 y4 y5 y6 y7 y8 y9, LeO (impl_roots.j3 k y0 y1 y2 y3 y4 y5 y6 y7 y8 y9) (impl_roots.j3 (k + 1) y0 y1 y2 y3 y4 y5 y6 y7 y8 y9)) ∧ (∀ y0 y1 y2 y3 y4 y5 y6 y7 y8 y9, LeO (impl_roots.l2 k y0 y1 y2 y3 y4 y5 y6 y7 y8 y9) (impl_roots.l2 (k + 1) y0 y1 y2 y3 y4 y5 y6 y7 y8 y9))
 | 0 => ⟨fun _ _ _ r h => by simp [impl_roots.j0] at h, fun _ _ _ _ _ r h => by simp [impl_roots.l0] at h, fun _ _ _ _ _ _ r h => by simp [impl_roots.l1] at h, fun _ _ _ _ _ _ _ _ _ _ r h => by simp [impl_roots.j3] at h, fun _ _ _ _ _ _ _ _ _ _ r h => by simp [impl_roots.l2] at h⟩
 | k + 1 => by
  obtain ⟨ih0, ih1, ih2, ih3, ih4⟩ := impl_roots.mono_l k
  refine ⟨?_, ?_, ?_, ?_, ?_⟩
  ·intro y0 y1 y2
   unfold impl_roots.j0
   repeat' first
   | (with_reducible exact ih0 _ _ _)
   | (with_reducible exact ih1 _ _ _ _ _)
   | (with_reducible exact ih2 _ _ _ _ _ _)
   | (with_reducible exact ih3 _ _ _ _ _ _ _ _ _ _)
   | (with_reducible exact ih4 _ _ _ _ _ _ _ _ _ _)
   | (with_reducible exact LeO.refl _)
   | (with_reducible exact LeO.none _)
   | (with_reducible refine LeO.ite ?_ ?_)
   | (with_reducible refine LeO.bind ?_ (fun _ => ?_))
   | exact ih0 _ _ _
   | exact ih1 _ _ _ _ _
   | exact ih2 _ _ _ _ _ _
   | exact ih3 _ _ _ _ _ _ _ _ _ _
   | exact ih4 _ _ _ _ _ _ _ _ _ _
   | exact LeO.none _
   | refine LeO.ite ?_ ?_
   | refine LeO.bind ?_ (fun _ => ?_)
  ·intro y0 y1 y2 y3 y4
   unfold impl_roots.l0
   repeat' first
   | (with_reducible exact ih0 _ _ _)
   | (with_reducible exact ih1 _ _ _ _ _)
   | (with_reducible exact ih2 _ _ _ _ _ _)
   | (with_reducible exact ih3 _ _ _ _ _ _ _ _ _ _)
   | (with_reducible exact ih4 _ _ _ _ _ _ _ _ _ _)
   | (with_reducible exact LeO.refl _)
   | (with_reducible exact LeO.none _)
   | (with_reducible refine LeO.ite ?_ ?_)
   | (with_reducible refine LeO.bind ?_ (fun _ => ?_))
   | exact ih0 _ _ _
   | exact ih1 _ _ _ _ _
   | exact ih2 _ _ _ _ _ _
   | exact ih3 _ _ _ _ _ _ _ _ _ _
   | exact ih4 _ _ _ _ _ _ _ _ _ _
   | exact LeO.none _
   | refine LeO.ite ?_ ?_
   | refine LeO.bind ?_ (fun _ => ?_)
  ·intro y0 y1 y2 y3 y4 y5
   unfold impl_roots.l1
   repeat' first
   | (with_reducible exact ih0 _ _ _)
   | (with_reducible exact ih1 _ _ _ _ _)
   | (with_reducible exact ih2 _ _ _ _ _ _)
   | (with_reducible exact ih3 _ _ _ _ _ _ _ _ _ _)
   | (with_reducible exact ih4 _ _ _ _ _ _ _ _ _ _)
   | (with_reducible exact LeO.refl _)
   | (with_reducible exact LeO.none _)
   | (with_reducible refine LeO.ite ?_ ?_)
   | (with_reducible refine LeO.bind ?_ (fun _ => ?_))
   | exact ih0 _ _ _
   | exact ih1 _ _ _ _ _
   | exact ih2 _ _ _ _ _ _
   | exact ih3 _ _ _ _ _ _ _ _ _ _
   | exact ih4 _ _ _ _ _ _ _ _ _ _
   | exact LeO.none _
   | refine LeO.ite ?_ ?_
   | refine LeO.bind ?_ (fun _ => ?_)
  ·intro y0 y1 y2 y3 y4 y5 y6 y7 y8 y9
   unfold impl_roots.j3
   repeat' first
   | (with_reducible exact ih0 _ _ _)
   | (with_reducible exact ih1 _ _ _ _ _)
   | (with_reducible exact ih2 _ _ _ _ _ _)
   | (with_reducible exact ih3 _ _ _ _ _ _ _ _ _ _)
   | (with_reducible exact ih4 _ _ _ _ _ _ _ _ _ _)
   | (with_reducible exact LeO.refl _)
   | (with_reducible exact LeO.none _)
   | (with_reducible refine LeO.ite ?_ ?_)
   | (with_reducible refine LeO.bind ?_ (fun _ => ?_))
   | exact ih0 _ _ _
   | exact ih1 _ _ _ _ _
   | exact ih2 _ _ _ _ _ _
   | exact ih3 _ _ _ _ _ _ _ _ _ _
   | exact ih4 _ _ _ _ _ _ _ _ _ _
   | exact LeO.none _
   | refine LeO.ite ?_ ?_
   | refine LeO.bind ?_ (fun _ => ?_)
  ·intro y0 y1 y2 y3 y4 y5 y6 y7 y8 y9
   unfold impl_roots.l2
   repeat' first
   | (with_reducible exact ih0 _ _ _)
   | (with_reducible exact ih1 _ _ _ _ _)
   | (with_reducible exact ih2 _ _ _ _ _ _)
   | (with_reducible exact ih3 _ _ _ _ _ _ _ _ _ _)
   | (with_reducible exact ih4 _ _ _ _ _ _ _ _ _ _)
   | (with_reducible exact LeO.refl _)
   | (with_reducible exact LeO.none _)
   | (with_reducible refine LeO.ite ?_ ?_)
   | (with_reducible refine LeO.bind ?_ (fun _ => ?_))
   | exact ih0 _ _ _
   | exact ih1 _ _ _ _ _
   | exact ih2 _ _ _ _ _ _
   | exact ih3 _ _ _ _ _ _ _ _ _ _
   | exact ih4 _ _ _ _ _ _ _ _ _ _
   | exact LeO.none _
   | refine LeO.ite ?_ ?_
   | refine LeO.bind ?_ (fun _ => ?_)
theorem impl_roots.mono : ∀ a0 a1 k, LeO (impl_roots.f k a0 a1) (impl_roots.f (k + 1) a0 a1) := by
 intro a0 a1 k
 obtain ⟨ih0, ih1, ih2, ih3, ih4⟩ := impl_roots.mono_l k
 unfold impl_roots.f
 repeat' first
   | (with_reducible exact ih0 _ _ _)
   | (with_reducible exact ih1 _ _ _ _ _)
   | (with_reducible exact ih2 _ _ _ _ _ _)
   | (with_reducible exact ih3 _ _ _ _ _ _ _ _ _ _)
   | (with_reducible exact ih4 _ _ _ _ _ _ _ _ _ _)
   | (with_reducible exact LeO.refl _)
   | (with_reducible exact LeO.none _)
   | (with_reducible refine LeO.ite ?_ ?_)
   | (with_reducible refine LeO.bind ?_ (fun _ => ?_))
   | exact ih0 _ _ _
   | exact ih1 _ _ _ _ _
   | exact ih2 _ _ _ _ _ _
   | exact ih3 _ _ _ _ _ _ _ _ _ _
   | exact ih4 _ _ _ _ _ _ _ _ _ _
   | exact LeO.none _
   | refine LeO.ite ?_ ?_
   | refine LeO.bind ?_ (fun _ => ?_)
set_option maxHeartbeats 8000000 in
set_option maxRecDepth 100000 in
theorem impl_roots.calls (k : Nat) (a0_0 : Int) (A0_1 : Option Addr) (c0_1 : Nat) (l0_1 : List (S51)) (r1 : List Int) (r2 : Bool) (w : World) (hr0_1 : Kd.C k51 w A0_1 l0_1.length l0_1) (hc0_1 : l0_1.length ≤ c0_1) (h : impl_roots.f k a0_0 l0_1 = some (r1, r2)) :
  Calls Try.prog 86 #[.agg #[.int .i64 a0_0, .slice A0_1 l0_1.length c0_1]] w fun e w' => ∃ v0_ : Value, e = .returned (.tuple #[v0_, .bool r2]) ∧ Kd.R (Kd.int .i64) 2 w' w.heap.size (fun _ => True) v0_ r1 ∧ Below w.heap.size w w' := by
 have hu35 := Try.underlying35
 have hu51 := Try.underlying51
 have HR0_1 := Aside0.mk hr0_1
 have HC0_1 := Aside0.mk hc0_1
 clear hr0_1 hc0_1
 have HB := Aside0.mk (Below.refl w.heap.size w)
 have H : ((impl_inside.f a0_0 0 1000).bind fun t200 => (if t200 = true then (impl_roots.j0 k (decide ((l0_1.length : Int) > a0_0)) a0_0 l0_1) else (impl_roots.j0 k true a0_0 l0_1))) = some (r1, r2) := h
 clear h
 have HC2 := Aside0.mk H
 clear H
 go_enter Try.func86, Try.ntmps86
 go_upto_region 1 with (first | ((with_reducible refine gate_dst (N := 1) rfl ?_); (try (refine gate_guard (by rfl) ?_; dsimp only)); refine box_event ?hg (N := 1) ?hd (cs := #[.int .i64 a0_0, .slice A0_1 l0_1.length c0_1]) (t := 35) ?hr ?_; (case hd => rfl); (case hg => rfl); (case hr => first | (go_simp; done) | (go_simp; rfl)); intro gb199 hg w3 hbox hb; have n0_ := Aside0.mk (below_step (by repeat (first | (with_reducible first | exact HB.out | apply below_alloc | apply pw_below_drewN | apply below_drew1) | exact HB.out)) hb); have n1_ := Aside0.mk (hbox); have n2_ := Aside0.mk ((by rw [hg]; exact (below_size (by repeat (first | (with_reducible first | exact HB.out | apply below_alloc | apply pw_below_drewN | apply below_drew1) | exact HB.out))) : w.heap.size ≤ gb199)); have n3_ := Aside0.mk ((by rw [hg]; exact (below_size (by repeat (first | (with_reducible first | exact HB.out | apply below_alloc | apply pw_below_drewN | apply below_drew1) | exact HB.out))) : w.heap.size ≤ gb199)); clear HB; have HB := n0_; have BK199 := n1_; have GW199 := n2_; have GE199 := n3_; clear n0_ n1_ n2_ n3_; clear hb hbox hg))
 (try simp only [Act.put, List.setIfInBounds_toArray, List.set_cons_zero, List.set_cons_succ])
 go_cut [23] (fun v23 wc => ∃ (kq : Nat) (x23_1 : Bool), v23 = .bool x23_1 ∧ Aside0 (impl_roots.j0 kq x23_1 a0_0 l0_1 = some (r1, r2)) ∧ Aside0 (kq ≤ k) ∧ Aside0 (wc.heap[gb199]? = some (.cells #[.int .i64 a0_0, (.slice A0_1 l0_1.length c0_1)] 35 (0, 0))) ∧ Aside0 (Below w.heap.size w wc))
 case first =>
  have H := HC2.out
  clear HC2
  replace H := Option.bind_eq_some_iff.mp H
  obtain ⟨t200, A40, H⟩ := H
  replace H : (if t200 = true then (impl_roots.j0 k (decide ((l0_1.length : Int) > a0_0)) a0_0 l0_1) else (impl_roots.j0 k true a0_0 l0_1)) = some (r1, r2) := H
  have A4 := Aside0.mk A40
  clear A40
  by_cases c5 : t200 = true
  ·subst c5
   have H1 : (impl_roots.j0 k (decide ((l0_1.length : Int) > a0_0)) a0_0 l0_1) = some (r1, r2) := by rw [if_pos rfl] at H; exact H
   clear H
   have H := H1
   clear H1
   have H' := Aside0.mk H
   clear H
   have hcz6_0 : w3.cell? ⟨gb199, 0, none⟩ = some (.int .i64 a0_0) := (blk_cell BK199.out 0).trans rfl
   have hcz6_1 : w3.cell? ⟨gb199, 1, none⟩ = some (.slice A0_1 l0_1.length c0_1) := (blk_cell BK199.out 1).trans rfl
   have hfz6_0 := blk_frozen BK199.out 0
   have hfz6_1 := blk_frozen BK199.out 1
   go_wp2_with (first | ((with_reducible refine gate_callee (f := 79) rfl ?_); refine goesL_ (some 14) rfl rfl Try.func79 (by kernel_rfl) rfl #[.int .i64 a0_0, .int .i64 0, .int .i64 1000] rfl (by (try simp only [List.map_toArray, List.map_cons, List.map_nil]); first | done | rfl | (simp only [List.length_drop, List.length_take]; rfl)) ?_; (with_reducible refine (impl_inside.calls a0_0 0 1000 true _ A4.out).mono ?_); rintro e w' ⟨rfl, ⟨nd, rfl⟩⟩; refine ⟨_, rfl, ?_⟩))
   go_meet
   case rel => exact ⟨_, (decide ((l0_1.length : Int) > a0_0)), (by first | rfl | (simp; done) | (simp [*]; done) | (simp only [bne_nil_]; done) | (simp [bne_nil_]; done)), H', ⟨by first | omega | exact Nat.le_refl _⟩, ⟨by (with_reducible repeat (first | refine blk_drewN ?_ _ | refine blk_drew ?_ | refine blk_alloc ?_ _)); exact BK199.out⟩, ⟨by repeat (first | (with_reducible first | exact HB.out | apply below_alloc | apply pw_below_drewN | apply below_drew1 | refine below_set ?_ GE199.out) | exact HB.out)⟩⟩
  ·replace c5 := Bool.eq_false_iff.mpr c5
   subst c5
   have H1 : (impl_roots.j0 k true a0_0 l0_1) = some (r1, r2) := by rw [if_neg (show ¬ (false = true) by decide)] at H; exact H
   clear H
   have H := H1
   clear H1
   have H' := Aside0.mk H
   clear H
   have hcz7_0 : w3.cell? ⟨gb199, 0, none⟩ = some (.int .i64 a0_0) := (blk_cell BK199.out 0).trans rfl
   have hcz7_1 : w3.cell? ⟨gb199, 1, none⟩ = some (.slice A0_1 l0_1.length c0_1) := (blk_cell BK199.out 1).trans rfl
   have hfz7_0 := blk_frozen BK199.out 0
   have hfz7_1 := blk_frozen BK199.out 1
   go_wp2_with (first | ((with_reducible refine gate_callee (f := 79) rfl ?_); refine goesL_ (some 14) rfl rfl Try.func79 (by kernel_rfl) rfl #[.int .i64 a0_0, .int .i64 0, .int .i64 1000] rfl (by (try simp only [List.map_toArray, List.map_cons, List.map_nil]); first | done | rfl | (simp only [List.length_drop, List.length_take]; rfl)) ?_; (with_reducible refine (impl_inside.calls a0_0 0 1000 false _ A4.out).mono ?_); rintro e w' ⟨rfl, ⟨nd, rfl⟩⟩; refine ⟨_, rfl, ?_⟩))
   go_meet
   case rel => exact ⟨_, (true), (by first | rfl | (simp; done) | (simp [*]; done) | (simp only [bne_nil_]; done) | (simp [bne_nil_]; done)), H', ⟨by first | omega | exact Nat.le_refl _⟩, ⟨by (with_reducible repeat (first | refine blk_drewN ?_ _ | refine blk_drew ?_ | refine blk_alloc ?_ _)); exact BK199.out⟩, ⟨by repeat (first | (with_reducible first | exact HB.out | apply below_alloc | apply pw_below_drewN | apply below_drew1 | refine below_set ?_ GE199.out) | exact HB.out)⟩⟩
 case rest =>
  clear HC2
  try clear p2
  try clear c5
  try clear c7
  try clear hcz6_0
  try clear hcz6_1
  try clear hcz7_0
  try clear hcz7_1
  try clear hfz6_0
  try clear hfz6_1
  try clear hfz7_0
  try clear hfz7_1
  obtain ⟨kq, x23_1, rfl, HA, HJ1, BK199, HB⟩ := hcut
  cases kq with
  | zero => exact absurd HA.out (by simp [impl_roots.j0])
  | succ kj1 =>
   have H := HA.out
   clear HA
   simp only [impl_roots.j0] at H
   by_cases c8 : x23_1 = true
   ·subst c8
    have H1 : (some (([] : List Int), false)) = some (r1, r2) := by rw [if_pos rfl] at H; exact H
    clear H
    have H := H1
    clear H1
    simp only [Option.some.injEq, Prod.mk.injEq] at H
    obtain ⟨rfl, rfl⟩ := H
    go_wp2
    go_ret2
    exact ⟨_, by first | rfl | (simp [errW_none, errW_some] <;> rfl) | (simp [*, errW_none, errW_some] <;> rfl), by first | exact Kd.R_nil _ _ _ _ _ | exact Kd.N_nil _ _ _ _ _ | exact Kd.V_nil _ _ _ _ _ | exact Kd.Q_nil _ _ _ _ _ | exact Kd.S_nil _ _ _ _ _, by repeat (first | (with_reducible first | exact HB.out | apply below_alloc | apply pw_below_drewN | apply below_drew1 | refine below_set ?_ GE199.out) | exact HB.out)⟩
   ·replace c8 := Bool.eq_false_iff.mpr c8
    subst c8
    have H1 : (if 0 ≤ a0_0 then (if (a0_0 : Int).toNat ≤ 35184372088832 then ((some (List.replicate (a0_0 : Int).toNat 0 : List Int)).bind fun y201 => (impl_roots.l0 kj1 y201 (y201.length : Int) 0 a0_0 l0_1)) else (none)) else (none)) = some (r1, r2) := by rw [if_neg (show ¬ (false = true) by decide)] at H; exact H
    clear H
    have H := H1
    clear H1
    by_cases c9 : 0 ≤ a0_0
    ·rw [if_pos c9] at H
     have c9b0 := eq_true c9
     have c9b1 : decide (0 ≤ a0_0) = true := decide_eq_true c9
     clear c9
     by_cases c10 : (a0_0 : Int).toNat ≤ 35184372088832
     ·rw [if_pos c10] at H
      have c10b0 := eq_true c10
      have c10b1 : decide ((a0_0 : Int).toNat ≤ 35184372088832) = true := decide_eq_true c10
      clear c10
      obtain ⟨y201, hy201⟩ : ∃ y_ : List Int, y_ = (List.replicate (a0_0 : Int).toNat 0) := ⟨_, rfl⟩
      replace H : (impl_roots.l0 kj1 y201 (y201.length : Int) 0 a0_0 l0_1) = some (r1, r2) := by first | (rw [hy201]; with_reducible exact H) | (have H2_ := (Option.bind_some _ _).symm.trans H; rw [hy201]; with_reducible exact H2_) | (have H2_ := (Option.bind_some _ _).symm.trans H; with_reducible exact H2_) | with_reducible exact H | (rw [hy201]; exact H) | exact H
      have Ny201 := Aside0.mk hy201
      clear hy201
      have H' := Aside0.mk H
      clear H
      have hcz11_0 : wc.cell? ⟨gb199, 0, none⟩ = some (.int .i64 a0_0) := (blk_cell BK199.out 0).trans rfl
      have hcz11_1 : wc.cell? ⟨gb199, 1, none⟩ = some (.slice A0_1 l0_1.length c0_1) := (blk_cell BK199.out 1).trans rfl
      have hfz11_0 := blk_frozen BK199.out 0
      have hfz11_1 := blk_frozen BK199.out 1
      go_wp2_with (first | ((with_reducible refine gate_dst (N := 26) rfl ?_); (try (refine gate_guard (by rfl) ?_; dsimp only)); refine Kd.R_make (Kd.int .i64) _ 2 rfl (N := 26) rfl 55 _ _ rfl a0_0 rfl rfl Try.underlying55 (.int .i64 0) 8 info2 rfl (by decide) (by omega) 0 (ok := fun _ => True) (okp := fun _ => True) rfl (fun _ hk => hk) trivial (of_decide_eq_true (by first | (with_reducible assumption) | assumption)) (Nat.le_trans (Nat.mul_le_mul_right _ (of_decide_eq_true (by first | (with_reducible assumption) | assumption) : a0_0.toNat ≤ 35184372088832)) (by omega)) (Below.refl _ _) (Nat.le_refl _) ?_; intro v202 w12 ho13 hb hg_ hnew_; clear hg_ hnew_; (first | rw [← Ny201.out] at ho13 | (simp only [Int.reduceToNat] at ho13; rw [← Ny201.out] at ho13)); have n0_ := Aside0.mk (Kd.R_lower ho13 (below_size (by repeat (first | (with_reducible first | exact HB.out | apply below_alloc | apply pw_below_drewN | apply below_drew1 | refine below_set ?_ GE199.out) | exact HB.out)))); have n1_ := Aside0.mk (blk_below (g := gb199) (o := .cells #[.int .i64 a0_0, .slice A0_1 l0_1.length c0_1] 35 (0, 0)) (by (with_reducible repeat (first | refine blk_drewN ?_ _ | refine blk_drew ?_ | refine blk_alloc ?_ _)); exact BK199.out) hb); have n2_ := Aside0.mk (below_step (by repeat (first | (with_reducible first | exact HB.out | apply below_alloc | apply pw_below_drewN | apply below_drew1 | refine below_set ?_ GE199.out) | exact HB.out)) hb); clear BK199; clear HB; have HO203 := n0_; have BK199 := n1_; have HB := n2_; clear n0_ n1_ n2_; clear hb ho13; obtain ⟨Ao14, co14, eo14⟩ := Kd.R_slice HO203.out; subst eo14))
      go_loopg [29] kj1 (fun kq v29 w' => ∃ (x4_2 : List Int) (x29_2 : Int), v29 = .int .i64 x29_2 ∧ Aside0 (impl_roots.l0 kq x4_2 (y201.length : Int) x29_2 a0_0 l0_1 = some (r1, r2)) ∧ Aside0 (kq ≤ kj1) ∧ Aside0 (Kd.R (Kd.int .i64) 2 w' w.heap.size (fun _ => True) (.slice Ao14 y201.length co14) x4_2) ∧ Aside0 (w'.heap[gb199]? = some (.cells #[.int .i64 a0_0, (.slice A0_1 l0_1.length c0_1)] 35 (0, 0))) ∧ Aside0 (Below w.heap.size w w'))
      case atStart => exact ⟨(y201), (0), (by first | rfl | (simp; done) | (simp [*]; done) | (simp only [bne_nil_]; done) | (simp [bne_nil_]; done)), H', ⟨Nat.le_refl _⟩, ⟨by (with_reducible repeat (first | apply Kd.R_alloc | apply Kd.R_drewN | apply Kd.R_drew)); exact HO203.out⟩, ⟨by (with_reducible repeat (first | refine blk_drewN ?_ _ | refine blk_drew ?_ | refine blk_alloc ?_ _)); exact BK199.out⟩, ⟨by repeat (first | (with_reducible first | exact HB.out | apply below_alloc | apply pw_below_drewN | apply below_drew1 | refine below_set ?_ GE199.out) | exact HB.out)⟩⟩
      case round =>
       clear H'
       try clear c1
       try clear p2
       try clear c5
       try clear c7
       try clear c8
       try clear c9
       try clear c9b0
       try clear c9b1
       try clear c10
       try clear c10b0
       try clear c10b1
       try clear hcz11_0
       try clear hcz11_1
       try clear hcz6_0
       try clear hcz6_1
       try clear hcz7_0
       try clear hcz7_1
       try clear hfz11_0
       try clear hfz11_1
       try clear hfz6_0
       try clear hfz6_1
       try clear hfz7_0
       try clear hfz7_1
       try clear p2
       obtain ⟨x4_2, x29_2, rfl, HA, HK2, HO_4, BK199, HB⟩ := hrel
       have hl4_2 := (Kd.R_reads' HO_4.out).1
       rw [hl4_2] at HO_4
       (try simp only [hl4_2])
       (try simp only [hl4_2] at BK199)
       cases gk with
       | zero => exact absurd HA.out (by simp [impl_roots.l0])
       | succ k2 =>
        have H := HA.out
        clear HA
        simp only [impl_roots.l0] at H
        by_cases c15 : x29_2 < (y201.length : Int)
        ·rw [if_pos c15] at H
         have c15b0 : decide (x29_2 < (y201.length : Int)) = true := decide_eq_true c15
         (try simp only [hl4_2] at c15b0)
         clear c15
         by_cases c16 : 0 ≤ x29_2
         ·rw [if_pos c16] at H
          have c16b0 : decide (0 ≤ x29_2) = true := decide_eq_true c16
          clear c16
          by_cases c17 : x29_2 < (x4_2.length : Int)
          ·rw [if_pos c17] at H
           have c17b0 : decide (x29_2 < (x4_2.length : Int)) = true := decide_eq_true c17
           (try simp only [hl4_2] at c17b0)
           clear c17
           obtain ⟨y204, hy204⟩ : ∃ y_ : List Int, y_ = (x4_2.set (x29_2 : Int).toNat x29_2) := ⟨_, rfl⟩
           replace H : (impl_roots.l0 k2 y204 (y201.length : Int) (wrap64 (x29_2 + 1)) a0_0 l0_1) = some (r1, r2) := by first | (rw [hy204]; with_reducible exact H) | (have H2_ := (Option.bind_some _ _).symm.trans H; rw [hy204]; with_reducible exact H2_) | (have H2_ := (Option.bind_some _ _).symm.trans H; with_reducible exact H2_) | with_reducible exact H | (rw [hy204]; exact H) | exact H
           have Ny204 := Aside0.mk hy204
           clear hy204
           have H' := Aside0.mk H
           clear H
           have p18 : 0 ≤ (x29_2 : Int) := of_decide_eq_true (by first | (with_reducible assumption) | assumption)
           have q18 : (x29_2 : Int) < ((x4_2.length : Int) : Int) := of_decide_eq_true (by first | (with_reducible assumption) | assumption)
           obtain ⟨go18, co18, eo18, gb18, gl18, cl18, HG18⟩ := Kd.R_form HO_4.out (by omega)
           (first | cases eo18 | (injection eo18 with ea_ en_ ec_; (first | subst ea_ | (injection ea_ with ea_; subst ea_)); subst ec_; clear en_))
           have GB18 := Aside0.mk gb18
           have GG18 := Aside0.mk HG18
           clear gb18 gl18 HG18
           obtain ⟨hx18_0, hf18_0⟩ := Kd.R_celln 0 HO_4.out (x29_2 : Int) p18 q18
           replace p18 := eq_true p18
           replace q18 := eq_true q18
           have HP19 := Kd.R_putg HO_4.out (x29_2 : Int) x29_2
           go_wp2_with (first | ((with_reducible refine gate_store (t := 2) (p := 35) rfl ?_); refine store_event (t := 2) (p := 35) (v := ?vo_w20) (w1 := (wr.setCell ⟨go18, (x29_2 : Int).toNat, none⟩ (.int .i64 x29_2))) ?hg ?ho ?hn ?hr ?_; (case ho => rfl); (case hg => rfl); (case hn => rfl); (case hr => first | (go_simp; done) | (go_simp; rfl) | ((try (obtain ⟨_, _, e_⟩ := Kd.R_slice HO_4.out; subst e_)); first | (go_simp; done) | (go_simp; rfl))); intro w20 hw; have hg : wr.grownBy w20 (some go18) := (by rw [hw]; exact HP19.2); have hp_ : Kd.R (Kd.int .i64) 2 w20 w.heap.size (fun _ => True) (.slice (some ⟨go18, 0, none⟩) x4_2.length co14) y204 := (by rw [hw, Ny204.out]; exact HP19.1); clear HP19; have n0_ := Aside0.mk (hp_); have n1_ := Aside0.mk (blk_grown (g := gb199) (o := .cells #[.int .i64 a0_0, .slice A0_1 l0_1.length c0_1] 35 (0, 0)) (by (with_reducible repeat (first | refine blk_drewN ?_ _ | refine blk_drew ?_ | refine blk_alloc ?_ _)); exact BK199.out) hg (Kd.R_ne HO_4.out BK199.out (by decide))); have n2_ := Aside0.mk ((by rw [hw]; exact below_set (HB.out) GB18.out : Below w.heap.size w w20)); clear HO_4; clear BK199; clear HB; have HO_4 := n0_; have BK199 := n1_; have HB := n2_; clear n0_ n1_ n2_; clear hg hw hp_))
           (try simp only [← hl4_2])
           (try simp only [add_plain] at *)
           go_roundg k2
           case measure => have := HJ1.out; have := HK2.out; omega
           case rel => exact ⟨(y204), (wrap64 (x29_2 + 1)), (by first | rfl | (simp; done) | (simp [*]; done) | (simp only [bne_nil_]; done) | (simp [bne_nil_]; done)), H', ⟨by have := HJ1.out; have := HK2.out; omega⟩, ⟨by (try simp only [hl4_2]); (with_reducible repeat (first | apply Kd.R_alloc | apply Kd.R_drewN | apply Kd.R_drew)); exact HO_4.out⟩, ⟨by (try simp only [hl4_2]); (with_reducible repeat (first | refine blk_drewN ?_ _ | refine blk_drew ?_ | refine blk_alloc ?_ _)); exact BK199.out⟩, ⟨by repeat (first | (with_reducible first | exact HB.out | apply below_alloc | apply pw_below_drewN | apply below_drew1 | refine below_set ?_ GE199.out) | exact HB.out)⟩⟩
          ·rw [if_neg c17] at H
           exact absurd H (by simp)
         ·rw [if_neg c16] at H
          exact absurd H (by simp)
        ·rw [if_neg c15] at H
         have c15b0 : decide (x29_2 < (y201.length : Int)) = false := decide_eq_false c15
         (try simp only [hl4_2] at c15b0)
         clear c15
         have H' := Aside0.mk H
         clear H
         have hcz21_0 : wr.cell? ⟨gb199, 0, none⟩ = some (.int .i64 a0_0) := (blk_cell BK199.out 0).trans rfl
         have hcz21_1 : wr.cell? ⟨gb199, 1, none⟩ = some (.slice A0_1 l0_1.length c0_1) := (blk_cell BK199.out 1).trans rfl
         have hfz21_0 := blk_frozen BK199.out 0
         have hfz21_1 := blk_frozen BK199.out 1
         go_wp2
         go_loopg [40] k2 (fun kq v40 w' => ∃ (x4_3 : List Int) (x40_3 : Int), v40 = .int .i64 x40_3 ∧ Aside0 (impl_roots.l1 kq x4_3 l0_1 (l0_1.length : Int) x40_3 a0_0 l0_1 = some (r1, r2)) ∧ Aside0 (kq ≤ k2) ∧ Aside0 (Kd.R (Kd.int .i64) 2 w' w.heap.size (fun _ => True) (.slice Ao14 x4_2.length co14) x4_3) ∧ Aside0 (w'.heap[gb199]? = some (.cells #[.int .i64 a0_0, (.slice A0_1 l0_1.length c0_1)] 35 (0, 0))) ∧ Aside0 (Below w.heap.size w w'))
         case atStart => exact ⟨(x4_2), (0), (by first | rfl | (simp; done) | (simp [*]; done) | (simp only [bne_nil_]; done) | (simp [bne_nil_]; done)), H', ⟨Nat.le_refl _⟩, ⟨by (try simp only [hl4_2]); (with_reducible repeat (first | apply Kd.R_alloc | apply Kd.R_drewN | apply Kd.R_drew)); exact HO_4.out⟩, ⟨by (try simp only [hl4_2]); (with_reducible repeat (first | refine blk_drewN ?_ _ | refine blk_drew ?_ | refine blk_alloc ?_ _)); exact BK199.out⟩, ⟨by repeat (first | (with_reducible first | exact HB.out | apply below_alloc | apply pw_below_drewN | apply below_drew1 | refine below_set ?_ GE199.out) | exact HB.out)⟩⟩
         case round =>
          clear H'
          try clear c1
          try clear p1
          try clear q1
          try clear hx1
          try clear hf1
          try clear p2
          try clear c5
          try clear p6
          try clear c7
          try clear c8
          try clear c9
          try clear c9b0
          try clear c9b1
          try clear c10
          try clear c10b0
          try clear c10b1
          try clear c15
          try clear c15b0
          try clear c16
          try clear c16b0
          try clear c17
          try clear c17b0
          try clear p18
          try clear q18
          try clear hx18
          try clear hf18
          try clear hcz11_0
          try clear hcz11_1
          try clear hcz21_0
          try clear hcz21_1
          try clear hcz6_0
          try clear hcz6_1
          try clear hcz7_0
          try clear hcz7_1
          try clear hfz11_0
          try clear hfz11_1
          try clear hfz21_0
          try clear hfz21_1
          try clear hfz6_0
          try clear hfz6_1
          try clear hfz7_0
          try clear hfz7_1
          try clear hx18_0
          try clear p18
          try clear p2
          try clear q18
          obtain ⟨x4_3, x40_3, rfl, HA, HK3, HO_4, BK199, HB⟩ := hrel
          have hl4_3 := (Kd.R_reads' HO_4.out).1
          rw [hl4_3] at HO_4
          (try simp only [hl4_3])
          (try simp only [hl4_3] at BK199)
          cases gk with
          | zero => exact absurd HA.out (by simp [impl_roots.l1])
          | succ k3 =>
           have H := HA.out
           clear HA
           simp only [impl_roots.l1] at H
           by_cases c22 : x40_3 < (l0_1.length : Int)
           ·rw [if_pos c22] at H
            have c22b0 : decide (x40_3 < (l0_1.length : Int)) = true := decide_eq_true c22
            (try simp only [hl4_2] at c22b0)
            (try simp only [hl4_3] at c22b0)
            clear c22
            by_cases c23 : 0 ≤ x40_3
            ·rw [if_pos c23] at H
             have c23b0 : decide (0 ≤ x40_3) = true := decide_eq_true c23
             clear c23
             by_cases c24 : x40_3 < (l0_1.length : Int)
             ·rw [if_pos c24] at H
              have c24b0 : decide (x40_3 < (l0_1.length : Int)) = true := decide_eq_true c24
              (try simp only [hl4_2] at c24b0)
              (try simp only [hl4_3] at c24b0)
              clear c24
              have HC25 := Aside0.mk H
              clear H
              have p205 : 0 ≤ (x40_3 : Int) := of_decide_eq_true (by first | (with_reducible assumption) | assumption)
              have q205 : x40_3 < (l0_1.length : Int) := of_decide_eq_true (by first | (with_reducible assumption) | assumption)
              obtain ⟨ad205, e205, hx205_0, hx205_1, hx205_2⟩ := at_T51 HR0_1.out x40_3 p205 q205
              cases e205
              replace hx205_0 := (HB.out.cell (World.block_lt_of_cell? w _ hx205_0)).trans hx205_0
              replace hx205_1 := (HB.out.cell (World.block_lt_of_cell? w _ hx205_1)).trans hx205_1
              replace hx205_2 := (HB.out.cell (World.block_lt_of_cell? w _ hx205_2)).trans hx205_2
              replace p205 := eq_true p205
              replace q205 := eq_true q205
              go_upto_region 12 with (first | ((with_reducible refine gate_dst (N := 7) rfl ?_); (try (refine gate_guard (by rfl) ?_; dsimp only)); refine box_event ?hg (N := 7) ?hd (cs := #[.int .i64 0, .int .i64 0, .int .i64 0]) (t := 51) ?hr ?_; (case hd => rfl); (case hg => rfl); (case hr => first | (go_simp; done) | (go_simp; rfl)); intro gb206 hg w26 hbox hb; have n0_ := Aside0.mk (Kd.R_below (by (with_reducible repeat (first | apply Kd.R_alloc | apply Kd.R_drewN | apply Kd.R_drew)); exact HO_4.out) hb); have n1_ := Aside0.mk (blk_below (g := gb199) (o := .cells #[.int .i64 a0_0, .slice (some ad205) l0_1.length c0_1] 35 (0, 0)) (by (with_reducible repeat (first | refine blk_drewN ?_ _ | refine blk_drew ?_ | refine blk_alloc ?_ _)); exact BK199.out) hb); have n2_ := Aside0.mk (below_step (by repeat (first | (with_reducible first | exact HB.out | apply below_alloc | apply pw_below_drewN | apply below_drew1 | refine below_set ?_ GE199.out) | exact HB.out)) hb); have n3_ := Aside0.mk (hbox); have n4_ := Aside0.mk ((by rw [hg]; exact (below_size (by repeat (first | (with_reducible first | exact HB.out | apply below_alloc | apply pw_below_drewN | apply below_drew1 | refine below_set ?_ GE199.out) | exact HB.out))) : w.heap.size ≤ gb206)); have n5_ := Aside0.mk ((by rw [hg]; exact (below_size (by repeat (first | (with_reducible first | exact HB.out | apply below_alloc | apply pw_below_drewN | apply below_drew1 | refine below_set ?_ GE199.out) | exact HB.out))) : w.heap.size ≤ gb206)); have n6_ := Aside0.mk ((by rw [hg]; exact Nat.ne_of_lt (blk_lt (g := gb199) (o := .cells #[.int .i64 a0_0, .slice (some ad205) l0_1.length c0_1] 35 (0, 0)) (by (with_reducible repeat (first | refine blk_drewN ?_ _ | refine blk_drew ?_ | refine blk_alloc ?_ _)); exact BK199.out)) : gb199 ≠ gb206)); have n7_ := Aside0.mk ((by rw [hg]; exact Nat.ne_of_gt (blk_lt (g := gb199) (o := .cells #[.int .i64 a0_0, .slice (some ad205) l0_1.length c0_1] 35 (0, 0)) (by (with_reducible repeat (first | refine blk_drewN ?_ _ | refine blk_drew ?_ | refine blk_alloc ?_ _)); exact BK199.out)) : gb206 ≠ gb199)); clear HO_4; clear BK199; clear HB; have HO_4 := n0_; have BK199 := n1_; have HB := n2_; have BK206 := n3_; have GW206 := n4_; have GE206 := n5_; have NB199_206 := n6_; have NB206_199 := n7_; clear n0_ n1_ n2_ n3_ n4_ n5_ n6_ n7_; clear hb hbox hg; have hnb27 := NB206_199.out; have hnc27 := NB199_206.out; have hcz28_0 : w26.cell? ⟨gb206, 0, none⟩ = some (.int .i64 0) := (blk_cell BK206.out 0).trans rfl; have hcz28_1 : w26.cell? ⟨gb206, 1, none⟩ = some (.int .i64 0) := (blk_cell BK206.out 1).trans rfl; have hcz28_2 : w26.cell? ⟨gb206, 2, none⟩ = some (.int .i64 0) := (blk_cell BK206.out 2).trans rfl; have hfz28_0 := blk_frozen BK206.out 0; have hfz28_1 := blk_frozen BK206.out 1; have hfz28_2 := blk_frozen BK206.out 2))
              (try simp only [Act.put, List.setIfInBounds_toArray, List.set_cons_zero, List.set_cons_succ])
              go_cut [78] (fun v78 wc => ∃ (kq : Nat) (x78_24 : Bool), v78 = .bool x78_24 ∧ Aside0 (impl_roots.j3 kq x4_3 l0_1 (l0_1.length : Int) x40_3 x78_24 a0_0 l0_1 ((rd_T51 l0_1 x40_3).f0) ((rd_T51 l0_1 x40_3).f1) ((rd_T51 l0_1 x40_3).f2) = some (r1, r2)) ∧ Aside0 (kq ≤ k3) ∧ Aside0 (Kd.R (Kd.int .i64) 2 wc w.heap.size (fun _ => True) (.slice Ao14 x4_3.length co14) x4_3) ∧ Aside0 (wc.heap[gb199]? = some (.cells #[.int .i64 a0_0, (.slice (some ad205) l0_1.length c0_1)] 35 (0, 0))) ∧ Aside0 (wc.heap[gb206]? = some (.cells #[.int .i64 ((rd_T51 l0_1 x40_3).f0), .int .i64 ((rd_T51 l0_1 x40_3).f1), .int .i64 ((rd_T51 l0_1 x40_3).f2)] 51 (0, 0))) ∧ Aside0 (Below w.heap.size w wc))
              case first =>
               have H := HC25.out
               clear HC25
               replace H := Option.bind_eq_some_iff.mp H
               obtain ⟨t207, A290, H⟩ := H
               replace H : (if t207 = true then ((impl_inside.f ((rd_T51 l0_1 x40_3).f1) 0 (wrap64 (a0_0 - 1))).bind fun t208 => (if t208 = true then ((impl_inside.f ((rd_T51 l0_1 x40_3).f2) 0 1000000).bind fun t209 => (if t209 = true then (if 0 ≤ ((rd_T51 l0_1 x40_3).f0) then (if ((rd_T51 l0_1 x40_3).f0) < (x4_3.length : Int) then (if 0 ≤ ((rd_T51 l0_1 x40_3).f1) then (if ((rd_T51 l0_1 x40_3).f1) < (x4_3.length : Int) then (impl_roots.j3 k3 x4_3 l0_1 (l0_1.length : Int) x40_3 ((rd x4_3 ((rd_T51 l0_1 x40_3).f0)) == (rd x4_3 ((rd_T51 l0_1 x40_3).f1))) a0_0 l0_1 ((rd_T51 l0_1 x40_3).f0) ((rd_T51 l0_1 x40_3).f1) ((rd_T51 l0_1 x40_3).f2)) else (none)) else (none)) else (none)) else (none)) else (impl_roots.j3 k3 x4_3 l0_1 (l0_1.length : Int) x40_3 true a0_0 l0_1 ((rd_T51 l0_1 x40_3).f0) ((rd_T51 l0_1 x40_3).f1) ((rd_T51 l0_1 x40_3).f2)))) else (impl_roots.j3 k3 x4_3 l0_1 (l0_1.length : Int) x40_3 true a0_0 l0_1 ((rd_T51 l0_1 x40_3).f0) ((rd_T51 l0_1 x40_3).f1) ((rd_T51 l0_1 x40_3).f2)))) else (impl_roots.j3 k3 x4_3 l0_1 (l0_1.length : Int) x40_3 true a0_0 l0_1 ((rd_T51 l0_1 x40_3).f0) ((rd_T51 l0_1 x40_3).f1) ((rd_T51 l0_1 x40_3).f2))) = some (r1, r2) := H
               have A29 := Aside0.mk A290
               clear A290
               by_cases c30 : t207 = true
               ·subst c30
                have H1 : ((impl_inside.f ((rd_T51 l0_1 x40_3).f1) 0 (wrap64 (a0_0 - 1))).bind fun t208 => (if t208 = true then ((impl_inside.f ((rd_T51 l0_1 x40_3).f2) 0 1000000).bind fun t209 => (if t209 = true then (if 0 ≤ ((rd_T51 l0_1 x40_3).f0) then (if ((rd_T51 l0_1 x40_3).f0) < (x4_3.length : Int) then (if 0 ≤ ((rd_T51 l0_1 x40_3).f1) then (if ((rd_T51 l0_1 x40_3).f1) < (x4_3.length : Int) then (impl_roots.j3 k3 x4_3 l0_1 (l0_1.length : Int) x40_3 ((rd x4_3 ((rd_T51 l0_1 x40_3).f0)) == (rd x4_3 ((rd_T51 l0_1 x40_3).f1))) a0_0 l0_1 ((rd_T51 l0_1 x40_3).f0) ((rd_T51 l0_1 x40_3).f1) ((rd_T51 l0_1 x40_3).f2)) else (none)) else (none)) else (none)) else (none)) else (impl_roots.j3 k3 x4_3 l0_1 (l0_1.length : Int) x40_3 true a0_0 l0_1 ((rd_T51 l0_1 x40_3).f0) ((rd_T51 l0_1 x40_3).f1) ((rd_T51 l0_1 x40_3).f2)))) else (impl_roots.j3 k3 x4_3 l0_1 (l0_1.length : Int) x40_3 true a0_0 l0_1 ((rd_T51 l0_1 x40_3).f0) ((rd_T51 l0_1 x40_3).f1) ((rd_T51 l0_1 x40_3).f2)))) = some (r1, r2) := by rw [if_pos rfl] at H; exact H
                clear H
                have H := H1
                clear H1
                replace H := Option.bind_eq_some_iff.mp H
                obtain ⟨t208, A310, H⟩ := H
                replace H : (if t208 = true then ((impl_inside.f ((rd_T51 l0_1 x40_3).f2) 0 1000000).bind fun t209 => (if t209 = true then (if 0 ≤ ((rd_T51 l0_1 x40_3).f0) then (if ((rd_T51 l0_1 x40_3).f0) < (x4_3.length : Int) then (if 0 ≤ ((rd_T51 l0_1 x40_3).f1) then (if ((rd_T51 l0_1 x40_3).f1) < (x4_3.length : Int) then (impl_roots.j3 k3 x4_3 l0_1 (l0_1.length : Int) x40_3 ((rd x4_3 ((rd_T51 l0_1 x40_3).f0)) == (rd x4_3 ((rd_T51 l0_1 x40_3).f1))) a0_0 l0_1 ((rd_T51 l0_1 x40_3).f0) ((rd_T51 l0_1 x40_3).f1) ((rd_T51 l0_1 x40_3).f2)) else (none)) else (none)) else (none)) else (none)) else (impl_roots.j3 k3 x4_3 l0_1 (l0_1.length : Int) x40_3 true a0_0 l0_1 ((rd_T51 l0_1 x40_3).f0) ((rd_T51 l0_1 x40_3).f1) ((rd_T51 l0_1 x40_3).f2)))) else (impl_roots.j3 k3 x4_3 l0_1 (l0_1.length : Int) x40_3 true a0_0 l0_1 ((rd_T51 l0_1 x40_3).f0) ((rd_T51 l0_1 x40_3).f1) ((rd_T51 l0_1 x40_3).f2))) = some (r1, r2) := H
                have A31 := Aside0.mk A310
                clear A310
                by_cases c32 : t208 = true
                ·subst c32
                 have H1 : ((impl_inside.f ((rd_T51 l0_1 x40_3).f2) 0 1000000).bind fun t209 => (if t209 = true then (if 0 ≤ ((rd_T51 l0_1 x40_3).f0) then (if ((rd_T51 l0_1 x40_3).f0) < (x4_3.length : Int) then (if 0 ≤ ((rd_T51 l0_1 x40_3).f1) then (if ((rd_T51 l0_1 x40_3).f1) < (x4_3.length : Int) then (impl_roots.j3 k3 x4_3 l0_1 (l0_1.length : Int) x40_3 ((rd x4_3 ((rd_T51 l0_1 x40_3).f0)) == (rd x4_3 ((rd_T51 l0_1 x40_3).f1))) a0_0 l0_1 ((rd_T51 l0_1 x40_3).f0) ((rd_T51 l0_1 x40_3).f1) ((rd_T51 l0_1 x40_3).f2)) else (none)) else (none)) else (none)) else (none)) else (impl_roots.j3 k3 x4_3 l0_1 (l0_1.length : Int) x40_3 true a0_0 l0_1 ((rd_T51 l0_1 x40_3).f0) ((rd_T51 l0_1 x40_3).f1) ((rd_T51 l0_1 x40_3).f2)))) = some (r1, r2) := by rw [if_pos rfl] at H; exact H
                 clear H
                 have H := H1
                 clear H1
                 replace H := Option.bind_eq_some_iff.mp H
                 obtain ⟨t209, A330, H⟩ := H
                 replace H : (if t209 = true then (if 0 ≤ ((rd_T51 l0_1 x40_3).f0) then (if ((rd_T51 l0_1 x40_3).f0) < (x4_3.length : Int) then (if 0 ≤ ((rd_T51 l0_1 x40_3).f1) then (if ((rd_T51 l0_1 x40_3).f1) < (x4_3.length : Int) then (impl_roots.j3 k3 x4_3 l0_1 (l0_1.length : Int) x40_3 ((rd x4_3 ((rd_T51 l0_1 x40_3).f0)) == (rd x4_3 ((rd_T51 l0_1 x40_3).f1))) a0_0 l0_1 ((rd_T51 l0_1 x40_3).f0) ((rd_T51 l0_1 x40_3).f1) ((rd_T51 l0_1 x40_3).f2)) else (none)) else (none)) else (none)) else (none)) else (impl_roots.j3 k3 x4_3 l0_1 (l0_1.length : Int) x40_3 true a0_0 l0_1 ((rd_T51 l0_1 x40_3).f0) ((rd_T51 l0_1 x40_3).f1) ((rd_T51 l0_1 x40_3).f2))) = some (r1, r2) := H
                 have A33 := Aside0.mk A330
                 clear A330
                 by_cases c34 : t209 = true
                 ·subst c34
                  have H1 : (if 0 ≤ ((rd_T51 l0_1 x40_3).f0) then (if ((rd_T51 l0_1 x40_3).f0) < (x4_3.length : Int) then (if 0 ≤ ((rd_T51 l0_1 x40_3).f1) then (if ((rd_T51 l0_1 x40_3).f1) < (x4_3.length : Int) then (impl_roots.j3 k3 x4_3 l0_1 (l0_1.length : Int) x40_3 ((rd x4_3 ((rd_T51 l0_1 x40_3).f0)) == (rd x4_3 ((rd_T51 l0_1 x40_3).f1))) a0_0 l0_1 ((rd_T51 l0_1 x40_3).f0) ((rd_T51 l0_1 x40_3).f1) ((rd_T51 l0_1 x40_3).f2)) else (none)) else (none)) else (none)) else (none)) = some (r1, r2) := by rw [if_pos rfl] at H; exact H
                  clear H
                  have H := H1
                  clear H1
                  by_cases c35 : 0 ≤ ((rd_T51 l0_1 x40_3).f0)
                  ·rw [if_pos c35] at H
                   have c35b0 : decide (0 ≤ ((rd_T51 l0_1 x40_3).f0)) = true := decide_eq_true c35
                   clear c35
                   (first | rw [c35b0] | (simp only [i64_w, i32_w]; rw [c35b0]) | skip)
                   by_cases c36 : ((rd_T51 l0_1 x40_3).f0) < (x4_3.length : Int)
                   ·rw [if_pos c36] at H
                    have c36b0 : decide (((rd_T51 l0_1 x40_3).f0) < (x4_3.length : Int)) = true := decide_eq_true c36
                    (try simp only [hl4_2] at c36b0)
                    (try simp only [hl4_3] at c36b0)
                    clear c36
                    by_cases c37 : 0 ≤ ((rd_T51 l0_1 x40_3).f1)
                    ·rw [if_pos c37] at H
                     have c37b0 : decide (0 ≤ ((rd_T51 l0_1 x40_3).f1)) = true := decide_eq_true c37
                     clear c37
                     by_cases c38 : ((rd_T51 l0_1 x40_3).f1) < (x4_3.length : Int)
                     ·rw [if_pos c38] at H
                      have c38b0 : decide (((rd_T51 l0_1 x40_3).f1) < (x4_3.length : Int)) = true := decide_eq_true c38
                      (try simp only [hl4_2] at c38b0)
                      (try simp only [hl4_3] at c38b0)
                      clear c38
                      have H' := Aside0.mk H
                      clear H
                      try go_wp2
                      have n0_ : Aside0 (Kd.R (Kd.int .i64) 2 (((w26.setCell ⟨gb206, 0, none⟩ (.int .i64 ((rd_T51 l0_1 x40_3).f0))).setCell ⟨gb206, 1, none⟩ (.int .i64 ((rd_T51 l0_1 x40_3).f1))).setCell ⟨gb206, 2, none⟩ (.int .i64 ((rd_T51 l0_1 x40_3).f2))) w.heap.size (fun _ => True) (.slice Ao14 x4_3.length co14) x4_3) := ⟨by (with_reducible repeat (first | apply Kd.R_alloc | apply Kd.R_drewN | apply Kd.R_drew)); exact Kd.R_mono (Kd.R_far (p := ⟨gb206, 2, none⟩) (Kd.R_far (p := ⟨gb206, 1, none⟩) (Kd.R_far (p := ⟨gb206, 0, none⟩) (Kd.R_types HO_4.out BK206.out (by decide)) (fun _ hk => hk.2) (.int .i64 ((rd_T51 l0_1 x40_3).f0))) (fun _ hk => hk.2) (.int .i64 ((rd_T51 l0_1 x40_3).f1))) (fun _ hk => hk.2) (.int .i64 ((rd_T51 l0_1 x40_3).f2))) (fun _ hk => trivial)⟩
                      have n1_ : Aside0 ((((w26.setCell ⟨gb206, 0, none⟩ (.int .i64 ((rd_T51 l0_1 x40_3).f0))).setCell ⟨gb206, 1, none⟩ (.int .i64 ((rd_T51 l0_1 x40_3).f1))).setCell ⟨gb206, 2, none⟩ (.int .i64 ((rd_T51 l0_1 x40_3).f2))).heap[gb199]? = some (.cells #[.int .i64 a0_0, .slice (some ad205) l0_1.length c0_1] 35 (0, 0))) := ⟨by (with_reducible repeat (first | refine blk_drewN ?_ _ | refine blk_drew ?_ | refine blk_alloc ?_ _)); refine blk_far ?_ NB199_206.out _; (with_reducible repeat (first | refine blk_drewN ?_ _ | refine blk_drew ?_ | refine blk_alloc ?_ _)); refine blk_far ?_ NB199_206.out _; (with_reducible repeat (first | refine blk_drewN ?_ _ | refine blk_drew ?_ | refine blk_alloc ?_ _)); refine blk_far ?_ NB199_206.out _; (with_reducible repeat (first | refine blk_drewN ?_ _ | refine blk_drew ?_ | refine blk_alloc ?_ _)); exact BK199.out⟩
                      have n2_ : Aside0 ((((w26.setCell ⟨gb206, 0, none⟩ (.int .i64 ((rd_T51 l0_1 x40_3).f0))).setCell ⟨gb206, 1, none⟩ (.int .i64 ((rd_T51 l0_1 x40_3).f1))).setCell ⟨gb206, 2, none⟩ (.int .i64 ((rd_T51 l0_1 x40_3).f2))).heap[gb206]? = some (.cells #[.int .i64 ((rd_T51 l0_1 x40_3).f0), .int .i64 ((rd_T51 l0_1 x40_3).f1), .int .i64 ((rd_T51 l0_1 x40_3).f2)] 51 (0, 0))) := ⟨by (with_reducible repeat (first | refine blk_drewN ?_ _ | refine blk_drew ?_ | refine blk_alloc ?_ _)); refine blk_put (cs := #[.int .i64 ((rd_T51 l0_1 x40_3).f0), .int .i64 ((rd_T51 l0_1 x40_3).f1), .int .i64 0]) ?_ 2 _ rfl; (with_reducible repeat (first | refine blk_drewN ?_ _ | refine blk_drew ?_ | refine blk_alloc ?_ _)); refine blk_put (cs := #[.int .i64 ((rd_T51 l0_1 x40_3).f0), .int .i64 0, .int .i64 0]) ?_ 1 _ rfl; (with_reducible repeat (first | refine blk_drewN ?_ _ | refine blk_drew ?_ | refine blk_alloc ?_ _)); refine blk_put (cs := #[.int .i64 0, .int .i64 0, .int .i64 0]) ?_ 0 _ rfl; (with_reducible repeat (first | refine blk_drewN ?_ _ | refine blk_drew ?_ | refine blk_alloc ?_ _)); exact BK206.out⟩
                      have n3_ : Aside0 (Below w.heap.size w (((w26.setCell ⟨gb206, 0, none⟩ (.int .i64 ((rd_T51 l0_1 x40_3).f0))).setCell ⟨gb206, 1, none⟩ (.int .i64 ((rd_T51 l0_1 x40_3).f1))).setCell ⟨gb206, 2, none⟩ (.int .i64 ((rd_T51 l0_1 x40_3).f2)))) := ⟨by repeat (first | (with_reducible first | exact HB.out | apply below_alloc | apply pw_below_drewN | apply below_drew1 | refine below_set ?_ GE199.out | refine below_set ?_ GE206.out) | exact HB.out)⟩
                      (try clear HO_4)
                      (try clear BK199)
                      (try clear BK206)
                      (try clear HB)
                      generalize (((w26.setCell ⟨gb206, 0, none⟩ (.int .i64 ((rd_T51 l0_1 x40_3).f0))).setCell ⟨gb206, 1, none⟩ (.int .i64 ((rd_T51 l0_1 x40_3).f1))).setCell ⟨gb206, 2, none⟩ (.int .i64 ((rd_T51 l0_1 x40_3).f2))) = w39 at n0_ n1_ n2_ n3_ ⊢
                      have HO_4 := n0_
                      have BK199 := n1_
                      have BK206 := n2_
                      have HB := n3_
                      clear n0_ n1_ n2_ n3_
                      have p210 : 0 ≤ (((rd_T51 l0_1 x40_3).f0) : Int) := of_decide_eq_true (by first | (with_reducible assumption) | assumption)
                      have q210 : ((rd_T51 l0_1 x40_3).f0) < (x4_3.length : Int) := of_decide_eq_true (by first | (with_reducible assumption) | assumption)
                      obtain ⟨ad210, e210, hx210_0⟩ := Kd.at_int (Kd.R_reads' HO_4.out).2.2 ((rd_T51 l0_1 x40_3).f0) p210 q210
                      cases e210
                      replace p210 := eq_true p210
                      replace q210 := eq_true q210
                      have p211 : 0 ≤ (((rd_T51 l0_1 x40_3).f1) : Int) := of_decide_eq_true (by first | (with_reducible assumption) | assumption)
                      have q211 : ((rd_T51 l0_1 x40_3).f1) < (x4_3.length : Int) := of_decide_eq_true (by first | (with_reducible assumption) | assumption)
                      obtain ⟨ad211, e211, hx211_0⟩ := Kd.at_int (Kd.R_reads' HO_4.out).2.2 ((rd_T51 l0_1 x40_3).f1) p211 q211
                      obtain rfl : ad210 = ad211 := (by injection e211)
                      replace p211 := eq_true p211
                      replace q211 := eq_true q211
                      obtain ⟨s0_, s1_, s2_, s3_, s4_, s5_, s6_⟩ : w39.cell? ⟨gb206, 0, none⟩ = some (.int .i64 ((rd_T51 l0_1 x40_3).f0)) ∧ w39.cell? ⟨gb206, 1, none⟩ = some (.int .i64 ((rd_T51 l0_1 x40_3).f1)) ∧ w39.cell? ⟨gb206, 2, none⟩ = some (.int .i64 ((rd_T51 l0_1 x40_3).f2)) ∧ w39.cell? ⟨gb199, 0, none⟩ = some (.int .i64 a0_0) ∧ w39.cell? ⟨gb199, 1, none⟩ = some (.slice (some ad205) l0_1.length c0_1) ∧ w39.cell? (ad210.add (((rd_T51 l0_1 x40_3).f0)).toNat) = some (.int .i64 (rd x4_3 ((rd_T51 l0_1 x40_3).f0))) ∧ w39.cell? (ad210.add (((rd_T51 l0_1 x40_3).f1)).toNat) = some (.int .i64 (rd x4_3 ((rd_T51 l0_1 x40_3).f1))) := ⟨(blk_cell BK206.out 0).trans rfl, (blk_cell BK206.out 1).trans rfl, (blk_cell BK206.out 2).trans rfl, (blk_cell BK199.out 0).trans rfl, (blk_cell BK199.out 1).trans rfl, hx210_0, hx211_0⟩
                      (try clear hcz11_0); (try clear hcz11_1); (try clear hcz21_0); (try clear hcz21_1); (try clear hcz28_0); (try clear hcz28_1); (try clear hcz28_2); (try clear hcz6_0); (try clear hcz6_1); (try clear hcz7_0); (try clear hcz7_1); (try clear hx18_0); (try clear hx205_0); (try clear hx205_1); (try clear hx205_2); (try clear hx210_0); (try clear hx211_0)
                      go_quiet ((first | (go_at_call 79; (with_reducible refine Calls.quiet_of ((impl_inside.calls ((rd_T51 l0_1 x40_3).f0) 0 (wrap64 (a0_0 - 1)) true _ A29.out).mono fun _ _ h_ => ⟨h_.1, h_.2.out⟩))) | (go_at_call 79; (with_reducible refine Calls.quiet_of ((impl_inside.calls ((rd_T51 l0_1 x40_3).f1) 0 (wrap64 (a0_0 - 1)) true _ A31.out).mono fun _ _ h_ => ⟨h_.1, h_.2.out⟩))) | (go_at_call 79; (with_reducible refine Calls.quiet_of ((impl_inside.calls ((rd_T51 l0_1 x40_3).f2) 0 1000000 true _ A33.out).mono fun _ _ h_ => ⟨h_.1, h_.2.out⟩)))))
                      clear s0_ s1_ s2_ s3_ s4_ s5_ s6_
                      have n0_ := Aside0.mk (Kd.R_drewN HO_4.out nq)
                      have n1_ := Aside0.mk (blk_drewN BK199.out nq)
                      have n2_ := Aside0.mk (blk_drewN BK206.out nq)
                      have n3_ := Aside0.mk (pw_below_drewN HB.out nq)
                      clear HO_4
                      clear BK199
                      clear BK206
                      clear HB
                      have HO_4 := n0_
                      have BK199 := n1_
                      have BK206 := n2_
                      have HB := n3_
                      clear n0_ n1_ n2_ n3_
                      generalize w39.drewN nq = w40 at BK199 BK206 HB HO_4 ⊢
                      try go_wp2
                      go_meet
                      case rel => exact ⟨_, (((rd x4_3 ((rd_T51 l0_1 x40_3).f0)) == (rd x4_3 ((rd_T51 l0_1 x40_3).f1)))), (by first | rfl | (simp; done) | (simp [*]; done) | (simp only [bne_nil_]; done) | (simp [bne_nil_]; done)), H', ⟨by have := HJ1.out; have := HK2.out; have := HK3.out; first | omega | exact Nat.le_refl _⟩, ⟨by (try simp only [hl4_2]); (try simp only [hl4_3]); (with_reducible repeat (first | apply Kd.R_alloc | apply Kd.R_drewN | apply Kd.R_drew)); exact HO_4.out⟩, ⟨by (try simp only [hl4_2]); (try simp only [hl4_3]); (with_reducible repeat (first | refine blk_drewN ?_ _ | refine blk_drew ?_ | refine blk_alloc ?_ _)); exact BK199.out⟩, ⟨by (try simp only [hl4_2]); (try simp only [hl4_3]); (with_reducible repeat (first | refine blk_drewN ?_ _ | refine blk_drew ?_ | refine blk_alloc ?_ _)); exact BK206.out⟩, ⟨by repeat (first | (with_reducible first | exact HB.out | apply below_alloc | apply pw_below_drewN | apply below_drew1 | refine below_set ?_ GE199.out | refine below_set ?_ GE206.out) | exact HB.out)⟩⟩
                     ·rw [if_neg c38] at H
                      exact absurd H (by simp)
                    ·rw [if_neg c37] at H
                     exact absurd H (by simp)
                   ·rw [if_neg c36] at H
                    exact absurd H (by simp)
                  ·rw [if_neg c35] at H
                   exact absurd H (by simp)
                 ·replace c34 := Bool.eq_false_iff.mpr c34
                  subst c34
                  have H1 : (impl_roots.j3 k3 x4_3 l0_1 (l0_1.length : Int) x40_3 true a0_0 l0_1 ((rd_T51 l0_1 x40_3).f0) ((rd_T51 l0_1 x40_3).f1) ((rd_T51 l0_1 x40_3).f2)) = some (r1, r2) := by rw [if_neg (show ¬ (false = true) by decide)] at H; exact H
                  clear H
                  have H := H1
                  clear H1
                  have H' := Aside0.mk H
                  clear H
                  try go_wp2
                  have n0_ : Aside0 (Kd.R (Kd.int .i64) 2 (((w26.setCell ⟨gb206, 0, none⟩ (.int .i64 ((rd_T51 l0_1 x40_3).f0))).setCell ⟨gb206, 1, none⟩ (.int .i64 ((rd_T51 l0_1 x40_3).f1))).setCell ⟨gb206, 2, none⟩ (.int .i64 ((rd_T51 l0_1 x40_3).f2))) w.heap.size (fun _ => True) (.slice Ao14 x4_3.length co14) x4_3) := ⟨by (with_reducible repeat (first | apply Kd.R_alloc | apply Kd.R_drewN | apply Kd.R_drew)); exact Kd.R_mono (Kd.R_far (p := ⟨gb206, 2, none⟩) (Kd.R_far (p := ⟨gb206, 1, none⟩) (Kd.R_far (p := ⟨gb206, 0, none⟩) (Kd.R_types HO_4.out BK206.out (by decide)) (fun _ hk => hk.2) (.int .i64 ((rd_T51 l0_1 x40_3).f0))) (fun _ hk => hk.2) (.int .i64 ((rd_T51 l0_1 x40_3).f1))) (fun _ hk => hk.2) (.int .i64 ((rd_T51 l0_1 x40_3).f2))) (fun _ hk => trivial)⟩
                  have n1_ : Aside0 ((((w26.setCell ⟨gb206, 0, none⟩ (.int .i64 ((rd_T51 l0_1 x40_3).f0))).setCell ⟨gb206, 1, none⟩ (.int .i64 ((rd_T51 l0_1 x40_3).f1))).setCell ⟨gb206, 2, none⟩ (.int .i64 ((rd_T51 l0_1 x40_3).f2))).heap[gb199]? = some (.cells #[.int .i64 a0_0, .slice (some ad205) l0_1.length c0_1] 35 (0, 0))) := ⟨by (with_reducible repeat (first | refine blk_drewN ?_ _ | refine blk_drew ?_ | refine blk_alloc ?_ _)); refine blk_far ?_ NB199_206.out _; (with_reducible repeat (first | refine blk_drewN ?_ _ | refine blk_drew ?_ | refine blk_alloc ?_ _)); refine blk_far ?_ NB199_206.out _; (with_reducible repeat (first | refine blk_drewN ?_ _ | refine blk_drew ?_ | refine blk_alloc ?_ _)); refine blk_far ?_ NB199_206.out _; (with_reducible repeat (first | refine blk_drewN ?_ _ | refine blk_drew ?_ | refine blk_alloc ?_ _)); exact BK199.out⟩
                  have n2_ : Aside0 ((((w26.setCell ⟨gb206, 0, none⟩ (.int .i64 ((rd_T51 l0_1 x40_3).f0))).setCell ⟨gb206, 1, none⟩ (.int .i64 ((rd_T51 l0_1 x40_3).f1))).setCell ⟨gb206, 2, none⟩ (.int .i64 ((rd_T51 l0_1 x40_3).f2))).heap[gb206]? = some (.cells #[.int .i64 ((rd_T51 l0_1 x40_3).f0), .int .i64 ((rd_T51 l0_1 x40_3).f1), .int .i64 ((rd_T51 l0_1 x40_3).f2)] 51 (0, 0))) := ⟨by (with_reducible repeat (first | refine blk_drewN ?_ _ | refine blk_drew ?_ | refine blk_alloc ?_ _)); refine blk_put (cs := #[.int .i64 ((rd_T51 l0_1 x40_3).f0), .int .i64 ((rd_T51 l0_1 x40_3).f1), .int .i64 0]) ?_ 2 _ rfl; (with_reducible repeat (first | refine blk_drewN ?_ _ | refine blk_drew ?_ | refine blk_alloc ?_ _)); refine blk_put (cs := #[.int .i64 ((rd_T51 l0_1 x40_3).f0), .int .i64 0, .int .i64 0]) ?_ 1 _ rfl; (with_reducible repeat (first | refine blk_drewN ?_ _ | refine blk_drew ?_ | refine blk_alloc ?_ _)); refine blk_put (cs := #[.int .i64 0, .int .i64 0, .int .i64 0]) ?_ 0 _ rfl; (with_reducible repeat (first | refine blk_drewN ?_ _ | refine blk_drew ?_ | refine blk_alloc ?_ _)); exact BK206.out⟩
                  have n3_ : Aside0 (Below w.heap.size w (((w26.setCell ⟨gb206, 0, none⟩ (.int .i64 ((rd_T51 l0_1 x40_3).f0))).setCell ⟨gb206, 1, none⟩ (.int .i64 ((rd_T51 l0_1 x40_3).f1))).setCell ⟨gb206, 2, none⟩ (.int .i64 ((rd_T51 l0_1 x40_3).f2)))) := ⟨by repeat (first | (with_reducible first | exact HB.out | apply below_alloc | apply pw_below_drewN | apply below_drew1 | refine below_set ?_ GE199.out | refine below_set ?_ GE206.out) | exact HB.out)⟩
                  (try clear HO_4)
                  (try clear BK199)
                  (try clear BK206)
                  (try clear HB)
                  generalize (((w26.setCell ⟨gb206, 0, none⟩ (.int .i64 ((rd_T51 l0_1 x40_3).f0))).setCell ⟨gb206, 1, none⟩ (.int .i64 ((rd_T51 l0_1 x40_3).f1))).setCell ⟨gb206, 2, none⟩ (.int .i64 ((rd_T51 l0_1 x40_3).f2))) = w41 at n0_ n1_ n2_ n3_ ⊢
                  have HO_4 := n0_
                  have BK199 := n1_
                  have BK206 := n2_
                  have HB := n3_
                  clear n0_ n1_ n2_ n3_
                  obtain ⟨s0_, s1_, s2_, s3_, s4_⟩ : w41.cell? ⟨gb206, 0, none⟩ = some (.int .i64 ((rd_T51 l0_1 x40_3).f0)) ∧ w41.cell? ⟨gb206, 1, none⟩ = some (.int .i64 ((rd_T51 l0_1 x40_3).f1)) ∧ w41.cell? ⟨gb206, 2, none⟩ = some (.int .i64 ((rd_T51 l0_1 x40_3).f2)) ∧ w41.cell? ⟨gb199, 0, none⟩ = some (.int .i64 a0_0) ∧ w41.cell? ⟨gb199, 1, none⟩ = some (.slice (some ad205) l0_1.length c0_1) := ⟨(blk_cell BK206.out 0).trans rfl, (blk_cell BK206.out 1).trans rfl, (blk_cell BK206.out 2).trans rfl, (blk_cell BK199.out 0).trans rfl, (blk_cell BK199.out 1).trans rfl⟩
                  (try clear hcz11_0); (try clear hcz11_1); (try clear hcz21_0); (try clear hcz21_1); (try clear hcz28_0); (try clear hcz28_1); (try clear hcz28_2); (try clear hcz6_0); (try clear hcz6_1); (try clear hcz7_0); (try clear hcz7_1); (try clear hx18_0); (try clear hx205_0); (try clear hx205_1); (try clear hx205_2)
                  go_quiet ((first | (go_at_call 79; (with_reducible refine Calls.quiet_of ((impl_inside.calls ((rd_T51 l0_1 x40_3).f0) 0 (wrap64 (a0_0 - 1)) true _ A29.out).mono fun _ _ h_ => ⟨h_.1, h_.2.out⟩))) | (go_at_call 79; (with_reducible refine Calls.quiet_of ((impl_inside.calls ((rd_T51 l0_1 x40_3).f1) 0 (wrap64 (a0_0 - 1)) true _ A31.out).mono fun _ _ h_ => ⟨h_.1, h_.2.out⟩))) | (go_at_call 79; (with_reducible refine Calls.quiet_of ((impl_inside.calls ((rd_T51 l0_1 x40_3).f2) 0 1000000 false _ A33.out).mono fun _ _ h_ => ⟨h_.1, h_.2.out⟩)))))
                  clear s0_ s1_ s2_ s3_ s4_
                  have n0_ := Aside0.mk (Kd.R_drewN HO_4.out nq)
                  have n1_ := Aside0.mk (blk_drewN BK199.out nq)
                  have n2_ := Aside0.mk (blk_drewN BK206.out nq)
                  have n3_ := Aside0.mk (pw_below_drewN HB.out nq)
                  clear HO_4
                  clear BK199
                  clear BK206
                  clear HB
                  have HO_4 := n0_
                  have BK199 := n1_
                  have BK206 := n2_
                  have HB := n3_
                  clear n0_ n1_ n2_ n3_
                  generalize w41.drewN nq = w42 at BK199 BK206 HB HO_4 ⊢
                  try go_wp2
                  go_meet
                  case rel => exact ⟨_, (true), (by first | rfl | (simp; done) | (simp [*]; done) | (simp only [bne_nil_]; done) | (simp [bne_nil_]; done)), H', ⟨by have := HJ1.out; have := HK2.out; have := HK3.out; first | omega | exact Nat.le_refl _⟩, ⟨by (try simp only [hl4_2]); (try simp only [hl4_3]); (with_reducible repeat (first | apply Kd.R_alloc | apply Kd.R_drewN | apply Kd.R_drew)); exact HO_4.out⟩, ⟨by (try simp only [hl4_2]); (try simp only [hl4_3]); (with_reducible repeat (first | refine blk_drewN ?_ _ | refine blk_drew ?_ | refine blk_alloc ?_ _)); exact BK199.out⟩, ⟨by (try simp only [hl4_2]); (try simp only [hl4_3]); (with_reducible repeat (first | refine blk_drewN ?_ _ | refine blk_drew ?_ | refine blk_alloc ?_ _)); exact BK206.out⟩, ⟨by repeat (first | (with_reducible first | exact HB.out | apply below_alloc | apply pw_below_drewN | apply below_drew1 | refine below_set ?_ GE199.out | refine below_set ?_ GE206.out) | exact HB.out)⟩⟩
                ·replace c32 := Bool.eq_false_iff.mpr c32
                 subst c32
                 have H1 : (impl_roots.j3 k3 x4_3 l0_1 (l0_1.length : Int) x40_3 true a0_0 l0_1 ((rd_T51 l0_1 x40_3).f0) ((rd_T51 l0_1 x40_3).f1) ((rd_T51 l0_1 x40_3).f2)) = some (r1, r2) := by rw [if_neg (show ¬ (false = true) by decide)] at H; exact H
                 clear H
                 have H := H1
                 clear H1
                 have H' := Aside0.mk H
                 clear H
                 try go_wp2
                 have n0_ : Aside0 (Kd.R (Kd.int .i64) 2 (((w26.setCell ⟨gb206, 0, none⟩ (.int .i64 ((rd_T51 l0_1 x40_3).f0))).setCell ⟨gb206, 1, none⟩ (.int .i64 ((rd_T51 l0_1 x40_3).f1))).setCell ⟨gb206, 2, none⟩ (.int .i64 ((rd_T51 l0_1 x40_3).f2))) w.heap.size (fun _ => True) (.slice Ao14 x4_3.length co14) x4_3) := ⟨by (with_reducible repeat (first | apply Kd.R_alloc | apply Kd.R_drewN | apply Kd.R_drew)); exact Kd.R_mono (Kd.R_far (p := ⟨gb206, 2, none⟩) (Kd.R_far (p := ⟨gb206, 1, none⟩) (Kd.R_far (p := ⟨gb206, 0, none⟩) (Kd.R_types HO_4.out BK206.out (by decide)) (fun _ hk => hk.2) (.int .i64 ((rd_T51 l0_1 x40_3).f0))) (fun _ hk => hk.2) (.int .i64 ((rd_T51 l0_1 x40_3).f1))) (fun _ hk => hk.2) (.int .i64 ((rd_T51 l0_1 x40_3).f2))) (fun _ hk => trivial)⟩
                 have n1_ : Aside0 ((((w26.setCell ⟨gb206, 0, none⟩ (.int .i64 ((rd_T51 l0_1 x40_3).f0))).setCell ⟨gb206, 1, none⟩ (.int .i64 ((rd_T51 l0_1 x40_3).f1))).setCell ⟨gb206, 2, none⟩ (.int .i64 ((rd_T51 l0_1 x40_3).f2))).heap[gb199]? = some (.cells #[.int .i64 a0_0, .slice (some ad205) l0_1.length c0_1] 35 (0, 0))) := ⟨by (with_reducible repeat (first | refine blk_drewN ?_ _ | refine blk_drew ?_ | refine blk_alloc ?_ _)); refine blk_far ?_ NB199_206.out _; (with_reducible repeat (first | refine blk_drewN ?_ _ | refine blk_drew ?_ | refine blk_alloc ?_ _)); refine blk_far ?_ NB199_206.out _; (with_reducible repeat (first | refine blk_drewN ?_ _ | refine blk_drew ?_ | refine blk_alloc ?_ _)); refine blk_far ?_ NB199_206.out _; (with_reducible repeat (first | refine blk_drewN ?_ _ | refine blk_drew ?_ | refine blk_alloc ?_ _)); exact BK199.out⟩
                 have n2_ : Aside0 ((((w26.setCell ⟨gb206, 0, none⟩ (.int .i64 ((rd_T51 l0_1 x40_3).f0))).setCell ⟨gb206, 1, none⟩ (.int .i64 ((rd_T51 l0_1 x40_3).f1))).setCell ⟨gb206, 2, none⟩ (.int .i64 ((rd_T51 l0_1 x40_3).f2))).heap[gb206]? = some (.cells #[.int .i64 ((rd_T51 l0_1 x40_3).f0), .int .i64 ((rd_T51 l0_1 x40_3).f1), .int .i64 ((rd_T51 l0_1 x40_3).f2)] 51 (0, 0))) := ⟨by (with_reducible repeat (first | refine blk_drewN ?_ _ | refine blk_drew ?_ | refine blk_alloc ?_ _)); refine blk_put (cs := #[.int .i64 ((rd_T51 l0_1 x40_3).f0), .int .i64 ((rd_T51 l0_1 x40_3).f1), .int .i64 0]) ?_ 2 _ rfl; (with_reducible repeat (first | refine blk_drewN ?_ _ | refine blk_drew ?_ | refine blk_alloc ?_ _)); refine blk_put (cs := #[.int .i64 ((rd_T51 l0_1 x40_3).f0), .int .i64 0, .int .i64 0]) ?_ 1 _ rfl; (with_reducible repeat (first | refine blk_drewN ?_ _ | refine blk_drew ?_ | refine blk_alloc ?_ _)); refine blk_put (cs := #[.int .i64 0, .int .i64 0, .int .i64 0]) ?_ 0 _ rfl; (with_reducible repeat (first | refine blk_drewN ?_ _ | refine blk_drew ?_ | refine blk_alloc ?_ _)); exact BK206.out⟩
                 have n3_ : Aside0 (Below w.heap.size w (((w26.setCell ⟨gb206, 0, none⟩ (.int .i64 ((rd_T51 l0_1 x40_3).f0))).setCell ⟨gb206, 1, none⟩ (.int .i64 ((rd_T51 l0_1 x40_3).f1))).setCell ⟨gb206, 2, none⟩ (.int .i64 ((rd_T51 l0_1 x40_3).f2)))) := ⟨by repeat (first | (with_reducible first | exact HB.out | apply below_alloc | apply pw_below_drewN | apply below_drew1 | refine below_set ?_ GE199.out | refine below_set ?_ GE206.out) | exact HB.out)⟩
                 (try clear HO_4)
                 (try clear BK199)
                 (try clear BK206)
                 (try clear HB)
                 generalize (((w26.setCell ⟨gb206, 0, none⟩ (.int .i64 ((rd_T51 l0_1 x40_3).f0))).setCell ⟨gb206, 1, none⟩ (.int .i64 ((rd_T51 l0_1 x40_3).f1))).setCell ⟨gb206, 2, none⟩ (.int .i64 ((rd_T51 l0_1 x40_3).f2))) = w43 at n0_ n1_ n2_ n3_ ⊢
                 have HO_4 := n0_
                 have BK199 := n1_
                 have BK206 := n2_
                 have HB := n3_
                 clear n0_ n1_ n2_ n3_
                 obtain ⟨s0_, s1_, s2_, s3_, s4_⟩ : w43.cell? ⟨gb206, 0, none⟩ = some (.int .i64 ((rd_T51 l0_1 x40_3).f0)) ∧ w43.cell? ⟨gb206, 1, none⟩ = some (.int .i64 ((rd_T51 l0_1 x40_3).f1)) ∧ w43.cell? ⟨gb206, 2, none⟩ = some (.int .i64 ((rd_T51 l0_1 x40_3).f2)) ∧ w43.cell? ⟨gb199, 0, none⟩ = some (.int .i64 a0_0) ∧ w43.cell? ⟨gb199, 1, none⟩ = some (.slice (some ad205) l0_1.length c0_1) := ⟨(blk_cell BK206.out 0).trans rfl, (blk_cell BK206.out 1).trans rfl, (blk_cell BK206.out 2).trans rfl, (blk_cell BK199.out 0).trans rfl, (blk_cell BK199.out 1).trans rfl⟩
                 (try clear hcz11_0); (try clear hcz11_1); (try clear hcz21_0); (try clear hcz21_1); (try clear hcz28_0); (try clear hcz28_1); (try clear hcz28_2); (try clear hcz6_0); (try clear hcz6_1); (try clear hcz7_0); (try clear hcz7_1); (try clear hx18_0); (try clear hx205_0); (try clear hx205_1); (try clear hx205_2)
                 go_quiet ((first | (go_at_call 79; (with_reducible refine Calls.quiet_of ((impl_inside.calls ((rd_T51 l0_1 x40_3).f0) 0 (wrap64 (a0_0 - 1)) true _ A29.out).mono fun _ _ h_ => ⟨h_.1, h_.2.out⟩))) | (go_at_call 79; (with_reducible refine Calls.quiet_of ((impl_inside.calls ((rd_T51 l0_1 x40_3).f1) 0 (wrap64 (a0_0 - 1)) false _ A31.out).mono fun _ _ h_ => ⟨h_.1, h_.2.out⟩)))))
                 clear s0_ s1_ s2_ s3_ s4_
                 have n0_ := Aside0.mk (Kd.R_drewN HO_4.out nq)
                 have n1_ := Aside0.mk (blk_drewN BK199.out nq)
                 have n2_ := Aside0.mk (blk_drewN BK206.out nq)
                 have n3_ := Aside0.mk (pw_below_drewN HB.out nq)
                 clear HO_4
                 clear BK199
                 clear BK206
                 clear HB
                 have HO_4 := n0_
                 have BK199 := n1_
                 have BK206 := n2_
                 have HB := n3_
                 clear n0_ n1_ n2_ n3_
                 generalize w43.drewN nq = w44 at BK199 BK206 HB HO_4 ⊢
                 try go_wp2
                 go_meet
                 case rel => exact ⟨_, (true), (by first | rfl | (simp; done) | (simp [*]; done) | (simp only [bne_nil_]; done) | (simp [bne_nil_]; done)), H', ⟨by have := HJ1.out; have := HK2.out; have := HK3.out; first | omega | exact Nat.le_refl _⟩, ⟨by (try simp only [hl4_2]); (try simp only [hl4_3]); (with_reducible repeat (first | apply Kd.R_alloc | apply Kd.R_drewN | apply Kd.R_drew)); exact HO_4.out⟩, ⟨by (try simp only [hl4_2]); (try simp only [hl4_3]); (with_reducible repeat (first | refine blk_drewN ?_ _ | refine blk_drew ?_ | refine blk_alloc ?_ _)); exact BK199.out⟩, ⟨by (try simp only [hl4_2]); (try simp only [hl4_3]); (with_reducible repeat (first | refine blk_drewN ?_ _ | refine blk_drew ?_ | refine blk_alloc ?_ _)); exact BK206.out⟩, ⟨by repeat (first | (with_reducible first | exact HB.out | apply below_alloc | apply pw_below_drewN | apply below_drew1 | refine below_set ?_ GE199.out | refine below_set ?_ GE206.out) | exact HB.out)⟩⟩
               ·replace c30 := Bool.eq_false_iff.mpr c30
                subst c30
                have H1 : (impl_roots.j3 k3 x4_3 l0_1 (l0_1.length : Int) x40_3 true a0_0 l0_1 ((rd_T51 l0_1 x40_3).f0) ((rd_T51 l0_1 x40_3).f1) ((rd_T51 l0_1 x40_3).f2)) = some (r1, r2) := by rw [if_neg (show ¬ (false = true) by decide)] at H; exact H
                clear H
                have H := H1
                clear H1
                have H' := Aside0.mk H
                clear H
                try go_wp2
                have n0_ : Aside0 (Kd.R (Kd.int .i64) 2 (((w26.setCell ⟨gb206, 0, none⟩ (.int .i64 ((rd_T51 l0_1 x40_3).f0))).setCell ⟨gb206, 1, none⟩ (.int .i64 ((rd_T51 l0_1 x40_3).f1))).setCell ⟨gb206, 2, none⟩ (.int .i64 ((rd_T51 l0_1 x40_3).f2))) w.heap.size (fun _ => True) (.slice Ao14 x4_3.length co14) x4_3) := ⟨by (with_reducible repeat (first | apply Kd.R_alloc | apply Kd.R_drewN | apply Kd.R_drew)); exact Kd.R_mono (Kd.R_far (p := ⟨gb206, 2, none⟩) (Kd.R_far (p := ⟨gb206, 1, none⟩) (Kd.R_far (p := ⟨gb206, 0, none⟩) (Kd.R_types HO_4.out BK206.out (by decide)) (fun _ hk => hk.2) (.int .i64 ((rd_T51 l0_1 x40_3).f0))) (fun _ hk => hk.2) (.int .i64 ((rd_T51 l0_1 x40_3).f1))) (fun _ hk => hk.2) (.int .i64 ((rd_T51 l0_1 x40_3).f2))) (fun _ hk => trivial)⟩
                have n1_ : Aside0 ((((w26.setCell ⟨gb206, 0, none⟩ (.int .i64 ((rd_T51 l0_1 x40_3).f0))).setCell ⟨gb206, 1, none⟩ (.int .i64 ((rd_T51 l0_1 x40_3).f1))).setCell ⟨gb206, 2, none⟩ (.int .i64 ((rd_T51 l0_1 x40_3).f2))).heap[gb199]? = some (.cells #[.int .i64 a0_0, .slice (some ad205) l0_1.length c0_1] 35 (0, 0))) := ⟨by (with_reducible repeat (first | refine blk_drewN ?_ _ | refine blk_drew ?_ | refine blk_alloc ?_ _)); refine blk_far ?_ NB199_206.out _; (with_reducible repeat (first | refine blk_drewN ?_ _ | refine blk_drew ?_ | refine blk_alloc ?_ _)); refine blk_far ?_ NB199_206.out _; (with_reducible repeat (first | refine blk_drewN ?_ _ | refine blk_drew ?_ | refine blk_alloc ?_ _)); refine blk_far ?_ NB199_206.out _; (with_reducible repeat (first | refine blk_drewN ?_ _ | refine blk_drew ?_ | refine blk_alloc ?_ _)); exact BK199.out⟩
                have n2_ : Aside0 ((((w26.setCell ⟨gb206, 0, none⟩ (.int .i64 ((rd_T51 l0_1 x40_3).f0))).setCell ⟨gb206, 1, none⟩ (.int .i64 ((rd_T51 l0_1 x40_3).f1))).setCell ⟨gb206, 2, none⟩ (.int .i64 ((rd_T51 l0_1 x40_3).f2))).heap[gb206]? = some (.cells #[.int .i64 ((rd_T51 l0_1 x40_3).f0), .int .i64 ((rd_T51 l0_1 x40_3).f1), .int .i64 ((rd_T51 l0_1 x40_3).f2)] 51 (0, 0))) := ⟨by (with_reducible repeat (first | refine blk_drewN ?_ _ | refine blk_drew ?_ | refine blk_alloc ?_ _)); refine blk_put (cs := #[.int .i64 ((rd_T51 l0_1 x40_3).f0), .int .i64 ((rd_T51 l0_1 x40_3).f1), .int .i64 0]) ?_ 2 _ rfl; (with_reducible repeat (first | refine blk_drewN ?_ _ | refine blk_drew ?_ | refine blk_alloc ?_ _)); refine blk_put (cs := #[.int .i64 ((rd_T51 l0_1 x40_3).f0), .int .i64 0, .int .i64 0]) ?_ 1 _ rfl; (with_reducible repeat (first | refine blk_drewN ?_ _ | refine blk_drew ?_ | refine blk_alloc ?_ _)); refine blk_put (cs := #[.int .i64 0, .int .i64 0, .int .i64 0]) ?_ 0 _ rfl; (with_reducible repeat (first | refine blk_drewN ?_ _ | refine blk_drew ?_ | refine blk_alloc ?_ _)); exact BK206.out⟩
                have n3_ : Aside0 (Below w.heap.size w (((w26.setCell ⟨gb206, 0, none⟩ (.int .i64 ((rd_T51 l0_1 x40_3).f0))).setCell ⟨gb206, 1, none⟩ (.int .i64 ((rd_T51 l0_1 x40_3).f1))).setCell ⟨gb206, 2, none⟩ (.int .i64 ((rd_T51 l0_1 x40_3).f2)))) := ⟨by repeat (first | (with_reducible first | exact HB.out | apply below_alloc | apply pw_below_drewN | apply below_drew1 | refine below_set ?_ GE199.out | refine below_set ?_ GE206.out) | exact HB.out)⟩
                (try clear HO_4)
                (try clear BK199)
                (try clear BK206)
                (try clear HB)
                generalize (((w26.setCell ⟨gb206, 0, none⟩ (.int .i64 ((rd_T51 l0_1 x40_3).f0))).setCell ⟨gb206, 1, none⟩ (.int .i64 ((rd_T51 l0_1 x40_3).f1))).setCell ⟨gb206, 2, none⟩ (.int .i64 ((rd_T51 l0_1 x40_3).f2))) = w45 at n0_ n1_ n2_ n3_ ⊢
                have HO_4 := n0_
                have BK199 := n1_
                have BK206 := n2_
                have HB := n3_
                clear n0_ n1_ n2_ n3_
                obtain ⟨s0_, s1_, s2_, s3_, s4_⟩ : w45.cell? ⟨gb206, 0, none⟩ = some (.int .i64 ((rd_T51 l0_1 x40_3).f0)) ∧ w45.cell? ⟨gb206, 1, none⟩ = some (.int .i64 ((rd_T51 l0_1 x40_3).f1)) ∧ w45.cell? ⟨gb206, 2, none⟩ = some (.int .i64 ((rd_T51 l0_1 x40_3).f2)) ∧ w45.cell? ⟨gb199, 0, none⟩ = some (.int .i64 a0_0) ∧ w45.cell? ⟨gb199, 1, none⟩ = some (.slice (some ad205) l0_1.length c0_1) := ⟨(blk_cell BK206.out 0).trans rfl, (blk_cell BK206.out 1).trans rfl, (blk_cell BK206.out 2).trans rfl, (blk_cell BK199.out 0).trans rfl, (blk_cell BK199.out 1).trans rfl⟩
                (try clear hcz11_0); (try clear hcz11_1); (try clear hcz21_0); (try clear hcz21_1); (try clear hcz28_0); (try clear hcz28_1); (try clear hcz28_2); (try clear hcz6_0); (try clear hcz6_1); (try clear hcz7_0); (try clear hcz7_1); (try clear hx18_0); (try clear hx205_0); (try clear hx205_1); (try clear hx205_2)
                go_quiet (((go_at_call 79; (with_reducible refine Calls.quiet_of ((impl_inside.calls ((rd_T51 l0_1 x40_3).f0) 0 (wrap64 (a0_0 - 1)) false _ A29.out).mono fun _ _ h_ => ⟨h_.1, h_.2.out⟩)))))
                clear s0_ s1_ s2_ s3_ s4_
                have n0_ := Aside0.mk (Kd.R_drewN HO_4.out nq)
                have n1_ := Aside0.mk (blk_drewN BK199.out nq)
                have n2_ := Aside0.mk (blk_drewN BK206.out nq)
                have n3_ := Aside0.mk (pw_below_drewN HB.out nq)
                clear HO_4
                clear BK199
                clear BK206
                clear HB
                have HO_4 := n0_
                have BK199 := n1_
                have BK206 := n2_
                have HB := n3_
                clear n0_ n1_ n2_ n3_
                generalize w45.drewN nq = w46 at BK199 BK206 HB HO_4 ⊢
                try go_wp2
                go_meet
                case rel => exact ⟨_, (true), (by first | rfl | (simp; done) | (simp [*]; done) | (simp only [bne_nil_]; done) | (simp [bne_nil_]; done)), H', ⟨by have := HJ1.out; have := HK2.out; have := HK3.out; first | omega | exact Nat.le_refl _⟩, ⟨by (try simp only [hl4_2]); (try simp only [hl4_3]); (with_reducible repeat (first | apply Kd.R_alloc | apply Kd.R_drewN | apply Kd.R_drew)); exact HO_4.out⟩, ⟨by (try simp only [hl4_2]); (try simp only [hl4_3]); (with_reducible repeat (first | refine blk_drewN ?_ _ | refine blk_drew ?_ | refine blk_alloc ?_ _)); exact BK199.out⟩, ⟨by (try simp only [hl4_2]); (try simp only [hl4_3]); (with_reducible repeat (first | refine blk_drewN ?_ _ | refine blk_drew ?_ | refine blk_alloc ?_ _)); exact BK206.out⟩, ⟨by repeat (first | (with_reducible first | exact HB.out | apply below_alloc | apply pw_below_drewN | apply below_drew1 | refine below_set ?_ GE199.out | refine below_set ?_ GE206.out) | exact HB.out)⟩⟩
              case rest =>
               clear HC25
               try clear p2
               try clear c3
               try clear p6
               try clear c7
               try clear c30
               try clear c32
               obtain ⟨kq, x78_24, rfl, HA, HJ24, HO_4, BK199, BK206, HB⟩ := hcut
               cases kq with
               | zero => exact absurd HA.out (by simp [impl_roots.j3])
               | succ kj24 =>
                have H := HA.out
                clear HA
                simp only [impl_roots.j3] at H
                by_cases c47 : x78_24 = true
                ·subst c47
                 have H1 : (some (([] : List Int), false)) = some (r1, r2) := by rw [if_pos rfl] at H; exact H
                 clear H
                 have H := H1
                 clear H1
                 simp only [Option.some.injEq, Prod.mk.injEq] at H
                 obtain ⟨rfl, rfl⟩ := H
                 go_wp2
                 go_ret2
                 exact ⟨_, by first | rfl | (simp [errW_none, errW_some] <;> rfl) | (simp [*, errW_none, errW_some] <;> rfl), by first | exact Kd.R_nil _ _ _ _ _ | exact Kd.N_nil _ _ _ _ _ | exact Kd.V_nil _ _ _ _ _ | exact Kd.Q_nil _ _ _ _ _ | exact Kd.S_nil _ _ _ _ _, by repeat (first | (with_reducible first | exact HB.out | apply below_alloc | apply pw_below_drewN | apply below_drew1 | refine below_set ?_ GE199.out | refine below_set ?_ GE206.out) | exact HB.out)⟩
                ·replace c47 := Bool.eq_false_iff.mpr c47
                 subst c47
                 have H1 : (if 0 ≤ ((rd_T51 l0_1 x40_3).f0) then (if ((rd_T51 l0_1 x40_3).f0) < (x4_3.length : Int) then (if 0 ≤ ((rd_T51 l0_1 x40_3).f1) then (if ((rd_T51 l0_1 x40_3).f1) < (x4_3.length : Int) then (impl_roots.l2 kj24 x4_3 (mn (rd x4_3 ((rd_T51 l0_1 x40_3).f0)) (rd x4_3 ((rd_T51 l0_1 x40_3).f1))) (mx (rd x4_3 ((rd_T51 l0_1 x40_3).f0)) (rd x4_3 ((rd_T51 l0_1 x40_3).f1))) l0_1 (l0_1.length : Int) x40_3 (x4_3.length : Int) 0 a0_0 l0_1) else (none)) else (none)) else (none)) else (none)) = some (r1, r2) := by rw [if_neg (show ¬ (false = true) by decide)] at H; exact H
                 clear H
                 have H := H1
                 clear H1
                 by_cases c48 : 0 ≤ ((rd_T51 l0_1 x40_3).f0)
                 ·rw [if_pos c48] at H
                  have c48b0 : decide (0 ≤ ((rd_T51 l0_1 x40_3).f0)) = true := decide_eq_true c48
                  clear c48
                  by_cases c49 : ((rd_T51 l0_1 x40_3).f0) < (x4_3.length : Int)
                  ·rw [if_pos c49] at H
                   have c49b0 : decide (((rd_T51 l0_1 x40_3).f0) < (x4_3.length : Int)) = true := decide_eq_true c49
                   (try simp only [hl4_2] at c49b0)
                   (try simp only [hl4_3] at c49b0)
                   clear c49
                   by_cases c50 : 0 ≤ ((rd_T51 l0_1 x40_3).f1)
                   ·rw [if_pos c50] at H
                    have c50b0 : decide (0 ≤ ((rd_T51 l0_1 x40_3).f1)) = true := decide_eq_true c50
                    clear c50
                    by_cases c51 : ((rd_T51 l0_1 x40_3).f1) < (x4_3.length : Int)
                    ·rw [if_pos c51] at H
                     have c51b0 : decide (((rd_T51 l0_1 x40_3).f1) < (x4_3.length : Int)) = true := decide_eq_true c51
                     (try simp only [hl4_2] at c51b0)
                     (try simp only [hl4_3] at c51b0)
                     clear c51
                     obtain ⟨ji52, hji52⟩ : ∃ j_ : Int, (mn (rd x4_3 ((rd_T51 l0_1 x40_3).f0)) (rd x4_3 ((rd_T51 l0_1 x40_3).f1))) = j_ := ⟨_, rfl⟩
                     replace H : (impl_roots.l2 kj24 x4_3 ji52 (mx (rd x4_3 ((rd_T51 l0_1 x40_3).f0)) (rd x4_3 ((rd_T51 l0_1 x40_3).f1))) l0_1 (l0_1.length : Int) x40_3 (x4_3.length : Int) 0 a0_0 l0_1) = some (r1, r2) := by first | (rw [hji52] at H; exact H) | (simp only [hji52] at H ⊢; exact H)
                     have hji52_ : (if (rd x4_3 ((rd_T51 l0_1 x40_3).f1)) < (rd x4_3 ((rd_T51 l0_1 x40_3).f0)) then (rd x4_3 ((rd_T51 l0_1 x40_3).f1)) else (rd x4_3 ((rd_T51 l0_1 x40_3).f0))) = ji52 := hji52
                     obtain ⟨ji53, hji53⟩ : ∃ j_ : Int, (mx (rd x4_3 ((rd_T51 l0_1 x40_3).f0)) (rd x4_3 ((rd_T51 l0_1 x40_3).f1))) = j_ := ⟨_, rfl⟩
                     replace H : (impl_roots.l2 kj24 x4_3 ji52 ji53 l0_1 (l0_1.length : Int) x40_3 (x4_3.length : Int) 0 a0_0 l0_1) = some (r1, r2) := by first | (rw [hji53] at H; exact H) | (simp only [hji53] at H ⊢; exact H)
                     have hji53_ : (if (rd x4_3 ((rd_T51 l0_1 x40_3).f0)) < (rd x4_3 ((rd_T51 l0_1 x40_3).f1)) then (rd x4_3 ((rd_T51 l0_1 x40_3).f1)) else (rd x4_3 ((rd_T51 l0_1 x40_3).f0))) = ji53 := hji53
                     have H' := Aside0.mk H
                     clear H
                     try go_wp2
                     have p212 : 0 ≤ (((rd_T51 l0_1 x40_3).f0) : Int) := of_decide_eq_true (by first | (with_reducible assumption) | assumption)
                     have q212 : ((rd_T51 l0_1 x40_3).f0) < (x4_3.length : Int) := of_decide_eq_true (by first | (with_reducible assumption) | assumption)
                     obtain ⟨ad212, e212, hx212_0⟩ := Kd.at_int (Kd.R_reads' HO_4.out).2.2 ((rd_T51 l0_1 x40_3).f0) p212 q212
                     cases e212
                     replace p212 := eq_true p212
                     replace q212 := eq_true q212
                     have p213 : 0 ≤ (((rd_T51 l0_1 x40_3).f1) : Int) := of_decide_eq_true (by first | (with_reducible assumption) | assumption)
                     have q213 : ((rd_T51 l0_1 x40_3).f1) < (x4_3.length : Int) := of_decide_eq_true (by first | (with_reducible assumption) | assumption)
                     obtain ⟨ad213, e213, hx213_0⟩ := Kd.at_int (Kd.R_reads' HO_4.out).2.2 ((rd_T51 l0_1 x40_3).f1) p213 q213
                     obtain rfl : ad212 = ad213 := (by injection e213)
                     replace p213 := eq_true p213
                     replace q213 := eq_true q213
                     have p214 : 0 ≤ (((rd_T51 l0_1 x40_3).f0) : Int) := of_decide_eq_true (by first | (with_reducible assumption) | assumption)
                     have q214 : ((rd_T51 l0_1 x40_3).f0) < (x4_3.length : Int) := of_decide_eq_true (by first | (with_reducible assumption) | assumption)
                     obtain ⟨ad214, e214, hx214_0⟩ := Kd.at_int (Kd.R_reads' HO_4.out).2.2 ((rd_T51 l0_1 x40_3).f0) p214 q214
                     obtain rfl : ad212 = ad214 := (by injection e214)
                     replace p214 := eq_true p214
                     replace q214 := eq_true q214
                     have p215 : 0 ≤ (((rd_T51 l0_1 x40_3).f1) : Int) := of_decide_eq_true (by first | (with_reducible assumption) | assumption)
                     have q215 : ((rd_T51 l0_1 x40_3).f1) < (x4_3.length : Int) := of_decide_eq_true (by first | (with_reducible assumption) | assumption)
                     obtain ⟨ad215, e215, hx215_0⟩ := Kd.at_int (Kd.R_reads' HO_4.out).2.2 ((rd_T51 l0_1 x40_3).f1) p215 q215
                     obtain rfl : ad212 = ad215 := (by injection e215)
                     replace p215 := eq_true p215
                     replace q215 := eq_true q215
                     obtain ⟨s0_, s1_, s2_, s3_, s4_, s5_, s6_⟩ : wc.cell? ⟨gb206, 0, none⟩ = some (.int .i64 ((rd_T51 l0_1 x40_3).f0)) ∧ wc.cell? ⟨gb206, 1, none⟩ = some (.int .i64 ((rd_T51 l0_1 x40_3).f1)) ∧ wc.cell? ⟨gb206, 2, none⟩ = some (.int .i64 ((rd_T51 l0_1 x40_3).f2)) ∧ wc.cell? (ad212.add (((rd_T51 l0_1 x40_3).f0)).toNat) = some (.int .i64 (rd x4_3 ((rd_T51 l0_1 x40_3).f0))) ∧ wc.cell? (ad212.add (((rd_T51 l0_1 x40_3).f1)).toNat) = some (.int .i64 (rd x4_3 ((rd_T51 l0_1 x40_3).f1))) ∧ wc.cell? (ad212.add (((rd_T51 l0_1 x40_3).f0)).toNat) = some (.int .i64 (rd x4_3 ((rd_T51 l0_1 x40_3).f0))) ∧ wc.cell? (ad212.add (((rd_T51 l0_1 x40_3).f1)).toNat) = some (.int .i64 (rd x4_3 ((rd_T51 l0_1 x40_3).f1))) := ⟨(blk_cell BK206.out 0).trans rfl, (blk_cell BK206.out 1).trans rfl, (blk_cell BK206.out 2).trans rfl, hx212_0, hx213_0, hx214_0, hx215_0⟩
                     (try clear hcz11_0); (try clear hcz11_1); (try clear hcz21_0); (try clear hcz21_1); (try clear hcz28_0); (try clear hcz28_1); (try clear hcz28_2); (try clear hcz6_0); (try clear hcz6_1); (try clear hcz7_0); (try clear hcz7_1); (try clear hx18_0); (try clear hx205_0); (try clear hx205_1); (try clear hx205_2); (try clear hx212_0); (try clear hx213_0); (try clear hx214_0); (try clear hx215_0)
                     go_quiet ((fail))
                     clear s0_ s1_ s2_ s3_ s4_ s5_ s6_
                     have n0_ := Aside0.mk (Kd.R_drewN HO_4.out nq)
                     have n1_ := Aside0.mk (blk_drewN BK199.out nq)
                     have n2_ := Aside0.mk (blk_drewN BK206.out nq)
                     have n3_ := Aside0.mk (pw_below_drewN HB.out nq)
                     clear HO_4
                     clear BK199
                     clear BK206
                     clear HB
                     have HO_4 := n0_
                     have BK199 := n1_
                     have BK206 := n2_
                     have HB := n3_
                     clear n0_ n1_ n2_ n3_
                     generalize wc.drewN nq = w54 at BK199 BK206 HB HO_4 ⊢
                     try go_wp2
                     go_loopg [103] kj24 (fun kq v103 w' => ∃ (x4_5 : List Int) (x103_5 : Int), v103 = .int .i64 x103_5 ∧ Aside0 (impl_roots.l2 kq x4_5 ji52 ji53 l0_1 (l0_1.length : Int) x40_3 (x4_3.length : Int) x103_5 a0_0 l0_1 = some (r1, r2)) ∧ Aside0 (kq ≤ kj24) ∧ Aside0 (Kd.R (Kd.int .i64) 2 w' w.heap.size (fun _ => True) (.slice (some ad212) x4_3.length co14) x4_5) ∧ Aside0 (w'.heap[gb199]? = some (.cells #[.int .i64 a0_0, (.slice (some ad205) l0_1.length c0_1)] 35 (0, 0))) ∧ Aside0 (w'.heap[gb206]? = some (.cells #[.int .i64 ((rd_T51 l0_1 x40_3).f0), .int .i64 ((rd_T51 l0_1 x40_3).f1), .int .i64 ((rd_T51 l0_1 x40_3).f2)] 51 (0, 0))) ∧ Aside0 (Below w.heap.size w w'))
                     case atStart => exact ⟨(x4_3), (0), (by first | rfl | (simp; done) | (simp [*]; done) | (simp only [bne_nil_]; done) | (simp [bne_nil_]; done)), H', ⟨Nat.le_refl _⟩, ⟨by (try simp only [hl4_2]); (try simp only [hl4_3]); (with_reducible repeat (first | apply Kd.R_alloc | apply Kd.R_drewN | apply Kd.R_drew)); exact HO_4.out⟩, ⟨by (try simp only [hl4_2]); (try simp only [hl4_3]); (with_reducible repeat (first | refine blk_drewN ?_ _ | refine blk_drew ?_ | refine blk_alloc ?_ _)); exact BK199.out⟩, ⟨by (try simp only [hl4_2]); (try simp only [hl4_3]); (with_reducible repeat (first | refine blk_drewN ?_ _ | refine blk_drew ?_ | refine blk_alloc ?_ _)); exact BK206.out⟩, ⟨by repeat (first | (with_reducible first | exact HB.out | apply below_alloc | apply pw_below_drewN | apply below_drew1 | refine below_set ?_ GE199.out | refine below_set ?_ GE206.out) | exact HB.out)⟩⟩
                     case round =>
                      clear H'
                      try clear p2
                      try clear q2
                      try clear hx2
                      try clear c3
                      try clear c4
                      try clear c5
                      try clear p6
                      try clear c7
                      try clear p21
                      try clear q21
                      try clear hx21
                      try clear c30
                      try clear c32
                      try clear c47
                      try clear c48
                      try clear c48b0
                      try clear c49
                      try clear c49b0
                      try clear c50
                      try clear c50b0
                      try clear c51
                      try clear c51b0
                      try clear hx212_0
                      try clear hx213_0
                      try clear hx214_0
                      try clear hx215_0
                      try clear p2
                      try clear p212
                      try clear p213
                      try clear p214
                      try clear p215
                      try clear p6
                      try clear q212
                      try clear q213
                      try clear q214
                      try clear q215
                      obtain ⟨x4_5, x103_5, rfl, HA, HK5, HO_4, BK199, BK206, HB⟩ := hrel
                      have hl4_5 := (Kd.R_reads' HO_4.out).1
                      rw [hl4_5] at HO_4
                      (try simp only [hl4_5])
                      (try simp only [hl4_5] at BK199)
                      (try simp only [hl4_5] at BK206)
                      cases gk with
                      | zero => exact absurd HA.out (by simp [impl_roots.l2])
                      | succ k5 =>
                       have H := HA.out
                       clear HA
                       simp only [impl_roots.l2] at H
                       by_cases c55 : x103_5 < (x4_3.length : Int)
                       ·rw [if_pos c55] at H
                        have c55b0 : decide (x103_5 < (x4_3.length : Int)) = true := decide_eq_true c55
                        (try simp only [hl4_2] at c55b0)
                        (try simp only [hl4_3] at c55b0)
                        (try simp only [hl4_5] at c55b0)
                        clear c55
                        by_cases c56 : 0 ≤ x103_5
                        ·rw [if_pos c56] at H
                         have c56b0 : decide (0 ≤ x103_5) = true := decide_eq_true c56
                         clear c56
                         by_cases c57 : x103_5 < (x4_5.length : Int)
                         ·rw [if_pos c57] at H
                          have c57b0 : decide (x103_5 < (x4_5.length : Int)) = true := decide_eq_true c57
                          (try simp only [hl4_2] at c57b0)
                          (try simp only [hl4_3] at c57b0)
                          (try simp only [hl4_5] at c57b0)
                          clear c57
                          by_cases c58 : (rd x4_5 x103_5) = ji53
                          ·rw [if_pos c58] at H
                           have c58b0 : ((rd x4_5 x103_5) == ji53) = true := beq_iff_eq.mpr c58
                           have c58b1 : ((rd x4_5 x103_5) != ji53) = false := bne_eq_false_iff_eq.mpr c58
                           clear c58
                           obtain ⟨y217, hy217⟩ : ∃ y_ : List Int, y_ = (x4_5.set (x103_5 : Int).toNat ji52) := ⟨_, rfl⟩
                           replace H : (impl_roots.l2 k5 y217 ji52 ji53 l0_1 (l0_1.length : Int) x40_3 (x4_3.length : Int) (wrap64 (x103_5 + 1)) a0_0 l0_1) = some (r1, r2) := by first | (rw [hy217]; with_reducible exact H) | (have H2_ := (Option.bind_some _ _).symm.trans H; rw [hy217]; with_reducible exact H2_) | (have H2_ := (Option.bind_some _ _).symm.trans H; with_reducible exact H2_) | with_reducible exact H | (rw [hy217]; exact H) | exact H
                           have Ny217 := Aside0.mk hy217
                           clear hy217
                           have H' := Aside0.mk H
                           clear H
                           have p216 : 0 ≤ (x103_5 : Int) := of_decide_eq_true (by first | (with_reducible assumption) | assumption)
                           have q216 : x103_5 < (x4_5.length : Int) := of_decide_eq_true (by first | (with_reducible assumption) | assumption)
                           obtain ⟨ad216, e216, hx216_0⟩ := Kd.at_int (Kd.R_reads' HO_4.out).2.2 x103_5 p216 q216
                           obtain rfl : ad212 = ad216 := (by injection e216)
                           replace p216 := eq_true p216
                           replace q216 := eq_true q216
                           have p59 : 0 ≤ (x103_5 : Int) := of_decide_eq_true (by first | (with_reducible assumption) | assumption)
                           have q59 : (x103_5 : Int) < ((x4_5.length : Int) : Int) := of_decide_eq_true (by first | (with_reducible assumption) | assumption)
                           obtain ⟨go59, co59, eo59, gb59, gl59, cl59, HG59⟩ := Kd.R_form HO_4.out (by omega)
                           (first | cases eo59 | (injection eo59 with ea_ en_ ec_; (first | subst ea_ | (injection ea_ with ea_; subst ea_)); subst ec_; clear en_))
                           have GB59 := Aside0.mk gb59
                           have GG59 := Aside0.mk HG59
                           clear gb59 gl59 HG59
                           (first | simp only [add_plain] at hx212_0 | skip)
                           (first | simp only [add_plain] at hx213_0 | skip)
                           (first | simp only [add_plain] at hx214_0 | skip)
                           (first | simp only [add_plain] at hx215_0 | skip)
                           (first | simp only [add_plain] at hx216_0 | skip)
                           obtain ⟨hx59_0, hf59_0⟩ := Kd.R_celln 0 HO_4.out (x103_5 : Int) p59 q59
                           replace p59 := eq_true p59
                           replace q59 := eq_true q59
                           have HP60 := Kd.R_putg HO_4.out (x103_5 : Int) ji52
                           go_wp2_with (first | ((with_reducible refine gate_store (t := 2) (p := 114) rfl ?_); refine store_event (t := 2) (p := 114) (v := ?vo_w61) (w1 := (wr.setCell ⟨go59, (x103_5 : Int).toNat, none⟩ (.int .i64 ji52))) ?hg ?ho ?hn ?hr ?_; (case ho => rfl); (case hg => rfl); (case hn => rfl); (case hr => first | (go_simp; done) | (go_simp; rfl) | ((try (obtain ⟨_, _, e_⟩ := Kd.R_slice HO_4.out; subst e_)); first | (go_simp; done) | (go_simp; rfl))); intro w61 hw; have hg : wr.grownBy w61 (some go59) := (by rw [hw]; exact HP60.2); have hp_ : Kd.R (Kd.int .i64) 2 w61 w.heap.size (fun _ => True) (.slice (some ⟨go59, 0, none⟩) x4_5.length co14) y217 := (by rw [hw, Ny217.out]; exact HP60.1); clear HP60; have n0_ := Aside0.mk (hp_); have n1_ := Aside0.mk (blk_grown (g := gb199) (o := .cells #[.int .i64 a0_0, .slice (some ad205) l0_1.length c0_1] 35 (0, 0)) (by (with_reducible repeat (first | refine blk_drewN ?_ _ | refine blk_drew ?_ | refine blk_alloc ?_ _)); exact BK199.out) hg (Kd.R_ne HO_4.out BK199.out (by decide))); have n2_ := Aside0.mk (blk_grown (g := gb206) (o := .cells #[.int .i64 ((rd_T51 l0_1 x40_3).f0), .int .i64 ((rd_T51 l0_1 x40_3).f1), .int .i64 ((rd_T51 l0_1 x40_3).f2)] 51 (0, 0)) (by (with_reducible repeat (first | refine blk_drewN ?_ _ | refine blk_drew ?_ | refine blk_alloc ?_ _)); exact BK206.out) hg (Kd.R_ne HO_4.out BK206.out (by decide))); have n3_ := Aside0.mk ((by rw [hw]; exact below_set (HB.out) GB59.out : Below w.heap.size w w61)); clear HO_4; clear BK199; clear BK206; clear HB; have HO_4 := n0_; have BK199 := n1_; have BK206 := n2_; have HB := n3_; clear n0_ n1_ n2_ n3_; clear hg hw hp_))
                           (try simp only [← hl4_5])
                           (try simp only [add_plain] at *)
                           go_roundg k5
                           case measure => have := HJ1.out; have := HK2.out; have := HK3.out; have := HJ24.out; have := HK5.out; omega
                           case rel => exact ⟨(y217), (wrap64 (x103_5 + 1)), (by first | rfl | (simp; done) | (simp [*]; done) | (simp only [bne_nil_]; done) | (simp [bne_nil_]; done)), H', ⟨by have := HJ1.out; have := HK2.out; have := HK3.out; have := HJ24.out; have := HK5.out; omega⟩, ⟨by (try simp only [hl4_2]); (try simp only [hl4_3]); (try simp only [hl4_5]); (with_reducible repeat (first | apply Kd.R_alloc | apply Kd.R_drewN | apply Kd.R_drew)); exact HO_4.out⟩, ⟨by (try simp only [hl4_2]); (try simp only [hl4_3]); (try simp only [hl4_5]); (with_reducible repeat (first | refine blk_drewN ?_ _ | refine blk_drew ?_ | refine blk_alloc ?_ _)); exact BK199.out⟩, ⟨by (try simp only [hl4_2]); (try simp only [hl4_3]); (try simp only [hl4_5]); (with_reducible repeat (first | refine blk_drewN ?_ _ | refine blk_drew ?_ | refine blk_alloc ?_ _)); exact BK206.out⟩, ⟨by repeat (first | (with_reducible first | exact HB.out | apply below_alloc | apply pw_below_drewN | apply below_drew1 | refine below_set ?_ GE199.out | refine below_set ?_ GE206.out) | exact HB.out)⟩⟩
                          ·rw [if_neg c58] at H
                           have c58b0 : ((rd x4_5 x103_5) == ji53) = false := beq_eq_false_iff_ne.mpr c58
                           have c58b1 : ((rd x4_5 x103_5) != ji53) = true := bne_iff_ne.mpr c58
                           have H' := Aside0.mk H
                           clear H
                           have p216 : 0 ≤ (x103_5 : Int) := of_decide_eq_true (by first | (with_reducible assumption) | assumption)
                           have q216 : x103_5 < (x4_5.length : Int) := of_decide_eq_true (by first | (with_reducible assumption) | assumption)
                           obtain ⟨ad216, e216, hx216_0⟩ := Kd.at_int (Kd.R_reads' HO_4.out).2.2 x103_5 p216 q216
                           obtain rfl : ad212 = ad216 := (by injection e216)
                           replace p216 := eq_true p216
                           replace q216 := eq_true q216
                           go_wp2
                           (try simp only [← hl4_5])
                           (try simp only [add_plain] at *)
                           go_roundg k5
                           case measure => have := HJ1.out; have := HK2.out; have := HK3.out; have := HJ24.out; have := HK5.out; omega
                           case rel => exact ⟨(x4_5), (wrap64 (x103_5 + 1)), (by first | rfl | (simp; done) | (simp [*]; done) | (simp only [bne_nil_]; done) | (simp [bne_nil_]; done)), H', ⟨by have := HJ1.out; have := HK2.out; have := HK3.out; have := HJ24.out; have := HK5.out; omega⟩, ⟨by (try simp only [hl4_2]); (try simp only [hl4_3]); (try simp only [hl4_5]); (with_reducible repeat (first | apply Kd.R_alloc | apply Kd.R_drewN | apply Kd.R_drew)); exact HO_4.out⟩, ⟨by (try simp only [hl4_2]); (try simp only [hl4_3]); (try simp only [hl4_5]); (with_reducible repeat (first | refine blk_drewN ?_ _ | refine blk_drew ?_ | refine blk_alloc ?_ _)); exact BK199.out⟩, ⟨by (try simp only [hl4_2]); (try simp only [hl4_3]); (try simp only [hl4_5]); (with_reducible repeat (first | refine blk_drewN ?_ _ | refine blk_drew ?_ | refine blk_alloc ?_ _)); exact BK206.out⟩, ⟨by repeat (first | (with_reducible first | exact HB.out | apply below_alloc | apply pw_below_drewN | apply below_drew1 | refine below_set ?_ GE199.out | refine below_set ?_ GE206.out) | exact HB.out)⟩⟩
                         ·rw [if_neg c57] at H
                          exact absurd H (by simp)
                        ·rw [if_neg c56] at H
                         exact absurd H (by simp)
                       ·rw [if_neg c55] at H
                        have c55b0 : decide (x103_5 < (x4_3.length : Int)) = false := decide_eq_false c55
                        (try simp only [hl4_2] at c55b0)
                        (try simp only [hl4_3] at c55b0)
                        (try simp only [hl4_5] at c55b0)
                        clear c55
                        have H' := Aside0.mk H
                        clear H
                        go_wp2
                        (try simp only [← hl4_3, ← hl4_5])
                        (try simp only [add_plain] at *)
                        go_roundg k5
                        case measure => have := HJ1.out; have := HK2.out; have := HK3.out; have := HJ24.out; have := HK5.out; omega
                        case rel => exact ⟨(x4_5), (wrap64 (x40_3 + 1)), (by first | rfl | (simp; done) | (simp [*]; done) | (simp only [bne_nil_]; done) | (simp [bne_nil_]; done)), H', ⟨by have := HJ1.out; have := HK2.out; have := HK3.out; have := HJ24.out; have := HK5.out; omega⟩, ⟨by (try simp only [hl4_2]); (try simp only [hl4_3]); (try simp only [hl4_5]); (with_reducible repeat (first | apply Kd.R_alloc | apply Kd.R_drewN | apply Kd.R_drew)); exact HO_4.out⟩, ⟨by (try simp only [hl4_2]); (try simp only [hl4_3]); (try simp only [hl4_5]); (with_reducible repeat (first | refine blk_drewN ?_ _ | refine blk_drew ?_ | refine blk_alloc ?_ _)); exact BK199.out⟩, ⟨by repeat (first | (with_reducible first | exact HB.out | apply below_alloc | apply pw_below_drewN | apply below_drew1 | refine below_set ?_ GE199.out | refine below_set ?_ GE206.out) | exact HB.out)⟩⟩
                    ·rw [if_neg c51] at H
                     exact absurd H (by simp)
                   ·rw [if_neg c50] at H
                    exact absurd H (by simp)
                  ·rw [if_neg c49] at H
                   exact absurd H (by simp)
                 ·rw [if_neg c48] at H
                  exact absurd H (by simp)
             ·rw [if_neg c24] at H
              exact absurd H (by simp)
            ·rw [if_neg c23] at H
             exact absurd H (by simp)
           ·rw [if_neg c22] at H
            have c22b0 : decide (x40_3 < (l0_1.length : Int)) = false := decide_eq_false c22
            (try simp only [hl4_2] at c22b0)
            (try simp only [hl4_3] at c22b0)
            clear c22
            simp only [Option.some.injEq, Prod.mk.injEq] at H
            obtain ⟨rfl, rfl⟩ := H
            go_wp2
            go_ret2
            exact ⟨_, by first | rfl | (simp [errW_none, errW_some] <;> rfl) | (simp [*, errW_none, errW_some] <;> rfl), by (with_reducible repeat (first | apply Kd.R_alloc | apply Kd.R_drewN | apply Kd.R_drew)); exact HO_4.out, by repeat (first | (with_reducible first | exact HB.out | apply below_alloc | apply pw_below_drewN | apply below_drew1 | refine below_set ?_ GE199.out) | exact HB.out)⟩
     ·rw [if_neg c10] at H
      exact absurd H (by simp)
    ·rw [if_neg c9] at H
     exact absurd H (by simp)

end Go.Proofs.Ytkjlplcdjdenkaa.PFnExactJoin
