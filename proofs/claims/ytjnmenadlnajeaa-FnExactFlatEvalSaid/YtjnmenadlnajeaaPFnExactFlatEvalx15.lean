-- Written by a program of this session (a turned copy of the kit's printer); Lean checks it.
-- half the depth
import Derived.Test.YtjnmenadlnajeaaPFnExactFlatEvalx0
import Derived.Test.YtjnmenadlnajeaaPFnExactFlatEvalx10
import Derived.Test.YtjnmenadlnajeaaPFnExactFlatEvalx14
namespace Go.Proofs.Ytjnmenadlnajeaa.PFnExactFlatEval
open Go.RowKit Go.Proofs.YtjnmenadlnajeaaW.PrintWords Go.Proofs.YtjnmenadlnajeaaW.PrintLast Go.Proofs.YtjnmenadlnajeaaW.PrintMore
attribute [local go_sem] max2_int min2_int max_two min_two max_three min_three max_four min_four   -- for this text's walks alone
set_option linter.unusedVariables false
set_option linter.unusedSimpArgs false

/-! ### impl_valuesOk: function 66 -/
def impl_valuesOk.l0 : Nat → List (S64) → List (S41) → Int → Int → Option (Bool)
 | 0, _, _, _, _ => none
 | k + 1, x0, x12, x13, x14 => if x14 < x13 then (if 0 ≤ x14 then (if x14 < (x12.length : Int) then ((impl_BitsOk.f ((rd_T41 x12 x14).f0) ((rd_T41 x12 x14).f1)).bind fun t298 => (if t298 = true then (if x14 < (x0.length : Int) then (if ((rd_T41 x12 x14).f0) = ((rd_T64 x0 x14).f1) then (impl_valuesOk.l0 k x0 x12 x13 (wrap64 (x14 + 1))) else (some false)) else (none)) else (some false))) else (none)) else (none)) else (some true)
def impl_valuesOk.f (k : Nat) (l0 : List (S64)) (l1 : List (S41)) : Option (Bool) := if (l1.length : Int) = (l0.length : Int) then (impl_valuesOk.l0 k l0 l1 (l1.length : Int) 0) else (some false)
def impl_valuesOk.T6 : Bool × List (List Nat × List Nat) := (true, [([], []), ([0], [0]), ([1], [1]), ([2, 1], [2]), ([3], [3]), ([4, 3], [3, 4]), ([3], [3]), ([3], [3]), ([6, 7, 3], [3, 6, 7]), ([8, 3], [3, 8]), ([9, 3], [3, 9]), ([5, 10, 3], [3, 5, 10]), ([3, 11], [3, 11])])
def impl_valuesOk.B6 : List Nat := [0, 1, 3, 7, 15, 31, 15, 15, 207, 463, 975, 2047, 4095]
theorem impl_valuesOk.tab6 : rtab .any (opsOf Try.f66 6) = impl_valuesOk.T6 := by kernel_rfl
theorem impl_valuesOk.bits6 : waitsOk impl_valuesOk.T6.2 impl_valuesOk.B6 = true := by kernel_rfl
set_option maxHeartbeats 8000000 in
set_option maxRecDepth 100000 in
theorem impl_valuesOk.calls (k : Nat) (A0 : Option Addr) (c0 : Nat) (l0 : List (S64)) (A1 : Option Addr) (c1 : Nat) (l1 : List (S41)) (r : Bool) (w : World) (hr0 : Kd.C k64 w A0 l0.length l0) (hc0 : l0.length ≤ c0) (hr1 : Kd.C k41 w A1 l1.length l1) (hc1 : l1.length ≤ c1) (h : impl_valuesOk.f k l0 l1 = some r) :
  Calls Try.prog 66 #[.slice A0 l0.length c0, .slice A1 l1.length c1] w fun e w' => e = .returned (.bool r) ∧ Below w.heap.size w w' := by
 have hu41 := Try.underlying41; have HR0 := Aside0.mk hr0; have HC0 := Aside0.mk hc0; clear hr0 hc0; have HR1 := Aside0.mk hr1; have HC1 := Aside0.mk hc1; clear hr1 hc1; have HB := Aside0.mk (Below.refl w.heap.size w); have H : (if (l1.length : Int) = (l0.length : Int) then (impl_valuesOk.l0 k l0 l1 (l1.length : Int) 0) else (some false)) = some r := h; clear h
 by_cases c3 : (l1.length : Int) = (l0.length : Int)
 ·rw [if_pos c3] at H
  have c3b0 : ((l1.length : Int) == (l0.length : Int)) = true := beq_iff_eq.mpr c3; have c3b1 : ((l1.length : Int) != (l0.length : Int)) = false := bne_eq_false_iff_eq.mpr c3
  have c3b2 : (l1.length == l0.length) = true := by first | simpa using c3 | (simp at c3 ⊢; omega)
  clear c3; have H' := Aside0.mk H; clear H
  go_enter Try.func66, Try.ntmps66
  go_wp2
  go_loopg [14] k (fun kq v14 w' => ∃ (x14_1 : Int), v14 = .int .i64 x14_1 ∧ Aside0 (impl_valuesOk.l0 kq l0 l1 (l1.length : Int) x14_1 = some r) ∧ Aside0 (kq ≤ k) ∧ Aside0 (Below w.heap.size w w'))
  case atStart => exact ⟨(0), au, H', ⟨Nat.le_refl _⟩, ⟨bl HB⟩⟩
  case round =>
   clear H'
   try clear c1
   try clear p2
   try clear c3
   try clear c3b0
   try clear c3b1
   try clear c3b2
   obtain ⟨x14_1, rfl, HA, HK1, HB⟩ := hrel
   cases gk with
   | zero => exact absurd HA.out (by simp [impl_valuesOk.l0])
   | succ k1 =>
    have H := HA.out; clear HA
    simp only [impl_valuesOk.l0] at H
    by_cases c4 : x14_1 < (l1.length : Int)
    ·rw [if_pos c4] at H
     have c4b0 : decide (x14_1 < (l1.length : Int)) = true := decide_eq_true c4; clear c4
     by_cases c5 : 0 ≤ x14_1
     ·rw [if_pos c5] at H
      have c5b0 : decide (0 ≤ x14_1) = true := decide_eq_true c5; clear c5
      by_cases c6 : x14_1 < (l1.length : Int)
      ·rw [if_pos c6] at H
       have c6b0 : decide (x14_1 < (l1.length : Int)) = true := decide_eq_true c6; clear c6; replace H := Option.bind_eq_some_iff.mp H; obtain ⟨t298, A70, H⟩ := H; replace H : (if t298 = true then (if x14_1 < (l0.length : Int) then (if ((rd_T41 l1 x14_1).f0) = ((rd_T64 l0 x14_1).f1) then (impl_valuesOk.l0 k1 l0 l1 (l1.length : Int) (wrap64 (x14_1 + 1))) else (some false)) else (none)) else (some false)) = some r := H; have A7 := Aside0.mk A70; clear A70
       by_cases c8 : t298 = true
       ·subst c8
        have H1 : (if x14_1 < (l0.length : Int) then (if ((rd_T41 l1 x14_1).f0) = ((rd_T64 l0 x14_1).f1) then (impl_valuesOk.l0 k1 l0 l1 (l1.length : Int) (wrap64 (x14_1 + 1))) else (some false)) else (none)) = some r := by rw [if_pos rfl] at H; exact H
        clear H; have H := H1; clear H1
        by_cases c9 : x14_1 < (l0.length : Int)
        ·rw [if_pos c9] at H
         have c9b0 : decide (x14_1 < (l0.length : Int)) = true := decide_eq_true c9; clear c9
         by_cases c10 : ((rd_T41 l1 x14_1).f0) = ((rd_T64 l0 x14_1).f1)
         ·rw [if_pos c10] at H
          have c10b0 : (((rd_T41 l1 x14_1).f0) == ((rd_T64 l0 x14_1).f1)) = true := beq_iff_eq.mpr c10; have c10b1 : (((rd_T41 l1 x14_1).f0) != ((rd_T64 l0 x14_1).f1)) = false := bne_eq_false_iff_eq.mpr c10; clear c10; have H' := Aside0.mk H; clear H; have p296 : 0 ≤ (x14_1 : Int) := ode; have q296 : x14_1 < (l1.length : Int) := ode; obtain ⟨ad296, A296_1, c296_1, e296, hx296_0, hx296_1, hl296_1, hi296_1⟩ := at_T41 HR1.out x14_1 p296 q296
          cases e296
          replace hx296_0 := cl HB hx296_0; replace hx296_1 := cl HB hx296_1; have HR296_1 := Aside0.mk hi296_1; have HC296_1 := Aside0.mk hl296_1; clear hi296_1 hl296_1; replace p296 := eq_true p296; replace q296 := eq_true q296
          try go_wp2_with (first | ((with_reducible refine gate_dst (N := 6) rfl ?_); refine box_event ?hg (N := 6) ?hd (cs := #[.int .i64 0, .slice none 0 0]) (t := 41) ?hr ?_; (case hd => rfl); (case hg => rfl); (case hr => first | (go_simp; done) | (go_simp; rfl)); intro gb297 hg w11 hbox hb; have n0_ := Aside0.mk (below_step (bl HB) hb); have n1_ := Aside0.mk (hbox); have n2_ := Aside0.mk ((by rw [hg]; exact (below_size (bl HB)) : w.heap.size ≤ gb297)); have n3_ := Aside0.mk ((by rw [hg]; exact (below_size (bl HB)) : w.heap.size ≤ gb297)); clear HB; have HB := n0_; have BK297 := n1_; have GW297 := n2_; have GE297 := n3_; clear n0_ n1_ n2_ n3_; clear hb hbox hg; have hcz12_0 : w11.cell? ⟨gb297, 0, none⟩ = some (.int .i64 0) := (blk_cell BK297.out 0).trans rfl; have hcz12_1 : w11.cell? ⟨gb297, 1, none⟩ = some (.slice none 0 0) := (blk_cell BK297.out 1).trans rfl; have hfz12_0 := blk_frozen BK297.out 0; have hfz12_1 := blk_frozen BK297.out 1))
          have n0_ : Aside0 (((w11.setCell ⟨gb297, 0, none⟩ (.int .i64 ((rd_T41 l1 x14_1).f0))).setCell ⟨gb297, 1, none⟩ (.slice A296_1 ((rd_T41 l1 x14_1).f1).length c296_1)).heap[gb297]? = some (.cells #[.int .i64 ((rd_T41 l1 x14_1).f0), .slice A296_1 ((rd_T41 l1 x14_1).f1).length c296_1] 41 (0, 0))) := ⟨by (with_reducible repeat (first | refine blk_drewN ?_ _ | refine blk_drew ?_ | refine blk_alloc ?_ _)); refine blk_put (cs := #[.int .i64 ((rd_T41 l1 x14_1).f0), .slice none 0 0]) ?_ 1 _ rfl; (with_reducible repeat (first | refine blk_drewN ?_ _ | refine blk_drew ?_ | refine blk_alloc ?_ _)); refine blk_put (cs := #[.int .i64 0, .slice none 0 0]) ?_ 0 _ rfl; (with_reducible repeat (first | refine blk_drewN ?_ _ | refine blk_drew ?_ | refine blk_alloc ?_ _)); exact BK297.out⟩
          have n1_ : Aside0 (Below w.heap.size w ((w11.setCell ⟨gb297, 0, none⟩ (.int .i64 ((rd_T41 l1 x14_1).f0))).setCell ⟨gb297, 1, none⟩ (.slice A296_1 ((rd_T41 l1 x14_1).f1).length c296_1))) := ⟨bs HB GE297⟩; (try clear BK297)
          (try clear HB); generalize ((w11.setCell ⟨gb297, 0, none⟩ (.int .i64 ((rd_T41 l1 x14_1).f0))).setCell ⟨gb297, 1, none⟩ (.slice A296_1 ((rd_T41 l1 x14_1).f1).length c296_1)) = w13 at n0_ n1_ ⊢; have BK297 := n0_; have HB := n1_; clear n0_ n1_; have n0_ := Aside0.mk (blk_drew BK297.out); have n1_ := Aside0.mk (below_drew1 HB.out); clear BK297; clear HB; have BK297 := n0_; have HB := n1_; clear n0_ n1_; have p299 : 0 ≤ (x14_1 : Int) := ode; have q299 : x14_1 < (l0.length : Int) := ode; obtain ⟨ad299, e299, hx299_0, hx299_1⟩ := at_T64 HR0.out x14_1 p299 q299; have hw299_1 := hx299_1; have hw299_0 := hx299_0
          cases e299
          replace hx299_0 := cl HB hx299_0; replace hx299_1 := cl HB hx299_1; replace p299 := eq_true p299; replace q299 := eq_true q299; refine start_ (n := 13) (S := fun w' => w'.cell? ⟨gb297, 0, none⟩ = some (.int .i64 ((rd_T41 l1 x14_1).f0)) ∧ w'.cell? ⟨gb297, 1, none⟩ = some (.slice A296_1 ((rd_T41 l1 x14_1).f1).length c296_1) ∧ w'.cell? (ad299.add ((x14_1).toNat * 2)) = some (.string ((rd_T64 l0 x14_1).f0)) ∧ w'.cell? ⟨(ad299.add ((x14_1).toNat * 2)).block, (ad299.add ((x14_1).toNat * 2)).off + 1, none⟩ = some (.int .i64 ((rd_T64 l0 x14_1).f1))) (ds := []) #[false, false, false, false, false, false, false, false, false, false, false, false, false] (by kernel_rfl) rfl rfl ⟨(blk_cell BK297.out 0).trans rfl, (blk_cell BK297.out 1).trans rfl, ((HB.out.cell (World.block_lt_of_cell? w _ hw299_0)).trans hw299_0), ((HB.out.cell (World.block_lt_of_cell? w _ hw299_1)).trans hw299_1)⟩ (fun hHeld => ?_); refine with_tabW impl_valuesOk.tab6 impl_valuesOk.bits6 (fun HT_ HW_ => ?_); generalize w13.drew = w14 at BK297 HB hx299_0 hx299_1 hHeld ⊢; refine ta HT_ HW_ hHeld 0 19 12 ?_; refine on HT_ 1 20 11 (fun K hK => ?_); refine goes_ Try.func75 (by kernel_rfl) rfl #[.agg #[.int .i64 ((rd_T41 l1 x14_1).f0), .slice A296_1 ((rd_T41 l1 x14_1).f1).length c296_1]] (by rfl) rfl rfl ma ?_; (with_reducible refine (impl_BitsOk.calls ((rd_T41 l1 x14_1).f0) _ _ ((rd_T41 l1 x14_1).f1) true _ ?side1 ?side2 A7.out).mono ?_)
          (case side1 => exact rc HR296_1 HB); (case side2 => exact HC296_1.out)
          rintro e w15 ⟨rfl, hb⟩; refine ⟨_, rfl, ?_⟩; have n0_ := Aside0.mk (blk_below (g := gb297) (o := .cells #[.int .i64 ((rd_T41 l1 x14_1).f0), .slice A296_1 ((rd_T41 l1 x14_1).f1).length c296_1] 41 (0, 0)) (bk BK297) hb); have n1_ := Aside0.mk (below_step (bs HB GE297) hb); clear BK297; clear HB; have BK297 := n0_; have HB := n1_; clear n0_ n1_; (try clear hb)
          (try clear hb2); (try clear hk)
          (try clear hi); refine hK.out _ _ ⟨(blk_cell BK297.out 0).trans rfl, (blk_cell BK297.out 1).trans rfl, ((HB.out.cell (World.block_lt_of_cell? w _ hw299_0)).trans hw299_0), ((HB.out.cell (World.block_lt_of_cell? w _ hw299_1)).trans hw299_1)⟩ (fun hHeld => ?_); clear hK K; refine nm 20 ?_; refine pu HT_ 2 21 10 ?_; refine pu HT_ 3 22 9 ?_; refine pu HT_ 4 23 8 ?_; refine pure_ (i := 6) (N := some 25) (v := ?_) (a' := ?_) #[true, true, true, true, true, false, true, false, false, false, false, false, false] rfl rfl (any_of HT_.out (by kernel_rfl)) (fun _ _ _ h => h) (Or.inl ⟨by rfl, ?_⟩) ?_ ?_
          rotate_left
          ·intro w'
           go_simp
           with_reducible rfl
          rotate_left
          ·simp only [Act.put, List.setIfInBounds_toArray, List.set_cons_zero, List.set_cons_succ, i64_w, i32_w]
           rfl
          refine pure_ (i := 7) (N := some 26) (v := ?_) (a' := ?_) #[true, true, true, true, true, false, true, true, false, false, false, false, false] rfl rfl (any_of HT_.out (by kernel_rfl)) (fun _ _ _ h => h) (Or.inl ⟨by rfl, ?_⟩) ?_ ?_
          rotate_left
          ·intro w'
           go_simp
           with_reducible rfl
          rotate_left
          ·simp only [Act.put, List.setIfInBounds_toArray, List.set_cons_zero, List.set_cons_succ, i64_w, i32_w]
           rfl
          refine pure_ (i := 8) (N := some 27) (v := ?_) (a' := ?_) #[true, true, true, true, true, false, true, true, true, false, false, false, false] rfl rfl (any_of HT_.out (by kernel_rfl)) (fun _ _ _ h => h) (Or.inl ⟨by rfl, ?_⟩) ?_ ?_
          rotate_left
          ·intro w'
           go_simp
           with_reducible rfl
          rotate_left
          ·simp only [Act.put, List.setIfInBounds_toArray, List.set_cons_zero, List.set_cons_succ, i64_w, i32_w]
           rfl
          refine pure_ (i := 9) (N := some 28) (v := ?_) (a' := ?_) #[true, true, true, true, true, false, true, true, true, true, false, false, false] rfl rfl (any_of HT_.out (by kernel_rfl)) (fun _ _ _ h => h) (Or.inl ⟨by rfl, ?_⟩) ?_ ?_
          rotate_left
          ·intro w'
           go_simp
           with_reducible rfl
          rotate_left
          ·simp only [Act.put, List.setIfInBounds_toArray, List.set_cons_zero, List.set_cons_succ, i64_w, i32_w]
           rfl
          refine take_ (i := 5) (N := some 24) (v := ?_) (a' := ?_) #[true, true, true, true, true, true, true, true, true, true, false, false, false] rfl rfl (take_ofW HT_.out HW_.out (by kernel_rfl)) (fun _ _ _ h => h) (Or.inl ⟨by rfl, ?_⟩) hHeld ?_ ?_
          rotate_left
          ·rintro w' ⟨s0, s1, s2, s3⟩
           go_simp
           with_reducible rfl
          rotate_left
          ·simp only [Act.put, List.setIfInBounds_toArray, List.set_cons_zero, List.set_cons_succ, i64_w, i32_w]
           rfl
          refine ta HT_ HW_ hHeld 10 29 2 ?_; refine pu HT_ 11 30 1 ?_; refine pu HT_ 12 31 0 ?_; refine done_ (done_of HT_.out (by kernel_rfl)) ?_
          try go_wp2
          go_roundg k1
          case measure => have := HK1.out; omega
          case rel => exact ⟨(wrap64 (x14_1 + 1)), au, H', ⟨by have := HK1.out; omega⟩, ⟨bs HB GE297⟩⟩
         ·rw [if_neg c10] at H
          have c10b0 : (((rd_T41 l1 x14_1).f0) == ((rd_T64 l0 x14_1).f1)) = false := beq_eq_false_iff_ne.mpr c10; have c10b1 : (((rd_T41 l1 x14_1).f0) != ((rd_T64 l0 x14_1).f1)) = true := bne_iff_ne.mpr c10; obtain rfl := Option.some.inj H; have p296 : 0 ≤ (x14_1 : Int) := ode; have q296 : x14_1 < (l1.length : Int) := ode; obtain ⟨ad296, A296_1, c296_1, e296, hx296_0, hx296_1, hl296_1, hi296_1⟩ := at_T41 HR1.out x14_1 p296 q296
          cases e296
          replace hx296_0 := cl HB hx296_0; replace hx296_1 := cl HB hx296_1; have HR296_1 := Aside0.mk hi296_1; have HC296_1 := Aside0.mk hl296_1; clear hi296_1 hl296_1; replace p296 := eq_true p296; replace q296 := eq_true q296
          try go_wp2_with (first | ((with_reducible refine gate_dst (N := 6) rfl ?_); refine box_event ?hg (N := 6) ?hd (cs := #[.int .i64 0, .slice none 0 0]) (t := 41) ?hr ?_; (case hd => rfl); (case hg => rfl); (case hr => first | (go_simp; done) | (go_simp; rfl)); intro gb297 hg w16 hbox hb; have n0_ := Aside0.mk (below_step (bl HB) hb); have n1_ := Aside0.mk (hbox); have n2_ := Aside0.mk ((by rw [hg]; exact (below_size (bl HB)) : w.heap.size ≤ gb297)); have n3_ := Aside0.mk ((by rw [hg]; exact (below_size (bl HB)) : w.heap.size ≤ gb297)); clear HB; have HB := n0_; have BK297 := n1_; have GW297 := n2_; have GE297 := n3_; clear n0_ n1_ n2_ n3_; clear hb hbox hg; have hcz17_0 : w16.cell? ⟨gb297, 0, none⟩ = some (.int .i64 0) := (blk_cell BK297.out 0).trans rfl; have hcz17_1 : w16.cell? ⟨gb297, 1, none⟩ = some (.slice none 0 0) := (blk_cell BK297.out 1).trans rfl; have hfz17_0 := blk_frozen BK297.out 0; have hfz17_1 := blk_frozen BK297.out 1))
          have n0_ : Aside0 (((w16.setCell ⟨gb297, 0, none⟩ (.int .i64 ((rd_T41 l1 x14_1).f0))).setCell ⟨gb297, 1, none⟩ (.slice A296_1 ((rd_T41 l1 x14_1).f1).length c296_1)).heap[gb297]? = some (.cells #[.int .i64 ((rd_T41 l1 x14_1).f0), .slice A296_1 ((rd_T41 l1 x14_1).f1).length c296_1] 41 (0, 0))) := ⟨by (with_reducible repeat (first | refine blk_drewN ?_ _ | refine blk_drew ?_ | refine blk_alloc ?_ _)); refine blk_put (cs := #[.int .i64 ((rd_T41 l1 x14_1).f0), .slice none 0 0]) ?_ 1 _ rfl; (with_reducible repeat (first | refine blk_drewN ?_ _ | refine blk_drew ?_ | refine blk_alloc ?_ _)); refine blk_put (cs := #[.int .i64 0, .slice none 0 0]) ?_ 0 _ rfl; (with_reducible repeat (first | refine blk_drewN ?_ _ | refine blk_drew ?_ | refine blk_alloc ?_ _)); exact BK297.out⟩
          have n1_ : Aside0 (Below w.heap.size w ((w16.setCell ⟨gb297, 0, none⟩ (.int .i64 ((rd_T41 l1 x14_1).f0))).setCell ⟨gb297, 1, none⟩ (.slice A296_1 ((rd_T41 l1 x14_1).f1).length c296_1))) := ⟨bs HB GE297⟩; (try clear BK297)
          (try clear HB); generalize ((w16.setCell ⟨gb297, 0, none⟩ (.int .i64 ((rd_T41 l1 x14_1).f0))).setCell ⟨gb297, 1, none⟩ (.slice A296_1 ((rd_T41 l1 x14_1).f1).length c296_1)) = w18 at n0_ n1_ ⊢; have BK297 := n0_; have HB := n1_; clear n0_ n1_; have n0_ := Aside0.mk (blk_drew BK297.out); have n1_ := Aside0.mk (below_drew1 HB.out); clear BK297; clear HB; have BK297 := n0_; have HB := n1_; clear n0_ n1_; have p299 : 0 ≤ (x14_1 : Int) := ode; have q299 : x14_1 < (l0.length : Int) := ode; obtain ⟨ad299, e299, hx299_0, hx299_1⟩ := at_T64 HR0.out x14_1 p299 q299; have hw299_1 := hx299_1; have hw299_0 := hx299_0
          cases e299
          replace hx299_0 := cl HB hx299_0; replace hx299_1 := cl HB hx299_1; replace p299 := eq_true p299; replace q299 := eq_true q299; refine start_ (n := 13) (S := fun w' => w'.cell? ⟨gb297, 0, none⟩ = some (.int .i64 ((rd_T41 l1 x14_1).f0)) ∧ w'.cell? ⟨gb297, 1, none⟩ = some (.slice A296_1 ((rd_T41 l1 x14_1).f1).length c296_1) ∧ w'.cell? (ad299.add ((x14_1).toNat * 2)) = some (.string ((rd_T64 l0 x14_1).f0)) ∧ w'.cell? ⟨(ad299.add ((x14_1).toNat * 2)).block, (ad299.add ((x14_1).toNat * 2)).off + 1, none⟩ = some (.int .i64 ((rd_T64 l0 x14_1).f1))) (ds := []) #[false, false, false, false, false, false, false, false, false, false, false, false, false] (by kernel_rfl) rfl rfl ⟨(blk_cell BK297.out 0).trans rfl, (blk_cell BK297.out 1).trans rfl, ((HB.out.cell (World.block_lt_of_cell? w _ hw299_0)).trans hw299_0), ((HB.out.cell (World.block_lt_of_cell? w _ hw299_1)).trans hw299_1)⟩ (fun hHeld => ?_); refine with_tabW impl_valuesOk.tab6 impl_valuesOk.bits6 (fun HT_ HW_ => ?_); generalize w18.drew = w19 at BK297 HB hx299_0 hx299_1 hHeld ⊢; refine ta HT_ HW_ hHeld 0 19 12 ?_; refine on HT_ 1 20 11 (fun K hK => ?_); refine goes_ Try.func75 (by kernel_rfl) rfl #[.agg #[.int .i64 ((rd_T41 l1 x14_1).f0), .slice A296_1 ((rd_T41 l1 x14_1).f1).length c296_1]] (by rfl) rfl rfl ma ?_; (with_reducible refine (impl_BitsOk.calls ((rd_T41 l1 x14_1).f0) _ _ ((rd_T41 l1 x14_1).f1) true _ ?side1 ?side2 A7.out).mono ?_)
          (case side1 => exact rc HR296_1 HB); (case side2 => exact HC296_1.out)
          rintro e w20 ⟨rfl, hb⟩; refine ⟨_, rfl, ?_⟩; have n0_ := Aside0.mk (blk_below (g := gb297) (o := .cells #[.int .i64 ((rd_T41 l1 x14_1).f0), .slice A296_1 ((rd_T41 l1 x14_1).f1).length c296_1] 41 (0, 0)) (bk BK297) hb); have n1_ := Aside0.mk (below_step (bs HB GE297) hb); clear BK297; clear HB; have BK297 := n0_; have HB := n1_; clear n0_ n1_; (try clear hb)
          (try clear hb2); (try clear hk)
          (try clear hi); refine hK.out _ _ ⟨(blk_cell BK297.out 0).trans rfl, (blk_cell BK297.out 1).trans rfl, ((HB.out.cell (World.block_lt_of_cell? w _ hw299_0)).trans hw299_0), ((HB.out.cell (World.block_lt_of_cell? w _ hw299_1)).trans hw299_1)⟩ (fun hHeld => ?_); clear hK K; refine nm 20 ?_; refine pu HT_ 2 21 10 ?_; refine pu HT_ 3 22 9 ?_; refine pu HT_ 4 23 8 ?_; refine pure_ (i := 6) (N := some 25) (v := ?_) (a' := ?_) #[true, true, true, true, true, false, true, false, false, false, false, false, false] rfl rfl (any_of HT_.out (by kernel_rfl)) (fun _ _ _ h => h) (Or.inl ⟨by rfl, ?_⟩) ?_ ?_
          rotate_left
          ·intro w'
           go_simp
           with_reducible rfl
          rotate_left
          ·simp only [Act.put, List.setIfInBounds_toArray, List.set_cons_zero, List.set_cons_succ, i64_w, i32_w]
           rfl
          refine pure_ (i := 7) (N := some 26) (v := ?_) (a' := ?_) #[true, true, true, true, true, false, true, true, false, false, false, false, false] rfl rfl (any_of HT_.out (by kernel_rfl)) (fun _ _ _ h => h) (Or.inl ⟨by rfl, ?_⟩) ?_ ?_
          rotate_left
          ·intro w'
           go_simp
           with_reducible rfl
          rotate_left
          ·simp only [Act.put, List.setIfInBounds_toArray, List.set_cons_zero, List.set_cons_succ, i64_w, i32_w]
           rfl
          refine pure_ (i := 8) (N := some 27) (v := ?_) (a' := ?_) #[true, true, true, true, true, false, true, true, true, false, false, false, false] rfl rfl (any_of HT_.out (by kernel_rfl)) (fun _ _ _ h => h) (Or.inl ⟨by rfl, ?_⟩) ?_ ?_
          rotate_left
          ·intro w'
           go_simp
           with_reducible rfl
          rotate_left
          ·simp only [Act.put, List.setIfInBounds_toArray, List.set_cons_zero, List.set_cons_succ, i64_w, i32_w]
           rfl
          refine pure_ (i := 9) (N := some 28) (v := ?_) (a' := ?_) #[true, true, true, true, true, false, true, true, true, true, false, false, false] rfl rfl (any_of HT_.out (by kernel_rfl)) (fun _ _ _ h => h) (Or.inl ⟨by rfl, ?_⟩) ?_ ?_
          rotate_left
          ·intro w'
           go_simp
           with_reducible rfl
          rotate_left
          ·simp only [Act.put, List.setIfInBounds_toArray, List.set_cons_zero, List.set_cons_succ, i64_w, i32_w]
           rfl
          refine take_ (i := 5) (N := some 24) (v := ?_) (a' := ?_) #[true, true, true, true, true, true, true, true, true, true, false, false, false] rfl rfl (take_ofW HT_.out HW_.out (by kernel_rfl)) (fun _ _ _ h => h) (Or.inl ⟨by rfl, ?_⟩) hHeld ?_ ?_
          rotate_left
          ·rintro w' ⟨s0, s1, s2, s3⟩
           go_simp
           with_reducible rfl
          rotate_left
          ·simp only [Act.put, List.setIfInBounds_toArray, List.set_cons_zero, List.set_cons_succ, i64_w, i32_w]
           rfl
          refine ta HT_ HW_ hHeld 10 29 2 ?_; refine pu HT_ 11 30 1 ?_; refine pu HT_ 12 31 0 ?_; refine done_ (done_of HT_.out (by kernel_rfl)) ?_
          try go_wp2
          go_ret
          exact ⟨by first | rfl | (simp [errW_none, errW_some] <;> rfl) | (simp [*, errW_none, errW_some] <;> rfl), bs HB GE297⟩
        ·rw [if_neg c9] at H
         exact absurd H (by simp)
       ·replace c8 := Bool.eq_false_iff.mpr c8
        subst c8
        have H1 : (some false) = some r := by rw [if_neg (show ¬ (false = true) by decide)] at H; exact H
        clear H; have H := H1; clear H1; obtain rfl := Option.some.inj H; have p296 : 0 ≤ (x14_1 : Int) := ode; have q296 : x14_1 < (l1.length : Int) := ode; obtain ⟨ad296, A296_1, c296_1, e296, hx296_0, hx296_1, hl296_1, hi296_1⟩ := at_T41 HR1.out x14_1 p296 q296
        cases e296
        replace hx296_0 := cl HB hx296_0; replace hx296_1 := cl HB hx296_1; have HR296_1 := Aside0.mk hi296_1; have HC296_1 := Aside0.mk hl296_1; clear hi296_1 hl296_1; replace p296 := eq_true p296; replace q296 := eq_true q296
        try go_wp2_with (first | ((with_reducible refine gate_dst (N := 6) rfl ?_); refine box_event ?hg (N := 6) ?hd (cs := #[.int .i64 0, .slice none 0 0]) (t := 41) ?hr ?_; (case hd => rfl); (case hg => rfl); (case hr => first | (go_simp; done) | (go_simp; rfl)); intro gb297 hg w21 hbox hb; have n0_ := Aside0.mk (below_step (bl HB) hb); have n1_ := Aside0.mk (hbox); have n2_ := Aside0.mk ((by rw [hg]; exact (below_size (bl HB)) : w.heap.size ≤ gb297)); have n3_ := Aside0.mk ((by rw [hg]; exact (below_size (bl HB)) : w.heap.size ≤ gb297)); clear HB; have HB := n0_; have BK297 := n1_; have GW297 := n2_; have GE297 := n3_; clear n0_ n1_ n2_ n3_; clear hb hbox hg; have hcz22_0 : w21.cell? ⟨gb297, 0, none⟩ = some (.int .i64 0) := (blk_cell BK297.out 0).trans rfl; have hcz22_1 : w21.cell? ⟨gb297, 1, none⟩ = some (.slice none 0 0) := (blk_cell BK297.out 1).trans rfl; have hfz22_0 := blk_frozen BK297.out 0; have hfz22_1 := blk_frozen BK297.out 1))
        have n0_ : Aside0 (((w21.setCell ⟨gb297, 0, none⟩ (.int .i64 ((rd_T41 l1 x14_1).f0))).setCell ⟨gb297, 1, none⟩ (.slice A296_1 ((rd_T41 l1 x14_1).f1).length c296_1)).heap[gb297]? = some (.cells #[.int .i64 ((rd_T41 l1 x14_1).f0), .slice A296_1 ((rd_T41 l1 x14_1).f1).length c296_1] 41 (0, 0))) := ⟨by (with_reducible repeat (first | refine blk_drewN ?_ _ | refine blk_drew ?_ | refine blk_alloc ?_ _)); refine blk_put (cs := #[.int .i64 ((rd_T41 l1 x14_1).f0), .slice none 0 0]) ?_ 1 _ rfl; (with_reducible repeat (first | refine blk_drewN ?_ _ | refine blk_drew ?_ | refine blk_alloc ?_ _)); refine blk_put (cs := #[.int .i64 0, .slice none 0 0]) ?_ 0 _ rfl; (with_reducible repeat (first | refine blk_drewN ?_ _ | refine blk_drew ?_ | refine blk_alloc ?_ _)); exact BK297.out⟩
        have n1_ : Aside0 (Below w.heap.size w ((w21.setCell ⟨gb297, 0, none⟩ (.int .i64 ((rd_T41 l1 x14_1).f0))).setCell ⟨gb297, 1, none⟩ (.slice A296_1 ((rd_T41 l1 x14_1).f1).length c296_1))) := ⟨bs HB GE297⟩; (try clear BK297)
        (try clear HB); generalize ((w21.setCell ⟨gb297, 0, none⟩ (.int .i64 ((rd_T41 l1 x14_1).f0))).setCell ⟨gb297, 1, none⟩ (.slice A296_1 ((rd_T41 l1 x14_1).f1).length c296_1)) = w23 at n0_ n1_ ⊢; have BK297 := n0_; have HB := n1_; clear n0_ n1_; have n0_ := Aside0.mk (blk_drew BK297.out); have n1_ := Aside0.mk (below_drew1 HB.out); clear BK297; clear HB; have BK297 := n0_; have HB := n1_; clear n0_ n1_; refine start_ (n := 13) (S := fun w' => w'.cell? ⟨gb297, 0, none⟩ = some (.int .i64 ((rd_T41 l1 x14_1).f0)) ∧ w'.cell? ⟨gb297, 1, none⟩ = some (.slice A296_1 ((rd_T41 l1 x14_1).f1).length c296_1)) (ds := []) #[false, false, false, false, false, false, false, false, false, false, false, false, false] (by kernel_rfl) rfl rfl ⟨(blk_cell BK297.out 0).trans rfl, (blk_cell BK297.out 1).trans rfl⟩ (fun hHeld => ?_); refine with_tabW impl_valuesOk.tab6 impl_valuesOk.bits6 (fun HT_ HW_ => ?_); generalize w23.drew = w24 at BK297 HB hHeld ⊢; refine ta HT_ HW_ hHeld 0 19 12 ?_; refine on HT_ 1 20 11 (fun K hK => ?_); refine goes_ Try.func75 (by kernel_rfl) rfl #[.agg #[.int .i64 ((rd_T41 l1 x14_1).f0), .slice A296_1 ((rd_T41 l1 x14_1).f1).length c296_1]] (by rfl) rfl rfl ma ?_; (with_reducible refine (impl_BitsOk.calls ((rd_T41 l1 x14_1).f0) _ _ ((rd_T41 l1 x14_1).f1) false _ ?side1 ?side2 A7.out).mono ?_)
        (case side1 => exact rc HR296_1 HB); (case side2 => exact HC296_1.out)
        rintro e w25 ⟨rfl, hb⟩; refine ⟨_, rfl, ?_⟩; have n0_ := Aside0.mk (blk_below (g := gb297) (o := .cells #[.int .i64 ((rd_T41 l1 x14_1).f0), .slice A296_1 ((rd_T41 l1 x14_1).f1).length c296_1] 41 (0, 0)) (bk BK297) hb); have n1_ := Aside0.mk (below_step (bs HB GE297) hb); clear BK297; clear HB; have BK297 := n0_; have HB := n1_; clear n0_ n1_; (try clear hb)
        (try clear hb2); (try clear hk)
        (try clear hi); refine hK.out _ _ ⟨(blk_cell BK297.out 0).trans rfl, (blk_cell BK297.out 1).trans rfl⟩ (fun hHeld => ?_); clear hK K; refine nm 20 ?_; refine pu HT_ 2 21 10 ?_; refine pu HT_ 3 22 9 ?_; refine pv HT_ 4 23 8 ?_; refine pv HT_ 5 24 7 ?_; refine pv HT_ 6 25 6 ?_; refine pv HT_ 7 26 5 ?_; refine pv HT_ 8 27 4 ?_; refine pv HT_ 9 28 3 ?_; refine pv HT_ 10 29 2 ?_; refine pv HT_ 11 30 1 ?_; refine pu HT_ 12 31 0 ?_; refine done_ (done_of HT_.out (by kernel_rfl)) ?_
        try go_wp2
        go_ret
        exact ⟨by first | rfl | (simp [errW_none, errW_some] <;> rfl) | (simp [*, errW_none, errW_some] <;> rfl), bs HB GE297⟩
      ·rw [if_neg c6] at H
       exact absurd H (by simp)
     ·rw [if_neg c5] at H
      exact absurd H (by simp)
    ·rw [if_neg c4] at H
     have c4b0 : decide (x14_1 < (l1.length : Int)) = false := decide_eq_false c4; clear c4; obtain rfl := Option.some.inj H
     go_wp2
     go_ret
     exact ⟨by first | rfl | (simp [errW_none, errW_some] <;> rfl) | (simp [*, errW_none, errW_some] <;> rfl), bl HB⟩
 ·rw [if_neg c3] at H
  have c3b0 : ((l1.length : Int) == (l0.length : Int)) = false := beq_eq_false_iff_ne.mpr c3; have c3b1 : ((l1.length : Int) != (l0.length : Int)) = true := bne_iff_ne.mpr c3
  have c3b2 : (l1.length == l0.length) = false := by first | simpa using c3 | (simp at c3 ⊢; omega)
  obtain rfl := Option.some.inj H
  go_enter Try.func66, Try.ntmps66
  go_wp2
  go_ret
  exact ⟨by first | rfl | (simp [errW_none, errW_some] <;> rfl) | (simp [*, errW_none, errW_some] <;> rfl), bl HB⟩

/-! ### impl_ValuesOk: function 50 -/
def impl_ValuesOk.f (k : Nat) (l0 : List (S64)) (l1 : List (S41)) : Option (Bool) := (impl_DeclsOk.f k l0).bind fun t300 => (if t300 = true then ((impl_valuesOk.f k l0 l1).bind fun t301 => (some t301)) else (some false))
set_option maxHeartbeats 8000000 in
set_option maxRecDepth 100000 in
theorem impl_ValuesOk.calls (k : Nat) (A0 : Option Addr) (c0 : Nat) (l0 : List (S64)) (A1 : Option Addr) (c1 : Nat) (l1 : List (S41)) (r : Bool) (w : World) (hr0 : Kd.C k64 w A0 l0.length l0) (hc0 : l0.length ≤ c0) (hr1 : Kd.C k41 w A1 l1.length l1) (hc1 : l1.length ≤ c1) (h : impl_ValuesOk.f k l0 l1 = some r) :
  Calls Try.prog 50 #[.slice A0 l0.length c0, .slice A1 l1.length c1] w fun e w' => e = .returned (.bool r) ∧ Below w.heap.size w w' := by
 have HR0 := Aside0.mk hr0; have HC0 := Aside0.mk hc0; clear hr0 hc0; have HR1 := Aside0.mk hr1; have HC1 := Aside0.mk hc1; clear hr1 hc1; have HB := Aside0.mk (Below.refl w.heap.size w); have H : ((impl_DeclsOk.f k l0).bind fun t300 => (if t300 = true then ((impl_valuesOk.f k l0 l1).bind fun t301 => (some t301)) else (some false))) = some r := h; clear h; replace H := Option.bind_eq_some_iff.mp H; obtain ⟨t300, A30, H⟩ := H; replace H : (if t300 = true then ((impl_valuesOk.f k l0 l1).bind fun t301 => (some t301)) else (some false)) = some r := H; have A3 := Aside0.mk A30; clear A30
 by_cases c4 : t300 = true
 ·subst c4
  have H1 : ((impl_valuesOk.f k l0 l1).bind fun t301 => (some t301)) = some r := by rw [if_pos rfl] at H; exact H
  clear H; have H := H1; clear H1; replace H := Option.bind_eq_some_iff.mp H; obtain ⟨t301, A50, H⟩ := H; replace H : (some t301) = some r := H; have A5 := Aside0.mk A50; clear A50; obtain rfl := Option.some.inj H
  go_enter Try.func50, Try.ntmps50
  go_wp2_with (first | ((with_reducible refine gate_callee (f := 58) rfl ?_); refine goesL_ (some 6) rfl rfl Try.func58 (by kernel_rfl) rfl #[.slice A0 l0.length c0] rfl ma ?_; (with_reducible refine (impl_DeclsOk.calls k _ _ l0 true _ ?side1 ?side2 A3.out).mono ?_); (case side1 => repeat (first | exact HR0.out | (with_reducible refine Kd.C_alloc ?_ _) | (with_reducible refine Kd.C_drewN ?_ _) | (with_reducible refine Kd.C_drew ?_))); (case side2 => exact HC0.out); rintro e w6 ⟨rfl, hb⟩; refine ⟨_, rfl, ?_⟩; have n0_ := Aside0.mk (below_step (bl HB) hb); clear HB; have HB := n0_; clear n0_; (try clear hb); (try clear hb2); (try clear hk); (try clear hi)) | (go_at_call 66; (with_reducible refine (impl_valuesOk.calls k _ _ l0 _ _ l1 t301 _ ?side1 ?side2 ?side3 ?side4 A5.out).mono ?_); (case side1 => exact rc HR0 HB); (case side2 => exact HC0.out); (case side3 => exact rc HR1 HB); (case side4 => exact HC1.out); rintro e w7 ⟨rfl, hb⟩; have n0_ := Aside0.mk (below_step (bl HB) hb); clear HB; have HB := n0_; clear n0_; (try clear hb); (try clear hb2); (try clear hk); (try clear hi)))
  go_ret
  exact ⟨by first | rfl | (simp [errW_none, errW_some] <;> rfl) | (simp [*, errW_none, errW_some] <;> rfl), bl HB⟩
 ·replace c4 := Bool.eq_false_iff.mpr c4
  subst c4
  have H1 : (some false) = some r := by rw [if_neg (show ¬ (false = true) by decide)] at H; exact H
  clear H; have H := H1; clear H1; obtain rfl := Option.some.inj H
  go_enter Try.func50, Try.ntmps50
  go_wp2_with (first | ((with_reducible refine gate_callee (f := 58) rfl ?_); refine goesL_ (some 6) rfl rfl Try.func58 (by kernel_rfl) rfl #[.slice A0 l0.length c0] rfl ma ?_; (with_reducible refine (impl_DeclsOk.calls k _ _ l0 false _ ?side1 ?side2 A3.out).mono ?_); (case side1 => repeat (first | exact HR0.out | (with_reducible refine Kd.C_alloc ?_ _) | (with_reducible refine Kd.C_drewN ?_ _) | (with_reducible refine Kd.C_drew ?_))); (case side2 => exact HC0.out); rintro e w8 ⟨rfl, hb⟩; refine ⟨_, rfl, ?_⟩; have n0_ := Aside0.mk (below_step (bl HB) hb); clear HB; have HB := n0_; clear n0_; (try clear hb); (try clear hb2); (try clear hk); (try clear hi)))
  go_ret
  exact ⟨by first | rfl | (simp [errW_none, errW_some] <;> rfl) | (simp [*, errW_none, errW_some] <;> rfl), bl HB⟩

/-! ### impl_zeroBits: function 51 -/
def impl_zeroBits.f (a0 : Int) : Option (Int × List Int) := (impl_wordsFor.f a0).bind fun t303 => (if 0 ≤ t303 then (if (t303 : Int).toNat ≤ 35184372088832 then (some (a0, (List.replicate (t303 : Int).toNat 0))) else (none)) else (none))
set_option maxHeartbeats 8000000 in
set_option maxRecDepth 100000 in
theorem impl_zeroBits.calls (a0 : Int) (r1 : Int) (r2 : List Int) (w : World) (h : impl_zeroBits.f a0 = some (r1, r2)) :
  Calls Try.prog 51 #[.int .i64 a0] w fun e w' => ∃ v1_ : Value, e = .returned (.agg #[.int .i64 r1, v1_]) ∧ Kd.R (Kd.int .u64) 93 w' w.heap.size (fun _ => True) v1_ r2 ∧ Below w.heap.size w w' := by
 have hu41 := Try.underlying41; have HB := Aside0.mk (Below.refl w.heap.size w); have H : ((impl_wordsFor.f a0).bind fun t303 => (if 0 ≤ t303 then (if (t303 : Int).toNat ≤ 35184372088832 then (some (a0, (List.replicate (t303 : Int).toNat 0))) else (none)) else (none))) = some (r1, r2) := h; clear h; replace H := Option.bind_eq_some_iff.mp H; obtain ⟨t303, A20, H⟩ := H; replace H : (if 0 ≤ t303 then (if (t303 : Int).toNat ≤ 35184372088832 then (some (a0, (List.replicate (t303 : Int).toNat 0))) else (none)) else (none)) = some (r1, r2) := H; have A2 := Aside0.mk A20; clear A20
 by_cases c3 : 0 ≤ t303
 ·rw [if_pos c3] at H
  have c3b0 := eq_true c3; have c3b1 : decide (0 ≤ t303) = true := decide_eq_true c3; clear c3
  by_cases c4 : (t303 : Int).toNat ≤ 35184372088832
  ·rw [if_pos c4] at H
   have c4b0 := eq_true c4; have c4b1 : decide ((t303 : Int).toNat ≤ 35184372088832) = true := decide_eq_true c4; clear c4; obtain ⟨y304, hy304⟩ : ∃ y_ : List Int, y_ = (List.replicate (t303 : Int).toNat 0) := ⟨_, rfl⟩
   replace H : (some (a0, y304)) = some (r1, r2) := by first | (rw [hy304]; with_reducible exact H) | (have H2_ := (Option.bind_some _ _).symm.trans H; rw [hy304]; with_reducible exact H2_) | (have H2_ := (Option.bind_some _ _).symm.trans H; with_reducible exact H2_) | with_reducible exact H | (rw [hy304]; exact H) | exact H
   have Ny304 := Aside0.mk hy304; clear hy304
   simp only [Option.some.injEq, Prod.mk.injEq] at H
   obtain ⟨rfl, rfl⟩ := H
   go_enter Try.func51, Try.ntmps51
   go_wp2_with (first | ((with_reducible refine gate_dst (N := 2) rfl ?_); refine box_event ?hg (N := 2) ?hd (cs := #[.int .i64 0, .slice none 0 0]) (t := 41) ?hr ?_; (case hd => rfl); (case hg => rfl); (case hr => first | (go_simp; done) | (go_simp; rfl)); intro gb302 hg w5 hbox hb; have n0_ := Aside0.mk (below_step (bl HB) hb); have n1_ := Aside0.mk (hbox); have n2_ := Aside0.mk ((by rw [hg]; exact (below_size (bl HB)) : w.heap.size ≤ gb302)); have n3_ := Aside0.mk ((by rw [hg]; exact (below_size (bl HB)) : w.heap.size ≤ gb302)); clear HB; have HB := n0_; have BK302 := n1_; have GW302 := n2_; have GE302 := n3_; clear n0_ n1_ n2_ n3_; clear hb hbox hg) | ((with_reducible refine gate_callee (f := 67) rfl ?_); refine goesL_ (some 5) rfl rfl Try.func67 (by kernel_rfl) rfl #[.int .i64 a0] rfl ma ?_; (with_reducible refine (impl_wordsFor.calls a0 t303 _ A2.out).mono ?_); rintro e w' ⟨rfl, ⟨nd, rfl⟩⟩; refine ⟨_, rfl, ?_⟩; (try (rw [drewN_self w5]; generalize hq_ : World.drewN w5 _ = w5; have n0_ : Aside0 (w5.heap[gb302]? = some (.cells #[.int .i64 0, .slice none 0 0] 41 (0, 0))) := ⟨by rw [← hq_]; exact (bk BK302)⟩; have n1_ : Aside0 (Below w.heap.size w w5) := ⟨by rw [← hq_]; exact (bs HB GE302)⟩; clear BK302 HB hq_; have BK302 := n0_; have HB := n1_; clear n0_ n1_))) | ((with_reducible refine gate_dst (N := 6) rfl ?_); refine Kd.R_make (Kd.int .u64) _ 93 rfl (N := 6) rfl 39 _ _ rfl t303 rfl rfl Try.underlying39 (.int .u64 0) 8 info93 rfl (by decide) (by omega) 0 (ok := fun _ => True) (okp := fun _ => True) rfl (fun _ hk => hk) trivial (ode) (Nat.le_trans (Nat.mul_le_mul_right _ (ode : t303.toNat ≤ 35184372088832)) (by omega)) (Below.refl _ _) (Nat.le_refl _) ?_; intro v305 w6 ho7 hb hg_ hnew_; clear hg_ hnew_; (first | rw [← Ny304.out] at ho7 | (simp only [Int.reduceToNat] at ho7; rw [← Ny304.out] at ho7)); have n0_ := Aside0.mk (Kd.R_lower ho7 (below_size (bs HB GE302))); have n1_ := Aside0.mk (blk_below (g := gb302) (o := .cells #[.int .i64 0, .slice none 0 0] 41 (0, 0)) (bk BK302) hb); have n2_ := Aside0.mk (below_step (bs HB GE302) hb); clear BK302; clear HB; have HO306 := n0_; have BK302 := n1_; have HB := n2_; clear n0_ n1_ n2_; clear hb ho7; obtain ⟨Ao8, co8, eo8⟩ := Kd.R_slice HO306.out; subst eo8; have hcz9_0 : w6.cell? ⟨gb302, 0, none⟩ = some (.int .i64 0) := (blk_cell BK302.out 0).trans rfl; have hcz9_1 : w6.cell? ⟨gb302, 1, none⟩ = some (.slice none 0 0) := (blk_cell BK302.out 1).trans rfl; have hfz9_0 := blk_frozen BK302.out 0; have hfz9_1 := blk_frozen BK302.out 1))
   refine bodyPost_ret (results_cell_row rfl _ _ gb302 41 #[.int .i64 a0, .slice Ao8 y304.length co8] (0, 0) _ rfl (by (with_reducible repeat (first | refine blk_drewN ?_ _ | refine blk_drew ?_ | refine blk_alloc ?_ _)); refine blk_put (cs := #[.int .i64 a0, .slice none 0 0]) ?_ 1 _ rfl; (with_reducible repeat (first | refine blk_drewN ?_ _ | refine blk_drew ?_ | refine blk_alloc ?_ _)); refine blk_put (cs := #[.int .i64 0, .slice none 0 0]) ?_ 0 _ rfl; (with_reducible repeat (first | refine blk_drewN ?_ _ | refine blk_drew ?_ | refine blk_alloc ?_ _)); exact BK302.out) Try.underlying41 rfl (by kernel_rfl)) rfl ?_
   exact ⟨_, by first | rfl | (simp [errW_none, errW_some] <;> rfl) | (simp [*, errW_none, errW_some] <;> rfl), by (with_reducible repeat (first | apply Kd.R_alloc | apply Kd.R_drewN | apply Kd.R_drew)); exact Kd.R_mono (Kd.R_far (p := ⟨gb302, 1, none⟩) (Kd.R_far (p := ⟨gb302, 0, none⟩) (Kd.R_types HO306.out BK302.out (by decide)) (fun _ hk => hk.2) (.int .i64 a0)) (fun _ hk => hk.2) (.slice Ao8 y304.length co8)) (fun _ hk => trivial), bs HB GE302⟩
  ·rw [if_neg c4] at H
   exact absurd H (by simp)
 ·rw [if_neg c3] at H
  exact absurd H (by simp)

end Go.Proofs.Ytjnmenadlnajeaa.PFnExactFlatEval
