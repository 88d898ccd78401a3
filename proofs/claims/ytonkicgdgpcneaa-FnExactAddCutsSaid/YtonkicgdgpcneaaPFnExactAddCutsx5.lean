-- Written by a program of this session (a turned copy of the kit's printer); Lean checks it.
-- half the depth
import Derived.Test.YtonkicgdgpcneaaPFnExactAddCutsx0
import Derived.Test.YtonkicgdgpcneaaPFnExactAddCutsx3
import Derived.Test.YtonkicgdgpcneaaPFnExactAddCutsx4
namespace Go.Proofs.Ytonkicgdgpcneaa.PFnExactAddCuts
open Go.RowKit Go.Proofs.YtonkicgdgpcneaaW.PrintWords Go.Proofs.YtonkicgdgpcneaaW.PrintLast Go.Proofs.YtonkicgdgpcneaaW.PrintMore
attribute [local go_sem] max2_int min2_int max_two min_two max_three min_three max_four min_four   -- for this text's walks alone
set_option linter.unusedVariables false
set_option linter.unusedSimpArgs false

/-! ### spec_AddCuts: function 18 -/
mutual
def spec_AddCuts.j0 : Nat → List (S63) → Bool → List (List Int) → List (List Int) → Option ((List (List Int)) × Bool)
 | 0, _, _, _, _ => none
 | k + 1, x0, x20, x158000, x159000 => if x20 = true then (some (([] : List (List Int)), false)) else ((spec_l6Marks.f k x0 x158000).bind fun t162 => (spec_AddCuts.l0 k t162 0 x159000))
def spec_AddCuts.l0 : Nat → List (List Bool) → Int → List (List Int) → Option ((List (List Int)) × Bool)
 | 0, _, _, _ => none
 | k + 1, x8, x9, x159000 => if x9 < (x159000.length : Int) then (spec_AddCuts.l1 k x8 x9 0 x159000) else ((spec_l6Cuts.f k x8).bind fun t165 => (some (t165, true)))
def spec_AddCuts.l1 : Nat → List (List Bool) → Int → Int → List (List Int) → Option ((List (List Int)) × Bool)
 | 0, _, _, _, _ => none
 | k + 1, x8, x9, x10, x159000 => if 0 ≤ x9 then (if x9 < (x159000.length : Int) then (if x10 < ((rd_L3 x159000 x9).length : Int) then (if x9 < (x8.length : Int) then (if 0 ≤ x10 then (if 0 ≤ (rd (rd_L3 x159000 x9) x10) then (if (rd (rd_L3 x159000 x9) x10) < ((rd_L6 x8 x9).length : Int) then (spec_AddCuts.l1 k (x8.set (x9 : Int).toNat ((rd_L6 x8 x9).set ((rd (rd_L3 x159000 x9) x10) : Int).toNat true)) x9 (wrap64 (x10 + 1)) x159000) else (none)) else (none)) else (none)) else (none)) else (spec_AddCuts.l0 k x8 (wrap64 (x9 + 1)) x159000)) else (none)) else (none)
end
def spec_AddCuts.f (k : Nat) (l0 : List (S63)) (l1_0 : List (List Int)) (l2_0 : List (List Int)) : Option ((List (List Int)) × Bool) := (spec_CutsOk.f k l0 l1_0).bind fun t160 => (if t160 = true then ((spec_CutsOk.f k l0 l2_0).bind fun t161 => (spec_AddCuts.j0 k l0 (!t161) l1_0 l2_0)) else (spec_AddCuts.j0 k l0 true l1_0 l2_0))
def spec_AddCuts.T10 : Bool × List (List Nat × List Nat) := (true, [([], []), ([], []), ([0, 1], [0, 1]), ([2], [2]), ([], []), ([4], [4]), ([], []), ([5, 6], [5, 6]), ([7], [7]), ([], []), ([8, 9], [8, 9]), ([10], [10]), ([3, 11, 0, 1, 2, 3, 4, 5, 6, 7, 8, 9, 10, 11], [3, 11]), ([12, 0, 1, 2, 3, 4, 5, 6, 7, 8, 9, 10, 11], [12])])
def spec_AddCuts.B10 : List Nat := [0, 0, 3, 7, 0, 16, 0, 112, 240, 0, 1008, 2032, 4095, 8191]
theorem spec_AddCuts.tab10 : rtab .any (opsOf Try.f18 10) = spec_AddCuts.T10 := by kernel_rfl
theorem spec_AddCuts.bits10 : waitsOk spec_AddCuts.T10.2 spec_AddCuts.B10 = true := by kernel_rfl
set_option maxHeartbeats 8000000 in
set_option maxRecDepth 100000 in
theorem spec_AddCuts.calls (k : Nat) (A0 : Option Addr) (c0 : Nat) (l0 : List (S63)) (A1_0 : Option Addr) (c1_0 : Nat) (l1_0 : List (List Int)) (A2_0 : Option Addr) (c2_0 : Nat) (l2_0 : List (List Int)) (r1 : List (List Int)) (r2 : Bool) (w : World) (hr0 : Kd.C k63 w A0 l0.length l0) (hc0 : l0.length ≤ c0) (hr1_0 : Kd.C (Kd.slice 2 (Kd.int .i64)) w A1_0 l1_0.length l1_0) (hc1_0 : l1_0.length ≤ c1_0) (hr2_0 : Kd.C (Kd.slice 2 (Kd.int .i64)) w A2_0 l2_0.length l2_0) (hc2_0 : l2_0.length ≤ c2_0) (h : spec_AddCuts.f k l0 l1_0 l2_0 = some (r1, r2)) :
  Calls Try.prog 18 #[.slice A0 l0.length c0, .agg #[.slice A1_0 l1_0.length c1_0], .agg #[.slice A2_0 l2_0.length c2_0]] w fun e w' => ∃ v0_ : Value, e = .returned (.tuple #[.agg #[v0_], .bool r2]) ∧ Kd.S (Kd.slice 2 (Kd.int .i64)) 26 w' w.heap.size (fun _ => True) v0_ r1 ∧ Below w.heap.size w w' := by
 have hu44 := Try.underlying44; have HR0 := Aside0.mk hr0; have HC0 := Aside0.mk hc0; clear hr0 hc0; have HR1_0 := Aside0.mk hr1_0; have HC1_0 := Aside0.mk hc1_0; clear hr1_0 hc1_0; have HR2_0 := Aside0.mk hr2_0; have HC2_0 := Aside0.mk hc2_0; clear hr2_0 hc2_0; have HB := Aside0.mk (Below.refl w.heap.size w); have H : ((spec_CutsOk.f k l0 l1_0).bind fun t160 => (if t160 = true then ((spec_CutsOk.f k l0 l2_0).bind fun t161 => (spec_AddCuts.j0 k l0 (!t161) l1_0 l2_0)) else (spec_AddCuts.j0 k l0 true l1_0 l2_0))) = some (r1, r2) := h; clear h; have HC4 := Aside0.mk H; clear H
 go_enter Try.func18, Try.ntmps18
 go_upto_region 1 with (first | ((with_reducible refine gate_dst (N := 4) rfl ?_); refine be 4 #[.slice A1_0 l1_0.length c1_0] 44 ?_; intro gb157 hg w5 hbox hb; have n0_ := Aside0.mk (below_step (bl HB) hb); have n1_ := Aside0.mk (hbox); have n2_ := Aside0.mk (gs HB hg); have n3_ := Aside0.mk (gs HB hg); clear HB; have HB := n0_; have BK157 := n1_; have GW157 := n2_; have GE157 := n3_; clear n0_ n1_ n2_ n3_; clear hb hbox hg) | ((with_reducible refine gate_dst (N := 5) rfl ?_); refine be 5 #[.slice A2_0 l2_0.length c2_0] 44 ?_; intro gb158 hg w6 hbox hb; have n0_ := Aside0.mk (blk_below (g := gb157) (o := .cells #[.slice A1_0 l1_0.length c1_0] 44 (0, 0)) (bk BK157) hb); have n1_ := Aside0.mk (below_step (bs HB GE157) hb); have n2_ := Aside0.mk (hbox); have n3_ := Aside0.mk ((by rw [hg]; exact (below_size (bs HB GE157)) : w.heap.size ≤ gb158)); have n4_ := Aside0.mk ((by rw [hg]; exact (below_size (bs HB GE157)) : w.heap.size ≤ gb158)); have n5_ := Aside0.mk ((by rw [hg]; exact Nat.ne_of_lt (blk_lt (g := gb157) (o := .cells #[.slice A1_0 l1_0.length c1_0] 44 (0, 0)) (bk BK157)) : gb157 ≠ gb158)); have n6_ := Aside0.mk ((by rw [hg]; exact Nat.ne_of_gt (blk_lt (g := gb157) (o := .cells #[.slice A1_0 l1_0.length c1_0] 44 (0, 0)) (bk BK157)) : gb158 ≠ gb157)); clear BK157; clear HB; have BK157 := n0_; have HB := n1_; have BK158 := n2_; have GW158 := n3_; have GE158 := n4_; have NB157_158 := n5_; have NB158_157 := n6_; clear n0_ n1_ n2_ n3_ n4_ n5_ n6_; clear hb hbox hg) | ((with_reducible refine gate_dst (N := 6) rfl ?_); refine be 6 #[.slice none 0 0] 44 ?_; intro gb159 hg w7 hbox hb; have n0_ := Aside0.mk (blk_below (g := gb157) (o := .cells #[.slice A1_0 l1_0.length c1_0] 44 (0, 0)) (bk BK157) hb); have n1_ := Aside0.mk (blk_below (g := gb158) (o := .cells #[.slice A2_0 l2_0.length c2_0] 44 (0, 0)) (bk BK158) hb); have n2_ := Aside0.mk (below_step (bs2 HB GE157 GE158) hb); have n3_ := Aside0.mk (hbox); have n4_ := Aside0.mk ((by rw [hg]; exact (below_size (bs2 HB GE157 GE158)) : w.heap.size ≤ gb159)); have n5_ := Aside0.mk ((by rw [hg]; exact (below_size (bs2 HB GE157 GE158)) : w.heap.size ≤ gb159)); have n6_ := Aside0.mk ((by rw [hg]; exact Nat.ne_of_lt (blk_lt (g := gb157) (o := .cells #[.slice A1_0 l1_0.length c1_0] 44 (0, 0)) (bk BK157)) : gb157 ≠ gb159)); have n7_ := Aside0.mk ((by rw [hg]; exact Nat.ne_of_gt (blk_lt (g := gb157) (o := .cells #[.slice A1_0 l1_0.length c1_0] 44 (0, 0)) (bk BK157)) : gb159 ≠ gb157)); have n8_ := Aside0.mk ((by rw [hg]; exact Nat.ne_of_lt (blk_lt (g := gb158) (o := .cells #[.slice A2_0 l2_0.length c2_0] 44 (0, 0)) (bk BK158)) : gb158 ≠ gb159)); have n9_ := Aside0.mk ((by rw [hg]; exact Nat.ne_of_gt (blk_lt (g := gb158) (o := .cells #[.slice A2_0 l2_0.length c2_0] 44 (0, 0)) (bk BK158)) : gb159 ≠ gb158)); clear BK157; clear BK158; clear HB; have BK157 := n0_; have BK158 := n1_; have HB := n2_; have BK159 := n3_; have GW159 := n4_; have GE159 := n5_; have NB157_159 := n6_; have NB159_157 := n7_; have NB158_159 := n8_; have NB159_158 := n9_; clear n0_ n1_ n2_ n3_ n4_ n5_ n6_ n7_ n8_ n9_; clear hb hbox hg))
 (try simp only [Act.put, List.setIfInBounds_toArray, List.set_cons_zero, List.set_cons_succ])
 go_cut [20] (fun v20 wc => ∃ (kq : Nat) (x20_3 : Bool), v20 = .bool x20_3 ∧ Aside0 (spec_AddCuts.j0 kq l0 x20_3 l1_0 l2_0 = some (r1, r2)) ∧ Aside0 (kq ≤ k) ∧ Aside0 (wc.heap[gb157]? = some (.cells #[(.slice A1_0 l1_0.length c1_0)] 44 (0, 0))) ∧ Aside0 (wc.heap[gb158]? = some (.cells #[(.slice A2_0 l2_0.length c2_0)] 44 (0, 0))) ∧ Aside0 (wc.heap[gb159]? = some (.cells #[(.slice none 0 0)] 44 (0, 0))) ∧ Aside0 (Below w.heap.size w wc))
 case first =>
  have H := HC4.out; clear HC4; replace H := Option.bind_eq_some_iff.mp H; obtain ⟨t160, A80, H⟩ := H; replace H : (if t160 = true then ((spec_CutsOk.f k l0 l2_0).bind fun t161 => (spec_AddCuts.j0 k l0 (!t161) l1_0 l2_0)) else (spec_AddCuts.j0 k l0 true l1_0 l2_0)) = some (r1, r2) := H; have A8 := Aside0.mk A80; clear A80
  by_cases c9 : t160 = true
  ·subst c9
   have H1 : ((spec_CutsOk.f k l0 l2_0).bind fun t161 => (spec_AddCuts.j0 k l0 (!t161) l1_0 l2_0)) = some (r1, r2) := by rw [if_pos rfl] at H; exact H
   clear H; have H := H1; clear H1; replace H := Option.bind_eq_some_iff.mp H; obtain ⟨t161, A100, H⟩ := H; replace H : (spec_AddCuts.j0 k l0 (!t161) l1_0 l2_0) = some (r1, r2) := H; have A10 := Aside0.mk A100; clear A100; have H' := Aside0.mk H; clear H; have hnb11 := NB157_158.out; have hnc11 := NB158_157.out; have hnb12 := NB157_159.out; have hnc12 := NB159_157.out; have hcz13_0 : w7.cell? ⟨gb157, 0, none⟩ = some (.slice A1_0 l1_0.length c1_0) := (blk_cell BK157.out 0).trans rfl; have hfz13_0 := blk_frozen BK157.out 0
   go_wp2_with (first | ((with_reducible refine gate_callee (f := 48) rfl ?_); refine goesL_ (some 13) rfl rfl Try.func48 (by kernel_rfl) rfl #[.slice A0 l0.length c0, .agg #[.slice A1_0 l1_0.length c1_0]] rfl ma ?_; (with_reducible refine (spec_CutsOk.calls k _ _ l0 _ _ l1_0 true _ ?side1 ?side2 ?side3 ?side4 A8.out).mono ?_); (case side1 => exact rc HR0 HB); (case side2 => exact HC0.out); (case side3 => exact rc HR1_0 HB); (case side4 => exact HC1_0.out); rintro e w14 ⟨rfl, hb⟩; refine ⟨_, rfl, ?_⟩; have n0_ := Aside0.mk (blk_below (g := gb157) (o := .cells #[.slice A1_0 l1_0.length c1_0] 44 (0, 0)) (bk BK157) hb); have n1_ := Aside0.mk (blk_below (g := gb158) (o := .cells #[.slice A2_0 l2_0.length c2_0] 44 (0, 0)) (bk BK158) hb); have n2_ := Aside0.mk (blk_below (g := gb159) (o := .cells #[.slice none 0 0] 44 (0, 0)) (bk BK159) hb); have n3_ := Aside0.mk (below_step (bs3 HB GE157 GE158 GE159) hb); clear BK157; clear BK158; clear BK159; clear HB; have BK157 := n0_; have BK158 := n1_; have BK159 := n2_; have HB := n3_; clear n0_ n1_ n2_ n3_; (try clear hb); (try clear hb2); (try clear hk); (try clear hi); have hnb15 := NB158_159.out; have hnc15 := NB159_158.out; have hcz16_0 : w14.cell? ⟨gb158, 0, none⟩ = some (.slice A2_0 l2_0.length c2_0) := (blk_cell BK158.out 0).trans rfl; have hfz16_0 := blk_frozen BK158.out 0) | (go_at_call 48; (with_reducible refine (spec_CutsOk.calls k _ _ l0 _ _ l2_0 t161 _ ?side1 ?side2 ?side3 ?side4 A10.out).mono ?_); (case side1 => exact rc HR0 HB); (case side2 => exact HC0.out); (case side3 => exact rc HR2_0 HB); (case side4 => exact HC2_0.out); rintro e w17 ⟨rfl, hb⟩; have n0_ := Aside0.mk (blk_below (g := gb157) (o := .cells #[.slice A1_0 l1_0.length c1_0] 44 (0, 0)) (bk BK157) hb); have n1_ := Aside0.mk (blk_below (g := gb158) (o := .cells #[.slice A2_0 l2_0.length c2_0] 44 (0, 0)) (bk BK158) hb); have n2_ := Aside0.mk (blk_below (g := gb159) (o := .cells #[.slice none 0 0] 44 (0, 0)) (bk BK159) hb); have n3_ := Aside0.mk (below_step (bs3 HB GE157 GE158 GE159) hb); clear BK157; clear BK158; clear BK159; clear HB; have BK157 := n0_; have BK158 := n1_; have BK159 := n2_; have HB := n3_; clear n0_ n1_ n2_ n3_; (try clear hb); (try clear hb2); (try clear hk); (try clear hi)))
   go_meet
   case rel => exact ⟨_, (!t161), au, H', ⟨by first | omega | exact Nat.le_refl _⟩, ⟨bk BK157⟩, ⟨bk BK158⟩, ⟨bk BK159⟩, ⟨bs3 HB GE157 GE158 GE159⟩⟩
  ·replace c9 := Bool.eq_false_iff.mpr c9
   subst c9
   have H1 : (spec_AddCuts.j0 k l0 true l1_0 l2_0) = some (r1, r2) := by rw [if_neg (show ¬ (false = true) by decide)] at H; exact H
   clear H; have H := H1; clear H1; have H' := Aside0.mk H; clear H; have hnb18 := NB157_158.out; have hnc18 := NB158_157.out; have hnb19 := NB157_159.out; have hnc19 := NB159_157.out; have hcz20_0 : w7.cell? ⟨gb157, 0, none⟩ = some (.slice A1_0 l1_0.length c1_0) := (blk_cell BK157.out 0).trans rfl; have hfz20_0 := blk_frozen BK157.out 0
   go_wp2_with (first | ((with_reducible refine gate_callee (f := 48) rfl ?_); refine goesL_ (some 13) rfl rfl Try.func48 (by kernel_rfl) rfl #[.slice A0 l0.length c0, .agg #[.slice A1_0 l1_0.length c1_0]] rfl ma ?_; (with_reducible refine (spec_CutsOk.calls k _ _ l0 _ _ l1_0 false _ ?side1 ?side2 ?side3 ?side4 A8.out).mono ?_); (case side1 => exact rc HR0 HB); (case side2 => exact HC0.out); (case side3 => exact rc HR1_0 HB); (case side4 => exact HC1_0.out); rintro e w21 ⟨rfl, hb⟩; refine ⟨_, rfl, ?_⟩; have n0_ := Aside0.mk (blk_below (g := gb157) (o := .cells #[.slice A1_0 l1_0.length c1_0] 44 (0, 0)) (bk BK157) hb); have n1_ := Aside0.mk (blk_below (g := gb158) (o := .cells #[.slice A2_0 l2_0.length c2_0] 44 (0, 0)) (bk BK158) hb); have n2_ := Aside0.mk (blk_below (g := gb159) (o := .cells #[.slice none 0 0] 44 (0, 0)) (bk BK159) hb); have n3_ := Aside0.mk (below_step (bs3 HB GE157 GE158 GE159) hb); clear BK157; clear BK158; clear BK159; clear HB; have BK157 := n0_; have BK158 := n1_; have BK159 := n2_; have HB := n3_; clear n0_ n1_ n2_ n3_; (try clear hb); (try clear hb2); (try clear hk); (try clear hi)))
   go_meet
   case rel => exact ⟨_, (true), au, H', ⟨by first | omega | exact Nat.le_refl _⟩, ⟨bk BK157⟩, ⟨bk BK158⟩, ⟨bk BK159⟩, ⟨bs3 HB GE157 GE158 GE159⟩⟩
 case rest =>
  clear HC4
  try clear c1
  try clear c2
  try clear p2
  try clear c4
  try clear c9
  try clear c11
  try clear c12
  try clear c15
  try clear c18
  try clear c19
  try clear hcz13_0
  try clear hcz16_0
  try clear hcz20_0
  try clear hfz13_0
  try clear hfz16_0
  try clear hfz20_0
  obtain ⟨kq, x20_3, rfl, HA, HJ3, BK157, BK158, BK159, HB⟩ := hcut
  cases kq with
  | zero => exact absurd HA.out (by simp [spec_AddCuts.j0])
  | succ kj3 =>
   have H := HA.out; clear HA
   simp only [spec_AddCuts.j0] at H
   by_cases c22 : x20_3 = true
   ·subst c22
    have H1 : (some (([] : List (List Int)), false)) = some (r1, r2) := by rw [if_pos rfl] at H; exact H
    clear H; have H := H1; clear H1
    simp only [Option.some.injEq, Prod.mk.injEq] at H
    obtain ⟨rfl, rfl⟩ := H; have hnb23 := NB159_157.out; have hnc23 := NB157_159.out; have hnb24 := NB159_158.out; have hnc24 := NB158_159.out; have hcz25_0 : wc.cell? ⟨gb159, 0, none⟩ = some (.slice none 0 0) := (blk_cell BK159.out 0).trans rfl; have hfz25_0 := blk_frozen BK159.out 0
    go_wp2
    refine bodyPost_ret (results_ct rfl _ _ gb159 44 #[.slice none 0 0] (0, 0) _ rfl (by refine bd ?_; refine blk_put (cs := #[.slice none 0 0]) ?_ 0 _ rfl; (with_reducible repeat (first | refine blk_drewN ?_ _ | refine blk_drew ?_ | refine blk_alloc ?_ _)); exact BK159.out) Try.underlying44 rfl (by kernel_rfl)) rfl ?_
    exact ⟨_, by first | rfl | (simp [errW_none, errW_some] <;> rfl) | (simp [*, errW_none, errW_some] <;> rfl), by first | exact Kd.S_nil _ _ _ _ _ | exact Kd.N_nil _ _ _ _ _ | exact Kd.V_nil _ _ _ _ _ | exact Kd.Q_nil _ _ _ _ _ | exact Kd.R_nil _ _ _ _ _, bs3 HB GE157 GE158 GE159⟩
   ·replace c22 := Bool.eq_false_iff.mpr c22
    subst c22
    have H1 : ((spec_l6Marks.f kj3 l0 l1_0).bind fun t162 => (spec_AddCuts.l0 kj3 t162 0 l2_0)) = some (r1, r2) := by rw [if_neg (show ¬ (false = true) by decide)] at H; exact H
    clear H; have H := H1; clear H1; replace H := Option.bind_eq_some_iff.mp H; obtain ⟨t162, A260, H⟩ := H; replace H : (spec_AddCuts.l0 kj3 t162 0 l2_0) = some (r1, r2) := H; have A26 := Aside0.mk A260; clear A260; have H' := Aside0.mk H; clear H; have hnb27 := NB157_158.out; have hnc27 := NB158_157.out; have hnb28 := NB157_159.out; have hnc28 := NB159_157.out; have hcz29_0 : wc.cell? ⟨gb157, 0, none⟩ = some (.slice A1_0 l1_0.length c1_0) := (blk_cell BK157.out 0).trans rfl; have hfz29_0 := blk_frozen BK157.out 0
    go_wp2_with (first | ((with_reducible refine gate_callee (f := 49) rfl ?_); refine goesL_ (some 24) rfl rfl Try.func49 (by kernel_rfl) rfl #[.slice A0 l0.length c0, .agg #[.slice A1_0 l1_0.length c1_0]] rfl ma ?_; (with_reducible refine (spec_l6Marks.calls kj3 _ _ l0 _ _ l1_0 t162 _ ?side1 ?side2 ?side3 ?side4 A26.out).mono ?_); (case side1 => exact rc HR0 HB); (case side2 => exact HC0.out); (case side3 => exact rc HR1_0 HB); (case side4 => exact HC1_0.out); rintro e w30 ⟨v163, rfl, ho0, hb⟩; refine ⟨_, rfl, ?_⟩; have n0_ := Aside0.mk (Kd.S_lower ho0 (below_size (bs3 HB GE157 GE158 GE159))); have n1_ := Aside0.mk (blk_below (g := gb157) (o := .cells #[.slice A1_0 l1_0.length c1_0] 44 (0, 0)) (bk BK157) hb); have n2_ := Aside0.mk (blk_below (g := gb158) (o := .cells #[.slice A2_0 l2_0.length c2_0] 44 (0, 0)) (bk BK158) hb); have n3_ := Aside0.mk (blk_below (g := gb159) (o := .cells #[.slice none 0 0] 44 (0, 0)) (bk BK159) hb); have n4_ := Aside0.mk (below_step (bs3 HB GE157 GE158 GE159) hb); clear BK157; clear BK158; clear BK159; clear HB; have HO164 := n0_; have BK157 := n1_; have BK158 := n2_; have BK159 := n3_; have HB := n4_; clear n0_ n1_ n2_ n3_ n4_; (try clear hb); (try clear hb2); (try clear hk); (try clear hi); (try clear ho0)))
    go_loopg [9] kj3 (fun kq v9 w' => ∃ (x8_2 : List (List Bool)) (x9_2 : Int), v9 = .int .i64 x9_2 ∧ Aside0 (spec_AddCuts.l0 kq x8_2 x9_2 l2_0 = some (r1, r2)) ∧ Aside0 (kq ≤ kj3) ∧ Aside0 (Kd.S (Kd.slice 4 Kd.bool) 76 w' w.heap.size (fun _ => True) v163 x8_2) ∧ Aside0 (w'.heap[gb157]? = some (.cells #[(.slice A1_0 l1_0.length c1_0)] 44 (0, 0))) ∧ Aside0 (w'.heap[gb158]? = some (.cells #[(.slice A2_0 l2_0.length c2_0)] 44 (0, 0))) ∧ Aside0 (w'.heap[gb159]? = some (.cells #[(.slice none 0 0)] 44 (0, 0))) ∧ Aside0 (Below w.heap.size w w'))
    case atStart => exact ⟨(t162), (0), au, H', ⟨Nat.le_refl _⟩, ⟨sl HO164⟩, ⟨bk BK157⟩, ⟨bk BK158⟩, ⟨bk BK159⟩, ⟨bs3 HB GE157 GE158 GE159⟩⟩
    case round =>
     clear H'
     try clear c1
     try clear c2
     try clear p2
     try clear c4
     try clear c9
     try clear c11
     try clear c12
     try clear c15
     try clear c18
     try clear c19
     try clear c22
     try clear c23
     try clear c24
     try clear c27
     try clear c28
     try clear hcz13_0
     try clear hcz16_0
     try clear hcz20_0
     try clear hcz25_0
     try clear hcz29_0
     try clear hfz13_0
     try clear hfz16_0
     try clear hfz20_0
     try clear hfz25_0
     try clear hfz29_0
     try clear p2
     obtain ⟨x8_2, x9_2, rfl, HA, HK2, HO_8, BK157, BK158, BK159, HB⟩ := hrel
     cases gk with
     | zero => exact absurd HA.out (by simp [spec_AddCuts.l0])
     | succ k2 =>
      have H := HA.out; clear HA
      simp only [spec_AddCuts.l0] at H
      by_cases c31 : x9_2 < (l2_0.length : Int)
      ·rw [if_pos c31] at H
       have c31b0 : decide (x9_2 < (l2_0.length : Int)) = true := decide_eq_true c31; clear c31; have H' := Aside0.mk H; clear H; have hnb32 := NB158_157.out; have hnc32 := NB157_158.out; have hnb33 := NB158_159.out; have hnc33 := NB159_158.out; have hcz34_0 : wr.cell? ⟨gb158, 0, none⟩ = some (.slice A2_0 l2_0.length c2_0) := (blk_cell BK158.out 0).trans rfl; have hfz34_0 := blk_frozen BK158.out 0
       go_wp2
       go_loopg [10] k2 (fun kq v10 w' => ∃ (x8_3 : List (List Bool)) (x10_3 : Int), v10 = .int .i64 x10_3 ∧ Aside0 (spec_AddCuts.l1 kq x8_3 x9_2 x10_3 l2_0 = some (r1, r2)) ∧ Aside0 (kq ≤ k2) ∧ Aside0 (Kd.S (Kd.slice 4 Kd.bool) 76 w' w.heap.size (fun _ => True) v163 x8_3) ∧ Aside0 (w'.heap[gb157]? = some (.cells #[(.slice A1_0 l1_0.length c1_0)] 44 (0, 0))) ∧ Aside0 (w'.heap[gb158]? = some (.cells #[(.slice A2_0 l2_0.length c2_0)] 44 (0, 0))) ∧ Aside0 (w'.heap[gb159]? = some (.cells #[(.slice none 0 0)] 44 (0, 0))) ∧ Aside0 (Below w.heap.size w w'))
       case atStart => exact ⟨(x8_2), (0), au, H', ⟨Nat.le_refl _⟩, ⟨sl HO_8⟩, ⟨bk BK157⟩, ⟨bk BK158⟩, ⟨bk BK159⟩, ⟨bs3 HB GE157 GE158 GE159⟩⟩
       case round =>
        clear H'
        try clear c1
        try clear c2
        try clear p2
        try clear c3
        try clear c4
        try clear c9
        try clear c11
        try clear c12
        try clear c15
        try clear c18
        try clear c19
        try clear c22
        try clear c23
        try clear c24
        try clear c27
        try clear c28
        try clear c31
        try clear c31b0
        try clear c32
        try clear c33
        try clear hcz13_0
        try clear hcz16_0
        try clear hcz20_0
        try clear hcz25_0
        try clear hcz29_0
        try clear hcz34_0
        try clear hfz13_0
        try clear hfz16_0
        try clear hfz20_0
        try clear hfz25_0
        try clear hfz29_0
        try clear hfz34_0
        try clear p2
        obtain ⟨x8_3, x10_3, rfl, HA, HK3, HO_8, BK157, BK158, BK159, HB⟩ := hrel
        cases gk with
        | zero => exact absurd HA.out (by simp [spec_AddCuts.l1])
        | succ k3 =>
         have H := HA.out; clear HA
         simp only [spec_AddCuts.l1] at H
         by_cases c35 : 0 ≤ x9_2
         ·rw [if_pos c35] at H
          have c35b0 : decide (0 ≤ x9_2) = true := decide_eq_true c35; clear c35
          by_cases c36 : x9_2 < (l2_0.length : Int)
          ·rw [if_pos c36] at H
           have c36b0 : decide (x9_2 < (l2_0.length : Int)) = true := decide_eq_true c36; clear c36
           by_cases c37 : x10_3 < ((rd_L3 l2_0 x9_2).length : Int)
           ·rw [if_pos c37] at H
            have c37b0 : decide (x10_3 < ((rd_L3 l2_0 x9_2).length : Int)) = true := decide_eq_true c37; clear c37
            by_cases c38 : x9_2 < (x8_3.length : Int)
            ·rw [if_pos c38] at H
             have c38b0 : decide (x9_2 < (x8_3.length : Int)) = true := decide_eq_true c38; clear c38
             by_cases c39 : 0 ≤ x10_3
             ·rw [if_pos c39] at H
              have c39b0 : decide (0 ≤ x10_3) = true := decide_eq_true c39; clear c39
              by_cases c40 : 0 ≤ (rd (rd_L3 l2_0 x9_2) x10_3)
              ·rw [if_pos c40] at H
               have c40b0 : decide (0 ≤ (rd (rd_L3 l2_0 x9_2) x10_3)) = true := decide_eq_true c40; clear c40
               by_cases c41 : (rd (rd_L3 l2_0 x9_2) x10_3) < ((rd_L6 x8_3 x9_2).length : Int)
               ·rw [if_pos c41] at H
                have c41b0 : decide ((rd (rd_L3 l2_0 x9_2) x10_3) < ((rd_L6 x8_3 x9_2).length : Int)) = true := decide_eq_true c41; clear c41; obtain ⟨y172, hy172⟩ : ∃ y_ : List Bool, y_ = ((rd_L6 x8_3 x9_2).set ((rd (rd_L3 l2_0 x9_2) x10_3) : Int).toNat true) := ⟨_, rfl⟩
                replace H : (spec_AddCuts.l1 k3 (x8_3.set (x9_2 : Int).toNat y172) x9_2 (wrap64 (x10_3 + 1)) l2_0) = some (r1, r2) := by first | (rw [hy172]; with_reducible exact H) | (have H2_ := (Option.bind_some _ _).symm.trans H; rw [hy172]; with_reducible exact H2_) | (have H2_ := (Option.bind_some _ _).symm.trans H; with_reducible exact H2_) | with_reducible exact H | (rw [hy172]; exact H) | exact H
                have Ny172 := Aside0.mk hy172; clear hy172; obtain ⟨y174, hy174⟩ : ∃ y_ : List (List Bool), y_ = (x8_3.set (x9_2 : Int).toNat y172) := ⟨_, rfl⟩
                replace H : (spec_AddCuts.l1 k3 y174 x9_2 (wrap64 (x10_3 + 1)) l2_0) = some (r1, r2) := by first | (rw [hy174]; with_reducible exact H) | (have H2_ := (Option.bind_some _ _).symm.trans H; rw [hy174]; with_reducible exact H2_) | (have H2_ := (Option.bind_some _ _).symm.trans H; with_reducible exact H2_) | with_reducible exact H | (rw [hy174]; exact H) | exact H
                have Ny174 := Aside0.mk hy174; clear hy174; have H' := Aside0.mk H; clear H; have hnb43 := NB158_157.out; have hnc43 := NB157_158.out; have hnb44 := NB158_159.out; have hnc44 := NB159_158.out; have hcz45_0 : wr.cell? ⟨gb158, 0, none⟩ = some (.slice A2_0 l2_0.length c2_0) := (blk_cell BK158.out 0).trans rfl; have hfz45_0 := blk_frozen BK158.out 0; have p168 : 0 ≤ (x9_2 : Int) := ode; have q168 : x9_2 < (l2_0.length : Int) := ode; obtain ⟨ad168, A168_0, c168_0, e168, hx168_0, hl168_0, hi168_0⟩ := at_L3 HR2_0.out x9_2 p168 q168
                cases e168
                replace hx168_0 := cl HB hx168_0; have HR168_0 := Aside0.mk hi168_0; have HC168_0 := Aside0.mk hl168_0; clear hi168_0 hl168_0; replace p168 := eq_true p168; replace q168 := eq_true q168
                try go_wp2
                have n0_ := Aside0.mk (Kd.S_drew HO_8.out); have n1_ := Aside0.mk (blk_drew BK157.out); have n2_ := Aside0.mk (blk_drew BK158.out); have n3_ := Aside0.mk (blk_drew BK159.out); have n4_ := Aside0.mk (below_drew1 HB.out); clear HO_8; clear BK157; clear BK158; clear BK159; clear HB; have HO_8 := n0_; have BK157 := n1_; have BK158 := n2_; have BK159 := n3_; have HB := n4_; clear n0_ n1_ n2_ n3_ n4_; obtain ⟨Ao47, co47, eo47⟩ := Kd.S_slice HO_8.out
                (first | subst eo47 | (injection eo47 with f1_ f2_ f3_; have f4_ := f1_.symm; have f5_ := f3_.symm; clear f1_ f2_ f3_; subst f4_; subst f5_))
                have p169 : 0 ≤ (x9_2 : Int) := ode; have q169 : x9_2 < (x8_3.length : Int) := ode; obtain ⟨ad169, A169_0, c169_0, e169, hx169_0, hl169_0, hi169_0⟩ := at_L6 (Kd.S_reads' HO_8.out).2.2 x9_2 p169 q169
                cases e169
                obtain ⟨ce169, hce169, hMe169, hcc169⟩ := Kd.S_get HO_8.out [] x9_2 p169 (by first | exact q169 | exact ode | (have e_ := (Kd.S_reads' HO_8.out).1; omega))
                obtain ⟨ve169_0, rfl, ge169_0⟩ := hMe169; have hv169_0 := hcc169 0 _ rfl; rw [Nat.add_zero, show ((Kd.slice 4 Kd.bool)).sz = 1 from rfl, Nat.mul_one] at hv169_0; replace hv169_0 := Option.some.inj (hv169_0.symm.trans hx169_0); rw [hv169_0] at ge169_0; have HL169_0 := Aside0.mk (show Kd.R Kd.bool 4 _ _ _ _ (rd_L6 x8_3 x9_2) from ge169_0); clear hv169_0 ge169_0; have HX169_0 := Aside0.mk hx169_0; clear hcc169 hce169; have HR169_0 := Aside0.mk hi169_0; have HC169_0 := Aside0.mk hl169_0; clear hi169_0 hl169_0; replace p169 := eq_true p169; replace q169 := eq_true q169; have p170 : 0 ≤ (x9_2 : Int) := ode; have q170 : x9_2 < (l2_0.length : Int) := ode; obtain ⟨ad170, A170_0, c170_0, e170, hx170_0, hl170_0, hi170_0⟩ := at_L3 HR2_0.out x9_2 p170 q170; have hw170_0 := hx170_0; obtain rfl : ad168 = ad170 := (by injection e170); replace hx170_0 := cl HB hx170_0; have HR170_0 := Aside0.mk hi170_0; have HC170_0 := Aside0.mk hl170_0; clear hi170_0 hl170_0; replace p170 := eq_true p170; replace q170 := eq_true q170; have p171 : 0 ≤ (x10_3 : Int) := ode; have q171 : x10_3 < ((rd_L3 l2_0 x9_2).length : Int) := ode; obtain ⟨ad171, e171, hx171_0⟩ := Kd.at_int HR170_0.out x10_3 p171 q171; have hw171_0 := hx171_0
                cases e171
                replace hx171_0 := cl HB hx171_0; replace p171 := eq_true p171; replace q171 := eq_true q171; have p42 : 0 ≤ ((rd (rd_L3 l2_0 x9_2) x10_3) : Int) := ode; have q42 : ((rd (rd_L3 l2_0 x9_2) x10_3) : Int) < (((rd_L6 x8_3 x9_2).length : Int) : Int) := ode; obtain ⟨go42, co42, eo42, gb42, gl42, cl42, HG42⟩ := Kd.R_form HL169_0.out (by omega)
                (first | cases eo42 | (injection eo42 with ea_ en_ ec_; (first | subst ea_ | (injection ea_ with ea_; subst ea_)); subst ec_; clear en_))
                have GB42 := Aside0.mk gb42; have GG42 := Aside0.mk HG42; clear gb42 gl42 HG42; obtain ⟨hx42_0, hf42_0⟩ := Kd.R_celln false HL169_0.out ((rd (rd_L3 l2_0 x9_2) x10_3) : Int) p42 q42; replace p42 := eq_true p42; replace q42 := eq_true q42; have hq48 : (x9_2 : Int) < (x8_3.length : Int) := (by have h_ : (x9_2 : Int) < ((x8_3.length : Int) : Int) := ode; first | exact h_ | (have e_ := (Kd.S_reads' HO_8.out).1; omega) | simpa only [List.length_set, List.length_set] using h_)
                obtain ⟨oki48, ce48, hcl48, hM48, hcc48, hok48, hbk48⟩ := Kd.S_borrow HO_8.out [] (x9_2 : Int) (ode) hq48; obtain ⟨ve48_0, rfl, ge48_0⟩ := hM48; have hv48 := hcc48 0 _ rfl; rw [Nat.add_zero, show ((Kd.slice 4 Kd.bool)).sz = 1 from rfl, Nat.mul_one] at hv48; replace hv48 := Option.some.inj (hv48.symm.trans HX169_0.out)
                subst hv48
                clear hcc48 hcl48; replace ge48_0 := (show Kd.R Kd.bool 4 _ _ _ _ (rd_L6 x8_3 x9_2) from ge48_0); have HP48 := Kd.R_putg ge48_0 ((rd (rd_L3 l2_0 x9_2) x10_3) : Int) true; rw [← Ny172.out] at HP48; have HS48 := hbk48 HP48.2 (fun k_ e_ => by injection e_ with e_; subst e_; exact ge48_0.1 _ rfl) (x' := y172) (Kd.M_row HP48.1)
                rw [← Ny174.out] at HS48; have HQ48 := Aside0.mk HS48; clear HP48 HS48 hbk48 hok48; refine start_ (n := 14) (S := fun w' => w'.cell? ⟨gb158, 0, none⟩ = some (.slice (some ad168) l2_0.length c2_0) ∧ w'.cell? (ad169.add (x9_2).toNat) = some (.slice (some ⟨go42, 0, none⟩) (rd_L6 x8_3 x9_2).length c169_0) ∧ w'.cell? (ad168.add (x9_2).toNat) = some (.slice (some ad171) (rd_L3 l2_0 x9_2).length c170_0) ∧ w'.cell? (ad171.add (x10_3).toNat) = some (.int .i64 (rd (rd_L3 l2_0 x9_2) x10_3))) (ds := [13]) (tf 0 14) (by kernel_rfl) rfl rfl ⟨(blk_cell BK158.out 0).trans rfl, hx169_0, ((HB.out.cell (World.block_lt_of_cell? w _ hw170_0)).trans hw170_0), ((HB.out.cell (World.block_lt_of_cell? w _ hw171_0)).trans hw171_0)⟩ (fun hHeld => ?_); refine with_tabW spec_AddCuts.tab10 spec_AddCuts.bits10 (fun HT_ HW_ => ?_); generalize wr.drew = w46 at HO_8 BK157 BK158 BK159 HB GG42 HL169_0 HQ48 HR169_0 HR170_0 HX169_0 hf42_0 hx169_0 hx170_0 hx171_0 hx42_0 hHeld ⊢; refine pu HT_ 0 42 13 ?_; refine pu HT_ 1 43 12 ?_; refine pu HT_ 2 44 11 ?_; refine pq HT_ 4 46 14 23 ?_; refine pq HT_ 6 48 14 87 ?_; refine pq HT_ 9 51 14 599 ?_; refine tq HT_ HW_ hHeld 3 45 14 607 ?_; refine tq HT_ HW_ hHeld 5 47 14 639 ?_; refine pq HT_ 7 49 14 767 ?_; refine tq HT_ HW_ hHeld 8 50 14 1023 ?_; refine pu HT_ 10 52 3 ?_; refine ta HT_ HW_ hHeld 11 53 2 ?_; refine pu HT_ 12 54 1 ?_; refine last_ (i := 13) (N := none) (tf 14 0) rfl rfl (one_of HT_.out (by kernel_rfl)) (by decide) (fun K hK => ?_); refine skip_ (w1 := ?_) (by rfl) rfl ?_ ?_
                rotate_left
                ·go_simp
                 rfl
                refine hK.out _ _ ?_; clear hK K; refine done_ (done_of HT_.out (by kernel_rfl)) ?_
                try go_wp2
                go_roundg k3
                case measure => have := HJ3.out; have := HK2.out; have := HK3.out; omega
                case rel => exact ⟨(y174), (wrap64 (x10_3 + 1)), au, H', ⟨by have := HJ3.out; have := HK2.out; have := HK3.out; omega⟩, ⟨sl HQ48⟩, ⟨by (with_reducible repeat (first | refine blk_drewN ?_ _ | refine blk_drew ?_ | refine blk_alloc ?_ _)); refine blk_far ?_ (by have h_ := Kd.R_ne HL169_0.out BK157.out (by decide); intro e_; exact h_ (by rw [e_]; rfl)) _; (with_reducible repeat (first | refine blk_drewN ?_ _ | refine blk_drew ?_ | refine blk_alloc ?_ _)); exact BK157.out⟩, ⟨by (with_reducible repeat (first | refine blk_drewN ?_ _ | refine blk_drew ?_ | refine blk_alloc ?_ _)); refine blk_far ?_ (by have h_ := Kd.R_ne HL169_0.out BK158.out (by decide); intro e_; exact h_ (by rw [e_]; rfl)) _; (with_reducible repeat (first | refine blk_drewN ?_ _ | refine blk_drew ?_ | refine blk_alloc ?_ _)); exact BK158.out⟩, ⟨by (with_reducible repeat (first | refine blk_drewN ?_ _ | refine blk_drew ?_ | refine blk_alloc ?_ _)); refine blk_far ?_ (by have h_ := Kd.R_ne HL169_0.out BK159.out (by decide); intro e_; exact h_ (by rw [e_]; rfl)) _; (with_reducible repeat (first | refine blk_drewN ?_ _ | refine blk_drew ?_ | refine blk_alloc ?_ _)); exact BK159.out⟩, ⟨by repeat (first | (with_reducible first | exact HB.out | apply below_alloc | apply pw_below_drewN | apply below_drew1 | refine below_set ?_ GB42.out | refine below_set ?_ GE157.out | refine below_set ?_ GE158.out | refine below_set ?_ GE159.out) | exact HB.out)⟩⟩
               ·rw [if_neg c41] at H
                exact absurd H (by simp)
              ·rw [if_neg c40] at H
               exact absurd H (by simp)
             ·rw [if_neg c39] at H
              exact absurd H (by simp)
            ·rw [if_neg c38] at H
             exact absurd H (by simp)
           ·rw [if_neg c37] at H
            have c37b0 : decide (x10_3 < ((rd_L3 l2_0 x9_2).length : Int)) = false := decide_eq_false c37; clear c37; have H' := Aside0.mk H; clear H; have hnb50 := NB158_157.out; have hnc50 := NB157_158.out; have hnb51 := NB158_159.out; have hnc51 := NB159_158.out; have hcz52_0 : wr.cell? ⟨gb158, 0, none⟩ = some (.slice A2_0 l2_0.length c2_0) := (blk_cell BK158.out 0).trans rfl; have hfz52_0 := blk_frozen BK158.out 0; have p168 : 0 ≤ (x9_2 : Int) := ode; have q168 : x9_2 < (l2_0.length : Int) := ode; obtain ⟨ad168, A168_0, c168_0, e168, hx168_0, hl168_0, hi168_0⟩ := at_L3 HR2_0.out x9_2 p168 q168
            cases e168
            replace hx168_0 := cl HB hx168_0; have HR168_0 := Aside0.mk hi168_0; have HC168_0 := Aside0.mk hl168_0; clear hi168_0 hl168_0; replace p168 := eq_true p168; replace q168 := eq_true q168
            go_wp2
            go_roundg k3
            case measure => have := HJ3.out; have := HK2.out; have := HK3.out; omega
            case rel => exact ⟨(x8_3), (wrap64 (x9_2 + 1)), au, H', ⟨by have := HJ3.out; have := HK2.out; have := HK3.out; omega⟩, ⟨sl HO_8⟩, ⟨bk BK157⟩, ⟨bk BK158⟩, ⟨bk BK159⟩, ⟨bs3 HB GE157 GE158 GE159⟩⟩
          ·rw [if_neg c36] at H
           exact absurd H (by simp)
         ·rw [if_neg c35] at H
          exact absurd H (by simp)
      ·rw [if_neg c31] at H
       have c31b0 : decide (x9_2 < (l2_0.length : Int)) = false := decide_eq_false c31; clear c31; replace H := Option.bind_eq_some_iff.mp H; obtain ⟨t165, A530, H⟩ := H; replace H : (some (t165, true)) = some (r1, r2) := H; have A53 := Aside0.mk A530; clear A530
       simp only [Option.some.injEq, Prod.mk.injEq] at H
       obtain ⟨rfl, rfl⟩ := H; have hnb54 := NB158_157.out; have hnc54 := NB157_158.out; have hnb55 := NB158_159.out; have hnc55 := NB159_158.out; have hcz56_0 : wr.cell? ⟨gb158, 0, none⟩ = some (.slice A2_0 l2_0.length c2_0) := (blk_cell BK158.out 0).trans rfl; have hfz56_0 := blk_frozen BK158.out 0; obtain ⟨Ao57, co57, eo57⟩ := Kd.S_slice HO_8.out
       subst eo57
       go_wp2_with (first | ((with_reducible refine gate_callee (f := 50) rfl ?_); refine goesL_ (some 56) rfl rfl Try.func50 (by kernel_rfl) rfl #[.slice Ao57 x8_2.length co57] rfl ma ?_; (with_reducible refine (spec_l6Cuts.calls k2 _ _ x8_2 t165 _ ?side1 ?side2 A53.out).mono ?_); (case side1 => repeat (first | exact (Kd.S_reads' HO_8.out).2.2 | (with_reducible refine Kd.C_alloc ?_ _) | (with_reducible refine Kd.C_drewN ?_ _) | (with_reducible refine Kd.C_drew ?_))); (case side2 => exact (Kd.S_reads' HO_8.out).2.1); rintro e w58 ⟨v166, rfl, ho0, hb⟩; refine ⟨_, rfl, ?_⟩; have n0_ := Aside0.mk (Kd.S_below (sl HO_8) hb); have n1_ := Aside0.mk (Kd.S_lower ho0 (below_size (bs3 HB GE157 GE158 GE159))); have n2_ := Aside0.mk (blk_below (g := gb157) (o := .cells #[.slice A1_0 l1_0.length c1_0] 44 (0, 0)) (bk BK157) hb); have n3_ := Aside0.mk (blk_below (g := gb158) (o := .cells #[.slice A2_0 l2_0.length c2_0] 44 (0, 0)) (bk BK158) hb); have n4_ := Aside0.mk (blk_below (g := gb159) (o := .cells #[.slice none 0 0] 44 (0, 0)) (bk BK159) hb); have n5_ := Aside0.mk (below_step (bs3 HB GE157 GE158 GE159) hb); clear HO_8; clear BK157; clear BK158; clear BK159; clear HB; have HO_8 := n0_; have HO167 := n1_; have BK157 := n2_; have BK158 := n3_; have BK159 := n4_; have HB := n5_; clear n0_ n1_ n2_ n3_ n4_ n5_; (try clear hb); (try clear hb2); (try clear hk); (try clear hi); (try clear ho0); obtain ⟨Ao59, co59, eo59⟩ := Kd.S_slice HO167.out; subst eo59; have hnb60 := NB159_157.out; have hnc60 := NB157_159.out; have hcz61_0 : w58.cell? ⟨gb159, 0, none⟩ = some (.slice none 0 0) := (blk_cell BK159.out 0).trans rfl; have hfz61_0 := blk_frozen BK159.out 0))
       refine bodyPost_ret (results_ct rfl _ _ gb159 44 #[.slice Ao59 t165.length co59] (0, 0) _ rfl (by refine bd ?_; refine blk_put (cs := #[.slice none 0 0]) ?_ 0 _ rfl; (with_reducible repeat (first | refine blk_drewN ?_ _ | refine blk_drew ?_ | refine blk_alloc ?_ _)); exact BK159.out) Try.underlying44 rfl (by kernel_rfl)) rfl ?_
       exact ⟨_, by first | rfl | (simp [errW_none, errW_some] <;> rfl) | (simp [*, errW_none, errW_some] <;> rfl), by (with_reducible repeat (first | apply Kd.S_alloc | apply Kd.S_drewN | apply Kd.S_drew)); exact Kd.S_mono (Kd.S_far (p := ⟨gb159, 0, none⟩) (Kd.S_types HO167.out BK159.out (by decide)) (fun _ hk => hk.2) (.slice Ao59 t165.length co59)) (fun _ hk => trivial), bs3 HB GE157 GE158 GE159⟩

/-! ### laws_toDecl: function 51 -/
def laws_toDecl.f (a0_0 : ByteArray) (a0_1 : Int) : Option (ByteArray × Int) := some (a0_0, a0_1)
set_option maxHeartbeats 8000000 in
set_option maxRecDepth 100000 in
theorem laws_toDecl.calls (a0_0 : ByteArray) (a0_1 : Int) (r1 : ByteArray) (r2 : Int) (w : World) (h : laws_toDecl.f a0_0 a0_1 = some (r1, r2)) :
  Calls Try.prog 51 #[.agg #[.string a0_0, .int .i64 a0_1]] w fun e w' => e = .returned (.agg #[.string r1, .int .i64 r2]) ∧ Below w.heap.size w w' := by
 have hu85 := Try.underlying85; have hu63 := Try.underlying63; have HB := Aside0.mk (Below.refl w.heap.size w); have H : (some (a0_0, a0_1)) = some (r1, r2) := h; clear h
 simp only [Option.some.injEq, Prod.mk.injEq] at H
 obtain ⟨rfl, rfl⟩ := H
 go_enter Try.func51, Try.ntmps51
 go_wp2_with (first | ((with_reducible refine gate_dst (N := 1) rfl ?_); refine be 1 #[.string a0_0, .int .i64 a0_1] 85 ?_; intro gb175 hg w2 hbox hb; have n0_ := Aside0.mk (below_step (bl HB) hb); have n1_ := Aside0.mk (hbox); have n2_ := Aside0.mk (gs HB hg); have n3_ := Aside0.mk (gs HB hg); clear HB; have HB := n0_; have BK175 := n1_; have GW175 := n2_; have GE175 := n3_; clear n0_ n1_ n2_ n3_; clear hb hbox hg) | ((with_reducible refine gate_dst (N := 2) rfl ?_); refine be 2 #[.string (⟨#[]⟩ : ByteArray), .int .i64 0] 63 ?_; intro gb176 hg w3 hbox hb; have n0_ := Aside0.mk (blk_below (g := gb175) (o := .cells #[.string a0_0, .int .i64 a0_1] 85 (0, 0)) (bk BK175) hb); have n1_ := Aside0.mk (below_step (bs HB GE175) hb); have n2_ := Aside0.mk (hbox); have n3_ := Aside0.mk ((by rw [hg]; exact (below_size (bs HB GE175)) : w.heap.size ≤ gb176)); have n4_ := Aside0.mk ((by rw [hg]; exact (below_size (bs HB GE175)) : w.heap.size ≤ gb176)); have n5_ := Aside0.mk ((by rw [hg]; exact Nat.ne_of_lt (blk_lt (g := gb175) (o := .cells #[.string a0_0, .int .i64 a0_1] 85 (0, 0)) (bk BK175)) : gb175 ≠ gb176)); have n6_ := Aside0.mk ((by rw [hg]; exact Nat.ne_of_gt (blk_lt (g := gb175) (o := .cells #[.string a0_0, .int .i64 a0_1] 85 (0, 0)) (bk BK175)) : gb176 ≠ gb175)); clear BK175; clear HB; have BK175 := n0_; have HB := n1_; have BK176 := n2_; have GW176 := n3_; have GE176 := n4_; have NB175_176 := n5_; have NB176_175 := n6_; clear n0_ n1_ n2_ n3_ n4_ n5_ n6_; clear hb hbox hg) | ((with_reducible refine gate_dst (N := 3) rfl ?_); refine be 3 #[.string (⟨#[]⟩ : ByteArray), .int .i64 0] 63 ?_; intro gb177 hg w4 hbox hb; have n0_ := Aside0.mk (blk_below (g := gb175) (o := .cells #[.string a0_0, .int .i64 a0_1] 85 (0, 0)) (bk BK175) hb); have n1_ := Aside0.mk (blk_below (g := gb176) (o := .cells #[.string (⟨#[]⟩ : ByteArray), .int .i64 0] 63 (0, 0)) (bk BK176) hb); have n2_ := Aside0.mk (below_step (bs2 HB GE175 GE176) hb); have n3_ := Aside0.mk (hbox); have n4_ := Aside0.mk ((by rw [hg]; exact (below_size (bs2 HB GE175 GE176)) : w.heap.size ≤ gb177)); have n5_ := Aside0.mk ((by rw [hg]; exact (below_size (bs2 HB GE175 GE176)) : w.heap.size ≤ gb177)); have n6_ := Aside0.mk ((by rw [hg]; exact Nat.ne_of_lt (blk_lt (g := gb175) (o := .cells #[.string a0_0, .int .i64 a0_1] 85 (0, 0)) (bk BK175)) : gb175 ≠ gb177)); have n7_ := Aside0.mk ((by rw [hg]; exact Nat.ne_of_gt (blk_lt (g := gb175) (o := .cells #[.string a0_0, .int .i64 a0_1] 85 (0, 0)) (bk BK175)) : gb177 ≠ gb175)); have n8_ := Aside0.mk ((by rw [hg]; exact Nat.ne_of_lt (blk_lt (g := gb176) (o := .cells #[.string (⟨#[]⟩ : ByteArray), .int .i64 0] 63 (0, 0)) (bk BK176)) : gb176 ≠ gb177)); have n9_ := Aside0.mk ((by rw [hg]; exact Nat.ne_of_gt (blk_lt (g := gb176) (o := .cells #[.string (⟨#[]⟩ : ByteArray), .int .i64 0] 63 (0, 0)) (bk BK176)) : gb177 ≠ gb176)); clear BK175; clear BK176; clear HB; have BK175 := n0_; have BK176 := n1_; have HB := n2_; have BK177 := n3_; have GW177 := n4_; have GE177 := n5_; have NB175_177 := n6_; have NB177_175 := n7_; have NB176_177 := n8_; have NB177_176 := n9_; clear n0_ n1_ n2_ n3_ n4_ n5_ n6_ n7_ n8_ n9_; clear hb hbox hg; have hnb5 := NB175_176.out; have hnc5 := NB176_175.out; have hnb6 := NB175_177.out; have hnc6 := NB177_175.out; have hcz7_0 : w4.cell? ⟨gb175, 0, none⟩ = some (.string a0_0) := (blk_cell BK175.out 0).trans rfl; have hcz7_1 : w4.cell? ⟨gb175, 1, none⟩ = some (.int .i64 a0_1) := (blk_cell BK175.out 1).trans rfl; have hfz7_0 := blk_frozen BK175.out 0; have hfz7_1 := blk_frozen BK175.out 1; have hnb8 := NB177_176.out; have hnc8 := NB176_177.out; have hcz9_0 : w4.cell? ⟨gb177, 0, none⟩ = some (.string (⟨#[]⟩ : ByteArray)) := (blk_cell BK177.out 0).trans rfl; have hcz9_1 : w4.cell? ⟨gb177, 1, none⟩ = some (.int .i64 0) := (blk_cell BK177.out 1).trans rfl; have hfz9_0 := blk_frozen BK177.out 0; have hfz9_1 := blk_frozen BK177.out 1; have hcz10_0 : w4.cell? ⟨gb176, 0, none⟩ = some (.string (⟨#[]⟩ : ByteArray)) := (blk_cell BK176.out 0).trans rfl; have hcz10_1 : w4.cell? ⟨gb176, 1, none⟩ = some (.int .i64 0) := (blk_cell BK176.out 1).trans rfl; have hfz10_0 := blk_frozen BK176.out 0; have hfz10_1 := blk_frozen BK176.out 1))
 refine bodyPost_ret (results_cell_row rfl _ _ gb176 63 #[.string a0_0, .int .i64 a0_1] (0, 0) _ rfl (by refine bd ?_; refine blk_put (cs := #[.string a0_0, .int .i64 0]) ?_ 1 _ rfl; refine bd ?_; refine blk_put (cs := #[.string (⟨#[]⟩ : ByteArray), .int .i64 0]) ?_ 0 _ rfl; (with_reducible repeat (first | refine blk_drewN ?_ _ | refine blk_drew ?_ | refine blk_alloc ?_ _)); refine blk_far ?_ NB176_177.out _; (with_reducible repeat (first | refine blk_drewN ?_ _ | refine blk_drew ?_ | refine blk_alloc ?_ _)); refine blk_far ?_ NB176_177.out _; (with_reducible repeat (first | refine blk_drewN ?_ _ | refine blk_drew ?_ | refine blk_alloc ?_ _)); exact BK176.out) Try.underlying63 rfl (by kernel_rfl)) rfl ?_
 exact ⟨by first | rfl | (simp [errW_none, errW_some] <;> rfl) | (simp [*, errW_none, errW_some] <;> rfl), bs3 HB GE175 GE176 GE177⟩

/-! ### laws_toDeclS: function 19 -/
def laws_toDeclS.l0 : Nat → List (S85) → List (S63) → Int → Option ((List (S63)))
 | 0, _, _, _ => none
 | k + 1, x0, x3, x4 => if x4 < (x0.length : Int) then (if 0 ≤ x4 then ((laws_toDecl.f ((rd_T85 x0 x4).f0) ((rd_T85 x0 x4).f1)).bind fun bt182 => (if x4 < (x3.length : Int) then (laws_toDeclS.l0 k x0 (x3.set (x4 : Int).toNat (⟨bt182.1, bt182.2⟩ : S63)) (wrap64 (x4 + 1))) else (none))) else (none)) else (some x3)
def laws_toDeclS.f (k : Nat) (l0 : List (S85)) : Option ((List (S63))) := if 0 ≤ (l0.length : Int) then (if ((l0.length : Int) : Int).toNat ≤ 11728124029610 then (laws_toDeclS.l0 k l0 (List.replicate ((l0.length : Int) : Int).toNat z63) 0) else (none)) else (none)
set_option maxHeartbeats 8000000 in
set_option maxRecDepth 100000 in
theorem laws_toDeclS.calls (k : Nat) (A0 : Option Addr) (c0 : Nat) (l0 : List (S85)) (r : List (S63)) (w : World) (hr0 : Kd.C k85 w A0 l0.length l0) (hc0 : l0.length ≤ c0) (h : laws_toDeclS.f k l0 = some r) :
  Calls Try.prog 19 #[.slice A0 l0.length c0] w fun e w' => ∃ v0_ : Value, e = .returned (v0_) ∧ Kd.R k63 63 w' w.heap.size (fun _ => True) v0_ r ∧ Below w.heap.size w w' := by
 have hu85 := Try.underlying85; have hu63 := Try.underlying63; have HR0 := Aside0.mk hr0; have HC0 := Aside0.mk hc0; clear hr0 hc0; have HB := Aside0.mk (Below.refl w.heap.size w); have H : (if 0 ≤ (l0.length : Int) then (if ((l0.length : Int) : Int).toNat ≤ 11728124029610 then (laws_toDeclS.l0 k l0 (List.replicate ((l0.length : Int) : Int).toNat z63) 0) else (none)) else (none)) = some r := h; clear h
 by_cases c2 : 0 ≤ (l0.length : Int)
 ·rw [if_pos c2] at H
  have c2b0 := eq_true c2; have c2b1 : decide (0 ≤ (l0.length : Int)) = true := decide_eq_true c2; clear c2
  by_cases c3 : ((l0.length : Int) : Int).toNat ≤ 11728124029610
  ·rw [if_pos c3] at H
   have c3b0 := eq_true c3; have c3b1 : decide (((l0.length : Int) : Int).toNat ≤ 11728124029610) = true := decide_eq_true c3; clear c3; obtain ⟨y178, hy178⟩ : ∃ y_ : List (S63), y_ = (List.replicate ((l0.length : Int) : Int).toNat z63) := ⟨_, rfl⟩
   replace H : (laws_toDeclS.l0 k l0 y178 0) = some r := by first | (rw [hy178]; with_reducible exact H) | (have H2_ := (Option.bind_some _ _).symm.trans H; rw [hy178]; with_reducible exact H2_) | (have H2_ := (Option.bind_some _ _).symm.trans H; with_reducible exact H2_) | with_reducible exact H | (rw [hy178]; exact H) | exact H
   have Ny178 := Aside0.mk hy178; clear hy178; have H' := Aside0.mk H; clear H
   go_enter Try.func19, Try.ntmps19
   go_wp2_with (first | ((with_reducible refine gate_dst (N := 7) rfl ?_); refine Kd.R_make k63 _ 63 rfl (N := 7) rfl 47 _ _ rfl (l0.length : Int) rfl rfl Try.underlying47 (.agg #[(.string ⟨#[]⟩), (.int .i64 0)]) 24 info63 rfl (by decide) (by omega) z63 (ok := fun _ => True) (okp := fun _ => True) (k63_mkM _ _ _ z63 ) (fun _ hk => hk) trivial (ode) (Nat.le_trans (Nat.mul_le_mul_right _ (ode : (l0.length : Int).toNat ≤ 11728124029610)) (by omega)) (Below.refl _ _) (Nat.le_refl _) ?_; intro v179 w4 ho5 hb hg_ hnew_; clear hg_ hnew_; (first | rw [← Ny178.out] at ho5 | (simp only [Int.reduceToNat] at ho5; rw [← Ny178.out] at ho5)); have n0_ := Aside0.mk (Kd.R_lower ho5 (below_size (bl HB))); have n1_ := Aside0.mk (below_step (bl HB) hb); clear HB; have HO180 := n0_; have HB := n1_; clear n0_ n1_; clear hb ho5))
   go_loopg [4] k (fun kq v4 w' => ∃ (x3_1 : List (S63)) (x4_1 : Int), v4 = .int .i64 x4_1 ∧ Aside0 (laws_toDeclS.l0 kq l0 x3_1 x4_1 = some r) ∧ Aside0 (kq ≤ k) ∧ Aside0 (Kd.R k63 63 w' w.heap.size (fun _ => True) v179 x3_1) ∧ Aside0 (Below w.heap.size w w'))
   case atStart => exact ⟨(y178), (0), au, H', ⟨Nat.le_refl _⟩, ⟨rl HO180⟩, ⟨bl HB⟩⟩
   case round =>
    clear H'
    try clear c1
    try clear c2
    try clear c2b0
    try clear c2b1
    try clear p2
    try clear c3
    try clear c3b0
    try clear c3b1
    obtain ⟨x3_1, x4_1, rfl, HA, HK1, HO_3, HB⟩ := hrel
    cases gk with
    | zero => exact absurd HA.out (by simp [laws_toDeclS.l0])
    | succ k1 =>
     have H := HA.out; clear HA
     simp only [laws_toDeclS.l0] at H
     by_cases c6 : x4_1 < (l0.length : Int)
     ·rw [if_pos c6] at H
      have c6b0 : decide (x4_1 < (l0.length : Int)) = true := decide_eq_true c6; clear c6
      by_cases c7 : 0 ≤ x4_1
      ·rw [if_pos c7] at H
       have c7b0 : decide (0 ≤ x4_1) = true := decide_eq_true c7; clear c7; replace H := Option.bind_eq_some_iff.mp H; obtain ⟨⟨t182, t183⟩, A80, H⟩ := H; replace H : (if x4_1 < (x3_1.length : Int) then (laws_toDeclS.l0 k1 l0 (x3_1.set (x4_1 : Int).toNat (⟨t182, t183⟩ : S63)) (wrap64 (x4_1 + 1))) else (none)) = some r := H; have A8 := Aside0.mk A80; clear A80
       by_cases c9 : x4_1 < (x3_1.length : Int)
       ·rw [if_pos c9] at H
        have c9b0 : decide (x4_1 < (x3_1.length : Int)) = true := decide_eq_true c9; clear c9; obtain ⟨y184, hy184⟩ : ∃ y_ : List (S63), y_ = (x3_1.set (x4_1 : Int).toNat (⟨t182, t183⟩ : S63)) := ⟨_, rfl⟩
        replace H : (laws_toDeclS.l0 k1 l0 y184 (wrap64 (x4_1 + 1))) = some r := by first | (rw [hy184]; with_reducible exact H) | (have H2_ := (Option.bind_some _ _).symm.trans H; rw [hy184]; with_reducible exact H2_) | (have H2_ := (Option.bind_some _ _).symm.trans H; with_reducible exact H2_) | with_reducible exact H | (rw [hy184]; exact H) | exact H
        have Ny184 := Aside0.mk hy184; clear hy184; have H' := Aside0.mk H; clear H; have p181 : 0 ≤ (x4_1 : Int) := ode; have q181 : x4_1 < (l0.length : Int) := ode; obtain ⟨ad181, e181, hx181_0, hx181_1⟩ := at_T85 HR0.out x4_1 p181 q181
        cases e181
        replace hx181_0 := cl HB hx181_0; replace hx181_1 := cl HB hx181_1; replace p181 := eq_true p181; replace q181 := eq_true q181
        go_wp2_with (first | ((with_reducible refine gate_callee (f := 51) rfl ?_); refine goesL_ (some 20) rfl rfl Try.func51 (by kernel_rfl) rfl #[.agg #[.string ((rd_T85 l0 x4_1).f0), .int .i64 ((rd_T85 l0 x4_1).f1)]] rfl ma ?_; (with_reducible refine (laws_toDecl.calls ((rd_T85 l0 x4_1).f0) ((rd_T85 l0 x4_1).f1) t182 t183 _ A8.out).mono ?_); rintro e w11 ⟨rfl, hb⟩; refine ⟨_, rfl, ?_⟩; have n0_ := Aside0.mk (Kd.R_below (rl HO_3) hb); have n1_ := Aside0.mk (below_step (bl HB) hb); clear HO_3; clear HB; have HO_3 := n0_; have HB := n1_; clear n0_ n1_; (try clear hb); (try clear hb2); (try clear hk); (try clear hi); have p10 : 0 ≤ (x4_1 : Int) := ode; have q10 : (x4_1 : Int) < ((x3_1.length : Int) : Int) := ode; obtain ⟨go10, co10, eo10, gb10, gl10, cl10, HG10⟩ := Kd.R_form HO_3.out (by omega); (first | cases eo10 | (injection eo10 with ea_ en_ ec_; (first | subst ea_ | (injection ea_ with ea_; subst ea_)); subst ec_; clear en_)); have GB10 := Aside0.mk gb10; have GG10 := Aside0.mk HG10; clear gb10 gl10 HG10; obtain ⟨ce10, hcl10, hM10, hcc10, hfr10⟩ := Kd.R_elem HO_3.out z63 (x4_1 : Int) p10 q10; obtain rfl := k63_openM hM10; have hx10_0 : w11.cell? ⟨go10, (x4_1 : Int).toNat * 2, none⟩ = some (.string ((rd_T63 x3_1 x4_1).f0)) := hcc10 0 _ rfl; have hx10_1 : w11.cell? ⟨go10, (x4_1 : Int).toNat * 2 + 1, none⟩ = some (.int .i64 ((rd_T63 x3_1 x4_1).f1)) := hcc10 1 _ rfl; have hf10_0 : w11.frozen? ⟨go10, (x4_1 : Int).toNat * 2, none⟩ = false := hfr10 0; have hf10_1 : w11.frozen? ⟨go10, (x4_1 : Int).toNat * 2 + 1, none⟩ = false := hfr10 1; clear hcl10 hcc10 hfr10; (try clear hM10); replace p10 := eq_true p10; replace q10 := eq_true q10; have HX12 := Aside0.mk (show Kd.R k63 63 w11 w.heap.size (fun _ => True) (.slice (some ⟨go10, 0, none⟩) x3_1.length co10) x3_1 from (rl HO_3)); obtain ⟨ce12, hcl12, hM12, hcc12, hfr12⟩ := Kd.R_elem HX12.out z63 (x4_1 : Int) (ode) (by have h_ : (x4_1 : Int) < ((x3_1.length : Int) : Int) := ode; first | exact h_ | (have e_ := (Kd.R_reads' HO_3.out).1; omega) | simpa using h_); obtain rfl := k63_openM hM12; have HP12 := Kd.R_seg HX12.out (x4_1 : Int) (ode) (by have h_ : (x4_1 : Int) < ((x3_1.length : Int) : Int) := ode; first | exact h_ | (have e_ := (Kd.R_reads' HO_3.out).1; omega) | simpa using h_) (seg := [.string t182, .int .i64 t183]) (j := 0) hcl12 hcc12 (show 2 ≤ 2 from by decide) (x' := (⟨t182, t183⟩ : S63)) (k63_mkM _ _ _ (⟨t182, t183⟩ : S63) ) (fun _ hk => hk); have hx12_0 := hcc12 0 _ rfl; (try simp only [show (k63).sz = 2 from rfl, Nat.mul_one, Nat.add_zero] at hx12_0); have hf12_0 := hfr12 0; (try simp only [show (k63).sz = 2 from rfl, Nat.mul_one, Nat.add_zero] at hf12_0); have hx12_1 := hcc12 1 _ rfl; (try simp only [show (k63).sz = 2 from rfl, Nat.mul_one, Nat.add_zero] at hx12_1); have hf12_1 := hfr12 1; (try simp only [show (k63).sz = 2 from rfl, Nat.mul_one, Nat.add_zero] at hf12_1); clear hcl12 hcc12 hfr12; (try clear hM12)) | ((with_reducible refine gate_store (t := 63) (p := 21) rfl ?_); refine store_event (t := 63) (p := 21) (v := ?vo_w13) (w1 := ((w11.setCell ⟨go10, (x4_1 : Int).toNat * 2, none⟩ (.string t182)).setCell ⟨go10, (x4_1 : Int).toNat * 2 + 1, none⟩ (.int .i64 t183))) ?hg ?ho ?hn ?hr ?_; (case ho => rfl); (case hg => rfl); (case hn => rfl); (case hr => first | (go_simp; done) | (go_simp; rfl) | ((try (obtain ⟨_, _, e_⟩ := Kd.R_slice HO_3.out; subst e_)); first | (go_simp; done) | (go_simp; rfl))); intro w13 hw; have hg : w11.grownBy w13 (some go10) := (by rw [hw]; exact HP12.2); have hp_ : Kd.R k63 63 w13 w.heap.size (fun _ => True) (.slice (some ⟨go10, 0, none⟩) x3_1.length co10) y184 := (by rw [hw, Ny184.out]; exact HP12.1); clear HP12; have n0_ := Aside0.mk (hp_); have n1_ := Aside0.mk ((by rw [hw]; exact below_set (below_set (HB.out) GB10.out) GB10.out : Below w.heap.size w w13)); clear HO_3; clear HB; have HO_3 := n0_; have HB := n1_; clear n0_ n1_; clear hg hw hp_))
        go_roundg k1
        case measure => have := HK1.out; omega
        case rel => exact ⟨(y184), (wrap64 (x4_1 + 1)), au, H', ⟨by have := HK1.out; omega⟩, ⟨rl HO_3⟩, ⟨bl HB⟩⟩
       ·rw [if_neg c9] at H
        exact absurd H (by simp)
      ·rw [if_neg c7] at H
       exact absurd H (by simp)
     ·rw [if_neg c6] at H
      have c6b0 : decide (x4_1 < (l0.length : Int)) = false := decide_eq_false c6; clear c6; obtain rfl := Option.some.inj H
      go_wp2
      go_ret
      exact ⟨_, by first | rfl | (simp [errW_none, errW_some] <;> rfl) | (simp [*, errW_none, errW_some] <;> rfl), by (with_reducible repeat (first | apply Kd.R_alloc | apply Kd.R_drewN | apply Kd.R_drew)); exact HO_3.out, bl HB⟩
  ·rw [if_neg c3] at H
   exact absurd H (by simp)
 ·rw [if_neg c2] at H
  exact absurd H (by simp)

end Go.Proofs.Ytonkicgdgpcneaa.PFnExactAddCuts
