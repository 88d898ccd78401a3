-- Written by a program of this session (a turned copy of the kit's printer); Lean checks it.
-- half the depth
import Derived.Test.YtpkclocdenagcaaPFnUnitsx0
import Derived.Test.YtpkclocdenagcaaPFnUnitsx1
import Derived.Test.YtpkclocdenagcaaPFnUnitsx2
import Derived.Test.YtpkclocdenagcaaPFnUnitsx3
namespace Go.Proofs.Ytpkclocdenagcaa.PFnUnits
open Go.RowKit Go.Proofs.YtpkclocdenagcaaW.PrintWords Go.Proofs.YtpkclocdenagcaaW.PrintLast Go.Proofs.YtpkclocdenagcaaW.PrintMore
attribute [local go_sem] max2_int min2_int max_two min_two max_three min_three max_four min_four   -- for this text's walks alone
set_option linter.unusedVariables false
set_option linter.unusedSimpArgs false

/-! ### spec_Unit: function 14 -/
mutual
def spec_Unit.j0 : Nat → List Int → Bool → Int → List (List Int) → Option (List Int × Bool)
 | 0, _, _, _, _ => none
 | k + 1, x1, x16, x139000, x139001 => if x16 = true then (some ((([] : List Int)), false)) else (spec_Unit.l0 k x1 0 x139000 x139001)
def spec_Unit.l0 : Nat → List Int → Int → Int → List (List Int) → Option (List Int × Bool)
 | 0, _, _, _, _ => none
 | k + 1, x1, x6, x139000, x139001 => if x6 < (x1.length : Int) then (if 0 ≤ x6 then (if (rd x1 x6) = 0 then (some ((([] : List Int)), false)) else ((spec_l1In.f (rd x1 x6) (wrap64 (-x139000)) x139000).bind fun t152 => (if t152 = true then (if x6 ≤ (x1.length : Int) then ((spec_l1Has.f k (x1.take (x6 : Int).toNat) (rd x1 x6)).bind fun t155 => (if t155 = true then (some ((([] : List Int)), false)) else ((spec_l1Has.f k (x1.take (x6 : Int).toNat) (wrap64 (-(rd x1 x6)))).bind fun t161 => (if t161 = true then (some ((([] : List Int)), false)) else (spec_Unit.l0 k x1 (wrap64 (x6 + 1)) x139000 x139001))))) else (none)) else (some ((([] : List Int)), false))))) else (none)) else ((spec_l18Unit.f k x139000 x139001 x1).bind fun bt143 => (some (bt143.1, bt143.2)))
end
def spec_Unit.f (k : Nat) (a0_0 : Int) (l0_1 : List (List Int)) (l1 : List Int) : Option (List Int × Bool) := (spec_CnfOk.f k a0_0 l0_1).bind fun t139 => (if t139 = true then (spec_Unit.j0 k l1 (decide ((l1.length : Int) > a0_0)) a0_0 l0_1) else (spec_Unit.j0 k l1 true a0_0 l0_1))
set_option maxHeartbeats 8000000 in
set_option maxRecDepth 100000 in
theorem spec_Unit.calls (k : Nat) (a0_0 : Int) (A0_1 : Option Addr) (c0_1 : Nat) (l0_1 : List (List Int)) (A1 : Option Addr) (c1 : Nat) (l1 : List Int) (r1 : List Int) (r2 : Bool) (w : World) (hr0_1 : Kd.C (Kd.slice 2 (Kd.int .i64)) w A0_1 l0_1.length l0_1) (hc0_1 : l0_1.length ≤ c0_1) (hr1 : Kd.C (Kd.int .i64) w A1 l1.length l1) (hc1 : l1.length ≤ c1) (h : spec_Unit.f k a0_0 l0_1 l1 = some (r1, r2)) :
  Calls Try.prog 14 #[.agg #[.int .i64 a0_0, .slice A0_1 l0_1.length c0_1], .slice A1 l1.length c1] w fun e w' => ∃ v0_ : Value, e = .returned (.tuple #[v0_, .bool r2]) ∧ Kd.R (Kd.int .i64) 2 w' w.heap.size (fun _ => True) v0_ r1 ∧ Below w.heap.size w w' := by
 have hu37 := Try.underlying37; have HR0_1 := Aside0.mk hr0_1; have HC0_1 := Aside0.mk hc0_1; clear hr0_1 hc0_1; have HR1 := Aside0.mk hr1; have HC1 := Aside0.mk hc1; clear hr1 hc1; have HB := Aside0.mk (Below.refl w.heap.size w); have H : ((spec_CnfOk.f k a0_0 l0_1).bind fun t139 => (if t139 = true then (spec_Unit.j0 k l1 (decide ((l1.length : Int) > a0_0)) a0_0 l0_1) else (spec_Unit.j0 k l1 true a0_0 l0_1))) = some (r1, r2) := h; clear h; have HC3 := Aside0.mk H; clear H
 go_enter Try.func14, Try.ntmps14
 go_upto_region 1 with (first | ((with_reducible refine gate_dst (N := 2) rfl ?_); (try (refine gate_guard (by rfl) ?_; dsimp only)); refine be 2 #[.int .i64 a0_0, .slice A0_1 l0_1.length c0_1] 37 ?_; intro gb138 hg w4 hbox hb; have n0_ := Aside0.mk (below_step (bl HB) hb); have n1_ := Aside0.mk (hbox); have n2_ := Aside0.mk (gs HB hg); have n3_ := Aside0.mk (gs HB hg); clear HB; have HB := n0_; have BK138 := n1_; have GW138 := n2_; have GE138 := n3_; clear n0_ n1_ n2_ n3_; clear hb hbox hg))
 (try simp only [Act.put, List.setIfInBounds_toArray, List.set_cons_zero, List.set_cons_succ])
 go_cut [16] (fun v16 wc => ∃ (kq : Nat) (x16_2 : Bool), v16 = .bool x16_2 ∧ Aside0 (spec_Unit.j0 kq l1 x16_2 a0_0 l0_1 = some (r1, r2)) ∧ Aside0 (kq ≤ k) ∧ Aside0 (wc.heap[gb138]? = some (.cells #[.int .i64 a0_0, (.slice A0_1 l0_1.length c0_1)] 37 (0, 0))) ∧ Aside0 (Below w.heap.size w wc))
 case first =>
  have H := HC3.out; clear HC3; replace H := Option.bind_eq_some_iff.mp H; obtain ⟨t139, A50, H⟩ := H; replace H : (if t139 = true then (spec_Unit.j0 k l1 (decide ((l1.length : Int) > a0_0)) a0_0 l0_1) else (spec_Unit.j0 k l1 true a0_0 l0_1)) = some (r1, r2) := H; have A5 := Aside0.mk A50; clear A50
  by_cases c6 : t139 = true
  ·subst c6
   have H1 : (spec_Unit.j0 k l1 (decide ((l1.length : Int) > a0_0)) a0_0 l0_1) = some (r1, r2) := by rw [if_pos rfl] at H; exact H
   clear H; have H := H1; clear H1; have H' := Aside0.mk H; clear H; have hcz7_0 : w4.cell? ⟨gb138, 0, none⟩ = some (.int .i64 a0_0) := (blk_cell BK138.out 0).trans rfl; have hcz7_1 : w4.cell? ⟨gb138, 1, none⟩ = some (.slice A0_1 l0_1.length c0_1) := (blk_cell BK138.out 1).trans rfl; have hfz7_0 := blk_frozen BK138.out 0; have hfz7_1 := blk_frozen BK138.out 1
   go_wp2_with (first | ((with_reducible refine gate_callee (f := 26) rfl ?_); refine goesL_ (some 8) rfl rfl Try.func26 (by kernel_rfl) rfl #[.agg #[.int .i64 a0_0, .slice A0_1 l0_1.length c0_1]] rfl ma ?_; (with_reducible refine (spec_CnfOk.calls k a0_0 _ _ l0_1 true _ ?side1 ?side2 A5.out).mono ?_); (case side1 => exact rc HR0_1 HB); (case side2 => exact HC0_1.out); rintro e w8 ⟨rfl, hb⟩; refine ⟨_, rfl, ?_⟩; have n0_ := Aside0.mk (blk_below (g := gb138) (o := .cells #[.int .i64 a0_0, .slice A0_1 l0_1.length c0_1] 37 (0, 0)) (bk BK138) hb); have n1_ := Aside0.mk (below_step (bs HB GE138) hb); clear BK138; clear HB; have BK138 := n0_; have HB := n1_; clear n0_ n1_; (try clear hb); (try clear hb2); (try clear hk); (try clear hi); have hcz9_0 : w8.cell? ⟨gb138, 0, none⟩ = some (.int .i64 a0_0) := (blk_cell BK138.out 0).trans rfl; have hcz9_1 : w8.cell? ⟨gb138, 1, none⟩ = some (.slice A0_1 l0_1.length c0_1) := (blk_cell BK138.out 1).trans rfl; have hfz9_0 := blk_frozen BK138.out 0; have hfz9_1 := blk_frozen BK138.out 1))
   go_meet
   case rel => exact ⟨_, (decide ((l1.length : Int) > a0_0)), au, H', ⟨by first | omega | exact Nat.le_refl _⟩, ⟨bk BK138⟩, ⟨bs HB GE138⟩⟩
  ·replace c6 := Bool.eq_false_iff.mpr c6
   subst c6
   have H1 : (spec_Unit.j0 k l1 true a0_0 l0_1) = some (r1, r2) := by rw [if_neg (show ¬ (false = true) by decide)] at H; exact H
   clear H; have H := H1; clear H1; have H' := Aside0.mk H; clear H; have hcz10_0 : w4.cell? ⟨gb138, 0, none⟩ = some (.int .i64 a0_0) := (blk_cell BK138.out 0).trans rfl; have hcz10_1 : w4.cell? ⟨gb138, 1, none⟩ = some (.slice A0_1 l0_1.length c0_1) := (blk_cell BK138.out 1).trans rfl; have hfz10_0 := blk_frozen BK138.out 0; have hfz10_1 := blk_frozen BK138.out 1
   go_wp2_with (first | ((with_reducible refine gate_callee (f := 26) rfl ?_); refine goesL_ (some 8) rfl rfl Try.func26 (by kernel_rfl) rfl #[.agg #[.int .i64 a0_0, .slice A0_1 l0_1.length c0_1]] rfl ma ?_; (with_reducible refine (spec_CnfOk.calls k a0_0 _ _ l0_1 false _ ?side1 ?side2 A5.out).mono ?_); (case side1 => exact rc HR0_1 HB); (case side2 => exact HC0_1.out); rintro e w11 ⟨rfl, hb⟩; refine ⟨_, rfl, ?_⟩; have n0_ := Aside0.mk (blk_below (g := gb138) (o := .cells #[.int .i64 a0_0, .slice A0_1 l0_1.length c0_1] 37 (0, 0)) (bk BK138) hb); have n1_ := Aside0.mk (below_step (bs HB GE138) hb); clear BK138; clear HB; have BK138 := n0_; have HB := n1_; clear n0_ n1_; (try clear hb); (try clear hb2); (try clear hk); (try clear hi)))
   go_meet
   case rel => exact ⟨_, (true), au, H', ⟨by first | omega | exact Nat.le_refl _⟩, ⟨bk BK138⟩, ⟨bs HB GE138⟩⟩
 case rest =>
  clear HC3
  try clear c1
  try clear c2
  try clear p2
  try clear c6
  try clear hcz10_0
  try clear hcz10_1
  try clear hcz7_0
  try clear hcz7_1
  try clear hcz9_0
  try clear hcz9_1
  try clear hfz10_0
  try clear hfz10_1
  try clear hfz7_0
  try clear hfz7_1
  try clear hfz9_0
  try clear hfz9_1
  obtain ⟨kq, x16_2, rfl, HA, HJ2, BK138, HB⟩ := hcut
  cases kq with
  | zero => exact absurd HA.out (by simp [spec_Unit.j0])
  | succ kj2 =>
   have H := HA.out; clear HA
   simp only [spec_Unit.j0] at H
   by_cases c12 : x16_2 = true
   ·subst c12
    have H1 : (some ((([] : List Int)), false)) = some (r1, r2) := by rw [if_pos rfl] at H; exact H
    clear H; have H := H1; clear H1; obtain ⟨y140, hy140⟩ : ∃ y_ : List Int, y_ = (([] : List Int)) := ⟨_, rfl⟩
    replace H : (some (y140, false)) = some (r1, r2) := by first | (rw [hy140]; with_reducible exact H) | (have H2_ := (Option.bind_some _ _).symm.trans H; rw [hy140]; with_reducible exact H2_) | (have H2_ := (Option.bind_some _ _).symm.trans H; with_reducible exact H2_) | with_reducible exact H | (rw [hy140]; exact H) | exact H
    have Ny140 := Aside0.mk hy140; clear hy140
    simp only [Option.some.injEq, Prod.mk.injEq] at H
    obtain ⟨rfl, rfl⟩ := H
    go_wp2_with (first | ((with_reducible refine gate_dst (N := 17) rfl ?_); (try (refine gate_guard (by rfl) ?_; dsimp only)); refine Kd.R_lit (Kd.int .i64) _ 2 ?hg (N := 17) ?hd (xs := ([] : List Int)) (inner := []) (ok := fun _ => True) (okp := fun _ => True) ?hr ?hp (fun _ hk => hk) trivial (Below.refl _ _) (Nat.le_refl _) (by simp) ?_; (case hd => rfl); (case hg => rfl); (case hr => first | (go_simp; done) | (go_simp; rfl)); (case hp => exact (Reps.none _ _)); intro v141 w13 ho14 hb hg_ hnew_; clear hg_ hnew_; (first | rw [← Ny140.out] at ho14 | (simp only [Int.reduceToNat] at ho14; rw [← Ny140.out] at ho14)); have n0_ := Aside0.mk (Kd.R_lower ho14 (below_size (bs HB GE138))); have n1_ := Aside0.mk (blk_below (g := gb138) (o := .cells #[.int .i64 a0_0, .slice A0_1 l0_1.length c0_1] 37 (0, 0)) (bk BK138) hb); have n2_ := Aside0.mk (below_step (bs HB GE138) hb); clear BK138; clear HB; have HO142 := n0_; have BK138 := n1_; have HB := n2_; clear n0_ n1_ n2_; clear hb ho14))
    go_ret2
    exact ⟨_, by first | rfl | (simp [errW_none, errW_some] <;> rfl) | (simp [*, errW_none, errW_some] <;> rfl), by (with_reducible repeat (first | apply Kd.R_alloc | apply Kd.R_drewN | apply Kd.R_drew)); exact HO142.out, bs HB GE138⟩
   ·replace c12 := Bool.eq_false_iff.mpr c12
    subst c12
    have H1 : (spec_Unit.l0 kj2 l1 0 a0_0 l0_1) = some (r1, r2) := by rw [if_neg (show ¬ (false = true) by decide)] at H; exact H
    clear H; have H := H1; clear H1; have H' := Aside0.mk H; clear H
    go_wp2
    go_loopg [6] kj2 (fun kq v6 w' => ∃ (x6_2 : Int), v6 = .int .i64 x6_2 ∧ Aside0 (spec_Unit.l0 kq l1 x6_2 a0_0 l0_1 = some (r1, r2)) ∧ Aside0 (kq ≤ kj2) ∧ Aside0 (w'.heap[gb138]? = some (.cells #[.int .i64 a0_0, (.slice A0_1 l0_1.length c0_1)] 37 (0, 0))) ∧ Aside0 (Below w.heap.size w w'))
    case atStart => exact ⟨(0), au, H', ⟨Nat.le_refl _⟩, ⟨bk BK138⟩, ⟨bs HB GE138⟩⟩
    case round =>
     clear H'
     try clear c1
     try clear c2
     try clear p2
     try clear c6
     try clear c12
     try clear c14
     try clear hcz10_0
     try clear hcz10_1
     try clear hcz7_0
     try clear hcz7_1
     try clear hcz9_0
     try clear hcz9_1
     try clear hfz10_0
     try clear hfz10_1
     try clear hfz7_0
     try clear hfz7_1
     try clear hfz9_0
     try clear hfz9_1
     try clear p2
     obtain ⟨x6_2, rfl, HA, HK2, BK138, HB⟩ := hrel
     cases gk with
     | zero => exact absurd HA.out (by simp [spec_Unit.l0])
     | succ k2 =>
      have H := HA.out; clear HA
      simp only [spec_Unit.l0] at H
      by_cases c15 : x6_2 < (l1.length : Int)
      ·rw [if_pos c15] at H
       have c15b0 : decide (x6_2 < (l1.length : Int)) = true := decide_eq_true c15; clear c15
       by_cases c16 : 0 ≤ x6_2
       ·rw [if_pos c16] at H
        have c16b0 : decide (0 ≤ x6_2) = true := decide_eq_true c16; clear c16
        by_cases c17 : (rd l1 x6_2) = 0
        ·rw [if_pos c17] at H
         have c17b0 : ((rd l1 x6_2) == 0) = true := beq_iff_eq.mpr c17; have c17b1 : ((rd l1 x6_2) != 0) = false := bne_eq_false_iff_eq.mpr c17; clear c17; obtain ⟨y148, hy148⟩ : ∃ y_ : List Int, y_ = (([] : List Int)) := ⟨_, rfl⟩
         replace H : (some (y148, false)) = some (r1, r2) := by first | (rw [hy148]; with_reducible exact H) | (have H2_ := (Option.bind_some _ _).symm.trans H; rw [hy148]; with_reducible exact H2_) | (have H2_ := (Option.bind_some _ _).symm.trans H; with_reducible exact H2_) | with_reducible exact H | (rw [hy148]; exact H) | exact H
         have Ny148 := Aside0.mk hy148; clear hy148
         simp only [Option.some.injEq, Prod.mk.injEq] at H
         obtain ⟨rfl, rfl⟩ := H
         try go_wp2
         have p147 : 0 ≤ (x6_2 : Int) := ode; have q147 : x6_2 < (l1.length : Int) := ode; obtain ⟨ad147, e147, hx147_0⟩ := Kd.at_int HR1.out x6_2 p147 q147; have hw147_0 := hx147_0
         cases e147
         replace hx147_0 := cl HB hx147_0; replace p147 := eq_true p147; replace q147 := eq_true q147; have s0_ : wr.cell? (ad147.add (x6_2).toNat) = some (.int .i64 (rd l1 x6_2)) := (((HB.out.cell (World.block_lt_of_cell? w _ hw147_0)).trans hw147_0))
         (try clear hcz10_0); (try clear hcz10_1); (try clear hcz7_0); (try clear hcz7_1); (try clear hcz9_0); (try clear hcz9_1); (try clear hx147_0)
         go_quiet ((fail))
         clear s0_; have n0_ := Aside0.mk (blk_drewN BK138.out nq); have n1_ := Aside0.mk (pw_below_drewN HB.out nq); clear BK138; clear HB; have BK138 := n0_; have HB := n1_; clear n0_ n1_; generalize wr.drewN nq = w18 at BK138 HB ⊢
         try go_wp2_with (first | ((with_reducible refine gate_dst (N := 63) rfl ?_); (try (refine gate_guard (by rfl) ?_; dsimp only)); refine Kd.R_lit (Kd.int .i64) _ 2 ?hg (N := 63) ?hd (xs := ([] : List Int)) (inner := []) (ok := fun _ => True) (okp := fun _ => True) ?hr ?hp (fun _ hk => hk) trivial (Below.refl _ _) (Nat.le_refl _) (by simp) ?_; (case hd => rfl); (case hg => rfl); (case hr => first | (go_simp; done) | (go_simp; rfl)); (case hp => exact (Reps.none _ _)); intro v149 w19 ho20 hb hg_ hnew_; clear hg_ hnew_; (first | rw [← Ny148.out] at ho20 | (simp only [Int.reduceToNat] at ho20; rw [← Ny148.out] at ho20)); have n0_ := Aside0.mk (Kd.R_lower ho20 (below_size (bs HB GE138))); have n1_ := Aside0.mk (blk_below (g := gb138) (o := .cells #[.int .i64 a0_0, .slice A0_1 l0_1.length c0_1] 37 (0, 0)) (bk BK138) hb); have n2_ := Aside0.mk (below_step (bs HB GE138) hb); clear BK138; clear HB; have HO150 := n0_; have BK138 := n1_; have HB := n2_; clear n0_ n1_ n2_; clear hb ho20))
         go_ret2
         exact ⟨_, by first | rfl | (simp [errW_none, errW_some] <;> rfl) | (simp [*, errW_none, errW_some] <;> rfl), by (with_reducible repeat (first | apply Kd.R_alloc | apply Kd.R_drewN | apply Kd.R_drew)); exact HO150.out, bs HB GE138⟩
        ·rw [if_neg c17] at H
         have c17b0 : ((rd l1 x6_2) == 0) = false := beq_eq_false_iff_ne.mpr c17; have c17b1 : ((rd l1 x6_2) != 0) = true := bne_iff_ne.mpr c17; replace H := Option.bind_eq_some_iff.mp H; obtain ⟨t152, A210, H⟩ := H; replace H : (if t152 = true then (if x6_2 ≤ (l1.length : Int) then ((spec_l1Has.f k2 (l1.take (x6_2 : Int).toNat) (rd l1 x6_2)).bind fun t155 => (if t155 = true then (some ((([] : List Int)), false)) else ((spec_l1Has.f k2 (l1.take (x6_2 : Int).toNat) (wrap64 (-(rd l1 x6_2)))).bind fun t161 => (if t161 = true then (some ((([] : List Int)), false)) else (spec_Unit.l0 k2 l1 (wrap64 (x6_2 + 1)) a0_0 l0_1))))) else (none)) else (some ((([] : List Int)), false))) = some (r1, r2) := H; have A21 := Aside0.mk A210; clear A210
         by_cases c22 : t152 = true
         ·subst c22
          have H1 : (if x6_2 ≤ (l1.length : Int) then ((spec_l1Has.f k2 (l1.take (x6_2 : Int).toNat) (rd l1 x6_2)).bind fun t155 => (if t155 = true then (some ((([] : List Int)), false)) else ((spec_l1Has.f k2 (l1.take (x6_2 : Int).toNat) (wrap64 (-(rd l1 x6_2)))).bind fun t161 => (if t161 = true then (some ((([] : List Int)), false)) else (spec_Unit.l0 k2 l1 (wrap64 (x6_2 + 1)) a0_0 l0_1))))) else (none)) = some (r1, r2) := by rw [if_pos rfl] at H; exact H
          clear H; have H := H1; clear H1; have c23b0 := eq_true (ode : 0 ≤ x6_2)
          by_cases c24 : x6_2 ≤ (l1.length : Int)
          ·rw [if_pos c24] at H
           have c24b0 := eq_true c24; have c24b1 : decide (x6_2 ≤ (l1.length : Int)) = true := decide_eq_true c24; clear c24; replace H := Option.bind_eq_some_iff.mp H; obtain ⟨t155, A250, H⟩ := H; replace H : (if t155 = true then (some ((([] : List Int)), false)) else ((spec_l1Has.f k2 (l1.take (x6_2 : Int).toNat) (wrap64 (-(rd l1 x6_2)))).bind fun t161 => (if t161 = true then (some ((([] : List Int)), false)) else (spec_Unit.l0 k2 l1 (wrap64 (x6_2 + 1)) a0_0 l0_1)))) = some (r1, r2) := H; have A25 := Aside0.mk A250; clear A250
           by_cases c26 : t155 = true
           ·subst c26
            have H1 : (some ((([] : List Int)), false)) = some (r1, r2) := by rw [if_pos rfl] at H; exact H
            clear H; have H := H1; clear H1; obtain ⟨y156, hy156⟩ : ∃ y_ : List Int, y_ = (([] : List Int)) := ⟨_, rfl⟩
            replace H : (some (y156, false)) = some (r1, r2) := by first | (rw [hy156]; with_reducible exact H) | (have H2_ := (Option.bind_some _ _).symm.trans H; rw [hy156]; with_reducible exact H2_) | (have H2_ := (Option.bind_some _ _).symm.trans H; with_reducible exact H2_) | with_reducible exact H | (rw [hy156]; exact H) | exact H
            have Ny156 := Aside0.mk hy156; clear hy156
            simp only [Option.some.injEq, Prod.mk.injEq] at H
            obtain ⟨rfl, rfl⟩ := H
            try go_wp2
            have p147 : 0 ≤ (x6_2 : Int) := ode; have q147 : x6_2 < (l1.length : Int) := ode; obtain ⟨ad147, e147, hx147_0⟩ := Kd.at_int HR1.out x6_2 p147 q147; have hw147_0 := hx147_0
            cases e147
            replace hx147_0 := cl HB hx147_0; replace p147 := eq_true p147; replace q147 := eq_true q147; have p151 : 0 ≤ (x6_2 : Int) := ode; have q151 : x6_2 < (l1.length : Int) := ode; obtain ⟨ad151, e151, hx151_0⟩ := Kd.at_int HR1.out x6_2 p151 q151; have hw151_0 := hx151_0; obtain rfl : ad147 = ad151 := (by injection e151); replace hx151_0 := cl HB hx151_0; replace p151 := eq_true p151; replace q151 := eq_true q151; have p154 : 0 ≤ (x6_2 : Int) := ode; have q154 : x6_2 < (l1.length : Int) := ode; obtain ⟨ad154, e154, hx154_0⟩ := Kd.at_int HR1.out x6_2 p154 q154; have hw154_0 := hx154_0; obtain rfl : ad147 = ad154 := (by injection e154); replace hx154_0 := cl HB hx154_0; replace p154 := eq_true p154; replace q154 := eq_true q154; obtain ⟨s0_, s1_, s2_, s3_, s4_⟩ : wr.cell? ⟨gb138, 0, none⟩ = some (.int .i64 a0_0) ∧ wr.cell? ⟨gb138, 1, none⟩ = some (.slice A0_1 l0_1.length c0_1) ∧ wr.cell? (ad147.add (x6_2).toNat) = some (.int .i64 (rd l1 x6_2)) ∧ wr.cell? (ad147.add (x6_2).toNat) = some (.int .i64 (rd l1 x6_2)) ∧ wr.cell? (ad147.add (x6_2).toNat) = some (.int .i64 (rd l1 x6_2)) := ⟨(blk_cell BK138.out 0).trans rfl, (blk_cell BK138.out 1).trans rfl, ((HB.out.cell (World.block_lt_of_cell? w _ hw147_0)).trans hw147_0), ((HB.out.cell (World.block_lt_of_cell? w _ hw151_0)).trans hw151_0), ((HB.out.cell (World.block_lt_of_cell? w _ hw154_0)).trans hw154_0)⟩
            (try clear hcz10_0); (try clear hcz10_1); (try clear hcz7_0); (try clear hcz7_1); (try clear hcz9_0); (try clear hcz9_1); (try clear hx147_0); (try clear hx151_0); (try clear hx154_0)
            have hS1 : x6_2 < (l1.length : Int) := by first | assumption | (refine of_eq_true ?_; assumption)
            have hS0 : 0 ≤ x6_2 := by first | assumption | (refine of_eq_true ?_; assumption)
            have hSt : (x6_2 : Int).toNat ≤ l1.length := Int.toNat_le.2 (Int.le_of_lt hS1)
            have hSc : (x6_2 ≤ (c1 : Int)) = True := eq_true (Int.le_trans (Int.le_of_lt hS1) (Int.ofNat_le.2 HC1.out))
            have hSLn : (l1.take (x6_2 : Int).toNat).length = (x6_2 : Int).toNat := by rw [List.length_take]; exact Nat.min_eq_left hSt
            have HRS_ := Aside0.mk (Kd.C_take HR1.out hSt)
            have HCS_ : Aside0 ((l1.take (x6_2 : Int).toNat).length ≤ c1) := ⟨by rw [hSLn]; exact Nat.le_trans hSt HC1.out⟩
            clear hS0 hS1 hSt
            generalize rd l1 x6_2 = z_ at *
            go_quiet ((first | (go_at_call 44; (try simp only [i64_w]); (with_reducible refine Calls.quiet_of ((spec_l1In.calls z_ (wrap64 (-a0_0)) a0_0 true _ A21.out).mono fun _ _ h_ => ⟨h_.1, h_.2.out⟩))) | (go_at_call 45; (try simp only [i64_w]); (try rw [← hSLn]); (with_reducible refine Calls.quiet_of ((spec_l1Has.calls k2 _ _ (l1.take (x6_2 : Int).toNat) z_ true _ ?side1 ?side2 A25.out).mono fun _ _ h_ => ⟨h_.1, h_.2.out⟩)); (case side1 => repeat (first | exact (Kd.C_below HRS_.out (bs HB GE138)) | (with_reducible refine Kd.C_alloc ?_ _) | (with_reducible refine Kd.C_drewN ?_ _) | (with_reducible refine Kd.C_drew ?_))); (case side2 => exact HCS_.out))))
            clear s0_ s1_ s2_ s3_ s4_; have n0_ := Aside0.mk (blk_drewN BK138.out nq); have n1_ := Aside0.mk (pw_below_drewN HB.out nq); clear BK138; clear HB; have BK138 := n0_; have HB := n1_; clear n0_ n1_; generalize wr.drewN nq = w27 at BK138 HB ⊢
            try go_wp2_with (first | ((with_reducible refine gate_dst (N := 63) rfl ?_); (try (refine gate_guard (by rfl) ?_; dsimp only)); refine Kd.R_lit (Kd.int .i64) _ 2 ?hg (N := 63) ?hd (xs := ([] : List Int)) (inner := []) (ok := fun _ => True) (okp := fun _ => True) ?hr ?hp (fun _ hk => hk) trivial (Below.refl _ _) (Nat.le_refl _) (by simp) ?_; (case hd => rfl); (case hg => rfl); (case hr => first | (go_simp; done) | (go_simp; rfl)); (case hp => exact (Reps.none _ _)); intro v157 w29 ho30 hb hg_ hnew_; clear hg_ hnew_; (first | rw [← Ny156.out] at ho30 | (simp only [Int.reduceToNat] at ho30; rw [← Ny156.out] at ho30)); have n0_ := Aside0.mk (Kd.R_lower ho30 (below_size (bs HB GE138))); have n1_ := Aside0.mk (blk_below (g := gb138) (o := .cells #[.int .i64 a0_0, .slice A0_1 l0_1.length c0_1] 37 (0, 0)) (bk BK138) hb); have n2_ := Aside0.mk (below_step (bs HB GE138) hb); clear BK138; clear HB; have HO158 := n0_; have BK138 := n1_; have HB := n2_; clear n0_ n1_ n2_; clear hb ho30))
            go_ret2
            exact ⟨_, by first | rfl | (simp [errW_none, errW_some] <;> rfl) | (simp [*, errW_none, errW_some] <;> rfl), by (with_reducible repeat (first | apply Kd.R_alloc | apply Kd.R_drewN | apply Kd.R_drew)); exact HO158.out, bs HB GE138⟩
           ·replace c26 := Bool.eq_false_iff.mpr c26
            subst c26
            have H1 : ((spec_l1Has.f k2 (l1.take (x6_2 : Int).toNat) (wrap64 (-(rd l1 x6_2)))).bind fun t161 => (if t161 = true then (some ((([] : List Int)), false)) else (spec_Unit.l0 k2 l1 (wrap64 (x6_2 + 1)) a0_0 l0_1))) = some (r1, r2) := by rw [if_neg (show ¬ (false = true) by decide)] at H; exact H
            clear H; have H := H1; clear H1; have c31b0 := eq_true (ode : 0 ≤ x6_2); have c32b0 := eq_true (ode : x6_2 ≤ (l1.length : Int)); replace H := Option.bind_eq_some_iff.mp H; obtain ⟨t161, A330, H⟩ := H; replace H : (if t161 = true then (some ((([] : List Int)), false)) else (spec_Unit.l0 k2 l1 (wrap64 (x6_2 + 1)) a0_0 l0_1)) = some (r1, r2) := H; have A33 := Aside0.mk A330; clear A330
            by_cases c34 : t161 = true
            ·subst c34
             have H1 : (some ((([] : List Int)), false)) = some (r1, r2) := by rw [if_pos rfl] at H; exact H
             clear H; have H := H1; clear H1; obtain ⟨y162, hy162⟩ : ∃ y_ : List Int, y_ = (([] : List Int)) := ⟨_, rfl⟩
             replace H : (some (y162, false)) = some (r1, r2) := by first | (rw [hy162]; with_reducible exact H) | (have H2_ := (Option.bind_some _ _).symm.trans H; rw [hy162]; with_reducible exact H2_) | (have H2_ := (Option.bind_some _ _).symm.trans H; with_reducible exact H2_) | with_reducible exact H | (rw [hy162]; exact H) | exact H
             have Ny162 := Aside0.mk hy162; clear hy162
             simp only [Option.some.injEq, Prod.mk.injEq] at H
             obtain ⟨rfl, rfl⟩ := H
             try go_wp2
             have p147 : 0 ≤ (x6_2 : Int) := ode; have q147 : x6_2 < (l1.length : Int) := ode; obtain ⟨ad147, e147, hx147_0⟩ := Kd.at_int HR1.out x6_2 p147 q147; have hw147_0 := hx147_0
             cases e147
             replace hx147_0 := cl HB hx147_0; replace p147 := eq_true p147; replace q147 := eq_true q147; have p151 : 0 ≤ (x6_2 : Int) := ode; have q151 : x6_2 < (l1.length : Int) := ode; obtain ⟨ad151, e151, hx151_0⟩ := Kd.at_int HR1.out x6_2 p151 q151; have hw151_0 := hx151_0; obtain rfl : ad147 = ad151 := (by injection e151); replace hx151_0 := cl HB hx151_0; replace p151 := eq_true p151; replace q151 := eq_true q151; have p154 : 0 ≤ (x6_2 : Int) := ode; have q154 : x6_2 < (l1.length : Int) := ode; obtain ⟨ad154, e154, hx154_0⟩ := Kd.at_int HR1.out x6_2 p154 q154; have hw154_0 := hx154_0; obtain rfl : ad147 = ad154 := (by injection e154); replace hx154_0 := cl HB hx154_0; replace p154 := eq_true p154; replace q154 := eq_true q154; have p160 : 0 ≤ (x6_2 : Int) := ode; have q160 : x6_2 < (l1.length : Int) := ode; obtain ⟨ad160, e160, hx160_0⟩ := Kd.at_int HR1.out x6_2 p160 q160; have hw160_0 := hx160_0; obtain rfl : ad147 = ad160 := (by injection e160); replace hx160_0 := cl HB hx160_0; replace p160 := eq_true p160; replace q160 := eq_true q160; obtain ⟨s0_, s1_, s2_, s3_, s4_, s5_⟩ : wr.cell? ⟨gb138, 0, none⟩ = some (.int .i64 a0_0) ∧ wr.cell? ⟨gb138, 1, none⟩ = some (.slice A0_1 l0_1.length c0_1) ∧ wr.cell? (ad147.add (x6_2).toNat) = some (.int .i64 (rd l1 x6_2)) ∧ wr.cell? (ad147.add (x6_2).toNat) = some (.int .i64 (rd l1 x6_2)) ∧ wr.cell? (ad147.add (x6_2).toNat) = some (.int .i64 (rd l1 x6_2)) ∧ wr.cell? (ad147.add (x6_2).toNat) = some (.int .i64 (rd l1 x6_2)) := ⟨(blk_cell BK138.out 0).trans rfl, (blk_cell BK138.out 1).trans rfl, ((HB.out.cell (World.block_lt_of_cell? w _ hw147_0)).trans hw147_0), ((HB.out.cell (World.block_lt_of_cell? w _ hw151_0)).trans hw151_0), ((HB.out.cell (World.block_lt_of_cell? w _ hw154_0)).trans hw154_0), ((HB.out.cell (World.block_lt_of_cell? w _ hw160_0)).trans hw160_0)⟩
             (try clear hcz10_0); (try clear hcz10_1); (try clear hcz7_0); (try clear hcz7_1); (try clear hcz9_0); (try clear hcz9_1); (try clear hx147_0); (try clear hx151_0); (try clear hx154_0); (try clear hx160_0)
             have hS1 : x6_2 < (l1.length : Int) := by first | assumption | (refine of_eq_true ?_; assumption)
             have hS0 : 0 ≤ x6_2 := by first | assumption | (refine of_eq_true ?_; assumption)
             have hSt : (x6_2 : Int).toNat ≤ l1.length := Int.toNat_le.2 (Int.le_of_lt hS1)
             have hSc : (x6_2 ≤ (c1 : Int)) = True := eq_true (Int.le_trans (Int.le_of_lt hS1) (Int.ofNat_le.2 HC1.out))
             have hSLn : (l1.take (x6_2 : Int).toNat).length = (x6_2 : Int).toNat := by rw [List.length_take]; exact Nat.min_eq_left hSt
             have HRS_ := Aside0.mk (Kd.C_take HR1.out hSt)
             have HCS_ : Aside0 ((l1.take (x6_2 : Int).toNat).length ≤ c1) := ⟨by rw [hSLn]; exact Nat.le_trans hSt HC1.out⟩
             clear hS0 hS1 hSt
             generalize rd l1 x6_2 = z_ at *
             generalize hy_ : wrap64 (-z_) = y_ at *
             have hyi_ : IntKind.i64.wrap (-z_) = y_ := (i64_w _).trans hy_
             refine wp_region_quiet_lit (by kernel_rfl) (by kernel_rfl) ?_
             iterate 37 (quiet_step ((first | (go_at_call 44; (try simp only [i64_w]); (with_reducible refine Calls.quiet_of ((spec_l1In.calls z_ (wrap64 (-a0_0)) a0_0 true _ A21.out).mono fun _ _ h_ => ⟨h_.1, h_.2.out⟩))) | (go_at_call 45; (try simp only [i64_w]); (try rw [← hSLn]); (with_reducible refine Calls.quiet_of ((spec_l1Has.calls k2 _ _ (l1.take (x6_2 : Int).toNat) z_ false _ ?side1 ?side2 A25.out).mono fun _ _ h_ => ⟨h_.1, h_.2.out⟩)); (case side1 => repeat (first | exact (Kd.C_below HRS_.out (bs HB GE138)) | (with_reducible refine Kd.C_alloc ?_ _) | (with_reducible refine Kd.C_drewN ?_ _) | (with_reducible refine Kd.C_drew ?_))); (case side2 => exact HCS_.out)))))
             repeat (quiet_step ((go_at_call 45; (try simp only [i64_w]); (try rw [← hSLn]); (with_reducible refine Calls.quiet_of ((spec_l1Has.calls k2 _ _ (l1.take (x6_2 : Int).toNat) y_ true _ ?side1 ?side2 A33.out).mono fun _ _ h_ => ⟨h_.1, h_.2.out⟩)); (case side1 => repeat (first | exact (Kd.C_below HRS_.out (bs HB GE138)) | (with_reducible refine Kd.C_alloc ?_ _) | (with_reducible refine Kd.C_drewN ?_ _) | (with_reducible refine Kd.C_drew ?_))); (case side2 => exact HCS_.out))))
             refine wpQuiet_nil ?_
             intro _ hw'
             obtain ⟨nq, hw''⟩ := hw'
             subst hw''
             clear s0_ s1_ s2_ s3_ s4_ s5_; have n0_ := Aside0.mk (blk_drewN BK138.out nq); have n1_ := Aside0.mk (pw_below_drewN HB.out nq); clear BK138; clear HB; have BK138 := n0_; have HB := n1_; clear n0_ n1_; generalize wr.drewN nq = w35 at BK138 HB ⊢
             try go_wp2_with (first | ((with_reducible refine gate_dst (N := 63) rfl ?_); (try (refine gate_guard (by rfl) ?_; dsimp only)); refine Kd.R_lit (Kd.int .i64) _ 2 ?hg (N := 63) ?hd (xs := ([] : List Int)) (inner := []) (ok := fun _ => True) (okp := fun _ => True) ?hr ?hp (fun _ hk => hk) trivial (Below.refl _ _) (Nat.le_refl _) (by simp) ?_; (case hd => rfl); (case hg => rfl); (case hr => first | (go_simp; done) | (go_simp; rfl)); (case hp => exact (Reps.none _ _)); intro v163 w38 ho39 hb hg_ hnew_; clear hg_ hnew_; (first | rw [← Ny162.out] at ho39 | (simp only [Int.reduceToNat] at ho39; rw [← Ny162.out] at ho39)); have n0_ := Aside0.mk (Kd.R_lower ho39 (below_size (bs HB GE138))); have n1_ := Aside0.mk (blk_below (g := gb138) (o := .cells #[.int .i64 a0_0, .slice A0_1 l0_1.length c0_1] 37 (0, 0)) (bk BK138) hb); have n2_ := Aside0.mk (below_step (bs HB GE138) hb); clear BK138; clear HB; have HO164 := n0_; have BK138 := n1_; have HB := n2_; clear n0_ n1_ n2_; clear hb ho39))
             go_ret2
             exact ⟨_, by first | rfl | (simp [errW_none, errW_some] <;> rfl) | (simp [*, errW_none, errW_some] <;> rfl), by (with_reducible repeat (first | apply Kd.R_alloc | apply Kd.R_drewN | apply Kd.R_drew)); exact HO164.out, bs HB GE138⟩
            ·replace c34 := Bool.eq_false_iff.mpr c34
             subst c34
             have H1 : (spec_Unit.l0 k2 l1 (wrap64 (x6_2 + 1)) a0_0 l0_1) = some (r1, r2) := by rw [if_neg (show ¬ (false = true) by decide)] at H; exact H
             clear H; have H := H1; clear H1; have H' := Aside0.mk H; clear H
             try go_wp2
             have p147 : 0 ≤ (x6_2 : Int) := ode; have q147 : x6_2 < (l1.length : Int) := ode; obtain ⟨ad147, e147, hx147_0⟩ := Kd.at_int HR1.out x6_2 p147 q147; have hw147_0 := hx147_0
             cases e147
             replace hx147_0 := cl HB hx147_0; replace p147 := eq_true p147; replace q147 := eq_true q147; have p151 : 0 ≤ (x6_2 : Int) := ode; have q151 : x6_2 < (l1.length : Int) := ode; obtain ⟨ad151, e151, hx151_0⟩ := Kd.at_int HR1.out x6_2 p151 q151; have hw151_0 := hx151_0; obtain rfl : ad147 = ad151 := (by injection e151); replace hx151_0 := cl HB hx151_0; replace p151 := eq_true p151; replace q151 := eq_true q151; have p154 : 0 ≤ (x6_2 : Int) := ode; have q154 : x6_2 < (l1.length : Int) := ode; obtain ⟨ad154, e154, hx154_0⟩ := Kd.at_int HR1.out x6_2 p154 q154; have hw154_0 := hx154_0; obtain rfl : ad147 = ad154 := (by injection e154); replace hx154_0 := cl HB hx154_0; replace p154 := eq_true p154; replace q154 := eq_true q154; have p160 : 0 ≤ (x6_2 : Int) := ode; have q160 : x6_2 < (l1.length : Int) := ode; obtain ⟨ad160, e160, hx160_0⟩ := Kd.at_int HR1.out x6_2 p160 q160; have hw160_0 := hx160_0; obtain rfl : ad147 = ad160 := (by injection e160); replace hx160_0 := cl HB hx160_0; replace p160 := eq_true p160; replace q160 := eq_true q160; obtain ⟨s0_, s1_, s2_, s3_, s4_, s5_⟩ : wr.cell? ⟨gb138, 0, none⟩ = some (.int .i64 a0_0) ∧ wr.cell? ⟨gb138, 1, none⟩ = some (.slice A0_1 l0_1.length c0_1) ∧ wr.cell? (ad147.add (x6_2).toNat) = some (.int .i64 (rd l1 x6_2)) ∧ wr.cell? (ad147.add (x6_2).toNat) = some (.int .i64 (rd l1 x6_2)) ∧ wr.cell? (ad147.add (x6_2).toNat) = some (.int .i64 (rd l1 x6_2)) ∧ wr.cell? (ad147.add (x6_2).toNat) = some (.int .i64 (rd l1 x6_2)) := ⟨(blk_cell BK138.out 0).trans rfl, (blk_cell BK138.out 1).trans rfl, ((HB.out.cell (World.block_lt_of_cell? w _ hw147_0)).trans hw147_0), ((HB.out.cell (World.block_lt_of_cell? w _ hw151_0)).trans hw151_0), ((HB.out.cell (World.block_lt_of_cell? w _ hw154_0)).trans hw154_0), ((HB.out.cell (World.block_lt_of_cell? w _ hw160_0)).trans hw160_0)⟩
             (try clear hcz10_0); (try clear hcz10_1); (try clear hcz7_0); (try clear hcz7_1); (try clear hcz9_0); (try clear hcz9_1); (try clear hx147_0); (try clear hx151_0); (try clear hx154_0); (try clear hx160_0)
             have hS1 : x6_2 < (l1.length : Int) := by first | assumption | (refine of_eq_true ?_; assumption)
             have hS0 : 0 ≤ x6_2 := by first | assumption | (refine of_eq_true ?_; assumption)
             have hSt : (x6_2 : Int).toNat ≤ l1.length := Int.toNat_le.2 (Int.le_of_lt hS1)
             have hSc : (x6_2 ≤ (c1 : Int)) = True := eq_true (Int.le_trans (Int.le_of_lt hS1) (Int.ofNat_le.2 HC1.out))
             have hSLn : (l1.take (x6_2 : Int).toNat).length = (x6_2 : Int).toNat := by rw [List.length_take]; exact Nat.min_eq_left hSt
             have HRS_ := Aside0.mk (Kd.C_take HR1.out hSt)
             have HCS_ : Aside0 ((l1.take (x6_2 : Int).toNat).length ≤ c1) := ⟨by rw [hSLn]; exact Nat.le_trans hSt HC1.out⟩
             clear hS0 hS1 hSt
             generalize rd l1 x6_2 = z_ at *
             generalize hy_ : wrap64 (-z_) = y_ at *
             have hyi_ : IntKind.i64.wrap (-z_) = y_ := (i64_w _).trans hy_
             refine wp_region_quiet_lit (by kernel_rfl) (by kernel_rfl) ?_
             iterate 37 (quiet_step ((first | (go_at_call 44; (try simp only [i64_w]); (with_reducible refine Calls.quiet_of ((spec_l1In.calls z_ (wrap64 (-a0_0)) a0_0 true _ A21.out).mono fun _ _ h_ => ⟨h_.1, h_.2.out⟩))) | (go_at_call 45; (try simp only [i64_w]); (try rw [← hSLn]); (with_reducible refine Calls.quiet_of ((spec_l1Has.calls k2 _ _ (l1.take (x6_2 : Int).toNat) z_ false _ ?side1 ?side2 A25.out).mono fun _ _ h_ => ⟨h_.1, h_.2.out⟩)); (case side1 => repeat (first | exact (Kd.C_below HRS_.out (bs HB GE138)) | (with_reducible refine Kd.C_alloc ?_ _) | (with_reducible refine Kd.C_drewN ?_ _) | (with_reducible refine Kd.C_drew ?_))); (case side2 => exact HCS_.out)))))
             repeat (quiet_step ((go_at_call 45; (try simp only [i64_w]); (try rw [← hSLn]); (with_reducible refine Calls.quiet_of ((spec_l1Has.calls k2 _ _ (l1.take (x6_2 : Int).toNat) y_ false _ ?side1 ?side2 A33.out).mono fun _ _ h_ => ⟨h_.1, h_.2.out⟩)); (case side1 => repeat (first | exact (Kd.C_below HRS_.out (bs HB GE138)) | (with_reducible refine Kd.C_alloc ?_ _) | (with_reducible refine Kd.C_drewN ?_ _) | (with_reducible refine Kd.C_drew ?_))); (case side2 => exact HCS_.out))))
             refine wpQuiet_nil ?_
             intro _ hw'
             obtain ⟨nq, hw''⟩ := hw'
             subst hw''
             clear s0_ s1_ s2_ s3_ s4_ s5_; have n0_ := Aside0.mk (blk_drewN BK138.out nq); have n1_ := Aside0.mk (pw_below_drewN HB.out nq); clear BK138; clear HB; have BK138 := n0_; have HB := n1_; clear n0_ n1_; generalize wr.drewN nq = w40 at BK138 HB ⊢
             try go_wp2
             go_roundg k2
             case measure => have := HJ2.out; have := HK2.out; omega
             case rel => exact ⟨(wrap64 (x6_2 + 1)), au, H', ⟨by have := HJ2.out; have := HK2.out; omega⟩, ⟨bk BK138⟩, ⟨bs HB GE138⟩⟩
          ·rw [if_neg c24] at H
           exact absurd H (by simp)
         ·replace c22 := Bool.eq_false_iff.mpr c22
          subst c22
          have H1 : (some ((([] : List Int)), false)) = some (r1, r2) := by rw [if_neg (show ¬ (false = true) by decide)] at H; exact H
          clear H; have H := H1; clear H1; obtain ⟨y165, hy165⟩ : ∃ y_ : List Int, y_ = (([] : List Int)) := ⟨_, rfl⟩
          replace H : (some (y165, false)) = some (r1, r2) := by first | (rw [hy165]; with_reducible exact H) | (have H2_ := (Option.bind_some _ _).symm.trans H; rw [hy165]; with_reducible exact H2_) | (have H2_ := (Option.bind_some _ _).symm.trans H; with_reducible exact H2_) | with_reducible exact H | (rw [hy165]; exact H) | exact H
          have Ny165 := Aside0.mk hy165; clear hy165
          simp only [Option.some.injEq, Prod.mk.injEq] at H
          obtain ⟨rfl, rfl⟩ := H
          try go_wp2
          have p147 : 0 ≤ (x6_2 : Int) := ode; have q147 : x6_2 < (l1.length : Int) := ode; obtain ⟨ad147, e147, hx147_0⟩ := Kd.at_int HR1.out x6_2 p147 q147; have hw147_0 := hx147_0
          cases e147
          replace hx147_0 := cl HB hx147_0; replace p147 := eq_true p147; replace q147 := eq_true q147; have p151 : 0 ≤ (x6_2 : Int) := ode; have q151 : x6_2 < (l1.length : Int) := ode; obtain ⟨ad151, e151, hx151_0⟩ := Kd.at_int HR1.out x6_2 p151 q151; have hw151_0 := hx151_0; obtain rfl : ad147 = ad151 := (by injection e151); replace hx151_0 := cl HB hx151_0; replace p151 := eq_true p151; replace q151 := eq_true q151; obtain ⟨s0_, s1_, s2_, s3_⟩ : wr.cell? ⟨gb138, 0, none⟩ = some (.int .i64 a0_0) ∧ wr.cell? ⟨gb138, 1, none⟩ = some (.slice A0_1 l0_1.length c0_1) ∧ wr.cell? (ad147.add (x6_2).toNat) = some (.int .i64 (rd l1 x6_2)) ∧ wr.cell? (ad147.add (x6_2).toNat) = some (.int .i64 (rd l1 x6_2)) := ⟨(blk_cell BK138.out 0).trans rfl, (blk_cell BK138.out 1).trans rfl, ((HB.out.cell (World.block_lt_of_cell? w _ hw147_0)).trans hw147_0), ((HB.out.cell (World.block_lt_of_cell? w _ hw151_0)).trans hw151_0)⟩
          (try clear hcz10_0); (try clear hcz10_1); (try clear hcz7_0); (try clear hcz7_1); (try clear hcz9_0); (try clear hcz9_1); (try clear hx147_0); (try clear hx151_0)
          go_quiet (((go_at_call 44; (try simp only [i64_w]); (with_reducible refine Calls.quiet_of ((spec_l1In.calls (rd l1 x6_2) (wrap64 (-a0_0)) a0_0 false _ A21.out).mono fun _ _ h_ => ⟨h_.1, h_.2.out⟩)))))
          clear s0_ s1_ s2_ s3_; have n0_ := Aside0.mk (blk_drewN BK138.out nq); have n1_ := Aside0.mk (pw_below_drewN HB.out nq); clear BK138; clear HB; have BK138 := n0_; have HB := n1_; clear n0_ n1_; generalize wr.drewN nq = w43 at BK138 HB ⊢
          try go_wp2_with (first | ((with_reducible refine gate_dst (N := 63) rfl ?_); (try (refine gate_guard (by rfl) ?_; dsimp only)); refine Kd.R_lit (Kd.int .i64) _ 2 ?hg (N := 63) ?hd (xs := ([] : List Int)) (inner := []) (ok := fun _ => True) (okp := fun _ => True) ?hr ?hp (fun _ hk => hk) trivial (Below.refl _ _) (Nat.le_refl _) (by simp) ?_; (case hd => rfl); (case hg => rfl); (case hr => first | (go_simp; done) | (go_simp; rfl)); (case hp => exact (Reps.none _ _)); intro v166 w44 ho45 hb hg_ hnew_; clear hg_ hnew_; (first | rw [← Ny165.out] at ho45 | (simp only [Int.reduceToNat] at ho45; rw [← Ny165.out] at ho45)); have n0_ := Aside0.mk (Kd.R_lower ho45 (below_size (bs HB GE138))); have n1_ := Aside0.mk (blk_below (g := gb138) (o := .cells #[.int .i64 a0_0, .slice A0_1 l0_1.length c0_1] 37 (0, 0)) (bk BK138) hb); have n2_ := Aside0.mk (below_step (bs HB GE138) hb); clear BK138; clear HB; have HO167 := n0_; have BK138 := n1_; have HB := n2_; clear n0_ n1_ n2_; clear hb ho45))
          go_ret2
          exact ⟨_, by first | rfl | (simp [errW_none, errW_some] <;> rfl) | (simp [*, errW_none, errW_some] <;> rfl), by (with_reducible repeat (first | apply Kd.R_alloc | apply Kd.R_drewN | apply Kd.R_drew)); exact HO167.out, bs HB GE138⟩
       ·rw [if_neg c16] at H
        exact absurd H (by simp)
      ·rw [if_neg c15] at H
       have c15b0 : decide (x6_2 < (l1.length : Int)) = false := decide_eq_false c15; clear c15; replace H := Option.bind_eq_some_iff.mp H; obtain ⟨⟨t143, t146⟩, A460, H⟩ := H; replace H : (some (t143, t146)) = some (r1, r2) := H; have A46 := Aside0.mk A460; clear A460
       simp only [Option.some.injEq, Prod.mk.injEq] at H
       obtain ⟨rfl, rfl⟩ := H; have hcz47_0 : wr.cell? ⟨gb138, 0, none⟩ = some (.int .i64 a0_0) := (blk_cell BK138.out 0).trans rfl; have hcz47_1 : wr.cell? ⟨gb138, 1, none⟩ = some (.slice A0_1 l0_1.length c0_1) := (blk_cell BK138.out 1).trans rfl; have hfz47_0 := blk_frozen BK138.out 0; have hfz47_1 := blk_frozen BK138.out 1
       go_wp2_with (first | ((with_reducible refine gate_callee (f := 46) rfl ?_); refine goesL_ (some 66) rfl rfl Try.func46 (by kernel_rfl) rfl #[.agg #[.int .i64 a0_0, .slice A0_1 l0_1.length c0_1], .slice A1 l1.length c1] rfl ma ?_; (with_reducible refine (spec_l18Unit.calls k2 a0_0 _ _ l0_1 _ _ l1 t143 t146 _ ?side1 ?side2 ?side3 ?side4 A46.out).mono ?_); (case side1 => exact rc HR0_1 HB); (case side2 => exact HC0_1.out); (case side3 => exact rc HR1 HB); (case side4 => exact HC1.out); rintro e w48 ⟨v144, rfl, ho0, hb⟩; refine ⟨_, rfl, ?_⟩; have n0_ := Aside0.mk (Kd.R_lower ho0 (below_size (bs HB GE138))); have n1_ := Aside0.mk (blk_below (g := gb138) (o := .cells #[.int .i64 a0_0, .slice A0_1 l0_1.length c0_1] 37 (0, 0)) (bk BK138) hb); have n2_ := Aside0.mk (below_step (bs HB GE138) hb); clear BK138; clear HB; have HO145 := n0_; have BK138 := n1_; have HB := n2_; clear n0_ n1_ n2_; (try clear hb); (try clear hb2); (try clear hk); (try clear hi); (try clear ho0)))
       go_ret2
       exact ⟨_, by first | rfl | (simp [errW_none, errW_some] <;> rfl) | (simp [*, errW_none, errW_some] <;> rfl), by (with_reducible repeat (first | apply Kd.R_alloc | apply Kd.R_drewN | apply Kd.R_drew)); exact HO145.out, bs HB GE138⟩

end Go.Proofs.Ytpkclocdenagcaa.PFnUnits
