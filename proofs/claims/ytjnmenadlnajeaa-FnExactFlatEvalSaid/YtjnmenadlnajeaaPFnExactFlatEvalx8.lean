-- Written by a program of this session (a turned copy of the kit's printer); Lean checks it.
-- half the depth
import Derived.Test.YtjnmenadlnajeaaPFnExactFlatEvalx0
import Derived.Test.YtjnmenadlnajeaaPFnExactFlatEvalx4
import Derived.Test.YtjnmenadlnajeaaPFnExactFlatEvalx5
namespace Go.Proofs.Ytjnmenadlnajeaa.PFnExactFlatEval
open Go.RowKit Go.Proofs.YtjnmenadlnajeaaW.PrintWords Go.Proofs.YtjnmenadlnajeaaW.PrintLast Go.Proofs.YtjnmenadlnajeaaW.PrintMore
attribute [local go_sem] max2_int min2_int max_two min_two max_three min_three max_four min_four   -- for this text's walks alone
set_option linter.unusedVariables false
set_option linter.unusedSimpArgs false

/-! ### spec_ValuesOk: function 46 -/
mutual
def spec_ValuesOk.j0 : Nat → List (S64) → List (S41) → Bool → Option (Bool)
 | 0, _, _, _ => none
 | k + 1, x0, x1, x15 => if x15 = true then (some false) else (spec_ValuesOk.l0 k x0 x1 0)
def spec_ValuesOk.l0 : Nat → List (S64) → List (S41) → Int → Option (Bool)
 | 0, _, _, _ => none
 | k + 1, x0, x1, x5 => if x5 < (x1.length : Int) then (if 0 ≤ x5 then (if x5 < (x0.length : Int) then (if ((rd_T41 x1 x5).f0) = ((rd_T64 x0 x5).f1) then ((spec_BitsOk.f k ((rd_T41 x1 x5).f0) ((rd_T41 x1 x5).f1)).bind fun t226 => (if t226 = true then (spec_ValuesOk.l0 k x0 x1 (wrap64 (x5 + 1))) else (some false))) else (some false)) else (none)) else (none)) else (some true)
end
def spec_ValuesOk.f (k : Nat) (l0 : List (S64)) (l1 : List (S41)) : Option (Bool) := (spec_DeclsOk.f k l0).bind fun t222 => (if t222 = true then (spec_ValuesOk.j0 k l0 l1 ((l1.length : Int) != (l0.length : Int))) else (spec_ValuesOk.j0 k l0 l1 true))
def spec_ValuesOk.T6 : Bool × List (List Nat × List Nat) := (true, [([], []), ([], []), ([0, 1], [0, 1]), ([2], [2]), ([3], [3]), ([], []), ([], []), ([5, 6], [5, 6]), ([7], [7]), ([8], [8]), ([4, 9], [4, 9]), ([10], [10]), ([11], [11]), ([11], [11]), ([12, 13, 11], [11, 12, 13]), ([14, 11], [11, 14]), ([15, 11, 11], [11, 15]), ([16, 11], [11, 16]), ([11, 17], [11, 17])])
def spec_ValuesOk.B6 : List Nat := [0, 0, 3, 7, 15, 0, 0, 96, 224, 480, 1023, 2047, 4095, 4095, 16383, 32767, 65535, 131071, 262143]
theorem spec_ValuesOk.tab6 : rtab .any (opsOf Try.f46 6) = spec_ValuesOk.T6 := by kernel_rfl
theorem spec_ValuesOk.bits6 : waitsOk spec_ValuesOk.T6.2 spec_ValuesOk.B6 = true := by kernel_rfl
set_option maxHeartbeats 8000000 in
set_option maxRecDepth 100000 in
theorem spec_ValuesOk.calls (k : Nat) (A0 : Option Addr) (c0 : Nat) (l0 : List (S64)) (A1 : Option Addr) (c1 : Nat) (l1 : List (S41)) (r : Bool) (w : World) (hr0 : Kd.C k64 w A0 l0.length l0) (hc0 : l0.length ≤ c0) (hr1 : Kd.C k41 w A1 l1.length l1) (hc1 : l1.length ≤ c1) (h : spec_ValuesOk.f k l0 l1 = some r) :
  Calls Try.prog 46 #[.slice A0 l0.length c0, .slice A1 l1.length c1] w fun e w' => e = .returned (.bool r) ∧ Below w.heap.size w w' := by
 have hu41 := Try.underlying41; have HR0 := Aside0.mk hr0; have HC0 := Aside0.mk hc0; clear hr0 hc0; have HR1 := Aside0.mk hr1; have HC1 := Aside0.mk hc1; clear hr1 hc1; have HB := Aside0.mk (Below.refl w.heap.size w); have H : ((spec_DeclsOk.f k l0).bind fun t222 => (if t222 = true then (spec_ValuesOk.j0 k l0 l1 ((l1.length : Int) != (l0.length : Int))) else (spec_ValuesOk.j0 k l0 l1 true))) = some r := h; clear h; have HC3 := Aside0.mk H; clear H
 go_enter Try.func46, Try.ntmps46
 go_upto_region 1 with (fail)
 go_cut [15] (fun v15 wc => ∃ (kq : Nat) (x15_2 : Bool), v15 = .bool x15_2 ∧ Aside0 (spec_ValuesOk.j0 kq l0 l1 x15_2 = some r) ∧ Aside0 (kq ≤ k) ∧ Aside0 (Below w.heap.size w wc))
 case first =>
  have H := HC3.out; clear HC3; replace H := Option.bind_eq_some_iff.mp H; obtain ⟨t222, A40, H⟩ := H; replace H : (if t222 = true then (spec_ValuesOk.j0 k l0 l1 ((l1.length : Int) != (l0.length : Int))) else (spec_ValuesOk.j0 k l0 l1 true)) = some r := H; have A4 := Aside0.mk A40; clear A40
  by_cases c5 : t222 = true
  ·subst c5
   have H1 : (spec_ValuesOk.j0 k l0 l1 ((l1.length : Int) != (l0.length : Int))) = some r := by rw [if_pos rfl] at H; exact H
   clear H; have H := H1; clear H1; have H' := Aside0.mk H; clear H
   go_wp2_with (first | ((with_reducible refine gate_callee (f := 56) rfl ?_); refine goesL_ (some 7) rfl rfl Try.func56 (by kernel_rfl) rfl #[.slice A0 l0.length c0] rfl ma ?_; (with_reducible refine (spec_DeclsOk.calls k _ _ l0 true _ ?side1 ?side2 A4.out).mono ?_); (case side1 => exact rc HR0 HB); (case side2 => exact HC0.out); rintro e w' ⟨rfl, ⟨nd, rfl⟩⟩; refine ⟨_, rfl, ?_⟩))
   go_meet
   case rel => exact ⟨_, (((l1.length : Int) != (l0.length : Int))), au, H', ⟨by first | omega | exact Nat.le_refl _⟩, ⟨bl HB⟩⟩
  ·replace c5 := Bool.eq_false_iff.mpr c5
   subst c5
   have H1 : (spec_ValuesOk.j0 k l0 l1 true) = some r := by rw [if_neg (show ¬ (false = true) by decide)] at H; exact H
   clear H; have H := H1; clear H1; have H' := Aside0.mk H; clear H
   go_wp2_with (first | ((with_reducible refine gate_callee (f := 56) rfl ?_); refine goesL_ (some 7) rfl rfl Try.func56 (by kernel_rfl) rfl #[.slice A0 l0.length c0] rfl ma ?_; (with_reducible refine (spec_DeclsOk.calls k _ _ l0 false _ ?side1 ?side2 A4.out).mono ?_); (case side1 => exact rc HR0 HB); (case side2 => exact HC0.out); rintro e w' ⟨rfl, ⟨nd, rfl⟩⟩; refine ⟨_, rfl, ?_⟩))
   go_meet
   case rel => exact ⟨_, (true), au, H', ⟨by first | omega | exact Nat.le_refl _⟩, ⟨bl HB⟩⟩
 case rest =>
  clear HC3
  try clear c1
  try clear p2
  try clear c4
  try clear c5
  obtain ⟨kq, x15_2, rfl, HA, HJ2, HB⟩ := hcut
  cases kq with
  | zero => exact absurd HA.out (by simp [spec_ValuesOk.j0])
  | succ kj2 =>
   have H := HA.out; clear HA
   simp only [spec_ValuesOk.j0] at H
   by_cases c6 : x15_2 = true
   ·subst c6
    have H1 : (some false) = some r := by rw [if_pos rfl] at H; exact H
    clear H; have H := H1; clear H1; obtain rfl := Option.some.inj H
    go_wp2
    go_ret
    exact ⟨by first | rfl | (simp [errW_none, errW_some] <;> rfl) | (simp [*, errW_none, errW_some] <;> rfl), bl HB⟩
   ·replace c6 := Bool.eq_false_iff.mpr c6
    subst c6
    have H1 : (spec_ValuesOk.l0 kj2 l0 l1 0) = some r := by rw [if_neg (show ¬ (false = true) by decide)] at H; exact H
    clear H; have H := H1; clear H1; have H' := Aside0.mk H; clear H
    go_wp2
    go_loopg [5] kj2 (fun kq v5 w' => ∃ (x5_2 : Int), v5 = .int .i64 x5_2 ∧ Aside0 (spec_ValuesOk.l0 kq l0 l1 x5_2 = some r) ∧ Aside0 (kq ≤ kj2) ∧ Aside0 (Below w.heap.size w w'))
    case atStart => exact ⟨(0), au, H', ⟨Nat.le_refl _⟩, ⟨bl HB⟩⟩
    case round =>
     clear H'
     try clear c1
     try clear p2
     try clear c4
     try clear c5
     try clear c6
     try clear p2
     obtain ⟨x5_2, rfl, HA, HK2, HB⟩ := hrel
     cases gk with
     | zero => exact absurd HA.out (by simp [spec_ValuesOk.l0])
     | succ k2 =>
      have H := HA.out; clear HA
      simp only [spec_ValuesOk.l0] at H
      by_cases c7 : x5_2 < (l1.length : Int)
      ·rw [if_pos c7] at H
       have c7b0 : decide (x5_2 < (l1.length : Int)) = true := decide_eq_true c7; clear c7
       by_cases c8 : 0 ≤ x5_2
       ·rw [if_pos c8] at H
        have c8b0 : decide (0 ≤ x5_2) = true := decide_eq_true c8; clear c8
        by_cases c9 : x5_2 < (l0.length : Int)
        ·rw [if_pos c9] at H
         have c9b0 : decide (x5_2 < (l0.length : Int)) = true := decide_eq_true c9; clear c9
         by_cases c10 : ((rd_T41 l1 x5_2).f0) = ((rd_T64 l0 x5_2).f1)
         ·rw [if_pos c10] at H
          have c10b0 : (((rd_T41 l1 x5_2).f0) == ((rd_T64 l0 x5_2).f1)) = true := beq_iff_eq.mpr c10; have c10b1 : (((rd_T41 l1 x5_2).f0) != ((rd_T64 l0 x5_2).f1)) = false := bne_eq_false_iff_eq.mpr c10; clear c10; replace H := Option.bind_eq_some_iff.mp H; obtain ⟨t226, A110, H⟩ := H; replace H : (if t226 = true then (spec_ValuesOk.l0 k2 l0 l1 (wrap64 (x5_2 + 1))) else (some false)) = some r := H; have A11 := Aside0.mk A110; clear A110
          by_cases c12 : t226 = true
          ·subst c12
           have H1 : (spec_ValuesOk.l0 k2 l0 l1 (wrap64 (x5_2 + 1))) = some r := by rw [if_pos rfl] at H; exact H
           clear H; have H := H1; clear H1; have H' := Aside0.mk H; clear H
           try go_wp2
           have n0_ := Aside0.mk (below_drew1 HB.out); clear HB; have HB := n0_; clear n0_; have p223 : 0 ≤ (x5_2 : Int) := ode; have q223 : x5_2 < (l1.length : Int) := ode; obtain ⟨ad223, A223_1, c223_1, e223, hx223_0, hx223_1, hl223_1, hi223_1⟩ := at_T41 HR1.out x5_2 p223 q223; have hw223_1 := hx223_1; have hw223_0 := hx223_0
           cases e223
           replace hx223_0 := cl HB hx223_0; replace hx223_1 := cl HB hx223_1; have HR223_1 := Aside0.mk hi223_1; have HC223_1 := Aside0.mk hl223_1; clear hi223_1 hl223_1; replace p223 := eq_true p223; replace q223 := eq_true q223; have p224 : 0 ≤ (x5_2 : Int) := ode; have q224 : x5_2 < (l0.length : Int) := ode; obtain ⟨ad224, e224, hx224_0, hx224_1⟩ := at_T64 HR0.out x5_2 p224 q224; have hw224_1 := hx224_1; have hw224_0 := hx224_0
           cases e224
           replace hx224_0 := cl HB hx224_0; replace hx224_1 := cl HB hx224_1; replace p224 := eq_true p224; replace q224 := eq_true q224; have p225 : 0 ≤ (x5_2 : Int) := ode; have q225 : x5_2 < (l1.length : Int) := ode; obtain ⟨ad225, A225_1, c225_1, e225, hx225_0, hx225_1, hl225_1, hi225_1⟩ := at_T41 HR1.out x5_2 p225 q225; have hw225_1 := hx225_1; have hw225_0 := hx225_0; obtain rfl : ad223 = ad225 := (by injection e225); replace hx225_0 := cl HB hx225_0; replace hx225_1 := cl HB hx225_1; have HR225_1 := Aside0.mk hi225_1; have HC225_1 := Aside0.mk hl225_1; clear hi225_1 hl225_1; replace p225 := eq_true p225; replace q225 := eq_true q225; have ea_ := Option.some.inj (hx223_1.symm.trans hx225_1)
           injection ea_ with ea_ en_ ec_
           subst ea_
           subst ec_
           clear en_; refine start_ (n := 19) (S := fun w' => w'.cell? (ad223.add ((x5_2).toNat * 2)) = some (.int .i64 ((rd_T41 l1 x5_2).f0)) ∧ w'.cell? ⟨(ad223.add ((x5_2).toNat * 2)).block, (ad223.add ((x5_2).toNat * 2)).off + 1, none⟩ = some (.slice A223_1 ((rd_T41 l1 x5_2).f1).length c223_1) ∧ w'.cell? (ad224.add ((x5_2).toNat * 2)) = some (.string ((rd_T64 l0 x5_2).f0)) ∧ w'.cell? ⟨(ad224.add ((x5_2).toNat * 2)).block, (ad224.add ((x5_2).toNat * 2)).off + 1, none⟩ = some (.int .i64 ((rd_T64 l0 x5_2).f1)) ∧ w'.cell? (ad223.add ((x5_2).toNat * 2)) = some (.int .i64 ((rd_T41 l1 x5_2).f0)) ∧ w'.cell? ⟨(ad223.add ((x5_2).toNat * 2)).block, (ad223.add ((x5_2).toNat * 2)).off + 1, none⟩ = some (.slice A223_1 ((rd_T41 l1 x5_2).f1).length c223_1)) (ds := []) #[false, false, false, false, false, false, false, false, false, false, false, false, false, false, false, false, false, false, false] (by kernel_rfl) rfl rfl ⟨((HB.out.cell (World.block_lt_of_cell? w _ hw223_0)).trans hw223_0), ((HB.out.cell (World.block_lt_of_cell? w _ hw223_1)).trans hw223_1), ((HB.out.cell (World.block_lt_of_cell? w _ hw224_0)).trans hw224_0), ((HB.out.cell (World.block_lt_of_cell? w _ hw224_1)).trans hw224_1), ((HB.out.cell (World.block_lt_of_cell? w _ hw225_0)).trans hw225_0), ((HB.out.cell (World.block_lt_of_cell? w _ hw225_1)).trans hw225_1)⟩ (fun hHeld => ?_); refine with_tabW spec_ValuesOk.tab6 spec_ValuesOk.bits6 (fun HT_ HW_ => ?_); generalize wr.drew = w13 at HB HR223_1 HR225_1 hx223_0 hx223_1 hx224_0 hx224_1 hx225_0 hx225_1 hHeld ⊢; refine pu HT_ 0 22 18 ?_; refine pu HT_ 1 23 17 ?_; refine pu HT_ 2 24 16 ?_; refine pu HT_ 3 25 15 ?_; refine pure_ (i := 5) (N := some 27) (v := ?_) (a' := ?_) #[true, true, true, true, false, true, false, false, false, false, false, false, false, false, false, false, false, false, false] rfl rfl (any_of HT_.out (by kernel_rfl)) (fun _ _ _ h => h) (Or.inl ⟨by rfl, ?_⟩) ?_ ?_
           rotate_left
           ·intro w'
            go_simp
            with_reducible rfl
           rotate_left
           ·simp only [Act.put, List.setIfInBounds_toArray, List.set_cons_zero, List.set_cons_succ, i64_w, i32_w]
            rfl
           refine pure_ (i := 6) (N := some 28) (v := ?_) (a' := ?_) #[true, true, true, true, false, true, true, false, false, false, false, false, false, false, false, false, false, false, false] rfl rfl (any_of HT_.out (by kernel_rfl)) (fun _ _ _ h => h) (Or.inl ⟨by rfl, ?_⟩) ?_ ?_
           rotate_left
           ·intro w'
            go_simp
            with_reducible rfl
           rotate_left
           ·simp only [Act.put, List.setIfInBounds_toArray, List.set_cons_zero, List.set_cons_succ, i64_w, i32_w]
            rfl
           refine pure_ (i := 7) (N := some 29) (v := ?_) (a' := ?_) #[true, true, true, true, false, true, true, true, false, false, false, false, false, false, false, false, false, false, false] rfl rfl (any_of HT_.out (by kernel_rfl)) (fun _ _ _ h => h) (Or.inl ⟨by rfl, ?_⟩) ?_ ?_
           rotate_left
           ·intro w'
            go_simp
            with_reducible rfl
           rotate_left
           ·simp only [Act.put, List.setIfInBounds_toArray, List.set_cons_zero, List.set_cons_succ, i64_w, i32_w]
            rfl
           refine pure_ (i := 8) (N := some 30) (v := ?_) (a' := ?_) #[true, true, true, true, false, true, true, true, true, false, false, false, false, false, false, false, false, false, false] rfl rfl (any_of HT_.out (by kernel_rfl)) (fun _ _ _ h => h) (Or.inl ⟨by rfl, ?_⟩) ?_ ?_
           rotate_left
           ·intro w'
            go_simp
            with_reducible rfl
           rotate_left
           ·simp only [Act.put, List.setIfInBounds_toArray, List.set_cons_zero, List.set_cons_succ, i64_w, i32_w]
            rfl
           refine take_ (i := 4) (N := some 26) (v := ?_) (a' := ?_) #[true, true, true, true, true, true, true, true, true, false, false, false, false, false, false, false, false, false, false] rfl rfl (take_ofW HT_.out HW_.out (by kernel_rfl)) (fun _ _ _ h => h) (Or.inl ⟨by rfl, ?_⟩) hHeld ?_ ?_
           rotate_left
           ·rintro w' ⟨s0, s1, s2, s3, s4, s5⟩
            go_simp
            with_reducible rfl
           rotate_left
           ·simp only [Act.put, List.setIfInBounds_toArray, List.set_cons_zero, List.set_cons_succ, i64_w, i32_w]
            rfl
           refine ta HT_ HW_ hHeld 9 31 9 ?_; refine pu HT_ 10 32 8 ?_; refine pu HT_ 11 33 7 ?_; refine pu HT_ 12 34 6 ?_; refine pu HT_ 13 35 5 ?_; refine pu HT_ 14 36 4 ?_; refine ta HT_ HW_ hHeld 15 37 3 ?_; refine on HT_ 16 38 2 (fun K hK => ?_); refine goes_ Try.func64 (by kernel_rfl) rfl #[.agg #[.int .i64 ((rd_T41 l1 x5_2).f0), .slice A223_1 ((rd_T41 l1 x5_2).f1).length c223_1]] (by rfl) rfl rfl ma ?_; (with_reducible refine (spec_BitsOk.calls k2 ((rd_T41 l1 x5_2).f0) _ _ ((rd_T41 l1 x5_2).f1) true _ ?side1 ?side2 A11.out).mono ?_)
           (case side1 => exact rc HR225_1 HB); (case side2 => exact HC225_1.out)
           rintro e w14 ⟨rfl, hb⟩; refine ⟨_, rfl, ?_⟩; have n0_ := Aside0.mk (below_step (bl HB) hb); clear HB; have HB := n0_; clear n0_; (try clear hb)
           (try clear hb2); (try clear hk)
           (try clear hi); refine hK.out _ _ ⟨((HB.out.cell (World.block_lt_of_cell? w _ hw223_0)).trans hw223_0), ((HB.out.cell (World.block_lt_of_cell? w _ hw223_1)).trans hw223_1), ((HB.out.cell (World.block_lt_of_cell? w _ hw224_0)).trans hw224_0), ((HB.out.cell (World.block_lt_of_cell? w _ hw224_1)).trans hw224_1), ((HB.out.cell (World.block_lt_of_cell? w _ hw225_0)).trans hw225_0), ((HB.out.cell (World.block_lt_of_cell? w _ hw225_1)).trans hw225_1)⟩ (fun hHeld => ?_); clear hK K; refine nm 38 ?_; refine pu HT_ 17 39 1 ?_; refine pu HT_ 18 40 0 ?_; refine done_ (done_of HT_.out (by kernel_rfl)) ?_
           try go_wp2
           go_roundg k2
           case measure => have := HJ2.out; have := HK2.out; omega
           case rel => exact ⟨(wrap64 (x5_2 + 1)), au, H', ⟨by have := HJ2.out; have := HK2.out; omega⟩, ⟨bl HB⟩⟩
          ·replace c12 := Bool.eq_false_iff.mpr c12
           subst c12
           have H1 : (some false) = some r := by rw [if_neg (show ¬ (false = true) by decide)] at H; exact H
           clear H; have H := H1; clear H1; obtain rfl := Option.some.inj H
           try go_wp2
           have n0_ := Aside0.mk (below_drew1 HB.out); clear HB; have HB := n0_; clear n0_; have p223 : 0 ≤ (x5_2 : Int) := ode; have q223 : x5_2 < (l1.length : Int) := ode; obtain ⟨ad223, A223_1, c223_1, e223, hx223_0, hx223_1, hl223_1, hi223_1⟩ := at_T41 HR1.out x5_2 p223 q223; have hw223_1 := hx223_1; have hw223_0 := hx223_0
           cases e223
           replace hx223_0 := cl HB hx223_0; replace hx223_1 := cl HB hx223_1; have HR223_1 := Aside0.mk hi223_1; have HC223_1 := Aside0.mk hl223_1; clear hi223_1 hl223_1; replace p223 := eq_true p223; replace q223 := eq_true q223; have p224 : 0 ≤ (x5_2 : Int) := ode; have q224 : x5_2 < (l0.length : Int) := ode; obtain ⟨ad224, e224, hx224_0, hx224_1⟩ := at_T64 HR0.out x5_2 p224 q224; have hw224_1 := hx224_1; have hw224_0 := hx224_0
           cases e224
           replace hx224_0 := cl HB hx224_0; replace hx224_1 := cl HB hx224_1; replace p224 := eq_true p224; replace q224 := eq_true q224; have p225 : 0 ≤ (x5_2 : Int) := ode; have q225 : x5_2 < (l1.length : Int) := ode; obtain ⟨ad225, A225_1, c225_1, e225, hx225_0, hx225_1, hl225_1, hi225_1⟩ := at_T41 HR1.out x5_2 p225 q225; have hw225_1 := hx225_1; have hw225_0 := hx225_0; obtain rfl : ad223 = ad225 := (by injection e225); replace hx225_0 := cl HB hx225_0; replace hx225_1 := cl HB hx225_1; have HR225_1 := Aside0.mk hi225_1; have HC225_1 := Aside0.mk hl225_1; clear hi225_1 hl225_1; replace p225 := eq_true p225; replace q225 := eq_true q225; have ea_ := Option.some.inj (hx223_1.symm.trans hx225_1)
           injection ea_ with ea_ en_ ec_
           subst ea_
           subst ec_
           clear en_; refine start_ (n := 19) (S := fun w' => w'.cell? (ad223.add ((x5_2).toNat * 2)) = some (.int .i64 ((rd_T41 l1 x5_2).f0)) ∧ w'.cell? ⟨(ad223.add ((x5_2).toNat * 2)).block, (ad223.add ((x5_2).toNat * 2)).off + 1, none⟩ = some (.slice A223_1 ((rd_T41 l1 x5_2).f1).length c223_1) ∧ w'.cell? (ad224.add ((x5_2).toNat * 2)) = some (.string ((rd_T64 l0 x5_2).f0)) ∧ w'.cell? ⟨(ad224.add ((x5_2).toNat * 2)).block, (ad224.add ((x5_2).toNat * 2)).off + 1, none⟩ = some (.int .i64 ((rd_T64 l0 x5_2).f1)) ∧ w'.cell? (ad223.add ((x5_2).toNat * 2)) = some (.int .i64 ((rd_T41 l1 x5_2).f0)) ∧ w'.cell? ⟨(ad223.add ((x5_2).toNat * 2)).block, (ad223.add ((x5_2).toNat * 2)).off + 1, none⟩ = some (.slice A223_1 ((rd_T41 l1 x5_2).f1).length c223_1)) (ds := []) #[false, false, false, false, false, false, false, false, false, false, false, false, false, false, false, false, false, false, false] (by kernel_rfl) rfl rfl ⟨((HB.out.cell (World.block_lt_of_cell? w _ hw223_0)).trans hw223_0), ((HB.out.cell (World.block_lt_of_cell? w _ hw223_1)).trans hw223_1), ((HB.out.cell (World.block_lt_of_cell? w _ hw224_0)).trans hw224_0), ((HB.out.cell (World.block_lt_of_cell? w _ hw224_1)).trans hw224_1), ((HB.out.cell (World.block_lt_of_cell? w _ hw225_0)).trans hw225_0), ((HB.out.cell (World.block_lt_of_cell? w _ hw225_1)).trans hw225_1)⟩ (fun hHeld => ?_); refine with_tabW spec_ValuesOk.tab6 spec_ValuesOk.bits6 (fun HT_ HW_ => ?_); generalize wr.drew = w15 at HB HR223_1 HR225_1 hx223_0 hx223_1 hx224_0 hx224_1 hx225_0 hx225_1 hHeld ⊢; refine pu HT_ 0 22 18 ?_; refine pu HT_ 1 23 17 ?_; refine pu HT_ 2 24 16 ?_; refine pu HT_ 3 25 15 ?_; refine pure_ (i := 5) (N := some 27) (v := ?_) (a' := ?_) #[true, true, true, true, false, true, false, false, false, false, false, false, false, false, false, false, false, false, false] rfl rfl (any_of HT_.out (by kernel_rfl)) (fun _ _ _ h => h) (Or.inl ⟨by rfl, ?_⟩) ?_ ?_
           rotate_left
           ·intro w'
            go_simp
            with_reducible rfl
           rotate_left
           ·simp only [Act.put, List.setIfInBounds_toArray, List.set_cons_zero, List.set_cons_succ, i64_w, i32_w]
            rfl
           refine pure_ (i := 6) (N := some 28) (v := ?_) (a' := ?_) #[true, true, true, true, false, true, true, false, false, false, false, false, false, false, false, false, false, false, false] rfl rfl (any_of HT_.out (by kernel_rfl)) (fun _ _ _ h => h) (Or.inl ⟨by rfl, ?_⟩) ?_ ?_
           rotate_left
           ·intro w'
            go_simp
            with_reducible rfl
           rotate_left
           ·simp only [Act.put, List.setIfInBounds_toArray, List.set_cons_zero, List.set_cons_succ, i64_w, i32_w]
            rfl
           refine pure_ (i := 7) (N := some 29) (v := ?_) (a' := ?_) #[true, true, true, true, false, true, true, true, false, false, false, false, false, false, false, false, false, false, false] rfl rfl (any_of HT_.out (by kernel_rfl)) (fun _ _ _ h => h) (Or.inl ⟨by rfl, ?_⟩) ?_ ?_
           rotate_left
           ·intro w'
            go_simp
            with_reducible rfl
           rotate_left
           ·simp only [Act.put, List.setIfInBounds_toArray, List.set_cons_zero, List.set_cons_succ, i64_w, i32_w]
            rfl
           refine pure_ (i := 8) (N := some 30) (v := ?_) (a' := ?_) #[true, true, true, true, false, true, true, true, true, false, false, false, false, false, false, false, false, false, false] rfl rfl (any_of HT_.out (by kernel_rfl)) (fun _ _ _ h => h) (Or.inl ⟨by rfl, ?_⟩) ?_ ?_
           rotate_left
           ·intro w'
            go_simp
            with_reducible rfl
           rotate_left
           ·simp only [Act.put, List.setIfInBounds_toArray, List.set_cons_zero, List.set_cons_succ, i64_w, i32_w]
            rfl
           refine take_ (i := 4) (N := some 26) (v := ?_) (a' := ?_) #[true, true, true, true, true, true, true, true, true, false, false, false, false, false, false, false, false, false, false] rfl rfl (take_ofW HT_.out HW_.out (by kernel_rfl)) (fun _ _ _ h => h) (Or.inl ⟨by rfl, ?_⟩) hHeld ?_ ?_
           rotate_left
           ·rintro w' ⟨s0, s1, s2, s3, s4, s5⟩
            go_simp
            with_reducible rfl
           rotate_left
           ·simp only [Act.put, List.setIfInBounds_toArray, List.set_cons_zero, List.set_cons_succ, i64_w, i32_w]
            rfl
           refine ta HT_ HW_ hHeld 9 31 9 ?_; refine pu HT_ 10 32 8 ?_; refine pu HT_ 11 33 7 ?_; refine pu HT_ 12 34 6 ?_; refine pu HT_ 13 35 5 ?_; refine pu HT_ 14 36 4 ?_; refine ta HT_ HW_ hHeld 15 37 3 ?_; refine on HT_ 16 38 2 (fun K hK => ?_); refine goes_ Try.func64 (by kernel_rfl) rfl #[.agg #[.int .i64 ((rd_T41 l1 x5_2).f0), .slice A223_1 ((rd_T41 l1 x5_2).f1).length c223_1]] (by rfl) rfl rfl ma ?_; (with_reducible refine (spec_BitsOk.calls k2 ((rd_T41 l1 x5_2).f0) _ _ ((rd_T41 l1 x5_2).f1) false _ ?side1 ?side2 A11.out).mono ?_)
           (case side1 => exact rc HR225_1 HB); (case side2 => exact HC225_1.out)
           rintro e w16 ⟨rfl, hb⟩; refine ⟨_, rfl, ?_⟩; have n0_ := Aside0.mk (below_step (bl HB) hb); clear HB; have HB := n0_; clear n0_; (try clear hb)
           (try clear hb2); (try clear hk)
           (try clear hi); refine hK.out _ _ ⟨((HB.out.cell (World.block_lt_of_cell? w _ hw223_0)).trans hw223_0), ((HB.out.cell (World.block_lt_of_cell? w _ hw223_1)).trans hw223_1), ((HB.out.cell (World.block_lt_of_cell? w _ hw224_0)).trans hw224_0), ((HB.out.cell (World.block_lt_of_cell? w _ hw224_1)).trans hw224_1), ((HB.out.cell (World.block_lt_of_cell? w _ hw225_0)).trans hw225_0), ((HB.out.cell (World.block_lt_of_cell? w _ hw225_1)).trans hw225_1)⟩ (fun hHeld => ?_); clear hK K; refine nm 38 ?_; refine pu HT_ 17 39 1 ?_; refine pu HT_ 18 40 0 ?_; refine done_ (done_of HT_.out (by kernel_rfl)) ?_
           try go_wp2
           go_ret
           exact ⟨by first | rfl | (simp [errW_none, errW_some] <;> rfl) | (simp [*, errW_none, errW_some] <;> rfl), bl HB⟩
         ·rw [if_neg c10] at H
          have c10b0 : (((rd_T41 l1 x5_2).f0) == ((rd_T64 l0 x5_2).f1)) = false := beq_eq_false_iff_ne.mpr c10; have c10b1 : (((rd_T41 l1 x5_2).f0) != ((rd_T64 l0 x5_2).f1)) = true := bne_iff_ne.mpr c10; obtain rfl := Option.some.inj H
          try go_wp2
          have p223 : 0 ≤ (x5_2 : Int) := ode; have q223 : x5_2 < (l1.length : Int) := ode; obtain ⟨ad223, A223_1, c223_1, e223, hx223_0, hx223_1, hl223_1, hi223_1⟩ := at_T41 HR1.out x5_2 p223 q223; have hw223_1 := hx223_1; have hw223_0 := hx223_0
          cases e223
          replace hx223_0 := cl HB hx223_0; replace hx223_1 := cl HB hx223_1; have HR223_1 := Aside0.mk hi223_1; have HC223_1 := Aside0.mk hl223_1; clear hi223_1 hl223_1; replace p223 := eq_true p223; replace q223 := eq_true q223; have p224 : 0 ≤ (x5_2 : Int) := ode; have q224 : x5_2 < (l0.length : Int) := ode; obtain ⟨ad224, e224, hx224_0, hx224_1⟩ := at_T64 HR0.out x5_2 p224 q224; have hw224_1 := hx224_1; have hw224_0 := hx224_0
          cases e224
          replace hx224_0 := cl HB hx224_0; replace hx224_1 := cl HB hx224_1; replace p224 := eq_true p224; replace q224 := eq_true q224; obtain ⟨s0_, s1_, s2_, s3_⟩ : wr.cell? (ad223.add ((x5_2).toNat * 2)) = some (.int .i64 ((rd_T41 l1 x5_2).f0)) ∧ wr.cell? ⟨(ad223.add ((x5_2).toNat * 2)).block, (ad223.add ((x5_2).toNat * 2)).off + 1, none⟩ = some (.slice A223_1 ((rd_T41 l1 x5_2).f1).length c223_1) ∧ wr.cell? (ad224.add ((x5_2).toNat * 2)) = some (.string ((rd_T64 l0 x5_2).f0)) ∧ wr.cell? ⟨(ad224.add ((x5_2).toNat * 2)).block, (ad224.add ((x5_2).toNat * 2)).off + 1, none⟩ = some (.int .i64 ((rd_T64 l0 x5_2).f1)) := ⟨((HB.out.cell (World.block_lt_of_cell? w _ hw223_0)).trans hw223_0), ((HB.out.cell (World.block_lt_of_cell? w _ hw223_1)).trans hw223_1), ((HB.out.cell (World.block_lt_of_cell? w _ hw224_0)).trans hw224_0), ((HB.out.cell (World.block_lt_of_cell? w _ hw224_1)).trans hw224_1)⟩
          (try clear hx223_0); (try clear hx223_1); (try clear hx224_0); (try clear hx224_1)
          go_quiet ((fail))
          clear s0_ s1_ s2_ s3_; have n0_ := Aside0.mk (pw_below_drewN HB.out nq); clear HB; have HB := n0_; clear n0_; generalize wr.drewN nq = w17 at HB ⊢
          try go_wp2
          go_ret
          exact ⟨by first | rfl | (simp [errW_none, errW_some] <;> rfl) | (simp [*, errW_none, errW_some] <;> rfl), bl HB⟩
        ·rw [if_neg c9] at H
         exact absurd H (by simp)
       ·rw [if_neg c8] at H
        exact absurd H (by simp)
      ·rw [if_neg c7] at H
       have c7b0 : decide (x5_2 < (l1.length : Int)) = false := decide_eq_false c7; clear c7; obtain rfl := Option.some.inj H
       go_wp2
       go_ret
       exact ⟨by first | rfl | (simp [errW_none, errW_some] <;> rfl) | (simp [*, errW_none, errW_some] <;> rfl), bl HB⟩

end Go.Proofs.Ytjnmenadlnajeaa.PFnExactFlatEval
