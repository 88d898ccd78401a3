-- Written by a program of this session (a turned copy of the kit's printer); Lean checks it.
-- half the depth
import Derived.Test.YtjnmenadlnajeaaPFnExactFlatPartx0
import Derived.Test.YtjnmenadlnajeaaPFnExactFlatPartx3
namespace Go.Proofs.Ytjnmenadlnajeaa.PFnExactFlatPart
open Go.RowKit Go.Proofs.YtjnmenadlnajeaaW.PrintWords Go.Proofs.YtjnmenadlnajeaaW.PrintLast Go.Proofs.YtjnmenadlnajeaaW.PrintMore
attribute [local go_sem] max2_int min2_int max_two min_two max_three min_three max_four min_four   -- for this text's walks alone
set_option linter.unusedVariables false
set_option linter.unusedSimpArgs false

/-! ### laws_heldSegS: function 16 -/
def laws_heldSegS.l0 : Nat → List (S67) → Int → Int → Option (Int)
 | 0, _, _, _ => none
 | k + 1, x0, x1, x5 => if x5 < (x0.length : Int) then (if 0 ≤ x5 then (if ((rd_T67 x0 x5).f0) = x1 then (if ((rd_T67 x0 x5).f1) = (wrap64 (x1 + 1)) then (if ((rd_T67 x0 x5).f2) = (wrap64 ((wrap64 (x1 + 1)) + 1)) then (if ((rd_T67 x0 x5).f3.f0) = (wrap64 ((wrap64 ((wrap64 (x1 + 1)) + 1)) + 1)) then ((laws_heldUint64S.f k ((rd_T67 x0 x5).f3.f1) (wrap64 ((wrap64 ((wrap64 ((wrap64 (x1 + 1)) + 1)) + 1)) + 1))).bind fun t179 => (if t179 < 0 then (some (-1)) else (laws_heldSegS.l0 k x0 t179 (wrap64 (x5 + 1))))) else (some (-1))) else (some (-1))) else (some (-1))) else (some (-1))) else (none)) else (some x1)
def laws_heldSegS.f (k : Nat) (l0 : List (S67)) (a1 : Int) : Option (Int) := laws_heldSegS.l0 k l0 a1 0
set_option maxHeartbeats 8000000 in
set_option maxRecDepth 100000 in
theorem laws_heldSegS.calls (k : Nat) (A0 : Option Addr) (c0 : Nat) (l0 : List (S67)) (a1 : Int) (r : Int) (w : World) (hr0 : Kd.C k67 w A0 l0.length l0) (hc0 : l0.length ≤ c0) (h : laws_heldSegS.f k l0 a1 = some r) :
  Calls Try.prog 16 #[.slice A0 l0.length c0, .int .i64 a1] w fun e w' => e = .returned (.int .i64 r) ∧ Drawn0 w w' := by
 have HR0 := Aside0.mk hr0; have HC0 := Aside0.mk hc0; clear hr0 hc0; have H : (laws_heldSegS.l0 k l0 a1 0) = some r := h; clear h; have H' := Aside0.mk H; clear H
 go_enter Try.func16, Try.ntmps16
 go_wp2
 go_loopg [1, 5] k (fun kq v1 v5 w' => ∃ (x1_1 : Int) (x5_1 : Int), v1 = .int .i64 x1_1 ∧ v5 = .int .i64 x5_1 ∧ Aside0 (laws_heldSegS.l0 kq l0 x1_1 x5_1 = some r) ∧ Aside0 (kq ≤ k) ∧ Drawn0 w w')
 case atStart => exact ⟨(a1), (0), au, au, H', ⟨Nat.le_refl _⟩, dr⟩
 case round =>
  clear H'
  try clear c1
  try clear p2
  obtain ⟨x1_1, x5_1, rfl, rfl, HA, HK1, ⟨m1, rfl⟩⟩ := hrel
  cases gk with
  | zero => exact absurd HA.out (by simp [laws_heldSegS.l0])
  | succ k1 =>
   have H := HA.out; clear HA
   simp only [laws_heldSegS.l0] at H
   by_cases c3 : x5_1 < (l0.length : Int)
   ·rw [if_pos c3] at H
    have c3b0 : decide (x5_1 < (l0.length : Int)) = true := decide_eq_true c3; clear c3
    by_cases c4 : 0 ≤ x5_1
    ·rw [if_pos c4] at H
     have c4b0 : decide (0 ≤ x5_1) = true := decide_eq_true c4; clear c4
     by_cases c5 : ((rd_T67 l0 x5_1).f0) = x1_1
     ·rw [if_pos c5] at H
      have c5b0 : (((rd_T67 l0 x5_1).f0) == x1_1) = true := beq_iff_eq.mpr c5; have c5b1 : (((rd_T67 l0 x5_1).f0) != x1_1) = false := bne_eq_false_iff_eq.mpr c5; clear c5
      by_cases c6 : ((rd_T67 l0 x5_1).f1) = (wrap64 (x1_1 + 1))
      ·rw [if_pos c6] at H
       have c6b0 : (((rd_T67 l0 x5_1).f1) == (wrap64 (x1_1 + 1))) = true := beq_iff_eq.mpr c6; have c6b1 : (((rd_T67 l0 x5_1).f1) != (wrap64 (x1_1 + 1))) = false := bne_eq_false_iff_eq.mpr c6; clear c6
       by_cases c7 : ((rd_T67 l0 x5_1).f2) = (wrap64 ((wrap64 (x1_1 + 1)) + 1))
       ·rw [if_pos c7] at H
        have c7b0 : (((rd_T67 l0 x5_1).f2) == (wrap64 ((wrap64 (x1_1 + 1)) + 1))) = true := beq_iff_eq.mpr c7; have c7b1 : (((rd_T67 l0 x5_1).f2) != (wrap64 ((wrap64 (x1_1 + 1)) + 1))) = false := bne_eq_false_iff_eq.mpr c7; clear c7
        by_cases c8 : ((rd_T67 l0 x5_1).f3.f0) = (wrap64 ((wrap64 ((wrap64 (x1_1 + 1)) + 1)) + 1))
        ·rw [if_pos c8] at H
         have c8b0 : (((rd_T67 l0 x5_1).f3.f0) == (wrap64 ((wrap64 ((wrap64 (x1_1 + 1)) + 1)) + 1))) = true := beq_iff_eq.mpr c8; have c8b1 : (((rd_T67 l0 x5_1).f3.f0) != (wrap64 ((wrap64 ((wrap64 (x1_1 + 1)) + 1)) + 1))) = false := bne_eq_false_iff_eq.mpr c8; clear c8; replace H := Option.bind_eq_some_iff.mp H; obtain ⟨t179, A90, H⟩ := H; replace H : (if t179 < 0 then (some (-1)) else (laws_heldSegS.l0 k1 l0 t179 (wrap64 (x5_1 + 1)))) = some r := H; have A9 := Aside0.mk A90; clear A90
         by_cases c10 : t179 < 0
         ·rw [if_pos c10] at H
          have c10b0 : decide (t179 < 0) = true := decide_eq_true c10; clear c10; obtain rfl := Option.some.inj H; have p174 : 0 ≤ (x5_1 : Int) := ode; have q174 : x5_1 < (l0.length : Int) := ode; obtain ⟨ad174, A174_4, c174_4, e174, hx174_0, hx174_1, hx174_2, hx174_3, hx174_4, hl174_4, hi174_4⟩ := at_T67 HR0.out x5_1 p174 q174
          cases e174
          have HR174_4 := Aside0.mk hi174_4; have HC174_4 := Aside0.mk hl174_4; clear hi174_4 hl174_4; replace p174 := eq_true p174; replace q174 := eq_true q174; have p175 : 0 ≤ (x5_1 : Int) := ode; have q175 : x5_1 < (l0.length : Int) := ode; obtain ⟨ad175, A175_4, c175_4, e175, hx175_0, hx175_1, hx175_2, hx175_3, hx175_4, hl175_4, hi175_4⟩ := at_T67 HR0.out x5_1 p175 q175; obtain rfl : ad174 = ad175 := (by injection e175); have HR175_4 := Aside0.mk hi175_4; have HC175_4 := Aside0.mk hl175_4; clear hi175_4 hl175_4; replace p175 := eq_true p175; replace q175 := eq_true q175; have ea_ := Option.some.inj (hx174_4.symm.trans hx175_4)
          injection ea_ with ea_ en_ ec_
          subst ea_
          subst ec_
          clear en_; have p176 : 0 ≤ (x5_1 : Int) := ode; have q176 : x5_1 < (l0.length : Int) := ode; obtain ⟨ad176, A176_4, c176_4, e176, hx176_0, hx176_1, hx176_2, hx176_3, hx176_4, hl176_4, hi176_4⟩ := at_T67 HR0.out x5_1 p176 q176; obtain rfl : ad174 = ad176 := (by injection e176); have HR176_4 := Aside0.mk hi176_4; have HC176_4 := Aside0.mk hl176_4; clear hi176_4 hl176_4; replace p176 := eq_true p176; replace q176 := eq_true q176; have ea_ := Option.some.inj (hx174_4.symm.trans hx176_4)
          injection ea_ with ea_ en_ ec_
          subst ea_
          subst ec_
          clear en_; have p177 : 0 ≤ (x5_1 : Int) := ode; have q177 : x5_1 < (l0.length : Int) := ode; obtain ⟨ad177, A177_4, c177_4, e177, hx177_0, hx177_1, hx177_2, hx177_3, hx177_4, hl177_4, hi177_4⟩ := at_T67 HR0.out x5_1 p177 q177; obtain rfl : ad174 = ad177 := (by injection e177); have HR177_4 := Aside0.mk hi177_4; have HC177_4 := Aside0.mk hl177_4; clear hi177_4 hl177_4; replace p177 := eq_true p177; replace q177 := eq_true q177; have ea_ := Option.some.inj (hx174_4.symm.trans hx177_4)
          injection ea_ with ea_ en_ ec_
          subst ea_
          subst ec_
          clear en_; have p178 : 0 ≤ (x5_1 : Int) := ode; have q178 : x5_1 < (l0.length : Int) := ode; obtain ⟨ad178, A178_4, c178_4, e178, hx178_0, hx178_1, hx178_2, hx178_3, hx178_4, hl178_4, hi178_4⟩ := at_T67 HR0.out x5_1 p178 q178; obtain rfl : ad174 = ad178 := (by injection e178); have HR178_4 := Aside0.mk hi178_4; have HC178_4 := Aside0.mk hl178_4; clear hi178_4 hl178_4; replace p178 := eq_true p178; replace q178 := eq_true q178; have ea_ := Option.some.inj (hx174_4.symm.trans hx178_4)
          injection ea_ with ea_ en_ ec_
          subst ea_
          subst ec_
          clear en_
          go_wp2_with (first | ((with_reducible refine gate_callee (f := 44) rfl ?_); refine goesL_ (some 56) rfl rfl Try.func44 (by kernel_rfl) rfl #[.slice A174_4 ((rd_T67 l0 x5_1).f3.f1).length c174_4, .int .i64 (wrap64 ((wrap64 ((wrap64 ((wrap64 (x1_1 + 1)) + 1)) + 1)) + 1))] rfl ma ?_; (with_reducible refine (laws_heldUint64S.calls k1 _ _ ((rd_T67 l0 x5_1).f3.f1) (wrap64 ((wrap64 ((wrap64 ((wrap64 (x1_1 + 1)) + 1)) + 1)) + 1)) t179 _ ?side1 ?side2 A9.out).mono ?_); (case side1 => repeat (first | exact HR178_4.out | (with_reducible refine Kd.C_alloc ?_ _) | (with_reducible refine Kd.C_drewN ?_ _) | (with_reducible refine Kd.C_drew ?_))); (case side2 => exact HC178_4.out); rintro e w' ⟨rfl, ⟨nd, rfl⟩⟩; refine ⟨_, rfl, ?_⟩))
          go_ret
          exact ⟨au, dr⟩
         ·rw [if_neg c10] at H
          have c10b0 : decide (t179 < 0) = false := decide_eq_false c10; clear c10; have H' := Aside0.mk H; clear H; have p174 : 0 ≤ (x5_1 : Int) := ode; have q174 : x5_1 < (l0.length : Int) := ode; obtain ⟨ad174, A174_4, c174_4, e174, hx174_0, hx174_1, hx174_2, hx174_3, hx174_4, hl174_4, hi174_4⟩ := at_T67 HR0.out x5_1 p174 q174
          cases e174
          have HR174_4 := Aside0.mk hi174_4; have HC174_4 := Aside0.mk hl174_4; clear hi174_4 hl174_4; replace p174 := eq_true p174; replace q174 := eq_true q174; have p175 : 0 ≤ (x5_1 : Int) := ode; have q175 : x5_1 < (l0.length : Int) := ode; obtain ⟨ad175, A175_4, c175_4, e175, hx175_0, hx175_1, hx175_2, hx175_3, hx175_4, hl175_4, hi175_4⟩ := at_T67 HR0.out x5_1 p175 q175; obtain rfl : ad174 = ad175 := (by injection e175); have HR175_4 := Aside0.mk hi175_4; have HC175_4 := Aside0.mk hl175_4; clear hi175_4 hl175_4; replace p175 := eq_true p175; replace q175 := eq_true q175; have ea_ := Option.some.inj (hx174_4.symm.trans hx175_4)
          injection ea_ with ea_ en_ ec_
          subst ea_
          subst ec_
          clear en_; have p176 : 0 ≤ (x5_1 : Int) := ode; have q176 : x5_1 < (l0.length : Int) := ode; obtain ⟨ad176, A176_4, c176_4, e176, hx176_0, hx176_1, hx176_2, hx176_3, hx176_4, hl176_4, hi176_4⟩ := at_T67 HR0.out x5_1 p176 q176; obtain rfl : ad174 = ad176 := (by injection e176); have HR176_4 := Aside0.mk hi176_4; have HC176_4 := Aside0.mk hl176_4; clear hi176_4 hl176_4; replace p176 := eq_true p176; replace q176 := eq_true q176; have ea_ := Option.some.inj (hx174_4.symm.trans hx176_4)
          injection ea_ with ea_ en_ ec_
          subst ea_
          subst ec_
          clear en_; have p177 : 0 ≤ (x5_1 : Int) := ode; have q177 : x5_1 < (l0.length : Int) := ode; obtain ⟨ad177, A177_4, c177_4, e177, hx177_0, hx177_1, hx177_2, hx177_3, hx177_4, hl177_4, hi177_4⟩ := at_T67 HR0.out x5_1 p177 q177; obtain rfl : ad174 = ad177 := (by injection e177); have HR177_4 := Aside0.mk hi177_4; have HC177_4 := Aside0.mk hl177_4; clear hi177_4 hl177_4; replace p177 := eq_true p177; replace q177 := eq_true q177; have ea_ := Option.some.inj (hx174_4.symm.trans hx177_4)
          injection ea_ with ea_ en_ ec_
          subst ea_
          subst ec_
          clear en_; have p178 : 0 ≤ (x5_1 : Int) := ode; have q178 : x5_1 < (l0.length : Int) := ode; obtain ⟨ad178, A178_4, c178_4, e178, hx178_0, hx178_1, hx178_2, hx178_3, hx178_4, hl178_4, hi178_4⟩ := at_T67 HR0.out x5_1 p178 q178; obtain rfl : ad174 = ad178 := (by injection e178); have HR178_4 := Aside0.mk hi178_4; have HC178_4 := Aside0.mk hl178_4; clear hi178_4 hl178_4; replace p178 := eq_true p178; replace q178 := eq_true q178; have ea_ := Option.some.inj (hx174_4.symm.trans hx178_4)
          injection ea_ with ea_ en_ ec_
          subst ea_
          subst ec_
          clear en_
          go_wp2_with (first | ((with_reducible refine gate_callee (f := 44) rfl ?_); refine goesL_ (some 56) rfl rfl Try.func44 (by kernel_rfl) rfl #[.slice A174_4 ((rd_T67 l0 x5_1).f3.f1).length c174_4, .int .i64 (wrap64 ((wrap64 ((wrap64 ((wrap64 (x1_1 + 1)) + 1)) + 1)) + 1))] rfl ma ?_; (with_reducible refine (laws_heldUint64S.calls k1 _ _ ((rd_T67 l0 x5_1).f3.f1) (wrap64 ((wrap64 ((wrap64 ((wrap64 (x1_1 + 1)) + 1)) + 1)) + 1)) t179 _ ?side1 ?side2 A9.out).mono ?_); (case side1 => repeat (first | exact HR178_4.out | (with_reducible refine Kd.C_alloc ?_ _) | (with_reducible refine Kd.C_drewN ?_ _) | (with_reducible refine Kd.C_drew ?_))); (case side2 => exact HC178_4.out); rintro e w' ⟨rfl, ⟨nd, rfl⟩⟩; refine ⟨_, rfl, ?_⟩))
          go_roundg k1
          case measure => have := HK1.out; omega
          case rel => exact ⟨(t179), (wrap64 (x5_1 + 1)), au, au, H', ⟨by have := HK1.out; omega⟩, dr⟩
        ·rw [if_neg c8] at H
         have c8b0 : (((rd_T67 l0 x5_1).f3.f0) == (wrap64 ((wrap64 ((wrap64 (x1_1 + 1)) + 1)) + 1))) = false := beq_eq_false_iff_ne.mpr c8; have c8b1 : (((rd_T67 l0 x5_1).f3.f0) != (wrap64 ((wrap64 ((wrap64 (x1_1 + 1)) + 1)) + 1))) = true := bne_iff_ne.mpr c8; obtain rfl := Option.some.inj H; have p174 : 0 ≤ (x5_1 : Int) := ode; have q174 : x5_1 < (l0.length : Int) := ode; obtain ⟨ad174, A174_4, c174_4, e174, hx174_0, hx174_1, hx174_2, hx174_3, hx174_4, hl174_4, hi174_4⟩ := at_T67 HR0.out x5_1 p174 q174
         cases e174
         have HR174_4 := Aside0.mk hi174_4; have HC174_4 := Aside0.mk hl174_4; clear hi174_4 hl174_4; replace p174 := eq_true p174; replace q174 := eq_true q174; have p175 : 0 ≤ (x5_1 : Int) := ode; have q175 : x5_1 < (l0.length : Int) := ode; obtain ⟨ad175, A175_4, c175_4, e175, hx175_0, hx175_1, hx175_2, hx175_3, hx175_4, hl175_4, hi175_4⟩ := at_T67 HR0.out x5_1 p175 q175; obtain rfl : ad174 = ad175 := (by injection e175); have HR175_4 := Aside0.mk hi175_4; have HC175_4 := Aside0.mk hl175_4; clear hi175_4 hl175_4; replace p175 := eq_true p175; replace q175 := eq_true q175; have ea_ := Option.some.inj (hx174_4.symm.trans hx175_4)
         injection ea_ with ea_ en_ ec_
         subst ea_
         subst ec_
         clear en_; have p176 : 0 ≤ (x5_1 : Int) := ode; have q176 : x5_1 < (l0.length : Int) := ode; obtain ⟨ad176, A176_4, c176_4, e176, hx176_0, hx176_1, hx176_2, hx176_3, hx176_4, hl176_4, hi176_4⟩ := at_T67 HR0.out x5_1 p176 q176; obtain rfl : ad174 = ad176 := (by injection e176); have HR176_4 := Aside0.mk hi176_4; have HC176_4 := Aside0.mk hl176_4; clear hi176_4 hl176_4; replace p176 := eq_true p176; replace q176 := eq_true q176; have ea_ := Option.some.inj (hx174_4.symm.trans hx176_4)
         injection ea_ with ea_ en_ ec_
         subst ea_
         subst ec_
         clear en_; have p177 : 0 ≤ (x5_1 : Int) := ode; have q177 : x5_1 < (l0.length : Int) := ode; obtain ⟨ad177, A177_4, c177_4, e177, hx177_0, hx177_1, hx177_2, hx177_3, hx177_4, hl177_4, hi177_4⟩ := at_T67 HR0.out x5_1 p177 q177; obtain rfl : ad174 = ad177 := (by injection e177); have HR177_4 := Aside0.mk hi177_4; have HC177_4 := Aside0.mk hl177_4; clear hi177_4 hl177_4; replace p177 := eq_true p177; replace q177 := eq_true q177; have ea_ := Option.some.inj (hx174_4.symm.trans hx177_4)
         injection ea_ with ea_ en_ ec_
         subst ea_
         subst ec_
         clear en_
         go_wp2
         go_ret
         exact ⟨au, dr⟩
       ·rw [if_neg c7] at H
        have c7b0 : (((rd_T67 l0 x5_1).f2) == (wrap64 ((wrap64 (x1_1 + 1)) + 1))) = false := beq_eq_false_iff_ne.mpr c7; have c7b1 : (((rd_T67 l0 x5_1).f2) != (wrap64 ((wrap64 (x1_1 + 1)) + 1))) = true := bne_iff_ne.mpr c7; obtain rfl := Option.some.inj H; have p174 : 0 ≤ (x5_1 : Int) := ode; have q174 : x5_1 < (l0.length : Int) := ode; obtain ⟨ad174, A174_4, c174_4, e174, hx174_0, hx174_1, hx174_2, hx174_3, hx174_4, hl174_4, hi174_4⟩ := at_T67 HR0.out x5_1 p174 q174
        cases e174
        have HR174_4 := Aside0.mk hi174_4; have HC174_4 := Aside0.mk hl174_4; clear hi174_4 hl174_4; replace p174 := eq_true p174; replace q174 := eq_true q174; have p175 : 0 ≤ (x5_1 : Int) := ode; have q175 : x5_1 < (l0.length : Int) := ode; obtain ⟨ad175, A175_4, c175_4, e175, hx175_0, hx175_1, hx175_2, hx175_3, hx175_4, hl175_4, hi175_4⟩ := at_T67 HR0.out x5_1 p175 q175; obtain rfl : ad174 = ad175 := (by injection e175); have HR175_4 := Aside0.mk hi175_4; have HC175_4 := Aside0.mk hl175_4; clear hi175_4 hl175_4; replace p175 := eq_true p175; replace q175 := eq_true q175; have ea_ := Option.some.inj (hx174_4.symm.trans hx175_4)
        injection ea_ with ea_ en_ ec_
        subst ea_
        subst ec_
        clear en_; have p176 : 0 ≤ (x5_1 : Int) := ode; have q176 : x5_1 < (l0.length : Int) := ode; obtain ⟨ad176, A176_4, c176_4, e176, hx176_0, hx176_1, hx176_2, hx176_3, hx176_4, hl176_4, hi176_4⟩ := at_T67 HR0.out x5_1 p176 q176; obtain rfl : ad174 = ad176 := (by injection e176); have HR176_4 := Aside0.mk hi176_4; have HC176_4 := Aside0.mk hl176_4; clear hi176_4 hl176_4; replace p176 := eq_true p176; replace q176 := eq_true q176; have ea_ := Option.some.inj (hx174_4.symm.trans hx176_4)
        injection ea_ with ea_ en_ ec_
        subst ea_
        subst ec_
        clear en_
        go_wp2
        go_ret
        exact ⟨au, dr⟩
      ·rw [if_neg c6] at H
       have c6b0 : (((rd_T67 l0 x5_1).f1) == (wrap64 (x1_1 + 1))) = false := beq_eq_false_iff_ne.mpr c6; have c6b1 : (((rd_T67 l0 x5_1).f1) != (wrap64 (x1_1 + 1))) = true := bne_iff_ne.mpr c6; obtain rfl := Option.some.inj H; have p174 : 0 ≤ (x5_1 : Int) := ode; have q174 : x5_1 < (l0.length : Int) := ode; obtain ⟨ad174, A174_4, c174_4, e174, hx174_0, hx174_1, hx174_2, hx174_3, hx174_4, hl174_4, hi174_4⟩ := at_T67 HR0.out x5_1 p174 q174
       cases e174
       have HR174_4 := Aside0.mk hi174_4; have HC174_4 := Aside0.mk hl174_4; clear hi174_4 hl174_4; replace p174 := eq_true p174; replace q174 := eq_true q174; have p175 : 0 ≤ (x5_1 : Int) := ode; have q175 : x5_1 < (l0.length : Int) := ode; obtain ⟨ad175, A175_4, c175_4, e175, hx175_0, hx175_1, hx175_2, hx175_3, hx175_4, hl175_4, hi175_4⟩ := at_T67 HR0.out x5_1 p175 q175; obtain rfl : ad174 = ad175 := (by injection e175); have HR175_4 := Aside0.mk hi175_4; have HC175_4 := Aside0.mk hl175_4; clear hi175_4 hl175_4; replace p175 := eq_true p175; replace q175 := eq_true q175; have ea_ := Option.some.inj (hx174_4.symm.trans hx175_4)
       injection ea_ with ea_ en_ ec_
       subst ea_
       subst ec_
       clear en_
       go_wp2
       go_ret
       exact ⟨au, dr⟩
     ·rw [if_neg c5] at H
      have c5b0 : (((rd_T67 l0 x5_1).f0) == x1_1) = false := beq_eq_false_iff_ne.mpr c5; have c5b1 : (((rd_T67 l0 x5_1).f0) != x1_1) = true := bne_iff_ne.mpr c5; obtain rfl := Option.some.inj H; have p174 : 0 ≤ (x5_1 : Int) := ode; have q174 : x5_1 < (l0.length : Int) := ode; obtain ⟨ad174, A174_4, c174_4, e174, hx174_0, hx174_1, hx174_2, hx174_3, hx174_4, hl174_4, hi174_4⟩ := at_T67 HR0.out x5_1 p174 q174
      cases e174
      have HR174_4 := Aside0.mk hi174_4; have HC174_4 := Aside0.mk hl174_4; clear hi174_4 hl174_4; replace p174 := eq_true p174; replace q174 := eq_true q174
      go_wp2
      go_ret
      exact ⟨au, dr⟩
    ·rw [if_neg c4] at H
     exact absurd H (by simp)
   ·rw [if_neg c3] at H
    have c3b0 : decide (x5_1 < (l0.length : Int)) = false := decide_eq_false c3; clear c3; obtain rfl := Option.some.inj H
    go_wp2
    go_ret
    exact ⟨au, dr⟩

/-! ### spec_l1Digit: function 78 -/
def spec_l1Digit.f (a0 : Int) : Option (Bool) := if a0 ≥ 48 then (some (decide (a0 ≤ 57))) else (some false)
set_option maxHeartbeats 8000000 in
set_option maxRecDepth 100000 in
theorem spec_l1Digit.calls (a0 : Int) (r : Bool) (w : World) (h : spec_l1Digit.f a0 = some r) :
  Calls Try.prog 78 #[.int .u8 a0] w fun e w' => e = .returned (.bool r) ∧ Drawn0 w w' := by
 have H : (if a0 ≥ 48 then (some (decide (a0 ≤ 57))) else (some false)) = some r := h; clear h
 by_cases c2 : a0 ≥ 48
 ·rw [if_pos c2] at H
  have c2b0 : decide (48 ≤ a0) = true := decide_eq_true c2; clear c2; obtain rfl := Option.some.inj H
  go_enter Try.func78, Try.ntmps78
  go_wp2
  go_ret
  exact ⟨au, dr⟩
 ·rw [if_neg c2] at H
  have c2b0 : decide (48 ≤ a0) = false := decide_eq_false c2; clear c2; obtain rfl := Option.some.inj H
  go_enter Try.func78, Try.ntmps78
  go_wp2
  go_ret
  exact ⟨au, dr⟩

/-! ### spec_l1Name: function 69 -/
mutual
def spec_l1Name.j0 : Nat → ByteArray → Bool → Option (Bool)
 | 0, _, _ => none
 | k + 1, x0, x16 => if x16 = true then (some false) else (spec_l1Name.l0 k x0 0)
def spec_l1Name.l0 : Nat → ByteArray → Int → Option (Bool)
 | 0, _, _ => none
 | k + 1, x0, x3 => if x3 < (x0.size : Int) then (if 0 ≤ x3 then ((spec_l1Digit.f (bt x0 x3)).bind fun t181 => (if t181 = true then (spec_l1Name.l0 k x0 (wrap64 (x3 + 1))) else (if (bt x0 x3) < 97 then (some false) else (if (bt x0 x3) > 122 then (some false) else (spec_l1Name.l0 k x0 (wrap64 (x3 + 1))))))) else (none)) else (some true)
end
def spec_l1Name.f (k : Nat) (a0 : ByteArray) : Option (Bool) := if (a0.size : Int) < 1 then (spec_l1Name.j0 k a0 true) else (if (a0.size : Int) > 12 then (spec_l1Name.j0 k a0 true) else (if 0 < (a0.size : Int) then ((spec_l1Digit.f (bt a0 0)).bind fun t180 => (spec_l1Name.j0 k a0 t180)) else (none)))
set_option maxHeartbeats 8000000 in
set_option maxRecDepth 100000 in
theorem spec_l1Name.calls (k : Nat) (a0 : ByteArray) (r : Bool) (w : World) (h : spec_l1Name.f k a0 = some r) :
  Calls Try.prog 69 #[.string a0] w fun e w' => e = .returned (.bool r) ∧ Drawn0 w w' := by
 have H : (if (a0.size : Int) < 1 then (spec_l1Name.j0 k a0 true) else (if (a0.size : Int) > 12 then (spec_l1Name.j0 k a0 true) else (if 0 < (a0.size : Int) then ((spec_l1Digit.f (bt a0 0)).bind fun t180 => (spec_l1Name.j0 k a0 t180)) else (none)))) = some r := h; clear h; have HC2 := Aside0.mk H; clear H
 go_enter Try.func69, Try.ntmps69
 go_upto_region 1 with (fail)
 go_cut [16] (fun v16 wc => ∃ (kq : Nat) (x16_1 : Bool), v16 = .bool x16_1 ∧ Aside0 (spec_l1Name.j0 kq a0 x16_1 = some r) ∧ Aside0 (kq ≤ k) ∧ Drawn0 w wc)
 case first =>
  have H := HC2.out; clear HC2
  by_cases c3 : (a0.size : Int) < 1
  ·rw [if_pos c3] at H
   have c3b0 : decide ((a0.size : Int) < 1) = true := decide_eq_true c3; have c3b1 : decide (a0.size < 1) = true := decide_eq_true (by omega); clear c3
   (first | rw [c3b0] | (simp only [i64_w, i32_w]; rw [c3b0]) | skip)
   have H' := Aside0.mk H; clear H
   go_wp2
   go_meet
   case rel => exact ⟨_, (true), au, H', ⟨by first | omega | exact Nat.le_refl _⟩, dr⟩
  ·rw [if_neg c3] at H
   have c3b0 : decide ((a0.size : Int) < 1) = false := decide_eq_false c3; have c3b1 : decide (a0.size < 1) = false := decide_eq_false (by omega); clear c3
   (first | rw [c3b0] | (simp only [i64_w, i32_w]; rw [c3b0]) | skip)
   by_cases c4 : (a0.size : Int) > 12
   ·rw [if_pos c4] at H
    have c4b0 : decide (12 < (a0.size : Int)) = true := decide_eq_true c4; have c4b1 : decide (12 < a0.size) = true := decide_eq_true (by omega); clear c4; have H' := Aside0.mk H; clear H
    go_wp2
    go_meet
    case rel => exact ⟨_, (true), au, H', ⟨by first | omega | exact Nat.le_refl _⟩, dr⟩
   ·rw [if_neg c4] at H
    have c4b0 : decide (12 < (a0.size : Int)) = false := decide_eq_false c4; have c4b1 : decide (12 < a0.size) = false := decide_eq_false (by omega); clear c4
    by_cases c5 : 0 < (a0.size : Int)
    ·rw [if_pos c5] at H
     have c5b0 : decide (0 < (a0.size : Int)) = true := decide_eq_true c5; have c5b1 : decide (0 < a0.size) = true := decide_eq_true (by omega); clear c5; replace H := Option.bind_eq_some_iff.mp H; obtain ⟨t180, A70, H⟩ := H; replace H : (spec_l1Name.j0 k a0 t180) = some r := H; have A7 := Aside0.mk A70; clear A70; have H' := Aside0.mk H; clear H; have p6 : 0 ≤ (0 : Int) := (by omega); have q6 : 0 < a0.size := (by have : (0 : Int) < (a0.size : Int) := ode; omega); have hx6 : ∀ h : 0 < a0.size, ((a0[0]'h).toNat : Int) = bt a0 0 := bt_at a0 0; clear p6; have qi6 : (0 < (a0.size : Int)) = True := eq_true (ode); replace q6 := eq_true q6
     go_wp2_with (first | (go_at_call 78; (with_reducible refine (spec_l1Digit.calls (bt a0 0) t180 _ A7.out).mono ?_); rintro e w' ⟨rfl, ⟨nd, rfl⟩⟩))
     go_meet
     case rel => exact ⟨_, (t180), au, H', ⟨by first | omega | exact Nat.le_refl _⟩, dr⟩
    ·rw [if_neg c5] at H
     exact absurd H (by simp)
 case rest =>
  clear HC2
  try clear p2
  try clear c3
  try clear c3b0
  try clear c3b1
  try clear c4
  try clear c4b0
  try clear c4b1
  try clear c5
  try clear c5b0
  try clear c5b1
  try clear c6
  try clear p6
  try clear q6
  try clear hx6
  try clear qi6
  try clear p6
  try clear q6
  obtain ⟨kq, x16_1, rfl, HA, HJ1, ⟨mc1, rfl⟩⟩ := hcut
  cases kq with
  | zero => exact absurd HA.out (by simp [spec_l1Name.j0])
  | succ kj1 =>
   have H := HA.out; clear HA
   simp only [spec_l1Name.j0] at H
   by_cases c8 : x16_1 = true
   ·subst c8
    have H1 : (some false) = some r := by rw [if_pos rfl] at H; exact H
    clear H; have H := H1; clear H1; obtain rfl := Option.some.inj H
    go_wp2
    go_ret
    exact ⟨au, dr⟩
   ·replace c8 := Bool.eq_false_iff.mpr c8
    subst c8
    have H1 : (spec_l1Name.l0 kj1 a0 0) = some r := by rw [if_neg (show ¬ (false = true) by decide)] at H; exact H
    clear H; have H := H1; clear H1; have H' := Aside0.mk H; clear H
    go_wp2
    go_loopg [3] kj1 (fun kq v3 w' => ∃ (x3_2 : Int), v3 = .int .i64 x3_2 ∧ Aside0 (spec_l1Name.l0 kq a0 x3_2 = some r) ∧ Aside0 (kq ≤ kj1) ∧ Drawn0 w w')
    case atStart => exact ⟨(0), au, H', ⟨Nat.le_refl _⟩, dr⟩
    case round =>
     clear H'
     try clear c1
     try clear p2
     try clear c3
     try clear c3b0
     try clear c3b1
     try clear c4
     try clear c4b0
     try clear c4b1
     try clear c5
     try clear c5b0
     try clear c5b1
     try clear c6
     try clear p6
     try clear q6
     try clear hx6
     try clear qi6
     try clear c8
     try clear p2
     try clear p6
     try clear q6
     obtain ⟨x3_2, rfl, HA, HK2, ⟨m2, rfl⟩⟩ := hrel
     cases gk with
     | zero => exact absurd HA.out (by simp [spec_l1Name.l0])
     | succ k2 =>
      have H := HA.out; clear HA
      simp only [spec_l1Name.l0] at H
      by_cases c9 : x3_2 < (a0.size : Int)
      ·rw [if_pos c9] at H
       have c9b0 : decide (x3_2 < (a0.size : Int)) = true := decide_eq_true c9; clear c9
       by_cases c10 : 0 ≤ x3_2
       ·rw [if_pos c10] at H
        have c10b0 : decide (0 ≤ x3_2) = true := decide_eq_true c10; clear c10; replace H := Option.bind_eq_some_iff.mp H; obtain ⟨t181, A120, H⟩ := H; replace H : (if t181 = true then (spec_l1Name.l0 k2 a0 (wrap64 (x3_2 + 1))) else (if (bt a0 x3_2) < 97 then (some false) else (if (bt a0 x3_2) > 122 then (some false) else (spec_l1Name.l0 k2 a0 (wrap64 (x3_2 + 1)))))) = some r := H; have A12 := Aside0.mk A120; clear A120
        by_cases c13 : t181 = true
        ·subst c13
         have H1 : (spec_l1Name.l0 k2 a0 (wrap64 (x3_2 + 1))) = some r := by rw [if_pos rfl] at H; exact H
         clear H; have H := H1; clear H1; have H' := Aside0.mk H; clear H; have p11 : 0 ≤ (x3_2 : Int) := ode; have q11 : x3_2 < (a0.size : Int) := ode; have hx11 := bt_at a0 x3_2; replace p11 := eq_true p11; replace q11 := eq_true q11
         go_wp2_with (first | ((with_reducible refine gate_callee (f := 78) rfl ?_); refine goesL_ (some 26) rfl rfl Try.func78 (by kernel_rfl) rfl #[.int .u8 (bt a0 x3_2)] rfl ma ?_; (with_reducible refine (spec_l1Digit.calls (bt a0 x3_2) true _ A12.out).mono ?_); rintro e w' ⟨rfl, ⟨nd, rfl⟩⟩; refine ⟨_, rfl, ?_⟩))
         go_roundg k2
         case measure => have := HJ1.out; have := HK2.out; omega
         case rel => exact ⟨(wrap64 (x3_2 + 1)), au, H', ⟨by have := HJ1.out; have := HK2.out; omega⟩, dr⟩
        ·replace c13 := Bool.eq_false_iff.mpr c13
         subst c13
         have H1 : (if (bt a0 x3_2) < 97 then (some false) else (if (bt a0 x3_2) > 122 then (some false) else (spec_l1Name.l0 k2 a0 (wrap64 (x3_2 + 1))))) = some r := by rw [if_neg (show ¬ (false = true) by decide)] at H; exact H
         clear H; have H := H1; clear H1
         by_cases c15 : (bt a0 x3_2) < 97
         ·rw [if_pos c15] at H
          have c15b0 : decide ((bt a0 x3_2) < 97) = true := decide_eq_true c15; clear c15; obtain rfl := Option.some.inj H; have p11 : 0 ≤ (x3_2 : Int) := ode; have q11 : x3_2 < (a0.size : Int) := ode; have hx11 := bt_at a0 x3_2; replace p11 := eq_true p11; replace q11 := eq_true q11
          go_wp2_with (first | ((with_reducible refine gate_callee (f := 78) rfl ?_); refine goesL_ (some 26) rfl rfl Try.func78 (by kernel_rfl) rfl #[.int .u8 (bt a0 x3_2)] rfl ma ?_; (with_reducible refine (spec_l1Digit.calls (bt a0 x3_2) false _ A12.out).mono ?_); rintro e w' ⟨rfl, ⟨nd, rfl⟩⟩; refine ⟨_, rfl, ?_⟩; have p14 : 0 ≤ (x3_2 : Int) := ode; have q14 : x3_2 < (a0.size : Int) := ode; have hx14 := bt_at a0 x3_2; replace p14 := eq_true p14; replace q14 := eq_true q14))
          go_ret
          exact ⟨au, dr⟩
         ·rw [if_neg c15] at H
          have c15b0 : decide ((bt a0 x3_2) < 97) = false := decide_eq_false c15; clear c15
          by_cases c17 : (bt a0 x3_2) > 122
          ·rw [if_pos c17] at H
           have c17b0 : decide (122 < (bt a0 x3_2)) = true := decide_eq_true c17; clear c17; obtain rfl := Option.some.inj H; have p11 : 0 ≤ (x3_2 : Int) := ode; have q11 : x3_2 < (a0.size : Int) := ode; have hx11 := bt_at a0 x3_2; replace p11 := eq_true p11; replace q11 := eq_true q11
           go_wp2_with (first | ((with_reducible refine gate_callee (f := 78) rfl ?_); refine goesL_ (some 26) rfl rfl Try.func78 (by kernel_rfl) rfl #[.int .u8 (bt a0 x3_2)] rfl ma ?_; (with_reducible refine (spec_l1Digit.calls (bt a0 x3_2) false _ A12.out).mono ?_); rintro e w' ⟨rfl, ⟨nd, rfl⟩⟩; refine ⟨_, rfl, ?_⟩; have p14 : 0 ≤ (x3_2 : Int) := ode; have q14 : x3_2 < (a0.size : Int) := ode; have hx14 := bt_at a0 x3_2; replace p14 := eq_true p14; replace q14 := eq_true q14; have p16 : 0 ≤ (x3_2 : Int) := ode; have q16 : x3_2 < (a0.size : Int) := ode; have hx16 := bt_at a0 x3_2; replace p16 := eq_true p16; replace q16 := eq_true q16))
           go_ret
           exact ⟨au, dr⟩
          ·rw [if_neg c17] at H
           have c17b0 : decide (122 < (bt a0 x3_2)) = false := decide_eq_false c17; clear c17; have H' := Aside0.mk H; clear H; have p11 : 0 ≤ (x3_2 : Int) := ode; have q11 : x3_2 < (a0.size : Int) := ode; have hx11 := bt_at a0 x3_2; replace p11 := eq_true p11; replace q11 := eq_true q11
           go_wp2_with (first | ((with_reducible refine gate_callee (f := 78) rfl ?_); refine goesL_ (some 26) rfl rfl Try.func78 (by kernel_rfl) rfl #[.int .u8 (bt a0 x3_2)] rfl ma ?_; (with_reducible refine (spec_l1Digit.calls (bt a0 x3_2) false _ A12.out).mono ?_); rintro e w' ⟨rfl, ⟨nd, rfl⟩⟩; refine ⟨_, rfl, ?_⟩; have p14 : 0 ≤ (x3_2 : Int) := ode; have q14 : x3_2 < (a0.size : Int) := ode; have hx14 := bt_at a0 x3_2; replace p14 := eq_true p14; replace q14 := eq_true q14; have p16 : 0 ≤ (x3_2 : Int) := ode; have q16 : x3_2 < (a0.size : Int) := ode; have hx16 := bt_at a0 x3_2; replace p16 := eq_true p16; replace q16 := eq_true q16))
           go_roundg k2
           case measure => have := HJ1.out; have := HK2.out; omega
           case rel => exact ⟨(wrap64 (x3_2 + 1)), au, H', ⟨by have := HJ1.out; have := HK2.out; omega⟩, dr⟩
       ·rw [if_neg c10] at H
        exact absurd H (by simp)
      ·rw [if_neg c9] at H
       have c9b0 : decide (x3_2 < (a0.size : Int)) = false := decide_eq_false c9; clear c9; obtain rfl := Option.some.inj H
       go_wp2
       go_ret
       exact ⟨au, dr⟩

/-! ### spec_l1In: function 70 -/
def spec_l1In.f (a0 : Int) (a1 : Int) (a2 : Int) : Option (Bool) := if a0 ≥ a1 then (some (decide (a0 ≤ a2))) else (some false)
set_option maxHeartbeats 8000000 in
set_option maxRecDepth 100000 in
theorem spec_l1In.calls (a0 : Int) (a1 : Int) (a2 : Int) (r : Bool) (w : World) (h : spec_l1In.f a0 a1 a2 = some r) :
  Calls Try.prog 70 #[.int .i64 a0, .int .i64 a1, .int .i64 a2] w fun e w' => e = .returned (.bool r) ∧ Drawn0 w w' := by
 have H : (if a0 ≥ a1 then (some (decide (a0 ≤ a2))) else (some false)) = some r := h; clear h
 by_cases c4 : a0 ≥ a1
 ·rw [if_pos c4] at H
  have c4b0 : decide (a1 ≤ a0) = true := decide_eq_true c4; clear c4; obtain rfl := Option.some.inj H
  go_enter Try.func70, Try.ntmps70
  go_wp2
  go_ret
  exact ⟨au, dr⟩
 ·rw [if_neg c4] at H
  have c4b0 : decide (a1 ≤ a0) = false := decide_eq_false c4; clear c4; obtain rfl := Option.some.inj H
  go_enter Try.func70, Try.ntmps70
  go_wp2
  go_ret
  exact ⟨au, dr⟩

end Go.Proofs.Ytjnmenadlnajeaa.PFnExactFlatPart
