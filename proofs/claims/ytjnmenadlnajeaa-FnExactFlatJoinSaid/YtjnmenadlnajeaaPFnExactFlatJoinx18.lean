-- Written by a program of this session (a turned copy of the kit's printer); Lean checks it.
-- half the depth
import Derived.Test.YtjnmenadlnajeaaPFnExactFlatJoinx0
import Derived.Test.YtjnmenadlnajeaaPFnExactFlatJoinx17
namespace Go.Proofs.Ytjnmenadlnajeaa.PFnExactFlatJoin
open Go.RowKit Go.Proofs.YtjnmenadlnajeaaW.PrintWords Go.Proofs.YtjnmenadlnajeaaW.PrintLast Go.Proofs.YtjnmenadlnajeaaW.PrintMore
attribute [local go_sem] max2_int min2_int max_two min_two max_three min_three max_four min_four   -- for this text's walks alone
set_option linter.unusedVariables false
set_option linter.unusedSimpArgs false

/-! ### laws_heldSegS: function 16 -/
def laws_heldSegS.l0 : Nat → List (S67) → Int → Int → Option (Int)
 | 0, _, _, _ => none
 | k + 1, x0, x1, x5 => if x5 < (x0.length : Int) then (if 0 ≤ x5 then (if ((rd_T67 x0 x5).f0) = x1 then (if ((rd_T67 x0 x5).f1) = (wrap64 (x1 + 1)) then (if ((rd_T67 x0 x5).f2) = (wrap64 ((wrap64 (x1 + 1)) + 1)) then (if ((rd_T67 x0 x5).f3.f0) = (wrap64 ((wrap64 ((wrap64 (x1 + 1)) + 1)) + 1)) then ((laws_heldUint64S.f k ((rd_T67 x0 x5).f3.f1) (wrap64 ((wrap64 ((wrap64 ((wrap64 (x1 + 1)) + 1)) + 1)) + 1))).bind fun t373 => (if t373 < 0 then (some (-1)) else (laws_heldSegS.l0 k x0 t373 (wrap64 (x5 + 1))))) else (some (-1))) else (some (-1))) else (some (-1))) else (some (-1))) else (none)) else (some x1)
def laws_heldSegS.f (k : Nat) (l0 : List (S67)) (a1 : Int) : Option (Int) := laws_heldSegS.l0 k l0 a1 0
set_option maxHeartbeats 8000000 in
set_option maxRecDepth 100000 in
theorem laws_heldSegS.calls (k : Nat) (A0 : Option Addr) (c0 : Nat) (l0 : List (S67)) (a1 : Int) (r : Int) (w : World) (hr0 : Kd.C k67 w A0 l0.length l0) (hc0 : l0.length ≤ c0) (h : laws_heldSegS.f k l0 a1 = some r) :
  Calls Try.prog 16 #[.slice A0 l0.length c0, .int .i64 a1] w fun e w' => e = .returned (.int .i64 r) ∧ Drawn0 w w' := by
 have HR0 := Aside0.mk hr0; have HC0 := Aside0.mk hc0; clear hr0 hc0; have H : (laws_heldSegS.l0 k l0 a1 0) = some r := h; clear h; have H' := Aside0.mk H; clear H
 go_enter Try.func16, Try.ntmps16
 go_wp2
 go_loopg [1, 5] k (fun kq v1 v5 w' => ∃ (x1_1 : Int) (x5_1 : Int), v1 = .int .i64 x1_1 ∧ v5 = .int .i64 x5_1 ∧ Aside0 (laws_heldSegS.l0 kq l0 x1_1 x5_1 = some r) ∧ Aside0 (kq ≤ k) ∧ Drawn0 w w')
 case atStart => exact ⟨(a1), (0), au, au, H', ⟨Nat.le_refl _⟩, dr⟩
 case round =>
  clear H'
  try clear c1
  try clear p2
  obtain ⟨x1_1, x5_1, rfl, rfl, HA, HK1, ⟨m1, rfl⟩⟩ := hrel
  cases gk with
  | zero => exact absurd HA.out (by simp [laws_heldSegS.l0])
  | succ k1 =>
   have H := HA.out; clear HA
   simp only [laws_heldSegS.l0] at H
   by_cases c3 : x5_1 < (l0.length : Int)
   ·rw [if_pos c3] at H
    have c3b0 : decide (x5_1 < (l0.length : Int)) = true := decide_eq_true c3; clear c3
    by_cases c4 : 0 ≤ x5_1
    ·rw [if_pos c4] at H
     have c4b0 : decide (0 ≤ x5_1) = true := decide_eq_true c4; clear c4
     by_cases c5 : ((rd_T67 l0 x5_1).f0) = x1_1
     ·rw [if_pos c5] at H
      have c5b0 : (((rd_T67 l0 x5_1).f0) == x1_1) = true := beq_iff_eq.mpr c5; have c5b1 : (((rd_T67 l0 x5_1).f0) != x1_1) = false := bne_eq_false_iff_eq.mpr c5; clear c5
      by_cases c6 : ((rd_T67 l0 x5_1).f1) = (wrap64 (x1_1 + 1))
      ·rw [if_pos c6] at H
       have c6b0 : (((rd_T67 l0 x5_1).f1) == (wrap64 (x1_1 + 1))) = true := beq_iff_eq.mpr c6; have c6b1 : (((rd_T67 l0 x5_1).f1) != (wrap64 (x1_1 + 1))) = false := bne_eq_false_iff_eq.mpr c6; clear c6
       by_cases c7 : ((rd_T67 l0 x5_1).f2) = (wrap64 ((wrap64 (x1_1 + 1)) + 1))
       ·rw [if_pos c7] at H
        have c7b0 : (((rd_T67 l0 x5_1).f2) == (wrap64 ((wrap64 (x1_1 + 1)) + 1))) = true := beq_iff_eq.mpr c7; have c7b1 : (((rd_T67 l0 x5_1).f2) != (wrap64 ((wrap64 (x1_1 + 1)) + 1))) = false := bne_eq_false_iff_eq.mpr c7; clear c7
        by_cases c8 : ((rd_T67 l0 x5_1).f3.f0) = (wrap64 ((wrap64 ((wrap64 (x1_1 + 1)) + 1)) + 1))
        ·rw [if_pos c8] at H
         have c8b0 : (((rd_T67 l0 x5_1).f3.f0) == (wrap64 ((wrap64 ((wrap64 (x1_1 + 1)) + 1)) + 1))) = true := beq_iff_eq.mpr c8; have c8b1 : (((rd_T67 l0 x5_1).f3.f0) != (wrap64 ((wrap64 ((wrap64 (x1_1 + 1)) + 1)) + 1))) = false := bne_eq_false_iff_eq.mpr c8; clear c8; replace H := Option.bind_eq_some_iff.mp H; obtain ⟨t373, A90, H⟩ := H; replace H : (if t373 < 0 then (some (-1)) else (laws_heldSegS.l0 k1 l0 t373 (wrap64 (x5_1 + 1)))) = some r := H; have A9 := Aside0.mk A90; clear A90
         by_cases c10 : t373 < 0
         ·rw [if_pos c10] at H
          have c10b0 : decide (t373 < 0) = true := decide_eq_true c10; clear c10; obtain rfl := Option.some.inj H; have p368 : 0 ≤ (x5_1 : Int) := ode; have q368 : x5_1 < (l0.length : Int) := ode; obtain ⟨ad368, A368_4, c368_4, e368, hx368_0, hx368_1, hx368_2, hx368_3, hx368_4, hl368_4, hi368_4⟩ := at_T67 HR0.out x5_1 p368 q368
          cases e368
          have HR368_4 := Aside0.mk hi368_4; have HC368_4 := Aside0.mk hl368_4; clear hi368_4 hl368_4; replace p368 := eq_true p368; replace q368 := eq_true q368; have p369 : 0 ≤ (x5_1 : Int) := ode; have q369 : x5_1 < (l0.length : Int) := ode; obtain ⟨ad369, A369_4, c369_4, e369, hx369_0, hx369_1, hx369_2, hx369_3, hx369_4, hl369_4, hi369_4⟩ := at_T67 HR0.out x5_1 p369 q369; obtain rfl : ad368 = ad369 := (by injection e369); have HR369_4 := Aside0.mk hi369_4; have HC369_4 := Aside0.mk hl369_4; clear hi369_4 hl369_4; replace p369 := eq_true p369; replace q369 := eq_true q369; have ea_ := Option.some.inj (hx368_4.symm.trans hx369_4)
          injection ea_ with ea_ en_ ec_
          subst ea_
          subst ec_
          clear en_; have p370 : 0 ≤ (x5_1 : Int) := ode; have q370 : x5_1 < (l0.length : Int) := ode; obtain ⟨ad370, A370_4, c370_4, e370, hx370_0, hx370_1, hx370_2, hx370_3, hx370_4, hl370_4, hi370_4⟩ := at_T67 HR0.out x5_1 p370 q370; obtain rfl : ad368 = ad370 := (by injection e370); have HR370_4 := Aside0.mk hi370_4; have HC370_4 := Aside0.mk hl370_4; clear hi370_4 hl370_4; replace p370 := eq_true p370; replace q370 := eq_true q370; have ea_ := Option.some.inj (hx368_4.symm.trans hx370_4)
          injection ea_ with ea_ en_ ec_
          subst ea_
          subst ec_
          clear en_; have p371 : 0 ≤ (x5_1 : Int) := ode; have q371 : x5_1 < (l0.length : Int) := ode; obtain ⟨ad371, A371_4, c371_4, e371, hx371_0, hx371_1, hx371_2, hx371_3, hx371_4, hl371_4, hi371_4⟩ := at_T67 HR0.out x5_1 p371 q371; obtain rfl : ad368 = ad371 := (by injection e371); have HR371_4 := Aside0.mk hi371_4; have HC371_4 := Aside0.mk hl371_4; clear hi371_4 hl371_4; replace p371 := eq_true p371; replace q371 := eq_true q371; have ea_ := Option.some.inj (hx368_4.symm.trans hx371_4)
          injection ea_ with ea_ en_ ec_
          subst ea_
          subst ec_
          clear en_; have p372 : 0 ≤ (x5_1 : Int) := ode; have q372 : x5_1 < (l0.length : Int) := ode; obtain ⟨ad372, A372_4, c372_4, e372, hx372_0, hx372_1, hx372_2, hx372_3, hx372_4, hl372_4, hi372_4⟩ := at_T67 HR0.out x5_1 p372 q372; obtain rfl : ad368 = ad372 := (by injection e372); have HR372_4 := Aside0.mk hi372_4; have HC372_4 := Aside0.mk hl372_4; clear hi372_4 hl372_4; replace p372 := eq_true p372; replace q372 := eq_true q372; have ea_ := Option.some.inj (hx368_4.symm.trans hx372_4)
          injection ea_ with ea_ en_ ec_
          subst ea_
          subst ec_
          clear en_
          go_wp2_with (first | ((with_reducible refine gate_callee (f := 44) rfl ?_); refine goesL_ (some 56) rfl rfl Try.func44 (by kernel_rfl) rfl #[.slice A368_4 ((rd_T67 l0 x5_1).f3.f1).length c368_4, .int .i64 (wrap64 ((wrap64 ((wrap64 ((wrap64 (x1_1 + 1)) + 1)) + 1)) + 1))] rfl ma ?_; (with_reducible refine (laws_heldUint64S.calls k1 _ _ ((rd_T67 l0 x5_1).f3.f1) (wrap64 ((wrap64 ((wrap64 ((wrap64 (x1_1 + 1)) + 1)) + 1)) + 1)) t373 _ ?side1 ?side2 A9.out).mono ?_); (case side1 => repeat (first | exact HR372_4.out | (with_reducible refine Kd.C_alloc ?_ _) | (with_reducible refine Kd.C_drewN ?_ _) | (with_reducible refine Kd.C_drew ?_))); (case side2 => exact HC372_4.out); rintro e w' ⟨rfl, ⟨nd, rfl⟩⟩; refine ⟨_, rfl, ?_⟩))
          go_ret
          exact ⟨au, dr⟩
         ·rw [if_neg c10] at H
          have c10b0 : decide (t373 < 0) = false := decide_eq_false c10; clear c10; have H' := Aside0.mk H; clear H; have p368 : 0 ≤ (x5_1 : Int) := ode; have q368 : x5_1 < (l0.length : Int) := ode; obtain ⟨ad368, A368_4, c368_4, e368, hx368_0, hx368_1, hx368_2, hx368_3, hx368_4, hl368_4, hi368_4⟩ := at_T67 HR0.out x5_1 p368 q368
          cases e368
          have HR368_4 := Aside0.mk hi368_4; have HC368_4 := Aside0.mk hl368_4; clear hi368_4 hl368_4; replace p368 := eq_true p368; replace q368 := eq_true q368; have p369 : 0 ≤ (x5_1 : Int) := ode; have q369 : x5_1 < (l0.length : Int) := ode; obtain ⟨ad369, A369_4, c369_4, e369, hx369_0, hx369_1, hx369_2, hx369_3, hx369_4, hl369_4, hi369_4⟩ := at_T67 HR0.out x5_1 p369 q369; obtain rfl : ad368 = ad369 := (by injection e369); have HR369_4 := Aside0.mk hi369_4; have HC369_4 := Aside0.mk hl369_4; clear hi369_4 hl369_4; replace p369 := eq_true p369; replace q369 := eq_true q369; have ea_ := Option.some.inj (hx368_4.symm.trans hx369_4)
          injection ea_ with ea_ en_ ec_
          subst ea_
          subst ec_
          clear en_; have p370 : 0 ≤ (x5_1 : Int) := ode; have q370 : x5_1 < (l0.length : Int) := ode; obtain ⟨ad370, A370_4, c370_4, e370, hx370_0, hx370_1, hx370_2, hx370_3, hx370_4, hl370_4, hi370_4⟩ := at_T67 HR0.out x5_1 p370 q370; obtain rfl : ad368 = ad370 := (by injection e370); have HR370_4 := Aside0.mk hi370_4; have HC370_4 := Aside0.mk hl370_4; clear hi370_4 hl370_4; replace p370 := eq_true p370; replace q370 := eq_true q370; have ea_ := Option.some.inj (hx368_4.symm.trans hx370_4)
          injection ea_ with ea_ en_ ec_
          subst ea_
          subst ec_
          clear en_; have p371 : 0 ≤ (x5_1 : Int) := ode; have q371 : x5_1 < (l0.length : Int) := ode; obtain ⟨ad371, A371_4, c371_4, e371, hx371_0, hx371_1, hx371_2, hx371_3, hx371_4, hl371_4, hi371_4⟩ := at_T67 HR0.out x5_1 p371 q371; obtain rfl : ad368 = ad371 := (by injection e371); have HR371_4 := Aside0.mk hi371_4; have HC371_4 := Aside0.mk hl371_4; clear hi371_4 hl371_4; replace p371 := eq_true p371; replace q371 := eq_true q371; have ea_ := Option.some.inj (hx368_4.symm.trans hx371_4)
          injection ea_ with ea_ en_ ec_
          subst ea_
          subst ec_
          clear en_; have p372 : 0 ≤ (x5_1 : Int) := ode; have q372 : x5_1 < (l0.length : Int) := ode; obtain ⟨ad372, A372_4, c372_4, e372, hx372_0, hx372_1, hx372_2, hx372_3, hx372_4, hl372_4, hi372_4⟩ := at_T67 HR0.out x5_1 p372 q372; obtain rfl : ad368 = ad372 := (by injection e372); have HR372_4 := Aside0.mk hi372_4; have HC372_4 := Aside0.mk hl372_4; clear hi372_4 hl372_4; replace p372 := eq_true p372; replace q372 := eq_true q372; have ea_ := Option.some.inj (hx368_4.symm.trans hx372_4)
          injection ea_ with ea_ en_ ec_
          subst ea_
          subst ec_
          clear en_
          go_wp2_with (first | ((with_reducible refine gate_callee (f := 44) rfl ?_); refine goesL_ (some 56) rfl rfl Try.func44 (by kernel_rfl) rfl #[.slice A368_4 ((rd_T67 l0 x5_1).f3.f1).length c368_4, .int .i64 (wrap64 ((wrap64 ((wrap64 ((wrap64 (x1_1 + 1)) + 1)) + 1)) + 1))] rfl ma ?_; (with_reducible refine (laws_heldUint64S.calls k1 _ _ ((rd_T67 l0 x5_1).f3.f1) (wrap64 ((wrap64 ((wrap64 ((wrap64 (x1_1 + 1)) + 1)) + 1)) + 1)) t373 _ ?side1 ?side2 A9.out).mono ?_); (case side1 => repeat (first | exact HR372_4.out | (with_reducible refine Kd.C_alloc ?_ _) | (with_reducible refine Kd.C_drewN ?_ _) | (with_reducible refine Kd.C_drew ?_))); (case side2 => exact HC372_4.out); rintro e w' ⟨rfl, ⟨nd, rfl⟩⟩; refine ⟨_, rfl, ?_⟩))
          go_roundg k1
          case measure => have := HK1.out; omega
          case rel => exact ⟨(t373), (wrap64 (x5_1 + 1)), au, au, H', ⟨by have := HK1.out; omega⟩, dr⟩
        ·rw [if_neg c8] at H
         have c8b0 : (((rd_T67 l0 x5_1).f3.f0) == (wrap64 ((wrap64 ((wrap64 (x1_1 + 1)) + 1)) + 1))) = false := beq_eq_false_iff_ne.mpr c8; have c8b1 : (((rd_T67 l0 x5_1).f3.f0) != (wrap64 ((wrap64 ((wrap64 (x1_1 + 1)) + 1)) + 1))) = true := bne_iff_ne.mpr c8; obtain rfl := Option.some.inj H; have p368 : 0 ≤ (x5_1 : Int) := ode; have q368 : x5_1 < (l0.length : Int) := ode; obtain ⟨ad368, A368_4, c368_4, e368, hx368_0, hx368_1, hx368_2, hx368_3, hx368_4, hl368_4, hi368_4⟩ := at_T67 HR0.out x5_1 p368 q368
         cases e368
         have HR368_4 := Aside0.mk hi368_4; have HC368_4 := Aside0.mk hl368_4; clear hi368_4 hl368_4; replace p368 := eq_true p368; replace q368 := eq_true q368; have p369 : 0 ≤ (x5_1 : Int) := ode; have q369 : x5_1 < (l0.length : Int) := ode; obtain ⟨ad369, A369_4, c369_4, e369, hx369_0, hx369_1, hx369_2, hx369_3, hx369_4, hl369_4, hi369_4⟩ := at_T67 HR0.out x5_1 p369 q369; obtain rfl : ad368 = ad369 := (by injection e369); have HR369_4 := Aside0.mk hi369_4; have HC369_4 := Aside0.mk hl369_4; clear hi369_4 hl369_4; replace p369 := eq_true p369; replace q369 := eq_true q369; have ea_ := Option.some.inj (hx368_4.symm.trans hx369_4)
         injection ea_ with ea_ en_ ec_
         subst ea_
         subst ec_
         clear en_; have p370 : 0 ≤ (x5_1 : Int) := ode; have q370 : x5_1 < (l0.length : Int) := ode; obtain ⟨ad370, A370_4, c370_4, e370, hx370_0, hx370_1, hx370_2, hx370_3, hx370_4, hl370_4, hi370_4⟩ := at_T67 HR0.out x5_1 p370 q370; obtain rfl : ad368 = ad370 := (by injection e370); have HR370_4 := Aside0.mk hi370_4; have HC370_4 := Aside0.mk hl370_4; clear hi370_4 hl370_4; replace p370 := eq_true p370; replace q370 := eq_true q370; have ea_ := Option.some.inj (hx368_4.symm.trans hx370_4)
         injection ea_ with ea_ en_ ec_
         subst ea_
         subst ec_
         clear en_; have p371 : 0 ≤ (x5_1 : Int) := ode; have q371 : x5_1 < (l0.length : Int) := ode; obtain ⟨ad371, A371_4, c371_4, e371, hx371_0, hx371_1, hx371_2, hx371_3, hx371_4, hl371_4, hi371_4⟩ := at_T67 HR0.out x5_1 p371 q371; obtain rfl : ad368 = ad371 := (by injection e371); have HR371_4 := Aside0.mk hi371_4; have HC371_4 := Aside0.mk hl371_4; clear hi371_4 hl371_4; replace p371 := eq_true p371; replace q371 := eq_true q371; have ea_ := Option.some.inj (hx368_4.symm.trans hx371_4)
         injection ea_ with ea_ en_ ec_
         subst ea_
         subst ec_
         clear en_
         go_wp2
         go_ret
         exact ⟨au, dr⟩
       ·rw [if_neg c7] at H
        have c7b0 : (((rd_T67 l0 x5_1).f2) == (wrap64 ((wrap64 (x1_1 + 1)) + 1))) = false := beq_eq_false_iff_ne.mpr c7; have c7b1 : (((rd_T67 l0 x5_1).f2) != (wrap64 ((wrap64 (x1_1 + 1)) + 1))) = true := bne_iff_ne.mpr c7; obtain rfl := Option.some.inj H; have p368 : 0 ≤ (x5_1 : Int) := ode; have q368 : x5_1 < (l0.length : Int) := ode; obtain ⟨ad368, A368_4, c368_4, e368, hx368_0, hx368_1, hx368_2, hx368_3, hx368_4, hl368_4, hi368_4⟩ := at_T67 HR0.out x5_1 p368 q368
        cases e368
        have HR368_4 := Aside0.mk hi368_4; have HC368_4 := Aside0.mk hl368_4; clear hi368_4 hl368_4; replace p368 := eq_true p368; replace q368 := eq_true q368; have p369 : 0 ≤ (x5_1 : Int) := ode; have q369 : x5_1 < (l0.length : Int) := ode; obtain ⟨ad369, A369_4, c369_4, e369, hx369_0, hx369_1, hx369_2, hx369_3, hx369_4, hl369_4, hi369_4⟩ := at_T67 HR0.out x5_1 p369 q369; obtain rfl : ad368 = ad369 := (by injection e369); have HR369_4 := Aside0.mk hi369_4; have HC369_4 := Aside0.mk hl369_4; clear hi369_4 hl369_4; replace p369 := eq_true p369; replace q369 := eq_true q369; have ea_ := Option.some.inj (hx368_4.symm.trans hx369_4)
        injection ea_ with ea_ en_ ec_
        subst ea_
        subst ec_
        clear en_; have p370 : 0 ≤ (x5_1 : Int) := ode; have q370 : x5_1 < (l0.length : Int) := ode; obtain ⟨ad370, A370_4, c370_4, e370, hx370_0, hx370_1, hx370_2, hx370_3, hx370_4, hl370_4, hi370_4⟩ := at_T67 HR0.out x5_1 p370 q370; obtain rfl : ad368 = ad370 := (by injection e370); have HR370_4 := Aside0.mk hi370_4; have HC370_4 := Aside0.mk hl370_4; clear hi370_4 hl370_4; replace p370 := eq_true p370; replace q370 := eq_true q370; have ea_ := Option.some.inj (hx368_4.symm.trans hx370_4)
        injection ea_ with ea_ en_ ec_
        subst ea_
        subst ec_
        clear en_
        go_wp2
        go_ret
        exact ⟨au, dr⟩
      ·rw [if_neg c6] at H
       have c6b0 : (((rd_T67 l0 x5_1).f1) == (wrap64 (x1_1 + 1))) = false := beq_eq_false_iff_ne.mpr c6; have c6b1 : (((rd_T67 l0 x5_1).f1) != (wrap64 (x1_1 + 1))) = true := bne_iff_ne.mpr c6; obtain rfl := Option.some.inj H; have p368 : 0 ≤ (x5_1 : Int) := ode; have q368 : x5_1 < (l0.length : Int) := ode; obtain ⟨ad368, A368_4, c368_4, e368, hx368_0, hx368_1, hx368_2, hx368_3, hx368_4, hl368_4, hi368_4⟩ := at_T67 HR0.out x5_1 p368 q368
       cases e368
       have HR368_4 := Aside0.mk hi368_4; have HC368_4 := Aside0.mk hl368_4; clear hi368_4 hl368_4; replace p368 := eq_true p368; replace q368 := eq_true q368; have p369 : 0 ≤ (x5_1 : Int) := ode; have q369 : x5_1 < (l0.length : Int) := ode; obtain ⟨ad369, A369_4, c369_4, e369, hx369_0, hx369_1, hx369_2, hx369_3, hx369_4, hl369_4, hi369_4⟩ := at_T67 HR0.out x5_1 p369 q369; obtain rfl : ad368 = ad369 := (by injection e369); have HR369_4 := Aside0.mk hi369_4; have HC369_4 := Aside0.mk hl369_4; clear hi369_4 hl369_4; replace p369 := eq_true p369; replace q369 := eq_true q369; have ea_ := Option.some.inj (hx368_4.symm.trans hx369_4)
       injection ea_ with ea_ en_ ec_
       subst ea_
       subst ec_
       clear en_
       go_wp2
       go_ret
       exact ⟨au, dr⟩
     ·rw [if_neg c5] at H
      have c5b0 : (((rd_T67 l0 x5_1).f0) == x1_1) = false := beq_eq_false_iff_ne.mpr c5; have c5b1 : (((rd_T67 l0 x5_1).f0) != x1_1) = true := bne_iff_ne.mpr c5; obtain rfl := Option.some.inj H; have p368 : 0 ≤ (x5_1 : Int) := ode; have q368 : x5_1 < (l0.length : Int) := ode; obtain ⟨ad368, A368_4, c368_4, e368, hx368_0, hx368_1, hx368_2, hx368_3, hx368_4, hl368_4, hi368_4⟩ := at_T67 HR0.out x5_1 p368 q368
      cases e368
      have HR368_4 := Aside0.mk hi368_4; have HC368_4 := Aside0.mk hl368_4; clear hi368_4 hl368_4; replace p368 := eq_true p368; replace q368 := eq_true q368
      go_wp2
      go_ret
      exact ⟨au, dr⟩
    ·rw [if_neg c4] at H
     exact absurd H (by simp)
   ·rw [if_neg c3] at H
    have c3b0 : decide (x5_1 < (l0.length : Int)) = false := decide_eq_false c3; clear c3; obtain rfl := Option.some.inj H
    go_wp2
    go_ret
    exact ⟨au, dr⟩

-- NOT PRINTED: function 3 (laws_FnExactFlatJoin)

end Go.Proofs.Ytjnmenadlnajeaa.PFnExactFlatJoin
