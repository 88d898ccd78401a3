-- Written by a program of this session (a turned copy of the kit's printer); Lean checks it.
-- half the depth
import Derived.Test.YtjjlcmfjmdfedaaPFnExactReadTreex0
namespace Go.Proofs.Ytjjlcmfjmdfedaa.PFnExactReadTree
open Go.RowKit Go.Proofs.YtjjlcmfjmdfedaaW.PrintWords Go.Proofs.YtjjlcmfjmdfedaaW.PrintLast Go.Proofs.YtjjlcmfjmdfedaaW.PrintMore
attribute [local go_sem] max2_int min2_int max_two min_two max_three min_three max_four min_four   -- for this text's walks alone
set_option linter.unusedVariables false
set_option linter.unusedSimpArgs false

/-! ### spec_l2Atom: function 48 -/
def spec_l2Atom.l0 : Nat → ByteArray → Int → Option (Bool)
 | 0, _, _ => none
 | k + 1, x0, x3 => if x3 < (x0.size : Int) then (if 0 ≤ x3 then (if (bt x0 x3) < 33 then (some false) else (if (bt x0 x3) > 126 then (some false) else (if (bt x0 x3) = 40 then (some false) else (if (bt x0 x3) = 41 then (some false) else (if (bt x0 x3) = 59 then (some false) else (spec_l2Atom.l0 k x0 (wrap64 (x3 + 1)))))))) else (none)) else (some (decide ((x0.size : Int) > 0)))
def spec_l2Atom.f (k : Nat) (a0 : ByteArray) : Option (Bool) := spec_l2Atom.l0 k a0 0
set_option maxHeartbeats 8000000 in
set_option maxRecDepth 100000 in
theorem spec_l2Atom.calls (k : Nat) (a0 : ByteArray) (r : Bool) (w : World) (h : spec_l2Atom.f k a0 = some r) :
  Calls Try.prog 48 #[.string a0] w fun e w' => e = .returned (.bool r) ∧ Drawn0 w w' := by
 have H : (spec_l2Atom.l0 k a0 0) = some r := h; clear h; have H' := Aside0.mk H; clear H
 go_enter Try.func48, Try.ntmps48
 go_wp2
 go_loopg [3] k (fun kq v3 w' => ∃ (x3_1 : Int), v3 = .int .i64 x3_1 ∧ Aside0 (spec_l2Atom.l0 kq a0 x3_1 = some r) ∧ Aside0 (kq ≤ k) ∧ Drawn0 w w')
 case atStart => exact ⟨(0), au, H', ⟨Nat.le_refl _⟩, dr⟩
 case round =>
  clear H'; obtain ⟨x3_1, rfl, HA, HK1, ⟨m1, rfl⟩⟩ := hrel
  cases gk with
  | zero => exact absurd HA.out (by simp [spec_l2Atom.l0])
  | succ k1 =>
   have H := HA.out; clear HA
   simp only [spec_l2Atom.l0] at H
   by_cases c2 : x3_1 < (a0.size : Int)
   ·rw [if_pos c2] at H
    have c2b0 : decide (x3_1 < (a0.size : Int)) = true := decide_eq_true c2; clear c2
    by_cases c3 : 0 ≤ x3_1
    ·rw [if_pos c3] at H
     have c3b0 : decide (0 ≤ x3_1) = true := decide_eq_true c3; clear c3
     by_cases c5 : (bt a0 x3_1) < 33
     ·rw [if_pos c5] at H
      have c5b0 : decide ((bt a0 x3_1) < 33) = true := decide_eq_true c5; clear c5; obtain rfl := Option.some.inj H; have p4 : 0 ≤ (x3_1 : Int) := ode; have q4 : x3_1 < (a0.size : Int) := ode; have hx4 := bt_at a0 x3_1; replace p4 := eq_true p4; replace q4 := eq_true q4
      go_wp2
      go_ret
      exact ⟨au, dr⟩
     ·rw [if_neg c5] at H
      have c5b0 : decide ((bt a0 x3_1) < 33) = false := decide_eq_false c5; clear c5
      by_cases c7 : (bt a0 x3_1) > 126
      ·rw [if_pos c7] at H
       have c7b0 : decide (126 < (bt a0 x3_1)) = true := decide_eq_true c7; clear c7; obtain rfl := Option.some.inj H; have p4 : 0 ≤ (x3_1 : Int) := ode; have q4 : x3_1 < (a0.size : Int) := ode; have hx4 := bt_at a0 x3_1; replace p4 := eq_true p4; replace q4 := eq_true q4; have p6 : 0 ≤ (x3_1 : Int) := ode; have q6 : x3_1 < (a0.size : Int) := ode; have hx6 := bt_at a0 x3_1; replace p6 := eq_true p6; replace q6 := eq_true q6
       go_wp2
       go_ret
       exact ⟨au, dr⟩
      ·rw [if_neg c7] at H
       have c7b0 : decide (126 < (bt a0 x3_1)) = false := decide_eq_false c7; clear c7
       by_cases c9 : (bt a0 x3_1) = 40
       ·rw [if_pos c9] at H
        have c9b0 : ((bt a0 x3_1) == 40) = true := beq_iff_eq.mpr c9; have c9b1 : ((bt a0 x3_1) != 40) = false := bne_eq_false_iff_eq.mpr c9; clear c9; obtain rfl := Option.some.inj H; have p4 : 0 ≤ (x3_1 : Int) := ode; have q4 : x3_1 < (a0.size : Int) := ode; have hx4 := bt_at a0 x3_1; replace p4 := eq_true p4; replace q4 := eq_true q4; have p6 : 0 ≤ (x3_1 : Int) := ode; have q6 : x3_1 < (a0.size : Int) := ode; have hx6 := bt_at a0 x3_1; replace p6 := eq_true p6; replace q6 := eq_true q6; have p8 : 0 ≤ (x3_1 : Int) := ode; have q8 : x3_1 < (a0.size : Int) := ode; have hx8 := bt_at a0 x3_1; replace p8 := eq_true p8; replace q8 := eq_true q8
        go_wp2
        go_ret
        exact ⟨au, dr⟩
       ·rw [if_neg c9] at H
        have c9b0 : ((bt a0 x3_1) == 40) = false := beq_eq_false_iff_ne.mpr c9; have c9b1 : ((bt a0 x3_1) != 40) = true := bne_iff_ne.mpr c9
        by_cases c11 : (bt a0 x3_1) = 41
        ·rw [if_pos c11] at H
         have c11b0 : ((bt a0 x3_1) == 41) = true := beq_iff_eq.mpr c11; have c11b1 : ((bt a0 x3_1) != 41) = false := bne_eq_false_iff_eq.mpr c11; clear c11; obtain rfl := Option.some.inj H; have p4 : 0 ≤ (x3_1 : Int) := ode; have q4 : x3_1 < (a0.size : Int) := ode; have hx4 := bt_at a0 x3_1; replace p4 := eq_true p4; replace q4 := eq_true q4; have p6 : 0 ≤ (x3_1 : Int) := ode; have q6 : x3_1 < (a0.size : Int) := ode; have hx6 := bt_at a0 x3_1; replace p6 := eq_true p6; replace q6 := eq_true q6; have p8 : 0 ≤ (x3_1 : Int) := ode; have q8 : x3_1 < (a0.size : Int) := ode; have hx8 := bt_at a0 x3_1; replace p8 := eq_true p8; replace q8 := eq_true q8; have p10 : 0 ≤ (x3_1 : Int) := ode; have q10 : x3_1 < (a0.size : Int) := ode; have hx10 := bt_at a0 x3_1; replace p10 := eq_true p10; replace q10 := eq_true q10
         go_wp2
         go_ret
         exact ⟨au, dr⟩
        ·rw [if_neg c11] at H
         have c11b0 : ((bt a0 x3_1) == 41) = false := beq_eq_false_iff_ne.mpr c11; have c11b1 : ((bt a0 x3_1) != 41) = true := bne_iff_ne.mpr c11
         by_cases c13 : (bt a0 x3_1) = 59
         ·rw [if_pos c13] at H
          have c13b0 : ((bt a0 x3_1) == 59) = true := beq_iff_eq.mpr c13; have c13b1 : ((bt a0 x3_1) != 59) = false := bne_eq_false_iff_eq.mpr c13; clear c13; obtain rfl := Option.some.inj H; have p4 : 0 ≤ (x3_1 : Int) := ode; have q4 : x3_1 < (a0.size : Int) := ode; have hx4 := bt_at a0 x3_1; replace p4 := eq_true p4; replace q4 := eq_true q4; have p6 : 0 ≤ (x3_1 : Int) := ode; have q6 : x3_1 < (a0.size : Int) := ode; have hx6 := bt_at a0 x3_1; replace p6 := eq_true p6; replace q6 := eq_true q6; have p8 : 0 ≤ (x3_1 : Int) := ode; have q8 : x3_1 < (a0.size : Int) := ode; have hx8 := bt_at a0 x3_1; replace p8 := eq_true p8; replace q8 := eq_true q8; have p10 : 0 ≤ (x3_1 : Int) := ode; have q10 : x3_1 < (a0.size : Int) := ode; have hx10 := bt_at a0 x3_1; replace p10 := eq_true p10; replace q10 := eq_true q10; have p12 : 0 ≤ (x3_1 : Int) := ode; have q12 : x3_1 < (a0.size : Int) := ode; have hx12 := bt_at a0 x3_1; replace p12 := eq_true p12; replace q12 := eq_true q12
          go_wp2
          go_ret
          exact ⟨au, dr⟩
         ·rw [if_neg c13] at H
          have c13b0 : ((bt a0 x3_1) == 59) = false := beq_eq_false_iff_ne.mpr c13; have c13b1 : ((bt a0 x3_1) != 59) = true := bne_iff_ne.mpr c13; have H' := Aside0.mk H; clear H; have p4 : 0 ≤ (x3_1 : Int) := ode; have q4 : x3_1 < (a0.size : Int) := ode; have hx4 := bt_at a0 x3_1; replace p4 := eq_true p4; replace q4 := eq_true q4; have p6 : 0 ≤ (x3_1 : Int) := ode; have q6 : x3_1 < (a0.size : Int) := ode; have hx6 := bt_at a0 x3_1; replace p6 := eq_true p6; replace q6 := eq_true q6; have p8 : 0 ≤ (x3_1 : Int) := ode; have q8 : x3_1 < (a0.size : Int) := ode; have hx8 := bt_at a0 x3_1; replace p8 := eq_true p8; replace q8 := eq_true q8; have p10 : 0 ≤ (x3_1 : Int) := ode; have q10 : x3_1 < (a0.size : Int) := ode; have hx10 := bt_at a0 x3_1; replace p10 := eq_true p10; replace q10 := eq_true q10; have p12 : 0 ≤ (x3_1 : Int) := ode; have q12 : x3_1 < (a0.size : Int) := ode; have hx12 := bt_at a0 x3_1; replace p12 := eq_true p12; replace q12 := eq_true q12
          go_wp2
          go_roundg k1
          case measure => have := HK1.out; omega
          case rel => exact ⟨(wrap64 (x3_1 + 1)), au, H', ⟨by have := HK1.out; omega⟩, dr⟩
    ·rw [if_neg c3] at H
     exact absurd H (by simp)
   ·rw [if_neg c2] at H
    have c2b0 : decide (x3_1 < (a0.size : Int)) = false := decide_eq_false c2; clear c2; obtain rfl := Option.some.inj H
    go_wp2
    go_ret
    exact ⟨au, dr⟩

/-! ### spec_l2End: function 30 -/
def spec_l2End.l0 : Nat → ByteArray → Int → Option (Int)
 | 0, _, _ => none
 | k + 1, x0, x1 => if x1 < (x0.size : Int) then (if 0 ≤ x1 then (if x1 ≤ (wrap64 (x1 + 1)) then (if (wrap64 (x1 + 1)) ≤ (x0.size : Int) then ((spec_l2Atom.f k (x0.extract (x1 : Int).toNat ((wrap64 (x1 + 1)) : Int).toNat)).bind fun t112 => (if t112 = true then (spec_l2End.l0 k x0 (wrap64 (x1 + 1))) else (some x1))) else (none)) else (none)) else (none)) else (some x1)
def spec_l2End.f (k : Nat) (a0 : ByteArray) (a1 : Int) : Option (Int) := spec_l2End.l0 k a0 a1
set_option maxHeartbeats 8000000 in
set_option maxRecDepth 100000 in
theorem spec_l2End.calls (k : Nat) (a0 : ByteArray) (a1 : Int) (r : Int) (w : World) (h : spec_l2End.f k a0 a1 = some r) :
  Calls Try.prog 30 #[.string a0, .int .i64 a1] w fun e w' => e = .returned (.int .i64 r) ∧ Drawn0 w w' := by
 have H : (spec_l2End.l0 k a0 a1) = some r := h; clear h; have H' := Aside0.mk H; clear H
 go_enter Try.func30, Try.ntmps30
 go_wp2
 go_loopg [1] k (fun kq v1 w' => ∃ (x1_1 : Int), v1 = .int .i64 x1_1 ∧ Aside0 (spec_l2End.l0 kq a0 x1_1 = some r) ∧ Aside0 (kq ≤ k) ∧ Drawn0 w w')
 case atStart => exact ⟨(a1), au, H', ⟨Nat.le_refl _⟩, dr⟩
 case round =>
  clear H'
  try clear p2
  obtain ⟨x1_1, rfl, HA, HK1, ⟨m1, rfl⟩⟩ := hrel
  cases gk with
  | zero => exact absurd HA.out (by simp [spec_l2End.l0])
  | succ k1 =>
   have H := HA.out; clear HA
   simp only [spec_l2End.l0] at H
   by_cases c3 : x1_1 < (a0.size : Int)
   ·rw [if_pos c3] at H
    have c3b0 : decide (x1_1 < (a0.size : Int)) = true := decide_eq_true c3; clear c3
    by_cases c4 : 0 ≤ x1_1
    ·rw [if_pos c4] at H
     have c4b0 := eq_true c4; have c4b1 : decide (0 ≤ x1_1) = true := decide_eq_true c4; clear c4
     by_cases c5 : x1_1 ≤ (wrap64 (x1_1 + 1))
     ·rw [if_pos c5] at H
      have c5b0 := eq_true c5; have c5b1 : decide (x1_1 ≤ (wrap64 (x1_1 + 1))) = true := decide_eq_true c5
      by_cases c6 : (wrap64 (x1_1 + 1)) ≤ (a0.size : Int)
      ·rw [if_pos c6] at H
       have c6b0 := eq_true c6; have c6b1 : decide ((wrap64 (x1_1 + 1)) ≤ (a0.size : Int)) = true := decide_eq_true c6; replace H := Option.bind_eq_some_iff.mp H; obtain ⟨t112, A70, H⟩ := H; replace H : (if t112 = true then (spec_l2End.l0 k1 a0 (wrap64 (x1_1 + 1))) else (some x1_1)) = some r := H; have A7 := Aside0.mk A70; clear A70
       by_cases c8 : t112 = true
       ·subst c8
        have H1 : (spec_l2End.l0 k1 a0 (wrap64 (x1_1 + 1))) = some r := by rw [if_pos rfl] at H; exact H
        clear H; have H := H1; clear H1; have H' := Aside0.mk H; clear H
        go_wp2_with (first | (go_at_call 48; (with_reducible refine (spec_l2Atom.calls k1 (a0.extract (x1_1 : Int).toNat ((wrap64 (x1_1 + 1)) : Int).toNat) true _ A7.out).mono ?_); rintro e w' ⟨rfl, ⟨nd, rfl⟩⟩))
        go_roundg k1
        case measure => have := HK1.out; omega
        case rel => exact ⟨(wrap64 (x1_1 + 1)), au, H', ⟨by have := HK1.out; omega⟩, dr⟩
       ·replace c8 := Bool.eq_false_iff.mpr c8
        subst c8
        have H1 : (some x1_1) = some r := by rw [if_neg (show ¬ (false = true) by decide)] at H; exact H
        clear H; have H := H1; clear H1; obtain rfl := Option.some.inj H
        go_wp2_with (first | (go_at_call 48; (with_reducible refine (spec_l2Atom.calls k1 (a0.extract (x1_1 : Int).toNat ((wrap64 (x1_1 + 1)) : Int).toNat) false _ A7.out).mono ?_); rintro e w' ⟨rfl, ⟨nd, rfl⟩⟩))
        go_ret
        exact ⟨au, dr⟩
      ·rw [if_neg c6] at H
       exact absurd H (by simp)
     ·rw [if_neg c5] at H
      exact absurd H (by simp)
    ·rw [if_neg c4] at H
     exact absurd H (by simp)
   ·rw [if_neg c3] at H
    have c3b0 : decide (x1_1 < (a0.size : Int)) = false := decide_eq_false c3; clear c3; obtain rfl := Option.some.inj H
    go_wp2
    go_ret
    exact ⟨au, dr⟩

end Go.Proofs.Ytjjlcmfjmdfedaa.PFnExactReadTree
