-- Written by a program of this session (a turned copy of the kit's printer); Lean checks it.
-- half the depth
import Derived.Test.YtpkclocdenagcaaPFnSettledx0
import Derived.Test.YtpkclocdenagcaaPFnSettledx1
namespace Go.Proofs.Ytpkclocdenagcaa.PFnSettled
open Go.RowKit Go.Proofs.YtpkclocdenagcaaW.PrintWords Go.Proofs.YtpkclocdenagcaaW.PrintLast Go.Proofs.YtpkclocdenagcaaW.PrintMore
attribute [local go_sem] max2_int min2_int max_two min_two max_three min_three max_four min_four   -- for this text's walks alone
set_option linter.unusedVariables false
set_option linter.unusedSimpArgs false

/-! ### spec_l1Has: function 45 -/
def spec_l1Has.l0 : Nat → List Int → Int → Int → Option (Bool)
 | 0, _, _, _ => none
 | k + 1, x0, x1, x5 => if x5 < (x0.length : Int) then (if 0 ≤ x5 then (if (rd x0 x5) = x1 then (some true) else (spec_l1Has.l0 k x0 x1 (wrap64 (x5 + 1)))) else (none)) else (some false)
def spec_l1Has.f (k : Nat) (l0 : List Int) (a1 : Int) : Option (Bool) := spec_l1Has.l0 k l0 a1 0
set_option maxHeartbeats 8000000 in
set_option maxRecDepth 100000 in
theorem spec_l1Has.calls (k : Nat) (A0 : Option Addr) (c0 : Nat) (l0 : List Int) (a1 : Int) (r : Bool) (w : World) (hr0 : Kd.C (Kd.int .i64) w A0 l0.length l0) (hc0 : l0.length ≤ c0) (h : spec_l1Has.f k l0 a1 = some r) :
  Calls Try.prog 45 #[.slice A0 l0.length c0, .int .i64 a1] w fun e w' => e = .returned (.bool r) ∧ Drawn0 w w' := by
 have HR0 := Aside0.mk hr0; have HC0 := Aside0.mk hc0; clear hr0 hc0; have H : (spec_l1Has.l0 k l0 a1 0) = some r := h; clear h; have H' := Aside0.mk H; clear H
 go_enter Try.func45, Try.ntmps45
 go_wp2
 go_loopg [5] k (fun kq v5 w' => ∃ (x5_1 : Int), v5 = .int .i64 x5_1 ∧ Aside0 (spec_l1Has.l0 kq l0 a1 x5_1 = some r) ∧ Aside0 (kq ≤ k) ∧ Drawn0 w w')
 case atStart => exact ⟨(0), au, H', ⟨Nat.le_refl _⟩, dr⟩
 case round =>
  clear H'
  try clear p2
  obtain ⟨x5_1, rfl, HA, HK1, ⟨m1, rfl⟩⟩ := hrel
  cases gk with
  | zero => exact absurd HA.out (by simp [spec_l1Has.l0])
  | succ k1 =>
   have H := HA.out; clear HA
   simp only [spec_l1Has.l0] at H
   by_cases c3 : x5_1 < (l0.length : Int)
   ·rw [if_pos c3] at H
    have c3b0 : decide (x5_1 < (l0.length : Int)) = true := decide_eq_true c3; clear c3
    by_cases c4 : 0 ≤ x5_1
    ·rw [if_pos c4] at H
     have c4b0 : decide (0 ≤ x5_1) = true := decide_eq_true c4; clear c4
     by_cases c5 : (rd l0 x5_1) = a1
     ·rw [if_pos c5] at H
      have c5b0 : ((rd l0 x5_1) == a1) = true := beq_iff_eq.mpr c5; have c5b1 : ((rd l0 x5_1) != a1) = false := bne_eq_false_iff_eq.mpr c5; clear c5; obtain rfl := Option.some.inj H; have p114 : 0 ≤ (x5_1 : Int) := ode; have q114 : x5_1 < (l0.length : Int) := ode; obtain ⟨ad114, e114, hx114_0⟩ := Kd.at_int HR0.out x5_1 p114 q114
      cases e114
      replace p114 := eq_true p114; replace q114 := eq_true q114
      go_wp2
      go_ret
      exact ⟨au, dr⟩
     ·rw [if_neg c5] at H
      have c5b0 : ((rd l0 x5_1) == a1) = false := beq_eq_false_iff_ne.mpr c5; have c5b1 : ((rd l0 x5_1) != a1) = true := bne_iff_ne.mpr c5; have H' := Aside0.mk H; clear H; have p114 : 0 ≤ (x5_1 : Int) := ode; have q114 : x5_1 < (l0.length : Int) := ode; obtain ⟨ad114, e114, hx114_0⟩ := Kd.at_int HR0.out x5_1 p114 q114
      cases e114
      replace p114 := eq_true p114; replace q114 := eq_true q114
      go_wp2
      go_roundg k1
      case measure => have := HK1.out; omega
      case rel => exact ⟨(wrap64 (x5_1 + 1)), au, H', ⟨by have := HK1.out; omega⟩, dr⟩
    ·rw [if_neg c4] at H
     exact absurd H (by simp)
   ·rw [if_neg c3] at H
    have c3b0 : decide (x5_1 < (l0.length : Int)) = false := decide_eq_false c3; clear c3; obtain rfl := Option.some.inj H
    go_wp2
    go_ret
    exact ⟨au, dr⟩

/-! ### spec_l18State: function 72 -/
def spec_l18State.l0 : Nat → List Int → List Int → Int → Int → Int → Option (Int × Int)
 | 0, _, _, _, _, _ => none
 | k + 1, x0, x1, x6, x7, x8 => if x8 < (x0.length : Int) then (if 0 ≤ x8 then ((spec_l18Abs.f (rd x0 x8)).bind fun t116 => (if 0 ≤ t116 then (if t116 < (x1.length : Int) then (if (rd x1 t116) = (rd x0 x8) then (some (0, 0)) else (if (rd x1 t116) = 0 then (spec_l18State.l0 k x0 x1 (rd x0 x8) (wrap64 (x7 + 1)) (wrap64 (x8 + 1))) else (spec_l18State.l0 k x0 x1 x6 x7 (wrap64 (x8 + 1))))) else (none)) else (none))) else (none)) else (if x7 = 0 then (some (2, 0)) else (if x7 = 1 then (some (1, x6)) else (some (0, 0))))
def spec_l18State.f (k : Nat) (l0 : List Int) (l1 : List Int) : Option (Int × Int) := spec_l18State.l0 k l0 l1 0 0 0
set_option maxHeartbeats 8000000 in
set_option maxRecDepth 100000 in
theorem spec_l18State.calls (k : Nat) (A0 : Option Addr) (c0 : Nat) (l0 : List Int) (A1 : Option Addr) (c1 : Nat) (l1 : List Int) (r1 : Int) (r2 : Int) (w : World) (hr0 : Kd.C (Kd.int .i64) w A0 l0.length l0) (hc0 : l0.length ≤ c0) (hr1 : Kd.C (Kd.int .i64) w A1 l1.length l1) (hc1 : l1.length ≤ c1) (h : spec_l18State.f k l0 l1 = some (r1, r2)) :
  Calls Try.prog 72 #[.slice A0 l0.length c0, .slice A1 l1.length c1] w fun e w' => e = .returned (.tuple #[.int .i64 r1, .int .i64 r2]) ∧ Below w.heap.size w w' := by
 have HR0 := Aside0.mk hr0; have HC0 := Aside0.mk hc0; clear hr0 hc0; have HR1 := Aside0.mk hr1; have HC1 := Aside0.mk hc1; clear hr1 hc1; have HB := Aside0.mk (Below.refl w.heap.size w); have H : (spec_l18State.l0 k l0 l1 0 0 0) = some (r1, r2) := h; clear h; have H' := Aside0.mk H; clear H
 go_enter Try.func72, Try.ntmps72
 go_wp2
 go_loopg [6, 7, 8] k (fun kq v6 v7 v8 w' => ∃ (x6_1 : Int) (x7_1 : Int) (x8_1 : Int), v6 = .int .i64 x6_1 ∧ v7 = .int .i64 x7_1 ∧ v8 = .int .i64 x8_1 ∧ Aside0 (spec_l18State.l0 kq l0 l1 x6_1 x7_1 x8_1 = some (r1, r2)) ∧ Aside0 (kq ≤ k) ∧ Aside0 (Below w.heap.size w w'))
 case atStart => exact ⟨(0), (0), (0), au, au, au, H', ⟨Nat.le_refl _⟩, ⟨bl HB⟩⟩
 case round =>
  clear H'
  try clear c1
  try clear p2
  obtain ⟨x6_1, x7_1, x8_1, rfl, rfl, rfl, HA, HK1, HB⟩ := hrel
  cases gk with
  | zero => exact absurd HA.out (by simp [spec_l18State.l0])
  | succ k1 =>
   have H := HA.out; clear HA
   simp only [spec_l18State.l0] at H
   by_cases c3 : x8_1 < (l0.length : Int)
   ·rw [if_pos c3] at H
    have c3b0 : decide (x8_1 < (l0.length : Int)) = true := decide_eq_true c3; clear c3
    by_cases c4 : 0 ≤ x8_1
    ·rw [if_pos c4] at H
     have c4b0 : decide (0 ≤ x8_1) = true := decide_eq_true c4; clear c4; replace H := Option.bind_eq_some_iff.mp H; obtain ⟨t116, A50, H⟩ := H; replace H : (if 0 ≤ t116 then (if t116 < (l1.length : Int) then (if (rd l1 t116) = (rd l0 x8_1) then (some (0, 0)) else (if (rd l1 t116) = 0 then (spec_l18State.l0 k1 l0 l1 (rd l0 x8_1) (wrap64 (x7_1 + 1)) (wrap64 (x8_1 + 1))) else (spec_l18State.l0 k1 l0 l1 x6_1 x7_1 (wrap64 (x8_1 + 1))))) else (none)) else (none)) = some (r1, r2) := H; have A5 := Aside0.mk A50; clear A50
     by_cases c6 : 0 ≤ t116
     ·rw [if_pos c6] at H
      have c6b0 : decide (0 ≤ t116) = true := decide_eq_true c6; clear c6
      by_cases c7 : t116 < (l1.length : Int)
      ·rw [if_pos c7] at H
       have c7b0 : decide (t116 < (l1.length : Int)) = true := decide_eq_true c7; clear c7
       by_cases c8 : (rd l1 t116) = (rd l0 x8_1)
       ·rw [if_pos c8] at H
        have c8b0 : ((rd l1 t116) == (rd l0 x8_1)) = true := beq_iff_eq.mpr c8; have c8b1 : ((rd l1 t116) != (rd l0 x8_1)) = false := bne_eq_false_iff_eq.mpr c8; clear c8
        simp only [Option.some.injEq, Prod.mk.injEq] at H
        obtain ⟨rfl, rfl⟩ := H; have p115 : 0 ≤ (x8_1 : Int) := ode; have q115 : x8_1 < (l0.length : Int) := ode; obtain ⟨ad115, e115, hx115_0⟩ := Kd.at_int HR0.out x8_1 p115 q115
        cases e115
        replace hx115_0 := cl HB hx115_0; replace p115 := eq_true p115; replace q115 := eq_true q115
        go_wp2_with (first | ((with_reducible refine gate_callee (f := 60) rfl ?_); refine goesL_ (some 23) rfl rfl Try.func60 (by kernel_rfl) rfl #[.int .i64 (rd l0 x8_1)] rfl ma ?_; (with_reducible refine (spec_l18Abs.calls (rd l0 x8_1) t116 _ A5.out).mono ?_); rintro e w9 ⟨rfl, hb⟩; refine ⟨_, rfl, ?_⟩; have n0_ := Aside0.mk (below_step (bl HB) hb); clear HB; have HB := n0_; clear n0_; (try clear hb); (try clear hb2); (try clear hk); (try clear hi); have p117 : 0 ≤ (t116 : Int) := ode; have q117 : t116 < (l1.length : Int) := ode; obtain ⟨ad117, e117, hx117_0⟩ := Kd.at_int HR1.out t116 p117 q117; cases e117; replace hx117_0 := cl HB hx117_0; replace p117 := eq_true p117; replace q117 := eq_true q117))
        go_ret2
        exact ⟨by first | rfl | (simp [errW_none, errW_some] <;> rfl) | (simp [*, errW_none, errW_some] <;> rfl), bl HB⟩
       ·rw [if_neg c8] at H
        have c8b0 : ((rd l1 t116) == (rd l0 x8_1)) = false := beq_eq_false_iff_ne.mpr c8; have c8b1 : ((rd l1 t116) != (rd l0 x8_1)) = true := bne_iff_ne.mpr c8
        by_cases c10 : (rd l1 t116) = 0
        ·rw [if_pos c10] at H
         have c10b0 : ((rd l1 t116) == 0) = true := beq_iff_eq.mpr c10; have c10b1 : ((rd l1 t116) != 0) = false := bne_eq_false_iff_eq.mpr c10; clear c10; have H' := Aside0.mk H; clear H; have p115 : 0 ≤ (x8_1 : Int) := ode; have q115 : x8_1 < (l0.length : Int) := ode; obtain ⟨ad115, e115, hx115_0⟩ := Kd.at_int HR0.out x8_1 p115 q115
         cases e115
         replace hx115_0 := cl HB hx115_0; replace p115 := eq_true p115; replace q115 := eq_true q115
         go_wp2_with (first | ((with_reducible refine gate_callee (f := 60) rfl ?_); refine goesL_ (some 23) rfl rfl Try.func60 (by kernel_rfl) rfl #[.int .i64 (rd l0 x8_1)] rfl ma ?_; (with_reducible refine (spec_l18Abs.calls (rd l0 x8_1) t116 _ A5.out).mono ?_); rintro e w11 ⟨rfl, hb⟩; refine ⟨_, rfl, ?_⟩; have n0_ := Aside0.mk (below_step (bl HB) hb); clear HB; have HB := n0_; clear n0_; (try clear hb); (try clear hb2); (try clear hk); (try clear hi); have p117 : 0 ≤ (t116 : Int) := ode; have q117 : t116 < (l1.length : Int) := ode; obtain ⟨ad117, e117, hx117_0⟩ := Kd.at_int HR1.out t116 p117 q117; cases e117; replace hx117_0 := cl HB hx117_0; replace p117 := eq_true p117; replace q117 := eq_true q117))
         go_roundg k1
         case measure => have := HK1.out; omega
         case rel => exact ⟨(rd l0 x8_1), (wrap64 (x7_1 + 1)), (wrap64 (x8_1 + 1)), au, au, au, H', ⟨by have := HK1.out; omega⟩, ⟨bl HB⟩⟩
        ·rw [if_neg c10] at H
         have c10b0 : ((rd l1 t116) == 0) = false := beq_eq_false_iff_ne.mpr c10; have c10b1 : ((rd l1 t116) != 0) = true := bne_iff_ne.mpr c10; have H' := Aside0.mk H; clear H; have p115 : 0 ≤ (x8_1 : Int) := ode; have q115 : x8_1 < (l0.length : Int) := ode; obtain ⟨ad115, e115, hx115_0⟩ := Kd.at_int HR0.out x8_1 p115 q115
         cases e115
         replace hx115_0 := cl HB hx115_0; replace p115 := eq_true p115; replace q115 := eq_true q115
         go_wp2_with (first | ((with_reducible refine gate_callee (f := 60) rfl ?_); refine goesL_ (some 23) rfl rfl Try.func60 (by kernel_rfl) rfl #[.int .i64 (rd l0 x8_1)] rfl ma ?_; (with_reducible refine (spec_l18Abs.calls (rd l0 x8_1) t116 _ A5.out).mono ?_); rintro e w12 ⟨rfl, hb⟩; refine ⟨_, rfl, ?_⟩; have n0_ := Aside0.mk (below_step (bl HB) hb); clear HB; have HB := n0_; clear n0_; (try clear hb); (try clear hb2); (try clear hk); (try clear hi); have p117 : 0 ≤ (t116 : Int) := ode; have q117 : t116 < (l1.length : Int) := ode; obtain ⟨ad117, e117, hx117_0⟩ := Kd.at_int HR1.out t116 p117 q117; cases e117; replace hx117_0 := cl HB hx117_0; replace p117 := eq_true p117; replace q117 := eq_true q117))
         go_roundg k1
         case measure => have := HK1.out; omega
         case rel => exact ⟨(x6_1), (x7_1), (wrap64 (x8_1 + 1)), au, au, au, H', ⟨by have := HK1.out; omega⟩, ⟨bl HB⟩⟩
      ·rw [if_neg c7] at H
       exact absurd H (by simp)
     ·rw [if_neg c6] at H
      exact absurd H (by simp)
    ·rw [if_neg c4] at H
     exact absurd H (by simp)
   ·rw [if_neg c3] at H
    have c3b0 : decide (x8_1 < (l0.length : Int)) = false := decide_eq_false c3; clear c3
    by_cases c13 : x7_1 = 0
    ·rw [if_pos c13] at H
     have c13b0 : (x7_1 == 0) = true := beq_iff_eq.mpr c13; have c13b1 : (x7_1 != 0) = false := bne_eq_false_iff_eq.mpr c13; clear c13
     simp only [Option.some.injEq, Prod.mk.injEq] at H
     obtain ⟨rfl, rfl⟩ := H
     go_wp2
     go_ret2
     exact ⟨by first | rfl | (simp [errW_none, errW_some] <;> rfl) | (simp [*, errW_none, errW_some] <;> rfl), bl HB⟩
    ·rw [if_neg c13] at H
     have c13b0 : (x7_1 == 0) = false := beq_eq_false_iff_ne.mpr c13; have c13b1 : (x7_1 != 0) = true := bne_iff_ne.mpr c13
     by_cases c14 : x7_1 = 1
     ·rw [if_pos c14] at H
      have c14b0 : (x7_1 == 1) = true := beq_iff_eq.mpr c14; have c14b1 : (x7_1 != 1) = false := bne_eq_false_iff_eq.mpr c14; clear c14
      simp only [Option.some.injEq, Prod.mk.injEq] at H
      obtain ⟨rfl, rfl⟩ := H
      go_wp2
      go_ret2
      exact ⟨by first | rfl | (simp [errW_none, errW_some] <;> rfl) | (simp [*, errW_none, errW_some] <;> rfl), bl HB⟩
     ·rw [if_neg c14] at H
      have c14b0 : (x7_1 == 1) = false := beq_eq_false_iff_ne.mpr c14; have c14b1 : (x7_1 != 1) = true := bne_iff_ne.mpr c14
      simp only [Option.some.injEq, Prod.mk.injEq] at H
      obtain ⟨rfl, rfl⟩ := H
      go_wp2
      go_ret2
      exact ⟨by first | rfl | (simp [errW_none, errW_some] <;> rfl) | (simp [*, errW_none, errW_some] <;> rfl), bl HB⟩

/-! ### spec_l18Unit: function 46 -/
mutual
def spec_l18Unit.l0 : Nat → List Int → List Int → List Int → Int → Int → List (List Int) → Option (List Int × Bool)
 | 0, _, _, _, _, _, _ => none
 | k + 1, x1, x6, x7, x8, x119000, x119001 => if x8 < (x1.length : Int) then (if 0 ≤ x8 then ((spec_l18Abs.f (rd x1 x8)).bind fun t129 => (if 0 ≤ t129 then (if t129 < (x6.length : Int) then (spec_l18Unit.l0 k x1 (x6.set (t129 : Int).toNat (rd x1 x8)) x7 (wrap64 (x8 + 1)) x119000 x119001) else (none)) else (none))) else (none)) else (spec_l18Unit.l1 k x6 x7 0 x119000 x119001)
def spec_l18Unit.l1 : Nat → List Int → List Int → Int → Int → List (List Int) → Option (List Int × Bool)
 | 0, _, _, _, _, _ => none
 | k + 1, x6, x7, x9, x119000, x119001 => if x9 < (x119001.length : Int) then (if 0 ≤ x9 then ((spec_l18State.f k (rd_L2 x119001 x9) x6).bind fun bt133 => (if bt133.1 = 2 then (some (x7, false)) else (if bt133.1 = 1 then ((spec_l18Abs.f bt133.2).bind fun t135 => (if 0 ≤ t135 then (if t135 < (x6.length : Int) then (if x7.length < 17592186044416 then (spec_l18Unit.l1 k (x6.set (t135 : Int).toNat bt133.2) (x7 ++ [bt133.2]) 0 x119000 x119001) else (none)) else (none)) else (none))) else (spec_l18Unit.l1 k x6 x7 (wrap64 (x9 + 1)) x119000 x119001)))) else (none)) else (some (x7, true))
end
def spec_l18Unit.f (k : Nat) (a0_0 : Int) (l0_1 : List (List Int)) (l1 : List Int) : Option (List Int × Bool) := if 0 ≤ (wrap64 (a0_0 + 1)) then (if (wrap64 (a0_0 + 1) : Int).toNat ≤ 35184372088832 then ((some (([] : List Int) : List Int)).bind fun y122 => (if y122.length + l1.length < 17592186044416 then (spec_l18Unit.l0 k l1 (List.replicate (wrap64 (a0_0 + 1) : Int).toNat 0) (y122 ++ l1) 0 a0_0 l0_1) else (none))) else (none)) else (none)
def spec_l18Unit.T6 : Bool × List (List Nat × List Nat) := (true, [([], []), ([], []), ([], []), ([1, 2], [1, 2]), ([3], [3]), ([4], [4]), ([], []), ([], []), ([6, 7], [6, 7]), ([8], [8]), ([0, 5, 0, 1, 2, 3, 4, 5, 6, 7, 8, 9], [0, 5]), ([10, 9, 5, 0, 1, 2, 3, 4, 5, 6, 7, 8, 9], [9, 10])])
def spec_l18Unit.B6 : List Nat := [0, 0, 0, 6, 14, 30, 0, 0, 192, 448, 1023, 2047]
theorem spec_l18Unit.tab6 : rtab .any (opsOf Try.f46 6) = spec_l18Unit.T6 := by kernel_rfl
theorem spec_l18Unit.bits6 : waitsOk spec_l18Unit.T6.2 spec_l18Unit.B6 = true := by kernel_rfl
set_option maxHeartbeats 8000000 in
set_option maxRecDepth 100000 in
theorem spec_l18Unit.calls (k : Nat) (a0_0 : Int) (A0_1 : Option Addr) (c0_1 : Nat) (l0_1 : List (List Int)) (A1 : Option Addr) (c1 : Nat) (l1 : List Int) (r1 : List Int) (r2 : Bool) (w : World) (hr0_1 : Kd.C (Kd.slice 2 (Kd.int .i64)) w A0_1 l0_1.length l0_1) (hc0_1 : l0_1.length ≤ c0_1) (hr1 : Kd.C (Kd.int .i64) w A1 l1.length l1) (hc1 : l1.length ≤ c1) (h : spec_l18Unit.f k a0_0 l0_1 l1 = some (r1, r2)) :
  Calls Try.prog 46 #[.agg #[.int .i64 a0_0, .slice A0_1 l0_1.length c0_1], .slice A1 l1.length c1] w fun e w' => ∃ v0_ : Value, e = .returned (.tuple #[v0_, .bool r2]) ∧ Kd.R (Kd.int .i64) 2 w' w.heap.size (fun _ => True) v0_ r1 ∧ Below w.heap.size w w' := by
 have hu37 := Try.underlying37; have HR0_1 := Aside0.mk hr0_1; have HC0_1 := Aside0.mk hc0_1; clear hr0_1 hc0_1; have HR1 := Aside0.mk hr1; have HC1 := Aside0.mk hc1; clear hr1 hc1; have HB := Aside0.mk (Below.refl w.heap.size w); have H : (if 0 ≤ (wrap64 (a0_0 + 1)) then (if (wrap64 (a0_0 + 1) : Int).toNat ≤ 35184372088832 then ((some (([] : List Int) : List Int)).bind fun y122 => (if y122.length + l1.length < 17592186044416 then (spec_l18Unit.l0 k l1 (List.replicate (wrap64 (a0_0 + 1) : Int).toNat 0) (y122 ++ l1) 0 a0_0 l0_1) else (none))) else (none)) else (none)) = some (r1, r2) := h; clear h; obtain ⟨ji3, hji3⟩ : ∃ j_ : Int, (wrap64 (a0_0 + 1)) = j_ := ⟨_, rfl⟩
 replace H : (if 0 ≤ (ji3) then (if (ji3 : Int).toNat ≤ 35184372088832 then ((some (([] : List Int) : List Int)).bind fun y122 => (if y122.length + l1.length < 17592186044416 then (spec_l18Unit.l0 k l1 (List.replicate (ji3 : Int).toNat 0) (y122 ++ l1) 0 a0_0 l0_1) else (none))) else (none)) else (none)) = some (r1, r2) := by first | (rw [hji3] at H; exact H) | (simp only [hji3] at H ⊢; exact H)
 have hji3w : (IntKind.i64.wrap (a0_0 + 1)) = ji3 := (i64_w _).trans hji3
 by_cases c4 : 0 ≤ (ji3)
 ·rw [if_pos c4] at H
  have c4b0 := eq_true c4; have c4b1 : decide (0 ≤ (ji3)) = true := decide_eq_true c4; clear c4
  by_cases c5 : (ji3 : Int).toNat ≤ 35184372088832
  ·rw [if_pos c5] at H
   have c5b0 := eq_true c5; have c5b1 : decide ((ji3 : Int).toNat ≤ 35184372088832) = true := decide_eq_true c5; clear c5; obtain ⟨y119, hy119⟩ : ∃ y_ : List Int, y_ = (List.replicate (ji3 : Int).toNat 0) := ⟨_, rfl⟩
   replace H : ((some (([] : List Int) : List Int)).bind fun y122 => (if y122.length + l1.length < 17592186044416 then (spec_l18Unit.l0 k l1 y119 (y122 ++ l1) 0 a0_0 l0_1) else (none))) = some (r1, r2) := by first | (rw [hy119]; with_reducible exact H) | (have H2_ := (Option.bind_some _ _).symm.trans H; rw [hy119]; with_reducible exact H2_) | (have H2_ := (Option.bind_some _ _).symm.trans H; with_reducible exact H2_) | with_reducible exact H | (rw [hy119]; exact H) | exact H
   have Ny119 := Aside0.mk hy119; clear hy119; obtain ⟨y122, hy122⟩ : ∃ y_ : List Int, y_ = (([] : List Int)) := ⟨_, rfl⟩
   replace H : (if y122.length + l1.length < 17592186044416 then (spec_l18Unit.l0 k l1 y119 (y122 ++ l1) 0 a0_0 l0_1) else (none)) = some (r1, r2) := by first | (rw [hy122]; with_reducible exact H) | (have H2_ := (Option.bind_some _ _).symm.trans H; rw [hy122]; with_reducible exact H2_) | (have H2_ := (Option.bind_some _ _).symm.trans H; with_reducible exact H2_) | with_reducible exact H | (rw [hy122]; exact H) | exact H
   have Ny122 := Aside0.mk hy122; clear hy122
   by_cases c6 : y122.length + l1.length < 17592186044416
   ·rw [if_pos c6] at H
    have LMc6 := Aside0.mk c6; clear c6; obtain ⟨y125, hy125⟩ : ∃ y_ : List Int, y_ = (y122 ++ l1) := ⟨_, rfl⟩
    replace H : (spec_l18Unit.l0 k l1 y119 y125 0 a0_0 l0_1) = some (r1, r2) := by first | (rw [hy125]; with_reducible exact H) | (have H2_ := (Option.bind_some _ _).symm.trans H; rw [hy125]; with_reducible exact H2_) | (have H2_ := (Option.bind_some _ _).symm.trans H; with_reducible exact H2_) | with_reducible exact H | (rw [hy125]; exact H) | exact H
    have Ny125 := Aside0.mk hy125; clear hy125; have H' := Aside0.mk H; clear H
    go_enter Try.func46, Try.ntmps46
    go_wp2_with (first | ((with_reducible refine gate_dst (N := 2) rfl ?_); refine be 2 #[.int .i64 a0_0, .slice A0_1 l0_1.length c0_1] 37 ?_; intro gb118 hg w7 hbox hb; have n0_ := Aside0.mk (below_step (bl HB) hb); have n1_ := Aside0.mk (hbox); have n2_ := Aside0.mk (gs HB hg); have n3_ := Aside0.mk (gs HB hg); clear HB; have HB := n0_; have BK118 := n1_; have GW118 := n2_; have GE118 := n3_; clear n0_ n1_ n2_ n3_; clear hb hbox hg; have hcz8_0 : w7.cell? ⟨gb118, 0, none⟩ = some (.int .i64 a0_0) := (blk_cell BK118.out 0).trans rfl; have hcz8_1 : w7.cell? ⟨gb118, 1, none⟩ = some (.slice A0_1 l0_1.length c0_1) := (blk_cell BK118.out 1).trans rfl; have hfz8_0 := blk_frozen BK118.out 0; have hfz8_1 := blk_frozen BK118.out 1) | ((with_reducible refine gate_dst (N := 15) rfl ?_); refine Kd.R_make (Kd.int .i64) _ 2 rfl (N := 15) rfl 33 _ _ rfl ji3 rfl rfl Try.underlying33 (.int .i64 0) 8 info2 rfl (by decide) (by omega) 0 (ok := fun _ => True) (okp := fun _ => True) rfl (fun _ hk => hk) trivial (ode) (Nat.le_trans (Nat.mul_le_mul_right _ (ode : ji3.toNat ≤ 35184372088832)) (by omega)) (Below.refl _ _) (Nat.le_refl _) ?_; intro v120 w9 ho10 hb hg_ hnew_; clear hg_ hnew_; (first | rw [← Ny119.out] at ho10 | (simp only [Int.reduceToNat] at ho10; rw [← Ny119.out] at ho10)); have n0_ := Aside0.mk (Kd.R_lower ho10 (below_size (bs HB GE118))); have n1_ := Aside0.mk (blk_below (g := gb118) (o := .cells #[.int .i64 a0_0, .slice A0_1 l0_1.length c0_1] 37 (0, 0)) (bk BK118) hb); have n2_ := Aside0.mk (below_step (bs HB GE118) hb); clear BK118; clear HB; have HO121 := n0_; have BK118 := n1_; have HB := n2_; clear n0_ n1_ n2_; clear hb ho10) | ((with_reducible refine gate_dst (N := 16) rfl ?_); refine Kd.R_lit (Kd.int .i64) _ 2 ?hg (N := 16) ?hd (xs := ([] : List Int)) (inner := []) (ok := fun _ => True) (okp := fun _ => True) ?hr ?hp (fun _ hk => hk) trivial (Below.refl _ _) (Nat.le_refl _) (by simp) ?_; (case hd => rfl); (case hg => rfl); (case hr => first | (go_simp; done) | (go_simp; rfl)); (case hp => exact (Reps.none _ _)); intro v123 w11 ho12 hb hg_ hnew_; clear hg_ hnew_; (first | rw [← Ny122.out] at ho12 | (simp only [Int.reduceToNat] at ho12; rw [← Ny122.out] at ho12)); have n0_ := Aside0.mk (Kd.R_elder' (rl HO121) (Kd.R_base ho12) hb); have n1_ := Aside0.mk (Kd.R_lower (Kd.R_new' ho12 (Kd.R_lt (rl HO121))) (below_size (bs HB GE118))); have n2_ := Aside0.mk (blk_below (g := gb118) (o := .cells #[.int .i64 a0_0, .slice A0_1 l0_1.length c0_1] 37 (0, 0)) (bk BK118) hb); have n3_ := Aside0.mk (below_step (bs HB GE118) hb); clear HO121; clear BK118; clear HB; have HO121 := n0_; have HO124 := n1_; have BK118 := n2_; have HB := n3_; clear n0_ n1_ n2_ n3_; clear hb ho12) | ((with_reducible refine gate_builtin (b := .append) (xs := #[.tmp 16, .tmp 17]) rfl ?_); at_builtin; refine Kd.R_append_rows (Kd.int .i64) (w0 := w) w.heap.size rfl (.tmp 16) (.tmp 17) 33 2 (.int .i64 0) 8 rfl Try.underlying33 info2 rfl (by decide) (by omega) v123 y122 l1 _ _ _ (fun k_ => some k_ ≠ (v120 : Value).ownBlock) (fun _ => False) rfl rfl ?aO ?aR (fun _ _ h => h) (fun _ h => h.elim) ?aF ?aB ?aS ?aL ?_; (case aR => exact rc HR1 HB); (case aB => exact (bs HB GE118)); (case aF => exact (fun k_ hk => Kd.fresh' (Kd.R_lt (rl HO121)) k_ hk)); (case aO => exact (by (with_reducible repeat (first | apply Kd.R_alloc | apply Kd.R_drewN | apply Kd.R_drew)); exact Kd.R_mono HO124.out (fun _ hk => hk.2))); (case aS => exact (below_size (bs HB GE118))); (case aL => have := LMc6.out; omega); intro v126 w13 ho hb hg hat; rw [← Ny125.out] at ho; have n0_ := Aside0.mk (blk_grown (g := gb118) (o := .cells #[.int .i64 a0_0, .slice A0_1 l0_1.length c0_1] 37 (0, 0)) (bk BK118) hg (Kd.R_ne HO124.out BK118.out (by decide))); have n1_ := Aside0.mk (Kd.R_after (ok := (fun _ => True)) (rl HO121) hg hat); have n2_ := Aside0.mk (hb); have n3_ := Aside0.mk (ho); clear BK118; clear HO121; clear HB; clear HO124; have BK118 := n0_; have HO121 := n1_; have HB := n2_; have HO127 := n3_; clear n0_ n1_ n2_ n3_; clear ho hb hg hat))
    go_loopg [8] k (fun kq v8 w' => ∃ (x6_1 : List Int) (x8_1 : Int), v8 = .int .i64 x8_1 ∧ Aside0 (spec_l18Unit.l0 kq l1 x6_1 y125 x8_1 a0_0 l0_1 = some (r1, r2)) ∧ Aside0 (kq ≤ k) ∧ Aside0 (Kd.R (Kd.int .i64) 2 w' w.heap.size (fun k_ => some k_ ≠ (v126 : Value).ownBlock) v120 x6_1) ∧ Aside0 (Kd.R (Kd.int .i64) 2 w' w.heap.size (fun k_ => some k_ ≠ (v120 : Value).ownBlock) v126 y125) ∧ Aside0 (w'.heap[gb118]? = some (.cells #[.int .i64 a0_0, (.slice A0_1 l0_1.length c0_1)] 37 (0, 0))) ∧ Aside0 (Below w.heap.size w w'))
    case atStart => exact ⟨(y119), (0), au, H', ⟨Nat.le_refl _⟩, ⟨by (with_reducible repeat (first | apply Kd.R_alloc | apply Kd.R_drewN | apply Kd.R_drew)); exact Kd.R_mono HO121.out (fun _ hk => hk.2)⟩, ⟨rl HO127⟩, ⟨bk BK118⟩, ⟨bs HB GE118⟩⟩
    case round =>
     clear H'
     try clear c1
     try clear p2
     try clear c4
     try clear c4b0
     try clear c4b1
     try clear c5
     try clear c5b0
     try clear c5b1
     try clear c6
     try clear p6
     try clear hcz8_0
     try clear hcz8_1
     try clear hfz8_0
     try clear hfz8_1
     obtain ⟨x6_1, x8_1, rfl, HA, HK1, HO_6, HO_7, BK118, HB⟩ := hrel
     cases gk with
     | zero => exact absurd HA.out (by simp [spec_l18Unit.l0])
     | succ k1 =>
      have H := HA.out; clear HA
      simp only [spec_l18Unit.l0] at H
      by_cases c14 : x8_1 < (l1.length : Int)
      ·rw [if_pos c14] at H
       have c14b0 : decide (x8_1 < (l1.length : Int)) = true := decide_eq_true c14; clear c14
       by_cases c15 : 0 ≤ x8_1
       ·rw [if_pos c15] at H
        have c15b0 : decide (0 ≤ x8_1) = true := decide_eq_true c15; clear c15; replace H := Option.bind_eq_some_iff.mp H; obtain ⟨t129, A160, H⟩ := H; replace H : (if 0 ≤ t129 then (if t129 < (x6_1.length : Int) then (spec_l18Unit.l0 k1 l1 (x6_1.set (t129 : Int).toNat (rd l1 x8_1)) y125 (wrap64 (x8_1 + 1)) a0_0 l0_1) else (none)) else (none)) = some (r1, r2) := H; have A16 := Aside0.mk A160; clear A160
        by_cases c17 : 0 ≤ t129
        ·rw [if_pos c17] at H
         have c17b0 : decide (0 ≤ t129) = true := decide_eq_true c17; clear c17
         by_cases c18 : t129 < (x6_1.length : Int)
         ·rw [if_pos c18] at H
          have c18b0 : decide (t129 < (x6_1.length : Int)) = true := decide_eq_true c18; clear c18; obtain ⟨y131, hy131⟩ : ∃ y_ : List Int, y_ = (x6_1.set (t129 : Int).toNat (rd l1 x8_1)) := ⟨_, rfl⟩
          replace H : (spec_l18Unit.l0 k1 l1 y131 y125 (wrap64 (x8_1 + 1)) a0_0 l0_1) = some (r1, r2) := by first | (rw [hy131]; with_reducible exact H) | (have H2_ := (Option.bind_some _ _).symm.trans H; rw [hy131]; with_reducible exact H2_) | (have H2_ := (Option.bind_some _ _).symm.trans H; with_reducible exact H2_) | with_reducible exact H | (rw [hy131]; exact H) | exact H
          have Ny131 := Aside0.mk hy131; clear hy131; have H' := Aside0.mk H; clear H
          try go_wp2
          have n0_ := Aside0.mk (Kd.R_drew HO_6.out); have n1_ := Aside0.mk (Kd.R_drew HO_7.out); have n2_ := Aside0.mk (blk_drew BK118.out); have n3_ := Aside0.mk (below_drew1 HB.out); clear HO_6; clear HO_7; clear BK118; clear HB; have HO_6 := n0_; have HO_7 := n1_; have BK118 := n2_; have HB := n3_; clear n0_ n1_ n2_ n3_; have p128 : 0 ≤ (x8_1 : Int) := ode; have q128 : x8_1 < (l1.length : Int) := ode; obtain ⟨ad128, e128, hx128_0⟩ := Kd.at_int HR1.out x8_1 p128 q128; have hw128_0 := hx128_0
          cases e128
          replace hx128_0 := cl HB hx128_0; replace p128 := eq_true p128; replace q128 := eq_true q128; have p130 : 0 ≤ (x8_1 : Int) := ode; have q130 : x8_1 < (l1.length : Int) := ode; obtain ⟨ad130, e130, hx130_0⟩ := Kd.at_int HR1.out x8_1 p130 q130; have hw130_0 := hx130_0; obtain rfl : ad128 = ad130 := (by injection e130); replace hx130_0 := cl HB hx130_0; replace p130 := eq_true p130; replace q130 := eq_true q130; refine start_ (n := 12) (S := fun w' => w'.cell? (ad128.add (x8_1).toNat) = some (.int .i64 (rd l1 x8_1)) ∧ w'.cell? (ad128.add (x8_1).toNat) = some (.int .i64 (rd l1 x8_1))) (ds := [11]) (tf 0 12) (by kernel_rfl) rfl rfl ⟨((HB.out.cell (World.block_lt_of_cell? w _ hw128_0)).trans hw128_0), ((HB.out.cell (World.block_lt_of_cell? w _ hw130_0)).trans hw130_0)⟩ (fun hHeld => ?_); refine with_tabW spec_l18Unit.tab6 spec_l18Unit.bits6 (fun HT_ HW_ => ?_); generalize wr.drew = w20 at HO_6 HO_7 BK118 HB hx128_0 hx130_0 hHeld ⊢; refine pu HT_ 0 25 11 ?_; refine pu HT_ 1 26 10 ?_; refine pu HT_ 2 27 9 ?_; refine pu HT_ 3 28 8 ?_; refine pq HT_ 6 31 12 79 ?_; refine pq HT_ 7 32 12 207 ?_; refine pq HT_ 8 33 12 463 ?_; refine tq HT_ HW_ hHeld 4 29 12 479 ?_; refine tq HT_ HW_ hHeld 9 34 12 991 ?_; refine oq HT_ 5 30 12 1023 (fun K hK => ?_); refine goes_ Try.func60 (by kernel_rfl) rfl #[.int .i64 (rd l1 x8_1)] (by rfl) rfl rfl ma ?_; (with_reducible refine (spec_l18Abs.calls (rd l1 x8_1) t129 _ A16.out).mono ?_)
          rintro e w21 ⟨rfl, hb⟩; refine ⟨_, rfl, ?_⟩; have n0_ := Aside0.mk (Kd.R_below (rl HO_6) hb); have n1_ := Aside0.mk (Kd.R_below (rl HO_7) hb); have n2_ := Aside0.mk (blk_below (g := gb118) (o := .cells #[.int .i64 a0_0, .slice A0_1 l0_1.length c0_1] 37 (0, 0)) (bk BK118) hb); have n3_ := Aside0.mk (below_step (bs HB GE118) hb); clear HO_6; clear HO_7; clear BK118; clear HB; have HO_6 := n0_; have HO_7 := n1_; have BK118 := n2_; have HB := n3_; clear n0_ n1_ n2_ n3_; (try clear hb)
          (try clear hb2); (try clear hk)
          (try clear hi); have p19 : 0 ≤ (t129 : Int) := ode; have q19 : (t129 : Int) < ((x6_1.length : Int) : Int) := ode; obtain ⟨go19, co19, eo19, gb19, gl19, cl19, HG19⟩ := Kd.R_form HO_6.out (by omega)
          (first | cases eo19 | (injection eo19 with ea_ en_ ec_; (first | subst ea_ | (injection ea_ with ea_; subst ea_)); subst ec_; clear en_))
          have GB19 := Aside0.mk gb19; have GG19 := Aside0.mk HG19; clear gb19 gl19 HG19; obtain ⟨hx19_0, hf19_0⟩ := Kd.R_celln 0 HO_6.out (t129 : Int) p19 q19; replace p19 := eq_true p19; replace q19 := eq_true q19; have HP22 := Kd.R_putn HO_6.out (t129 : Int) (rd l1 x8_1); rw [← Ny131.out] at HP22; have HQ22 := Aside0.mk HP22; clear HP22; refine hK.out _ _ ⟨((HB.out.cell (World.block_lt_of_cell? w _ hw128_0)).trans hw128_0), ((HB.out.cell (World.block_lt_of_cell? w _ hw130_0)).trans hw130_0)⟩ (fun hHeld => ?_); clear hK K; refine nm 30 ?_; refine pu HT_ 10 35 1 ?_; refine last_ (i := 11) (N := none) (tf 12 0) rfl rfl (one_of HT_.out (by kernel_rfl)) (by decide) (fun K hK => ?_); refine skip_ (w1 := ?_) (by rfl) rfl ?_ ?_
          rotate_left
          ·go_simp
           rfl
          refine hK.out _ _ ?_; clear hK K; refine done_ (done_of HT_.out (by kernel_rfl)) ?_
          try go_wp2
          go_roundg k1
          case measure => have := HK1.out; omega
          case rel => exact ⟨(y131), (wrap64 (x8_1 + 1)), au, H', ⟨by have := HK1.out; omega⟩, ⟨rl HQ22⟩, ⟨by (with_reducible repeat (first | apply Kd.R_alloc | apply Kd.R_drewN | apply Kd.R_drew)); exact Kd.R_mono (Kd.R_far (p := ⟨go19, (t129 : Int).toNat, none⟩) (Kd.R_mono HO_7.out (fun k_ hk => (⟨hk, fun e_ => hk (by rw [e_]; rfl)⟩ : _ ∧ k_ ≠ go19))) (fun _ hk => hk.2) (.int .i64 (rd l1 x8_1))) (fun _ hk => hk.1)⟩, ⟨by (with_reducible repeat (first | refine blk_drewN ?_ _ | refine blk_drew ?_ | refine blk_alloc ?_ _)); refine blk_far ?_ (by have h_ := Kd.R_ne HO_6.out BK118.out (by decide); intro e_; exact h_ (by rw [e_]; rfl)) _; (with_reducible repeat (first | refine blk_drewN ?_ _ | refine blk_drew ?_ | refine blk_alloc ?_ _)); exact BK118.out⟩, ⟨bs2 HB GB19 GE118⟩⟩
         ·rw [if_neg c18] at H
          exact absurd H (by simp)
        ·rw [if_neg c17] at H
         exact absurd H (by simp)
       ·rw [if_neg c15] at H
        exact absurd H (by simp)
      ·rw [if_neg c14] at H
       have c14b0 : decide (x8_1 < (l1.length : Int)) = false := decide_eq_false c14; clear c14; have H' := Aside0.mk H; clear H
       go_wp2
       go_loopg [7, 9] k1 (fun kq v7 v9 w' => ∃ (x6_2 : List Int) (x7_2 : List Int) (x9_2 : Int), v9 = .int .i64 x9_2 ∧ Aside0 (spec_l18Unit.l1 kq x6_2 x7_2 x9_2 a0_0 l0_1 = some (r1, r2)) ∧ Aside0 (kq ≤ k1) ∧ Aside0 (Kd.R (Kd.int .i64) 2 w' w.heap.size (fun k_ => some k_ ≠ (v7 : Value).ownBlock) v120 x6_2) ∧ Aside0 (Kd.R (Kd.int .i64) 2 w' w.heap.size (fun k_ => some k_ ≠ (v120 : Value).ownBlock) v7 x7_2) ∧ Aside0 (w'.heap[gb118]? = some (.cells #[.int .i64 a0_0, (.slice A0_1 l0_1.length c0_1)] 37 (0, 0))) ∧ Aside0 (Below w.heap.size w w'))
       case atStart => exact ⟨(x6_1), (y125), (0), au, H', ⟨Nat.le_refl _⟩, ⟨rl HO_6⟩, ⟨rl HO_7⟩, ⟨bk BK118⟩, ⟨bs HB GE118⟩⟩
       case round =>
        clear H'
        try clear c1
        try clear p1
        try clear q1
        try clear hx1
        try clear p2
        try clear c4
        try clear c4b0
        try clear c4b1
        try clear c5
        try clear c5b0
        try clear c5b1
        try clear c6
        try clear p6
        try clear p12
        try clear q12
        try clear hx12
        try clear p13
        try clear q13
        try clear hx13
        try clear c14
        try clear c14b0
        try clear c15
        try clear c15b0
        try clear c17
        try clear c17b0
        try clear c18
        try clear c18b0
        try clear p19
        try clear q19
        try clear hx19
        try clear hf19
        try clear hcz8_0
        try clear hcz8_1
        try clear hfz8_0
        try clear hfz8_1
        try clear hx128_0
        try clear hx130_0
        try clear hx19_0
        try clear p128
        try clear p130
        try clear p19
        try clear p2
        try clear p6
        try clear q128
        try clear q130
        try clear q19
        obtain ⟨x6_2, x7_2, x9_2, rfl, HA, HK2, HO_6, HO_7, BK118, HB⟩ := hrel
        cases gk with
        | zero => exact absurd HA.out (by simp [spec_l18Unit.l1])
        | succ k2 =>
         have H := HA.out; clear HA
         simp only [spec_l18Unit.l1] at H
         by_cases c23 : x9_2 < (l0_1.length : Int)
         ·rw [if_pos c23] at H
          have c23b0 : decide (x9_2 < (l0_1.length : Int)) = true := decide_eq_true c23; clear c23
          by_cases c24 : 0 ≤ x9_2
          ·rw [if_pos c24] at H
           have c24b0 : decide (0 ≤ x9_2) = true := decide_eq_true c24; clear c24; replace H := Option.bind_eq_some_iff.mp H; obtain ⟨⟨t133, t134⟩, A250, H⟩ := H; replace H : (if t133 = 2 then (some (x7_2, false)) else (if t133 = 1 then ((spec_l18Abs.f t134).bind fun t135 => (if 0 ≤ t135 then (if t135 < (x6_2.length : Int) then (if x7_2.length < 17592186044416 then (spec_l18Unit.l1 k2 (x6_2.set (t135 : Int).toNat t134) (x7_2 ++ [t134]) 0 a0_0 l0_1) else (none)) else (none)) else (none))) else (spec_l18Unit.l1 k2 x6_2 x7_2 (wrap64 (x9_2 + 1)) a0_0 l0_1))) = some (r1, r2) := H; have A25 := Aside0.mk A250; clear A250
           by_cases c26 : t133 = 2
           ·rw [if_pos c26] at H
            have c26b0 : (t133 == 2) = true := beq_iff_eq.mpr c26; have c26b1 : (t133 != 2) = false := bne_eq_false_iff_eq.mpr c26; clear c26
            simp only [Option.some.injEq, Prod.mk.injEq] at H
            obtain ⟨rfl, rfl⟩ := H; have hcz27_0 : wr.cell? ⟨gb118, 0, none⟩ = some (.int .i64 a0_0) := (blk_cell BK118.out 0).trans rfl; have hcz27_1 : wr.cell? ⟨gb118, 1, none⟩ = some (.slice A0_1 l0_1.length c0_1) := (blk_cell BK118.out 1).trans rfl; have hfz27_0 := blk_frozen BK118.out 0; have hfz27_1 := blk_frozen BK118.out 1; have p132 : 0 ≤ (x9_2 : Int) := ode; have q132 : x9_2 < (l0_1.length : Int) := ode; obtain ⟨ad132, A132_0, c132_0, e132, hx132_0, hl132_0, hi132_0⟩ := at_L2 HR0_1.out x9_2 p132 q132
            cases e132
            replace hx132_0 := cl HB hx132_0; have HR132_0 := Aside0.mk hi132_0; have HC132_0 := Aside0.mk hl132_0; clear hi132_0 hl132_0; replace p132 := eq_true p132; replace q132 := eq_true q132; obtain ⟨Ao28, co28, eo28⟩ := Kd.R_slice HO_6.out
            subst eo28
            go_wp2_with (first | ((with_reducible refine gate_callee (f := 72) rfl ?_); refine goesL_ (some 48) rfl rfl Try.func72 (by kernel_rfl) rfl #[.slice A132_0 (rd_L2 l0_1 x9_2).length c132_0, .slice Ao28 x6_2.length co28] rfl ma ?_; (with_reducible refine (spec_l18State.calls k2 _ _ (rd_L2 l0_1 x9_2) _ _ x6_2 t133 t134 _ ?side1 ?side2 ?side3 ?side4 A25.out).mono ?_); (case side1 => exact rc HR132_0 HB); (case side2 => exact HC132_0.out); (case side3 => repeat (first | exact (Kd.R_reads' HO_6.out).2.2 | (with_reducible refine Kd.C_alloc ?_ _) | (with_reducible refine Kd.C_drewN ?_ _) | (with_reducible refine Kd.C_drew ?_))); (case side4 => exact (Kd.R_reads' HO_6.out).2.1); rintro e w29 ⟨rfl, hb⟩; refine ⟨_, rfl, ?_⟩; have n0_ := Aside0.mk (Kd.R_below (rl HO_6) hb); have n1_ := Aside0.mk (Kd.R_below (rl HO_7) hb); have n2_ := Aside0.mk (blk_below (g := gb118) (o := .cells #[.int .i64 a0_0, .slice (some ad132) l0_1.length c0_1] 37 (0, 0)) (bk BK118) hb); have n3_ := Aside0.mk (below_step (bs HB GE118) hb); clear HO_6; clear HO_7; clear BK118; clear HB; have HO_6 := n0_; have HO_7 := n1_; have BK118 := n2_; have HB := n3_; clear n0_ n1_ n2_ n3_; (try clear hb); (try clear hb2); (try clear hk); (try clear hi)))
            go_ret2
            exact ⟨_, by first | rfl | (simp [errW_none, errW_some] <;> rfl) | (simp only [← hji3]; first | rfl | (simp [errW_none, errW_some] <;> rfl)) | (simp [*, errW_none, errW_some] <;> rfl), by (with_reducible repeat (first | apply Kd.R_alloc | apply Kd.R_drewN | apply Kd.R_drew)); exact Kd.R_mono HO_7.out (fun _ hk => trivial), bs HB GE118⟩
           ·rw [if_neg c26] at H
            have c26b0 : (t133 == 2) = false := beq_eq_false_iff_ne.mpr c26; have c26b1 : (t133 != 2) = true := bne_iff_ne.mpr c26
            by_cases c30 : t133 = 1
            ·rw [if_pos c30] at H
             have c30b0 : (t133 == 1) = true := beq_iff_eq.mpr c30; have c30b1 : (t133 != 1) = false := bne_eq_false_iff_eq.mpr c30; clear c30; replace H := Option.bind_eq_some_iff.mp H; obtain ⟨t135, A310, H⟩ := H; replace H : (if 0 ≤ t135 then (if t135 < (x6_2.length : Int) then (if x7_2.length < 17592186044416 then (spec_l18Unit.l1 k2 (x6_2.set (t135 : Int).toNat t134) (x7_2 ++ [t134]) 0 a0_0 l0_1) else (none)) else (none)) else (none)) = some (r1, r2) := H; have A31 := Aside0.mk A310; clear A310
             by_cases c32 : 0 ≤ t135
             ·rw [if_pos c32] at H
              have c32b0 : decide (0 ≤ t135) = true := decide_eq_true c32; clear c32
              by_cases c33 : t135 < (x6_2.length : Int)
              ·rw [if_pos c33] at H
               have c33b0 : decide (t135 < (x6_2.length : Int)) = true := decide_eq_true c33; clear c33; obtain ⟨y136, hy136⟩ : ∃ y_ : List Int, y_ = (x6_2.set (t135 : Int).toNat t134) := ⟨_, rfl⟩
               replace H : (if x7_2.length < 17592186044416 then (spec_l18Unit.l1 k2 y136 (x7_2 ++ [t134]) 0 a0_0 l0_1) else (none)) = some (r1, r2) := by first | (rw [hy136]; with_reducible exact H) | (have H2_ := (Option.bind_some _ _).symm.trans H; rw [hy136]; with_reducible exact H2_) | (have H2_ := (Option.bind_some _ _).symm.trans H; with_reducible exact H2_) | with_reducible exact H | (rw [hy136]; exact H) | exact H
               have Ny136 := Aside0.mk hy136; clear hy136
               by_cases c35 : x7_2.length < 17592186044416
               ·rw [if_pos c35] at H
                have LMc35 := Aside0.mk c35; clear c35; obtain ⟨y137, hy137⟩ : ∃ y_ : List Int, y_ = (x7_2 ++ [t134]) := ⟨_, rfl⟩
                replace H : (spec_l18Unit.l1 k2 y136 y137 0 a0_0 l0_1) = some (r1, r2) := by first | (rw [hy137]; with_reducible exact H) | (have H2_ := (Option.bind_some _ _).symm.trans H; rw [hy137]; with_reducible exact H2_) | (have H2_ := (Option.bind_some _ _).symm.trans H; with_reducible exact H2_) | with_reducible exact H | (rw [hy137]; exact H) | exact H
                have Ny137 := Aside0.mk hy137; clear hy137; have H' := Aside0.mk H; clear H; have hcz36_0 : wr.cell? ⟨gb118, 0, none⟩ = some (.int .i64 a0_0) := (blk_cell BK118.out 0).trans rfl; have hcz36_1 : wr.cell? ⟨gb118, 1, none⟩ = some (.slice A0_1 l0_1.length c0_1) := (blk_cell BK118.out 1).trans rfl; have hfz36_0 := blk_frozen BK118.out 0; have hfz36_1 := blk_frozen BK118.out 1; have p132 : 0 ≤ (x9_2 : Int) := ode; have q132 : x9_2 < (l0_1.length : Int) := ode; obtain ⟨ad132, A132_0, c132_0, e132, hx132_0, hl132_0, hi132_0⟩ := at_L2 HR0_1.out x9_2 p132 q132
                cases e132
                replace hx132_0 := cl HB hx132_0; have HR132_0 := Aside0.mk hi132_0; have HC132_0 := Aside0.mk hl132_0; clear hi132_0 hl132_0; replace p132 := eq_true p132; replace q132 := eq_true q132; obtain ⟨Ao37, co37, eo37⟩ := Kd.R_slice HO_6.out
                subst eo37
                go_wp2_with (first | ((with_reducible refine gate_callee (f := 72) rfl ?_); refine goesL_ (some 48) rfl rfl Try.func72 (by kernel_rfl) rfl #[.slice A132_0 (rd_L2 l0_1 x9_2).length c132_0, .slice Ao37 x6_2.length co37] rfl ma ?_; (with_reducible refine (spec_l18State.calls k2 _ _ (rd_L2 l0_1 x9_2) _ _ x6_2 t133 t134 _ ?side1 ?side2 ?side3 ?side4 A25.out).mono ?_); (case side1 => exact rc HR132_0 HB); (case side2 => exact HC132_0.out); (case side3 => repeat (first | exact (Kd.R_reads' HO_6.out).2.2 | (with_reducible refine Kd.C_alloc ?_ _) | (with_reducible refine Kd.C_drewN ?_ _) | (with_reducible refine Kd.C_drew ?_))); (case side4 => exact (Kd.R_reads' HO_6.out).2.1); rintro e w38 ⟨rfl, hb⟩; refine ⟨_, rfl, ?_⟩; have n0_ := Aside0.mk (Kd.R_below (rl HO_6) hb); have n1_ := Aside0.mk (Kd.R_below (rl HO_7) hb); have n2_ := Aside0.mk (blk_below (g := gb118) (o := .cells #[.int .i64 a0_0, .slice (some ad132) l0_1.length c0_1] 37 (0, 0)) (bk BK118) hb); have n3_ := Aside0.mk (below_step (bs HB GE118) hb); clear HO_6; clear HO_7; clear BK118; clear HB; have HO_6 := n0_; have HO_7 := n1_; have BK118 := n2_; have HB := n3_; clear n0_ n1_ n2_ n3_; (try clear hb); (try clear hb2); (try clear hk); (try clear hi)) | ((with_reducible refine gate_callee (f := 60) rfl ?_); refine goesL_ (some 60) rfl rfl Try.func60 (by kernel_rfl) rfl #[.int .i64 t134] rfl ma ?_; (with_reducible refine (spec_l18Abs.calls t134 t135 _ A31.out).mono ?_); rintro e w39 ⟨rfl, hb⟩; refine ⟨_, rfl, ?_⟩; have n0_ := Aside0.mk (Kd.R_below (rl HO_6) hb); have n1_ := Aside0.mk (Kd.R_below (rl HO_7) hb); have n2_ := Aside0.mk (blk_below (g := gb118) (o := .cells #[.int .i64 a0_0, .slice (some ad132) l0_1.length c0_1] 37 (0, 0)) (bk BK118) hb); have n3_ := Aside0.mk (below_step (bs HB GE118) hb); clear HO_6; clear HO_7; clear BK118; clear HB; have HO_6 := n0_; have HO_7 := n1_; have BK118 := n2_; have HB := n3_; clear n0_ n1_ n2_ n3_; (try clear hb); (try clear hb2); (try clear hk); (try clear hi); have p34 : 0 ≤ (t135 : Int) := ode; have q34 : (t135 : Int) < ((x6_2.length : Int) : Int) := ode; obtain ⟨go34, co34, eo34, gb34, gl34, cl34, HG34⟩ := Kd.R_form HO_6.out (by omega); (first | cases eo34 | (injection eo34 with ea_ en_ ec_; (first | subst ea_ | (injection ea_ with ea_; subst ea_)); subst ec_; clear en_)); have GB34 := Aside0.mk gb34; have GG34 := Aside0.mk HG34; clear gb34 gl34 HG34; obtain ⟨hx34_0, hf34_0⟩ := Kd.R_celln 0 HO_6.out (t135 : Int) p34 q34; replace p34 := eq_true p34; replace q34 := eq_true q34; obtain ⟨hy40_, hz40_⟩ := Kd.R_celln 0 HO_6.out (t135 : Int) (ode) (ode); have HP40 := Kd.R_putg HO_6.out (t135 : Int) t134) | ((with_reducible refine gate_store (t := 2) (p := 62) rfl ?_); refine store_event (t := 2) (p := 62) (v := ?vo_w41) (w1 := (w39.setCell ⟨go34, (t135 : Int).toNat, none⟩ (.int .i64 t134))) ?hg ?ho ?hn ?hr ?_; (case ho => rfl); (case hg => rfl); (case hn => rfl); (case hr => first | (go_simp; done) | (go_simp; rfl) | ((try (obtain ⟨_, _, e_⟩ := Kd.R_slice HO_6.out; subst e_)); (try (obtain ⟨_, _, e_⟩ := Kd.R_slice HO_7.out; subst e_)); first | (go_simp; done) | (go_simp; rfl))); intro w41 hw; have hg : w39.grownBy w41 (some go34) := (by rw [hw]; exact HP40.2); have hp_ : Kd.R (Kd.int .i64) 2 w41 w.heap.size (fun k_ => some k_ ≠ (u7 : Value).ownBlock) (.slice (some ⟨go34, 0, none⟩) x6_2.length co37) y136 := (by rw [hw, Ny136.out]; exact HP40.1); clear HP40; have n0_ := Aside0.mk (hp_); have n1_ := Aside0.mk (Kd.R_after (v := (.slice (some ⟨go34, 0, none⟩) x6_2.length co37)) (v1 := (.slice (some ⟨go34, 0, none⟩) x6_2.length co37)) (ok := (fun _ => True)) (by (with_reducible repeat (first | apply Kd.R_alloc | apply Kd.R_drewN | apply Kd.R_drew)); exact Kd.R_mono HO_7.out (fun _ hk => ⟨trivial, hk⟩)) hg (.inl rfl)); have n2_ := Aside0.mk (blk_grown (g := gb118) (o := .cells #[.int .i64 a0_0, .slice (some ad132) l0_1.length c0_1] 37 (0, 0)) (bk BK118) hg (Kd.R_ne HO_6.out BK118.out (by decide))); have n3_ := Aside0.mk ((by rw [hw]; exact below_set (HB.out) GB34.out : Below w.heap.size w w41)); clear HO_6; clear HO_7; clear BK118; clear HB; have HO_6 := n0_; have HO_7 := n1_; have BK118 := n2_; have HB := n3_; clear n0_ n1_ n2_ n3_; clear hg hw hp_) | ((with_reducible refine gate_builtin (b := .append) (xs := #[.tmp 63, .tmp 65]) rfl ?_); at_builtin; refine Kd.R_append (Kd.int .i64) (w0 := w) w.heap.size rfl (.tmp 63) (.tmp 65) 33 2 (.int .i64 0) 8 rfl Try.underlying33 info2 rfl (by decide) (by omega) u7 x7_2 t134 [.int .i64 t134] (fun k_ => some k_ ≠ (.slice (some ⟨go34, 0, none⟩) x6_2.length co37 : Value).ownBlock) (fun _ => False) rfl rfl ?aP (fun _ hk => hk.elim) ?aF ?aO ?aB ?aS ?aL ?_; (case aP => exact rfl); (case aB => exact (bs HB GE118)); (case aF => exact (fun k_ hk => Kd.fresh' (Kd.R_lt (rl HO_6)) k_ hk)); (case aO => exact (by (with_reducible repeat (first | apply Kd.R_alloc | apply Kd.R_drewN | apply Kd.R_drew)); exact Kd.R_mono HO_7.out (fun _ hk => hk.2))); (case aS => exact (below_size (bs HB GE118))); (case aL => have := LMc35.out; omega); intro v138 w42 ho hb hg hat; rw [← Ny137.out] at ho; have n0_ := Aside0.mk (Kd.R_after (ok := (fun _ => True)) (by (with_reducible repeat (first | apply Kd.R_alloc | apply Kd.R_drewN | apply Kd.R_drew)); exact Kd.R_mono HO_6.out (fun _ hk => ⟨trivial, hk⟩)) hg hat); have n1_ := Aside0.mk (blk_grown (g := gb118) (o := .cells #[.int .i64 a0_0, .slice (some ad132) l0_1.length c0_1] 37 (0, 0)) (bk BK118) hg (Kd.R_ne HO_7.out BK118.out (by decide))); have n2_ := Aside0.mk (hb); have n3_ := Aside0.mk (ho); clear HO_6; clear BK118; clear HB; clear HO_7; have HO_6 := n0_; have BK118 := n1_; have HB := n2_; have HO139 := n3_; clear n0_ n1_ n2_ n3_; clear ho hb hg hat))
                go_roundg k2
                case measure => have := HK1.out; have := HK2.out; omega
                case rel => exact ⟨(y136), (y137), (0), au, H', ⟨by have := HK1.out; have := HK2.out; omega⟩, ⟨by (with_reducible repeat (first | apply Kd.R_alloc | apply Kd.R_drewN | apply Kd.R_drew)); exact Kd.R_mono HO_6.out (fun _ hk => hk.2)⟩, ⟨rl HO139⟩, ⟨bk BK118⟩, ⟨bs HB GE118⟩⟩
               ·rw [if_neg c35] at H
                exact absurd H (by simp)
              ·rw [if_neg c33] at H
               exact absurd H (by simp)
             ·rw [if_neg c32] at H
              exact absurd H (by simp)
            ·rw [if_neg c30] at H
             have c30b0 : (t133 == 1) = false := beq_eq_false_iff_ne.mpr c30; have c30b1 : (t133 != 1) = true := bne_iff_ne.mpr c30; have H' := Aside0.mk H; clear H; have hcz43_0 : wr.cell? ⟨gb118, 0, none⟩ = some (.int .i64 a0_0) := (blk_cell BK118.out 0).trans rfl; have hcz43_1 : wr.cell? ⟨gb118, 1, none⟩ = some (.slice A0_1 l0_1.length c0_1) := (blk_cell BK118.out 1).trans rfl; have hfz43_0 := blk_frozen BK118.out 0; have hfz43_1 := blk_frozen BK118.out 1; have p132 : 0 ≤ (x9_2 : Int) := ode; have q132 : x9_2 < (l0_1.length : Int) := ode; obtain ⟨ad132, A132_0, c132_0, e132, hx132_0, hl132_0, hi132_0⟩ := at_L2 HR0_1.out x9_2 p132 q132
             cases e132
             replace hx132_0 := cl HB hx132_0; have HR132_0 := Aside0.mk hi132_0; have HC132_0 := Aside0.mk hl132_0; clear hi132_0 hl132_0; replace p132 := eq_true p132; replace q132 := eq_true q132; obtain ⟨Ao44, co44, eo44⟩ := Kd.R_slice HO_6.out
             subst eo44
             go_wp2_with (first | ((with_reducible refine gate_callee (f := 72) rfl ?_); refine goesL_ (some 48) rfl rfl Try.func72 (by kernel_rfl) rfl #[.slice A132_0 (rd_L2 l0_1 x9_2).length c132_0, .slice Ao44 x6_2.length co44] rfl ma ?_; (with_reducible refine (spec_l18State.calls k2 _ _ (rd_L2 l0_1 x9_2) _ _ x6_2 t133 t134 _ ?side1 ?side2 ?side3 ?side4 A25.out).mono ?_); (case side1 => exact rc HR132_0 HB); (case side2 => exact HC132_0.out); (case side3 => repeat (first | exact (Kd.R_reads' HO_6.out).2.2 | (with_reducible refine Kd.C_alloc ?_ _) | (with_reducible refine Kd.C_drewN ?_ _) | (with_reducible refine Kd.C_drew ?_))); (case side4 => exact (Kd.R_reads' HO_6.out).2.1); rintro e w45 ⟨rfl, hb⟩; refine ⟨_, rfl, ?_⟩; have n0_ := Aside0.mk (Kd.R_below (rl HO_6) hb); have n1_ := Aside0.mk (Kd.R_below (rl HO_7) hb); have n2_ := Aside0.mk (blk_below (g := gb118) (o := .cells #[.int .i64 a0_0, .slice (some ad132) l0_1.length c0_1] 37 (0, 0)) (bk BK118) hb); have n3_ := Aside0.mk (below_step (bs HB GE118) hb); clear HO_6; clear HO_7; clear BK118; clear HB; have HO_6 := n0_; have HO_7 := n1_; have BK118 := n2_; have HB := n3_; clear n0_ n1_ n2_ n3_; (try clear hb); (try clear hb2); (try clear hk); (try clear hi)))
             go_roundg k2
             case measure => have := HK1.out; have := HK2.out; omega
             case rel => exact ⟨(x6_2), (x7_2), (wrap64 (x9_2 + 1)), au, H', ⟨by have := HK1.out; have := HK2.out; omega⟩, ⟨rl HO_6⟩, ⟨rl HO_7⟩, ⟨bk BK118⟩, ⟨bs HB GE118⟩⟩
          ·rw [if_neg c24] at H
           exact absurd H (by simp)
         ·rw [if_neg c23] at H
          have c23b0 : decide (x9_2 < (l0_1.length : Int)) = false := decide_eq_false c23; clear c23
          simp only [Option.some.injEq, Prod.mk.injEq] at H
          obtain ⟨rfl, rfl⟩ := H; have hcz46_0 : wr.cell? ⟨gb118, 0, none⟩ = some (.int .i64 a0_0) := (blk_cell BK118.out 0).trans rfl; have hcz46_1 : wr.cell? ⟨gb118, 1, none⟩ = some (.slice A0_1 l0_1.length c0_1) := (blk_cell BK118.out 1).trans rfl; have hfz46_0 := blk_frozen BK118.out 0; have hfz46_1 := blk_frozen BK118.out 1
          go_wp2
          go_ret2
          exact ⟨_, by first | rfl | (simp [errW_none, errW_some] <;> rfl) | (simp only [← hji3]; first | rfl | (simp [errW_none, errW_some] <;> rfl)) | (simp [*, errW_none, errW_some] <;> rfl), by (with_reducible repeat (first | apply Kd.R_alloc | apply Kd.R_drewN | apply Kd.R_drew)); exact Kd.R_mono HO_7.out (fun _ hk => trivial), bs HB GE118⟩
   ·rw [if_neg c6] at H
    exact absurd H (by simp)
  ·rw [if_neg c5] at H
   exact absurd H (by simp)
 ·rw [if_neg c4] at H
  exact absurd H (by simp)

-- NOT PRINTED: function 65 (spec_l18Search_visit)

end Go.Proofs.Ytpkclocdenagcaa.PFnSettled
