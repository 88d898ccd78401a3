-- Written by a program of this session (a turned copy of the kit's printer); Lean checks it.
-- half the depth
import Derived.Test.YtonkicgdgpcneaaPFnSlicesx0
import Derived.Test.YtonkicgdgpcneaaPFnSlicesx5
namespace Go.Proofs.Ytonkicgdgpcneaa.PFnSlices
open Go.RowKit Go.Proofs.YtonkicgdgpcneaaW.PrintWords Go.Proofs.YtonkicgdgpcneaaW.PrintLast Go.Proofs.YtonkicgdgpcneaaW.PrintMore
attribute [local go_sem] max2_int min2_int max_two min_two max_three min_three max_four min_four   -- for this text's walks alone
set_option linter.unusedVariables false
set_option linter.unusedSimpArgs false

/-! ### spec_DeclsOk: function 75 -/
mutual
def spec_DeclsOk.l0 : Nat → List (S63) → Int → Int → Option (Bool)
 | 0, _, _, _ => none
 | k + 1, x0, x3, x4 => if x4 < (x0.length : Int) then (if 0 ≤ x4 then ((spec_l1Name.f k ((rd_T63 x0 x4).f0)).bind fun t200 => (if t200 = true then ((spec_l1In.f ((rd_T63 x0 x4).f1) 1 4096).bind fun t202 => (spec_DeclsOk.j1 k x0 x3 x4 (!t202))) else (spec_DeclsOk.j1 k x0 x3 x4 true))) else (none)) else (some (decide (x3 ≤ 20000)))
def spec_DeclsOk.j1 : Nat → List (S63) → Int → Int → Bool → Option (Bool)
 | 0, _, _, _, _ => none
 | k + 1, x0, x3, x4, x30 => if x30 = true then (some false) else (spec_DeclsOk.l1 k x0 x3 x4 0)
def spec_DeclsOk.l1 : Nat → List (S63) → Int → Int → Int → Option (Bool)
 | 0, _, _, _, _ => none
 | k + 1, x0, x3, x4, x5 => if x5 < x4 then (if 0 ≤ x5 then (if x5 < (x0.length : Int) then (if 0 ≤ x4 then (if x4 < (x0.length : Int) then (if ((rd_T63 x0 x5).f0).toList = ((rd_T63 x0 x4).f0).toList then (some false) else (spec_DeclsOk.l1 k x0 x3 x4 (wrap64 (x5 + 1)))) else (none)) else (none)) else (none)) else (none)) else (if 0 ≤ x4 then (if x4 < (x0.length : Int) then (spec_DeclsOk.l0 k x0 (wrap64 (x3 + ((rd_T63 x0 x4).f1))) (wrap64 (x4 + 1))) else (none)) else (none))
end
def spec_DeclsOk.f (k : Nat) (l0 : List (S63)) : Option (Bool) := if (l0.length : Int) > 60 then (some false) else (spec_DeclsOk.l0 k l0 0 0)
set_option maxHeartbeats 8000000 in
set_option maxRecDepth 100000 in
theorem spec_DeclsOk.calls (k : Nat) (A0 : Option Addr) (c0 : Nat) (l0 : List (S63)) (r : Bool) (w : World) (hr0 : Kd.C k63 w A0 l0.length l0) (hc0 : l0.length ≤ c0) (h : spec_DeclsOk.f k l0 = some r) :
  Calls Try.prog 75 #[.slice A0 l0.length c0] w fun e w' => e = .returned (.bool r) ∧ Drawn0 w w' := by
 have HR0 := Aside0.mk hr0; have HC0 := Aside0.mk hc0; clear hr0 hc0; have H : (if (l0.length : Int) > 60 then (some false) else (spec_DeclsOk.l0 k l0 0 0)) = some r := h; clear h
 by_cases c2 : (l0.length : Int) > 60
 ·rw [if_pos c2] at H
  have c2b0 : decide (60 < (l0.length : Int)) = true := decide_eq_true c2; have c2b1 : decide (60 < l0.length) = true := decide_eq_true (by omega); clear c2; obtain rfl := Option.some.inj H
  go_enter Try.func75, Try.ntmps75
  go_wp2
  repeat (go_quiet (fail); try go_wp2)
  go_ret
  exact ⟨au, dr⟩
 ·rw [if_neg c2] at H
  have c2b0 : decide (60 < (l0.length : Int)) = false := decide_eq_false c2; have c2b1 : decide (60 < l0.length) = false := decide_eq_false (by omega); clear c2; have H' := Aside0.mk H; clear H
  go_enter Try.func75, Try.ntmps75
  go_wp2
  repeat (go_quiet (fail); try go_wp2)
  go_loopg [3, 4] k (fun kq v3 v4 w' => ∃ (x3_1 : Int) (x4_1 : Int), v3 = .int .i64 x3_1 ∧ v4 = .int .i64 x4_1 ∧ Aside0 (spec_DeclsOk.l0 kq l0 x3_1 x4_1 = some r) ∧ Aside0 (kq ≤ k) ∧ Drawn0 w w')
  case atStart => exact ⟨(0), (0), au, au, H', ⟨Nat.le_refl _⟩, dr⟩
  case round =>
   clear H'
   try clear c2
   try clear c2b0
   try clear c2b1
   try clear p2
   obtain ⟨x3_1, x4_1, rfl, rfl, HA, HK1, ⟨m1, rfl⟩⟩ := hrel
   cases gk with
   | zero => exact absurd HA.out (by simp [spec_DeclsOk.l0])
   | succ k1 =>
    have H := HA.out; clear HA
    simp only [spec_DeclsOk.l0] at H
    by_cases c3 : x4_1 < (l0.length : Int)
    ·rw [if_pos c3] at H
     have c3b0 : decide (x4_1 < (l0.length : Int)) = true := decide_eq_true c3; clear c3; have HC4 := Aside0.mk H; clear H
     go_upto_region 7 with (fail)
     repeat (go_quiet (fail); go_upto_region 7 with (fail))
     go_cut [30] (fun v30 wc => ∃ (kq : Nat) (x30_3 : Bool), v30 = .bool x30_3 ∧ Aside0 (spec_DeclsOk.j1 kq l0 x3_1 x4_1 x30_3 = some r) ∧ Aside0 (kq ≤ k1) ∧ Drawn0 w wc)
     case first =>
      have H := HC4.out; clear HC4
      by_cases c5 : 0 ≤ x4_1
      ·rw [if_pos c5] at H
       have c5b0 : decide (0 ≤ x4_1) = true := decide_eq_true c5; clear c5
       (first | rw [c5b0] | (simp only [i64_w, i32_w]; rw [c5b0]) | skip)
       replace H := Option.bind_eq_some_iff.mp H; obtain ⟨t200, A60, H⟩ := H; replace H : (if t200 = true then ((spec_l1In.f ((rd_T63 l0 x4_1).f1) 1 4096).bind fun t202 => (spec_DeclsOk.j1 k1 l0 x3_1 x4_1 (!t202))) else (spec_DeclsOk.j1 k1 l0 x3_1 x4_1 true)) = some r := H; have A6 := Aside0.mk A60; clear A60
       by_cases c7 : t200 = true
       ·subst c7
        have H1 : ((spec_l1In.f ((rd_T63 l0 x4_1).f1) 1 4096).bind fun t202 => (spec_DeclsOk.j1 k1 l0 x3_1 x4_1 (!t202))) = some r := by rw [if_pos rfl] at H; exact H
        clear H; have H := H1; clear H1; replace H := Option.bind_eq_some_iff.mp H; obtain ⟨t202, A80, H⟩ := H; replace H : (spec_DeclsOk.j1 k1 l0 x3_1 x4_1 (!t202)) = some r := H; have A8 := Aside0.mk A80; clear A80; have H' := Aside0.mk H; clear H; have p199 : 0 ≤ (x4_1 : Int) := ode; have q199 : x4_1 < (l0.length : Int) := ode; obtain ⟨ad199, e199, hx199_0, hx199_1⟩ := at_T63 HR0.out x4_1 p199 q199
        cases e199
        replace p199 := eq_true p199; replace q199 := eq_true q199
        go_wp2_with (first | (go_at_call 88; (with_reducible refine (spec_l1Name.calls k1 ((rd_T63 l0 x4_1).f0) true _ A6.out).mono ?_); rintro e w' ⟨rfl, ⟨nd, rfl⟩⟩; (try exact dd); have p201 : 0 ≤ (x4_1 : Int) := ode; have q201 : x4_1 < (l0.length : Int) := ode; obtain ⟨ad201, e201, hx201_0, hx201_1⟩ := at_T63 HR0.out x4_1 p201 q201; obtain rfl : ad199 = ad201 := (by injection e201); replace p201 := eq_true p201; replace q201 := eq_true q201) | (go_at_call 68; (with_reducible refine (spec_l1In.calls ((rd_T63 l0 x4_1).f1) 1 4096 t202 _ A8.out).mono ?_); rintro e w' ⟨rfl, ⟨nd, rfl⟩⟩; (try exact dd)))
        repeat (go_quiet (first | (go_at_call 88; (with_reducible refine (spec_l1Name.calls k1 ((rd_T63 l0 x4_1).f0) true _ A6.out).mono ?_); rintro e w' ⟨rfl, ⟨nd, rfl⟩⟩; (try exact dd); have p201 : 0 ≤ (x4_1 : Int) := ode; have q201 : x4_1 < (l0.length : Int) := ode; obtain ⟨ad201, e201, hx201_0, hx201_1⟩ := at_T63 HR0.out x4_1 p201 q201; obtain rfl : ad199 = ad201 := (by injection e201); replace p201 := eq_true p201; replace q201 := eq_true q201) | (go_at_call 68; (with_reducible refine (spec_l1In.calls ((rd_T63 l0 x4_1).f1) 1 4096 t202 _ A8.out).mono ?_); rintro e w' ⟨rfl, ⟨nd, rfl⟩⟩; (try exact dd))); try go_wp2_with (first | (go_at_call 88; (with_reducible refine (spec_l1Name.calls k1 ((rd_T63 l0 x4_1).f0) true _ A6.out).mono ?_); rintro e w' ⟨rfl, ⟨nd, rfl⟩⟩; (try exact dd); have p201 : 0 ≤ (x4_1 : Int) := ode; have q201 : x4_1 < (l0.length : Int) := ode; obtain ⟨ad201, e201, hx201_0, hx201_1⟩ := at_T63 HR0.out x4_1 p201 q201; obtain rfl : ad199 = ad201 := (by injection e201); replace p201 := eq_true p201; replace q201 := eq_true q201) | (go_at_call 68; (with_reducible refine (spec_l1In.calls ((rd_T63 l0 x4_1).f1) 1 4096 t202 _ A8.out).mono ?_); rintro e w' ⟨rfl, ⟨nd, rfl⟩⟩; (try exact dd))))
        go_meet
        case rel => exact ⟨_, (!t202), au, H', ⟨by have := HK1.out; first | omega | exact Nat.le_refl _⟩, dr⟩
       ·replace c7 := Bool.eq_false_iff.mpr c7
        subst c7
        have H1 : (spec_DeclsOk.j1 k1 l0 x3_1 x4_1 true) = some r := by rw [if_neg (show ¬ (false = true) by decide)] at H; exact H
        clear H; have H := H1; clear H1; have H' := Aside0.mk H; clear H; have p199 : 0 ≤ (x4_1 : Int) := ode; have q199 : x4_1 < (l0.length : Int) := ode; obtain ⟨ad199, e199, hx199_0, hx199_1⟩ := at_T63 HR0.out x4_1 p199 q199
        cases e199
        replace p199 := eq_true p199; replace q199 := eq_true q199
        go_wp2_with (first | (go_at_call 88; (with_reducible refine (spec_l1Name.calls k1 ((rd_T63 l0 x4_1).f0) false _ A6.out).mono ?_); rintro e w' ⟨rfl, ⟨nd, rfl⟩⟩; (try exact dd)))
        repeat (go_quiet (first | (go_at_call 88; (with_reducible refine (spec_l1Name.calls k1 ((rd_T63 l0 x4_1).f0) false _ A6.out).mono ?_); rintro e w' ⟨rfl, ⟨nd, rfl⟩⟩; (try exact dd))); try go_wp2_with (first | (go_at_call 88; (with_reducible refine (spec_l1Name.calls k1 ((rd_T63 l0 x4_1).f0) false _ A6.out).mono ?_); rintro e w' ⟨rfl, ⟨nd, rfl⟩⟩; (try exact dd))))
        go_meet
        case rel => exact ⟨_, (true), au, H', ⟨by have := HK1.out; first | omega | exact Nat.le_refl _⟩, dr⟩
      ·rw [if_neg c5] at H
       exact absurd H (by simp)
     case rest =>
      clear HC4
      try clear p1
      try clear q1
      try clear hx1
      try clear c2
      try clear c2b0
      try clear c2b1
      try clear p2
      try clear q2
      try clear hx2
      try clear c3
      try clear c3b0
      try clear c5
      try clear c5b0
      try clear c7
      try clear hx199_0
      try clear hx199_1
      try clear hx201_0
      try clear hx201_1
      try clear p199
      try clear p2
      try clear p201
      try clear q199
      try clear q201
      obtain ⟨kq, x30_3, rfl, HA, HJ3, ⟨mc3, rfl⟩⟩ := hcut
      cases kq with
      | zero => exact absurd HA.out (by simp [spec_DeclsOk.j1])
      | succ kj3 =>
       have H := HA.out; clear HA
       simp only [spec_DeclsOk.j1] at H
       by_cases c9 : x30_3 = true
       ·subst c9
        have H1 : (some false) = some r := by rw [if_pos rfl] at H; exact H
        clear H; have H := H1; clear H1; obtain rfl := Option.some.inj H
        go_wp2
        repeat (go_quiet (fail); try go_wp2)
        go_ret
        exact ⟨au, dr⟩
       ·replace c9 := Bool.eq_false_iff.mpr c9
        subst c9
        have H1 : (spec_DeclsOk.l1 kj3 l0 x3_1 x4_1 0) = some r := by rw [if_neg (show ¬ (false = true) by decide)] at H; exact H
        clear H; have H := H1; clear H1; have H' := Aside0.mk H; clear H
        go_wp2
        repeat (go_quiet (fail); try go_wp2)
        go_loopg [5] kj3 (fun kq v5 w' => ∃ (x5_3 : Int), v5 = .int .i64 x5_3 ∧ Aside0 (spec_DeclsOk.l1 kq l0 x3_1 x4_1 x5_3 = some r) ∧ Aside0 (kq ≤ kj3) ∧ Drawn0 w w')
        case atStart => exact ⟨(0), au, H', ⟨Nat.le_refl _⟩, dr⟩
        case round =>
         clear H'
         try clear p1
         try clear q1
         try clear hx1
         try clear c2
         try clear c2b0
         try clear c2b1
         try clear p2
         try clear q2
         try clear hx2
         try clear c3
         try clear c3b0
         try clear c5
         try clear c5b0
         try clear c7
         try clear c9
         try clear hx199_0
         try clear hx199_1
         try clear hx201_0
         try clear hx201_1
         try clear p1
         try clear p199
         try clear p2
         try clear p201
         try clear q1
         try clear q199
         try clear q2
         try clear q201
         obtain ⟨x5_3, rfl, HA, HK3, ⟨m3, rfl⟩⟩ := hrel
         cases gk with
         | zero => exact absurd HA.out (by simp [spec_DeclsOk.l1])
         | succ k3 =>
          have H := HA.out; clear HA
          simp only [spec_DeclsOk.l1] at H
          by_cases c10 : x5_3 < x4_1
          ·rw [if_pos c10] at H
           have c10b0 : decide (x5_3 < x4_1) = true := decide_eq_true c10; clear c10
           by_cases c11 : 0 ≤ x5_3
           ·rw [if_pos c11] at H
            have c11b0 : decide (0 ≤ x5_3) = true := decide_eq_true c11; clear c11
            by_cases c12 : x5_3 < (l0.length : Int)
            ·rw [if_pos c12] at H
             have c12b0 : decide (x5_3 < (l0.length : Int)) = true := decide_eq_true c12; clear c12
             by_cases c13 : 0 ≤ x4_1
             ·rw [if_pos c13] at H
              have c13b0 : decide (0 ≤ x4_1) = true := decide_eq_true c13; clear c13
              by_cases c14 : x4_1 < (l0.length : Int)
              ·rw [if_pos c14] at H
               have c14b0 : decide (x4_1 < (l0.length : Int)) = true := decide_eq_true c14; clear c14
               by_cases c15 : ((rd_T63 l0 x5_3).f0).toList = ((rd_T63 l0 x4_1).f0).toList
               ·rw [if_pos c15] at H
                have c15b0 : (((rd_T63 l0 x5_3).f0).toList == ((rd_T63 l0 x4_1).f0).toList) = true := beq_iff_eq.mpr c15; have c15b1 : (((rd_T63 l0 x5_3).f0).toList != ((rd_T63 l0 x4_1).f0).toList) = false := bne_eq_false_iff_eq.mpr c15; clear c15; obtain rfl := Option.some.inj H; have p203 : 0 ≤ (x5_3 : Int) := ode; have q203 : x5_3 < (l0.length : Int) := ode; obtain ⟨ad203, e203, hx203_0, hx203_1⟩ := at_T63 HR0.out x5_3 p203 q203
                cases e203
                replace p203 := eq_true p203; replace q203 := eq_true q203; have p204 : 0 ≤ (x4_1 : Int) := ode; have q204 : x4_1 < (l0.length : Int) := ode; obtain ⟨ad204, e204, hx204_0, hx204_1⟩ := at_T63 HR0.out x4_1 p204 q204; obtain rfl : ad203 = ad204 := (by injection e204); replace p204 := eq_true p204; replace q204 := eq_true q204
                go_wp2
                repeat (go_quiet (fail); try go_wp2)
                go_ret
                exact ⟨au, dr⟩
               ·rw [if_neg c15] at H
                have c15b0 : (((rd_T63 l0 x5_3).f0).toList == ((rd_T63 l0 x4_1).f0).toList) = false := beq_eq_false_iff_ne.mpr c15; have c15b1 : (((rd_T63 l0 x5_3).f0).toList != ((rd_T63 l0 x4_1).f0).toList) = true := bne_iff_ne.mpr c15; have H' := Aside0.mk H; clear H; have p203 : 0 ≤ (x5_3 : Int) := ode; have q203 : x5_3 < (l0.length : Int) := ode; obtain ⟨ad203, e203, hx203_0, hx203_1⟩ := at_T63 HR0.out x5_3 p203 q203
                cases e203
                replace p203 := eq_true p203; replace q203 := eq_true q203; have p204 : 0 ≤ (x4_1 : Int) := ode; have q204 : x4_1 < (l0.length : Int) := ode; obtain ⟨ad204, e204, hx204_0, hx204_1⟩ := at_T63 HR0.out x4_1 p204 q204; obtain rfl : ad203 = ad204 := (by injection e204); replace p204 := eq_true p204; replace q204 := eq_true q204
                go_wp2
                repeat (go_quiet (fail); try go_wp2)
                go_roundg k3
                case measure => have := HK1.out; have := HJ3.out; have := HK3.out; omega
                case rel => exact ⟨(wrap64 (x5_3 + 1)), au, H', ⟨by have := HK1.out; have := HJ3.out; have := HK3.out; omega⟩, dr⟩
              ·rw [if_neg c14] at H
               exact absurd H (by simp)
             ·rw [if_neg c13] at H
              exact absurd H (by simp)
            ·rw [if_neg c12] at H
             exact absurd H (by simp)
           ·rw [if_neg c11] at H
            exact absurd H (by simp)
          ·rw [if_neg c10] at H
           have c10b0 : decide (x5_3 < x4_1) = false := decide_eq_false c10; clear c10
           by_cases c16 : 0 ≤ x4_1
           ·rw [if_pos c16] at H
            have c16b0 : decide (0 ≤ x4_1) = true := decide_eq_true c16; clear c16
            by_cases c17 : x4_1 < (l0.length : Int)
            ·rw [if_pos c17] at H
             have c17b0 : decide (x4_1 < (l0.length : Int)) = true := decide_eq_true c17; clear c17; have H' := Aside0.mk H; clear H; have p205 : 0 ≤ (x4_1 : Int) := ode; have q205 : x4_1 < (l0.length : Int) := ode; obtain ⟨ad205, e205, hx205_0, hx205_1⟩ := at_T63 HR0.out x4_1 p205 q205
             cases e205
             replace p205 := eq_true p205; replace q205 := eq_true q205
             go_wp2
             repeat (go_quiet (fail); try go_wp2)
             go_roundg k3
             case measure => have := HK1.out; have := HJ3.out; have := HK3.out; omega
             case rel => exact ⟨(wrap64 (x3_1 + ((rd_T63 l0 x4_1).f1))), (wrap64 (x4_1 + 1)), au, au, H', ⟨by have := HK1.out; have := HJ3.out; have := HK3.out; omega⟩, dr⟩
            ·rw [if_neg c17] at H
             exact absurd H (by simp)
           ·rw [if_neg c16] at H
            exact absurd H (by simp)
    ·rw [if_neg c3] at H
     have c3b0 : decide (x4_1 < (l0.length : Int)) = false := decide_eq_false c3; clear c3; obtain rfl := Option.some.inj H
     go_wp2
     repeat (go_quiet (fail); try go_wp2)
     go_ret
     exact ⟨au, dr⟩

end Go.Proofs.Ytonkicgdgpcneaa.PFnSlices
