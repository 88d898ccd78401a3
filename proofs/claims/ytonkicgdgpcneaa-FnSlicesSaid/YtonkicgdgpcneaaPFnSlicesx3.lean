-- Written by a program of this session (a turned copy of the kit's printer); Lean checks it.
-- half the depth
import Derived.Test.YtonkicgdgpcneaaPFnSlicesx0
namespace Go.Proofs.Ytonkicgdgpcneaa.PFnSlices
open Go.RowKit Go.Proofs.YtonkicgdgpcneaaW.PrintWords Go.Proofs.YtonkicgdgpcneaaW.PrintLast Go.Proofs.YtonkicgdgpcneaaW.PrintMore
attribute [local go_sem] max2_int min2_int max_two min_two max_three min_three max_four min_four   -- for this text's walks alone
set_option linter.unusedVariables false
set_option linter.unusedSimpArgs false

/-! ### impl_nameOk: function 89 -/
mutual
def impl_nameOk.j0 : Nat → ByteArray → Bool → Option (Bool)
 | 0, _, _ => none
 | k + 1, x0, x21 => if x21 = true then (some false) else (impl_nameOk.l0 k x0 0)
def impl_nameOk.l0 : Nat → ByteArray → Int → Option (Bool)
 | 0, _, _ => none
 | k + 1, x0, x3 => if x3 < (x0.size : Int) then (if 0 ≤ x3 then (if (bt x0 x3) < 97 then (if (bt x0 x3) < 48 then (some false) else (if (bt x0 x3) > 57 then (some false) else (impl_nameOk.l0 k x0 (wrap64 (x3 + 1))))) else (if (bt x0 x3) > 122 then (if (bt x0 x3) < 48 then (some false) else (if (bt x0 x3) > 57 then (some false) else (impl_nameOk.l0 k x0 (wrap64 (x3 + 1))))) else (impl_nameOk.l0 k x0 (wrap64 (x3 + 1))))) else (none)) else (some true)
end
def impl_nameOk.f (k : Nat) (a0 : ByteArray) : Option (Bool) := if (a0.size : Int) < 1 then (impl_nameOk.j0 k a0 true) else (if (a0.size : Int) > 12 then (impl_nameOk.j0 k a0 true) else (if 0 < (a0.size : Int) then (if (bt a0 0) < 97 then (impl_nameOk.j0 k a0 true) else (impl_nameOk.j0 k a0 (decide ((bt a0 0) > 122)))) else (none)))
set_option maxHeartbeats 8000000 in
set_option maxRecDepth 100000 in
theorem impl_nameOk.calls (k : Nat) (a0 : ByteArray) (r : Bool) (w : World) (h : impl_nameOk.f k a0 = some r) :
  Calls Try.prog 89 #[.string a0] w fun e w' => e = .returned (.bool r) ∧ Drawn0 w w' := by
 have H : (if (a0.size : Int) < 1 then (impl_nameOk.j0 k a0 true) else (if (a0.size : Int) > 12 then (impl_nameOk.j0 k a0 true) else (if 0 < (a0.size : Int) then (if (bt a0 0) < 97 then (impl_nameOk.j0 k a0 true) else (impl_nameOk.j0 k a0 (decide ((bt a0 0) > 122)))) else (none)))) = some r := h; clear h; have HC2 := Aside0.mk H; clear H
 go_enter Try.func89, Try.ntmps89
 go_upto_region 1 with (fail)
 go_cut [21] (fun v21 wc => ∃ (kq : Nat) (x21_1 : Bool), v21 = .bool x21_1 ∧ Aside0 (impl_nameOk.j0 kq a0 x21_1 = some r) ∧ Aside0 (kq ≤ k) ∧ Drawn0 w wc)
 case first =>
  have H := HC2.out; clear HC2
  by_cases c3 : (a0.size : Int) < 1
  ·rw [if_pos c3] at H
   have c3b0 : decide ((a0.size : Int) < 1) = true := decide_eq_true c3; have c3b1 : decide (a0.size < 1) = true := decide_eq_true (by omega); clear c3
   (first | rw [c3b0] | (simp only [i64_w, i32_w]; rw [c3b0]) | skip)
   have H' := Aside0.mk H; clear H
   go_wp2
   go_meet
   case rel => exact ⟨_, (true), au, H', ⟨by first | omega | exact Nat.le_refl _⟩, dr⟩
  ·rw [if_neg c3] at H
   have c3b0 : decide ((a0.size : Int) < 1) = false := decide_eq_false c3; have c3b1 : decide (a0.size < 1) = false := decide_eq_false (by omega); clear c3
   (first | rw [c3b0] | (simp only [i64_w, i32_w]; rw [c3b0]) | skip)
   by_cases c4 : (a0.size : Int) > 12
   ·rw [if_pos c4] at H
    have c4b0 : decide (12 < (a0.size : Int)) = true := decide_eq_true c4; have c4b1 : decide (12 < a0.size) = true := decide_eq_true (by omega); clear c4; have H' := Aside0.mk H; clear H
    go_wp2
    go_meet
    case rel => exact ⟨_, (true), au, H', ⟨by first | omega | exact Nat.le_refl _⟩, dr⟩
   ·rw [if_neg c4] at H
    have c4b0 : decide (12 < (a0.size : Int)) = false := decide_eq_false c4; have c4b1 : decide (12 < a0.size) = false := decide_eq_false (by omega); clear c4
    by_cases c5 : 0 < (a0.size : Int)
    ·rw [if_pos c5] at H
     have c5b0 : decide (0 < (a0.size : Int)) = true := decide_eq_true c5; have c5b1 : decide (0 < a0.size) = true := decide_eq_true (by omega); clear c5
     by_cases c7 : (bt a0 0) < 97
     ·rw [if_pos c7] at H
      have c7b0 : decide ((bt a0 0) < 97) = true := decide_eq_true c7; clear c7; have H' := Aside0.mk H; clear H; have p6 : 0 ≤ (0 : Int) := (by omega); have q6 : 0 < a0.size := (by have : (0 : Int) < (a0.size : Int) := ode; omega)
      have hx6 : ∀ h : 0 < a0.size, ((a0[0]'h).toNat : Int) = bt a0 0 := bt_at a0 0; clear p6; have qi6 : (0 < (a0.size : Int)) = True := eq_true (ode); replace q6 := eq_true q6
      go_wp2
      go_meet
      case rel => exact ⟨_, (true), au, H', ⟨by first | omega | exact Nat.le_refl _⟩, dr⟩
     ·rw [if_neg c7] at H
      have c7b0 : decide ((bt a0 0) < 97) = false := decide_eq_false c7; clear c7; have H' := Aside0.mk H; clear H; have p6 : 0 ≤ (0 : Int) := (by omega); have q6 : 0 < a0.size := (by have : (0 : Int) < (a0.size : Int) := ode; omega)
      have hx6 : ∀ h : 0 < a0.size, ((a0[0]'h).toNat : Int) = bt a0 0 := bt_at a0 0; clear p6; have qi6 : (0 < (a0.size : Int)) = True := eq_true (ode); replace q6 := eq_true q6; have p8 : 0 ≤ (0 : Int) := (by omega); have q8 : 0 < a0.size := (by have : (0 : Int) < (a0.size : Int) := ode; omega)
      have hx8 : ∀ h : 0 < a0.size, ((a0[0]'h).toNat : Int) = bt a0 0 := bt_at a0 0; clear p8; have qi8 : (0 < (a0.size : Int)) = True := eq_true (ode); replace q8 := eq_true q8
      go_wp2
      go_meet
      case rel => exact ⟨_, (decide ((bt a0 0) > 122)), au, H', ⟨by first | omega | exact Nat.le_refl _⟩, dr⟩
    ·rw [if_neg c5] at H
     exact absurd H (by simp)
 case rest =>
  clear HC2
  try clear p2
  try clear c3
  try clear c3b0
  try clear c3b1
  try clear c4
  try clear c4b0
  try clear c4b1
  try clear c5
  try clear c5b0
  try clear c5b1
  try clear p6
  try clear q6
  try clear hx6
  try clear qi6
  try clear c7
  try clear c7b0
  try clear c8
  try clear p8
  try clear q8
  try clear hx8
  try clear qi8
  try clear p6
  try clear p8
  try clear q6
  try clear q8
  obtain ⟨kq, x21_1, rfl, HA, HJ1, ⟨mc1, rfl⟩⟩ := hcut
  cases kq with
  | zero => exact absurd HA.out (by simp [impl_nameOk.j0])
  | succ kj1 =>
   have H := HA.out; clear HA
   simp only [impl_nameOk.j0] at H
   by_cases c9 : x21_1 = true
   ·subst c9
    have H1 : (some false) = some r := by rw [if_pos rfl] at H; exact H
    clear H; have H := H1; clear H1; obtain rfl := Option.some.inj H
    go_wp2
    go_ret
    exact ⟨au, dr⟩
   ·replace c9 := Bool.eq_false_iff.mpr c9
    subst c9
    have H1 : (impl_nameOk.l0 kj1 a0 0) = some r := by rw [if_neg (show ¬ (false = true) by decide)] at H; exact H
    clear H; have H := H1; clear H1; have H' := Aside0.mk H; clear H
    go_wp2
    go_loopg [3] kj1 (fun kq v3 w' => ∃ (x3_2 : Int), v3 = .int .i64 x3_2 ∧ Aside0 (impl_nameOk.l0 kq a0 x3_2 = some r) ∧ Aside0 (kq ≤ kj1) ∧ Drawn0 w w')
    case atStart => exact ⟨(0), au, H', ⟨Nat.le_refl _⟩, dr⟩
    case round =>
     clear H'
     try clear c1
     try clear p2
     try clear c3
     try clear c3b0
     try clear c3b1
     try clear c4
     try clear c4b0
     try clear c4b1
     try clear c5
     try clear c5b0
     try clear c5b1
     try clear p6
     try clear q6
     try clear hx6
     try clear qi6
     try clear c7
     try clear c7b0
     try clear c8
     try clear p8
     try clear q8
     try clear hx8
     try clear qi8
     try clear c9
     try clear p2
     try clear p6
     try clear p8
     try clear q6
     try clear q8
     obtain ⟨x3_2, rfl, HA, HK2, ⟨m2, rfl⟩⟩ := hrel
     cases gk with
     | zero => exact absurd HA.out (by simp [impl_nameOk.l0])
     | succ k2 =>
      have H := HA.out; clear HA
      simp only [impl_nameOk.l0] at H
      by_cases c10 : x3_2 < (a0.size : Int)
      ·rw [if_pos c10] at H
       have c10b0 : decide (x3_2 < (a0.size : Int)) = true := decide_eq_true c10; clear c10
       by_cases c11 : 0 ≤ x3_2
       ·rw [if_pos c11] at H
        have c11b0 : decide (0 ≤ x3_2) = true := decide_eq_true c11; clear c11
        by_cases c13 : (bt a0 x3_2) < 97
        ·rw [if_pos c13] at H
         have c13b0 : decide ((bt a0 x3_2) < 97) = true := decide_eq_true c13; clear c13
         by_cases c15 : (bt a0 x3_2) < 48
         ·rw [if_pos c15] at H
          have c15b0 : decide ((bt a0 x3_2) < 48) = true := decide_eq_true c15; clear c15; obtain rfl := Option.some.inj H; have p12 : 0 ≤ (x3_2 : Int) := ode; have q12 : x3_2 < (a0.size : Int) := ode; have hx12 := bt_at a0 x3_2; replace p12 := eq_true p12; replace q12 := eq_true q12; have p14 : 0 ≤ (x3_2 : Int) := ode; have q14 : x3_2 < (a0.size : Int) := ode; have hx14 := bt_at a0 x3_2; replace p14 := eq_true p14; replace q14 := eq_true q14
          go_wp2
          go_ret
          exact ⟨au, dr⟩
         ·rw [if_neg c15] at H
          have c15b0 : decide ((bt a0 x3_2) < 48) = false := decide_eq_false c15; clear c15
          by_cases c17 : (bt a0 x3_2) > 57
          ·rw [if_pos c17] at H
           have c17b0 : decide (57 < (bt a0 x3_2)) = true := decide_eq_true c17; clear c17; obtain rfl := Option.some.inj H; have p12 : 0 ≤ (x3_2 : Int) := ode; have q12 : x3_2 < (a0.size : Int) := ode; have hx12 := bt_at a0 x3_2; replace p12 := eq_true p12; replace q12 := eq_true q12; have p14 : 0 ≤ (x3_2 : Int) := ode; have q14 : x3_2 < (a0.size : Int) := ode; have hx14 := bt_at a0 x3_2; replace p14 := eq_true p14; replace q14 := eq_true q14; have p16 : 0 ≤ (x3_2 : Int) := ode; have q16 : x3_2 < (a0.size : Int) := ode; have hx16 := bt_at a0 x3_2; replace p16 := eq_true p16; replace q16 := eq_true q16
           go_wp2
           go_ret
           exact ⟨au, dr⟩
          ·rw [if_neg c17] at H
           have c17b0 : decide (57 < (bt a0 x3_2)) = false := decide_eq_false c17; clear c17; have H' := Aside0.mk H; clear H; have p12 : 0 ≤ (x3_2 : Int) := ode; have q12 : x3_2 < (a0.size : Int) := ode; have hx12 := bt_at a0 x3_2; replace p12 := eq_true p12; replace q12 := eq_true q12; have p14 : 0 ≤ (x3_2 : Int) := ode; have q14 : x3_2 < (a0.size : Int) := ode; have hx14 := bt_at a0 x3_2; replace p14 := eq_true p14; replace q14 := eq_true q14; have p16 : 0 ≤ (x3_2 : Int) := ode; have q16 : x3_2 < (a0.size : Int) := ode; have hx16 := bt_at a0 x3_2; replace p16 := eq_true p16; replace q16 := eq_true q16
           go_wp2
           go_roundg k2
           case measure => have := HJ1.out; have := HK2.out; omega
           case rel => exact ⟨(wrap64 (x3_2 + 1)), au, H', ⟨by have := HJ1.out; have := HK2.out; omega⟩, dr⟩
        ·rw [if_neg c13] at H
         have c13b0 : decide ((bt a0 x3_2) < 97) = false := decide_eq_false c13; clear c13
         by_cases c19 : (bt a0 x3_2) > 122
         ·rw [if_pos c19] at H
          have c19b0 : decide (122 < (bt a0 x3_2)) = true := decide_eq_true c19; clear c19
          by_cases c21 : (bt a0 x3_2) < 48
          ·rw [if_pos c21] at H
           have c21b0 : decide ((bt a0 x3_2) < 48) = true := decide_eq_true c21; clear c21; obtain rfl := Option.some.inj H; have p12 : 0 ≤ (x3_2 : Int) := ode; have q12 : x3_2 < (a0.size : Int) := ode; have hx12 := bt_at a0 x3_2; replace p12 := eq_true p12; replace q12 := eq_true q12; have p18 : 0 ≤ (x3_2 : Int) := ode; have q18 : x3_2 < (a0.size : Int) := ode; have hx18 := bt_at a0 x3_2; replace p18 := eq_true p18; replace q18 := eq_true q18; have p20 : 0 ≤ (x3_2 : Int) := ode; have q20 : x3_2 < (a0.size : Int) := ode; have hx20 := bt_at a0 x3_2; replace p20 := eq_true p20; replace q20 := eq_true q20
           go_wp2
           go_ret
           exact ⟨au, dr⟩
          ·rw [if_neg c21] at H
           have c21b0 : decide ((bt a0 x3_2) < 48) = false := decide_eq_false c21; clear c21
           by_cases c23 : (bt a0 x3_2) > 57
           ·rw [if_pos c23] at H
            have c23b0 : decide (57 < (bt a0 x3_2)) = true := decide_eq_true c23; clear c23; obtain rfl := Option.some.inj H; have p12 : 0 ≤ (x3_2 : Int) := ode; have q12 : x3_2 < (a0.size : Int) := ode; have hx12 := bt_at a0 x3_2; replace p12 := eq_true p12; replace q12 := eq_true q12; have p18 : 0 ≤ (x3_2 : Int) := ode; have q18 : x3_2 < (a0.size : Int) := ode; have hx18 := bt_at a0 x3_2; replace p18 := eq_true p18; replace q18 := eq_true q18; have p20 : 0 ≤ (x3_2 : Int) := ode; have q20 : x3_2 < (a0.size : Int) := ode; have hx20 := bt_at a0 x3_2; replace p20 := eq_true p20; replace q20 := eq_true q20; have p22 : 0 ≤ (x3_2 : Int) := ode; have q22 : x3_2 < (a0.size : Int) := ode; have hx22 := bt_at a0 x3_2; replace p22 := eq_true p22; replace q22 := eq_true q22
            go_wp2
            go_ret
            exact ⟨au, dr⟩
           ·rw [if_neg c23] at H
            have c23b0 : decide (57 < (bt a0 x3_2)) = false := decide_eq_false c23; clear c23; have H' := Aside0.mk H; clear H; have p12 : 0 ≤ (x3_2 : Int) := ode; have q12 : x3_2 < (a0.size : Int) := ode; have hx12 := bt_at a0 x3_2; replace p12 := eq_true p12; replace q12 := eq_true q12; have p18 : 0 ≤ (x3_2 : Int) := ode; have q18 : x3_2 < (a0.size : Int) := ode; have hx18 := bt_at a0 x3_2; replace p18 := eq_true p18; replace q18 := eq_true q18; have p20 : 0 ≤ (x3_2 : Int) := ode; have q20 : x3_2 < (a0.size : Int) := ode; have hx20 := bt_at a0 x3_2; replace p20 := eq_true p20; replace q20 := eq_true q20; have p22 : 0 ≤ (x3_2 : Int) := ode; have q22 : x3_2 < (a0.size : Int) := ode; have hx22 := bt_at a0 x3_2; replace p22 := eq_true p22; replace q22 := eq_true q22
            go_wp2
            go_roundg k2
            case measure => have := HJ1.out; have := HK2.out; omega
            case rel => exact ⟨(wrap64 (x3_2 + 1)), au, H', ⟨by have := HJ1.out; have := HK2.out; omega⟩, dr⟩
         ·rw [if_neg c19] at H
          have c19b0 : decide (122 < (bt a0 x3_2)) = false := decide_eq_false c19; clear c19; have H' := Aside0.mk H; clear H; have p12 : 0 ≤ (x3_2 : Int) := ode; have q12 : x3_2 < (a0.size : Int) := ode; have hx12 := bt_at a0 x3_2; replace p12 := eq_true p12; replace q12 := eq_true q12; have p18 : 0 ≤ (x3_2 : Int) := ode; have q18 : x3_2 < (a0.size : Int) := ode; have hx18 := bt_at a0 x3_2; replace p18 := eq_true p18; replace q18 := eq_true q18
          go_wp2
          go_roundg k2
          case measure => have := HJ1.out; have := HK2.out; omega
          case rel => exact ⟨(wrap64 (x3_2 + 1)), au, H', ⟨by have := HJ1.out; have := HK2.out; omega⟩, dr⟩
       ·rw [if_neg c11] at H
        exact absurd H (by simp)
      ·rw [if_neg c10] at H
       have c10b0 : decide (x3_2 < (a0.size : Int)) = false := decide_eq_false c10; clear c10; obtain rfl := Option.some.inj H
       go_wp2
       go_ret
       exact ⟨au, dr⟩

-- NOT PRINTED: function 108 (impl_Decl)

/-! ### impl_declared: function 90 -/

/-- The place of the first Decl with this name, counted from i; -1 of none. -/
def idxD (nm : ByteArray) : List S63 → Int → Int
 | [], _ => -1
 | x :: xs, i => if (x.f0.toList == nm.toList) = true then i else idxD nm xs (i + 1)
def impl_declared.f (l0 : List (S63)) (a1 : ByteArray) : Option (Int) := some (idxD a1 l0 0)
theorem idxD_bound (nm : ByteArray) : ∀ (l : List S63) (i : Int), 0 ≤ i → -1 ≤ idxD nm l i ∧ idxD nm l i < i + l.length
 | [], i, h => by simp only [idxD, List.length_nil]; omega
 | x :: xs, i, h => by
  have ih := idxD_bound nm xs (i + 1) (by omega)
  simp only [idxD, List.length_cons]
  split <;> omega
theorem idxD_drop (nm : ByteArray) (l : List S63) (k : Nat) (h : k < l.length) : idxD nm (l.drop k) k = if ((rd_T63 l (k : Int)).f0.toList == nm.toList) = true then (k : Int) else idxD nm (l.drop (k + 1)) ((k + 1 : Nat) : Int) := by
 rw [List.drop_eq_getElem_cons h]
 have e : rd_T63 l (k : Int) = l[k] := by
  unfold rd_T63
  rw [List.getD_eq_getElem?_getD, Int.toNat_natCast, List.getElem?_eq_getElem h]; rfl
 rw [e]
 simp only [idxD]
 norm_cast

set_option maxHeartbeats 2000000 in
set_option maxRecDepth 100000 in
theorem impl_declared.clo (x0 : ByteArray) (x1 : Int) (gb : Nat) (nm : ByteArray) (w : World) (hc : w.cell? ⟨gb, 0, none⟩ = some (.string nm)) :
  Calls Try.prog 109 #[.agg #[.string x0, .int .i64 x1], .pointer (some ⟨gb, 0, none⟩)] w fun e w' => e = .returned (.bool (x0.toList == nm.toList)) ∧ Below w.heap.size w w' := by
 have hlt : gb < w.heap.size := World.block_lt_of_cell? w ⟨gb, 0, none⟩ hc; have hu := Try.underlying63
 go_enter Try.func109, Try.ntmps109
 go_wp2
 go_ret
 exact ⟨rfl, (Below.refl _ _).alloc (Nat.le_refl _) _⟩
set_option maxHeartbeats 2000000 in
set_option maxRecDepth 100000 in
theorem impl_declared.idx (A0 : Option Addr) (c0 : Nat) (l0 : List S63) (gb : Nat) (nm : ByteArray) (w : World) (hc : w.cell? ⟨gb, 0, none⟩ = some (.string nm)) (hr0 : Kd.C k63 w A0 l0.length l0) :
  Calls Try.prog 108 #[.slice A0 l0.length c0, .func (.func 109) #[] #[.pointer (some ⟨gb, 0, none⟩)]] w fun e w' => e = .returned (.int .i64 (idxD nm l0 0)) ∧ Below w.heap.size w w' := by
 have hlt : gb < w.heap.size := World.block_lt_of_cell? w ⟨gb, 0, none⟩ hc; have hmax := Kd.C_max hr0; have HR0 := Aside0.mk hr0; have HC := Aside0.mk hc; clear hr0 hc; have eg : ∀ (args : Array Value) (w : World), (callFunc 109 args).run Try.prog w = .ok (.enter 109 args) w := enters_of Try.func109 (by kernel_rfl) rfl
 go_enter Try.func108, Try.ntmps108
 go_wp2
 go_loopg [5, 8] l0.length (fun gg _ s8 wr => ∃ kk : Nat, kk ≤ l0.length ∧ l0.length - kk ≤ gg ∧ s8 = .int .i64 kk ∧ Aside0 (Below w.heap.size w wr) ∧ Aside0 (idxD nm (l0.drop kk) kk = idxD nm l0 0))
 case atStart => exact ⟨0, Nat.zero_le _, by omega, rfl, ⟨Below.refl _ w⟩, ⟨rfl⟩⟩
 case round =>
  obtain ⟨kk, hkk, hg, rfl, HB, HE⟩ := hrel
  by_cases hlt2 : kk < l0.length
  ·have hltz : (kk : Int) < (l0.length : Int) := by omega
   obtain ⟨ad, e0, hx0, hx1⟩ := at_T63 HR0.out (kk : Int) (by omega) hltz
   cases e0
   replace hx0 := cl HB hx0; replace hx1 := cl HB hx1; rw [Int.toNat_natCast] at hx0 hx1; have hcc := (HB.out.cell (p := ⟨gb, 0, none⟩) hlt).trans HC.out; have hd := idxD_drop nm l0 kk hlt2; have HD := Aside0.mk (hd.symm.trans HE.out); clear hd; have hcall := impl_declared.clo (rd_T63 l0 (kk : Int)).f0 (rd_T63 l0 (kk : Int)).f1 gb nm wr hcc; clear hcc
   cases hq : ((rd_T63 l0 (kk : Int)).f0.toList == nm.toList) with
   | true =>
    rw [hq] at hcall HD; have HQ := Aside0.mk hq; clear hq
    go_wp2_with (go_at_fn 109; refine hcall.mono ?_; rintro e w' ⟨rfl, hb'⟩)
    go_ret
    exact ⟨by rw [← HD.out]; rfl, below_step HB.out hb'⟩
   | false =>
    rw [hq] at hcall HD; have HQ := Aside0.mk hq; clear hq
    go_wp2_with (go_at_fn 109; refine hcall.mono ?_; rintro e w' ⟨rfl, hb'⟩)
    go_roundg (l0.length - (kk + 1))
    case measure => omega
    case rel => exact ⟨kk + 1, by omega, by omega, by go_num, ⟨below_step HB.out hb'⟩, ⟨by rw [← HD.out]; rfl⟩⟩
  ·have hltz : ¬ (kk : Int) < (l0.length : Int) := by omega
   have : kk = l0.length := by omega
   subst this
   go_wp2
   go_ret
   exact ⟨by rw [← HE.out, List.drop_length]; rfl, HB.out⟩
set_option maxHeartbeats 8000000 in
set_option maxRecDepth 100000 in
theorem impl_declared.calls (A0 : Option Addr) (c0 : Nat) (l0 : List (S63)) (a1 : ByteArray) (r : Int) (w : World) (hr0 : Kd.C k63 w A0 l0.length l0) (hc0 : l0.length ≤ c0) (h : impl_declared.f l0 a1 = some r) :
  Calls Try.prog 90 #[.slice A0 l0.length c0, .string a1] w fun e w' => e = .returned (.int .i64 r) ∧ Below w.heap.size w w' := by

 have HR0 := Aside0.mk hr0; clear hr0; obtain rfl := Option.some.inj h; clear h; have hb1 := idxD_bound a1 l0 0 (by omega)
 go_enter Try.func90, Try.ntmps90
 go_wp2_with (first | ((with_reducible refine gate_callee (f := 108) rfl ?_); refine goesL_ (some 7) rfl rfl Try.func108 (by kernel_rfl) rfl #[.slice A0 l0.length c0, .func (.func 109) #[] #[.pointer (some ⟨w.heap.size, 0, none⟩)]] rfl ma ?_; refine (impl_declared.idx A0 c0 l0 _ a1 _ (by simp) (Kd.C_alloc HR0.out _)).mono ?_; rintro e w' ⟨rfl, hb⟩; refine ⟨_, rfl, ?_⟩))
 go_ret
 exact ⟨rfl, below_step ((Below.refl _ _).alloc (Nat.le_refl _) _) hb⟩

end Go.Proofs.Ytonkicgdgpcneaa.PFnSlices
