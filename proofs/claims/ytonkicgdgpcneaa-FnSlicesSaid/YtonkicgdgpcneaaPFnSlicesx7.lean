-- Written by a program of this session (a turned copy of the kit's printer); Lean checks it.
-- half the depth
import Derived.Test.YtonkicgdgpcneaaPFnSlicesx0
import Derived.Test.YtonkicgdgpcneaaPFnSlicesx5
import Derived.Test.YtonkicgdgpcneaaPFnSlicesx6
namespace Go.Proofs.Ytonkicgdgpcneaa.PFnSlices
open Go.RowKit Go.Proofs.YtonkicgdgpcneaaW.PrintWords Go.Proofs.YtonkicgdgpcneaaW.PrintLast Go.Proofs.YtonkicgdgpcneaaW.PrintMore
attribute [local go_sem] max2_int min2_int max_two min_two max_three min_three max_four min_four   -- for this text's walks alone
set_option linter.unusedVariables false
set_option linter.unusedSimpArgs false

/-! ### spec_CutsOk: function 48 -/
mutual
def spec_CutsOk.j0 : Nat → List (S63) → Bool → List (List Int) → Option (Bool)
 | 0, _, _, _ => none
 | k + 1, x0, x17, x207000 => if x17 = true then (some false) else (spec_CutsOk.l0 k x0 0 x207000)
def spec_CutsOk.l0 : Nat → List (S63) → Int → List (List Int) → Option (Bool)
 | 0, _, _, _ => none
 | k + 1, x0, x5, x207000 => if x5 < (x207000.length : Int) then (spec_CutsOk.l1 k x0 x5 0 x207000) else (some true)
def spec_CutsOk.l1 : Nat → List (S63) → Int → Int → List (List Int) → Option (Bool)
 | 0, _, _, _, _ => none
 | k + 1, x0, x5, x6, x207000 => if 0 ≤ x5 then (if x5 < (x207000.length : Int) then (if x6 < ((rd_L4 x207000 x5).length : Int) then (if 0 ≤ x6 then (if x5 < (x0.length : Int) then ((spec_l1In.f (rd (rd_L4 x207000 x5) x6) 1 (wrap64 (((rd_T63 x0 x5).f1) - 1))).bind fun t212 => (if t212 = true then (if x6 > 0 then (if 0 ≤ (wrap64 (x6 - 1)) then (if (wrap64 (x6 - 1)) < ((rd_L4 x207000 x5).length : Int) then (if (rd (rd_L4 x207000 x5) x6) ≤ (rd (rd_L4 x207000 x5) (wrap64 (x6 - 1))) then (some false) else (spec_CutsOk.l1 k x0 x5 (wrap64 (x6 + 1)) x207000)) else (none)) else (none)) else (spec_CutsOk.l1 k x0 x5 (wrap64 (x6 + 1)) x207000)) else (some false))) else (none)) else (none)) else (spec_CutsOk.l0 k x0 (wrap64 (x5 + 1)) x207000)) else (none)) else (none)
end
def spec_CutsOk.f (k : Nat) (l0 : List (S63)) (l1_0 : List (List Int)) : Option (Bool) := (spec_DeclsOk.f k l0).bind fun t207 => (if t207 = true then (spec_CutsOk.j0 k l0 ((l1_0.length : Int) != (l0.length : Int)) l1_0) else (spec_CutsOk.j0 k l0 true l1_0))
set_option maxHeartbeats 8000000 in
set_option maxRecDepth 100000 in
theorem spec_CutsOk.calls (k : Nat) (A0 : Option Addr) (c0 : Nat) (l0 : List (S63)) (A1_0 : Option Addr) (c1_0 : Nat) (l1_0 : List (List Int)) (r : Bool) (w : World) (hr0 : Kd.C k63 w A0 l0.length l0) (hc0 : l0.length ≤ c0) (hr1_0 : Kd.C (Kd.slice 2 (Kd.int .i64)) w A1_0 l1_0.length l1_0) (hc1_0 : l1_0.length ≤ c1_0) (h : spec_CutsOk.f k l0 l1_0 = some r) :
  Calls Try.prog 48 #[.slice A0 l0.length c0, .agg #[.slice A1_0 l1_0.length c1_0]] w fun e w' => e = .returned (.bool r) ∧ Below w.heap.size w w' := by
 have hu44 := Try.underlying44; have HR0 := Aside0.mk hr0; have HC0 := Aside0.mk hc0; clear hr0 hc0; have HR1_0 := Aside0.mk hr1_0; have HC1_0 := Aside0.mk hc1_0; clear hr1_0 hc1_0; have HB := Aside0.mk (Below.refl w.heap.size w); have H : ((spec_DeclsOk.f k l0).bind fun t207 => (if t207 = true then (spec_CutsOk.j0 k l0 ((l1_0.length : Int) != (l0.length : Int)) l1_0) else (spec_CutsOk.j0 k l0 true l1_0))) = some r := h; clear h; have HC3 := Aside0.mk H; clear H
 go_enter Try.func48, Try.ntmps48
 go_upto_region 1 with (first | ((with_reducible refine gate_dst (N := 3) rfl ?_); (try (refine gate_guard (by rfl) ?_; dsimp only)); refine be 3 #[.slice A1_0 l1_0.length c1_0] 44 ?_; intro gb206 hg w4 hbox hb; have n0_ := Aside0.mk (below_step (bl HB) hb); have n1_ := Aside0.mk (hbox); have n2_ := Aside0.mk (gs HB hg); have n3_ := Aside0.mk (gs HB hg); clear HB; have HB := n0_; have BK206 := n1_; have GW206 := n2_; have GE206 := n3_; clear n0_ n1_ n2_ n3_; clear hb hbox hg))
 (try simp only [Act.put, List.setIfInBounds_toArray, List.set_cons_zero, List.set_cons_succ])
 go_cut [17] (fun v17 wc => ∃ (kq : Nat) (x17_2 : Bool), v17 = .bool x17_2 ∧ Aside0 (spec_CutsOk.j0 kq l0 x17_2 l1_0 = some r) ∧ Aside0 (kq ≤ k) ∧ Aside0 (wc.heap[gb206]? = some (.cells #[(.slice A1_0 l1_0.length c1_0)] 44 (0, 0))) ∧ Aside0 (Below w.heap.size w wc))
 case first =>
  have H := HC3.out; clear HC3; replace H := Option.bind_eq_some_iff.mp H; obtain ⟨t207, A50, H⟩ := H; replace H : (if t207 = true then (spec_CutsOk.j0 k l0 ((l1_0.length : Int) != (l0.length : Int)) l1_0) else (spec_CutsOk.j0 k l0 true l1_0)) = some r := H; have A5 := Aside0.mk A50; clear A50
  by_cases c6 : t207 = true
  ·subst c6
   have H1 : (spec_CutsOk.j0 k l0 ((l1_0.length : Int) != (l0.length : Int)) l1_0) = some r := by rw [if_pos rfl] at H; exact H
   clear H; have H := H1; clear H1; have H' := Aside0.mk H; clear H
   go_wp2_with (first | ((with_reducible refine gate_callee (f := 75) rfl ?_); refine goesL_ (some 8) rfl rfl Try.func75 (by kernel_rfl) rfl #[.slice A0 l0.length c0] rfl ma ?_; (with_reducible refine (spec_DeclsOk.calls k _ _ l0 true _ ?side1 ?side2 A5.out).mono ?_); (case side1 => exact rc HR0 HB); (case side2 => exact HC0.out); rintro e w' ⟨rfl, ⟨nd, rfl⟩⟩; refine ⟨_, rfl, ?_⟩; have hcz7_0 : w4.cell? ⟨gb206, 0, none⟩ = some (.slice A1_0 l1_0.length c1_0) := (blk_cell BK206.out 0).trans rfl; have hfz7_0 := blk_frozen BK206.out 0))
   go_meet
   case rel => exact ⟨_, (((l1_0.length : Int) != (l0.length : Int))), au, H', ⟨by first | omega | exact Nat.le_refl _⟩, ⟨bk BK206⟩, ⟨bs HB GE206⟩⟩
  ·replace c6 := Bool.eq_false_iff.mpr c6
   subst c6
   have H1 : (spec_CutsOk.j0 k l0 true l1_0) = some r := by rw [if_neg (show ¬ (false = true) by decide)] at H; exact H
   clear H; have H := H1; clear H1; have H' := Aside0.mk H; clear H
   go_wp2_with (first | ((with_reducible refine gate_callee (f := 75) rfl ?_); refine goesL_ (some 8) rfl rfl Try.func75 (by kernel_rfl) rfl #[.slice A0 l0.length c0] rfl ma ?_; (with_reducible refine (spec_DeclsOk.calls k _ _ l0 false _ ?side1 ?side2 A5.out).mono ?_); (case side1 => exact rc HR0 HB); (case side2 => exact HC0.out); rintro e w' ⟨rfl, ⟨nd, rfl⟩⟩; refine ⟨_, rfl, ?_⟩))
   go_meet
   case rel => exact ⟨_, (true), au, H', ⟨by first | omega | exact Nat.le_refl _⟩, ⟨bk BK206⟩, ⟨bs HB GE206⟩⟩
 case rest =>
  clear HC3
  try clear c1
  try clear p2
  try clear c4
  try clear c6
  try clear c7
  try clear hcz7_0
  try clear hfz7_0
  obtain ⟨kq, x17_2, rfl, HA, HJ2, BK206, HB⟩ := hcut
  cases kq with
  | zero => exact absurd HA.out (by simp [spec_CutsOk.j0])
  | succ kj2 =>
   have H := HA.out; clear HA
   simp only [spec_CutsOk.j0] at H
   by_cases c8 : x17_2 = true
   ·subst c8
    have H1 : (some false) = some r := by rw [if_pos rfl] at H; exact H
    clear H; have H := H1; clear H1; obtain rfl := Option.some.inj H
    go_wp2
    go_ret
    exact ⟨by first | rfl | (simp [errW_none, errW_some] <;> rfl) | (simp [*, errW_none, errW_some] <;> rfl), bs HB GE206⟩
   ·replace c8 := Bool.eq_false_iff.mpr c8
    subst c8
    have H1 : (spec_CutsOk.l0 kj2 l0 0 l1_0) = some r := by rw [if_neg (show ¬ (false = true) by decide)] at H; exact H
    clear H; have H := H1; clear H1; have H' := Aside0.mk H; clear H
    go_wp2
    go_loopg [5] kj2 (fun kq v5 w' => ∃ (x5_2 : Int), v5 = .int .i64 x5_2 ∧ Aside0 (spec_CutsOk.l0 kq l0 x5_2 l1_0 = some r) ∧ Aside0 (kq ≤ kj2) ∧ Aside0 (w'.heap[gb206]? = some (.cells #[(.slice A1_0 l1_0.length c1_0)] 44 (0, 0))) ∧ Aside0 (Below w.heap.size w w'))
    case atStart => exact ⟨(0), au, H', ⟨Nat.le_refl _⟩, ⟨bk BK206⟩, ⟨bs HB GE206⟩⟩
    case round =>
     clear H'
     try clear c1
     try clear p2
     try clear c4
     try clear c6
     try clear c7
     try clear c8
     try clear hcz7_0
     try clear hfz7_0
     try clear p2
     obtain ⟨x5_2, rfl, HA, HK2, BK206, HB⟩ := hrel
     cases gk with
     | zero => exact absurd HA.out (by simp [spec_CutsOk.l0])
     | succ k2 =>
      have H := HA.out; clear HA
      simp only [spec_CutsOk.l0] at H
      by_cases c9 : x5_2 < (l1_0.length : Int)
      ·rw [if_pos c9] at H
       have c9b0 : decide (x5_2 < (l1_0.length : Int)) = true := decide_eq_true c9; clear c9; have H' := Aside0.mk H; clear H; have hcz10_0 : wr.cell? ⟨gb206, 0, none⟩ = some (.slice A1_0 l1_0.length c1_0) := (blk_cell BK206.out 0).trans rfl; have hfz10_0 := blk_frozen BK206.out 0
       go_wp2
       go_loopg [6] k2 (fun kq v6 w' => ∃ (x6_3 : Int), v6 = .int .i64 x6_3 ∧ Aside0 (spec_CutsOk.l1 kq l0 x5_2 x6_3 l1_0 = some r) ∧ Aside0 (kq ≤ k2) ∧ Aside0 (w'.heap[gb206]? = some (.cells #[(.slice A1_0 l1_0.length c1_0)] 44 (0, 0))) ∧ Aside0 (Below w.heap.size w w'))
       case atStart => exact ⟨(0), au, H', ⟨Nat.le_refl _⟩, ⟨bk BK206⟩, ⟨bs HB GE206⟩⟩
       case round =>
        clear H'
        try clear c1
        try clear p2
        try clear c4
        try clear c6
        try clear c7
        try clear c8
        try clear c9
        try clear c9b0
        try clear hcz10_0
        try clear hcz7_0
        try clear hfz10_0
        try clear hfz7_0
        try clear p2
        obtain ⟨x6_3, rfl, HA, HK3, BK206, HB⟩ := hrel
        cases gk with
        | zero => exact absurd HA.out (by simp [spec_CutsOk.l1])
        | succ k3 =>
         have H := HA.out; clear HA
         simp only [spec_CutsOk.l1] at H
         by_cases c11 : 0 ≤ x5_2
         ·rw [if_pos c11] at H
          have c11b0 : decide (0 ≤ x5_2) = true := decide_eq_true c11; clear c11
          by_cases c12 : x5_2 < (l1_0.length : Int)
          ·rw [if_pos c12] at H
           have c12b0 : decide (x5_2 < (l1_0.length : Int)) = true := decide_eq_true c12; clear c12
           by_cases c13 : x6_3 < ((rd_L4 l1_0 x5_2).length : Int)
           ·rw [if_pos c13] at H
            have c13b0 : decide (x6_3 < ((rd_L4 l1_0 x5_2).length : Int)) = true := decide_eq_true c13; clear c13
            by_cases c14 : 0 ≤ x6_3
            ·rw [if_pos c14] at H
             have c14b0 : decide (0 ≤ x6_3) = true := decide_eq_true c14; clear c14
             by_cases c15 : x5_2 < (l0.length : Int)
             ·rw [if_pos c15] at H
              have c15b0 : decide (x5_2 < (l0.length : Int)) = true := decide_eq_true c15; clear c15; replace H := Option.bind_eq_some_iff.mp H; obtain ⟨t212, A160, H⟩ := H; replace H : (if t212 = true then (if x6_3 > 0 then (if 0 ≤ (wrap64 (x6_3 - 1)) then (if (wrap64 (x6_3 - 1)) < ((rd_L4 l1_0 x5_2).length : Int) then (if (rd (rd_L4 l1_0 x5_2) x6_3) ≤ (rd (rd_L4 l1_0 x5_2) (wrap64 (x6_3 - 1))) then (some false) else (spec_CutsOk.l1 k3 l0 x5_2 (wrap64 (x6_3 + 1)) l1_0)) else (none)) else (none)) else (spec_CutsOk.l1 k3 l0 x5_2 (wrap64 (x6_3 + 1)) l1_0)) else (some false)) = some r := H; have A16 := Aside0.mk A160; clear A160
              by_cases c17 : t212 = true
              ·subst c17
               have H1 : (if x6_3 > 0 then (if 0 ≤ (wrap64 (x6_3 - 1)) then (if (wrap64 (x6_3 - 1)) < ((rd_L4 l1_0 x5_2).length : Int) then (if (rd (rd_L4 l1_0 x5_2) x6_3) ≤ (rd (rd_L4 l1_0 x5_2) (wrap64 (x6_3 - 1))) then (some false) else (spec_CutsOk.l1 k3 l0 x5_2 (wrap64 (x6_3 + 1)) l1_0)) else (none)) else (none)) else (spec_CutsOk.l1 k3 l0 x5_2 (wrap64 (x6_3 + 1)) l1_0)) = some r := by rw [if_pos rfl] at H; exact H
               clear H; have H := H1; clear H1
               by_cases c18 : x6_3 > 0
               ·rw [if_pos c18] at H
                have c18b0 : decide (0 < x6_3) = true := decide_eq_true c18; clear c18; obtain ⟨ji19, hji19⟩ : ∃ j_ : Int, (wrap64 (x6_3 - 1)) = j_ := ⟨_, rfl⟩
                replace H : (if 0 ≤ (ji19) then (if (ji19) < ((rd_L4 l1_0 x5_2).length : Int) then (if (rd (rd_L4 l1_0 x5_2) x6_3) ≤ (rd (rd_L4 l1_0 x5_2) (ji19)) then (some false) else (spec_CutsOk.l1 k3 l0 x5_2 (wrap64 (x6_3 + 1)) l1_0)) else (none)) else (none)) = some r := by first | (rw [hji19] at H; exact H) | (simp only [hji19] at H ⊢; exact H)
                (try rw [hji19] at A16)
                have hji19w : (IntKind.i64.wrap (x6_3 - 1)) = ji19 := (i64_w _).trans hji19
                by_cases c20 : 0 ≤ (ji19)
                ·rw [if_pos c20] at H
                 have c20b0 : decide (0 ≤ (ji19)) = true := decide_eq_true c20; clear c20
                 by_cases c21 : (ji19) < ((rd_L4 l1_0 x5_2).length : Int)
                 ·rw [if_pos c21] at H
                  have c21b0 : decide ((ji19) < ((rd_L4 l1_0 x5_2).length : Int)) = true := decide_eq_true c21; clear c21
                  by_cases c22 : (rd (rd_L4 l1_0 x5_2) x6_3) ≤ (rd (rd_L4 l1_0 x5_2) (ji19))
                  ·rw [if_pos c22] at H
                   have c22b0 : decide ((rd (rd_L4 l1_0 x5_2) x6_3) ≤ (rd (rd_L4 l1_0 x5_2) (ji19))) = true := decide_eq_true c22; clear c22; obtain rfl := Option.some.inj H; have hcz23_0 : wr.cell? ⟨gb206, 0, none⟩ = some (.slice A1_0 l1_0.length c1_0) := (blk_cell BK206.out 0).trans rfl; have hfz23_0 := blk_frozen BK206.out 0; have p208 : 0 ≤ (x5_2 : Int) := ode; have q208 : x5_2 < (l1_0.length : Int) := ode; obtain ⟨ad208, A208_0, c208_0, e208, hx208_0, hl208_0, hi208_0⟩ := at_L4 HR1_0.out x5_2 p208 q208
                   cases e208
                   replace hx208_0 := cl HB hx208_0; have HR208_0 := Aside0.mk hi208_0; have HC208_0 := Aside0.mk hl208_0; clear hi208_0 hl208_0; replace p208 := eq_true p208; replace q208 := eq_true q208
                   try go_wp2
                   have p209 : 0 ≤ (x5_2 : Int) := ode; have q209 : x5_2 < (l1_0.length : Int) := ode; obtain ⟨ad209, A209_0, c209_0, e209, hx209_0, hl209_0, hi209_0⟩ := at_L4 HR1_0.out x5_2 p209 q209; have hw209_0 := hx209_0; obtain rfl : ad208 = ad209 := (by injection e209); replace hx209_0 := cl HB hx209_0; have HR209_0 := Aside0.mk hi209_0; have HC209_0 := Aside0.mk hl209_0; clear hi209_0 hl209_0; replace p209 := eq_true p209; replace q209 := eq_true q209; have p210 : 0 ≤ (x6_3 : Int) := ode; have q210 : x6_3 < ((rd_L4 l1_0 x5_2).length : Int) := ode; obtain ⟨ad210, e210, hx210_0⟩ := Kd.at_int HR209_0.out x6_3 p210 q210; have hw210_0 := hx210_0
                   cases e210
                   replace hx210_0 := cl HB hx210_0; replace p210 := eq_true p210; replace q210 := eq_true q210; have p211 : 0 ≤ (x5_2 : Int) := ode; have q211 : x5_2 < (l0.length : Int) := ode; obtain ⟨ad211, e211, hx211_0, hx211_1⟩ := at_T63 HR0.out x5_2 p211 q211; have hw211_1 := hx211_1; have hw211_0 := hx211_0
                   cases e211
                   replace hx211_0 := cl HB hx211_0; replace hx211_1 := cl HB hx211_1; replace p211 := eq_true p211; replace q211 := eq_true q211; have p213 : 0 ≤ (x5_2 : Int) := ode; have q213 : x5_2 < (l1_0.length : Int) := ode; obtain ⟨ad213, A213_0, c213_0, e213, hx213_0, hl213_0, hi213_0⟩ := at_L4 HR1_0.out x5_2 p213 q213; have hw213_0 := hx213_0; obtain rfl : ad208 = ad213 := (by injection e213); replace hx213_0 := cl HB hx213_0; have HR213_0 := Aside0.mk hi213_0; have HC213_0 := Aside0.mk hl213_0; clear hi213_0 hl213_0; replace p213 := eq_true p213; replace q213 := eq_true q213; have ea_ := Option.some.inj (hx209_0.symm.trans hx213_0)
                   injection ea_ with ea_ en_ ec_
                   subst ea_
                   subst ec_
                   clear en_; have p214 : 0 ≤ (x6_3 : Int) := ode; have q214 : x6_3 < ((rd_L4 l1_0 x5_2).length : Int) := ode; obtain ⟨ad214, e214, hx214_0⟩ := Kd.at_int HR213_0.out x6_3 p214 q214; have hw214_0 := hx214_0
                   cases e214
                   replace hx214_0 := cl HB hx214_0; replace p214 := eq_true p214; replace q214 := eq_true q214; have p215 : 0 ≤ (x5_2 : Int) := ode; have q215 : x5_2 < (l1_0.length : Int) := ode; obtain ⟨ad215, A215_0, c215_0, e215, hx215_0, hl215_0, hi215_0⟩ := at_L4 HR1_0.out x5_2 p215 q215; have hw215_0 := hx215_0; obtain rfl : ad208 = ad215 := (by injection e215); replace hx215_0 := cl HB hx215_0; have HR215_0 := Aside0.mk hi215_0; have HC215_0 := Aside0.mk hl215_0; clear hi215_0 hl215_0; replace p215 := eq_true p215; replace q215 := eq_true q215; have ea_ := Option.some.inj (hx209_0.symm.trans hx215_0)
                   injection ea_ with ea_ en_ ec_
                   subst ea_
                   subst ec_
                   clear en_; have p216 : 0 ≤ ((ji19) : Int) := ode; have q216 : (ji19) < ((rd_L4 l1_0 x5_2).length : Int) := ode; obtain ⟨ad216, e216, hx216_0⟩ := Kd.at_int HR215_0.out (ji19) p216 q216; have hw216_0 := hx216_0
                   cases e216
                   replace hx216_0 := cl HB hx216_0; replace p216 := eq_true p216; replace q216 := eq_true q216; obtain ⟨s0_, s1_, s2_, s3_, s4_, s5_, s6_, s7_, s8_⟩ : wr.cell? ⟨gb206, 0, none⟩ = some (.slice (some ad208) l1_0.length c1_0) ∧ wr.cell? (ad208.add (x5_2).toNat) = some (.slice (some ad210) (rd_L4 l1_0 x5_2).length c209_0) ∧ wr.cell? (ad210.add (x6_3).toNat) = some (.int .i64 (rd (rd_L4 l1_0 x5_2) x6_3)) ∧ wr.cell? (ad211.add ((x5_2).toNat * 2)) = some (.string ((rd_T63 l0 x5_2).f0)) ∧ wr.cell? ⟨(ad211.add ((x5_2).toNat * 2)).block, (ad211.add ((x5_2).toNat * 2)).off + 1, none⟩ = some (.int .i64 ((rd_T63 l0 x5_2).f1)) ∧ wr.cell? (ad208.add (x5_2).toNat) = some (.slice (some ad210) (rd_L4 l1_0 x5_2).length c209_0) ∧ wr.cell? (ad210.add (x6_3).toNat) = some (.int .i64 (rd (rd_L4 l1_0 x5_2) x6_3)) ∧ wr.cell? (ad208.add (x5_2).toNat) = some (.slice (some ad210) (rd_L4 l1_0 x5_2).length c209_0) ∧ wr.cell? (ad210.add ((ji19)).toNat) = some (.int .i64 (rd (rd_L4 l1_0 x5_2) (ji19))) := ⟨(blk_cell BK206.out 0).trans rfl, ((HB.out.cell (World.block_lt_of_cell? w _ hw209_0)).trans hw209_0), ((HB.out.cell (World.block_lt_of_cell? w _ hw210_0)).trans hw210_0), ((HB.out.cell (World.block_lt_of_cell? w _ hw211_0)).trans hw211_0), ((HB.out.cell (World.block_lt_of_cell? w _ hw211_1)).trans hw211_1), ((HB.out.cell (World.block_lt_of_cell? w _ hw213_0)).trans hw213_0), ((HB.out.cell (World.block_lt_of_cell? w _ hw214_0)).trans hw214_0), ((HB.out.cell (World.block_lt_of_cell? w _ hw215_0)).trans hw215_0), ((HB.out.cell (World.block_lt_of_cell? w _ hw216_0)).trans hw216_0)⟩
                   (try clear hcz10_0); (try clear hcz23_0); (try clear hcz7_0); (try clear hx208_0); (try clear hx209_0); (try clear hx210_0); (try clear hx211_0); (try clear hx211_1); (try clear hx213_0); (try clear hx214_0); (try clear hx215_0); (try clear hx216_0)
                   go_quiet (((go_at_call 68; (with_reducible refine Calls.quiet_of ((spec_l1In.calls (rd (rd_L4 l1_0 x5_2) x6_3) 1 (wrap64 (((rd_T63 l0 x5_2).f1) - 1)) true _ A16.out).mono fun _ _ h_ => ⟨h_.1, h_.2.out⟩)))))
                   clear s0_ s1_ s2_ s3_ s4_ s5_ s6_ s7_ s8_; have n0_ := Aside0.mk (blk_drewN BK206.out nq); have n1_ := Aside0.mk (pw_below_drewN HB.out nq); clear BK206; clear HB; have BK206 := n0_; have HB := n1_; clear n0_ n1_; generalize wr.drewN nq = w24 at BK206 HB ⊢
                   try go_wp2
                   go_ret
                   exact ⟨by first | rfl | (simp [errW_none, errW_some] <;> rfl) | (simp only [← hji19]; first | rfl | (simp [errW_none, errW_some] <;> rfl)) | (simp [*, errW_none, errW_some] <;> rfl), bs HB GE206⟩
                  ·rw [if_neg c22] at H
                   have c22b0 : decide ((rd (rd_L4 l1_0 x5_2) x6_3) ≤ (rd (rd_L4 l1_0 x5_2) (ji19))) = false := decide_eq_false c22; clear c22; have H' := Aside0.mk H; clear H; have hcz25_0 : wr.cell? ⟨gb206, 0, none⟩ = some (.slice A1_0 l1_0.length c1_0) := (blk_cell BK206.out 0).trans rfl; have hfz25_0 := blk_frozen BK206.out 0; have p208 : 0 ≤ (x5_2 : Int) := ode; have q208 : x5_2 < (l1_0.length : Int) := ode; obtain ⟨ad208, A208_0, c208_0, e208, hx208_0, hl208_0, hi208_0⟩ := at_L4 HR1_0.out x5_2 p208 q208
                   cases e208
                   replace hx208_0 := cl HB hx208_0; have HR208_0 := Aside0.mk hi208_0; have HC208_0 := Aside0.mk hl208_0; clear hi208_0 hl208_0; replace p208 := eq_true p208; replace q208 := eq_true q208
                   try go_wp2
                   have p209 : 0 ≤ (x5_2 : Int) := ode; have q209 : x5_2 < (l1_0.length : Int) := ode; obtain ⟨ad209, A209_0, c209_0, e209, hx209_0, hl209_0, hi209_0⟩ := at_L4 HR1_0.out x5_2 p209 q209; have hw209_0 := hx209_0; obtain rfl : ad208 = ad209 := (by injection e209); replace hx209_0 := cl HB hx209_0; have HR209_0 := Aside0.mk hi209_0; have HC209_0 := Aside0.mk hl209_0; clear hi209_0 hl209_0; replace p209 := eq_true p209; replace q209 := eq_true q209; have p210 : 0 ≤ (x6_3 : Int) := ode; have q210 : x6_3 < ((rd_L4 l1_0 x5_2).length : Int) := ode; obtain ⟨ad210, e210, hx210_0⟩ := Kd.at_int HR209_0.out x6_3 p210 q210; have hw210_0 := hx210_0
                   cases e210
                   replace hx210_0 := cl HB hx210_0; replace p210 := eq_true p210; replace q210 := eq_true q210; have p211 : 0 ≤ (x5_2 : Int) := ode; have q211 : x5_2 < (l0.length : Int) := ode; obtain ⟨ad211, e211, hx211_0, hx211_1⟩ := at_T63 HR0.out x5_2 p211 q211; have hw211_1 := hx211_1; have hw211_0 := hx211_0
                   cases e211
                   replace hx211_0 := cl HB hx211_0; replace hx211_1 := cl HB hx211_1; replace p211 := eq_true p211; replace q211 := eq_true q211; have p213 : 0 ≤ (x5_2 : Int) := ode; have q213 : x5_2 < (l1_0.length : Int) := ode; obtain ⟨ad213, A213_0, c213_0, e213, hx213_0, hl213_0, hi213_0⟩ := at_L4 HR1_0.out x5_2 p213 q213; have hw213_0 := hx213_0; obtain rfl : ad208 = ad213 := (by injection e213); replace hx213_0 := cl HB hx213_0; have HR213_0 := Aside0.mk hi213_0; have HC213_0 := Aside0.mk hl213_0; clear hi213_0 hl213_0; replace p213 := eq_true p213; replace q213 := eq_true q213; have ea_ := Option.some.inj (hx209_0.symm.trans hx213_0)
                   injection ea_ with ea_ en_ ec_
                   subst ea_
                   subst ec_
                   clear en_; have p214 : 0 ≤ (x6_3 : Int) := ode; have q214 : x6_3 < ((rd_L4 l1_0 x5_2).length : Int) := ode; obtain ⟨ad214, e214, hx214_0⟩ := Kd.at_int HR213_0.out x6_3 p214 q214; have hw214_0 := hx214_0
                   cases e214
                   replace hx214_0 := cl HB hx214_0; replace p214 := eq_true p214; replace q214 := eq_true q214; have p215 : 0 ≤ (x5_2 : Int) := ode; have q215 : x5_2 < (l1_0.length : Int) := ode; obtain ⟨ad215, A215_0, c215_0, e215, hx215_0, hl215_0, hi215_0⟩ := at_L4 HR1_0.out x5_2 p215 q215; have hw215_0 := hx215_0; obtain rfl : ad208 = ad215 := (by injection e215); replace hx215_0 := cl HB hx215_0; have HR215_0 := Aside0.mk hi215_0; have HC215_0 := Aside0.mk hl215_0; clear hi215_0 hl215_0; replace p215 := eq_true p215; replace q215 := eq_true q215; have ea_ := Option.some.inj (hx209_0.symm.trans hx215_0)
                   injection ea_ with ea_ en_ ec_
                   subst ea_
                   subst ec_
                   clear en_; have p216 : 0 ≤ ((ji19) : Int) := ode; have q216 : (ji19) < ((rd_L4 l1_0 x5_2).length : Int) := ode; obtain ⟨ad216, e216, hx216_0⟩ := Kd.at_int HR215_0.out (ji19) p216 q216; have hw216_0 := hx216_0
                   cases e216
                   replace hx216_0 := cl HB hx216_0; replace p216 := eq_true p216; replace q216 := eq_true q216; obtain ⟨s0_, s1_, s2_, s3_, s4_, s5_, s6_, s7_, s8_⟩ : wr.cell? ⟨gb206, 0, none⟩ = some (.slice (some ad208) l1_0.length c1_0) ∧ wr.cell? (ad208.add (x5_2).toNat) = some (.slice (some ad210) (rd_L4 l1_0 x5_2).length c209_0) ∧ wr.cell? (ad210.add (x6_3).toNat) = some (.int .i64 (rd (rd_L4 l1_0 x5_2) x6_3)) ∧ wr.cell? (ad211.add ((x5_2).toNat * 2)) = some (.string ((rd_T63 l0 x5_2).f0)) ∧ wr.cell? ⟨(ad211.add ((x5_2).toNat * 2)).block, (ad211.add ((x5_2).toNat * 2)).off + 1, none⟩ = some (.int .i64 ((rd_T63 l0 x5_2).f1)) ∧ wr.cell? (ad208.add (x5_2).toNat) = some (.slice (some ad210) (rd_L4 l1_0 x5_2).length c209_0) ∧ wr.cell? (ad210.add (x6_3).toNat) = some (.int .i64 (rd (rd_L4 l1_0 x5_2) x6_3)) ∧ wr.cell? (ad208.add (x5_2).toNat) = some (.slice (some ad210) (rd_L4 l1_0 x5_2).length c209_0) ∧ wr.cell? (ad210.add ((ji19)).toNat) = some (.int .i64 (rd (rd_L4 l1_0 x5_2) (ji19))) := ⟨(blk_cell BK206.out 0).trans rfl, ((HB.out.cell (World.block_lt_of_cell? w _ hw209_0)).trans hw209_0), ((HB.out.cell (World.block_lt_of_cell? w _ hw210_0)).trans hw210_0), ((HB.out.cell (World.block_lt_of_cell? w _ hw211_0)).trans hw211_0), ((HB.out.cell (World.block_lt_of_cell? w _ hw211_1)).trans hw211_1), ((HB.out.cell (World.block_lt_of_cell? w _ hw213_0)).trans hw213_0), ((HB.out.cell (World.block_lt_of_cell? w _ hw214_0)).trans hw214_0), ((HB.out.cell (World.block_lt_of_cell? w _ hw215_0)).trans hw215_0), ((HB.out.cell (World.block_lt_of_cell? w _ hw216_0)).trans hw216_0)⟩
                   (try clear hcz10_0); (try clear hcz23_0); (try clear hcz25_0); (try clear hcz7_0); (try clear hx208_0); (try clear hx209_0); (try clear hx210_0); (try clear hx211_0); (try clear hx211_1); (try clear hx213_0); (try clear hx214_0); (try clear hx215_0); (try clear hx216_0)
                   go_quiet (((go_at_call 68; (with_reducible refine Calls.quiet_of ((spec_l1In.calls (rd (rd_L4 l1_0 x5_2) x6_3) 1 (wrap64 (((rd_T63 l0 x5_2).f1) - 1)) true _ A16.out).mono fun _ _ h_ => ⟨h_.1, h_.2.out⟩)))))
                   clear s0_ s1_ s2_ s3_ s4_ s5_ s6_ s7_ s8_; have n0_ := Aside0.mk (blk_drewN BK206.out nq); have n1_ := Aside0.mk (pw_below_drewN HB.out nq); clear BK206; clear HB; have BK206 := n0_; have HB := n1_; clear n0_ n1_; generalize wr.drewN nq = w26 at BK206 HB ⊢
                   try go_wp2
                   go_roundg k3
                   case measure => have := HJ2.out; have := HK2.out; have := HK3.out; omega
                   case rel => exact ⟨(wrap64 (x6_3 + 1)), au, H', ⟨by have := HJ2.out; have := HK2.out; have := HK3.out; omega⟩, ⟨bk BK206⟩, ⟨bs HB GE206⟩⟩
                 ·rw [if_neg c21] at H
                  exact absurd H (by simp)
                ·rw [if_neg c20] at H
                 exact absurd H (by simp)
               ·rw [if_neg c18] at H
                have c18b0 : decide (0 < x6_3) = false := decide_eq_false c18; clear c18; have H' := Aside0.mk H; clear H; have hcz27_0 : wr.cell? ⟨gb206, 0, none⟩ = some (.slice A1_0 l1_0.length c1_0) := (blk_cell BK206.out 0).trans rfl; have hfz27_0 := blk_frozen BK206.out 0; have p208 : 0 ≤ (x5_2 : Int) := ode; have q208 : x5_2 < (l1_0.length : Int) := ode; obtain ⟨ad208, A208_0, c208_0, e208, hx208_0, hl208_0, hi208_0⟩ := at_L4 HR1_0.out x5_2 p208 q208
                cases e208
                replace hx208_0 := cl HB hx208_0; have HR208_0 := Aside0.mk hi208_0; have HC208_0 := Aside0.mk hl208_0; clear hi208_0 hl208_0; replace p208 := eq_true p208; replace q208 := eq_true q208
                try go_wp2
                have p209 : 0 ≤ (x5_2 : Int) := ode; have q209 : x5_2 < (l1_0.length : Int) := ode; obtain ⟨ad209, A209_0, c209_0, e209, hx209_0, hl209_0, hi209_0⟩ := at_L4 HR1_0.out x5_2 p209 q209; have hw209_0 := hx209_0; obtain rfl : ad208 = ad209 := (by injection e209); replace hx209_0 := cl HB hx209_0; have HR209_0 := Aside0.mk hi209_0; have HC209_0 := Aside0.mk hl209_0; clear hi209_0 hl209_0; replace p209 := eq_true p209; replace q209 := eq_true q209; have p210 : 0 ≤ (x6_3 : Int) := ode; have q210 : x6_3 < ((rd_L4 l1_0 x5_2).length : Int) := ode; obtain ⟨ad210, e210, hx210_0⟩ := Kd.at_int HR209_0.out x6_3 p210 q210; have hw210_0 := hx210_0
                cases e210
                replace hx210_0 := cl HB hx210_0; replace p210 := eq_true p210; replace q210 := eq_true q210; have p211 : 0 ≤ (x5_2 : Int) := ode; have q211 : x5_2 < (l0.length : Int) := ode; obtain ⟨ad211, e211, hx211_0, hx211_1⟩ := at_T63 HR0.out x5_2 p211 q211; have hw211_1 := hx211_1; have hw211_0 := hx211_0
                cases e211
                replace hx211_0 := cl HB hx211_0; replace hx211_1 := cl HB hx211_1; replace p211 := eq_true p211; replace q211 := eq_true q211; obtain ⟨s0_, s1_, s2_, s3_, s4_⟩ : wr.cell? ⟨gb206, 0, none⟩ = some (.slice (some ad208) l1_0.length c1_0) ∧ wr.cell? (ad208.add (x5_2).toNat) = some (.slice (some ad210) (rd_L4 l1_0 x5_2).length c209_0) ∧ wr.cell? (ad210.add (x6_3).toNat) = some (.int .i64 (rd (rd_L4 l1_0 x5_2) x6_3)) ∧ wr.cell? (ad211.add ((x5_2).toNat * 2)) = some (.string ((rd_T63 l0 x5_2).f0)) ∧ wr.cell? ⟨(ad211.add ((x5_2).toNat * 2)).block, (ad211.add ((x5_2).toNat * 2)).off + 1, none⟩ = some (.int .i64 ((rd_T63 l0 x5_2).f1)) := ⟨(blk_cell BK206.out 0).trans rfl, ((HB.out.cell (World.block_lt_of_cell? w _ hw209_0)).trans hw209_0), ((HB.out.cell (World.block_lt_of_cell? w _ hw210_0)).trans hw210_0), ((HB.out.cell (World.block_lt_of_cell? w _ hw211_0)).trans hw211_0), ((HB.out.cell (World.block_lt_of_cell? w _ hw211_1)).trans hw211_1)⟩
                (try clear hcz10_0); (try clear hcz27_0); (try clear hcz7_0); (try clear hx208_0); (try clear hx209_0); (try clear hx210_0); (try clear hx211_0); (try clear hx211_1)
                go_quiet (((go_at_call 68; (with_reducible refine Calls.quiet_of ((spec_l1In.calls (rd (rd_L4 l1_0 x5_2) x6_3) 1 (wrap64 (((rd_T63 l0 x5_2).f1) - 1)) true _ A16.out).mono fun _ _ h_ => ⟨h_.1, h_.2.out⟩)))))
                clear s0_ s1_ s2_ s3_ s4_; have n0_ := Aside0.mk (blk_drewN BK206.out nq); have n1_ := Aside0.mk (pw_below_drewN HB.out nq); clear BK206; clear HB; have BK206 := n0_; have HB := n1_; clear n0_ n1_; generalize wr.drewN nq = w28 at BK206 HB ⊢
                try go_wp2
                go_roundg k3
                case measure => have := HJ2.out; have := HK2.out; have := HK3.out; omega
                case rel => exact ⟨(wrap64 (x6_3 + 1)), au, H', ⟨by have := HJ2.out; have := HK2.out; have := HK3.out; omega⟩, ⟨bk BK206⟩, ⟨bs HB GE206⟩⟩
              ·replace c17 := Bool.eq_false_iff.mpr c17
               subst c17
               have H1 : (some false) = some r := by rw [if_neg (show ¬ (false = true) by decide)] at H; exact H
               clear H; have H := H1; clear H1; obtain rfl := Option.some.inj H; have hcz29_0 : wr.cell? ⟨gb206, 0, none⟩ = some (.slice A1_0 l1_0.length c1_0) := (blk_cell BK206.out 0).trans rfl; have hfz29_0 := blk_frozen BK206.out 0; have p208 : 0 ≤ (x5_2 : Int) := ode; have q208 : x5_2 < (l1_0.length : Int) := ode; obtain ⟨ad208, A208_0, c208_0, e208, hx208_0, hl208_0, hi208_0⟩ := at_L4 HR1_0.out x5_2 p208 q208
               cases e208
               replace hx208_0 := cl HB hx208_0; have HR208_0 := Aside0.mk hi208_0; have HC208_0 := Aside0.mk hl208_0; clear hi208_0 hl208_0; replace p208 := eq_true p208; replace q208 := eq_true q208
               try go_wp2
               have p209 : 0 ≤ (x5_2 : Int) := ode; have q209 : x5_2 < (l1_0.length : Int) := ode; obtain ⟨ad209, A209_0, c209_0, e209, hx209_0, hl209_0, hi209_0⟩ := at_L4 HR1_0.out x5_2 p209 q209; have hw209_0 := hx209_0; obtain rfl : ad208 = ad209 := (by injection e209); replace hx209_0 := cl HB hx209_0; have HR209_0 := Aside0.mk hi209_0; have HC209_0 := Aside0.mk hl209_0; clear hi209_0 hl209_0; replace p209 := eq_true p209; replace q209 := eq_true q209; have p210 : 0 ≤ (x6_3 : Int) := ode; have q210 : x6_3 < ((rd_L4 l1_0 x5_2).length : Int) := ode; obtain ⟨ad210, e210, hx210_0⟩ := Kd.at_int HR209_0.out x6_3 p210 q210; have hw210_0 := hx210_0
               cases e210
               replace hx210_0 := cl HB hx210_0; replace p210 := eq_true p210; replace q210 := eq_true q210; have p211 : 0 ≤ (x5_2 : Int) := ode; have q211 : x5_2 < (l0.length : Int) := ode; obtain ⟨ad211, e211, hx211_0, hx211_1⟩ := at_T63 HR0.out x5_2 p211 q211; have hw211_1 := hx211_1; have hw211_0 := hx211_0
               cases e211
               replace hx211_0 := cl HB hx211_0; replace hx211_1 := cl HB hx211_1; replace p211 := eq_true p211; replace q211 := eq_true q211; obtain ⟨s0_, s1_, s2_, s3_, s4_⟩ : wr.cell? ⟨gb206, 0, none⟩ = some (.slice (some ad208) l1_0.length c1_0) ∧ wr.cell? (ad208.add (x5_2).toNat) = some (.slice (some ad210) (rd_L4 l1_0 x5_2).length c209_0) ∧ wr.cell? (ad210.add (x6_3).toNat) = some (.int .i64 (rd (rd_L4 l1_0 x5_2) x6_3)) ∧ wr.cell? (ad211.add ((x5_2).toNat * 2)) = some (.string ((rd_T63 l0 x5_2).f0)) ∧ wr.cell? ⟨(ad211.add ((x5_2).toNat * 2)).block, (ad211.add ((x5_2).toNat * 2)).off + 1, none⟩ = some (.int .i64 ((rd_T63 l0 x5_2).f1)) := ⟨(blk_cell BK206.out 0).trans rfl, ((HB.out.cell (World.block_lt_of_cell? w _ hw209_0)).trans hw209_0), ((HB.out.cell (World.block_lt_of_cell? w _ hw210_0)).trans hw210_0), ((HB.out.cell (World.block_lt_of_cell? w _ hw211_0)).trans hw211_0), ((HB.out.cell (World.block_lt_of_cell? w _ hw211_1)).trans hw211_1)⟩
               (try clear hcz10_0); (try clear hcz29_0); (try clear hcz7_0); (try clear hx208_0); (try clear hx209_0); (try clear hx210_0); (try clear hx211_0); (try clear hx211_1)
               go_quiet (((go_at_call 68; (with_reducible refine Calls.quiet_of ((spec_l1In.calls (rd (rd_L4 l1_0 x5_2) x6_3) 1 (wrap64 (((rd_T63 l0 x5_2).f1) - 1)) false _ A16.out).mono fun _ _ h_ => ⟨h_.1, h_.2.out⟩)))))
               clear s0_ s1_ s2_ s3_ s4_; have n0_ := Aside0.mk (blk_drewN BK206.out nq); have n1_ := Aside0.mk (pw_below_drewN HB.out nq); clear BK206; clear HB; have BK206 := n0_; have HB := n1_; clear n0_ n1_; generalize wr.drewN nq = w30 at BK206 HB ⊢
               try go_wp2
               go_ret
               exact ⟨by first | rfl | (simp [errW_none, errW_some] <;> rfl) | (simp [*, errW_none, errW_some] <;> rfl), bs HB GE206⟩
             ·rw [if_neg c15] at H
              exact absurd H (by simp)
            ·rw [if_neg c14] at H
             exact absurd H (by simp)
           ·rw [if_neg c13] at H
            have c13b0 : decide (x6_3 < ((rd_L4 l1_0 x5_2).length : Int)) = false := decide_eq_false c13; clear c13; have H' := Aside0.mk H; clear H; have hcz31_0 : wr.cell? ⟨gb206, 0, none⟩ = some (.slice A1_0 l1_0.length c1_0) := (blk_cell BK206.out 0).trans rfl; have hfz31_0 := blk_frozen BK206.out 0; have p208 : 0 ≤ (x5_2 : Int) := ode; have q208 : x5_2 < (l1_0.length : Int) := ode; obtain ⟨ad208, A208_0, c208_0, e208, hx208_0, hl208_0, hi208_0⟩ := at_L4 HR1_0.out x5_2 p208 q208
            cases e208
            replace hx208_0 := cl HB hx208_0; have HR208_0 := Aside0.mk hi208_0; have HC208_0 := Aside0.mk hl208_0; clear hi208_0 hl208_0; replace p208 := eq_true p208; replace q208 := eq_true q208
            go_wp2
            go_roundg k3
            case measure => have := HJ2.out; have := HK2.out; have := HK3.out; omega
            case rel => exact ⟨(wrap64 (x5_2 + 1)), au, H', ⟨by have := HJ2.out; have := HK2.out; have := HK3.out; omega⟩, ⟨bk BK206⟩, ⟨bs HB GE206⟩⟩
          ·rw [if_neg c12] at H
           exact absurd H (by simp)
         ·rw [if_neg c11] at H
          exact absurd H (by simp)
      ·rw [if_neg c9] at H
       have c9b0 : decide (x5_2 < (l1_0.length : Int)) = false := decide_eq_false c9; clear c9; obtain rfl := Option.some.inj H; have hcz32_0 : wr.cell? ⟨gb206, 0, none⟩ = some (.slice A1_0 l1_0.length c1_0) := (blk_cell BK206.out 0).trans rfl; have hfz32_0 := blk_frozen BK206.out 0
       go_wp2
       go_ret
       exact ⟨by first | rfl | (simp [errW_none, errW_some] <;> rfl) | (simp [*, errW_none, errW_some] <;> rfl), bs HB GE206⟩

end Go.Proofs.Ytonkicgdgpcneaa.PFnSlices
