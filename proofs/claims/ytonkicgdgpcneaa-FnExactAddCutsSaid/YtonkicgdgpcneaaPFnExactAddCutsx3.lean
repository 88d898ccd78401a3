-- Written by a program of this session (a turned copy of the kit's printer); Lean checks it.
-- half the depth
import Derived.Test.YtonkicgdgpcneaaPFnExactAddCutsx0
import Derived.Test.YtonkicgdgpcneaaPFnExactAddCutsx1
import Derived.Test.YtonkicgdgpcneaaPFnExactAddCutsx2
namespace Go.Proofs.Ytonkicgdgpcneaa.PFnExactAddCuts
open Go.RowKit Go.Proofs.YtonkicgdgpcneaaW.PrintWords Go.Proofs.YtonkicgdgpcneaaW.PrintLast Go.Proofs.YtonkicgdgpcneaaW.PrintMore
attribute [local go_sem] max2_int min2_int max_two min_two max_three min_three max_four min_four   -- for this text's walks alone
set_option linter.unusedVariables false
set_option linter.unusedSimpArgs false

/-! ### spec_CutsOk: function 48 -/
mutual
def spec_CutsOk.j0 : Nat → List (S63) → Bool → List (List Int) → Option (Bool)
 | 0, _, _, _ => none
 | k + 1, x0, x17, x118000 => if x17 = true then (some false) else (spec_CutsOk.l0 k x0 0 x118000)
def spec_CutsOk.l0 : Nat → List (S63) → Int → List (List Int) → Option (Bool)
 | 0, _, _, _ => none
 | k + 1, x0, x5, x118000 => if x5 < (x118000.length : Int) then (spec_CutsOk.l1 k x0 x5 0 x118000) else (some true)
def spec_CutsOk.l1 : Nat → List (S63) → Int → Int → List (List Int) → Option (Bool)
 | 0, _, _, _, _ => none
 | k + 1, x0, x5, x6, x118000 => if 0 ≤ x5 then (if x5 < (x118000.length : Int) then (if x6 < ((rd_L3 x118000 x5).length : Int) then (if 0 ≤ x6 then (if x5 < (x0.length : Int) then ((spec_l1In.f (rd (rd_L3 x118000 x5) x6) 1 (wrap64 (((rd_T63 x0 x5).f1) - 1))).bind fun t123 => (if t123 = true then (if x6 > 0 then (if 0 ≤ (wrap64 (x6 - 1)) then (if (wrap64 (x6 - 1)) < ((rd_L3 x118000 x5).length : Int) then (if (rd (rd_L3 x118000 x5) x6) ≤ (rd (rd_L3 x118000 x5) (wrap64 (x6 - 1))) then (some false) else (spec_CutsOk.l1 k x0 x5 (wrap64 (x6 + 1)) x118000)) else (none)) else (none)) else (spec_CutsOk.l1 k x0 x5 (wrap64 (x6 + 1)) x118000)) else (some false))) else (none)) else (none)) else (spec_CutsOk.l0 k x0 (wrap64 (x5 + 1)) x118000)) else (none)) else (none)
end
def spec_CutsOk.f (k : Nat) (l0 : List (S63)) (l1_0 : List (List Int)) : Option (Bool) := (spec_DeclsOk.f k l0).bind fun t118 => (if t118 = true then (spec_CutsOk.j0 k l0 ((l1_0.length : Int) != (l0.length : Int)) l1_0) else (spec_CutsOk.j0 k l0 true l1_0))
set_option maxHeartbeats 8000000 in
set_option maxRecDepth 100000 in
theorem spec_CutsOk.calls (k : Nat) (A0 : Option Addr) (c0 : Nat) (l0 : List (S63)) (A1_0 : Option Addr) (c1_0 : Nat) (l1_0 : List (List Int)) (r : Bool) (w : World) (hr0 : Kd.C k63 w A0 l0.length l0) (hc0 : l0.length ≤ c0) (hr1_0 : Kd.C (Kd.slice 2 (Kd.int .i64)) w A1_0 l1_0.length l1_0) (hc1_0 : l1_0.length ≤ c1_0) (h : spec_CutsOk.f k l0 l1_0 = some r) :
  Calls Try.prog 48 #[.slice A0 l0.length c0, .agg #[.slice A1_0 l1_0.length c1_0]] w fun e w' => e = .returned (.bool r) ∧ Below w.heap.size w w' := by
 have hu44 := Try.underlying44; have HR0 := Aside0.mk hr0; have HC0 := Aside0.mk hc0; clear hr0 hc0; have HR1_0 := Aside0.mk hr1_0; have HC1_0 := Aside0.mk hc1_0; clear hr1_0 hc1_0; have HB := Aside0.mk (Below.refl w.heap.size w); have H : ((spec_DeclsOk.f k l0).bind fun t118 => (if t118 = true then (spec_CutsOk.j0 k l0 ((l1_0.length : Int) != (l0.length : Int)) l1_0) else (spec_CutsOk.j0 k l0 true l1_0))) = some r := h; clear h; have HC3 := Aside0.mk H; clear H
 go_enter Try.func48, Try.ntmps48
 go_upto_region 1 with (first | ((with_reducible refine gate_dst (N := 3) rfl ?_); (try (refine gate_guard (by rfl) ?_; dsimp only)); refine be 3 #[.slice A1_0 l1_0.length c1_0] 44 ?_; intro gb117 hg w4 hbox hb; have n0_ := Aside0.mk (below_step (bl HB) hb); have n1_ := Aside0.mk (hbox); have n2_ := Aside0.mk (gs HB hg); have n3_ := Aside0.mk (gs HB hg); clear HB; have HB := n0_; have BK117 := n1_; have GW117 := n2_; have GE117 := n3_; clear n0_ n1_ n2_ n3_; clear hb hbox hg))
 (try simp only [Act.put, List.setIfInBounds_toArray, List.set_cons_zero, List.set_cons_succ])
 go_cut [17] (fun v17 wc => ∃ (kq : Nat) (x17_2 : Bool), v17 = .bool x17_2 ∧ Aside0 (spec_CutsOk.j0 kq l0 x17_2 l1_0 = some r) ∧ Aside0 (kq ≤ k) ∧ Aside0 (wc.heap[gb117]? = some (.cells #[(.slice A1_0 l1_0.length c1_0)] 44 (0, 0))) ∧ Aside0 (Below w.heap.size w wc))
 case first =>
  have H := HC3.out; clear HC3; replace H := Option.bind_eq_some_iff.mp H; obtain ⟨t118, A50, H⟩ := H; replace H : (if t118 = true then (spec_CutsOk.j0 k l0 ((l1_0.length : Int) != (l0.length : Int)) l1_0) else (spec_CutsOk.j0 k l0 true l1_0)) = some r := H; have A5 := Aside0.mk A50; clear A50
  by_cases c6 : t118 = true
  ·subst c6
   have H1 : (spec_CutsOk.j0 k l0 ((l1_0.length : Int) != (l0.length : Int)) l1_0) = some r := by rw [if_pos rfl] at H; exact H
   clear H; have H := H1; clear H1; have H' := Aside0.mk H; clear H
   go_wp2_with (first | ((with_reducible refine gate_callee (f := 75) rfl ?_); refine goesL_ (some 8) rfl rfl Try.func75 (by kernel_rfl) rfl #[.slice A0 l0.length c0] rfl ma ?_; (with_reducible refine (spec_DeclsOk.calls k _ _ l0 true _ ?side1 ?side2 A5.out).mono ?_); (case side1 => exact rc HR0 HB); (case side2 => exact HC0.out); rintro e w' ⟨rfl, ⟨nd, rfl⟩⟩; refine ⟨_, rfl, ?_⟩; have hcz7_0 : w4.cell? ⟨gb117, 0, none⟩ = some (.slice A1_0 l1_0.length c1_0) := (blk_cell BK117.out 0).trans rfl; have hfz7_0 := blk_frozen BK117.out 0))
   go_meet
   case rel => exact ⟨_, (((l1_0.length : Int) != (l0.length : Int))), au, H', ⟨by first | omega | exact Nat.le_refl _⟩, ⟨bk BK117⟩, ⟨bs HB GE117⟩⟩
  ·replace c6 := Bool.eq_false_iff.mpr c6
   subst c6
   have H1 : (spec_CutsOk.j0 k l0 true l1_0) = some r := by rw [if_neg (show ¬ (false = true) by decide)] at H; exact H
   clear H; have H := H1; clear H1; have H' := Aside0.mk H; clear H
   go_wp2_with (first | ((with_reducible refine gate_callee (f := 75) rfl ?_); refine goesL_ (some 8) rfl rfl Try.func75 (by kernel_rfl) rfl #[.slice A0 l0.length c0] rfl ma ?_; (with_reducible refine (spec_DeclsOk.calls k _ _ l0 false _ ?side1 ?side2 A5.out).mono ?_); (case side1 => exact rc HR0 HB); (case side2 => exact HC0.out); rintro e w' ⟨rfl, ⟨nd, rfl⟩⟩; refine ⟨_, rfl, ?_⟩))
   go_meet
   case rel => exact ⟨_, (true), au, H', ⟨by first | omega | exact Nat.le_refl _⟩, ⟨bk BK117⟩, ⟨bs HB GE117⟩⟩
 case rest =>
  clear HC3
  try clear c1
  try clear p2
  try clear c4
  try clear c6
  try clear c7
  try clear hcz7_0
  try clear hfz7_0
  obtain ⟨kq, x17_2, rfl, HA, HJ2, BK117, HB⟩ := hcut
  cases kq with
  | zero => exact absurd HA.out (by simp [spec_CutsOk.j0])
  | succ kj2 =>
   have H := HA.out; clear HA
   simp only [spec_CutsOk.j0] at H
   by_cases c8 : x17_2 = true
   ·subst c8
    have H1 : (some false) = some r := by rw [if_pos rfl] at H; exact H
    clear H; have H := H1; clear H1; obtain rfl := Option.some.inj H
    go_wp2
    go_ret
    exact ⟨by first | rfl | (simp [errW_none, errW_some] <;> rfl) | (simp [*, errW_none, errW_some] <;> rfl), bs HB GE117⟩
   ·replace c8 := Bool.eq_false_iff.mpr c8
    subst c8
    have H1 : (spec_CutsOk.l0 kj2 l0 0 l1_0) = some r := by rw [if_neg (show ¬ (false = true) by decide)] at H; exact H
    clear H; have H := H1; clear H1; have H' := Aside0.mk H; clear H
    go_wp2
    go_loopg [5] kj2 (fun kq v5 w' => ∃ (x5_2 : Int), v5 = .int .i64 x5_2 ∧ Aside0 (spec_CutsOk.l0 kq l0 x5_2 l1_0 = some r) ∧ Aside0 (kq ≤ kj2) ∧ Aside0 (w'.heap[gb117]? = some (.cells #[(.slice A1_0 l1_0.length c1_0)] 44 (0, 0))) ∧ Aside0 (Below w.heap.size w w'))
    case atStart => exact ⟨(0), au, H', ⟨Nat.le_refl _⟩, ⟨bk BK117⟩, ⟨bs HB GE117⟩⟩
    case round =>
     clear H'
     try clear c1
     try clear p2
     try clear c4
     try clear c6
     try clear c7
     try clear c8
     try clear hcz7_0
     try clear hfz7_0
     try clear p2
     obtain ⟨x5_2, rfl, HA, HK2, BK117, HB⟩ := hrel
     cases gk with
     | zero => exact absurd HA.out (by simp [spec_CutsOk.l0])
     | succ k2 =>
      have H := HA.out; clear HA
      simp only [spec_CutsOk.l0] at H
      by_cases c9 : x5_2 < (l1_0.length : Int)
      ·rw [if_pos c9] at H
       have c9b0 : decide (x5_2 < (l1_0.length : Int)) = true := decide_eq_true c9; clear c9; have H' := Aside0.mk H; clear H; have hcz10_0 : wr.cell? ⟨gb117, 0, none⟩ = some (.slice A1_0 l1_0.length c1_0) := (blk_cell BK117.out 0).trans rfl; have hfz10_0 := blk_frozen BK117.out 0
       go_wp2
       go_loopg [6] k2 (fun kq v6 w' => ∃ (x6_3 : Int), v6 = .int .i64 x6_3 ∧ Aside0 (spec_CutsOk.l1 kq l0 x5_2 x6_3 l1_0 = some r) ∧ Aside0 (kq ≤ k2) ∧ Aside0 (w'.heap[gb117]? = some (.cells #[(.slice A1_0 l1_0.length c1_0)] 44 (0, 0))) ∧ Aside0 (Below w.heap.size w w'))
       case atStart => exact ⟨(0), au, H', ⟨Nat.le_refl _⟩, ⟨bk BK117⟩, ⟨bs HB GE117⟩⟩
       case round =>
        clear H'
        try clear c1
        try clear p2
        try clear c4
        try clear c6
        try clear c7
        try clear c8
        try clear c9
        try clear c9b0
        try clear hcz10_0
        try clear hcz7_0
        try clear hfz10_0
        try clear hfz7_0
        try clear p2
        obtain ⟨x6_3, rfl, HA, HK3, BK117, HB⟩ := hrel
        cases gk with
        | zero => exact absurd HA.out (by simp [spec_CutsOk.l1])
        | succ k3 =>
         have H := HA.out; clear HA
         simp only [spec_CutsOk.l1] at H
         by_cases c11 : 0 ≤ x5_2
         ·rw [if_pos c11] at H
          have c11b0 : decide (0 ≤ x5_2) = true := decide_eq_true c11; clear c11
          by_cases c12 : x5_2 < (l1_0.length : Int)
          ·rw [if_pos c12] at H
           have c12b0 : decide (x5_2 < (l1_0.length : Int)) = true := decide_eq_true c12; clear c12
           by_cases c13 : x6_3 < ((rd_L3 l1_0 x5_2).length : Int)
           ·rw [if_pos c13] at H
            have c13b0 : decide (x6_3 < ((rd_L3 l1_0 x5_2).length : Int)) = true := decide_eq_true c13; clear c13
            by_cases c14 : 0 ≤ x6_3
            ·rw [if_pos c14] at H
             have c14b0 : decide (0 ≤ x6_3) = true := decide_eq_true c14; clear c14
             by_cases c15 : x5_2 < (l0.length : Int)
             ·rw [if_pos c15] at H
              have c15b0 : decide (x5_2 < (l0.length : Int)) = true := decide_eq_true c15; clear c15; replace H := Option.bind_eq_some_iff.mp H; obtain ⟨t123, A160, H⟩ := H; replace H : (if t123 = true then (if x6_3 > 0 then (if 0 ≤ (wrap64 (x6_3 - 1)) then (if (wrap64 (x6_3 - 1)) < ((rd_L3 l1_0 x5_2).length : Int) then (if (rd (rd_L3 l1_0 x5_2) x6_3) ≤ (rd (rd_L3 l1_0 x5_2) (wrap64 (x6_3 - 1))) then (some false) else (spec_CutsOk.l1 k3 l0 x5_2 (wrap64 (x6_3 + 1)) l1_0)) else (none)) else (none)) else (spec_CutsOk.l1 k3 l0 x5_2 (wrap64 (x6_3 + 1)) l1_0)) else (some false)) = some r := H; have A16 := Aside0.mk A160; clear A160
              by_cases c17 : t123 = true
              ·subst c17
               have H1 : (if x6_3 > 0 then (if 0 ≤ (wrap64 (x6_3 - 1)) then (if (wrap64 (x6_3 - 1)) < ((rd_L3 l1_0 x5_2).length : Int) then (if (rd (rd_L3 l1_0 x5_2) x6_3) ≤ (rd (rd_L3 l1_0 x5_2) (wrap64 (x6_3 - 1))) then (some false) else (spec_CutsOk.l1 k3 l0 x5_2 (wrap64 (x6_3 + 1)) l1_0)) else (none)) else (none)) else (spec_CutsOk.l1 k3 l0 x5_2 (wrap64 (x6_3 + 1)) l1_0)) = some r := by rw [if_pos rfl] at H; exact H
               clear H; have H := H1; clear H1
               by_cases c18 : x6_3 > 0
               ·rw [if_pos c18] at H
                have c18b0 : decide (0 < x6_3) = true := decide_eq_true c18; clear c18; obtain ⟨ji19, hji19⟩ : ∃ j_ : Int, (wrap64 (x6_3 - 1)) = j_ := ⟨_, rfl⟩
                replace H : (if 0 ≤ (ji19) then (if (ji19) < ((rd_L3 l1_0 x5_2).length : Int) then (if (rd (rd_L3 l1_0 x5_2) x6_3) ≤ (rd (rd_L3 l1_0 x5_2) (ji19)) then (some false) else (spec_CutsOk.l1 k3 l0 x5_2 (wrap64 (x6_3 + 1)) l1_0)) else (none)) else (none)) = some r := by first | (rw [hji19] at H; exact H) | (simp only [hji19] at H ⊢; exact H)
                (try rw [hji19] at A16)
                have hji19w : (IntKind.i64.wrap (x6_3 - 1)) = ji19 := (i64_w _).trans hji19
                by_cases c20 : 0 ≤ (ji19)
                ·rw [if_pos c20] at H
                 have c20b0 : decide (0 ≤ (ji19)) = true := decide_eq_true c20; clear c20
                 by_cases c21 : (ji19) < ((rd_L3 l1_0 x5_2).length : Int)
                 ·rw [if_pos c21] at H
                  have c21b0 : decide ((ji19) < ((rd_L3 l1_0 x5_2).length : Int)) = true := decide_eq_true c21; clear c21
                  by_cases c22 : (rd (rd_L3 l1_0 x5_2) x6_3) ≤ (rd (rd_L3 l1_0 x5_2) (ji19))
                  ·rw [if_pos c22] at H
                   have c22b0 : decide ((rd (rd_L3 l1_0 x5_2) x6_3) ≤ (rd (rd_L3 l1_0 x5_2) (ji19))) = true := decide_eq_true c22; clear c22; obtain rfl := Option.some.inj H; have hcz23_0 : wr.cell? ⟨gb117, 0, none⟩ = some (.slice A1_0 l1_0.length c1_0) := (blk_cell BK117.out 0).trans rfl; have hfz23_0 := blk_frozen BK117.out 0; have p119 : 0 ≤ (x5_2 : Int) := ode; have q119 : x5_2 < (l1_0.length : Int) := ode; obtain ⟨ad119, A119_0, c119_0, e119, hx119_0, hl119_0, hi119_0⟩ := at_L3 HR1_0.out x5_2 p119 q119
                   cases e119
                   replace hx119_0 := cl HB hx119_0; have HR119_0 := Aside0.mk hi119_0; have HC119_0 := Aside0.mk hl119_0; clear hi119_0 hl119_0; replace p119 := eq_true p119; replace q119 := eq_true q119
                   try go_wp2
                   have p120 : 0 ≤ (x5_2 : Int) := ode; have q120 : x5_2 < (l1_0.length : Int) := ode; obtain ⟨ad120, A120_0, c120_0, e120, hx120_0, hl120_0, hi120_0⟩ := at_L3 HR1_0.out x5_2 p120 q120; have hw120_0 := hx120_0; obtain rfl : ad119 = ad120 := (by injection e120); replace hx120_0 := cl HB hx120_0; have HR120_0 := Aside0.mk hi120_0; have HC120_0 := Aside0.mk hl120_0; clear hi120_0 hl120_0; replace p120 := eq_true p120; replace q120 := eq_true q120; have p121 : 0 ≤ (x6_3 : Int) := ode; have q121 : x6_3 < ((rd_L3 l1_0 x5_2).length : Int) := ode; obtain ⟨ad121, e121, hx121_0⟩ := Kd.at_int HR120_0.out x6_3 p121 q121; have hw121_0 := hx121_0
                   cases e121
                   replace hx121_0 := cl HB hx121_0; replace p121 := eq_true p121; replace q121 := eq_true q121; have p122 : 0 ≤ (x5_2 : Int) := ode; have q122 : x5_2 < (l0.length : Int) := ode; obtain ⟨ad122, e122, hx122_0, hx122_1⟩ := at_T63 HR0.out x5_2 p122 q122; have hw122_1 := hx122_1; have hw122_0 := hx122_0
                   cases e122
                   replace hx122_0 := cl HB hx122_0; replace hx122_1 := cl HB hx122_1; replace p122 := eq_true p122; replace q122 := eq_true q122; have p124 : 0 ≤ (x5_2 : Int) := ode; have q124 : x5_2 < (l1_0.length : Int) := ode; obtain ⟨ad124, A124_0, c124_0, e124, hx124_0, hl124_0, hi124_0⟩ := at_L3 HR1_0.out x5_2 p124 q124; have hw124_0 := hx124_0; obtain rfl : ad119 = ad124 := (by injection e124); replace hx124_0 := cl HB hx124_0; have HR124_0 := Aside0.mk hi124_0; have HC124_0 := Aside0.mk hl124_0; clear hi124_0 hl124_0; replace p124 := eq_true p124; replace q124 := eq_true q124; have ea_ := Option.some.inj (hx120_0.symm.trans hx124_0)
                   injection ea_ with ea_ en_ ec_
                   subst ea_
                   subst ec_
                   clear en_; have p125 : 0 ≤ (x6_3 : Int) := ode; have q125 : x6_3 < ((rd_L3 l1_0 x5_2).length : Int) := ode; obtain ⟨ad125, e125, hx125_0⟩ := Kd.at_int HR124_0.out x6_3 p125 q125; have hw125_0 := hx125_0
                   cases e125
                   replace hx125_0 := cl HB hx125_0; replace p125 := eq_true p125; replace q125 := eq_true q125; have p126 : 0 ≤ (x5_2 : Int) := ode; have q126 : x5_2 < (l1_0.length : Int) := ode; obtain ⟨ad126, A126_0, c126_0, e126, hx126_0, hl126_0, hi126_0⟩ := at_L3 HR1_0.out x5_2 p126 q126; have hw126_0 := hx126_0; obtain rfl : ad119 = ad126 := (by injection e126); replace hx126_0 := cl HB hx126_0; have HR126_0 := Aside0.mk hi126_0; have HC126_0 := Aside0.mk hl126_0; clear hi126_0 hl126_0; replace p126 := eq_true p126; replace q126 := eq_true q126; have ea_ := Option.some.inj (hx120_0.symm.trans hx126_0)
                   injection ea_ with ea_ en_ ec_
                   subst ea_
                   subst ec_
                   clear en_; have p127 : 0 ≤ ((ji19) : Int) := ode; have q127 : (ji19) < ((rd_L3 l1_0 x5_2).length : Int) := ode; obtain ⟨ad127, e127, hx127_0⟩ := Kd.at_int HR126_0.out (ji19) p127 q127; have hw127_0 := hx127_0
                   cases e127
                   replace hx127_0 := cl HB hx127_0; replace p127 := eq_true p127; replace q127 := eq_true q127; obtain ⟨s0_, s1_, s2_, s3_, s4_, s5_, s6_, s7_, s8_⟩ : wr.cell? ⟨gb117, 0, none⟩ = some (.slice (some ad119) l1_0.length c1_0) ∧ wr.cell? (ad119.add (x5_2).toNat) = some (.slice (some ad121) (rd_L3 l1_0 x5_2).length c120_0) ∧ wr.cell? (ad121.add (x6_3).toNat) = some (.int .i64 (rd (rd_L3 l1_0 x5_2) x6_3)) ∧ wr.cell? (ad122.add ((x5_2).toNat * 2)) = some (.string ((rd_T63 l0 x5_2).f0)) ∧ wr.cell? ⟨(ad122.add ((x5_2).toNat * 2)).block, (ad122.add ((x5_2).toNat * 2)).off + 1, none⟩ = some (.int .i64 ((rd_T63 l0 x5_2).f1)) ∧ wr.cell? (ad119.add (x5_2).toNat) = some (.slice (some ad121) (rd_L3 l1_0 x5_2).length c120_0) ∧ wr.cell? (ad121.add (x6_3).toNat) = some (.int .i64 (rd (rd_L3 l1_0 x5_2) x6_3)) ∧ wr.cell? (ad119.add (x5_2).toNat) = some (.slice (some ad121) (rd_L3 l1_0 x5_2).length c120_0) ∧ wr.cell? (ad121.add ((ji19)).toNat) = some (.int .i64 (rd (rd_L3 l1_0 x5_2) (ji19))) := ⟨(blk_cell BK117.out 0).trans rfl, ((HB.out.cell (World.block_lt_of_cell? w _ hw120_0)).trans hw120_0), ((HB.out.cell (World.block_lt_of_cell? w _ hw121_0)).trans hw121_0), ((HB.out.cell (World.block_lt_of_cell? w _ hw122_0)).trans hw122_0), ((HB.out.cell (World.block_lt_of_cell? w _ hw122_1)).trans hw122_1), ((HB.out.cell (World.block_lt_of_cell? w _ hw124_0)).trans hw124_0), ((HB.out.cell (World.block_lt_of_cell? w _ hw125_0)).trans hw125_0), ((HB.out.cell (World.block_lt_of_cell? w _ hw126_0)).trans hw126_0), ((HB.out.cell (World.block_lt_of_cell? w _ hw127_0)).trans hw127_0)⟩
                   (try clear hcz10_0); (try clear hcz23_0); (try clear hcz7_0); (try clear hx119_0); (try clear hx120_0); (try clear hx121_0); (try clear hx122_0); (try clear hx122_1); (try clear hx124_0); (try clear hx125_0); (try clear hx126_0); (try clear hx127_0)
                   go_quiet (((go_at_call 68; (with_reducible refine Calls.quiet_of ((spec_l1In.calls (rd (rd_L3 l1_0 x5_2) x6_3) 1 (wrap64 (((rd_T63 l0 x5_2).f1) - 1)) true _ A16.out).mono fun _ _ h_ => ⟨h_.1, h_.2.out⟩)))))
                   clear s0_ s1_ s2_ s3_ s4_ s5_ s6_ s7_ s8_; have n0_ := Aside0.mk (blk_drewN BK117.out nq); have n1_ := Aside0.mk (pw_below_drewN HB.out nq); clear BK117; clear HB; have BK117 := n0_; have HB := n1_; clear n0_ n1_; generalize wr.drewN nq = w24 at BK117 HB ⊢
                   try go_wp2
                   go_ret
                   exact ⟨by first | rfl | (simp [errW_none, errW_some] <;> rfl) | (simp only [← hji19]; first | rfl | (simp [errW_none, errW_some] <;> rfl)) | (simp [*, errW_none, errW_some] <;> rfl), bs HB GE117⟩
                  ·rw [if_neg c22] at H
                   have c22b0 : decide ((rd (rd_L3 l1_0 x5_2) x6_3) ≤ (rd (rd_L3 l1_0 x5_2) (ji19))) = false := decide_eq_false c22; clear c22; have H' := Aside0.mk H; clear H; have hcz25_0 : wr.cell? ⟨gb117, 0, none⟩ = some (.slice A1_0 l1_0.length c1_0) := (blk_cell BK117.out 0).trans rfl; have hfz25_0 := blk_frozen BK117.out 0; have p119 : 0 ≤ (x5_2 : Int) := ode; have q119 : x5_2 < (l1_0.length : Int) := ode; obtain ⟨ad119, A119_0, c119_0, e119, hx119_0, hl119_0, hi119_0⟩ := at_L3 HR1_0.out x5_2 p119 q119
                   cases e119
                   replace hx119_0 := cl HB hx119_0; have HR119_0 := Aside0.mk hi119_0; have HC119_0 := Aside0.mk hl119_0; clear hi119_0 hl119_0; replace p119 := eq_true p119; replace q119 := eq_true q119
                   try go_wp2
                   have p120 : 0 ≤ (x5_2 : Int) := ode; have q120 : x5_2 < (l1_0.length : Int) := ode; obtain ⟨ad120, A120_0, c120_0, e120, hx120_0, hl120_0, hi120_0⟩ := at_L3 HR1_0.out x5_2 p120 q120; have hw120_0 := hx120_0; obtain rfl : ad119 = ad120 := (by injection e120); replace hx120_0 := cl HB hx120_0; have HR120_0 := Aside0.mk hi120_0; have HC120_0 := Aside0.mk hl120_0; clear hi120_0 hl120_0; replace p120 := eq_true p120; replace q120 := eq_true q120; have p121 : 0 ≤ (x6_3 : Int) := ode; have q121 : x6_3 < ((rd_L3 l1_0 x5_2).length : Int) := ode; obtain ⟨ad121, e121, hx121_0⟩ := Kd.at_int HR120_0.out x6_3 p121 q121; have hw121_0 := hx121_0
                   cases e121
                   replace hx121_0 := cl HB hx121_0; replace p121 := eq_true p121; replace q121 := eq_true q121; have p122 : 0 ≤ (x5_2 : Int) := ode; have q122 : x5_2 < (l0.length : Int) := ode; obtain ⟨ad122, e122, hx122_0, hx122_1⟩ := at_T63 HR0.out x5_2 p122 q122; have hw122_1 := hx122_1; have hw122_0 := hx122_0
                   cases e122
                   replace hx122_0 := cl HB hx122_0; replace hx122_1 := cl HB hx122_1; replace p122 := eq_true p122; replace q122 := eq_true q122; have p124 : 0 ≤ (x5_2 : Int) := ode; have q124 : x5_2 < (l1_0.length : Int) := ode; obtain ⟨ad124, A124_0, c124_0, e124, hx124_0, hl124_0, hi124_0⟩ := at_L3 HR1_0.out x5_2 p124 q124; have hw124_0 := hx124_0; obtain rfl : ad119 = ad124 := (by injection e124); replace hx124_0 := cl HB hx124_0; have HR124_0 := Aside0.mk hi124_0; have HC124_0 := Aside0.mk hl124_0; clear hi124_0 hl124_0; replace p124 := eq_true p124; replace q124 := eq_true q124; have ea_ := Option.some.inj (hx120_0.symm.trans hx124_0)
                   injection ea_ with ea_ en_ ec_
                   subst ea_
                   subst ec_
                   clear en_; have p125 : 0 ≤ (x6_3 : Int) := ode; have q125 : x6_3 < ((rd_L3 l1_0 x5_2).length : Int) := ode; obtain ⟨ad125, e125, hx125_0⟩ := Kd.at_int HR124_0.out x6_3 p125 q125; have hw125_0 := hx125_0
                   cases e125
                   replace hx125_0 := cl HB hx125_0; replace p125 := eq_true p125; replace q125 := eq_true q125; have p126 : 0 ≤ (x5_2 : Int) := ode; have q126 : x5_2 < (l1_0.length : Int) := ode; obtain ⟨ad126, A126_0, c126_0, e126, hx126_0, hl126_0, hi126_0⟩ := at_L3 HR1_0.out x5_2 p126 q126; have hw126_0 := hx126_0; obtain rfl : ad119 = ad126 := (by injection e126); replace hx126_0 := cl HB hx126_0; have HR126_0 := Aside0.mk hi126_0; have HC126_0 := Aside0.mk hl126_0; clear hi126_0 hl126_0; replace p126 := eq_true p126; replace q126 := eq_true q126; have ea_ := Option.some.inj (hx120_0.symm.trans hx126_0)
                   injection ea_ with ea_ en_ ec_
                   subst ea_
                   subst ec_
                   clear en_; have p127 : 0 ≤ ((ji19) : Int) := ode; have q127 : (ji19) < ((rd_L3 l1_0 x5_2).length : Int) := ode; obtain ⟨ad127, e127, hx127_0⟩ := Kd.at_int HR126_0.out (ji19) p127 q127; have hw127_0 := hx127_0
                   cases e127
                   replace hx127_0 := cl HB hx127_0; replace p127 := eq_true p127; replace q127 := eq_true q127; obtain ⟨s0_, s1_, s2_, s3_, s4_, s5_, s6_, s7_, s8_⟩ : wr.cell? ⟨gb117, 0, none⟩ = some (.slice (some ad119) l1_0.length c1_0) ∧ wr.cell? (ad119.add (x5_2).toNat) = some (.slice (some ad121) (rd_L3 l1_0 x5_2).length c120_0) ∧ wr.cell? (ad121.add (x6_3).toNat) = some (.int .i64 (rd (rd_L3 l1_0 x5_2) x6_3)) ∧ wr.cell? (ad122.add ((x5_2).toNat * 2)) = some (.string ((rd_T63 l0 x5_2).f0)) ∧ wr.cell? ⟨(ad122.add ((x5_2).toNat * 2)).block, (ad122.add ((x5_2).toNat * 2)).off + 1, none⟩ = some (.int .i64 ((rd_T63 l0 x5_2).f1)) ∧ wr.cell? (ad119.add (x5_2).toNat) = some (.slice (some ad121) (rd_L3 l1_0 x5_2).length c120_0) ∧ wr.cell? (ad121.add (x6_3).toNat) = some (.int .i64 (rd (rd_L3 l1_0 x5_2) x6_3)) ∧ wr.cell? (ad119.add (x5_2).toNat) = some (.slice (some ad121) (rd_L3 l1_0 x5_2).length c120_0) ∧ wr.cell? (ad121.add ((ji19)).toNat) = some (.int .i64 (rd (rd_L3 l1_0 x5_2) (ji19))) := ⟨(blk_cell BK117.out 0).trans rfl, ((HB.out.cell (World.block_lt_of_cell? w _ hw120_0)).trans hw120_0), ((HB.out.cell (World.block_lt_of_cell? w _ hw121_0)).trans hw121_0), ((HB.out.cell (World.block_lt_of_cell? w _ hw122_0)).trans hw122_0), ((HB.out.cell (World.block_lt_of_cell? w _ hw122_1)).trans hw122_1), ((HB.out.cell (World.block_lt_of_cell? w _ hw124_0)).trans hw124_0), ((HB.out.cell (World.block_lt_of_cell? w _ hw125_0)).trans hw125_0), ((HB.out.cell (World.block_lt_of_cell? w _ hw126_0)).trans hw126_0), ((HB.out.cell (World.block_lt_of_cell? w _ hw127_0)).trans hw127_0)⟩
                   (try clear hcz10_0); (try clear hcz23_0); (try clear hcz25_0); (try clear hcz7_0); (try clear hx119_0); (try clear hx120_0); (try clear hx121_0); (try clear hx122_0); (try clear hx122_1); (try clear hx124_0); (try clear hx125_0); (try clear hx126_0); (try clear hx127_0)
                   go_quiet (((go_at_call 68; (with_reducible refine Calls.quiet_of ((spec_l1In.calls (rd (rd_L3 l1_0 x5_2) x6_3) 1 (wrap64 (((rd_T63 l0 x5_2).f1) - 1)) true _ A16.out).mono fun _ _ h_ => ⟨h_.1, h_.2.out⟩)))))
                   clear s0_ s1_ s2_ s3_ s4_ s5_ s6_ s7_ s8_; have n0_ := Aside0.mk (blk_drewN BK117.out nq); have n1_ := Aside0.mk (pw_below_drewN HB.out nq); clear BK117; clear HB; have BK117 := n0_; have HB := n1_; clear n0_ n1_; generalize wr.drewN nq = w26 at BK117 HB ⊢
                   try go_wp2
                   go_roundg k3
                   case measure => have := HJ2.out; have := HK2.out; have := HK3.out; omega
                   case rel => exact ⟨(wrap64 (x6_3 + 1)), au, H', ⟨by have := HJ2.out; have := HK2.out; have := HK3.out; omega⟩, ⟨bk BK117⟩, ⟨bs HB GE117⟩⟩
                 ·rw [if_neg c21] at H
                  exact absurd H (by simp)
                ·rw [if_neg c20] at H
                 exact absurd H (by simp)
               ·rw [if_neg c18] at H
                have c18b0 : decide (0 < x6_3) = false := decide_eq_false c18; clear c18; have H' := Aside0.mk H; clear H; have hcz27_0 : wr.cell? ⟨gb117, 0, none⟩ = some (.slice A1_0 l1_0.length c1_0) := (blk_cell BK117.out 0).trans rfl; have hfz27_0 := blk_frozen BK117.out 0; have p119 : 0 ≤ (x5_2 : Int) := ode; have q119 : x5_2 < (l1_0.length : Int) := ode; obtain ⟨ad119, A119_0, c119_0, e119, hx119_0, hl119_0, hi119_0⟩ := at_L3 HR1_0.out x5_2 p119 q119
                cases e119
                replace hx119_0 := cl HB hx119_0; have HR119_0 := Aside0.mk hi119_0; have HC119_0 := Aside0.mk hl119_0; clear hi119_0 hl119_0; replace p119 := eq_true p119; replace q119 := eq_true q119
                try go_wp2
                have p120 : 0 ≤ (x5_2 : Int) := ode; have q120 : x5_2 < (l1_0.length : Int) := ode; obtain ⟨ad120, A120_0, c120_0, e120, hx120_0, hl120_0, hi120_0⟩ := at_L3 HR1_0.out x5_2 p120 q120; have hw120_0 := hx120_0; obtain rfl : ad119 = ad120 := (by injection e120); replace hx120_0 := cl HB hx120_0; have HR120_0 := Aside0.mk hi120_0; have HC120_0 := Aside0.mk hl120_0; clear hi120_0 hl120_0; replace p120 := eq_true p120; replace q120 := eq_true q120; have p121 : 0 ≤ (x6_3 : Int) := ode; have q121 : x6_3 < ((rd_L3 l1_0 x5_2).length : Int) := ode; obtain ⟨ad121, e121, hx121_0⟩ := Kd.at_int HR120_0.out x6_3 p121 q121; have hw121_0 := hx121_0
                cases e121
                replace hx121_0 := cl HB hx121_0; replace p121 := eq_true p121; replace q121 := eq_true q121; have p122 : 0 ≤ (x5_2 : Int) := ode; have q122 : x5_2 < (l0.length : Int) := ode; obtain ⟨ad122, e122, hx122_0, hx122_1⟩ := at_T63 HR0.out x5_2 p122 q122; have hw122_1 := hx122_1; have hw122_0 := hx122_0
                cases e122
                replace hx122_0 := cl HB hx122_0; replace hx122_1 := cl HB hx122_1; replace p122 := eq_true p122; replace q122 := eq_true q122; obtain ⟨s0_, s1_, s2_, s3_, s4_⟩ : wr.cell? ⟨gb117, 0, none⟩ = some (.slice (some ad119) l1_0.length c1_0) ∧ wr.cell? (ad119.add (x5_2).toNat) = some (.slice (some ad121) (rd_L3 l1_0 x5_2).length c120_0) ∧ wr.cell? (ad121.add (x6_3).toNat) = some (.int .i64 (rd (rd_L3 l1_0 x5_2) x6_3)) ∧ wr.cell? (ad122.add ((x5_2).toNat * 2)) = some (.string ((rd_T63 l0 x5_2).f0)) ∧ wr.cell? ⟨(ad122.add ((x5_2).toNat * 2)).block, (ad122.add ((x5_2).toNat * 2)).off + 1, none⟩ = some (.int .i64 ((rd_T63 l0 x5_2).f1)) := ⟨(blk_cell BK117.out 0).trans rfl, ((HB.out.cell (World.block_lt_of_cell? w _ hw120_0)).trans hw120_0), ((HB.out.cell (World.block_lt_of_cell? w _ hw121_0)).trans hw121_0), ((HB.out.cell (World.block_lt_of_cell? w _ hw122_0)).trans hw122_0), ((HB.out.cell (World.block_lt_of_cell? w _ hw122_1)).trans hw122_1)⟩
                (try clear hcz10_0); (try clear hcz27_0); (try clear hcz7_0); (try clear hx119_0); (try clear hx120_0); (try clear hx121_0); (try clear hx122_0); (try clear hx122_1)
                go_quiet (((go_at_call 68; (with_reducible refine Calls.quiet_of ((spec_l1In.calls (rd (rd_L3 l1_0 x5_2) x6_3) 1 (wrap64 (((rd_T63 l0 x5_2).f1) - 1)) true _ A16.out).mono fun _ _ h_ => ⟨h_.1, h_.2.out⟩)))))
                clear s0_ s1_ s2_ s3_ s4_; have n0_ := Aside0.mk (blk_drewN BK117.out nq); have n1_ := Aside0.mk (pw_below_drewN HB.out nq); clear BK117; clear HB; have BK117 := n0_; have HB := n1_; clear n0_ n1_; generalize wr.drewN nq = w28 at BK117 HB ⊢
                try go_wp2
                go_roundg k3
                case measure => have := HJ2.out; have := HK2.out; have := HK3.out; omega
                case rel => exact ⟨(wrap64 (x6_3 + 1)), au, H', ⟨by have := HJ2.out; have := HK2.out; have := HK3.out; omega⟩, ⟨bk BK117⟩, ⟨bs HB GE117⟩⟩
              ·replace c17 := Bool.eq_false_iff.mpr c17
               subst c17
               have H1 : (some false) = some r := by rw [if_neg (show ¬ (false = true) by decide)] at H; exact H
               clear H; have H := H1; clear H1; obtain rfl := Option.some.inj H; have hcz29_0 : wr.cell? ⟨gb117, 0, none⟩ = some (.slice A1_0 l1_0.length c1_0) := (blk_cell BK117.out 0).trans rfl; have hfz29_0 := blk_frozen BK117.out 0; have p119 : 0 ≤ (x5_2 : Int) := ode; have q119 : x5_2 < (l1_0.length : Int) := ode; obtain ⟨ad119, A119_0, c119_0, e119, hx119_0, hl119_0, hi119_0⟩ := at_L3 HR1_0.out x5_2 p119 q119
               cases e119
               replace hx119_0 := cl HB hx119_0; have HR119_0 := Aside0.mk hi119_0; have HC119_0 := Aside0.mk hl119_0; clear hi119_0 hl119_0; replace p119 := eq_true p119; replace q119 := eq_true q119
               try go_wp2
               have p120 : 0 ≤ (x5_2 : Int) := ode; have q120 : x5_2 < (l1_0.length : Int) := ode; obtain ⟨ad120, A120_0, c120_0, e120, hx120_0, hl120_0, hi120_0⟩ := at_L3 HR1_0.out x5_2 p120 q120; have hw120_0 := hx120_0; obtain rfl : ad119 = ad120 := (by injection e120); replace hx120_0 := cl HB hx120_0; have HR120_0 := Aside0.mk hi120_0; have HC120_0 := Aside0.mk hl120_0; clear hi120_0 hl120_0; replace p120 := eq_true p120; replace q120 := eq_true q120; have p121 : 0 ≤ (x6_3 : Int) := ode; have q121 : x6_3 < ((rd_L3 l1_0 x5_2).length : Int) := ode; obtain ⟨ad121, e121, hx121_0⟩ := Kd.at_int HR120_0.out x6_3 p121 q121; have hw121_0 := hx121_0
               cases e121
               replace hx121_0 := cl HB hx121_0; replace p121 := eq_true p121; replace q121 := eq_true q121; have p122 : 0 ≤ (x5_2 : Int) := ode; have q122 : x5_2 < (l0.length : Int) := ode; obtain ⟨ad122, e122, hx122_0, hx122_1⟩ := at_T63 HR0.out x5_2 p122 q122; have hw122_1 := hx122_1; have hw122_0 := hx122_0
               cases e122
               replace hx122_0 := cl HB hx122_0; replace hx122_1 := cl HB hx122_1; replace p122 := eq_true p122; replace q122 := eq_true q122; obtain ⟨s0_, s1_, s2_, s3_, s4_⟩ : wr.cell? ⟨gb117, 0, none⟩ = some (.slice (some ad119) l1_0.length c1_0) ∧ wr.cell? (ad119.add (x5_2).toNat) = some (.slice (some ad121) (rd_L3 l1_0 x5_2).length c120_0) ∧ wr.cell? (ad121.add (x6_3).toNat) = some (.int .i64 (rd (rd_L3 l1_0 x5_2) x6_3)) ∧ wr.cell? (ad122.add ((x5_2).toNat * 2)) = some (.string ((rd_T63 l0 x5_2).f0)) ∧ wr.cell? ⟨(ad122.add ((x5_2).toNat * 2)).block, (ad122.add ((x5_2).toNat * 2)).off + 1, none⟩ = some (.int .i64 ((rd_T63 l0 x5_2).f1)) := ⟨(blk_cell BK117.out 0).trans rfl, ((HB.out.cell (World.block_lt_of_cell? w _ hw120_0)).trans hw120_0), ((HB.out.cell (World.block_lt_of_cell? w _ hw121_0)).trans hw121_0), ((HB.out.cell (World.block_lt_of_cell? w _ hw122_0)).trans hw122_0), ((HB.out.cell (World.block_lt_of_cell? w _ hw122_1)).trans hw122_1)⟩
               (try clear hcz10_0); (try clear hcz29_0); (try clear hcz7_0); (try clear hx119_0); (try clear hx120_0); (try clear hx121_0); (try clear hx122_0); (try clear hx122_1)
               go_quiet (((go_at_call 68; (with_reducible refine Calls.quiet_of ((spec_l1In.calls (rd (rd_L3 l1_0 x5_2) x6_3) 1 (wrap64 (((rd_T63 l0 x5_2).f1) - 1)) false _ A16.out).mono fun _ _ h_ => ⟨h_.1, h_.2.out⟩)))))
               clear s0_ s1_ s2_ s3_ s4_; have n0_ := Aside0.mk (blk_drewN BK117.out nq); have n1_ := Aside0.mk (pw_below_drewN HB.out nq); clear BK117; clear HB; have BK117 := n0_; have HB := n1_; clear n0_ n1_; generalize wr.drewN nq = w30 at BK117 HB ⊢
               try go_wp2
               go_ret
               exact ⟨by first | rfl | (simp [errW_none, errW_some] <;> rfl) | (simp [*, errW_none, errW_some] <;> rfl), bs HB GE117⟩
             ·rw [if_neg c15] at H
              exact absurd H (by simp)
            ·rw [if_neg c14] at H
             exact absurd H (by simp)
           ·rw [if_neg c13] at H
            have c13b0 : decide (x6_3 < ((rd_L3 l1_0 x5_2).length : Int)) = false := decide_eq_false c13; clear c13; have H' := Aside0.mk H; clear H; have hcz31_0 : wr.cell? ⟨gb117, 0, none⟩ = some (.slice A1_0 l1_0.length c1_0) := (blk_cell BK117.out 0).trans rfl; have hfz31_0 := blk_frozen BK117.out 0; have p119 : 0 ≤ (x5_2 : Int) := ode; have q119 : x5_2 < (l1_0.length : Int) := ode; obtain ⟨ad119, A119_0, c119_0, e119, hx119_0, hl119_0, hi119_0⟩ := at_L3 HR1_0.out x5_2 p119 q119
            cases e119
            replace hx119_0 := cl HB hx119_0; have HR119_0 := Aside0.mk hi119_0; have HC119_0 := Aside0.mk hl119_0; clear hi119_0 hl119_0; replace p119 := eq_true p119; replace q119 := eq_true q119
            go_wp2
            go_roundg k3
            case measure => have := HJ2.out; have := HK2.out; have := HK3.out; omega
            case rel => exact ⟨(wrap64 (x5_2 + 1)), au, H', ⟨by have := HJ2.out; have := HK2.out; have := HK3.out; omega⟩, ⟨bk BK117⟩, ⟨bs HB GE117⟩⟩
          ·rw [if_neg c12] at H
           exact absurd H (by simp)
         ·rw [if_neg c11] at H
          exact absurd H (by simp)
      ·rw [if_neg c9] at H
       have c9b0 : decide (x5_2 < (l1_0.length : Int)) = false := decide_eq_false c9; clear c9; obtain rfl := Option.some.inj H; have hcz32_0 : wr.cell? ⟨gb117, 0, none⟩ = some (.slice A1_0 l1_0.length c1_0) := (blk_cell BK117.out 0).trans rfl; have hfz32_0 := blk_frozen BK117.out 0
       go_wp2
       go_ret
       exact ⟨by first | rfl | (simp [errW_none, errW_some] <;> rfl) | (simp [*, errW_none, errW_some] <;> rfl), bs HB GE117⟩

end Go.Proofs.Ytonkicgdgpcneaa.PFnExactAddCuts
