-- Written by a program of this session (a turned copy of the kit's printer); Lean checks it.
-- half the depth
import Derived.Test.YtpkclocdenagcaaPFnSettledx0
import Derived.Test.YtpkclocdenagcaaPFnSettledx1
namespace Go.Proofs.Ytpkclocdenagcaa.PFnSettled
open Go.RowKit Go.Proofs.YtpkclocdenagcaaW.PrintWords Go.Proofs.YtpkclocdenagcaaW.PrintLast Go.Proofs.YtpkclocdenagcaaW.PrintMore
attribute [local go_sem] max2_int min2_int max_two min_two max_three min_three max_four min_four   -- for this text's walks alone
set_option linter.unusedVariables false
set_option linter.unusedSimpArgs false

/-! ### spec_CnfOk: function 26 -/
mutual
def spec_CnfOk.j0 : Nat → Bool → Int → List (List Int) → Option (Bool)
 | 0, _, _, _ => none
 | k + 1, x15, x104000, x104001 => if x15 = true then (some false) else (spec_CnfOk.l0 k 0 x104000 x104001)
def spec_CnfOk.l0 : Nat → Int → Int → List (List Int) → Option (Bool)
 | 0, _, _, _ => none
 | k + 1, x3, x104000, x104001 => if x3 < (x104001.length : Int) then (if 0 ≤ x3 then (if ((rd_L2 x104001 x3).length : Int) > 400 then (some false) else (spec_CnfOk.l1 k x3 0 x104000 x104001)) else (none)) else (some true)
def spec_CnfOk.l1 : Nat → Int → Int → Int → List (List Int) → Option (Bool)
 | 0, _, _, _, _ => none
 | k + 1, x3, x4, x104000, x104001 => if 0 ≤ x3 then (if x3 < (x104001.length : Int) then (if x4 < ((rd_L2 x104001 x3).length : Int) then (if 0 ≤ x4 then (if (rd (rd_L2 x104001 x3) x4) = 0 then (some false) else ((spec_l1In.f (rd (rd_L2 x104001 x3) x4) (wrap64 (-x104000)) x104000).bind fun t109 => (if t109 = true then (if x4 > 0 then ((spec_l18Abs.f (rd (rd_L2 x104001 x3) x4)).bind fun t110 => (if 0 ≤ (wrap64 (x4 - 1)) then (if (wrap64 (x4 - 1)) < ((rd_L2 x104001 x3).length : Int) then ((spec_l18Abs.f (rd (rd_L2 x104001 x3) (wrap64 (x4 - 1)))).bind fun t113 => (if t110 ≤ t113 then (some false) else (spec_CnfOk.l1 k x3 (wrap64 (x4 + 1)) x104000 x104001))) else (none)) else (none))) else (spec_CnfOk.l1 k x3 (wrap64 (x4 + 1)) x104000 x104001)) else (some false)))) else (none)) else (spec_CnfOk.l0 k (wrap64 (x3 + 1)) x104000 x104001)) else (none)) else (none)
end
def spec_CnfOk.f (k : Nat) (a0_0 : Int) (l0_1 : List (List Int)) : Option (Bool) := (spec_l1In.f a0_0 0 400).bind fun t104 => (if t104 = true then (spec_CnfOk.j0 k (decide ((l0_1.length : Int) > 4000)) a0_0 l0_1) else (spec_CnfOk.j0 k true a0_0 l0_1))
def spec_CnfOk.T12 : Bool × List (List Nat × List Nat) := (true, [([], []), ([0], [0]), ([1], [1]), ([2], [2]), ([2], [2]), ([4, 2], [2, 4]), ([5, 2], [2, 5]), ([2], [2]), ([7, 2], [2, 7]), ([3, 6, 8, 2, 2], [2, 3, 6, 8]), ([9, 2], [2, 9]), ([2, 10], [2, 10]), ([11, 9], [11]), ([12], [12]), ([13, 12], [12, 13]), ([14, 12, 12], [12, 14]), ([15], [15]), ([16, 15, 15], [15, 16]), ([15], [15]), ([18, 15], [15, 18]), ([15], [15]), ([19, 20, 15], [15, 19, 20]), ([21, 15], [15, 21]), ([15], [15]), ([23, 15], [15, 23]), ([22, 24, 15], [15, 22, 24]), ([25, 15], [15, 25]), ([26, 17, 15], [15, 26]), ([17, 27, 15], [15, 17, 27]), ([15, 28, 12], [12, 15, 28]), ([12, 29], [12, 29])])
def spec_CnfOk.B12 : List Nat := [0, 1, 3, 7, 7, 23, 55, 7, 135, 511, 1023, 2047, 4095, 8191, 16383, 32767, 65535, 131071, 65535, 327679, 65535, 1900543, 3997695, 65535, 8454143, 33357823, 66912255, 134217727, 268435455, 536870911, 1073741823]
theorem spec_CnfOk.tab12 : rtab .any (opsOf Try.f26 12) = spec_CnfOk.T12 := by kernel_rfl
theorem spec_CnfOk.bits12 : waitsOk spec_CnfOk.T12.2 spec_CnfOk.B12 = true := by kernel_rfl
set_option maxHeartbeats 8000000 in
set_option maxRecDepth 100000 in
theorem spec_CnfOk.calls (k : Nat) (a0_0 : Int) (A0_1 : Option Addr) (c0_1 : Nat) (l0_1 : List (List Int)) (r : Bool) (w : World) (hr0_1 : Kd.C (Kd.slice 2 (Kd.int .i64)) w A0_1 l0_1.length l0_1) (hc0_1 : l0_1.length ≤ c0_1) (h : spec_CnfOk.f k a0_0 l0_1 = some r) :
  Calls Try.prog 26 #[.agg #[.int .i64 a0_0, .slice A0_1 l0_1.length c0_1]] w fun e w' => e = .returned (.bool r) ∧ Below w.heap.size w w' := by
 have hu37 := Try.underlying37; have HR0_1 := Aside0.mk hr0_1; have HC0_1 := Aside0.mk hc0_1; clear hr0_1 hc0_1; have HB := Aside0.mk (Below.refl w.heap.size w); have H : ((spec_l1In.f a0_0 0 400).bind fun t104 => (if t104 = true then (spec_CnfOk.j0 k (decide ((l0_1.length : Int) > 4000)) a0_0 l0_1) else (spec_CnfOk.j0 k true a0_0 l0_1))) = some r := h; clear h; have HC2 := Aside0.mk H; clear H
 go_enter Try.func26, Try.ntmps26
 go_upto_region 1 with (first | ((with_reducible refine gate_dst (N := 1) rfl ?_); (try (refine gate_guard (by rfl) ?_; dsimp only)); refine be 1 #[.int .i64 a0_0, .slice A0_1 l0_1.length c0_1] 37 ?_; intro gb103 hg w3 hbox hb; have n0_ := Aside0.mk (below_step (bl HB) hb); have n1_ := Aside0.mk (hbox); have n2_ := Aside0.mk (gs HB hg); have n3_ := Aside0.mk (gs HB hg); clear HB; have HB := n0_; have BK103 := n1_; have GW103 := n2_; have GE103 := n3_; clear n0_ n1_ n2_ n3_; clear hb hbox hg))
 (try simp only [Act.put, List.setIfInBounds_toArray, List.set_cons_zero, List.set_cons_succ])
 go_cut [15] (fun v15 wc => ∃ (kq : Nat) (x15_1 : Bool), v15 = .bool x15_1 ∧ Aside0 (spec_CnfOk.j0 kq x15_1 a0_0 l0_1 = some r) ∧ Aside0 (kq ≤ k) ∧ Aside0 (wc.heap[gb103]? = some (.cells #[.int .i64 a0_0, (.slice A0_1 l0_1.length c0_1)] 37 (0, 0))) ∧ Aside0 (Below w.heap.size w wc))
 case first =>
  have H := HC2.out; clear HC2; replace H := Option.bind_eq_some_iff.mp H; obtain ⟨t104, A40, H⟩ := H; replace H : (if t104 = true then (spec_CnfOk.j0 k (decide ((l0_1.length : Int) > 4000)) a0_0 l0_1) else (spec_CnfOk.j0 k true a0_0 l0_1)) = some r := H; have A4 := Aside0.mk A40; clear A40
  by_cases c5 : t104 = true
  ·subst c5
   have H1 : (spec_CnfOk.j0 k (decide ((l0_1.length : Int) > 4000)) a0_0 l0_1) = some r := by rw [if_pos rfl] at H; exact H
   clear H; have H := H1; clear H1; have H' := Aside0.mk H; clear H; have hcz6_0 : w3.cell? ⟨gb103, 0, none⟩ = some (.int .i64 a0_0) := (blk_cell BK103.out 0).trans rfl; have hcz6_1 : w3.cell? ⟨gb103, 1, none⟩ = some (.slice A0_1 l0_1.length c0_1) := (blk_cell BK103.out 1).trans rfl; have hfz6_0 := blk_frozen BK103.out 0; have hfz6_1 := blk_frozen BK103.out 1
   go_wp2_with (first | ((with_reducible refine gate_callee (f := 44) rfl ?_); refine goesL_ (some 8) rfl rfl Try.func44 (by kernel_rfl) rfl #[.int .i64 a0_0, .int .i64 0, .int .i64 400] rfl ma ?_; (with_reducible refine (spec_l1In.calls a0_0 0 400 true _ A4.out).mono ?_); rintro e w' ⟨rfl, ⟨nd, rfl⟩⟩; refine ⟨_, rfl, ?_⟩))
   go_meet
   case rel => exact ⟨_, (decide ((l0_1.length : Int) > 4000)), au, H', ⟨by first | omega | exact Nat.le_refl _⟩, ⟨bk BK103⟩, ⟨bs HB GE103⟩⟩
  ·replace c5 := Bool.eq_false_iff.mpr c5
   subst c5
   have H1 : (spec_CnfOk.j0 k true a0_0 l0_1) = some r := by rw [if_neg (show ¬ (false = true) by decide)] at H; exact H
   clear H; have H := H1; clear H1; have H' := Aside0.mk H; clear H; have hcz7_0 : w3.cell? ⟨gb103, 0, none⟩ = some (.int .i64 a0_0) := (blk_cell BK103.out 0).trans rfl; have hcz7_1 : w3.cell? ⟨gb103, 1, none⟩ = some (.slice A0_1 l0_1.length c0_1) := (blk_cell BK103.out 1).trans rfl; have hfz7_0 := blk_frozen BK103.out 0; have hfz7_1 := blk_frozen BK103.out 1
   go_wp2_with (first | ((with_reducible refine gate_callee (f := 44) rfl ?_); refine goesL_ (some 8) rfl rfl Try.func44 (by kernel_rfl) rfl #[.int .i64 a0_0, .int .i64 0, .int .i64 400] rfl ma ?_; (with_reducible refine (spec_l1In.calls a0_0 0 400 false _ A4.out).mono ?_); rintro e w' ⟨rfl, ⟨nd, rfl⟩⟩; refine ⟨_, rfl, ?_⟩))
   go_meet
   case rel => exact ⟨_, (true), au, H', ⟨by first | omega | exact Nat.le_refl _⟩, ⟨bk BK103⟩, ⟨bs HB GE103⟩⟩
 case rest =>
  clear HC2
  try clear c2
  try clear p2
  try clear c4
  try clear c5
  try clear hcz6_0
  try clear hcz6_1
  try clear hcz7_0
  try clear hcz7_1
  try clear hfz6_0
  try clear hfz6_1
  try clear hfz7_0
  try clear hfz7_1
  obtain ⟨kq, x15_1, rfl, HA, HJ1, BK103, HB⟩ := hcut
  cases kq with
  | zero => exact absurd HA.out (by simp [spec_CnfOk.j0])
  | succ kj1 =>
   have H := HA.out; clear HA
   simp only [spec_CnfOk.j0] at H
   by_cases c8 : x15_1 = true
   ·subst c8
    have H1 : (some false) = some r := by rw [if_pos rfl] at H; exact H
    clear H; have H := H1; clear H1; obtain rfl := Option.some.inj H
    go_wp2
    go_ret
    exact ⟨by first | rfl | (simp [errW_none, errW_some] <;> rfl) | (simp [*, errW_none, errW_some] <;> rfl), bs HB GE103⟩
   ·replace c8 := Bool.eq_false_iff.mpr c8
    subst c8
    have H1 : (spec_CnfOk.l0 kj1 0 a0_0 l0_1) = some r := by rw [if_neg (show ¬ (false = true) by decide)] at H; exact H
    clear H; have H := H1; clear H1; have H' := Aside0.mk H; clear H
    go_wp2
    go_loopg [3] kj1 (fun kq v3 w' => ∃ (x3_2 : Int), v3 = .int .i64 x3_2 ∧ Aside0 (spec_CnfOk.l0 kq x3_2 a0_0 l0_1 = some r) ∧ Aside0 (kq ≤ kj1) ∧ Aside0 (w'.heap[gb103]? = some (.cells #[.int .i64 a0_0, (.slice A0_1 l0_1.length c0_1)] 37 (0, 0))) ∧ Aside0 (Below w.heap.size w w'))
    case atStart => exact ⟨(0), au, H', ⟨Nat.le_refl _⟩, ⟨bk BK103⟩, ⟨bs HB GE103⟩⟩
    case round =>
     clear H'
     try clear c2
     try clear p2
     try clear c4
     try clear c5
     try clear c8
     try clear hcz6_0
     try clear hcz6_1
     try clear hcz7_0
     try clear hcz7_1
     try clear hfz6_0
     try clear hfz6_1
     try clear hfz7_0
     try clear hfz7_1
     try clear p2
     obtain ⟨x3_2, rfl, HA, HK2, BK103, HB⟩ := hrel
     cases gk with
     | zero => exact absurd HA.out (by simp [spec_CnfOk.l0])
     | succ k2 =>
      have H := HA.out; clear HA
      simp only [spec_CnfOk.l0] at H
      by_cases c9 : x3_2 < (l0_1.length : Int)
      ·rw [if_pos c9] at H
       have c9b0 : decide (x3_2 < (l0_1.length : Int)) = true := decide_eq_true c9; clear c9
       by_cases c10 : 0 ≤ x3_2
       ·rw [if_pos c10] at H
        have c10b0 : decide (0 ≤ x3_2) = true := decide_eq_true c10; clear c10
        by_cases c11 : ((rd_L2 l0_1 x3_2).length : Int) > 400
        ·rw [if_pos c11] at H
         have c11b0 : decide (400 < ((rd_L2 l0_1 x3_2).length : Int)) = true := decide_eq_true c11; have c11b1 : decide (400 < (rd_L2 l0_1 x3_2).length) = true := decide_eq_true (by omega); clear c11; obtain rfl := Option.some.inj H; have hcz12_0 : wr.cell? ⟨gb103, 0, none⟩ = some (.int .i64 a0_0) := (blk_cell BK103.out 0).trans rfl; have hcz12_1 : wr.cell? ⟨gb103, 1, none⟩ = some (.slice A0_1 l0_1.length c0_1) := (blk_cell BK103.out 1).trans rfl; have hfz12_0 := blk_frozen BK103.out 0; have hfz12_1 := blk_frozen BK103.out 1; have p105 : 0 ≤ (x3_2 : Int) := ode; have q105 : x3_2 < (l0_1.length : Int) := ode; obtain ⟨ad105, A105_0, c105_0, e105, hx105_0, hl105_0, hi105_0⟩ := at_L2 HR0_1.out x3_2 p105 q105
         cases e105
         replace hx105_0 := cl HB hx105_0; have HR105_0 := Aside0.mk hi105_0; have HC105_0 := Aside0.mk hl105_0; clear hi105_0 hl105_0; replace p105 := eq_true p105; replace q105 := eq_true q105
         go_wp2
         go_ret
         exact ⟨by first | rfl | (simp [errW_none, errW_some] <;> rfl) | (simp [*, errW_none, errW_some] <;> rfl), bs HB GE103⟩
        ·rw [if_neg c11] at H
         have c11b0 : decide (400 < ((rd_L2 l0_1 x3_2).length : Int)) = false := decide_eq_false c11; have c11b1 : decide (400 < (rd_L2 l0_1 x3_2).length) = false := decide_eq_false (by omega); clear c11; have H' := Aside0.mk H; clear H; have hcz13_0 : wr.cell? ⟨gb103, 0, none⟩ = some (.int .i64 a0_0) := (blk_cell BK103.out 0).trans rfl; have hcz13_1 : wr.cell? ⟨gb103, 1, none⟩ = some (.slice A0_1 l0_1.length c0_1) := (blk_cell BK103.out 1).trans rfl; have hfz13_0 := blk_frozen BK103.out 0; have hfz13_1 := blk_frozen BK103.out 1; have p105 : 0 ≤ (x3_2 : Int) := ode; have q105 : x3_2 < (l0_1.length : Int) := ode; obtain ⟨ad105, A105_0, c105_0, e105, hx105_0, hl105_0, hi105_0⟩ := at_L2 HR0_1.out x3_2 p105 q105
         cases e105
         replace hx105_0 := cl HB hx105_0; have HR105_0 := Aside0.mk hi105_0; have HC105_0 := Aside0.mk hl105_0; clear hi105_0 hl105_0; replace p105 := eq_true p105; replace q105 := eq_true q105
         go_wp2
         go_loopg [4] k2 (fun kq v4 w' => ∃ (x4_3 : Int), v4 = .int .i64 x4_3 ∧ Aside0 (spec_CnfOk.l1 kq x3_2 x4_3 a0_0 l0_1 = some r) ∧ Aside0 (kq ≤ k2) ∧ Aside0 (w'.heap[gb103]? = some (.cells #[.int .i64 a0_0, (.slice (some ad105) l0_1.length c0_1)] 37 (0, 0))) ∧ Aside0 (Below w.heap.size w w'))
         case atStart => exact ⟨(0), au, H', ⟨Nat.le_refl _⟩, ⟨bk BK103⟩, ⟨bs HB GE103⟩⟩
         case round =>
          clear H'
          try clear c1
          try clear p1
          try clear q1
          try clear hx1
          try clear c2
          try clear p2
          try clear c4
          try clear c5
          try clear c8
          try clear c9
          try clear c9b0
          try clear c10
          try clear c10b0
          try clear p10
          try clear q10
          try clear hx10
          try clear c11
          try clear c11b0
          try clear c11b1
          try clear hcz12_0
          try clear hcz12_1
          try clear hcz13_0
          try clear hcz13_1
          try clear hcz6_0
          try clear hcz6_1
          try clear hcz7_0
          try clear hcz7_1
          try clear hfz12_0
          try clear hfz12_1
          try clear hfz13_0
          try clear hfz13_1
          try clear hfz6_0
          try clear hfz6_1
          try clear hfz7_0
          try clear hfz7_1
          try clear hx105_0
          try clear p105
          try clear p2
          try clear q105
          obtain ⟨x4_3, rfl, HA, HK3, BK103, HB⟩ := hrel
          cases gk with
          | zero => exact absurd HA.out (by simp [spec_CnfOk.l1])
          | succ k3 =>
           have H := HA.out; clear HA
           simp only [spec_CnfOk.l1] at H
           by_cases c14 : 0 ≤ x3_2
           ·rw [if_pos c14] at H
            have c14b0 : decide (0 ≤ x3_2) = true := decide_eq_true c14; clear c14
            by_cases c15 : x3_2 < (l0_1.length : Int)
            ·rw [if_pos c15] at H
             have c15b0 : decide (x3_2 < (l0_1.length : Int)) = true := decide_eq_true c15; clear c15
             by_cases c16 : x4_3 < ((rd_L2 l0_1 x3_2).length : Int)
             ·rw [if_pos c16] at H
              have c16b0 : decide (x4_3 < ((rd_L2 l0_1 x3_2).length : Int)) = true := decide_eq_true c16; clear c16
              by_cases c17 : 0 ≤ x4_3
              ·rw [if_pos c17] at H
               have c17b0 : decide (0 ≤ x4_3) = true := decide_eq_true c17; clear c17
               by_cases c18 : (rd (rd_L2 l0_1 x3_2) x4_3) = 0
               ·rw [if_pos c18] at H
                have c18b0 : ((rd (rd_L2 l0_1 x3_2) x4_3) == 0) = true := beq_iff_eq.mpr c18; have c18b1 : ((rd (rd_L2 l0_1 x3_2) x4_3) != 0) = false := bne_eq_false_iff_eq.mpr c18; clear c18; obtain rfl := Option.some.inj H; have hcz19_0 : wr.cell? ⟨gb103, 0, none⟩ = some (.int .i64 a0_0) := (blk_cell BK103.out 0).trans rfl; have hcz19_1 : wr.cell? ⟨gb103, 1, none⟩ = some (.slice (some ad105) l0_1.length c0_1) := (blk_cell BK103.out 1).trans rfl; have hfz19_0 := blk_frozen BK103.out 0; have hfz19_1 := blk_frozen BK103.out 1; have p106 : 0 ≤ (x3_2 : Int) := ode; have q106 : x3_2 < (l0_1.length : Int) := ode; obtain ⟨ad106, A106_0, c106_0, e106, hx106_0, hl106_0, hi106_0⟩ := at_L2 HR0_1.out x3_2 p106 q106; obtain rfl : ad105 = ad106 := (by injection e106); replace hx106_0 := cl HB hx106_0; have HR106_0 := Aside0.mk hi106_0; have HC106_0 := Aside0.mk hl106_0; clear hi106_0 hl106_0; replace p106 := eq_true p106; replace q106 := eq_true q106; have p107 : 0 ≤ (x3_2 : Int) := ode; have q107 : x3_2 < (l0_1.length : Int) := ode; obtain ⟨ad107, A107_0, c107_0, e107, hx107_0, hl107_0, hi107_0⟩ := at_L2 HR0_1.out x3_2 p107 q107; obtain rfl : ad105 = ad107 := (by injection e107); replace hx107_0 := cl HB hx107_0; have HR107_0 := Aside0.mk hi107_0; have HC107_0 := Aside0.mk hl107_0; clear hi107_0 hl107_0; replace p107 := eq_true p107; replace q107 := eq_true q107; have ea_ := Option.some.inj (hx106_0.symm.trans hx107_0)
                injection ea_ with ea_ en_ ec_
                subst ea_
                subst ec_
                clear en_; have p108 : 0 ≤ (x4_3 : Int) := ode; have q108 : x4_3 < ((rd_L2 l0_1 x3_2).length : Int) := ode; obtain ⟨ad108, e108, hx108_0⟩ := Kd.at_int HR107_0.out x4_3 p108 q108
                cases e108
                replace hx108_0 := cl HB hx108_0; replace p108 := eq_true p108; replace q108 := eq_true q108
                try go_wp2
                (try clear hcz12_0); (try clear hcz12_1); (try clear hcz13_0); (try clear hcz13_1); (try clear hcz19_0); (try clear hcz19_1); (try clear hcz6_0); (try clear hcz6_1); (try clear hcz7_0); (try clear hcz7_1); (try clear hx105_0); (try clear hx106_0); (try clear hx107_0); (try clear hx108_0)
                go_quiet ((fail))
                have n0_ := Aside0.mk (blk_drewN BK103.out nq); have n1_ := Aside0.mk (pw_below_drewN HB.out nq); clear BK103; clear HB; have BK103 := n0_; have HB := n1_; clear n0_ n1_; generalize wr.drewN nq = w20 at BK103 HB ⊢
                try go_wp2
                go_ret
                exact ⟨by first | rfl | (simp [errW_none, errW_some] <;> rfl) | (simp [*, errW_none, errW_some] <;> rfl), bs HB GE103⟩
               ·rw [if_neg c18] at H
                have c18b0 : ((rd (rd_L2 l0_1 x3_2) x4_3) == 0) = false := beq_eq_false_iff_ne.mpr c18; have c18b1 : ((rd (rd_L2 l0_1 x3_2) x4_3) != 0) = true := bne_iff_ne.mpr c18; replace H := Option.bind_eq_some_iff.mp H; obtain ⟨t109, A210, H⟩ := H; replace H : (if t109 = true then (if x4_3 > 0 then ((spec_l18Abs.f (rd (rd_L2 l0_1 x3_2) x4_3)).bind fun t110 => (if 0 ≤ (wrap64 (x4_3 - 1)) then (if (wrap64 (x4_3 - 1)) < ((rd_L2 l0_1 x3_2).length : Int) then ((spec_l18Abs.f (rd (rd_L2 l0_1 x3_2) (wrap64 (x4_3 - 1)))).bind fun t113 => (if t110 ≤ t113 then (some false) else (spec_CnfOk.l1 k3 x3_2 (wrap64 (x4_3 + 1)) a0_0 l0_1))) else (none)) else (none))) else (spec_CnfOk.l1 k3 x3_2 (wrap64 (x4_3 + 1)) a0_0 l0_1)) else (some false)) = some r := H; have A21 := Aside0.mk A210; clear A210
                by_cases c22 : t109 = true
                ·subst c22
                 have H1 : (if x4_3 > 0 then ((spec_l18Abs.f (rd (rd_L2 l0_1 x3_2) x4_3)).bind fun t110 => (if 0 ≤ (wrap64 (x4_3 - 1)) then (if (wrap64 (x4_3 - 1)) < ((rd_L2 l0_1 x3_2).length : Int) then ((spec_l18Abs.f (rd (rd_L2 l0_1 x3_2) (wrap64 (x4_3 - 1)))).bind fun t113 => (if t110 ≤ t113 then (some false) else (spec_CnfOk.l1 k3 x3_2 (wrap64 (x4_3 + 1)) a0_0 l0_1))) else (none)) else (none))) else (spec_CnfOk.l1 k3 x3_2 (wrap64 (x4_3 + 1)) a0_0 l0_1)) = some r := by rw [if_pos rfl] at H; exact H
                 clear H; have H := H1; clear H1
                 by_cases c23 : x4_3 > 0
                 ·rw [if_pos c23] at H
                  have c23b0 : decide (0 < x4_3) = true := decide_eq_true c23; clear c23; replace H := Option.bind_eq_some_iff.mp H; obtain ⟨t110, A240, H⟩ := H; replace H : (if 0 ≤ (wrap64 (x4_3 - 1)) then (if (wrap64 (x4_3 - 1)) < ((rd_L2 l0_1 x3_2).length : Int) then ((spec_l18Abs.f (rd (rd_L2 l0_1 x3_2) (wrap64 (x4_3 - 1)))).bind fun t113 => (if t110 ≤ t113 then (some false) else (spec_CnfOk.l1 k3 x3_2 (wrap64 (x4_3 + 1)) a0_0 l0_1))) else (none)) else (none)) = some r := H; have A24 := Aside0.mk A240; clear A240; obtain ⟨ji25, hji25⟩ : ∃ j_ : Int, (wrap64 (x4_3 - 1)) = j_ := ⟨_, rfl⟩
                  replace H : (if 0 ≤ (ji25) then (if (ji25) < ((rd_L2 l0_1 x3_2).length : Int) then ((spec_l18Abs.f (rd (rd_L2 l0_1 x3_2) (ji25))).bind fun t113 => (if t110 ≤ t113 then (some false) else (spec_CnfOk.l1 k3 x3_2 (wrap64 (x4_3 + 1)) a0_0 l0_1))) else (none)) else (none)) = some r := by first | (rw [hji25] at H; exact H) | (simp only [hji25] at H ⊢; exact H)
                  (try rw [hji25] at A21)
                  (try rw [hji25] at A24)
                  have hji25w : (IntKind.i64.wrap (x4_3 - 1)) = ji25 := (i64_w _).trans hji25
                  by_cases c26 : 0 ≤ (ji25)
                  ·rw [if_pos c26] at H
                   have c26b0 : decide (0 ≤ (ji25)) = true := decide_eq_true c26; clear c26
                   by_cases c27 : (ji25) < ((rd_L2 l0_1 x3_2).length : Int)
                   ·rw [if_pos c27] at H
                    have c27b0 : decide ((ji25) < ((rd_L2 l0_1 x3_2).length : Int)) = true := decide_eq_true c27; clear c27; replace H := Option.bind_eq_some_iff.mp H; obtain ⟨t113, A280, H⟩ := H; replace H : (if t110 ≤ t113 then (some false) else (spec_CnfOk.l1 k3 x3_2 (wrap64 (x4_3 + 1)) a0_0 l0_1)) = some r := H; have A28 := Aside0.mk A280; clear A280
                    by_cases c29 : t110 ≤ t113
                    ·rw [if_pos c29] at H
                     have c29b0 : decide (t110 ≤ t113) = true := decide_eq_true c29; clear c29; obtain rfl := Option.some.inj H; have hcz30_0 : wr.cell? ⟨gb103, 0, none⟩ = some (.int .i64 a0_0) := (blk_cell BK103.out 0).trans rfl; have hcz30_1 : wr.cell? ⟨gb103, 1, none⟩ = some (.slice (some ad105) l0_1.length c0_1) := (blk_cell BK103.out 1).trans rfl; have hfz30_0 := blk_frozen BK103.out 0; have hfz30_1 := blk_frozen BK103.out 1; have p106 : 0 ≤ (x3_2 : Int) := ode; have q106 : x3_2 < (l0_1.length : Int) := ode; obtain ⟨ad106, A106_0, c106_0, e106, hx106_0, hl106_0, hi106_0⟩ := at_L2 HR0_1.out x3_2 p106 q106; obtain rfl : ad105 = ad106 := (by injection e106); replace hx106_0 := cl HB hx106_0; have HR106_0 := Aside0.mk hi106_0; have HC106_0 := Aside0.mk hl106_0; clear hi106_0 hl106_0; replace p106 := eq_true p106; replace q106 := eq_true q106; have p107 : 0 ≤ (x3_2 : Int) := ode; have q107 : x3_2 < (l0_1.length : Int) := ode; obtain ⟨ad107, A107_0, c107_0, e107, hx107_0, hl107_0, hi107_0⟩ := at_L2 HR0_1.out x3_2 p107 q107; obtain rfl : ad105 = ad107 := (by injection e107); replace hx107_0 := cl HB hx107_0; have HR107_0 := Aside0.mk hi107_0; have HC107_0 := Aside0.mk hl107_0; clear hi107_0 hl107_0; replace p107 := eq_true p107; replace q107 := eq_true q107; have ea_ := Option.some.inj (hx106_0.symm.trans hx107_0)
                     injection ea_ with ea_ en_ ec_
                     subst ea_
                     subst ec_
                     clear en_; have p108 : 0 ≤ (x4_3 : Int) := ode; have q108 : x4_3 < ((rd_L2 l0_1 x3_2).length : Int) := ode; obtain ⟨ad108, e108, hx108_0⟩ := Kd.at_int HR107_0.out x4_3 p108 q108
                     cases e108
                     replace hx108_0 := cl HB hx108_0; replace p108 := eq_true p108; replace q108 := eq_true q108
                     try go_wp2
                     have n0_ := Aside0.mk (blk_drew BK103.out); have n1_ := Aside0.mk (below_drew1 HB.out); clear BK103; clear HB; have BK103 := n0_; have HB := n1_; clear n0_ n1_; have p111 : 0 ≤ (x3_2 : Int) := ode; have q111 : x3_2 < (l0_1.length : Int) := ode; obtain ⟨ad111, A111_0, c111_0, e111, hx111_0, hl111_0, hi111_0⟩ := at_L2 HR0_1.out x3_2 p111 q111; have hw111_0 := hx111_0; obtain rfl : ad105 = ad111 := (by injection e111); replace hx111_0 := cl HB hx111_0; have HR111_0 := Aside0.mk hi111_0; have HC111_0 := Aside0.mk hl111_0; clear hi111_0 hl111_0; replace p111 := eq_true p111; replace q111 := eq_true q111; have p112 : 0 ≤ ((ji25) : Int) := ode; have q112 : (ji25) < ((rd_L2 l0_1 x3_2).length : Int) := ode; obtain ⟨ad112, e112, hx112_0⟩ := Kd.at_int HR111_0.out (ji25) p112 q112; have hw112_0 := hx112_0
                     cases e112
                     replace hx112_0 := cl HB hx112_0; replace p112 := eq_true p112; replace q112 := eq_true q112; refine start_ (n := 31) (S := fun w' => w'.cell? ⟨gb103, 0, none⟩ = some (.int .i64 a0_0) ∧ w'.cell? ⟨gb103, 1, none⟩ = some (.slice (some ad105) l0_1.length c0_1) ∧ w'.cell? (ad105.add (x3_2).toNat) = some (.slice (some ad112) (rd_L2 l0_1 x3_2).length c111_0) ∧ w'.cell? (ad112.add ((ji25)).toNat) = some (.int .i64 (rd (rd_L2 l0_1 x3_2) (ji25)))) (ds := []) (tf 0 31) (by kernel_rfl) rfl rfl ⟨(blk_cell BK103.out 0).trans rfl, (blk_cell BK103.out 1).trans rfl, ((HB.out.cell (World.block_lt_of_cell? w _ hw111_0)).trans hw111_0), ((HB.out.cell (World.block_lt_of_cell? w _ hw112_0)).trans hw112_0)⟩ (fun hHeld => ?_); refine with_tabW spec_CnfOk.tab12 spec_CnfOk.bits12 (fun HT_ HW_ => ?_); generalize wr.drew = w31 at BK103 HB HR111_0 hx111_0 hx112_0 hHeld ⊢; refine pu HT_ 0 48 30 ?_; refine pu HT_ 1 49 29 ?_; refine pu HT_ 2 50 28 ?_; refine pu HT_ 3 51 27 ?_; refine pu HT_ 4 52 26 ?_; refine pq HT_ 7 55 31 159 ?_; refine tq HT_ HW_ hHeld 5 53 31 191 ?_; refine pq HT_ 6 54 31 255 ?_; refine ta HT_ HW_ hHeld 8 56 22 ?_; refine on HT_ 9 57 21 (fun K hK => ?_); refine goes_ Try.func44 (by kernel_rfl) rfl #[.int .i64 (rd (rd_L2 l0_1 x3_2) x4_3), .int .i64 (wrap64 (-a0_0)), .int .i64 a0_0] (by rfl) rfl rfl ma ?_; (with_reducible refine (spec_l1In.calls (rd (rd_L2 l0_1 x3_2) x4_3) (wrap64 (-a0_0)) a0_0 true _ A21.out).mono ?_)
                     rintro e w' ⟨rfl, ⟨nd, rfl⟩⟩; refine ⟨_, rfl, ?_⟩; refine hK.out _ _ ⟨(blk_cell BK103.out 0).trans rfl, (blk_cell BK103.out 1).trans rfl, ((HB.out.cell (World.block_lt_of_cell? w _ hw111_0)).trans hw111_0), ((HB.out.cell (World.block_lt_of_cell? w _ hw112_0)).trans hw112_0)⟩ (fun hHeld => ?_); clear hK K; refine nm 57 ?_; refine pu HT_ 10 58 20 ?_; refine pu HT_ 11 59 19 ?_; refine pu HT_ 12 60 18 ?_; refine pu HT_ 13 61 17 ?_; refine pu HT_ 14 62 16 ?_; refine pu HT_ 15 63 15 ?_; refine pu HT_ 16 64 14 ?_; refine pq HT_ 18 66 31 393215 ?_; refine pq HT_ 20 68 31 1441791 ?_; refine pq HT_ 23 71 31 9830399 ?_; refine pq HT_ 24 72 31 26607615 ?_; refine tq HT_ HW_ hHeld 19 67 31 27131903 ?_; refine pq HT_ 21 69 31 29229055 ?_; refine tq HT_ HW_ hHeld 22 70 31 33423359 ?_; refine pq HT_ 25 73 31 66977791 ?_; refine tq HT_ HW_ hHeld 26 74 31 134086655 ?_; refine oq HT_ 17 65 31 134217727 (fun K hK => ?_); refine goes_ Try.func60 (by kernel_rfl) rfl #[.int .i64 (rd (rd_L2 l0_1 x3_2) x4_3)] (by rfl) rfl rfl ma ?_; (with_reducible refine (spec_l18Abs.calls (rd (rd_L2 l0_1 x3_2) x4_3) t110 _ A24.out).mono ?_)
                     rintro e w32 ⟨rfl, hb⟩; refine ⟨_, rfl, ?_⟩; have n0_ := Aside0.mk (blk_below (g := gb103) (o := .cells #[.int .i64 a0_0, .slice (some ad105) l0_1.length c0_1] 37 (0, 0)) (bk BK103) hb); have n1_ := Aside0.mk (below_step (bs HB GE103) hb); clear BK103; clear HB; have BK103 := n0_; have HB := n1_; clear n0_ n1_; (try clear hb)
                     (try clear hb2); (try clear hk)
                     (try clear hi); refine hK.out _ _ ⟨(blk_cell BK103.out 0).trans rfl, (blk_cell BK103.out 1).trans rfl, ((HB.out.cell (World.block_lt_of_cell? w _ hw111_0)).trans hw111_0), ((HB.out.cell (World.block_lt_of_cell? w _ hw112_0)).trans hw112_0)⟩ (fun hHeld => ?_); clear hK K; refine nm 65 ?_; refine on HT_ 27 75 3 (fun K hK => ?_); refine goes_ Try.func60 (by kernel_rfl) rfl #[.int .i64 (rd (rd_L2 l0_1 x3_2) (ji25))] (by rfl) rfl rfl (by (try simp only [List.map_toArray, List.map_cons, List.map_nil]); first | done | (simp only [hji25]; rfl) | rfl | (simp only [List.length_drop, List.length_take]; rfl)) ?_
                     (with_reducible refine (spec_l18Abs.calls (rd (rd_L2 l0_1 x3_2) (ji25)) t113 _ A28.out).mono ?_); rintro e w33 ⟨rfl, hb⟩; refine ⟨_, rfl, ?_⟩; have n0_ := Aside0.mk (blk_below (g := gb103) (o := .cells #[.int .i64 a0_0, .slice (some ad105) l0_1.length c0_1] 37 (0, 0)) (bk BK103) hb); have n1_ := Aside0.mk (below_step (bs HB GE103) hb); clear BK103; clear HB; have BK103 := n0_; have HB := n1_; clear n0_ n1_; (try clear hb)
                     (try clear hb2); (try clear hk)
                     (try clear hi); refine hK.out _ _ ⟨(blk_cell BK103.out 0).trans rfl, (blk_cell BK103.out 1).trans rfl, ((HB.out.cell (World.block_lt_of_cell? w _ hw111_0)).trans hw111_0), ((HB.out.cell (World.block_lt_of_cell? w _ hw112_0)).trans hw112_0)⟩ (fun hHeld => ?_); clear hK K; refine nm 75 ?_; refine pu HT_ 28 76 2 ?_; refine pu HT_ 29 77 1 ?_; refine pu HT_ 30 78 0 ?_; refine done_ (done_of HT_.out (by kernel_rfl)) ?_
                     try go_wp2
                     go_ret
                     exact ⟨by first | rfl | (simp [errW_none, errW_some] <;> rfl) | (simp only [← hji25]; first | rfl | (simp [errW_none, errW_some] <;> rfl)) | (simp [*, errW_none, errW_some] <;> rfl), bs HB GE103⟩
                    ·rw [if_neg c29] at H
                     have c29b0 : decide (t110 ≤ t113) = false := decide_eq_false c29; clear c29; have H' := Aside0.mk H; clear H; have hcz34_0 : wr.cell? ⟨gb103, 0, none⟩ = some (.int .i64 a0_0) := (blk_cell BK103.out 0).trans rfl; have hcz34_1 : wr.cell? ⟨gb103, 1, none⟩ = some (.slice (some ad105) l0_1.length c0_1) := (blk_cell BK103.out 1).trans rfl; have hfz34_0 := blk_frozen BK103.out 0; have hfz34_1 := blk_frozen BK103.out 1; have p106 : 0 ≤ (x3_2 : Int) := ode; have q106 : x3_2 < (l0_1.length : Int) := ode; obtain ⟨ad106, A106_0, c106_0, e106, hx106_0, hl106_0, hi106_0⟩ := at_L2 HR0_1.out x3_2 p106 q106; obtain rfl : ad105 = ad106 := (by injection e106); replace hx106_0 := cl HB hx106_0; have HR106_0 := Aside0.mk hi106_0; have HC106_0 := Aside0.mk hl106_0; clear hi106_0 hl106_0; replace p106 := eq_true p106; replace q106 := eq_true q106; have p107 : 0 ≤ (x3_2 : Int) := ode; have q107 : x3_2 < (l0_1.length : Int) := ode; obtain ⟨ad107, A107_0, c107_0, e107, hx107_0, hl107_0, hi107_0⟩ := at_L2 HR0_1.out x3_2 p107 q107; obtain rfl : ad105 = ad107 := (by injection e107); replace hx107_0 := cl HB hx107_0; have HR107_0 := Aside0.mk hi107_0; have HC107_0 := Aside0.mk hl107_0; clear hi107_0 hl107_0; replace p107 := eq_true p107; replace q107 := eq_true q107; have ea_ := Option.some.inj (hx106_0.symm.trans hx107_0)
                     injection ea_ with ea_ en_ ec_
                     subst ea_
                     subst ec_
                     clear en_; have p108 : 0 ≤ (x4_3 : Int) := ode; have q108 : x4_3 < ((rd_L2 l0_1 x3_2).length : Int) := ode; obtain ⟨ad108, e108, hx108_0⟩ := Kd.at_int HR107_0.out x4_3 p108 q108
                     cases e108
                     replace hx108_0 := cl HB hx108_0; replace p108 := eq_true p108; replace q108 := eq_true q108
                     try go_wp2
                     have n0_ := Aside0.mk (blk_drew BK103.out); have n1_ := Aside0.mk (below_drew1 HB.out); clear BK103; clear HB; have BK103 := n0_; have HB := n1_; clear n0_ n1_; have p111 : 0 ≤ (x3_2 : Int) := ode; have q111 : x3_2 < (l0_1.length : Int) := ode; obtain ⟨ad111, A111_0, c111_0, e111, hx111_0, hl111_0, hi111_0⟩ := at_L2 HR0_1.out x3_2 p111 q111; have hw111_0 := hx111_0; obtain rfl : ad105 = ad111 := (by injection e111); replace hx111_0 := cl HB hx111_0; have HR111_0 := Aside0.mk hi111_0; have HC111_0 := Aside0.mk hl111_0; clear hi111_0 hl111_0; replace p111 := eq_true p111; replace q111 := eq_true q111; have p112 : 0 ≤ ((ji25) : Int) := ode; have q112 : (ji25) < ((rd_L2 l0_1 x3_2).length : Int) := ode; obtain ⟨ad112, e112, hx112_0⟩ := Kd.at_int HR111_0.out (ji25) p112 q112; have hw112_0 := hx112_0
                     cases e112
                     replace hx112_0 := cl HB hx112_0; replace p112 := eq_true p112; replace q112 := eq_true q112; refine start_ (n := 31) (S := fun w' => w'.cell? ⟨gb103, 0, none⟩ = some (.int .i64 a0_0) ∧ w'.cell? ⟨gb103, 1, none⟩ = some (.slice (some ad105) l0_1.length c0_1) ∧ w'.cell? (ad105.add (x3_2).toNat) = some (.slice (some ad112) (rd_L2 l0_1 x3_2).length c111_0) ∧ w'.cell? (ad112.add ((ji25)).toNat) = some (.int .i64 (rd (rd_L2 l0_1 x3_2) (ji25)))) (ds := []) (tf 0 31) (by kernel_rfl) rfl rfl ⟨(blk_cell BK103.out 0).trans rfl, (blk_cell BK103.out 1).trans rfl, ((HB.out.cell (World.block_lt_of_cell? w _ hw111_0)).trans hw111_0), ((HB.out.cell (World.block_lt_of_cell? w _ hw112_0)).trans hw112_0)⟩ (fun hHeld => ?_); refine with_tabW spec_CnfOk.tab12 spec_CnfOk.bits12 (fun HT_ HW_ => ?_); generalize wr.drew = w35 at BK103 HB HR111_0 hx111_0 hx112_0 hHeld ⊢; refine pu HT_ 0 48 30 ?_; refine pu HT_ 1 49 29 ?_; refine pu HT_ 2 50 28 ?_; refine pu HT_ 3 51 27 ?_; refine pu HT_ 4 52 26 ?_; refine pq HT_ 7 55 31 159 ?_; refine tq HT_ HW_ hHeld 5 53 31 191 ?_; refine pq HT_ 6 54 31 255 ?_; refine ta HT_ HW_ hHeld 8 56 22 ?_; refine on HT_ 9 57 21 (fun K hK => ?_); refine goes_ Try.func44 (by kernel_rfl) rfl #[.int .i64 (rd (rd_L2 l0_1 x3_2) x4_3), .int .i64 (wrap64 (-a0_0)), .int .i64 a0_0] (by rfl) rfl rfl ma ?_; (with_reducible refine (spec_l1In.calls (rd (rd_L2 l0_1 x3_2) x4_3) (wrap64 (-a0_0)) a0_0 true _ A21.out).mono ?_)
                     rintro e w' ⟨rfl, ⟨nd, rfl⟩⟩; refine ⟨_, rfl, ?_⟩; refine hK.out _ _ ⟨(blk_cell BK103.out 0).trans rfl, (blk_cell BK103.out 1).trans rfl, ((HB.out.cell (World.block_lt_of_cell? w _ hw111_0)).trans hw111_0), ((HB.out.cell (World.block_lt_of_cell? w _ hw112_0)).trans hw112_0)⟩ (fun hHeld => ?_); clear hK K; refine nm 57 ?_; refine pu HT_ 10 58 20 ?_; refine pu HT_ 11 59 19 ?_; refine pu HT_ 12 60 18 ?_; refine pu HT_ 13 61 17 ?_; refine pu HT_ 14 62 16 ?_; refine pu HT_ 15 63 15 ?_; refine pu HT_ 16 64 14 ?_; refine pq HT_ 18 66 31 393215 ?_; refine pq HT_ 20 68 31 1441791 ?_; refine pq HT_ 23 71 31 9830399 ?_; refine pq HT_ 24 72 31 26607615 ?_; refine tq HT_ HW_ hHeld 19 67 31 27131903 ?_; refine pq HT_ 21 69 31 29229055 ?_; refine tq HT_ HW_ hHeld 22 70 31 33423359 ?_; refine pq HT_ 25 73 31 66977791 ?_; refine tq HT_ HW_ hHeld 26 74 31 134086655 ?_; refine oq HT_ 17 65 31 134217727 (fun K hK => ?_); refine goes_ Try.func60 (by kernel_rfl) rfl #[.int .i64 (rd (rd_L2 l0_1 x3_2) x4_3)] (by rfl) rfl rfl ma ?_; (with_reducible refine (spec_l18Abs.calls (rd (rd_L2 l0_1 x3_2) x4_3) t110 _ A24.out).mono ?_)
                     rintro e w36 ⟨rfl, hb⟩; refine ⟨_, rfl, ?_⟩; have n0_ := Aside0.mk (blk_below (g := gb103) (o := .cells #[.int .i64 a0_0, .slice (some ad105) l0_1.length c0_1] 37 (0, 0)) (bk BK103) hb); have n1_ := Aside0.mk (below_step (bs HB GE103) hb); clear BK103; clear HB; have BK103 := n0_; have HB := n1_; clear n0_ n1_; (try clear hb)
                     (try clear hb2); (try clear hk)
                     (try clear hi); refine hK.out _ _ ⟨(blk_cell BK103.out 0).trans rfl, (blk_cell BK103.out 1).trans rfl, ((HB.out.cell (World.block_lt_of_cell? w _ hw111_0)).trans hw111_0), ((HB.out.cell (World.block_lt_of_cell? w _ hw112_0)).trans hw112_0)⟩ (fun hHeld => ?_); clear hK K; refine nm 65 ?_; refine on HT_ 27 75 3 (fun K hK => ?_); refine goes_ Try.func60 (by kernel_rfl) rfl #[.int .i64 (rd (rd_L2 l0_1 x3_2) (ji25))] (by rfl) rfl rfl (by (try simp only [List.map_toArray, List.map_cons, List.map_nil]); first | done | (simp only [hji25]; rfl) | rfl | (simp only [List.length_drop, List.length_take]; rfl)) ?_
                     (with_reducible refine (spec_l18Abs.calls (rd (rd_L2 l0_1 x3_2) (ji25)) t113 _ A28.out).mono ?_); rintro e w37 ⟨rfl, hb⟩; refine ⟨_, rfl, ?_⟩; have n0_ := Aside0.mk (blk_below (g := gb103) (o := .cells #[.int .i64 a0_0, .slice (some ad105) l0_1.length c0_1] 37 (0, 0)) (bk BK103) hb); have n1_ := Aside0.mk (below_step (bs HB GE103) hb); clear BK103; clear HB; have BK103 := n0_; have HB := n1_; clear n0_ n1_; (try clear hb)
                     (try clear hb2); (try clear hk)
                     (try clear hi); refine hK.out _ _ ⟨(blk_cell BK103.out 0).trans rfl, (blk_cell BK103.out 1).trans rfl, ((HB.out.cell (World.block_lt_of_cell? w _ hw111_0)).trans hw111_0), ((HB.out.cell (World.block_lt_of_cell? w _ hw112_0)).trans hw112_0)⟩ (fun hHeld => ?_); clear hK K; refine nm 75 ?_; refine pu HT_ 28 76 2 ?_; refine pu HT_ 29 77 1 ?_; refine pu HT_ 30 78 0 ?_; refine done_ (done_of HT_.out (by kernel_rfl)) ?_
                     try go_wp2
                     go_roundg k3
                     case measure => have := HJ1.out; have := HK2.out; have := HK3.out; omega
                     case rel => exact ⟨(wrap64 (x4_3 + 1)), au, H', ⟨by have := HJ1.out; have := HK2.out; have := HK3.out; omega⟩, ⟨bk BK103⟩, ⟨bs HB GE103⟩⟩
                   ·rw [if_neg c27] at H
                    exact absurd H (by simp)
                  ·rw [if_neg c26] at H
                   exact absurd H (by simp)
                 ·rw [if_neg c23] at H
                  have c23b0 : decide (0 < x4_3) = false := decide_eq_false c23; clear c23; have H' := Aside0.mk H; clear H; have hcz38_0 : wr.cell? ⟨gb103, 0, none⟩ = some (.int .i64 a0_0) := (blk_cell BK103.out 0).trans rfl; have hcz38_1 : wr.cell? ⟨gb103, 1, none⟩ = some (.slice (some ad105) l0_1.length c0_1) := (blk_cell BK103.out 1).trans rfl; have hfz38_0 := blk_frozen BK103.out 0; have hfz38_1 := blk_frozen BK103.out 1; have p106 : 0 ≤ (x3_2 : Int) := ode; have q106 : x3_2 < (l0_1.length : Int) := ode; obtain ⟨ad106, A106_0, c106_0, e106, hx106_0, hl106_0, hi106_0⟩ := at_L2 HR0_1.out x3_2 p106 q106; obtain rfl : ad105 = ad106 := (by injection e106); replace hx106_0 := cl HB hx106_0; have HR106_0 := Aside0.mk hi106_0; have HC106_0 := Aside0.mk hl106_0; clear hi106_0 hl106_0; replace p106 := eq_true p106; replace q106 := eq_true q106; have p107 : 0 ≤ (x3_2 : Int) := ode; have q107 : x3_2 < (l0_1.length : Int) := ode; obtain ⟨ad107, A107_0, c107_0, e107, hx107_0, hl107_0, hi107_0⟩ := at_L2 HR0_1.out x3_2 p107 q107; obtain rfl : ad105 = ad107 := (by injection e107); replace hx107_0 := cl HB hx107_0; have HR107_0 := Aside0.mk hi107_0; have HC107_0 := Aside0.mk hl107_0; clear hi107_0 hl107_0; replace p107 := eq_true p107; replace q107 := eq_true q107; have ea_ := Option.some.inj (hx106_0.symm.trans hx107_0)
                  injection ea_ with ea_ en_ ec_
                  subst ea_
                  subst ec_
                  clear en_; have p108 : 0 ≤ (x4_3 : Int) := ode; have q108 : x4_3 < ((rd_L2 l0_1 x3_2).length : Int) := ode; obtain ⟨ad108, e108, hx108_0⟩ := Kd.at_int HR107_0.out x4_3 p108 q108
                  cases e108
                  replace hx108_0 := cl HB hx108_0; replace p108 := eq_true p108; replace q108 := eq_true q108
                  try go_wp2
                  obtain ⟨s0_, s1_⟩ : wr.cell? ⟨gb103, 0, none⟩ = some (.int .i64 a0_0) ∧ wr.cell? ⟨gb103, 1, none⟩ = some (.slice (some ad105) l0_1.length c0_1) := ⟨(blk_cell BK103.out 0).trans rfl, (blk_cell BK103.out 1).trans rfl⟩
                  (try clear hcz12_0); (try clear hcz12_1); (try clear hcz13_0); (try clear hcz13_1); (try clear hcz19_0); (try clear hcz19_1); (try clear hcz38_0); (try clear hcz38_1); (try clear hcz6_0); (try clear hcz6_1); (try clear hcz7_0); (try clear hcz7_1); (try clear hx105_0); (try clear hx106_0); (try clear hx107_0); (try clear hx108_0)
                  go_quiet (((go_at_call 44; (with_reducible refine Calls.quiet_of ((spec_l1In.calls (rd (rd_L2 l0_1 x3_2) x4_3) (wrap64 (-a0_0)) a0_0 true _ A21.out).mono fun _ _ h_ => ⟨h_.1, h_.2.out⟩)))))
                  clear s0_ s1_; have n0_ := Aside0.mk (blk_drewN BK103.out nq); have n1_ := Aside0.mk (pw_below_drewN HB.out nq); clear BK103; clear HB; have BK103 := n0_; have HB := n1_; clear n0_ n1_; generalize wr.drewN nq = w39 at BK103 HB ⊢
                  try go_wp2
                  go_roundg k3
                  case measure => have := HJ1.out; have := HK2.out; have := HK3.out; omega
                  case rel => exact ⟨(wrap64 (x4_3 + 1)), au, H', ⟨by have := HJ1.out; have := HK2.out; have := HK3.out; omega⟩, ⟨bk BK103⟩, ⟨bs HB GE103⟩⟩
                ·replace c22 := Bool.eq_false_iff.mpr c22
                 subst c22
                 have H1 : (some false) = some r := by rw [if_neg (show ¬ (false = true) by decide)] at H; exact H
                 clear H; have H := H1; clear H1; obtain rfl := Option.some.inj H; have hcz40_0 : wr.cell? ⟨gb103, 0, none⟩ = some (.int .i64 a0_0) := (blk_cell BK103.out 0).trans rfl; have hcz40_1 : wr.cell? ⟨gb103, 1, none⟩ = some (.slice (some ad105) l0_1.length c0_1) := (blk_cell BK103.out 1).trans rfl; have hfz40_0 := blk_frozen BK103.out 0; have hfz40_1 := blk_frozen BK103.out 1; have p106 : 0 ≤ (x3_2 : Int) := ode; have q106 : x3_2 < (l0_1.length : Int) := ode; obtain ⟨ad106, A106_0, c106_0, e106, hx106_0, hl106_0, hi106_0⟩ := at_L2 HR0_1.out x3_2 p106 q106; obtain rfl : ad105 = ad106 := (by injection e106); replace hx106_0 := cl HB hx106_0; have HR106_0 := Aside0.mk hi106_0; have HC106_0 := Aside0.mk hl106_0; clear hi106_0 hl106_0; replace p106 := eq_true p106; replace q106 := eq_true q106; have p107 : 0 ≤ (x3_2 : Int) := ode; have q107 : x3_2 < (l0_1.length : Int) := ode; obtain ⟨ad107, A107_0, c107_0, e107, hx107_0, hl107_0, hi107_0⟩ := at_L2 HR0_1.out x3_2 p107 q107; obtain rfl : ad105 = ad107 := (by injection e107); replace hx107_0 := cl HB hx107_0; have HR107_0 := Aside0.mk hi107_0; have HC107_0 := Aside0.mk hl107_0; clear hi107_0 hl107_0; replace p107 := eq_true p107; replace q107 := eq_true q107; have ea_ := Option.some.inj (hx106_0.symm.trans hx107_0)
                 injection ea_ with ea_ en_ ec_
                 subst ea_
                 subst ec_
                 clear en_; have p108 : 0 ≤ (x4_3 : Int) := ode; have q108 : x4_3 < ((rd_L2 l0_1 x3_2).length : Int) := ode; obtain ⟨ad108, e108, hx108_0⟩ := Kd.at_int HR107_0.out x4_3 p108 q108
                 cases e108
                 replace hx108_0 := cl HB hx108_0; replace p108 := eq_true p108; replace q108 := eq_true q108
                 try go_wp2
                 obtain ⟨s0_, s1_⟩ : wr.cell? ⟨gb103, 0, none⟩ = some (.int .i64 a0_0) ∧ wr.cell? ⟨gb103, 1, none⟩ = some (.slice (some ad105) l0_1.length c0_1) := ⟨(blk_cell BK103.out 0).trans rfl, (blk_cell BK103.out 1).trans rfl⟩
                 (try clear hcz12_0); (try clear hcz12_1); (try clear hcz13_0); (try clear hcz13_1); (try clear hcz19_0); (try clear hcz19_1); (try clear hcz40_0); (try clear hcz40_1); (try clear hcz6_0); (try clear hcz6_1); (try clear hcz7_0); (try clear hcz7_1); (try clear hx105_0); (try clear hx106_0); (try clear hx107_0); (try clear hx108_0)
                 go_quiet (((go_at_call 44; (with_reducible refine Calls.quiet_of ((spec_l1In.calls (rd (rd_L2 l0_1 x3_2) x4_3) (wrap64 (-a0_0)) a0_0 false _ A21.out).mono fun _ _ h_ => ⟨h_.1, h_.2.out⟩)))))
                 clear s0_ s1_; have n0_ := Aside0.mk (blk_drewN BK103.out nq); have n1_ := Aside0.mk (pw_below_drewN HB.out nq); clear BK103; clear HB; have BK103 := n0_; have HB := n1_; clear n0_ n1_; generalize wr.drewN nq = w41 at BK103 HB ⊢
                 try go_wp2
                 go_ret
                 exact ⟨by first | rfl | (simp [errW_none, errW_some] <;> rfl) | (simp [*, errW_none, errW_some] <;> rfl), bs HB GE103⟩
              ·rw [if_neg c17] at H
               exact absurd H (by simp)
             ·rw [if_neg c16] at H
              have c16b0 : decide (x4_3 < ((rd_L2 l0_1 x3_2).length : Int)) = false := decide_eq_false c16; clear c16; have H' := Aside0.mk H; clear H; have hcz42_0 : wr.cell? ⟨gb103, 0, none⟩ = some (.int .i64 a0_0) := (blk_cell BK103.out 0).trans rfl; have hcz42_1 : wr.cell? ⟨gb103, 1, none⟩ = some (.slice (some ad105) l0_1.length c0_1) := (blk_cell BK103.out 1).trans rfl; have hfz42_0 := blk_frozen BK103.out 0; have hfz42_1 := blk_frozen BK103.out 1; have p106 : 0 ≤ (x3_2 : Int) := ode; have q106 : x3_2 < (l0_1.length : Int) := ode; obtain ⟨ad106, A106_0, c106_0, e106, hx106_0, hl106_0, hi106_0⟩ := at_L2 HR0_1.out x3_2 p106 q106; obtain rfl : ad105 = ad106 := (by injection e106); replace hx106_0 := cl HB hx106_0; have HR106_0 := Aside0.mk hi106_0; have HC106_0 := Aside0.mk hl106_0; clear hi106_0 hl106_0; replace p106 := eq_true p106; replace q106 := eq_true q106
              go_wp2
              go_roundg k3
              case measure => have := HJ1.out; have := HK2.out; have := HK3.out; omega
              case rel => exact ⟨(wrap64 (x3_2 + 1)), au, H', ⟨by have := HJ1.out; have := HK2.out; have := HK3.out; omega⟩, ⟨bk BK103⟩, ⟨bs HB GE103⟩⟩
            ·rw [if_neg c15] at H
             exact absurd H (by simp)
           ·rw [if_neg c14] at H
            exact absurd H (by simp)
       ·rw [if_neg c10] at H
        exact absurd H (by simp)
      ·rw [if_neg c9] at H
       have c9b0 : decide (x3_2 < (l0_1.length : Int)) = false := decide_eq_false c9; clear c9; obtain rfl := Option.some.inj H; have hcz43_0 : wr.cell? ⟨gb103, 0, none⟩ = some (.int .i64 a0_0) := (blk_cell BK103.out 0).trans rfl; have hcz43_1 : wr.cell? ⟨gb103, 1, none⟩ = some (.slice A0_1 l0_1.length c0_1) := (blk_cell BK103.out 1).trans rfl; have hfz43_0 := blk_frozen BK103.out 0; have hfz43_1 := blk_frozen BK103.out 1
       go_wp2
       go_ret
       exact ⟨by first | rfl | (simp [errW_none, errW_some] <;> rfl) | (simp [*, errW_none, errW_some] <;> rfl), bs HB GE103⟩

end Go.Proofs.Ytpkclocdenagcaa.PFnSettled
