-- Written by a program of this session (a turned copy of the kit's printer); Lean checks it.
-- half the depth
import Derived.Test.YtpkclocdenagcaaPFnExactReadBitsx0
import Derived.Test.YtpkclocdenagcaaPFnExactReadBitsx1
namespace Go.Proofs.Ytpkclocdenagcaa.PFnExactReadBits
open Go.RowKit Go.Proofs.YtpkclocdenagcaaW.PrintWords Go.Proofs.YtpkclocdenagcaaW.PrintLast Go.Proofs.YtpkclocdenagcaaW.PrintMore
attribute [local go_sem] max2_int min2_int max_two min_two max_three min_three max_four min_four   -- for this text's walks alone
set_option linter.unusedVariables false
set_option linter.unusedSimpArgs false

/-! ### spec_ReadBits: function 8 -/
mutual
def spec_ReadBits.j0 : Nat → ByteArray → Bool → Option (Int × List Int × Bool)
 | 0, _, _ => none
 | k + 1, x0, x30 => if x30 = true then (some (0, ([] : List Int), false)) else (spec_ReadBits.l0 k x0 (([] : List Int)) 2)
def spec_ReadBits.l0 : Nat → ByteArray → List Int → Int → Option (Int × List Int × Bool)
 | 0, _, _, _ => none
 | k + 1, x0, x4, x5 => if x5 < (x0.size : Int) then (if 0 ≤ x5 then ((spec_l1Hex.f (bt x0 x5)).bind fun t129 => (if t129 < 0 then (spec_ReadBits.j2 k x0 x4 x5 t129 true) else (if 1 < (x0.size : Int) then (if (bt x0 1) = 98 then (spec_ReadBits.j2 k x0 x4 x5 t129 (decide (t129 > 1))) else (spec_ReadBits.j2 k x0 x4 x5 t129 false)) else (none)))) else (none)) else ((spec_l1Turned.f k x4).bind fun t121 => ((spec_l1From.f k t121).bind fun bt124 => (some (bt124.1, bt124.2.1, bt124.2.2))))
def spec_ReadBits.j2 : Nat → ByteArray → List Int → Int → Int → Bool → Option (Int × List Int × Bool)
 | 0, _, _, _, _, _ => none
 | k + 1, x0, x4, x5, x6, x53 => if x53 = true then (some (0, ([] : List Int), false)) else (if 1 < (x0.size : Int) then (if (bt x0 1) = 98 then (if x4.length < 140737488355328 then (spec_ReadBits.l0 k x0 (x4 ++ [(x6) % 256]) (wrap64 (x5 + 1))) else (none)) else (spec_ReadBits.l1 k x0 x4 x5 x6 3)) else (none))
def spec_ReadBits.l1 : Nat → ByteArray → List Int → Int → Int → Int → Option (Int × List Int × Bool)
 | 0, _, _, _, _, _ => none
 | k + 1, x0, x4, x5, x6, x7 => if x7 ≥ 0 then (if 0 ≤ (IntKind.u64.wrap (x7)) then (if x4.length < 140737488355328 then (spec_ReadBits.l1 k x0 (x4 ++ [(Go.bits .and .i64 (shr .i64 x6 (IntKind.u64.wrap (x7))) 1) % 256]) x5 x6 (wrap64 (x7 - 1))) else (none)) else (none)) else (spec_ReadBits.l0 k x0 x4 (wrap64 (x5 + 1)))
end
def spec_ReadBits.f (k : Nat) (a0 : ByteArray) : Option (Int × List Int × Bool) := if (a0.size : Int) < 3 then (spec_ReadBits.j0 k a0 true) else (if (a0.size : Int) > 4098 then (spec_ReadBits.j0 k a0 true) else (if 0 < (a0.size : Int) then (if (bt a0 0) = 35 then (if 1 < (a0.size : Int) then (if (bt a0 1) = 98 then (spec_ReadBits.j0 k a0 false) else (spec_ReadBits.j0 k a0 ((bt a0 1) != 120))) else (none)) else (spec_ReadBits.j0 k a0 true)) else (none)))
set_option maxHeartbeats 8000000 in
set_option maxRecDepth 100000 in
theorem spec_ReadBits.calls (k : Nat) (a0 : ByteArray) (r1 : Int) (r2 : List Int) (r3 : Bool) (w : World) (h : spec_ReadBits.f k a0 = some (r1, r2, r3)) :
  Calls Try.prog 8 #[.string a0] w fun e w' => ∃ v1_ : Value, e = .returned (.tuple #[.agg #[.int .i64 r1, v1_], .bool r3]) ∧ Kd.R (Kd.int .u64) 66 w' w.heap.size (fun _ => True) v1_ r2 ∧ Below w.heap.size w w' := by
 have hu24 := Try.underlying24; have HB := Aside0.mk (Below.refl w.heap.size w); have H : (if (a0.size : Int) < 3 then (spec_ReadBits.j0 k a0 true) else (if (a0.size : Int) > 4098 then (spec_ReadBits.j0 k a0 true) else (if 0 < (a0.size : Int) then (if (bt a0 0) = 35 then (if 1 < (a0.size : Int) then (if (bt a0 1) = 98 then (spec_ReadBits.j0 k a0 false) else (spec_ReadBits.j0 k a0 ((bt a0 1) != 120))) else (none)) else (spec_ReadBits.j0 k a0 true)) else (none)))) = some (r1, r2, r3) := h; clear h; have HC2 := Aside0.mk H; clear H
 go_enter Try.func8, Try.ntmps8
 go_upto_region 1 with (first | ((with_reducible refine gate_dst (N := 2) rfl ?_); (try (refine gate_guard (by rfl) ?_; dsimp only)); refine be 2 #[.int .i64 0, .slice none 0 0] 24 ?_; intro gb117 hg w3 hbox hb; have n0_ := Aside0.mk (below_step (bl HB) hb); have n1_ := Aside0.mk (hbox); have n2_ := Aside0.mk (gs HB hg); have n3_ := Aside0.mk (gs HB hg); clear HB; have HB := n0_; have BK117 := n1_; have GW117 := n2_; have GE117 := n3_; clear n0_ n1_ n2_ n3_; clear hb hbox hg))
 (try simp only [Act.put, List.setIfInBounds_toArray, List.set_cons_zero, List.set_cons_succ])
 go_cut [30] (fun v30 wc => ∃ (kq : Nat) (x30_1 : Bool), v30 = .bool x30_1 ∧ Aside0 (spec_ReadBits.j0 kq a0 x30_1 = some (r1, r2, r3)) ∧ Aside0 (kq ≤ k) ∧ Aside0 (wc.heap[gb117]? = some (.cells #[.int .i64 0, (.slice none 0 0)] 24 (0, 0))) ∧ Aside0 (Below w.heap.size w wc))
 case first =>
  have H := HC2.out; clear HC2
  by_cases c4 : (a0.size : Int) < 3
  ·rw [if_pos c4] at H
   have c4b0 : decide ((a0.size : Int) < 3) = true := decide_eq_true c4; have c4b1 : decide (a0.size < 3) = true := decide_eq_true (by omega); clear c4
   (first | rw [c4b0] | (simp only [i64_w, i32_w]; rw [c4b0]) | skip)
   have H' := Aside0.mk H; clear H
   go_wp2
   go_meet
   case rel => exact ⟨_, (true), au, H', ⟨by first | omega | exact Nat.le_refl _⟩, ⟨bk BK117⟩, ⟨bs HB GE117⟩⟩
  ·rw [if_neg c4] at H
   have c4b0 : decide ((a0.size : Int) < 3) = false := decide_eq_false c4; have c4b1 : decide (a0.size < 3) = false := decide_eq_false (by omega); clear c4
   (first | rw [c4b0] | (simp only [i64_w, i32_w]; rw [c4b0]) | skip)
   by_cases c5 : (a0.size : Int) > 4098
   ·rw [if_pos c5] at H
    have c5b0 : decide (4098 < (a0.size : Int)) = true := decide_eq_true c5; have c5b1 : decide (4098 < a0.size) = true := decide_eq_true (by omega); clear c5; have H' := Aside0.mk H; clear H
    go_wp2
    go_meet
    case rel => exact ⟨_, (true), au, H', ⟨by first | omega | exact Nat.le_refl _⟩, ⟨bk BK117⟩, ⟨bs HB GE117⟩⟩
   ·rw [if_neg c5] at H
    have c5b0 : decide (4098 < (a0.size : Int)) = false := decide_eq_false c5; have c5b1 : decide (4098 < a0.size) = false := decide_eq_false (by omega); clear c5
    by_cases c6 : 0 < (a0.size : Int)
    ·rw [if_pos c6] at H
     have c6b0 : decide (0 < (a0.size : Int)) = true := decide_eq_true c6; have c6b1 : decide (0 < a0.size) = true := decide_eq_true (by omega); clear c6
     by_cases c8 : (bt a0 0) = 35
     ·rw [if_pos c8] at H
      have c8b0 : ((bt a0 0) == 35) = true := beq_iff_eq.mpr c8; have c8b1 : ((bt a0 0) != 35) = false := bne_eq_false_iff_eq.mpr c8; clear c8
      by_cases c9 : 1 < (a0.size : Int)
      ·rw [if_pos c9] at H
       have c9b0 : decide (1 < (a0.size : Int)) = true := decide_eq_true c9; have c9b1 : decide (1 < a0.size) = true := decide_eq_true (by omega); clear c9
       by_cases c11 : (bt a0 1) = 98
       ·rw [if_pos c11] at H
        have c11b0 : ((bt a0 1) == 98) = true := beq_iff_eq.mpr c11; have c11b1 : ((bt a0 1) != 98) = false := bne_eq_false_iff_eq.mpr c11; clear c11; have H' := Aside0.mk H; clear H; have p7 : 0 ≤ (0 : Int) := (by omega); have q7 : 0 < a0.size := (by have : (0 : Int) < (a0.size : Int) := ode; omega)
        have hx7 : ∀ h : 0 < a0.size, ((a0[0]'h).toNat : Int) = bt a0 0 := bt_at a0 0; clear p7; have qi7 : (0 < (a0.size : Int)) = True := eq_true (ode); replace q7 := eq_true q7; have p10 : 0 ≤ (1 : Int) := (by omega); have q10 : 1 < a0.size := (by have : (1 : Int) < (a0.size : Int) := ode; omega)
        have hx10 : ∀ h : 1 < a0.size, ((a0[1]'h).toNat : Int) = bt a0 1 := bt_at a0 1; clear p10; have qi10 : (1 < (a0.size : Int)) = True := eq_true (ode); replace q10 := eq_true q10
        go_wp2
        go_meet
        case rel => exact ⟨_, (false), au, H', ⟨by first | omega | exact Nat.le_refl _⟩, ⟨bk BK117⟩, ⟨bs HB GE117⟩⟩
       ·rw [if_neg c11] at H
        have c11b0 : ((bt a0 1) == 98) = false := beq_eq_false_iff_ne.mpr c11; have c11b1 : ((bt a0 1) != 98) = true := bne_iff_ne.mpr c11; have H' := Aside0.mk H; clear H; have p7 : 0 ≤ (0 : Int) := (by omega); have q7 : 0 < a0.size := (by have : (0 : Int) < (a0.size : Int) := ode; omega)
        have hx7 : ∀ h : 0 < a0.size, ((a0[0]'h).toNat : Int) = bt a0 0 := bt_at a0 0; clear p7; have qi7 : (0 < (a0.size : Int)) = True := eq_true (ode); replace q7 := eq_true q7; have p10 : 0 ≤ (1 : Int) := (by omega); have q10 : 1 < a0.size := (by have : (1 : Int) < (a0.size : Int) := ode; omega)
        have hx10 : ∀ h : 1 < a0.size, ((a0[1]'h).toNat : Int) = bt a0 1 := bt_at a0 1; clear p10; have qi10 : (1 < (a0.size : Int)) = True := eq_true (ode); replace q10 := eq_true q10; have p12 : 0 ≤ (1 : Int) := (by omega); have q12 : 1 < a0.size := (by have : (1 : Int) < (a0.size : Int) := ode; omega)
        have hx12 : ∀ h : 1 < a0.size, ((a0[1]'h).toNat : Int) = bt a0 1 := bt_at a0 1; clear p12; have qi12 : (1 < (a0.size : Int)) = True := eq_true (ode); replace q12 := eq_true q12
        go_wp2
        go_meet
        case rel => exact ⟨_, (((bt a0 1) != 120)), au, H', ⟨by first | omega | exact Nat.le_refl _⟩, ⟨bk BK117⟩, ⟨bs HB GE117⟩⟩
      ·rw [if_neg c9] at H
       exact absurd H (by simp)
     ·rw [if_neg c8] at H
      have c8b0 : ((bt a0 0) == 35) = false := beq_eq_false_iff_ne.mpr c8; have c8b1 : ((bt a0 0) != 35) = true := bne_iff_ne.mpr c8; have H' := Aside0.mk H; clear H; have p7 : 0 ≤ (0 : Int) := (by omega); have q7 : 0 < a0.size := (by have : (0 : Int) < (a0.size : Int) := ode; omega)
      have hx7 : ∀ h : 0 < a0.size, ((a0[0]'h).toNat : Int) = bt a0 0 := bt_at a0 0; clear p7; have qi7 : (0 < (a0.size : Int)) = True := eq_true (ode); replace q7 := eq_true q7
      go_wp2
      go_meet
      case rel => exact ⟨_, (true), au, H', ⟨by first | omega | exact Nat.le_refl _⟩, ⟨bk BK117⟩, ⟨bs HB GE117⟩⟩
    ·rw [if_neg c6] at H
     exact absurd H (by simp)
 case rest =>
  clear HC2
  try clear c1
  try clear p1
  try clear q1
  try clear hx1
  try clear qi1
  try clear p2
  try clear c4
  try clear c4b0
  try clear c4b1
  try clear c5
  try clear c5b0
  try clear c5b1
  try clear c6
  try clear c6b0
  try clear c6b1
  try clear p7
  try clear q7
  try clear hx7
  try clear qi7
  try clear c8
  try clear c8b0
  try clear c8b1
  try clear c9
  try clear c9b0
  try clear c9b1
  try clear p10
  try clear q10
  try clear hx10
  try clear qi10
  try clear c11
  try clear c11b0
  try clear c11b1
  try clear p12
  try clear q12
  try clear hx12
  try clear qi12
  try clear p10
  try clear p12
  try clear p7
  try clear q10
  try clear q12
  try clear q7
  obtain ⟨kq, x30_1, rfl, HA, HJ1, BK117, HB⟩ := hcut
  cases kq with
  | zero => exact absurd HA.out (by simp [spec_ReadBits.j0])
  | succ kj1 =>
   have H := HA.out; clear HA
   simp only [spec_ReadBits.j0] at H
   by_cases c13 : x30_1 = true
   ·subst c13
    have H1 : (some (0, ([] : List Int), false)) = some (r1, r2, r3) := by rw [if_pos rfl] at H; exact H
    clear H; have H := H1; clear H1
    simp only [Option.some.injEq, Prod.mk.injEq] at H
    obtain ⟨rfl, rfl, rfl⟩ := H; have hcz14_0 : wc.cell? ⟨gb117, 0, none⟩ = some (.int .i64 0) := (blk_cell BK117.out 0).trans rfl; have hcz14_1 : wc.cell? ⟨gb117, 1, none⟩ = some (.slice none 0 0) := (blk_cell BK117.out 1).trans rfl; have hfz14_0 := blk_frozen BK117.out 0; have hfz14_1 := blk_frozen BK117.out 1
    go_wp2
    refine bodyPost_ret (results_ct rfl _ _ gb117 24 #[.int .i64 0, .slice none 0 0] (0, 0) _ rfl (by refine bd ?_; refine blk_put (cs := #[.int .i64 0, .slice none 0 0]) ?_ 1 _ rfl; refine bd ?_; refine blk_put (cs := #[.int .i64 0, .slice none 0 0]) ?_ 0 _ rfl; (with_reducible repeat (first | refine blk_drewN ?_ _ | refine blk_drew ?_ | refine blk_alloc ?_ _)); exact BK117.out) Try.underlying24 rfl (by kernel_rfl)) rfl ?_
    exact ⟨_, by first | rfl | (simp [errW_none, errW_some] <;> rfl) | (simp [*, errW_none, errW_some] <;> rfl), by first | exact Kd.R_nil _ _ _ _ _ | exact Kd.N_nil _ _ _ _ _ | exact Kd.V_nil _ _ _ _ _ | exact Kd.Q_nil _ _ _ _ _ | exact Kd.S_nil _ _ _ _ _, bs HB GE117⟩
   ·replace c13 := Bool.eq_false_iff.mpr c13
    subst c13
    have H1 : (spec_ReadBits.l0 kj1 a0 (([] : List Int)) 2) = some (r1, r2, r3) := by rw [if_neg (show ¬ (false = true) by decide)] at H; exact H
    clear H; have H := H1; clear H1; obtain ⟨y118, hy118⟩ : ∃ y_ : List Int, y_ = (([] : List Int)) := ⟨_, rfl⟩
    replace H : (spec_ReadBits.l0 kj1 a0 y118 2) = some (r1, r2, r3) := by first | (rw [hy118]; with_reducible exact H) | (have H2_ := (Option.bind_some _ _).symm.trans H; rw [hy118]; with_reducible exact H2_) | (have H2_ := (Option.bind_some _ _).symm.trans H; with_reducible exact H2_) | with_reducible exact H | (rw [hy118]; exact H) | exact H
    have Ny118 := Aside0.mk hy118; clear hy118; have H' := Aside0.mk H; clear H
    go_wp2_with (first | ((with_reducible refine gate_dst (N := 32) rfl ?_); (try (refine gate_guard (by rfl) ?_; dsimp only)); refine Kd.R_lit (Kd.int .u8) _ 5 ?hg (N := 32) ?hd (xs := ([] : List Int)) (inner := []) (ok := fun _ => True) (okp := fun _ => True) ?hr ?hp (fun _ hk => hk) trivial (Below.refl _ _) (Nat.le_refl _) (by simp) ?_; (case hd => rfl); (case hg => rfl); (case hr => first | (go_simp; done) | (go_simp; rfl)); (case hp => exact (Reps.none _ _)); intro v119 w15 ho16 hb hg_ hnew_; clear hg_ hnew_; (first | rw [← Ny118.out] at ho16 | (simp only [Int.reduceToNat] at ho16; rw [← Ny118.out] at ho16)); have n0_ := Aside0.mk (Kd.R_lower ho16 (below_size (bs HB GE117))); have n1_ := Aside0.mk (blk_below (g := gb117) (o := .cells #[.int .i64 0, .slice none 0 0] 24 (0, 0)) (bk BK117) hb); have n2_ := Aside0.mk (below_step (bs HB GE117) hb); clear BK117; clear HB; have HO120 := n0_; have BK117 := n1_; have HB := n2_; clear n0_ n1_ n2_; clear hb ho16))
    go_loopg [4, 5] kj1 (fun kq v4 v5 w' => ∃ (x4_2 : List Int) (x5_2 : Int) (x118000_2 : Int), v5 = .int .i64 x5_2 ∧ Aside0 (spec_ReadBits.l0 kq a0 x4_2 x5_2 = some (r1, r2, r3)) ∧ Aside0 (kq ≤ kj1) ∧ Aside0 (Kd.R (Kd.int .u8) 5 w' w.heap.size (fun _ => True) v4 x4_2) ∧ Aside0 (w'.heap[gb117]? = some (.cells #[.int .i64 x118000_2, (.slice none 0 0)] 24 (0, 0))) ∧ Aside0 (Below w.heap.size w w'))
    case atStart => exact ⟨(y118), (2), (0), au, H', ⟨Nat.le_refl _⟩, ⟨rl HO120⟩, ⟨bk BK117⟩, ⟨bs HB GE117⟩⟩
    case round =>
     clear H'
     try clear c1
     try clear p1
     try clear q1
     try clear hx1
     try clear qi1
     try clear p2
     try clear c4
     try clear c4b0
     try clear c4b1
     try clear c5
     try clear c5b0
     try clear c5b1
     try clear c6
     try clear c6b0
     try clear c6b1
     try clear p7
     try clear q7
     try clear hx7
     try clear qi7
     try clear c8
     try clear c8b0
     try clear c8b1
     try clear c9
     try clear c9b0
     try clear c9b1
     try clear p10
     try clear q10
     try clear hx10
     try clear qi10
     try clear c11
     try clear c11b0
     try clear c11b1
     try clear p12
     try clear q12
     try clear hx12
     try clear qi12
     try clear c13
     try clear hcz14_0
     try clear hcz14_1
     try clear hfz14_0
     try clear hfz14_1
     try clear p1
     try clear p10
     try clear p12
     try clear p2
     try clear p7
     try clear q1
     try clear q10
     try clear q12
     try clear q7
     obtain ⟨x4_2, x5_2, x118000_2, rfl, HA, HK2, HO_4, BK117, HB⟩ := hrel
     cases gk with
     | zero => exact absurd HA.out (by simp [spec_ReadBits.l0])
     | succ k2 =>
      have H := HA.out; clear HA
      simp only [spec_ReadBits.l0] at H
      by_cases c17 : x5_2 < (a0.size : Int)
      ·rw [if_pos c17] at H
       have c17b0 : decide (x5_2 < (a0.size : Int)) = true := decide_eq_true c17; clear c17
       by_cases c18 : 0 ≤ x5_2
       ·rw [if_pos c18] at H
        have c18b0 : decide (0 ≤ x5_2) = true := decide_eq_true c18; clear c18; replace H := Option.bind_eq_some_iff.mp H; obtain ⟨t129, A200, H⟩ := H; replace H : (if t129 < 0 then (spec_ReadBits.j2 k2 a0 x4_2 x5_2 t129 true) else (if 1 < (a0.size : Int) then (if (bt a0 1) = 98 then (spec_ReadBits.j2 k2 a0 x4_2 x5_2 t129 (decide (t129 > 1))) else (spec_ReadBits.j2 k2 a0 x4_2 x5_2 t129 false)) else (none))) = some (r1, r2, r3) := H; have A20 := Aside0.mk A200; clear A200; have HC21 := Aside0.mk H; clear H; have p19 : 0 ≤ (x5_2 : Int) := ode; have q19 : x5_2 < (a0.size : Int) := ode; have hx19 := bt_at a0 x5_2; replace p19 := eq_true p19; replace q19 := eq_true q19
        go_upto_region 8 with (first | ((with_reducible refine gate_callee (f := 35) rfl ?_); refine goesL_ (some 42) rfl rfl Try.func35 (by kernel_rfl) rfl #[.int .u8 (bt a0 x5_2)] rfl ma ?_; (with_reducible refine (spec_l1Hex.calls (bt a0 x5_2) t129 _ A20.out).mono ?_); rintro e w' ⟨rfl, ⟨nd, rfl⟩⟩; refine ⟨_, rfl, ?_⟩))
        (try simp only [Act.put, List.setIfInBounds_toArray, List.set_cons_zero, List.set_cons_succ])
        go_cut [53] (fun v53 wc => ∃ (kq : Nat) (x53_20 : Bool), v53 = .bool x53_20 ∧ Aside0 (spec_ReadBits.j2 kq a0 x4_2 x5_2 t129 x53_20 = some (r1, r2, r3)) ∧ Aside0 (kq ≤ k2) ∧ Aside0 (Kd.R (Kd.int .u8) 5 wc w.heap.size (fun _ => True) u4 x4_2) ∧ Aside0 (wc.heap[gb117]? = some (.cells #[.int .i64 x118000_2, (.slice none 0 0)] 24 (0, 0))) ∧ Aside0 (Below w.heap.size w wc))
        case first =>
         have H := HC21.out; clear HC21
         by_cases c22 : t129 < 0
         ·rw [if_pos c22] at H
          have c22b0 : decide (t129 < 0) = true := decide_eq_true c22; clear c22
          (first | rw [c22b0] | (simp only [i64_w, i32_w]; rw [c22b0]) | skip)
          have H' := Aside0.mk H; clear H
          go_wp2
          go_meet
          case rel => exact ⟨_, (true), au, H', ⟨by have := HJ1.out; have := HK2.out; first | omega | exact Nat.le_refl _⟩, ⟨rl HO_4⟩, ⟨bk BK117⟩, ⟨bs HB GE117⟩⟩
         ·rw [if_neg c22] at H
          have c22b0 : decide (t129 < 0) = false := decide_eq_false c22; clear c22
          (first | rw [c22b0] | (simp only [i64_w, i32_w]; rw [c22b0]) | skip)
          by_cases c23 : 1 < (a0.size : Int)
          ·rw [if_pos c23] at H
           have c23b0 : decide (1 < (a0.size : Int)) = true := decide_eq_true c23; have c23b1 : decide (1 < a0.size) = true := decide_eq_true (by omega); clear c23
           by_cases c25 : (bt a0 1) = 98
           ·rw [if_pos c25] at H
            have c25b0 : ((bt a0 1) == 98) = true := beq_iff_eq.mpr c25; have c25b1 : ((bt a0 1) != 98) = false := bne_eq_false_iff_eq.mpr c25; clear c25; have H' := Aside0.mk H; clear H; have p24 : 0 ≤ (1 : Int) := (by omega); have q24 : 1 < a0.size := (by have : (1 : Int) < (a0.size : Int) := ode; omega)
            have hx24 : ∀ h : 1 < a0.size, ((a0[1]'h).toNat : Int) = bt a0 1 := bt_at a0 1; clear p24; have qi24 : (1 < (a0.size : Int)) = True := eq_true (ode); replace q24 := eq_true q24
            go_wp2
            go_meet
            case rel => exact ⟨_, (decide (t129 > 1)), au, H', ⟨by have := HJ1.out; have := HK2.out; first | omega | exact Nat.le_refl _⟩, ⟨rl HO_4⟩, ⟨bk BK117⟩, ⟨bs HB GE117⟩⟩
           ·rw [if_neg c25] at H
            have c25b0 : ((bt a0 1) == 98) = false := beq_eq_false_iff_ne.mpr c25; have c25b1 : ((bt a0 1) != 98) = true := bne_iff_ne.mpr c25; have H' := Aside0.mk H; clear H; have p24 : 0 ≤ (1 : Int) := (by omega); have q24 : 1 < a0.size := (by have : (1 : Int) < (a0.size : Int) := ode; omega)
            have hx24 : ∀ h : 1 < a0.size, ((a0[1]'h).toNat : Int) = bt a0 1 := bt_at a0 1; clear p24; have qi24 : (1 < (a0.size : Int)) = True := eq_true (ode); replace q24 := eq_true q24
            go_wp2
            go_meet
            case rel => exact ⟨_, (false), au, H', ⟨by have := HJ1.out; have := HK2.out; first | omega | exact Nat.le_refl _⟩, ⟨rl HO_4⟩, ⟨bk BK117⟩, ⟨bs HB GE117⟩⟩
          ·rw [if_neg c23] at H
           exact absurd H (by simp)
        case rest =>
         clear HC21
         try clear c1
         try clear p1
         try clear q1
         try clear hx1
         try clear qi1
         try clear c2
         try clear p2
         try clear q2
         try clear hx2
         try clear qi2
         try clear c3
         try clear c4
         try clear c4b0
         try clear c4b1
         try clear c5
         try clear c5b0
         try clear c5b1
         try clear c6
         try clear c6b0
         try clear c6b1
         try clear p7
         try clear q7
         try clear hx7
         try clear qi7
         try clear c8
         try clear c8b0
         try clear c8b1
         try clear c9
         try clear c9b0
         try clear c9b1
         try clear p10
         try clear q10
         try clear hx10
         try clear qi10
         try clear c11
         try clear c11b0
         try clear c11b1
         try clear p12
         try clear q12
         try clear hx12
         try clear qi12
         try clear c13
         try clear c17
         try clear c17b0
         try clear c18
         try clear c18b0
         try clear p19
         try clear q19
         try clear hx19
         try clear c22
         try clear c22b0
         try clear c23
         try clear c23b0
         try clear c23b1
         try clear p24
         try clear q24
         try clear hx24
         try clear qi24
         try clear c25
         try clear c25b0
         try clear c25b1
         try clear hcz14_0
         try clear hcz14_1
         try clear hfz14_0
         try clear hfz14_1
         try clear p1
         try clear p10
         try clear p12
         try clear p19
         try clear p2
         try clear p24
         try clear p7
         try clear q1
         try clear q10
         try clear q12
         try clear q19
         try clear q24
         try clear q7
         obtain ⟨kq, x53_20, rfl, HA, HJ20, HO_4, BK117, HB⟩ := hcut
         cases kq with
         | zero => exact absurd HA.out (by simp [spec_ReadBits.j2])
         | succ kj20 =>
          have H := HA.out; clear HA
          simp only [spec_ReadBits.j2] at H
          by_cases c26 : x53_20 = true
          ·subst c26
           have H1 : (some (0, ([] : List Int), false)) = some (r1, r2, r3) := by rw [if_pos rfl] at H; exact H
           clear H; have H := H1; clear H1
           simp only [Option.some.injEq, Prod.mk.injEq] at H
           obtain ⟨rfl, rfl, rfl⟩ := H; have hcz27_0 : wc.cell? ⟨gb117, 0, none⟩ = some (.int .i64 x118000_2) := (blk_cell BK117.out 0).trans rfl; have hcz27_1 : wc.cell? ⟨gb117, 1, none⟩ = some (.slice none 0 0) := (blk_cell BK117.out 1).trans rfl; have hfz27_0 := blk_frozen BK117.out 0; have hfz27_1 := blk_frozen BK117.out 1
           go_wp2
           refine bodyPost_ret (results_ct rfl _ _ gb117 24 #[.int .i64 0, .slice none 0 0] (0, 0) _ rfl (by refine bd ?_; refine blk_put (cs := #[.int .i64 0, .slice none 0 0]) ?_ 1 _ rfl; refine bd ?_; refine blk_put (cs := #[.int .i64 x118000_2, .slice none 0 0]) ?_ 0 _ rfl; (with_reducible repeat (first | refine blk_drewN ?_ _ | refine blk_drew ?_ | refine blk_alloc ?_ _)); exact BK117.out) Try.underlying24 rfl (by kernel_rfl)) rfl ?_
           exact ⟨_, by first | rfl | (simp [errW_none, errW_some] <;> rfl) | (simp [*, errW_none, errW_some] <;> rfl), by first | exact Kd.R_nil _ _ _ _ _ | exact Kd.N_nil _ _ _ _ _ | exact Kd.V_nil _ _ _ _ _ | exact Kd.Q_nil _ _ _ _ _ | exact Kd.S_nil _ _ _ _ _, bs HB GE117⟩
          ·replace c26 := Bool.eq_false_iff.mpr c26
           subst c26
           have H1 : (if 1 < (a0.size : Int) then (if (bt a0 1) = 98 then (if x4_2.length < 140737488355328 then (spec_ReadBits.l0 kj20 a0 (x4_2 ++ [(t129) % 256]) (wrap64 (x5_2 + 1))) else (none)) else (spec_ReadBits.l1 kj20 a0 x4_2 x5_2 t129 3)) else (none)) = some (r1, r2, r3) := by rw [if_neg (show ¬ (false = true) by decide)] at H; exact H
           clear H; have H := H1; clear H1
           by_cases c28 : 1 < (a0.size : Int)
           ·rw [if_pos c28] at H
            have c28b0 : decide (1 < (a0.size : Int)) = true := decide_eq_true c28; have c28b1 : decide (1 < a0.size) = true := decide_eq_true (by omega); clear c28
            by_cases c30 : (bt a0 1) = 98
            ·rw [if_pos c30] at H
             have c30b0 : ((bt a0 1) == 98) = true := beq_iff_eq.mpr c30; have c30b1 : ((bt a0 1) != 98) = false := bne_eq_false_iff_eq.mpr c30; clear c30
             by_cases c31 : x4_2.length < 140737488355328
             ·rw [if_pos c31] at H
              have LMc31 := Aside0.mk c31; clear c31; obtain ⟨y130, hy130⟩ : ∃ y_ : List Int, y_ = (x4_2 ++ [(t129) % 256]) := ⟨_, rfl⟩
              replace H : (spec_ReadBits.l0 kj20 a0 y130 (wrap64 (x5_2 + 1))) = some (r1, r2, r3) := by first | (rw [hy130]; with_reducible exact H) | (have H2_ := (Option.bind_some _ _).symm.trans H; rw [hy130]; with_reducible exact H2_) | (have H2_ := (Option.bind_some _ _).symm.trans H; with_reducible exact H2_) | with_reducible exact H | (rw [hy130]; exact H) | exact H
              have Ny130 := Aside0.mk hy130; clear hy130; have H' := Aside0.mk H; clear H; have p29 : 0 ≤ (1 : Int) := (by omega); have q29 : 1 < a0.size := (by have : (1 : Int) < (a0.size : Int) := ode; omega)
              have hx29 : ∀ h : 1 < a0.size, ((a0[1]'h).toNat : Int) = bt a0 1 := bt_at a0 1; clear p29; have qi29 : (1 < (a0.size : Int)) = True := eq_true (ode); replace q29 := eq_true q29
              go_wp2_with (first | ((with_reducible refine gate_builtin (b := .append) (xs := #[.tmp 58, .tmp 61]) rfl ?_); (try (refine gate_guard (by rfl) ?_; dsimp only)); at_builtin; refine Kd.R_append (Kd.int .u8) (w0 := w) w.heap.size rfl (.tmp 58) (.tmp 61) 45 5 (.int .u8 0) 1 rfl Try.underlying45 info5 rfl (by decide) (by omega) u4 x4_2 ((t129) % 256) [.int .u8 ((t129) % 256)] (fun _ => True) (fun _ => False) rfl rfl ?aP (fun _ hk => hk.elim) ?aF ?aO ?aB ?aS ?aL ?_; (case aP => exact rfl); (case aB => exact (bs HB GE117)); (case aF => exact (fun _ _ => trivial)); (case aO => exact (rl HO_4)); (case aS => exact (below_size (bs HB GE117))); (case aL => have := LMc31.out; omega); intro v131 w32 ho hb hg hat; rw [← Ny130.out] at ho; have n0_ := Aside0.mk (blk_grown (g := gb117) (o := .cells #[.int .i64 x118000_2, .slice none 0 0] 24 (0, 0)) (bk BK117) hg (Kd.R_ne HO_4.out BK117.out (by decide))); have n1_ := Aside0.mk (hb); have n2_ := Aside0.mk (ho); clear BK117; clear HB; clear HO_4; have BK117 := n0_; have HB := n1_; have HO132 := n2_; clear n0_ n1_ n2_; clear ho hb hg hat))
              go_roundg kj20
              case measure => have := HJ1.out; have := HK2.out; have := HJ20.out; omega
              case rel => exact ⟨(y130), (wrap64 (x5_2 + 1)), (x118000_2), au, H', ⟨by have := HJ1.out; have := HK2.out; have := HJ20.out; omega⟩, ⟨rl HO132⟩, ⟨bk BK117⟩, ⟨bs HB GE117⟩⟩
             ·rw [if_neg c31] at H
              exact absurd H (by simp)
            ·rw [if_neg c30] at H
             have c30b0 : ((bt a0 1) == 98) = false := beq_eq_false_iff_ne.mpr c30; have c30b1 : ((bt a0 1) != 98) = true := bne_iff_ne.mpr c30; have H' := Aside0.mk H; clear H; have p29 : 0 ≤ (1 : Int) := (by omega); have q29 : 1 < a0.size := (by have : (1 : Int) < (a0.size : Int) := ode; omega)
             have hx29 : ∀ h : 1 < a0.size, ((a0[1]'h).toNat : Int) = bt a0 1 := bt_at a0 1; clear p29; have qi29 : (1 < (a0.size : Int)) = True := eq_true (ode); replace q29 := eq_true q29
             go_wp2
             go_loopg [4, 7] kj20 (fun kq v4 v7 w' => ∃ (x4_4 : List Int) (x7_4 : Int), v7 = .int .i64 x7_4 ∧ Aside0 (spec_ReadBits.l1 kq a0 x4_4 x5_2 t129 x7_4 = some (r1, r2, r3)) ∧ Aside0 (kq ≤ kj20) ∧ Aside0 (Kd.R (Kd.int .u8) 5 w' w.heap.size (fun _ => True) v4 x4_4) ∧ Aside0 (w'.heap[gb117]? = some (.cells #[.int .i64 x118000_2, (.slice none 0 0)] 24 (0, 0))) ∧ Aside0 (Below w.heap.size w w'))
             case atStart => exact ⟨(x4_2), (3), au, H', ⟨Nat.le_refl _⟩, ⟨rl HO_4⟩, ⟨bk BK117⟩, ⟨bs HB GE117⟩⟩
             case round =>
              clear H'
              try clear c1
              try clear p1
              try clear q1
              try clear hx1
              try clear qi1
              try clear c2
              try clear p2
              try clear q2
              try clear hx2
              try clear qi2
              try clear c3
              try clear c4
              try clear c4b0
              try clear c4b1
              try clear c5
              try clear c5b0
              try clear c5b1
              try clear c6
              try clear c6b0
              try clear c6b1
              try clear p6
              try clear p7
              try clear q7
              try clear hx7
              try clear qi7
              try clear c8
              try clear c8b0
              try clear c8b1
              try clear c9
              try clear c9b0
              try clear c9b1
              try clear p10
              try clear q10
              try clear hx10
              try clear qi10
              try clear c11
              try clear c11b0
              try clear c11b1
              try clear p12
              try clear q12
              try clear hx12
              try clear qi12
              try clear c13
              try clear c17
              try clear c17b0
              try clear c18
              try clear c18b0
              try clear p19
              try clear q19
              try clear hx19
              try clear c22
              try clear c22b0
              try clear c23
              try clear c23b0
              try clear c23b1
              try clear p24
              try clear q24
              try clear hx24
              try clear qi24
              try clear c25
              try clear c25b0
              try clear c25b1
              try clear c26
              try clear c28
              try clear c28b0
              try clear c28b1
              try clear p29
              try clear q29
              try clear hx29
              try clear qi29
              try clear c30
              try clear c30b0
              try clear c30b1
              try clear c31
              try clear hcz14_0
              try clear hcz14_1
              try clear hcz27_0
              try clear hcz27_1
              try clear hfz14_0
              try clear hfz14_1
              try clear hfz27_0
              try clear hfz27_1
              try clear p1
              try clear p10
              try clear p12
              try clear p19
              try clear p2
              try clear p24
              try clear p29
              try clear p7
              try clear q1
              try clear q10
              try clear q12
              try clear q19
              try clear q2
              try clear q24
              try clear q29
              try clear q7
              obtain ⟨x4_4, x7_4, rfl, HA, HK4, HO_4, BK117, HB⟩ := hrel
              cases gk with
              | zero => exact absurd HA.out (by simp [spec_ReadBits.l1])
              | succ k4 =>
               have H := HA.out; clear HA
               simp only [spec_ReadBits.l1] at H
               by_cases c33 : x7_4 ≥ 0
               ·rw [if_pos c33] at H
                have c33b0 : decide (0 ≤ x7_4) = true := decide_eq_true c33; clear c33; obtain ⟨ji34, hji34⟩ : ∃ j_ : Int, (IntKind.u64.wrap (x7_4)) = j_ := ⟨_, rfl⟩
                replace H : (if 0 ≤ (ji34) then (if x4_4.length < 140737488355328 then (spec_ReadBits.l1 k4 a0 (x4_4 ++ [(Go.bits .and .i64 (shr .i64 t129 (ji34)) 1) % 256]) x5_2 t129 (wrap64 (x7_4 - 1))) else (none)) else (none)) = some (r1, r2, r3) := by first | (rw [hji34] at H; exact H) | (simp only [hji34] at H ⊢; exact H)
                by_cases c35 : 0 ≤ (ji34)
                ·rw [if_pos c35] at H
                 have c35b0 := eq_true c35; have c35b1 : decide (0 ≤ (ji34)) = true := decide_eq_true c35; clear c35; obtain ⟨ji36, hji36⟩ : ∃ j_ : Int, (shr .i64 t129 (ji34)) = j_ := ⟨_, rfl⟩
                 replace H : (if x4_4.length < 140737488355328 then (spec_ReadBits.l1 k4 a0 (x4_4 ++ [(Go.bits .and .i64 (ji36) 1) % 256]) x5_2 t129 (wrap64 (x7_4 - 1))) else (none)) = some (r1, r2, r3) := by first | (rw [hji36] at H; exact H) | (simp only [hji36] at H ⊢; exact H)
                 have hji36_ : (t129 / 2 ^ min (ji34).toNat 64) = ji36 := hji36; have hji36z : (ji34) ≤ 64 → (t129 / 2 ^ (ji34).toNat) = ji36 := shr_small hji36
                 (try have hji36k := hji36z (by first | omega | (rw [← hji34]; exact Int.le_of_lt (Int.tmod_lt_of_pos _ (by decide)))))
                 by_cases c37 : x4_4.length < 140737488355328
                 ·rw [if_pos c37] at H
                  have LMc37 := Aside0.mk c37; clear c37; obtain ⟨y133, hy133⟩ : ∃ y_ : List Int, y_ = (x4_4 ++ [(Go.bits .and .i64 (ji36) 1) % 256]) := ⟨_, rfl⟩
                  replace H : (spec_ReadBits.l1 k4 a0 y133 x5_2 t129 (wrap64 (x7_4 - 1))) = some (r1, r2, r3) := by first | (rw [hy133]; with_reducible exact H) | (have H2_ := (Option.bind_some _ _).symm.trans H; rw [hy133]; with_reducible exact H2_) | (have H2_ := (Option.bind_some _ _).symm.trans H; with_reducible exact H2_) | with_reducible exact H | (rw [hy133]; exact H) | exact H
                  have Ny133 := Aside0.mk hy133; clear hy133; have H' := Aside0.mk H; clear H
                  go_wp2_with (first | ((with_reducible refine gate_builtin (b := .append) (xs := #[.tmp 67, .tmp 74]) rfl ?_); (try (refine gate_guard (by rfl) ?_; dsimp only)); at_builtin; refine Kd.R_append (Kd.int .u8) (w0 := w) w.heap.size rfl (.tmp 67) (.tmp 74) 45 5 (.int .u8 0) 1 rfl Try.underlying45 info5 rfl (by decide) (by omega) u4 x4_4 ((Go.bits .and .i64 (ji36) 1) % 256) [.int .u8 ((Go.bits .and .i64 (ji36) 1) % 256)] (fun _ => True) (fun _ => False) rfl rfl ?aP (fun _ hk => hk.elim) ?aF ?aO ?aB ?aS ?aL ?_; (case aP => exact rfl); (case aB => exact (bs HB GE117)); (case aF => exact (fun _ _ => trivial)); (case aO => exact (rl HO_4)); (case aS => exact (below_size (bs HB GE117))); (case aL => have := LMc37.out; omega); intro v134 w38 ho hb hg hat; rw [← Ny133.out] at ho; have n0_ := Aside0.mk (blk_grown (g := gb117) (o := .cells #[.int .i64 x118000_2, .slice none 0 0] 24 (0, 0)) (bk BK117) hg (Kd.R_ne HO_4.out BK117.out (by decide))); have n1_ := Aside0.mk (hb); have n2_ := Aside0.mk (ho); clear BK117; clear HB; clear HO_4; have BK117 := n0_; have HB := n1_; have HO135 := n2_; clear n0_ n1_ n2_; clear ho hb hg hat))
                  go_roundg k4
                  case measure => have := HJ1.out; have := HK2.out; have := HJ20.out; have := HK4.out; omega
                  case rel => exact ⟨(y133), (wrap64 (x7_4 - 1)), au, H', ⟨by have := HJ1.out; have := HK2.out; have := HJ20.out; have := HK4.out; omega⟩, ⟨rl HO135⟩, ⟨bk BK117⟩, ⟨bs HB GE117⟩⟩
                 ·rw [if_neg c37] at H
                  exact absurd H (by simp)
                ·rw [if_neg c35] at H
                 exact absurd H (by simp)
               ·rw [if_neg c33] at H
                have c33b0 : decide (0 ≤ x7_4) = false := decide_eq_false c33; clear c33; have H' := Aside0.mk H; clear H
                go_wp2
                go_roundg k4
                case measure => have := HJ1.out; have := HK2.out; have := HJ20.out; have := HK4.out; omega
                case rel => exact ⟨(x4_4), (wrap64 (x5_2 + 1)), (x118000_2), au, H', ⟨by have := HJ1.out; have := HK2.out; have := HJ20.out; have := HK4.out; omega⟩, ⟨rl HO_4⟩, ⟨bk BK117⟩, ⟨bs HB GE117⟩⟩
           ·rw [if_neg c28] at H
            exact absurd H (by simp)
       ·rw [if_neg c18] at H
        exact absurd H (by simp)
      ·rw [if_neg c17] at H
       have c17b0 : decide (x5_2 < (a0.size : Int)) = false := decide_eq_false c17; clear c17; replace H := Option.bind_eq_some_iff.mp H; obtain ⟨t121, A390, H⟩ := H; replace H : ((spec_l1From.f k2 t121).bind fun bt124 => (some (bt124.1, bt124.2.1, bt124.2.2))) = some (r1, r2, r3) := H; have A39 := Aside0.mk A390; clear A390; replace H := Option.bind_eq_some_iff.mp H; obtain ⟨⟨t124, t125, t128⟩, A400, H⟩ := H; replace H : (some (t124, t125, t128)) = some (r1, r2, r3) := H; have A40 := Aside0.mk A400; clear A400
       simp only [Option.some.injEq, Prod.mk.injEq] at H
       obtain ⟨rfl, rfl, rfl⟩ := H; obtain ⟨Ao41, co41, eo41⟩ := Kd.R_slice HO_4.out
       subst eo41
       go_wp2_with (first | ((with_reducible refine gate_callee (f := 37) rfl ?_); refine goesL_ (some 77) rfl rfl Try.func37 (by kernel_rfl) rfl #[.slice Ao41 x4_2.length co41] rfl ma ?_; (with_reducible refine (spec_l1Turned.calls k2 _ _ x4_2 t121 _ ?side1 ?side2 A39.out).mono ?_); (case side1 => repeat (first | exact (Kd.R_reads' HO_4.out).2.2 | (with_reducible refine Kd.C_alloc ?_ _) | (with_reducible refine Kd.C_drewN ?_ _) | (with_reducible refine Kd.C_drew ?_))); (case side2 => exact (Kd.R_reads' HO_4.out).2.1); rintro e w42 ⟨v122, rfl, ho0, hb⟩; refine ⟨_, rfl, ?_⟩; have n0_ := Aside0.mk (Kd.R_elder' (rl HO_4) (Kd.R_base ho0) hb); have n1_ := Aside0.mk (Kd.R_lower (Kd.R_new' ho0 (Kd.R_lt (rl HO_4))) (below_size (bs HB GE117))); have n2_ := Aside0.mk (blk_below (g := gb117) (o := .cells #[.int .i64 x118000_2, .slice none 0 0] 24 (0, 0)) (bk BK117) hb); have n3_ := Aside0.mk (below_step (bs HB GE117) hb); clear HO_4; clear BK117; clear HB; have HO_4 := n0_; have HO123 := n1_; have BK117 := n2_; have HB := n3_; clear n0_ n1_ n2_ n3_; (try clear hb); (try clear hb2); (try clear hk); (try clear hi); (try clear ho0); obtain ⟨Ao43, co43, eo43⟩ := Kd.R_slice HO123.out; subst eo43) | ((with_reducible refine gate_callee (f := 36) rfl ?_); refine goesL_ (some 78) rfl rfl Try.func36 (by kernel_rfl) rfl #[.slice Ao43 t121.length co43] rfl ma ?_; (with_reducible refine (spec_l1From.calls k2 _ _ t121 t124 t125 t128 _ ?side1 ?side2 A40.out).mono ?_); (case side1 => repeat (first | exact (Kd.R_reads' HO123.out).2.2 | (with_reducible refine Kd.C_alloc ?_ _) | (with_reducible refine Kd.C_drewN ?_ _) | (with_reducible refine Kd.C_drew ?_))); (case side2 => exact (Kd.R_reads' HO123.out).2.1); rintro e w44 ⟨v126, rfl, ho0, hb⟩; refine ⟨_, rfl, ?_⟩; have n0_ := Aside0.mk (Kd.R_below (rl HO_4) hb); have n1_ := Aside0.mk (Kd.R_below (rl HO123) hb); have n2_ := Aside0.mk (Kd.R_lower ho0 (below_size (bs HB GE117))); have n3_ := Aside0.mk (blk_below (g := gb117) (o := .cells #[.int .i64 x118000_2, .slice none 0 0] 24 (0, 0)) (bk BK117) hb); have n4_ := Aside0.mk (below_step (bs HB GE117) hb); clear HO_4; clear HO123; clear BK117; clear HB; have HO_4 := n0_; have HO123 := n1_; have HO127 := n2_; have BK117 := n3_; have HB := n4_; clear n0_ n1_ n2_ n3_ n4_; (try clear hb); (try clear hb2); (try clear hk); (try clear hi); (try clear ho0); have hcz45_0 : w44.cell? ⟨gb117, 0, none⟩ = some (.int .i64 x118000_2) := (blk_cell BK117.out 0).trans rfl; have hcz45_1 : w44.cell? ⟨gb117, 1, none⟩ = some (.slice none 0 0) := (blk_cell BK117.out 1).trans rfl; have hfz45_0 := blk_frozen BK117.out 0; have hfz45_1 := blk_frozen BK117.out 1; obtain ⟨Ao46, co46, eo46⟩ := Kd.R_slice HO127.out; subst eo46))
       refine bodyPost_ret (results_ct rfl _ _ gb117 24 #[.int .i64 t124, .slice Ao46 t125.length co46] (0, 0) _ rfl (by refine bd ?_; refine blk_put (cs := #[.int .i64 t124, .slice none 0 0]) ?_ 1 _ rfl; refine bd ?_; refine blk_put (cs := #[.int .i64 x118000_2, .slice none 0 0]) ?_ 0 _ rfl; (with_reducible repeat (first | refine blk_drewN ?_ _ | refine blk_drew ?_ | refine blk_alloc ?_ _)); exact BK117.out) Try.underlying24 rfl (by kernel_rfl)) rfl ?_
       exact ⟨_, by first | rfl | (simp [errW_none, errW_some] <;> rfl) | (simp [*, errW_none, errW_some] <;> rfl), by (with_reducible repeat (first | apply Kd.R_alloc | apply Kd.R_drewN | apply Kd.R_drew)); exact Kd.R_mono (Kd.R_far (p := ⟨gb117, 1, none⟩) (Kd.R_far (p := ⟨gb117, 0, none⟩) (Kd.R_types HO127.out BK117.out (by decide)) (fun _ hk => hk.2) (.int .i64 t124)) (fun _ hk => hk.2) (.slice Ao46 t125.length co46)) (fun _ hk => trivial), bs HB GE117⟩

/-! ### impl_wordsFor: function 69 -/
def impl_wordsFor.f (a0 : Int) : Option (Int) := some (wrap64 (Int.tdiv (wrap64 (a0 + 63)) 64))
set_option maxHeartbeats 8000000 in
set_option maxRecDepth 100000 in
theorem impl_wordsFor.calls (a0 : Int) (r : Int) (w : World) (h : impl_wordsFor.f a0 = some r) :
  Calls Try.prog 69 #[.int .i64 a0] w fun e w' => e = .returned (.int .i64 r) ∧ Drawn0 w w' := by
 have H : (some (wrap64 (Int.tdiv (wrap64 (a0 + 63)) 64))) = some r := h; clear h; obtain rfl := Option.some.inj H
 go_enter Try.func69, Try.ntmps69
 go_wp2
 go_ret
 exact ⟨au, dr⟩

/-! ### impl_zeroBits: function 38 -/
def impl_zeroBits.f (a0 : Int) : Option (Int × List Int) := (impl_wordsFor.f a0).bind fun t137 => (if 0 ≤ t137 then (if (t137 : Int).toNat ≤ 35184372088832 then (some (a0, (List.replicate (t137 : Int).toNat 0))) else (none)) else (none))
set_option maxHeartbeats 8000000 in
set_option maxRecDepth 100000 in
theorem impl_zeroBits.calls (a0 : Int) (r1 : Int) (r2 : List Int) (w : World) (h : impl_zeroBits.f a0 = some (r1, r2)) :
  Calls Try.prog 38 #[.int .i64 a0] w fun e w' => ∃ v1_ : Value, e = .returned (.agg #[.int .i64 r1, v1_]) ∧ Kd.R (Kd.int .u64) 66 w' w.heap.size (fun _ => True) v1_ r2 ∧ Below w.heap.size w w' := by
 have hu24 := Try.underlying24; have HB := Aside0.mk (Below.refl w.heap.size w); have H : ((impl_wordsFor.f a0).bind fun t137 => (if 0 ≤ t137 then (if (t137 : Int).toNat ≤ 35184372088832 then (some (a0, (List.replicate (t137 : Int).toNat 0))) else (none)) else (none))) = some (r1, r2) := h; clear h; replace H := Option.bind_eq_some_iff.mp H; obtain ⟨t137, A20, H⟩ := H; replace H : (if 0 ≤ t137 then (if (t137 : Int).toNat ≤ 35184372088832 then (some (a0, (List.replicate (t137 : Int).toNat 0))) else (none)) else (none)) = some (r1, r2) := H; have A2 := Aside0.mk A20; clear A20
 by_cases c3 : 0 ≤ t137
 ·rw [if_pos c3] at H
  have c3b0 := eq_true c3; have c3b1 : decide (0 ≤ t137) = true := decide_eq_true c3; clear c3
  by_cases c4 : (t137 : Int).toNat ≤ 35184372088832
  ·rw [if_pos c4] at H
   have c4b0 := eq_true c4; have c4b1 : decide ((t137 : Int).toNat ≤ 35184372088832) = true := decide_eq_true c4; clear c4; obtain ⟨y138, hy138⟩ : ∃ y_ : List Int, y_ = (List.replicate (t137 : Int).toNat 0) := ⟨_, rfl⟩
   replace H : (some (a0, y138)) = some (r1, r2) := by first | (rw [hy138]; with_reducible exact H) | (have H2_ := (Option.bind_some _ _).symm.trans H; rw [hy138]; with_reducible exact H2_) | (have H2_ := (Option.bind_some _ _).symm.trans H; with_reducible exact H2_) | with_reducible exact H | (rw [hy138]; exact H) | exact H
   have Ny138 := Aside0.mk hy138; clear hy138
   simp only [Option.some.injEq, Prod.mk.injEq] at H
   obtain ⟨rfl, rfl⟩ := H
   go_enter Try.func38, Try.ntmps38
   go_wp2_with (first | ((with_reducible refine gate_dst (N := 2) rfl ?_); refine be 2 #[.int .i64 0, .slice none 0 0] 24 ?_; intro gb136 hg w5 hbox hb; have n0_ := Aside0.mk (below_step (bl HB) hb); have n1_ := Aside0.mk (hbox); have n2_ := Aside0.mk (gs HB hg); have n3_ := Aside0.mk (gs HB hg); clear HB; have HB := n0_; have BK136 := n1_; have GW136 := n2_; have GE136 := n3_; clear n0_ n1_ n2_ n3_; clear hb hbox hg) | ((with_reducible refine gate_callee (f := 69) rfl ?_); refine goesL_ (some 5) rfl rfl Try.func69 (by kernel_rfl) rfl #[.int .i64 a0] rfl ma ?_; (with_reducible refine (impl_wordsFor.calls a0 t137 _ A2.out).mono ?_); rintro e w' ⟨rfl, ⟨nd, rfl⟩⟩; refine ⟨_, rfl, ?_⟩; (try (rw [drewN_self w5]; generalize hq_ : World.drewN w5 _ = w5; have n0_ : Aside0 (w5.heap[gb136]? = some (.cells #[.int .i64 0, .slice none 0 0] 24 (0, 0))) := ⟨by rw [← hq_]; exact (bk BK136)⟩; have n1_ : Aside0 (Below w.heap.size w w5) := ⟨by rw [← hq_]; exact (bs HB GE136)⟩; clear BK136 HB hq_; have BK136 := n0_; have HB := n1_; clear n0_ n1_))) | ((with_reducible refine gate_dst (N := 6) rfl ?_); refine Kd.R_make (Kd.int .u64) _ 66 rfl (N := 6) rfl 22 _ _ rfl t137 rfl rfl Try.underlying22 (.int .u64 0) 8 info66 rfl (by decide) (by omega) 0 (ok := fun _ => True) (okp := fun _ => True) rfl (fun _ hk => hk) trivial (ode) (Nat.le_trans (Nat.mul_le_mul_right _ (ode : t137.toNat ≤ 35184372088832)) (by omega)) (Below.refl _ _) (Nat.le_refl _) ?_; intro v139 w6 ho7 hb hg_ hnew_; clear hg_ hnew_; (first | rw [← Ny138.out] at ho7 | (simp only [Int.reduceToNat] at ho7; rw [← Ny138.out] at ho7)); have n0_ := Aside0.mk (Kd.R_lower ho7 (below_size (bs HB GE136))); have n1_ := Aside0.mk (blk_below (g := gb136) (o := .cells #[.int .i64 0, .slice none 0 0] 24 (0, 0)) (bk BK136) hb); have n2_ := Aside0.mk (below_step (bs HB GE136) hb); clear BK136; clear HB; have HO140 := n0_; have BK136 := n1_; have HB := n2_; clear n0_ n1_ n2_; clear hb ho7; obtain ⟨Ao8, co8, eo8⟩ := Kd.R_slice HO140.out; subst eo8; have hcz9_0 : w6.cell? ⟨gb136, 0, none⟩ = some (.int .i64 0) := (blk_cell BK136.out 0).trans rfl; have hcz9_1 : w6.cell? ⟨gb136, 1, none⟩ = some (.slice none 0 0) := (blk_cell BK136.out 1).trans rfl; have hfz9_0 := blk_frozen BK136.out 0; have hfz9_1 := blk_frozen BK136.out 1))
   refine bodyPost_ret (results_cell_row rfl _ _ gb136 24 #[.int .i64 a0, .slice Ao8 y138.length co8] (0, 0) _ rfl (by refine bd ?_; refine blk_put (cs := #[.int .i64 a0, .slice none 0 0]) ?_ 1 _ rfl; refine bd ?_; refine blk_put (cs := #[.int .i64 0, .slice none 0 0]) ?_ 0 _ rfl; (with_reducible repeat (first | refine blk_drewN ?_ _ | refine blk_drew ?_ | refine blk_alloc ?_ _)); exact BK136.out) Try.underlying24 rfl (by kernel_rfl)) rfl ?_
   exact ⟨_, by first | rfl | (simp [errW_none, errW_some] <;> rfl) | (simp [*, errW_none, errW_some] <;> rfl), by (with_reducible repeat (first | apply Kd.R_alloc | apply Kd.R_drewN | apply Kd.R_drew)); exact Kd.R_mono (Kd.R_far (p := ⟨gb136, 1, none⟩) (Kd.R_far (p := ⟨gb136, 0, none⟩) (Kd.R_types HO140.out BK136.out (by decide)) (fun _ hk => hk.2) (.int .i64 a0)) (fun _ hk => hk.2) (.slice Ao8 y138.length co8)) (fun _ hk => trivial), bs HB GE136⟩
  ·rw [if_neg c4] at H
   exact absurd H (by simp)
 ·rw [if_neg c3] at H
  exact absurd H (by simp)

-- NOT PRINTED: function 82 (bytealg_IndexByteString)

-- NOT PRINTED: function 70 (stringslite_IndexByte)

-- NOT PRINTED: function 39 (strings_IndexByte)

end Go.Proofs.Ytpkclocdenagcaa.PFnExactReadBits
