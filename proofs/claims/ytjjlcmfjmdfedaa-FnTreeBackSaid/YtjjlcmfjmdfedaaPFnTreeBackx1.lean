-- Written by a program of this session (a turned copy of the kit's printer); Lean checks it.
-- half the depth
import Derived.Test.YtjjlcmfjmdfedaaPFnTreeBackx0
namespace Go.Proofs.Ytjjlcmfjmdfedaa.PFnTreeBack
open Go.RowKit Go.Proofs.YtjjlcmfjmdfedaaW.PrintWords Go.Proofs.YtjjlcmfjmdfedaaW.PrintLast Go.Proofs.YtjjlcmfjmdfedaaW.PrintMore
attribute [local go_sem] max2_int min2_int max_two min_two max_three min_three max_four min_four   -- for this text's walks alone
set_option linter.unusedVariables false
set_option linter.unusedSimpArgs false

/-! ### spec_l2Atom: function 48 -/
def spec_l2Atom.l0 : Nat → ByteArray → Int → Option (Bool)
 | 0, _, _ => none
 | k + 1, x0, x3 => if x3 < (x0.size : Int) then (if 0 ≤ x3 then (if (bt x0 x3) < 33 then (some false) else (if (bt x0 x3) > 126 then (some false) else (if (bt x0 x3) = 40 then (some false) else (if (bt x0 x3) = 41 then (some false) else (if (bt x0 x3) = 59 then (some false) else (spec_l2Atom.l0 k x0 (wrap64 (x3 + 1)))))))) else (none)) else (some (decide ((x0.size : Int) > 0)))
def spec_l2Atom.f (k : Nat) (a0 : ByteArray) : Option (Bool) := spec_l2Atom.l0 k a0 0
set_option maxHeartbeats 8000000 in
set_option maxRecDepth 100000 in
theorem spec_l2Atom.calls (k : Nat) (a0 : ByteArray) (r : Bool) (w : World) (h : spec_l2Atom.f k a0 = some r) :
  Calls Try.prog 48 #[.string a0] w fun e w' => e = .returned (.bool r) ∧ Drawn0 w w' := by
 have H : (spec_l2Atom.l0 k a0 0) = some r := h; clear h; have H' := Aside0.mk H; clear H
 go_enter Try.func48, Try.ntmps48
 go_wp2
 go_loopg [3] k (fun kq v3 w' => ∃ (x3_1 : Int), v3 = .int .i64 x3_1 ∧ Aside0 (spec_l2Atom.l0 kq a0 x3_1 = some r) ∧ Aside0 (kq ≤ k) ∧ Drawn0 w w')
 case atStart => exact ⟨(0), au, H', ⟨Nat.le_refl _⟩, dr⟩
 case round =>
  clear H'; obtain ⟨x3_1, rfl, HA, HK1, ⟨m1, rfl⟩⟩ := hrel
  cases gk with
  | zero => exact absurd HA.out (by simp [spec_l2Atom.l0])
  | succ k1 =>
   have H := HA.out; clear HA
   simp only [spec_l2Atom.l0] at H
   by_cases c2 : x3_1 < (a0.size : Int)
   ·rw [if_pos c2] at H
    have c2b0 : decide (x3_1 < (a0.size : Int)) = true := decide_eq_true c2; clear c2
    by_cases c3 : 0 ≤ x3_1
    ·rw [if_pos c3] at H
     have c3b0 : decide (0 ≤ x3_1) = true := decide_eq_true c3; clear c3
     by_cases c5 : (bt a0 x3_1) < 33
     ·rw [if_pos c5] at H
      have c5b0 : decide ((bt a0 x3_1) < 33) = true := decide_eq_true c5; clear c5; obtain rfl := Option.some.inj H; have p4 : 0 ≤ (x3_1 : Int) := ode; have q4 : x3_1 < (a0.size : Int) := ode; have hx4 := bt_at a0 x3_1; replace p4 := eq_true p4; replace q4 := eq_true q4
      go_wp2
      go_ret
      exact ⟨au, dr⟩
     ·rw [if_neg c5] at H
      have c5b0 : decide ((bt a0 x3_1) < 33) = false := decide_eq_false c5; clear c5
      by_cases c7 : (bt a0 x3_1) > 126
      ·rw [if_pos c7] at H
       have c7b0 : decide (126 < (bt a0 x3_1)) = true := decide_eq_true c7; clear c7; obtain rfl := Option.some.inj H; have p4 : 0 ≤ (x3_1 : Int) := ode; have q4 : x3_1 < (a0.size : Int) := ode; have hx4 := bt_at a0 x3_1; replace p4 := eq_true p4; replace q4 := eq_true q4; have p6 : 0 ≤ (x3_1 : Int) := ode; have q6 : x3_1 < (a0.size : Int) := ode; have hx6 := bt_at a0 x3_1; replace p6 := eq_true p6; replace q6 := eq_true q6
       go_wp2
       go_ret
       exact ⟨au, dr⟩
      ·rw [if_neg c7] at H
       have c7b0 : decide (126 < (bt a0 x3_1)) = false := decide_eq_false c7; clear c7
       by_cases c9 : (bt a0 x3_1) = 40
       ·rw [if_pos c9] at H
        have c9b0 : ((bt a0 x3_1) == 40) = true := beq_iff_eq.mpr c9; have c9b1 : ((bt a0 x3_1) != 40) = false := bne_eq_false_iff_eq.mpr c9; clear c9; obtain rfl := Option.some.inj H; have p4 : 0 ≤ (x3_1 : Int) := ode; have q4 : x3_1 < (a0.size : Int) := ode; have hx4 := bt_at a0 x3_1; replace p4 := eq_true p4; replace q4 := eq_true q4; have p6 : 0 ≤ (x3_1 : Int) := ode; have q6 : x3_1 < (a0.size : Int) := ode; have hx6 := bt_at a0 x3_1; replace p6 := eq_true p6; replace q6 := eq_true q6; have p8 : 0 ≤ (x3_1 : Int) := ode; have q8 : x3_1 < (a0.size : Int) := ode; have hx8 := bt_at a0 x3_1; replace p8 := eq_true p8; replace q8 := eq_true q8
        go_wp2
        go_ret
        exact ⟨au, dr⟩
       ·rw [if_neg c9] at H
        have c9b0 : ((bt a0 x3_1) == 40) = false := beq_eq_false_iff_ne.mpr c9; have c9b1 : ((bt a0 x3_1) != 40) = true := bne_iff_ne.mpr c9
        by_cases c11 : (bt a0 x3_1) = 41
        ·rw [if_pos c11] at H
         have c11b0 : ((bt a0 x3_1) == 41) = true := beq_iff_eq.mpr c11; have c11b1 : ((bt a0 x3_1) != 41) = false := bne_eq_false_iff_eq.mpr c11; clear c11; obtain rfl := Option.some.inj H; have p4 : 0 ≤ (x3_1 : Int) := ode; have q4 : x3_1 < (a0.size : Int) := ode; have hx4 := bt_at a0 x3_1; replace p4 := eq_true p4; replace q4 := eq_true q4; have p6 : 0 ≤ (x3_1 : Int) := ode; have q6 : x3_1 < (a0.size : Int) := ode; have hx6 := bt_at a0 x3_1; replace p6 := eq_true p6; replace q6 := eq_true q6; have p8 : 0 ≤ (x3_1 : Int) := ode; have q8 : x3_1 < (a0.size : Int) := ode; have hx8 := bt_at a0 x3_1; replace p8 := eq_true p8; replace q8 := eq_true q8; have p10 : 0 ≤ (x3_1 : Int) := ode; have q10 : x3_1 < (a0.size : Int) := ode; have hx10 := bt_at a0 x3_1; replace p10 := eq_true p10; replace q10 := eq_true q10
         go_wp2
         go_ret
         exact ⟨au, dr⟩
        ·rw [if_neg c11] at H
         have c11b0 : ((bt a0 x3_1) == 41) = false := beq_eq_false_iff_ne.mpr c11; have c11b1 : ((bt a0 x3_1) != 41) = true := bne_iff_ne.mpr c11
         by_cases c13 : (bt a0 x3_1) = 59
         ·rw [if_pos c13] at H
          have c13b0 : ((bt a0 x3_1) == 59) = true := beq_iff_eq.mpr c13; have c13b1 : ((bt a0 x3_1) != 59) = false := bne_eq_false_iff_eq.mpr c13; clear c13; obtain rfl := Option.some.inj H; have p4 : 0 ≤ (x3_1 : Int) := ode; have q4 : x3_1 < (a0.size : Int) := ode; have hx4 := bt_at a0 x3_1; replace p4 := eq_true p4; replace q4 := eq_true q4; have p6 : 0 ≤ (x3_1 : Int) := ode; have q6 : x3_1 < (a0.size : Int) := ode; have hx6 := bt_at a0 x3_1; replace p6 := eq_true p6; replace q6 := eq_true q6; have p8 : 0 ≤ (x3_1 : Int) := ode; have q8 : x3_1 < (a0.size : Int) := ode; have hx8 := bt_at a0 x3_1; replace p8 := eq_true p8; replace q8 := eq_true q8; have p10 : 0 ≤ (x3_1 : Int) := ode; have q10 : x3_1 < (a0.size : Int) := ode; have hx10 := bt_at a0 x3_1; replace p10 := eq_true p10; replace q10 := eq_true q10; have p12 : 0 ≤ (x3_1 : Int) := ode; have q12 : x3_1 < (a0.size : Int) := ode; have hx12 := bt_at a0 x3_1; replace p12 := eq_true p12; replace q12 := eq_true q12
          go_wp2
          go_ret
          exact ⟨au, dr⟩
         ·rw [if_neg c13] at H
          have c13b0 : ((bt a0 x3_1) == 59) = false := beq_eq_false_iff_ne.mpr c13; have c13b1 : ((bt a0 x3_1) != 59) = true := bne_iff_ne.mpr c13; have H' := Aside0.mk H; clear H; have p4 : 0 ≤ (x3_1 : Int) := ode; have q4 : x3_1 < (a0.size : Int) := ode; have hx4 := bt_at a0 x3_1; replace p4 := eq_true p4; replace q4 := eq_true q4; have p6 : 0 ≤ (x3_1 : Int) := ode; have q6 : x3_1 < (a0.size : Int) := ode; have hx6 := bt_at a0 x3_1; replace p6 := eq_true p6; replace q6 := eq_true q6; have p8 : 0 ≤ (x3_1 : Int) := ode; have q8 : x3_1 < (a0.size : Int) := ode; have hx8 := bt_at a0 x3_1; replace p8 := eq_true p8; replace q8 := eq_true q8; have p10 : 0 ≤ (x3_1 : Int) := ode; have q10 : x3_1 < (a0.size : Int) := ode; have hx10 := bt_at a0 x3_1; replace p10 := eq_true p10; replace q10 := eq_true q10; have p12 : 0 ≤ (x3_1 : Int) := ode; have q12 : x3_1 < (a0.size : Int) := ode; have hx12 := bt_at a0 x3_1; replace p12 := eq_true p12; replace q12 := eq_true q12
          go_wp2
          go_roundg k1
          case measure => have := HK1.out; omega
          case rel => exact ⟨(wrap64 (x3_1 + 1)), au, H', ⟨by have := HK1.out; omega⟩, dr⟩
    ·rw [if_neg c3] at H
     exact absurd H (by simp)
   ·rw [if_neg c2] at H
    have c2b0 : decide (x3_1 < (a0.size : Int)) = false := decide_eq_false c2; clear c2; obtain rfl := Option.some.inj H
    go_wp2
    go_ret
    exact ⟨au, dr⟩

/-! ### spec_l2Walk: function 43 -/
mutual
def spec_l2Walk.j0 : Nat → Int → Int → Bool → List (S66) → ByteArray → List Int → Option (Int)
 | 0, _, _, _, _, _, _ => none
 | k + 1, x1, x2, x33, x102000, x104000, x104001 => if x33 = true then (some (-1)) else (spec_l2Walk.l0 k x2 (wrap64 (x1 + 1)) 0 x102000 x104000 x104001)
def spec_l2Walk.l0 : Nat → Int → Int → Int → List (S66) → ByteArray → List Int → Option (Int)
 | 0, _, _, _, _, _, _ => none
 | k + 1, x2, x8, x9, x102000, x104000, x104001 => if x9 < (x104001.length : Int) then (if 0 ≤ x9 then (if (rd x104001 x9) = x8 then (spec_l2Walk.j2 k x2 x8 x9 (decide (x8 ≥ (x102000.length : Int))) x102000 x104000 x104001) else (spec_l2Walk.j2 k x2 x8 x9 true x102000 x104000 x104001)) else (none)) else (some x8)
def spec_l2Walk.j2 : Nat → Int → Int → Int → Bool → List (S66) → ByteArray → List Int → Option (Int)
 | 0, _, _, _, _, _, _, _ => none
 | k + 1, x2, x8, x9, x56, x102000, x104000, x104001 => if x56 = true then (some (-1)) else ((spec_l2Walk.f k x102000 x8 (wrap64 (x2 + 1))).bind fun t106 => (if t106 < 0 then (some (-1)) else (spec_l2Walk.l0 k x2 t106 (wrap64 (x9 + 1)) x102000 x104000 x104001)))
def spec_l2Walk.f : Nat → List (S66) → Int → Int → Option (Int)
 | 0, _, _, _ => none
 | k + 1, l0_0, a1, a2 => if 0 ≤ a1 then (if a1 < (l0_0.length : Int) then (if a2 > 100 then (spec_l2Walk.j0 k a1 a2 true l0_0 ((rd_T66 l0_0 a1).f0) ((rd_T66 l0_0 a1).f1)) else (if ((rd_T66 l0_0 a1).f0).toList = ([] : List UInt8) then (spec_l2Walk.j0 k a1 a2 false l0_0 ((rd_T66 l0_0 a1).f0) ((rd_T66 l0_0 a1).f1)) else ((spec_l2Atom.f k ((rd_T66 l0_0 a1).f0)).bind fun t104 => (if t104 = true then (spec_l2Walk.j0 k a1 a2 (decide ((((rd_T66 l0_0 a1).f1).length : Int) > 0)) l0_0 ((rd_T66 l0_0 a1).f0) ((rd_T66 l0_0 a1).f1)) else (spec_l2Walk.j0 k a1 a2 true l0_0 ((rd_T66 l0_0 a1).f0) ((rd_T66 l0_0 a1).f1)))))) else (none)) else (none)
end
set_option maxHeartbeats 8000000 in
set_option maxRecDepth 100000 in
theorem spec_l2Walk.calls (k : Nat) : ∀ (A0_0 : Option Addr) (c0_0 : Nat) (l0_0 : List (S66)) (a1 : Int) (a2 : Int) (r : Int) (w : World) (hr0_0 : Kd.C k66 w A0_0 l0_0.length l0_0) (hc0_0 : l0_0.length ≤ c0_0) (h : spec_l2Walk.f k l0_0 a1 a2 = some r),
  Calls Try.prog 43 #[.agg #[.slice A0_0 l0_0.length c0_0], .int .i64 a1, .int .i64 a2] w fun e w' => e = .returned (.int .i64 r) ∧ Below w.heap.size w w' := by
 induction k using Nat.strongRecOn with
 | _ k ih =>
 intro A0_0 c0_0 l0_0 a1 a2 r w hr0_0 hc0_0 h
 cases k with
 | zero => exact absurd h (by simp [spec_l2Walk.f])
 | succ k =>
 simp only [spec_l2Walk.f] at h
 have hu29 := Try.underlying29; have hu66 := Try.underlying66; have HR0_0 := Aside0.mk hr0_0; have HC0_0 := Aside0.mk hc0_0; clear hr0_0 hc0_0; have HB := Aside0.mk (Below.refl w.heap.size w); have H : (if 0 ≤ a1 then (if a1 < (l0_0.length : Int) then (if a2 > 100 then (spec_l2Walk.j0 k a1 a2 true l0_0 ((rd_T66 l0_0 a1).f0) ((rd_T66 l0_0 a1).f1)) else (if ((rd_T66 l0_0 a1).f0).toList = ([] : List UInt8) then (spec_l2Walk.j0 k a1 a2 false l0_0 ((rd_T66 l0_0 a1).f0) ((rd_T66 l0_0 a1).f1)) else ((spec_l2Atom.f k ((rd_T66 l0_0 a1).f0)).bind fun t104 => (if t104 = true then (spec_l2Walk.j0 k a1 a2 (decide ((((rd_T66 l0_0 a1).f1).length : Int) > 0)) l0_0 ((rd_T66 l0_0 a1).f0) ((rd_T66 l0_0 a1).f1)) else (spec_l2Walk.j0 k a1 a2 true l0_0 ((rd_T66 l0_0 a1).f0) ((rd_T66 l0_0 a1).f1)))))) else (none)) else (none)) = some r := h; clear h
 by_cases c4 : 0 ≤ a1
 ·rw [if_pos c4] at H
  have c4b0 : decide (0 ≤ a1) = true := decide_eq_true c4; clear c4
  by_cases c5 : a1 < (l0_0.length : Int)
  ·rw [if_pos c5] at H
   have c5b0 : decide (a1 < (l0_0.length : Int)) = true := decide_eq_true c5; clear c5; have HC6 := Aside0.mk H; clear H
   go_enter Try.func43, Try.ntmps43
   go_upto_region 2 with (first | ((with_reducible refine gate_dst (N := 3) rfl ?_); (try (refine gate_guard (by rfl) ?_; dsimp only)); refine be 3 #[.slice A0_0 l0_0.length c0_0] 29 ?_; intro gb101 hg w7 hbox hb; have n0_ := Aside0.mk (below_step (bl HB) hb); have n1_ := Aside0.mk (hbox); have n2_ := Aside0.mk (gs HB hg); have n3_ := Aside0.mk (gs HB hg); clear HB; have HB := n0_; have BK101 := n1_; have GW101 := n2_; have GE101 := n3_; clear n0_ n1_ n2_ n3_; clear hb hbox hg; have hcz8_0 : w7.cell? ⟨gb101, 0, none⟩ = some (.slice A0_0 l0_0.length c0_0) := (blk_cell BK101.out 0).trans rfl; have hfz8_0 := blk_frozen BK101.out 0; have p102 : 0 ≤ (a1 : Int) := ode; have q102 : a1 < (l0_0.length : Int) := ode; obtain ⟨ad102, A102_1, c102_1, e102, hx102_0, hx102_1, hl102_1, hi102_1⟩ := at_T66 HR0_0.out a1 p102 q102; cases e102; replace hx102_0 := cl HB hx102_0; replace hx102_1 := cl HB hx102_1; have HR102_1 := Aside0.mk hi102_1; have HC102_1 := Aside0.mk hl102_1; clear hi102_1 hl102_1; replace p102 := eq_true p102; replace q102 := eq_true q102) | ((with_reducible refine gate_dst (N := 7) rfl ?_); (try (refine gate_guard (by rfl) ?_; dsimp only)); refine be 7 #[.string (⟨#[]⟩ : ByteArray), .slice none 0 0] 66 ?_; intro gb103 hg w9 hbox hb; have n0_ := Aside0.mk (blk_below (g := gb101) (o := .cells #[.slice (some ad102) l0_0.length c0_0] 29 (0, 0)) (bk BK101) hb); have n1_ := Aside0.mk (below_step (bs HB GE101) hb); have n2_ := Aside0.mk (hbox); have n3_ := Aside0.mk ((by rw [hg]; exact (below_size (bs HB GE101)) : w.heap.size ≤ gb103)); have n4_ := Aside0.mk ((by rw [hg]; exact (below_size (bs HB GE101)) : w.heap.size ≤ gb103)); have n5_ := Aside0.mk ((by rw [hg]; exact Nat.ne_of_lt (blk_lt (g := gb101) (o := .cells #[.slice (some ad102) l0_0.length c0_0] 29 (0, 0)) (bk BK101)) : gb101 ≠ gb103)); have n6_ := Aside0.mk ((by rw [hg]; exact Nat.ne_of_gt (blk_lt (g := gb101) (o := .cells #[.slice (some ad102) l0_0.length c0_0] 29 (0, 0)) (bk BK101)) : gb103 ≠ gb101)); clear BK101; clear HB; have BK101 := n0_; have HB := n1_; have BK103 := n2_; have GW103 := n3_; have GE103 := n4_; have NB101_103 := n5_; have NB103_101 := n6_; clear n0_ n1_ n2_ n3_ n4_ n5_ n6_; clear hb hbox hg; have hnb10 := NB103_101.out; have hnc10 := NB101_103.out; have hcz11_0 : w9.cell? ⟨gb103, 0, none⟩ = some (.string (⟨#[]⟩ : ByteArray)) := (blk_cell BK103.out 0).trans rfl; have hcz11_1 : w9.cell? ⟨gb103, 1, none⟩ = some (.slice none 0 0) := (blk_cell BK103.out 1).trans rfl; have hfz11_0 := blk_frozen BK103.out 0; have hfz11_1 := blk_frozen BK103.out 1))
   (try simp only [Act.put, List.setIfInBounds_toArray, List.set_cons_zero, List.set_cons_succ])
   go_cut [33] (fun v33 wc => ∃ (kq : Nat) (x33_5 : Bool), v33 = .bool x33_5 ∧ Aside0 (spec_l2Walk.j0 kq a1 a2 x33_5 l0_0 ((rd_T66 l0_0 a1).f0) ((rd_T66 l0_0 a1).f1) = some r) ∧ Aside0 (kq ≤ k) ∧ Aside0 (wc.heap[gb101]? = some (.cells #[(.slice (some ad102) l0_0.length c0_0)] 29 (0, 0))) ∧ Aside0 (wc.heap[gb103]? = some (.cells #[.string ((rd_T66 l0_0 a1).f0), (.slice A102_1 ((rd_T66 l0_0 a1).f1).length c102_1)] 66 (0, 0))) ∧ Aside0 (Below w.heap.size w wc))
   case first =>
    have H := HC6.out; clear HC6
    by_cases c12 : a2 > 100
    ·rw [if_pos c12] at H
     have c12b0 : decide (100 < a2) = true := decide_eq_true c12; clear c12
     (first | rw [c12b0] | (simp only [i64_w, i32_w]; rw [c12b0]) | skip)
     have H' := Aside0.mk H; clear H
     go_wp2
     go_meet
     case rel => exact ⟨_, (true), au, H', ⟨by first | omega | exact Nat.le_refl _⟩, ⟨by (with_reducible repeat (first | refine blk_drewN ?_ _ | refine blk_drew ?_ | refine blk_alloc ?_ _)); refine blk_far ?_ NB101_103.out _; (with_reducible repeat (first | refine blk_drewN ?_ _ | refine blk_drew ?_ | refine blk_alloc ?_ _)); refine blk_far ?_ NB101_103.out _; (with_reducible repeat (first | refine blk_drewN ?_ _ | refine blk_drew ?_ | refine blk_alloc ?_ _)); exact BK101.out⟩, ⟨by refine bd ?_; refine blk_put (cs := #[.string ((rd_T66 l0_0 a1).f0), .slice none 0 0]) ?_ 1 _ rfl; refine bd ?_; refine blk_put (cs := #[.string (⟨#[]⟩ : ByteArray), .slice none 0 0]) ?_ 0 _ rfl; (with_reducible repeat (first | refine blk_drewN ?_ _ | refine blk_drew ?_ | refine blk_alloc ?_ _)); exact BK103.out⟩, ⟨bs2 HB GE101 GE103⟩⟩
    ·rw [if_neg c12] at H
     have c12b0 : decide (100 < a2) = false := decide_eq_false c12; clear c12
     (first | rw [c12b0] | (simp only [i64_w, i32_w]; rw [c12b0]) | skip)
     by_cases c13 : ((rd_T66 l0_0 a1).f0).toList = ([] : List UInt8)
     ·rw [if_pos c13] at H
      have c13b0 : (((rd_T66 l0_0 a1).f0).toList == ([] : List UInt8)) = true := beq_iff_eq.mpr c13; have c13b1 : (((rd_T66 l0_0 a1).f0).toList != ([] : List UInt8)) = false := bne_eq_false_iff_eq.mpr c13; clear c13; have H' := Aside0.mk H; clear H; have hnb14 := NB103_101.out; have hnc14 := NB101_103.out; have hcz15_0 : w9.cell? ⟨gb103, 0, none⟩ = some (.string (⟨#[]⟩ : ByteArray)) := (blk_cell BK103.out 0).trans rfl; have hcz15_1 : w9.cell? ⟨gb103, 1, none⟩ = some (.slice none 0 0) := (blk_cell BK103.out 1).trans rfl; have hfz15_0 := blk_frozen BK103.out 0; have hfz15_1 := blk_frozen BK103.out 1
      go_wp2
      go_meet
      case rel => exact ⟨_, (false), au, H', ⟨by first | omega | exact Nat.le_refl _⟩, ⟨by (with_reducible repeat (first | refine blk_drewN ?_ _ | refine blk_drew ?_ | refine blk_alloc ?_ _)); refine blk_far ?_ NB101_103.out _; (with_reducible repeat (first | refine blk_drewN ?_ _ | refine blk_drew ?_ | refine blk_alloc ?_ _)); refine blk_far ?_ NB101_103.out _; (with_reducible repeat (first | refine blk_drewN ?_ _ | refine blk_drew ?_ | refine blk_alloc ?_ _)); exact BK101.out⟩, ⟨by refine bd ?_; refine blk_put (cs := #[.string ((rd_T66 l0_0 a1).f0), .slice none 0 0]) ?_ 1 _ rfl; refine bd ?_; refine blk_put (cs := #[.string (⟨#[]⟩ : ByteArray), .slice none 0 0]) ?_ 0 _ rfl; (with_reducible repeat (first | refine blk_drewN ?_ _ | refine blk_drew ?_ | refine blk_alloc ?_ _)); exact BK103.out⟩, ⟨bs2 HB GE101 GE103⟩⟩
     ·rw [if_neg c13] at H
      have c13b0 : (((rd_T66 l0_0 a1).f0).toList == ([] : List UInt8)) = false := beq_eq_false_iff_ne.mpr c13; have c13b1 : (((rd_T66 l0_0 a1).f0).toList != ([] : List UInt8)) = true := bne_iff_ne.mpr c13; replace H := Option.bind_eq_some_iff.mp H; obtain ⟨t104, A160, H⟩ := H; replace H : (if t104 = true then (spec_l2Walk.j0 k a1 a2 (decide ((((rd_T66 l0_0 a1).f1).length : Int) > 0)) l0_0 ((rd_T66 l0_0 a1).f0) ((rd_T66 l0_0 a1).f1)) else (spec_l2Walk.j0 k a1 a2 true l0_0 ((rd_T66 l0_0 a1).f0) ((rd_T66 l0_0 a1).f1))) = some r := H; have A16 := Aside0.mk A160; clear A160
      by_cases c17 : t104 = true
      ·subst c17
       have H1 : (spec_l2Walk.j0 k a1 a2 (decide ((((rd_T66 l0_0 a1).f1).length : Int) > 0)) l0_0 ((rd_T66 l0_0 a1).f0) ((rd_T66 l0_0 a1).f1)) = some r := by rw [if_pos rfl] at H; exact H
       clear H; have H := H1; clear H1; have H' := Aside0.mk H; clear H; have hnb18 := NB103_101.out; have hnc18 := NB101_103.out; have hcz19_0 : w9.cell? ⟨gb103, 0, none⟩ = some (.string (⟨#[]⟩ : ByteArray)) := (blk_cell BK103.out 0).trans rfl; have hcz19_1 : w9.cell? ⟨gb103, 1, none⟩ = some (.slice none 0 0) := (blk_cell BK103.out 1).trans rfl; have hfz19_0 := blk_frozen BK103.out 0; have hfz19_1 := blk_frozen BK103.out 1
       go_wp2_with (first | (go_at_call 48; (with_reducible refine (spec_l2Atom.calls k ((rd_T66 l0_0 a1).f0) true _ A16.out).mono ?_); rintro e w' ⟨rfl, ⟨nd, rfl⟩⟩))
       go_meet
       case rel => exact ⟨_, (decide ((((rd_T66 l0_0 a1).f1).length : Int) > 0)), au, H', ⟨by first | omega | exact Nat.le_refl _⟩, ⟨by (with_reducible repeat (first | refine blk_drewN ?_ _ | refine blk_drew ?_ | refine blk_alloc ?_ _)); refine blk_far ?_ NB101_103.out _; (with_reducible repeat (first | refine blk_drewN ?_ _ | refine blk_drew ?_ | refine blk_alloc ?_ _)); refine blk_far ?_ NB101_103.out _; (with_reducible repeat (first | refine blk_drewN ?_ _ | refine blk_drew ?_ | refine blk_alloc ?_ _)); exact BK101.out⟩, ⟨by refine bd ?_; refine blk_put (cs := #[.string ((rd_T66 l0_0 a1).f0), .slice none 0 0]) ?_ 1 _ rfl; refine bd ?_; refine blk_put (cs := #[.string (⟨#[]⟩ : ByteArray), .slice none 0 0]) ?_ 0 _ rfl; (with_reducible repeat (first | refine blk_drewN ?_ _ | refine blk_drew ?_ | refine blk_alloc ?_ _)); exact BK103.out⟩, ⟨bs2 HB GE101 GE103⟩⟩
      ·replace c17 := Bool.eq_false_iff.mpr c17
       subst c17
       have H1 : (spec_l2Walk.j0 k a1 a2 true l0_0 ((rd_T66 l0_0 a1).f0) ((rd_T66 l0_0 a1).f1)) = some r := by rw [if_neg (show ¬ (false = true) by decide)] at H; exact H
       clear H; have H := H1; clear H1; have H' := Aside0.mk H; clear H; have hnb20 := NB103_101.out; have hnc20 := NB101_103.out; have hcz21_0 : w9.cell? ⟨gb103, 0, none⟩ = some (.string (⟨#[]⟩ : ByteArray)) := (blk_cell BK103.out 0).trans rfl; have hcz21_1 : w9.cell? ⟨gb103, 1, none⟩ = some (.slice none 0 0) := (blk_cell BK103.out 1).trans rfl; have hfz21_0 := blk_frozen BK103.out 0; have hfz21_1 := blk_frozen BK103.out 1
       go_wp2_with (first | (go_at_call 48; (with_reducible refine (spec_l2Atom.calls k ((rd_T66 l0_0 a1).f0) false _ A16.out).mono ?_); rintro e w' ⟨rfl, ⟨nd, rfl⟩⟩))
       go_meet
       case rel => exact ⟨_, (true), au, H', ⟨by first | omega | exact Nat.le_refl _⟩, ⟨by (with_reducible repeat (first | refine blk_drewN ?_ _ | refine blk_drew ?_ | refine blk_alloc ?_ _)); refine blk_far ?_ NB101_103.out _; (with_reducible repeat (first | refine blk_drewN ?_ _ | refine blk_drew ?_ | refine blk_alloc ?_ _)); refine blk_far ?_ NB101_103.out _; (with_reducible repeat (first | refine blk_drewN ?_ _ | refine blk_drew ?_ | refine blk_alloc ?_ _)); exact BK101.out⟩, ⟨by refine bd ?_; refine blk_put (cs := #[.string ((rd_T66 l0_0 a1).f0), .slice none 0 0]) ?_ 1 _ rfl; refine bd ?_; refine blk_put (cs := #[.string (⟨#[]⟩ : ByteArray), .slice none 0 0]) ?_ 0 _ rfl; (with_reducible repeat (first | refine blk_drewN ?_ _ | refine blk_drew ?_ | refine blk_alloc ?_ _)); exact BK103.out⟩, ⟨bs2 HB GE101 GE103⟩⟩
   case rest =>
    clear HC6
    try clear c1
    try clear p1
    try clear q1
    try clear hx1
    try clear c2
    try clear p2
    try clear c4
    try clear c4b0
    try clear c5
    try clear c5b0
    try clear c10
    try clear p10
    try clear q10
    try clear hx10
    try clear c12
    try clear c12b0
    try clear c13
    try clear c13b0
    try clear c13b1
    try clear c14
    try clear c17
    try clear c18
    try clear c20
    try clear hcz11_0
    try clear hcz11_1
    try clear hcz15_0
    try clear hcz15_1
    try clear hcz19_0
    try clear hcz19_1
    try clear hcz21_0
    try clear hcz21_1
    try clear hcz8_0
    try clear hfz11_0
    try clear hfz11_1
    try clear hfz15_0
    try clear hfz15_1
    try clear hfz19_0
    try clear hfz19_1
    try clear hfz21_0
    try clear hfz21_1
    try clear hfz8_0
    try clear hx102_0
    try clear hx102_1
    try clear p102
    try clear q102
    obtain ⟨kq, x33_5, rfl, HA, HJ5, BK101, BK103, HB⟩ := hcut
    cases kq with
    | zero => exact absurd HA.out (by simp [spec_l2Walk.j0])
    | succ kj5 =>
     have H := HA.out; clear HA
     simp only [spec_l2Walk.j0] at H
     by_cases c22 : x33_5 = true
     ·subst c22
      have H1 : (some (-1)) = some r := by rw [if_pos rfl] at H; exact H
      clear H; have H := H1; clear H1; obtain rfl := Option.some.inj H
      go_wp2
      go_ret
      exact ⟨by first | rfl | (simp [errW_none, errW_some] <;> rfl) | (simp [*, errW_none, errW_some] <;> rfl), bs2 HB GE101 GE103⟩
     ·replace c22 := Bool.eq_false_iff.mpr c22
      subst c22
      have H1 : (spec_l2Walk.l0 kj5 a2 (wrap64 (a1 + 1)) 0 l0_0 ((rd_T66 l0_0 a1).f0) ((rd_T66 l0_0 a1).f1)) = some r := by rw [if_neg (show ¬ (false = true) by decide)] at H; exact H
      clear H; have H := H1; clear H1; have H' := Aside0.mk H; clear H
      go_wp2
      go_loopg [8, 9] kj5 (fun kq v8 v9 w' => ∃ (x8_2 : Int) (x9_2 : Int), v8 = .int .i64 x8_2 ∧ v9 = .int .i64 x9_2 ∧ Aside0 (spec_l2Walk.l0 kq a2 x8_2 x9_2 l0_0 ((rd_T66 l0_0 a1).f0) ((rd_T66 l0_0 a1).f1) = some r) ∧ Aside0 (kq ≤ kj5) ∧ Aside0 (w'.heap[gb101]? = some (.cells #[(.slice (some ad102) l0_0.length c0_0)] 29 (0, 0))) ∧ Aside0 (w'.heap[gb103]? = some (.cells #[.string ((rd_T66 l0_0 a1).f0), (.slice A102_1 ((rd_T66 l0_0 a1).f1).length c102_1)] 66 (0, 0))) ∧ Aside0 (Below w.heap.size w w'))
      case atStart => exact ⟨(wrap64 (a1 + 1)), (0), au, au, H', ⟨Nat.le_refl _⟩, ⟨bk BK101⟩, ⟨bk BK103⟩, ⟨bs2 HB GE101 GE103⟩⟩
      case round =>
       clear H'
       try clear c1
       try clear p1
       try clear q1
       try clear hx1
       try clear c2
       try clear p2
       try clear c4
       try clear c4b0
       try clear c5
       try clear c5b0
       try clear p6
       try clear c10
       try clear p10
       try clear q10
       try clear hx10
       try clear c12
       try clear c12b0
       try clear c13
       try clear c13b0
       try clear c13b1
       try clear c14
       try clear c17
       try clear c18
       try clear c20
       try clear c22
       try clear hcz11_0
       try clear hcz11_1
       try clear hcz15_0
       try clear hcz15_1
       try clear hcz19_0
       try clear hcz19_1
       try clear hcz21_0
       try clear hcz21_1
       try clear hcz8_0
       try clear hfz11_0
       try clear hfz11_1
       try clear hfz15_0
       try clear hfz15_1
       try clear hfz19_0
       try clear hfz19_1
       try clear hfz21_0
       try clear hfz21_1
       try clear hfz8_0
       try clear hx102_0
       try clear hx102_1
       try clear p1
       try clear p10
       try clear p102
       try clear p2
       try clear q1
       try clear q10
       try clear q102
       obtain ⟨x8_2, x9_2, rfl, rfl, HA, HK2, BK101, BK103, HB⟩ := hrel
       cases gk with
       | zero => exact absurd HA.out (by simp [spec_l2Walk.l0])
       | succ k2 =>
        have H := HA.out; clear HA
        simp only [spec_l2Walk.l0] at H
        by_cases c23 : x9_2 < (((rd_T66 l0_0 a1).f1).length : Int)
        ·rw [if_pos c23] at H
         have c23b0 : decide (x9_2 < (((rd_T66 l0_0 a1).f1).length : Int)) = true := decide_eq_true c23; clear c23; have HC24 := Aside0.mk H; clear H; have hnb25 := NB103_101.out; have hnc25 := NB101_103.out; have hcz26_0 : wr.cell? ⟨gb103, 0, none⟩ = some (.string ((rd_T66 l0_0 a1).f0)) := (blk_cell BK103.out 0).trans rfl; have hcz26_1 : wr.cell? ⟨gb103, 1, none⟩ = some (.slice A102_1 ((rd_T66 l0_0 a1).f1).length c102_1) := (blk_cell BK103.out 1).trans rfl; have hfz26_0 := blk_frozen BK103.out 0; have hfz26_1 := blk_frozen BK103.out 1
         go_upto_region 8 with (fail)
         go_cut [56] (fun v56 wc => ∃ (kq : Nat) (x56_23 : Bool), v56 = .bool x56_23 ∧ Aside0 (spec_l2Walk.j2 kq a2 x8_2 x9_2 x56_23 l0_0 ((rd_T66 l0_0 a1).f0) ((rd_T66 l0_0 a1).f1) = some r) ∧ Aside0 (kq ≤ k2) ∧ Aside0 (wc.heap[gb101]? = some (.cells #[(.slice (some ad102) l0_0.length c0_0)] 29 (0, 0))) ∧ Aside0 (wc.heap[gb103]? = some (.cells #[.string ((rd_T66 l0_0 a1).f0), (.slice A102_1 ((rd_T66 l0_0 a1).f1).length c102_1)] 66 (0, 0))) ∧ Aside0 (Below w.heap.size w wc))
         case first =>
          have H := HC24.out; clear HC24
          by_cases c27 : 0 ≤ x9_2
          ·rw [if_pos c27] at H
           have c27b0 : decide (0 ≤ x9_2) = true := decide_eq_true c27; clear c27
           (first | rw [c27b0] | (simp only [i64_w, i32_w]; rw [c27b0]) | skip)
           by_cases c28 : (rd ((rd_T66 l0_0 a1).f1) x9_2) = x8_2
           ·rw [if_pos c28] at H
            have c28b0 : ((rd ((rd_T66 l0_0 a1).f1) x9_2) == x8_2) = true := beq_iff_eq.mpr c28; have c28b1 : ((rd ((rd_T66 l0_0 a1).f1) x9_2) != x8_2) = false := bne_eq_false_iff_eq.mpr c28; clear c28; have H' := Aside0.mk H; clear H; have hnb29 := NB103_101.out; have hnc29 := NB101_103.out; have hcz30_0 : wr.cell? ⟨gb103, 0, none⟩ = some (.string ((rd_T66 l0_0 a1).f0)) := (blk_cell BK103.out 0).trans rfl; have hcz30_1 : wr.cell? ⟨gb103, 1, none⟩ = some (.slice A102_1 ((rd_T66 l0_0 a1).f1).length c102_1) := (blk_cell BK103.out 1).trans rfl; have hfz30_0 := blk_frozen BK103.out 0; have hfz30_1 := blk_frozen BK103.out 1; have p105 : 0 ≤ (x9_2 : Int) := ode; have q105 : x9_2 < (((rd_T66 l0_0 a1).f1).length : Int) := ode; obtain ⟨ad105, e105, hx105_0⟩ := Kd.at_int HR102_1.out x9_2 p105 q105
            cases e105
            replace hx105_0 := cl HB hx105_0; replace p105 := eq_true p105; replace q105 := eq_true q105; have hcz31_0 : wr.cell? ⟨gb101, 0, none⟩ = some (.slice (some ad102) l0_0.length c0_0) := (blk_cell BK101.out 0).trans rfl; have hfz31_0 := blk_frozen BK101.out 0
            go_wp2
            go_meet
            case rel => exact ⟨_, (decide (x8_2 ≥ (l0_0.length : Int))), au, H', ⟨by have := HJ5.out; have := HK2.out; first | omega | exact Nat.le_refl _⟩, ⟨bk BK101⟩, ⟨bk BK103⟩, ⟨bs2 HB GE101 GE103⟩⟩
           ·rw [if_neg c28] at H
            have c28b0 : ((rd ((rd_T66 l0_0 a1).f1) x9_2) == x8_2) = false := beq_eq_false_iff_ne.mpr c28; have c28b1 : ((rd ((rd_T66 l0_0 a1).f1) x9_2) != x8_2) = true := bne_iff_ne.mpr c28; have H' := Aside0.mk H; clear H; have hnb32 := NB103_101.out; have hnc32 := NB101_103.out; have hcz33_0 : wr.cell? ⟨gb103, 0, none⟩ = some (.string ((rd_T66 l0_0 a1).f0)) := (blk_cell BK103.out 0).trans rfl; have hcz33_1 : wr.cell? ⟨gb103, 1, none⟩ = some (.slice A102_1 ((rd_T66 l0_0 a1).f1).length c102_1) := (blk_cell BK103.out 1).trans rfl; have hfz33_0 := blk_frozen BK103.out 0; have hfz33_1 := blk_frozen BK103.out 1; have p105 : 0 ≤ (x9_2 : Int) := ode; have q105 : x9_2 < (((rd_T66 l0_0 a1).f1).length : Int) := ode; obtain ⟨ad105, e105, hx105_0⟩ := Kd.at_int HR102_1.out x9_2 p105 q105
            cases e105
            replace hx105_0 := cl HB hx105_0; replace p105 := eq_true p105; replace q105 := eq_true q105
            go_wp2
            go_meet
            case rel => exact ⟨_, (true), au, H', ⟨by have := HJ5.out; have := HK2.out; first | omega | exact Nat.le_refl _⟩, ⟨bk BK101⟩, ⟨bk BK103⟩, ⟨bs2 HB GE101 GE103⟩⟩
          ·rw [if_neg c27] at H
           exact absurd H (by simp)
         case rest =>
          clear HC24
          try clear c1
          try clear p1
          try clear q1
          try clear hx1
          try clear c2
          try clear p2
          try clear c3
          try clear c4
          try clear c4b0
          try clear c5
          try clear c5b0
          try clear p6
          try clear c10
          try clear p10
          try clear q10
          try clear hx10
          try clear c12
          try clear c12b0
          try clear c13
          try clear c13b0
          try clear c13b1
          try clear c14
          try clear c17
          try clear c18
          try clear c20
          try clear c22
          try clear c23
          try clear c23b0
          try clear c25
          try clear c27
          try clear c27b0
          try clear c28
          try clear c28b0
          try clear c28b1
          try clear c29
          try clear c32
          try clear hcz11_0
          try clear hcz11_1
          try clear hcz15_0
          try clear hcz15_1
          try clear hcz19_0
          try clear hcz19_1
          try clear hcz21_0
          try clear hcz21_1
          try clear hcz26_0
          try clear hcz26_1
          try clear hcz30_0
          try clear hcz30_1
          try clear hcz31_0
          try clear hcz33_0
          try clear hcz33_1
          try clear hcz8_0
          try clear hfz11_0
          try clear hfz11_1
          try clear hfz15_0
          try clear hfz15_1
          try clear hfz19_0
          try clear hfz19_1
          try clear hfz21_0
          try clear hfz21_1
          try clear hfz26_0
          try clear hfz26_1
          try clear hfz30_0
          try clear hfz30_1
          try clear hfz31_0
          try clear hfz33_0
          try clear hfz33_1
          try clear hfz8_0
          try clear hx102_0
          try clear hx102_1
          try clear hx105_0
          try clear p1
          try clear p10
          try clear p102
          try clear p105
          try clear p2
          try clear p6
          try clear q1
          try clear q10
          try clear q102
          try clear q105
          obtain ⟨kq, x56_23, rfl, HA, HJ23, BK101, BK103, HB⟩ := hcut
          cases kq with
          | zero => exact absurd HA.out (by simp [spec_l2Walk.j2])
          | succ kj23 =>
           have H := HA.out; clear HA
           simp only [spec_l2Walk.j2] at H
           by_cases c34 : x56_23 = true
           ·subst c34
            have H1 : (some (-1)) = some r := by rw [if_pos rfl] at H; exact H
            clear H; have H := H1; clear H1; obtain rfl := Option.some.inj H
            go_wp2
            go_ret
            exact ⟨by first | rfl | (simp [errW_none, errW_some] <;> rfl) | (simp [*, errW_none, errW_some] <;> rfl), bs2 HB GE101 GE103⟩
           ·replace c34 := Bool.eq_false_iff.mpr c34
            subst c34
            have H1 : ((spec_l2Walk.f kj23 l0_0 x8_2 (wrap64 (a2 + 1))).bind fun t106 => (if t106 < 0 then (some (-1)) else (spec_l2Walk.l0 kj23 a2 t106 (wrap64 (x9_2 + 1)) l0_0 ((rd_T66 l0_0 a1).f0) ((rd_T66 l0_0 a1).f1)))) = some r := by rw [if_neg (show ¬ (false = true) by decide)] at H; exact H
            clear H; have H := H1; clear H1; replace H := Option.bind_eq_some_iff.mp H; obtain ⟨t106, A350, H⟩ := H; replace H : (if t106 < 0 then (some (-1)) else (spec_l2Walk.l0 kj23 a2 t106 (wrap64 (x9_2 + 1)) l0_0 ((rd_T66 l0_0 a1).f0) ((rd_T66 l0_0 a1).f1))) = some r := H; have A35 := Aside0.mk A350; clear A350
            by_cases c36 : t106 < 0
            ·rw [if_pos c36] at H
             have c36b0 : decide (t106 < 0) = true := decide_eq_true c36; clear c36; obtain rfl := Option.some.inj H; have hnb37 := NB101_103.out; have hnc37 := NB103_101.out; have hcz38_0 : wc.cell? ⟨gb101, 0, none⟩ = some (.slice (some ad102) l0_0.length c0_0) := (blk_cell BK101.out 0).trans rfl; have hfz38_0 := blk_frozen BK101.out 0
             go_wp2_with (first | ((with_reducible refine gate_callee (f := 43) rfl ?_); refine goesL_ (some 61) rfl rfl Try.func43 (by kernel_rfl) rfl #[.agg #[.slice (some ad102) l0_0.length c0_0], .int .i64 x8_2, .int .i64 (wrap64 (a2 + 1))] rfl ma ?_; (with_reducible refine (ih kj23 (by have := HJ5.out; have := HK2.out; have := HJ23.out; omega) _ _ l0_0 x8_2 (wrap64 (a2 + 1)) t106 _ ?side1 ?side2 A35.out).mono ?_); (case side1 => exact rc HR0_0 HB); (case side2 => exact HC0_0.out); rintro e w39 ⟨rfl, hb⟩; refine ⟨_, rfl, ?_⟩; have n0_ := Aside0.mk (blk_below (g := gb101) (o := .cells #[.slice (some ad102) l0_0.length c0_0] 29 (0, 0)) (bk BK101) hb); have n1_ := Aside0.mk (blk_below (g := gb103) (o := .cells #[.string ((rd_T66 l0_0 a1).f0), .slice A102_1 ((rd_T66 l0_0 a1).f1).length c102_1] 66 (0, 0)) (bk BK103) hb); have n2_ := Aside0.mk (below_step (bs2 HB GE101 GE103) hb); clear BK101; clear BK103; clear HB; have BK101 := n0_; have BK103 := n1_; have HB := n2_; clear n0_ n1_ n2_; (try clear hb); (try clear hb2); (try clear hk); (try clear hi)))
             go_ret
             exact ⟨by first | rfl | (simp [errW_none, errW_some] <;> rfl) | (simp [*, errW_none, errW_some] <;> rfl), bs2 HB GE101 GE103⟩
            ·rw [if_neg c36] at H
             have c36b0 : decide (t106 < 0) = false := decide_eq_false c36; clear c36; have H' := Aside0.mk H; clear H; have hnb40 := NB101_103.out; have hnc40 := NB103_101.out; have hcz41_0 : wc.cell? ⟨gb101, 0, none⟩ = some (.slice (some ad102) l0_0.length c0_0) := (blk_cell BK101.out 0).trans rfl; have hfz41_0 := blk_frozen BK101.out 0
             go_wp2_with (first | ((with_reducible refine gate_callee (f := 43) rfl ?_); refine goesL_ (some 61) rfl rfl Try.func43 (by kernel_rfl) rfl #[.agg #[.slice (some ad102) l0_0.length c0_0], .int .i64 x8_2, .int .i64 (wrap64 (a2 + 1))] rfl ma ?_; (with_reducible refine (ih kj23 (by have := HJ5.out; have := HK2.out; have := HJ23.out; omega) _ _ l0_0 x8_2 (wrap64 (a2 + 1)) t106 _ ?side1 ?side2 A35.out).mono ?_); (case side1 => exact rc HR0_0 HB); (case side2 => exact HC0_0.out); rintro e w42 ⟨rfl, hb⟩; refine ⟨_, rfl, ?_⟩; have n0_ := Aside0.mk (blk_below (g := gb101) (o := .cells #[.slice (some ad102) l0_0.length c0_0] 29 (0, 0)) (bk BK101) hb); have n1_ := Aside0.mk (blk_below (g := gb103) (o := .cells #[.string ((rd_T66 l0_0 a1).f0), .slice A102_1 ((rd_T66 l0_0 a1).f1).length c102_1] 66 (0, 0)) (bk BK103) hb); have n2_ := Aside0.mk (below_step (bs2 HB GE101 GE103) hb); clear BK101; clear BK103; clear HB; have BK101 := n0_; have BK103 := n1_; have HB := n2_; clear n0_ n1_ n2_; (try clear hb); (try clear hb2); (try clear hk); (try clear hi)))
             go_roundg kj23
             case measure => have := HJ5.out; have := HK2.out; have := HJ23.out; omega
             case rel => exact ⟨(t106), (wrap64 (x9_2 + 1)), au, au, H', ⟨by have := HJ5.out; have := HK2.out; have := HJ23.out; omega⟩, ⟨bk BK101⟩, ⟨bk BK103⟩, ⟨bs2 HB GE101 GE103⟩⟩
        ·rw [if_neg c23] at H
         have c23b0 : decide (x9_2 < (((rd_T66 l0_0 a1).f1).length : Int)) = false := decide_eq_false c23; clear c23; obtain rfl := Option.some.inj H; have hnb43 := NB103_101.out; have hnc43 := NB101_103.out; have hcz44_0 : wr.cell? ⟨gb103, 0, none⟩ = some (.string ((rd_T66 l0_0 a1).f0)) := (blk_cell BK103.out 0).trans rfl; have hcz44_1 : wr.cell? ⟨gb103, 1, none⟩ = some (.slice A102_1 ((rd_T66 l0_0 a1).f1).length c102_1) := (blk_cell BK103.out 1).trans rfl; have hfz44_0 := blk_frozen BK103.out 0; have hfz44_1 := blk_frozen BK103.out 1
         go_wp2
         go_ret
         exact ⟨by first | rfl | (simp [errW_none, errW_some] <;> rfl) | (simp [*, errW_none, errW_some] <;> rfl), bs2 HB GE101 GE103⟩
  ·rw [if_neg c5] at H
   exact absurd H (by simp)
 ·rw [if_neg c4] at H
  exact absurd H (by simp)

end Go.Proofs.Ytjjlcmfjmdfedaa.PFnTreeBack
