-- Written by a program of this session (a turned copy of the kit's printer); Lean checks it.
-- half the depth
import Derived.Test.YtjjlcmfjmdfedaaPFnTreeBackx0
import Derived.Test.YtjjlcmfjmdfedaaPFnTreeBackx2
namespace Go.Proofs.Ytjjlcmfjmdfedaa.PFnTreeBack
open Go.RowKit Go.Proofs.YtjjlcmfjmdfedaaW.PrintWords Go.Proofs.YtjjlcmfjmdfedaaW.PrintLast Go.Proofs.YtjjlcmfjmdfedaaW.PrintMore
attribute [local go_sem] max2_int min2_int max_two min_two max_three min_three max_four min_four   -- for this text's walks alone
set_option linter.unusedVariables false
set_option linter.unusedSimpArgs false

/-! ### impl_atomOk: function 58 -/
def impl_atomOk.l0 : Nat → ByteArray → Int → Option (Bool)
 | 0, _, _ => none
 | k + 1, x0, x3 => if x3 < (x0.size : Int) then (if 0 ≤ x3 then ((impl_atomByte.f (bt x0 x3)).bind fun t140 => (if t140 = true then (impl_atomOk.l0 k x0 (wrap64 (x3 + 1))) else (some false))) else (none)) else (some (x0.toList != ([] : List UInt8)))
def impl_atomOk.f (k : Nat) (a0 : ByteArray) : Option (Bool) := impl_atomOk.l0 k a0 0
set_option maxHeartbeats 8000000 in
set_option maxRecDepth 100000 in
theorem impl_atomOk.calls (k : Nat) (a0 : ByteArray) (r : Bool) (w : World) (h : impl_atomOk.f k a0 = some r) :
  Calls Try.prog 58 #[.string a0] w fun e w' => e = .returned (.bool r) ∧ Drawn0 w w' := by
 have H : (impl_atomOk.l0 k a0 0) = some r := h; clear h; have H' := Aside0.mk H; clear H
 go_enter Try.func58, Try.ntmps58
 go_wp2
 go_loopg [3] k (fun kq v3 w' => ∃ (x3_1 : Int), v3 = .int .i64 x3_1 ∧ Aside0 (impl_atomOk.l0 kq a0 x3_1 = some r) ∧ Aside0 (kq ≤ k) ∧ Drawn0 w w')
 case atStart => exact ⟨(0), au, H', ⟨Nat.le_refl _⟩, dr⟩
 case round =>
  clear H'; obtain ⟨x3_1, rfl, HA, HK1, ⟨m1, rfl⟩⟩ := hrel
  cases gk with
  | zero => exact absurd HA.out (by simp [impl_atomOk.l0])
  | succ k1 =>
   have H := HA.out; clear HA
   simp only [impl_atomOk.l0] at H
   by_cases c2 : x3_1 < (a0.size : Int)
   ·rw [if_pos c2] at H
    have c2b0 : decide (x3_1 < (a0.size : Int)) = true := decide_eq_true c2; clear c2
    by_cases c3 : 0 ≤ x3_1
    ·rw [if_pos c3] at H
     have c3b0 : decide (0 ≤ x3_1) = true := decide_eq_true c3; clear c3; replace H := Option.bind_eq_some_iff.mp H; obtain ⟨t140, A50, H⟩ := H; replace H : (if t140 = true then (impl_atomOk.l0 k1 a0 (wrap64 (x3_1 + 1))) else (some false)) = some r := H; have A5 := Aside0.mk A50; clear A50
     by_cases c6 : t140 = true
     ·subst c6
      have H1 : (impl_atomOk.l0 k1 a0 (wrap64 (x3_1 + 1))) = some r := by rw [if_pos rfl] at H; exact H
      clear H; have H := H1; clear H1; have H' := Aside0.mk H; clear H; have p4 : 0 ≤ (x3_1 : Int) := ode; have q4 : x3_1 < (a0.size : Int) := ode; have hx4 := bt_at a0 x3_1; replace p4 := eq_true p4; replace q4 := eq_true q4
      go_wp2_with (first | ((with_reducible refine gate_callee (f := 51) rfl ?_); refine goesL_ (some 13) rfl rfl Try.func51 (by kernel_rfl) rfl #[.int .u8 (bt a0 x3_1)] rfl ma ?_; (with_reducible refine (impl_atomByte.calls (bt a0 x3_1) true _ A5.out).mono ?_); rintro e w' ⟨rfl, ⟨nd, rfl⟩⟩; refine ⟨_, rfl, ?_⟩))
      go_roundg k1
      case measure => have := HK1.out; omega
      case rel => exact ⟨(wrap64 (x3_1 + 1)), au, H', ⟨by have := HK1.out; omega⟩, dr⟩
     ·replace c6 := Bool.eq_false_iff.mpr c6
      subst c6
      have H1 : (some false) = some r := by rw [if_neg (show ¬ (false = true) by decide)] at H; exact H
      clear H; have H := H1; clear H1; obtain rfl := Option.some.inj H; have p4 : 0 ≤ (x3_1 : Int) := ode; have q4 : x3_1 < (a0.size : Int) := ode; have hx4 := bt_at a0 x3_1; replace p4 := eq_true p4; replace q4 := eq_true q4
      go_wp2_with (first | ((with_reducible refine gate_callee (f := 51) rfl ?_); refine goesL_ (some 13) rfl rfl Try.func51 (by kernel_rfl) rfl #[.int .u8 (bt a0 x3_1)] rfl ma ?_; (with_reducible refine (impl_atomByte.calls (bt a0 x3_1) false _ A5.out).mono ?_); rintro e w' ⟨rfl, ⟨nd, rfl⟩⟩; refine ⟨_, rfl, ?_⟩))
      go_ret
      exact ⟨au, dr⟩
    ·rw [if_neg c3] at H
     exact absurd H (by simp)
   ·rw [if_neg c2] at H
    have c2b0 : decide (x3_1 < (a0.size : Int)) = false := decide_eq_false c2; clear c2; obtain rfl := Option.some.inj H
    go_wp2
    go_ret
    exact ⟨au, dr⟩

/-! ### impl_Tree_below: function 40 -/
mutual
def impl_Tree_below.j0 : Nat → Int → Int → Bool → List (S66) → Option (Int × Bool)
 | 0, _, _, _, _ => none
 | k + 1, x1, x2, x21, x142000 => if x21 = true then (some (0, false)) else (if 0 ≤ x1 then (if x1 < (x142000.length : Int) then (if ((rd_T66 x142000 x1).f0).toList = ([] : List UInt8) then (impl_Tree_below.l0 k x2 (wrap64 (x1 + 1)) ((rd_T66 x142000 x1).f1) (((rd_T66 x142000 x1).f1).length : Int) 0 x142000) else (if (((rd_T66 x142000 x1).f1).length : Int) = 0 then ((impl_atomOk.f k ((rd_T66 x142000 x1).f0)).bind fun t144 => (some (wrap64 (x1 + 1), t144))) else (some (wrap64 (x1 + 1), false)))) else (none)) else (none))
def impl_Tree_below.l0 : Nat → Int → Int → List Int → Int → Int → List (S66) → Option (Int × Bool)
 | 0, _, _, _, _, _, _ => none
 | k + 1, x2, x9, x43, x44, x45, x142000 => if x45 < x44 then (if 0 ≤ x45 then (if x45 < (x43.length : Int) then (if (rd x43 x45) = x9 then ((impl_Tree_below.f k x142000 (rd x43 x45) (wrap64 (x2 + 1))).bind fun bt146 => (if bt146.2 = true then (impl_Tree_below.l0 k x2 bt146.1 x43 x44 (wrap64 (x45 + 1)) x142000) else (some (0, false)))) else (if ((rd x43 x45) = x9) then (impl_Tree_below.l0 k x2 x9 x43 x44 (wrap64 (x45 + 1)) x142000) else (some (0, false)))) else (none)) else (none)) else (some (x9, true))
def impl_Tree_below.f : Nat → List (S66) → Int → Int → Option (Int × Bool)
 | 0, _, _, _ => none
 | k + 1, l0_0, a1, a2 => if a1 ≥ (l0_0.length : Int) then (impl_Tree_below.j0 k a1 a2 true l0_0) else (impl_Tree_below.j0 k a1 a2 (decide (a2 > 100)) l0_0)
end
set_option maxHeartbeats 8000000 in
set_option maxRecDepth 100000 in
theorem impl_Tree_below.calls (k : Nat) : ∀ (A0_0 : Option Addr) (c0_0 : Nat) (l0_0 : List (S66)) (a1 : Int) (a2 : Int) (r1 : Int) (r2 : Bool) (w : World) (hr0_0 : Kd.C k66 w A0_0 l0_0.length l0_0) (hc0_0 : l0_0.length ≤ c0_0) (h : impl_Tree_below.f k l0_0 a1 a2 = some (r1, r2)),
  Calls Try.prog 40 #[.agg #[.slice A0_0 l0_0.length c0_0], .int .i64 a1, .int .i64 a2] w fun e w' => e = .returned (.tuple #[.int .i64 r1, .bool r2]) ∧ Below w.heap.size w w' := by
 induction k using Nat.strongRecOn with
 | _ k ih =>
 intro A0_0 c0_0 l0_0 a1 a2 r1 r2 w hr0_0 hc0_0 h
 cases k with
 | zero => exact absurd h (by simp [impl_Tree_below.f])
 | succ k =>
 simp only [impl_Tree_below.f] at h
 have hu29 := Try.underlying29; have hu66 := Try.underlying66; have HR0_0 := Aside0.mk hr0_0; have HC0_0 := Aside0.mk hc0_0; clear hr0_0 hc0_0; have HB := Aside0.mk (Below.refl w.heap.size w); have H : (if a1 ≥ (l0_0.length : Int) then (impl_Tree_below.j0 k a1 a2 true l0_0) else (impl_Tree_below.j0 k a1 a2 (decide (a2 > 100)) l0_0)) = some (r1, r2) := h; clear h; have HC4 := Aside0.mk H; clear H
 go_enter Try.func40, Try.ntmps40
 go_upto_region 1 with (first | ((with_reducible refine gate_dst (N := 3) rfl ?_); refine be 3 #[.slice A0_0 l0_0.length c0_0] 29 ?_; intro gb141 hg w5 hbox hb; have n0_ := Aside0.mk (below_step (bl HB) hb); have n1_ := Aside0.mk (hbox); have n2_ := Aside0.mk (gs HB hg); have n3_ := Aside0.mk (gs HB hg); clear HB; have HB := n0_; have BK141 := n1_; have GW141 := n2_; have GE141 := n3_; clear n0_ n1_ n2_ n3_; clear hb hbox hg))
 (try simp only [Act.put, List.setIfInBounds_toArray, List.set_cons_zero, List.set_cons_succ])
 go_cut [21] (fun v21 wc => ∃ (kq : Nat) (x21_3 : Bool), v21 = .bool x21_3 ∧ Aside0 (impl_Tree_below.j0 kq a1 a2 x21_3 l0_0 = some (r1, r2)) ∧ Aside0 (kq ≤ k) ∧ Aside0 (wc.heap[gb141]? = some (.cells #[(.slice A0_0 l0_0.length c0_0)] 29 (0, 0))) ∧ Aside0 (Below w.heap.size w wc))
 case first =>
  have H := HC4.out; clear HC4
  by_cases c6 : a1 ≥ (l0_0.length : Int)
  ·rw [if_pos c6] at H
   have c6b0 : decide ((l0_0.length : Int) ≤ a1) = true := decide_eq_true c6; clear c6
   (first | rw [c6b0] | (simp only [i64_w, i32_w]; rw [c6b0]) | skip)
   have H' := Aside0.mk H; clear H; have hcz7_0 : w5.cell? ⟨gb141, 0, none⟩ = some (.slice A0_0 l0_0.length c0_0) := (blk_cell BK141.out 0).trans rfl; have hfz7_0 := blk_frozen BK141.out 0
   go_wp2
   go_meet
   case rel => exact ⟨_, (true), au, H', ⟨by first | omega | exact Nat.le_refl _⟩, ⟨bk BK141⟩, ⟨bs HB GE141⟩⟩
  ·rw [if_neg c6] at H
   have c6b0 : decide ((l0_0.length : Int) ≤ a1) = false := decide_eq_false c6; clear c6
   (first | rw [c6b0] | (simp only [i64_w, i32_w]; rw [c6b0]) | skip)
   have H' := Aside0.mk H; clear H; have hcz8_0 : w5.cell? ⟨gb141, 0, none⟩ = some (.slice A0_0 l0_0.length c0_0) := (blk_cell BK141.out 0).trans rfl; have hfz8_0 := blk_frozen BK141.out 0
   go_wp2
   go_meet
   case rel => exact ⟨_, (decide (a2 > 100)), au, H', ⟨by first | omega | exact Nat.le_refl _⟩, ⟨bk BK141⟩, ⟨bs HB GE141⟩⟩
 case rest =>
  clear HC4
  try clear p2
  try clear c4
  try clear c6
  try clear c6b0
  try clear hcz7_0
  try clear hcz8_0
  try clear hfz7_0
  try clear hfz8_0
  obtain ⟨kq, x21_3, rfl, HA, HJ3, BK141, HB⟩ := hcut
  cases kq with
  | zero => exact absurd HA.out (by simp [impl_Tree_below.j0])
  | succ kj3 =>
   have H := HA.out; clear HA
   simp only [impl_Tree_below.j0] at H
   by_cases c9 : x21_3 = true
   ·subst c9
    have H1 : (some (0, false)) = some (r1, r2) := by rw [if_pos rfl] at H; exact H
    clear H; have H := H1; clear H1
    simp only [Option.some.injEq, Prod.mk.injEq] at H
    obtain ⟨rfl, rfl⟩ := H
    go_wp2
    go_ret2
    exact ⟨by first | rfl | (simp [errW_none, errW_some] <;> rfl) | (simp [*, errW_none, errW_some] <;> rfl), bs HB GE141⟩
   ·replace c9 := Bool.eq_false_iff.mpr c9
    subst c9
    have H1 : (if 0 ≤ a1 then (if a1 < (l0_0.length : Int) then (if ((rd_T66 l0_0 a1).f0).toList = ([] : List UInt8) then (impl_Tree_below.l0 kj3 a2 (wrap64 (a1 + 1)) ((rd_T66 l0_0 a1).f1) (((rd_T66 l0_0 a1).f1).length : Int) 0 l0_0) else (if (((rd_T66 l0_0 a1).f1).length : Int) = 0 then ((impl_atomOk.f kj3 ((rd_T66 l0_0 a1).f0)).bind fun t144 => (some (wrap64 (a1 + 1), t144))) else (some (wrap64 (a1 + 1), false)))) else (none)) else (none)) = some (r1, r2) := by rw [if_neg (show ¬ (false = true) by decide)] at H; exact H
    clear H; have H := H1; clear H1
    by_cases c10 : 0 ≤ a1
    ·rw [if_pos c10] at H
     have c10b0 : decide (0 ≤ a1) = true := decide_eq_true c10; clear c10
     by_cases c11 : a1 < (l0_0.length : Int)
     ·rw [if_pos c11] at H
      have c11b0 : decide (a1 < (l0_0.length : Int)) = true := decide_eq_true c11; clear c11
      by_cases c12 : ((rd_T66 l0_0 a1).f0).toList = ([] : List UInt8)
      ·rw [if_pos c12] at H
       have c12b0 : (((rd_T66 l0_0 a1).f0).toList == ([] : List UInt8)) = true := beq_iff_eq.mpr c12; have c12b1 : (((rd_T66 l0_0 a1).f0).toList != ([] : List UInt8)) = false := bne_eq_false_iff_eq.mpr c12; clear c12; have H' := Aside0.mk H; clear H; have hcz13_0 : wc.cell? ⟨gb141, 0, none⟩ = some (.slice A0_0 l0_0.length c0_0) := (blk_cell BK141.out 0).trans rfl; have hfz13_0 := blk_frozen BK141.out 0; have p142 : 0 ≤ (a1 : Int) := ode; have q142 : a1 < (l0_0.length : Int) := ode; obtain ⟨ad142, A142_1, c142_1, e142, hx142_0, hx142_1, hl142_1, hi142_1⟩ := at_T66 HR0_0.out a1 p142 q142
       cases e142
       replace hx142_0 := cl HB hx142_0; replace hx142_1 := cl HB hx142_1; have HR142_1 := Aside0.mk hi142_1; have HC142_1 := Aside0.mk hl142_1; clear hi142_1 hl142_1; replace p142 := eq_true p142; replace q142 := eq_true q142
       go_wp2_with (first | ((with_reducible refine gate_dst (N := 8) rfl ?_); refine be 8 #[.string (⟨#[]⟩ : ByteArray), .slice none 0 0] 66 ?_; intro gb143 hg w14 hbox hb; have n0_ := Aside0.mk (blk_below (g := gb141) (o := .cells #[.slice (some ad142) l0_0.length c0_0] 29 (0, 0)) (bk BK141) hb); have n1_ := Aside0.mk (below_step (bs HB GE141) hb); have n2_ := Aside0.mk (hbox); have n3_ := Aside0.mk ((by rw [hg]; exact (below_size (bs HB GE141)) : w.heap.size ≤ gb143)); have n4_ := Aside0.mk ((by rw [hg]; exact (below_size (bs HB GE141)) : w.heap.size ≤ gb143)); have n5_ := Aside0.mk ((by rw [hg]; exact Nat.ne_of_lt (blk_lt (g := gb141) (o := .cells #[.slice (some ad142) l0_0.length c0_0] 29 (0, 0)) (bk BK141)) : gb141 ≠ gb143)); have n6_ := Aside0.mk ((by rw [hg]; exact Nat.ne_of_gt (blk_lt (g := gb141) (o := .cells #[.slice (some ad142) l0_0.length c0_0] 29 (0, 0)) (bk BK141)) : gb143 ≠ gb141)); clear BK141; clear HB; have BK141 := n0_; have HB := n1_; have BK143 := n2_; have GW143 := n3_; have GE143 := n4_; have NB141_143 := n5_; have NB143_141 := n6_; clear n0_ n1_ n2_ n3_ n4_ n5_ n6_; clear hb hbox hg; have hnb15 := NB143_141.out; have hnc15 := NB141_143.out; have hcz16_0 : w14.cell? ⟨gb143, 0, none⟩ = some (.string (⟨#[]⟩ : ByteArray)) := (blk_cell BK143.out 0).trans rfl; have hcz16_1 : w14.cell? ⟨gb143, 1, none⟩ = some (.slice none 0 0) := (blk_cell BK143.out 1).trans rfl; have hfz16_0 := blk_frozen BK143.out 0; have hfz16_1 := blk_frozen BK143.out 1))
       go_loopg [9, 45] kj3 (fun kq v9 v45 w' => ∃ (x9_2 : Int) (x45_2 : Int), v9 = .int .i64 x9_2 ∧ v45 = .int .i64 x45_2 ∧ Aside0 (impl_Tree_below.l0 kq a2 x9_2 ((rd_T66 l0_0 a1).f1) (((rd_T66 l0_0 a1).f1).length : Int) x45_2 l0_0 = some (r1, r2)) ∧ Aside0 (kq ≤ kj3) ∧ Aside0 (w'.heap[gb141]? = some (.cells #[(.slice (some ad142) l0_0.length c0_0)] 29 (0, 0))) ∧ Aside0 (w'.heap[gb143]? = some (.cells #[.string ((rd_T66 l0_0 a1).f0), (.slice A142_1 ((rd_T66 l0_0 a1).f1).length c142_1)] 66 (0, 0))) ∧ Aside0 (Below w.heap.size w w'))
       case atStart => exact ⟨(wrap64 (a1 + 1)), (0), au, au, H', ⟨Nat.le_refl _⟩, ⟨by (with_reducible repeat (first | refine blk_drewN ?_ _ | refine blk_drew ?_ | refine blk_alloc ?_ _)); refine blk_far ?_ NB141_143.out _; (with_reducible repeat (first | refine blk_drewN ?_ _ | refine blk_drew ?_ | refine blk_alloc ?_ _)); refine blk_far ?_ NB141_143.out _; (with_reducible repeat (first | refine blk_drewN ?_ _ | refine blk_drew ?_ | refine blk_alloc ?_ _)); exact BK141.out⟩, ⟨by refine bd ?_; refine blk_put (cs := #[.string ((rd_T66 l0_0 a1).f0), .slice none 0 0]) ?_ 1 _ rfl; refine bd ?_; refine blk_put (cs := #[.string (⟨#[]⟩ : ByteArray), .slice none 0 0]) ?_ 0 _ rfl; (with_reducible repeat (first | refine blk_drewN ?_ _ | refine blk_drew ?_ | refine blk_alloc ?_ _)); exact BK143.out⟩, ⟨bs2 HB GE141 GE143⟩⟩
       case round =>
        clear H'
        try clear c1
        try clear p1
        try clear q1
        try clear hx1
        try clear p2
        try clear c4
        try clear c6
        try clear c6b0
        try clear p6
        try clear c9
        try clear c10
        try clear c10b0
        try clear c11
        try clear c11b0
        try clear c12
        try clear c12b0
        try clear c12b1
        try clear c14
        try clear p14
        try clear q14
        try clear hx14
        try clear c15
        try clear hcz13_0
        try clear hcz16_0
        try clear hcz16_1
        try clear hcz7_0
        try clear hcz8_0
        try clear hfz13_0
        try clear hfz16_0
        try clear hfz16_1
        try clear hfz7_0
        try clear hfz8_0
        try clear hx142_0
        try clear hx142_1
        try clear p142
        try clear p2
        try clear q142
        obtain ⟨x9_2, x45_2, rfl, rfl, HA, HK2, BK141, BK143, HB⟩ := hrel
        cases gk with
        | zero => exact absurd HA.out (by simp [impl_Tree_below.l0])
        | succ k2 =>
         have H := HA.out; clear HA
         simp only [impl_Tree_below.l0] at H
         by_cases c17 : x45_2 < (((rd_T66 l0_0 a1).f1).length : Int)
         ·rw [if_pos c17] at H
          have c17b0 : decide (x45_2 < (((rd_T66 l0_0 a1).f1).length : Int)) = true := decide_eq_true c17; clear c17
          by_cases c18 : 0 ≤ x45_2
          ·rw [if_pos c18] at H
           have c18b0 : decide (0 ≤ x45_2) = true := decide_eq_true c18; clear c18
           by_cases c19 : x45_2 < (((rd_T66 l0_0 a1).f1).length : Int)
           ·rw [if_pos c19] at H
            have c19b0 : decide (x45_2 < (((rd_T66 l0_0 a1).f1).length : Int)) = true := decide_eq_true c19; clear c19
            by_cases c20 : (rd ((rd_T66 l0_0 a1).f1) x45_2) = x9_2
            ·rw [if_pos c20] at H
             have c20b0 : ((rd ((rd_T66 l0_0 a1).f1) x45_2) == x9_2) = true := beq_iff_eq.mpr c20; have c20b1 : ((rd ((rd_T66 l0_0 a1).f1) x45_2) != x9_2) = false := bne_eq_false_iff_eq.mpr c20; clear c20; replace H := Option.bind_eq_some_iff.mp H; obtain ⟨⟨t146, t147⟩, A210, H⟩ := H; replace H : (if t147 = true then (impl_Tree_below.l0 k2 a2 t146 ((rd_T66 l0_0 a1).f1) (((rd_T66 l0_0 a1).f1).length : Int) (wrap64 (x45_2 + 1)) l0_0) else (some (0, false))) = some (r1, r2) := H; have A21 := Aside0.mk A210; clear A210
             by_cases c22 : t147 = true
             ·subst c22
              have H1 : (impl_Tree_below.l0 k2 a2 t146 ((rd_T66 l0_0 a1).f1) (((rd_T66 l0_0 a1).f1).length : Int) (wrap64 (x45_2 + 1)) l0_0) = some (r1, r2) := by rw [if_pos rfl] at H; exact H
              clear H; have H := H1; clear H1; have H' := Aside0.mk H; clear H; have p145 : 0 ≤ (x45_2 : Int) := ode; have q145 : x45_2 < (((rd_T66 l0_0 a1).f1).length : Int) := ode; obtain ⟨ad145, e145, hx145_0⟩ := Kd.at_int HR142_1.out x45_2 p145 q145
              cases e145
              replace hx145_0 := cl HB hx145_0; replace p145 := eq_true p145; replace q145 := eq_true q145; have hnb23 := NB141_143.out; have hnc23 := NB143_141.out; have hcz24_0 : wr.cell? ⟨gb141, 0, none⟩ = some (.slice (some ad142) l0_0.length c0_0) := (blk_cell BK141.out 0).trans rfl; have hfz24_0 := blk_frozen BK141.out 0
              go_wp2_with (first | ((with_reducible refine gate_callee (f := 40) rfl ?_); refine goesL_ (some 58) rfl rfl Try.func40 (by kernel_rfl) rfl #[.agg #[.slice (some ad142) l0_0.length c0_0], .int .i64 (rd ((rd_T66 l0_0 a1).f1) x45_2), .int .i64 (wrap64 (a2 + 1))] rfl ma ?_; (with_reducible refine (ih k2 (by have := HJ3.out; have := HK2.out; omega) _ _ l0_0 (rd ((rd_T66 l0_0 a1).f1) x45_2) (wrap64 (a2 + 1)) t146 true _ ?side1 ?side2 A21.out).mono ?_); (case side1 => exact rc HR0_0 HB); (case side2 => exact HC0_0.out); rintro e w25 ⟨rfl, hb⟩; refine ⟨_, rfl, ?_⟩; have n0_ := Aside0.mk (blk_below (g := gb141) (o := .cells #[.slice (some ad142) l0_0.length c0_0] 29 (0, 0)) (bk BK141) hb); have n1_ := Aside0.mk (blk_below (g := gb143) (o := .cells #[.string ((rd_T66 l0_0 a1).f0), .slice (some ad145) ((rd_T66 l0_0 a1).f1).length c142_1] 66 (0, 0)) (bk BK143) hb); have n2_ := Aside0.mk (below_step (bs2 HB GE141 GE143) hb); clear BK141; clear BK143; clear HB; have BK141 := n0_; have BK143 := n1_; have HB := n2_; clear n0_ n1_ n2_; (try clear hb); (try clear hb2); (try clear hk); (try clear hi)))
              go_roundg k2
              case measure => have := HJ3.out; have := HK2.out; omega
              case rel => exact ⟨(t146), (wrap64 (x45_2 + 1)), au, au, H', ⟨by have := HJ3.out; have := HK2.out; omega⟩, ⟨bk BK141⟩, ⟨bk BK143⟩, ⟨bs2 HB GE141 GE143⟩⟩
             ·replace c22 := Bool.eq_false_iff.mpr c22
              subst c22
              have H1 : (some (0, false)) = some (r1, r2) := by rw [if_neg (show ¬ (false = true) by decide)] at H; exact H
              clear H; have H := H1; clear H1
              simp only [Option.some.injEq, Prod.mk.injEq] at H
              obtain ⟨rfl, rfl⟩ := H; have p145 : 0 ≤ (x45_2 : Int) := ode; have q145 : x45_2 < (((rd_T66 l0_0 a1).f1).length : Int) := ode; obtain ⟨ad145, e145, hx145_0⟩ := Kd.at_int HR142_1.out x45_2 p145 q145
              cases e145
              replace hx145_0 := cl HB hx145_0; replace p145 := eq_true p145; replace q145 := eq_true q145; have hnb26 := NB141_143.out; have hnc26 := NB143_141.out; have hcz27_0 : wr.cell? ⟨gb141, 0, none⟩ = some (.slice (some ad142) l0_0.length c0_0) := (blk_cell BK141.out 0).trans rfl; have hfz27_0 := blk_frozen BK141.out 0
              go_wp2_with (first | ((with_reducible refine gate_callee (f := 40) rfl ?_); refine goesL_ (some 58) rfl rfl Try.func40 (by kernel_rfl) rfl #[.agg #[.slice (some ad142) l0_0.length c0_0], .int .i64 (rd ((rd_T66 l0_0 a1).f1) x45_2), .int .i64 (wrap64 (a2 + 1))] rfl ma ?_; (with_reducible refine (ih k2 (by have := HJ3.out; have := HK2.out; omega) _ _ l0_0 (rd ((rd_T66 l0_0 a1).f1) x45_2) (wrap64 (a2 + 1)) t146 false _ ?side1 ?side2 A21.out).mono ?_); (case side1 => exact rc HR0_0 HB); (case side2 => exact HC0_0.out); rintro e w28 ⟨rfl, hb⟩; refine ⟨_, rfl, ?_⟩; have n0_ := Aside0.mk (blk_below (g := gb141) (o := .cells #[.slice (some ad142) l0_0.length c0_0] 29 (0, 0)) (bk BK141) hb); have n1_ := Aside0.mk (blk_below (g := gb143) (o := .cells #[.string ((rd_T66 l0_0 a1).f0), .slice (some ad145) ((rd_T66 l0_0 a1).f1).length c142_1] 66 (0, 0)) (bk BK143) hb); have n2_ := Aside0.mk (below_step (bs2 HB GE141 GE143) hb); clear BK141; clear BK143; clear HB; have BK141 := n0_; have BK143 := n1_; have HB := n2_; clear n0_ n1_ n2_; (try clear hb); (try clear hb2); (try clear hk); (try clear hi)))
              go_ret2
              exact ⟨by first | rfl | (simp [errW_none, errW_some] <;> rfl) | (simp [*, errW_none, errW_some] <;> rfl), bs2 HB GE141 GE143⟩
            ·rw [if_neg c20] at H
             have c20b0 : ((rd ((rd_T66 l0_0 a1).f1) x45_2) == x9_2) = false := beq_eq_false_iff_ne.mpr c20; have c20b1 : ((rd ((rd_T66 l0_0 a1).f1) x45_2) != x9_2) = true := bne_iff_ne.mpr c20
             by_cases c29 : ((rd ((rd_T66 l0_0 a1).f1) x45_2) = x9_2)
             ·rw [if_pos c29] at H
              have c29b0 : ((rd ((rd_T66 l0_0 a1).f1) x45_2) == x9_2) = true := beq_iff_eq.mpr c29; have c29b1 : ((rd ((rd_T66 l0_0 a1).f1) x45_2) != x9_2) = false := bne_eq_false_iff_eq.mpr c29; clear c29
              exact absurd (c29b0.symm.trans c20b0) (by decide)
             ·rw [if_neg c29] at H
              have c29b0 : ((rd ((rd_T66 l0_0 a1).f1) x45_2) == x9_2) = false := beq_eq_false_iff_ne.mpr c29; have c29b1 : ((rd ((rd_T66 l0_0 a1).f1) x45_2) != x9_2) = true := bne_iff_ne.mpr c29
              simp only [Option.some.injEq, Prod.mk.injEq] at H
              obtain ⟨rfl, rfl⟩ := H; have p145 : 0 ≤ (x45_2 : Int) := ode; have q145 : x45_2 < (((rd_T66 l0_0 a1).f1).length : Int) := ode; obtain ⟨ad145, e145, hx145_0⟩ := Kd.at_int HR142_1.out x45_2 p145 q145
              cases e145
              replace hx145_0 := cl HB hx145_0; replace p145 := eq_true p145; replace q145 := eq_true q145
              go_wp2
              go_ret2
              exact ⟨by first | rfl | (simp [errW_none, errW_some] <;> rfl) | (simp [*, errW_none, errW_some] <;> rfl), bs2 HB GE141 GE143⟩
           ·rw [if_neg c19] at H
            exact absurd H (by simp)
          ·rw [if_neg c18] at H
           exact absurd H (by simp)
         ·rw [if_neg c17] at H
          have c17b0 : decide (x45_2 < (((rd_T66 l0_0 a1).f1).length : Int)) = false := decide_eq_false c17; clear c17
          simp only [Option.some.injEq, Prod.mk.injEq] at H
          obtain ⟨rfl, rfl⟩ := H
          go_wp2
          go_ret2
          exact ⟨by first | rfl | (simp [errW_none, errW_some] <;> rfl) | (simp [*, errW_none, errW_some] <;> rfl), bs2 HB GE141 GE143⟩
      ·rw [if_neg c12] at H
       have c12b0 : (((rd_T66 l0_0 a1).f0).toList == ([] : List UInt8)) = false := beq_eq_false_iff_ne.mpr c12; have c12b1 : (((rd_T66 l0_0 a1).f0).toList != ([] : List UInt8)) = true := bne_iff_ne.mpr c12
       by_cases c30 : (((rd_T66 l0_0 a1).f1).length : Int) = 0
       ·rw [if_pos c30] at H
        have c30b0 : ((((rd_T66 l0_0 a1).f1).length : Int) == 0) = true := beq_iff_eq.mpr c30; have c30b1 : ((((rd_T66 l0_0 a1).f1).length : Int) != 0) = false := bne_eq_false_iff_eq.mpr c30; clear c30; replace H := Option.bind_eq_some_iff.mp H; obtain ⟨t144, A310, H⟩ := H; replace H : (some (wrap64 (a1 + 1), t144)) = some (r1, r2) := H; have A31 := Aside0.mk A310; clear A310
        simp only [Option.some.injEq, Prod.mk.injEq] at H
        obtain ⟨rfl, rfl⟩ := H; have hcz32_0 : wc.cell? ⟨gb141, 0, none⟩ = some (.slice A0_0 l0_0.length c0_0) := (blk_cell BK141.out 0).trans rfl; have hfz32_0 := blk_frozen BK141.out 0; have p142 : 0 ≤ (a1 : Int) := ode; have q142 : a1 < (l0_0.length : Int) := ode; obtain ⟨ad142, A142_1, c142_1, e142, hx142_0, hx142_1, hl142_1, hi142_1⟩ := at_T66 HR0_0.out a1 p142 q142
        cases e142
        replace hx142_0 := cl HB hx142_0; replace hx142_1 := cl HB hx142_1; have HR142_1 := Aside0.mk hi142_1; have HC142_1 := Aside0.mk hl142_1; clear hi142_1 hl142_1; replace p142 := eq_true p142; replace q142 := eq_true q142
        go_wp2_with (first | ((with_reducible refine gate_dst (N := 8) rfl ?_); refine be 8 #[.string (⟨#[]⟩ : ByteArray), .slice none 0 0] 66 ?_; intro gb143 hg w33 hbox hb; have n0_ := Aside0.mk (blk_below (g := gb141) (o := .cells #[.slice (some ad142) l0_0.length c0_0] 29 (0, 0)) (bk BK141) hb); have n1_ := Aside0.mk (below_step (bs HB GE141) hb); have n2_ := Aside0.mk (hbox); have n3_ := Aside0.mk ((by rw [hg]; exact (below_size (bs HB GE141)) : w.heap.size ≤ gb143)); have n4_ := Aside0.mk ((by rw [hg]; exact (below_size (bs HB GE141)) : w.heap.size ≤ gb143)); have n5_ := Aside0.mk ((by rw [hg]; exact Nat.ne_of_lt (blk_lt (g := gb141) (o := .cells #[.slice (some ad142) l0_0.length c0_0] 29 (0, 0)) (bk BK141)) : gb141 ≠ gb143)); have n6_ := Aside0.mk ((by rw [hg]; exact Nat.ne_of_gt (blk_lt (g := gb141) (o := .cells #[.slice (some ad142) l0_0.length c0_0] 29 (0, 0)) (bk BK141)) : gb143 ≠ gb141)); clear BK141; clear HB; have BK141 := n0_; have HB := n1_; have BK143 := n2_; have GW143 := n3_; have GE143 := n4_; have NB141_143 := n5_; have NB143_141 := n6_; clear n0_ n1_ n2_ n3_ n4_ n5_ n6_; clear hb hbox hg; have hnb34 := NB143_141.out; have hnc34 := NB141_143.out; have hcz35_0 : w33.cell? ⟨gb143, 0, none⟩ = some (.string (⟨#[]⟩ : ByteArray)) := (blk_cell BK143.out 0).trans rfl; have hcz35_1 : w33.cell? ⟨gb143, 1, none⟩ = some (.slice none 0 0) := (blk_cell BK143.out 1).trans rfl; have hfz35_0 := blk_frozen BK143.out 0; have hfz35_1 := blk_frozen BK143.out 1) | (go_at_call 58; (with_reducible refine (impl_atomOk.calls kj3 ((rd_T66 l0_0 a1).f0) t144 _ A31.out).mono ?_); rintro e w' ⟨rfl, ⟨nd, rfl⟩⟩))
        go_ret2
        exact ⟨by first | rfl | (simp [errW_none, errW_some] <;> rfl) | (simp [*, errW_none, errW_some] <;> rfl), bs2 HB GE141 GE143⟩
       ·rw [if_neg c30] at H
        have c30b0 : ((((rd_T66 l0_0 a1).f1).length : Int) == 0) = false := beq_eq_false_iff_ne.mpr c30; have c30b1 : ((((rd_T66 l0_0 a1).f1).length : Int) != 0) = true := bne_iff_ne.mpr c30
        have c30b2 : ¬ (((rd_T66 l0_0 a1).f1) = []) := fun h_ => c30 (by rw [h_]; rfl)
        simp only [Option.some.injEq, Prod.mk.injEq] at H
        obtain ⟨rfl, rfl⟩ := H; have hcz36_0 : wc.cell? ⟨gb141, 0, none⟩ = some (.slice A0_0 l0_0.length c0_0) := (blk_cell BK141.out 0).trans rfl; have hfz36_0 := blk_frozen BK141.out 0; have p142 : 0 ≤ (a1 : Int) := ode; have q142 : a1 < (l0_0.length : Int) := ode; obtain ⟨ad142, A142_1, c142_1, e142, hx142_0, hx142_1, hl142_1, hi142_1⟩ := at_T66 HR0_0.out a1 p142 q142
        cases e142
        replace hx142_0 := cl HB hx142_0; replace hx142_1 := cl HB hx142_1; have HR142_1 := Aside0.mk hi142_1; have HC142_1 := Aside0.mk hl142_1; clear hi142_1 hl142_1; replace p142 := eq_true p142; replace q142 := eq_true q142
        go_wp2_with (first | ((with_reducible refine gate_dst (N := 8) rfl ?_); refine be 8 #[.string (⟨#[]⟩ : ByteArray), .slice none 0 0] 66 ?_; intro gb143 hg w37 hbox hb; have n0_ := Aside0.mk (blk_below (g := gb141) (o := .cells #[.slice (some ad142) l0_0.length c0_0] 29 (0, 0)) (bk BK141) hb); have n1_ := Aside0.mk (below_step (bs HB GE141) hb); have n2_ := Aside0.mk (hbox); have n3_ := Aside0.mk ((by rw [hg]; exact (below_size (bs HB GE141)) : w.heap.size ≤ gb143)); have n4_ := Aside0.mk ((by rw [hg]; exact (below_size (bs HB GE141)) : w.heap.size ≤ gb143)); have n5_ := Aside0.mk ((by rw [hg]; exact Nat.ne_of_lt (blk_lt (g := gb141) (o := .cells #[.slice (some ad142) l0_0.length c0_0] 29 (0, 0)) (bk BK141)) : gb141 ≠ gb143)); have n6_ := Aside0.mk ((by rw [hg]; exact Nat.ne_of_gt (blk_lt (g := gb141) (o := .cells #[.slice (some ad142) l0_0.length c0_0] 29 (0, 0)) (bk BK141)) : gb143 ≠ gb141)); clear BK141; clear HB; have BK141 := n0_; have HB := n1_; have BK143 := n2_; have GW143 := n3_; have GE143 := n4_; have NB141_143 := n5_; have NB143_141 := n6_; clear n0_ n1_ n2_ n3_ n4_ n5_ n6_; clear hb hbox hg; have hnb38 := NB143_141.out; have hnc38 := NB141_143.out; have hcz39_0 : w37.cell? ⟨gb143, 0, none⟩ = some (.string (⟨#[]⟩ : ByteArray)) := (blk_cell BK143.out 0).trans rfl; have hcz39_1 : w37.cell? ⟨gb143, 1, none⟩ = some (.slice none 0 0) := (blk_cell BK143.out 1).trans rfl; have hfz39_0 := blk_frozen BK143.out 0; have hfz39_1 := blk_frozen BK143.out 1))
        go_ret2
        exact ⟨by first | rfl | (simp [errW_none, errW_some] <;> rfl) | (simp [*, errW_none, errW_some] <;> rfl), bs2 HB GE141 GE143⟩
     ·rw [if_neg c11] at H
      exact absurd H (by simp)
    ·rw [if_neg c10] at H
     exact absurd H (by simp)

/-! ### impl_TreeOk: function 19 -/
def impl_TreeOk.f (k : Nat) (l0_0 : List (S66)) : Option (Bool) := if (l0_0.length : Int) < 1 then (some false) else (if (l0_0.length : Int) > 2000 then (some false) else ((impl_Tree_below.f k l0_0 0 0).bind fun bt149 => (if bt149.2 = true then (some (bt149.1 == (l0_0.length : Int))) else (some false))))
set_option maxHeartbeats 8000000 in
set_option maxRecDepth 100000 in
theorem impl_TreeOk.calls (k : Nat) (A0_0 : Option Addr) (c0_0 : Nat) (l0_0 : List (S66)) (r : Bool) (w : World) (hr0_0 : Kd.C k66 w A0_0 l0_0.length l0_0) (hc0_0 : l0_0.length ≤ c0_0) (h : impl_TreeOk.f k l0_0 = some r) :
  Calls Try.prog 19 #[.agg #[.slice A0_0 l0_0.length c0_0]] w fun e w' => e = .returned (.bool r) ∧ Below w.heap.size w w' := by
 have hu29 := Try.underlying29; have HR0_0 := Aside0.mk hr0_0; have HC0_0 := Aside0.mk hc0_0; clear hr0_0 hc0_0; have HB := Aside0.mk (Below.refl w.heap.size w); have H : (if (l0_0.length : Int) < 1 then (some false) else (if (l0_0.length : Int) > 2000 then (some false) else ((impl_Tree_below.f k l0_0 0 0).bind fun bt149 => (if bt149.2 = true then (some (bt149.1 == (l0_0.length : Int))) else (some false))))) = some r := h; clear h
 by_cases c2 : (l0_0.length : Int) < 1
 ·rw [if_pos c2] at H
  have c2b0 : decide ((l0_0.length : Int) < 1) = true := decide_eq_true c2; have c2b1 : decide (l0_0.length < 1) = true := decide_eq_true (by omega); clear c2; obtain rfl := Option.some.inj H
  go_enter Try.func19, Try.ntmps19
  go_wp2_with (first | ((with_reducible refine gate_dst (N := 1) rfl ?_); (try (refine gate_guard (by rfl) ?_; dsimp only)); refine be 1 #[.slice A0_0 l0_0.length c0_0] 29 ?_; intro gb148 hg w3 hbox hb; have n0_ := Aside0.mk (below_step (bl HB) hb); have n1_ := Aside0.mk (hbox); have n2_ := Aside0.mk (gs HB hg); have n3_ := Aside0.mk (gs HB hg); clear HB; have HB := n0_; have BK148 := n1_; have GW148 := n2_; have GE148 := n3_; clear n0_ n1_ n2_ n3_; clear hb hbox hg; have hcz4_0 : w3.cell? ⟨gb148, 0, none⟩ = some (.slice A0_0 l0_0.length c0_0) := (blk_cell BK148.out 0).trans rfl; have hfz4_0 := blk_frozen BK148.out 0))
  go_ret
  exact ⟨by first | rfl | (simp [errW_none, errW_some] <;> rfl) | (simp [*, errW_none, errW_some] <;> rfl), bs HB GE148⟩
 ·rw [if_neg c2] at H
  have c2b0 : decide ((l0_0.length : Int) < 1) = false := decide_eq_false c2; have c2b1 : decide (l0_0.length < 1) = false := decide_eq_false (by omega); clear c2
  by_cases c5 : (l0_0.length : Int) > 2000
  ·rw [if_pos c5] at H
   have c5b0 : decide (2000 < (l0_0.length : Int)) = true := decide_eq_true c5; have c5b1 : decide (2000 < l0_0.length) = true := decide_eq_true (by omega); clear c5; obtain rfl := Option.some.inj H
   go_enter Try.func19, Try.ntmps19
   go_wp2_with (first | ((with_reducible refine gate_dst (N := 1) rfl ?_); (try (refine gate_guard (by rfl) ?_; dsimp only)); refine be 1 #[.slice A0_0 l0_0.length c0_0] 29 ?_; intro gb148 hg w6 hbox hb; have n0_ := Aside0.mk (below_step (bl HB) hb); have n1_ := Aside0.mk (hbox); have n2_ := Aside0.mk (gs HB hg); have n3_ := Aside0.mk (gs HB hg); clear HB; have HB := n0_; have BK148 := n1_; have GW148 := n2_; have GE148 := n3_; clear n0_ n1_ n2_ n3_; clear hb hbox hg; have hcz7_0 : w6.cell? ⟨gb148, 0, none⟩ = some (.slice A0_0 l0_0.length c0_0) := (blk_cell BK148.out 0).trans rfl; have hfz7_0 := blk_frozen BK148.out 0))
   go_ret
   exact ⟨by first | rfl | (simp [errW_none, errW_some] <;> rfl) | (simp [*, errW_none, errW_some] <;> rfl), bs HB GE148⟩
  ·rw [if_neg c5] at H
   have c5b0 : decide (2000 < (l0_0.length : Int)) = false := decide_eq_false c5; have c5b1 : decide (2000 < l0_0.length) = false := decide_eq_false (by omega); clear c5; replace H := Option.bind_eq_some_iff.mp H; obtain ⟨⟨t149, t150⟩, A80, H⟩ := H; replace H : (if t150 = true then (some (t149 == (l0_0.length : Int))) else (some false)) = some r := H; have A8 := Aside0.mk A80; clear A80
   by_cases c9 : t150 = true
   ·subst c9
    have H1 : (some (t149 == (l0_0.length : Int))) = some r := by rw [if_pos rfl] at H; exact H
    clear H; have H := H1; clear H1; obtain rfl := Option.some.inj H
    go_enter Try.func19, Try.ntmps19
    go_wp2_with (first | ((with_reducible refine gate_dst (N := 1) rfl ?_); (try (refine gate_guard (by rfl) ?_; dsimp only)); refine be 1 #[.slice A0_0 l0_0.length c0_0] 29 ?_; intro gb148 hg w10 hbox hb; have n0_ := Aside0.mk (below_step (bl HB) hb); have n1_ := Aside0.mk (hbox); have n2_ := Aside0.mk (gs HB hg); have n3_ := Aside0.mk (gs HB hg); clear HB; have HB := n0_; have BK148 := n1_; have GW148 := n2_; have GE148 := n3_; clear n0_ n1_ n2_ n3_; clear hb hbox hg; have hcz11_0 : w10.cell? ⟨gb148, 0, none⟩ = some (.slice A0_0 l0_0.length c0_0) := (blk_cell BK148.out 0).trans rfl; have hfz11_0 := blk_frozen BK148.out 0) | ((with_reducible refine gate_callee (f := 40) rfl ?_); refine goesL_ (some 17) rfl rfl Try.func40 (by kernel_rfl) rfl #[.agg #[.slice A0_0 l0_0.length c0_0], .int .i64 0, .int .i64 0] rfl ma ?_; (with_reducible refine (impl_Tree_below.calls k _ _ l0_0 0 0 t149 true _ ?side1 ?side2 A8.out).mono ?_); (case side1 => exact rc HR0_0 HB); (case side2 => exact HC0_0.out); rintro e w12 ⟨rfl, hb⟩; refine ⟨_, rfl, ?_⟩; have n0_ := Aside0.mk (blk_below (g := gb148) (o := .cells #[.slice A0_0 l0_0.length c0_0] 29 (0, 0)) (bk BK148) hb); have n1_ := Aside0.mk (below_step (bs HB GE148) hb); clear BK148; clear HB; have BK148 := n0_; have HB := n1_; clear n0_ n1_; (try clear hb); (try clear hb2); (try clear hk); (try clear hi); have hcz13_0 : w12.cell? ⟨gb148, 0, none⟩ = some (.slice A0_0 l0_0.length c0_0) := (blk_cell BK148.out 0).trans rfl; have hfz13_0 := blk_frozen BK148.out 0))
    go_ret
    exact ⟨by first | rfl | (simp [errW_none, errW_some] <;> rfl) | (simp [*, errW_none, errW_some] <;> rfl), bs HB GE148⟩
   ·replace c9 := Bool.eq_false_iff.mpr c9
    subst c9
    have H1 : (some false) = some r := by rw [if_neg (show ¬ (false = true) by decide)] at H; exact H
    clear H; have H := H1; clear H1; obtain rfl := Option.some.inj H
    go_enter Try.func19, Try.ntmps19
    go_wp2_with (first | ((with_reducible refine gate_dst (N := 1) rfl ?_); (try (refine gate_guard (by rfl) ?_; dsimp only)); refine be 1 #[.slice A0_0 l0_0.length c0_0] 29 ?_; intro gb148 hg w14 hbox hb; have n0_ := Aside0.mk (below_step (bl HB) hb); have n1_ := Aside0.mk (hbox); have n2_ := Aside0.mk (gs HB hg); have n3_ := Aside0.mk (gs HB hg); clear HB; have HB := n0_; have BK148 := n1_; have GW148 := n2_; have GE148 := n3_; clear n0_ n1_ n2_ n3_; clear hb hbox hg; have hcz15_0 : w14.cell? ⟨gb148, 0, none⟩ = some (.slice A0_0 l0_0.length c0_0) := (blk_cell BK148.out 0).trans rfl; have hfz15_0 := blk_frozen BK148.out 0) | ((with_reducible refine gate_callee (f := 40) rfl ?_); refine goesL_ (some 17) rfl rfl Try.func40 (by kernel_rfl) rfl #[.agg #[.slice A0_0 l0_0.length c0_0], .int .i64 0, .int .i64 0] rfl ma ?_; (with_reducible refine (impl_Tree_below.calls k _ _ l0_0 0 0 t149 false _ ?side1 ?side2 A8.out).mono ?_); (case side1 => exact rc HR0_0 HB); (case side2 => exact HC0_0.out); rintro e w16 ⟨rfl, hb⟩; refine ⟨_, rfl, ?_⟩; have n0_ := Aside0.mk (blk_below (g := gb148) (o := .cells #[.slice A0_0 l0_0.length c0_0] 29 (0, 0)) (bk BK148) hb); have n1_ := Aside0.mk (below_step (bs HB GE148) hb); clear BK148; clear HB; have BK148 := n0_; have HB := n1_; clear n0_ n1_; (try clear hb); (try clear hb2); (try clear hk); (try clear hi)))
    go_ret
    exact ⟨by first | rfl | (simp [errW_none, errW_some] <;> rfl) | (simp [*, errW_none, errW_some] <;> rfl), bs HB GE148⟩

-- NOT PRINTED: function 64 (abi_NoEscape)

-- NOT PRINTED: function 61 (strings_Builder_copyCheck)

-- NOT PRINTED: function 45 (strings_Builder_WriteString)

-- NOT PRINTED: function 46 (strings_Builder_WriteByte)

-- NOT PRINTED: function 25 (impl_Tree_write)

-- NOT PRINTED: function 26 (strings_Builder_Len)

-- NOT PRINTED: function 27 (strings_Builder_String)

end Go.Proofs.Ytjjlcmfjmdfedaa.PFnTreeBack
