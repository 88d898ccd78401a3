-- Written by a program of this session (a turned copy of the kit's printer); Lean checks it.
-- half the depth
import Derived.Test.YtjjlcmfjmdfedaaPFnExactWriteTreex0
import Derived.Test.YtjjlcmfjmdfedaaPFnExactWriteTreex1
namespace Go.Proofs.Ytjjlcmfjmdfedaa.PFnExactWriteTree
open Go.RowKit Go.Proofs.YtjjlcmfjmdfedaaW.PrintWords Go.Proofs.YtjjlcmfjmdfedaaW.PrintLast Go.Proofs.YtjjlcmfjmdfedaaW.PrintMore
attribute [local go_sem] max2_int min2_int max_two min_two max_three min_three max_four min_four   -- for this text's walks alone
set_option linter.unusedVariables false
set_option linter.unusedSimpArgs false

/-! ### spec_l2Walk: function 43 -/
mutual
def spec_l2Walk.j0 : Nat → Int → Int → Bool → List (S66) → ByteArray → List Int → Option (Int)
 | 0, _, _, _, _, _, _ => none
 | k + 1, x1, x2, x33, x108000, x110000, x110001 => if x33 = true then (some (-1)) else (spec_l2Walk.l0 k x2 (wrap64 (x1 + 1)) 0 x108000 x110000 x110001)
def spec_l2Walk.l0 : Nat → Int → Int → Int → List (S66) → ByteArray → List Int → Option (Int)
 | 0, _, _, _, _, _, _ => none
 | k + 1, x2, x8, x9, x108000, x110000, x110001 => if x9 < (x110001.length : Int) then (if 0 ≤ x9 then (if (rd x110001 x9) = x8 then (spec_l2Walk.j2 k x2 x8 x9 (decide (x8 ≥ (x108000.length : Int))) x108000 x110000 x110001) else (spec_l2Walk.j2 k x2 x8 x9 true x108000 x110000 x110001)) else (none)) else (some x8)
def spec_l2Walk.j2 : Nat → Int → Int → Int → Bool → List (S66) → ByteArray → List Int → Option (Int)
 | 0, _, _, _, _, _, _, _ => none
 | k + 1, x2, x8, x9, x56, x108000, x110000, x110001 => if x56 = true then (some (-1)) else ((spec_l2Walk.f k x108000 x8 (wrap64 (x2 + 1))).bind fun t112 => (if t112 < 0 then (some (-1)) else (spec_l2Walk.l0 k x2 t112 (wrap64 (x9 + 1)) x108000 x110000 x110001)))
def spec_l2Walk.f : Nat → List (S66) → Int → Int → Option (Int)
 | 0, _, _, _ => none
 | k + 1, l0_0, a1, a2 => if 0 ≤ a1 then (if a1 < (l0_0.length : Int) then (if a2 > 100 then (spec_l2Walk.j0 k a1 a2 true l0_0 ((rd_T66 l0_0 a1).f0) ((rd_T66 l0_0 a1).f1)) else (if ((rd_T66 l0_0 a1).f0).toList = ([] : List UInt8) then (spec_l2Walk.j0 k a1 a2 false l0_0 ((rd_T66 l0_0 a1).f0) ((rd_T66 l0_0 a1).f1)) else ((spec_l2Atom.f k ((rd_T66 l0_0 a1).f0)).bind fun t110 => (if t110 = true then (spec_l2Walk.j0 k a1 a2 (decide ((((rd_T66 l0_0 a1).f1).length : Int) > 0)) l0_0 ((rd_T66 l0_0 a1).f0) ((rd_T66 l0_0 a1).f1)) else (spec_l2Walk.j0 k a1 a2 true l0_0 ((rd_T66 l0_0 a1).f0) ((rd_T66 l0_0 a1).f1)))))) else (none)) else (none)
end
set_option maxHeartbeats 8000000 in
set_option maxRecDepth 100000 in
theorem spec_l2Walk.calls (k : Nat) : ∀ (A0_0 : Option Addr) (c0_0 : Nat) (l0_0 : List (S66)) (a1 : Int) (a2 : Int) (r : Int) (w : World) (hr0_0 : Kd.C k66 w A0_0 l0_0.length l0_0) (hc0_0 : l0_0.length ≤ c0_0) (h : spec_l2Walk.f k l0_0 a1 a2 = some r),
  Calls Try.prog 43 #[.agg #[.slice A0_0 l0_0.length c0_0], .int .i64 a1, .int .i64 a2] w fun e w' => e = .returned (.int .i64 r) ∧ Below w.heap.size w w' := by
 induction k using Nat.strongRecOn with
 | _ k ih =>
 intro A0_0 c0_0 l0_0 a1 a2 r w hr0_0 hc0_0 h
 cases k with
 | zero => exact absurd h (by simp [spec_l2Walk.f])
 | succ k =>
 simp only [spec_l2Walk.f] at h
 have hu29 := Try.underlying29; have hu66 := Try.underlying66; have HR0_0 := Aside0.mk hr0_0; have HC0_0 := Aside0.mk hc0_0; clear hr0_0 hc0_0; have HB := Aside0.mk (Below.refl w.heap.size w); have H : (if 0 ≤ a1 then (if a1 < (l0_0.length : Int) then (if a2 > 100 then (spec_l2Walk.j0 k a1 a2 true l0_0 ((rd_T66 l0_0 a1).f0) ((rd_T66 l0_0 a1).f1)) else (if ((rd_T66 l0_0 a1).f0).toList = ([] : List UInt8) then (spec_l2Walk.j0 k a1 a2 false l0_0 ((rd_T66 l0_0 a1).f0) ((rd_T66 l0_0 a1).f1)) else ((spec_l2Atom.f k ((rd_T66 l0_0 a1).f0)).bind fun t110 => (if t110 = true then (spec_l2Walk.j0 k a1 a2 (decide ((((rd_T66 l0_0 a1).f1).length : Int) > 0)) l0_0 ((rd_T66 l0_0 a1).f0) ((rd_T66 l0_0 a1).f1)) else (spec_l2Walk.j0 k a1 a2 true l0_0 ((rd_T66 l0_0 a1).f0) ((rd_T66 l0_0 a1).f1)))))) else (none)) else (none)) = some r := h; clear h
 by_cases c4 : 0 ≤ a1
 ·rw [if_pos c4] at H
  have c4b0 : decide (0 ≤ a1) = true := decide_eq_true c4; clear c4
  by_cases c5 : a1 < (l0_0.length : Int)
  ·rw [if_pos c5] at H
   have c5b0 : decide (a1 < (l0_0.length : Int)) = true := decide_eq_true c5; clear c5; have HC6 := Aside0.mk H; clear H
   go_enter Try.func43, Try.ntmps43
   go_upto_region 2 with (first | ((with_reducible refine gate_dst (N := 3) rfl ?_); (try (refine gate_guard (by rfl) ?_; dsimp only)); refine be 3 #[.slice A0_0 l0_0.length c0_0] 29 ?_; intro gb107 hg w7 hbox hb; have n0_ := Aside0.mk (below_step (bl HB) hb); have n1_ := Aside0.mk (hbox); have n2_ := Aside0.mk (gs HB hg); have n3_ := Aside0.mk (gs HB hg); clear HB; have HB := n0_; have BK107 := n1_; have GW107 := n2_; have GE107 := n3_; clear n0_ n1_ n2_ n3_; clear hb hbox hg; have hcz8_0 : w7.cell? ⟨gb107, 0, none⟩ = some (.slice A0_0 l0_0.length c0_0) := (blk_cell BK107.out 0).trans rfl; have hfz8_0 := blk_frozen BK107.out 0; have p108 : 0 ≤ (a1 : Int) := ode; have q108 : a1 < (l0_0.length : Int) := ode; obtain ⟨ad108, A108_1, c108_1, e108, hx108_0, hx108_1, hl108_1, hi108_1⟩ := at_T66 HR0_0.out a1 p108 q108; cases e108; replace hx108_0 := cl HB hx108_0; replace hx108_1 := cl HB hx108_1; have HR108_1 := Aside0.mk hi108_1; have HC108_1 := Aside0.mk hl108_1; clear hi108_1 hl108_1; replace p108 := eq_true p108; replace q108 := eq_true q108) | ((with_reducible refine gate_dst (N := 7) rfl ?_); (try (refine gate_guard (by rfl) ?_; dsimp only)); refine be 7 #[.string (⟨#[]⟩ : ByteArray), .slice none 0 0] 66 ?_; intro gb109 hg w9 hbox hb; have n0_ := Aside0.mk (blk_below (g := gb107) (o := .cells #[.slice (some ad108) l0_0.length c0_0] 29 (0, 0)) (bk BK107) hb); have n1_ := Aside0.mk (below_step (bs HB GE107) hb); have n2_ := Aside0.mk (hbox); have n3_ := Aside0.mk ((by rw [hg]; exact (below_size (bs HB GE107)) : w.heap.size ≤ gb109)); have n4_ := Aside0.mk ((by rw [hg]; exact (below_size (bs HB GE107)) : w.heap.size ≤ gb109)); have n5_ := Aside0.mk ((by rw [hg]; exact Nat.ne_of_lt (blk_lt (g := gb107) (o := .cells #[.slice (some ad108) l0_0.length c0_0] 29 (0, 0)) (bk BK107)) : gb107 ≠ gb109)); have n6_ := Aside0.mk ((by rw [hg]; exact Nat.ne_of_gt (blk_lt (g := gb107) (o := .cells #[.slice (some ad108) l0_0.length c0_0] 29 (0, 0)) (bk BK107)) : gb109 ≠ gb107)); clear BK107; clear HB; have BK107 := n0_; have HB := n1_; have BK109 := n2_; have GW109 := n3_; have GE109 := n4_; have NB107_109 := n5_; have NB109_107 := n6_; clear n0_ n1_ n2_ n3_ n4_ n5_ n6_; clear hb hbox hg; have hnb10 := NB109_107.out; have hnc10 := NB107_109.out; have hcz11_0 : w9.cell? ⟨gb109, 0, none⟩ = some (.string (⟨#[]⟩ : ByteArray)) := (blk_cell BK109.out 0).trans rfl; have hcz11_1 : w9.cell? ⟨gb109, 1, none⟩ = some (.slice none 0 0) := (blk_cell BK109.out 1).trans rfl; have hfz11_0 := blk_frozen BK109.out 0; have hfz11_1 := blk_frozen BK109.out 1))
   (try simp only [Act.put, List.setIfInBounds_toArray, List.set_cons_zero, List.set_cons_succ])
   go_cut [33] (fun v33 wc => ∃ (kq : Nat) (x33_5 : Bool), v33 = .bool x33_5 ∧ Aside0 (spec_l2Walk.j0 kq a1 a2 x33_5 l0_0 ((rd_T66 l0_0 a1).f0) ((rd_T66 l0_0 a1).f1) = some r) ∧ Aside0 (kq ≤ k) ∧ Aside0 (wc.heap[gb107]? = some (.cells #[(.slice (some ad108) l0_0.length c0_0)] 29 (0, 0))) ∧ Aside0 (wc.heap[gb109]? = some (.cells #[.string ((rd_T66 l0_0 a1).f0), (.slice A108_1 ((rd_T66 l0_0 a1).f1).length c108_1)] 66 (0, 0))) ∧ Aside0 (Below w.heap.size w wc))
   case first =>
    have H := HC6.out; clear HC6
    by_cases c12 : a2 > 100
    ·rw [if_pos c12] at H
     have c12b0 : decide (100 < a2) = true := decide_eq_true c12; clear c12
     (first | rw [c12b0] | (simp only [i64_w, i32_w]; rw [c12b0]) | skip)
     have H' := Aside0.mk H; clear H
     go_wp2
     go_meet
     case rel => exact ⟨_, (true), au, H', ⟨by first | omega | exact Nat.le_refl _⟩, ⟨by (with_reducible repeat (first | refine blk_drewN ?_ _ | refine blk_drew ?_ | refine blk_alloc ?_ _)); refine blk_far ?_ NB107_109.out _; (with_reducible repeat (first | refine blk_drewN ?_ _ | refine blk_drew ?_ | refine blk_alloc ?_ _)); refine blk_far ?_ NB107_109.out _; (with_reducible repeat (first | refine blk_drewN ?_ _ | refine blk_drew ?_ | refine blk_alloc ?_ _)); exact BK107.out⟩, ⟨by refine bd ?_; refine blk_put (cs := #[.string ((rd_T66 l0_0 a1).f0), .slice none 0 0]) ?_ 1 _ rfl; refine bd ?_; refine blk_put (cs := #[.string (⟨#[]⟩ : ByteArray), .slice none 0 0]) ?_ 0 _ rfl; (with_reducible repeat (first | refine blk_drewN ?_ _ | refine blk_drew ?_ | refine blk_alloc ?_ _)); exact BK109.out⟩, ⟨bs2 HB GE107 GE109⟩⟩
    ·rw [if_neg c12] at H
     have c12b0 : decide (100 < a2) = false := decide_eq_false c12; clear c12
     (first | rw [c12b0] | (simp only [i64_w, i32_w]; rw [c12b0]) | skip)
     by_cases c13 : ((rd_T66 l0_0 a1).f0).toList = ([] : List UInt8)
     ·rw [if_pos c13] at H
      have c13b0 : (((rd_T66 l0_0 a1).f0).toList == ([] : List UInt8)) = true := beq_iff_eq.mpr c13; have c13b1 : (((rd_T66 l0_0 a1).f0).toList != ([] : List UInt8)) = false := bne_eq_false_iff_eq.mpr c13; clear c13; have H' := Aside0.mk H; clear H; have hnb14 := NB109_107.out; have hnc14 := NB107_109.out; have hcz15_0 : w9.cell? ⟨gb109, 0, none⟩ = some (.string (⟨#[]⟩ : ByteArray)) := (blk_cell BK109.out 0).trans rfl; have hcz15_1 : w9.cell? ⟨gb109, 1, none⟩ = some (.slice none 0 0) := (blk_cell BK109.out 1).trans rfl; have hfz15_0 := blk_frozen BK109.out 0; have hfz15_1 := blk_frozen BK109.out 1
      go_wp2
      go_meet
      case rel => exact ⟨_, (false), au, H', ⟨by first | omega | exact Nat.le_refl _⟩, ⟨by (with_reducible repeat (first | refine blk_drewN ?_ _ | refine blk_drew ?_ | refine blk_alloc ?_ _)); refine blk_far ?_ NB107_109.out _; (with_reducible repeat (first | refine blk_drewN ?_ _ | refine blk_drew ?_ | refine blk_alloc ?_ _)); refine blk_far ?_ NB107_109.out _; (with_reducible repeat (first | refine blk_drewN ?_ _ | refine blk_drew ?_ | refine blk_alloc ?_ _)); exact BK107.out⟩, ⟨by refine bd ?_; refine blk_put (cs := #[.string ((rd_T66 l0_0 a1).f0), .slice none 0 0]) ?_ 1 _ rfl; refine bd ?_; refine blk_put (cs := #[.string (⟨#[]⟩ : ByteArray), .slice none 0 0]) ?_ 0 _ rfl; (with_reducible repeat (first | refine blk_drewN ?_ _ | refine blk_drew ?_ | refine blk_alloc ?_ _)); exact BK109.out⟩, ⟨bs2 HB GE107 GE109⟩⟩
     ·rw [if_neg c13] at H
      have c13b0 : (((rd_T66 l0_0 a1).f0).toList == ([] : List UInt8)) = false := beq_eq_false_iff_ne.mpr c13; have c13b1 : (((rd_T66 l0_0 a1).f0).toList != ([] : List UInt8)) = true := bne_iff_ne.mpr c13; replace H := Option.bind_eq_some_iff.mp H; obtain ⟨t110, A160, H⟩ := H; replace H : (if t110 = true then (spec_l2Walk.j0 k a1 a2 (decide ((((rd_T66 l0_0 a1).f1).length : Int) > 0)) l0_0 ((rd_T66 l0_0 a1).f0) ((rd_T66 l0_0 a1).f1)) else (spec_l2Walk.j0 k a1 a2 true l0_0 ((rd_T66 l0_0 a1).f0) ((rd_T66 l0_0 a1).f1))) = some r := H; have A16 := Aside0.mk A160; clear A160
      by_cases c17 : t110 = true
      ·subst c17
       have H1 : (spec_l2Walk.j0 k a1 a2 (decide ((((rd_T66 l0_0 a1).f1).length : Int) > 0)) l0_0 ((rd_T66 l0_0 a1).f0) ((rd_T66 l0_0 a1).f1)) = some r := by rw [if_pos rfl] at H; exact H
       clear H; have H := H1; clear H1; have H' := Aside0.mk H; clear H; have hnb18 := NB109_107.out; have hnc18 := NB107_109.out; have hcz19_0 : w9.cell? ⟨gb109, 0, none⟩ = some (.string (⟨#[]⟩ : ByteArray)) := (blk_cell BK109.out 0).trans rfl; have hcz19_1 : w9.cell? ⟨gb109, 1, none⟩ = some (.slice none 0 0) := (blk_cell BK109.out 1).trans rfl; have hfz19_0 := blk_frozen BK109.out 0; have hfz19_1 := blk_frozen BK109.out 1
       go_wp2_with (first | (go_at_call 48; (with_reducible refine (spec_l2Atom.calls k ((rd_T66 l0_0 a1).f0) true _ A16.out).mono ?_); rintro e w' ⟨rfl, ⟨nd, rfl⟩⟩))
       go_meet
       case rel => exact ⟨_, (decide ((((rd_T66 l0_0 a1).f1).length : Int) > 0)), au, H', ⟨by first | omega | exact Nat.le_refl _⟩, ⟨by (with_reducible repeat (first | refine blk_drewN ?_ _ | refine blk_drew ?_ | refine blk_alloc ?_ _)); refine blk_far ?_ NB107_109.out _; (with_reducible repeat (first | refine blk_drewN ?_ _ | refine blk_drew ?_ | refine blk_alloc ?_ _)); refine blk_far ?_ NB107_109.out _; (with_reducible repeat (first | refine blk_drewN ?_ _ | refine blk_drew ?_ | refine blk_alloc ?_ _)); exact BK107.out⟩, ⟨by refine bd ?_; refine blk_put (cs := #[.string ((rd_T66 l0_0 a1).f0), .slice none 0 0]) ?_ 1 _ rfl; refine bd ?_; refine blk_put (cs := #[.string (⟨#[]⟩ : ByteArray), .slice none 0 0]) ?_ 0 _ rfl; (with_reducible repeat (first | refine blk_drewN ?_ _ | refine blk_drew ?_ | refine blk_alloc ?_ _)); exact BK109.out⟩, ⟨bs2 HB GE107 GE109⟩⟩
      ·replace c17 := Bool.eq_false_iff.mpr c17
       subst c17
       have H1 : (spec_l2Walk.j0 k a1 a2 true l0_0 ((rd_T66 l0_0 a1).f0) ((rd_T66 l0_0 a1).f1)) = some r := by rw [if_neg (show ¬ (false = true) by decide)] at H; exact H
       clear H; have H := H1; clear H1; have H' := Aside0.mk H; clear H; have hnb20 := NB109_107.out; have hnc20 := NB107_109.out; have hcz21_0 : w9.cell? ⟨gb109, 0, none⟩ = some (.string (⟨#[]⟩ : ByteArray)) := (blk_cell BK109.out 0).trans rfl; have hcz21_1 : w9.cell? ⟨gb109, 1, none⟩ = some (.slice none 0 0) := (blk_cell BK109.out 1).trans rfl; have hfz21_0 := blk_frozen BK109.out 0; have hfz21_1 := blk_frozen BK109.out 1
       go_wp2_with (first | (go_at_call 48; (with_reducible refine (spec_l2Atom.calls k ((rd_T66 l0_0 a1).f0) false _ A16.out).mono ?_); rintro e w' ⟨rfl, ⟨nd, rfl⟩⟩))
       go_meet
       case rel => exact ⟨_, (true), au, H', ⟨by first | omega | exact Nat.le_refl _⟩, ⟨by (with_reducible repeat (first | refine blk_drewN ?_ _ | refine blk_drew ?_ | refine blk_alloc ?_ _)); refine blk_far ?_ NB107_109.out _; (with_reducible repeat (first | refine blk_drewN ?_ _ | refine blk_drew ?_ | refine blk_alloc ?_ _)); refine blk_far ?_ NB107_109.out _; (with_reducible repeat (first | refine blk_drewN ?_ _ | refine blk_drew ?_ | refine blk_alloc ?_ _)); exact BK107.out⟩, ⟨by refine bd ?_; refine blk_put (cs := #[.string ((rd_T66 l0_0 a1).f0), .slice none 0 0]) ?_ 1 _ rfl; refine bd ?_; refine blk_put (cs := #[.string (⟨#[]⟩ : ByteArray), .slice none 0 0]) ?_ 0 _ rfl; (with_reducible repeat (first | refine blk_drewN ?_ _ | refine blk_drew ?_ | refine blk_alloc ?_ _)); exact BK109.out⟩, ⟨bs2 HB GE107 GE109⟩⟩
   case rest =>
    clear HC6
    try clear c1
    try clear p1
    try clear q1
    try clear hx1
    try clear c2
    try clear p2
    try clear c4
    try clear c4b0
    try clear c5
    try clear c5b0
    try clear c10
    try clear p10
    try clear q10
    try clear hx10
    try clear c12
    try clear c12b0
    try clear c13
    try clear c13b0
    try clear c13b1
    try clear c14
    try clear c17
    try clear c18
    try clear c20
    try clear hcz11_0
    try clear hcz11_1
    try clear hcz15_0
    try clear hcz15_1
    try clear hcz19_0
    try clear hcz19_1
    try clear hcz21_0
    try clear hcz21_1
    try clear hcz8_0
    try clear hfz11_0
    try clear hfz11_1
    try clear hfz15_0
    try clear hfz15_1
    try clear hfz19_0
    try clear hfz19_1
    try clear hfz21_0
    try clear hfz21_1
    try clear hfz8_0
    try clear hx108_0
    try clear hx108_1
    try clear p108
    try clear q108
    obtain ⟨kq, x33_5, rfl, HA, HJ5, BK107, BK109, HB⟩ := hcut
    cases kq with
    | zero => exact absurd HA.out (by simp [spec_l2Walk.j0])
    | succ kj5 =>
     have H := HA.out; clear HA
     simp only [spec_l2Walk.j0] at H
     by_cases c22 : x33_5 = true
     ·subst c22
      have H1 : (some (-1)) = some r := by rw [if_pos rfl] at H; exact H
      clear H; have H := H1; clear H1; obtain rfl := Option.some.inj H
      go_wp2
      go_ret
      exact ⟨by first | rfl | (simp [errW_none, errW_some] <;> rfl) | (simp [*, errW_none, errW_some] <;> rfl), bs2 HB GE107 GE109⟩
     ·replace c22 := Bool.eq_false_iff.mpr c22
      subst c22
      have H1 : (spec_l2Walk.l0 kj5 a2 (wrap64 (a1 + 1)) 0 l0_0 ((rd_T66 l0_0 a1).f0) ((rd_T66 l0_0 a1).f1)) = some r := by rw [if_neg (show ¬ (false = true) by decide)] at H; exact H
      clear H; have H := H1; clear H1; have H' := Aside0.mk H; clear H
      go_wp2
      go_loopg [8, 9] kj5 (fun kq v8 v9 w' => ∃ (x8_2 : Int) (x9_2 : Int), v8 = .int .i64 x8_2 ∧ v9 = .int .i64 x9_2 ∧ Aside0 (spec_l2Walk.l0 kq a2 x8_2 x9_2 l0_0 ((rd_T66 l0_0 a1).f0) ((rd_T66 l0_0 a1).f1) = some r) ∧ Aside0 (kq ≤ kj5) ∧ Aside0 (w'.heap[gb107]? = some (.cells #[(.slice (some ad108) l0_0.length c0_0)] 29 (0, 0))) ∧ Aside0 (w'.heap[gb109]? = some (.cells #[.string ((rd_T66 l0_0 a1).f0), (.slice A108_1 ((rd_T66 l0_0 a1).f1).length c108_1)] 66 (0, 0))) ∧ Aside0 (Below w.heap.size w w'))
      case atStart => exact ⟨(wrap64 (a1 + 1)), (0), au, au, H', ⟨Nat.le_refl _⟩, ⟨bk BK107⟩, ⟨bk BK109⟩, ⟨bs2 HB GE107 GE109⟩⟩
      case round =>
       clear H'
       try clear c1
       try clear p1
       try clear q1
       try clear hx1
       try clear c2
       try clear p2
       try clear c4
       try clear c4b0
       try clear c5
       try clear c5b0
       try clear p6
       try clear c10
       try clear p10
       try clear q10
       try clear hx10
       try clear c12
       try clear c12b0
       try clear c13
       try clear c13b0
       try clear c13b1
       try clear c14
       try clear c17
       try clear c18
       try clear c20
       try clear c22
       try clear hcz11_0
       try clear hcz11_1
       try clear hcz15_0
       try clear hcz15_1
       try clear hcz19_0
       try clear hcz19_1
       try clear hcz21_0
       try clear hcz21_1
       try clear hcz8_0
       try clear hfz11_0
       try clear hfz11_1
       try clear hfz15_0
       try clear hfz15_1
       try clear hfz19_0
       try clear hfz19_1
       try clear hfz21_0
       try clear hfz21_1
       try clear hfz8_0
       try clear hx108_0
       try clear hx108_1
       try clear p1
       try clear p10
       try clear p108
       try clear p2
       try clear q1
       try clear q10
       try clear q108
       obtain ⟨x8_2, x9_2, rfl, rfl, HA, HK2, BK107, BK109, HB⟩ := hrel
       cases gk with
       | zero => exact absurd HA.out (by simp [spec_l2Walk.l0])
       | succ k2 =>
        have H := HA.out; clear HA
        simp only [spec_l2Walk.l0] at H
        by_cases c23 : x9_2 < (((rd_T66 l0_0 a1).f1).length : Int)
        ·rw [if_pos c23] at H
         have c23b0 : decide (x9_2 < (((rd_T66 l0_0 a1).f1).length : Int)) = true := decide_eq_true c23; clear c23; have HC24 := Aside0.mk H; clear H; have hnb25 := NB109_107.out; have hnc25 := NB107_109.out; have hcz26_0 : wr.cell? ⟨gb109, 0, none⟩ = some (.string ((rd_T66 l0_0 a1).f0)) := (blk_cell BK109.out 0).trans rfl; have hcz26_1 : wr.cell? ⟨gb109, 1, none⟩ = some (.slice A108_1 ((rd_T66 l0_0 a1).f1).length c108_1) := (blk_cell BK109.out 1).trans rfl; have hfz26_0 := blk_frozen BK109.out 0; have hfz26_1 := blk_frozen BK109.out 1
         go_upto_region 8 with (fail)
         go_cut [56] (fun v56 wc => ∃ (kq : Nat) (x56_23 : Bool), v56 = .bool x56_23 ∧ Aside0 (spec_l2Walk.j2 kq a2 x8_2 x9_2 x56_23 l0_0 ((rd_T66 l0_0 a1).f0) ((rd_T66 l0_0 a1).f1) = some r) ∧ Aside0 (kq ≤ k2) ∧ Aside0 (wc.heap[gb107]? = some (.cells #[(.slice (some ad108) l0_0.length c0_0)] 29 (0, 0))) ∧ Aside0 (wc.heap[gb109]? = some (.cells #[.string ((rd_T66 l0_0 a1).f0), (.slice A108_1 ((rd_T66 l0_0 a1).f1).length c108_1)] 66 (0, 0))) ∧ Aside0 (Below w.heap.size w wc))
         case first =>
          have H := HC24.out; clear HC24
          by_cases c27 : 0 ≤ x9_2
          ·rw [if_pos c27] at H
           have c27b0 : decide (0 ≤ x9_2) = true := decide_eq_true c27; clear c27
           (first | rw [c27b0] | (simp only [i64_w, i32_w]; rw [c27b0]) | skip)
           by_cases c28 : (rd ((rd_T66 l0_0 a1).f1) x9_2) = x8_2
           ·rw [if_pos c28] at H
            have c28b0 : ((rd ((rd_T66 l0_0 a1).f1) x9_2) == x8_2) = true := beq_iff_eq.mpr c28; have c28b1 : ((rd ((rd_T66 l0_0 a1).f1) x9_2) != x8_2) = false := bne_eq_false_iff_eq.mpr c28; clear c28; have H' := Aside0.mk H; clear H; have hnb29 := NB109_107.out; have hnc29 := NB107_109.out; have hcz30_0 : wr.cell? ⟨gb109, 0, none⟩ = some (.string ((rd_T66 l0_0 a1).f0)) := (blk_cell BK109.out 0).trans rfl; have hcz30_1 : wr.cell? ⟨gb109, 1, none⟩ = some (.slice A108_1 ((rd_T66 l0_0 a1).f1).length c108_1) := (blk_cell BK109.out 1).trans rfl; have hfz30_0 := blk_frozen BK109.out 0; have hfz30_1 := blk_frozen BK109.out 1; have p111 : 0 ≤ (x9_2 : Int) := ode; have q111 : x9_2 < (((rd_T66 l0_0 a1).f1).length : Int) := ode; obtain ⟨ad111, e111, hx111_0⟩ := Kd.at_int HR108_1.out x9_2 p111 q111
            cases e111
            replace hx111_0 := cl HB hx111_0; replace p111 := eq_true p111; replace q111 := eq_true q111; have hcz31_0 : wr.cell? ⟨gb107, 0, none⟩ = some (.slice (some ad108) l0_0.length c0_0) := (blk_cell BK107.out 0).trans rfl; have hfz31_0 := blk_frozen BK107.out 0
            go_wp2
            go_meet
            case rel => exact ⟨_, (decide (x8_2 ≥ (l0_0.length : Int))), au, H', ⟨by have := HJ5.out; have := HK2.out; first | omega | exact Nat.le_refl _⟩, ⟨bk BK107⟩, ⟨bk BK109⟩, ⟨bs2 HB GE107 GE109⟩⟩
           ·rw [if_neg c28] at H
            have c28b0 : ((rd ((rd_T66 l0_0 a1).f1) x9_2) == x8_2) = false := beq_eq_false_iff_ne.mpr c28; have c28b1 : ((rd ((rd_T66 l0_0 a1).f1) x9_2) != x8_2) = true := bne_iff_ne.mpr c28; have H' := Aside0.mk H; clear H; have hnb32 := NB109_107.out; have hnc32 := NB107_109.out; have hcz33_0 : wr.cell? ⟨gb109, 0, none⟩ = some (.string ((rd_T66 l0_0 a1).f0)) := (blk_cell BK109.out 0).trans rfl; have hcz33_1 : wr.cell? ⟨gb109, 1, none⟩ = some (.slice A108_1 ((rd_T66 l0_0 a1).f1).length c108_1) := (blk_cell BK109.out 1).trans rfl; have hfz33_0 := blk_frozen BK109.out 0; have hfz33_1 := blk_frozen BK109.out 1; have p111 : 0 ≤ (x9_2 : Int) := ode; have q111 : x9_2 < (((rd_T66 l0_0 a1).f1).length : Int) := ode; obtain ⟨ad111, e111, hx111_0⟩ := Kd.at_int HR108_1.out x9_2 p111 q111
            cases e111
            replace hx111_0 := cl HB hx111_0; replace p111 := eq_true p111; replace q111 := eq_true q111
            go_wp2
            go_meet
            case rel => exact ⟨_, (true), au, H', ⟨by have := HJ5.out; have := HK2.out; first | omega | exact Nat.le_refl _⟩, ⟨bk BK107⟩, ⟨bk BK109⟩, ⟨bs2 HB GE107 GE109⟩⟩
          ·rw [if_neg c27] at H
           exact absurd H (by simp)
         case rest =>
          clear HC24
          try clear c1
          try clear p1
          try clear q1
          try clear hx1
          try clear c2
          try clear p2
          try clear c3
          try clear c4
          try clear c4b0
          try clear c5
          try clear c5b0
          try clear p6
          try clear c10
          try clear p10
          try clear q10
          try clear hx10
          try clear p11
          try clear q11
          try clear hx11
          try clear c12
          try clear c12b0
          try clear c13
          try clear c13b0
          try clear c13b1
          try clear c14
          try clear c17
          try clear c18
          try clear c20
          try clear c22
          try clear c23
          try clear c23b0
          try clear c25
          try clear c27
          try clear c27b0
          try clear c28
          try clear c28b0
          try clear c28b1
          try clear c29
          try clear c32
          try clear hcz11_0
          try clear hcz11_1
          try clear hcz15_0
          try clear hcz15_1
          try clear hcz19_0
          try clear hcz19_1
          try clear hcz21_0
          try clear hcz21_1
          try clear hcz26_0
          try clear hcz26_1
          try clear hcz30_0
          try clear hcz30_1
          try clear hcz31_0
          try clear hcz33_0
          try clear hcz33_1
          try clear hcz8_0
          try clear hfz11_0
          try clear hfz11_1
          try clear hfz15_0
          try clear hfz15_1
          try clear hfz19_0
          try clear hfz19_1
          try clear hfz21_0
          try clear hfz21_1
          try clear hfz26_0
          try clear hfz26_1
          try clear hfz30_0
          try clear hfz30_1
          try clear hfz31_0
          try clear hfz33_0
          try clear hfz33_1
          try clear hfz8_0
          try clear hx108_0
          try clear hx108_1
          try clear hx111_0
          try clear p1
          try clear p10
          try clear p108
          try clear p111
          try clear p2
          try clear p6
          try clear q1
          try clear q10
          try clear q108
          try clear q111
          obtain ⟨kq, x56_23, rfl, HA, HJ23, BK107, BK109, HB⟩ := hcut
          cases kq with
          | zero => exact absurd HA.out (by simp [spec_l2Walk.j2])
          | succ kj23 =>
           have H := HA.out; clear HA
           simp only [spec_l2Walk.j2] at H
           by_cases c34 : x56_23 = true
           ·subst c34
            have H1 : (some (-1)) = some r := by rw [if_pos rfl] at H; exact H
            clear H; have H := H1; clear H1; obtain rfl := Option.some.inj H
            go_wp2
            go_ret
            exact ⟨by first | rfl | (simp [errW_none, errW_some] <;> rfl) | (simp [*, errW_none, errW_some] <;> rfl), bs2 HB GE107 GE109⟩
           ·replace c34 := Bool.eq_false_iff.mpr c34
            subst c34
            have H1 : ((spec_l2Walk.f kj23 l0_0 x8_2 (wrap64 (a2 + 1))).bind fun t112 => (if t112 < 0 then (some (-1)) else (spec_l2Walk.l0 kj23 a2 t112 (wrap64 (x9_2 + 1)) l0_0 ((rd_T66 l0_0 a1).f0) ((rd_T66 l0_0 a1).f1)))) = some r := by rw [if_neg (show ¬ (false = true) by decide)] at H; exact H
            clear H; have H := H1; clear H1; replace H := Option.bind_eq_some_iff.mp H; obtain ⟨t112, A350, H⟩ := H; replace H : (if t112 < 0 then (some (-1)) else (spec_l2Walk.l0 kj23 a2 t112 (wrap64 (x9_2 + 1)) l0_0 ((rd_T66 l0_0 a1).f0) ((rd_T66 l0_0 a1).f1))) = some r := H; have A35 := Aside0.mk A350; clear A350
            by_cases c36 : t112 < 0
            ·rw [if_pos c36] at H
             have c36b0 : decide (t112 < 0) = true := decide_eq_true c36; clear c36; obtain rfl := Option.some.inj H; have hnb37 := NB107_109.out; have hnc37 := NB109_107.out; have hcz38_0 : wc.cell? ⟨gb107, 0, none⟩ = some (.slice (some ad108) l0_0.length c0_0) := (blk_cell BK107.out 0).trans rfl; have hfz38_0 := blk_frozen BK107.out 0
             go_wp2_with (first | ((with_reducible refine gate_callee (f := 43) rfl ?_); refine goesL_ (some 61) rfl rfl Try.func43 (by kernel_rfl) rfl #[.agg #[.slice (some ad108) l0_0.length c0_0], .int .i64 x8_2, .int .i64 (wrap64 (a2 + 1))] rfl ma ?_; (with_reducible refine (ih kj23 (by have := HJ5.out; have := HK2.out; have := HJ23.out; omega) _ _ l0_0 x8_2 (wrap64 (a2 + 1)) t112 _ ?side1 ?side2 A35.out).mono ?_); (case side1 => exact rc HR0_0 HB); (case side2 => exact HC0_0.out); rintro e w39 ⟨rfl, hb⟩; refine ⟨_, rfl, ?_⟩; have n0_ := Aside0.mk (blk_below (g := gb107) (o := .cells #[.slice (some ad108) l0_0.length c0_0] 29 (0, 0)) (bk BK107) hb); have n1_ := Aside0.mk (blk_below (g := gb109) (o := .cells #[.string ((rd_T66 l0_0 a1).f0), .slice A108_1 ((rd_T66 l0_0 a1).f1).length c108_1] 66 (0, 0)) (bk BK109) hb); have n2_ := Aside0.mk (below_step (bs2 HB GE107 GE109) hb); clear BK107; clear BK109; clear HB; have BK107 := n0_; have BK109 := n1_; have HB := n2_; clear n0_ n1_ n2_; (try clear hb); (try clear hb2); (try clear hk); (try clear hi)))
             go_ret
             exact ⟨by first | rfl | (simp [errW_none, errW_some] <;> rfl) | (simp [*, errW_none, errW_some] <;> rfl), bs2 HB GE107 GE109⟩
            ·rw [if_neg c36] at H
             have c36b0 : decide (t112 < 0) = false := decide_eq_false c36; clear c36; have H' := Aside0.mk H; clear H; have hnb40 := NB107_109.out; have hnc40 := NB109_107.out; have hcz41_0 : wc.cell? ⟨gb107, 0, none⟩ = some (.slice (some ad108) l0_0.length c0_0) := (blk_cell BK107.out 0).trans rfl; have hfz41_0 := blk_frozen BK107.out 0
             go_wp2_with (first | ((with_reducible refine gate_callee (f := 43) rfl ?_); refine goesL_ (some 61) rfl rfl Try.func43 (by kernel_rfl) rfl #[.agg #[.slice (some ad108) l0_0.length c0_0], .int .i64 x8_2, .int .i64 (wrap64 (a2 + 1))] rfl ma ?_; (with_reducible refine (ih kj23 (by have := HJ5.out; have := HK2.out; have := HJ23.out; omega) _ _ l0_0 x8_2 (wrap64 (a2 + 1)) t112 _ ?side1 ?side2 A35.out).mono ?_); (case side1 => exact rc HR0_0 HB); (case side2 => exact HC0_0.out); rintro e w42 ⟨rfl, hb⟩; refine ⟨_, rfl, ?_⟩; have n0_ := Aside0.mk (blk_below (g := gb107) (o := .cells #[.slice (some ad108) l0_0.length c0_0] 29 (0, 0)) (bk BK107) hb); have n1_ := Aside0.mk (blk_below (g := gb109) (o := .cells #[.string ((rd_T66 l0_0 a1).f0), .slice A108_1 ((rd_T66 l0_0 a1).f1).length c108_1] 66 (0, 0)) (bk BK109) hb); have n2_ := Aside0.mk (below_step (bs2 HB GE107 GE109) hb); clear BK107; clear BK109; clear HB; have BK107 := n0_; have BK109 := n1_; have HB := n2_; clear n0_ n1_ n2_; (try clear hb); (try clear hb2); (try clear hk); (try clear hi)))
             go_roundg kj23
             case measure => have := HJ5.out; have := HK2.out; have := HJ23.out; omega
             case rel => exact ⟨(t112), (wrap64 (x9_2 + 1)), au, au, H', ⟨by have := HJ5.out; have := HK2.out; have := HJ23.out; omega⟩, ⟨bk BK107⟩, ⟨bk BK109⟩, ⟨bs2 HB GE107 GE109⟩⟩
        ·rw [if_neg c23] at H
         have c23b0 : decide (x9_2 < (((rd_T66 l0_0 a1).f1).length : Int)) = false := decide_eq_false c23; clear c23; obtain rfl := Option.some.inj H; have hnb43 := NB109_107.out; have hnc43 := NB107_109.out; have hcz44_0 : wr.cell? ⟨gb109, 0, none⟩ = some (.string ((rd_T66 l0_0 a1).f0)) := (blk_cell BK109.out 0).trans rfl; have hcz44_1 : wr.cell? ⟨gb109, 1, none⟩ = some (.slice A108_1 ((rd_T66 l0_0 a1).f1).length c108_1) := (blk_cell BK109.out 1).trans rfl; have hfz44_0 := blk_frozen BK109.out 0; have hfz44_1 := blk_frozen BK109.out 1
         go_wp2
         go_ret
         exact ⟨by first | rfl | (simp [errW_none, errW_some] <;> rfl) | (simp [*, errW_none, errW_some] <;> rfl), bs2 HB GE107 GE109⟩
  ·rw [if_neg c5] at H
   exact absurd H (by simp)
 ·rw [if_neg c4] at H
  exact absurd H (by simp)

/-! ### spec_TreeOk: function 22 -/
def spec_TreeOk.f (k : Nat) (l0_0 : List (S66)) : Option (Bool) := if (l0_0.length : Int) < 1 then (some false) else (if (l0_0.length : Int) > 2000 then (some false) else ((spec_l2Walk.f k l0_0 0 0).bind fun t114 => (some (t114 == (l0_0.length : Int)))))
set_option maxHeartbeats 8000000 in
set_option maxRecDepth 100000 in
theorem spec_TreeOk.calls (k : Nat) (A0_0 : Option Addr) (c0_0 : Nat) (l0_0 : List (S66)) (r : Bool) (w : World) (hr0_0 : Kd.C k66 w A0_0 l0_0.length l0_0) (hc0_0 : l0_0.length ≤ c0_0) (h : spec_TreeOk.f k l0_0 = some r) :
  Calls Try.prog 22 #[.agg #[.slice A0_0 l0_0.length c0_0]] w fun e w' => e = .returned (.bool r) ∧ Below w.heap.size w w' := by
 have hu29 := Try.underlying29; have HR0_0 := Aside0.mk hr0_0; have HC0_0 := Aside0.mk hc0_0; clear hr0_0 hc0_0; have HB := Aside0.mk (Below.refl w.heap.size w); have H : (if (l0_0.length : Int) < 1 then (some false) else (if (l0_0.length : Int) > 2000 then (some false) else ((spec_l2Walk.f k l0_0 0 0).bind fun t114 => (some (t114 == (l0_0.length : Int)))))) = some r := h; clear h
 by_cases c2 : (l0_0.length : Int) < 1
 ·rw [if_pos c2] at H
  have c2b0 : decide ((l0_0.length : Int) < 1) = true := decide_eq_true c2; have c2b1 : decide (l0_0.length < 1) = true := decide_eq_true (by omega); clear c2; obtain rfl := Option.some.inj H
  go_enter Try.func22, Try.ntmps22
  go_wp2_with (first | ((with_reducible refine gate_dst (N := 1) rfl ?_); (try (refine gate_guard (by rfl) ?_; dsimp only)); refine be 1 #[.slice A0_0 l0_0.length c0_0] 29 ?_; intro gb113 hg w3 hbox hb; have n0_ := Aside0.mk (below_step (bl HB) hb); have n1_ := Aside0.mk (hbox); have n2_ := Aside0.mk (gs HB hg); have n3_ := Aside0.mk (gs HB hg); clear HB; have HB := n0_; have BK113 := n1_; have GW113 := n2_; have GE113 := n3_; clear n0_ n1_ n2_ n3_; clear hb hbox hg; have hcz4_0 : w3.cell? ⟨gb113, 0, none⟩ = some (.slice A0_0 l0_0.length c0_0) := (blk_cell BK113.out 0).trans rfl; have hfz4_0 := blk_frozen BK113.out 0))
  go_ret
  exact ⟨by first | rfl | (simp [errW_none, errW_some] <;> rfl) | (simp [*, errW_none, errW_some] <;> rfl), bs HB GE113⟩
 ·rw [if_neg c2] at H
  have c2b0 : decide ((l0_0.length : Int) < 1) = false := decide_eq_false c2; have c2b1 : decide (l0_0.length < 1) = false := decide_eq_false (by omega); clear c2
  by_cases c5 : (l0_0.length : Int) > 2000
  ·rw [if_pos c5] at H
   have c5b0 : decide (2000 < (l0_0.length : Int)) = true := decide_eq_true c5; have c5b1 : decide (2000 < l0_0.length) = true := decide_eq_true (by omega); clear c5; obtain rfl := Option.some.inj H
   go_enter Try.func22, Try.ntmps22
   go_wp2_with (first | ((with_reducible refine gate_dst (N := 1) rfl ?_); (try (refine gate_guard (by rfl) ?_; dsimp only)); refine be 1 #[.slice A0_0 l0_0.length c0_0] 29 ?_; intro gb113 hg w6 hbox hb; have n0_ := Aside0.mk (below_step (bl HB) hb); have n1_ := Aside0.mk (hbox); have n2_ := Aside0.mk (gs HB hg); have n3_ := Aside0.mk (gs HB hg); clear HB; have HB := n0_; have BK113 := n1_; have GW113 := n2_; have GE113 := n3_; clear n0_ n1_ n2_ n3_; clear hb hbox hg; have hcz7_0 : w6.cell? ⟨gb113, 0, none⟩ = some (.slice A0_0 l0_0.length c0_0) := (blk_cell BK113.out 0).trans rfl; have hfz7_0 := blk_frozen BK113.out 0))
   go_ret
   exact ⟨by first | rfl | (simp [errW_none, errW_some] <;> rfl) | (simp [*, errW_none, errW_some] <;> rfl), bs HB GE113⟩
  ·rw [if_neg c5] at H
   have c5b0 : decide (2000 < (l0_0.length : Int)) = false := decide_eq_false c5; have c5b1 : decide (2000 < l0_0.length) = false := decide_eq_false (by omega); clear c5; replace H := Option.bind_eq_some_iff.mp H; obtain ⟨t114, A80, H⟩ := H; replace H : (some (t114 == (l0_0.length : Int))) = some r := H; have A8 := Aside0.mk A80; clear A80; obtain rfl := Option.some.inj H
   go_enter Try.func22, Try.ntmps22
   try go_wp2_with (first | ((with_reducible refine gate_dst (N := 1) rfl ?_); (try (refine gate_guard (by rfl) ?_; dsimp only)); refine be 1 #[.slice A0_0 l0_0.length c0_0] 29 ?_; intro gb113 hg w9 hbox hb; have n0_ := Aside0.mk (below_step (bl HB) hb); have n1_ := Aside0.mk (hbox); have n2_ := Aside0.mk (gs HB hg); have n3_ := Aside0.mk (gs HB hg); clear HB; have HB := n0_; have BK113 := n1_; have GW113 := n2_; have GE113 := n3_; clear n0_ n1_ n2_ n3_; clear hb hbox hg; have hcz10_0 : w9.cell? ⟨gb113, 0, none⟩ = some (.slice A0_0 l0_0.length c0_0) := (blk_cell BK113.out 0).trans rfl; have hfz10_0 := blk_frozen BK113.out 0))
   have n0_ := Aside0.mk (blk_drew BK113.out); have n1_ := Aside0.mk (below_drew1 HB.out); clear BK113; clear HB; have BK113 := n0_; have HB := n1_; clear n0_ n1_; refine start_ (n := 7) (S := fun w' => w'.cell? ⟨gb113, 0, none⟩ = some (.slice A0_0 l0_0.length c0_0)) (ds := []) (tf 0 7) (by kernel_rfl) rfl rfl ((blk_cell BK113.out 0).trans rfl) (fun hHeld => ?_); generalize w9.drew = w11 at BK113 HB hHeld ⊢; refine pure_ (i := 2) (N := some 15) (v := ?_) (a' := ?_) #[false, false, true, false, false, false, false] rfl rfl (by kernel_rfl) (fun _ _ _ h => h) (Or.inl ⟨by rfl, ?_⟩) ?_ ?_
   rotate_left
   ·intro w'
    go_simp
    with_reducible rfl
   rotate_left
   ·simp only [Act.put, List.setIfInBounds_toArray, List.set_cons_zero, List.set_cons_succ, i64_w, i32_w]
    rfl
   refine take_ (i := 0) (N := some 13) (v := ?_) (a' := ?_) #[true, false, true, false, false, false, false] rfl rfl (by kernel_rfl) (fun _ _ _ h => h) (Or.inl ⟨by rfl, ?_⟩) hHeld ?_ ?_
   rotate_left
   ·intro w' s0
    go_simp
    with_reducible rfl
   rotate_left
   ·simp only [Act.put, List.setIfInBounds_toArray, List.set_cons_zero, List.set_cons_succ, i64_w, i32_w]
    rfl
   refine take_ (i := 3) (N := some 16) (v := ?_) (a' := ?_) #[true, false, true, true, false, false, false] rfl rfl (by kernel_rfl) (fun _ _ _ h => h) (Or.inl ⟨by rfl, ?_⟩) hHeld ?_ ?_
   rotate_left
   ·intro w' s0
    go_simp
    with_reducible rfl
   rotate_left
   ·simp only [Act.put, List.setIfInBounds_toArray, List.set_cons_zero, List.set_cons_succ, i64_w, i32_w]
    rfl
   refine pure_ (i := 4) (N := some 17) (v := ?_) (a' := ?_) #[true, false, true, true, true, false, false] rfl rfl (by kernel_rfl) (fun _ _ _ h => h) (Or.inl ⟨by rfl, ?_⟩) ?_ ?_
   rotate_left
   ·intro w'
    go_simp
    with_reducible rfl
   rotate_left
   ·simp only [Act.put, List.setIfInBounds_toArray, List.set_cons_zero, List.set_cons_succ, i64_w, i32_w]
    rfl
   refine one_ (i := 1) (N := some 14) #[true, true, true, true, true, false, false] rfl rfl (by kernel_rfl) (by decide) (fun K hK => ?_); refine goes_ Try.func43 (by kernel_rfl) rfl #[.agg #[.slice A0_0 l0_0.length c0_0], .int .i64 0, .int .i64 0] (by rfl) rfl rfl ma ?_; (with_reducible refine (spec_l2Walk.calls k _ _ l0_0 0 0 t114 _ ?side1 ?side2 A8.out).mono ?_)
   (case side1 => exact rc HR0_0 HB); (case side2 => exact HC0_0.out)
   rintro e w12 ⟨rfl, hb⟩; refine ⟨_, rfl, ?_⟩; have n0_ := Aside0.mk (blk_below (g := gb113) (o := .cells #[.slice A0_0 l0_0.length c0_0] 29 (0, 0)) (bk BK113) hb); have n1_ := Aside0.mk (below_step (bs HB GE113) hb); clear BK113; clear HB; have BK113 := n0_; have HB := n1_; clear n0_ n1_; (try clear hb)
   (try clear hb2); (try clear hk)
   (try clear hi); refine hK.out _ _ ((blk_cell BK113.out 0).trans rfl) (fun hHeld => ?_); clear hK K; refine nm 14 ?_; refine pure_ (i := 5) (N := some 18) (v := ?_) (a' := ?_) #[true, true, true, true, true, true, false] rfl rfl (by kernel_rfl) (fun _ _ _ h => h) (Or.inl ⟨by rfl, ?_⟩) ?_ ?_
   rotate_left
   ·intro w'
    go_simp
    with_reducible rfl
   rotate_left
   ·simp only [Act.put, List.setIfInBounds_toArray, List.set_cons_zero, List.set_cons_succ, i64_w, i32_w]
    rfl
   refine pure_ (i := 6) (N := some 2) (v := ?_) (a' := ?_) #[true, true, true, true, true, true, true] rfl rfl (by kernel_rfl) (fun _ _ _ h => h) (Or.inl ⟨by rfl, ?_⟩) ?_ ?_
   rotate_left
   ·intro w'
    go_simp
    with_reducible rfl
   rotate_left
   ·simp only [Act.put, List.setIfInBounds_toArray, List.set_cons_zero, List.set_cons_succ, i64_w, i32_w]
    rfl
   refine done_ (by kernel_rfl) ?_
   try go_wp2
   go_ret
   exact ⟨by first | rfl | (simp [errW_none, errW_some] <;> rfl) | (simp [*, errW_none, errW_some] <;> rfl), bs HB GE113⟩

end Go.Proofs.Ytjjlcmfjmdfedaa.PFnExactWriteTree
