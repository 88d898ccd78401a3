-- Written by a program of this session (a turned copy of the kit's printer); Lean checks it.
-- half the depth
import Derived.Test.YtkjlplcdjdenkaaPFnForestx0
import Derived.Test.YtkjlplcdjdenkaaPFnForestx4
namespace Go.Proofs.Ytkjlplcdjdenkaa.PFnForest
open Go.RowKit Go.Proofs.YtkjlplcdjdenkaaW.PrintWords Go.Proofs.YtkjlplcdjdenkaaW.PrintLast Go.Proofs.YtkjlplcdjdenkaaW.PrintMore
attribute [local go_sem] max2_int min2_int max_two min_two max_three min_three max_four min_four   -- for this text's walks alone
set_option linter.unusedVariables false
set_option linter.unusedSimpArgs false

/-! ### spec_ForestOk: function 75 -/
mutual
def spec_ForestOk.j0 : Nat → Bool → Int → List (S51) → Option (Bool)
 | 0, _, _, _ => none
 | k + 1, x17, x152000, x152001 => if x17 = true then (some false) else ((spec_l7Least.f k x152000 (([] : List (S51)))).bind fun t156 => (spec_ForestOk.l0 k t156 0 x152000 x152001))
def spec_ForestOk.l0 : Nat → List Int → Int → Int → List (S51) → Option (Bool)
 | 0, _, _, _, _ => none
 | k + 1, x3, x4, x152000, x152001 => if x4 < (x152001.length : Int) then (if 0 ≤ x4 then ((spec_l1In.f ((rd_T51 x152001 x4).f0) 0 (wrap64 (x152000 - 1))).bind fun t161 => (if t161 = true then ((spec_l1In.f ((rd_T51 x152001 x4).f1) 0 (wrap64 (x152000 - 1))).bind fun t162 => (if t162 = true then ((spec_l1In.f ((rd_T51 x152001 x4).f2) 0 1000000).bind fun t163 => (if t163 = true then (if 0 ≤ ((rd_T51 x152001 x4).f0) then (if ((rd_T51 x152001 x4).f0) < (x3.length : Int) then (if 0 ≤ ((rd_T51 x152001 x4).f1) then (if ((rd_T51 x152001 x4).f1) < (x3.length : Int) then (if (rd x3 ((rd_T51 x152001 x4).f0)) = (rd x3 ((rd_T51 x152001 x4).f1)) then (some false) else ((spec_l7Merge.f k x3 ((rd_T51 x152001 x4).f0) ((rd_T51 x152001 x4).f1)).bind fun t166 => (spec_ForestOk.l0 k t166 (wrap64 (x4 + 1)) x152000 x152001))) else (none)) else (none)) else (none)) else (none)) else (some false))) else (some false))) else (some false))) else (none)) else (some true)
end
def spec_ForestOk.f (k : Nat) (a0_0 : Int) (l0_1 : List (S51)) : Option (Bool) := (spec_l1In.f a0_0 0 1000).bind fun t152 => (if t152 = true then (spec_ForestOk.j0 k (decide ((l0_1.length : Int) > a0_0)) a0_0 l0_1) else (spec_ForestOk.j0 k true a0_0 l0_1))
set_option maxHeartbeats 8000000 in
set_option maxRecDepth 100000 in
theorem spec_ForestOk.calls (k : Nat) (a0_0 : Int) (A0_1 : Option Addr) (c0_1 : Nat) (l0_1 : List (S51)) (r : Bool) (w : World) (hr0_1 : Kd.C k51 w A0_1 l0_1.length l0_1) (hc0_1 : l0_1.length ≤ c0_1) (h : spec_ForestOk.f k a0_0 l0_1 = some r) :
  Calls Try.prog 75 #[.agg #[.int .i64 a0_0, .slice A0_1 l0_1.length c0_1]] w fun e w' => e = .returned (.bool r) ∧ Below w.heap.size w w' := by
 have hu35 := Try.underlying35
 have hu51 := Try.underlying51
 have HR0_1 := Aside0.mk hr0_1
 have HC0_1 := Aside0.mk hc0_1
 clear hr0_1 hc0_1
 have HB := Aside0.mk (Below.refl w.heap.size w)
 have H : ((spec_l1In.f a0_0 0 1000).bind fun t152 => (if t152 = true then (spec_ForestOk.j0 k (decide ((l0_1.length : Int) > a0_0)) a0_0 l0_1) else (spec_ForestOk.j0 k true a0_0 l0_1))) = some r := h
 clear h
 have HC2 := Aside0.mk H
 clear H
 go_enter Try.func75, Try.ntmps75
 go_upto_region 1 with (first | ((with_reducible refine gate_dst (N := 1) rfl ?_); (try (refine gate_guard (by rfl) ?_; dsimp only)); refine box_event ?hg (N := 1) ?hd (cs := #[.int .i64 a0_0, .slice A0_1 l0_1.length c0_1]) (t := 35) ?hr ?_; (case hd => rfl); (case hg => rfl); (case hr => first | (go_simp; done) | (go_simp; rfl)); intro gb151 hg w3 hbox hb; have n0_ := Aside0.mk (below_step (bl HB) hb); have n1_ := Aside0.mk (hbox); have n2_ := Aside0.mk ((by rw [hg]; exact (below_size (bl HB)) : w.heap.size ≤ gb151)); have n3_ := Aside0.mk ((by rw [hg]; exact (below_size (bl HB)) : w.heap.size ≤ gb151)); clear HB; have HB := n0_; have BK151 := n1_; have GW151 := n2_; have GE151 := n3_; clear n0_ n1_ n2_ n3_; clear hb hbox hg))
 (try simp only [Act.put, List.setIfInBounds_toArray, List.set_cons_zero, List.set_cons_succ])
 go_cut [17] (fun v17 wc => ∃ (kq : Nat) (x17_1 : Bool), v17 = .bool x17_1 ∧ Aside0 (spec_ForestOk.j0 kq x17_1 a0_0 l0_1 = some r) ∧ Aside0 (kq ≤ k) ∧ Aside0 (wc.heap[gb151]? = some (.cells #[.int .i64 a0_0, (.slice A0_1 l0_1.length c0_1)] 35 (0, 0))) ∧ Aside0 (Below w.heap.size w wc))
 case first =>
  have H := HC2.out
  clear HC2
  replace H := Option.bind_eq_some_iff.mp H
  obtain ⟨t152, A40, H⟩ := H
  replace H : (if t152 = true then (spec_ForestOk.j0 k (decide ((l0_1.length : Int) > a0_0)) a0_0 l0_1) else (spec_ForestOk.j0 k true a0_0 l0_1)) = some r := H
  have A4 := Aside0.mk A40
  clear A40
  by_cases c5 : t152 = true
  ·subst c5
   have H1 : (spec_ForestOk.j0 k (decide ((l0_1.length : Int) > a0_0)) a0_0 l0_1) = some r := by rw [if_pos rfl] at H; exact H
   clear H
   have H := H1
   clear H1
   have H' := Aside0.mk H
   clear H
   have hcz6_0 : w3.cell? ⟨gb151, 0, none⟩ = some (.int .i64 a0_0) := (blk_cell BK151.out 0).trans rfl
   have hcz6_1 : w3.cell? ⟨gb151, 1, none⟩ = some (.slice A0_1 l0_1.length c0_1) := (blk_cell BK151.out 1).trans rfl
   have hfz6_0 := blk_frozen BK151.out 0
   have hfz6_1 := blk_frozen BK151.out 1
   go_wp2_with (first | ((with_reducible refine gate_callee (f := 76) rfl ?_); refine goesL_ (some 8) rfl rfl Try.func76 (by kernel_rfl) rfl #[.int .i64 a0_0, .int .i64 0, .int .i64 1000] rfl (by (try simp only [List.map_toArray, List.map_cons, List.map_nil]); first | done | rfl | (simp only [List.length_drop, List.length_take]; rfl)) ?_; (with_reducible refine (spec_l1In.calls a0_0 0 1000 true _ A4.out).mono ?_); rintro e w' ⟨rfl, ⟨nd, rfl⟩⟩; refine ⟨_, rfl, ?_⟩))
   go_meet
   case rel => exact ⟨_, (decide ((l0_1.length : Int) > a0_0)), (by first | rfl | (simp; done) | (simp [*]; done) | (simp only [bne_nil_]; done) | (simp [bne_nil_]; done)), H', ⟨by first | omega | exact Nat.le_refl _⟩, ⟨bk BK151⟩, ⟨bs HB GE151⟩⟩
  ·replace c5 := Bool.eq_false_iff.mpr c5
   subst c5
   have H1 : (spec_ForestOk.j0 k true a0_0 l0_1) = some r := by rw [if_neg (show ¬ (false = true) by decide)] at H; exact H
   clear H
   have H := H1
   clear H1
   have H' := Aside0.mk H
   clear H
   have hcz7_0 : w3.cell? ⟨gb151, 0, none⟩ = some (.int .i64 a0_0) := (blk_cell BK151.out 0).trans rfl
   have hcz7_1 : w3.cell? ⟨gb151, 1, none⟩ = some (.slice A0_1 l0_1.length c0_1) := (blk_cell BK151.out 1).trans rfl
   have hfz7_0 := blk_frozen BK151.out 0
   have hfz7_1 := blk_frozen BK151.out 1
   go_wp2_with (first | ((with_reducible refine gate_callee (f := 76) rfl ?_); refine goesL_ (some 8) rfl rfl Try.func76 (by kernel_rfl) rfl #[.int .i64 a0_0, .int .i64 0, .int .i64 1000] rfl (by (try simp only [List.map_toArray, List.map_cons, List.map_nil]); first | done | rfl | (simp only [List.length_drop, List.length_take]; rfl)) ?_; (with_reducible refine (spec_l1In.calls a0_0 0 1000 false _ A4.out).mono ?_); rintro e w' ⟨rfl, ⟨nd, rfl⟩⟩; refine ⟨_, rfl, ?_⟩))
   go_meet
   case rel => exact ⟨_, (true), (by first | rfl | (simp; done) | (simp [*]; done) | (simp only [bne_nil_]; done) | (simp [bne_nil_]; done)), H', ⟨by first | omega | exact Nat.le_refl _⟩, ⟨bk BK151⟩, ⟨bs HB GE151⟩⟩
 case rest =>
  clear HC2
  try clear p2
  try clear c5
  try clear c7
  try clear hcz6_0
  try clear hcz6_1
  try clear hcz7_0
  try clear hcz7_1
  try clear hfz6_0
  try clear hfz6_1
  try clear hfz7_0
  try clear hfz7_1
  obtain ⟨kq, x17_1, rfl, HA, HJ1, BK151, HB⟩ := hcut
  cases kq with
  | zero => exact absurd HA.out (by simp [spec_ForestOk.j0])
  | succ kj1 =>
   have H := HA.out
   clear HA
   simp only [spec_ForestOk.j0] at H
   by_cases c8 : x17_1 = true
   ·subst c8
    have H1 : (some false) = some r := by rw [if_pos rfl] at H; exact H
    clear H
    have H := H1
    clear H1
    obtain rfl := Option.some.inj H
    go_wp2
    go_ret
    exact ⟨by first | rfl | (simp [errW_none, errW_some] <;> rfl) | (simp [*, errW_none, errW_some] <;> rfl), bs HB GE151⟩
   ·replace c8 := Bool.eq_false_iff.mpr c8
    subst c8
    have H1 : ((spec_l7Least.f kj1 a0_0 (([] : List (S51)))).bind fun t156 => (spec_ForestOk.l0 kj1 t156 0 a0_0 l0_1)) = some r := by rw [if_neg (show ¬ (false = true) by decide)] at H; exact H
    clear H
    have H := H1
    clear H1
    obtain ⟨y153, hy153⟩ : ∃ y_ : List (S51), y_ = (([] : List (S51))) := ⟨_, rfl⟩
    replace H : ((spec_l7Least.f kj1 a0_0 y153).bind fun t156 => (spec_ForestOk.l0 kj1 t156 0 a0_0 l0_1)) = some r := by first | (rw [hy153]; with_reducible exact H) | (have H2_ := (Option.bind_some _ _).symm.trans H; rw [hy153]; with_reducible exact H2_) | (have H2_ := (Option.bind_some _ _).symm.trans H; with_reducible exact H2_) | with_reducible exact H | (rw [hy153]; exact H) | exact H
    have Ny153 := Aside0.mk hy153
    clear hy153
    replace H := Option.bind_eq_some_iff.mp H
    obtain ⟨t156, A90, H⟩ := H
    replace H : (spec_ForestOk.l0 kj1 t156 0 a0_0 l0_1) = some r := H
    have A9 := Aside0.mk A90
    clear A90
    have H' := Aside0.mk H
    clear H
    have hcz10_0 : wc.cell? ⟨gb151, 0, none⟩ = some (.int .i64 a0_0) := (blk_cell BK151.out 0).trans rfl
    have hcz10_1 : wc.cell? ⟨gb151, 1, none⟩ = some (.slice A0_1 l0_1.length c0_1) := (blk_cell BK151.out 1).trans rfl
    have hfz10_0 := blk_frozen BK151.out 0
    have hfz10_1 := blk_frozen BK151.out 1
    go_wp2_with (first | ((with_reducible refine gate_dst (N := 20) rfl ?_); (try (refine gate_guard (by rfl) ?_; dsimp only)); refine Kd.R_lit k51 _ 51 ?hg (N := 20) ?hd (xs := ([] : List (S51))) (inner := []) (ok := fun _ => True) (okp := fun _ => True) ?hr ?hp (fun _ hk => hk) trivial (Below.refl _ _) (Nat.le_refl _) (by simp) ?_; (case hd => rfl); (case hg => rfl); (case hr => first | (go_simp; done) | (go_simp; rfl)); (case hp => exact (Reps.none _ _)); intro v154 w11 ho12 hb hg_ hnew_; clear hg_ hnew_; (first | rw [← Ny153.out] at ho12 | (simp only [Int.reduceToNat] at ho12; rw [← Ny153.out] at ho12)); have n0_ := Aside0.mk (Kd.R_lower ho12 (below_size (bs HB GE151))); have n1_ := Aside0.mk (blk_below (g := gb151) (o := .cells #[.int .i64 a0_0, .slice A0_1 l0_1.length c0_1] 35 (0, 0)) (bk BK151) hb); have n2_ := Aside0.mk (below_step (bs HB GE151) hb); clear BK151; clear HB; have HO155 := n0_; have BK151 := n1_; have HB := n2_; clear n0_ n1_ n2_; clear hb ho12; obtain ⟨Ao13, co13, eo13⟩ := Kd.R_slice HO155.out; subst eo13) | ((with_reducible refine gate_callee (f := 85) rfl ?_); refine goesL_ (some 21) rfl rfl Try.func85 (by kernel_rfl) rfl #[.int .i64 a0_0, .slice Ao13 y153.length co13] rfl (by (try simp only [List.map_toArray, List.map_cons, List.map_nil]); first | done | rfl | (simp only [List.length_drop, List.length_take]; rfl)) ?_; (with_reducible refine (spec_l7Least.calls kj1 a0_0 _ _ y153 t156 _ ?side1 ?side2 A9.out).mono ?_); (case side1 => repeat (first | exact (Kd.R_reads' HO155.out).2.2 | (with_reducible refine Kd.C_alloc ?_ _) | (with_reducible refine Kd.C_drewN ?_ _) | (with_reducible refine Kd.C_drew ?_))); (case side2 => exact (Kd.R_reads' HO155.out).2.1); rintro e w14 ⟨v157, rfl, ho0, hb⟩; refine ⟨_, rfl, ?_⟩; have n0_ := Aside0.mk (Kd.R_below (rl HO155) hb); have n1_ := Aside0.mk (Kd.R_lower ho0 (below_size (bs HB GE151))); have n2_ := Aside0.mk (blk_below (g := gb151) (o := .cells #[.int .i64 a0_0, .slice A0_1 l0_1.length c0_1] 35 (0, 0)) (bk BK151) hb); have n3_ := Aside0.mk (below_step (bs HB GE151) hb); clear HO155; clear BK151; clear HB; have HO155 := n0_; have HO158 := n1_; have BK151 := n2_; have HB := n3_; clear n0_ n1_ n2_ n3_; (try clear hb); (try clear hb2); (try clear hk); (try clear hi); (try clear ho0); obtain ⟨Ao15, co15, eo15⟩ := Kd.R_slice HO158.out; subst eo15))
    go_loopg [4] kj1 (fun kq v4 w' => ∃ (x3_2 : List Int) (x4_2 : Int), v4 = .int .i64 x4_2 ∧ Aside0 (spec_ForestOk.l0 kq x3_2 x4_2 a0_0 l0_1 = some r) ∧ Aside0 (kq ≤ kj1) ∧ Aside0 (Kd.R (Kd.int .i64) 2 w' w.heap.size (fun _ => True) (.slice Ao15 t156.length co15) x3_2) ∧ Aside0 (w'.heap[gb151]? = some (.cells #[.int .i64 a0_0, (.slice A0_1 l0_1.length c0_1)] 35 (0, 0))) ∧ Aside0 (Below w.heap.size w w'))
    case atStart => exact ⟨(t156), (0), (by first | rfl | (simp; done) | (simp [*]; done) | (simp only [bne_nil_]; done) | (simp [bne_nil_]; done)), H', ⟨Nat.le_refl _⟩, ⟨rl HO158⟩, ⟨bk BK151⟩, ⟨bs HB GE151⟩⟩
    case round =>
     clear H'
     try clear p2
     try clear c5
     try clear c7
     try clear c8
     try clear hcz10_0
     try clear hcz10_1
     try clear hcz6_0
     try clear hcz6_1
     try clear hcz7_0
     try clear hcz7_1
     try clear hfz10_0
     try clear hfz10_1
     try clear hfz6_0
     try clear hfz6_1
     try clear hfz7_0
     try clear hfz7_1
     try clear p2
     obtain ⟨x3_2, x4_2, rfl, HA, HK2, HO_3, BK151, HB⟩ := hrel
     have hl3_2 := (Kd.R_reads' HO_3.out).1
     rw [hl3_2] at HO_3
     (try simp only [hl3_2])
     (try simp only [hl3_2] at BK151)
     cases gk with
     | zero => exact absurd HA.out (by simp [spec_ForestOk.l0])
     | succ k2 =>
      have H := HA.out
      clear HA
      simp only [spec_ForestOk.l0] at H
      by_cases c16 : x4_2 < (l0_1.length : Int)
      ·rw [if_pos c16] at H
       have c16b0 : decide (x4_2 < (l0_1.length : Int)) = true := decide_eq_true c16
       clear c16
       by_cases c17 : 0 ≤ x4_2
       ·rw [if_pos c17] at H
        have c17b0 : decide (0 ≤ x4_2) = true := decide_eq_true c17
        clear c17
        replace H := Option.bind_eq_some_iff.mp H
        obtain ⟨t161, A180, H⟩ := H
        replace H : (if t161 = true then ((spec_l1In.f ((rd_T51 l0_1 x4_2).f1) 0 (wrap64 (a0_0 - 1))).bind fun t162 => (if t162 = true then ((spec_l1In.f ((rd_T51 l0_1 x4_2).f2) 0 1000000).bind fun t163 => (if t163 = true then (if 0 ≤ ((rd_T51 l0_1 x4_2).f0) then (if ((rd_T51 l0_1 x4_2).f0) < (x3_2.length : Int) then (if 0 ≤ ((rd_T51 l0_1 x4_2).f1) then (if ((rd_T51 l0_1 x4_2).f1) < (x3_2.length : Int) then (if (rd x3_2 ((rd_T51 l0_1 x4_2).f0)) = (rd x3_2 ((rd_T51 l0_1 x4_2).f1)) then (some false) else ((spec_l7Merge.f k2 x3_2 ((rd_T51 l0_1 x4_2).f0) ((rd_T51 l0_1 x4_2).f1)).bind fun t166 => (spec_ForestOk.l0 k2 t166 (wrap64 (x4_2 + 1)) a0_0 l0_1))) else (none)) else (none)) else (none)) else (none)) else (some false))) else (some false))) else (some false)) = some r := H
        have A18 := Aside0.mk A180
        clear A180
        by_cases c19 : t161 = true
        ·subst c19
         have H1 : ((spec_l1In.f ((rd_T51 l0_1 x4_2).f1) 0 (wrap64 (a0_0 - 1))).bind fun t162 => (if t162 = true then ((spec_l1In.f ((rd_T51 l0_1 x4_2).f2) 0 1000000).bind fun t163 => (if t163 = true then (if 0 ≤ ((rd_T51 l0_1 x4_2).f0) then (if ((rd_T51 l0_1 x4_2).f0) < (x3_2.length : Int) then (if 0 ≤ ((rd_T51 l0_1 x4_2).f1) then (if ((rd_T51 l0_1 x4_2).f1) < (x3_2.length : Int) then (if (rd x3_2 ((rd_T51 l0_1 x4_2).f0)) = (rd x3_2 ((rd_T51 l0_1 x4_2).f1)) then (some false) else ((spec_l7Merge.f k2 x3_2 ((rd_T51 l0_1 x4_2).f0) ((rd_T51 l0_1 x4_2).f1)).bind fun t166 => (spec_ForestOk.l0 k2 t166 (wrap64 (x4_2 + 1)) a0_0 l0_1))) else (none)) else (none)) else (none)) else (none)) else (some false))) else (some false))) = some r := by rw [if_pos rfl] at H; exact H
         clear H
         have H := H1
         clear H1
         replace H := Option.bind_eq_some_iff.mp H
         obtain ⟨t162, A200, H⟩ := H
         replace H : (if t162 = true then ((spec_l1In.f ((rd_T51 l0_1 x4_2).f2) 0 1000000).bind fun t163 => (if t163 = true then (if 0 ≤ ((rd_T51 l0_1 x4_2).f0) then (if ((rd_T51 l0_1 x4_2).f0) < (x3_2.length : Int) then (if 0 ≤ ((rd_T51 l0_1 x4_2).f1) then (if ((rd_T51 l0_1 x4_2).f1) < (x3_2.length : Int) then (if (rd x3_2 ((rd_T51 l0_1 x4_2).f0)) = (rd x3_2 ((rd_T51 l0_1 x4_2).f1)) then (some false) else ((spec_l7Merge.f k2 x3_2 ((rd_T51 l0_1 x4_2).f0) ((rd_T51 l0_1 x4_2).f1)).bind fun t166 => (spec_ForestOk.l0 k2 t166 (wrap64 (x4_2 + 1)) a0_0 l0_1))) else (none)) else (none)) else (none)) else (none)) else (some false))) else (some false)) = some r := H
         have A20 := Aside0.mk A200
         clear A200
         by_cases c21 : t162 = true
         ·subst c21
          have H1 : ((spec_l1In.f ((rd_T51 l0_1 x4_2).f2) 0 1000000).bind fun t163 => (if t163 = true then (if 0 ≤ ((rd_T51 l0_1 x4_2).f0) then (if ((rd_T51 l0_1 x4_2).f0) < (x3_2.length : Int) then (if 0 ≤ ((rd_T51 l0_1 x4_2).f1) then (if ((rd_T51 l0_1 x4_2).f1) < (x3_2.length : Int) then (if (rd x3_2 ((rd_T51 l0_1 x4_2).f0)) = (rd x3_2 ((rd_T51 l0_1 x4_2).f1)) then (some false) else ((spec_l7Merge.f k2 x3_2 ((rd_T51 l0_1 x4_2).f0) ((rd_T51 l0_1 x4_2).f1)).bind fun t166 => (spec_ForestOk.l0 k2 t166 (wrap64 (x4_2 + 1)) a0_0 l0_1))) else (none)) else (none)) else (none)) else (none)) else (some false))) = some r := by rw [if_pos rfl] at H; exact H
          clear H
          have H := H1
          clear H1
          replace H := Option.bind_eq_some_iff.mp H
          obtain ⟨t163, A220, H⟩ := H
          replace H : (if t163 = true then (if 0 ≤ ((rd_T51 l0_1 x4_2).f0) then (if ((rd_T51 l0_1 x4_2).f0) < (x3_2.length : Int) then (if 0 ≤ ((rd_T51 l0_1 x4_2).f1) then (if ((rd_T51 l0_1 x4_2).f1) < (x3_2.length : Int) then (if (rd x3_2 ((rd_T51 l0_1 x4_2).f0)) = (rd x3_2 ((rd_T51 l0_1 x4_2).f1)) then (some false) else ((spec_l7Merge.f k2 x3_2 ((rd_T51 l0_1 x4_2).f0) ((rd_T51 l0_1 x4_2).f1)).bind fun t166 => (spec_ForestOk.l0 k2 t166 (wrap64 (x4_2 + 1)) a0_0 l0_1))) else (none)) else (none)) else (none)) else (none)) else (some false)) = some r := H
          have A22 := Aside0.mk A220
          clear A220
          by_cases c23 : t163 = true
          ·subst c23
           have H1 : (if 0 ≤ ((rd_T51 l0_1 x4_2).f0) then (if ((rd_T51 l0_1 x4_2).f0) < (x3_2.length : Int) then (if 0 ≤ ((rd_T51 l0_1 x4_2).f1) then (if ((rd_T51 l0_1 x4_2).f1) < (x3_2.length : Int) then (if (rd x3_2 ((rd_T51 l0_1 x4_2).f0)) = (rd x3_2 ((rd_T51 l0_1 x4_2).f1)) then (some false) else ((spec_l7Merge.f k2 x3_2 ((rd_T51 l0_1 x4_2).f0) ((rd_T51 l0_1 x4_2).f1)).bind fun t166 => (spec_ForestOk.l0 k2 t166 (wrap64 (x4_2 + 1)) a0_0 l0_1))) else (none)) else (none)) else (none)) else (none)) = some r := by rw [if_pos rfl] at H; exact H
           clear H
           have H := H1
           clear H1
           by_cases c24 : 0 ≤ ((rd_T51 l0_1 x4_2).f0)
           ·rw [if_pos c24] at H
            have c24b0 : decide (0 ≤ ((rd_T51 l0_1 x4_2).f0)) = true := decide_eq_true c24
            clear c24
            by_cases c25 : ((rd_T51 l0_1 x4_2).f0) < (x3_2.length : Int)
            ·rw [if_pos c25] at H
             have c25b0 : decide (((rd_T51 l0_1 x4_2).f0) < (x3_2.length : Int)) = true := decide_eq_true c25
             clear c25
             by_cases c26 : 0 ≤ ((rd_T51 l0_1 x4_2).f1)
             ·rw [if_pos c26] at H
              have c26b0 : decide (0 ≤ ((rd_T51 l0_1 x4_2).f1)) = true := decide_eq_true c26
              clear c26
              by_cases c27 : ((rd_T51 l0_1 x4_2).f1) < (x3_2.length : Int)
              ·rw [if_pos c27] at H
               have c27b0 : decide (((rd_T51 l0_1 x4_2).f1) < (x3_2.length : Int)) = true := decide_eq_true c27
               clear c27
               by_cases c28 : (rd x3_2 ((rd_T51 l0_1 x4_2).f0)) = (rd x3_2 ((rd_T51 l0_1 x4_2).f1))
               ·rw [if_pos c28] at H
                have c28b0 : ((rd x3_2 ((rd_T51 l0_1 x4_2).f0)) == (rd x3_2 ((rd_T51 l0_1 x4_2).f1))) = true := beq_iff_eq.mpr c28
                have c28b1 : ((rd x3_2 ((rd_T51 l0_1 x4_2).f0)) != (rd x3_2 ((rd_T51 l0_1 x4_2).f1))) = false := bne_eq_false_iff_eq.mpr c28
                clear c28
                obtain rfl := Option.some.inj H
                have hcz29_0 : wr.cell? ⟨gb151, 0, none⟩ = some (.int .i64 a0_0) := (blk_cell BK151.out 0).trans rfl
                have hcz29_1 : wr.cell? ⟨gb151, 1, none⟩ = some (.slice A0_1 l0_1.length c0_1) := (blk_cell BK151.out 1).trans rfl
                have hfz29_0 := blk_frozen BK151.out 0
                have hfz29_1 := blk_frozen BK151.out 1
                have p159 : 0 ≤ (x4_2 : Int) := ode
                have q159 : x4_2 < (l0_1.length : Int) := ode
                obtain ⟨ad159, e159, hx159_0, hx159_1, hx159_2⟩ := at_T51 HR0_1.out x4_2 p159 q159
                cases e159
                replace hx159_0 := (HB.out.cell (World.block_lt_of_cell? w _ hx159_0)).trans hx159_0
                replace hx159_1 := (HB.out.cell (World.block_lt_of_cell? w _ hx159_1)).trans hx159_1
                replace hx159_2 := (HB.out.cell (World.block_lt_of_cell? w _ hx159_2)).trans hx159_2
                replace p159 := eq_true p159
                replace q159 := eq_true q159
                try go_wp2_with (first | ((with_reducible refine gate_dst (N := 5) rfl ?_); (try (refine gate_guard (by rfl) ?_; dsimp only)); refine box_event ?hg (N := 5) ?hd (cs := #[.int .i64 0, .int .i64 0, .int .i64 0]) (t := 51) ?hr ?_; (case hd => rfl); (case hg => rfl); (case hr => first | (go_simp; done) | (go_simp; rfl)); intro gb160 hg w30 hbox hb; have n0_ := Aside0.mk (Kd.R_below (rl HO_3) hb); have n1_ := Aside0.mk (blk_below (g := gb151) (o := .cells #[.int .i64 a0_0, .slice (some ad159) l0_1.length c0_1] 35 (0, 0)) (bk BK151) hb); have n2_ := Aside0.mk (below_step (bs HB GE151) hb); have n3_ := Aside0.mk (hbox); have n4_ := Aside0.mk ((by rw [hg]; exact (below_size (bs HB GE151)) : w.heap.size ≤ gb160)); have n5_ := Aside0.mk ((by rw [hg]; exact (below_size (bs HB GE151)) : w.heap.size ≤ gb160)); have n6_ := Aside0.mk ((by rw [hg]; exact Nat.ne_of_lt (blk_lt (g := gb151) (o := .cells #[.int .i64 a0_0, .slice (some ad159) l0_1.length c0_1] 35 (0, 0)) (bk BK151)) : gb151 ≠ gb160)); have n7_ := Aside0.mk ((by rw [hg]; exact Nat.ne_of_gt (blk_lt (g := gb151) (o := .cells #[.int .i64 a0_0, .slice (some ad159) l0_1.length c0_1] 35 (0, 0)) (bk BK151)) : gb160 ≠ gb151)); clear HO_3; clear BK151; clear HB; have HO_3 := n0_; have BK151 := n1_; have HB := n2_; have BK160 := n3_; have GW160 := n4_; have GE160 := n5_; have NB151_160 := n6_; have NB160_151 := n7_; clear n0_ n1_ n2_ n3_ n4_ n5_ n6_ n7_; clear hb hbox hg; have hnb31 := NB160_151.out; have hnc31 := NB151_160.out; have hcz32_0 : w30.cell? ⟨gb160, 0, none⟩ = some (.int .i64 0) := (blk_cell BK160.out 0).trans rfl; have hcz32_1 : w30.cell? ⟨gb160, 1, none⟩ = some (.int .i64 0) := (blk_cell BK160.out 1).trans rfl; have hcz32_2 : w30.cell? ⟨gb160, 2, none⟩ = some (.int .i64 0) := (blk_cell BK160.out 2).trans rfl; have hfz32_0 := blk_frozen BK160.out 0; have hfz32_1 := blk_frozen BK160.out 1; have hfz32_2 := blk_frozen BK160.out 2))
                have n0_ : Aside0 (Kd.R (Kd.int .i64) 2 (((w30.setCell ⟨gb160, 0, none⟩ (.int .i64 ((rd_T51 l0_1 x4_2).f0))).setCell ⟨gb160, 1, none⟩ (.int .i64 ((rd_T51 l0_1 x4_2).f1))).setCell ⟨gb160, 2, none⟩ (.int .i64 ((rd_T51 l0_1 x4_2).f2))) w.heap.size (fun _ => True) (.slice Ao15 x3_2.length co15) x3_2) := ⟨by (with_reducible repeat (first | apply Kd.R_alloc | apply Kd.R_drewN | apply Kd.R_drew)); exact Kd.R_mono (Kd.R_far (p := ⟨gb160, 2, none⟩) (Kd.R_far (p := ⟨gb160, 1, none⟩) (Kd.R_far (p := ⟨gb160, 0, none⟩) (Kd.R_types HO_3.out BK160.out (by decide)) (fun _ hk => hk.2) (.int .i64 ((rd_T51 l0_1 x4_2).f0))) (fun _ hk => hk.2) (.int .i64 ((rd_T51 l0_1 x4_2).f1))) (fun _ hk => hk.2) (.int .i64 ((rd_T51 l0_1 x4_2).f2))) (fun _ hk => trivial)⟩
                have n1_ : Aside0 ((((w30.setCell ⟨gb160, 0, none⟩ (.int .i64 ((rd_T51 l0_1 x4_2).f0))).setCell ⟨gb160, 1, none⟩ (.int .i64 ((rd_T51 l0_1 x4_2).f1))).setCell ⟨gb160, 2, none⟩ (.int .i64 ((rd_T51 l0_1 x4_2).f2))).heap[gb151]? = some (.cells #[.int .i64 a0_0, .slice (some ad159) l0_1.length c0_1] 35 (0, 0))) := ⟨by (with_reducible repeat (first | refine blk_drewN ?_ _ | refine blk_drew ?_ | refine blk_alloc ?_ _)); refine blk_far ?_ NB151_160.out _; (with_reducible repeat (first | refine blk_drewN ?_ _ | refine blk_drew ?_ | refine blk_alloc ?_ _)); refine blk_far ?_ NB151_160.out _; (with_reducible repeat (first | refine blk_drewN ?_ _ | refine blk_drew ?_ | refine blk_alloc ?_ _)); refine blk_far ?_ NB151_160.out _; (with_reducible repeat (first | refine blk_drewN ?_ _ | refine blk_drew ?_ | refine blk_alloc ?_ _)); exact BK151.out⟩
                have n2_ : Aside0 ((((w30.setCell ⟨gb160, 0, none⟩ (.int .i64 ((rd_T51 l0_1 x4_2).f0))).setCell ⟨gb160, 1, none⟩ (.int .i64 ((rd_T51 l0_1 x4_2).f1))).setCell ⟨gb160, 2, none⟩ (.int .i64 ((rd_T51 l0_1 x4_2).f2))).heap[gb160]? = some (.cells #[.int .i64 ((rd_T51 l0_1 x4_2).f0), .int .i64 ((rd_T51 l0_1 x4_2).f1), .int .i64 ((rd_T51 l0_1 x4_2).f2)] 51 (0, 0))) := ⟨by (with_reducible repeat (first | refine blk_drewN ?_ _ | refine blk_drew ?_ | refine blk_alloc ?_ _)); refine blk_put (cs := #[.int .i64 ((rd_T51 l0_1 x4_2).f0), .int .i64 ((rd_T51 l0_1 x4_2).f1), .int .i64 0]) ?_ 2 _ rfl; (with_reducible repeat (first | refine blk_drewN ?_ _ | refine blk_drew ?_ | refine blk_alloc ?_ _)); refine blk_put (cs := #[.int .i64 ((rd_T51 l0_1 x4_2).f0), .int .i64 0, .int .i64 0]) ?_ 1 _ rfl; (with_reducible repeat (first | refine blk_drewN ?_ _ | refine blk_drew ?_ | refine blk_alloc ?_ _)); refine blk_put (cs := #[.int .i64 0, .int .i64 0, .int .i64 0]) ?_ 0 _ rfl; (with_reducible repeat (first | refine blk_drewN ?_ _ | refine blk_drew ?_ | refine blk_alloc ?_ _)); exact BK160.out⟩
                have n3_ : Aside0 (Below w.heap.size w (((w30.setCell ⟨gb160, 0, none⟩ (.int .i64 ((rd_T51 l0_1 x4_2).f0))).setCell ⟨gb160, 1, none⟩ (.int .i64 ((rd_T51 l0_1 x4_2).f1))).setCell ⟨gb160, 2, none⟩ (.int .i64 ((rd_T51 l0_1 x4_2).f2)))) := ⟨bs2 HB GE151 GE160⟩
                (try clear HO_3)
                (try clear BK151)
                (try clear BK160)
                (try clear HB)
                generalize (((w30.setCell ⟨gb160, 0, none⟩ (.int .i64 ((rd_T51 l0_1 x4_2).f0))).setCell ⟨gb160, 1, none⟩ (.int .i64 ((rd_T51 l0_1 x4_2).f1))).setCell ⟨gb160, 2, none⟩ (.int .i64 ((rd_T51 l0_1 x4_2).f2))) = w33 at n0_ n1_ n2_ n3_ ⊢
                have HO_3 := n0_
                have BK151 := n1_
                have BK160 := n2_
                have HB := n3_
                clear n0_ n1_ n2_ n3_
                have p164 : 0 ≤ (((rd_T51 l0_1 x4_2).f0) : Int) := ode
                have q164 : ((rd_T51 l0_1 x4_2).f0) < (x3_2.length : Int) := ode
                obtain ⟨ad164, e164, hx164_0⟩ := Kd.at_int (Kd.R_reads' HO_3.out).2.2 ((rd_T51 l0_1 x4_2).f0) p164 q164
                cases e164
                replace p164 := eq_true p164
                replace q164 := eq_true q164
                have p165 : 0 ≤ (((rd_T51 l0_1 x4_2).f1) : Int) := ode
                have q165 : ((rd_T51 l0_1 x4_2).f1) < (x3_2.length : Int) := ode
                obtain ⟨ad165, e165, hx165_0⟩ := Kd.at_int (Kd.R_reads' HO_3.out).2.2 ((rd_T51 l0_1 x4_2).f1) p165 q165
                obtain rfl : ad164 = ad165 := (by injection e165)
                replace p165 := eq_true p165
                replace q165 := eq_true q165
                obtain ⟨s0_, s1_, s2_, s3_, s4_, s5_, s6_⟩ : w33.cell? ⟨gb160, 0, none⟩ = some (.int .i64 ((rd_T51 l0_1 x4_2).f0)) ∧ w33.cell? ⟨gb160, 1, none⟩ = some (.int .i64 ((rd_T51 l0_1 x4_2).f1)) ∧ w33.cell? ⟨gb160, 2, none⟩ = some (.int .i64 ((rd_T51 l0_1 x4_2).f2)) ∧ w33.cell? ⟨gb151, 0, none⟩ = some (.int .i64 a0_0) ∧ w33.cell? ⟨gb151, 1, none⟩ = some (.slice (some ad159) l0_1.length c0_1) ∧ w33.cell? (ad164.add (((rd_T51 l0_1 x4_2).f0)).toNat) = some (.int .i64 (rd x3_2 ((rd_T51 l0_1 x4_2).f0))) ∧ w33.cell? (ad164.add (((rd_T51 l0_1 x4_2).f1)).toNat) = some (.int .i64 (rd x3_2 ((rd_T51 l0_1 x4_2).f1))) := ⟨(blk_cell BK160.out 0).trans rfl, (blk_cell BK160.out 1).trans rfl, (blk_cell BK160.out 2).trans rfl, (blk_cell BK151.out 0).trans rfl, (blk_cell BK151.out 1).trans rfl, hx164_0, hx165_0⟩
                (try clear hcz10_0); (try clear hcz10_1); (try clear hcz29_0); (try clear hcz29_1); (try clear hcz32_0); (try clear hcz32_1); (try clear hcz32_2); (try clear hcz6_0); (try clear hcz6_1); (try clear hcz7_0); (try clear hcz7_1); (try clear hx159_0); (try clear hx159_1); (try clear hx159_2); (try clear hx164_0); (try clear hx165_0)
                go_quiet ((first | (go_at_call 76; (with_reducible refine Calls.quiet_of ((spec_l1In.calls ((rd_T51 l0_1 x4_2).f0) 0 (wrap64 (a0_0 - 1)) true _ A18.out).mono fun _ _ h_ => ⟨h_.1, h_.2.out⟩))) | (go_at_call 76; (with_reducible refine Calls.quiet_of ((spec_l1In.calls ((rd_T51 l0_1 x4_2).f1) 0 (wrap64 (a0_0 - 1)) true _ A20.out).mono fun _ _ h_ => ⟨h_.1, h_.2.out⟩))) | (go_at_call 76; (with_reducible refine Calls.quiet_of ((spec_l1In.calls ((rd_T51 l0_1 x4_2).f2) 0 1000000 true _ A22.out).mono fun _ _ h_ => ⟨h_.1, h_.2.out⟩)))))
                clear s0_ s1_ s2_ s3_ s4_ s5_ s6_
                have n0_ := Aside0.mk (Kd.R_drewN HO_3.out nq)
                have n1_ := Aside0.mk (blk_drewN BK151.out nq)
                have n2_ := Aside0.mk (blk_drewN BK160.out nq)
                have n3_ := Aside0.mk (pw_below_drewN HB.out nq)
                clear HO_3
                clear BK151
                clear BK160
                clear HB
                have HO_3 := n0_
                have BK151 := n1_
                have BK160 := n2_
                have HB := n3_
                clear n0_ n1_ n2_ n3_
                generalize w33.drewN nq = w34 at BK151 BK160 HB HO_3 ⊢
                try go_wp2
                go_ret
                exact ⟨by first | rfl | (simp [errW_none, errW_some] <;> rfl) | (simp [*, errW_none, errW_some] <;> rfl), bs2 HB GE151 GE160⟩
               ·rw [if_neg c28] at H
                have c28b0 : ((rd x3_2 ((rd_T51 l0_1 x4_2).f0)) == (rd x3_2 ((rd_T51 l0_1 x4_2).f1))) = false := beq_eq_false_iff_ne.mpr c28
                have c28b1 : ((rd x3_2 ((rd_T51 l0_1 x4_2).f0)) != (rd x3_2 ((rd_T51 l0_1 x4_2).f1))) = true := bne_iff_ne.mpr c28
                replace H := Option.bind_eq_some_iff.mp H
                obtain ⟨t166, A350, H⟩ := H
                replace H : (spec_ForestOk.l0 k2 t166 (wrap64 (x4_2 + 1)) a0_0 l0_1) = some r := H
                have A35 := Aside0.mk A350
                clear A350
                have H' := Aside0.mk H
                clear H
                have hcz36_0 : wr.cell? ⟨gb151, 0, none⟩ = some (.int .i64 a0_0) := (blk_cell BK151.out 0).trans rfl
                have hcz36_1 : wr.cell? ⟨gb151, 1, none⟩ = some (.slice A0_1 l0_1.length c0_1) := (blk_cell BK151.out 1).trans rfl
                have hfz36_0 := blk_frozen BK151.out 0
                have hfz36_1 := blk_frozen BK151.out 1
                have p159 : 0 ≤ (x4_2 : Int) := ode
                have q159 : x4_2 < (l0_1.length : Int) := ode
                obtain ⟨ad159, e159, hx159_0, hx159_1, hx159_2⟩ := at_T51 HR0_1.out x4_2 p159 q159
                cases e159
                replace hx159_0 := (HB.out.cell (World.block_lt_of_cell? w _ hx159_0)).trans hx159_0
                replace hx159_1 := (HB.out.cell (World.block_lt_of_cell? w _ hx159_1)).trans hx159_1
                replace hx159_2 := (HB.out.cell (World.block_lt_of_cell? w _ hx159_2)).trans hx159_2
                replace p159 := eq_true p159
                replace q159 := eq_true q159
                try go_wp2_with (first | ((with_reducible refine gate_dst (N := 5) rfl ?_); (try (refine gate_guard (by rfl) ?_; dsimp only)); refine box_event ?hg (N := 5) ?hd (cs := #[.int .i64 0, .int .i64 0, .int .i64 0]) (t := 51) ?hr ?_; (case hd => rfl); (case hg => rfl); (case hr => first | (go_simp; done) | (go_simp; rfl)); intro gb160 hg w37 hbox hb; have n0_ := Aside0.mk (Kd.R_below (rl HO_3) hb); have n1_ := Aside0.mk (blk_below (g := gb151) (o := .cells #[.int .i64 a0_0, .slice (some ad159) l0_1.length c0_1] 35 (0, 0)) (bk BK151) hb); have n2_ := Aside0.mk (below_step (bs HB GE151) hb); have n3_ := Aside0.mk (hbox); have n4_ := Aside0.mk ((by rw [hg]; exact (below_size (bs HB GE151)) : w.heap.size ≤ gb160)); have n5_ := Aside0.mk ((by rw [hg]; exact (below_size (bs HB GE151)) : w.heap.size ≤ gb160)); have n6_ := Aside0.mk ((by rw [hg]; exact Nat.ne_of_lt (blk_lt (g := gb151) (o := .cells #[.int .i64 a0_0, .slice (some ad159) l0_1.length c0_1] 35 (0, 0)) (bk BK151)) : gb151 ≠ gb160)); have n7_ := Aside0.mk ((by rw [hg]; exact Nat.ne_of_gt (blk_lt (g := gb151) (o := .cells #[.int .i64 a0_0, .slice (some ad159) l0_1.length c0_1] 35 (0, 0)) (bk BK151)) : gb160 ≠ gb151)); clear HO_3; clear BK151; clear HB; have HO_3 := n0_; have BK151 := n1_; have HB := n2_; have BK160 := n3_; have GW160 := n4_; have GE160 := n5_; have NB151_160 := n6_; have NB160_151 := n7_; clear n0_ n1_ n2_ n3_ n4_ n5_ n6_ n7_; clear hb hbox hg; have hnb38 := NB160_151.out; have hnc38 := NB151_160.out; have hcz39_0 : w37.cell? ⟨gb160, 0, none⟩ = some (.int .i64 0) := (blk_cell BK160.out 0).trans rfl; have hcz39_1 : w37.cell? ⟨gb160, 1, none⟩ = some (.int .i64 0) := (blk_cell BK160.out 1).trans rfl; have hcz39_2 : w37.cell? ⟨gb160, 2, none⟩ = some (.int .i64 0) := (blk_cell BK160.out 2).trans rfl; have hfz39_0 := blk_frozen BK160.out 0; have hfz39_1 := blk_frozen BK160.out 1; have hfz39_2 := blk_frozen BK160.out 2))
                have n0_ : Aside0 (Kd.R (Kd.int .i64) 2 (((w37.setCell ⟨gb160, 0, none⟩ (.int .i64 ((rd_T51 l0_1 x4_2).f0))).setCell ⟨gb160, 1, none⟩ (.int .i64 ((rd_T51 l0_1 x4_2).f1))).setCell ⟨gb160, 2, none⟩ (.int .i64 ((rd_T51 l0_1 x4_2).f2))) w.heap.size (fun _ => True) (.slice Ao15 x3_2.length co15) x3_2) := ⟨by (with_reducible repeat (first | apply Kd.R_alloc | apply Kd.R_drewN | apply Kd.R_drew)); exact Kd.R_mono (Kd.R_far (p := ⟨gb160, 2, none⟩) (Kd.R_far (p := ⟨gb160, 1, none⟩) (Kd.R_far (p := ⟨gb160, 0, none⟩) (Kd.R_types HO_3.out BK160.out (by decide)) (fun _ hk => hk.2) (.int .i64 ((rd_T51 l0_1 x4_2).f0))) (fun _ hk => hk.2) (.int .i64 ((rd_T51 l0_1 x4_2).f1))) (fun _ hk => hk.2) (.int .i64 ((rd_T51 l0_1 x4_2).f2))) (fun _ hk => trivial)⟩
                have n1_ : Aside0 ((((w37.setCell ⟨gb160, 0, none⟩ (.int .i64 ((rd_T51 l0_1 x4_2).f0))).setCell ⟨gb160, 1, none⟩ (.int .i64 ((rd_T51 l0_1 x4_2).f1))).setCell ⟨gb160, 2, none⟩ (.int .i64 ((rd_T51 l0_1 x4_2).f2))).heap[gb151]? = some (.cells #[.int .i64 a0_0, .slice (some ad159) l0_1.length c0_1] 35 (0, 0))) := ⟨by (with_reducible repeat (first | refine blk_drewN ?_ _ | refine blk_drew ?_ | refine blk_alloc ?_ _)); refine blk_far ?_ NB151_160.out _; (with_reducible repeat (first | refine blk_drewN ?_ _ | refine blk_drew ?_ | refine blk_alloc ?_ _)); refine blk_far ?_ NB151_160.out _; (with_reducible repeat (first | refine blk_drewN ?_ _ | refine blk_drew ?_ | refine blk_alloc ?_ _)); refine blk_far ?_ NB151_160.out _; (with_reducible repeat (first | refine blk_drewN ?_ _ | refine blk_drew ?_ | refine blk_alloc ?_ _)); exact BK151.out⟩
                have n2_ : Aside0 ((((w37.setCell ⟨gb160, 0, none⟩ (.int .i64 ((rd_T51 l0_1 x4_2).f0))).setCell ⟨gb160, 1, none⟩ (.int .i64 ((rd_T51 l0_1 x4_2).f1))).setCell ⟨gb160, 2, none⟩ (.int .i64 ((rd_T51 l0_1 x4_2).f2))).heap[gb160]? = some (.cells #[.int .i64 ((rd_T51 l0_1 x4_2).f0), .int .i64 ((rd_T51 l0_1 x4_2).f1), .int .i64 ((rd_T51 l0_1 x4_2).f2)] 51 (0, 0))) := ⟨by (with_reducible repeat (first | refine blk_drewN ?_ _ | refine blk_drew ?_ | refine blk_alloc ?_ _)); refine blk_put (cs := #[.int .i64 ((rd_T51 l0_1 x4_2).f0), .int .i64 ((rd_T51 l0_1 x4_2).f1), .int .i64 0]) ?_ 2 _ rfl; (with_reducible repeat (first | refine blk_drewN ?_ _ | refine blk_drew ?_ | refine blk_alloc ?_ _)); refine blk_put (cs := #[.int .i64 ((rd_T51 l0_1 x4_2).f0), .int .i64 0, .int .i64 0]) ?_ 1 _ rfl; (with_reducible repeat (first | refine blk_drewN ?_ _ | refine blk_drew ?_ | refine blk_alloc ?_ _)); refine blk_put (cs := #[.int .i64 0, .int .i64 0, .int .i64 0]) ?_ 0 _ rfl; (with_reducible repeat (first | refine blk_drewN ?_ _ | refine blk_drew ?_ | refine blk_alloc ?_ _)); exact BK160.out⟩
                have n3_ : Aside0 (Below w.heap.size w (((w37.setCell ⟨gb160, 0, none⟩ (.int .i64 ((rd_T51 l0_1 x4_2).f0))).setCell ⟨gb160, 1, none⟩ (.int .i64 ((rd_T51 l0_1 x4_2).f1))).setCell ⟨gb160, 2, none⟩ (.int .i64 ((rd_T51 l0_1 x4_2).f2)))) := ⟨bs2 HB GE151 GE160⟩
                (try clear HO_3)
                (try clear BK151)
                (try clear BK160)
                (try clear HB)
                generalize (((w37.setCell ⟨gb160, 0, none⟩ (.int .i64 ((rd_T51 l0_1 x4_2).f0))).setCell ⟨gb160, 1, none⟩ (.int .i64 ((rd_T51 l0_1 x4_2).f1))).setCell ⟨gb160, 2, none⟩ (.int .i64 ((rd_T51 l0_1 x4_2).f2))) = w40 at n0_ n1_ n2_ n3_ ⊢
                have HO_3 := n0_
                have BK151 := n1_
                have BK160 := n2_
                have HB := n3_
                clear n0_ n1_ n2_ n3_
                have p164 : 0 ≤ (((rd_T51 l0_1 x4_2).f0) : Int) := ode
                have q164 : ((rd_T51 l0_1 x4_2).f0) < (x3_2.length : Int) := ode
                obtain ⟨ad164, e164, hx164_0⟩ := Kd.at_int (Kd.R_reads' HO_3.out).2.2 ((rd_T51 l0_1 x4_2).f0) p164 q164
                cases e164
                replace p164 := eq_true p164
                replace q164 := eq_true q164
                have p165 : 0 ≤ (((rd_T51 l0_1 x4_2).f1) : Int) := ode
                have q165 : ((rd_T51 l0_1 x4_2).f1) < (x3_2.length : Int) := ode
                obtain ⟨ad165, e165, hx165_0⟩ := Kd.at_int (Kd.R_reads' HO_3.out).2.2 ((rd_T51 l0_1 x4_2).f1) p165 q165
                obtain rfl : ad164 = ad165 := (by injection e165)
                replace p165 := eq_true p165
                replace q165 := eq_true q165
                obtain ⟨s0_, s1_, s2_, s3_, s4_, s5_, s6_⟩ : w40.cell? ⟨gb160, 0, none⟩ = some (.int .i64 ((rd_T51 l0_1 x4_2).f0)) ∧ w40.cell? ⟨gb160, 1, none⟩ = some (.int .i64 ((rd_T51 l0_1 x4_2).f1)) ∧ w40.cell? ⟨gb160, 2, none⟩ = some (.int .i64 ((rd_T51 l0_1 x4_2).f2)) ∧ w40.cell? ⟨gb151, 0, none⟩ = some (.int .i64 a0_0) ∧ w40.cell? ⟨gb151, 1, none⟩ = some (.slice (some ad159) l0_1.length c0_1) ∧ w40.cell? (ad164.add (((rd_T51 l0_1 x4_2).f0)).toNat) = some (.int .i64 (rd x3_2 ((rd_T51 l0_1 x4_2).f0))) ∧ w40.cell? (ad164.add (((rd_T51 l0_1 x4_2).f1)).toNat) = some (.int .i64 (rd x3_2 ((rd_T51 l0_1 x4_2).f1))) := ⟨(blk_cell BK160.out 0).trans rfl, (blk_cell BK160.out 1).trans rfl, (blk_cell BK160.out 2).trans rfl, (blk_cell BK151.out 0).trans rfl, (blk_cell BK151.out 1).trans rfl, hx164_0, hx165_0⟩
                (try clear hcz10_0); (try clear hcz10_1); (try clear hcz29_0); (try clear hcz29_1); (try clear hcz32_0); (try clear hcz32_1); (try clear hcz32_2); (try clear hcz36_0); (try clear hcz36_1); (try clear hcz39_0); (try clear hcz39_1); (try clear hcz39_2); (try clear hcz6_0); (try clear hcz6_1); (try clear hcz7_0); (try clear hcz7_1); (try clear hx159_0); (try clear hx159_1); (try clear hx159_2); (try clear hx164_0); (try clear hx165_0)
                go_quiet ((first | (go_at_call 76; (with_reducible refine Calls.quiet_of ((spec_l1In.calls ((rd_T51 l0_1 x4_2).f0) 0 (wrap64 (a0_0 - 1)) true _ A18.out).mono fun _ _ h_ => ⟨h_.1, h_.2.out⟩))) | (go_at_call 76; (with_reducible refine Calls.quiet_of ((spec_l1In.calls ((rd_T51 l0_1 x4_2).f1) 0 (wrap64 (a0_0 - 1)) true _ A20.out).mono fun _ _ h_ => ⟨h_.1, h_.2.out⟩))) | (go_at_call 76; (with_reducible refine Calls.quiet_of ((spec_l1In.calls ((rd_T51 l0_1 x4_2).f2) 0 1000000 true _ A22.out).mono fun _ _ h_ => ⟨h_.1, h_.2.out⟩)))))
                clear s0_ s1_ s2_ s3_ s4_ s5_ s6_
                have n0_ := Aside0.mk (Kd.R_drewN HO_3.out nq)
                have n1_ := Aside0.mk (blk_drewN BK151.out nq)
                have n2_ := Aside0.mk (blk_drewN BK160.out nq)
                have n3_ := Aside0.mk (pw_below_drewN HB.out nq)
                clear HO_3
                clear BK151
                clear BK160
                clear HB
                have HO_3 := n0_
                have BK151 := n1_
                have BK160 := n2_
                have HB := n3_
                clear n0_ n1_ n2_ n3_
                generalize w40.drewN nq = w41 at BK151 BK160 HB HO_3 ⊢
                have hcz42_0 : w41.cell? ⟨gb160, 0, none⟩ = some (.int .i64 ((rd_T51 l0_1 x4_2).f0)) := (blk_cell BK160.out 0).trans rfl
                have hcz42_1 : w41.cell? ⟨gb160, 1, none⟩ = some (.int .i64 ((rd_T51 l0_1 x4_2).f1)) := (blk_cell BK160.out 1).trans rfl
                have hcz42_2 : w41.cell? ⟨gb160, 2, none⟩ = some (.int .i64 ((rd_T51 l0_1 x4_2).f2)) := (blk_cell BK160.out 2).trans rfl
                have hfz42_0 := blk_frozen BK160.out 0
                have hfz42_1 := blk_frozen BK160.out 1
                have hfz42_2 := blk_frozen BK160.out 2
                try go_wp2_with (first | ((with_reducible refine gate_callee (f := 133) rfl ?_); refine goesL_ (some 74) rfl rfl Try.func133 (by kernel_rfl) rfl #[.slice (some ad164) x3_2.length co15, .int .i64 ((rd_T51 l0_1 x4_2).f0), .int .i64 ((rd_T51 l0_1 x4_2).f1)] rfl (by (try simp only [List.map_toArray, List.map_cons, List.map_nil]); first | done | rfl | (simp only [List.length_drop, List.length_take]; rfl)) ?_; (with_reducible refine (spec_l7Merge.calls k2 (fun k_ => some k_ = (.slice (some ad164) x3_2.length co15 : Value).ownBlock) (.slice (some ad164) x3_2.length co15) x3_2 ((rd_T51 l0_1 x4_2).f0) ((rd_T51 l0_1 x4_2).f1) t166 w _ ?side1 ?side2 A35.out).mono ?_); (case side1 => repeat (first | (with_reducible first | exact HB.out | apply below_alloc | apply pw_below_drewN | apply below_drew1 | refine below_set ?_ GE151.out | refine below_set ?_ GE160.out) | exact HB.out)); (case side2 => exact Kd.R_tight rfl HO_3.out); rintro e w43 ⟨rfl, hy0, hb, hkp⟩; refine ⟨_, rfl, ?_⟩; have n0_ := Aside0.mk (Kd.R_reok rfl hy0 (fun k_ e_ => HO_3.out.1 k_ e_)); have n1_ := Aside0.mk (blk_kept (bk BK151) hkp (fun hs_ => (fun e_ => (Kd.R_ne HO_3.out BK151.out (by decide)) e_) hs_)); have n2_ := Aside0.mk (blk_kept (bk BK160) hkp (fun hs_ => (fun e_ => (Kd.R_ne HO_3.out BK160.out (by decide)) e_) hs_)); have n3_ := Aside0.mk (hb); clear HO_3; clear BK151; clear BK160; clear HB; have HO_3 := n0_; have BK151 := n1_; have BK160 := n2_; have HB := n3_; clear n0_ n1_ n2_ n3_; (try clear hb); (try clear hkp); (try clear hy0)))
                (try simp only [← hl3_2])
                go_roundg k2
                case measure => have := HJ1.out; have := HK2.out; omega
                case rel => exact ⟨(t166), (wrap64 (x4_2 + 1)), (by first | rfl | (simp; done) | (simp [*]; done) | (simp only [bne_nil_]; done) | (simp [bne_nil_]; done)), H', ⟨by have := HJ1.out; have := HK2.out; omega⟩, ⟨by (try simp only [hl3_2]); (with_reducible repeat (first | apply Kd.R_alloc | apply Kd.R_drewN | apply Kd.R_drew)); exact HO_3.out⟩, ⟨by (try simp only [hl3_2]); (with_reducible repeat (first | refine blk_drewN ?_ _ | refine blk_drew ?_ | refine blk_alloc ?_ _)); exact BK151.out⟩, ⟨bs2 HB GE151 GE160⟩⟩
              ·rw [if_neg c27] at H
               exact absurd H (by simp)
             ·rw [if_neg c26] at H
              exact absurd H (by simp)
            ·rw [if_neg c25] at H
             exact absurd H (by simp)
           ·rw [if_neg c24] at H
            exact absurd H (by simp)
          ·replace c23 := Bool.eq_false_iff.mpr c23
           subst c23
           have H1 : (some false) = some r := by rw [if_neg (show ¬ (false = true) by decide)] at H; exact H
           clear H
           have H := H1
           clear H1
           obtain rfl := Option.some.inj H
           have hcz44_0 : wr.cell? ⟨gb151, 0, none⟩ = some (.int .i64 a0_0) := (blk_cell BK151.out 0).trans rfl
           have hcz44_1 : wr.cell? ⟨gb151, 1, none⟩ = some (.slice A0_1 l0_1.length c0_1) := (blk_cell BK151.out 1).trans rfl
           have hfz44_0 := blk_frozen BK151.out 0
           have hfz44_1 := blk_frozen BK151.out 1
           have p159 : 0 ≤ (x4_2 : Int) := ode
           have q159 : x4_2 < (l0_1.length : Int) := ode
           obtain ⟨ad159, e159, hx159_0, hx159_1, hx159_2⟩ := at_T51 HR0_1.out x4_2 p159 q159
           cases e159
           replace hx159_0 := (HB.out.cell (World.block_lt_of_cell? w _ hx159_0)).trans hx159_0
           replace hx159_1 := (HB.out.cell (World.block_lt_of_cell? w _ hx159_1)).trans hx159_1
           replace hx159_2 := (HB.out.cell (World.block_lt_of_cell? w _ hx159_2)).trans hx159_2
           replace p159 := eq_true p159
           replace q159 := eq_true q159
           try go_wp2_with (first | ((with_reducible refine gate_dst (N := 5) rfl ?_); (try (refine gate_guard (by rfl) ?_; dsimp only)); refine box_event ?hg (N := 5) ?hd (cs := #[.int .i64 0, .int .i64 0, .int .i64 0]) (t := 51) ?hr ?_; (case hd => rfl); (case hg => rfl); (case hr => first | (go_simp; done) | (go_simp; rfl)); intro gb160 hg w45 hbox hb; have n0_ := Aside0.mk (Kd.R_below (rl HO_3) hb); have n1_ := Aside0.mk (blk_below (g := gb151) (o := .cells #[.int .i64 a0_0, .slice (some ad159) l0_1.length c0_1] 35 (0, 0)) (bk BK151) hb); have n2_ := Aside0.mk (below_step (bs HB GE151) hb); have n3_ := Aside0.mk (hbox); have n4_ := Aside0.mk ((by rw [hg]; exact (below_size (bs HB GE151)) : w.heap.size ≤ gb160)); have n5_ := Aside0.mk ((by rw [hg]; exact (below_size (bs HB GE151)) : w.heap.size ≤ gb160)); have n6_ := Aside0.mk ((by rw [hg]; exact Nat.ne_of_lt (blk_lt (g := gb151) (o := .cells #[.int .i64 a0_0, .slice (some ad159) l0_1.length c0_1] 35 (0, 0)) (bk BK151)) : gb151 ≠ gb160)); have n7_ := Aside0.mk ((by rw [hg]; exact Nat.ne_of_gt (blk_lt (g := gb151) (o := .cells #[.int .i64 a0_0, .slice (some ad159) l0_1.length c0_1] 35 (0, 0)) (bk BK151)) : gb160 ≠ gb151)); clear HO_3; clear BK151; clear HB; have HO_3 := n0_; have BK151 := n1_; have HB := n2_; have BK160 := n3_; have GW160 := n4_; have GE160 := n5_; have NB151_160 := n6_; have NB160_151 := n7_; clear n0_ n1_ n2_ n3_ n4_ n5_ n6_ n7_; clear hb hbox hg; have hnb46 := NB160_151.out; have hnc46 := NB151_160.out; have hcz47_0 : w45.cell? ⟨gb160, 0, none⟩ = some (.int .i64 0) := (blk_cell BK160.out 0).trans rfl; have hcz47_1 : w45.cell? ⟨gb160, 1, none⟩ = some (.int .i64 0) := (blk_cell BK160.out 1).trans rfl; have hcz47_2 : w45.cell? ⟨gb160, 2, none⟩ = some (.int .i64 0) := (blk_cell BK160.out 2).trans rfl; have hfz47_0 := blk_frozen BK160.out 0; have hfz47_1 := blk_frozen BK160.out 1; have hfz47_2 := blk_frozen BK160.out 2))
           have n0_ : Aside0 (Kd.R (Kd.int .i64) 2 (((w45.setCell ⟨gb160, 0, none⟩ (.int .i64 ((rd_T51 l0_1 x4_2).f0))).setCell ⟨gb160, 1, none⟩ (.int .i64 ((rd_T51 l0_1 x4_2).f1))).setCell ⟨gb160, 2, none⟩ (.int .i64 ((rd_T51 l0_1 x4_2).f2))) w.heap.size (fun _ => True) (.slice Ao15 x3_2.length co15) x3_2) := ⟨by (with_reducible repeat (first | apply Kd.R_alloc | apply Kd.R_drewN | apply Kd.R_drew)); exact Kd.R_mono (Kd.R_far (p := ⟨gb160, 2, none⟩) (Kd.R_far (p := ⟨gb160, 1, none⟩) (Kd.R_far (p := ⟨gb160, 0, none⟩) (Kd.R_types HO_3.out BK160.out (by decide)) (fun _ hk => hk.2) (.int .i64 ((rd_T51 l0_1 x4_2).f0))) (fun _ hk => hk.2) (.int .i64 ((rd_T51 l0_1 x4_2).f1))) (fun _ hk => hk.2) (.int .i64 ((rd_T51 l0_1 x4_2).f2))) (fun _ hk => trivial)⟩
           have n1_ : Aside0 ((((w45.setCell ⟨gb160, 0, none⟩ (.int .i64 ((rd_T51 l0_1 x4_2).f0))).setCell ⟨gb160, 1, none⟩ (.int .i64 ((rd_T51 l0_1 x4_2).f1))).setCell ⟨gb160, 2, none⟩ (.int .i64 ((rd_T51 l0_1 x4_2).f2))).heap[gb151]? = some (.cells #[.int .i64 a0_0, .slice (some ad159) l0_1.length c0_1] 35 (0, 0))) := ⟨by (with_reducible repeat (first | refine blk_drewN ?_ _ | refine blk_drew ?_ | refine blk_alloc ?_ _)); refine blk_far ?_ NB151_160.out _; (with_reducible repeat (first | refine blk_drewN ?_ _ | refine blk_drew ?_ | refine blk_alloc ?_ _)); refine blk_far ?_ NB151_160.out _; (with_reducible repeat (first | refine blk_drewN ?_ _ | refine blk_drew ?_ | refine blk_alloc ?_ _)); refine blk_far ?_ NB151_160.out _; (with_reducible repeat (first | refine blk_drewN ?_ _ | refine blk_drew ?_ | refine blk_alloc ?_ _)); exact BK151.out⟩
           have n2_ : Aside0 ((((w45.setCell ⟨gb160, 0, none⟩ (.int .i64 ((rd_T51 l0_1 x4_2).f0))).setCell ⟨gb160, 1, none⟩ (.int .i64 ((rd_T51 l0_1 x4_2).f1))).setCell ⟨gb160, 2, none⟩ (.int .i64 ((rd_T51 l0_1 x4_2).f2))).heap[gb160]? = some (.cells #[.int .i64 ((rd_T51 l0_1 x4_2).f0), .int .i64 ((rd_T51 l0_1 x4_2).f1), .int .i64 ((rd_T51 l0_1 x4_2).f2)] 51 (0, 0))) := ⟨by (with_reducible repeat (first | refine blk_drewN ?_ _ | refine blk_drew ?_ | refine blk_alloc ?_ _)); refine blk_put (cs := #[.int .i64 ((rd_T51 l0_1 x4_2).f0), .int .i64 ((rd_T51 l0_1 x4_2).f1), .int .i64 0]) ?_ 2 _ rfl; (with_reducible repeat (first | refine blk_drewN ?_ _ | refine blk_drew ?_ | refine blk_alloc ?_ _)); refine blk_put (cs := #[.int .i64 ((rd_T51 l0_1 x4_2).f0), .int .i64 0, .int .i64 0]) ?_ 1 _ rfl; (with_reducible repeat (first | refine blk_drewN ?_ _ | refine blk_drew ?_ | refine blk_alloc ?_ _)); refine blk_put (cs := #[.int .i64 0, .int .i64 0, .int .i64 0]) ?_ 0 _ rfl; (with_reducible repeat (first | refine blk_drewN ?_ _ | refine blk_drew ?_ | refine blk_alloc ?_ _)); exact BK160.out⟩
           have n3_ : Aside0 (Below w.heap.size w (((w45.setCell ⟨gb160, 0, none⟩ (.int .i64 ((rd_T51 l0_1 x4_2).f0))).setCell ⟨gb160, 1, none⟩ (.int .i64 ((rd_T51 l0_1 x4_2).f1))).setCell ⟨gb160, 2, none⟩ (.int .i64 ((rd_T51 l0_1 x4_2).f2)))) := ⟨bs2 HB GE151 GE160⟩
           (try clear HO_3)
           (try clear BK151)
           (try clear BK160)
           (try clear HB)
           generalize (((w45.setCell ⟨gb160, 0, none⟩ (.int .i64 ((rd_T51 l0_1 x4_2).f0))).setCell ⟨gb160, 1, none⟩ (.int .i64 ((rd_T51 l0_1 x4_2).f1))).setCell ⟨gb160, 2, none⟩ (.int .i64 ((rd_T51 l0_1 x4_2).f2))) = w48 at n0_ n1_ n2_ n3_ ⊢
           have HO_3 := n0_
           have BK151 := n1_
           have BK160 := n2_
           have HB := n3_
           clear n0_ n1_ n2_ n3_
           obtain ⟨s0_, s1_, s2_, s3_, s4_⟩ : w48.cell? ⟨gb160, 0, none⟩ = some (.int .i64 ((rd_T51 l0_1 x4_2).f0)) ∧ w48.cell? ⟨gb160, 1, none⟩ = some (.int .i64 ((rd_T51 l0_1 x4_2).f1)) ∧ w48.cell? ⟨gb160, 2, none⟩ = some (.int .i64 ((rd_T51 l0_1 x4_2).f2)) ∧ w48.cell? ⟨gb151, 0, none⟩ = some (.int .i64 a0_0) ∧ w48.cell? ⟨gb151, 1, none⟩ = some (.slice (some ad159) l0_1.length c0_1) := ⟨(blk_cell BK160.out 0).trans rfl, (blk_cell BK160.out 1).trans rfl, (blk_cell BK160.out 2).trans rfl, (blk_cell BK151.out 0).trans rfl, (blk_cell BK151.out 1).trans rfl⟩
           (try clear hcz10_0); (try clear hcz10_1); (try clear hcz44_0); (try clear hcz44_1); (try clear hcz47_0); (try clear hcz47_1); (try clear hcz47_2); (try clear hcz6_0); (try clear hcz6_1); (try clear hcz7_0); (try clear hcz7_1); (try clear hx159_0); (try clear hx159_1); (try clear hx159_2)
           go_quiet ((first | (go_at_call 76; (with_reducible refine Calls.quiet_of ((spec_l1In.calls ((rd_T51 l0_1 x4_2).f0) 0 (wrap64 (a0_0 - 1)) true _ A18.out).mono fun _ _ h_ => ⟨h_.1, h_.2.out⟩))) | (go_at_call 76; (with_reducible refine Calls.quiet_of ((spec_l1In.calls ((rd_T51 l0_1 x4_2).f1) 0 (wrap64 (a0_0 - 1)) true _ A20.out).mono fun _ _ h_ => ⟨h_.1, h_.2.out⟩))) | (go_at_call 76; (with_reducible refine Calls.quiet_of ((spec_l1In.calls ((rd_T51 l0_1 x4_2).f2) 0 1000000 false _ A22.out).mono fun _ _ h_ => ⟨h_.1, h_.2.out⟩)))))
           clear s0_ s1_ s2_ s3_ s4_
           have n0_ := Aside0.mk (Kd.R_drewN HO_3.out nq)
           have n1_ := Aside0.mk (blk_drewN BK151.out nq)
           have n2_ := Aside0.mk (blk_drewN BK160.out nq)
           have n3_ := Aside0.mk (pw_below_drewN HB.out nq)
           clear HO_3
           clear BK151
           clear BK160
           clear HB
           have HO_3 := n0_
           have BK151 := n1_
           have BK160 := n2_
           have HB := n3_
           clear n0_ n1_ n2_ n3_
           generalize w48.drewN nq = w49 at BK151 BK160 HB HO_3 ⊢
           try go_wp2
           go_ret
           exact ⟨by first | rfl | (simp [errW_none, errW_some] <;> rfl) | (simp [*, errW_none, errW_some] <;> rfl), bs2 HB GE151 GE160⟩
         ·replace c21 := Bool.eq_false_iff.mpr c21
          subst c21
          have H1 : (some false) = some r := by rw [if_neg (show ¬ (false = true) by decide)] at H; exact H
          clear H
          have H := H1
          clear H1
          obtain rfl := Option.some.inj H
          have hcz50_0 : wr.cell? ⟨gb151, 0, none⟩ = some (.int .i64 a0_0) := (blk_cell BK151.out 0).trans rfl
          have hcz50_1 : wr.cell? ⟨gb151, 1, none⟩ = some (.slice A0_1 l0_1.length c0_1) := (blk_cell BK151.out 1).trans rfl
          have hfz50_0 := blk_frozen BK151.out 0
          have hfz50_1 := blk_frozen BK151.out 1
          have p159 : 0 ≤ (x4_2 : Int) := ode
          have q159 : x4_2 < (l0_1.length : Int) := ode
          obtain ⟨ad159, e159, hx159_0, hx159_1, hx159_2⟩ := at_T51 HR0_1.out x4_2 p159 q159
          cases e159
          replace hx159_0 := (HB.out.cell (World.block_lt_of_cell? w _ hx159_0)).trans hx159_0
          replace hx159_1 := (HB.out.cell (World.block_lt_of_cell? w _ hx159_1)).trans hx159_1
          replace hx159_2 := (HB.out.cell (World.block_lt_of_cell? w _ hx159_2)).trans hx159_2
          replace p159 := eq_true p159
          replace q159 := eq_true q159
          try go_wp2_with (first | ((with_reducible refine gate_dst (N := 5) rfl ?_); (try (refine gate_guard (by rfl) ?_; dsimp only)); refine box_event ?hg (N := 5) ?hd (cs := #[.int .i64 0, .int .i64 0, .int .i64 0]) (t := 51) ?hr ?_; (case hd => rfl); (case hg => rfl); (case hr => first | (go_simp; done) | (go_simp; rfl)); intro gb160 hg w51 hbox hb; have n0_ := Aside0.mk (Kd.R_below (rl HO_3) hb); have n1_ := Aside0.mk (blk_below (g := gb151) (o := .cells #[.int .i64 a0_0, .slice (some ad159) l0_1.length c0_1] 35 (0, 0)) (bk BK151) hb); have n2_ := Aside0.mk (below_step (bs HB GE151) hb); have n3_ := Aside0.mk (hbox); have n4_ := Aside0.mk ((by rw [hg]; exact (below_size (bs HB GE151)) : w.heap.size ≤ gb160)); have n5_ := Aside0.mk ((by rw [hg]; exact (below_size (bs HB GE151)) : w.heap.size ≤ gb160)); have n6_ := Aside0.mk ((by rw [hg]; exact Nat.ne_of_lt (blk_lt (g := gb151) (o := .cells #[.int .i64 a0_0, .slice (some ad159) l0_1.length c0_1] 35 (0, 0)) (bk BK151)) : gb151 ≠ gb160)); have n7_ := Aside0.mk ((by rw [hg]; exact Nat.ne_of_gt (blk_lt (g := gb151) (o := .cells #[.int .i64 a0_0, .slice (some ad159) l0_1.length c0_1] 35 (0, 0)) (bk BK151)) : gb160 ≠ gb151)); clear HO_3; clear BK151; clear HB; have HO_3 := n0_; have BK151 := n1_; have HB := n2_; have BK160 := n3_; have GW160 := n4_; have GE160 := n5_; have NB151_160 := n6_; have NB160_151 := n7_; clear n0_ n1_ n2_ n3_ n4_ n5_ n6_ n7_; clear hb hbox hg; have hnb52 := NB160_151.out; have hnc52 := NB151_160.out; have hcz53_0 : w51.cell? ⟨gb160, 0, none⟩ = some (.int .i64 0) := (blk_cell BK160.out 0).trans rfl; have hcz53_1 : w51.cell? ⟨gb160, 1, none⟩ = some (.int .i64 0) := (blk_cell BK160.out 1).trans rfl; have hcz53_2 : w51.cell? ⟨gb160, 2, none⟩ = some (.int .i64 0) := (blk_cell BK160.out 2).trans rfl; have hfz53_0 := blk_frozen BK160.out 0; have hfz53_1 := blk_frozen BK160.out 1; have hfz53_2 := blk_frozen BK160.out 2))
          have n0_ : Aside0 (Kd.R (Kd.int .i64) 2 (((w51.setCell ⟨gb160, 0, none⟩ (.int .i64 ((rd_T51 l0_1 x4_2).f0))).setCell ⟨gb160, 1, none⟩ (.int .i64 ((rd_T51 l0_1 x4_2).f1))).setCell ⟨gb160, 2, none⟩ (.int .i64 ((rd_T51 l0_1 x4_2).f2))) w.heap.size (fun _ => True) (.slice Ao15 x3_2.length co15) x3_2) := ⟨by (with_reducible repeat (first | apply Kd.R_alloc | apply Kd.R_drewN | apply Kd.R_drew)); exact Kd.R_mono (Kd.R_far (p := ⟨gb160, 2, none⟩) (Kd.R_far (p := ⟨gb160, 1, none⟩) (Kd.R_far (p := ⟨gb160, 0, none⟩) (Kd.R_types HO_3.out BK160.out (by decide)) (fun _ hk => hk.2) (.int .i64 ((rd_T51 l0_1 x4_2).f0))) (fun _ hk => hk.2) (.int .i64 ((rd_T51 l0_1 x4_2).f1))) (fun _ hk => hk.2) (.int .i64 ((rd_T51 l0_1 x4_2).f2))) (fun _ hk => trivial)⟩
          have n1_ : Aside0 ((((w51.setCell ⟨gb160, 0, none⟩ (.int .i64 ((rd_T51 l0_1 x4_2).f0))).setCell ⟨gb160, 1, none⟩ (.int .i64 ((rd_T51 l0_1 x4_2).f1))).setCell ⟨gb160, 2, none⟩ (.int .i64 ((rd_T51 l0_1 x4_2).f2))).heap[gb151]? = some (.cells #[.int .i64 a0_0, .slice (some ad159) l0_1.length c0_1] 35 (0, 0))) := ⟨by (with_reducible repeat (first | refine blk_drewN ?_ _ | refine blk_drew ?_ | refine blk_alloc ?_ _)); refine blk_far ?_ NB151_160.out _; (with_reducible repeat (first | refine blk_drewN ?_ _ | refine blk_drew ?_ | refine blk_alloc ?_ _)); refine blk_far ?_ NB151_160.out _; (with_reducible repeat (first | refine blk_drewN ?_ _ | refine blk_drew ?_ | refine blk_alloc ?_ _)); refine blk_far ?_ NB151_160.out _; (with_reducible repeat (first | refine blk_drewN ?_ _ | refine blk_drew ?_ | refine blk_alloc ?_ _)); exact BK151.out⟩
          have n2_ : Aside0 ((((w51.setCell ⟨gb160, 0, none⟩ (.int .i64 ((rd_T51 l0_1 x4_2).f0))).setCell ⟨gb160, 1, none⟩ (.int .i64 ((rd_T51 l0_1 x4_2).f1))).setCell ⟨gb160, 2, none⟩ (.int .i64 ((rd_T51 l0_1 x4_2).f2))).heap[gb160]? = some (.cells #[.int .i64 ((rd_T51 l0_1 x4_2).f0), .int .i64 ((rd_T51 l0_1 x4_2).f1), .int .i64 ((rd_T51 l0_1 x4_2).f2)] 51 (0, 0))) := ⟨by (with_reducible repeat (first | refine blk_drewN ?_ _ | refine blk_drew ?_ | refine blk_alloc ?_ _)); refine blk_put (cs := #[.int .i64 ((rd_T51 l0_1 x4_2).f0), .int .i64 ((rd_T51 l0_1 x4_2).f1), .int .i64 0]) ?_ 2 _ rfl; (with_reducible repeat (first | refine blk_drewN ?_ _ | refine blk_drew ?_ | refine blk_alloc ?_ _)); refine blk_put (cs := #[.int .i64 ((rd_T51 l0_1 x4_2).f0), .int .i64 0, .int .i64 0]) ?_ 1 _ rfl; (with_reducible repeat (first | refine blk_drewN ?_ _ | refine blk_drew ?_ | refine blk_alloc ?_ _)); refine blk_put (cs := #[.int .i64 0, .int .i64 0, .int .i64 0]) ?_ 0 _ rfl; (with_reducible repeat (first | refine blk_drewN ?_ _ | refine blk_drew ?_ | refine blk_alloc ?_ _)); exact BK160.out⟩
          have n3_ : Aside0 (Below w.heap.size w (((w51.setCell ⟨gb160, 0, none⟩ (.int .i64 ((rd_T51 l0_1 x4_2).f0))).setCell ⟨gb160, 1, none⟩ (.int .i64 ((rd_T51 l0_1 x4_2).f1))).setCell ⟨gb160, 2, none⟩ (.int .i64 ((rd_T51 l0_1 x4_2).f2)))) := ⟨bs2 HB GE151 GE160⟩
          (try clear HO_3)
          (try clear BK151)
          (try clear BK160)
          (try clear HB)
          generalize (((w51.setCell ⟨gb160, 0, none⟩ (.int .i64 ((rd_T51 l0_1 x4_2).f0))).setCell ⟨gb160, 1, none⟩ (.int .i64 ((rd_T51 l0_1 x4_2).f1))).setCell ⟨gb160, 2, none⟩ (.int .i64 ((rd_T51 l0_1 x4_2).f2))) = w54 at n0_ n1_ n2_ n3_ ⊢
          have HO_3 := n0_
          have BK151 := n1_
          have BK160 := n2_
          have HB := n3_
          clear n0_ n1_ n2_ n3_
          obtain ⟨s0_, s1_, s2_, s3_, s4_⟩ : w54.cell? ⟨gb160, 0, none⟩ = some (.int .i64 ((rd_T51 l0_1 x4_2).f0)) ∧ w54.cell? ⟨gb160, 1, none⟩ = some (.int .i64 ((rd_T51 l0_1 x4_2).f1)) ∧ w54.cell? ⟨gb160, 2, none⟩ = some (.int .i64 ((rd_T51 l0_1 x4_2).f2)) ∧ w54.cell? ⟨gb151, 0, none⟩ = some (.int .i64 a0_0) ∧ w54.cell? ⟨gb151, 1, none⟩ = some (.slice (some ad159) l0_1.length c0_1) := ⟨(blk_cell BK160.out 0).trans rfl, (blk_cell BK160.out 1).trans rfl, (blk_cell BK160.out 2).trans rfl, (blk_cell BK151.out 0).trans rfl, (blk_cell BK151.out 1).trans rfl⟩
          (try clear hcz10_0); (try clear hcz10_1); (try clear hcz50_0); (try clear hcz50_1); (try clear hcz53_0); (try clear hcz53_1); (try clear hcz53_2); (try clear hcz6_0); (try clear hcz6_1); (try clear hcz7_0); (try clear hcz7_1); (try clear hx159_0); (try clear hx159_1); (try clear hx159_2)
          go_quiet ((first | (go_at_call 76; (with_reducible refine Calls.quiet_of ((spec_l1In.calls ((rd_T51 l0_1 x4_2).f0) 0 (wrap64 (a0_0 - 1)) true _ A18.out).mono fun _ _ h_ => ⟨h_.1, h_.2.out⟩))) | (go_at_call 76; (with_reducible refine Calls.quiet_of ((spec_l1In.calls ((rd_T51 l0_1 x4_2).f1) 0 (wrap64 (a0_0 - 1)) false _ A20.out).mono fun _ _ h_ => ⟨h_.1, h_.2.out⟩)))))
          clear s0_ s1_ s2_ s3_ s4_
          have n0_ := Aside0.mk (Kd.R_drewN HO_3.out nq)
          have n1_ := Aside0.mk (blk_drewN BK151.out nq)
          have n2_ := Aside0.mk (blk_drewN BK160.out nq)
          have n3_ := Aside0.mk (pw_below_drewN HB.out nq)
          clear HO_3
          clear BK151
          clear BK160
          clear HB
          have HO_3 := n0_
          have BK151 := n1_
          have BK160 := n2_
          have HB := n3_
          clear n0_ n1_ n2_ n3_
          generalize w54.drewN nq = w55 at BK151 BK160 HB HO_3 ⊢
          try go_wp2
          go_ret
          exact ⟨by first | rfl | (simp [errW_none, errW_some] <;> rfl) | (simp [*, errW_none, errW_some] <;> rfl), bs2 HB GE151 GE160⟩
        ·replace c19 := Bool.eq_false_iff.mpr c19
         subst c19
         have H1 : (some false) = some r := by rw [if_neg (show ¬ (false = true) by decide)] at H; exact H
         clear H
         have H := H1
         clear H1
         obtain rfl := Option.some.inj H
         have hcz56_0 : wr.cell? ⟨gb151, 0, none⟩ = some (.int .i64 a0_0) := (blk_cell BK151.out 0).trans rfl
         have hcz56_1 : wr.cell? ⟨gb151, 1, none⟩ = some (.slice A0_1 l0_1.length c0_1) := (blk_cell BK151.out 1).trans rfl
         have hfz56_0 := blk_frozen BK151.out 0
         have hfz56_1 := blk_frozen BK151.out 1
         have p159 : 0 ≤ (x4_2 : Int) := ode
         have q159 : x4_2 < (l0_1.length : Int) := ode
         obtain ⟨ad159, e159, hx159_0, hx159_1, hx159_2⟩ := at_T51 HR0_1.out x4_2 p159 q159
         cases e159
         replace hx159_0 := (HB.out.cell (World.block_lt_of_cell? w _ hx159_0)).trans hx159_0
         replace hx159_1 := (HB.out.cell (World.block_lt_of_cell? w _ hx159_1)).trans hx159_1
         replace hx159_2 := (HB.out.cell (World.block_lt_of_cell? w _ hx159_2)).trans hx159_2
         replace p159 := eq_true p159
         replace q159 := eq_true q159
         try go_wp2_with (first | ((with_reducible refine gate_dst (N := 5) rfl ?_); (try (refine gate_guard (by rfl) ?_; dsimp only)); refine box_event ?hg (N := 5) ?hd (cs := #[.int .i64 0, .int .i64 0, .int .i64 0]) (t := 51) ?hr ?_; (case hd => rfl); (case hg => rfl); (case hr => first | (go_simp; done) | (go_simp; rfl)); intro gb160 hg w57 hbox hb; have n0_ := Aside0.mk (Kd.R_below (rl HO_3) hb); have n1_ := Aside0.mk (blk_below (g := gb151) (o := .cells #[.int .i64 a0_0, .slice (some ad159) l0_1.length c0_1] 35 (0, 0)) (bk BK151) hb); have n2_ := Aside0.mk (below_step (bs HB GE151) hb); have n3_ := Aside0.mk (hbox); have n4_ := Aside0.mk ((by rw [hg]; exact (below_size (bs HB GE151)) : w.heap.size ≤ gb160)); have n5_ := Aside0.mk ((by rw [hg]; exact (below_size (bs HB GE151)) : w.heap.size ≤ gb160)); have n6_ := Aside0.mk ((by rw [hg]; exact Nat.ne_of_lt (blk_lt (g := gb151) (o := .cells #[.int .i64 a0_0, .slice (some ad159) l0_1.length c0_1] 35 (0, 0)) (bk BK151)) : gb151 ≠ gb160)); have n7_ := Aside0.mk ((by rw [hg]; exact Nat.ne_of_gt (blk_lt (g := gb151) (o := .cells #[.int .i64 a0_0, .slice (some ad159) l0_1.length c0_1] 35 (0, 0)) (bk BK151)) : gb160 ≠ gb151)); clear HO_3; clear BK151; clear HB; have HO_3 := n0_; have BK151 := n1_; have HB := n2_; have BK160 := n3_; have GW160 := n4_; have GE160 := n5_; have NB151_160 := n6_; have NB160_151 := n7_; clear n0_ n1_ n2_ n3_ n4_ n5_ n6_ n7_; clear hb hbox hg; have hnb58 := NB160_151.out; have hnc58 := NB151_160.out; have hcz59_0 : w57.cell? ⟨gb160, 0, none⟩ = some (.int .i64 0) := (blk_cell BK160.out 0).trans rfl; have hcz59_1 : w57.cell? ⟨gb160, 1, none⟩ = some (.int .i64 0) := (blk_cell BK160.out 1).trans rfl; have hcz59_2 : w57.cell? ⟨gb160, 2, none⟩ = some (.int .i64 0) := (blk_cell BK160.out 2).trans rfl; have hfz59_0 := blk_frozen BK160.out 0; have hfz59_1 := blk_frozen BK160.out 1; have hfz59_2 := blk_frozen BK160.out 2))
         have n0_ : Aside0 (Kd.R (Kd.int .i64) 2 (((w57.setCell ⟨gb160, 0, none⟩ (.int .i64 ((rd_T51 l0_1 x4_2).f0))).setCell ⟨gb160, 1, none⟩ (.int .i64 ((rd_T51 l0_1 x4_2).f1))).setCell ⟨gb160, 2, none⟩ (.int .i64 ((rd_T51 l0_1 x4_2).f2))) w.heap.size (fun _ => True) (.slice Ao15 x3_2.length co15) x3_2) := ⟨by (with_reducible repeat (first | apply Kd.R_alloc | apply Kd.R_drewN | apply Kd.R_drew)); exact Kd.R_mono (Kd.R_far (p := ⟨gb160, 2, none⟩) (Kd.R_far (p := ⟨gb160, 1, none⟩) (Kd.R_far (p := ⟨gb160, 0, none⟩) (Kd.R_types HO_3.out BK160.out (by decide)) (fun _ hk => hk.2) (.int .i64 ((rd_T51 l0_1 x4_2).f0))) (fun _ hk => hk.2) (.int .i64 ((rd_T51 l0_1 x4_2).f1))) (fun _ hk => hk.2) (.int .i64 ((rd_T51 l0_1 x4_2).f2))) (fun _ hk => trivial)⟩
         have n1_ : Aside0 ((((w57.setCell ⟨gb160, 0, none⟩ (.int .i64 ((rd_T51 l0_1 x4_2).f0))).setCell ⟨gb160, 1, none⟩ (.int .i64 ((rd_T51 l0_1 x4_2).f1))).setCell ⟨gb160, 2, none⟩ (.int .i64 ((rd_T51 l0_1 x4_2).f2))).heap[gb151]? = some (.cells #[.int .i64 a0_0, .slice (some ad159) l0_1.length c0_1] 35 (0, 0))) := ⟨by (with_reducible repeat (first | refine blk_drewN ?_ _ | refine blk_drew ?_ | refine blk_alloc ?_ _)); refine blk_far ?_ NB151_160.out _; (with_reducible repeat (first | refine blk_drewN ?_ _ | refine blk_drew ?_ | refine blk_alloc ?_ _)); refine blk_far ?_ NB151_160.out _; (with_reducible repeat (first | refine blk_drewN ?_ _ | refine blk_drew ?_ | refine blk_alloc ?_ _)); refine blk_far ?_ NB151_160.out _; (with_reducible repeat (first | refine blk_drewN ?_ _ | refine blk_drew ?_ | refine blk_alloc ?_ _)); exact BK151.out⟩
         have n2_ : Aside0 ((((w57.setCell ⟨gb160, 0, none⟩ (.int .i64 ((rd_T51 l0_1 x4_2).f0))).setCell ⟨gb160, 1, none⟩ (.int .i64 ((rd_T51 l0_1 x4_2).f1))).setCell ⟨gb160, 2, none⟩ (.int .i64 ((rd_T51 l0_1 x4_2).f2))).heap[gb160]? = some (.cells #[.int .i64 ((rd_T51 l0_1 x4_2).f0), .int .i64 ((rd_T51 l0_1 x4_2).f1), .int .i64 ((rd_T51 l0_1 x4_2).f2)] 51 (0, 0))) := ⟨by (with_reducible repeat (first | refine blk_drewN ?_ _ | refine blk_drew ?_ | refine blk_alloc ?_ _)); refine blk_put (cs := #[.int .i64 ((rd_T51 l0_1 x4_2).f0), .int .i64 ((rd_T51 l0_1 x4_2).f1), .int .i64 0]) ?_ 2 _ rfl; (with_reducible repeat (first | refine blk_drewN ?_ _ | refine blk_drew ?_ | refine blk_alloc ?_ _)); refine blk_put (cs := #[.int .i64 ((rd_T51 l0_1 x4_2).f0), .int .i64 0, .int .i64 0]) ?_ 1 _ rfl; (with_reducible repeat (first | refine blk_drewN ?_ _ | refine blk_drew ?_ | refine blk_alloc ?_ _)); refine blk_put (cs := #[.int .i64 0, .int .i64 0, .int .i64 0]) ?_ 0 _ rfl; (with_reducible repeat (first | refine blk_drewN ?_ _ | refine blk_drew ?_ | refine blk_alloc ?_ _)); exact BK160.out⟩
         have n3_ : Aside0 (Below w.heap.size w (((w57.setCell ⟨gb160, 0, none⟩ (.int .i64 ((rd_T51 l0_1 x4_2).f0))).setCell ⟨gb160, 1, none⟩ (.int .i64 ((rd_T51 l0_1 x4_2).f1))).setCell ⟨gb160, 2, none⟩ (.int .i64 ((rd_T51 l0_1 x4_2).f2)))) := ⟨bs2 HB GE151 GE160⟩
         (try clear HO_3)
         (try clear BK151)
         (try clear BK160)
         (try clear HB)
         generalize (((w57.setCell ⟨gb160, 0, none⟩ (.int .i64 ((rd_T51 l0_1 x4_2).f0))).setCell ⟨gb160, 1, none⟩ (.int .i64 ((rd_T51 l0_1 x4_2).f1))).setCell ⟨gb160, 2, none⟩ (.int .i64 ((rd_T51 l0_1 x4_2).f2))) = w60 at n0_ n1_ n2_ n3_ ⊢
         have HO_3 := n0_
         have BK151 := n1_
         have BK160 := n2_
         have HB := n3_
         clear n0_ n1_ n2_ n3_
         obtain ⟨s0_, s1_, s2_, s3_, s4_⟩ : w60.cell? ⟨gb160, 0, none⟩ = some (.int .i64 ((rd_T51 l0_1 x4_2).f0)) ∧ w60.cell? ⟨gb160, 1, none⟩ = some (.int .i64 ((rd_T51 l0_1 x4_2).f1)) ∧ w60.cell? ⟨gb160, 2, none⟩ = some (.int .i64 ((rd_T51 l0_1 x4_2).f2)) ∧ w60.cell? ⟨gb151, 0, none⟩ = some (.int .i64 a0_0) ∧ w60.cell? ⟨gb151, 1, none⟩ = some (.slice (some ad159) l0_1.length c0_1) := ⟨(blk_cell BK160.out 0).trans rfl, (blk_cell BK160.out 1).trans rfl, (blk_cell BK160.out 2).trans rfl, (blk_cell BK151.out 0).trans rfl, (blk_cell BK151.out 1).trans rfl⟩
         (try clear hcz10_0); (try clear hcz10_1); (try clear hcz56_0); (try clear hcz56_1); (try clear hcz59_0); (try clear hcz59_1); (try clear hcz59_2); (try clear hcz6_0); (try clear hcz6_1); (try clear hcz7_0); (try clear hcz7_1); (try clear hx159_0); (try clear hx159_1); (try clear hx159_2)
         go_quiet (((go_at_call 76; (with_reducible refine Calls.quiet_of ((spec_l1In.calls ((rd_T51 l0_1 x4_2).f0) 0 (wrap64 (a0_0 - 1)) false _ A18.out).mono fun _ _ h_ => ⟨h_.1, h_.2.out⟩)))))
         clear s0_ s1_ s2_ s3_ s4_
         have n0_ := Aside0.mk (Kd.R_drewN HO_3.out nq)
         have n1_ := Aside0.mk (blk_drewN BK151.out nq)
         have n2_ := Aside0.mk (blk_drewN BK160.out nq)
         have n3_ := Aside0.mk (pw_below_drewN HB.out nq)
         clear HO_3
         clear BK151
         clear BK160
         clear HB
         have HO_3 := n0_
         have BK151 := n1_
         have BK160 := n2_
         have HB := n3_
         clear n0_ n1_ n2_ n3_
         generalize w60.drewN nq = w61 at BK151 BK160 HB HO_3 ⊢
         try go_wp2
         go_ret
         exact ⟨by first | rfl | (simp [errW_none, errW_some] <;> rfl) | (simp [*, errW_none, errW_some] <;> rfl), bs2 HB GE151 GE160⟩
       ·rw [if_neg c17] at H
        exact absurd H (by simp)
      ·rw [if_neg c16] at H
       have c16b0 : decide (x4_2 < (l0_1.length : Int)) = false := decide_eq_false c16
       clear c16
       obtain rfl := Option.some.inj H
       have hcz62_0 : wr.cell? ⟨gb151, 0, none⟩ = some (.int .i64 a0_0) := (blk_cell BK151.out 0).trans rfl
       have hcz62_1 : wr.cell? ⟨gb151, 1, none⟩ = some (.slice A0_1 l0_1.length c0_1) := (blk_cell BK151.out 1).trans rfl
       have hfz62_0 := blk_frozen BK151.out 0
       have hfz62_1 := blk_frozen BK151.out 1
       go_wp2
       go_ret
       exact ⟨by first | rfl | (simp [errW_none, errW_some] <;> rfl) | (simp [*, errW_none, errW_some] <;> rfl), bs HB GE151⟩

end Go.Proofs.Ytkjlplcdjdenkaa.PFnForest
