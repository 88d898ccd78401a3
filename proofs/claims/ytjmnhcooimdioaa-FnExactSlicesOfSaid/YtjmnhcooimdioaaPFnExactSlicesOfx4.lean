-- Written by a program of this session (a turned copy of the kit's printer); Lean checks it.
-- half the depth
import Derived.Test.YtjmnhcooimdioaaPFnExactSlicesOfx0
import Derived.Test.YtjmnhcooimdioaaPFnExactSlicesOfx2
import Derived.Test.YtjmnhcooimdioaaPFnExactSlicesOfx3
namespace Go.Proofs.Ytjmnhcooimdioaa.PFnExactSlicesOf
open Go.RowKit Go.Proofs.YtjmnhcooimdioaaW.PrintWords Go.Proofs.YtjmnhcooimdioaaW.PrintLast Go.Proofs.YtjmnhcooimdioaaW.PrintMore
attribute [local go_sem] max2_int min2_int max_two min_two max_three min_three max_four min_four   -- for this text's walks alone
set_option linter.unusedVariables false
set_option linter.unusedSimpArgs false

/-! ### spec_CutsOk: function 135 -/
mutual
def spec_CutsOk.j0 : Nat → List (S146) → Bool → List (List Int) → Option (Bool)
 | 0, _, _, _ => none
 | k + 1, x0, x17, x139000 => if x17 = true then (some false) else (spec_CutsOk.l0 k x0 0 x139000)
def spec_CutsOk.l0 : Nat → List (S146) → Int → List (List Int) → Option (Bool)
 | 0, _, _, _ => none
 | k + 1, x0, x5, x139000 => if x5 < (x139000.length : Int) then (spec_CutsOk.l1 k x0 x5 0 x139000) else (some true)
def spec_CutsOk.l1 : Nat → List (S146) → Int → Int → List (List Int) → Option (Bool)
 | 0, _, _, _, _ => none
 | k + 1, x0, x5, x6, x139000 => if 0 ≤ x5 then (if x5 < (x139000.length : Int) then (if x6 < ((rd_L5 x139000 x5).length : Int) then (if 0 ≤ x6 then (if x5 < (x0.length : Int) then ((spec_l1In.f (rd (rd_L5 x139000 x5) x6) 1 (wrap64 (((rd_T146 x0 x5).f1) - 1))).bind fun t144 => (if t144 = true then (if x6 > 0 then (if 0 ≤ (wrap64 (x6 - 1)) then (if (wrap64 (x6 - 1)) < ((rd_L5 x139000 x5).length : Int) then (if (rd (rd_L5 x139000 x5) x6) ≤ (rd (rd_L5 x139000 x5) (wrap64 (x6 - 1))) then (some false) else (spec_CutsOk.l1 k x0 x5 (wrap64 (x6 + 1)) x139000)) else (none)) else (none)) else (spec_CutsOk.l1 k x0 x5 (wrap64 (x6 + 1)) x139000)) else (some false))) else (none)) else (none)) else (spec_CutsOk.l0 k x0 (wrap64 (x5 + 1)) x139000)) else (none)) else (none)
end
def spec_CutsOk.f (k : Nat) (l0 : List (S146)) (l1_0 : List (List Int)) : Option (Bool) := (spec_DeclsOk.f k l0).bind fun t139 => (if t139 = true then (spec_CutsOk.j0 k l0 ((l1_0.length : Int) != (l0.length : Int)) l1_0) else (spec_CutsOk.j0 k l0 true l1_0))
theorem spec_CutsOk.mono_l : ∀ k, (∀ y0 y1 y2, LeO (spec_CutsOk.j0 k y0 y1 y2) (spec_CutsOk.j0 (k + 1) y0 y1 y2)) ∧ (∀ y0 y1 y2, LeO (spec_CutsOk.l0 k y0 y1 y2) (spec_CutsOk.l0 (k + 1) y0 y1 y2)) ∧ (∀ y0 y1 y2 y3, LeO (spec_CutsOk.l1 k y0 y1 y2 y3) (spec_CutsOk.l1 (k + 1) y0 y1 y2 y3))
 | 0 => ⟨fun _ _ _ r h => by simp [spec_CutsOk.j0] at h, fun _ _ _ r h => by simp [spec_CutsOk.l0] at h, fun _ _ _ _ r h => by simp [spec_CutsOk.l1] at h⟩
 | k + 1 => by
  obtain ⟨ih0, ih1, ih2⟩ := spec_CutsOk.mono_l k
  refine ⟨?_, ?_, ?_⟩
  ·intro y0 y1 y2
   unfold spec_CutsOk.j0
   repeat' first
   | (with_reducible exact ih0 _ _ _)
   | (with_reducible exact ih1 _ _ _)
   | (with_reducible exact ih2 _ _ _ _)
   | (with_reducible exact spec_DeclsOk.mono _ _)
   | (with_reducible exact LeO.refl _)
   | (with_reducible exact LeO.none _)
   | (with_reducible refine LeO.ite ?_ ?_)
   | (with_reducible refine LeO.bind ?_ (fun _ => ?_))
   | exact ih0 _ _ _
   | exact ih1 _ _ _
   | exact ih2 _ _ _ _
   | exact spec_DeclsOk.mono _ _
   | exact LeO.none _
   | refine LeO.ite ?_ ?_
   | refine LeO.bind ?_ (fun _ => ?_)
  ·intro y0 y1 y2
   unfold spec_CutsOk.l0
   repeat' first
   | (with_reducible exact ih0 _ _ _)
   | (with_reducible exact ih1 _ _ _)
   | (with_reducible exact ih2 _ _ _ _)
   | (with_reducible exact spec_DeclsOk.mono _ _)
   | (with_reducible exact LeO.refl _)
   | (with_reducible exact LeO.none _)
   | (with_reducible refine LeO.ite ?_ ?_)
   | (with_reducible refine LeO.bind ?_ (fun _ => ?_))
   | exact ih0 _ _ _
   | exact ih1 _ _ _
   | exact ih2 _ _ _ _
   | exact spec_DeclsOk.mono _ _
   | exact LeO.none _
   | refine LeO.ite ?_ ?_
   | refine LeO.bind ?_ (fun _ => ?_)
  ·intro y0 y1 y2 y3
   unfold spec_CutsOk.l1
   repeat' first
   | (with_reducible exact ih0 _ _ _)
   | (with_reducible exact ih1 _ _ _)
   | (with_reducible exact ih2 _ _ _ _)
   | (with_reducible exact spec_DeclsOk.mono _ _)
   | (with_reducible exact LeO.refl _)
   | (with_reducible exact LeO.none _)
   | (with_reducible refine LeO.ite ?_ ?_)
   | (with_reducible refine LeO.bind ?_ (fun _ => ?_))
   | exact ih0 _ _ _
   | exact ih1 _ _ _
   | exact ih2 _ _ _ _
   | exact spec_DeclsOk.mono _ _
   | exact LeO.none _
   | refine LeO.ite ?_ ?_
   | refine LeO.bind ?_ (fun _ => ?_)
theorem spec_CutsOk.mono : ∀ a0 a1 k, LeO (spec_CutsOk.f k a0 a1) (spec_CutsOk.f (k + 1) a0 a1) := by
 intro a0 a1 k
 obtain ⟨ih0, ih1, ih2⟩ := spec_CutsOk.mono_l k
 unfold spec_CutsOk.f
 repeat' first
   | (with_reducible exact ih0 _ _ _)
   | (with_reducible exact ih1 _ _ _)
   | (with_reducible exact ih2 _ _ _ _)
   | (with_reducible exact spec_DeclsOk.mono _ _)
   | (with_reducible exact LeO.refl _)
   | (with_reducible exact LeO.none _)
   | (with_reducible refine LeO.ite ?_ ?_)
   | (with_reducible refine LeO.bind ?_ (fun _ => ?_))
   | exact ih0 _ _ _
   | exact ih1 _ _ _
   | exact ih2 _ _ _ _
   | exact spec_DeclsOk.mono _ _
   | exact LeO.none _
   | refine LeO.ite ?_ ?_
   | refine LeO.bind ?_ (fun _ => ?_)
set_option maxHeartbeats 8000000 in
set_option maxRecDepth 100000 in
theorem spec_CutsOk.calls (k : Nat) (A0 : Option Addr) (c0 : Nat) (l0 : List (S146)) (A1_0 : Option Addr) (c1_0 : Nat) (l1_0 : List (List Int)) (r : Bool) (w : World) (hr0 : Kd.C k146 w A0 l0.length l0) (hc0 : l0.length ≤ c0) (hr1_0 : Kd.C (Kd.slice 2 (Kd.int .i64)) w A1_0 l1_0.length l1_0) (hc1_0 : l1_0.length ≤ c1_0) (h : spec_CutsOk.f k l0 l1_0 = some r) :
  Calls Try.prog 135 #[.slice A0 l0.length c0, .agg #[.slice A1_0 l1_0.length c1_0]] w fun e w' => e = .returned (.bool r) ∧ Below w.heap.size w w' := by
 have hu90 := Try.underlying90
 have HR0 := Aside0.mk hr0
 have HC0 := Aside0.mk hc0
 clear hr0 hc0
 have HR1_0 := Aside0.mk hr1_0
 have HC1_0 := Aside0.mk hc1_0
 clear hr1_0 hc1_0
 have HB := Aside0.mk (Below.refl w.heap.size w)
 have H : ((spec_DeclsOk.f k l0).bind fun t139 => (if t139 = true then (spec_CutsOk.j0 k l0 ((l1_0.length : Int) != (l0.length : Int)) l1_0) else (spec_CutsOk.j0 k l0 true l1_0))) = some r := h
 clear h
 have HC3 := Aside0.mk H
 clear H
 go_enter Try.func135, Try.ntmps135
 go_upto_region 1 with (first | ((with_reducible refine gate_dst (N := 3) rfl ?_); (try (refine gate_guard (by rfl) ?_; dsimp only)); refine box_event ?hg (N := 3) ?hd (cs := #[.slice A1_0 l1_0.length c1_0]) (t := 90) ?hr ?_; (case hd => rfl); (case hg => rfl); (case hr => first | (go_simp; done) | (go_simp; rfl)); intro gb138 hg w4 hbox hb; have n0_ := Aside0.mk (below_step (by repeat (first | (with_reducible first | exact HB.out | apply below_alloc | apply pw_below_drewN | apply below_drew1) | exact HB.out)) hb); have n1_ := Aside0.mk (hbox); have n2_ := Aside0.mk ((by rw [hg]; exact (below_size (by repeat (first | (with_reducible first | exact HB.out | apply below_alloc | apply pw_below_drewN | apply below_drew1) | exact HB.out))) : w.heap.size ≤ gb138)); have n3_ := Aside0.mk ((by rw [hg]; exact (below_size (by repeat (first | (with_reducible first | exact HB.out | apply below_alloc | apply pw_below_drewN | apply below_drew1) | exact HB.out))) : w.heap.size ≤ gb138)); clear HB; have HB := n0_; have BK138 := n1_; have GW138 := n2_; have GE138 := n3_; clear n0_ n1_ n2_ n3_; clear hb hbox hg))
 (try simp only [Act.put, List.setIfInBounds_toArray, List.set_cons_zero, List.set_cons_succ])
 go_cut [17] (fun v17 wc => ∃ (kq : Nat) (x17_2 : Bool), v17 = .bool x17_2 ∧ Aside0 (spec_CutsOk.j0 kq l0 x17_2 l1_0 = some r) ∧ Aside0 (kq ≤ k) ∧ Aside0 (wc.heap[gb138]? = some (.cells #[(.slice A1_0 l1_0.length c1_0)] 90 (0, 0))) ∧ Aside0 (Below w.heap.size w wc))
 case first =>
  have H := HC3.out
  clear HC3
  replace H := Option.bind_eq_some_iff.mp H
  obtain ⟨t139, A50, H⟩ := H
  replace H : (if t139 = true then (spec_CutsOk.j0 k l0 ((l1_0.length : Int) != (l0.length : Int)) l1_0) else (spec_CutsOk.j0 k l0 true l1_0)) = some r := H
  have A5 := Aside0.mk A50
  clear A50
  by_cases c6 : t139 = true
  ·subst c6
   have H1 : (spec_CutsOk.j0 k l0 ((l1_0.length : Int) != (l0.length : Int)) l1_0) = some r := by rw [if_pos rfl] at H; exact H
   clear H
   have H := H1
   clear H1
   have H' := Aside0.mk H
   clear H
   go_wp2_with (first | ((with_reducible refine gate_callee (f := 104) rfl ?_); refine goesL_ (some 8) rfl rfl Try.func104 (by kernel_rfl) rfl #[.slice A0 l0.length c0] rfl (by (try simp only [List.map_toArray, List.map_cons, List.map_nil]); first | done | rfl | (simp only [List.length_drop, List.length_take]; rfl)) ?_; (with_reducible refine (spec_DeclsOk.calls k _ _ l0 true _ ?side1 ?side2 A5.out).mono ?_); (case side1 => repeat (first | exact (Kd.C_below HR0.out HB.out) | (with_reducible refine Kd.C_alloc ?_ _) | (with_reducible refine Kd.C_drewN ?_ _) | (with_reducible refine Kd.C_drew ?_))); (case side2 => exact HC0.out); rintro e w' ⟨rfl, ⟨nd, rfl⟩⟩; refine ⟨_, rfl, ?_⟩; have hcz7_0 : w4.cell? ⟨gb138, 0, none⟩ = some (.slice A1_0 l1_0.length c1_0) := (blk_cell BK138.out 0).trans rfl; have hfz7_0 := blk_frozen BK138.out 0))
   go_meet
   case rel => exact ⟨_, (((l1_0.length : Int) != (l0.length : Int))), (by first | rfl | (simp; done) | (simp [*]; done) | (simp only [bne_nil_]; done) | (simp [bne_nil_]; done)), H', ⟨by first | omega | exact Nat.le_refl _⟩, ⟨by (with_reducible repeat (first | refine blk_drewN ?_ _ | refine blk_drew ?_ | refine blk_alloc ?_ _)); exact BK138.out⟩, ⟨by repeat (first | (with_reducible first | exact HB.out | apply below_alloc | apply pw_below_drewN | apply below_drew1 | refine below_set ?_ GE138.out) | exact HB.out)⟩⟩
  ·replace c6 := Bool.eq_false_iff.mpr c6
   subst c6
   have H1 : (spec_CutsOk.j0 k l0 true l1_0) = some r := by rw [if_neg (show ¬ (false = true) by decide)] at H; exact H
   clear H
   have H := H1
   clear H1
   have H' := Aside0.mk H
   clear H
   go_wp2_with (first | ((with_reducible refine gate_callee (f := 104) rfl ?_); refine goesL_ (some 8) rfl rfl Try.func104 (by kernel_rfl) rfl #[.slice A0 l0.length c0] rfl (by (try simp only [List.map_toArray, List.map_cons, List.map_nil]); first | done | rfl | (simp only [List.length_drop, List.length_take]; rfl)) ?_; (with_reducible refine (spec_DeclsOk.calls k _ _ l0 false _ ?side1 ?side2 A5.out).mono ?_); (case side1 => repeat (first | exact (Kd.C_below HR0.out HB.out) | (with_reducible refine Kd.C_alloc ?_ _) | (with_reducible refine Kd.C_drewN ?_ _) | (with_reducible refine Kd.C_drew ?_))); (case side2 => exact HC0.out); rintro e w' ⟨rfl, ⟨nd, rfl⟩⟩; refine ⟨_, rfl, ?_⟩))
   go_meet
   case rel => exact ⟨_, (true), (by first | rfl | (simp; done) | (simp [*]; done) | (simp only [bne_nil_]; done) | (simp [bne_nil_]; done)), H', ⟨by first | omega | exact Nat.le_refl _⟩, ⟨by (with_reducible repeat (first | refine blk_drewN ?_ _ | refine blk_drew ?_ | refine blk_alloc ?_ _)); exact BK138.out⟩, ⟨by repeat (first | (with_reducible first | exact HB.out | apply below_alloc | apply pw_below_drewN | apply below_drew1 | refine below_set ?_ GE138.out) | exact HB.out)⟩⟩
 case rest =>
  clear HC3
  try clear c1
  try clear p2
  try clear c6
  try clear hcz7_0
  try clear hfz7_0
  obtain ⟨kq, x17_2, rfl, HA, HJ2, BK138, HB⟩ := hcut
  cases kq with
  | zero => exact absurd HA.out (by simp [spec_CutsOk.j0])
  | succ kj2 =>
   have H := HA.out
   clear HA
   simp only [spec_CutsOk.j0] at H
   by_cases c8 : x17_2 = true
   ·subst c8
    have H1 : (some false) = some r := by rw [if_pos rfl] at H; exact H
    clear H
    have H := H1
    clear H1
    obtain rfl := Option.some.inj H
    go_wp2
    go_ret
    exact ⟨by first | rfl | (simp [errW_none, errW_some] <;> rfl) | (simp [*, errW_none, errW_some] <;> rfl), by repeat (first | (with_reducible first | exact HB.out | apply below_alloc | apply pw_below_drewN | apply below_drew1 | refine below_set ?_ GE138.out) | exact HB.out)⟩
   ·replace c8 := Bool.eq_false_iff.mpr c8
    subst c8
    have H1 : (spec_CutsOk.l0 kj2 l0 0 l1_0) = some r := by rw [if_neg (show ¬ (false = true) by decide)] at H; exact H
    clear H
    have H := H1
    clear H1
    have H' := Aside0.mk H
    clear H
    go_wp2
    go_loopg [5] kj2 (fun kq v5 w' => ∃ (x5_2 : Int), v5 = .int .i64 x5_2 ∧ Aside0 (spec_CutsOk.l0 kq l0 x5_2 l1_0 = some r) ∧ Aside0 (kq ≤ kj2) ∧ Aside0 (w'.heap[gb138]? = some (.cells #[(.slice A1_0 l1_0.length c1_0)] 90 (0, 0))) ∧ Aside0 (Below w.heap.size w w'))
    case atStart => exact ⟨(0), (by first | rfl | (simp; done) | (simp [*]; done) | (simp only [bne_nil_]; done) | (simp [bne_nil_]; done)), H', ⟨Nat.le_refl _⟩, ⟨by (with_reducible repeat (first | refine blk_drewN ?_ _ | refine blk_drew ?_ | refine blk_alloc ?_ _)); exact BK138.out⟩, ⟨by repeat (first | (with_reducible first | exact HB.out | apply below_alloc | apply pw_below_drewN | apply below_drew1 | refine below_set ?_ GE138.out) | exact HB.out)⟩⟩
    case round =>
     clear H'
     try clear c1
     try clear p2
     try clear c6
     try clear c8
     try clear hcz7_0
     try clear hfz7_0
     try clear p2
     obtain ⟨x5_2, rfl, HA, HK2, BK138, HB⟩ := hrel
     cases gk with
     | zero => exact absurd HA.out (by simp [spec_CutsOk.l0])
     | succ k2 =>
      have H := HA.out
      clear HA
      simp only [spec_CutsOk.l0] at H
      by_cases c9 : x5_2 < (l1_0.length : Int)
      ·rw [if_pos c9] at H
       have c9b0 : decide (x5_2 < (l1_0.length : Int)) = true := decide_eq_true c9
       clear c9
       have H' := Aside0.mk H
       clear H
       have hcz10_0 : wr.cell? ⟨gb138, 0, none⟩ = some (.slice A1_0 l1_0.length c1_0) := (blk_cell BK138.out 0).trans rfl
       have hfz10_0 := blk_frozen BK138.out 0
       go_wp2
       go_loopg [6] k2 (fun kq v6 w' => ∃ (x6_3 : Int), v6 = .int .i64 x6_3 ∧ Aside0 (spec_CutsOk.l1 kq l0 x5_2 x6_3 l1_0 = some r) ∧ Aside0 (kq ≤ k2) ∧ Aside0 (w'.heap[gb138]? = some (.cells #[(.slice A1_0 l1_0.length c1_0)] 90 (0, 0))) ∧ Aside0 (Below w.heap.size w w'))
       case atStart => exact ⟨(0), (by first | rfl | (simp; done) | (simp [*]; done) | (simp only [bne_nil_]; done) | (simp [bne_nil_]; done)), H', ⟨Nat.le_refl _⟩, ⟨by (with_reducible repeat (first | refine blk_drewN ?_ _ | refine blk_drew ?_ | refine blk_alloc ?_ _)); exact BK138.out⟩, ⟨by repeat (first | (with_reducible first | exact HB.out | apply below_alloc | apply pw_below_drewN | apply below_drew1 | refine below_set ?_ GE138.out) | exact HB.out)⟩⟩
       case round =>
        clear H'
        try clear c1
        try clear p2
        try clear c6
        try clear c8
        try clear c9
        try clear c9b0
        try clear c10
        try clear hcz10_0
        try clear hcz7_0
        try clear hfz10_0
        try clear hfz7_0
        try clear p2
        obtain ⟨x6_3, rfl, HA, HK3, BK138, HB⟩ := hrel
        cases gk with
        | zero => exact absurd HA.out (by simp [spec_CutsOk.l1])
        | succ k3 =>
         have H := HA.out
         clear HA
         simp only [spec_CutsOk.l1] at H
         by_cases c11 : 0 ≤ x5_2
         ·rw [if_pos c11] at H
          have c11b0 : decide (0 ≤ x5_2) = true := decide_eq_true c11
          clear c11
          by_cases c12 : x5_2 < (l1_0.length : Int)
          ·rw [if_pos c12] at H
           have c12b0 : decide (x5_2 < (l1_0.length : Int)) = true := decide_eq_true c12
           clear c12
           by_cases c13 : x6_3 < ((rd_L5 l1_0 x5_2).length : Int)
           ·rw [if_pos c13] at H
            have c13b0 : decide (x6_3 < ((rd_L5 l1_0 x5_2).length : Int)) = true := decide_eq_true c13
            clear c13
            by_cases c14 : 0 ≤ x6_3
            ·rw [if_pos c14] at H
             have c14b0 : decide (0 ≤ x6_3) = true := decide_eq_true c14
             clear c14
             by_cases c15 : x5_2 < (l0.length : Int)
             ·rw [if_pos c15] at H
              have c15b0 : decide (x5_2 < (l0.length : Int)) = true := decide_eq_true c15
              clear c15
              replace H := Option.bind_eq_some_iff.mp H
              obtain ⟨t144, A160, H⟩ := H
              replace H : (if t144 = true then (if x6_3 > 0 then (if 0 ≤ (wrap64 (x6_3 - 1)) then (if (wrap64 (x6_3 - 1)) < ((rd_L5 l1_0 x5_2).length : Int) then (if (rd (rd_L5 l1_0 x5_2) x6_3) ≤ (rd (rd_L5 l1_0 x5_2) (wrap64 (x6_3 - 1))) then (some false) else (spec_CutsOk.l1 k3 l0 x5_2 (wrap64 (x6_3 + 1)) l1_0)) else (none)) else (none)) else (spec_CutsOk.l1 k3 l0 x5_2 (wrap64 (x6_3 + 1)) l1_0)) else (some false)) = some r := H
              have A16 := Aside0.mk A160
              clear A160
              by_cases c17 : t144 = true
              ·subst c17
               have H1 : (if x6_3 > 0 then (if 0 ≤ (wrap64 (x6_3 - 1)) then (if (wrap64 (x6_3 - 1)) < ((rd_L5 l1_0 x5_2).length : Int) then (if (rd (rd_L5 l1_0 x5_2) x6_3) ≤ (rd (rd_L5 l1_0 x5_2) (wrap64 (x6_3 - 1))) then (some false) else (spec_CutsOk.l1 k3 l0 x5_2 (wrap64 (x6_3 + 1)) l1_0)) else (none)) else (none)) else (spec_CutsOk.l1 k3 l0 x5_2 (wrap64 (x6_3 + 1)) l1_0)) = some r := by rw [if_pos rfl] at H; exact H
               clear H
               have H := H1
               clear H1
               by_cases c18 : x6_3 > 0
               ·rw [if_pos c18] at H
                have c18b0 : decide (0 < x6_3) = true := decide_eq_true c18
                clear c18
                obtain ⟨ji19, hji19⟩ : ∃ j_ : Int, (wrap64 (x6_3 - 1)) = j_ := ⟨_, rfl⟩
                replace H : (if 0 ≤ (ji19) then (if (ji19) < ((rd_L5 l1_0 x5_2).length : Int) then (if (rd (rd_L5 l1_0 x5_2) x6_3) ≤ (rd (rd_L5 l1_0 x5_2) (ji19)) then (some false) else (spec_CutsOk.l1 k3 l0 x5_2 (wrap64 (x6_3 + 1)) l1_0)) else (none)) else (none)) = some r := by first | (rw [hji19] at H; exact H) | (simp only [hji19] at H ⊢; exact H)
                (try rw [hji19] at A16)
                have hji19w : (IntKind.i64.wrap (x6_3 - 1)) = ji19 := (i64_w _).trans hji19
                by_cases c20 : 0 ≤ (ji19)
                ·rw [if_pos c20] at H
                 have c20b0 : decide (0 ≤ (ji19)) = true := decide_eq_true c20
                 clear c20
                 by_cases c21 : (ji19) < ((rd_L5 l1_0 x5_2).length : Int)
                 ·rw [if_pos c21] at H
                  have c21b0 : decide ((ji19) < ((rd_L5 l1_0 x5_2).length : Int)) = true := decide_eq_true c21
                  clear c21
                  by_cases c22 : (rd (rd_L5 l1_0 x5_2) x6_3) ≤ (rd (rd_L5 l1_0 x5_2) (ji19))
                  ·rw [if_pos c22] at H
                   have c22b0 : decide ((rd (rd_L5 l1_0 x5_2) x6_3) ≤ (rd (rd_L5 l1_0 x5_2) (ji19))) = true := decide_eq_true c22
                   clear c22
                   obtain rfl := Option.some.inj H
                   have hcz23_0 : wr.cell? ⟨gb138, 0, none⟩ = some (.slice A1_0 l1_0.length c1_0) := (blk_cell BK138.out 0).trans rfl
                   have hfz23_0 := blk_frozen BK138.out 0
                   have p140 : 0 ≤ (x5_2 : Int) := of_decide_eq_true (by first | (with_reducible assumption) | assumption)
                   have q140 : x5_2 < (l1_0.length : Int) := of_decide_eq_true (by first | (with_reducible assumption) | assumption)
                   obtain ⟨ad140, A140_0, c140_0, e140, hx140_0, hl140_0, hi140_0⟩ := at_L5 HR1_0.out x5_2 p140 q140
                   cases e140
                   replace hx140_0 := (HB.out.cell (World.block_lt_of_cell? w _ hx140_0)).trans hx140_0
                   have HR140_0 := Aside0.mk hi140_0
                   have HC140_0 := Aside0.mk hl140_0
                   clear hi140_0 hl140_0
                   replace p140 := eq_true p140
                   replace q140 := eq_true q140
                   try go_wp2
                   have p141 : 0 ≤ (x5_2 : Int) := of_decide_eq_true (by first | (with_reducible assumption) | assumption)
                   have q141 : x5_2 < (l1_0.length : Int) := of_decide_eq_true (by first | (with_reducible assumption) | assumption)
                   obtain ⟨ad141, A141_0, c141_0, e141, hx141_0, hl141_0, hi141_0⟩ := at_L5 HR1_0.out x5_2 p141 q141
                   have hw141_0 := hx141_0
                   obtain rfl : ad140 = ad141 := (by injection e141)
                   replace hx141_0 := (HB.out.cell (World.block_lt_of_cell? w _ hx141_0)).trans hx141_0
                   have HR141_0 := Aside0.mk hi141_0
                   have HC141_0 := Aside0.mk hl141_0
                   clear hi141_0 hl141_0
                   replace p141 := eq_true p141
                   replace q141 := eq_true q141
                   have p142 : 0 ≤ (x6_3 : Int) := of_decide_eq_true (by first | (with_reducible assumption) | assumption)
                   have q142 : x6_3 < ((rd_L5 l1_0 x5_2).length : Int) := of_decide_eq_true (by first | (with_reducible assumption) | assumption)
                   obtain ⟨ad142, e142, hx142_0⟩ := Kd.at_int HR141_0.out x6_3 p142 q142
                   have hw142_0 := hx142_0
                   cases e142
                   replace hx142_0 := (HB.out.cell (World.block_lt_of_cell? w _ hx142_0)).trans hx142_0
                   replace p142 := eq_true p142
                   replace q142 := eq_true q142
                   have p143 : 0 ≤ (x5_2 : Int) := of_decide_eq_true (by first | (with_reducible assumption) | assumption)
                   have q143 : x5_2 < (l0.length : Int) := of_decide_eq_true (by first | (with_reducible assumption) | assumption)
                   obtain ⟨ad143, e143, hx143_0, hx143_1⟩ := at_T146 HR0.out x5_2 p143 q143
                   have hw143_1 := hx143_1
                   have hw143_0 := hx143_0
                   cases e143
                   replace hx143_0 := (HB.out.cell (World.block_lt_of_cell? w _ hx143_0)).trans hx143_0
                   replace hx143_1 := (HB.out.cell (World.block_lt_of_cell? w _ hx143_1)).trans hx143_1
                   replace p143 := eq_true p143
                   replace q143 := eq_true q143
                   have p145 : 0 ≤ (x5_2 : Int) := of_decide_eq_true (by first | (with_reducible assumption) | assumption)
                   have q145 : x5_2 < (l1_0.length : Int) := of_decide_eq_true (by first | (with_reducible assumption) | assumption)
                   obtain ⟨ad145, A145_0, c145_0, e145, hx145_0, hl145_0, hi145_0⟩ := at_L5 HR1_0.out x5_2 p145 q145
                   have hw145_0 := hx145_0
                   obtain rfl : ad140 = ad145 := (by injection e145)
                   replace hx145_0 := (HB.out.cell (World.block_lt_of_cell? w _ hx145_0)).trans hx145_0
                   have HR145_0 := Aside0.mk hi145_0
                   have HC145_0 := Aside0.mk hl145_0
                   clear hi145_0 hl145_0
                   replace p145 := eq_true p145
                   replace q145 := eq_true q145
                   have ea_ := Option.some.inj (hx141_0.symm.trans hx145_0)
                   injection ea_ with ea_ en_ ec_
                   subst ea_
                   subst ec_
                   clear en_
                   have p146 : 0 ≤ (x6_3 : Int) := of_decide_eq_true (by first | (with_reducible assumption) | assumption)
                   have q146 : x6_3 < ((rd_L5 l1_0 x5_2).length : Int) := of_decide_eq_true (by first | (with_reducible assumption) | assumption)
                   obtain ⟨ad146, e146, hx146_0⟩ := Kd.at_int HR145_0.out x6_3 p146 q146
                   have hw146_0 := hx146_0
                   cases e146
                   replace hx146_0 := (HB.out.cell (World.block_lt_of_cell? w _ hx146_0)).trans hx146_0
                   replace p146 := eq_true p146
                   replace q146 := eq_true q146
                   have p147 : 0 ≤ (x5_2 : Int) := of_decide_eq_true (by first | (with_reducible assumption) | assumption)
                   have q147 : x5_2 < (l1_0.length : Int) := of_decide_eq_true (by first | (with_reducible assumption) | assumption)
                   obtain ⟨ad147, A147_0, c147_0, e147, hx147_0, hl147_0, hi147_0⟩ := at_L5 HR1_0.out x5_2 p147 q147
                   have hw147_0 := hx147_0
                   obtain rfl : ad140 = ad147 := (by injection e147)
                   replace hx147_0 := (HB.out.cell (World.block_lt_of_cell? w _ hx147_0)).trans hx147_0
                   have HR147_0 := Aside0.mk hi147_0
                   have HC147_0 := Aside0.mk hl147_0
                   clear hi147_0 hl147_0
                   replace p147 := eq_true p147
                   replace q147 := eq_true q147
                   have ea_ := Option.some.inj (hx141_0.symm.trans hx147_0)
                   injection ea_ with ea_ en_ ec_
                   subst ea_
                   subst ec_
                   clear en_
                   have p148 : 0 ≤ ((ji19) : Int) := of_decide_eq_true (by first | (with_reducible assumption) | assumption)
                   have q148 : (ji19) < ((rd_L5 l1_0 x5_2).length : Int) := of_decide_eq_true (by first | (with_reducible assumption) | assumption)
                   obtain ⟨ad148, e148, hx148_0⟩ := Kd.at_int HR147_0.out (ji19) p148 q148
                   have hw148_0 := hx148_0
                   cases e148
                   replace hx148_0 := (HB.out.cell (World.block_lt_of_cell? w _ hx148_0)).trans hx148_0
                   replace p148 := eq_true p148
                   replace q148 := eq_true q148
                   obtain ⟨s0_, s1_, s2_, s3_, s4_, s5_, s6_, s7_, s8_⟩ : wr.cell? ⟨gb138, 0, none⟩ = some (.slice (some ad140) l1_0.length c1_0) ∧ wr.cell? (ad140.add (x5_2).toNat) = some (.slice (some ad142) (rd_L5 l1_0 x5_2).length c141_0) ∧ wr.cell? (ad142.add (x6_3).toNat) = some (.int .i64 (rd (rd_L5 l1_0 x5_2) x6_3)) ∧ wr.cell? (ad143.add ((x5_2).toNat * 2)) = some (.string ((rd_T146 l0 x5_2).f0)) ∧ wr.cell? ⟨(ad143.add ((x5_2).toNat * 2)).block, (ad143.add ((x5_2).toNat * 2)).off + 1, none⟩ = some (.int .i64 ((rd_T146 l0 x5_2).f1)) ∧ wr.cell? (ad140.add (x5_2).toNat) = some (.slice (some ad142) (rd_L5 l1_0 x5_2).length c141_0) ∧ wr.cell? (ad142.add (x6_3).toNat) = some (.int .i64 (rd (rd_L5 l1_0 x5_2) x6_3)) ∧ wr.cell? (ad140.add (x5_2).toNat) = some (.slice (some ad142) (rd_L5 l1_0 x5_2).length c141_0) ∧ wr.cell? (ad142.add ((ji19)).toNat) = some (.int .i64 (rd (rd_L5 l1_0 x5_2) (ji19))) := ⟨(blk_cell BK138.out 0).trans rfl, ((HB.out.cell (World.block_lt_of_cell? w _ hw141_0)).trans hw141_0), ((HB.out.cell (World.block_lt_of_cell? w _ hw142_0)).trans hw142_0), ((HB.out.cell (World.block_lt_of_cell? w _ hw143_0)).trans hw143_0), ((HB.out.cell (World.block_lt_of_cell? w _ hw143_1)).trans hw143_1), ((HB.out.cell (World.block_lt_of_cell? w _ hw145_0)).trans hw145_0), ((HB.out.cell (World.block_lt_of_cell? w _ hw146_0)).trans hw146_0), ((HB.out.cell (World.block_lt_of_cell? w _ hw147_0)).trans hw147_0), ((HB.out.cell (World.block_lt_of_cell? w _ hw148_0)).trans hw148_0)⟩
                   (try clear hcz10_0); (try clear hcz23_0); (try clear hcz7_0); (try clear hx140_0); (try clear hx141_0); (try clear hx142_0); (try clear hx143_0); (try clear hx143_1); (try clear hx145_0); (try clear hx146_0); (try clear hx147_0); (try clear hx148_0)
                   go_quiet (((go_at_call 82; (with_reducible refine Calls.quiet_of ((spec_l1In.calls (rd (rd_L5 l1_0 x5_2) x6_3) 1 (wrap64 (((rd_T146 l0 x5_2).f1) - 1)) true _ A16.out).mono fun _ _ h_ => ⟨h_.1, h_.2.out⟩)))))
                   clear s0_ s1_ s2_ s3_ s4_ s5_ s6_ s7_ s8_
                   have n0_ := Aside0.mk (blk_drewN BK138.out nq)
                   have n1_ := Aside0.mk (pw_below_drewN HB.out nq)
                   clear BK138
                   clear HB
                   have BK138 := n0_
                   have HB := n1_
                   clear n0_ n1_
                   generalize wr.drewN nq = w24 at BK138 HB ⊢
                   try go_wp2
                   go_ret
                   exact ⟨by first | rfl | (simp [errW_none, errW_some] <;> rfl) | (simp only [← hji19]; first | rfl | (simp [errW_none, errW_some] <;> rfl)) | (simp [*, errW_none, errW_some] <;> rfl), by repeat (first | (with_reducible first | exact HB.out | apply below_alloc | apply pw_below_drewN | apply below_drew1 | refine below_set ?_ GE138.out) | exact HB.out)⟩
                  ·rw [if_neg c22] at H
                   have c22b0 : decide ((rd (rd_L5 l1_0 x5_2) x6_3) ≤ (rd (rd_L5 l1_0 x5_2) (ji19))) = false := decide_eq_false c22
                   clear c22
                   have H' := Aside0.mk H
                   clear H
                   have hcz25_0 : wr.cell? ⟨gb138, 0, none⟩ = some (.slice A1_0 l1_0.length c1_0) := (blk_cell BK138.out 0).trans rfl
                   have hfz25_0 := blk_frozen BK138.out 0
                   have p140 : 0 ≤ (x5_2 : Int) := of_decide_eq_true (by first | (with_reducible assumption) | assumption)
                   have q140 : x5_2 < (l1_0.length : Int) := of_decide_eq_true (by first | (with_reducible assumption) | assumption)
                   obtain ⟨ad140, A140_0, c140_0, e140, hx140_0, hl140_0, hi140_0⟩ := at_L5 HR1_0.out x5_2 p140 q140
                   cases e140
                   replace hx140_0 := (HB.out.cell (World.block_lt_of_cell? w _ hx140_0)).trans hx140_0
                   have HR140_0 := Aside0.mk hi140_0
                   have HC140_0 := Aside0.mk hl140_0
                   clear hi140_0 hl140_0
                   replace p140 := eq_true p140
                   replace q140 := eq_true q140
                   try go_wp2
                   have p141 : 0 ≤ (x5_2 : Int) := of_decide_eq_true (by first | (with_reducible assumption) | assumption)
                   have q141 : x5_2 < (l1_0.length : Int) := of_decide_eq_true (by first | (with_reducible assumption) | assumption)
                   obtain ⟨ad141, A141_0, c141_0, e141, hx141_0, hl141_0, hi141_0⟩ := at_L5 HR1_0.out x5_2 p141 q141
                   have hw141_0 := hx141_0
                   obtain rfl : ad140 = ad141 := (by injection e141)
                   replace hx141_0 := (HB.out.cell (World.block_lt_of_cell? w _ hx141_0)).trans hx141_0
                   have HR141_0 := Aside0.mk hi141_0
                   have HC141_0 := Aside0.mk hl141_0
                   clear hi141_0 hl141_0
                   replace p141 := eq_true p141
                   replace q141 := eq_true q141
                   have p142 : 0 ≤ (x6_3 : Int) := of_decide_eq_true (by first | (with_reducible assumption) | assumption)
                   have q142 : x6_3 < ((rd_L5 l1_0 x5_2).length : Int) := of_decide_eq_true (by first | (with_reducible assumption) | assumption)
                   obtain ⟨ad142, e142, hx142_0⟩ := Kd.at_int HR141_0.out x6_3 p142 q142
                   have hw142_0 := hx142_0
                   cases e142
                   replace hx142_0 := (HB.out.cell (World.block_lt_of_cell? w _ hx142_0)).trans hx142_0
                   replace p142 := eq_true p142
                   replace q142 := eq_true q142
                   have p143 : 0 ≤ (x5_2 : Int) := of_decide_eq_true (by first | (with_reducible assumption) | assumption)
                   have q143 : x5_2 < (l0.length : Int) := of_decide_eq_true (by first | (with_reducible assumption) | assumption)
                   obtain ⟨ad143, e143, hx143_0, hx143_1⟩ := at_T146 HR0.out x5_2 p143 q143
                   have hw143_1 := hx143_1
                   have hw143_0 := hx143_0
                   cases e143
                   replace hx143_0 := (HB.out.cell (World.block_lt_of_cell? w _ hx143_0)).trans hx143_0
                   replace hx143_1 := (HB.out.cell (World.block_lt_of_cell? w _ hx143_1)).trans hx143_1
                   replace p143 := eq_true p143
                   replace q143 := eq_true q143
                   have p145 : 0 ≤ (x5_2 : Int) := of_decide_eq_true (by first | (with_reducible assumption) | assumption)
                   have q145 : x5_2 < (l1_0.length : Int) := of_decide_eq_true (by first | (with_reducible assumption) | assumption)
                   obtain ⟨ad145, A145_0, c145_0, e145, hx145_0, hl145_0, hi145_0⟩ := at_L5 HR1_0.out x5_2 p145 q145
                   have hw145_0 := hx145_0
                   obtain rfl : ad140 = ad145 := (by injection e145)
                   replace hx145_0 := (HB.out.cell (World.block_lt_of_cell? w _ hx145_0)).trans hx145_0
                   have HR145_0 := Aside0.mk hi145_0
                   have HC145_0 := Aside0.mk hl145_0
                   clear hi145_0 hl145_0
                   replace p145 := eq_true p145
                   replace q145 := eq_true q145
                   have ea_ := Option.some.inj (hx141_0.symm.trans hx145_0)
                   injection ea_ with ea_ en_ ec_
                   subst ea_
                   subst ec_
                   clear en_
                   have p146 : 0 ≤ (x6_3 : Int) := of_decide_eq_true (by first | (with_reducible assumption) | assumption)
                   have q146 : x6_3 < ((rd_L5 l1_0 x5_2).length : Int) := of_decide_eq_true (by first | (with_reducible assumption) | assumption)
                   obtain ⟨ad146, e146, hx146_0⟩ := Kd.at_int HR145_0.out x6_3 p146 q146
                   have hw146_0 := hx146_0
                   cases e146
                   replace hx146_0 := (HB.out.cell (World.block_lt_of_cell? w _ hx146_0)).trans hx146_0
                   replace p146 := eq_true p146
                   replace q146 := eq_true q146
                   have p147 : 0 ≤ (x5_2 : Int) := of_decide_eq_true (by first | (with_reducible assumption) | assumption)
                   have q147 : x5_2 < (l1_0.length : Int) := of_decide_eq_true (by first | (with_reducible assumption) | assumption)
                   obtain ⟨ad147, A147_0, c147_0, e147, hx147_0, hl147_0, hi147_0⟩ := at_L5 HR1_0.out x5_2 p147 q147
                   have hw147_0 := hx147_0
                   obtain rfl : ad140 = ad147 := (by injection e147)
                   replace hx147_0 := (HB.out.cell (World.block_lt_of_cell? w _ hx147_0)).trans hx147_0
                   have HR147_0 := Aside0.mk hi147_0
                   have HC147_0 := Aside0.mk hl147_0
                   clear hi147_0 hl147_0
                   replace p147 := eq_true p147
                   replace q147 := eq_true q147
                   have ea_ := Option.some.inj (hx141_0.symm.trans hx147_0)
                   injection ea_ with ea_ en_ ec_
                   subst ea_
                   subst ec_
                   clear en_
                   have p148 : 0 ≤ ((ji19) : Int) := of_decide_eq_true (by first | (with_reducible assumption) | assumption)
                   have q148 : (ji19) < ((rd_L5 l1_0 x5_2).length : Int) := of_decide_eq_true (by first | (with_reducible assumption) | assumption)
                   obtain ⟨ad148, e148, hx148_0⟩ := Kd.at_int HR147_0.out (ji19) p148 q148
                   have hw148_0 := hx148_0
                   cases e148
                   replace hx148_0 := (HB.out.cell (World.block_lt_of_cell? w _ hx148_0)).trans hx148_0
                   replace p148 := eq_true p148
                   replace q148 := eq_true q148
                   obtain ⟨s0_, s1_, s2_, s3_, s4_, s5_, s6_, s7_, s8_⟩ : wr.cell? ⟨gb138, 0, none⟩ = some (.slice (some ad140) l1_0.length c1_0) ∧ wr.cell? (ad140.add (x5_2).toNat) = some (.slice (some ad142) (rd_L5 l1_0 x5_2).length c141_0) ∧ wr.cell? (ad142.add (x6_3).toNat) = some (.int .i64 (rd (rd_L5 l1_0 x5_2) x6_3)) ∧ wr.cell? (ad143.add ((x5_2).toNat * 2)) = some (.string ((rd_T146 l0 x5_2).f0)) ∧ wr.cell? ⟨(ad143.add ((x5_2).toNat * 2)).block, (ad143.add ((x5_2).toNat * 2)).off + 1, none⟩ = some (.int .i64 ((rd_T146 l0 x5_2).f1)) ∧ wr.cell? (ad140.add (x5_2).toNat) = some (.slice (some ad142) (rd_L5 l1_0 x5_2).length c141_0) ∧ wr.cell? (ad142.add (x6_3).toNat) = some (.int .i64 (rd (rd_L5 l1_0 x5_2) x6_3)) ∧ wr.cell? (ad140.add (x5_2).toNat) = some (.slice (some ad142) (rd_L5 l1_0 x5_2).length c141_0) ∧ wr.cell? (ad142.add ((ji19)).toNat) = some (.int .i64 (rd (rd_L5 l1_0 x5_2) (ji19))) := ⟨(blk_cell BK138.out 0).trans rfl, ((HB.out.cell (World.block_lt_of_cell? w _ hw141_0)).trans hw141_0), ((HB.out.cell (World.block_lt_of_cell? w _ hw142_0)).trans hw142_0), ((HB.out.cell (World.block_lt_of_cell? w _ hw143_0)).trans hw143_0), ((HB.out.cell (World.block_lt_of_cell? w _ hw143_1)).trans hw143_1), ((HB.out.cell (World.block_lt_of_cell? w _ hw145_0)).trans hw145_0), ((HB.out.cell (World.block_lt_of_cell? w _ hw146_0)).trans hw146_0), ((HB.out.cell (World.block_lt_of_cell? w _ hw147_0)).trans hw147_0), ((HB.out.cell (World.block_lt_of_cell? w _ hw148_0)).trans hw148_0)⟩
                   (try clear hcz10_0); (try clear hcz23_0); (try clear hcz25_0); (try clear hcz7_0); (try clear hx140_0); (try clear hx141_0); (try clear hx142_0); (try clear hx143_0); (try clear hx143_1); (try clear hx145_0); (try clear hx146_0); (try clear hx147_0); (try clear hx148_0)
                   go_quiet (((go_at_call 82; (with_reducible refine Calls.quiet_of ((spec_l1In.calls (rd (rd_L5 l1_0 x5_2) x6_3) 1 (wrap64 (((rd_T146 l0 x5_2).f1) - 1)) true _ A16.out).mono fun _ _ h_ => ⟨h_.1, h_.2.out⟩)))))
                   clear s0_ s1_ s2_ s3_ s4_ s5_ s6_ s7_ s8_
                   have n0_ := Aside0.mk (blk_drewN BK138.out nq)
                   have n1_ := Aside0.mk (pw_below_drewN HB.out nq)
                   clear BK138
                   clear HB
                   have BK138 := n0_
                   have HB := n1_
                   clear n0_ n1_
                   generalize wr.drewN nq = w26 at BK138 HB ⊢
                   try go_wp2
                   go_roundg k3
                   case measure => have := HJ2.out; have := HK2.out; have := HK3.out; omega
                   case rel => exact ⟨(wrap64 (x6_3 + 1)), (by first | rfl | (simp; done) | (simp [*]; done) | (simp only [bne_nil_]; done) | (simp [bne_nil_]; done)), H', ⟨by have := HJ2.out; have := HK2.out; have := HK3.out; omega⟩, ⟨by (with_reducible repeat (first | refine blk_drewN ?_ _ | refine blk_drew ?_ | refine blk_alloc ?_ _)); exact BK138.out⟩, ⟨by repeat (first | (with_reducible first | exact HB.out | apply below_alloc | apply pw_below_drewN | apply below_drew1 | refine below_set ?_ GE138.out) | exact HB.out)⟩⟩
                 ·rw [if_neg c21] at H
                  exact absurd H (by simp)
                ·rw [if_neg c20] at H
                 exact absurd H (by simp)
               ·rw [if_neg c18] at H
                have c18b0 : decide (0 < x6_3) = false := decide_eq_false c18
                clear c18
                have H' := Aside0.mk H
                clear H
                have hcz27_0 : wr.cell? ⟨gb138, 0, none⟩ = some (.slice A1_0 l1_0.length c1_0) := (blk_cell BK138.out 0).trans rfl
                have hfz27_0 := blk_frozen BK138.out 0
                have p140 : 0 ≤ (x5_2 : Int) := of_decide_eq_true (by first | (with_reducible assumption) | assumption)
                have q140 : x5_2 < (l1_0.length : Int) := of_decide_eq_true (by first | (with_reducible assumption) | assumption)
                obtain ⟨ad140, A140_0, c140_0, e140, hx140_0, hl140_0, hi140_0⟩ := at_L5 HR1_0.out x5_2 p140 q140
                cases e140
                replace hx140_0 := (HB.out.cell (World.block_lt_of_cell? w _ hx140_0)).trans hx140_0
                have HR140_0 := Aside0.mk hi140_0
                have HC140_0 := Aside0.mk hl140_0
                clear hi140_0 hl140_0
                replace p140 := eq_true p140
                replace q140 := eq_true q140
                try go_wp2
                have p141 : 0 ≤ (x5_2 : Int) := of_decide_eq_true (by first | (with_reducible assumption) | assumption)
                have q141 : x5_2 < (l1_0.length : Int) := of_decide_eq_true (by first | (with_reducible assumption) | assumption)
                obtain ⟨ad141, A141_0, c141_0, e141, hx141_0, hl141_0, hi141_0⟩ := at_L5 HR1_0.out x5_2 p141 q141
                have hw141_0 := hx141_0
                obtain rfl : ad140 = ad141 := (by injection e141)
                replace hx141_0 := (HB.out.cell (World.block_lt_of_cell? w _ hx141_0)).trans hx141_0
                have HR141_0 := Aside0.mk hi141_0
                have HC141_0 := Aside0.mk hl141_0
                clear hi141_0 hl141_0
                replace p141 := eq_true p141
                replace q141 := eq_true q141
                have p142 : 0 ≤ (x6_3 : Int) := of_decide_eq_true (by first | (with_reducible assumption) | assumption)
                have q142 : x6_3 < ((rd_L5 l1_0 x5_2).length : Int) := of_decide_eq_true (by first | (with_reducible assumption) | assumption)
                obtain ⟨ad142, e142, hx142_0⟩ := Kd.at_int HR141_0.out x6_3 p142 q142
                have hw142_0 := hx142_0
                cases e142
                replace hx142_0 := (HB.out.cell (World.block_lt_of_cell? w _ hx142_0)).trans hx142_0
                replace p142 := eq_true p142
                replace q142 := eq_true q142
                have p143 : 0 ≤ (x5_2 : Int) := of_decide_eq_true (by first | (with_reducible assumption) | assumption)
                have q143 : x5_2 < (l0.length : Int) := of_decide_eq_true (by first | (with_reducible assumption) | assumption)
                obtain ⟨ad143, e143, hx143_0, hx143_1⟩ := at_T146 HR0.out x5_2 p143 q143
                have hw143_1 := hx143_1
                have hw143_0 := hx143_0
                cases e143
                replace hx143_0 := (HB.out.cell (World.block_lt_of_cell? w _ hx143_0)).trans hx143_0
                replace hx143_1 := (HB.out.cell (World.block_lt_of_cell? w _ hx143_1)).trans hx143_1
                replace p143 := eq_true p143
                replace q143 := eq_true q143
                obtain ⟨s0_, s1_, s2_, s3_, s4_⟩ : wr.cell? ⟨gb138, 0, none⟩ = some (.slice (some ad140) l1_0.length c1_0) ∧ wr.cell? (ad140.add (x5_2).toNat) = some (.slice (some ad142) (rd_L5 l1_0 x5_2).length c141_0) ∧ wr.cell? (ad142.add (x6_3).toNat) = some (.int .i64 (rd (rd_L5 l1_0 x5_2) x6_3)) ∧ wr.cell? (ad143.add ((x5_2).toNat * 2)) = some (.string ((rd_T146 l0 x5_2).f0)) ∧ wr.cell? ⟨(ad143.add ((x5_2).toNat * 2)).block, (ad143.add ((x5_2).toNat * 2)).off + 1, none⟩ = some (.int .i64 ((rd_T146 l0 x5_2).f1)) := ⟨(blk_cell BK138.out 0).trans rfl, ((HB.out.cell (World.block_lt_of_cell? w _ hw141_0)).trans hw141_0), ((HB.out.cell (World.block_lt_of_cell? w _ hw142_0)).trans hw142_0), ((HB.out.cell (World.block_lt_of_cell? w _ hw143_0)).trans hw143_0), ((HB.out.cell (World.block_lt_of_cell? w _ hw143_1)).trans hw143_1)⟩
                (try clear hcz10_0); (try clear hcz27_0); (try clear hcz7_0); (try clear hx140_0); (try clear hx141_0); (try clear hx142_0); (try clear hx143_0); (try clear hx143_1)
                go_quiet (((go_at_call 82; (with_reducible refine Calls.quiet_of ((spec_l1In.calls (rd (rd_L5 l1_0 x5_2) x6_3) 1 (wrap64 (((rd_T146 l0 x5_2).f1) - 1)) true _ A16.out).mono fun _ _ h_ => ⟨h_.1, h_.2.out⟩)))))
                clear s0_ s1_ s2_ s3_ s4_
                have n0_ := Aside0.mk (blk_drewN BK138.out nq)
                have n1_ := Aside0.mk (pw_below_drewN HB.out nq)
                clear BK138
                clear HB
                have BK138 := n0_
                have HB := n1_
                clear n0_ n1_
                generalize wr.drewN nq = w28 at BK138 HB ⊢
                try go_wp2
                go_roundg k3
                case measure => have := HJ2.out; have := HK2.out; have := HK3.out; omega
                case rel => exact ⟨(wrap64 (x6_3 + 1)), (by first | rfl | (simp; done) | (simp [*]; done) | (simp only [bne_nil_]; done) | (simp [bne_nil_]; done)), H', ⟨by have := HJ2.out; have := HK2.out; have := HK3.out; omega⟩, ⟨by (with_reducible repeat (first | refine blk_drewN ?_ _ | refine blk_drew ?_ | refine blk_alloc ?_ _)); exact BK138.out⟩, ⟨by repeat (first | (with_reducible first | exact HB.out | apply below_alloc | apply pw_below_drewN | apply below_drew1 | refine below_set ?_ GE138.out) | exact HB.out)⟩⟩
              ·replace c17 := Bool.eq_false_iff.mpr c17
               subst c17
               have H1 : (some false) = some r := by rw [if_neg (show ¬ (false = true) by decide)] at H; exact H
               clear H
               have H := H1
               clear H1
               obtain rfl := Option.some.inj H
               have hcz29_0 : wr.cell? ⟨gb138, 0, none⟩ = some (.slice A1_0 l1_0.length c1_0) := (blk_cell BK138.out 0).trans rfl
               have hfz29_0 := blk_frozen BK138.out 0
               have p140 : 0 ≤ (x5_2 : Int) := of_decide_eq_true (by first | (with_reducible assumption) | assumption)
               have q140 : x5_2 < (l1_0.length : Int) := of_decide_eq_true (by first | (with_reducible assumption) | assumption)
               obtain ⟨ad140, A140_0, c140_0, e140, hx140_0, hl140_0, hi140_0⟩ := at_L5 HR1_0.out x5_2 p140 q140
               cases e140
               replace hx140_0 := (HB.out.cell (World.block_lt_of_cell? w _ hx140_0)).trans hx140_0
               have HR140_0 := Aside0.mk hi140_0
               have HC140_0 := Aside0.mk hl140_0
               clear hi140_0 hl140_0
               replace p140 := eq_true p140
               replace q140 := eq_true q140
               try go_wp2
               have p141 : 0 ≤ (x5_2 : Int) := of_decide_eq_true (by first | (with_reducible assumption) | assumption)
               have q141 : x5_2 < (l1_0.length : Int) := of_decide_eq_true (by first | (with_reducible assumption) | assumption)
               obtain ⟨ad141, A141_0, c141_0, e141, hx141_0, hl141_0, hi141_0⟩ := at_L5 HR1_0.out x5_2 p141 q141
               have hw141_0 := hx141_0
               obtain rfl : ad140 = ad141 := (by injection e141)
               replace hx141_0 := (HB.out.cell (World.block_lt_of_cell? w _ hx141_0)).trans hx141_0
               have HR141_0 := Aside0.mk hi141_0
               have HC141_0 := Aside0.mk hl141_0
               clear hi141_0 hl141_0
               replace p141 := eq_true p141
               replace q141 := eq_true q141
               have p142 : 0 ≤ (x6_3 : Int) := of_decide_eq_true (by first | (with_reducible assumption) | assumption)
               have q142 : x6_3 < ((rd_L5 l1_0 x5_2).length : Int) := of_decide_eq_true (by first | (with_reducible assumption) | assumption)
               obtain ⟨ad142, e142, hx142_0⟩ := Kd.at_int HR141_0.out x6_3 p142 q142
               have hw142_0 := hx142_0
               cases e142
               replace hx142_0 := (HB.out.cell (World.block_lt_of_cell? w _ hx142_0)).trans hx142_0
               replace p142 := eq_true p142
               replace q142 := eq_true q142
               have p143 : 0 ≤ (x5_2 : Int) := of_decide_eq_true (by first | (with_reducible assumption) | assumption)
               have q143 : x5_2 < (l0.length : Int) := of_decide_eq_true (by first | (with_reducible assumption) | assumption)
               obtain ⟨ad143, e143, hx143_0, hx143_1⟩ := at_T146 HR0.out x5_2 p143 q143
               have hw143_1 := hx143_1
               have hw143_0 := hx143_0
               cases e143
               replace hx143_0 := (HB.out.cell (World.block_lt_of_cell? w _ hx143_0)).trans hx143_0
               replace hx143_1 := (HB.out.cell (World.block_lt_of_cell? w _ hx143_1)).trans hx143_1
               replace p143 := eq_true p143
               replace q143 := eq_true q143
               obtain ⟨s0_, s1_, s2_, s3_, s4_⟩ : wr.cell? ⟨gb138, 0, none⟩ = some (.slice (some ad140) l1_0.length c1_0) ∧ wr.cell? (ad140.add (x5_2).toNat) = some (.slice (some ad142) (rd_L5 l1_0 x5_2).length c141_0) ∧ wr.cell? (ad142.add (x6_3).toNat) = some (.int .i64 (rd (rd_L5 l1_0 x5_2) x6_3)) ∧ wr.cell? (ad143.add ((x5_2).toNat * 2)) = some (.string ((rd_T146 l0 x5_2).f0)) ∧ wr.cell? ⟨(ad143.add ((x5_2).toNat * 2)).block, (ad143.add ((x5_2).toNat * 2)).off + 1, none⟩ = some (.int .i64 ((rd_T146 l0 x5_2).f1)) := ⟨(blk_cell BK138.out 0).trans rfl, ((HB.out.cell (World.block_lt_of_cell? w _ hw141_0)).trans hw141_0), ((HB.out.cell (World.block_lt_of_cell? w _ hw142_0)).trans hw142_0), ((HB.out.cell (World.block_lt_of_cell? w _ hw143_0)).trans hw143_0), ((HB.out.cell (World.block_lt_of_cell? w _ hw143_1)).trans hw143_1)⟩
               (try clear hcz10_0); (try clear hcz29_0); (try clear hcz7_0); (try clear hx140_0); (try clear hx141_0); (try clear hx142_0); (try clear hx143_0); (try clear hx143_1)
               go_quiet (((go_at_call 82; (with_reducible refine Calls.quiet_of ((spec_l1In.calls (rd (rd_L5 l1_0 x5_2) x6_3) 1 (wrap64 (((rd_T146 l0 x5_2).f1) - 1)) false _ A16.out).mono fun _ _ h_ => ⟨h_.1, h_.2.out⟩)))))
               clear s0_ s1_ s2_ s3_ s4_
               have n0_ := Aside0.mk (blk_drewN BK138.out nq)
               have n1_ := Aside0.mk (pw_below_drewN HB.out nq)
               clear BK138
               clear HB
               have BK138 := n0_
               have HB := n1_
               clear n0_ n1_
               generalize wr.drewN nq = w30 at BK138 HB ⊢
               try go_wp2
               go_ret
               exact ⟨by first | rfl | (simp [errW_none, errW_some] <;> rfl) | (simp [*, errW_none, errW_some] <;> rfl), by repeat (first | (with_reducible first | exact HB.out | apply below_alloc | apply pw_below_drewN | apply below_drew1 | refine below_set ?_ GE138.out) | exact HB.out)⟩
             ·rw [if_neg c15] at H
              exact absurd H (by simp)
            ·rw [if_neg c14] at H
             exact absurd H (by simp)
           ·rw [if_neg c13] at H
            have c13b0 : decide (x6_3 < ((rd_L5 l1_0 x5_2).length : Int)) = false := decide_eq_false c13
            clear c13
            have H' := Aside0.mk H
            clear H
            have hcz31_0 : wr.cell? ⟨gb138, 0, none⟩ = some (.slice A1_0 l1_0.length c1_0) := (blk_cell BK138.out 0).trans rfl
            have hfz31_0 := blk_frozen BK138.out 0
            have p140 : 0 ≤ (x5_2 : Int) := of_decide_eq_true (by first | (with_reducible assumption) | assumption)
            have q140 : x5_2 < (l1_0.length : Int) := of_decide_eq_true (by first | (with_reducible assumption) | assumption)
            obtain ⟨ad140, A140_0, c140_0, e140, hx140_0, hl140_0, hi140_0⟩ := at_L5 HR1_0.out x5_2 p140 q140
            cases e140
            replace hx140_0 := (HB.out.cell (World.block_lt_of_cell? w _ hx140_0)).trans hx140_0
            have HR140_0 := Aside0.mk hi140_0
            have HC140_0 := Aside0.mk hl140_0
            clear hi140_0 hl140_0
            replace p140 := eq_true p140
            replace q140 := eq_true q140
            go_wp2
            go_roundg k3
            case measure => have := HJ2.out; have := HK2.out; have := HK3.out; omega
            case rel => exact ⟨(wrap64 (x5_2 + 1)), (by first | rfl | (simp; done) | (simp [*]; done) | (simp only [bne_nil_]; done) | (simp [bne_nil_]; done)), H', ⟨by have := HJ2.out; have := HK2.out; have := HK3.out; omega⟩, ⟨by (with_reducible repeat (first | refine blk_drewN ?_ _ | refine blk_drew ?_ | refine blk_alloc ?_ _)); exact BK138.out⟩, ⟨by repeat (first | (with_reducible first | exact HB.out | apply below_alloc | apply pw_below_drewN | apply below_drew1 | refine below_set ?_ GE138.out) | exact HB.out)⟩⟩
          ·rw [if_neg c12] at H
           exact absurd H (by simp)
         ·rw [if_neg c11] at H
          exact absurd H (by simp)
      ·rw [if_neg c9] at H
       have c9b0 : decide (x5_2 < (l1_0.length : Int)) = false := decide_eq_false c9
       clear c9
       obtain rfl := Option.some.inj H
       have hcz32_0 : wr.cell? ⟨gb138, 0, none⟩ = some (.slice A1_0 l1_0.length c1_0) := (blk_cell BK138.out 0).trans rfl
       have hfz32_0 := blk_frozen BK138.out 0
       go_wp2
       go_ret
       exact ⟨by first | rfl | (simp [errW_none, errW_some] <;> rfl) | (simp [*, errW_none, errW_some] <;> rfl), by repeat (first | (with_reducible first | exact HB.out | apply below_alloc | apply pw_below_drewN | apply below_drew1 | refine below_set ?_ GE138.out) | exact HB.out)⟩

end Go.Proofs.Ytjmnhcooimdioaa.PFnExactSlicesOf
