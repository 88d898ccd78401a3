-- Written by a program of this session (a turned copy of the kit's printer); Lean checks it.
import Derived.Test.YtkjlplcdjdenkaaPFnExactGaugex0
import Derived.Test.YtkjlplcdjdenkaaPFnExactGaugex2
import Derived.Test.YtkjlplcdjdenkaaPFnExactGaugex3
namespace Go.Proofs.Ytkjlplcdjdenkaa.PFnExactGauge
open Go.RowKit Go.Proofs.YtkjlplcdjdenkaaW.PrintWords Go.Proofs.YtkjlplcdjdenkaaW.PrintLast Go.Proofs.YtkjlplcdjdenkaaW.PrintMore
attribute [local go_sem] max2_int min2_int max_two min_two max_three min_three max_four min_four   -- for this text's walks alone
set_option linter.unusedVariables false
set_option linter.unusedSimpArgs false

/-! ### spec_CutsOk: function 41 -/
mutual
def spec_CutsOk.j0 : Nat → List (S89) → Bool → List (List Int) → Option (Bool)
  | 0, _, _, _ => none
  | k + 1, x0, x17, x160000 => if x17 = true then (some false) else (spec_CutsOk.l0 k x0 0 x160000)
def spec_CutsOk.l0 : Nat → List (S89) → Int → List (List Int) → Option (Bool)
  | 0, _, _, _ => none
  | k + 1, x0, x5, x160000 => if x5 < (x160000.length : Int) then (spec_CutsOk.l1 k x0 x5 0 x160000) else (some true)
def spec_CutsOk.l1 : Nat → List (S89) → Int → Int → List (List Int) → Option (Bool)
  | 0, _, _, _, _ => none
  | k + 1, x0, x5, x6, x160000 => if 0 ≤ x5 then (if x5 < (x160000.length : Int) then (if x6 < ((rd_L3 x160000 x5).length : Int) then (if 0 ≤ x6 then (if x5 < (x0.length : Int) then ((spec_l1In.f (rd (rd_L3 x160000 x5) x6) 1 (wrap64 (((rd_T89 x0 x5).f1) - 1))).bind fun t165 => (if t165 = true then (if x6 > 0 then (if 0 ≤ (wrap64 (x6 - 1)) then (if (wrap64 (x6 - 1)) < ((rd_L3 x160000 x5).length : Int) then (if (rd (rd_L3 x160000 x5) x6) ≤ (rd (rd_L3 x160000 x5) (wrap64 (x6 - 1))) then (some false) else (spec_CutsOk.l1 k x0 x5 (wrap64 (x6 + 1)) x160000)) else (none)) else (none)) else (spec_CutsOk.l1 k x0 x5 (wrap64 (x6 + 1)) x160000)) else (some false))) else (none)) else (none)) else (spec_CutsOk.l0 k x0 (wrap64 (x5 + 1)) x160000)) else (none)) else (none)
end
def spec_CutsOk.f (k : Nat) (l0 : List (S89)) (l1_0 : List (List Int)) : Option (Bool) := (spec_DeclsOk.f k l0).bind fun t160 => (if t160 = true then (spec_CutsOk.j0 k l0 ((l1_0.length : Int) != (l0.length : Int)) l1_0) else (spec_CutsOk.j0 k l0 true l1_0))
theorem spec_CutsOk.mono_l : ∀ k, (∀ y0 y1 y2, LeO (spec_CutsOk.j0 k y0 y1 y2) (spec_CutsOk.j0 (k + 1) y0 y1 y2)) ∧ (∀ y0 y1 y2, LeO (spec_CutsOk.l0 k y0 y1 y2) (spec_CutsOk.l0 (k + 1) y0 y1 y2)) ∧ (∀ y0 y1 y2 y3, LeO (spec_CutsOk.l1 k y0 y1 y2 y3) (spec_CutsOk.l1 (k + 1) y0 y1 y2 y3))
  | 0 => ⟨fun _ _ _ r h => by simp [spec_CutsOk.j0] at h, fun _ _ _ r h => by simp [spec_CutsOk.l0] at h, fun _ _ _ _ r h => by simp [spec_CutsOk.l1] at h⟩
  | k + 1 => by
    obtain ⟨ih0, ih1, ih2⟩ := spec_CutsOk.mono_l k
    refine ⟨?_, ?_, ?_⟩
    · intro y0 y1 y2
      unfold spec_CutsOk.j0
      repeat' first
      | (with_reducible exact ih0 _ _ _)
      | (with_reducible exact ih1 _ _ _)
      | (with_reducible exact ih2 _ _ _ _)
      | (with_reducible exact spec_DeclsOk.mono _ _)
      | (with_reducible exact LeO.refl _)
      | (with_reducible exact LeO.none _)
      | (with_reducible refine LeO.ite ?_ ?_)
      | (with_reducible refine LeO.bind ?_ (fun _ => ?_))
      | exact ih0 _ _ _
      | exact ih1 _ _ _
      | exact ih2 _ _ _ _
      | exact spec_DeclsOk.mono _ _
      | exact LeO.none _
      | refine LeO.ite ?_ ?_
      | refine LeO.bind ?_ (fun _ => ?_)
    · intro y0 y1 y2
      unfold spec_CutsOk.l0
      repeat' first
      | (with_reducible exact ih0 _ _ _)
      | (with_reducible exact ih1 _ _ _)
      | (with_reducible exact ih2 _ _ _ _)
      | (with_reducible exact spec_DeclsOk.mono _ _)
      | (with_reducible exact LeO.refl _)
      | (with_reducible exact LeO.none _)
      | (with_reducible refine LeO.ite ?_ ?_)
      | (with_reducible refine LeO.bind ?_ (fun _ => ?_))
      | exact ih0 _ _ _
      | exact ih1 _ _ _
      | exact ih2 _ _ _ _
      | exact spec_DeclsOk.mono _ _
      | exact LeO.none _
      | refine LeO.ite ?_ ?_
      | refine LeO.bind ?_ (fun _ => ?_)
    · intro y0 y1 y2 y3
      unfold spec_CutsOk.l1
      repeat' first
      | (with_reducible exact ih0 _ _ _)
      | (with_reducible exact ih1 _ _ _)
      | (with_reducible exact ih2 _ _ _ _)
      | (with_reducible exact spec_DeclsOk.mono _ _)
      | (with_reducible exact LeO.refl _)
      | (with_reducible exact LeO.none _)
      | (with_reducible refine LeO.ite ?_ ?_)
      | (with_reducible refine LeO.bind ?_ (fun _ => ?_))
      | exact ih0 _ _ _
      | exact ih1 _ _ _
      | exact ih2 _ _ _ _
      | exact spec_DeclsOk.mono _ _
      | exact LeO.none _
      | refine LeO.ite ?_ ?_
      | refine LeO.bind ?_ (fun _ => ?_)
theorem spec_CutsOk.mono : ∀ a0 a1 k, LeO (spec_CutsOk.f k a0 a1) (spec_CutsOk.f (k + 1) a0 a1) := by
  intro a0 a1 k
  obtain ⟨ih0, ih1, ih2⟩ := spec_CutsOk.mono_l k
  unfold spec_CutsOk.f
  repeat' first
      | (with_reducible exact ih0 _ _ _)
      | (with_reducible exact ih1 _ _ _)
      | (with_reducible exact ih2 _ _ _ _)
      | (with_reducible exact spec_DeclsOk.mono _ _)
      | (with_reducible exact LeO.refl _)
      | (with_reducible exact LeO.none _)
      | (with_reducible refine LeO.ite ?_ ?_)
      | (with_reducible refine LeO.bind ?_ (fun _ => ?_))
      | exact ih0 _ _ _
      | exact ih1 _ _ _
      | exact ih2 _ _ _ _
      | exact spec_DeclsOk.mono _ _
      | exact LeO.none _
      | refine LeO.ite ?_ ?_
      | refine LeO.bind ?_ (fun _ => ?_)
def spec_CutsOk.T9 : Bool × List (List Nat × List Nat) := (true, [([], []), ([0], [0]), ([], []), ([1, 2], [1, 2]), ([3], [3]), ([], []), ([4, 5], [4, 5]), ([6], [6]), ([], []), ([], []), ([8, 9], [8, 9]), ([10], [10]), ([11], [11]), ([12], [12]), ([7, 13], [7, 13]), ([14], [14]), ([15, 14], [15]), ([16], [16]), ([17, 16], [16, 17]), ([18, 16, 16], [16, 18]), ([19], [19]), ([20, 19], [19, 20]), ([19], [19]), ([21, 22, 19], [19, 21, 22]), ([23, 19], [19, 23]), ([19], [19]), ([24, 25, 19], [19, 24, 25]), ([26, 19], [19, 26]), ([19], [19]), ([28, 19], [19, 28]), ([19], [19]), ([29, 30, 19], [19, 29, 30]), ([31, 19], [19, 31]), ([19], [19]), ([33, 19], [19, 33]), ([32, 34, 19], [19, 32, 34]), ([35, 19], [19, 35]), ([27, 36, 19], [19, 27, 36]), ([19, 37, 16], [16, 19, 37]), ([16, 38], [16, 38])])
def spec_CutsOk.B9 : List Nat := [0, 1, 0, 7, 15, 0, 63, 127, 0, 0, 768, 1792, 3840, 7936, 16383, 32767, 65535, 131071, 262143, 524287, 1048575, 2097151, 1048575, 8388607, 16777215, 1048575, 67108863, 134217727, 1048575, 269484031, 1048575, 1880096767, 4027580415, 1048575, 8590983167, 34092351487, 68452089855, 137438953471, 274877906943, 549755813887]
theorem spec_CutsOk.tab9 : rtab .any (opsOf Try.f41 9) = spec_CutsOk.T9 := by kernel_rfl
theorem spec_CutsOk.bits9 : waitsOk spec_CutsOk.T9.2 spec_CutsOk.B9 = true := by kernel_rfl
set_option maxHeartbeats 8000000 in
set_option maxRecDepth 100000 in
theorem spec_CutsOk.calls (k : Nat) (A0 : Option Addr) (c0 : Nat) (l0 : List (S89)) (A1_0 : Option Addr) (c1_0 : Nat) (l1_0 : List (List Int)) (r : Bool) (w : World) (hr0 : Kd.C k89 w A0 l0.length l0) (hc0 : l0.length ≤ c0) (hr1_0 : Kd.C (Kd.slice 2 (Kd.int .i64)) w A1_0 l1_0.length l1_0) (hc1_0 : l1_0.length ≤ c1_0) (h : spec_CutsOk.f k l0 l1_0 = some r) :
    Calls Try.prog 41 #[.slice A0 l0.length c0, .agg #[.slice A1_0 l1_0.length c1_0]] w fun e w' => e = .returned (.bool r) ∧ Below w.heap.size w w' := by
  have hu67 := Try.underlying67
  have HR0 := Aside0.mk hr0
  have HC0 := Aside0.mk hc0
  clear hr0 hc0
  have HR1_0 := Aside0.mk hr1_0
  have HC1_0 := Aside0.mk hc1_0
  clear hr1_0 hc1_0
  have HB := Aside0.mk (Below.refl w.heap.size w)
  have H : ((spec_DeclsOk.f k l0).bind fun t160 => (if t160 = true then (spec_CutsOk.j0 k l0 ((l1_0.length : Int) != (l0.length : Int)) l1_0) else (spec_CutsOk.j0 k l0 true l1_0))) = some r := h
  clear h
  have HC3 := Aside0.mk H
  clear H
  go_enter Try.func41, Try.ntmps41
  go_upto_region 1 with (first | ((with_reducible refine gate_dst (N := 3) rfl ?_); (try (refine gate_guard (by rfl) ?_; dsimp only)); refine box_event ?hg (N := 3) ?hd (cs := #[.slice A1_0 l1_0.length c1_0]) (t := 67) ?hr ?_; (case hd => rfl); (case hg => rfl); (case hr => first | (go_simp; done) | (go_simp; rfl)); intro gb159 hg w4 hbox hb; have n0_ := Aside0.mk (below_step (by repeat (first | (with_reducible first | exact HB.out | apply below_alloc | apply pw_below_drewN | apply below_drew1) | exact HB.out)) hb); have n1_ := Aside0.mk (hbox); have n2_ := Aside0.mk ((by rw [hg]; exact (below_size (by repeat (first | (with_reducible first | exact HB.out | apply below_alloc | apply pw_below_drewN | apply below_drew1) | exact HB.out))) : w.heap.size ≤ gb159)); have n3_ := Aside0.mk ((by rw [hg]; exact (below_size (by repeat (first | (with_reducible first | exact HB.out | apply below_alloc | apply pw_below_drewN | apply below_drew1) | exact HB.out))) : w.heap.size ≤ gb159)); clear HB; have HB := n0_; have BK159 := n1_; have GW159 := n2_; have GE159 := n3_; clear n0_ n1_ n2_ n3_; clear hb hbox hg))
  (try simp only [Act.put, List.setIfInBounds_toArray, List.set_cons_zero, List.set_cons_succ])
  go_cut [17] (fun v17 wc => ∃ (kq : Nat) (x17_2 : Bool), v17 = .bool x17_2 ∧ Aside0 (spec_CutsOk.j0 kq l0 x17_2 l1_0 = some r) ∧ Aside0 (kq ≤ k) ∧ Aside0 (wc.heap[gb159]? = some (.cells #[(.slice A1_0 l1_0.length c1_0)] 67 (0, 0))) ∧ Aside0 (Below w.heap.size w wc))
  case first =>
    have H := HC3.out
    clear HC3
    replace H := Option.bind_eq_some_iff.mp H
    obtain ⟨t160, A50, H⟩ := H
    replace H : (if t160 = true then (spec_CutsOk.j0 k l0 ((l1_0.length : Int) != (l0.length : Int)) l1_0) else (spec_CutsOk.j0 k l0 true l1_0)) = some r := H
    have A5 := Aside0.mk A50
    clear A50
    by_cases c6 : t160 = true
    · subst c6
      have H1 : (spec_CutsOk.j0 k l0 ((l1_0.length : Int) != (l0.length : Int)) l1_0) = some r := by rw [if_pos rfl] at H; exact H
      clear H
      have H := H1
      clear H1
      have H' := Aside0.mk H
      clear H
      go_wp2_with (first | ((with_reducible refine gate_callee (f := 98) rfl ?_); refine goesL_ (some 8) rfl rfl Try.func98 (by kernel_rfl) rfl #[.slice A0 l0.length c0] rfl (by (try simp only [List.map_toArray, List.map_cons, List.map_nil]); first | done | rfl | (simp only [List.length_drop, List.length_take]; rfl)) ?_; (with_reducible refine (spec_DeclsOk.calls k _ _ l0 true _ ?side1 ?side2 A5.out).mono ?_); (case side1 => repeat (first | exact (Kd.C_below HR0.out HB.out) | (with_reducible refine Kd.C_alloc ?_ _) | (with_reducible refine Kd.C_drewN ?_ _) | (with_reducible refine Kd.C_drew ?_))); (case side2 => exact HC0.out); rintro e w' ⟨rfl, ⟨nd, rfl⟩⟩; refine ⟨_, rfl, ?_⟩; have hcz7_0 : w4.cell? ⟨gb159, 0, none⟩ = some (.slice A1_0 l1_0.length c1_0) := (blk_cell BK159.out 0).trans rfl; have hfz7_0 := blk_frozen BK159.out 0))
      go_meet
      case rel => exact ⟨_, (((l1_0.length : Int) != (l0.length : Int))), (by first | rfl | (simp; done) | (simp [*]; done) | (simp only [bne_nil_]; done) | (simp [bne_nil_]; done)), H', ⟨by first | omega | exact Nat.le_refl _⟩, ⟨by (with_reducible repeat (first | refine blk_drewN ?_ _ | refine blk_drew ?_ | refine blk_alloc ?_ _)); exact BK159.out⟩, ⟨by repeat (first | (with_reducible first | exact HB.out | apply below_alloc | apply pw_below_drewN | apply below_drew1 | refine below_set ?_ GE159.out) | exact HB.out)⟩⟩
    · replace c6 := Bool.eq_false_iff.mpr c6
      subst c6
      have H1 : (spec_CutsOk.j0 k l0 true l1_0) = some r := by rw [if_neg (show ¬ (false = true) by decide)] at H; exact H
      clear H
      have H := H1
      clear H1
      have H' := Aside0.mk H
      clear H
      go_wp2_with (first | ((with_reducible refine gate_callee (f := 98) rfl ?_); refine goesL_ (some 8) rfl rfl Try.func98 (by kernel_rfl) rfl #[.slice A0 l0.length c0] rfl (by (try simp only [List.map_toArray, List.map_cons, List.map_nil]); first | done | rfl | (simp only [List.length_drop, List.length_take]; rfl)) ?_; (with_reducible refine (spec_DeclsOk.calls k _ _ l0 false _ ?side1 ?side2 A5.out).mono ?_); (case side1 => repeat (first | exact (Kd.C_below HR0.out HB.out) | (with_reducible refine Kd.C_alloc ?_ _) | (with_reducible refine Kd.C_drewN ?_ _) | (with_reducible refine Kd.C_drew ?_))); (case side2 => exact HC0.out); rintro e w' ⟨rfl, ⟨nd, rfl⟩⟩; refine ⟨_, rfl, ?_⟩))
      go_meet
      case rel => exact ⟨_, (true), (by first | rfl | (simp; done) | (simp [*]; done) | (simp only [bne_nil_]; done) | (simp [bne_nil_]; done)), H', ⟨by first | omega | exact Nat.le_refl _⟩, ⟨by (with_reducible repeat (first | refine blk_drewN ?_ _ | refine blk_drew ?_ | refine blk_alloc ?_ _)); exact BK159.out⟩, ⟨by repeat (first | (with_reducible first | exact HB.out | apply below_alloc | apply pw_below_drewN | apply below_drew1 | refine below_set ?_ GE159.out) | exact HB.out)⟩⟩
  case rest =>
    clear HC3
    try clear c1
    try clear p2
    try clear c4
    try clear c6
    try clear hcz7_0
    try clear hfz7_0
    obtain ⟨kq, x17_2, rfl, HA, HJ2, BK159, HB⟩ := hcut
    cases kq with
    | zero => exact absurd HA.out (by simp [spec_CutsOk.j0])
    | succ kj2 =>
      have H := HA.out
      clear HA
      simp only [spec_CutsOk.j0] at H
      by_cases c8 : x17_2 = true
      · subst c8
        have H1 : (some false) = some r := by rw [if_pos rfl] at H; exact H
        clear H
        have H := H1
        clear H1
        obtain rfl := Option.some.inj H
        go_wp2
        go_ret
        exact ⟨by first | rfl | (simp [errW_none, errW_some] <;> rfl) | (simp [*, errW_none, errW_some] <;> rfl), by repeat (first | (with_reducible first | exact HB.out | apply below_alloc | apply pw_below_drewN | apply below_drew1 | refine below_set ?_ GE159.out) | exact HB.out)⟩
      · replace c8 := Bool.eq_false_iff.mpr c8
        subst c8
        have H1 : (spec_CutsOk.l0 kj2 l0 0 l1_0) = some r := by rw [if_neg (show ¬ (false = true) by decide)] at H; exact H
        clear H
        have H := H1
        clear H1
        have H' := Aside0.mk H
        clear H
        go_wp2
        go_loopg [5] kj2 (fun kq v5 w' => ∃ (x5_2 : Int), v5 = .int .i64 x5_2 ∧ Aside0 (spec_CutsOk.l0 kq l0 x5_2 l1_0 = some r) ∧ Aside0 (kq ≤ kj2) ∧ Aside0 (w'.heap[gb159]? = some (.cells #[(.slice A1_0 l1_0.length c1_0)] 67 (0, 0))) ∧ Aside0 (Below w.heap.size w w'))
        case atStart => exact ⟨(0), (by first | rfl | (simp; done) | (simp [*]; done) | (simp only [bne_nil_]; done) | (simp [bne_nil_]; done)), H', ⟨Nat.le_refl _⟩, ⟨by (with_reducible repeat (first | refine blk_drewN ?_ _ | refine blk_drew ?_ | refine blk_alloc ?_ _)); exact BK159.out⟩, ⟨by repeat (first | (with_reducible first | exact HB.out | apply below_alloc | apply pw_below_drewN | apply below_drew1 | refine below_set ?_ GE159.out) | exact HB.out)⟩⟩
        case round =>
          clear H'
          try clear c1
          try clear p2
          try clear c4
          try clear c6
          try clear c8
          try clear hcz7_0
          try clear hfz7_0
          try clear p2
          obtain ⟨x5_2, rfl, HA, HK2, BK159, HB⟩ := hrel
          cases gk with
          | zero => exact absurd HA.out (by simp [spec_CutsOk.l0])
          | succ k2 =>
            have H := HA.out
            clear HA
            simp only [spec_CutsOk.l0] at H
            by_cases c9 : x5_2 < (l1_0.length : Int)
            · rw [if_pos c9] at H
              have c9b0 : decide (x5_2 < (l1_0.length : Int)) = true := decide_eq_true c9
              clear c9
              have H' := Aside0.mk H
              clear H
              have hcz10_0 : wr.cell? ⟨gb159, 0, none⟩ = some (.slice A1_0 l1_0.length c1_0) := (blk_cell BK159.out 0).trans rfl
              have hfz10_0 := blk_frozen BK159.out 0
              go_wp2
              go_loopg [6] k2 (fun kq v6 w' => ∃ (x6_3 : Int), v6 = .int .i64 x6_3 ∧ Aside0 (spec_CutsOk.l1 kq l0 x5_2 x6_3 l1_0 = some r) ∧ Aside0 (kq ≤ k2) ∧ Aside0 (w'.heap[gb159]? = some (.cells #[(.slice A1_0 l1_0.length c1_0)] 67 (0, 0))) ∧ Aside0 (Below w.heap.size w w'))
              case atStart => exact ⟨(0), (by first | rfl | (simp; done) | (simp [*]; done) | (simp only [bne_nil_]; done) | (simp [bne_nil_]; done)), H', ⟨Nat.le_refl _⟩, ⟨by (with_reducible repeat (first | refine blk_drewN ?_ _ | refine blk_drew ?_ | refine blk_alloc ?_ _)); exact BK159.out⟩, ⟨by repeat (first | (with_reducible first | exact HB.out | apply below_alloc | apply pw_below_drewN | apply below_drew1 | refine below_set ?_ GE159.out) | exact HB.out)⟩⟩
              case round =>
                clear H'
                try clear c1
                try clear p2
                try clear c4
                try clear c6
                try clear c8
                try clear c9
                try clear c9b0
                try clear hcz10_0
                try clear hcz7_0
                try clear hfz10_0
                try clear hfz7_0
                try clear p2
                obtain ⟨x6_3, rfl, HA, HK3, BK159, HB⟩ := hrel
                cases gk with
                | zero => exact absurd HA.out (by simp [spec_CutsOk.l1])
                | succ k3 =>
                  have H := HA.out
                  clear HA
                  simp only [spec_CutsOk.l1] at H
                  by_cases c11 : 0 ≤ x5_2
                  · rw [if_pos c11] at H
                    have c11b0 : decide (0 ≤ x5_2) = true := decide_eq_true c11
                    clear c11
                    by_cases c12 : x5_2 < (l1_0.length : Int)
                    · rw [if_pos c12] at H
                      have c12b0 : decide (x5_2 < (l1_0.length : Int)) = true := decide_eq_true c12
                      clear c12
                      by_cases c13 : x6_3 < ((rd_L3 l1_0 x5_2).length : Int)
                      · rw [if_pos c13] at H
                        have c13b0 : decide (x6_3 < ((rd_L3 l1_0 x5_2).length : Int)) = true := decide_eq_true c13
                        clear c13
                        by_cases c14 : 0 ≤ x6_3
                        · rw [if_pos c14] at H
                          have c14b0 : decide (0 ≤ x6_3) = true := decide_eq_true c14
                          clear c14
                          by_cases c15 : x5_2 < (l0.length : Int)
                          · rw [if_pos c15] at H
                            have c15b0 : decide (x5_2 < (l0.length : Int)) = true := decide_eq_true c15
                            clear c15
                            replace H := Option.bind_eq_some_iff.mp H
                            obtain ⟨t165, A160, H⟩ := H
                            replace H : (if t165 = true then (if x6_3 > 0 then (if 0 ≤ (wrap64 (x6_3 - 1)) then (if (wrap64 (x6_3 - 1)) < ((rd_L3 l1_0 x5_2).length : Int) then (if (rd (rd_L3 l1_0 x5_2) x6_3) ≤ (rd (rd_L3 l1_0 x5_2) (wrap64 (x6_3 - 1))) then (some false) else (spec_CutsOk.l1 k3 l0 x5_2 (wrap64 (x6_3 + 1)) l1_0)) else (none)) else (none)) else (spec_CutsOk.l1 k3 l0 x5_2 (wrap64 (x6_3 + 1)) l1_0)) else (some false)) = some r := H
                            have A16 := Aside0.mk A160
                            clear A160
                            by_cases c17 : t165 = true
                            · subst c17
                              have H1 : (if x6_3 > 0 then (if 0 ≤ (wrap64 (x6_3 - 1)) then (if (wrap64 (x6_3 - 1)) < ((rd_L3 l1_0 x5_2).length : Int) then (if (rd (rd_L3 l1_0 x5_2) x6_3) ≤ (rd (rd_L3 l1_0 x5_2) (wrap64 (x6_3 - 1))) then (some false) else (spec_CutsOk.l1 k3 l0 x5_2 (wrap64 (x6_3 + 1)) l1_0)) else (none)) else (none)) else (spec_CutsOk.l1 k3 l0 x5_2 (wrap64 (x6_3 + 1)) l1_0)) = some r := by rw [if_pos rfl] at H; exact H
                              clear H
                              have H := H1
                              clear H1
                              by_cases c18 : x6_3 > 0
                              · rw [if_pos c18] at H
                                have c18b0 : decide (0 < x6_3) = true := decide_eq_true c18
                                clear c18
                                obtain ⟨ji19, hji19⟩ : ∃ j_ : Int, (wrap64 (x6_3 - 1)) = j_ := ⟨_, rfl⟩
                                replace H : (if 0 ≤ (ji19) then (if (ji19) < ((rd_L3 l1_0 x5_2).length : Int) then (if (rd (rd_L3 l1_0 x5_2) x6_3) ≤ (rd (rd_L3 l1_0 x5_2) (ji19)) then (some false) else (spec_CutsOk.l1 k3 l0 x5_2 (wrap64 (x6_3 + 1)) l1_0)) else (none)) else (none)) = some r := by first | (rw [hji19] at H; exact H) | (simp only [hji19] at H ⊢; exact H)
                                (try rw [hji19] at A16)
                                have hji19w : (IntKind.i64.wrap (x6_3 - 1)) = ji19 := (i64_w _).trans hji19
                                by_cases c20 : 0 ≤ (ji19)
                                · rw [if_pos c20] at H
                                  have c20b0 : decide (0 ≤ (ji19)) = true := decide_eq_true c20
                                  clear c20
                                  by_cases c21 : (ji19) < ((rd_L3 l1_0 x5_2).length : Int)
                                  · rw [if_pos c21] at H
                                    have c21b0 : decide ((ji19) < ((rd_L3 l1_0 x5_2).length : Int)) = true := decide_eq_true c21
                                    clear c21
                                    by_cases c22 : (rd (rd_L3 l1_0 x5_2) x6_3) ≤ (rd (rd_L3 l1_0 x5_2) (ji19))
                                    · rw [if_pos c22] at H
                                      have c22b0 : decide ((rd (rd_L3 l1_0 x5_2) x6_3) ≤ (rd (rd_L3 l1_0 x5_2) (ji19))) = true := decide_eq_true c22
                                      clear c22
                                      obtain rfl := Option.some.inj H
                                      have hcz23_0 : wr.cell? ⟨gb159, 0, none⟩ = some (.slice A1_0 l1_0.length c1_0) := (blk_cell BK159.out 0).trans rfl
                                      have hfz23_0 := blk_frozen BK159.out 0
                                      have p161 : 0 ≤ (x5_2 : Int) := of_decide_eq_true (by first | (with_reducible assumption) | assumption)
                                      have q161 : x5_2 < (l1_0.length : Int) := of_decide_eq_true (by first | (with_reducible assumption) | assumption)
                                      obtain ⟨ad161, A161_0, c161_0, e161, hx161_0, hl161_0, hi161_0⟩ := at_L3 HR1_0.out x5_2 p161 q161
                                      cases e161
                                      replace hx161_0 := (HB.out.cell (World.block_lt_of_cell? w _ hx161_0)).trans hx161_0
                                      have HR161_0 := Aside0.mk hi161_0
                                      have HC161_0 := Aside0.mk hl161_0
                                      clear hi161_0 hl161_0
                                      replace p161 := eq_true p161
                                      replace q161 := eq_true q161
                                      try go_wp2
                                      have p162 : 0 ≤ (x5_2 : Int) := of_decide_eq_true (by first | (with_reducible assumption) | assumption)
                                      have q162 : x5_2 < (l1_0.length : Int) := of_decide_eq_true (by first | (with_reducible assumption) | assumption)
                                      obtain ⟨ad162, A162_0, c162_0, e162, hx162_0, hl162_0, hi162_0⟩ := at_L3 HR1_0.out x5_2 p162 q162
                                      have hw162_0 := hx162_0
                                      obtain rfl : ad161 = ad162 := (by injection e162)
                                      replace hx162_0 := (HB.out.cell (World.block_lt_of_cell? w _ hx162_0)).trans hx162_0
                                      have HR162_0 := Aside0.mk hi162_0
                                      have HC162_0 := Aside0.mk hl162_0
                                      clear hi162_0 hl162_0
                                      replace p162 := eq_true p162
                                      replace q162 := eq_true q162
                                      have p163 : 0 ≤ (x6_3 : Int) := of_decide_eq_true (by first | (with_reducible assumption) | assumption)
                                      have q163 : x6_3 < ((rd_L3 l1_0 x5_2).length : Int) := of_decide_eq_true (by first | (with_reducible assumption) | assumption)
                                      obtain ⟨ad163, e163, hx163_0⟩ := Kd.at_int HR162_0.out x6_3 p163 q163
                                      have hw163_0 := hx163_0
                                      cases e163
                                      replace hx163_0 := (HB.out.cell (World.block_lt_of_cell? w _ hx163_0)).trans hx163_0
                                      replace p163 := eq_true p163
                                      replace q163 := eq_true q163
                                      have p164 : 0 ≤ (x5_2 : Int) := of_decide_eq_true (by first | (with_reducible assumption) | assumption)
                                      have q164 : x5_2 < (l0.length : Int) := of_decide_eq_true (by first | (with_reducible assumption) | assumption)
                                      obtain ⟨ad164, e164, hx164_0, hx164_1⟩ := at_T89 HR0.out x5_2 p164 q164
                                      have hw164_1 := hx164_1
                                      have hw164_0 := hx164_0
                                      cases e164
                                      replace hx164_0 := (HB.out.cell (World.block_lt_of_cell? w _ hx164_0)).trans hx164_0
                                      replace hx164_1 := (HB.out.cell (World.block_lt_of_cell? w _ hx164_1)).trans hx164_1
                                      replace p164 := eq_true p164
                                      replace q164 := eq_true q164
                                      have p166 : 0 ≤ (x5_2 : Int) := of_decide_eq_true (by first | (with_reducible assumption) | assumption)
                                      have q166 : x5_2 < (l1_0.length : Int) := of_decide_eq_true (by first | (with_reducible assumption) | assumption)
                                      obtain ⟨ad166, A166_0, c166_0, e166, hx166_0, hl166_0, hi166_0⟩ := at_L3 HR1_0.out x5_2 p166 q166
                                      have hw166_0 := hx166_0
                                      obtain rfl : ad161 = ad166 := (by injection e166)
                                      replace hx166_0 := (HB.out.cell (World.block_lt_of_cell? w _ hx166_0)).trans hx166_0
                                      have HR166_0 := Aside0.mk hi166_0
                                      have HC166_0 := Aside0.mk hl166_0
                                      clear hi166_0 hl166_0
                                      replace p166 := eq_true p166
                                      replace q166 := eq_true q166
                                      have ea_ := Option.some.inj (hx162_0.symm.trans hx166_0)
                                      injection ea_ with ea_ en_ ec_
                                      subst ea_
                                      subst ec_
                                      clear en_
                                      have p167 : 0 ≤ (x6_3 : Int) := of_decide_eq_true (by first | (with_reducible assumption) | assumption)
                                      have q167 : x6_3 < ((rd_L3 l1_0 x5_2).length : Int) := of_decide_eq_true (by first | (with_reducible assumption) | assumption)
                                      obtain ⟨ad167, e167, hx167_0⟩ := Kd.at_int HR166_0.out x6_3 p167 q167
                                      have hw167_0 := hx167_0
                                      cases e167
                                      replace hx167_0 := (HB.out.cell (World.block_lt_of_cell? w _ hx167_0)).trans hx167_0
                                      replace p167 := eq_true p167
                                      replace q167 := eq_true q167
                                      have p168 : 0 ≤ (x5_2 : Int) := of_decide_eq_true (by first | (with_reducible assumption) | assumption)
                                      have q168 : x5_2 < (l1_0.length : Int) := of_decide_eq_true (by first | (with_reducible assumption) | assumption)
                                      obtain ⟨ad168, A168_0, c168_0, e168, hx168_0, hl168_0, hi168_0⟩ := at_L3 HR1_0.out x5_2 p168 q168
                                      have hw168_0 := hx168_0
                                      obtain rfl : ad161 = ad168 := (by injection e168)
                                      replace hx168_0 := (HB.out.cell (World.block_lt_of_cell? w _ hx168_0)).trans hx168_0
                                      have HR168_0 := Aside0.mk hi168_0
                                      have HC168_0 := Aside0.mk hl168_0
                                      clear hi168_0 hl168_0
                                      replace p168 := eq_true p168
                                      replace q168 := eq_true q168
                                      have ea_ := Option.some.inj (hx162_0.symm.trans hx168_0)
                                      injection ea_ with ea_ en_ ec_
                                      subst ea_
                                      subst ec_
                                      clear en_
                                      have p169 : 0 ≤ ((ji19) : Int) := of_decide_eq_true (by first | (with_reducible assumption) | assumption)
                                      have q169 : (ji19) < ((rd_L3 l1_0 x5_2).length : Int) := of_decide_eq_true (by first | (with_reducible assumption) | assumption)
                                      obtain ⟨ad169, e169, hx169_0⟩ := Kd.at_int HR168_0.out (ji19) p169 q169
                                      have hw169_0 := hx169_0
                                      cases e169
                                      replace hx169_0 := (HB.out.cell (World.block_lt_of_cell? w _ hx169_0)).trans hx169_0
                                      replace p169 := eq_true p169
                                      replace q169 := eq_true q169
                                      obtain ⟨s0_, s1_, s2_, s3_, s4_, s5_, s6_, s7_, s8_⟩ : wr.cell? ⟨gb159, 0, none⟩ = some (.slice (some ad161) l1_0.length c1_0) ∧ wr.cell? (ad161.add (x5_2).toNat) = some (.slice (some ad163) (rd_L3 l1_0 x5_2).length c162_0) ∧ wr.cell? (ad163.add (x6_3).toNat) = some (.int .i64 (rd (rd_L3 l1_0 x5_2) x6_3)) ∧ wr.cell? (ad164.add ((x5_2).toNat * 2)) = some (.string ((rd_T89 l0 x5_2).f0)) ∧ wr.cell? ⟨(ad164.add ((x5_2).toNat * 2)).block, (ad164.add ((x5_2).toNat * 2)).off + 1, none⟩ = some (.int .i64 ((rd_T89 l0 x5_2).f1)) ∧ wr.cell? (ad161.add (x5_2).toNat) = some (.slice (some ad163) (rd_L3 l1_0 x5_2).length c162_0) ∧ wr.cell? (ad163.add (x6_3).toNat) = some (.int .i64 (rd (rd_L3 l1_0 x5_2) x6_3)) ∧ wr.cell? (ad161.add (x5_2).toNat) = some (.slice (some ad163) (rd_L3 l1_0 x5_2).length c162_0) ∧ wr.cell? (ad163.add ((ji19)).toNat) = some (.int .i64 (rd (rd_L3 l1_0 x5_2) (ji19))) := ⟨(blk_cell BK159.out 0).trans rfl, ((HB.out.cell (World.block_lt_of_cell? w _ hw162_0)).trans hw162_0), ((HB.out.cell (World.block_lt_of_cell? w _ hw163_0)).trans hw163_0), ((HB.out.cell (World.block_lt_of_cell? w _ hw164_0)).trans hw164_0), ((HB.out.cell (World.block_lt_of_cell? w _ hw164_1)).trans hw164_1), ((HB.out.cell (World.block_lt_of_cell? w _ hw166_0)).trans hw166_0), ((HB.out.cell (World.block_lt_of_cell? w _ hw167_0)).trans hw167_0), ((HB.out.cell (World.block_lt_of_cell? w _ hw168_0)).trans hw168_0), ((HB.out.cell (World.block_lt_of_cell? w _ hw169_0)).trans hw169_0)⟩
                                      (try clear hcz10_0); (try clear hcz23_0); (try clear hcz7_0); (try clear hx161_0); (try clear hx162_0); (try clear hx163_0); (try clear hx164_0); (try clear hx164_1); (try clear hx166_0); (try clear hx167_0); (try clear hx168_0); (try clear hx169_0)
                                      go_quiet (((go_at_call 76; (with_reducible refine Calls.quiet_of ((spec_l1In.calls (rd (rd_L3 l1_0 x5_2) x6_3) 1 (wrap64 (((rd_T89 l0 x5_2).f1) - 1)) true _ A16.out).mono fun _ _ h_ => ⟨h_.1, h_.2.out⟩)))))
                                      clear s0_ s1_ s2_ s3_ s4_ s5_ s6_ s7_ s8_
                                      have n0_ := Aside0.mk (blk_drewN BK159.out nq)
                                      have n1_ := Aside0.mk (pw_below_drewN HB.out nq)
                                      clear BK159
                                      clear HB
                                      have BK159 := n0_
                                      have HB := n1_
                                      clear n0_ n1_
                                      generalize wr.drewN nq = w24 at BK159 HB ⊢
                                      try go_wp2
                                      go_ret
                                      exact ⟨by first | rfl | (simp [errW_none, errW_some] <;> rfl) | (simp only [← hji19]; first | rfl | (simp [errW_none, errW_some] <;> rfl)) | (simp [*, errW_none, errW_some] <;> rfl), by repeat (first | (with_reducible first | exact HB.out | apply below_alloc | apply pw_below_drewN | apply below_drew1 | refine below_set ?_ GE159.out) | exact HB.out)⟩
                                    · rw [if_neg c22] at H
                                      have c22b0 : decide ((rd (rd_L3 l1_0 x5_2) x6_3) ≤ (rd (rd_L3 l1_0 x5_2) (ji19))) = false := decide_eq_false c22
                                      clear c22
                                      have H' := Aside0.mk H
                                      clear H
                                      have hcz25_0 : wr.cell? ⟨gb159, 0, none⟩ = some (.slice A1_0 l1_0.length c1_0) := (blk_cell BK159.out 0).trans rfl
                                      have hfz25_0 := blk_frozen BK159.out 0
                                      have p161 : 0 ≤ (x5_2 : Int) := of_decide_eq_true (by first | (with_reducible assumption) | assumption)
                                      have q161 : x5_2 < (l1_0.length : Int) := of_decide_eq_true (by first | (with_reducible assumption) | assumption)
                                      obtain ⟨ad161, A161_0, c161_0, e161, hx161_0, hl161_0, hi161_0⟩ := at_L3 HR1_0.out x5_2 p161 q161
                                      cases e161
                                      replace hx161_0 := (HB.out.cell (World.block_lt_of_cell? w _ hx161_0)).trans hx161_0
                                      have HR161_0 := Aside0.mk hi161_0
                                      have HC161_0 := Aside0.mk hl161_0
                                      clear hi161_0 hl161_0
                                      replace p161 := eq_true p161
                                      replace q161 := eq_true q161
                                      try go_wp2
                                      have p162 : 0 ≤ (x5_2 : Int) := of_decide_eq_true (by first | (with_reducible assumption) | assumption)
                                      have q162 : x5_2 < (l1_0.length : Int) := of_decide_eq_true (by first | (with_reducible assumption) | assumption)
                                      obtain ⟨ad162, A162_0, c162_0, e162, hx162_0, hl162_0, hi162_0⟩ := at_L3 HR1_0.out x5_2 p162 q162
                                      have hw162_0 := hx162_0
                                      obtain rfl : ad161 = ad162 := (by injection e162)
                                      replace hx162_0 := (HB.out.cell (World.block_lt_of_cell? w _ hx162_0)).trans hx162_0
                                      have HR162_0 := Aside0.mk hi162_0
                                      have HC162_0 := Aside0.mk hl162_0
                                      clear hi162_0 hl162_0
                                      replace p162 := eq_true p162
                                      replace q162 := eq_true q162
                                      have p163 : 0 ≤ (x6_3 : Int) := of_decide_eq_true (by first | (with_reducible assumption) | assumption)
                                      have q163 : x6_3 < ((rd_L3 l1_0 x5_2).length : Int) := of_decide_eq_true (by first | (with_reducible assumption) | assumption)
                                      obtain ⟨ad163, e163, hx163_0⟩ := Kd.at_int HR162_0.out x6_3 p163 q163
                                      have hw163_0 := hx163_0
                                      cases e163
                                      replace hx163_0 := (HB.out.cell (World.block_lt_of_cell? w _ hx163_0)).trans hx163_0
                                      replace p163 := eq_true p163
                                      replace q163 := eq_true q163
                                      have p164 : 0 ≤ (x5_2 : Int) := of_decide_eq_true (by first | (with_reducible assumption) | assumption)
                                      have q164 : x5_2 < (l0.length : Int) := of_decide_eq_true (by first | (with_reducible assumption) | assumption)
                                      obtain ⟨ad164, e164, hx164_0, hx164_1⟩ := at_T89 HR0.out x5_2 p164 q164
                                      have hw164_1 := hx164_1
                                      have hw164_0 := hx164_0
                                      cases e164
                                      replace hx164_0 := (HB.out.cell (World.block_lt_of_cell? w _ hx164_0)).trans hx164_0
                                      replace hx164_1 := (HB.out.cell (World.block_lt_of_cell? w _ hx164_1)).trans hx164_1
                                      replace p164 := eq_true p164
                                      replace q164 := eq_true q164
                                      have p166 : 0 ≤ (x5_2 : Int) := of_decide_eq_true (by first | (with_reducible assumption) | assumption)
                                      have q166 : x5_2 < (l1_0.length : Int) := of_decide_eq_true (by first | (with_reducible assumption) | assumption)
                                      obtain ⟨ad166, A166_0, c166_0, e166, hx166_0, hl166_0, hi166_0⟩ := at_L3 HR1_0.out x5_2 p166 q166
                                      have hw166_0 := hx166_0
                                      obtain rfl : ad161 = ad166 := (by injection e166)
                                      replace hx166_0 := (HB.out.cell (World.block_lt_of_cell? w _ hx166_0)).trans hx166_0
                                      have HR166_0 := Aside0.mk hi166_0
                                      have HC166_0 := Aside0.mk hl166_0
                                      clear hi166_0 hl166_0
                                      replace p166 := eq_true p166
                                      replace q166 := eq_true q166
                                      have ea_ := Option.some.inj (hx162_0.symm.trans hx166_0)
                                      injection ea_ with ea_ en_ ec_
                                      subst ea_
                                      subst ec_
                                      clear en_
                                      have p167 : 0 ≤ (x6_3 : Int) := of_decide_eq_true (by first | (with_reducible assumption) | assumption)
                                      have q167 : x6_3 < ((rd_L3 l1_0 x5_2).length : Int) := of_decide_eq_true (by first | (with_reducible assumption) | assumption)
                                      obtain ⟨ad167, e167, hx167_0⟩ := Kd.at_int HR166_0.out x6_3 p167 q167
                                      have hw167_0 := hx167_0
                                      cases e167
                                      replace hx167_0 := (HB.out.cell (World.block_lt_of_cell? w _ hx167_0)).trans hx167_0
                                      replace p167 := eq_true p167
                                      replace q167 := eq_true q167
                                      have p168 : 0 ≤ (x5_2 : Int) := of_decide_eq_true (by first | (with_reducible assumption) | assumption)
                                      have q168 : x5_2 < (l1_0.length : Int) := of_decide_eq_true (by first | (with_reducible assumption) | assumption)
                                      obtain ⟨ad168, A168_0, c168_0, e168, hx168_0, hl168_0, hi168_0⟩ := at_L3 HR1_0.out x5_2 p168 q168
                                      have hw168_0 := hx168_0
                                      obtain rfl : ad161 = ad168 := (by injection e168)
                                      replace hx168_0 := (HB.out.cell (World.block_lt_of_cell? w _ hx168_0)).trans hx168_0
                                      have HR168_0 := Aside0.mk hi168_0
                                      have HC168_0 := Aside0.mk hl168_0
                                      clear hi168_0 hl168_0
                                      replace p168 := eq_true p168
                                      replace q168 := eq_true q168
                                      have ea_ := Option.some.inj (hx162_0.symm.trans hx168_0)
                                      injection ea_ with ea_ en_ ec_
                                      subst ea_
                                      subst ec_
                                      clear en_
                                      have p169 : 0 ≤ ((ji19) : Int) := of_decide_eq_true (by first | (with_reducible assumption) | assumption)
                                      have q169 : (ji19) < ((rd_L3 l1_0 x5_2).length : Int) := of_decide_eq_true (by first | (with_reducible assumption) | assumption)
                                      obtain ⟨ad169, e169, hx169_0⟩ := Kd.at_int HR168_0.out (ji19) p169 q169
                                      have hw169_0 := hx169_0
                                      cases e169
                                      replace hx169_0 := (HB.out.cell (World.block_lt_of_cell? w _ hx169_0)).trans hx169_0
                                      replace p169 := eq_true p169
                                      replace q169 := eq_true q169
                                      obtain ⟨s0_, s1_, s2_, s3_, s4_, s5_, s6_, s7_, s8_⟩ : wr.cell? ⟨gb159, 0, none⟩ = some (.slice (some ad161) l1_0.length c1_0) ∧ wr.cell? (ad161.add (x5_2).toNat) = some (.slice (some ad163) (rd_L3 l1_0 x5_2).length c162_0) ∧ wr.cell? (ad163.add (x6_3).toNat) = some (.int .i64 (rd (rd_L3 l1_0 x5_2) x6_3)) ∧ wr.cell? (ad164.add ((x5_2).toNat * 2)) = some (.string ((rd_T89 l0 x5_2).f0)) ∧ wr.cell? ⟨(ad164.add ((x5_2).toNat * 2)).block, (ad164.add ((x5_2).toNat * 2)).off + 1, none⟩ = some (.int .i64 ((rd_T89 l0 x5_2).f1)) ∧ wr.cell? (ad161.add (x5_2).toNat) = some (.slice (some ad163) (rd_L3 l1_0 x5_2).length c162_0) ∧ wr.cell? (ad163.add (x6_3).toNat) = some (.int .i64 (rd (rd_L3 l1_0 x5_2) x6_3)) ∧ wr.cell? (ad161.add (x5_2).toNat) = some (.slice (some ad163) (rd_L3 l1_0 x5_2).length c162_0) ∧ wr.cell? (ad163.add ((ji19)).toNat) = some (.int .i64 (rd (rd_L3 l1_0 x5_2) (ji19))) := ⟨(blk_cell BK159.out 0).trans rfl, ((HB.out.cell (World.block_lt_of_cell? w _ hw162_0)).trans hw162_0), ((HB.out.cell (World.block_lt_of_cell? w _ hw163_0)).trans hw163_0), ((HB.out.cell (World.block_lt_of_cell? w _ hw164_0)).trans hw164_0), ((HB.out.cell (World.block_lt_of_cell? w _ hw164_1)).trans hw164_1), ((HB.out.cell (World.block_lt_of_cell? w _ hw166_0)).trans hw166_0), ((HB.out.cell (World.block_lt_of_cell? w _ hw167_0)).trans hw167_0), ((HB.out.cell (World.block_lt_of_cell? w _ hw168_0)).trans hw168_0), ((HB.out.cell (World.block_lt_of_cell? w _ hw169_0)).trans hw169_0)⟩
                                      (try clear hcz10_0); (try clear hcz23_0); (try clear hcz25_0); (try clear hcz7_0); (try clear hx161_0); (try clear hx162_0); (try clear hx163_0); (try clear hx164_0); (try clear hx164_1); (try clear hx166_0); (try clear hx167_0); (try clear hx168_0); (try clear hx169_0)
                                      go_quiet (((go_at_call 76; (with_reducible refine Calls.quiet_of ((spec_l1In.calls (rd (rd_L3 l1_0 x5_2) x6_3) 1 (wrap64 (((rd_T89 l0 x5_2).f1) - 1)) true _ A16.out).mono fun _ _ h_ => ⟨h_.1, h_.2.out⟩)))))
                                      clear s0_ s1_ s2_ s3_ s4_ s5_ s6_ s7_ s8_
                                      have n0_ := Aside0.mk (blk_drewN BK159.out nq)
                                      have n1_ := Aside0.mk (pw_below_drewN HB.out nq)
                                      clear BK159
                                      clear HB
                                      have BK159 := n0_
                                      have HB := n1_
                                      clear n0_ n1_
                                      generalize wr.drewN nq = w26 at BK159 HB ⊢
                                      try go_wp2
                                      go_roundg k3
                                      case measure => have := HJ2.out; have := HK2.out; have := HK3.out; omega
                                      case rel => exact ⟨(wrap64 (x6_3 + 1)), (by first | rfl | (simp; done) | (simp [*]; done) | (simp only [bne_nil_]; done) | (simp [bne_nil_]; done)), H', ⟨by have := HJ2.out; have := HK2.out; have := HK3.out; omega⟩, ⟨by (with_reducible repeat (first | refine blk_drewN ?_ _ | refine blk_drew ?_ | refine blk_alloc ?_ _)); exact BK159.out⟩, ⟨by repeat (first | (with_reducible first | exact HB.out | apply below_alloc | apply pw_below_drewN | apply below_drew1 | refine below_set ?_ GE159.out) | exact HB.out)⟩⟩
                                  · rw [if_neg c21] at H
                                    exact absurd H (by simp)
                                · rw [if_neg c20] at H
                                  exact absurd H (by simp)
                              · rw [if_neg c18] at H
                                have c18b0 : decide (0 < x6_3) = false := decide_eq_false c18
                                clear c18
                                have H' := Aside0.mk H
                                clear H
                                have hcz27_0 : wr.cell? ⟨gb159, 0, none⟩ = some (.slice A1_0 l1_0.length c1_0) := (blk_cell BK159.out 0).trans rfl
                                have hfz27_0 := blk_frozen BK159.out 0
                                have p161 : 0 ≤ (x5_2 : Int) := of_decide_eq_true (by first | (with_reducible assumption) | assumption)
                                have q161 : x5_2 < (l1_0.length : Int) := of_decide_eq_true (by first | (with_reducible assumption) | assumption)
                                obtain ⟨ad161, A161_0, c161_0, e161, hx161_0, hl161_0, hi161_0⟩ := at_L3 HR1_0.out x5_2 p161 q161
                                cases e161
                                replace hx161_0 := (HB.out.cell (World.block_lt_of_cell? w _ hx161_0)).trans hx161_0
                                have HR161_0 := Aside0.mk hi161_0
                                have HC161_0 := Aside0.mk hl161_0
                                clear hi161_0 hl161_0
                                replace p161 := eq_true p161
                                replace q161 := eq_true q161
                                try go_wp2
                                have p162 : 0 ≤ (x5_2 : Int) := of_decide_eq_true (by first | (with_reducible assumption) | assumption)
                                have q162 : x5_2 < (l1_0.length : Int) := of_decide_eq_true (by first | (with_reducible assumption) | assumption)
                                obtain ⟨ad162, A162_0, c162_0, e162, hx162_0, hl162_0, hi162_0⟩ := at_L3 HR1_0.out x5_2 p162 q162
                                have hw162_0 := hx162_0
                                obtain rfl : ad161 = ad162 := (by injection e162)
                                replace hx162_0 := (HB.out.cell (World.block_lt_of_cell? w _ hx162_0)).trans hx162_0
                                have HR162_0 := Aside0.mk hi162_0
                                have HC162_0 := Aside0.mk hl162_0
                                clear hi162_0 hl162_0
                                replace p162 := eq_true p162
                                replace q162 := eq_true q162
                                have p163 : 0 ≤ (x6_3 : Int) := of_decide_eq_true (by first | (with_reducible assumption) | assumption)
                                have q163 : x6_3 < ((rd_L3 l1_0 x5_2).length : Int) := of_decide_eq_true (by first | (with_reducible assumption) | assumption)
                                obtain ⟨ad163, e163, hx163_0⟩ := Kd.at_int HR162_0.out x6_3 p163 q163
                                have hw163_0 := hx163_0
                                cases e163
                                replace hx163_0 := (HB.out.cell (World.block_lt_of_cell? w _ hx163_0)).trans hx163_0
                                replace p163 := eq_true p163
                                replace q163 := eq_true q163
                                have p164 : 0 ≤ (x5_2 : Int) := of_decide_eq_true (by first | (with_reducible assumption) | assumption)
                                have q164 : x5_2 < (l0.length : Int) := of_decide_eq_true (by first | (with_reducible assumption) | assumption)
                                obtain ⟨ad164, e164, hx164_0, hx164_1⟩ := at_T89 HR0.out x5_2 p164 q164
                                have hw164_1 := hx164_1
                                have hw164_0 := hx164_0
                                cases e164
                                replace hx164_0 := (HB.out.cell (World.block_lt_of_cell? w _ hx164_0)).trans hx164_0
                                replace hx164_1 := (HB.out.cell (World.block_lt_of_cell? w _ hx164_1)).trans hx164_1
                                replace p164 := eq_true p164
                                replace q164 := eq_true q164
                                obtain ⟨s0_, s1_, s2_, s3_, s4_⟩ : wr.cell? ⟨gb159, 0, none⟩ = some (.slice (some ad161) l1_0.length c1_0) ∧ wr.cell? (ad161.add (x5_2).toNat) = some (.slice (some ad163) (rd_L3 l1_0 x5_2).length c162_0) ∧ wr.cell? (ad163.add (x6_3).toNat) = some (.int .i64 (rd (rd_L3 l1_0 x5_2) x6_3)) ∧ wr.cell? (ad164.add ((x5_2).toNat * 2)) = some (.string ((rd_T89 l0 x5_2).f0)) ∧ wr.cell? ⟨(ad164.add ((x5_2).toNat * 2)).block, (ad164.add ((x5_2).toNat * 2)).off + 1, none⟩ = some (.int .i64 ((rd_T89 l0 x5_2).f1)) := ⟨(blk_cell BK159.out 0).trans rfl, ((HB.out.cell (World.block_lt_of_cell? w _ hw162_0)).trans hw162_0), ((HB.out.cell (World.block_lt_of_cell? w _ hw163_0)).trans hw163_0), ((HB.out.cell (World.block_lt_of_cell? w _ hw164_0)).trans hw164_0), ((HB.out.cell (World.block_lt_of_cell? w _ hw164_1)).trans hw164_1)⟩
                                (try clear hcz10_0); (try clear hcz27_0); (try clear hcz7_0); (try clear hx161_0); (try clear hx162_0); (try clear hx163_0); (try clear hx164_0); (try clear hx164_1)
                                go_quiet (((go_at_call 76; (with_reducible refine Calls.quiet_of ((spec_l1In.calls (rd (rd_L3 l1_0 x5_2) x6_3) 1 (wrap64 (((rd_T89 l0 x5_2).f1) - 1)) true _ A16.out).mono fun _ _ h_ => ⟨h_.1, h_.2.out⟩)))))
                                clear s0_ s1_ s2_ s3_ s4_
                                have n0_ := Aside0.mk (blk_drewN BK159.out nq)
                                have n1_ := Aside0.mk (pw_below_drewN HB.out nq)
                                clear BK159
                                clear HB
                                have BK159 := n0_
                                have HB := n1_
                                clear n0_ n1_
                                generalize wr.drewN nq = w28 at BK159 HB ⊢
                                try go_wp2
                                go_roundg k3
                                case measure => have := HJ2.out; have := HK2.out; have := HK3.out; omega
                                case rel => exact ⟨(wrap64 (x6_3 + 1)), (by first | rfl | (simp; done) | (simp [*]; done) | (simp only [bne_nil_]; done) | (simp [bne_nil_]; done)), H', ⟨by have := HJ2.out; have := HK2.out; have := HK3.out; omega⟩, ⟨by (with_reducible repeat (first | refine blk_drewN ?_ _ | refine blk_drew ?_ | refine blk_alloc ?_ _)); exact BK159.out⟩, ⟨by repeat (first | (with_reducible first | exact HB.out | apply below_alloc | apply pw_below_drewN | apply below_drew1 | refine below_set ?_ GE159.out) | exact HB.out)⟩⟩
                            · replace c17 := Bool.eq_false_iff.mpr c17
                              subst c17
                              have H1 : (some false) = some r := by rw [if_neg (show ¬ (false = true) by decide)] at H; exact H
                              clear H
                              have H := H1
                              clear H1
                              obtain rfl := Option.some.inj H
                              have hcz29_0 : wr.cell? ⟨gb159, 0, none⟩ = some (.slice A1_0 l1_0.length c1_0) := (blk_cell BK159.out 0).trans rfl
                              have hfz29_0 := blk_frozen BK159.out 0
                              have p161 : 0 ≤ (x5_2 : Int) := of_decide_eq_true (by first | (with_reducible assumption) | assumption)
                              have q161 : x5_2 < (l1_0.length : Int) := of_decide_eq_true (by first | (with_reducible assumption) | assumption)
                              obtain ⟨ad161, A161_0, c161_0, e161, hx161_0, hl161_0, hi161_0⟩ := at_L3 HR1_0.out x5_2 p161 q161
                              cases e161
                              replace hx161_0 := (HB.out.cell (World.block_lt_of_cell? w _ hx161_0)).trans hx161_0
                              have HR161_0 := Aside0.mk hi161_0
                              have HC161_0 := Aside0.mk hl161_0
                              clear hi161_0 hl161_0
                              replace p161 := eq_true p161
                              replace q161 := eq_true q161
                              try go_wp2
                              have p162 : 0 ≤ (x5_2 : Int) := of_decide_eq_true (by first | (with_reducible assumption) | assumption)
                              have q162 : x5_2 < (l1_0.length : Int) := of_decide_eq_true (by first | (with_reducible assumption) | assumption)
                              obtain ⟨ad162, A162_0, c162_0, e162, hx162_0, hl162_0, hi162_0⟩ := at_L3 HR1_0.out x5_2 p162 q162
                              have hw162_0 := hx162_0
                              obtain rfl : ad161 = ad162 := (by injection e162)
                              replace hx162_0 := (HB.out.cell (World.block_lt_of_cell? w _ hx162_0)).trans hx162_0
                              have HR162_0 := Aside0.mk hi162_0
                              have HC162_0 := Aside0.mk hl162_0
                              clear hi162_0 hl162_0
                              replace p162 := eq_true p162
                              replace q162 := eq_true q162
                              have p163 : 0 ≤ (x6_3 : Int) := of_decide_eq_true (by first | (with_reducible assumption) | assumption)
                              have q163 : x6_3 < ((rd_L3 l1_0 x5_2).length : Int) := of_decide_eq_true (by first | (with_reducible assumption) | assumption)
                              obtain ⟨ad163, e163, hx163_0⟩ := Kd.at_int HR162_0.out x6_3 p163 q163
                              have hw163_0 := hx163_0
                              cases e163
                              replace hx163_0 := (HB.out.cell (World.block_lt_of_cell? w _ hx163_0)).trans hx163_0
                              replace p163 := eq_true p163
                              replace q163 := eq_true q163
                              have p164 : 0 ≤ (x5_2 : Int) := of_decide_eq_true (by first | (with_reducible assumption) | assumption)
                              have q164 : x5_2 < (l0.length : Int) := of_decide_eq_true (by first | (with_reducible assumption) | assumption)
                              obtain ⟨ad164, e164, hx164_0, hx164_1⟩ := at_T89 HR0.out x5_2 p164 q164
                              have hw164_1 := hx164_1
                              have hw164_0 := hx164_0
                              cases e164
                              replace hx164_0 := (HB.out.cell (World.block_lt_of_cell? w _ hx164_0)).trans hx164_0
                              replace hx164_1 := (HB.out.cell (World.block_lt_of_cell? w _ hx164_1)).trans hx164_1
                              replace p164 := eq_true p164
                              replace q164 := eq_true q164
                              obtain ⟨s0_, s1_, s2_, s3_, s4_⟩ : wr.cell? ⟨gb159, 0, none⟩ = some (.slice (some ad161) l1_0.length c1_0) ∧ wr.cell? (ad161.add (x5_2).toNat) = some (.slice (some ad163) (rd_L3 l1_0 x5_2).length c162_0) ∧ wr.cell? (ad163.add (x6_3).toNat) = some (.int .i64 (rd (rd_L3 l1_0 x5_2) x6_3)) ∧ wr.cell? (ad164.add ((x5_2).toNat * 2)) = some (.string ((rd_T89 l0 x5_2).f0)) ∧ wr.cell? ⟨(ad164.add ((x5_2).toNat * 2)).block, (ad164.add ((x5_2).toNat * 2)).off + 1, none⟩ = some (.int .i64 ((rd_T89 l0 x5_2).f1)) := ⟨(blk_cell BK159.out 0).trans rfl, ((HB.out.cell (World.block_lt_of_cell? w _ hw162_0)).trans hw162_0), ((HB.out.cell (World.block_lt_of_cell? w _ hw163_0)).trans hw163_0), ((HB.out.cell (World.block_lt_of_cell? w _ hw164_0)).trans hw164_0), ((HB.out.cell (World.block_lt_of_cell? w _ hw164_1)).trans hw164_1)⟩
                              (try clear hcz10_0); (try clear hcz29_0); (try clear hcz7_0); (try clear hx161_0); (try clear hx162_0); (try clear hx163_0); (try clear hx164_0); (try clear hx164_1)
                              go_quiet (((go_at_call 76; (with_reducible refine Calls.quiet_of ((spec_l1In.calls (rd (rd_L3 l1_0 x5_2) x6_3) 1 (wrap64 (((rd_T89 l0 x5_2).f1) - 1)) false _ A16.out).mono fun _ _ h_ => ⟨h_.1, h_.2.out⟩)))))
                              clear s0_ s1_ s2_ s3_ s4_
                              have n0_ := Aside0.mk (blk_drewN BK159.out nq)
                              have n1_ := Aside0.mk (pw_below_drewN HB.out nq)
                              clear BK159
                              clear HB
                              have BK159 := n0_
                              have HB := n1_
                              clear n0_ n1_
                              generalize wr.drewN nq = w30 at BK159 HB ⊢
                              try go_wp2
                              go_ret
                              exact ⟨by first | rfl | (simp [errW_none, errW_some] <;> rfl) | (simp [*, errW_none, errW_some] <;> rfl), by repeat (first | (with_reducible first | exact HB.out | apply below_alloc | apply pw_below_drewN | apply below_drew1 | refine below_set ?_ GE159.out) | exact HB.out)⟩
                          · rw [if_neg c15] at H
                            exact absurd H (by simp)
                        · rw [if_neg c14] at H
                          exact absurd H (by simp)
                      · rw [if_neg c13] at H
                        have c13b0 : decide (x6_3 < ((rd_L3 l1_0 x5_2).length : Int)) = false := decide_eq_false c13
                        clear c13
                        have H' := Aside0.mk H
                        clear H
                        have hcz31_0 : wr.cell? ⟨gb159, 0, none⟩ = some (.slice A1_0 l1_0.length c1_0) := (blk_cell BK159.out 0).trans rfl
                        have hfz31_0 := blk_frozen BK159.out 0
                        have p161 : 0 ≤ (x5_2 : Int) := of_decide_eq_true (by first | (with_reducible assumption) | assumption)
                        have q161 : x5_2 < (l1_0.length : Int) := of_decide_eq_true (by first | (with_reducible assumption) | assumption)
                        obtain ⟨ad161, A161_0, c161_0, e161, hx161_0, hl161_0, hi161_0⟩ := at_L3 HR1_0.out x5_2 p161 q161
                        cases e161
                        replace hx161_0 := (HB.out.cell (World.block_lt_of_cell? w _ hx161_0)).trans hx161_0
                        have HR161_0 := Aside0.mk hi161_0
                        have HC161_0 := Aside0.mk hl161_0
                        clear hi161_0 hl161_0
                        replace p161 := eq_true p161
                        replace q161 := eq_true q161
                        go_wp2
                        go_roundg k3
                        case measure => have := HJ2.out; have := HK2.out; have := HK3.out; omega
                        case rel => exact ⟨(wrap64 (x5_2 + 1)), (by first | rfl | (simp; done) | (simp [*]; done) | (simp only [bne_nil_]; done) | (simp [bne_nil_]; done)), H', ⟨by have := HJ2.out; have := HK2.out; have := HK3.out; omega⟩, ⟨by (with_reducible repeat (first | refine blk_drewN ?_ _ | refine blk_drew ?_ | refine blk_alloc ?_ _)); exact BK159.out⟩, ⟨by repeat (first | (with_reducible first | exact HB.out | apply below_alloc | apply pw_below_drewN | apply below_drew1 | refine below_set ?_ GE159.out) | exact HB.out)⟩⟩
                    · rw [if_neg c12] at H
                      exact absurd H (by simp)
                  · rw [if_neg c11] at H
                    exact absurd H (by simp)
            · rw [if_neg c9] at H
              have c9b0 : decide (x5_2 < (l1_0.length : Int)) = false := decide_eq_false c9
              clear c9
              obtain rfl := Option.some.inj H
              have hcz32_0 : wr.cell? ⟨gb159, 0, none⟩ = some (.slice A1_0 l1_0.length c1_0) := (blk_cell BK159.out 0).trans rfl
              have hfz32_0 := blk_frozen BK159.out 0
              go_wp2
              go_ret
              exact ⟨by first | rfl | (simp [errW_none, errW_some] <;> rfl) | (simp [*, errW_none, errW_some] <;> rfl), by repeat (first | (with_reducible first | exact HB.out | apply below_alloc | apply pw_below_drewN | apply below_drew1 | refine below_set ?_ GE159.out) | exact HB.out)⟩

end Go.Proofs.Ytkjlplcdjdenkaa.PFnExactGauge
