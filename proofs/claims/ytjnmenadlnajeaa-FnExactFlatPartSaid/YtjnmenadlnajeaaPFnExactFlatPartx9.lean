-- Written by a program of this session (a turned copy of the kit's printer); Lean checks it.
-- half the depth
import Derived.Test.YtjnmenadlnajeaaPFnExactFlatPartx0
import Derived.Test.YtjnmenadlnajeaaPFnExactFlatPartx8
namespace Go.Proofs.Ytjnmenadlnajeaa.PFnExactFlatPart
open Go.RowKit Go.Proofs.YtjnmenadlnajeaaW.PrintWords Go.Proofs.YtjnmenadlnajeaaW.PrintLast Go.Proofs.YtjnmenadlnajeaaW.PrintMore
attribute [local go_sem] max2_int min2_int max_two min_two max_three min_three max_four min_four   -- for this text's walks alone
set_option linter.unusedVariables false
set_option linter.unusedSimpArgs false

/-! ### spec_l5Form: function 32 -/
mutual
def spec_l5Form.l0 : Nat → List (S80) → List (S67) → Int → Option ((List (S67)) × Bool)
 | 0, _, _, _ => none
 | k + 1, x0, x4, x5 => if x5 < (x0.length : Int) then (if 0 ≤ x5 then (if ((rd_T80 x0 x5).f0) < 0 then (spec_l5Form.l1 k x0 x4 (wrap64 (x5 + 1)) (([((rd_T80 x0 x5).f1) % 256] : List Int))) else (spec_l5Form.l2 k x0 x4 x5 (wrap64 (x5 + 1)))) else (none)) else (some (x4, decide ((x4.length : Int) ≤ 2000)))
def spec_l5Form.l1 : Nat → List (S80) → List (S67) → Int → List Int → Option ((List (S67)) × Bool)
 | 0, _, _, _, _ => none
 | k + 1, x0, x4, x6, x7 => if x6 < (x0.length : Int) then (if 0 ≤ x6 then (if ((rd_T80 x0 x6).f0) < 0 then (if x7.length < 140737488355328 then (spec_l5Form.l1 k x0 x4 (wrap64 (x6 + 1)) (x7 ++ [((rd_T80 x0 x6).f1) % 256])) else (none)) else ((spec_l1From.f k x7).bind fun bt248 => (if x4.length < 2513169434916 then (spec_l5Form.l0 k x0 (x4 ++ [(⟨(-1), 0, bt248.1, (⟨bt248.1, bt248.2.1⟩ : S41)⟩ : S67)]) x6) else (none)))) else (none)) else ((spec_l1From.f k x7).bind fun bt257 => (if x4.length < 2513169434916 then (spec_l5Form.l0 k x0 (x4 ++ [(⟨(-1), 0, bt257.1, (⟨bt257.1, bt257.2.1⟩ : S41)⟩ : S67)]) x6) else (none)))
def spec_l5Form.l2 : Nat → List (S80) → List (S67) → Int → Int → Option ((List (S67)) × Bool)
 | 0, _, _, _, _ => none
 | k + 1, x0, x4, x5, x6 => if x6 < (x0.length : Int) then (if 0 ≤ x6 then (if 0 ≤ x5 then (if x5 < (x0.length : Int) then (if ((rd_T80 x0 x6).f0) = ((rd_T80 x0 x5).f0) then (if 0 ≤ (wrap64 (x6 - 1)) then (if (wrap64 (x6 - 1)) < (x0.length : Int) then (if ((rd_T80 x0 x6).f1) = (wrap64 (((rd_T80 x0 (wrap64 (x6 - 1))).f1) + 1)) then (spec_l5Form.l2 k x0 x4 x5 (wrap64 (x6 + 1))) else (if x4.length < 2513169434916 then (spec_l5Form.l0 k x0 (x4 ++ [(⟨(rd_T80 x0 x5).f0, (rd_T80 x0 x5).f1, wrap64 (x6 - x5), (⟨0, ([] : List Int)⟩ : S41)⟩ : S67)]) x6) else (none))) else (none)) else (none)) else (if x4.length < 2513169434916 then (spec_l5Form.l0 k x0 (x4 ++ [(⟨(rd_T80 x0 x5).f0, (rd_T80 x0 x5).f1, wrap64 (x6 - x5), (⟨0, ([] : List Int)⟩ : S41)⟩ : S67)]) x6) else (none))) else (none)) else (none)) else (none)) else (if 0 ≤ x5 then (if x5 < (x0.length : Int) then (if x4.length < 2513169434916 then (spec_l5Form.l0 k x0 (x4 ++ [(⟨(rd_T80 x0 x5).f0, (rd_T80 x0 x5).f1, wrap64 (x6 - x5), (⟨0, ([] : List Int)⟩ : S41)⟩ : S67)]) x6) else (none)) else (none)) else (none))
end
def spec_l5Form.f (k : Nat) (l0 : List (S80)) : Option ((List (S67)) × Bool) := spec_l5Form.l0 k l0 (([] : List (S67))) 0
def spec_l5Form.T14 : Bool × List (List Nat × List Nat) := (true, [([], []), ([], []), ([], []), ([1, 2], [1, 2]), ([3], [3]), ([4], [4]), ([], []), ([], []), ([6, 7], [6, 7]), ([8], [8]), ([9], [9]), ([], []), ([], []), ([11, 12], [11, 12]), ([5, 10, 13], [5, 10, 13]), ([14], [14]), ([0, 15], [0, 15]), ([16, 16, 0, 1, 2, 3, 4, 5, 6, 7, 8, 9, 10, 11, 12, 13, 14, 15, 16], [0, 16])])
def spec_l5Form.B14 : List Nat := [0, 0, 0, 6, 14, 30, 0, 0, 192, 448, 960, 0, 0, 6144, 16382, 32766, 65535, 131071]
theorem spec_l5Form.tab14 : rtab .any (opsOf Try.f32 14) = spec_l5Form.T14 := by kernel_rfl
theorem spec_l5Form.bits14 : waitsOk spec_l5Form.T14.2 spec_l5Form.B14 = true := by kernel_rfl
set_option maxHeartbeats 8000000 in
set_option maxRecDepth 100000 in
theorem spec_l5Form.calls (k : Nat) (A0 : Option Addr) (c0 : Nat) (l0 : List (S80)) (r1 : List (S67)) (r2 : Bool) (w : World) (hr0 : Kd.C k80 w A0 l0.length l0) (hc0 : l0.length ≤ c0) (h : spec_l5Form.f k l0 = some (r1, r2)) :
  Calls Try.prog 32 #[.slice A0 l0.length c0] w fun e w' => ∃ v0_ : Value, e = .returned (.tuple #[v0_, .bool r2]) ∧ Kd.S k67 67 w' w.heap.size (fun _ => True) v0_ r1 ∧ Below w.heap.size w w' := by
 have hu41 := Try.underlying41; have hu67 := Try.underlying67; have HR0 := Aside0.mk hr0; have HC0 := Aside0.mk hc0; clear hr0 hc0; have HB := Aside0.mk (Below.refl w.heap.size w); have H : (spec_l5Form.l0 k l0 (([] : List (S67))) 0) = some (r1, r2) := h; clear h; obtain ⟨y235, hy235⟩ : ∃ y_ : List (S67), y_ = (([] : List (S67))) := ⟨_, rfl⟩
 replace H : (spec_l5Form.l0 k l0 y235 0) = some (r1, r2) := by first | (rw [hy235]; with_reducible exact H) | (have H2_ := (Option.bind_some _ _).symm.trans H; rw [hy235]; with_reducible exact H2_) | (have H2_ := (Option.bind_some _ _).symm.trans H; with_reducible exact H2_) | with_reducible exact H | (rw [hy235]; exact H) | exact H
 have Ny235 := Aside0.mk hy235; clear hy235; have H' := Aside0.mk H; clear H
 go_enter Try.func32, Try.ntmps32
 go_wp2_with (first | ((with_reducible refine gate_dst (N := 10) rfl ?_); refine Kd.S_lit k67 _ 67 ?hg (N := 10) ?hd (xs := ([] : List (S67))) (inner := []) (ok := fun _ => True) (okp := fun _ => True) ?hr ?hp (fun _ hk => hk) trivial (Below.refl _ _) (Nat.le_refl _) (by simp) ?_; (case hd => rfl); (case hg => rfl); (case hr => first | (go_simp; done) | (go_simp; rfl)); (case hp => exact (Reps.none _ _)); intro v236 w2 ho3 hb hg_ hnew_; clear hg_ hnew_; (first | rw [← Ny235.out] at ho3 | (simp only [Int.reduceToNat] at ho3; rw [← Ny235.out] at ho3)); have n0_ := Aside0.mk (Kd.S_lower ho3 (below_size (bl HB))); have n1_ := Aside0.mk (below_step (bl HB) hb); clear HB; have HO237 := n0_; have HB := n1_; clear n0_ n1_; clear hb ho3))
 go_loopg [4, 5] k (fun kq v4 v5 w' => ∃ (x4_1 : List (S67)) (x5_1 : Int), v5 = .int .i64 x5_1 ∧ Aside0 (spec_l5Form.l0 kq l0 x4_1 x5_1 = some (r1, r2)) ∧ Aside0 (kq ≤ k) ∧ Aside0 (Kd.S k67 67 w' w.heap.size (fun _ => True) v4 x4_1) ∧ Aside0 (Below w.heap.size w w'))
 case atStart => exact ⟨(y235), (0), au, H', ⟨Nat.le_refl _⟩, ⟨sl HO237⟩, ⟨bl HB⟩⟩
 case round =>
  clear H'
  try clear p2
  try clear c3
  obtain ⟨x4_1, x5_1, rfl, HA, HK1, HO_4, HB⟩ := hrel
  cases gk with
  | zero => exact absurd HA.out (by simp [spec_l5Form.l0])
  | succ k1 =>
   have H := HA.out; clear HA
   simp only [spec_l5Form.l0] at H
   by_cases c4 : x5_1 < (l0.length : Int)
   ·rw [if_pos c4] at H
    have c4b0 : decide (x5_1 < (l0.length : Int)) = true := decide_eq_true c4; clear c4
    by_cases c5 : 0 ≤ x5_1
    ·rw [if_pos c5] at H
     have c5b0 : decide (0 ≤ x5_1) = true := decide_eq_true c5; clear c5
     by_cases c6 : ((rd_T80 l0 x5_1).f0) < 0
     ·rw [if_pos c6] at H
      have c6b0 : decide (((rd_T80 l0 x5_1).f0) < 0) = true := decide_eq_true c6; clear c6; obtain ⟨y240, hy240⟩ : ∃ y_ : List Int, y_ = (([((rd_T80 l0 x5_1).f1) % 256] : List Int)) := ⟨_, rfl⟩
      replace H : (spec_l5Form.l1 k1 l0 x4_1 (wrap64 (x5_1 + 1)) y240) = some (r1, r2) := by first | (rw [hy240]; with_reducible exact H) | (have H2_ := (Option.bind_some _ _).symm.trans H; rw [hy240]; with_reducible exact H2_) | (have H2_ := (Option.bind_some _ _).symm.trans H; with_reducible exact H2_) | with_reducible exact H | (rw [hy240]; exact H) | exact H
      have Ny240 := Aside0.mk hy240; clear hy240; have H' := Aside0.mk H; clear H; have p238 : 0 ≤ (x5_1 : Int) := ode; have q238 : x5_1 < (l0.length : Int) := ode; obtain ⟨ad238, e238, hx238_0, hx238_1⟩ := at_T80 HR0.out x5_1 p238 q238
      cases e238
      replace hx238_0 := cl HB hx238_0; replace hx238_1 := cl HB hx238_1; replace p238 := eq_true p238; replace q238 := eq_true q238; have p239 : 0 ≤ (x5_1 : Int) := ode; have q239 : x5_1 < (l0.length : Int) := ode; obtain ⟨ad239, e239, hx239_0, hx239_1⟩ := at_T80 HR0.out x5_1 p239 q239; obtain rfl : ad238 = ad239 := (by injection e239); replace hx239_0 := cl HB hx239_0; replace hx239_1 := cl HB hx239_1; replace p239 := eq_true p239; replace q239 := eq_true q239
      go_wp2_with (first | ((with_reducible refine gate_dst (N := 29) rfl ?_); refine Kd.R_lit (Kd.int .u8) _ 5 ?hg (N := 29) ?hd (xs := ([((rd_T80 l0 x5_1).f1) % 256] : List Int)) (inner := [.int .u8 (((rd_T80 l0 x5_1).f1) % 256)]) (ok := fun _ => True) (okp := fun _ => True) ?hr ?hp (fun _ hk => hk) trivial (Below.refl _ _) (Nat.le_refl _) (by simp) ?_; (case hd => rfl); (case hg => rfl); (case hr => first | (go_simp; done) | (go_simp; rfl)); (case hp => exact (Reps.one (show Kd.M (Kd.int .u8) _ _ _ (((rd_T80 l0 x5_1).f1) % 256) [.int .u8 (((rd_T80 l0 x5_1).f1) % 256)] from rfl) (Reps.none _ _))); intro v241 w7 ho8 hb hg_ hnew_; clear hg_ hnew_; (first | rw [← Ny240.out] at ho8 | (simp only [Int.reduceToNat] at ho8; rw [← Ny240.out] at ho8)); have n0_ := Aside0.mk (Kd.S_below (sl HO_4) hb); have n1_ := Aside0.mk (Kd.R_lower ho8 (below_size (bl HB))); have n2_ := Aside0.mk (below_step (bl HB) hb); clear HO_4; clear HB; have HO_4 := n0_; have HO242 := n1_; have HB := n2_; clear n0_ n1_ n2_; clear hb ho8))
      go_loopg [6, 7] k1 (fun kq v6 v7 w' => ∃ (x6_2 : Int) (x7_2 : List Int), v6 = .int .i64 x6_2 ∧ Aside0 (spec_l5Form.l1 kq l0 x4_1 x6_2 x7_2 = some (r1, r2)) ∧ Aside0 (kq ≤ k1) ∧ Aside0 (Kd.S k67 67 w' w.heap.size (fun _ => True) u4 x4_1) ∧ Aside0 (Kd.R (Kd.int .u8) 5 w' w.heap.size (fun _ => True) v7 x7_2) ∧ Aside0 (Below w.heap.size w w'))
      case atStart => exact ⟨(wrap64 (x5_1 + 1)), (y240), au, H', ⟨Nat.le_refl _⟩, ⟨sl HO_4⟩, ⟨rl HO242⟩, ⟨bl HB⟩⟩
      case round =>
       clear H'
       try clear p2
       try clear q2
       try clear hx2
       try clear c3
       try clear c4
       try clear c4b0
       try clear c5
       try clear c5b0
       try clear c6
       try clear c6b0
       try clear p6
       try clear hx238_0
       try clear hx238_1
       try clear hx239_0
       try clear hx239_1
       try clear p2
       try clear p238
       try clear p239
       try clear q238
       try clear q239
       obtain ⟨x6_2, x7_2, rfl, HA, HK2, HO_4, HO_7, HB⟩ := hrel
       cases gk with
       | zero => exact absurd HA.out (by simp [spec_l5Form.l1])
       | succ k2 =>
        have H := HA.out; clear HA
        simp only [spec_l5Form.l1] at H
        by_cases c9 : x6_2 < (l0.length : Int)
        ·rw [if_pos c9] at H
         have c9b0 : decide (x6_2 < (l0.length : Int)) = true := decide_eq_true c9; clear c9
         by_cases c10 : 0 ≤ x6_2
         ·rw [if_pos c10] at H
          have c10b0 : decide (0 ≤ x6_2) = true := decide_eq_true c10; clear c10
          by_cases c11 : ((rd_T80 l0 x6_2).f0) < 0
          ·rw [if_pos c11] at H
           have c11b0 : decide (((rd_T80 l0 x6_2).f0) < 0) = true := decide_eq_true c11; clear c11
           by_cases c12 : x7_2.length < 140737488355328
           ·rw [if_pos c12] at H
            have LMc12 := Aside0.mk c12; clear c12; obtain ⟨y245, hy245⟩ : ∃ y_ : List Int, y_ = (x7_2 ++ [((rd_T80 l0 x6_2).f1) % 256]) := ⟨_, rfl⟩
            replace H : (spec_l5Form.l1 k2 l0 x4_1 (wrap64 (x6_2 + 1)) y245) = some (r1, r2) := by first | (rw [hy245]; with_reducible exact H) | (have H2_ := (Option.bind_some _ _).symm.trans H; rw [hy245]; with_reducible exact H2_) | (have H2_ := (Option.bind_some _ _).symm.trans H; with_reducible exact H2_) | with_reducible exact H | (rw [hy245]; exact H) | exact H
            have Ny245 := Aside0.mk hy245; clear hy245; have H' := Aside0.mk H; clear H; have p243 : 0 ≤ (x6_2 : Int) := ode; have q243 : x6_2 < (l0.length : Int) := ode; obtain ⟨ad243, e243, hx243_0, hx243_1⟩ := at_T80 HR0.out x6_2 p243 q243; obtain rfl : ad238 = ad243 := (by injection e243); replace hx243_0 := cl HB hx243_0; replace hx243_1 := cl HB hx243_1; replace p243 := eq_true p243; replace q243 := eq_true q243; have p244 : 0 ≤ (x6_2 : Int) := ode; have q244 : x6_2 < (l0.length : Int) := ode; obtain ⟨ad244, e244, hx244_0, hx244_1⟩ := at_T80 HR0.out x6_2 p244 q244; obtain rfl : ad238 = ad244 := (by injection e244); replace hx244_0 := cl HB hx244_0; replace hx244_1 := cl HB hx244_1; replace p244 := eq_true p244; replace q244 := eq_true q244
            go_wp2_with (first | ((with_reducible refine gate_builtin (b := .append) (xs := #[.tmp 42, .tmp 49]) rfl ?_); at_builtin; refine Kd.R_append (Kd.int .u8) (w0 := w) w.heap.size rfl (.tmp 42) (.tmp 49) 78 5 (.int .u8 0) 1 rfl Try.underlying78 info5 rfl (by decide) (by omega) u7 x7_2 (((rd_T80 l0 x6_2).f1) % 256) [.int .u8 (((rd_T80 l0 x6_2).f1) % 256)] (fun _ => True) (fun _ => False) rfl rfl ?aP (fun _ hk => hk.elim) ?aF ?aO ?aB ?aS ?aL ?_; (case aP => exact rfl); (case aB => exact (bl HB)); (case aF => exact (fun _ _ => trivial)); (case aO => exact (rl HO_7)); (case aS => exact (below_size (bl HB))); (case aL => have := LMc12.out; omega); intro v246 w13 ho hb hg hat; rw [← Ny245.out] at ho; have n0_ := Aside0.mk (Kd.S_over' (sl HO_4) (Kd.R_typed (rl HO_7)) (by decide) hg); have n1_ := Aside0.mk (hb); have n2_ := Aside0.mk (ho); clear HO_4; clear HB; clear HO_7; have HO_4 := n0_; have HB := n1_; have HO247 := n2_; clear n0_ n1_ n2_; clear ho hb hg hat))
            go_roundg k2
            case measure => have := HK1.out; have := HK2.out; omega
            case rel => exact ⟨(wrap64 (x6_2 + 1)), (y245), au, H', ⟨by have := HK1.out; have := HK2.out; omega⟩, ⟨sl HO_4⟩, ⟨rl HO247⟩, ⟨bl HB⟩⟩
           ·rw [if_neg c12] at H
            exact absurd H (by simp)
          ·rw [if_neg c11] at H
           have c11b0 : decide (((rd_T80 l0 x6_2).f0) < 0) = false := decide_eq_false c11; clear c11; replace H := Option.bind_eq_some_iff.mp H; obtain ⟨⟨t248, t249, t252⟩, A140, H⟩ := H; replace H : (if x4_1.length < 2513169434916 then (spec_l5Form.l0 k2 l0 (x4_1 ++ [(⟨(-1), 0, t248, (⟨t248, t249⟩ : S41)⟩ : S67)]) x6_2) else (none)) = some (r1, r2) := H; have A14 := Aside0.mk A140; clear A140
           by_cases c15 : x4_1.length < 2513169434916
           ·rw [if_pos c15] at H
            have LMc15 := Aside0.mk c15; clear c15; obtain ⟨y254, hy254⟩ : ∃ y_ : List (S67), y_ = (x4_1 ++ [(⟨(-1), 0, t248, (⟨t248, t249⟩ : S41)⟩ : S67)]) := ⟨_, rfl⟩
            replace H : (spec_l5Form.l0 k2 l0 y254 x6_2) = some (r1, r2) := by first | (rw [hy254]; with_reducible exact H) | (have H2_ := (Option.bind_some _ _).symm.trans H; rw [hy254]; with_reducible exact H2_) | (have H2_ := (Option.bind_some _ _).symm.trans H; with_reducible exact H2_) | with_reducible exact H | (rw [hy254]; exact H) | exact H
            have Ny254 := Aside0.mk hy254; clear hy254; have H' := Aside0.mk H; clear H; have p243 : 0 ≤ (x6_2 : Int) := ode; have q243 : x6_2 < (l0.length : Int) := ode; obtain ⟨ad243, e243, hx243_0, hx243_1⟩ := at_T80 HR0.out x6_2 p243 q243; obtain rfl : ad238 = ad243 := (by injection e243); replace hx243_0 := cl HB hx243_0; replace hx243_1 := cl HB hx243_1; replace p243 := eq_true p243; replace q243 := eq_true q243; obtain ⟨Ao16, co16, eo16⟩ := Kd.R_slice HO_7.out
            subst eo16
            go_wp2_with (first | ((with_reducible refine gate_callee (f := 48) rfl ?_); refine goesL_ (some 55) rfl rfl Try.func48 (by kernel_rfl) rfl #[.slice Ao16 x7_2.length co16] rfl ma ?_; (with_reducible refine (spec_l1From.calls k2 _ _ x7_2 t248 t249 t252 _ ?side1 ?side2 A14.out).mono ?_); (case side1 => repeat (first | exact (Kd.R_reads' HO_7.out).2.2 | (with_reducible refine Kd.C_alloc ?_ _) | (with_reducible refine Kd.C_drewN ?_ _) | (with_reducible refine Kd.C_drew ?_))); (case side2 => exact (Kd.R_reads' HO_7.out).2.1); rintro e w17 ⟨v250, rfl, ho0, hb⟩; refine ⟨_, rfl, ?_⟩; have n0_ := Aside0.mk (Kd.S_elder' (sl HO_4) (Kd.R_base ho0) hb); have n1_ := Aside0.mk (Kd.R_below (rl HO_7) hb); have n2_ := Aside0.mk (Kd.R_lower ho0 (below_size (bl HB))); have n3_ := Aside0.mk (below_step (bl HB) hb); clear HO_4; clear HO_7; clear HB; have HO_4 := n0_; have HO_7 := n1_; have HO251 := n2_; have HB := n3_; clear n0_ n1_ n2_ n3_; (try clear hb); (try clear hb2); (try clear hk); (try clear hi); (try clear ho0)) | ((with_reducible refine gate_dst (N := 8) rfl ?_); refine be 8 #[.int .i64 0, .slice none 0 0] 41 ?_; intro gb253 hg w18 hbox hb; have n0_ := Aside0.mk (Kd.S_below (sl HO_4) hb); have n1_ := Aside0.mk (Kd.R_below (rl HO_7) hb); have n2_ := Aside0.mk (Kd.R_below (rl HO251) hb); have n3_ := Aside0.mk (below_step (bl HB) hb); have n4_ := Aside0.mk (hbox); have n5_ := Aside0.mk (gs HB hg); have n6_ := Aside0.mk (gs HB hg); clear HO_4; clear HO_7; clear HO251; clear HB; have HO_4 := n0_; have HO_7 := n1_; have HO251 := n2_; have HB := n3_; have BK253 := n4_; have GW253 := n5_; have GE253 := n6_; clear n0_ n1_ n2_ n3_ n4_ n5_ n6_; clear hb hbox hg; have hcz19_0 : w18.cell? ⟨gb253, 0, none⟩ = some (.int .i64 0) := (blk_cell BK253.out 0).trans rfl; have hcz19_1 : w18.cell? ⟨gb253, 1, none⟩ = some (.slice none 0 0) := (blk_cell BK253.out 1).trans rfl; have hfz19_0 := blk_frozen BK253.out 0; have hfz19_1 := blk_frozen BK253.out 1; obtain ⟨Ao20, co20, eo20⟩ := Kd.R_slice HO251.out; subst eo20) | ((with_reducible refine gate_store (t := 41) (p := 8) rfl ?_); refine store_event (t := 41) (p := 8) (v := ?vo_w21) (w1 := ((w18.setCell ⟨gb253, 0, none⟩ (.int .i64 t248)).setCell ⟨gb253, 1, none⟩ (.slice Ao20 t249.length co20))) ?hg ?ho ?hn ?hr ?_; (case ho => rfl); (case hg => rfl); (case hn => rfl); (case hr => first | (go_simp; done) | (go_simp; rfl) | ((try (obtain ⟨_, _, e_⟩ := Kd.S_slice HO_4.out; subst e_)); (try (obtain ⟨_, _, e_⟩ := Kd.R_slice HO_7.out; subst e_)); (try (obtain ⟨_, _, e_⟩ := Kd.R_slice HO251.out; subst e_)); first | (go_simp; done) | (go_simp; rfl))); intro w21 hw; have n0_ : Aside0 (Kd.S k67 67 w21 w.heap.size (fun k_ => some k_ ≠ (.slice Ao20 t249.length co20 : Value).ownBlock) u4 x4_1) := ⟨(by rw [hw]; exact (by (with_reducible repeat (first | apply Kd.S_alloc | apply Kd.S_drewN | apply Kd.S_drew)); exact Kd.S_mono (Kd.S_far (p := ⟨gb253, 1, none⟩) (Kd.S_far (p := ⟨gb253, 0, none⟩) (Kd.S_types HO_4.out BK253.out (by decide)) (fun _ hk => hk.2) (.int .i64 t248)) (fun _ hk => hk.2) (.slice Ao20 t249.length co20)) (fun _ hk => hk.1.2)))⟩; have n1_ : Aside0 (Kd.R (Kd.int .u8) 5 w21 w.heap.size (fun _ => True) (.slice Ao16 x7_2.length co16) x7_2) := ⟨(by rw [hw]; exact (by (with_reducible repeat (first | apply Kd.R_alloc | apply Kd.R_drewN | apply Kd.R_drew)); exact Kd.R_mono (Kd.R_far (p := ⟨gb253, 1, none⟩) (Kd.R_far (p := ⟨gb253, 0, none⟩) (Kd.R_types HO_7.out BK253.out (by decide)) (fun _ hk => hk.2) (.int .i64 t248)) (fun _ hk => hk.2) (.slice Ao20 t249.length co20)) (fun _ hk => trivial)))⟩; have n2_ : Aside0 (Kd.R (Kd.int .u64) 93 w21 w.heap.size (fun _ => True) (.slice Ao20 t249.length co20) t249) := ⟨(by rw [hw]; exact (by (with_reducible repeat (first | apply Kd.R_alloc | apply Kd.R_drewN | apply Kd.R_drew)); exact Kd.R_mono (Kd.R_far (p := ⟨gb253, 1, none⟩) (Kd.R_far (p := ⟨gb253, 0, none⟩) (Kd.R_types HO251.out BK253.out (by decide)) (fun _ hk => hk.2) (.int .i64 t248)) (fun _ hk => hk.2) (.slice Ao20 t249.length co20)) (fun _ hk => trivial)))⟩; have n3_ : Aside0 (w21.heap[gb253]? = some (.cells #[.int .i64 t248, .slice Ao20 t249.length co20] 41 (0, 0))) := ⟨(by rw [hw]; exact (by refine bd ?_; refine blk_put (cs := #[.int .i64 t248, .slice none 0 0]) ?_ 1 _ rfl; refine bd ?_; refine blk_put (cs := #[.int .i64 0, .slice none 0 0]) ?_ 0 _ rfl; (with_reducible repeat (first | refine blk_drewN ?_ _ | refine blk_drew ?_ | refine blk_alloc ?_ _)); exact BK253.out))⟩; have n4_ : Aside0 (Below w.heap.size w w21) := ⟨(by rw [hw]; exact (bs HB GE253))⟩; clear hw; clear HO_4; clear HO_7; clear HO251; clear BK253; clear HB; have HO_4 := n0_; have HO_7 := n1_; have HO251 := n2_; have BK253 := n3_; have HB := n4_; clear n0_ n1_ n2_ n3_ n4_; have hcz22_0 : w21.cell? ⟨gb253, 0, none⟩ = some (.int .i64 t248) := (blk_cell BK253.out 0).trans rfl; have hcz22_1 : w21.cell? ⟨gb253, 1, none⟩ = some (.slice Ao20 t249.length co20) := (blk_cell BK253.out 1).trans rfl; have hfz22_0 := blk_frozen BK253.out 0; have hfz22_1 := blk_frozen BK253.out 1) | ((with_reducible refine gate_builtin (b := .append) (xs := #[.tmp 58, .tmp 63]) rfl ?_); at_builtin; refine Kd.S_append k67 (w0 := w) w.heap.size rfl (.tmp 58) (.tmp 63) 26 67 (.agg #[(.int .i64 0), (.int .i64 0), (.int .i64 0), (.int .i64 0), (.slice none 0 0)]) 56 rfl Try.underlying26 info67 rfl (by decide) (by omega) u4 x4_1 (⟨(-1), 0, t248, (⟨t248, t249⟩ : S41)⟩ : S67) [.int .i64 (-1), .int .i64 0, .int .i64 t248, .int .i64 t248, .slice Ao20 t249.length co20] (fun _ => True) (fun k_ => some k_ = (.slice Ao20 t249.length co20 : Value).ownBlock) rfl rfl ?aP (fun k_ hk_ => ((Kd.R_mono (ok' := fun k_ => ((fun _ => True)) k_ ∧ some k_ ≠ (u4 : Value).ownBlock) (Kd.R_apart' (HO251.out) (Kd.S_typed HO_4.out) (by decide)) (fun k_ hk => ⟨trivial, hk.2⟩))).1 k_ hk_.symm) ?aF ?aO ?aB ?aS ?aL ?_; (case aP => exact k67_mkM _ _ _ (⟨(-1), 0, t248, (⟨t248, t249⟩ : S41)⟩ : S67) (Kd.R_mono (Kd.R_tight rfl (Kd.R_mono (ok' := fun k_ => ((fun _ => True)) k_ ∧ some k_ ≠ (u4 : Value).ownBlock) (Kd.R_apart' (HO251.out) (Kd.S_typed HO_4.out) (by decide)) (fun k_ hk => ⟨trivial, hk.2⟩))) (fun _ h_ => h_))); (case aB => exact (bs HB GE253)); (case aF => exact (fun _ _ => trivial)); (case aO => exact (by (with_reducible repeat (first | apply Kd.S_alloc | apply Kd.S_drewN | apply Kd.S_drew)); exact Kd.S_mono HO_4.out (fun k_ hk => ⟨trivial, fun e_ => hk e_⟩))); (case aS => exact (below_size (bs HB GE253))); (case aL => have := LMc15.out; omega); intro v255 w23 ho hb hg hat; rw [← Ny254.out] at ho; have n0_ := Aside0.mk (Kd.R_over' (rl HO_7) (Kd.S_typed (sl HO_4)) (by decide) hg); have n1_ := Aside0.mk (blk_grown (g := gb253) (o := .cells #[.int .i64 t248, .slice Ao20 t249.length co20] 41 (0, 0)) (bk BK253) hg (Kd.S_ne HO_4.out BK253.out (by decide))); have n2_ := Aside0.mk (hb); have n3_ := Aside0.mk (ho); clear HO_7; clear BK253; clear HB; clear HO_4; clear HO251; have HO_7 := n0_; have BK253 := n1_; have HB := n2_; have HO256 := n3_; clear n0_ n1_ n2_ n3_; clear ho hb hg hat))
            go_roundg k2
            case measure => have := HK1.out; have := HK2.out; omega
            case rel => exact ⟨(y254), (x6_2), au, H', ⟨by have := HK1.out; have := HK2.out; omega⟩, ⟨sl HO256⟩, ⟨bs HB GE253⟩⟩
           ·rw [if_neg c15] at H
            exact absurd H (by simp)
         ·rw [if_neg c10] at H
          exact absurd H (by simp)
        ·rw [if_neg c9] at H
         have c9b0 : decide (x6_2 < (l0.length : Int)) = false := decide_eq_false c9; clear c9; replace H := Option.bind_eq_some_iff.mp H; obtain ⟨⟨t257, t258, t261⟩, A240, H⟩ := H; replace H : (if x4_1.length < 2513169434916 then (spec_l5Form.l0 k2 l0 (x4_1 ++ [(⟨(-1), 0, t257, (⟨t257, t258⟩ : S41)⟩ : S67)]) x6_2) else (none)) = some (r1, r2) := H; have A24 := Aside0.mk A240; clear A240
         by_cases c25 : x4_1.length < 2513169434916
         ·rw [if_pos c25] at H
          have LMc25 := Aside0.mk c25; clear c25; obtain ⟨y263, hy263⟩ : ∃ y_ : List (S67), y_ = (x4_1 ++ [(⟨(-1), 0, t257, (⟨t257, t258⟩ : S41)⟩ : S67)]) := ⟨_, rfl⟩
          replace H : (spec_l5Form.l0 k2 l0 y263 x6_2) = some (r1, r2) := by first | (rw [hy263]; with_reducible exact H) | (have H2_ := (Option.bind_some _ _).symm.trans H; rw [hy263]; with_reducible exact H2_) | (have H2_ := (Option.bind_some _ _).symm.trans H; with_reducible exact H2_) | with_reducible exact H | (rw [hy263]; exact H) | exact H
          have Ny263 := Aside0.mk hy263; clear hy263; have H' := Aside0.mk H; clear H; obtain ⟨Ao26, co26, eo26⟩ := Kd.R_slice HO_7.out
          subst eo26
          go_wp2_with (first | ((with_reducible refine gate_callee (f := 48) rfl ?_); refine goesL_ (some 55) rfl rfl Try.func48 (by kernel_rfl) rfl #[.slice Ao26 x7_2.length co26] rfl ma ?_; (with_reducible refine (spec_l1From.calls k2 _ _ x7_2 t257 t258 t261 _ ?side1 ?side2 A24.out).mono ?_); (case side1 => repeat (first | exact (Kd.R_reads' HO_7.out).2.2 | (with_reducible refine Kd.C_alloc ?_ _) | (with_reducible refine Kd.C_drewN ?_ _) | (with_reducible refine Kd.C_drew ?_))); (case side2 => exact (Kd.R_reads' HO_7.out).2.1); rintro e w27 ⟨v259, rfl, ho0, hb⟩; refine ⟨_, rfl, ?_⟩; have n0_ := Aside0.mk (Kd.S_elder' (sl HO_4) (Kd.R_base ho0) hb); have n1_ := Aside0.mk (Kd.R_below (rl HO_7) hb); have n2_ := Aside0.mk (Kd.R_lower ho0 (below_size (bl HB))); have n3_ := Aside0.mk (below_step (bl HB) hb); clear HO_4; clear HO_7; clear HB; have HO_4 := n0_; have HO_7 := n1_; have HO260 := n2_; have HB := n3_; clear n0_ n1_ n2_ n3_; (try clear hb); (try clear hb2); (try clear hk); (try clear hi); (try clear ho0)) | ((with_reducible refine gate_dst (N := 8) rfl ?_); refine be 8 #[.int .i64 0, .slice none 0 0] 41 ?_; intro gb262 hg w28 hbox hb; have n0_ := Aside0.mk (Kd.S_below (sl HO_4) hb); have n1_ := Aside0.mk (Kd.R_below (rl HO_7) hb); have n2_ := Aside0.mk (Kd.R_below (rl HO260) hb); have n3_ := Aside0.mk (below_step (bl HB) hb); have n4_ := Aside0.mk (hbox); have n5_ := Aside0.mk (gs HB hg); have n6_ := Aside0.mk (gs HB hg); clear HO_4; clear HO_7; clear HO260; clear HB; have HO_4 := n0_; have HO_7 := n1_; have HO260 := n2_; have HB := n3_; have BK262 := n4_; have GW262 := n5_; have GE262 := n6_; clear n0_ n1_ n2_ n3_ n4_ n5_ n6_; clear hb hbox hg; have hcz29_0 : w28.cell? ⟨gb262, 0, none⟩ = some (.int .i64 0) := (blk_cell BK262.out 0).trans rfl; have hcz29_1 : w28.cell? ⟨gb262, 1, none⟩ = some (.slice none 0 0) := (blk_cell BK262.out 1).trans rfl; have hfz29_0 := blk_frozen BK262.out 0; have hfz29_1 := blk_frozen BK262.out 1; obtain ⟨Ao30, co30, eo30⟩ := Kd.R_slice HO260.out; subst eo30) | ((with_reducible refine gate_store (t := 41) (p := 8) rfl ?_); refine store_event (t := 41) (p := 8) (v := ?vo_w31) (w1 := ((w28.setCell ⟨gb262, 0, none⟩ (.int .i64 t257)).setCell ⟨gb262, 1, none⟩ (.slice Ao30 t258.length co30))) ?hg ?ho ?hn ?hr ?_; (case ho => rfl); (case hg => rfl); (case hn => rfl); (case hr => first | (go_simp; done) | (go_simp; rfl) | ((try (obtain ⟨_, _, e_⟩ := Kd.S_slice HO_4.out; subst e_)); (try (obtain ⟨_, _, e_⟩ := Kd.R_slice HO_7.out; subst e_)); (try (obtain ⟨_, _, e_⟩ := Kd.R_slice HO260.out; subst e_)); first | (go_simp; done) | (go_simp; rfl))); intro w31 hw; have n0_ : Aside0 (Kd.S k67 67 w31 w.heap.size (fun k_ => some k_ ≠ (.slice Ao30 t258.length co30 : Value).ownBlock) u4 x4_1) := ⟨(by rw [hw]; exact (by (with_reducible repeat (first | apply Kd.S_alloc | apply Kd.S_drewN | apply Kd.S_drew)); exact Kd.S_mono (Kd.S_far (p := ⟨gb262, 1, none⟩) (Kd.S_far (p := ⟨gb262, 0, none⟩) (Kd.S_types HO_4.out BK262.out (by decide)) (fun _ hk => hk.2) (.int .i64 t257)) (fun _ hk => hk.2) (.slice Ao30 t258.length co30)) (fun _ hk => hk.1.2)))⟩; have n1_ : Aside0 (Kd.R (Kd.int .u8) 5 w31 w.heap.size (fun _ => True) (.slice Ao26 x7_2.length co26) x7_2) := ⟨(by rw [hw]; exact (by (with_reducible repeat (first | apply Kd.R_alloc | apply Kd.R_drewN | apply Kd.R_drew)); exact Kd.R_mono (Kd.R_far (p := ⟨gb262, 1, none⟩) (Kd.R_far (p := ⟨gb262, 0, none⟩) (Kd.R_types HO_7.out BK262.out (by decide)) (fun _ hk => hk.2) (.int .i64 t257)) (fun _ hk => hk.2) (.slice Ao30 t258.length co30)) (fun _ hk => trivial)))⟩; have n2_ : Aside0 (Kd.R (Kd.int .u64) 93 w31 w.heap.size (fun _ => True) (.slice Ao30 t258.length co30) t258) := ⟨(by rw [hw]; exact (by (with_reducible repeat (first | apply Kd.R_alloc | apply Kd.R_drewN | apply Kd.R_drew)); exact Kd.R_mono (Kd.R_far (p := ⟨gb262, 1, none⟩) (Kd.R_far (p := ⟨gb262, 0, none⟩) (Kd.R_types HO260.out BK262.out (by decide)) (fun _ hk => hk.2) (.int .i64 t257)) (fun _ hk => hk.2) (.slice Ao30 t258.length co30)) (fun _ hk => trivial)))⟩; have n3_ : Aside0 (w31.heap[gb262]? = some (.cells #[.int .i64 t257, .slice Ao30 t258.length co30] 41 (0, 0))) := ⟨(by rw [hw]; exact (by refine bd ?_; refine blk_put (cs := #[.int .i64 t257, .slice none 0 0]) ?_ 1 _ rfl; refine bd ?_; refine blk_put (cs := #[.int .i64 0, .slice none 0 0]) ?_ 0 _ rfl; (with_reducible repeat (first | refine blk_drewN ?_ _ | refine blk_drew ?_ | refine blk_alloc ?_ _)); exact BK262.out))⟩; have n4_ : Aside0 (Below w.heap.size w w31) := ⟨(by rw [hw]; exact (bs HB GE262))⟩; clear hw; clear HO_4; clear HO_7; clear HO260; clear BK262; clear HB; have HO_4 := n0_; have HO_7 := n1_; have HO260 := n2_; have BK262 := n3_; have HB := n4_; clear n0_ n1_ n2_ n3_ n4_; have hcz32_0 : w31.cell? ⟨gb262, 0, none⟩ = some (.int .i64 t257) := (blk_cell BK262.out 0).trans rfl; have hcz32_1 : w31.cell? ⟨gb262, 1, none⟩ = some (.slice Ao30 t258.length co30) := (blk_cell BK262.out 1).trans rfl; have hfz32_0 := blk_frozen BK262.out 0; have hfz32_1 := blk_frozen BK262.out 1) | ((with_reducible refine gate_builtin (b := .append) (xs := #[.tmp 58, .tmp 63]) rfl ?_); at_builtin; refine Kd.S_append k67 (w0 := w) w.heap.size rfl (.tmp 58) (.tmp 63) 26 67 (.agg #[(.int .i64 0), (.int .i64 0), (.int .i64 0), (.int .i64 0), (.slice none 0 0)]) 56 rfl Try.underlying26 info67 rfl (by decide) (by omega) u4 x4_1 (⟨(-1), 0, t257, (⟨t257, t258⟩ : S41)⟩ : S67) [.int .i64 (-1), .int .i64 0, .int .i64 t257, .int .i64 t257, .slice Ao30 t258.length co30] (fun _ => True) (fun k_ => some k_ = (.slice Ao30 t258.length co30 : Value).ownBlock) rfl rfl ?aP (fun k_ hk_ => ((Kd.R_mono (ok' := fun k_ => ((fun _ => True)) k_ ∧ some k_ ≠ (u4 : Value).ownBlock) (Kd.R_apart' (HO260.out) (Kd.S_typed HO_4.out) (by decide)) (fun k_ hk => ⟨trivial, hk.2⟩))).1 k_ hk_.symm) ?aF ?aO ?aB ?aS ?aL ?_; (case aP => exact k67_mkM _ _ _ (⟨(-1), 0, t257, (⟨t257, t258⟩ : S41)⟩ : S67) (Kd.R_mono (Kd.R_tight rfl (Kd.R_mono (ok' := fun k_ => ((fun _ => True)) k_ ∧ some k_ ≠ (u4 : Value).ownBlock) (Kd.R_apart' (HO260.out) (Kd.S_typed HO_4.out) (by decide)) (fun k_ hk => ⟨trivial, hk.2⟩))) (fun _ h_ => h_))); (case aB => exact (bs HB GE262)); (case aF => exact (fun _ _ => trivial)); (case aO => exact (by (with_reducible repeat (first | apply Kd.S_alloc | apply Kd.S_drewN | apply Kd.S_drew)); exact Kd.S_mono HO_4.out (fun k_ hk => ⟨trivial, fun e_ => hk e_⟩))); (case aS => exact (below_size (bs HB GE262))); (case aL => have := LMc25.out; omega); intro v264 w33 ho hb hg hat; rw [← Ny263.out] at ho; have n0_ := Aside0.mk (Kd.R_over' (rl HO_7) (Kd.S_typed (sl HO_4)) (by decide) hg); have n1_ := Aside0.mk (blk_grown (g := gb262) (o := .cells #[.int .i64 t257, .slice Ao30 t258.length co30] 41 (0, 0)) (bk BK262) hg (Kd.S_ne HO_4.out BK262.out (by decide))); have n2_ := Aside0.mk (hb); have n3_ := Aside0.mk (ho); clear HO_7; clear BK262; clear HB; clear HO_4; clear HO260; have HO_7 := n0_; have BK262 := n1_; have HB := n2_; have HO265 := n3_; clear n0_ n1_ n2_ n3_; clear ho hb hg hat))
          go_roundg k2
          case measure => have := HK1.out; have := HK2.out; omega
          case rel => exact ⟨(y263), (x6_2), au, H', ⟨by have := HK1.out; have := HK2.out; omega⟩, ⟨sl HO265⟩, ⟨bs HB GE262⟩⟩
         ·rw [if_neg c25] at H
          exact absurd H (by simp)
     ·rw [if_neg c6] at H
      have c6b0 : decide (((rd_T80 l0 x5_1).f0) < 0) = false := decide_eq_false c6; clear c6; have H' := Aside0.mk H; clear H; have p238 : 0 ≤ (x5_1 : Int) := ode; have q238 : x5_1 < (l0.length : Int) := ode; obtain ⟨ad238, e238, hx238_0, hx238_1⟩ := at_T80 HR0.out x5_1 p238 q238
      cases e238
      replace hx238_0 := cl HB hx238_0; replace hx238_1 := cl HB hx238_1; replace p238 := eq_true p238; replace q238 := eq_true q238
      go_wp2
      go_loopg [6] k1 (fun kq v6 w' => ∃ (x6_2 : Int), v6 = .int .i64 x6_2 ∧ Aside0 (spec_l5Form.l2 kq l0 x4_1 x5_1 x6_2 = some (r1, r2)) ∧ Aside0 (kq ≤ k1) ∧ Aside0 (Kd.S k67 67 w' w.heap.size (fun _ => True) u4 x4_1) ∧ Aside0 (Below w.heap.size w w'))
      case atStart => exact ⟨(wrap64 (x5_1 + 1)), au, H', ⟨Nat.le_refl _⟩, ⟨sl HO_4⟩, ⟨bl HB⟩⟩
      case round =>
       clear H'
       try clear c1
       try clear c2
       try clear p2
       try clear q2
       try clear hx2
       try clear c3
       try clear c4
       try clear c4b0
       try clear c5
       try clear c5b0
       try clear c6
       try clear c6b0
       try clear p6
       try clear c9
       try clear c9b0
       try clear c10
       try clear c10b0
       try clear c11
       try clear c11b0
       try clear c12
       try clear c15
       try clear p23
       try clear q23
       try clear hx23
       try clear p24
       try clear q24
       try clear hx24
       try clear c25
       try clear c32
       try clear hcz19_0
       try clear hcz19_1
       try clear hcz22_0
       try clear hcz22_1
       try clear hcz29_0
       try clear hcz29_1
       try clear hcz32_0
       try clear hcz32_1
       try clear hfz19_0
       try clear hfz19_1
       try clear hfz22_0
       try clear hfz22_1
       try clear hfz29_0
       try clear hfz29_1
       try clear hfz32_0
       try clear hfz32_1
       try clear hx238_0
       try clear hx238_1
       try clear hx239_0
       try clear hx239_1
       try clear hx243_0
       try clear hx243_1
       try clear hx244_0
       try clear hx244_1
       try clear p2
       try clear p238
       try clear p239
       try clear p243
       try clear p244
       try clear p6
       try clear q2
       try clear q238
       try clear q239
       try clear q243
       try clear q244
       obtain ⟨x6_2, rfl, HA, HK2, HO_4, HB⟩ := hrel
       cases gk with
       | zero => exact absurd HA.out (by simp [spec_l5Form.l2])
       | succ k2 =>
        have H := HA.out; clear HA
        simp only [spec_l5Form.l2] at H
        by_cases c34 : x6_2 < (l0.length : Int)
        ·rw [if_pos c34] at H
         have c34b0 : decide (x6_2 < (l0.length : Int)) = true := decide_eq_true c34; clear c34
         by_cases c35 : 0 ≤ x6_2
         ·rw [if_pos c35] at H
          have c35b0 : decide (0 ≤ x6_2) = true := decide_eq_true c35; clear c35
          by_cases c36 : 0 ≤ x5_1
          ·rw [if_pos c36] at H
           have c36b0 : decide (0 ≤ x5_1) = true := decide_eq_true c36; clear c36
           by_cases c37 : x5_1 < (l0.length : Int)
           ·rw [if_pos c37] at H
            have c37b0 : decide (x5_1 < (l0.length : Int)) = true := decide_eq_true c37; clear c37
            by_cases c38 : ((rd_T80 l0 x6_2).f0) = ((rd_T80 l0 x5_1).f0)
            ·rw [if_pos c38] at H
             have c38b0 : (((rd_T80 l0 x6_2).f0) == ((rd_T80 l0 x5_1).f0)) = true := beq_iff_eq.mpr c38; have c38b1 : (((rd_T80 l0 x6_2).f0) != ((rd_T80 l0 x5_1).f0)) = false := bne_eq_false_iff_eq.mpr c38; clear c38; obtain ⟨ji39, hji39⟩ : ∃ j_ : Int, (wrap64 (x6_2 - 1)) = j_ := ⟨_, rfl⟩
             replace H : (if 0 ≤ (ji39) then (if (ji39) < (l0.length : Int) then (if ((rd_T80 l0 x6_2).f1) = (wrap64 (((rd_T80 l0 (ji39)).f1) + 1)) then (spec_l5Form.l2 k2 l0 x4_1 x5_1 (wrap64 (x6_2 + 1))) else (if x4_1.length < 2513169434916 then (spec_l5Form.l0 k2 l0 (x4_1 ++ [(⟨(rd_T80 l0 x5_1).f0, (rd_T80 l0 x5_1).f1, wrap64 (x6_2 - x5_1), (⟨0, ([] : List Int)⟩ : S41)⟩ : S67)]) x6_2) else (none))) else (none)) else (none)) = some (r1, r2) := by first | (rw [hji39] at H; exact H) | (simp only [hji39] at H ⊢; exact H)
             have hji39w : (IntKind.i64.wrap (x6_2 - 1)) = ji39 := (i64_w _).trans hji39
             by_cases c40 : 0 ≤ (ji39)
             ·rw [if_pos c40] at H
              have c40b0 : decide (0 ≤ (ji39)) = true := decide_eq_true c40; clear c40
              by_cases c41 : (ji39) < (l0.length : Int)
              ·rw [if_pos c41] at H
               have c41b0 : decide ((ji39) < (l0.length : Int)) = true := decide_eq_true c41; clear c41
               by_cases c42 : ((rd_T80 l0 x6_2).f1) = (wrap64 (((rd_T80 l0 (ji39)).f1) + 1))
               ·rw [if_pos c42] at H
                have c42b0 : (((rd_T80 l0 x6_2).f1) == (wrap64 (((rd_T80 l0 (ji39)).f1) + 1))) = true := beq_iff_eq.mpr c42; have c42b1 : (((rd_T80 l0 x6_2).f1) != (wrap64 (((rd_T80 l0 (ji39)).f1) + 1))) = false := bne_eq_false_iff_eq.mpr c42; clear c42; have H' := Aside0.mk H; clear H
                try go_wp2
                have p266 : 0 ≤ (x6_2 : Int) := ode; have q266 : x6_2 < (l0.length : Int) := ode; obtain ⟨ad266, e266, hx266_0, hx266_1⟩ := at_T80 HR0.out x6_2 p266 q266; have hw266_1 := hx266_1; have hw266_0 := hx266_0; obtain rfl : ad238 = ad266 := (by injection e266); replace hx266_0 := cl HB hx266_0; replace hx266_1 := cl HB hx266_1; replace p266 := eq_true p266; replace q266 := eq_true q266; have p267 : 0 ≤ (x5_1 : Int) := ode; have q267 : x5_1 < (l0.length : Int) := ode; obtain ⟨ad267, e267, hx267_0, hx267_1⟩ := at_T80 HR0.out x5_1 p267 q267; have hw267_1 := hx267_1; have hw267_0 := hx267_0; obtain rfl : ad238 = ad267 := (by injection e267); replace hx267_0 := cl HB hx267_0; replace hx267_1 := cl HB hx267_1; replace p267 := eq_true p267; replace q267 := eq_true q267; have p268 : 0 ≤ (x6_2 : Int) := ode; have q268 : x6_2 < (l0.length : Int) := ode; obtain ⟨ad268, e268, hx268_0, hx268_1⟩ := at_T80 HR0.out x6_2 p268 q268; have hw268_1 := hx268_1; have hw268_0 := hx268_0; obtain rfl : ad238 = ad268 := (by injection e268); replace hx268_0 := cl HB hx268_0; replace hx268_1 := cl HB hx268_1; replace p268 := eq_true p268; replace q268 := eq_true q268; have p269 : 0 ≤ ((ji39) : Int) := ode; have q269 : (ji39) < (l0.length : Int) := ode; obtain ⟨ad269, e269, hx269_0, hx269_1⟩ := at_T80 HR0.out (ji39) p269 q269; have hw269_1 := hx269_1; have hw269_0 := hx269_0; obtain rfl : ad238 = ad269 := (by injection e269); replace hx269_0 := cl HB hx269_0; replace hx269_1 := cl HB hx269_1; replace p269 := eq_true p269; replace q269 := eq_true q269; obtain ⟨s0_, s1_, s2_, s3_, s4_, s5_, s6_, s7_⟩ : wr.cell? (ad238.add ((x6_2).toNat * 2)) = some (.int .i64 ((rd_T80 l0 x6_2).f0)) ∧ wr.cell? ⟨(ad238.add ((x6_2).toNat * 2)).block, (ad238.add ((x6_2).toNat * 2)).off + 1, none⟩ = some (.int .i64 ((rd_T80 l0 x6_2).f1)) ∧ wr.cell? (ad238.add ((x5_1).toNat * 2)) = some (.int .i64 ((rd_T80 l0 x5_1).f0)) ∧ wr.cell? ⟨(ad238.add ((x5_1).toNat * 2)).block, (ad238.add ((x5_1).toNat * 2)).off + 1, none⟩ = some (.int .i64 ((rd_T80 l0 x5_1).f1)) ∧ wr.cell? (ad238.add ((x6_2).toNat * 2)) = some (.int .i64 ((rd_T80 l0 x6_2).f0)) ∧ wr.cell? ⟨(ad238.add ((x6_2).toNat * 2)).block, (ad238.add ((x6_2).toNat * 2)).off + 1, none⟩ = some (.int .i64 ((rd_T80 l0 x6_2).f1)) ∧ wr.cell? (ad238.add (((ji39)).toNat * 2)) = some (.int .i64 ((rd_T80 l0 (ji39)).f0)) ∧ wr.cell? ⟨(ad238.add (((ji39)).toNat * 2)).block, (ad238.add (((ji39)).toNat * 2)).off + 1, none⟩ = some (.int .i64 ((rd_T80 l0 (ji39)).f1)) := ⟨((HB.out.cell (World.block_lt_of_cell? w _ hw266_0)).trans hw266_0), ((HB.out.cell (World.block_lt_of_cell? w _ hw266_1)).trans hw266_1), ((HB.out.cell (World.block_lt_of_cell? w _ hw267_0)).trans hw267_0), ((HB.out.cell (World.block_lt_of_cell? w _ hw267_1)).trans hw267_1), ((HB.out.cell (World.block_lt_of_cell? w _ hw268_0)).trans hw268_0), ((HB.out.cell (World.block_lt_of_cell? w _ hw268_1)).trans hw268_1), ((HB.out.cell (World.block_lt_of_cell? w _ hw269_0)).trans hw269_0), ((HB.out.cell (World.block_lt_of_cell? w _ hw269_1)).trans hw269_1)⟩
                (try clear hcz19_0); (try clear hcz19_1); (try clear hcz22_0); (try clear hcz22_1); (try clear hcz29_0); (try clear hcz29_1); (try clear hcz32_0); (try clear hcz32_1); (try clear hx238_0); (try clear hx238_1); (try clear hx239_0); (try clear hx239_1); (try clear hx243_0); (try clear hx243_1); (try clear hx244_0); (try clear hx244_1); (try clear hx266_0); (try clear hx266_1); (try clear hx267_0); (try clear hx267_1); (try clear hx268_0); (try clear hx268_1); (try clear hx269_0); (try clear hx269_1)
                go_quiet ((fail))
                clear s0_ s1_ s2_ s3_ s4_ s5_ s6_ s7_; have n0_ := Aside0.mk (Kd.S_drewN HO_4.out nq); have n1_ := Aside0.mk (pw_below_drewN HB.out nq); clear HO_4; clear HB; have HO_4 := n0_; have HB := n1_; clear n0_ n1_; generalize wr.drewN nq = w43 at HB HO_4 ⊢
                try go_wp2
                go_roundg k2
                case measure => have := HK1.out; have := HK2.out; omega
                case rel => exact ⟨(wrap64 (x6_2 + 1)), au, H', ⟨by have := HK1.out; have := HK2.out; omega⟩, ⟨sl HO_4⟩, ⟨bl HB⟩⟩
               ·rw [if_neg c42] at H
                have c42b0 : (((rd_T80 l0 x6_2).f1) == (wrap64 (((rd_T80 l0 (ji39)).f1) + 1))) = false := beq_eq_false_iff_ne.mpr c42; have c42b1 : (((rd_T80 l0 x6_2).f1) != (wrap64 (((rd_T80 l0 (ji39)).f1) + 1))) = true := bne_iff_ne.mpr c42
                by_cases c44 : x4_1.length < 2513169434916
                ·rw [if_pos c44] at H
                 have LMc44 := Aside0.mk c44; clear c44; obtain ⟨y272, hy272⟩ : ∃ y_ : List (S67), y_ = (x4_1 ++ [(⟨(rd_T80 l0 x5_1).f0, (rd_T80 l0 x5_1).f1, wrap64 (x6_2 - x5_1), (⟨0, ([] : List Int)⟩ : S41)⟩ : S67)]) := ⟨_, rfl⟩
                 replace H : (spec_l5Form.l0 k2 l0 y272 x6_2) = some (r1, r2) := by first | (rw [hy272]; with_reducible exact H) | (have H2_ := (Option.bind_some _ _).symm.trans H; rw [hy272]; with_reducible exact H2_) | (have H2_ := (Option.bind_some _ _).symm.trans H; with_reducible exact H2_) | with_reducible exact H | (rw [hy272]; exact H) | exact H
                 have Ny272 := Aside0.mk hy272; clear hy272; have H' := Aside0.mk H; clear H
                 try go_wp2
                 have p266 : 0 ≤ (x6_2 : Int) := ode; have q266 : x6_2 < (l0.length : Int) := ode; obtain ⟨ad266, e266, hx266_0, hx266_1⟩ := at_T80 HR0.out x6_2 p266 q266; have hw266_1 := hx266_1; have hw266_0 := hx266_0; obtain rfl : ad238 = ad266 := (by injection e266); replace hx266_0 := cl HB hx266_0; replace hx266_1 := cl HB hx266_1; replace p266 := eq_true p266; replace q266 := eq_true q266; have p267 : 0 ≤ (x5_1 : Int) := ode; have q267 : x5_1 < (l0.length : Int) := ode; obtain ⟨ad267, e267, hx267_0, hx267_1⟩ := at_T80 HR0.out x5_1 p267 q267; have hw267_1 := hx267_1; have hw267_0 := hx267_0; obtain rfl : ad238 = ad267 := (by injection e267); replace hx267_0 := cl HB hx267_0; replace hx267_1 := cl HB hx267_1; replace p267 := eq_true p267; replace q267 := eq_true q267; have p268 : 0 ≤ (x6_2 : Int) := ode; have q268 : x6_2 < (l0.length : Int) := ode; obtain ⟨ad268, e268, hx268_0, hx268_1⟩ := at_T80 HR0.out x6_2 p268 q268; have hw268_1 := hx268_1; have hw268_0 := hx268_0; obtain rfl : ad238 = ad268 := (by injection e268); replace hx268_0 := cl HB hx268_0; replace hx268_1 := cl HB hx268_1; replace p268 := eq_true p268; replace q268 := eq_true q268; have p269 : 0 ≤ ((ji39) : Int) := ode; have q269 : (ji39) < (l0.length : Int) := ode; obtain ⟨ad269, e269, hx269_0, hx269_1⟩ := at_T80 HR0.out (ji39) p269 q269; have hw269_1 := hx269_1; have hw269_0 := hx269_0; obtain rfl : ad238 = ad269 := (by injection e269); replace hx269_0 := cl HB hx269_0; replace hx269_1 := cl HB hx269_1; replace p269 := eq_true p269; replace q269 := eq_true q269; obtain ⟨s0_, s1_, s2_, s3_, s4_, s5_, s6_, s7_⟩ : wr.cell? (ad238.add ((x6_2).toNat * 2)) = some (.int .i64 ((rd_T80 l0 x6_2).f0)) ∧ wr.cell? ⟨(ad238.add ((x6_2).toNat * 2)).block, (ad238.add ((x6_2).toNat * 2)).off + 1, none⟩ = some (.int .i64 ((rd_T80 l0 x6_2).f1)) ∧ wr.cell? (ad238.add ((x5_1).toNat * 2)) = some (.int .i64 ((rd_T80 l0 x5_1).f0)) ∧ wr.cell? ⟨(ad238.add ((x5_1).toNat * 2)).block, (ad238.add ((x5_1).toNat * 2)).off + 1, none⟩ = some (.int .i64 ((rd_T80 l0 x5_1).f1)) ∧ wr.cell? (ad238.add ((x6_2).toNat * 2)) = some (.int .i64 ((rd_T80 l0 x6_2).f0)) ∧ wr.cell? ⟨(ad238.add ((x6_2).toNat * 2)).block, (ad238.add ((x6_2).toNat * 2)).off + 1, none⟩ = some (.int .i64 ((rd_T80 l0 x6_2).f1)) ∧ wr.cell? (ad238.add (((ji39)).toNat * 2)) = some (.int .i64 ((rd_T80 l0 (ji39)).f0)) ∧ wr.cell? ⟨(ad238.add (((ji39)).toNat * 2)).block, (ad238.add (((ji39)).toNat * 2)).off + 1, none⟩ = some (.int .i64 ((rd_T80 l0 (ji39)).f1)) := ⟨((HB.out.cell (World.block_lt_of_cell? w _ hw266_0)).trans hw266_0), ((HB.out.cell (World.block_lt_of_cell? w _ hw266_1)).trans hw266_1), ((HB.out.cell (World.block_lt_of_cell? w _ hw267_0)).trans hw267_0), ((HB.out.cell (World.block_lt_of_cell? w _ hw267_1)).trans hw267_1), ((HB.out.cell (World.block_lt_of_cell? w _ hw268_0)).trans hw268_0), ((HB.out.cell (World.block_lt_of_cell? w _ hw268_1)).trans hw268_1), ((HB.out.cell (World.block_lt_of_cell? w _ hw269_0)).trans hw269_0), ((HB.out.cell (World.block_lt_of_cell? w _ hw269_1)).trans hw269_1)⟩
                 (try clear hcz19_0); (try clear hcz19_1); (try clear hcz22_0); (try clear hcz22_1); (try clear hcz29_0); (try clear hcz29_1); (try clear hcz32_0); (try clear hcz32_1); (try clear hx238_0); (try clear hx238_1); (try clear hx239_0); (try clear hx239_1); (try clear hx243_0); (try clear hx243_1); (try clear hx244_0); (try clear hx244_1); (try clear hx266_0); (try clear hx266_1); (try clear hx267_0); (try clear hx267_1); (try clear hx268_0); (try clear hx268_1); (try clear hx269_0); (try clear hx269_1)
                 go_quiet ((fail))
                 clear s0_ s1_ s2_ s3_ s4_ s5_ s6_ s7_; have n0_ := Aside0.mk (Kd.S_drewN HO_4.out nq); have n1_ := Aside0.mk (pw_below_drewN HB.out nq); clear HO_4; clear HB; have HO_4 := n0_; have HB := n1_; clear n0_ n1_; generalize wr.drewN nq = w45 at HB HO_4 ⊢
                 try go_wp2
                 have n0_ := Aside0.mk (Kd.S_drew HO_4.out); have n1_ := Aside0.mk (below_drew1 HB.out); clear HO_4; clear HB; have HO_4 := n0_; have HB := n1_; clear n0_ n1_; have p270 : 0 ≤ (x5_1 : Int) := ode; have q270 : x5_1 < (l0.length : Int) := ode; obtain ⟨ad270, e270, hx270_0, hx270_1⟩ := at_T80 HR0.out x5_1 p270 q270; have hw270_1 := hx270_1; have hw270_0 := hx270_0; obtain rfl : ad238 = ad270 := (by injection e270); replace hx270_0 := cl HB hx270_0; replace hx270_1 := cl HB hx270_1; replace p270 := eq_true p270; replace q270 := eq_true q270; have p271 : 0 ≤ (x5_1 : Int) := ode; have q271 : x5_1 < (l0.length : Int) := ode; obtain ⟨ad271, e271, hx271_0, hx271_1⟩ := at_T80 HR0.out x5_1 p271 q271; have hw271_1 := hx271_1; have hw271_0 := hx271_0; obtain rfl : ad238 = ad271 := (by injection e271); replace hx271_0 := cl HB hx271_0; replace hx271_1 := cl HB hx271_1; replace p271 := eq_true p271; replace q271 := eq_true q271; refine start_ (n := 18) (S := fun w' => w'.cell? (ad238.add ((x5_1).toNat * 2)) = some (.int .i64 ((rd_T80 l0 x5_1).f0)) ∧ w'.cell? ⟨(ad238.add ((x5_1).toNat * 2)).block, (ad238.add ((x5_1).toNat * 2)).off + 1, none⟩ = some (.int .i64 ((rd_T80 l0 x5_1).f1)) ∧ w'.cell? (ad238.add ((x5_1).toNat * 2)) = some (.int .i64 ((rd_T80 l0 x5_1).f0)) ∧ w'.cell? ⟨(ad238.add ((x5_1).toNat * 2)).block, (ad238.add ((x5_1).toNat * 2)).off + 1, none⟩ = some (.int .i64 ((rd_T80 l0 x5_1).f1))) (ds := []) (tf 0 18) (by kernel_rfl) rfl rfl ⟨((HB.out.cell (World.block_lt_of_cell? w _ hw270_0)).trans hw270_0), ((HB.out.cell (World.block_lt_of_cell? w _ hw270_1)).trans hw270_1), ((HB.out.cell (World.block_lt_of_cell? w _ hw271_0)).trans hw271_0), ((HB.out.cell (World.block_lt_of_cell? w _ hw271_1)).trans hw271_1)⟩ (fun hHeld => ?_); refine with_tabW spec_l5Form.tab14 spec_l5Form.bits14 (fun HT_ HW_ => ?_); generalize w45.drew = w46 at HO_4 HB hx270_0 hx270_1 hx271_0 hx271_1 hHeld ⊢; refine pu HT_ 0 99 17 ?_; refine pu HT_ 1 100 16 ?_; refine pu HT_ 2 101 15 ?_; refine pu HT_ 3 102 14 ?_; refine pu HT_ 4 103 13 ?_; refine pq HT_ 6 105 18 95 ?_; refine pq HT_ 7 106 18 223 ?_; refine pq HT_ 8 107 18 479 ?_; refine pq HT_ 9 108 18 991 ?_; refine pq HT_ 11 110 18 3039 ?_; refine pq HT_ 12 111 18 7135 ?_; refine pq HT_ 13 112 18 15327 ?_; refine tq HT_ HW_ hHeld 5 104 18 15359 ?_; refine tq HT_ HW_ hHeld 10 109 18 16383 ?_; refine pu HT_ 14 113 3 ?_; refine on HT_ 15 114 2 (fun K hK => ?_); refine value_ (w1 := ?_) (v := ?_) (by rfl) rfl ?_ ?_
                 rotate_left 2
                 ·go_simp
                  constructor
                  ·rfl
                  ·rfl
                 refine hK.out _ _ ⟨(World.cell?_alloc_lt _ _ _ (World.block_lt_of_cell? _ _ (((HB.out.cell (World.block_lt_of_cell? w _ hw270_0)).trans hw270_0)))).trans (((HB.out.cell (World.block_lt_of_cell? w _ hw270_0)).trans hw270_0)), (World.cell?_alloc_lt _ _ _ (World.block_lt_of_cell? _ _ (((HB.out.cell (World.block_lt_of_cell? w _ hw270_1)).trans hw270_1)))).trans (((HB.out.cell (World.block_lt_of_cell? w _ hw270_1)).trans hw270_1)), (World.cell?_alloc_lt _ _ _ (World.block_lt_of_cell? _ _ (((HB.out.cell (World.block_lt_of_cell? w _ hw271_0)).trans hw271_0)))).trans (((HB.out.cell (World.block_lt_of_cell? w _ hw271_0)).trans hw271_0)), (World.cell?_alloc_lt _ _ _ (World.block_lt_of_cell? _ _ (((HB.out.cell (World.block_lt_of_cell? w _ hw271_1)).trans hw271_1)))).trans (((HB.out.cell (World.block_lt_of_cell? w _ hw271_1)).trans hw271_1))⟩ (fun hHeld => ?_); clear hK K; refine nm 114 ?_; refine on HT_ 16 115 1 (fun K hK => ?_); refine Kd.S_append_step k67 (w0 := w) w.heap.size (by rfl) (.tmp 99) (.tmp 114) 26 67 (.agg #[(.int .i64 0), (.int .i64 0), (.int .i64 0), (.int .i64 0), (.slice none 0 0)]) 56 rfl Try.underlying26 info67 rfl (by decide) (by omega) u4 x4_1 (⟨(rd_T80 l0 x5_1).f0, (rd_T80 l0 x5_1).f1, wrap64 (x6_2 - x5_1), (⟨0, ([] : List Int)⟩ : S41)⟩ : S67) [.int .i64 ((rd_T80 l0 x5_1).f0), .int .i64 ((rd_T80 l0 x5_1).f1), .int .i64 (wrap64 (x6_2 - x5_1)), .int .i64 0, .slice none 0 0] (fun _ => True) (fun _ => False) rfl rfl ?aP (fun k_ hk_ => hk_.elim) ?aF ?aO ?aB ?aS ?aL ?_
                 (case aP => exact k67_mkM _ _ _ (⟨(rd_T80 l0 x5_1).f0, (rd_T80 l0 x5_1).f1, wrap64 (x6_2 - x5_1), (⟨0, ([] : List Int)⟩ : S41)⟩ : S67) (Kd.R_nil _ _ _ _ _))
                 (case aB => exact (bl HB))
                 (case aF => exact (fun _ _ => trivial))
                 (case aO => exact (by (with_reducible repeat (first | apply Kd.S_alloc | apply Kd.S_drewN | apply Kd.S_drew)); exact Kd.S_mono HO_4.out (fun k_ hk => ⟨trivial, fun e_ => e_⟩)))
                 (case aS => exact (below_size (bl HB)))
                 (case aL => have := LMc44.out; omega)
                 intro v273 w47 ho hb hg hat
                 rw [← Ny272.out] at ho; have n0_ := Aside0.mk (hb); have n1_ := Aside0.mk (ho); clear HB; clear HO_4; have HB := n0_; have HO274 := n1_; clear n0_ n1_; clear ho hb hg hat; refine hK.out _ _ ⟨((HB.out.cell (World.block_lt_of_cell? w _ hw270_0)).trans hw270_0), ((HB.out.cell (World.block_lt_of_cell? w _ hw270_1)).trans hw270_1), ((HB.out.cell (World.block_lt_of_cell? w _ hw271_0)).trans hw271_0), ((HB.out.cell (World.block_lt_of_cell? w _ hw271_1)).trans hw271_1)⟩ (fun hHeld => ?_); clear hK K; refine nm 115 ?_; refine pu HT_ 17 4 0 ?_; refine done_ (done_of HT_.out (by kernel_rfl)) ?_
                 try go_wp2
                 go_roundg k2
                 case measure => have := HK1.out; have := HK2.out; omega
                 case rel => exact ⟨(y272), (x6_2), au, H', ⟨by have := HK1.out; have := HK2.out; omega⟩, ⟨sl HO274⟩, ⟨bl HB⟩⟩
                ·rw [if_neg c44] at H
                 exact absurd H (by simp)
              ·rw [if_neg c41] at H
               exact absurd H (by simp)
             ·rw [if_neg c40] at H
              exact absurd H (by simp)
            ·rw [if_neg c38] at H
             have c38b0 : (((rd_T80 l0 x6_2).f0) == ((rd_T80 l0 x5_1).f0)) = false := beq_eq_false_iff_ne.mpr c38; have c38b1 : (((rd_T80 l0 x6_2).f0) != ((rd_T80 l0 x5_1).f0)) = true := bne_iff_ne.mpr c38
             by_cases c48 : x4_1.length < 2513169434916
             ·rw [if_pos c48] at H
              have LMc48 := Aside0.mk c48; clear c48; obtain ⟨y277, hy277⟩ : ∃ y_ : List (S67), y_ = (x4_1 ++ [(⟨(rd_T80 l0 x5_1).f0, (rd_T80 l0 x5_1).f1, wrap64 (x6_2 - x5_1), (⟨0, ([] : List Int)⟩ : S41)⟩ : S67)]) := ⟨_, rfl⟩
              replace H : (spec_l5Form.l0 k2 l0 y277 x6_2) = some (r1, r2) := by first | (rw [hy277]; with_reducible exact H) | (have H2_ := (Option.bind_some _ _).symm.trans H; rw [hy277]; with_reducible exact H2_) | (have H2_ := (Option.bind_some _ _).symm.trans H; with_reducible exact H2_) | with_reducible exact H | (rw [hy277]; exact H) | exact H
              have Ny277 := Aside0.mk hy277; clear hy277; have H' := Aside0.mk H; clear H
              try go_wp2
              have p266 : 0 ≤ (x6_2 : Int) := ode; have q266 : x6_2 < (l0.length : Int) := ode; obtain ⟨ad266, e266, hx266_0, hx266_1⟩ := at_T80 HR0.out x6_2 p266 q266; have hw266_1 := hx266_1; have hw266_0 := hx266_0; obtain rfl : ad238 = ad266 := (by injection e266); replace hx266_0 := cl HB hx266_0; replace hx266_1 := cl HB hx266_1; replace p266 := eq_true p266; replace q266 := eq_true q266; have p267 : 0 ≤ (x5_1 : Int) := ode; have q267 : x5_1 < (l0.length : Int) := ode; obtain ⟨ad267, e267, hx267_0, hx267_1⟩ := at_T80 HR0.out x5_1 p267 q267; have hw267_1 := hx267_1; have hw267_0 := hx267_0; obtain rfl : ad238 = ad267 := (by injection e267); replace hx267_0 := cl HB hx267_0; replace hx267_1 := cl HB hx267_1; replace p267 := eq_true p267; replace q267 := eq_true q267; obtain ⟨s0_, s1_, s2_, s3_⟩ : wr.cell? (ad238.add ((x6_2).toNat * 2)) = some (.int .i64 ((rd_T80 l0 x6_2).f0)) ∧ wr.cell? ⟨(ad238.add ((x6_2).toNat * 2)).block, (ad238.add ((x6_2).toNat * 2)).off + 1, none⟩ = some (.int .i64 ((rd_T80 l0 x6_2).f1)) ∧ wr.cell? (ad238.add ((x5_1).toNat * 2)) = some (.int .i64 ((rd_T80 l0 x5_1).f0)) ∧ wr.cell? ⟨(ad238.add ((x5_1).toNat * 2)).block, (ad238.add ((x5_1).toNat * 2)).off + 1, none⟩ = some (.int .i64 ((rd_T80 l0 x5_1).f1)) := ⟨((HB.out.cell (World.block_lt_of_cell? w _ hw266_0)).trans hw266_0), ((HB.out.cell (World.block_lt_of_cell? w _ hw266_1)).trans hw266_1), ((HB.out.cell (World.block_lt_of_cell? w _ hw267_0)).trans hw267_0), ((HB.out.cell (World.block_lt_of_cell? w _ hw267_1)).trans hw267_1)⟩
              (try clear hcz19_0); (try clear hcz19_1); (try clear hcz22_0); (try clear hcz22_1); (try clear hcz29_0); (try clear hcz29_1); (try clear hcz32_0); (try clear hcz32_1); (try clear hx238_0); (try clear hx238_1); (try clear hx239_0); (try clear hx239_1); (try clear hx243_0); (try clear hx243_1); (try clear hx244_0); (try clear hx244_1); (try clear hx266_0); (try clear hx266_1); (try clear hx267_0); (try clear hx267_1)
              go_quiet ((fail))
              clear s0_ s1_ s2_ s3_; have n0_ := Aside0.mk (Kd.S_drewN HO_4.out nq); have n1_ := Aside0.mk (pw_below_drewN HB.out nq); clear HO_4; clear HB; have HO_4 := n0_; have HB := n1_; clear n0_ n1_; generalize wr.drewN nq = w49 at HB HO_4 ⊢
              try go_wp2
              have n0_ := Aside0.mk (Kd.S_drew HO_4.out); have n1_ := Aside0.mk (below_drew1 HB.out); clear HO_4; clear HB; have HO_4 := n0_; have HB := n1_; clear n0_ n1_; have p275 : 0 ≤ (x5_1 : Int) := ode; have q275 : x5_1 < (l0.length : Int) := ode; obtain ⟨ad275, e275, hx275_0, hx275_1⟩ := at_T80 HR0.out x5_1 p275 q275; have hw275_1 := hx275_1; have hw275_0 := hx275_0; obtain rfl : ad238 = ad275 := (by injection e275); replace hx275_0 := cl HB hx275_0; replace hx275_1 := cl HB hx275_1; replace p275 := eq_true p275; replace q275 := eq_true q275; have p276 : 0 ≤ (x5_1 : Int) := ode; have q276 : x5_1 < (l0.length : Int) := ode; obtain ⟨ad276, e276, hx276_0, hx276_1⟩ := at_T80 HR0.out x5_1 p276 q276; have hw276_1 := hx276_1; have hw276_0 := hx276_0; obtain rfl : ad238 = ad276 := (by injection e276); replace hx276_0 := cl HB hx276_0; replace hx276_1 := cl HB hx276_1; replace p276 := eq_true p276; replace q276 := eq_true q276; refine start_ (n := 18) (S := fun w' => w'.cell? (ad238.add ((x5_1).toNat * 2)) = some (.int .i64 ((rd_T80 l0 x5_1).f0)) ∧ w'.cell? ⟨(ad238.add ((x5_1).toNat * 2)).block, (ad238.add ((x5_1).toNat * 2)).off + 1, none⟩ = some (.int .i64 ((rd_T80 l0 x5_1).f1)) ∧ w'.cell? (ad238.add ((x5_1).toNat * 2)) = some (.int .i64 ((rd_T80 l0 x5_1).f0)) ∧ w'.cell? ⟨(ad238.add ((x5_1).toNat * 2)).block, (ad238.add ((x5_1).toNat * 2)).off + 1, none⟩ = some (.int .i64 ((rd_T80 l0 x5_1).f1))) (ds := []) (tf 0 18) (by kernel_rfl) rfl rfl ⟨((HB.out.cell (World.block_lt_of_cell? w _ hw275_0)).trans hw275_0), ((HB.out.cell (World.block_lt_of_cell? w _ hw275_1)).trans hw275_1), ((HB.out.cell (World.block_lt_of_cell? w _ hw276_0)).trans hw276_0), ((HB.out.cell (World.block_lt_of_cell? w _ hw276_1)).trans hw276_1)⟩ (fun hHeld => ?_); refine with_tabW spec_l5Form.tab14 spec_l5Form.bits14 (fun HT_ HW_ => ?_); generalize w49.drew = w50 at HO_4 HB hx275_0 hx275_1 hx276_0 hx276_1 hHeld ⊢; refine pu HT_ 0 99 17 ?_; refine pu HT_ 1 100 16 ?_; refine pu HT_ 2 101 15 ?_; refine pu HT_ 3 102 14 ?_; refine pu HT_ 4 103 13 ?_; refine pq HT_ 6 105 18 95 ?_; refine pq HT_ 7 106 18 223 ?_; refine pq HT_ 8 107 18 479 ?_; refine pq HT_ 9 108 18 991 ?_; refine pq HT_ 11 110 18 3039 ?_; refine pq HT_ 12 111 18 7135 ?_; refine pq HT_ 13 112 18 15327 ?_; refine tq HT_ HW_ hHeld 5 104 18 15359 ?_; refine tq HT_ HW_ hHeld 10 109 18 16383 ?_; refine pu HT_ 14 113 3 ?_; refine on HT_ 15 114 2 (fun K hK => ?_); refine value_ (w1 := ?_) (v := ?_) (by rfl) rfl ?_ ?_
              rotate_left 2
              ·go_simp
               constructor
               ·rfl
               ·rfl
              refine hK.out _ _ ⟨(World.cell?_alloc_lt _ _ _ (World.block_lt_of_cell? _ _ (((HB.out.cell (World.block_lt_of_cell? w _ hw275_0)).trans hw275_0)))).trans (((HB.out.cell (World.block_lt_of_cell? w _ hw275_0)).trans hw275_0)), (World.cell?_alloc_lt _ _ _ (World.block_lt_of_cell? _ _ (((HB.out.cell (World.block_lt_of_cell? w _ hw275_1)).trans hw275_1)))).trans (((HB.out.cell (World.block_lt_of_cell? w _ hw275_1)).trans hw275_1)), (World.cell?_alloc_lt _ _ _ (World.block_lt_of_cell? _ _ (((HB.out.cell (World.block_lt_of_cell? w _ hw276_0)).trans hw276_0)))).trans (((HB.out.cell (World.block_lt_of_cell? w _ hw276_0)).trans hw276_0)), (World.cell?_alloc_lt _ _ _ (World.block_lt_of_cell? _ _ (((HB.out.cell (World.block_lt_of_cell? w _ hw276_1)).trans hw276_1)))).trans (((HB.out.cell (World.block_lt_of_cell? w _ hw276_1)).trans hw276_1))⟩ (fun hHeld => ?_); clear hK K; refine nm 114 ?_; refine on HT_ 16 115 1 (fun K hK => ?_); refine Kd.S_append_step k67 (w0 := w) w.heap.size (by rfl) (.tmp 99) (.tmp 114) 26 67 (.agg #[(.int .i64 0), (.int .i64 0), (.int .i64 0), (.int .i64 0), (.slice none 0 0)]) 56 rfl Try.underlying26 info67 rfl (by decide) (by omega) u4 x4_1 (⟨(rd_T80 l0 x5_1).f0, (rd_T80 l0 x5_1).f1, wrap64 (x6_2 - x5_1), (⟨0, ([] : List Int)⟩ : S41)⟩ : S67) [.int .i64 ((rd_T80 l0 x5_1).f0), .int .i64 ((rd_T80 l0 x5_1).f1), .int .i64 (wrap64 (x6_2 - x5_1)), .int .i64 0, .slice none 0 0] (fun _ => True) (fun _ => False) rfl rfl ?aP (fun k_ hk_ => hk_.elim) ?aF ?aO ?aB ?aS ?aL ?_
              (case aP => exact k67_mkM _ _ _ (⟨(rd_T80 l0 x5_1).f0, (rd_T80 l0 x5_1).f1, wrap64 (x6_2 - x5_1), (⟨0, ([] : List Int)⟩ : S41)⟩ : S67) (Kd.R_nil _ _ _ _ _))
              (case aB => exact (bl HB))
              (case aF => exact (fun _ _ => trivial))
              (case aO => exact (by (with_reducible repeat (first | apply Kd.S_alloc | apply Kd.S_drewN | apply Kd.S_drew)); exact Kd.S_mono HO_4.out (fun k_ hk => ⟨trivial, fun e_ => e_⟩)))
              (case aS => exact (below_size (bl HB)))
              (case aL => have := LMc48.out; omega)
              intro v278 w51 ho hb hg hat
              rw [← Ny277.out] at ho; have n0_ := Aside0.mk (hb); have n1_ := Aside0.mk (ho); clear HB; clear HO_4; have HB := n0_; have HO279 := n1_; clear n0_ n1_; clear ho hb hg hat; refine hK.out _ _ ⟨((HB.out.cell (World.block_lt_of_cell? w _ hw275_0)).trans hw275_0), ((HB.out.cell (World.block_lt_of_cell? w _ hw275_1)).trans hw275_1), ((HB.out.cell (World.block_lt_of_cell? w _ hw276_0)).trans hw276_0), ((HB.out.cell (World.block_lt_of_cell? w _ hw276_1)).trans hw276_1)⟩ (fun hHeld => ?_); clear hK K; refine nm 115 ?_; refine pu HT_ 17 4 0 ?_; refine done_ (done_of HT_.out (by kernel_rfl)) ?_
              try go_wp2
              go_roundg k2
              case measure => have := HK1.out; have := HK2.out; omega
              case rel => exact ⟨(y277), (x6_2), au, H', ⟨by have := HK1.out; have := HK2.out; omega⟩, ⟨sl HO279⟩, ⟨bl HB⟩⟩
             ·rw [if_neg c48] at H
              exact absurd H (by simp)
           ·rw [if_neg c37] at H
            exact absurd H (by simp)
          ·rw [if_neg c36] at H
           exact absurd H (by simp)
         ·rw [if_neg c35] at H
          exact absurd H (by simp)
        ·rw [if_neg c34] at H
         have c34b0 : decide (x6_2 < (l0.length : Int)) = false := decide_eq_false c34; clear c34
         by_cases c52 : 0 ≤ x5_1
         ·rw [if_pos c52] at H
          have c52b0 : decide (0 ≤ x5_1) = true := decide_eq_true c52; clear c52
          by_cases c53 : x5_1 < (l0.length : Int)
          ·rw [if_pos c53] at H
           have c53b0 : decide (x5_1 < (l0.length : Int)) = true := decide_eq_true c53; clear c53
           by_cases c54 : x4_1.length < 2513169434916
           ·rw [if_pos c54] at H
            have LMc54 := Aside0.mk c54; clear c54; obtain ⟨y282, hy282⟩ : ∃ y_ : List (S67), y_ = (x4_1 ++ [(⟨(rd_T80 l0 x5_1).f0, (rd_T80 l0 x5_1).f1, wrap64 (x6_2 - x5_1), (⟨0, ([] : List Int)⟩ : S41)⟩ : S67)]) := ⟨_, rfl⟩
            replace H : (spec_l5Form.l0 k2 l0 y282 x6_2) = some (r1, r2) := by first | (rw [hy282]; with_reducible exact H) | (have H2_ := (Option.bind_some _ _).symm.trans H; rw [hy282]; with_reducible exact H2_) | (have H2_ := (Option.bind_some _ _).symm.trans H; with_reducible exact H2_) | with_reducible exact H | (rw [hy282]; exact H) | exact H
            have Ny282 := Aside0.mk hy282; clear hy282; have H' := Aside0.mk H; clear H
            try go_wp2
            (try clear hcz19_0); (try clear hcz19_1); (try clear hcz22_0); (try clear hcz22_1); (try clear hcz29_0); (try clear hcz29_1); (try clear hcz32_0); (try clear hcz32_1); (try clear hx238_0); (try clear hx238_1); (try clear hx239_0); (try clear hx239_1); (try clear hx243_0); (try clear hx243_1); (try clear hx244_0); (try clear hx244_1)
            go_quiet ((fail))
            have n0_ := Aside0.mk (Kd.S_drewN HO_4.out nq); have n1_ := Aside0.mk (pw_below_drewN HB.out nq); clear HO_4; clear HB; have HO_4 := n0_; have HB := n1_; clear n0_ n1_; generalize wr.drewN nq = w55 at HB HO_4 ⊢
            try go_wp2
            have n0_ := Aside0.mk (Kd.S_drew HO_4.out); have n1_ := Aside0.mk (below_drew1 HB.out); clear HO_4; clear HB; have HO_4 := n0_; have HB := n1_; clear n0_ n1_; have p280 : 0 ≤ (x5_1 : Int) := ode; have q280 : x5_1 < (l0.length : Int) := ode; obtain ⟨ad280, e280, hx280_0, hx280_1⟩ := at_T80 HR0.out x5_1 p280 q280; have hw280_1 := hx280_1; have hw280_0 := hx280_0; obtain rfl : ad238 = ad280 := (by injection e280); replace hx280_0 := cl HB hx280_0; replace hx280_1 := cl HB hx280_1; replace p280 := eq_true p280; replace q280 := eq_true q280; have p281 : 0 ≤ (x5_1 : Int) := ode; have q281 : x5_1 < (l0.length : Int) := ode; obtain ⟨ad281, e281, hx281_0, hx281_1⟩ := at_T80 HR0.out x5_1 p281 q281; have hw281_1 := hx281_1; have hw281_0 := hx281_0; obtain rfl : ad238 = ad281 := (by injection e281); replace hx281_0 := cl HB hx281_0; replace hx281_1 := cl HB hx281_1; replace p281 := eq_true p281; replace q281 := eq_true q281; refine start_ (n := 18) (S := fun w' => w'.cell? (ad238.add ((x5_1).toNat * 2)) = some (.int .i64 ((rd_T80 l0 x5_1).f0)) ∧ w'.cell? ⟨(ad238.add ((x5_1).toNat * 2)).block, (ad238.add ((x5_1).toNat * 2)).off + 1, none⟩ = some (.int .i64 ((rd_T80 l0 x5_1).f1)) ∧ w'.cell? (ad238.add ((x5_1).toNat * 2)) = some (.int .i64 ((rd_T80 l0 x5_1).f0)) ∧ w'.cell? ⟨(ad238.add ((x5_1).toNat * 2)).block, (ad238.add ((x5_1).toNat * 2)).off + 1, none⟩ = some (.int .i64 ((rd_T80 l0 x5_1).f1))) (ds := []) (tf 0 18) (by kernel_rfl) rfl rfl ⟨((HB.out.cell (World.block_lt_of_cell? w _ hw280_0)).trans hw280_0), ((HB.out.cell (World.block_lt_of_cell? w _ hw280_1)).trans hw280_1), ((HB.out.cell (World.block_lt_of_cell? w _ hw281_0)).trans hw281_0), ((HB.out.cell (World.block_lt_of_cell? w _ hw281_1)).trans hw281_1)⟩ (fun hHeld => ?_); refine with_tabW spec_l5Form.tab14 spec_l5Form.bits14 (fun HT_ HW_ => ?_); generalize w55.drew = w56 at HO_4 HB hx280_0 hx280_1 hx281_0 hx281_1 hHeld ⊢; refine pu HT_ 0 99 17 ?_; refine pu HT_ 1 100 16 ?_; refine pu HT_ 2 101 15 ?_; refine pu HT_ 3 102 14 ?_; refine pu HT_ 4 103 13 ?_; refine pq HT_ 6 105 18 95 ?_; refine pq HT_ 7 106 18 223 ?_; refine pq HT_ 8 107 18 479 ?_; refine pq HT_ 9 108 18 991 ?_; refine pq HT_ 11 110 18 3039 ?_; refine pq HT_ 12 111 18 7135 ?_; refine pq HT_ 13 112 18 15327 ?_; refine tq HT_ HW_ hHeld 5 104 18 15359 ?_; refine tq HT_ HW_ hHeld 10 109 18 16383 ?_; refine pu HT_ 14 113 3 ?_; refine on HT_ 15 114 2 (fun K hK => ?_); refine value_ (w1 := ?_) (v := ?_) (by rfl) rfl ?_ ?_
            rotate_left 2
            ·go_simp
             constructor
             ·rfl
             ·rfl
            refine hK.out _ _ ⟨(World.cell?_alloc_lt _ _ _ (World.block_lt_of_cell? _ _ (((HB.out.cell (World.block_lt_of_cell? w _ hw280_0)).trans hw280_0)))).trans (((HB.out.cell (World.block_lt_of_cell? w _ hw280_0)).trans hw280_0)), (World.cell?_alloc_lt _ _ _ (World.block_lt_of_cell? _ _ (((HB.out.cell (World.block_lt_of_cell? w _ hw280_1)).trans hw280_1)))).trans (((HB.out.cell (World.block_lt_of_cell? w _ hw280_1)).trans hw280_1)), (World.cell?_alloc_lt _ _ _ (World.block_lt_of_cell? _ _ (((HB.out.cell (World.block_lt_of_cell? w _ hw281_0)).trans hw281_0)))).trans (((HB.out.cell (World.block_lt_of_cell? w _ hw281_0)).trans hw281_0)), (World.cell?_alloc_lt _ _ _ (World.block_lt_of_cell? _ _ (((HB.out.cell (World.block_lt_of_cell? w _ hw281_1)).trans hw281_1)))).trans (((HB.out.cell (World.block_lt_of_cell? w _ hw281_1)).trans hw281_1))⟩ (fun hHeld => ?_); clear hK K; refine nm 114 ?_; refine on HT_ 16 115 1 (fun K hK => ?_); refine Kd.S_append_step k67 (w0 := w) w.heap.size (by rfl) (.tmp 99) (.tmp 114) 26 67 (.agg #[(.int .i64 0), (.int .i64 0), (.int .i64 0), (.int .i64 0), (.slice none 0 0)]) 56 rfl Try.underlying26 info67 rfl (by decide) (by omega) u4 x4_1 (⟨(rd_T80 l0 x5_1).f0, (rd_T80 l0 x5_1).f1, wrap64 (x6_2 - x5_1), (⟨0, ([] : List Int)⟩ : S41)⟩ : S67) [.int .i64 ((rd_T80 l0 x5_1).f0), .int .i64 ((rd_T80 l0 x5_1).f1), .int .i64 (wrap64 (x6_2 - x5_1)), .int .i64 0, .slice none 0 0] (fun _ => True) (fun _ => False) rfl rfl ?aP (fun k_ hk_ => hk_.elim) ?aF ?aO ?aB ?aS ?aL ?_
            (case aP => exact k67_mkM _ _ _ (⟨(rd_T80 l0 x5_1).f0, (rd_T80 l0 x5_1).f1, wrap64 (x6_2 - x5_1), (⟨0, ([] : List Int)⟩ : S41)⟩ : S67) (Kd.R_nil _ _ _ _ _))
            (case aB => exact (bl HB))
            (case aF => exact (fun _ _ => trivial))
            (case aO => exact (by (with_reducible repeat (first | apply Kd.S_alloc | apply Kd.S_drewN | apply Kd.S_drew)); exact Kd.S_mono HO_4.out (fun k_ hk => ⟨trivial, fun e_ => e_⟩)))
            (case aS => exact (below_size (bl HB)))
            (case aL => have := LMc54.out; omega)
            intro v283 w57 ho hb hg hat
            rw [← Ny282.out] at ho; have n0_ := Aside0.mk (hb); have n1_ := Aside0.mk (ho); clear HB; clear HO_4; have HB := n0_; have HO284 := n1_; clear n0_ n1_; clear ho hb hg hat; refine hK.out _ _ ⟨((HB.out.cell (World.block_lt_of_cell? w _ hw280_0)).trans hw280_0), ((HB.out.cell (World.block_lt_of_cell? w _ hw280_1)).trans hw280_1), ((HB.out.cell (World.block_lt_of_cell? w _ hw281_0)).trans hw281_0), ((HB.out.cell (World.block_lt_of_cell? w _ hw281_1)).trans hw281_1)⟩ (fun hHeld => ?_); clear hK K; refine nm 115 ?_; refine pu HT_ 17 4 0 ?_; refine done_ (done_of HT_.out (by kernel_rfl)) ?_
            try go_wp2
            go_roundg k2
            case measure => have := HK1.out; have := HK2.out; omega
            case rel => exact ⟨(y282), (x6_2), au, H', ⟨by have := HK1.out; have := HK2.out; omega⟩, ⟨sl HO284⟩, ⟨bl HB⟩⟩
           ·rw [if_neg c54] at H
            exact absurd H (by simp)
          ·rw [if_neg c53] at H
           exact absurd H (by simp)
         ·rw [if_neg c52] at H
          exact absurd H (by simp)
    ·rw [if_neg c5] at H
     exact absurd H (by simp)
   ·rw [if_neg c4] at H
    have c4b0 : decide (x5_1 < (l0.length : Int)) = false := decide_eq_false c4; clear c4
    simp only [Option.some.injEq, Prod.mk.injEq] at H
    obtain ⟨rfl, rfl⟩ := H; obtain ⟨Ao58, co58, eo58⟩ := Kd.S_slice HO_4.out
    subst eo58
    go_wp2
    go_ret2
    exact ⟨_, by first | rfl | (simp [errW_none, errW_some] <;> rfl) | (simp [*, errW_none, errW_some] <;> rfl), by (with_reducible repeat (first | apply Kd.S_alloc | apply Kd.S_drewN | apply Kd.S_drew)); exact HO_4.out, bl HB⟩

end Go.Proofs.Ytjnmenadlnajeaa.PFnExactFlatPart
