-- Written by a program of this session (a turned copy of the kit's printer); Lean checks it.
-- half the depth
import Derived.Test.YtjnmenadlnajeaaPFnExactFlatJoinx0
import Derived.Test.YtjnmenadlnajeaaPFnExactFlatJoinx5
namespace Go.Proofs.Ytjnmenadlnajeaa.PFnExactFlatJoin
open Go.RowKit Go.Proofs.YtjnmenadlnajeaaW.PrintWords Go.Proofs.YtjnmenadlnajeaaW.PrintLast Go.Proofs.YtjnmenadlnajeaaW.PrintMore
attribute [local go_sem] max2_int min2_int max_two min_two max_three min_three max_four min_four   -- for this text's walks alone
set_option linter.unusedVariables false
set_option linter.unusedSimpArgs false

/-! ### spec_l5Form: function 32 -/
mutual
def spec_l5Form.l0 : Nat → List (S80) → List (S67) → Int → Option ((List (S67)) × Bool)
 | 0, _, _, _ => none
 | k + 1, x0, x4, x5 => if x5 < (x0.length : Int) then (if 0 ≤ x5 then (if ((rd_T80 x0 x5).f0) < 0 then (spec_l5Form.l1 k x0 x4 (wrap64 (x5 + 1)) (([((rd_T80 x0 x5).f1) % 256] : List Int))) else (spec_l5Form.l2 k x0 x4 x5 (wrap64 (x5 + 1)))) else (none)) else (some (x4, decide ((x4.length : Int) ≤ 2000)))
def spec_l5Form.l1 : Nat → List (S80) → List (S67) → Int → List Int → Option ((List (S67)) × Bool)
 | 0, _, _, _, _ => none
 | k + 1, x0, x4, x6, x7 => if x6 < (x0.length : Int) then (if 0 ≤ x6 then (if ((rd_T80 x0 x6).f0) < 0 then (if x7.length < 140737488355328 then (spec_l5Form.l1 k x0 x4 (wrap64 (x6 + 1)) (x7 ++ [((rd_T80 x0 x6).f1) % 256])) else (none)) else ((spec_l1From.f k x7).bind fun bt178 => (if x4.length < 2513169434916 then (spec_l5Form.l0 k x0 (x4 ++ [(⟨(-1), 0, bt178.1, (⟨bt178.1, bt178.2.1⟩ : S41)⟩ : S67)]) x6) else (none)))) else (none)) else ((spec_l1From.f k x7).bind fun bt187 => (if x4.length < 2513169434916 then (spec_l5Form.l0 k x0 (x4 ++ [(⟨(-1), 0, bt187.1, (⟨bt187.1, bt187.2.1⟩ : S41)⟩ : S67)]) x6) else (none)))
def spec_l5Form.l2 : Nat → List (S80) → List (S67) → Int → Int → Option ((List (S67)) × Bool)
 | 0, _, _, _, _ => none
 | k + 1, x0, x4, x5, x6 => if x6 < (x0.length : Int) then (if 0 ≤ x6 then (if 0 ≤ x5 then (if x5 < (x0.length : Int) then (if ((rd_T80 x0 x6).f0) = ((rd_T80 x0 x5).f0) then (if 0 ≤ (wrap64 (x6 - 1)) then (if (wrap64 (x6 - 1)) < (x0.length : Int) then (if ((rd_T80 x0 x6).f1) = (wrap64 (((rd_T80 x0 (wrap64 (x6 - 1))).f1) + 1)) then (spec_l5Form.l2 k x0 x4 x5 (wrap64 (x6 + 1))) else (if x4.length < 2513169434916 then (spec_l5Form.l0 k x0 (x4 ++ [(⟨(rd_T80 x0 x5).f0, (rd_T80 x0 x5).f1, wrap64 (x6 - x5), (⟨0, ([] : List Int)⟩ : S41)⟩ : S67)]) x6) else (none))) else (none)) else (none)) else (if x4.length < 2513169434916 then (spec_l5Form.l0 k x0 (x4 ++ [(⟨(rd_T80 x0 x5).f0, (rd_T80 x0 x5).f1, wrap64 (x6 - x5), (⟨0, ([] : List Int)⟩ : S41)⟩ : S67)]) x6) else (none))) else (none)) else (none)) else (none)) else (if 0 ≤ x5 then (if x5 < (x0.length : Int) then (if x4.length < 2513169434916 then (spec_l5Form.l0 k x0 (x4 ++ [(⟨(rd_T80 x0 x5).f0, (rd_T80 x0 x5).f1, wrap64 (x6 - x5), (⟨0, ([] : List Int)⟩ : S41)⟩ : S67)]) x6) else (none)) else (none)) else (none))
end
def spec_l5Form.f (k : Nat) (l0 : List (S80)) : Option ((List (S67)) × Bool) := spec_l5Form.l0 k l0 (([] : List (S67))) 0
def spec_l5Form.T14 : Bool × List (List Nat × List Nat) := (true, [([], []), ([], []), ([], []), ([1, 2], [1, 2]), ([3], [3]), ([4], [4]), ([], []), ([], []), ([6, 7], [6, 7]), ([8], [8]), ([9], [9]), ([], []), ([], []), ([11, 12], [11, 12]), ([5, 10, 13], [5, 10, 13]), ([14], [14]), ([0, 15], [0, 15]), ([16, 16, 0, 1, 2, 3, 4, 5, 6, 7, 8, 9, 10, 11, 12, 13, 14, 15, 16], [0, 16])])
def spec_l5Form.B14 : List Nat := [0, 0, 0, 6, 14, 30, 0, 0, 192, 448, 960, 0, 0, 6144, 16382, 32766, 65535, 131071]
theorem spec_l5Form.tab14 : rtab .any (opsOf Try.f32 14) = spec_l5Form.T14 := by kernel_rfl
theorem spec_l5Form.bits14 : waitsOk spec_l5Form.T14.2 spec_l5Form.B14 = true := by kernel_rfl
set_option maxHeartbeats 8000000 in
set_option maxRecDepth 100000 in
theorem spec_l5Form.calls (k : Nat) (A0 : Option Addr) (c0 : Nat) (l0 : List (S80)) (r1 : List (S67)) (r2 : Bool) (w : World) (hr0 : Kd.C k80 w A0 l0.length l0) (hc0 : l0.length ≤ c0) (h : spec_l5Form.f k l0 = some (r1, r2)) :
  Calls Try.prog 32 #[.slice A0 l0.length c0] w fun e w' => ∃ v0_ : Value, e = .returned (.tuple #[v0_, .bool r2]) ∧ Kd.S k67 67 w' w.heap.size (fun _ => True) v0_ r1 ∧ Below w.heap.size w w' := by
 have hu41 := Try.underlying41; have hu67 := Try.underlying67; have HR0 := Aside0.mk hr0; have HC0 := Aside0.mk hc0; clear hr0 hc0; have HB := Aside0.mk (Below.refl w.heap.size w); have H : (spec_l5Form.l0 k l0 (([] : List (S67))) 0) = some (r1, r2) := h; clear h; obtain ⟨y165, hy165⟩ : ∃ y_ : List (S67), y_ = (([] : List (S67))) := ⟨_, rfl⟩
 replace H : (spec_l5Form.l0 k l0 y165 0) = some (r1, r2) := by first | (rw [hy165]; with_reducible exact H) | (have H2_ := (Option.bind_some _ _).symm.trans H; rw [hy165]; with_reducible exact H2_) | (have H2_ := (Option.bind_some _ _).symm.trans H; with_reducible exact H2_) | with_reducible exact H | (rw [hy165]; exact H) | exact H
 have Ny165 := Aside0.mk hy165; clear hy165; have H' := Aside0.mk H; clear H
 go_enter Try.func32, Try.ntmps32
 go_wp2_with (first | ((with_reducible refine gate_dst (N := 10) rfl ?_); refine Kd.S_lit k67 _ 67 ?hg (N := 10) ?hd (xs := ([] : List (S67))) (inner := []) (ok := fun _ => True) (okp := fun _ => True) ?hr ?hp (fun _ hk => hk) trivial (Below.refl _ _) (Nat.le_refl _) (by simp) ?_; (case hd => rfl); (case hg => rfl); (case hr => first | (go_simp; done) | (go_simp; rfl)); (case hp => exact (Reps.none _ _)); intro v166 w2 ho3 hb hg_ hnew_; clear hg_ hnew_; (first | rw [← Ny165.out] at ho3 | (simp only [Int.reduceToNat] at ho3; rw [← Ny165.out] at ho3)); have n0_ := Aside0.mk (Kd.S_lower ho3 (below_size (bl HB))); have n1_ := Aside0.mk (below_step (bl HB) hb); clear HB; have HO167 := n0_; have HB := n1_; clear n0_ n1_; clear hb ho3))
 go_loopg [4, 5] k (fun kq v4 v5 w' => ∃ (x4_1 : List (S67)) (x5_1 : Int), v5 = .int .i64 x5_1 ∧ Aside0 (spec_l5Form.l0 kq l0 x4_1 x5_1 = some (r1, r2)) ∧ Aside0 (kq ≤ k) ∧ Aside0 (Kd.S k67 67 w' w.heap.size (fun _ => True) v4 x4_1) ∧ Aside0 (Below w.heap.size w w'))
 case atStart => exact ⟨(y165), (0), au, H', ⟨Nat.le_refl _⟩, ⟨by (with_reducible repeat (first | apply Kd.S_alloc | apply Kd.S_drewN | apply Kd.S_drew)); exact HO167.out⟩, ⟨bl HB⟩⟩
 case round =>
  clear H'
  try clear p2
  try clear c3
  obtain ⟨x4_1, x5_1, rfl, HA, HK1, HO_4, HB⟩ := hrel
  cases gk with
  | zero => exact absurd HA.out (by simp [spec_l5Form.l0])
  | succ k1 =>
   have H := HA.out; clear HA
   simp only [spec_l5Form.l0] at H
   by_cases c4 : x5_1 < (l0.length : Int)
   ·rw [if_pos c4] at H
    have c4b0 : decide (x5_1 < (l0.length : Int)) = true := decide_eq_true c4; clear c4
    by_cases c5 : 0 ≤ x5_1
    ·rw [if_pos c5] at H
     have c5b0 : decide (0 ≤ x5_1) = true := decide_eq_true c5; clear c5
     by_cases c6 : ((rd_T80 l0 x5_1).f0) < 0
     ·rw [if_pos c6] at H
      have c6b0 : decide (((rd_T80 l0 x5_1).f0) < 0) = true := decide_eq_true c6; clear c6; obtain ⟨y170, hy170⟩ : ∃ y_ : List Int, y_ = (([((rd_T80 l0 x5_1).f1) % 256] : List Int)) := ⟨_, rfl⟩
      replace H : (spec_l5Form.l1 k1 l0 x4_1 (wrap64 (x5_1 + 1)) y170) = some (r1, r2) := by first | (rw [hy170]; with_reducible exact H) | (have H2_ := (Option.bind_some _ _).symm.trans H; rw [hy170]; with_reducible exact H2_) | (have H2_ := (Option.bind_some _ _).symm.trans H; with_reducible exact H2_) | with_reducible exact H | (rw [hy170]; exact H) | exact H
      have Ny170 := Aside0.mk hy170; clear hy170; have H' := Aside0.mk H; clear H; have p168 : 0 ≤ (x5_1 : Int) := ode; have q168 : x5_1 < (l0.length : Int) := ode; obtain ⟨ad168, e168, hx168_0, hx168_1⟩ := at_T80 HR0.out x5_1 p168 q168
      cases e168
      replace hx168_0 := cl HB hx168_0; replace hx168_1 := cl HB hx168_1; replace p168 := eq_true p168; replace q168 := eq_true q168; have p169 : 0 ≤ (x5_1 : Int) := ode; have q169 : x5_1 < (l0.length : Int) := ode; obtain ⟨ad169, e169, hx169_0, hx169_1⟩ := at_T80 HR0.out x5_1 p169 q169; obtain rfl : ad168 = ad169 := (by injection e169); replace hx169_0 := cl HB hx169_0; replace hx169_1 := cl HB hx169_1; replace p169 := eq_true p169; replace q169 := eq_true q169
      go_wp2_with (first | ((with_reducible refine gate_dst (N := 29) rfl ?_); refine Kd.R_lit (Kd.int .u8) _ 5 ?hg (N := 29) ?hd (xs := ([((rd_T80 l0 x5_1).f1) % 256] : List Int)) (inner := [.int .u8 (((rd_T80 l0 x5_1).f1) % 256)]) (ok := fun _ => True) (okp := fun _ => True) ?hr ?hp (fun _ hk => hk) trivial (Below.refl _ _) (Nat.le_refl _) (by simp) ?_; (case hd => rfl); (case hg => rfl); (case hr => first | (go_simp; done) | (go_simp; rfl)); (case hp => exact (Reps.one (show Kd.M (Kd.int .u8) _ _ _ (((rd_T80 l0 x5_1).f1) % 256) [.int .u8 (((rd_T80 l0 x5_1).f1) % 256)] from rfl) (Reps.none _ _))); intro v171 w7 ho8 hb hg_ hnew_; clear hg_ hnew_; (first | rw [← Ny170.out] at ho8 | (simp only [Int.reduceToNat] at ho8; rw [← Ny170.out] at ho8)); have n0_ := Aside0.mk (Kd.S_below (by (with_reducible repeat (first | apply Kd.S_alloc | apply Kd.S_drewN | apply Kd.S_drew)); exact HO_4.out) hb); have n1_ := Aside0.mk (Kd.R_lower ho8 (below_size (bl HB))); have n2_ := Aside0.mk (below_step (bl HB) hb); clear HO_4; clear HB; have HO_4 := n0_; have HO172 := n1_; have HB := n2_; clear n0_ n1_ n2_; clear hb ho8))
      go_loopg [6, 7] k1 (fun kq v6 v7 w' => ∃ (x6_2 : Int) (x7_2 : List Int), v6 = .int .i64 x6_2 ∧ Aside0 (spec_l5Form.l1 kq l0 x4_1 x6_2 x7_2 = some (r1, r2)) ∧ Aside0 (kq ≤ k1) ∧ Aside0 (Kd.S k67 67 w' w.heap.size (fun _ => True) u4 x4_1) ∧ Aside0 (Kd.R (Kd.int .u8) 5 w' w.heap.size (fun _ => True) v7 x7_2) ∧ Aside0 (Below w.heap.size w w'))
      case atStart => exact ⟨(wrap64 (x5_1 + 1)), (y170), au, H', ⟨Nat.le_refl _⟩, ⟨by (with_reducible repeat (first | apply Kd.S_alloc | apply Kd.S_drewN | apply Kd.S_drew)); exact HO_4.out⟩, ⟨rl HO172⟩, ⟨bl HB⟩⟩
      case round =>
       clear H'
       try clear p1
       try clear q1
       try clear hx1
       try clear p2
       try clear c3
       try clear c4
       try clear c4b0
       try clear c5
       try clear c5b0
       try clear c6
       try clear c6b0
       try clear p6
       try clear hx168_0
       try clear hx168_1
       try clear hx169_0
       try clear hx169_1
       try clear p168
       try clear p169
       try clear p2
       try clear q168
       try clear q169
       obtain ⟨x6_2, x7_2, rfl, HA, HK2, HO_4, HO_7, HB⟩ := hrel
       cases gk with
       | zero => exact absurd HA.out (by simp [spec_l5Form.l1])
       | succ k2 =>
        have H := HA.out; clear HA
        simp only [spec_l5Form.l1] at H
        by_cases c9 : x6_2 < (l0.length : Int)
        ·rw [if_pos c9] at H
         have c9b0 : decide (x6_2 < (l0.length : Int)) = true := decide_eq_true c9; clear c9
         by_cases c10 : 0 ≤ x6_2
         ·rw [if_pos c10] at H
          have c10b0 : decide (0 ≤ x6_2) = true := decide_eq_true c10; clear c10
          by_cases c11 : ((rd_T80 l0 x6_2).f0) < 0
          ·rw [if_pos c11] at H
           have c11b0 : decide (((rd_T80 l0 x6_2).f0) < 0) = true := decide_eq_true c11; clear c11
           by_cases c12 : x7_2.length < 140737488355328
           ·rw [if_pos c12] at H
            have LMc12 := Aside0.mk c12; clear c12; obtain ⟨y175, hy175⟩ : ∃ y_ : List Int, y_ = (x7_2 ++ [((rd_T80 l0 x6_2).f1) % 256]) := ⟨_, rfl⟩
            replace H : (spec_l5Form.l1 k2 l0 x4_1 (wrap64 (x6_2 + 1)) y175) = some (r1, r2) := by first | (rw [hy175]; with_reducible exact H) | (have H2_ := (Option.bind_some _ _).symm.trans H; rw [hy175]; with_reducible exact H2_) | (have H2_ := (Option.bind_some _ _).symm.trans H; with_reducible exact H2_) | with_reducible exact H | (rw [hy175]; exact H) | exact H
            have Ny175 := Aside0.mk hy175; clear hy175; have H' := Aside0.mk H; clear H; have p173 : 0 ≤ (x6_2 : Int) := ode; have q173 : x6_2 < (l0.length : Int) := ode; obtain ⟨ad173, e173, hx173_0, hx173_1⟩ := at_T80 HR0.out x6_2 p173 q173; obtain rfl : ad168 = ad173 := (by injection e173); replace hx173_0 := cl HB hx173_0; replace hx173_1 := cl HB hx173_1; replace p173 := eq_true p173; replace q173 := eq_true q173; have p174 : 0 ≤ (x6_2 : Int) := ode; have q174 : x6_2 < (l0.length : Int) := ode; obtain ⟨ad174, e174, hx174_0, hx174_1⟩ := at_T80 HR0.out x6_2 p174 q174; obtain rfl : ad168 = ad174 := (by injection e174); replace hx174_0 := cl HB hx174_0; replace hx174_1 := cl HB hx174_1; replace p174 := eq_true p174; replace q174 := eq_true q174
            go_wp2_with (first | ((with_reducible refine gate_builtin (b := .append) (xs := #[.tmp 42, .tmp 49]) rfl ?_); at_builtin; refine Kd.R_append (Kd.int .u8) (w0 := w) w.heap.size rfl (.tmp 42) (.tmp 49) 78 5 (.int .u8 0) 1 rfl Try.underlying78 info5 rfl (by decide) (by omega) u7 x7_2 (((rd_T80 l0 x6_2).f1) % 256) [.int .u8 (((rd_T80 l0 x6_2).f1) % 256)] (fun _ => True) (fun _ => False) rfl rfl ?aP (fun _ hk => hk.elim) ?aF ?aO ?aB ?aS ?aL ?_; (case aP => exact rfl); (case aB => exact (bl HB)); (case aF => exact (fun _ _ => trivial)); (case aO => exact (rl HO_7)); (case aS => exact (below_size (bl HB))); (case aL => have := LMc12.out; omega); intro v176 w13 ho hb hg hat; rw [← Ny175.out] at ho; have n0_ := Aside0.mk (Kd.S_over' (by (with_reducible repeat (first | apply Kd.S_alloc | apply Kd.S_drewN | apply Kd.S_drew)); exact HO_4.out) (Kd.R_typed (rl HO_7)) (by decide) hg); have n1_ := Aside0.mk (hb); have n2_ := Aside0.mk (ho); clear HO_4; clear HB; clear HO_7; have HO_4 := n0_; have HB := n1_; have HO177 := n2_; clear n0_ n1_ n2_; clear ho hb hg hat))
            go_roundg k2
            case measure => have := HK1.out; have := HK2.out; omega
            case rel => exact ⟨(wrap64 (x6_2 + 1)), (y175), au, H', ⟨by have := HK1.out; have := HK2.out; omega⟩, ⟨by (with_reducible repeat (first | apply Kd.S_alloc | apply Kd.S_drewN | apply Kd.S_drew)); exact HO_4.out⟩, ⟨rl HO177⟩, ⟨bl HB⟩⟩
           ·rw [if_neg c12] at H
            exact absurd H (by simp)
          ·rw [if_neg c11] at H
           have c11b0 : decide (((rd_T80 l0 x6_2).f0) < 0) = false := decide_eq_false c11; clear c11; replace H := Option.bind_eq_some_iff.mp H; obtain ⟨⟨t178, t179, t182⟩, A140, H⟩ := H; replace H : (if x4_1.length < 2513169434916 then (spec_l5Form.l0 k2 l0 (x4_1 ++ [(⟨(-1), 0, t178, (⟨t178, t179⟩ : S41)⟩ : S67)]) x6_2) else (none)) = some (r1, r2) := H; have A14 := Aside0.mk A140; clear A140
           by_cases c15 : x4_1.length < 2513169434916
           ·rw [if_pos c15] at H
            have LMc15 := Aside0.mk c15; clear c15; obtain ⟨y184, hy184⟩ : ∃ y_ : List (S67), y_ = (x4_1 ++ [(⟨(-1), 0, t178, (⟨t178, t179⟩ : S41)⟩ : S67)]) := ⟨_, rfl⟩
            replace H : (spec_l5Form.l0 k2 l0 y184 x6_2) = some (r1, r2) := by first | (rw [hy184]; with_reducible exact H) | (have H2_ := (Option.bind_some _ _).symm.trans H; rw [hy184]; with_reducible exact H2_) | (have H2_ := (Option.bind_some _ _).symm.trans H; with_reducible exact H2_) | with_reducible exact H | (rw [hy184]; exact H) | exact H
            have Ny184 := Aside0.mk hy184; clear hy184; have H' := Aside0.mk H; clear H; have p173 : 0 ≤ (x6_2 : Int) := ode; have q173 : x6_2 < (l0.length : Int) := ode; obtain ⟨ad173, e173, hx173_0, hx173_1⟩ := at_T80 HR0.out x6_2 p173 q173; obtain rfl : ad168 = ad173 := (by injection e173); replace hx173_0 := cl HB hx173_0; replace hx173_1 := cl HB hx173_1; replace p173 := eq_true p173; replace q173 := eq_true q173; obtain ⟨Ao16, co16, eo16⟩ := Kd.R_slice HO_7.out
            subst eo16
            go_wp2_with (first | ((with_reducible refine gate_callee (f := 48) rfl ?_); refine goesL_ (some 55) rfl rfl Try.func48 (by kernel_rfl) rfl #[.slice Ao16 x7_2.length co16] rfl ma ?_; (with_reducible refine (spec_l1From.calls k2 _ _ x7_2 t178 t179 t182 _ ?side1 ?side2 A14.out).mono ?_); (case side1 => repeat (first | exact (Kd.R_reads' HO_7.out).2.2 | (with_reducible refine Kd.C_alloc ?_ _) | (with_reducible refine Kd.C_drewN ?_ _) | (with_reducible refine Kd.C_drew ?_))); (case side2 => exact (Kd.R_reads' HO_7.out).2.1); rintro e w17 ⟨v180, rfl, ho0, hb⟩; refine ⟨_, rfl, ?_⟩; have n0_ := Aside0.mk (Kd.S_elder' (by (with_reducible repeat (first | apply Kd.S_alloc | apply Kd.S_drewN | apply Kd.S_drew)); exact HO_4.out) (Kd.R_base ho0) hb); have n1_ := Aside0.mk (Kd.R_below (rl HO_7) hb); have n2_ := Aside0.mk (Kd.R_lower ho0 (below_size (bl HB))); have n3_ := Aside0.mk (below_step (bl HB) hb); clear HO_4; clear HO_7; clear HB; have HO_4 := n0_; have HO_7 := n1_; have HO181 := n2_; have HB := n3_; clear n0_ n1_ n2_ n3_; (try clear hb); (try clear hb2); (try clear hk); (try clear hi); (try clear ho0)) | ((with_reducible refine gate_dst (N := 8) rfl ?_); refine box_event ?hg (N := 8) ?hd (cs := #[.int .i64 0, .slice none 0 0]) (t := 41) ?hr ?_; (case hd => rfl); (case hg => rfl); (case hr => first | (go_simp; done) | (go_simp; rfl)); intro gb183 hg w18 hbox hb; have n0_ := Aside0.mk (Kd.S_below (by (with_reducible repeat (first | apply Kd.S_alloc | apply Kd.S_drewN | apply Kd.S_drew)); exact HO_4.out) hb); have n1_ := Aside0.mk (Kd.R_below (rl HO_7) hb); have n2_ := Aside0.mk (Kd.R_below (rl HO181) hb); have n3_ := Aside0.mk (below_step (bl HB) hb); have n4_ := Aside0.mk (hbox); have n5_ := Aside0.mk ((by rw [hg]; exact (below_size (bl HB)) : w.heap.size ≤ gb183)); have n6_ := Aside0.mk ((by rw [hg]; exact (below_size (bl HB)) : w.heap.size ≤ gb183)); clear HO_4; clear HO_7; clear HO181; clear HB; have HO_4 := n0_; have HO_7 := n1_; have HO181 := n2_; have HB := n3_; have BK183 := n4_; have GW183 := n5_; have GE183 := n6_; clear n0_ n1_ n2_ n3_ n4_ n5_ n6_; clear hb hbox hg; have hcz19_0 : w18.cell? ⟨gb183, 0, none⟩ = some (.int .i64 0) := (blk_cell BK183.out 0).trans rfl; have hcz19_1 : w18.cell? ⟨gb183, 1, none⟩ = some (.slice none 0 0) := (blk_cell BK183.out 1).trans rfl; have hfz19_0 := blk_frozen BK183.out 0; have hfz19_1 := blk_frozen BK183.out 1; obtain ⟨Ao20, co20, eo20⟩ := Kd.R_slice HO181.out; subst eo20) | ((with_reducible refine gate_store (t := 41) (p := 8) rfl ?_); refine store_event (t := 41) (p := 8) (v := ?vo_w21) (w1 := ((w18.setCell ⟨gb183, 0, none⟩ (.int .i64 t178)).setCell ⟨gb183, 1, none⟩ (.slice Ao20 t179.length co20))) ?hg ?ho ?hn ?hr ?_; (case ho => rfl); (case hg => rfl); (case hn => rfl); (case hr => first | (go_simp; done) | (go_simp; rfl) | ((try (obtain ⟨_, _, e_⟩ := Kd.S_slice HO_4.out; subst e_)); (try (obtain ⟨_, _, e_⟩ := Kd.R_slice HO_7.out; subst e_)); (try (obtain ⟨_, _, e_⟩ := Kd.R_slice HO181.out; subst e_)); first | (go_simp; done) | (go_simp; rfl))); intro w21 hw; have n0_ : Aside0 (Kd.S k67 67 w21 w.heap.size (fun k_ => some k_ ≠ (.slice Ao20 t179.length co20 : Value).ownBlock) u4 x4_1) := ⟨(by rw [hw]; exact (by (with_reducible repeat (first | apply Kd.S_alloc | apply Kd.S_drewN | apply Kd.S_drew)); exact Kd.S_mono (Kd.S_far (p := ⟨gb183, 1, none⟩) (Kd.S_far (p := ⟨gb183, 0, none⟩) (Kd.S_types HO_4.out BK183.out (by decide)) (fun _ hk => hk.2) (.int .i64 t178)) (fun _ hk => hk.2) (.slice Ao20 t179.length co20)) (fun _ hk => hk.1.2)))⟩; have n1_ : Aside0 (Kd.R (Kd.int .u8) 5 w21 w.heap.size (fun _ => True) (.slice Ao16 x7_2.length co16) x7_2) := ⟨(by rw [hw]; exact (by (with_reducible repeat (first | apply Kd.R_alloc | apply Kd.R_drewN | apply Kd.R_drew)); exact Kd.R_mono (Kd.R_far (p := ⟨gb183, 1, none⟩) (Kd.R_far (p := ⟨gb183, 0, none⟩) (Kd.R_types HO_7.out BK183.out (by decide)) (fun _ hk => hk.2) (.int .i64 t178)) (fun _ hk => hk.2) (.slice Ao20 t179.length co20)) (fun _ hk => trivial)))⟩; have n2_ : Aside0 (Kd.R (Kd.int .u64) 93 w21 w.heap.size (fun _ => True) (.slice Ao20 t179.length co20) t179) := ⟨(by rw [hw]; exact (by (with_reducible repeat (first | apply Kd.R_alloc | apply Kd.R_drewN | apply Kd.R_drew)); exact Kd.R_mono (Kd.R_far (p := ⟨gb183, 1, none⟩) (Kd.R_far (p := ⟨gb183, 0, none⟩) (Kd.R_types HO181.out BK183.out (by decide)) (fun _ hk => hk.2) (.int .i64 t178)) (fun _ hk => hk.2) (.slice Ao20 t179.length co20)) (fun _ hk => trivial)))⟩; have n3_ : Aside0 (w21.heap[gb183]? = some (.cells #[.int .i64 t178, .slice Ao20 t179.length co20] 41 (0, 0))) := ⟨(by rw [hw]; exact (by (with_reducible repeat (first | refine blk_drewN ?_ _ | refine blk_drew ?_ | refine blk_alloc ?_ _)); refine blk_put (cs := #[.int .i64 t178, .slice none 0 0]) ?_ 1 _ rfl; (with_reducible repeat (first | refine blk_drewN ?_ _ | refine blk_drew ?_ | refine blk_alloc ?_ _)); refine blk_put (cs := #[.int .i64 0, .slice none 0 0]) ?_ 0 _ rfl; (with_reducible repeat (first | refine blk_drewN ?_ _ | refine blk_drew ?_ | refine blk_alloc ?_ _)); exact BK183.out))⟩; have n4_ : Aside0 (Below w.heap.size w w21) := ⟨(by rw [hw]; exact (bs HB GE183))⟩; clear hw; clear HO_4; clear HO_7; clear HO181; clear BK183; clear HB; have HO_4 := n0_; have HO_7 := n1_; have HO181 := n2_; have BK183 := n3_; have HB := n4_; clear n0_ n1_ n2_ n3_ n4_; have hcz22_0 : w21.cell? ⟨gb183, 0, none⟩ = some (.int .i64 t178) := (blk_cell BK183.out 0).trans rfl; have hcz22_1 : w21.cell? ⟨gb183, 1, none⟩ = some (.slice Ao20 t179.length co20) := (blk_cell BK183.out 1).trans rfl; have hfz22_0 := blk_frozen BK183.out 0; have hfz22_1 := blk_frozen BK183.out 1) | ((with_reducible refine gate_builtin (b := .append) (xs := #[.tmp 58, .tmp 63]) rfl ?_); at_builtin; refine Kd.S_append k67 (w0 := w) w.heap.size rfl (.tmp 58) (.tmp 63) 26 67 (.agg #[(.int .i64 0), (.int .i64 0), (.int .i64 0), (.int .i64 0), (.slice none 0 0)]) 56 rfl Try.underlying26 info67 rfl (by decide) (by omega) u4 x4_1 (⟨(-1), 0, t178, (⟨t178, t179⟩ : S41)⟩ : S67) [.int .i64 (-1), .int .i64 0, .int .i64 t178, .int .i64 t178, .slice Ao20 t179.length co20] (fun _ => True) (fun k_ => some k_ = (.slice Ao20 t179.length co20 : Value).ownBlock) rfl rfl ?aP (fun k_ hk_ => ((Kd.R_mono (ok' := fun k_ => ((fun _ => True)) k_ ∧ some k_ ≠ (u4 : Value).ownBlock) (Kd.R_apart' (HO181.out) (Kd.S_typed HO_4.out) (by decide)) (fun k_ hk => ⟨trivial, hk.2⟩))).1 k_ hk_.symm) ?aF ?aO ?aB ?aS ?aL ?_; (case aP => exact k67_mkM _ _ _ (⟨(-1), 0, t178, (⟨t178, t179⟩ : S41)⟩ : S67) (Kd.R_mono (Kd.R_tight rfl (Kd.R_mono (ok' := fun k_ => ((fun _ => True)) k_ ∧ some k_ ≠ (u4 : Value).ownBlock) (Kd.R_apart' (HO181.out) (Kd.S_typed HO_4.out) (by decide)) (fun k_ hk => ⟨trivial, hk.2⟩))) (fun _ h_ => h_))); (case aB => exact (bs HB GE183)); (case aF => exact (fun _ _ => trivial)); (case aO => exact (by (with_reducible repeat (first | apply Kd.S_alloc | apply Kd.S_drewN | apply Kd.S_drew)); exact Kd.S_mono HO_4.out (fun k_ hk => ⟨trivial, fun e_ => hk e_⟩))); (case aS => exact (below_size (bs HB GE183))); (case aL => have := LMc15.out; omega); intro v185 w23 ho hb hg hat; rw [← Ny184.out] at ho; have n0_ := Aside0.mk (Kd.R_over' (rl HO_7) (Kd.S_typed (by (with_reducible repeat (first | apply Kd.S_alloc | apply Kd.S_drewN | apply Kd.S_drew)); exact HO_4.out)) (by decide) hg); have n1_ := Aside0.mk (blk_grown (g := gb183) (o := .cells #[.int .i64 t178, .slice Ao20 t179.length co20] 41 (0, 0)) (bk BK183) hg (Kd.S_ne HO_4.out BK183.out (by decide))); have n2_ := Aside0.mk (hb); have n3_ := Aside0.mk (ho); clear HO_7; clear BK183; clear HB; clear HO_4; clear HO181; have HO_7 := n0_; have BK183 := n1_; have HB := n2_; have HO186 := n3_; clear n0_ n1_ n2_ n3_; clear ho hb hg hat))
            go_roundg k2
            case measure => have := HK1.out; have := HK2.out; omega
            case rel => exact ⟨(y184), (x6_2), au, H', ⟨by have := HK1.out; have := HK2.out; omega⟩, ⟨by (with_reducible repeat (first | apply Kd.S_alloc | apply Kd.S_drewN | apply Kd.S_drew)); exact HO186.out⟩, ⟨bs HB GE183⟩⟩
           ·rw [if_neg c15] at H
            exact absurd H (by simp)
         ·rw [if_neg c10] at H
          exact absurd H (by simp)
        ·rw [if_neg c9] at H
         have c9b0 : decide (x6_2 < (l0.length : Int)) = false := decide_eq_false c9; clear c9; replace H := Option.bind_eq_some_iff.mp H; obtain ⟨⟨t187, t188, t191⟩, A240, H⟩ := H; replace H : (if x4_1.length < 2513169434916 then (spec_l5Form.l0 k2 l0 (x4_1 ++ [(⟨(-1), 0, t187, (⟨t187, t188⟩ : S41)⟩ : S67)]) x6_2) else (none)) = some (r1, r2) := H; have A24 := Aside0.mk A240; clear A240
         by_cases c25 : x4_1.length < 2513169434916
         ·rw [if_pos c25] at H
          have LMc25 := Aside0.mk c25; clear c25; obtain ⟨y193, hy193⟩ : ∃ y_ : List (S67), y_ = (x4_1 ++ [(⟨(-1), 0, t187, (⟨t187, t188⟩ : S41)⟩ : S67)]) := ⟨_, rfl⟩
          replace H : (spec_l5Form.l0 k2 l0 y193 x6_2) = some (r1, r2) := by first | (rw [hy193]; with_reducible exact H) | (have H2_ := (Option.bind_some _ _).symm.trans H; rw [hy193]; with_reducible exact H2_) | (have H2_ := (Option.bind_some _ _).symm.trans H; with_reducible exact H2_) | with_reducible exact H | (rw [hy193]; exact H) | exact H
          have Ny193 := Aside0.mk hy193; clear hy193; have H' := Aside0.mk H; clear H; obtain ⟨Ao26, co26, eo26⟩ := Kd.R_slice HO_7.out
          subst eo26
          go_wp2_with (first | ((with_reducible refine gate_callee (f := 48) rfl ?_); refine goesL_ (some 55) rfl rfl Try.func48 (by kernel_rfl) rfl #[.slice Ao26 x7_2.length co26] rfl ma ?_; (with_reducible refine (spec_l1From.calls k2 _ _ x7_2 t187 t188 t191 _ ?side1 ?side2 A24.out).mono ?_); (case side1 => repeat (first | exact (Kd.R_reads' HO_7.out).2.2 | (with_reducible refine Kd.C_alloc ?_ _) | (with_reducible refine Kd.C_drewN ?_ _) | (with_reducible refine Kd.C_drew ?_))); (case side2 => exact (Kd.R_reads' HO_7.out).2.1); rintro e w27 ⟨v189, rfl, ho0, hb⟩; refine ⟨_, rfl, ?_⟩; have n0_ := Aside0.mk (Kd.S_elder' (by (with_reducible repeat (first | apply Kd.S_alloc | apply Kd.S_drewN | apply Kd.S_drew)); exact HO_4.out) (Kd.R_base ho0) hb); have n1_ := Aside0.mk (Kd.R_below (rl HO_7) hb); have n2_ := Aside0.mk (Kd.R_lower ho0 (below_size (bl HB))); have n3_ := Aside0.mk (below_step (bl HB) hb); clear HO_4; clear HO_7; clear HB; have HO_4 := n0_; have HO_7 := n1_; have HO190 := n2_; have HB := n3_; clear n0_ n1_ n2_ n3_; (try clear hb); (try clear hb2); (try clear hk); (try clear hi); (try clear ho0)) | ((with_reducible refine gate_dst (N := 8) rfl ?_); refine box_event ?hg (N := 8) ?hd (cs := #[.int .i64 0, .slice none 0 0]) (t := 41) ?hr ?_; (case hd => rfl); (case hg => rfl); (case hr => first | (go_simp; done) | (go_simp; rfl)); intro gb192 hg w28 hbox hb; have n0_ := Aside0.mk (Kd.S_below (by (with_reducible repeat (first | apply Kd.S_alloc | apply Kd.S_drewN | apply Kd.S_drew)); exact HO_4.out) hb); have n1_ := Aside0.mk (Kd.R_below (rl HO_7) hb); have n2_ := Aside0.mk (Kd.R_below (rl HO190) hb); have n3_ := Aside0.mk (below_step (bl HB) hb); have n4_ := Aside0.mk (hbox); have n5_ := Aside0.mk ((by rw [hg]; exact (below_size (bl HB)) : w.heap.size ≤ gb192)); have n6_ := Aside0.mk ((by rw [hg]; exact (below_size (bl HB)) : w.heap.size ≤ gb192)); clear HO_4; clear HO_7; clear HO190; clear HB; have HO_4 := n0_; have HO_7 := n1_; have HO190 := n2_; have HB := n3_; have BK192 := n4_; have GW192 := n5_; have GE192 := n6_; clear n0_ n1_ n2_ n3_ n4_ n5_ n6_; clear hb hbox hg; have hcz29_0 : w28.cell? ⟨gb192, 0, none⟩ = some (.int .i64 0) := (blk_cell BK192.out 0).trans rfl; have hcz29_1 : w28.cell? ⟨gb192, 1, none⟩ = some (.slice none 0 0) := (blk_cell BK192.out 1).trans rfl; have hfz29_0 := blk_frozen BK192.out 0; have hfz29_1 := blk_frozen BK192.out 1; obtain ⟨Ao30, co30, eo30⟩ := Kd.R_slice HO190.out; subst eo30) | ((with_reducible refine gate_store (t := 41) (p := 8) rfl ?_); refine store_event (t := 41) (p := 8) (v := ?vo_w31) (w1 := ((w28.setCell ⟨gb192, 0, none⟩ (.int .i64 t187)).setCell ⟨gb192, 1, none⟩ (.slice Ao30 t188.length co30))) ?hg ?ho ?hn ?hr ?_; (case ho => rfl); (case hg => rfl); (case hn => rfl); (case hr => first | (go_simp; done) | (go_simp; rfl) | ((try (obtain ⟨_, _, e_⟩ := Kd.S_slice HO_4.out; subst e_)); (try (obtain ⟨_, _, e_⟩ := Kd.R_slice HO_7.out; subst e_)); (try (obtain ⟨_, _, e_⟩ := Kd.R_slice HO190.out; subst e_)); first | (go_simp; done) | (go_simp; rfl))); intro w31 hw; have n0_ : Aside0 (Kd.S k67 67 w31 w.heap.size (fun k_ => some k_ ≠ (.slice Ao30 t188.length co30 : Value).ownBlock) u4 x4_1) := ⟨(by rw [hw]; exact (by (with_reducible repeat (first | apply Kd.S_alloc | apply Kd.S_drewN | apply Kd.S_drew)); exact Kd.S_mono (Kd.S_far (p := ⟨gb192, 1, none⟩) (Kd.S_far (p := ⟨gb192, 0, none⟩) (Kd.S_types HO_4.out BK192.out (by decide)) (fun _ hk => hk.2) (.int .i64 t187)) (fun _ hk => hk.2) (.slice Ao30 t188.length co30)) (fun _ hk => hk.1.2)))⟩; have n1_ : Aside0 (Kd.R (Kd.int .u8) 5 w31 w.heap.size (fun _ => True) (.slice Ao26 x7_2.length co26) x7_2) := ⟨(by rw [hw]; exact (by (with_reducible repeat (first | apply Kd.R_alloc | apply Kd.R_drewN | apply Kd.R_drew)); exact Kd.R_mono (Kd.R_far (p := ⟨gb192, 1, none⟩) (Kd.R_far (p := ⟨gb192, 0, none⟩) (Kd.R_types HO_7.out BK192.out (by decide)) (fun _ hk => hk.2) (.int .i64 t187)) (fun _ hk => hk.2) (.slice Ao30 t188.length co30)) (fun _ hk => trivial)))⟩; have n2_ : Aside0 (Kd.R (Kd.int .u64) 93 w31 w.heap.size (fun _ => True) (.slice Ao30 t188.length co30) t188) := ⟨(by rw [hw]; exact (by (with_reducible repeat (first | apply Kd.R_alloc | apply Kd.R_drewN | apply Kd.R_drew)); exact Kd.R_mono (Kd.R_far (p := ⟨gb192, 1, none⟩) (Kd.R_far (p := ⟨gb192, 0, none⟩) (Kd.R_types HO190.out BK192.out (by decide)) (fun _ hk => hk.2) (.int .i64 t187)) (fun _ hk => hk.2) (.slice Ao30 t188.length co30)) (fun _ hk => trivial)))⟩; have n3_ : Aside0 (w31.heap[gb192]? = some (.cells #[.int .i64 t187, .slice Ao30 t188.length co30] 41 (0, 0))) := ⟨(by rw [hw]; exact (by (with_reducible repeat (first | refine blk_drewN ?_ _ | refine blk_drew ?_ | refine blk_alloc ?_ _)); refine blk_put (cs := #[.int .i64 t187, .slice none 0 0]) ?_ 1 _ rfl; (with_reducible repeat (first | refine blk_drewN ?_ _ | refine blk_drew ?_ | refine blk_alloc ?_ _)); refine blk_put (cs := #[.int .i64 0, .slice none 0 0]) ?_ 0 _ rfl; (with_reducible repeat (first | refine blk_drewN ?_ _ | refine blk_drew ?_ | refine blk_alloc ?_ _)); exact BK192.out))⟩; have n4_ : Aside0 (Below w.heap.size w w31) := ⟨(by rw [hw]; exact (bs HB GE192))⟩; clear hw; clear HO_4; clear HO_7; clear HO190; clear BK192; clear HB; have HO_4 := n0_; have HO_7 := n1_; have HO190 := n2_; have BK192 := n3_; have HB := n4_; clear n0_ n1_ n2_ n3_ n4_; have hcz32_0 : w31.cell? ⟨gb192, 0, none⟩ = some (.int .i64 t187) := (blk_cell BK192.out 0).trans rfl; have hcz32_1 : w31.cell? ⟨gb192, 1, none⟩ = some (.slice Ao30 t188.length co30) := (blk_cell BK192.out 1).trans rfl; have hfz32_0 := blk_frozen BK192.out 0; have hfz32_1 := blk_frozen BK192.out 1) | ((with_reducible refine gate_builtin (b := .append) (xs := #[.tmp 58, .tmp 63]) rfl ?_); at_builtin; refine Kd.S_append k67 (w0 := w) w.heap.size rfl (.tmp 58) (.tmp 63) 26 67 (.agg #[(.int .i64 0), (.int .i64 0), (.int .i64 0), (.int .i64 0), (.slice none 0 0)]) 56 rfl Try.underlying26 info67 rfl (by decide) (by omega) u4 x4_1 (⟨(-1), 0, t187, (⟨t187, t188⟩ : S41)⟩ : S67) [.int .i64 (-1), .int .i64 0, .int .i64 t187, .int .i64 t187, .slice Ao30 t188.length co30] (fun _ => True) (fun k_ => some k_ = (.slice Ao30 t188.length co30 : Value).ownBlock) rfl rfl ?aP (fun k_ hk_ => ((Kd.R_mono (ok' := fun k_ => ((fun _ => True)) k_ ∧ some k_ ≠ (u4 : Value).ownBlock) (Kd.R_apart' (HO190.out) (Kd.S_typed HO_4.out) (by decide)) (fun k_ hk => ⟨trivial, hk.2⟩))).1 k_ hk_.symm) ?aF ?aO ?aB ?aS ?aL ?_; (case aP => exact k67_mkM _ _ _ (⟨(-1), 0, t187, (⟨t187, t188⟩ : S41)⟩ : S67) (Kd.R_mono (Kd.R_tight rfl (Kd.R_mono (ok' := fun k_ => ((fun _ => True)) k_ ∧ some k_ ≠ (u4 : Value).ownBlock) (Kd.R_apart' (HO190.out) (Kd.S_typed HO_4.out) (by decide)) (fun k_ hk => ⟨trivial, hk.2⟩))) (fun _ h_ => h_))); (case aB => exact (bs HB GE192)); (case aF => exact (fun _ _ => trivial)); (case aO => exact (by (with_reducible repeat (first | apply Kd.S_alloc | apply Kd.S_drewN | apply Kd.S_drew)); exact Kd.S_mono HO_4.out (fun k_ hk => ⟨trivial, fun e_ => hk e_⟩))); (case aS => exact (below_size (bs HB GE192))); (case aL => have := LMc25.out; omega); intro v194 w33 ho hb hg hat; rw [← Ny193.out] at ho; have n0_ := Aside0.mk (Kd.R_over' (rl HO_7) (Kd.S_typed (by (with_reducible repeat (first | apply Kd.S_alloc | apply Kd.S_drewN | apply Kd.S_drew)); exact HO_4.out)) (by decide) hg); have n1_ := Aside0.mk (blk_grown (g := gb192) (o := .cells #[.int .i64 t187, .slice Ao30 t188.length co30] 41 (0, 0)) (bk BK192) hg (Kd.S_ne HO_4.out BK192.out (by decide))); have n2_ := Aside0.mk (hb); have n3_ := Aside0.mk (ho); clear HO_7; clear BK192; clear HB; clear HO_4; clear HO190; have HO_7 := n0_; have BK192 := n1_; have HB := n2_; have HO195 := n3_; clear n0_ n1_ n2_ n3_; clear ho hb hg hat))
          go_roundg k2
          case measure => have := HK1.out; have := HK2.out; omega
          case rel => exact ⟨(y193), (x6_2), au, H', ⟨by have := HK1.out; have := HK2.out; omega⟩, ⟨by (with_reducible repeat (first | apply Kd.S_alloc | apply Kd.S_drewN | apply Kd.S_drew)); exact HO195.out⟩, ⟨bs HB GE192⟩⟩
         ·rw [if_neg c25] at H
          exact absurd H (by simp)
     ·rw [if_neg c6] at H
      have c6b0 : decide (((rd_T80 l0 x5_1).f0) < 0) = false := decide_eq_false c6; clear c6; have H' := Aside0.mk H; clear H; have p168 : 0 ≤ (x5_1 : Int) := ode; have q168 : x5_1 < (l0.length : Int) := ode; obtain ⟨ad168, e168, hx168_0, hx168_1⟩ := at_T80 HR0.out x5_1 p168 q168
      cases e168
      replace hx168_0 := cl HB hx168_0; replace hx168_1 := cl HB hx168_1; replace p168 := eq_true p168; replace q168 := eq_true q168
      go_wp2
      go_loopg [6] k1 (fun kq v6 w' => ∃ (x6_2 : Int), v6 = .int .i64 x6_2 ∧ Aside0 (spec_l5Form.l2 kq l0 x4_1 x5_1 x6_2 = some (r1, r2)) ∧ Aside0 (kq ≤ k1) ∧ Aside0 (Kd.S k67 67 w' w.heap.size (fun _ => True) u4 x4_1) ∧ Aside0 (Below w.heap.size w w'))
      case atStart => exact ⟨(wrap64 (x5_1 + 1)), au, H', ⟨Nat.le_refl _⟩, ⟨by (with_reducible repeat (first | apply Kd.S_alloc | apply Kd.S_drewN | apply Kd.S_drew)); exact HO_4.out⟩, ⟨bl HB⟩⟩
      case round =>
       clear H'
       try clear c1
       try clear p1
       try clear q1
       try clear hx1
       try clear c2
       try clear p2
       try clear c3
       try clear c4
       try clear c4b0
       try clear c5
       try clear c5b0
       try clear c6
       try clear c6b0
       try clear p6
       try clear c9
       try clear c9b0
       try clear c10
       try clear c10b0
       try clear c11
       try clear c11b0
       try clear c12
       try clear c15
       try clear p16
       try clear q16
       try clear hx16
       try clear p17
       try clear q17
       try clear hx17
       try clear c25
       try clear c32
       try clear hcz19_0
       try clear hcz19_1
       try clear hcz22_0
       try clear hcz22_1
       try clear hcz29_0
       try clear hcz29_1
       try clear hcz32_0
       try clear hcz32_1
       try clear hfz19_0
       try clear hfz19_1
       try clear hfz22_0
       try clear hfz22_1
       try clear hfz29_0
       try clear hfz29_1
       try clear hfz32_0
       try clear hfz32_1
       try clear hx168_0
       try clear hx168_1
       try clear hx169_0
       try clear hx169_1
       try clear hx173_0
       try clear hx173_1
       try clear hx174_0
       try clear hx174_1
       try clear p1
       try clear p168
       try clear p169
       try clear p173
       try clear p174
       try clear p2
       try clear p6
       try clear q1
       try clear q168
       try clear q169
       try clear q173
       try clear q174
       obtain ⟨x6_2, rfl, HA, HK2, HO_4, HB⟩ := hrel
       cases gk with
       | zero => exact absurd HA.out (by simp [spec_l5Form.l2])
       | succ k2 =>
        have H := HA.out; clear HA
        simp only [spec_l5Form.l2] at H
        by_cases c34 : x6_2 < (l0.length : Int)
        ·rw [if_pos c34] at H
         have c34b0 : decide (x6_2 < (l0.length : Int)) = true := decide_eq_true c34; clear c34
         by_cases c35 : 0 ≤ x6_2
         ·rw [if_pos c35] at H
          have c35b0 : decide (0 ≤ x6_2) = true := decide_eq_true c35; clear c35
          by_cases c36 : 0 ≤ x5_1
          ·rw [if_pos c36] at H
           have c36b0 : decide (0 ≤ x5_1) = true := decide_eq_true c36; clear c36
           by_cases c37 : x5_1 < (l0.length : Int)
           ·rw [if_pos c37] at H
            have c37b0 : decide (x5_1 < (l0.length : Int)) = true := decide_eq_true c37; clear c37
            by_cases c38 : ((rd_T80 l0 x6_2).f0) = ((rd_T80 l0 x5_1).f0)
            ·rw [if_pos c38] at H
             have c38b0 : (((rd_T80 l0 x6_2).f0) == ((rd_T80 l0 x5_1).f0)) = true := beq_iff_eq.mpr c38; have c38b1 : (((rd_T80 l0 x6_2).f0) != ((rd_T80 l0 x5_1).f0)) = false := bne_eq_false_iff_eq.mpr c38; clear c38; obtain ⟨ji39, hji39⟩ : ∃ j_ : Int, (wrap64 (x6_2 - 1)) = j_ := ⟨_, rfl⟩
             replace H : (if 0 ≤ (ji39) then (if (ji39) < (l0.length : Int) then (if ((rd_T80 l0 x6_2).f1) = (wrap64 (((rd_T80 l0 (ji39)).f1) + 1)) then (spec_l5Form.l2 k2 l0 x4_1 x5_1 (wrap64 (x6_2 + 1))) else (if x4_1.length < 2513169434916 then (spec_l5Form.l0 k2 l0 (x4_1 ++ [(⟨(rd_T80 l0 x5_1).f0, (rd_T80 l0 x5_1).f1, wrap64 (x6_2 - x5_1), (⟨0, ([] : List Int)⟩ : S41)⟩ : S67)]) x6_2) else (none))) else (none)) else (none)) = some (r1, r2) := by first | (rw [hji39] at H; exact H) | (simp only [hji39] at H ⊢; exact H)
             have hji39w : (IntKind.i64.wrap (x6_2 - 1)) = ji39 := (i64_w _).trans hji39
             by_cases c40 : 0 ≤ (ji39)
             ·rw [if_pos c40] at H
              have c40b0 : decide (0 ≤ (ji39)) = true := decide_eq_true c40; clear c40
              by_cases c41 : (ji39) < (l0.length : Int)
              ·rw [if_pos c41] at H
               have c41b0 : decide ((ji39) < (l0.length : Int)) = true := decide_eq_true c41; clear c41
               by_cases c42 : ((rd_T80 l0 x6_2).f1) = (wrap64 (((rd_T80 l0 (ji39)).f1) + 1))
               ·rw [if_pos c42] at H
                have c42b0 : (((rd_T80 l0 x6_2).f1) == (wrap64 (((rd_T80 l0 (ji39)).f1) + 1))) = true := beq_iff_eq.mpr c42; have c42b1 : (((rd_T80 l0 x6_2).f1) != (wrap64 (((rd_T80 l0 (ji39)).f1) + 1))) = false := bne_eq_false_iff_eq.mpr c42; clear c42; have H' := Aside0.mk H; clear H
                try go_wp2
                have p196 : 0 ≤ (x6_2 : Int) := ode; have q196 : x6_2 < (l0.length : Int) := ode; obtain ⟨ad196, e196, hx196_0, hx196_1⟩ := at_T80 HR0.out x6_2 p196 q196; have hw196_1 := hx196_1; have hw196_0 := hx196_0; obtain rfl : ad168 = ad196 := (by injection e196); replace hx196_0 := cl HB hx196_0; replace hx196_1 := cl HB hx196_1; replace p196 := eq_true p196; replace q196 := eq_true q196; have p197 : 0 ≤ (x5_1 : Int) := ode; have q197 : x5_1 < (l0.length : Int) := ode; obtain ⟨ad197, e197, hx197_0, hx197_1⟩ := at_T80 HR0.out x5_1 p197 q197; have hw197_1 := hx197_1; have hw197_0 := hx197_0; obtain rfl : ad168 = ad197 := (by injection e197); replace hx197_0 := cl HB hx197_0; replace hx197_1 := cl HB hx197_1; replace p197 := eq_true p197; replace q197 := eq_true q197; have p198 : 0 ≤ (x6_2 : Int) := ode; have q198 : x6_2 < (l0.length : Int) := ode; obtain ⟨ad198, e198, hx198_0, hx198_1⟩ := at_T80 HR0.out x6_2 p198 q198; have hw198_1 := hx198_1; have hw198_0 := hx198_0; obtain rfl : ad168 = ad198 := (by injection e198); replace hx198_0 := cl HB hx198_0; replace hx198_1 := cl HB hx198_1; replace p198 := eq_true p198; replace q198 := eq_true q198; have p199 : 0 ≤ ((ji39) : Int) := ode; have q199 : (ji39) < (l0.length : Int) := ode; obtain ⟨ad199, e199, hx199_0, hx199_1⟩ := at_T80 HR0.out (ji39) p199 q199; have hw199_1 := hx199_1; have hw199_0 := hx199_0; obtain rfl : ad168 = ad199 := (by injection e199); replace hx199_0 := cl HB hx199_0; replace hx199_1 := cl HB hx199_1; replace p199 := eq_true p199; replace q199 := eq_true q199; obtain ⟨s0_, s1_, s2_, s3_, s4_, s5_, s6_, s7_⟩ : wr.cell? (ad168.add ((x6_2).toNat * 2)) = some (.int .i64 ((rd_T80 l0 x6_2).f0)) ∧ wr.cell? ⟨(ad168.add ((x6_2).toNat * 2)).block, (ad168.add ((x6_2).toNat * 2)).off + 1, none⟩ = some (.int .i64 ((rd_T80 l0 x6_2).f1)) ∧ wr.cell? (ad168.add ((x5_1).toNat * 2)) = some (.int .i64 ((rd_T80 l0 x5_1).f0)) ∧ wr.cell? ⟨(ad168.add ((x5_1).toNat * 2)).block, (ad168.add ((x5_1).toNat * 2)).off + 1, none⟩ = some (.int .i64 ((rd_T80 l0 x5_1).f1)) ∧ wr.cell? (ad168.add ((x6_2).toNat * 2)) = some (.int .i64 ((rd_T80 l0 x6_2).f0)) ∧ wr.cell? ⟨(ad168.add ((x6_2).toNat * 2)).block, (ad168.add ((x6_2).toNat * 2)).off + 1, none⟩ = some (.int .i64 ((rd_T80 l0 x6_2).f1)) ∧ wr.cell? (ad168.add (((ji39)).toNat * 2)) = some (.int .i64 ((rd_T80 l0 (ji39)).f0)) ∧ wr.cell? ⟨(ad168.add (((ji39)).toNat * 2)).block, (ad168.add (((ji39)).toNat * 2)).off + 1, none⟩ = some (.int .i64 ((rd_T80 l0 (ji39)).f1)) := ⟨((HB.out.cell (World.block_lt_of_cell? w _ hw196_0)).trans hw196_0), ((HB.out.cell (World.block_lt_of_cell? w _ hw196_1)).trans hw196_1), ((HB.out.cell (World.block_lt_of_cell? w _ hw197_0)).trans hw197_0), ((HB.out.cell (World.block_lt_of_cell? w _ hw197_1)).trans hw197_1), ((HB.out.cell (World.block_lt_of_cell? w _ hw198_0)).trans hw198_0), ((HB.out.cell (World.block_lt_of_cell? w _ hw198_1)).trans hw198_1), ((HB.out.cell (World.block_lt_of_cell? w _ hw199_0)).trans hw199_0), ((HB.out.cell (World.block_lt_of_cell? w _ hw199_1)).trans hw199_1)⟩
                (try clear hcz19_0); (try clear hcz19_1); (try clear hcz22_0); (try clear hcz22_1); (try clear hcz29_0); (try clear hcz29_1); (try clear hcz32_0); (try clear hcz32_1); (try clear hx168_0); (try clear hx168_1); (try clear hx169_0); (try clear hx169_1); (try clear hx173_0); (try clear hx173_1); (try clear hx174_0); (try clear hx174_1); (try clear hx196_0); (try clear hx196_1); (try clear hx197_0); (try clear hx197_1); (try clear hx198_0); (try clear hx198_1); (try clear hx199_0); (try clear hx199_1)
                go_quiet ((fail))
                clear s0_ s1_ s2_ s3_ s4_ s5_ s6_ s7_; have n0_ := Aside0.mk (Kd.S_drewN HO_4.out nq); have n1_ := Aside0.mk (pw_below_drewN HB.out nq); clear HO_4; clear HB; have HO_4 := n0_; have HB := n1_; clear n0_ n1_; generalize wr.drewN nq = w43 at HB HO_4 ⊢
                try go_wp2
                go_roundg k2
                case measure => have := HK1.out; have := HK2.out; omega
                case rel => exact ⟨(wrap64 (x6_2 + 1)), au, H', ⟨by have := HK1.out; have := HK2.out; omega⟩, ⟨by (with_reducible repeat (first | apply Kd.S_alloc | apply Kd.S_drewN | apply Kd.S_drew)); exact HO_4.out⟩, ⟨bl HB⟩⟩
               ·rw [if_neg c42] at H
                have c42b0 : (((rd_T80 l0 x6_2).f1) == (wrap64 (((rd_T80 l0 (ji39)).f1) + 1))) = false := beq_eq_false_iff_ne.mpr c42; have c42b1 : (((rd_T80 l0 x6_2).f1) != (wrap64 (((rd_T80 l0 (ji39)).f1) + 1))) = true := bne_iff_ne.mpr c42
                by_cases c44 : x4_1.length < 2513169434916
                ·rw [if_pos c44] at H
                 have LMc44 := Aside0.mk c44; clear c44; obtain ⟨y202, hy202⟩ : ∃ y_ : List (S67), y_ = (x4_1 ++ [(⟨(rd_T80 l0 x5_1).f0, (rd_T80 l0 x5_1).f1, wrap64 (x6_2 - x5_1), (⟨0, ([] : List Int)⟩ : S41)⟩ : S67)]) := ⟨_, rfl⟩
                 replace H : (spec_l5Form.l0 k2 l0 y202 x6_2) = some (r1, r2) := by first | (rw [hy202]; with_reducible exact H) | (have H2_ := (Option.bind_some _ _).symm.trans H; rw [hy202]; with_reducible exact H2_) | (have H2_ := (Option.bind_some _ _).symm.trans H; with_reducible exact H2_) | with_reducible exact H | (rw [hy202]; exact H) | exact H
                 have Ny202 := Aside0.mk hy202; clear hy202; have H' := Aside0.mk H; clear H
                 try go_wp2
                 have p196 : 0 ≤ (x6_2 : Int) := ode; have q196 : x6_2 < (l0.length : Int) := ode; obtain ⟨ad196, e196, hx196_0, hx196_1⟩ := at_T80 HR0.out x6_2 p196 q196; have hw196_1 := hx196_1; have hw196_0 := hx196_0; obtain rfl : ad168 = ad196 := (by injection e196); replace hx196_0 := cl HB hx196_0; replace hx196_1 := cl HB hx196_1; replace p196 := eq_true p196; replace q196 := eq_true q196; have p197 : 0 ≤ (x5_1 : Int) := ode; have q197 : x5_1 < (l0.length : Int) := ode; obtain ⟨ad197, e197, hx197_0, hx197_1⟩ := at_T80 HR0.out x5_1 p197 q197; have hw197_1 := hx197_1; have hw197_0 := hx197_0; obtain rfl : ad168 = ad197 := (by injection e197); replace hx197_0 := cl HB hx197_0; replace hx197_1 := cl HB hx197_1; replace p197 := eq_true p197; replace q197 := eq_true q197; have p198 : 0 ≤ (x6_2 : Int) := ode; have q198 : x6_2 < (l0.length : Int) := ode; obtain ⟨ad198, e198, hx198_0, hx198_1⟩ := at_T80 HR0.out x6_2 p198 q198; have hw198_1 := hx198_1; have hw198_0 := hx198_0; obtain rfl : ad168 = ad198 := (by injection e198); replace hx198_0 := cl HB hx198_0; replace hx198_1 := cl HB hx198_1; replace p198 := eq_true p198; replace q198 := eq_true q198; have p199 : 0 ≤ ((ji39) : Int) := ode; have q199 : (ji39) < (l0.length : Int) := ode; obtain ⟨ad199, e199, hx199_0, hx199_1⟩ := at_T80 HR0.out (ji39) p199 q199; have hw199_1 := hx199_1; have hw199_0 := hx199_0; obtain rfl : ad168 = ad199 := (by injection e199); replace hx199_0 := cl HB hx199_0; replace hx199_1 := cl HB hx199_1; replace p199 := eq_true p199; replace q199 := eq_true q199; obtain ⟨s0_, s1_, s2_, s3_, s4_, s5_, s6_, s7_⟩ : wr.cell? (ad168.add ((x6_2).toNat * 2)) = some (.int .i64 ((rd_T80 l0 x6_2).f0)) ∧ wr.cell? ⟨(ad168.add ((x6_2).toNat * 2)).block, (ad168.add ((x6_2).toNat * 2)).off + 1, none⟩ = some (.int .i64 ((rd_T80 l0 x6_2).f1)) ∧ wr.cell? (ad168.add ((x5_1).toNat * 2)) = some (.int .i64 ((rd_T80 l0 x5_1).f0)) ∧ wr.cell? ⟨(ad168.add ((x5_1).toNat * 2)).block, (ad168.add ((x5_1).toNat * 2)).off + 1, none⟩ = some (.int .i64 ((rd_T80 l0 x5_1).f1)) ∧ wr.cell? (ad168.add ((x6_2).toNat * 2)) = some (.int .i64 ((rd_T80 l0 x6_2).f0)) ∧ wr.cell? ⟨(ad168.add ((x6_2).toNat * 2)).block, (ad168.add ((x6_2).toNat * 2)).off + 1, none⟩ = some (.int .i64 ((rd_T80 l0 x6_2).f1)) ∧ wr.cell? (ad168.add (((ji39)).toNat * 2)) = some (.int .i64 ((rd_T80 l0 (ji39)).f0)) ∧ wr.cell? ⟨(ad168.add (((ji39)).toNat * 2)).block, (ad168.add (((ji39)).toNat * 2)).off + 1, none⟩ = some (.int .i64 ((rd_T80 l0 (ji39)).f1)) := ⟨((HB.out.cell (World.block_lt_of_cell? w _ hw196_0)).trans hw196_0), ((HB.out.cell (World.block_lt_of_cell? w _ hw196_1)).trans hw196_1), ((HB.out.cell (World.block_lt_of_cell? w _ hw197_0)).trans hw197_0), ((HB.out.cell (World.block_lt_of_cell? w _ hw197_1)).trans hw197_1), ((HB.out.cell (World.block_lt_of_cell? w _ hw198_0)).trans hw198_0), ((HB.out.cell (World.block_lt_of_cell? w _ hw198_1)).trans hw198_1), ((HB.out.cell (World.block_lt_of_cell? w _ hw199_0)).trans hw199_0), ((HB.out.cell (World.block_lt_of_cell? w _ hw199_1)).trans hw199_1)⟩
                 (try clear hcz19_0); (try clear hcz19_1); (try clear hcz22_0); (try clear hcz22_1); (try clear hcz29_0); (try clear hcz29_1); (try clear hcz32_0); (try clear hcz32_1); (try clear hx168_0); (try clear hx168_1); (try clear hx169_0); (try clear hx169_1); (try clear hx173_0); (try clear hx173_1); (try clear hx174_0); (try clear hx174_1); (try clear hx196_0); (try clear hx196_1); (try clear hx197_0); (try clear hx197_1); (try clear hx198_0); (try clear hx198_1); (try clear hx199_0); (try clear hx199_1)
                 go_quiet ((fail))
                 clear s0_ s1_ s2_ s3_ s4_ s5_ s6_ s7_; have n0_ := Aside0.mk (Kd.S_drewN HO_4.out nq); have n1_ := Aside0.mk (pw_below_drewN HB.out nq); clear HO_4; clear HB; have HO_4 := n0_; have HB := n1_; clear n0_ n1_; generalize wr.drewN nq = w45 at HB HO_4 ⊢
                 try go_wp2
                 have n0_ := Aside0.mk (Kd.S_drew HO_4.out); have n1_ := Aside0.mk (below_drew1 HB.out); clear HO_4; clear HB; have HO_4 := n0_; have HB := n1_; clear n0_ n1_; have p200 : 0 ≤ (x5_1 : Int) := ode; have q200 : x5_1 < (l0.length : Int) := ode; obtain ⟨ad200, e200, hx200_0, hx200_1⟩ := at_T80 HR0.out x5_1 p200 q200; have hw200_1 := hx200_1; have hw200_0 := hx200_0; obtain rfl : ad168 = ad200 := (by injection e200); replace hx200_0 := cl HB hx200_0; replace hx200_1 := cl HB hx200_1; replace p200 := eq_true p200; replace q200 := eq_true q200; have p201 : 0 ≤ (x5_1 : Int) := ode; have q201 : x5_1 < (l0.length : Int) := ode; obtain ⟨ad201, e201, hx201_0, hx201_1⟩ := at_T80 HR0.out x5_1 p201 q201; have hw201_1 := hx201_1; have hw201_0 := hx201_0; obtain rfl : ad168 = ad201 := (by injection e201); replace hx201_0 := cl HB hx201_0; replace hx201_1 := cl HB hx201_1; replace p201 := eq_true p201; replace q201 := eq_true q201; refine start_ (n := 18) (S := fun w' => w'.cell? (ad168.add ((x5_1).toNat * 2)) = some (.int .i64 ((rd_T80 l0 x5_1).f0)) ∧ w'.cell? ⟨(ad168.add ((x5_1).toNat * 2)).block, (ad168.add ((x5_1).toNat * 2)).off + 1, none⟩ = some (.int .i64 ((rd_T80 l0 x5_1).f1)) ∧ w'.cell? (ad168.add ((x5_1).toNat * 2)) = some (.int .i64 ((rd_T80 l0 x5_1).f0)) ∧ w'.cell? ⟨(ad168.add ((x5_1).toNat * 2)).block, (ad168.add ((x5_1).toNat * 2)).off + 1, none⟩ = some (.int .i64 ((rd_T80 l0 x5_1).f1))) (ds := []) #[false, false, false, false, false, false, false, false, false, false, false, false, false, false, false, false, false, false] (by kernel_rfl) rfl rfl ⟨((HB.out.cell (World.block_lt_of_cell? w _ hw200_0)).trans hw200_0), ((HB.out.cell (World.block_lt_of_cell? w _ hw200_1)).trans hw200_1), ((HB.out.cell (World.block_lt_of_cell? w _ hw201_0)).trans hw201_0), ((HB.out.cell (World.block_lt_of_cell? w _ hw201_1)).trans hw201_1)⟩ (fun hHeld => ?_); refine with_tabW spec_l5Form.tab14 spec_l5Form.bits14 (fun HT_ HW_ => ?_); generalize w45.drew = w46 at HO_4 HB hx200_0 hx200_1 hx201_0 hx201_1 hHeld ⊢; refine pu HT_ 0 99 17 ?_; refine pu HT_ 1 100 16 ?_; refine pu HT_ 2 101 15 ?_; refine pu HT_ 3 102 14 ?_; refine pu HT_ 4 103 13 ?_; refine pure_ (i := 6) (N := some 105) (v := ?_) (a' := ?_) #[true, true, true, true, true, false, true, false, false, false, false, false, false, false, false, false, false, false] rfl rfl (any_of HT_.out (by kernel_rfl)) (fun _ _ _ h => h) (Or.inl ⟨by rfl, ?_⟩) ?_ ?_
                 rotate_left
                 ·intro w'
                  go_simp
                  with_reducible rfl
                 rotate_left
                 ·simp only [Act.put, List.setIfInBounds_toArray, List.set_cons_zero, List.set_cons_succ, i64_w, i32_w]
                  rfl
                 refine pure_ (i := 7) (N := some 106) (v := ?_) (a' := ?_) #[true, true, true, true, true, false, true, true, false, false, false, false, false, false, false, false, false, false] rfl rfl (any_of HT_.out (by kernel_rfl)) (fun _ _ _ h => h) (Or.inl ⟨by rfl, ?_⟩) ?_ ?_
                 rotate_left
                 ·intro w'
                  go_simp
                  with_reducible rfl
                 rotate_left
                 ·simp only [Act.put, List.setIfInBounds_toArray, List.set_cons_zero, List.set_cons_succ, i64_w, i32_w]
                  rfl
                 refine pure_ (i := 8) (N := some 107) (v := ?_) (a' := ?_) #[true, true, true, true, true, false, true, true, true, false, false, false, false, false, false, false, false, false] rfl rfl (any_of HT_.out (by kernel_rfl)) (fun _ _ _ h => h) (Or.inl ⟨by rfl, ?_⟩) ?_ ?_
                 rotate_left
                 ·intro w'
                  go_simp
                  with_reducible rfl
                 rotate_left
                 ·simp only [Act.put, List.setIfInBounds_toArray, List.set_cons_zero, List.set_cons_succ, i64_w, i32_w]
                  rfl
                 refine pure_ (i := 9) (N := some 108) (v := ?_) (a' := ?_) #[true, true, true, true, true, false, true, true, true, true, false, false, false, false, false, false, false, false] rfl rfl (any_of HT_.out (by kernel_rfl)) (fun _ _ _ h => h) (Or.inl ⟨by rfl, ?_⟩) ?_ ?_
                 rotate_left
                 ·intro w'
                  go_simp
                  with_reducible rfl
                 rotate_left
                 ·simp only [Act.put, List.setIfInBounds_toArray, List.set_cons_zero, List.set_cons_succ, i64_w, i32_w]
                  rfl
                 refine pure_ (i := 11) (N := some 110) (v := ?_) (a' := ?_) #[true, true, true, true, true, false, true, true, true, true, false, true, false, false, false, false, false, false] rfl rfl (any_of HT_.out (by kernel_rfl)) (fun _ _ _ h => h) (Or.inl ⟨by rfl, ?_⟩) ?_ ?_
                 rotate_left
                 ·intro w'
                  go_simp
                  with_reducible rfl
                 rotate_left
                 ·simp only [Act.put, List.setIfInBounds_toArray, List.set_cons_zero, List.set_cons_succ, i64_w, i32_w]
                  rfl
                 refine pure_ (i := 12) (N := some 111) (v := ?_) (a' := ?_) #[true, true, true, true, true, false, true, true, true, true, false, true, true, false, false, false, false, false] rfl rfl (any_of HT_.out (by kernel_rfl)) (fun _ _ _ h => h) (Or.inl ⟨by rfl, ?_⟩) ?_ ?_
                 rotate_left
                 ·intro w'
                  go_simp
                  with_reducible rfl
                 rotate_left
                 ·simp only [Act.put, List.setIfInBounds_toArray, List.set_cons_zero, List.set_cons_succ, i64_w, i32_w]
                  rfl
                 refine pure_ (i := 13) (N := some 112) (v := ?_) (a' := ?_) #[true, true, true, true, true, false, true, true, true, true, false, true, true, true, false, false, false, false] rfl rfl (any_of HT_.out (by kernel_rfl)) (fun _ _ _ h => h) (Or.inl ⟨by rfl, ?_⟩) ?_ ?_
                 rotate_left
                 ·intro w'
                  go_simp
                  with_reducible rfl
                 rotate_left
                 ·simp only [Act.put, List.setIfInBounds_toArray, List.set_cons_zero, List.set_cons_succ, i64_w, i32_w]
                  rfl
                 refine take_ (i := 5) (N := some 104) (v := ?_) (a' := ?_) #[true, true, true, true, true, true, true, true, true, true, false, true, true, true, false, false, false, false] rfl rfl (take_ofW HT_.out HW_.out (by kernel_rfl)) (fun _ _ _ h => h) (Or.inl ⟨by rfl, ?_⟩) hHeld ?_ ?_
                 rotate_left
                 ·rintro w' ⟨s0, s1, s2, s3⟩
                  go_simp
                  with_reducible rfl
                 rotate_left
                 ·simp only [Act.put, List.setIfInBounds_toArray, List.set_cons_zero, List.set_cons_succ, i64_w, i32_w]
                  rfl
                 refine take_ (i := 10) (N := some 109) (v := ?_) (a' := ?_) #[true, true, true, true, true, true, true, true, true, true, true, true, true, true, false, false, false, false] rfl rfl (take_ofW HT_.out HW_.out (by kernel_rfl)) (fun _ _ _ h => h) (Or.inl ⟨by rfl, ?_⟩) hHeld ?_ ?_
                 rotate_left
                 ·rintro w' ⟨s0, s1, s2, s3⟩
                  go_simp
                  with_reducible rfl
                 rotate_left
                 ·simp only [Act.put, List.setIfInBounds_toArray, List.set_cons_zero, List.set_cons_succ, i64_w, i32_w]
                  rfl
                 refine pu HT_ 14 113 3 ?_; refine on HT_ 15 114 2 (fun K hK => ?_); refine value_ (w1 := ?_) (v := ?_) (by rfl) rfl ?_ ?_
                 rotate_left 2
                 ·go_simp
                  constructor
                  ·rfl
                  ·rfl
                 refine hK.out _ _ ⟨(World.cell?_alloc_lt _ _ _ (World.block_lt_of_cell? _ _ (((HB.out.cell (World.block_lt_of_cell? w _ hw200_0)).trans hw200_0)))).trans (((HB.out.cell (World.block_lt_of_cell? w _ hw200_0)).trans hw200_0)), (World.cell?_alloc_lt _ _ _ (World.block_lt_of_cell? _ _ (((HB.out.cell (World.block_lt_of_cell? w _ hw200_1)).trans hw200_1)))).trans (((HB.out.cell (World.block_lt_of_cell? w _ hw200_1)).trans hw200_1)), (World.cell?_alloc_lt _ _ _ (World.block_lt_of_cell? _ _ (((HB.out.cell (World.block_lt_of_cell? w _ hw201_0)).trans hw201_0)))).trans (((HB.out.cell (World.block_lt_of_cell? w _ hw201_0)).trans hw201_0)), (World.cell?_alloc_lt _ _ _ (World.block_lt_of_cell? _ _ (((HB.out.cell (World.block_lt_of_cell? w _ hw201_1)).trans hw201_1)))).trans (((HB.out.cell (World.block_lt_of_cell? w _ hw201_1)).trans hw201_1))⟩ (fun hHeld => ?_); clear hK K; refine nm 114 ?_; refine on HT_ 16 115 1 (fun K hK => ?_); refine Kd.S_append_step k67 (w0 := w) w.heap.size (by rfl) (.tmp 99) (.tmp 114) 26 67 (.agg #[(.int .i64 0), (.int .i64 0), (.int .i64 0), (.int .i64 0), (.slice none 0 0)]) 56 rfl Try.underlying26 info67 rfl (by decide) (by omega) u4 x4_1 (⟨(rd_T80 l0 x5_1).f0, (rd_T80 l0 x5_1).f1, wrap64 (x6_2 - x5_1), (⟨0, ([] : List Int)⟩ : S41)⟩ : S67) [.int .i64 ((rd_T80 l0 x5_1).f0), .int .i64 ((rd_T80 l0 x5_1).f1), .int .i64 (wrap64 (x6_2 - x5_1)), .int .i64 0, .slice none 0 0] (fun _ => True) (fun _ => False) rfl rfl ?aP (fun k_ hk_ => hk_.elim) ?aF ?aO ?aB ?aS ?aL ?_
                 (case aP => exact k67_mkM _ _ _ (⟨(rd_T80 l0 x5_1).f0, (rd_T80 l0 x5_1).f1, wrap64 (x6_2 - x5_1), (⟨0, ([] : List Int)⟩ : S41)⟩ : S67) (Kd.R_nil _ _ _ _ _))
                 (case aB => exact (bl HB))
                 (case aF => exact (fun _ _ => trivial))
                 (case aO => exact (by (with_reducible repeat (first | apply Kd.S_alloc | apply Kd.S_drewN | apply Kd.S_drew)); exact Kd.S_mono HO_4.out (fun k_ hk => ⟨trivial, fun e_ => e_⟩)))
                 (case aS => exact (below_size (bl HB)))
                 (case aL => have := LMc44.out; omega)
                 intro v203 w47 ho hb hg hat
                 rw [← Ny202.out] at ho; have n0_ := Aside0.mk (hb); have n1_ := Aside0.mk (ho); clear HB; clear HO_4; have HB := n0_; have HO204 := n1_; clear n0_ n1_; clear ho hb hg hat; refine hK.out _ _ ⟨((HB.out.cell (World.block_lt_of_cell? w _ hw200_0)).trans hw200_0), ((HB.out.cell (World.block_lt_of_cell? w _ hw200_1)).trans hw200_1), ((HB.out.cell (World.block_lt_of_cell? w _ hw201_0)).trans hw201_0), ((HB.out.cell (World.block_lt_of_cell? w _ hw201_1)).trans hw201_1)⟩ (fun hHeld => ?_); clear hK K; refine nm 115 ?_; refine pu HT_ 17 4 0 ?_; refine done_ (done_of HT_.out (by kernel_rfl)) ?_
                 try go_wp2
                 go_roundg k2
                 case measure => have := HK1.out; have := HK2.out; omega
                 case rel => exact ⟨(y202), (x6_2), au, H', ⟨by have := HK1.out; have := HK2.out; omega⟩, ⟨by (with_reducible repeat (first | apply Kd.S_alloc | apply Kd.S_drewN | apply Kd.S_drew)); exact HO204.out⟩, ⟨bl HB⟩⟩
                ·rw [if_neg c44] at H
                 exact absurd H (by simp)
              ·rw [if_neg c41] at H
               exact absurd H (by simp)
             ·rw [if_neg c40] at H
              exact absurd H (by simp)
            ·rw [if_neg c38] at H
             have c38b0 : (((rd_T80 l0 x6_2).f0) == ((rd_T80 l0 x5_1).f0)) = false := beq_eq_false_iff_ne.mpr c38; have c38b1 : (((rd_T80 l0 x6_2).f0) != ((rd_T80 l0 x5_1).f0)) = true := bne_iff_ne.mpr c38
             by_cases c48 : x4_1.length < 2513169434916
             ·rw [if_pos c48] at H
              have LMc48 := Aside0.mk c48; clear c48; obtain ⟨y207, hy207⟩ : ∃ y_ : List (S67), y_ = (x4_1 ++ [(⟨(rd_T80 l0 x5_1).f0, (rd_T80 l0 x5_1).f1, wrap64 (x6_2 - x5_1), (⟨0, ([] : List Int)⟩ : S41)⟩ : S67)]) := ⟨_, rfl⟩
              replace H : (spec_l5Form.l0 k2 l0 y207 x6_2) = some (r1, r2) := by first | (rw [hy207]; with_reducible exact H) | (have H2_ := (Option.bind_some _ _).symm.trans H; rw [hy207]; with_reducible exact H2_) | (have H2_ := (Option.bind_some _ _).symm.trans H; with_reducible exact H2_) | with_reducible exact H | (rw [hy207]; exact H) | exact H
              have Ny207 := Aside0.mk hy207; clear hy207; have H' := Aside0.mk H; clear H
              try go_wp2
              have p196 : 0 ≤ (x6_2 : Int) := ode; have q196 : x6_2 < (l0.length : Int) := ode; obtain ⟨ad196, e196, hx196_0, hx196_1⟩ := at_T80 HR0.out x6_2 p196 q196; have hw196_1 := hx196_1; have hw196_0 := hx196_0; obtain rfl : ad168 = ad196 := (by injection e196); replace hx196_0 := cl HB hx196_0; replace hx196_1 := cl HB hx196_1; replace p196 := eq_true p196; replace q196 := eq_true q196; have p197 : 0 ≤ (x5_1 : Int) := ode; have q197 : x5_1 < (l0.length : Int) := ode; obtain ⟨ad197, e197, hx197_0, hx197_1⟩ := at_T80 HR0.out x5_1 p197 q197; have hw197_1 := hx197_1; have hw197_0 := hx197_0; obtain rfl : ad168 = ad197 := (by injection e197); replace hx197_0 := cl HB hx197_0; replace hx197_1 := cl HB hx197_1; replace p197 := eq_true p197; replace q197 := eq_true q197; obtain ⟨s0_, s1_, s2_, s3_⟩ : wr.cell? (ad168.add ((x6_2).toNat * 2)) = some (.int .i64 ((rd_T80 l0 x6_2).f0)) ∧ wr.cell? ⟨(ad168.add ((x6_2).toNat * 2)).block, (ad168.add ((x6_2).toNat * 2)).off + 1, none⟩ = some (.int .i64 ((rd_T80 l0 x6_2).f1)) ∧ wr.cell? (ad168.add ((x5_1).toNat * 2)) = some (.int .i64 ((rd_T80 l0 x5_1).f0)) ∧ wr.cell? ⟨(ad168.add ((x5_1).toNat * 2)).block, (ad168.add ((x5_1).toNat * 2)).off + 1, none⟩ = some (.int .i64 ((rd_T80 l0 x5_1).f1)) := ⟨((HB.out.cell (World.block_lt_of_cell? w _ hw196_0)).trans hw196_0), ((HB.out.cell (World.block_lt_of_cell? w _ hw196_1)).trans hw196_1), ((HB.out.cell (World.block_lt_of_cell? w _ hw197_0)).trans hw197_0), ((HB.out.cell (World.block_lt_of_cell? w _ hw197_1)).trans hw197_1)⟩
              (try clear hcz19_0); (try clear hcz19_1); (try clear hcz22_0); (try clear hcz22_1); (try clear hcz29_0); (try clear hcz29_1); (try clear hcz32_0); (try clear hcz32_1); (try clear hx168_0); (try clear hx168_1); (try clear hx169_0); (try clear hx169_1); (try clear hx173_0); (try clear hx173_1); (try clear hx174_0); (try clear hx174_1); (try clear hx196_0); (try clear hx196_1); (try clear hx197_0); (try clear hx197_1)
              go_quiet ((fail))
              clear s0_ s1_ s2_ s3_; have n0_ := Aside0.mk (Kd.S_drewN HO_4.out nq); have n1_ := Aside0.mk (pw_below_drewN HB.out nq); clear HO_4; clear HB; have HO_4 := n0_; have HB := n1_; clear n0_ n1_; generalize wr.drewN nq = w49 at HB HO_4 ⊢
              try go_wp2
              have n0_ := Aside0.mk (Kd.S_drew HO_4.out); have n1_ := Aside0.mk (below_drew1 HB.out); clear HO_4; clear HB; have HO_4 := n0_; have HB := n1_; clear n0_ n1_; have p205 : 0 ≤ (x5_1 : Int) := ode; have q205 : x5_1 < (l0.length : Int) := ode; obtain ⟨ad205, e205, hx205_0, hx205_1⟩ := at_T80 HR0.out x5_1 p205 q205; have hw205_1 := hx205_1; have hw205_0 := hx205_0; obtain rfl : ad168 = ad205 := (by injection e205); replace hx205_0 := cl HB hx205_0; replace hx205_1 := cl HB hx205_1; replace p205 := eq_true p205; replace q205 := eq_true q205; have p206 : 0 ≤ (x5_1 : Int) := ode; have q206 : x5_1 < (l0.length : Int) := ode; obtain ⟨ad206, e206, hx206_0, hx206_1⟩ := at_T80 HR0.out x5_1 p206 q206; have hw206_1 := hx206_1; have hw206_0 := hx206_0; obtain rfl : ad168 = ad206 := (by injection e206); replace hx206_0 := cl HB hx206_0; replace hx206_1 := cl HB hx206_1; replace p206 := eq_true p206; replace q206 := eq_true q206; refine start_ (n := 18) (S := fun w' => w'.cell? (ad168.add ((x5_1).toNat * 2)) = some (.int .i64 ((rd_T80 l0 x5_1).f0)) ∧ w'.cell? ⟨(ad168.add ((x5_1).toNat * 2)).block, (ad168.add ((x5_1).toNat * 2)).off + 1, none⟩ = some (.int .i64 ((rd_T80 l0 x5_1).f1)) ∧ w'.cell? (ad168.add ((x5_1).toNat * 2)) = some (.int .i64 ((rd_T80 l0 x5_1).f0)) ∧ w'.cell? ⟨(ad168.add ((x5_1).toNat * 2)).block, (ad168.add ((x5_1).toNat * 2)).off + 1, none⟩ = some (.int .i64 ((rd_T80 l0 x5_1).f1))) (ds := []) #[false, false, false, false, false, false, false, false, false, false, false, false, false, false, false, false, false, false] (by kernel_rfl) rfl rfl ⟨((HB.out.cell (World.block_lt_of_cell? w _ hw205_0)).trans hw205_0), ((HB.out.cell (World.block_lt_of_cell? w _ hw205_1)).trans hw205_1), ((HB.out.cell (World.block_lt_of_cell? w _ hw206_0)).trans hw206_0), ((HB.out.cell (World.block_lt_of_cell? w _ hw206_1)).trans hw206_1)⟩ (fun hHeld => ?_); refine with_tabW spec_l5Form.tab14 spec_l5Form.bits14 (fun HT_ HW_ => ?_); generalize w49.drew = w50 at HO_4 HB hx205_0 hx205_1 hx206_0 hx206_1 hHeld ⊢; refine pu HT_ 0 99 17 ?_; refine pu HT_ 1 100 16 ?_; refine pu HT_ 2 101 15 ?_; refine pu HT_ 3 102 14 ?_; refine pu HT_ 4 103 13 ?_; refine pure_ (i := 6) (N := some 105) (v := ?_) (a' := ?_) #[true, true, true, true, true, false, true, false, false, false, false, false, false, false, false, false, false, false] rfl rfl (any_of HT_.out (by kernel_rfl)) (fun _ _ _ h => h) (Or.inl ⟨by rfl, ?_⟩) ?_ ?_
              rotate_left
              ·intro w'
               go_simp
               with_reducible rfl
              rotate_left
              ·simp only [Act.put, List.setIfInBounds_toArray, List.set_cons_zero, List.set_cons_succ, i64_w, i32_w]
               rfl
              refine pure_ (i := 7) (N := some 106) (v := ?_) (a' := ?_) #[true, true, true, true, true, false, true, true, false, false, false, false, false, false, false, false, false, false] rfl rfl (any_of HT_.out (by kernel_rfl)) (fun _ _ _ h => h) (Or.inl ⟨by rfl, ?_⟩) ?_ ?_
              rotate_left
              ·intro w'
               go_simp
               with_reducible rfl
              rotate_left
              ·simp only [Act.put, List.setIfInBounds_toArray, List.set_cons_zero, List.set_cons_succ, i64_w, i32_w]
               rfl
              refine pure_ (i := 8) (N := some 107) (v := ?_) (a' := ?_) #[true, true, true, true, true, false, true, true, true, false, false, false, false, false, false, false, false, false] rfl rfl (any_of HT_.out (by kernel_rfl)) (fun _ _ _ h => h) (Or.inl ⟨by rfl, ?_⟩) ?_ ?_
              rotate_left
              ·intro w'
               go_simp
               with_reducible rfl
              rotate_left
              ·simp only [Act.put, List.setIfInBounds_toArray, List.set_cons_zero, List.set_cons_succ, i64_w, i32_w]
               rfl
              refine pure_ (i := 9) (N := some 108) (v := ?_) (a' := ?_) #[true, true, true, true, true, false, true, true, true, true, false, false, false, false, false, false, false, false] rfl rfl (any_of HT_.out (by kernel_rfl)) (fun _ _ _ h => h) (Or.inl ⟨by rfl, ?_⟩) ?_ ?_
              rotate_left
              ·intro w'
               go_simp
               with_reducible rfl
              rotate_left
              ·simp only [Act.put, List.setIfInBounds_toArray, List.set_cons_zero, List.set_cons_succ, i64_w, i32_w]
               rfl
              refine pure_ (i := 11) (N := some 110) (v := ?_) (a' := ?_) #[true, true, true, true, true, false, true, true, true, true, false, true, false, false, false, false, false, false] rfl rfl (any_of HT_.out (by kernel_rfl)) (fun _ _ _ h => h) (Or.inl ⟨by rfl, ?_⟩) ?_ ?_
              rotate_left
              ·intro w'
               go_simp
               with_reducible rfl
              rotate_left
              ·simp only [Act.put, List.setIfInBounds_toArray, List.set_cons_zero, List.set_cons_succ, i64_w, i32_w]
               rfl
              refine pure_ (i := 12) (N := some 111) (v := ?_) (a' := ?_) #[true, true, true, true, true, false, true, true, true, true, false, true, true, false, false, false, false, false] rfl rfl (any_of HT_.out (by kernel_rfl)) (fun _ _ _ h => h) (Or.inl ⟨by rfl, ?_⟩) ?_ ?_
              rotate_left
              ·intro w'
               go_simp
               with_reducible rfl
              rotate_left
              ·simp only [Act.put, List.setIfInBounds_toArray, List.set_cons_zero, List.set_cons_succ, i64_w, i32_w]
               rfl
              refine pure_ (i := 13) (N := some 112) (v := ?_) (a' := ?_) #[true, true, true, true, true, false, true, true, true, true, false, true, true, true, false, false, false, false] rfl rfl (any_of HT_.out (by kernel_rfl)) (fun _ _ _ h => h) (Or.inl ⟨by rfl, ?_⟩) ?_ ?_
              rotate_left
              ·intro w'
               go_simp
               with_reducible rfl
              rotate_left
              ·simp only [Act.put, List.setIfInBounds_toArray, List.set_cons_zero, List.set_cons_succ, i64_w, i32_w]
               rfl
              refine take_ (i := 5) (N := some 104) (v := ?_) (a' := ?_) #[true, true, true, true, true, true, true, true, true, true, false, true, true, true, false, false, false, false] rfl rfl (take_ofW HT_.out HW_.out (by kernel_rfl)) (fun _ _ _ h => h) (Or.inl ⟨by rfl, ?_⟩) hHeld ?_ ?_
              rotate_left
              ·rintro w' ⟨s0, s1, s2, s3⟩
               go_simp
               with_reducible rfl
              rotate_left
              ·simp only [Act.put, List.setIfInBounds_toArray, List.set_cons_zero, List.set_cons_succ, i64_w, i32_w]
               rfl
              refine take_ (i := 10) (N := some 109) (v := ?_) (a' := ?_) #[true, true, true, true, true, true, true, true, true, true, true, true, true, true, false, false, false, false] rfl rfl (take_ofW HT_.out HW_.out (by kernel_rfl)) (fun _ _ _ h => h) (Or.inl ⟨by rfl, ?_⟩) hHeld ?_ ?_
              rotate_left
              ·rintro w' ⟨s0, s1, s2, s3⟩
               go_simp
               with_reducible rfl
              rotate_left
              ·simp only [Act.put, List.setIfInBounds_toArray, List.set_cons_zero, List.set_cons_succ, i64_w, i32_w]
               rfl
              refine pu HT_ 14 113 3 ?_; refine on HT_ 15 114 2 (fun K hK => ?_); refine value_ (w1 := ?_) (v := ?_) (by rfl) rfl ?_ ?_
              rotate_left 2
              ·go_simp
               constructor
               ·rfl
               ·rfl
              refine hK.out _ _ ⟨(World.cell?_alloc_lt _ _ _ (World.block_lt_of_cell? _ _ (((HB.out.cell (World.block_lt_of_cell? w _ hw205_0)).trans hw205_0)))).trans (((HB.out.cell (World.block_lt_of_cell? w _ hw205_0)).trans hw205_0)), (World.cell?_alloc_lt _ _ _ (World.block_lt_of_cell? _ _ (((HB.out.cell (World.block_lt_of_cell? w _ hw205_1)).trans hw205_1)))).trans (((HB.out.cell (World.block_lt_of_cell? w _ hw205_1)).trans hw205_1)), (World.cell?_alloc_lt _ _ _ (World.block_lt_of_cell? _ _ (((HB.out.cell (World.block_lt_of_cell? w _ hw206_0)).trans hw206_0)))).trans (((HB.out.cell (World.block_lt_of_cell? w _ hw206_0)).trans hw206_0)), (World.cell?_alloc_lt _ _ _ (World.block_lt_of_cell? _ _ (((HB.out.cell (World.block_lt_of_cell? w _ hw206_1)).trans hw206_1)))).trans (((HB.out.cell (World.block_lt_of_cell? w _ hw206_1)).trans hw206_1))⟩ (fun hHeld => ?_); clear hK K; refine nm 114 ?_; refine on HT_ 16 115 1 (fun K hK => ?_); refine Kd.S_append_step k67 (w0 := w) w.heap.size (by rfl) (.tmp 99) (.tmp 114) 26 67 (.agg #[(.int .i64 0), (.int .i64 0), (.int .i64 0), (.int .i64 0), (.slice none 0 0)]) 56 rfl Try.underlying26 info67 rfl (by decide) (by omega) u4 x4_1 (⟨(rd_T80 l0 x5_1).f0, (rd_T80 l0 x5_1).f1, wrap64 (x6_2 - x5_1), (⟨0, ([] : List Int)⟩ : S41)⟩ : S67) [.int .i64 ((rd_T80 l0 x5_1).f0), .int .i64 ((rd_T80 l0 x5_1).f1), .int .i64 (wrap64 (x6_2 - x5_1)), .int .i64 0, .slice none 0 0] (fun _ => True) (fun _ => False) rfl rfl ?aP (fun k_ hk_ => hk_.elim) ?aF ?aO ?aB ?aS ?aL ?_
              (case aP => exact k67_mkM _ _ _ (⟨(rd_T80 l0 x5_1).f0, (rd_T80 l0 x5_1).f1, wrap64 (x6_2 - x5_1), (⟨0, ([] : List Int)⟩ : S41)⟩ : S67) (Kd.R_nil _ _ _ _ _))
              (case aB => exact (bl HB))
              (case aF => exact (fun _ _ => trivial))
              (case aO => exact (by (with_reducible repeat (first | apply Kd.S_alloc | apply Kd.S_drewN | apply Kd.S_drew)); exact Kd.S_mono HO_4.out (fun k_ hk => ⟨trivial, fun e_ => e_⟩)))
              (case aS => exact (below_size (bl HB)))
              (case aL => have := LMc48.out; omega)
              intro v208 w51 ho hb hg hat
              rw [← Ny207.out] at ho; have n0_ := Aside0.mk (hb); have n1_ := Aside0.mk (ho); clear HB; clear HO_4; have HB := n0_; have HO209 := n1_; clear n0_ n1_; clear ho hb hg hat; refine hK.out _ _ ⟨((HB.out.cell (World.block_lt_of_cell? w _ hw205_0)).trans hw205_0), ((HB.out.cell (World.block_lt_of_cell? w _ hw205_1)).trans hw205_1), ((HB.out.cell (World.block_lt_of_cell? w _ hw206_0)).trans hw206_0), ((HB.out.cell (World.block_lt_of_cell? w _ hw206_1)).trans hw206_1)⟩ (fun hHeld => ?_); clear hK K; refine nm 115 ?_; refine pu HT_ 17 4 0 ?_; refine done_ (done_of HT_.out (by kernel_rfl)) ?_
              try go_wp2
              go_roundg k2
              case measure => have := HK1.out; have := HK2.out; omega
              case rel => exact ⟨(y207), (x6_2), au, H', ⟨by have := HK1.out; have := HK2.out; omega⟩, ⟨by (with_reducible repeat (first | apply Kd.S_alloc | apply Kd.S_drewN | apply Kd.S_drew)); exact HO209.out⟩, ⟨bl HB⟩⟩
             ·rw [if_neg c48] at H
              exact absurd H (by simp)
           ·rw [if_neg c37] at H
            exact absurd H (by simp)
          ·rw [if_neg c36] at H
           exact absurd H (by simp)
         ·rw [if_neg c35] at H
          exact absurd H (by simp)
        ·rw [if_neg c34] at H
         have c34b0 : decide (x6_2 < (l0.length : Int)) = false := decide_eq_false c34; clear c34
         by_cases c52 : 0 ≤ x5_1
         ·rw [if_pos c52] at H
          have c52b0 : decide (0 ≤ x5_1) = true := decide_eq_true c52; clear c52
          by_cases c53 : x5_1 < (l0.length : Int)
          ·rw [if_pos c53] at H
           have c53b0 : decide (x5_1 < (l0.length : Int)) = true := decide_eq_true c53; clear c53
           by_cases c54 : x4_1.length < 2513169434916
           ·rw [if_pos c54] at H
            have LMc54 := Aside0.mk c54; clear c54; obtain ⟨y212, hy212⟩ : ∃ y_ : List (S67), y_ = (x4_1 ++ [(⟨(rd_T80 l0 x5_1).f0, (rd_T80 l0 x5_1).f1, wrap64 (x6_2 - x5_1), (⟨0, ([] : List Int)⟩ : S41)⟩ : S67)]) := ⟨_, rfl⟩
            replace H : (spec_l5Form.l0 k2 l0 y212 x6_2) = some (r1, r2) := by first | (rw [hy212]; with_reducible exact H) | (have H2_ := (Option.bind_some _ _).symm.trans H; rw [hy212]; with_reducible exact H2_) | (have H2_ := (Option.bind_some _ _).symm.trans H; with_reducible exact H2_) | with_reducible exact H | (rw [hy212]; exact H) | exact H
            have Ny212 := Aside0.mk hy212; clear hy212; have H' := Aside0.mk H; clear H
            try go_wp2
            (try clear hcz19_0); (try clear hcz19_1); (try clear hcz22_0); (try clear hcz22_1); (try clear hcz29_0); (try clear hcz29_1); (try clear hcz32_0); (try clear hcz32_1); (try clear hx168_0); (try clear hx168_1); (try clear hx169_0); (try clear hx169_1); (try clear hx173_0); (try clear hx173_1); (try clear hx174_0); (try clear hx174_1)
            go_quiet ((fail))
            have n0_ := Aside0.mk (Kd.S_drewN HO_4.out nq); have n1_ := Aside0.mk (pw_below_drewN HB.out nq); clear HO_4; clear HB; have HO_4 := n0_; have HB := n1_; clear n0_ n1_; generalize wr.drewN nq = w55 at HB HO_4 ⊢
            try go_wp2
            have n0_ := Aside0.mk (Kd.S_drew HO_4.out); have n1_ := Aside0.mk (below_drew1 HB.out); clear HO_4; clear HB; have HO_4 := n0_; have HB := n1_; clear n0_ n1_; have p210 : 0 ≤ (x5_1 : Int) := ode; have q210 : x5_1 < (l0.length : Int) := ode; obtain ⟨ad210, e210, hx210_0, hx210_1⟩ := at_T80 HR0.out x5_1 p210 q210; have hw210_1 := hx210_1; have hw210_0 := hx210_0; obtain rfl : ad168 = ad210 := (by injection e210); replace hx210_0 := cl HB hx210_0; replace hx210_1 := cl HB hx210_1; replace p210 := eq_true p210; replace q210 := eq_true q210; have p211 : 0 ≤ (x5_1 : Int) := ode; have q211 : x5_1 < (l0.length : Int) := ode; obtain ⟨ad211, e211, hx211_0, hx211_1⟩ := at_T80 HR0.out x5_1 p211 q211; have hw211_1 := hx211_1; have hw211_0 := hx211_0; obtain rfl : ad168 = ad211 := (by injection e211); replace hx211_0 := cl HB hx211_0; replace hx211_1 := cl HB hx211_1; replace p211 := eq_true p211; replace q211 := eq_true q211; refine start_ (n := 18) (S := fun w' => w'.cell? (ad168.add ((x5_1).toNat * 2)) = some (.int .i64 ((rd_T80 l0 x5_1).f0)) ∧ w'.cell? ⟨(ad168.add ((x5_1).toNat * 2)).block, (ad168.add ((x5_1).toNat * 2)).off + 1, none⟩ = some (.int .i64 ((rd_T80 l0 x5_1).f1)) ∧ w'.cell? (ad168.add ((x5_1).toNat * 2)) = some (.int .i64 ((rd_T80 l0 x5_1).f0)) ∧ w'.cell? ⟨(ad168.add ((x5_1).toNat * 2)).block, (ad168.add ((x5_1).toNat * 2)).off + 1, none⟩ = some (.int .i64 ((rd_T80 l0 x5_1).f1))) (ds := []) #[false, false, false, false, false, false, false, false, false, false, false, false, false, false, false, false, false, false] (by kernel_rfl) rfl rfl ⟨((HB.out.cell (World.block_lt_of_cell? w _ hw210_0)).trans hw210_0), ((HB.out.cell (World.block_lt_of_cell? w _ hw210_1)).trans hw210_1), ((HB.out.cell (World.block_lt_of_cell? w _ hw211_0)).trans hw211_0), ((HB.out.cell (World.block_lt_of_cell? w _ hw211_1)).trans hw211_1)⟩ (fun hHeld => ?_); refine with_tabW spec_l5Form.tab14 spec_l5Form.bits14 (fun HT_ HW_ => ?_); generalize w55.drew = w56 at HO_4 HB hx210_0 hx210_1 hx211_0 hx211_1 hHeld ⊢; refine pu HT_ 0 99 17 ?_; refine pu HT_ 1 100 16 ?_; refine pu HT_ 2 101 15 ?_; refine pu HT_ 3 102 14 ?_; refine pu HT_ 4 103 13 ?_; refine pure_ (i := 6) (N := some 105) (v := ?_) (a' := ?_) #[true, true, true, true, true, false, true, false, false, false, false, false, false, false, false, false, false, false] rfl rfl (any_of HT_.out (by kernel_rfl)) (fun _ _ _ h => h) (Or.inl ⟨by rfl, ?_⟩) ?_ ?_
            rotate_left
            ·intro w'
             go_simp
             with_reducible rfl
            rotate_left
            ·simp only [Act.put, List.setIfInBounds_toArray, List.set_cons_zero, List.set_cons_succ, i64_w, i32_w]
             rfl
            refine pure_ (i := 7) (N := some 106) (v := ?_) (a' := ?_) #[true, true, true, true, true, false, true, true, false, false, false, false, false, false, false, false, false, false] rfl rfl (any_of HT_.out (by kernel_rfl)) (fun _ _ _ h => h) (Or.inl ⟨by rfl, ?_⟩) ?_ ?_
            rotate_left
            ·intro w'
             go_simp
             with_reducible rfl
            rotate_left
            ·simp only [Act.put, List.setIfInBounds_toArray, List.set_cons_zero, List.set_cons_succ, i64_w, i32_w]
             rfl
            refine pure_ (i := 8) (N := some 107) (v := ?_) (a' := ?_) #[true, true, true, true, true, false, true, true, true, false, false, false, false, false, false, false, false, false] rfl rfl (any_of HT_.out (by kernel_rfl)) (fun _ _ _ h => h) (Or.inl ⟨by rfl, ?_⟩) ?_ ?_
            rotate_left
            ·intro w'
             go_simp
             with_reducible rfl
            rotate_left
            ·simp only [Act.put, List.setIfInBounds_toArray, List.set_cons_zero, List.set_cons_succ, i64_w, i32_w]
             rfl
            refine pure_ (i := 9) (N := some 108) (v := ?_) (a' := ?_) #[true, true, true, true, true, false, true, true, true, true, false, false, false, false, false, false, false, false] rfl rfl (any_of HT_.out (by kernel_rfl)) (fun _ _ _ h => h) (Or.inl ⟨by rfl, ?_⟩) ?_ ?_
            rotate_left
            ·intro w'
             go_simp
             with_reducible rfl
            rotate_left
            ·simp only [Act.put, List.setIfInBounds_toArray, List.set_cons_zero, List.set_cons_succ, i64_w, i32_w]
             rfl
            refine pure_ (i := 11) (N := some 110) (v := ?_) (a' := ?_) #[true, true, true, true, true, false, true, true, true, true, false, true, false, false, false, false, false, false] rfl rfl (any_of HT_.out (by kernel_rfl)) (fun _ _ _ h => h) (Or.inl ⟨by rfl, ?_⟩) ?_ ?_
            rotate_left
            ·intro w'
             go_simp
             with_reducible rfl
            rotate_left
            ·simp only [Act.put, List.setIfInBounds_toArray, List.set_cons_zero, List.set_cons_succ, i64_w, i32_w]
             rfl
            refine pure_ (i := 12) (N := some 111) (v := ?_) (a' := ?_) #[true, true, true, true, true, false, true, true, true, true, false, true, true, false, false, false, false, false] rfl rfl (any_of HT_.out (by kernel_rfl)) (fun _ _ _ h => h) (Or.inl ⟨by rfl, ?_⟩) ?_ ?_
            rotate_left
            ·intro w'
             go_simp
             with_reducible rfl
            rotate_left
            ·simp only [Act.put, List.setIfInBounds_toArray, List.set_cons_zero, List.set_cons_succ, i64_w, i32_w]
             rfl
            refine pure_ (i := 13) (N := some 112) (v := ?_) (a' := ?_) #[true, true, true, true, true, false, true, true, true, true, false, true, true, true, false, false, false, false] rfl rfl (any_of HT_.out (by kernel_rfl)) (fun _ _ _ h => h) (Or.inl ⟨by rfl, ?_⟩) ?_ ?_
            rotate_left
            ·intro w'
             go_simp
             with_reducible rfl
            rotate_left
            ·simp only [Act.put, List.setIfInBounds_toArray, List.set_cons_zero, List.set_cons_succ, i64_w, i32_w]
             rfl
            refine take_ (i := 5) (N := some 104) (v := ?_) (a' := ?_) #[true, true, true, true, true, true, true, true, true, true, false, true, true, true, false, false, false, false] rfl rfl (take_ofW HT_.out HW_.out (by kernel_rfl)) (fun _ _ _ h => h) (Or.inl ⟨by rfl, ?_⟩) hHeld ?_ ?_
            rotate_left
            ·rintro w' ⟨s0, s1, s2, s3⟩
             go_simp
             with_reducible rfl
            rotate_left
            ·simp only [Act.put, List.setIfInBounds_toArray, List.set_cons_zero, List.set_cons_succ, i64_w, i32_w]
             rfl
            refine take_ (i := 10) (N := some 109) (v := ?_) (a' := ?_) #[true, true, true, true, true, true, true, true, true, true, true, true, true, true, false, false, false, false] rfl rfl (take_ofW HT_.out HW_.out (by kernel_rfl)) (fun _ _ _ h => h) (Or.inl ⟨by rfl, ?_⟩) hHeld ?_ ?_
            rotate_left
            ·rintro w' ⟨s0, s1, s2, s3⟩
             go_simp
             with_reducible rfl
            rotate_left
            ·simp only [Act.put, List.setIfInBounds_toArray, List.set_cons_zero, List.set_cons_succ, i64_w, i32_w]
             rfl
            refine pu HT_ 14 113 3 ?_; refine on HT_ 15 114 2 (fun K hK => ?_); refine value_ (w1 := ?_) (v := ?_) (by rfl) rfl ?_ ?_
            rotate_left 2
            ·go_simp
             constructor
             ·rfl
             ·rfl
            refine hK.out _ _ ⟨(World.cell?_alloc_lt _ _ _ (World.block_lt_of_cell? _ _ (((HB.out.cell (World.block_lt_of_cell? w _ hw210_0)).trans hw210_0)))).trans (((HB.out.cell (World.block_lt_of_cell? w _ hw210_0)).trans hw210_0)), (World.cell?_alloc_lt _ _ _ (World.block_lt_of_cell? _ _ (((HB.out.cell (World.block_lt_of_cell? w _ hw210_1)).trans hw210_1)))).trans (((HB.out.cell (World.block_lt_of_cell? w _ hw210_1)).trans hw210_1)), (World.cell?_alloc_lt _ _ _ (World.block_lt_of_cell? _ _ (((HB.out.cell (World.block_lt_of_cell? w _ hw211_0)).trans hw211_0)))).trans (((HB.out.cell (World.block_lt_of_cell? w _ hw211_0)).trans hw211_0)), (World.cell?_alloc_lt _ _ _ (World.block_lt_of_cell? _ _ (((HB.out.cell (World.block_lt_of_cell? w _ hw211_1)).trans hw211_1)))).trans (((HB.out.cell (World.block_lt_of_cell? w _ hw211_1)).trans hw211_1))⟩ (fun hHeld => ?_); clear hK K; refine nm 114 ?_; refine on HT_ 16 115 1 (fun K hK => ?_); refine Kd.S_append_step k67 (w0 := w) w.heap.size (by rfl) (.tmp 99) (.tmp 114) 26 67 (.agg #[(.int .i64 0), (.int .i64 0), (.int .i64 0), (.int .i64 0), (.slice none 0 0)]) 56 rfl Try.underlying26 info67 rfl (by decide) (by omega) u4 x4_1 (⟨(rd_T80 l0 x5_1).f0, (rd_T80 l0 x5_1).f1, wrap64 (x6_2 - x5_1), (⟨0, ([] : List Int)⟩ : S41)⟩ : S67) [.int .i64 ((rd_T80 l0 x5_1).f0), .int .i64 ((rd_T80 l0 x5_1).f1), .int .i64 (wrap64 (x6_2 - x5_1)), .int .i64 0, .slice none 0 0] (fun _ => True) (fun _ => False) rfl rfl ?aP (fun k_ hk_ => hk_.elim) ?aF ?aO ?aB ?aS ?aL ?_
            (case aP => exact k67_mkM _ _ _ (⟨(rd_T80 l0 x5_1).f0, (rd_T80 l0 x5_1).f1, wrap64 (x6_2 - x5_1), (⟨0, ([] : List Int)⟩ : S41)⟩ : S67) (Kd.R_nil _ _ _ _ _))
            (case aB => exact (bl HB))
            (case aF => exact (fun _ _ => trivial))
            (case aO => exact (by (with_reducible repeat (first | apply Kd.S_alloc | apply Kd.S_drewN | apply Kd.S_drew)); exact Kd.S_mono HO_4.out (fun k_ hk => ⟨trivial, fun e_ => e_⟩)))
            (case aS => exact (below_size (bl HB)))
            (case aL => have := LMc54.out; omega)
            intro v213 w57 ho hb hg hat
            rw [← Ny212.out] at ho; have n0_ := Aside0.mk (hb); have n1_ := Aside0.mk (ho); clear HB; clear HO_4; have HB := n0_; have HO214 := n1_; clear n0_ n1_; clear ho hb hg hat; refine hK.out _ _ ⟨((HB.out.cell (World.block_lt_of_cell? w _ hw210_0)).trans hw210_0), ((HB.out.cell (World.block_lt_of_cell? w _ hw210_1)).trans hw210_1), ((HB.out.cell (World.block_lt_of_cell? w _ hw211_0)).trans hw211_0), ((HB.out.cell (World.block_lt_of_cell? w _ hw211_1)).trans hw211_1)⟩ (fun hHeld => ?_); clear hK K; refine nm 115 ?_; refine pu HT_ 17 4 0 ?_; refine done_ (done_of HT_.out (by kernel_rfl)) ?_
            try go_wp2
            go_roundg k2
            case measure => have := HK1.out; have := HK2.out; omega
            case rel => exact ⟨(y212), (x6_2), au, H', ⟨by have := HK1.out; have := HK2.out; omega⟩, ⟨by (with_reducible repeat (first | apply Kd.S_alloc | apply Kd.S_drewN | apply Kd.S_drew)); exact HO214.out⟩, ⟨bl HB⟩⟩
           ·rw [if_neg c54] at H
            exact absurd H (by simp)
          ·rw [if_neg c53] at H
           exact absurd H (by simp)
         ·rw [if_neg c52] at H
          exact absurd H (by simp)
    ·rw [if_neg c5] at H
     exact absurd H (by simp)
   ·rw [if_neg c4] at H
    have c4b0 : decide (x5_1 < (l0.length : Int)) = false := decide_eq_false c4; clear c4
    simp only [Option.some.injEq, Prod.mk.injEq] at H
    obtain ⟨rfl, rfl⟩ := H; obtain ⟨Ao58, co58, eo58⟩ := Kd.S_slice HO_4.out
    subst eo58
    go_wp2
    go_ret2
    exact ⟨_, by first | rfl | (simp [errW_none, errW_some] <;> rfl) | (simp [*, errW_none, errW_some] <;> rfl), by (with_reducible repeat (first | apply Kd.S_alloc | apply Kd.S_drewN | apply Kd.S_drew)); exact HO_4.out, bl HB⟩

end Go.Proofs.Ytjnmenadlnajeaa.PFnExactFlatJoin
