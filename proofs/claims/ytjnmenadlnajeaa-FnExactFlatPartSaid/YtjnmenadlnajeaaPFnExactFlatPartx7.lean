-- Written by a program of this session (a turned copy of the kit's printer); Lean checks it.
-- half the depth
import Derived.Test.YtjnmenadlnajeaaPFnExactFlatPartx0
import Derived.Test.YtjnmenadlnajeaaPFnExactFlatPartx5
namespace Go.Proofs.Ytjnmenadlnajeaa.PFnExactFlatPart
open Go.RowKit Go.Proofs.YtjnmenadlnajeaaW.PrintWords Go.Proofs.YtjnmenadlnajeaaW.PrintLast Go.Proofs.YtjnmenadlnajeaaW.PrintMore
attribute [local go_sem] max2_int min2_int max_two min_two max_three min_three max_four min_four   -- for this text's walks alone
set_option linter.unusedVariables false
set_option linter.unusedSimpArgs false

/-! ### spec_l5Bits: function 31 -/
mutual
def spec_l5Bits.l0 : Nat → List (S67) → List (S80) → Int → Option ((List (S80)))
 | 0, _, _, _ => none
 | k + 1, x0, x3, x4 => if x4 < (x0.length : Int) then (spec_l5Bits.l1 k x0 x3 x4 0) else (some x3)
def spec_l5Bits.l1 : Nat → List (S67) → List (S80) → Int → Int → Option ((List (S80)))
 | 0, _, _, _, _ => none
 | k + 1, x0, x3, x4, x5 => if 0 ≤ x4 then (if x4 < (x0.length : Int) then (if x5 < ((rd_T67 x0 x4).f2) then (if ((rd_T67 x0 x4).f0) < 0 then ((spec_l1Bit.f ((rd_T67 x0 x4).f3.f0) ((rd_T67 x0 x4).f3.f1) x5).bind fun t218 => (if x3.length < 8796093022208 then (spec_l5Bits.l1 k x0 (x3 ++ [(⟨(-1), wrap64 (t218)⟩ : S80)]) x4 (wrap64 (x5 + 1))) else (none))) else (if x3.length < 8796093022208 then (spec_l5Bits.l1 k x0 (x3 ++ [(⟨(rd_T67 x0 x4).f0, wrap64 (((rd_T67 x0 x4).f1) + x5)⟩ : S80)]) x4 (wrap64 (x5 + 1))) else (none))) else (spec_l5Bits.l0 k x0 x3 (wrap64 (x4 + 1)))) else (none)) else (none)
end
def spec_l5Bits.f (k : Nat) (l0 : List (S67)) : Option ((List (S80))) := spec_l5Bits.l0 k l0 (([] : List (S80))) 0
def spec_l5Bits.T10 : Bool × List (List Nat × List Nat) := (true, [([], []), ([], []), ([], []), ([1, 2], [1, 2]), ([3], [3]), ([4], [4]), ([], []), ([], []), ([6, 7], [6, 7]), ([8], [8]), ([9], [9]), ([], []), ([10, 11], [10, 11]), ([5, 12], [5, 12]), ([13], [13]), ([0, 14], [0, 14]), ([15, 15, 0, 1, 2, 3, 4, 5, 6, 7, 8, 9, 10, 11, 12, 13, 14, 15], [0, 15])])
def spec_l5Bits.B10 : List Nat := [0, 0, 0, 6, 14, 30, 0, 0, 192, 448, 960, 0, 4032, 8190, 16382, 32767, 65535]
theorem spec_l5Bits.tab10 : rtab .any (opsOf Try.f31 10) = spec_l5Bits.T10 := by kernel_rfl
theorem spec_l5Bits.bits10 : waitsOk spec_l5Bits.T10.2 spec_l5Bits.B10 = true := by kernel_rfl
set_option maxHeartbeats 8000000 in
set_option maxRecDepth 100000 in
theorem spec_l5Bits.calls (k : Nat) (A0 : Option Addr) (c0 : Nat) (l0 : List (S67)) (r : List (S80)) (w : World) (hr0 : Kd.C k67 w A0 l0.length l0) (hc0 : l0.length ≤ c0) (h : spec_l5Bits.f k l0 = some r) :
  Calls Try.prog 31 #[.slice A0 l0.length c0] w fun e w' => ∃ v0_ : Value, e = .returned (v0_) ∧ Kd.R k80 80 w' w.heap.size (fun _ => True) v0_ r ∧ Below w.heap.size w w' := by
 have hu41 := Try.underlying41; have hu80 := Try.underlying80; have HR0 := Aside0.mk hr0; have HC0 := Aside0.mk hc0; clear hr0 hc0; have HB := Aside0.mk (Below.refl w.heap.size w); have H : (spec_l5Bits.l0 k l0 (([] : List (S80))) 0) = some r := h; clear h; obtain ⟨y212, hy212⟩ : ∃ y_ : List (S80), y_ = (([] : List (S80))) := ⟨_, rfl⟩
 replace H : (spec_l5Bits.l0 k l0 y212 0) = some r := by first | (rw [hy212]; with_reducible exact H) | (have H2_ := (Option.bind_some _ _).symm.trans H; rw [hy212]; with_reducible exact H2_) | (have H2_ := (Option.bind_some _ _).symm.trans H; with_reducible exact H2_) | with_reducible exact H | (rw [hy212]; exact H) | exact H
 have Ny212 := Aside0.mk hy212; clear hy212; have H' := Aside0.mk H; clear H
 go_enter Try.func31, Try.ntmps31
 go_wp2_with (first | ((with_reducible refine gate_dst (N := 6) rfl ?_); refine Kd.R_lit k80 _ 80 ?hg (N := 6) ?hd (xs := ([] : List (S80))) (inner := []) (ok := fun _ => True) (okp := fun _ => True) ?hr ?hp (fun _ hk => hk) trivial (Below.refl _ _) (Nat.le_refl _) (by simp) ?_; (case hd => rfl); (case hg => rfl); (case hr => first | (go_simp; done) | (go_simp; rfl)); (case hp => exact (Reps.none _ _)); intro v213 w2 ho3 hb hg_ hnew_; clear hg_ hnew_; (first | rw [← Ny212.out] at ho3 | (simp only [Int.reduceToNat] at ho3; rw [← Ny212.out] at ho3)); have n0_ := Aside0.mk (Kd.R_lower ho3 (below_size (bl HB))); have n1_ := Aside0.mk (below_step (bl HB) hb); clear HB; have HO214 := n0_; have HB := n1_; clear n0_ n1_; clear hb ho3))
 go_loopg [3, 4] k (fun kq v3 v4 w' => ∃ (x3_1 : List (S80)) (x4_1 : Int), v4 = .int .i64 x4_1 ∧ Aside0 (spec_l5Bits.l0 kq l0 x3_1 x4_1 = some r) ∧ Aside0 (kq ≤ k) ∧ Aside0 (Kd.R k80 80 w' w.heap.size (fun _ => True) v3 x3_1) ∧ Aside0 (Below w.heap.size w w'))
 case atStart => exact ⟨(y212), (0), au, H', ⟨Nat.le_refl _⟩, ⟨rl HO214⟩, ⟨bl HB⟩⟩
 case round =>
  clear H'
  try clear p2
  try clear c3
  obtain ⟨x3_1, x4_1, rfl, HA, HK1, HO_3, HB⟩ := hrel
  cases gk with
  | zero => exact absurd HA.out (by simp [spec_l5Bits.l0])
  | succ k1 =>
   have H := HA.out; clear HA
   simp only [spec_l5Bits.l0] at H
   by_cases c4 : x4_1 < (l0.length : Int)
   ·rw [if_pos c4] at H
    have c4b0 : decide (x4_1 < (l0.length : Int)) = true := decide_eq_true c4; clear c4; have H' := Aside0.mk H; clear H
    go_wp2
    go_loopg [3, 5] k1 (fun kq v3 v5 w' => ∃ (x3_2 : List (S80)) (x5_2 : Int), v5 = .int .i64 x5_2 ∧ Aside0 (spec_l5Bits.l1 kq l0 x3_2 x4_1 x5_2 = some r) ∧ Aside0 (kq ≤ k1) ∧ Aside0 (Kd.R k80 80 w' w.heap.size (fun _ => True) v3 x3_2) ∧ Aside0 (Below w.heap.size w w'))
    case atStart => exact ⟨(x3_1), (0), au, H', ⟨Nat.le_refl _⟩, ⟨rl HO_3⟩, ⟨bl HB⟩⟩
    case round =>
     clear H'
     try clear p2
     try clear c3
     try clear c4
     try clear c4b0
     try clear p2
     obtain ⟨x3_2, x5_2, rfl, HA, HK2, HO_3, HB⟩ := hrel
     cases gk with
     | zero => exact absurd HA.out (by simp [spec_l5Bits.l1])
     | succ k2 =>
      have H := HA.out; clear HA
      simp only [spec_l5Bits.l1] at H
      by_cases c5 : 0 ≤ x4_1
      ·rw [if_pos c5] at H
       have c5b0 : decide (0 ≤ x4_1) = true := decide_eq_true c5; clear c5
       by_cases c6 : x4_1 < (l0.length : Int)
       ·rw [if_pos c6] at H
        have c6b0 : decide (x4_1 < (l0.length : Int)) = true := decide_eq_true c6; clear c6
        by_cases c7 : x5_2 < ((rd_T67 l0 x4_1).f2)
        ·rw [if_pos c7] at H
         have c7b0 : decide (x5_2 < ((rd_T67 l0 x4_1).f2)) = true := decide_eq_true c7; clear c7
         by_cases c8 : ((rd_T67 l0 x4_1).f0) < 0
         ·rw [if_pos c8] at H
          have c8b0 : decide (((rd_T67 l0 x4_1).f0) < 0) = true := decide_eq_true c8; clear c8; replace H := Option.bind_eq_some_iff.mp H; obtain ⟨t218, A90, H⟩ := H; replace H : (if x3_2.length < 8796093022208 then (spec_l5Bits.l1 k2 l0 (x3_2 ++ [(⟨(-1), wrap64 (t218)⟩ : S80)]) x4_1 (wrap64 (x5_2 + 1))) else (none)) = some r := H; have A9 := Aside0.mk A90; clear A90
          by_cases c10 : x3_2.length < 8796093022208
          ·rw [if_pos c10] at H
           have LMc10 := Aside0.mk c10; clear c10; obtain ⟨y219, hy219⟩ : ∃ y_ : List (S80), y_ = (x3_2 ++ [(⟨(-1), wrap64 (t218)⟩ : S80)]) := ⟨_, rfl⟩
           replace H : (spec_l5Bits.l1 k2 l0 y219 x4_1 (wrap64 (x5_2 + 1))) = some r := by first | (rw [hy219]; with_reducible exact H) | (have H2_ := (Option.bind_some _ _).symm.trans H; rw [hy219]; with_reducible exact H2_) | (have H2_ := (Option.bind_some _ _).symm.trans H; with_reducible exact H2_) | with_reducible exact H | (rw [hy219]; exact H) | exact H
           have Ny219 := Aside0.mk hy219; clear hy219; have H' := Aside0.mk H; clear H; have p215 : 0 ≤ (x4_1 : Int) := ode; have q215 : x4_1 < (l0.length : Int) := ode; obtain ⟨ad215, A215_4, c215_4, e215, hx215_0, hx215_1, hx215_2, hx215_3, hx215_4, hl215_4, hi215_4⟩ := at_T67 HR0.out x4_1 p215 q215
           cases e215
           replace hx215_0 := cl HB hx215_0; replace hx215_1 := cl HB hx215_1; replace hx215_2 := cl HB hx215_2; replace hx215_3 := cl HB hx215_3; replace hx215_4 := cl HB hx215_4; have HR215_4 := Aside0.mk hi215_4; have HC215_4 := Aside0.mk hl215_4; clear hi215_4 hl215_4; replace p215 := eq_true p215; replace q215 := eq_true q215; have p216 : 0 ≤ (x4_1 : Int) := ode; have q216 : x4_1 < (l0.length : Int) := ode; obtain ⟨ad216, A216_4, c216_4, e216, hx216_0, hx216_1, hx216_2, hx216_3, hx216_4, hl216_4, hi216_4⟩ := at_T67 HR0.out x4_1 p216 q216; obtain rfl : ad215 = ad216 := (by injection e216); replace hx216_0 := cl HB hx216_0; replace hx216_1 := cl HB hx216_1; replace hx216_2 := cl HB hx216_2; replace hx216_3 := cl HB hx216_3; replace hx216_4 := cl HB hx216_4; have HR216_4 := Aside0.mk hi216_4; have HC216_4 := Aside0.mk hl216_4; clear hi216_4 hl216_4; replace p216 := eq_true p216; replace q216 := eq_true q216; have ea_ := Option.some.inj (hx215_4.symm.trans hx216_4)
           injection ea_ with ea_ en_ ec_
           subst ea_
           subst ec_
           clear en_; have p217 : 0 ≤ (x4_1 : Int) := ode; have q217 : x4_1 < (l0.length : Int) := ode; obtain ⟨ad217, A217_4, c217_4, e217, hx217_0, hx217_1, hx217_2, hx217_3, hx217_4, hl217_4, hi217_4⟩ := at_T67 HR0.out x4_1 p217 q217; obtain rfl : ad215 = ad217 := (by injection e217); replace hx217_0 := cl HB hx217_0; replace hx217_1 := cl HB hx217_1; replace hx217_2 := cl HB hx217_2; replace hx217_3 := cl HB hx217_3; replace hx217_4 := cl HB hx217_4; have HR217_4 := Aside0.mk hi217_4; have HC217_4 := Aside0.mk hl217_4; clear hi217_4 hl217_4; replace p217 := eq_true p217; replace q217 := eq_true q217; have ea_ := Option.some.inj (hx215_4.symm.trans hx217_4)
           injection ea_ with ea_ en_ ec_
           subst ea_
           subst ec_
           clear en_
           go_wp2_with (first | ((with_reducible refine gate_callee (f := 47) rfl ?_); refine goesL_ (some 35) rfl rfl Try.func47 (by kernel_rfl) rfl #[.agg #[.int .i64 ((rd_T67 l0 x4_1).f3.f0), .slice A215_4 ((rd_T67 l0 x4_1).f3.f1).length c215_4], .int .i64 x5_2] rfl ma ?_; (with_reducible refine (spec_l1Bit.calls ((rd_T67 l0 x4_1).f3.f0) _ _ ((rd_T67 l0 x4_1).f3.f1) x5_2 t218 _ ?side1 ?side2 A9.out).mono ?_); (case side1 => exact rc HR217_4 HB); (case side2 => exact HC217_4.out); rintro e w11 ⟨rfl, hb⟩; refine ⟨_, rfl, ?_⟩; have n0_ := Aside0.mk (Kd.R_below (rl HO_3) hb); have n1_ := Aside0.mk (below_step (bl HB) hb); clear HO_3; clear HB; have HO_3 := n0_; have HB := n1_; clear n0_ n1_; (try clear hb); (try clear hb2); (try clear hk); (try clear hi)) | ((with_reducible refine gate_builtin (b := .append) (xs := #[.tmp 28, .tmp 38]) rfl ?_); at_builtin; refine Kd.R_append k80 (w0 := w) w.heap.size rfl (.tmp 28) (.tmp 38) 61 80 (.agg #[(.int .i64 0), (.int .i64 0)]) 16 rfl Try.underlying61 info80 rfl (by decide) (by omega) u3 x3_2 (⟨(-1), wrap64 (t218)⟩ : S80) [.int .i64 (-1), .int .i64 (wrap64 (t218))] (fun _ => True) (fun _ => False) rfl rfl ?aP (fun _ hk => hk.elim) ?aF ?aO ?aB ?aS ?aL ?_; (case aP => exact k80_mkM _ _ _ (⟨(-1), wrap64 (t218)⟩ : S80)); (case aB => exact (bl HB)); (case aF => exact (fun _ _ => trivial)); (case aO => exact (rl HO_3)); (case aS => exact (below_size (bl HB))); (case aL => have := LMc10.out; omega); intro v220 w12 ho hb hg hat; rw [← Ny219.out] at ho; have n0_ := Aside0.mk (hb); have n1_ := Aside0.mk (ho); clear HB; clear HO_3; have HB := n0_; have HO221 := n1_; clear n0_ n1_; clear ho hb hg hat))
           go_roundg k2
           case measure => have := HK1.out; have := HK2.out; omega
           case rel => exact ⟨(y219), (wrap64 (x5_2 + 1)), au, H', ⟨by have := HK1.out; have := HK2.out; omega⟩, ⟨rl HO221⟩, ⟨bl HB⟩⟩
          ·rw [if_neg c10] at H
           exact absurd H (by simp)
         ·rw [if_neg c8] at H
          have c8b0 : decide (((rd_T67 l0 x4_1).f0) < 0) = false := decide_eq_false c8; clear c8
          by_cases c13 : x3_2.length < 8796093022208
          ·rw [if_pos c13] at H
           have LMc13 := Aside0.mk c13; clear c13; obtain ⟨y224, hy224⟩ : ∃ y_ : List (S80), y_ = (x3_2 ++ [(⟨(rd_T67 l0 x4_1).f0, wrap64 (((rd_T67 l0 x4_1).f1) + x5_2)⟩ : S80)]) := ⟨_, rfl⟩
           replace H : (spec_l5Bits.l1 k2 l0 y224 x4_1 (wrap64 (x5_2 + 1))) = some r := by first | (rw [hy224]; with_reducible exact H) | (have H2_ := (Option.bind_some _ _).symm.trans H; rw [hy224]; with_reducible exact H2_) | (have H2_ := (Option.bind_some _ _).symm.trans H; with_reducible exact H2_) | with_reducible exact H | (rw [hy224]; exact H) | exact H
           have Ny224 := Aside0.mk hy224; clear hy224; have H' := Aside0.mk H; clear H; have p215 : 0 ≤ (x4_1 : Int) := ode; have q215 : x4_1 < (l0.length : Int) := ode; obtain ⟨ad215, A215_4, c215_4, e215, hx215_0, hx215_1, hx215_2, hx215_3, hx215_4, hl215_4, hi215_4⟩ := at_T67 HR0.out x4_1 p215 q215
           cases e215
           replace hx215_0 := cl HB hx215_0; replace hx215_1 := cl HB hx215_1; replace hx215_2 := cl HB hx215_2; replace hx215_3 := cl HB hx215_3; replace hx215_4 := cl HB hx215_4; have HR215_4 := Aside0.mk hi215_4; have HC215_4 := Aside0.mk hl215_4; clear hi215_4 hl215_4; replace p215 := eq_true p215; replace q215 := eq_true q215; have p216 : 0 ≤ (x4_1 : Int) := ode; have q216 : x4_1 < (l0.length : Int) := ode; obtain ⟨ad216, A216_4, c216_4, e216, hx216_0, hx216_1, hx216_2, hx216_3, hx216_4, hl216_4, hi216_4⟩ := at_T67 HR0.out x4_1 p216 q216; obtain rfl : ad215 = ad216 := (by injection e216); replace hx216_0 := cl HB hx216_0; replace hx216_1 := cl HB hx216_1; replace hx216_2 := cl HB hx216_2; replace hx216_3 := cl HB hx216_3; replace hx216_4 := cl HB hx216_4; have HR216_4 := Aside0.mk hi216_4; have HC216_4 := Aside0.mk hl216_4; clear hi216_4 hl216_4; replace p216 := eq_true p216; replace q216 := eq_true q216; have ea_ := Option.some.inj (hx215_4.symm.trans hx216_4)
           injection ea_ with ea_ en_ ec_
           subst ea_
           subst ec_
           clear en_
           try go_wp2
           have n0_ := Aside0.mk (Kd.R_drew HO_3.out); have n1_ := Aside0.mk (below_drew1 HB.out); clear HO_3; clear HB; have HO_3 := n0_; have HB := n1_; clear n0_ n1_; have p222 : 0 ≤ (x4_1 : Int) := ode; have q222 : x4_1 < (l0.length : Int) := ode; obtain ⟨ad222, A222_4, c222_4, e222, hx222_0, hx222_1, hx222_2, hx222_3, hx222_4, hl222_4, hi222_4⟩ := at_T67 HR0.out x4_1 p222 q222; have hw222_4 := hx222_4; have hw222_3 := hx222_3; have hw222_2 := hx222_2; have hw222_1 := hx222_1; have hw222_0 := hx222_0; obtain rfl : ad215 = ad222 := (by injection e222); replace hx222_0 := cl HB hx222_0; replace hx222_1 := cl HB hx222_1; replace hx222_2 := cl HB hx222_2; replace hx222_3 := cl HB hx222_3; replace hx222_4 := cl HB hx222_4; have HR222_4 := Aside0.mk hi222_4; have HC222_4 := Aside0.mk hl222_4; clear hi222_4 hl222_4; replace p222 := eq_true p222; replace q222 := eq_true q222; have p223 : 0 ≤ (x4_1 : Int) := ode; have q223 : x4_1 < (l0.length : Int) := ode; obtain ⟨ad223, A223_4, c223_4, e223, hx223_0, hx223_1, hx223_2, hx223_3, hx223_4, hl223_4, hi223_4⟩ := at_T67 HR0.out x4_1 p223 q223; have hw223_4 := hx223_4; have hw223_3 := hx223_3; have hw223_2 := hx223_2; have hw223_1 := hx223_1; have hw223_0 := hx223_0; obtain rfl : ad215 = ad223 := (by injection e223); replace hx223_0 := cl HB hx223_0; replace hx223_1 := cl HB hx223_1; replace hx223_2 := cl HB hx223_2; replace hx223_3 := cl HB hx223_3; replace hx223_4 := cl HB hx223_4; have HR223_4 := Aside0.mk hi223_4; have HC223_4 := Aside0.mk hl223_4; clear hi223_4 hl223_4; replace p223 := eq_true p223; replace q223 := eq_true q223; have ea_ := Option.some.inj (hx222_4.symm.trans hx223_4)
           injection ea_ with ea_ en_ ec_
           subst ea_
           subst ec_
           clear en_; refine start_ (n := 17) (S := fun w' => w'.cell? (ad215.add ((x4_1).toNat * 5)) = some (.int .i64 ((rd_T67 l0 x4_1).f0)) ∧ w'.cell? ⟨(ad215.add ((x4_1).toNat * 5)).block, (ad215.add ((x4_1).toNat * 5)).off + 1, none⟩ = some (.int .i64 ((rd_T67 l0 x4_1).f1)) ∧ w'.cell? ⟨(ad215.add ((x4_1).toNat * 5)).block, (ad215.add ((x4_1).toNat * 5)).off + 2, none⟩ = some (.int .i64 ((rd_T67 l0 x4_1).f2)) ∧ w'.cell? ⟨(ad215.add ((x4_1).toNat * 5)).block, (ad215.add ((x4_1).toNat * 5)).off + 3, none⟩ = some (.int .i64 ((rd_T67 l0 x4_1).f3.f0)) ∧ w'.cell? ⟨(ad215.add ((x4_1).toNat * 5)).block, (ad215.add ((x4_1).toNat * 5)).off + 4, none⟩ = some (.slice A222_4 ((rd_T67 l0 x4_1).f3.f1).length c222_4) ∧ w'.cell? (ad215.add ((x4_1).toNat * 5)) = some (.int .i64 ((rd_T67 l0 x4_1).f0)) ∧ w'.cell? ⟨(ad215.add ((x4_1).toNat * 5)).block, (ad215.add ((x4_1).toNat * 5)).off + 1, none⟩ = some (.int .i64 ((rd_T67 l0 x4_1).f1)) ∧ w'.cell? ⟨(ad215.add ((x4_1).toNat * 5)).block, (ad215.add ((x4_1).toNat * 5)).off + 2, none⟩ = some (.int .i64 ((rd_T67 l0 x4_1).f2)) ∧ w'.cell? ⟨(ad215.add ((x4_1).toNat * 5)).block, (ad215.add ((x4_1).toNat * 5)).off + 3, none⟩ = some (.int .i64 ((rd_T67 l0 x4_1).f3.f0)) ∧ w'.cell? ⟨(ad215.add ((x4_1).toNat * 5)).block, (ad215.add ((x4_1).toNat * 5)).off + 4, none⟩ = some (.slice A222_4 ((rd_T67 l0 x4_1).f3.f1).length c222_4)) (ds := []) (tf 0 17) (by kernel_rfl) rfl rfl ⟨((HB.out.cell (World.block_lt_of_cell? w _ hw222_0)).trans hw222_0), ((HB.out.cell (World.block_lt_of_cell? w _ hw222_1)).trans hw222_1), ((HB.out.cell (World.block_lt_of_cell? w _ hw222_2)).trans hw222_2), ((HB.out.cell (World.block_lt_of_cell? w _ hw222_3)).trans hw222_3), ((HB.out.cell (World.block_lt_of_cell? w _ hw222_4)).trans hw222_4), ((HB.out.cell (World.block_lt_of_cell? w _ hw223_0)).trans hw223_0), ((HB.out.cell (World.block_lt_of_cell? w _ hw223_1)).trans hw223_1), ((HB.out.cell (World.block_lt_of_cell? w _ hw223_2)).trans hw223_2), ((HB.out.cell (World.block_lt_of_cell? w _ hw223_3)).trans hw223_3), ((HB.out.cell (World.block_lt_of_cell? w _ hw223_4)).trans hw223_4)⟩ (fun hHeld => ?_); refine with_tabW spec_l5Bits.tab10 spec_l5Bits.bits10 (fun HT_ HW_ => ?_); generalize wr.drew = w14 at HO_3 HB HR222_4 HR223_4 hx222_0 hx222_1 hx222_2 hx222_3 hx222_4 hx223_0 hx223_1 hx223_2 hx223_3 hx223_4 hHeld ⊢; refine pu HT_ 0 40 16 ?_; refine pu HT_ 1 41 15 ?_; refine pu HT_ 2 42 14 ?_; refine pu HT_ 3 43 13 ?_; refine pu HT_ 4 44 12 ?_; refine pq HT_ 6 46 17 95 ?_; refine pq HT_ 7 47 17 223 ?_; refine pq HT_ 8 48 17 479 ?_; refine pq HT_ 9 49 17 991 ?_; refine pq HT_ 11 51 17 3039 ?_; refine tq HT_ HW_ hHeld 5 45 17 3071 ?_; refine tq HT_ HW_ hHeld 10 50 17 4095 ?_; refine pu HT_ 12 52 4 ?_; refine pu HT_ 13 53 3 ?_; refine on HT_ 14 54 2 (fun K hK => ?_); refine value_ (w1 := ?_) (v := ?_) (by rfl) rfl ?_ ?_
           rotate_left 2
           ·go_simp
            constructor
            ·rfl
            ·rfl
           refine hK.out _ _ ⟨(World.cell?_alloc_lt _ _ _ (World.block_lt_of_cell? _ _ (((HB.out.cell (World.block_lt_of_cell? w _ hw222_0)).trans hw222_0)))).trans (((HB.out.cell (World.block_lt_of_cell? w _ hw222_0)).trans hw222_0)), (World.cell?_alloc_lt _ _ _ (World.block_lt_of_cell? _ _ (((HB.out.cell (World.block_lt_of_cell? w _ hw222_1)).trans hw222_1)))).trans (((HB.out.cell (World.block_lt_of_cell? w _ hw222_1)).trans hw222_1)), (World.cell?_alloc_lt _ _ _ (World.block_lt_of_cell? _ _ (((HB.out.cell (World.block_lt_of_cell? w _ hw222_2)).trans hw222_2)))).trans (((HB.out.cell (World.block_lt_of_cell? w _ hw222_2)).trans hw222_2)), (World.cell?_alloc_lt _ _ _ (World.block_lt_of_cell? _ _ (((HB.out.cell (World.block_lt_of_cell? w _ hw222_3)).trans hw222_3)))).trans (((HB.out.cell (World.block_lt_of_cell? w _ hw222_3)).trans hw222_3)), (World.cell?_alloc_lt _ _ _ (World.block_lt_of_cell? _ _ (((HB.out.cell (World.block_lt_of_cell? w _ hw222_4)).trans hw222_4)))).trans (((HB.out.cell (World.block_lt_of_cell? w _ hw222_4)).trans hw222_4)), (World.cell?_alloc_lt _ _ _ (World.block_lt_of_cell? _ _ (((HB.out.cell (World.block_lt_of_cell? w _ hw223_0)).trans hw223_0)))).trans (((HB.out.cell (World.block_lt_of_cell? w _ hw223_0)).trans hw223_0)), (World.cell?_alloc_lt _ _ _ (World.block_lt_of_cell? _ _ (((HB.out.cell (World.block_lt_of_cell? w _ hw223_1)).trans hw223_1)))).trans (((HB.out.cell (World.block_lt_of_cell? w _ hw223_1)).trans hw223_1)), (World.cell?_alloc_lt _ _ _ (World.block_lt_of_cell? _ _ (((HB.out.cell (World.block_lt_of_cell? w _ hw223_2)).trans hw223_2)))).trans (((HB.out.cell (World.block_lt_of_cell? w _ hw223_2)).trans hw223_2)), (World.cell?_alloc_lt _ _ _ (World.block_lt_of_cell? _ _ (((HB.out.cell (World.block_lt_of_cell? w _ hw223_3)).trans hw223_3)))).trans (((HB.out.cell (World.block_lt_of_cell? w _ hw223_3)).trans hw223_3)), (World.cell?_alloc_lt _ _ _ (World.block_lt_of_cell? _ _ (((HB.out.cell (World.block_lt_of_cell? w _ hw223_4)).trans hw223_4)))).trans (((HB.out.cell (World.block_lt_of_cell? w _ hw223_4)).trans hw223_4))⟩ (fun hHeld => ?_); clear hK K; refine nm 54 ?_; refine on HT_ 15 55 1 (fun K hK => ?_); refine Kd.R_append_step k80 (w0 := w) w.heap.size (by rfl) (.tmp 40) (.tmp 54) 61 80 (.agg #[(.int .i64 0), (.int .i64 0)]) 16 rfl Try.underlying61 info80 rfl (by decide) (by omega) u3 x3_2 (⟨(rd_T67 l0 x4_1).f0, wrap64 (((rd_T67 l0 x4_1).f1) + x5_2)⟩ : S80) [.int .i64 ((rd_T67 l0 x4_1).f0), .int .i64 (wrap64 (((rd_T67 l0 x4_1).f1) + x5_2))] (fun _ => True) (fun _ => False) rfl rfl ?aP (fun _ hk => hk.elim) ?aF ?aO ?aB ?aS ?aL ?_
           (case aP => exact k80_mkM _ _ _ (⟨(rd_T67 l0 x4_1).f0, wrap64 (((rd_T67 l0 x4_1).f1) + x5_2)⟩ : S80))
           (case aB => exact (bl HB))
           (case aF => exact (fun _ _ => trivial))
           (case aO => exact (rl HO_3))
           (case aS => exact (below_size (bl HB)))
           (case aL => have := LMc13.out; omega)
           intro v225 w15 ho hb hg hat
           rw [← Ny224.out] at ho; have n0_ := Aside0.mk (hb); have n1_ := Aside0.mk (ho); clear HB; clear HO_3; have HB := n0_; have HO226 := n1_; clear n0_ n1_; clear ho hb hg hat; refine hK.out _ _ ⟨((HB.out.cell (World.block_lt_of_cell? w _ hw222_0)).trans hw222_0), ((HB.out.cell (World.block_lt_of_cell? w _ hw222_1)).trans hw222_1), ((HB.out.cell (World.block_lt_of_cell? w _ hw222_2)).trans hw222_2), ((HB.out.cell (World.block_lt_of_cell? w _ hw222_3)).trans hw222_3), ((HB.out.cell (World.block_lt_of_cell? w _ hw222_4)).trans hw222_4), ((HB.out.cell (World.block_lt_of_cell? w _ hw223_0)).trans hw223_0), ((HB.out.cell (World.block_lt_of_cell? w _ hw223_1)).trans hw223_1), ((HB.out.cell (World.block_lt_of_cell? w _ hw223_2)).trans hw223_2), ((HB.out.cell (World.block_lt_of_cell? w _ hw223_3)).trans hw223_3), ((HB.out.cell (World.block_lt_of_cell? w _ hw223_4)).trans hw223_4)⟩ (fun hHeld => ?_); clear hK K; refine nm 55 ?_; refine pu HT_ 16 3 0 ?_; refine done_ (done_of HT_.out (by kernel_rfl)) ?_
           try go_wp2
           go_roundg k2
           case measure => have := HK1.out; have := HK2.out; omega
           case rel => exact ⟨(y224), (wrap64 (x5_2 + 1)), au, H', ⟨by have := HK1.out; have := HK2.out; omega⟩, ⟨rl HO226⟩, ⟨bl HB⟩⟩
          ·rw [if_neg c13] at H
           exact absurd H (by simp)
        ·rw [if_neg c7] at H
         have c7b0 : decide (x5_2 < ((rd_T67 l0 x4_1).f2)) = false := decide_eq_false c7; clear c7; have H' := Aside0.mk H; clear H; have p215 : 0 ≤ (x4_1 : Int) := ode; have q215 : x4_1 < (l0.length : Int) := ode; obtain ⟨ad215, A215_4, c215_4, e215, hx215_0, hx215_1, hx215_2, hx215_3, hx215_4, hl215_4, hi215_4⟩ := at_T67 HR0.out x4_1 p215 q215
         cases e215
         replace hx215_0 := cl HB hx215_0; replace hx215_1 := cl HB hx215_1; replace hx215_2 := cl HB hx215_2; replace hx215_3 := cl HB hx215_3; replace hx215_4 := cl HB hx215_4; have HR215_4 := Aside0.mk hi215_4; have HC215_4 := Aside0.mk hl215_4; clear hi215_4 hl215_4; replace p215 := eq_true p215; replace q215 := eq_true q215
         go_wp2
         go_roundg k2
         case measure => have := HK1.out; have := HK2.out; omega
         case rel => exact ⟨(x3_2), (wrap64 (x4_1 + 1)), au, H', ⟨by have := HK1.out; have := HK2.out; omega⟩, ⟨rl HO_3⟩, ⟨bl HB⟩⟩
       ·rw [if_neg c6] at H
        exact absurd H (by simp)
      ·rw [if_neg c5] at H
       exact absurd H (by simp)
   ·rw [if_neg c4] at H
    have c4b0 : decide (x4_1 < (l0.length : Int)) = false := decide_eq_false c4; clear c4; obtain rfl := Option.some.inj H
    go_wp2
    go_ret
    exact ⟨_, by first | rfl | (simp [errW_none, errW_some] <;> rfl) | (simp [*, errW_none, errW_some] <;> rfl), by (with_reducible repeat (first | apply Kd.R_alloc | apply Kd.R_drewN | apply Kd.R_drew)); exact HO_3.out, bl HB⟩

end Go.Proofs.Ytjnmenadlnajeaa.PFnExactFlatPart
