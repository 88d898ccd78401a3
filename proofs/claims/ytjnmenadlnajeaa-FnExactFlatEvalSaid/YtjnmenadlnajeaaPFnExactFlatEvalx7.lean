-- Written by a program of this session (a turned copy of the kit's printer); Lean checks it.
-- half the depth
import Derived.Test.YtjnmenadlnajeaaPFnExactFlatEvalx0
import Derived.Test.YtjnmenadlnajeaaPFnExactFlatEvalx4
namespace Go.Proofs.Ytjnmenadlnajeaa.PFnExactFlatEval
open Go.RowKit Go.Proofs.YtjnmenadlnajeaaW.PrintWords Go.Proofs.YtjnmenadlnajeaaW.PrintLast Go.Proofs.YtjnmenadlnajeaaW.PrintMore
attribute [local go_sem] max2_int min2_int max_two min_two max_three min_three max_four min_four   -- for this text's walks alone
set_option linter.unusedVariables false
set_option linter.unusedSimpArgs false

/-! ### spec_l5Bits: function 31 -/
mutual
def spec_l5Bits.l0 : Nat → List (S67) → List (S80) → Int → Option ((List (S80)))
 | 0, _, _, _ => none
 | k + 1, x0, x3, x4 => if x4 < (x0.length : Int) then (spec_l5Bits.l1 k x0 x3 x4 0) else (some x3)
def spec_l5Bits.l1 : Nat → List (S67) → List (S80) → Int → Int → Option ((List (S80)))
 | 0, _, _, _, _ => none
 | k + 1, x0, x3, x4, x5 => if 0 ≤ x4 then (if x4 < (x0.length : Int) then (if x5 < ((rd_T67 x0 x4).f2) then (if ((rd_T67 x0 x4).f0) < 0 then ((spec_l1Bit.f ((rd_T67 x0 x4).f3.f0) ((rd_T67 x0 x4).f3.f1) x5).bind fun t213 => (if x3.length < 8796093022208 then (spec_l5Bits.l1 k x0 (x3 ++ [(⟨(-1), wrap64 (t213)⟩ : S80)]) x4 (wrap64 (x5 + 1))) else (none))) else (if x3.length < 8796093022208 then (spec_l5Bits.l1 k x0 (x3 ++ [(⟨(rd_T67 x0 x4).f0, wrap64 (((rd_T67 x0 x4).f1) + x5)⟩ : S80)]) x4 (wrap64 (x5 + 1))) else (none))) else (spec_l5Bits.l0 k x0 x3 (wrap64 (x4 + 1)))) else (none)) else (none)
end
def spec_l5Bits.f (k : Nat) (l0 : List (S67)) : Option ((List (S80))) := spec_l5Bits.l0 k l0 (([] : List (S80))) 0
def spec_l5Bits.T10 : Bool × List (List Nat × List Nat) := (true, [([], []), ([], []), ([], []), ([1, 2], [1, 2]), ([3], [3]), ([4], [4]), ([], []), ([], []), ([6, 7], [6, 7]), ([8], [8]), ([9], [9]), ([], []), ([10, 11], [10, 11]), ([5, 12], [5, 12]), ([13], [13]), ([0, 14], [0, 14]), ([15, 15, 0, 1, 2, 3, 4, 5, 6, 7, 8, 9, 10, 11, 12, 13, 14, 15], [0, 15])])
def spec_l5Bits.B10 : List Nat := [0, 0, 0, 6, 14, 30, 0, 0, 192, 448, 960, 0, 4032, 8190, 16382, 32767, 65535]
theorem spec_l5Bits.tab10 : rtab .any (opsOf Try.f31 10) = spec_l5Bits.T10 := by kernel_rfl
theorem spec_l5Bits.bits10 : waitsOk spec_l5Bits.T10.2 spec_l5Bits.B10 = true := by kernel_rfl
set_option maxHeartbeats 8000000 in
set_option maxRecDepth 100000 in
theorem spec_l5Bits.calls (k : Nat) (A0 : Option Addr) (c0 : Nat) (l0 : List (S67)) (r : List (S80)) (w : World) (hr0 : Kd.C k67 w A0 l0.length l0) (hc0 : l0.length ≤ c0) (h : spec_l5Bits.f k l0 = some r) :
  Calls Try.prog 31 #[.slice A0 l0.length c0] w fun e w' => ∃ v0_ : Value, e = .returned (v0_) ∧ Kd.R k80 80 w' w.heap.size (fun _ => True) v0_ r ∧ Below w.heap.size w w' := by
 have hu41 := Try.underlying41; have hu80 := Try.underlying80; have HR0 := Aside0.mk hr0; have HC0 := Aside0.mk hc0; clear hr0 hc0; have HB := Aside0.mk (Below.refl w.heap.size w); have H : (spec_l5Bits.l0 k l0 (([] : List (S80))) 0) = some r := h; clear h; obtain ⟨y207, hy207⟩ : ∃ y_ : List (S80), y_ = (([] : List (S80))) := ⟨_, rfl⟩
 replace H : (spec_l5Bits.l0 k l0 y207 0) = some r := by first | (rw [hy207]; with_reducible exact H) | (have H2_ := (Option.bind_some _ _).symm.trans H; rw [hy207]; with_reducible exact H2_) | (have H2_ := (Option.bind_some _ _).symm.trans H; with_reducible exact H2_) | with_reducible exact H | (rw [hy207]; exact H) | exact H
 have Ny207 := Aside0.mk hy207; clear hy207; have H' := Aside0.mk H; clear H
 go_enter Try.func31, Try.ntmps31
 go_wp2_with (first | ((with_reducible refine gate_dst (N := 6) rfl ?_); refine Kd.R_lit k80 _ 80 ?hg (N := 6) ?hd (xs := ([] : List (S80))) (inner := []) (ok := fun _ => True) (okp := fun _ => True) ?hr ?hp (fun _ hk => hk) trivial (Below.refl _ _) (Nat.le_refl _) (by simp) ?_; (case hd => rfl); (case hg => rfl); (case hr => first | (go_simp; done) | (go_simp; rfl)); (case hp => exact (Reps.none _ _)); intro v208 w2 ho3 hb hg_ hnew_; clear hg_ hnew_; (first | rw [← Ny207.out] at ho3 | (simp only [Int.reduceToNat] at ho3; rw [← Ny207.out] at ho3)); have n0_ := Aside0.mk (Kd.R_lower ho3 (below_size (bl HB))); have n1_ := Aside0.mk (below_step (bl HB) hb); clear HB; have HO209 := n0_; have HB := n1_; clear n0_ n1_; clear hb ho3))
 go_loopg [3, 4] k (fun kq v3 v4 w' => ∃ (x3_1 : List (S80)) (x4_1 : Int), v4 = .int .i64 x4_1 ∧ Aside0 (spec_l5Bits.l0 kq l0 x3_1 x4_1 = some r) ∧ Aside0 (kq ≤ k) ∧ Aside0 (Kd.R k80 80 w' w.heap.size (fun _ => True) v3 x3_1) ∧ Aside0 (Below w.heap.size w w'))
 case atStart => exact ⟨(y207), (0), au, H', ⟨Nat.le_refl _⟩, ⟨rl HO209⟩, ⟨bl HB⟩⟩
 case round =>
  clear H'
  try clear p2
  try clear c3
  obtain ⟨x3_1, x4_1, rfl, HA, HK1, HO_3, HB⟩ := hrel
  cases gk with
  | zero => exact absurd HA.out (by simp [spec_l5Bits.l0])
  | succ k1 =>
   have H := HA.out; clear HA
   simp only [spec_l5Bits.l0] at H
   by_cases c4 : x4_1 < (l0.length : Int)
   ·rw [if_pos c4] at H
    have c4b0 : decide (x4_1 < (l0.length : Int)) = true := decide_eq_true c4; clear c4; have H' := Aside0.mk H; clear H
    go_wp2
    go_loopg [3, 5] k1 (fun kq v3 v5 w' => ∃ (x3_2 : List (S80)) (x5_2 : Int), v5 = .int .i64 x5_2 ∧ Aside0 (spec_l5Bits.l1 kq l0 x3_2 x4_1 x5_2 = some r) ∧ Aside0 (kq ≤ k1) ∧ Aside0 (Kd.R k80 80 w' w.heap.size (fun _ => True) v3 x3_2) ∧ Aside0 (Below w.heap.size w w'))
    case atStart => exact ⟨(x3_1), (0), au, H', ⟨Nat.le_refl _⟩, ⟨rl HO_3⟩, ⟨bl HB⟩⟩
    case round =>
     clear H'
     try clear p2
     try clear c3
     try clear c4
     try clear c4b0
     try clear p2
     obtain ⟨x3_2, x5_2, rfl, HA, HK2, HO_3, HB⟩ := hrel
     cases gk with
     | zero => exact absurd HA.out (by simp [spec_l5Bits.l1])
     | succ k2 =>
      have H := HA.out; clear HA
      simp only [spec_l5Bits.l1] at H
      by_cases c5 : 0 ≤ x4_1
      ·rw [if_pos c5] at H
       have c5b0 : decide (0 ≤ x4_1) = true := decide_eq_true c5; clear c5
       by_cases c6 : x4_1 < (l0.length : Int)
       ·rw [if_pos c6] at H
        have c6b0 : decide (x4_1 < (l0.length : Int)) = true := decide_eq_true c6; clear c6
        by_cases c7 : x5_2 < ((rd_T67 l0 x4_1).f2)
        ·rw [if_pos c7] at H
         have c7b0 : decide (x5_2 < ((rd_T67 l0 x4_1).f2)) = true := decide_eq_true c7; clear c7
         by_cases c8 : ((rd_T67 l0 x4_1).f0) < 0
         ·rw [if_pos c8] at H
          have c8b0 : decide (((rd_T67 l0 x4_1).f0) < 0) = true := decide_eq_true c8; clear c8; replace H := Option.bind_eq_some_iff.mp H; obtain ⟨t213, A90, H⟩ := H; replace H : (if x3_2.length < 8796093022208 then (spec_l5Bits.l1 k2 l0 (x3_2 ++ [(⟨(-1), wrap64 (t213)⟩ : S80)]) x4_1 (wrap64 (x5_2 + 1))) else (none)) = some r := H; have A9 := Aside0.mk A90; clear A90
          by_cases c10 : x3_2.length < 8796093022208
          ·rw [if_pos c10] at H
           have LMc10 := Aside0.mk c10; clear c10; obtain ⟨y214, hy214⟩ : ∃ y_ : List (S80), y_ = (x3_2 ++ [(⟨(-1), wrap64 (t213)⟩ : S80)]) := ⟨_, rfl⟩
           replace H : (spec_l5Bits.l1 k2 l0 y214 x4_1 (wrap64 (x5_2 + 1))) = some r := by first | (rw [hy214]; with_reducible exact H) | (have H2_ := (Option.bind_some _ _).symm.trans H; rw [hy214]; with_reducible exact H2_) | (have H2_ := (Option.bind_some _ _).symm.trans H; with_reducible exact H2_) | with_reducible exact H | (rw [hy214]; exact H) | exact H
           have Ny214 := Aside0.mk hy214; clear hy214; have H' := Aside0.mk H; clear H; have p210 : 0 ≤ (x4_1 : Int) := ode; have q210 : x4_1 < (l0.length : Int) := ode; obtain ⟨ad210, A210_4, c210_4, e210, hx210_0, hx210_1, hx210_2, hx210_3, hx210_4, hl210_4, hi210_4⟩ := at_T67 HR0.out x4_1 p210 q210
           cases e210
           replace hx210_0 := cl HB hx210_0; replace hx210_1 := cl HB hx210_1; replace hx210_2 := cl HB hx210_2; replace hx210_3 := cl HB hx210_3; replace hx210_4 := cl HB hx210_4; have HR210_4 := Aside0.mk hi210_4; have HC210_4 := Aside0.mk hl210_4; clear hi210_4 hl210_4; replace p210 := eq_true p210; replace q210 := eq_true q210; have p211 : 0 ≤ (x4_1 : Int) := ode; have q211 : x4_1 < (l0.length : Int) := ode; obtain ⟨ad211, A211_4, c211_4, e211, hx211_0, hx211_1, hx211_2, hx211_3, hx211_4, hl211_4, hi211_4⟩ := at_T67 HR0.out x4_1 p211 q211; obtain rfl : ad210 = ad211 := (by injection e211); replace hx211_0 := cl HB hx211_0; replace hx211_1 := cl HB hx211_1; replace hx211_2 := cl HB hx211_2; replace hx211_3 := cl HB hx211_3; replace hx211_4 := cl HB hx211_4; have HR211_4 := Aside0.mk hi211_4; have HC211_4 := Aside0.mk hl211_4; clear hi211_4 hl211_4; replace p211 := eq_true p211; replace q211 := eq_true q211; have ea_ := Option.some.inj (hx210_4.symm.trans hx211_4)
           injection ea_ with ea_ en_ ec_
           subst ea_
           subst ec_
           clear en_; have p212 : 0 ≤ (x4_1 : Int) := ode; have q212 : x4_1 < (l0.length : Int) := ode; obtain ⟨ad212, A212_4, c212_4, e212, hx212_0, hx212_1, hx212_2, hx212_3, hx212_4, hl212_4, hi212_4⟩ := at_T67 HR0.out x4_1 p212 q212; obtain rfl : ad210 = ad212 := (by injection e212); replace hx212_0 := cl HB hx212_0; replace hx212_1 := cl HB hx212_1; replace hx212_2 := cl HB hx212_2; replace hx212_3 := cl HB hx212_3; replace hx212_4 := cl HB hx212_4; have HR212_4 := Aside0.mk hi212_4; have HC212_4 := Aside0.mk hl212_4; clear hi212_4 hl212_4; replace p212 := eq_true p212; replace q212 := eq_true q212; have ea_ := Option.some.inj (hx210_4.symm.trans hx212_4)
           injection ea_ with ea_ en_ ec_
           subst ea_
           subst ec_
           clear en_
           go_wp2_with (first | ((with_reducible refine gate_callee (f := 47) rfl ?_); refine goesL_ (some 35) rfl rfl Try.func47 (by kernel_rfl) rfl #[.agg #[.int .i64 ((rd_T67 l0 x4_1).f3.f0), .slice A210_4 ((rd_T67 l0 x4_1).f3.f1).length c210_4], .int .i64 x5_2] rfl ma ?_; (with_reducible refine (spec_l1Bit.calls ((rd_T67 l0 x4_1).f3.f0) _ _ ((rd_T67 l0 x4_1).f3.f1) x5_2 t213 _ ?side1 ?side2 A9.out).mono ?_); (case side1 => exact rc HR212_4 HB); (case side2 => exact HC212_4.out); rintro e w11 ⟨rfl, hb⟩; refine ⟨_, rfl, ?_⟩; have n0_ := Aside0.mk (Kd.R_below (rl HO_3) hb); have n1_ := Aside0.mk (below_step (bl HB) hb); clear HO_3; clear HB; have HO_3 := n0_; have HB := n1_; clear n0_ n1_; (try clear hb); (try clear hb2); (try clear hk); (try clear hi)) | ((with_reducible refine gate_builtin (b := .append) (xs := #[.tmp 28, .tmp 38]) rfl ?_); at_builtin; refine Kd.R_append k80 (w0 := w) w.heap.size rfl (.tmp 28) (.tmp 38) 61 80 (.agg #[(.int .i64 0), (.int .i64 0)]) 16 rfl Try.underlying61 info80 rfl (by decide) (by omega) u3 x3_2 (⟨(-1), wrap64 (t213)⟩ : S80) [.int .i64 (-1), .int .i64 (wrap64 (t213))] (fun _ => True) (fun _ => False) rfl rfl ?aP (fun _ hk => hk.elim) ?aF ?aO ?aB ?aS ?aL ?_; (case aP => exact k80_mkM _ _ _ (⟨(-1), wrap64 (t213)⟩ : S80)); (case aB => exact (bl HB)); (case aF => exact (fun _ _ => trivial)); (case aO => exact (rl HO_3)); (case aS => exact (below_size (bl HB))); (case aL => have := LMc10.out; omega); intro v215 w12 ho hb hg hat; rw [← Ny214.out] at ho; have n0_ := Aside0.mk (hb); have n1_ := Aside0.mk (ho); clear HB; clear HO_3; have HB := n0_; have HO216 := n1_; clear n0_ n1_; clear ho hb hg hat))
           go_roundg k2
           case measure => have := HK1.out; have := HK2.out; omega
           case rel => exact ⟨(y214), (wrap64 (x5_2 + 1)), au, H', ⟨by have := HK1.out; have := HK2.out; omega⟩, ⟨rl HO216⟩, ⟨bl HB⟩⟩
          ·rw [if_neg c10] at H
           exact absurd H (by simp)
         ·rw [if_neg c8] at H
          have c8b0 : decide (((rd_T67 l0 x4_1).f0) < 0) = false := decide_eq_false c8; clear c8
          by_cases c13 : x3_2.length < 8796093022208
          ·rw [if_pos c13] at H
           have LMc13 := Aside0.mk c13; clear c13; obtain ⟨y219, hy219⟩ : ∃ y_ : List (S80), y_ = (x3_2 ++ [(⟨(rd_T67 l0 x4_1).f0, wrap64 (((rd_T67 l0 x4_1).f1) + x5_2)⟩ : S80)]) := ⟨_, rfl⟩
           replace H : (spec_l5Bits.l1 k2 l0 y219 x4_1 (wrap64 (x5_2 + 1))) = some r := by first | (rw [hy219]; with_reducible exact H) | (have H2_ := (Option.bind_some _ _).symm.trans H; rw [hy219]; with_reducible exact H2_) | (have H2_ := (Option.bind_some _ _).symm.trans H; with_reducible exact H2_) | with_reducible exact H | (rw [hy219]; exact H) | exact H
           have Ny219 := Aside0.mk hy219; clear hy219; have H' := Aside0.mk H; clear H; have p210 : 0 ≤ (x4_1 : Int) := ode; have q210 : x4_1 < (l0.length : Int) := ode; obtain ⟨ad210, A210_4, c210_4, e210, hx210_0, hx210_1, hx210_2, hx210_3, hx210_4, hl210_4, hi210_4⟩ := at_T67 HR0.out x4_1 p210 q210
           cases e210
           replace hx210_0 := cl HB hx210_0; replace hx210_1 := cl HB hx210_1; replace hx210_2 := cl HB hx210_2; replace hx210_3 := cl HB hx210_3; replace hx210_4 := cl HB hx210_4; have HR210_4 := Aside0.mk hi210_4; have HC210_4 := Aside0.mk hl210_4; clear hi210_4 hl210_4; replace p210 := eq_true p210; replace q210 := eq_true q210; have p211 : 0 ≤ (x4_1 : Int) := ode; have q211 : x4_1 < (l0.length : Int) := ode; obtain ⟨ad211, A211_4, c211_4, e211, hx211_0, hx211_1, hx211_2, hx211_3, hx211_4, hl211_4, hi211_4⟩ := at_T67 HR0.out x4_1 p211 q211; obtain rfl : ad210 = ad211 := (by injection e211); replace hx211_0 := cl HB hx211_0; replace hx211_1 := cl HB hx211_1; replace hx211_2 := cl HB hx211_2; replace hx211_3 := cl HB hx211_3; replace hx211_4 := cl HB hx211_4; have HR211_4 := Aside0.mk hi211_4; have HC211_4 := Aside0.mk hl211_4; clear hi211_4 hl211_4; replace p211 := eq_true p211; replace q211 := eq_true q211; have ea_ := Option.some.inj (hx210_4.symm.trans hx211_4)
           injection ea_ with ea_ en_ ec_
           subst ea_
           subst ec_
           clear en_
           try go_wp2
           have n0_ := Aside0.mk (Kd.R_drew HO_3.out); have n1_ := Aside0.mk (below_drew1 HB.out); clear HO_3; clear HB; have HO_3 := n0_; have HB := n1_; clear n0_ n1_; have p217 : 0 ≤ (x4_1 : Int) := ode; have q217 : x4_1 < (l0.length : Int) := ode; obtain ⟨ad217, A217_4, c217_4, e217, hx217_0, hx217_1, hx217_2, hx217_3, hx217_4, hl217_4, hi217_4⟩ := at_T67 HR0.out x4_1 p217 q217; have hw217_4 := hx217_4; have hw217_3 := hx217_3; have hw217_2 := hx217_2; have hw217_1 := hx217_1; have hw217_0 := hx217_0; obtain rfl : ad210 = ad217 := (by injection e217); replace hx217_0 := cl HB hx217_0; replace hx217_1 := cl HB hx217_1; replace hx217_2 := cl HB hx217_2; replace hx217_3 := cl HB hx217_3; replace hx217_4 := cl HB hx217_4; have HR217_4 := Aside0.mk hi217_4; have HC217_4 := Aside0.mk hl217_4; clear hi217_4 hl217_4; replace p217 := eq_true p217; replace q217 := eq_true q217; have p218 : 0 ≤ (x4_1 : Int) := ode; have q218 : x4_1 < (l0.length : Int) := ode; obtain ⟨ad218, A218_4, c218_4, e218, hx218_0, hx218_1, hx218_2, hx218_3, hx218_4, hl218_4, hi218_4⟩ := at_T67 HR0.out x4_1 p218 q218; have hw218_4 := hx218_4; have hw218_3 := hx218_3; have hw218_2 := hx218_2; have hw218_1 := hx218_1; have hw218_0 := hx218_0; obtain rfl : ad210 = ad218 := (by injection e218); replace hx218_0 := cl HB hx218_0; replace hx218_1 := cl HB hx218_1; replace hx218_2 := cl HB hx218_2; replace hx218_3 := cl HB hx218_3; replace hx218_4 := cl HB hx218_4; have HR218_4 := Aside0.mk hi218_4; have HC218_4 := Aside0.mk hl218_4; clear hi218_4 hl218_4; replace p218 := eq_true p218; replace q218 := eq_true q218; have ea_ := Option.some.inj (hx217_4.symm.trans hx218_4)
           injection ea_ with ea_ en_ ec_
           subst ea_
           subst ec_
           clear en_; refine start_ (n := 17) (S := fun w' => w'.cell? (ad210.add ((x4_1).toNat * 5)) = some (.int .i64 ((rd_T67 l0 x4_1).f0)) ∧ w'.cell? ⟨(ad210.add ((x4_1).toNat * 5)).block, (ad210.add ((x4_1).toNat * 5)).off + 1, none⟩ = some (.int .i64 ((rd_T67 l0 x4_1).f1)) ∧ w'.cell? ⟨(ad210.add ((x4_1).toNat * 5)).block, (ad210.add ((x4_1).toNat * 5)).off + 2, none⟩ = some (.int .i64 ((rd_T67 l0 x4_1).f2)) ∧ w'.cell? ⟨(ad210.add ((x4_1).toNat * 5)).block, (ad210.add ((x4_1).toNat * 5)).off + 3, none⟩ = some (.int .i64 ((rd_T67 l0 x4_1).f3.f0)) ∧ w'.cell? ⟨(ad210.add ((x4_1).toNat * 5)).block, (ad210.add ((x4_1).toNat * 5)).off + 4, none⟩ = some (.slice A217_4 ((rd_T67 l0 x4_1).f3.f1).length c217_4) ∧ w'.cell? (ad210.add ((x4_1).toNat * 5)) = some (.int .i64 ((rd_T67 l0 x4_1).f0)) ∧ w'.cell? ⟨(ad210.add ((x4_1).toNat * 5)).block, (ad210.add ((x4_1).toNat * 5)).off + 1, none⟩ = some (.int .i64 ((rd_T67 l0 x4_1).f1)) ∧ w'.cell? ⟨(ad210.add ((x4_1).toNat * 5)).block, (ad210.add ((x4_1).toNat * 5)).off + 2, none⟩ = some (.int .i64 ((rd_T67 l0 x4_1).f2)) ∧ w'.cell? ⟨(ad210.add ((x4_1).toNat * 5)).block, (ad210.add ((x4_1).toNat * 5)).off + 3, none⟩ = some (.int .i64 ((rd_T67 l0 x4_1).f3.f0)) ∧ w'.cell? ⟨(ad210.add ((x4_1).toNat * 5)).block, (ad210.add ((x4_1).toNat * 5)).off + 4, none⟩ = some (.slice A217_4 ((rd_T67 l0 x4_1).f3.f1).length c217_4)) (ds := []) #[false, false, false, false, false, false, false, false, false, false, false, false, false, false, false, false, false] (by kernel_rfl) rfl rfl ⟨((HB.out.cell (World.block_lt_of_cell? w _ hw217_0)).trans hw217_0), ((HB.out.cell (World.block_lt_of_cell? w _ hw217_1)).trans hw217_1), ((HB.out.cell (World.block_lt_of_cell? w _ hw217_2)).trans hw217_2), ((HB.out.cell (World.block_lt_of_cell? w _ hw217_3)).trans hw217_3), ((HB.out.cell (World.block_lt_of_cell? w _ hw217_4)).trans hw217_4), ((HB.out.cell (World.block_lt_of_cell? w _ hw218_0)).trans hw218_0), ((HB.out.cell (World.block_lt_of_cell? w _ hw218_1)).trans hw218_1), ((HB.out.cell (World.block_lt_of_cell? w _ hw218_2)).trans hw218_2), ((HB.out.cell (World.block_lt_of_cell? w _ hw218_3)).trans hw218_3), ((HB.out.cell (World.block_lt_of_cell? w _ hw218_4)).trans hw218_4)⟩ (fun hHeld => ?_); refine with_tabW spec_l5Bits.tab10 spec_l5Bits.bits10 (fun HT_ HW_ => ?_); generalize wr.drew = w14 at HO_3 HB HR217_4 HR218_4 hx217_0 hx217_1 hx217_2 hx217_3 hx217_4 hx218_0 hx218_1 hx218_2 hx218_3 hx218_4 hHeld ⊢; refine pu HT_ 0 40 16 ?_; refine pu HT_ 1 41 15 ?_; refine pu HT_ 2 42 14 ?_; refine pu HT_ 3 43 13 ?_; refine pu HT_ 4 44 12 ?_; refine pure_ (i := 6) (N := some 46) (v := ?_) (a' := ?_) #[true, true, true, true, true, false, true, false, false, false, false, false, false, false, false, false, false] rfl rfl (any_of HT_.out (by kernel_rfl)) (fun _ _ _ h => h) (Or.inl ⟨by rfl, ?_⟩) ?_ ?_
           rotate_left
           ·intro w'
            go_simp
            with_reducible rfl
           rotate_left
           ·simp only [Act.put, List.setIfInBounds_toArray, List.set_cons_zero, List.set_cons_succ, i64_w, i32_w]
            rfl
           refine pure_ (i := 7) (N := some 47) (v := ?_) (a' := ?_) #[true, true, true, true, true, false, true, true, false, false, false, false, false, false, false, false, false] rfl rfl (any_of HT_.out (by kernel_rfl)) (fun _ _ _ h => h) (Or.inl ⟨by rfl, ?_⟩) ?_ ?_
           rotate_left
           ·intro w'
            go_simp
            with_reducible rfl
           rotate_left
           ·simp only [Act.put, List.setIfInBounds_toArray, List.set_cons_zero, List.set_cons_succ, i64_w, i32_w]
            rfl
           refine pure_ (i := 8) (N := some 48) (v := ?_) (a' := ?_) #[true, true, true, true, true, false, true, true, true, false, false, false, false, false, false, false, false] rfl rfl (any_of HT_.out (by kernel_rfl)) (fun _ _ _ h => h) (Or.inl ⟨by rfl, ?_⟩) ?_ ?_
           rotate_left
           ·intro w'
            go_simp
            with_reducible rfl
           rotate_left
           ·simp only [Act.put, List.setIfInBounds_toArray, List.set_cons_zero, List.set_cons_succ, i64_w, i32_w]
            rfl
           refine pure_ (i := 9) (N := some 49) (v := ?_) (a' := ?_) #[true, true, true, true, true, false, true, true, true, true, false, false, false, false, false, false, false] rfl rfl (any_of HT_.out (by kernel_rfl)) (fun _ _ _ h => h) (Or.inl ⟨by rfl, ?_⟩) ?_ ?_
           rotate_left
           ·intro w'
            go_simp
            with_reducible rfl
           rotate_left
           ·simp only [Act.put, List.setIfInBounds_toArray, List.set_cons_zero, List.set_cons_succ, i64_w, i32_w]
            rfl
           refine pure_ (i := 11) (N := some 51) (v := ?_) (a' := ?_) #[true, true, true, true, true, false, true, true, true, true, false, true, false, false, false, false, false] rfl rfl (any_of HT_.out (by kernel_rfl)) (fun _ _ _ h => h) (Or.inl ⟨by rfl, ?_⟩) ?_ ?_
           rotate_left
           ·intro w'
            go_simp
            with_reducible rfl
           rotate_left
           ·simp only [Act.put, List.setIfInBounds_toArray, List.set_cons_zero, List.set_cons_succ, i64_w, i32_w]
            rfl
           refine take_ (i := 5) (N := some 45) (v := ?_) (a' := ?_) #[true, true, true, true, true, true, true, true, true, true, false, true, false, false, false, false, false] rfl rfl (take_ofW HT_.out HW_.out (by kernel_rfl)) (fun _ _ _ h => h) (Or.inl ⟨by rfl, ?_⟩) hHeld ?_ ?_
           rotate_left
           ·rintro w' ⟨s0, s1, s2, s3, s4, s5, s6, s7, s8, s9⟩
            go_simp
            with_reducible rfl
           rotate_left
           ·simp only [Act.put, List.setIfInBounds_toArray, List.set_cons_zero, List.set_cons_succ, i64_w, i32_w]
            rfl
           refine take_ (i := 10) (N := some 50) (v := ?_) (a' := ?_) #[true, true, true, true, true, true, true, true, true, true, true, true, false, false, false, false, false] rfl rfl (take_ofW HT_.out HW_.out (by kernel_rfl)) (fun _ _ _ h => h) (Or.inl ⟨by rfl, ?_⟩) hHeld ?_ ?_
           rotate_left
           ·rintro w' ⟨s0, s1, s2, s3, s4, s5, s6, s7, s8, s9⟩
            go_simp
            with_reducible rfl
           rotate_left
           ·simp only [Act.put, List.setIfInBounds_toArray, List.set_cons_zero, List.set_cons_succ, i64_w, i32_w]
            rfl
           refine pu HT_ 12 52 4 ?_; refine pu HT_ 13 53 3 ?_; refine on HT_ 14 54 2 (fun K hK => ?_); refine value_ (w1 := ?_) (v := ?_) (by rfl) rfl ?_ ?_
           rotate_left 2
           ·go_simp
            constructor
            ·rfl
            ·rfl
           refine hK.out _ _ ⟨(World.cell?_alloc_lt _ _ _ (World.block_lt_of_cell? _ _ (((HB.out.cell (World.block_lt_of_cell? w _ hw217_0)).trans hw217_0)))).trans (((HB.out.cell (World.block_lt_of_cell? w _ hw217_0)).trans hw217_0)), (World.cell?_alloc_lt _ _ _ (World.block_lt_of_cell? _ _ (((HB.out.cell (World.block_lt_of_cell? w _ hw217_1)).trans hw217_1)))).trans (((HB.out.cell (World.block_lt_of_cell? w _ hw217_1)).trans hw217_1)), (World.cell?_alloc_lt _ _ _ (World.block_lt_of_cell? _ _ (((HB.out.cell (World.block_lt_of_cell? w _ hw217_2)).trans hw217_2)))).trans (((HB.out.cell (World.block_lt_of_cell? w _ hw217_2)).trans hw217_2)), (World.cell?_alloc_lt _ _ _ (World.block_lt_of_cell? _ _ (((HB.out.cell (World.block_lt_of_cell? w _ hw217_3)).trans hw217_3)))).trans (((HB.out.cell (World.block_lt_of_cell? w _ hw217_3)).trans hw217_3)), (World.cell?_alloc_lt _ _ _ (World.block_lt_of_cell? _ _ (((HB.out.cell (World.block_lt_of_cell? w _ hw217_4)).trans hw217_4)))).trans (((HB.out.cell (World.block_lt_of_cell? w _ hw217_4)).trans hw217_4)), (World.cell?_alloc_lt _ _ _ (World.block_lt_of_cell? _ _ (((HB.out.cell (World.block_lt_of_cell? w _ hw218_0)).trans hw218_0)))).trans (((HB.out.cell (World.block_lt_of_cell? w _ hw218_0)).trans hw218_0)), (World.cell?_alloc_lt _ _ _ (World.block_lt_of_cell? _ _ (((HB.out.cell (World.block_lt_of_cell? w _ hw218_1)).trans hw218_1)))).trans (((HB.out.cell (World.block_lt_of_cell? w _ hw218_1)).trans hw218_1)), (World.cell?_alloc_lt _ _ _ (World.block_lt_of_cell? _ _ (((HB.out.cell (World.block_lt_of_cell? w _ hw218_2)).trans hw218_2)))).trans (((HB.out.cell (World.block_lt_of_cell? w _ hw218_2)).trans hw218_2)), (World.cell?_alloc_lt _ _ _ (World.block_lt_of_cell? _ _ (((HB.out.cell (World.block_lt_of_cell? w _ hw218_3)).trans hw218_3)))).trans (((HB.out.cell (World.block_lt_of_cell? w _ hw218_3)).trans hw218_3)), (World.cell?_alloc_lt _ _ _ (World.block_lt_of_cell? _ _ (((HB.out.cell (World.block_lt_of_cell? w _ hw218_4)).trans hw218_4)))).trans (((HB.out.cell (World.block_lt_of_cell? w _ hw218_4)).trans hw218_4))⟩ (fun hHeld => ?_); clear hK K; refine nm 54 ?_; refine on HT_ 15 55 1 (fun K hK => ?_); refine Kd.R_append_step k80 (w0 := w) w.heap.size (by rfl) (.tmp 40) (.tmp 54) 61 80 (.agg #[(.int .i64 0), (.int .i64 0)]) 16 rfl Try.underlying61 info80 rfl (by decide) (by omega) u3 x3_2 (⟨(rd_T67 l0 x4_1).f0, wrap64 (((rd_T67 l0 x4_1).f1) + x5_2)⟩ : S80) [.int .i64 ((rd_T67 l0 x4_1).f0), .int .i64 (wrap64 (((rd_T67 l0 x4_1).f1) + x5_2))] (fun _ => True) (fun _ => False) rfl rfl ?aP (fun _ hk => hk.elim) ?aF ?aO ?aB ?aS ?aL ?_
           (case aP => exact k80_mkM _ _ _ (⟨(rd_T67 l0 x4_1).f0, wrap64 (((rd_T67 l0 x4_1).f1) + x5_2)⟩ : S80))
           (case aB => exact (bl HB))
           (case aF => exact (fun _ _ => trivial))
           (case aO => exact (rl HO_3))
           (case aS => exact (below_size (bl HB)))
           (case aL => have := LMc13.out; omega)
           intro v220 w15 ho hb hg hat
           rw [← Ny219.out] at ho; have n0_ := Aside0.mk (hb); have n1_ := Aside0.mk (ho); clear HB; clear HO_3; have HB := n0_; have HO221 := n1_; clear n0_ n1_; clear ho hb hg hat; refine hK.out _ _ ⟨((HB.out.cell (World.block_lt_of_cell? w _ hw217_0)).trans hw217_0), ((HB.out.cell (World.block_lt_of_cell? w _ hw217_1)).trans hw217_1), ((HB.out.cell (World.block_lt_of_cell? w _ hw217_2)).trans hw217_2), ((HB.out.cell (World.block_lt_of_cell? w _ hw217_3)).trans hw217_3), ((HB.out.cell (World.block_lt_of_cell? w _ hw217_4)).trans hw217_4), ((HB.out.cell (World.block_lt_of_cell? w _ hw218_0)).trans hw218_0), ((HB.out.cell (World.block_lt_of_cell? w _ hw218_1)).trans hw218_1), ((HB.out.cell (World.block_lt_of_cell? w _ hw218_2)).trans hw218_2), ((HB.out.cell (World.block_lt_of_cell? w _ hw218_3)).trans hw218_3), ((HB.out.cell (World.block_lt_of_cell? w _ hw218_4)).trans hw218_4)⟩ (fun hHeld => ?_); clear hK K; refine nm 55 ?_; refine pu HT_ 16 3 0 ?_; refine done_ (done_of HT_.out (by kernel_rfl)) ?_
           try go_wp2
           go_roundg k2
           case measure => have := HK1.out; have := HK2.out; omega
           case rel => exact ⟨(y219), (wrap64 (x5_2 + 1)), au, H', ⟨by have := HK1.out; have := HK2.out; omega⟩, ⟨rl HO221⟩, ⟨bl HB⟩⟩
          ·rw [if_neg c13] at H
           exact absurd H (by simp)
        ·rw [if_neg c7] at H
         have c7b0 : decide (x5_2 < ((rd_T67 l0 x4_1).f2)) = false := decide_eq_false c7; clear c7; have H' := Aside0.mk H; clear H; have p210 : 0 ≤ (x4_1 : Int) := ode; have q210 : x4_1 < (l0.length : Int) := ode; obtain ⟨ad210, A210_4, c210_4, e210, hx210_0, hx210_1, hx210_2, hx210_3, hx210_4, hl210_4, hi210_4⟩ := at_T67 HR0.out x4_1 p210 q210
         cases e210
         replace hx210_0 := cl HB hx210_0; replace hx210_1 := cl HB hx210_1; replace hx210_2 := cl HB hx210_2; replace hx210_3 := cl HB hx210_3; replace hx210_4 := cl HB hx210_4; have HR210_4 := Aside0.mk hi210_4; have HC210_4 := Aside0.mk hl210_4; clear hi210_4 hl210_4; replace p210 := eq_true p210; replace q210 := eq_true q210
         go_wp2
         go_roundg k2
         case measure => have := HK1.out; have := HK2.out; omega
         case rel => exact ⟨(x3_2), (wrap64 (x4_1 + 1)), au, H', ⟨by have := HK1.out; have := HK2.out; omega⟩, ⟨rl HO_3⟩, ⟨bl HB⟩⟩
       ·rw [if_neg c6] at H
        exact absurd H (by simp)
      ·rw [if_neg c5] at H
       exact absurd H (by simp)
   ·rw [if_neg c4] at H
    have c4b0 : decide (x4_1 < (l0.length : Int)) = false := decide_eq_false c4; clear c4; obtain rfl := Option.some.inj H
    go_wp2
    go_ret
    exact ⟨_, by first | rfl | (simp [errW_none, errW_some] <;> rfl) | (simp [*, errW_none, errW_some] <;> rfl), by (with_reducible repeat (first | apply Kd.R_alloc | apply Kd.R_drewN | apply Kd.R_drew)); exact HO_3.out, bl HB⟩

end Go.Proofs.Ytjnmenadlnajeaa.PFnExactFlatEval
