-- Written by a program of this session (a turned copy of the kit's printer); Lean checks it.
-- half the depth
import Derived.Test.YtjnmenadlnajeaaPFnExactFlatJoinx0
import Derived.Test.YtjnmenadlnajeaaPFnExactFlatJoinx2
namespace Go.Proofs.Ytjnmenadlnajeaa.PFnExactFlatJoin
open Go.RowKit Go.Proofs.YtjnmenadlnajeaaW.PrintWords Go.Proofs.YtjnmenadlnajeaaW.PrintLast Go.Proofs.YtjnmenadlnajeaaW.PrintMore
attribute [local go_sem] max2_int min2_int max_two min_two max_three min_three max_four min_four   -- for this text's walks alone
set_option linter.unusedVariables false
set_option linter.unusedSimpArgs false

/-! ### spec_l5Bits: function 31 -/
mutual
def spec_l5Bits.l0 : Nat → List (S67) → List (S80) → Int → Option ((List (S80)))
 | 0, _, _, _ => none
 | k + 1, x0, x3, x4 => if x4 < (x0.length : Int) then (spec_l5Bits.l1 k x0 x3 x4 0) else (some x3)
def spec_l5Bits.l1 : Nat → List (S67) → List (S80) → Int → Int → Option ((List (S80)))
 | 0, _, _, _, _ => none
 | k + 1, x0, x3, x4, x5 => if 0 ≤ x4 then (if x4 < (x0.length : Int) then (if x5 < ((rd_T67 x0 x4).f2) then (if ((rd_T67 x0 x4).f0) < 0 then ((spec_l1Bit.f ((rd_T67 x0 x4).f3.f0) ((rd_T67 x0 x4).f3.f1) x5).bind fun t148 => (if x3.length < 8796093022208 then (spec_l5Bits.l1 k x0 (x3 ++ [(⟨(-1), wrap64 (t148)⟩ : S80)]) x4 (wrap64 (x5 + 1))) else (none))) else (if x3.length < 8796093022208 then (spec_l5Bits.l1 k x0 (x3 ++ [(⟨(rd_T67 x0 x4).f0, wrap64 (((rd_T67 x0 x4).f1) + x5)⟩ : S80)]) x4 (wrap64 (x5 + 1))) else (none))) else (spec_l5Bits.l0 k x0 x3 (wrap64 (x4 + 1)))) else (none)) else (none)
end
def spec_l5Bits.f (k : Nat) (l0 : List (S67)) : Option ((List (S80))) := spec_l5Bits.l0 k l0 (([] : List (S80))) 0
def spec_l5Bits.T10 : Bool × List (List Nat × List Nat) := (true, [([], []), ([], []), ([], []), ([1, 2], [1, 2]), ([3], [3]), ([4], [4]), ([], []), ([], []), ([6, 7], [6, 7]), ([8], [8]), ([9], [9]), ([], []), ([10, 11], [10, 11]), ([5, 12], [5, 12]), ([13], [13]), ([0, 14], [0, 14]), ([15, 15, 0, 1, 2, 3, 4, 5, 6, 7, 8, 9, 10, 11, 12, 13, 14, 15], [0, 15])])
def spec_l5Bits.B10 : List Nat := [0, 0, 0, 6, 14, 30, 0, 0, 192, 448, 960, 0, 4032, 8190, 16382, 32767, 65535]
theorem spec_l5Bits.tab10 : rtab .any (opsOf Try.f31 10) = spec_l5Bits.T10 := by kernel_rfl
theorem spec_l5Bits.bits10 : waitsOk spec_l5Bits.T10.2 spec_l5Bits.B10 = true := by kernel_rfl
set_option maxHeartbeats 8000000 in
set_option maxRecDepth 100000 in
theorem spec_l5Bits.calls (k : Nat) (A0 : Option Addr) (c0 : Nat) (l0 : List (S67)) (r : List (S80)) (w : World) (hr0 : Kd.C k67 w A0 l0.length l0) (hc0 : l0.length ≤ c0) (h : spec_l5Bits.f k l0 = some r) :
  Calls Try.prog 31 #[.slice A0 l0.length c0] w fun e w' => ∃ v0_ : Value, e = .returned (v0_) ∧ Kd.R k80 80 w' w.heap.size (fun _ => True) v0_ r ∧ Below w.heap.size w w' := by
 have hu41 := Try.underlying41; have hu80 := Try.underlying80; have HR0 := Aside0.mk hr0; have HC0 := Aside0.mk hc0; clear hr0 hc0; have HB := Aside0.mk (Below.refl w.heap.size w); have H : (spec_l5Bits.l0 k l0 (([] : List (S80))) 0) = some r := h; clear h; obtain ⟨y142, hy142⟩ : ∃ y_ : List (S80), y_ = (([] : List (S80))) := ⟨_, rfl⟩
 replace H : (spec_l5Bits.l0 k l0 y142 0) = some r := by first | (rw [hy142]; with_reducible exact H) | (have H2_ := (Option.bind_some _ _).symm.trans H; rw [hy142]; with_reducible exact H2_) | (have H2_ := (Option.bind_some _ _).symm.trans H; with_reducible exact H2_) | with_reducible exact H | (rw [hy142]; exact H) | exact H
 have Ny142 := Aside0.mk hy142; clear hy142; have H' := Aside0.mk H; clear H
 go_enter Try.func31, Try.ntmps31
 go_wp2_with (first | ((with_reducible refine gate_dst (N := 6) rfl ?_); refine Kd.R_lit k80 _ 80 ?hg (N := 6) ?hd (xs := ([] : List (S80))) (inner := []) (ok := fun _ => True) (okp := fun _ => True) ?hr ?hp (fun _ hk => hk) trivial (Below.refl _ _) (Nat.le_refl _) (by simp) ?_; (case hd => rfl); (case hg => rfl); (case hr => first | (go_simp; done) | (go_simp; rfl)); (case hp => exact (Reps.none _ _)); intro v143 w2 ho3 hb hg_ hnew_; clear hg_ hnew_; (first | rw [← Ny142.out] at ho3 | (simp only [Int.reduceToNat] at ho3; rw [← Ny142.out] at ho3)); have n0_ := Aside0.mk (Kd.R_lower ho3 (below_size (bl HB))); have n1_ := Aside0.mk (below_step (bl HB) hb); clear HB; have HO144 := n0_; have HB := n1_; clear n0_ n1_; clear hb ho3))
 go_loopg [3, 4] k (fun kq v3 v4 w' => ∃ (x3_1 : List (S80)) (x4_1 : Int), v4 = .int .i64 x4_1 ∧ Aside0 (spec_l5Bits.l0 kq l0 x3_1 x4_1 = some r) ∧ Aside0 (kq ≤ k) ∧ Aside0 (Kd.R k80 80 w' w.heap.size (fun _ => True) v3 x3_1) ∧ Aside0 (Below w.heap.size w w'))
 case atStart => exact ⟨(y142), (0), au, H', ⟨Nat.le_refl _⟩, ⟨rl HO144⟩, ⟨bl HB⟩⟩
 case round =>
  clear H'
  try clear p2
  try clear c3
  obtain ⟨x3_1, x4_1, rfl, HA, HK1, HO_3, HB⟩ := hrel
  cases gk with
  | zero => exact absurd HA.out (by simp [spec_l5Bits.l0])
  | succ k1 =>
   have H := HA.out; clear HA
   simp only [spec_l5Bits.l0] at H
   by_cases c4 : x4_1 < (l0.length : Int)
   ·rw [if_pos c4] at H
    have c4b0 : decide (x4_1 < (l0.length : Int)) = true := decide_eq_true c4; clear c4; have H' := Aside0.mk H; clear H
    go_wp2
    go_loopg [3, 5] k1 (fun kq v3 v5 w' => ∃ (x3_2 : List (S80)) (x5_2 : Int), v5 = .int .i64 x5_2 ∧ Aside0 (spec_l5Bits.l1 kq l0 x3_2 x4_1 x5_2 = some r) ∧ Aside0 (kq ≤ k1) ∧ Aside0 (Kd.R k80 80 w' w.heap.size (fun _ => True) v3 x3_2) ∧ Aside0 (Below w.heap.size w w'))
    case atStart => exact ⟨(x3_1), (0), au, H', ⟨Nat.le_refl _⟩, ⟨rl HO_3⟩, ⟨bl HB⟩⟩
    case round =>
     clear H'
     try clear p2
     try clear c3
     try clear c4
     try clear c4b0
     try clear p2
     obtain ⟨x3_2, x5_2, rfl, HA, HK2, HO_3, HB⟩ := hrel
     cases gk with
     | zero => exact absurd HA.out (by simp [spec_l5Bits.l1])
     | succ k2 =>
      have H := HA.out; clear HA
      simp only [spec_l5Bits.l1] at H
      by_cases c5 : 0 ≤ x4_1
      ·rw [if_pos c5] at H
       have c5b0 : decide (0 ≤ x4_1) = true := decide_eq_true c5; clear c5
       by_cases c6 : x4_1 < (l0.length : Int)
       ·rw [if_pos c6] at H
        have c6b0 : decide (x4_1 < (l0.length : Int)) = true := decide_eq_true c6; clear c6
        by_cases c7 : x5_2 < ((rd_T67 l0 x4_1).f2)
        ·rw [if_pos c7] at H
         have c7b0 : decide (x5_2 < ((rd_T67 l0 x4_1).f2)) = true := decide_eq_true c7; clear c7
         by_cases c8 : ((rd_T67 l0 x4_1).f0) < 0
         ·rw [if_pos c8] at H
          have c8b0 : decide (((rd_T67 l0 x4_1).f0) < 0) = true := decide_eq_true c8; clear c8; replace H := Option.bind_eq_some_iff.mp H; obtain ⟨t148, A90, H⟩ := H; replace H : (if x3_2.length < 8796093022208 then (spec_l5Bits.l1 k2 l0 (x3_2 ++ [(⟨(-1), wrap64 (t148)⟩ : S80)]) x4_1 (wrap64 (x5_2 + 1))) else (none)) = some r := H; have A9 := Aside0.mk A90; clear A90
          by_cases c10 : x3_2.length < 8796093022208
          ·rw [if_pos c10] at H
           have LMc10 := Aside0.mk c10; clear c10; obtain ⟨y149, hy149⟩ : ∃ y_ : List (S80), y_ = (x3_2 ++ [(⟨(-1), wrap64 (t148)⟩ : S80)]) := ⟨_, rfl⟩
           replace H : (spec_l5Bits.l1 k2 l0 y149 x4_1 (wrap64 (x5_2 + 1))) = some r := by first | (rw [hy149]; with_reducible exact H) | (have H2_ := (Option.bind_some _ _).symm.trans H; rw [hy149]; with_reducible exact H2_) | (have H2_ := (Option.bind_some _ _).symm.trans H; with_reducible exact H2_) | with_reducible exact H | (rw [hy149]; exact H) | exact H
           have Ny149 := Aside0.mk hy149; clear hy149; have H' := Aside0.mk H; clear H; have p145 : 0 ≤ (x4_1 : Int) := ode; have q145 : x4_1 < (l0.length : Int) := ode; obtain ⟨ad145, A145_4, c145_4, e145, hx145_0, hx145_1, hx145_2, hx145_3, hx145_4, hl145_4, hi145_4⟩ := at_T67 HR0.out x4_1 p145 q145
           cases e145
           replace hx145_0 := cl HB hx145_0; replace hx145_1 := cl HB hx145_1; replace hx145_2 := cl HB hx145_2; replace hx145_3 := cl HB hx145_3; replace hx145_4 := cl HB hx145_4; have HR145_4 := Aside0.mk hi145_4; have HC145_4 := Aside0.mk hl145_4; clear hi145_4 hl145_4; replace p145 := eq_true p145; replace q145 := eq_true q145; have p146 : 0 ≤ (x4_1 : Int) := ode; have q146 : x4_1 < (l0.length : Int) := ode; obtain ⟨ad146, A146_4, c146_4, e146, hx146_0, hx146_1, hx146_2, hx146_3, hx146_4, hl146_4, hi146_4⟩ := at_T67 HR0.out x4_1 p146 q146; obtain rfl : ad145 = ad146 := (by injection e146); replace hx146_0 := cl HB hx146_0; replace hx146_1 := cl HB hx146_1; replace hx146_2 := cl HB hx146_2; replace hx146_3 := cl HB hx146_3; replace hx146_4 := cl HB hx146_4; have HR146_4 := Aside0.mk hi146_4; have HC146_4 := Aside0.mk hl146_4; clear hi146_4 hl146_4; replace p146 := eq_true p146; replace q146 := eq_true q146; have ea_ := Option.some.inj (hx145_4.symm.trans hx146_4)
           injection ea_ with ea_ en_ ec_
           subst ea_
           subst ec_
           clear en_; have p147 : 0 ≤ (x4_1 : Int) := ode; have q147 : x4_1 < (l0.length : Int) := ode; obtain ⟨ad147, A147_4, c147_4, e147, hx147_0, hx147_1, hx147_2, hx147_3, hx147_4, hl147_4, hi147_4⟩ := at_T67 HR0.out x4_1 p147 q147; obtain rfl : ad145 = ad147 := (by injection e147); replace hx147_0 := cl HB hx147_0; replace hx147_1 := cl HB hx147_1; replace hx147_2 := cl HB hx147_2; replace hx147_3 := cl HB hx147_3; replace hx147_4 := cl HB hx147_4; have HR147_4 := Aside0.mk hi147_4; have HC147_4 := Aside0.mk hl147_4; clear hi147_4 hl147_4; replace p147 := eq_true p147; replace q147 := eq_true q147; have ea_ := Option.some.inj (hx145_4.symm.trans hx147_4)
           injection ea_ with ea_ en_ ec_
           subst ea_
           subst ec_
           clear en_
           go_wp2_with (first | ((with_reducible refine gate_callee (f := 47) rfl ?_); refine goesL_ (some 35) rfl rfl Try.func47 (by kernel_rfl) rfl #[.agg #[.int .i64 ((rd_T67 l0 x4_1).f3.f0), .slice A145_4 ((rd_T67 l0 x4_1).f3.f1).length c145_4], .int .i64 x5_2] rfl ma ?_; (with_reducible refine (spec_l1Bit.calls ((rd_T67 l0 x4_1).f3.f0) _ _ ((rd_T67 l0 x4_1).f3.f1) x5_2 t148 _ ?side1 ?side2 A9.out).mono ?_); (case side1 => exact rc HR147_4 HB); (case side2 => exact HC147_4.out); rintro e w11 ⟨rfl, hb⟩; refine ⟨_, rfl, ?_⟩; have n0_ := Aside0.mk (Kd.R_below (rl HO_3) hb); have n1_ := Aside0.mk (below_step (bl HB) hb); clear HO_3; clear HB; have HO_3 := n0_; have HB := n1_; clear n0_ n1_; (try clear hb); (try clear hb2); (try clear hk); (try clear hi)) | ((with_reducible refine gate_builtin (b := .append) (xs := #[.tmp 28, .tmp 38]) rfl ?_); at_builtin; refine Kd.R_append k80 (w0 := w) w.heap.size rfl (.tmp 28) (.tmp 38) 61 80 (.agg #[(.int .i64 0), (.int .i64 0)]) 16 rfl Try.underlying61 info80 rfl (by decide) (by omega) u3 x3_2 (⟨(-1), wrap64 (t148)⟩ : S80) [.int .i64 (-1), .int .i64 (wrap64 (t148))] (fun _ => True) (fun _ => False) rfl rfl ?aP (fun _ hk => hk.elim) ?aF ?aO ?aB ?aS ?aL ?_; (case aP => exact k80_mkM _ _ _ (⟨(-1), wrap64 (t148)⟩ : S80)); (case aB => exact (bl HB)); (case aF => exact (fun _ _ => trivial)); (case aO => exact (rl HO_3)); (case aS => exact (below_size (bl HB))); (case aL => have := LMc10.out; omega); intro v150 w12 ho hb hg hat; rw [← Ny149.out] at ho; have n0_ := Aside0.mk (hb); have n1_ := Aside0.mk (ho); clear HB; clear HO_3; have HB := n0_; have HO151 := n1_; clear n0_ n1_; clear ho hb hg hat))
           go_roundg k2
           case measure => have := HK1.out; have := HK2.out; omega
           case rel => exact ⟨(y149), (wrap64 (x5_2 + 1)), au, H', ⟨by have := HK1.out; have := HK2.out; omega⟩, ⟨rl HO151⟩, ⟨bl HB⟩⟩
          ·rw [if_neg c10] at H
           exact absurd H (by simp)
         ·rw [if_neg c8] at H
          have c8b0 : decide (((rd_T67 l0 x4_1).f0) < 0) = false := decide_eq_false c8; clear c8
          by_cases c13 : x3_2.length < 8796093022208
          ·rw [if_pos c13] at H
           have LMc13 := Aside0.mk c13; clear c13; obtain ⟨y154, hy154⟩ : ∃ y_ : List (S80), y_ = (x3_2 ++ [(⟨(rd_T67 l0 x4_1).f0, wrap64 (((rd_T67 l0 x4_1).f1) + x5_2)⟩ : S80)]) := ⟨_, rfl⟩
           replace H : (spec_l5Bits.l1 k2 l0 y154 x4_1 (wrap64 (x5_2 + 1))) = some r := by first | (rw [hy154]; with_reducible exact H) | (have H2_ := (Option.bind_some _ _).symm.trans H; rw [hy154]; with_reducible exact H2_) | (have H2_ := (Option.bind_some _ _).symm.trans H; with_reducible exact H2_) | with_reducible exact H | (rw [hy154]; exact H) | exact H
           have Ny154 := Aside0.mk hy154; clear hy154; have H' := Aside0.mk H; clear H; have p145 : 0 ≤ (x4_1 : Int) := ode; have q145 : x4_1 < (l0.length : Int) := ode; obtain ⟨ad145, A145_4, c145_4, e145, hx145_0, hx145_1, hx145_2, hx145_3, hx145_4, hl145_4, hi145_4⟩ := at_T67 HR0.out x4_1 p145 q145
           cases e145
           replace hx145_0 := cl HB hx145_0; replace hx145_1 := cl HB hx145_1; replace hx145_2 := cl HB hx145_2; replace hx145_3 := cl HB hx145_3; replace hx145_4 := cl HB hx145_4; have HR145_4 := Aside0.mk hi145_4; have HC145_4 := Aside0.mk hl145_4; clear hi145_4 hl145_4; replace p145 := eq_true p145; replace q145 := eq_true q145; have p146 : 0 ≤ (x4_1 : Int) := ode; have q146 : x4_1 < (l0.length : Int) := ode; obtain ⟨ad146, A146_4, c146_4, e146, hx146_0, hx146_1, hx146_2, hx146_3, hx146_4, hl146_4, hi146_4⟩ := at_T67 HR0.out x4_1 p146 q146; obtain rfl : ad145 = ad146 := (by injection e146); replace hx146_0 := cl HB hx146_0; replace hx146_1 := cl HB hx146_1; replace hx146_2 := cl HB hx146_2; replace hx146_3 := cl HB hx146_3; replace hx146_4 := cl HB hx146_4; have HR146_4 := Aside0.mk hi146_4; have HC146_4 := Aside0.mk hl146_4; clear hi146_4 hl146_4; replace p146 := eq_true p146; replace q146 := eq_true q146; have ea_ := Option.some.inj (hx145_4.symm.trans hx146_4)
           injection ea_ with ea_ en_ ec_
           subst ea_
           subst ec_
           clear en_
           try go_wp2
           have n0_ := Aside0.mk (Kd.R_drew HO_3.out); have n1_ := Aside0.mk (below_drew1 HB.out); clear HO_3; clear HB; have HO_3 := n0_; have HB := n1_; clear n0_ n1_; have p152 : 0 ≤ (x4_1 : Int) := ode; have q152 : x4_1 < (l0.length : Int) := ode; obtain ⟨ad152, A152_4, c152_4, e152, hx152_0, hx152_1, hx152_2, hx152_3, hx152_4, hl152_4, hi152_4⟩ := at_T67 HR0.out x4_1 p152 q152; have hw152_4 := hx152_4; have hw152_3 := hx152_3; have hw152_2 := hx152_2; have hw152_1 := hx152_1; have hw152_0 := hx152_0; obtain rfl : ad145 = ad152 := (by injection e152); replace hx152_0 := cl HB hx152_0; replace hx152_1 := cl HB hx152_1; replace hx152_2 := cl HB hx152_2; replace hx152_3 := cl HB hx152_3; replace hx152_4 := cl HB hx152_4; have HR152_4 := Aside0.mk hi152_4; have HC152_4 := Aside0.mk hl152_4; clear hi152_4 hl152_4; replace p152 := eq_true p152; replace q152 := eq_true q152; have p153 : 0 ≤ (x4_1 : Int) := ode; have q153 : x4_1 < (l0.length : Int) := ode; obtain ⟨ad153, A153_4, c153_4, e153, hx153_0, hx153_1, hx153_2, hx153_3, hx153_4, hl153_4, hi153_4⟩ := at_T67 HR0.out x4_1 p153 q153; have hw153_4 := hx153_4; have hw153_3 := hx153_3; have hw153_2 := hx153_2; have hw153_1 := hx153_1; have hw153_0 := hx153_0; obtain rfl : ad145 = ad153 := (by injection e153); replace hx153_0 := cl HB hx153_0; replace hx153_1 := cl HB hx153_1; replace hx153_2 := cl HB hx153_2; replace hx153_3 := cl HB hx153_3; replace hx153_4 := cl HB hx153_4; have HR153_4 := Aside0.mk hi153_4; have HC153_4 := Aside0.mk hl153_4; clear hi153_4 hl153_4; replace p153 := eq_true p153; replace q153 := eq_true q153; have ea_ := Option.some.inj (hx152_4.symm.trans hx153_4)
           injection ea_ with ea_ en_ ec_
           subst ea_
           subst ec_
           clear en_; refine start_ (n := 17) (S := fun w' => w'.cell? (ad145.add ((x4_1).toNat * 5)) = some (.int .i64 ((rd_T67 l0 x4_1).f0)) ∧ w'.cell? ⟨(ad145.add ((x4_1).toNat * 5)).block, (ad145.add ((x4_1).toNat * 5)).off + 1, none⟩ = some (.int .i64 ((rd_T67 l0 x4_1).f1)) ∧ w'.cell? ⟨(ad145.add ((x4_1).toNat * 5)).block, (ad145.add ((x4_1).toNat * 5)).off + 2, none⟩ = some (.int .i64 ((rd_T67 l0 x4_1).f2)) ∧ w'.cell? ⟨(ad145.add ((x4_1).toNat * 5)).block, (ad145.add ((x4_1).toNat * 5)).off + 3, none⟩ = some (.int .i64 ((rd_T67 l0 x4_1).f3.f0)) ∧ w'.cell? ⟨(ad145.add ((x4_1).toNat * 5)).block, (ad145.add ((x4_1).toNat * 5)).off + 4, none⟩ = some (.slice A152_4 ((rd_T67 l0 x4_1).f3.f1).length c152_4) ∧ w'.cell? (ad145.add ((x4_1).toNat * 5)) = some (.int .i64 ((rd_T67 l0 x4_1).f0)) ∧ w'.cell? ⟨(ad145.add ((x4_1).toNat * 5)).block, (ad145.add ((x4_1).toNat * 5)).off + 1, none⟩ = some (.int .i64 ((rd_T67 l0 x4_1).f1)) ∧ w'.cell? ⟨(ad145.add ((x4_1).toNat * 5)).block, (ad145.add ((x4_1).toNat * 5)).off + 2, none⟩ = some (.int .i64 ((rd_T67 l0 x4_1).f2)) ∧ w'.cell? ⟨(ad145.add ((x4_1).toNat * 5)).block, (ad145.add ((x4_1).toNat * 5)).off + 3, none⟩ = some (.int .i64 ((rd_T67 l0 x4_1).f3.f0)) ∧ w'.cell? ⟨(ad145.add ((x4_1).toNat * 5)).block, (ad145.add ((x4_1).toNat * 5)).off + 4, none⟩ = some (.slice A152_4 ((rd_T67 l0 x4_1).f3.f1).length c152_4)) (ds := []) #[false, false, false, false, false, false, false, false, false, false, false, false, false, false, false, false, false] (by kernel_rfl) rfl rfl ⟨((HB.out.cell (World.block_lt_of_cell? w _ hw152_0)).trans hw152_0), ((HB.out.cell (World.block_lt_of_cell? w _ hw152_1)).trans hw152_1), ((HB.out.cell (World.block_lt_of_cell? w _ hw152_2)).trans hw152_2), ((HB.out.cell (World.block_lt_of_cell? w _ hw152_3)).trans hw152_3), ((HB.out.cell (World.block_lt_of_cell? w _ hw152_4)).trans hw152_4), ((HB.out.cell (World.block_lt_of_cell? w _ hw153_0)).trans hw153_0), ((HB.out.cell (World.block_lt_of_cell? w _ hw153_1)).trans hw153_1), ((HB.out.cell (World.block_lt_of_cell? w _ hw153_2)).trans hw153_2), ((HB.out.cell (World.block_lt_of_cell? w _ hw153_3)).trans hw153_3), ((HB.out.cell (World.block_lt_of_cell? w _ hw153_4)).trans hw153_4)⟩ (fun hHeld => ?_); refine with_tabW spec_l5Bits.tab10 spec_l5Bits.bits10 (fun HT_ HW_ => ?_); generalize wr.drew = w14 at HO_3 HB HR152_4 HR153_4 hx152_0 hx152_1 hx152_2 hx152_3 hx152_4 hx153_0 hx153_1 hx153_2 hx153_3 hx153_4 hHeld ⊢; refine pu HT_ 0 40 16 ?_; refine pu HT_ 1 41 15 ?_; refine pu HT_ 2 42 14 ?_; refine pu HT_ 3 43 13 ?_; refine pu HT_ 4 44 12 ?_; refine pure_ (i := 6) (N := some 46) (v := ?_) (a' := ?_) #[true, true, true, true, true, false, true, false, false, false, false, false, false, false, false, false, false] rfl rfl (any_of HT_.out (by kernel_rfl)) (fun _ _ _ h => h) (Or.inl ⟨by rfl, ?_⟩) ?_ ?_
           rotate_left
           ·intro w'
            go_simp
            with_reducible rfl
           rotate_left
           ·simp only [Act.put, List.setIfInBounds_toArray, List.set_cons_zero, List.set_cons_succ, i64_w, i32_w]
            rfl
           refine pure_ (i := 7) (N := some 47) (v := ?_) (a' := ?_) #[true, true, true, true, true, false, true, true, false, false, false, false, false, false, false, false, false] rfl rfl (any_of HT_.out (by kernel_rfl)) (fun _ _ _ h => h) (Or.inl ⟨by rfl, ?_⟩) ?_ ?_
           rotate_left
           ·intro w'
            go_simp
            with_reducible rfl
           rotate_left
           ·simp only [Act.put, List.setIfInBounds_toArray, List.set_cons_zero, List.set_cons_succ, i64_w, i32_w]
            rfl
           refine pure_ (i := 8) (N := some 48) (v := ?_) (a' := ?_) #[true, true, true, true, true, false, true, true, true, false, false, false, false, false, false, false, false] rfl rfl (any_of HT_.out (by kernel_rfl)) (fun _ _ _ h => h) (Or.inl ⟨by rfl, ?_⟩) ?_ ?_
           rotate_left
           ·intro w'
            go_simp
            with_reducible rfl
           rotate_left
           ·simp only [Act.put, List.setIfInBounds_toArray, List.set_cons_zero, List.set_cons_succ, i64_w, i32_w]
            rfl
           refine pure_ (i := 9) (N := some 49) (v := ?_) (a' := ?_) #[true, true, true, true, true, false, true, true, true, true, false, false, false, false, false, false, false] rfl rfl (any_of HT_.out (by kernel_rfl)) (fun _ _ _ h => h) (Or.inl ⟨by rfl, ?_⟩) ?_ ?_
           rotate_left
           ·intro w'
            go_simp
            with_reducible rfl
           rotate_left
           ·simp only [Act.put, List.setIfInBounds_toArray, List.set_cons_zero, List.set_cons_succ, i64_w, i32_w]
            rfl
           refine pure_ (i := 11) (N := some 51) (v := ?_) (a' := ?_) #[true, true, true, true, true, false, true, true, true, true, false, true, false, false, false, false, false] rfl rfl (any_of HT_.out (by kernel_rfl)) (fun _ _ _ h => h) (Or.inl ⟨by rfl, ?_⟩) ?_ ?_
           rotate_left
           ·intro w'
            go_simp
            with_reducible rfl
           rotate_left
           ·simp only [Act.put, List.setIfInBounds_toArray, List.set_cons_zero, List.set_cons_succ, i64_w, i32_w]
            rfl
           refine take_ (i := 5) (N := some 45) (v := ?_) (a' := ?_) #[true, true, true, true, true, true, true, true, true, true, false, true, false, false, false, false, false] rfl rfl (take_ofW HT_.out HW_.out (by kernel_rfl)) (fun _ _ _ h => h) (Or.inl ⟨by rfl, ?_⟩) hHeld ?_ ?_
           rotate_left
           ·rintro w' ⟨s0, s1, s2, s3, s4, s5, s6, s7, s8, s9⟩
            go_simp
            with_reducible rfl
           rotate_left
           ·simp only [Act.put, List.setIfInBounds_toArray, List.set_cons_zero, List.set_cons_succ, i64_w, i32_w]
            rfl
           refine take_ (i := 10) (N := some 50) (v := ?_) (a' := ?_) #[true, true, true, true, true, true, true, true, true, true, true, true, false, false, false, false, false] rfl rfl (take_ofW HT_.out HW_.out (by kernel_rfl)) (fun _ _ _ h => h) (Or.inl ⟨by rfl, ?_⟩) hHeld ?_ ?_
           rotate_left
           ·rintro w' ⟨s0, s1, s2, s3, s4, s5, s6, s7, s8, s9⟩
            go_simp
            with_reducible rfl
           rotate_left
           ·simp only [Act.put, List.setIfInBounds_toArray, List.set_cons_zero, List.set_cons_succ, i64_w, i32_w]
            rfl
           refine pu HT_ 12 52 4 ?_; refine pu HT_ 13 53 3 ?_; refine on HT_ 14 54 2 (fun K hK => ?_); refine value_ (w1 := ?_) (v := ?_) (by rfl) rfl ?_ ?_
           rotate_left 2
           ·go_simp
            constructor
            ·rfl
            ·rfl
           refine hK.out _ _ ⟨(World.cell?_alloc_lt _ _ _ (World.block_lt_of_cell? _ _ (((HB.out.cell (World.block_lt_of_cell? w _ hw152_0)).trans hw152_0)))).trans (((HB.out.cell (World.block_lt_of_cell? w _ hw152_0)).trans hw152_0)), (World.cell?_alloc_lt _ _ _ (World.block_lt_of_cell? _ _ (((HB.out.cell (World.block_lt_of_cell? w _ hw152_1)).trans hw152_1)))).trans (((HB.out.cell (World.block_lt_of_cell? w _ hw152_1)).trans hw152_1)), (World.cell?_alloc_lt _ _ _ (World.block_lt_of_cell? _ _ (((HB.out.cell (World.block_lt_of_cell? w _ hw152_2)).trans hw152_2)))).trans (((HB.out.cell (World.block_lt_of_cell? w _ hw152_2)).trans hw152_2)), (World.cell?_alloc_lt _ _ _ (World.block_lt_of_cell? _ _ (((HB.out.cell (World.block_lt_of_cell? w _ hw152_3)).trans hw152_3)))).trans (((HB.out.cell (World.block_lt_of_cell? w _ hw152_3)).trans hw152_3)), (World.cell?_alloc_lt _ _ _ (World.block_lt_of_cell? _ _ (((HB.out.cell (World.block_lt_of_cell? w _ hw152_4)).trans hw152_4)))).trans (((HB.out.cell (World.block_lt_of_cell? w _ hw152_4)).trans hw152_4)), (World.cell?_alloc_lt _ _ _ (World.block_lt_of_cell? _ _ (((HB.out.cell (World.block_lt_of_cell? w _ hw153_0)).trans hw153_0)))).trans (((HB.out.cell (World.block_lt_of_cell? w _ hw153_0)).trans hw153_0)), (World.cell?_alloc_lt _ _ _ (World.block_lt_of_cell? _ _ (((HB.out.cell (World.block_lt_of_cell? w _ hw153_1)).trans hw153_1)))).trans (((HB.out.cell (World.block_lt_of_cell? w _ hw153_1)).trans hw153_1)), (World.cell?_alloc_lt _ _ _ (World.block_lt_of_cell? _ _ (((HB.out.cell (World.block_lt_of_cell? w _ hw153_2)).trans hw153_2)))).trans (((HB.out.cell (World.block_lt_of_cell? w _ hw153_2)).trans hw153_2)), (World.cell?_alloc_lt _ _ _ (World.block_lt_of_cell? _ _ (((HB.out.cell (World.block_lt_of_cell? w _ hw153_3)).trans hw153_3)))).trans (((HB.out.cell (World.block_lt_of_cell? w _ hw153_3)).trans hw153_3)), (World.cell?_alloc_lt _ _ _ (World.block_lt_of_cell? _ _ (((HB.out.cell (World.block_lt_of_cell? w _ hw153_4)).trans hw153_4)))).trans (((HB.out.cell (World.block_lt_of_cell? w _ hw153_4)).trans hw153_4))⟩ (fun hHeld => ?_); clear hK K; refine nm 54 ?_; refine on HT_ 15 55 1 (fun K hK => ?_); refine Kd.R_append_step k80 (w0 := w) w.heap.size (by rfl) (.tmp 40) (.tmp 54) 61 80 (.agg #[(.int .i64 0), (.int .i64 0)]) 16 rfl Try.underlying61 info80 rfl (by decide) (by omega) u3 x3_2 (⟨(rd_T67 l0 x4_1).f0, wrap64 (((rd_T67 l0 x4_1).f1) + x5_2)⟩ : S80) [.int .i64 ((rd_T67 l0 x4_1).f0), .int .i64 (wrap64 (((rd_T67 l0 x4_1).f1) + x5_2))] (fun _ => True) (fun _ => False) rfl rfl ?aP (fun _ hk => hk.elim) ?aF ?aO ?aB ?aS ?aL ?_
           (case aP => exact k80_mkM _ _ _ (⟨(rd_T67 l0 x4_1).f0, wrap64 (((rd_T67 l0 x4_1).f1) + x5_2)⟩ : S80))
           (case aB => exact (bl HB))
           (case aF => exact (fun _ _ => trivial))
           (case aO => exact (rl HO_3))
           (case aS => exact (below_size (bl HB)))
           (case aL => have := LMc13.out; omega)
           intro v155 w15 ho hb hg hat
           rw [← Ny154.out] at ho; have n0_ := Aside0.mk (hb); have n1_ := Aside0.mk (ho); clear HB; clear HO_3; have HB := n0_; have HO156 := n1_; clear n0_ n1_; clear ho hb hg hat; refine hK.out _ _ ⟨((HB.out.cell (World.block_lt_of_cell? w _ hw152_0)).trans hw152_0), ((HB.out.cell (World.block_lt_of_cell? w _ hw152_1)).trans hw152_1), ((HB.out.cell (World.block_lt_of_cell? w _ hw152_2)).trans hw152_2), ((HB.out.cell (World.block_lt_of_cell? w _ hw152_3)).trans hw152_3), ((HB.out.cell (World.block_lt_of_cell? w _ hw152_4)).trans hw152_4), ((HB.out.cell (World.block_lt_of_cell? w _ hw153_0)).trans hw153_0), ((HB.out.cell (World.block_lt_of_cell? w _ hw153_1)).trans hw153_1), ((HB.out.cell (World.block_lt_of_cell? w _ hw153_2)).trans hw153_2), ((HB.out.cell (World.block_lt_of_cell? w _ hw153_3)).trans hw153_3), ((HB.out.cell (World.block_lt_of_cell? w _ hw153_4)).trans hw153_4)⟩ (fun hHeld => ?_); clear hK K; refine nm 55 ?_; refine pu HT_ 16 3 0 ?_; refine done_ (done_of HT_.out (by kernel_rfl)) ?_
           try go_wp2
           go_roundg k2
           case measure => have := HK1.out; have := HK2.out; omega
           case rel => exact ⟨(y154), (wrap64 (x5_2 + 1)), au, H', ⟨by have := HK1.out; have := HK2.out; omega⟩, ⟨rl HO156⟩, ⟨bl HB⟩⟩
          ·rw [if_neg c13] at H
           exact absurd H (by simp)
        ·rw [if_neg c7] at H
         have c7b0 : decide (x5_2 < ((rd_T67 l0 x4_1).f2)) = false := decide_eq_false c7; clear c7; have H' := Aside0.mk H; clear H; have p145 : 0 ≤ (x4_1 : Int) := ode; have q145 : x4_1 < (l0.length : Int) := ode; obtain ⟨ad145, A145_4, c145_4, e145, hx145_0, hx145_1, hx145_2, hx145_3, hx145_4, hl145_4, hi145_4⟩ := at_T67 HR0.out x4_1 p145 q145
         cases e145
         replace hx145_0 := cl HB hx145_0; replace hx145_1 := cl HB hx145_1; replace hx145_2 := cl HB hx145_2; replace hx145_3 := cl HB hx145_3; replace hx145_4 := cl HB hx145_4; have HR145_4 := Aside0.mk hi145_4; have HC145_4 := Aside0.mk hl145_4; clear hi145_4 hl145_4; replace p145 := eq_true p145; replace q145 := eq_true q145
         go_wp2
         go_roundg k2
         case measure => have := HK1.out; have := HK2.out; omega
         case rel => exact ⟨(x3_2), (wrap64 (x4_1 + 1)), au, H', ⟨by have := HK1.out; have := HK2.out; omega⟩, ⟨rl HO_3⟩, ⟨bl HB⟩⟩
       ·rw [if_neg c6] at H
        exact absurd H (by simp)
      ·rw [if_neg c5] at H
       exact absurd H (by simp)
   ·rw [if_neg c4] at H
    have c4b0 : decide (x4_1 < (l0.length : Int)) = false := decide_eq_false c4; clear c4; obtain rfl := Option.some.inj H
    go_wp2
    go_ret
    exact ⟨_, by first | rfl | (simp [errW_none, errW_some] <;> rfl) | (simp [*, errW_none, errW_some] <;> rfl), by (with_reducible repeat (first | apply Kd.R_alloc | apply Kd.R_drewN | apply Kd.R_drew)); exact HO_3.out, bl HB⟩

end Go.Proofs.Ytjnmenadlnajeaa.PFnExactFlatJoin
