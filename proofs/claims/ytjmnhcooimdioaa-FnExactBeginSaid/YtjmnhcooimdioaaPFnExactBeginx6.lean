-- Written by a program of this session (a turned copy of the kit's printer); Lean checks it.
-- half the depth
import Derived.Test.YtjmnhcooimdioaaPFnExactBeginx0
import Derived.Test.YtjmnhcooimdioaaPFnExactBeginx5
namespace Go.Proofs.Ytjmnhcooimdioaa.PFnExactBegin
open Go.RowKit Go.Proofs.YtjmnhcooimdioaaW.PrintWords Go.Proofs.YtjmnhcooimdioaaW.PrintLast Go.Proofs.YtjmnhcooimdioaaW.PrintMore
attribute [local go_sem] max2_int min2_int max_two min_two max_three min_three max_four min_four   -- for this text's walks alone
set_option linter.unusedVariables false
set_option linter.unusedSimpArgs false

/-! ### laws_heldTNodeS: function 196 -/
def laws_heldTNodeS.l0 : Nat → List (S248) → Int → Int → Option (Int)
 | 0, _, _, _ => none
 | k + 1, x0, x1, x5 => if x5 < (x0.length : Int) then (if 0 ≤ x5 then (if ((rd_T248 x0 x5).f0) = x1 then (if ((rd_T248 x0 x5).f1) = (wrap64 (x1 + 1)) then (if ((rd_T248 x0 x5).f2) = (wrap64 ((wrap64 (x1 + 1)) + 1)) then (if ((rd_T248 x0 x5).f3) = (wrap64 ((wrap64 ((wrap64 (x1 + 1)) + 1)) + 1)) then (if ((rd_T248 x0 x5).f4.f0) = (wrap64 ((wrap64 ((wrap64 ((wrap64 (x1 + 1)) + 1)) + 1)) + 1)) then ((laws_heldUint64S.f k ((rd_T248 x0 x5).f4.f1) (wrap64 ((wrap64 ((wrap64 ((wrap64 ((wrap64 (x1 + 1)) + 1)) + 1)) + 1)) + 1))).bind fun t170 => (if t170 < 0 then (some (-1)) else ((laws_heldInt64S.f k ((rd_T248 x0 x5).f5) t170).bind fun t172 => (if t172 < 0 then (some (-1)) else (laws_heldTNodeS.l0 k x0 t172 (wrap64 (x5 + 1))))))) else (some (-1))) else (some (-1))) else (some (-1))) else (some (-1))) else (some (-1))) else (none)) else (some x1)
def laws_heldTNodeS.f (k : Nat) (l0 : List (S248)) (a1 : Int) : Option (Int) := laws_heldTNodeS.l0 k l0 a1 0
theorem laws_heldTNodeS.mono_l : ∀ k, (∀ y0 y1 y2, LeO (laws_heldTNodeS.l0 k y0 y1 y2) (laws_heldTNodeS.l0 (k + 1) y0 y1 y2))
 | 0 => fun _ _ _ r h => by simp [laws_heldTNodeS.l0] at h
 | k + 1 => by
  have ih0 := laws_heldTNodeS.mono_l k
  ·intro y0 y1 y2
   unfold laws_heldTNodeS.l0
   repeat' first
   | (with_reducible exact ih0 _ _ _)
   | (with_reducible exact laws_heldInt64S.mono _ _ _)
   | (with_reducible exact laws_heldUint64S.mono _ _ _)
   | (with_reducible exact LeO.refl _)
   | (with_reducible exact LeO.none _)
   | (with_reducible refine LeO.ite ?_ ?_)
   | (with_reducible refine LeO.bind ?_ (fun _ => ?_))
   | exact ih0 _ _ _
   | exact laws_heldInt64S.mono _ _ _
   | exact laws_heldUint64S.mono _ _ _
   | exact LeO.none _
   | refine LeO.ite ?_ ?_
   | refine LeO.bind ?_ (fun _ => ?_)
theorem laws_heldTNodeS.mono : ∀ a0 a1 k, LeO (laws_heldTNodeS.f k a0 a1) (laws_heldTNodeS.f (k + 1) a0 a1) := by
 intro a0 a1 k
 have ih0 := laws_heldTNodeS.mono_l k
 unfold laws_heldTNodeS.f
 repeat' first
   | (with_reducible exact ih0 _ _ _)
   | (with_reducible exact laws_heldInt64S.mono _ _ _)
   | (with_reducible exact laws_heldUint64S.mono _ _ _)
   | (with_reducible exact LeO.refl _)
   | (with_reducible exact LeO.none _)
   | (with_reducible refine LeO.ite ?_ ?_)
   | (with_reducible refine LeO.bind ?_ (fun _ => ?_))
   | exact ih0 _ _ _
   | exact laws_heldInt64S.mono _ _ _
   | exact laws_heldUint64S.mono _ _ _
   | exact LeO.none _
   | refine LeO.ite ?_ ?_
   | refine LeO.bind ?_ (fun _ => ?_)
set_option maxHeartbeats 8000000 in
set_option maxRecDepth 100000 in
theorem laws_heldTNodeS.calls (k : Nat) (A0 : Option Addr) (c0 : Nat) (l0 : List (S248)) (a1 : Int) (r : Int) (w : World) (hr0 : Kd.C k248 w A0 l0.length l0) (hc0 : l0.length ≤ c0) (h : laws_heldTNodeS.f k l0 a1 = some r) :
  Calls Try.prog 196 #[.slice A0 l0.length c0, .int .i64 a1] w fun e w' => e = .returned (.int .i64 r) ∧ Drawn0 w w' := by
 have HR0 := Aside0.mk hr0
 have HC0 := Aside0.mk hc0
 clear hr0 hc0
 have H : (laws_heldTNodeS.l0 k l0 a1 0) = some r := h
 clear h
 have H' := Aside0.mk H
 clear H
 go_enter Try.func196, Try.ntmps196
 go_wp2
 go_loopg [1, 5] k (fun kq v1 v5 w' => ∃ (x1_1 : Int) (x5_1 : Int), v1 = .int .i64 x1_1 ∧ v5 = .int .i64 x5_1 ∧ Aside0 (laws_heldTNodeS.l0 kq l0 x1_1 x5_1 = some r) ∧ Aside0 (kq ≤ k) ∧ Drawn0 w w')
 case atStart => exact ⟨(a1), (0), (by first | rfl | (simp; done) | (simp [*]; done) | (simp only [bne_nil_]; done) | (simp [bne_nil_]; done)), (by first | rfl | (simp; done) | (simp [*]; done) | (simp only [bne_nil_]; done) | (simp [bne_nil_]; done)), H', ⟨Nat.le_refl _⟩, by repeat (first | exact Drawn0.refl _ | apply Drawn0.step)⟩
 case round =>
  clear H'
  try clear c1
  try clear p2
  obtain ⟨x1_1, x5_1, rfl, rfl, HA, HK1, ⟨m1, rfl⟩⟩ := hrel
  cases gk with
  | zero => exact absurd HA.out (by simp [laws_heldTNodeS.l0])
  | succ k1 =>
   have H := HA.out
   clear HA
   simp only [laws_heldTNodeS.l0] at H
   by_cases c3 : x5_1 < (l0.length : Int)
   ·rw [if_pos c3] at H
    have c3b0 : decide (x5_1 < (l0.length : Int)) = true := decide_eq_true c3
    clear c3
    by_cases c4 : 0 ≤ x5_1
    ·rw [if_pos c4] at H
     have c4b0 : decide (0 ≤ x5_1) = true := decide_eq_true c4
     clear c4
     by_cases c5 : ((rd_T248 l0 x5_1).f0) = x1_1
     ·rw [if_pos c5] at H
      have c5b0 : (((rd_T248 l0 x5_1).f0) == x1_1) = true := beq_iff_eq.mpr c5
      have c5b1 : (((rd_T248 l0 x5_1).f0) != x1_1) = false := bne_eq_false_iff_eq.mpr c5
      clear c5
      by_cases c6 : ((rd_T248 l0 x5_1).f1) = (wrap64 (x1_1 + 1))
      ·rw [if_pos c6] at H
       have c6b0 : (((rd_T248 l0 x5_1).f1) == (wrap64 (x1_1 + 1))) = true := beq_iff_eq.mpr c6
       have c6b1 : (((rd_T248 l0 x5_1).f1) != (wrap64 (x1_1 + 1))) = false := bne_eq_false_iff_eq.mpr c6
       clear c6
       by_cases c7 : ((rd_T248 l0 x5_1).f2) = (wrap64 ((wrap64 (x1_1 + 1)) + 1))
       ·rw [if_pos c7] at H
        have c7b0 : (((rd_T248 l0 x5_1).f2) == (wrap64 ((wrap64 (x1_1 + 1)) + 1))) = true := beq_iff_eq.mpr c7
        have c7b1 : (((rd_T248 l0 x5_1).f2) != (wrap64 ((wrap64 (x1_1 + 1)) + 1))) = false := bne_eq_false_iff_eq.mpr c7
        clear c7
        by_cases c8 : ((rd_T248 l0 x5_1).f3) = (wrap64 ((wrap64 ((wrap64 (x1_1 + 1)) + 1)) + 1))
        ·rw [if_pos c8] at H
         have c8b0 : (((rd_T248 l0 x5_1).f3) == (wrap64 ((wrap64 ((wrap64 (x1_1 + 1)) + 1)) + 1))) = true := beq_iff_eq.mpr c8
         have c8b1 : (((rd_T248 l0 x5_1).f3) != (wrap64 ((wrap64 ((wrap64 (x1_1 + 1)) + 1)) + 1))) = false := bne_eq_false_iff_eq.mpr c8
         clear c8
         by_cases c9 : ((rd_T248 l0 x5_1).f4.f0) = (wrap64 ((wrap64 ((wrap64 ((wrap64 (x1_1 + 1)) + 1)) + 1)) + 1))
         ·rw [if_pos c9] at H
          have c9b0 : (((rd_T248 l0 x5_1).f4.f0) == (wrap64 ((wrap64 ((wrap64 ((wrap64 (x1_1 + 1)) + 1)) + 1)) + 1))) = true := beq_iff_eq.mpr c9
          have c9b1 : (((rd_T248 l0 x5_1).f4.f0) != (wrap64 ((wrap64 ((wrap64 ((wrap64 (x1_1 + 1)) + 1)) + 1)) + 1))) = false := bne_eq_false_iff_eq.mpr c9
          clear c9
          replace H := Option.bind_eq_some_iff.mp H
          obtain ⟨t170, A100, H⟩ := H
          replace H : (if t170 < 0 then (some (-1)) else ((laws_heldInt64S.f k1 ((rd_T248 l0 x5_1).f5) t170).bind fun t172 => (if t172 < 0 then (some (-1)) else (laws_heldTNodeS.l0 k1 l0 t172 (wrap64 (x5_1 + 1)))))) = some r := H
          have A10 := Aside0.mk A100
          clear A100
          by_cases c11 : t170 < 0
          ·rw [if_pos c11] at H
           have c11b0 : decide (t170 < 0) = true := decide_eq_true c11
           clear c11
           obtain rfl := Option.some.inj H
           have p164 : 0 ≤ (x5_1 : Int) := of_decide_eq_true (by first | (with_reducible assumption) | assumption)
           have q164 : x5_1 < (l0.length : Int) := of_decide_eq_true (by first | (with_reducible assumption) | assumption)
           obtain ⟨ad164, A164_5, c164_5, A164_6, c164_6, e164, hx164_0, hx164_1, hx164_2, hx164_3, hx164_4, hx164_5, hx164_6, hl164_5, hi164_5, hl164_6, hi164_6⟩ := at_T248 HR0.out x5_1 p164 q164
           cases e164
           have HR164_5 := Aside0.mk hi164_5
           have HC164_5 := Aside0.mk hl164_5
           clear hi164_5 hl164_5
           have HR164_6 := Aside0.mk hi164_6
           have HC164_6 := Aside0.mk hl164_6
           clear hi164_6 hl164_6
           replace p164 := eq_true p164
           replace q164 := eq_true q164
           have p165 : 0 ≤ (x5_1 : Int) := of_decide_eq_true (by first | (with_reducible assumption) | assumption)
           have q165 : x5_1 < (l0.length : Int) := of_decide_eq_true (by first | (with_reducible assumption) | assumption)
           obtain ⟨ad165, A165_5, c165_5, A165_6, c165_6, e165, hx165_0, hx165_1, hx165_2, hx165_3, hx165_4, hx165_5, hx165_6, hl165_5, hi165_5, hl165_6, hi165_6⟩ := at_T248 HR0.out x5_1 p165 q165
           obtain rfl : ad164 = ad165 := (by injection e165)
           have HR165_5 := Aside0.mk hi165_5
           have HC165_5 := Aside0.mk hl165_5
           clear hi165_5 hl165_5
           have HR165_6 := Aside0.mk hi165_6
           have HC165_6 := Aside0.mk hl165_6
           clear hi165_6 hl165_6
           replace p165 := eq_true p165
           replace q165 := eq_true q165
           have ea_ := Option.some.inj (hx164_5.symm.trans hx165_5)
           injection ea_ with ea_ en_ ec_
           subst ea_
           subst ec_
           clear en_
           have ea_ := Option.some.inj (hx164_6.symm.trans hx165_6)
           injection ea_ with ea_ en_ ec_
           subst ea_
           subst ec_
           clear en_
           have p166 : 0 ≤ (x5_1 : Int) := of_decide_eq_true (by first | (with_reducible assumption) | assumption)
           have q166 : x5_1 < (l0.length : Int) := of_decide_eq_true (by first | (with_reducible assumption) | assumption)
           obtain ⟨ad166, A166_5, c166_5, A166_6, c166_6, e166, hx166_0, hx166_1, hx166_2, hx166_3, hx166_4, hx166_5, hx166_6, hl166_5, hi166_5, hl166_6, hi166_6⟩ := at_T248 HR0.out x5_1 p166 q166
           obtain rfl : ad164 = ad166 := (by injection e166)
           have HR166_5 := Aside0.mk hi166_5
           have HC166_5 := Aside0.mk hl166_5
           clear hi166_5 hl166_5
           have HR166_6 := Aside0.mk hi166_6
           have HC166_6 := Aside0.mk hl166_6
           clear hi166_6 hl166_6
           replace p166 := eq_true p166
           replace q166 := eq_true q166
           have ea_ := Option.some.inj (hx164_5.symm.trans hx166_5)
           injection ea_ with ea_ en_ ec_
           subst ea_
           subst ec_
           clear en_
           have ea_ := Option.some.inj (hx164_6.symm.trans hx166_6)
           injection ea_ with ea_ en_ ec_
           subst ea_
           subst ec_
           clear en_
           have p167 : 0 ≤ (x5_1 : Int) := of_decide_eq_true (by first | (with_reducible assumption) | assumption)
           have q167 : x5_1 < (l0.length : Int) := of_decide_eq_true (by first | (with_reducible assumption) | assumption)
           obtain ⟨ad167, A167_5, c167_5, A167_6, c167_6, e167, hx167_0, hx167_1, hx167_2, hx167_3, hx167_4, hx167_5, hx167_6, hl167_5, hi167_5, hl167_6, hi167_6⟩ := at_T248 HR0.out x5_1 p167 q167
           obtain rfl : ad164 = ad167 := (by injection e167)
           have HR167_5 := Aside0.mk hi167_5
           have HC167_5 := Aside0.mk hl167_5
           clear hi167_5 hl167_5
           have HR167_6 := Aside0.mk hi167_6
           have HC167_6 := Aside0.mk hl167_6
           clear hi167_6 hl167_6
           replace p167 := eq_true p167
           replace q167 := eq_true q167
           have ea_ := Option.some.inj (hx164_5.symm.trans hx167_5)
           injection ea_ with ea_ en_ ec_
           subst ea_
           subst ec_
           clear en_
           have ea_ := Option.some.inj (hx164_6.symm.trans hx167_6)
           injection ea_ with ea_ en_ ec_
           subst ea_
           subst ec_
           clear en_
           have p168 : 0 ≤ (x5_1 : Int) := of_decide_eq_true (by first | (with_reducible assumption) | assumption)
           have q168 : x5_1 < (l0.length : Int) := of_decide_eq_true (by first | (with_reducible assumption) | assumption)
           obtain ⟨ad168, A168_5, c168_5, A168_6, c168_6, e168, hx168_0, hx168_1, hx168_2, hx168_3, hx168_4, hx168_5, hx168_6, hl168_5, hi168_5, hl168_6, hi168_6⟩ := at_T248 HR0.out x5_1 p168 q168
           obtain rfl : ad164 = ad168 := (by injection e168)
           have HR168_5 := Aside0.mk hi168_5
           have HC168_5 := Aside0.mk hl168_5
           clear hi168_5 hl168_5
           have HR168_6 := Aside0.mk hi168_6
           have HC168_6 := Aside0.mk hl168_6
           clear hi168_6 hl168_6
           replace p168 := eq_true p168
           replace q168 := eq_true q168
           have ea_ := Option.some.inj (hx164_5.symm.trans hx168_5)
           injection ea_ with ea_ en_ ec_
           subst ea_
           subst ec_
           clear en_
           have ea_ := Option.some.inj (hx164_6.symm.trans hx168_6)
           injection ea_ with ea_ en_ ec_
           subst ea_
           subst ec_
           clear en_
           have p169 : 0 ≤ (x5_1 : Int) := of_decide_eq_true (by first | (with_reducible assumption) | assumption)
           have q169 : x5_1 < (l0.length : Int) := of_decide_eq_true (by first | (with_reducible assumption) | assumption)
           obtain ⟨ad169, A169_5, c169_5, A169_6, c169_6, e169, hx169_0, hx169_1, hx169_2, hx169_3, hx169_4, hx169_5, hx169_6, hl169_5, hi169_5, hl169_6, hi169_6⟩ := at_T248 HR0.out x5_1 p169 q169
           obtain rfl : ad164 = ad169 := (by injection e169)
           have HR169_5 := Aside0.mk hi169_5
           have HC169_5 := Aside0.mk hl169_5
           clear hi169_5 hl169_5
           have HR169_6 := Aside0.mk hi169_6
           have HC169_6 := Aside0.mk hl169_6
           clear hi169_6 hl169_6
           replace p169 := eq_true p169
           replace q169 := eq_true q169
           have ea_ := Option.some.inj (hx164_5.symm.trans hx169_5)
           injection ea_ with ea_ en_ ec_
           subst ea_
           subst ec_
           clear en_
           have ea_ := Option.some.inj (hx164_6.symm.trans hx169_6)
           injection ea_ with ea_ en_ ec_
           subst ea_
           subst ec_
           clear en_
           go_wp2_with (first | ((with_reducible refine gate_callee (f := 116) rfl ?_); refine goesL_ (some 65) rfl rfl Try.func116 (by kernel_rfl) rfl #[.slice A164_5 ((rd_T248 l0 x5_1).f4.f1).length c164_5, .int .i64 (wrap64 ((wrap64 ((wrap64 ((wrap64 ((wrap64 (x1_1 + 1)) + 1)) + 1)) + 1)) + 1))] rfl (by (try simp only [List.map_toArray, List.map_cons, List.map_nil]); first | done | rfl | (simp only [List.length_drop, List.length_take]; rfl)) ?_; (with_reducible refine (laws_heldUint64S.calls k1 _ _ ((rd_T248 l0 x5_1).f4.f1) (wrap64 ((wrap64 ((wrap64 ((wrap64 ((wrap64 (x1_1 + 1)) + 1)) + 1)) + 1)) + 1)) t170 _ ?side1 ?side2 A10.out).mono ?_); (case side1 => repeat (first | exact HR169_5.out | (with_reducible refine Kd.C_alloc ?_ _) | (with_reducible refine Kd.C_drewN ?_ _) | (with_reducible refine Kd.C_drew ?_))); (case side2 => exact HC169_5.out); rintro e w' ⟨rfl, ⟨nd, rfl⟩⟩; refine ⟨_, rfl, ?_⟩))
           go_ret
           exact ⟨by first | rfl | (simp; done) | (simp [*]; done) | (simp only [bne_nil_]; done) | (simp [bne_nil_]; done), by repeat (first | exact Drawn0.refl _ | apply Drawn0.step)⟩
          ·rw [if_neg c11] at H
           have c11b0 : decide (t170 < 0) = false := decide_eq_false c11
           clear c11
           replace H := Option.bind_eq_some_iff.mp H
           obtain ⟨t172, A120, H⟩ := H
           replace H : (if t172 < 0 then (some (-1)) else (laws_heldTNodeS.l0 k1 l0 t172 (wrap64 (x5_1 + 1)))) = some r := H
           have A12 := Aside0.mk A120
           clear A120
           by_cases c13 : t172 < 0
           ·rw [if_pos c13] at H
            have c13b0 : decide (t172 < 0) = true := decide_eq_true c13
            clear c13
            obtain rfl := Option.some.inj H
            have p164 : 0 ≤ (x5_1 : Int) := of_decide_eq_true (by first | (with_reducible assumption) | assumption)
            have q164 : x5_1 < (l0.length : Int) := of_decide_eq_true (by first | (with_reducible assumption) | assumption)
            obtain ⟨ad164, A164_5, c164_5, A164_6, c164_6, e164, hx164_0, hx164_1, hx164_2, hx164_3, hx164_4, hx164_5, hx164_6, hl164_5, hi164_5, hl164_6, hi164_6⟩ := at_T248 HR0.out x5_1 p164 q164
            cases e164
            have HR164_5 := Aside0.mk hi164_5
            have HC164_5 := Aside0.mk hl164_5
            clear hi164_5 hl164_5
            have HR164_6 := Aside0.mk hi164_6
            have HC164_6 := Aside0.mk hl164_6
            clear hi164_6 hl164_6
            replace p164 := eq_true p164
            replace q164 := eq_true q164
            have p165 : 0 ≤ (x5_1 : Int) := of_decide_eq_true (by first | (with_reducible assumption) | assumption)
            have q165 : x5_1 < (l0.length : Int) := of_decide_eq_true (by first | (with_reducible assumption) | assumption)
            obtain ⟨ad165, A165_5, c165_5, A165_6, c165_6, e165, hx165_0, hx165_1, hx165_2, hx165_3, hx165_4, hx165_5, hx165_6, hl165_5, hi165_5, hl165_6, hi165_6⟩ := at_T248 HR0.out x5_1 p165 q165
            obtain rfl : ad164 = ad165 := (by injection e165)
            have HR165_5 := Aside0.mk hi165_5
            have HC165_5 := Aside0.mk hl165_5
            clear hi165_5 hl165_5
            have HR165_6 := Aside0.mk hi165_6
            have HC165_6 := Aside0.mk hl165_6
            clear hi165_6 hl165_6
            replace p165 := eq_true p165
            replace q165 := eq_true q165
            have ea_ := Option.some.inj (hx164_5.symm.trans hx165_5)
            injection ea_ with ea_ en_ ec_
            subst ea_
            subst ec_
            clear en_
            have ea_ := Option.some.inj (hx164_6.symm.trans hx165_6)
            injection ea_ with ea_ en_ ec_
            subst ea_
            subst ec_
            clear en_
            have p166 : 0 ≤ (x5_1 : Int) := of_decide_eq_true (by first | (with_reducible assumption) | assumption)
            have q166 : x5_1 < (l0.length : Int) := of_decide_eq_true (by first | (with_reducible assumption) | assumption)
            obtain ⟨ad166, A166_5, c166_5, A166_6, c166_6, e166, hx166_0, hx166_1, hx166_2, hx166_3, hx166_4, hx166_5, hx166_6, hl166_5, hi166_5, hl166_6, hi166_6⟩ := at_T248 HR0.out x5_1 p166 q166
            obtain rfl : ad164 = ad166 := (by injection e166)
            have HR166_5 := Aside0.mk hi166_5
            have HC166_5 := Aside0.mk hl166_5
            clear hi166_5 hl166_5
            have HR166_6 := Aside0.mk hi166_6
            have HC166_6 := Aside0.mk hl166_6
            clear hi166_6 hl166_6
            replace p166 := eq_true p166
            replace q166 := eq_true q166
            have ea_ := Option.some.inj (hx164_5.symm.trans hx166_5)
            injection ea_ with ea_ en_ ec_
            subst ea_
            subst ec_
            clear en_
            have ea_ := Option.some.inj (hx164_6.symm.trans hx166_6)
            injection ea_ with ea_ en_ ec_
            subst ea_
            subst ec_
            clear en_
            have p167 : 0 ≤ (x5_1 : Int) := of_decide_eq_true (by first | (with_reducible assumption) | assumption)
            have q167 : x5_1 < (l0.length : Int) := of_decide_eq_true (by first | (with_reducible assumption) | assumption)
            obtain ⟨ad167, A167_5, c167_5, A167_6, c167_6, e167, hx167_0, hx167_1, hx167_2, hx167_3, hx167_4, hx167_5, hx167_6, hl167_5, hi167_5, hl167_6, hi167_6⟩ := at_T248 HR0.out x5_1 p167 q167
            obtain rfl : ad164 = ad167 := (by injection e167)
            have HR167_5 := Aside0.mk hi167_5
            have HC167_5 := Aside0.mk hl167_5
            clear hi167_5 hl167_5
            have HR167_6 := Aside0.mk hi167_6
            have HC167_6 := Aside0.mk hl167_6
            clear hi167_6 hl167_6
            replace p167 := eq_true p167
            replace q167 := eq_true q167
            have ea_ := Option.some.inj (hx164_5.symm.trans hx167_5)
            injection ea_ with ea_ en_ ec_
            subst ea_
            subst ec_
            clear en_
            have ea_ := Option.some.inj (hx164_6.symm.trans hx167_6)
            injection ea_ with ea_ en_ ec_
            subst ea_
            subst ec_
            clear en_
            have p168 : 0 ≤ (x5_1 : Int) := of_decide_eq_true (by first | (with_reducible assumption) | assumption)
            have q168 : x5_1 < (l0.length : Int) := of_decide_eq_true (by first | (with_reducible assumption) | assumption)
            obtain ⟨ad168, A168_5, c168_5, A168_6, c168_6, e168, hx168_0, hx168_1, hx168_2, hx168_3, hx168_4, hx168_5, hx168_6, hl168_5, hi168_5, hl168_6, hi168_6⟩ := at_T248 HR0.out x5_1 p168 q168
            obtain rfl : ad164 = ad168 := (by injection e168)
            have HR168_5 := Aside0.mk hi168_5
            have HC168_5 := Aside0.mk hl168_5
            clear hi168_5 hl168_5
            have HR168_6 := Aside0.mk hi168_6
            have HC168_6 := Aside0.mk hl168_6
            clear hi168_6 hl168_6
            replace p168 := eq_true p168
            replace q168 := eq_true q168
            have ea_ := Option.some.inj (hx164_5.symm.trans hx168_5)
            injection ea_ with ea_ en_ ec_
            subst ea_
            subst ec_
            clear en_
            have ea_ := Option.some.inj (hx164_6.symm.trans hx168_6)
            injection ea_ with ea_ en_ ec_
            subst ea_
            subst ec_
            clear en_
            have p169 : 0 ≤ (x5_1 : Int) := of_decide_eq_true (by first | (with_reducible assumption) | assumption)
            have q169 : x5_1 < (l0.length : Int) := of_decide_eq_true (by first | (with_reducible assumption) | assumption)
            obtain ⟨ad169, A169_5, c169_5, A169_6, c169_6, e169, hx169_0, hx169_1, hx169_2, hx169_3, hx169_4, hx169_5, hx169_6, hl169_5, hi169_5, hl169_6, hi169_6⟩ := at_T248 HR0.out x5_1 p169 q169
            obtain rfl : ad164 = ad169 := (by injection e169)
            have HR169_5 := Aside0.mk hi169_5
            have HC169_5 := Aside0.mk hl169_5
            clear hi169_5 hl169_5
            have HR169_6 := Aside0.mk hi169_6
            have HC169_6 := Aside0.mk hl169_6
            clear hi169_6 hl169_6
            replace p169 := eq_true p169
            replace q169 := eq_true q169
            have ea_ := Option.some.inj (hx164_5.symm.trans hx169_5)
            injection ea_ with ea_ en_ ec_
            subst ea_
            subst ec_
            clear en_
            have ea_ := Option.some.inj (hx164_6.symm.trans hx169_6)
            injection ea_ with ea_ en_ ec_
            subst ea_
            subst ec_
            clear en_
            go_wp2_with (first | ((with_reducible refine gate_callee (f := 116) rfl ?_); refine goesL_ (some 65) rfl rfl Try.func116 (by kernel_rfl) rfl #[.slice A164_5 ((rd_T248 l0 x5_1).f4.f1).length c164_5, .int .i64 (wrap64 ((wrap64 ((wrap64 ((wrap64 ((wrap64 (x1_1 + 1)) + 1)) + 1)) + 1)) + 1))] rfl (by (try simp only [List.map_toArray, List.map_cons, List.map_nil]); first | done | rfl | (simp only [List.length_drop, List.length_take]; rfl)) ?_; (with_reducible refine (laws_heldUint64S.calls k1 _ _ ((rd_T248 l0 x5_1).f4.f1) (wrap64 ((wrap64 ((wrap64 ((wrap64 ((wrap64 (x1_1 + 1)) + 1)) + 1)) + 1)) + 1)) t170 _ ?side1 ?side2 A10.out).mono ?_); (case side1 => repeat (first | exact HR169_5.out | (with_reducible refine Kd.C_alloc ?_ _) | (with_reducible refine Kd.C_drewN ?_ _) | (with_reducible refine Kd.C_drew ?_))); (case side2 => exact HC169_5.out); rintro e w' ⟨rfl, ⟨nd, rfl⟩⟩; refine ⟨_, rfl, ?_⟩; have p171 : 0 ≤ (x5_1 : Int) := of_decide_eq_true (by first | (with_reducible assumption) | assumption); have q171 : x5_1 < (l0.length : Int) := of_decide_eq_true (by first | (with_reducible assumption) | assumption); obtain ⟨ad171, A171_5, c171_5, A171_6, c171_6, e171, hx171_0, hx171_1, hx171_2, hx171_3, hx171_4, hx171_5, hx171_6, hl171_5, hi171_5, hl171_6, hi171_6⟩ := at_T248 HR0.out x5_1 p171 q171; obtain rfl : ad164 = ad171 := (by injection e171); have HR171_5 := Aside0.mk hi171_5; have HC171_5 := Aside0.mk hl171_5; clear hi171_5 hl171_5; have HR171_6 := Aside0.mk hi171_6; have HC171_6 := Aside0.mk hl171_6; clear hi171_6 hl171_6; replace p171 := eq_true p171; replace q171 := eq_true q171; have ea_ := Option.some.inj (hx164_5.symm.trans hx171_5); injection ea_ with ea_ en_ ec_; subst ea_; subst ec_; clear en_; have ea_ := Option.some.inj (hx164_6.symm.trans hx171_6); injection ea_ with ea_ en_ ec_; subst ea_; subst ec_; clear en_) | ((with_reducible refine gate_callee (f := 24) rfl ?_); refine goesL_ (some 74) rfl rfl Try.func24 (by kernel_rfl) rfl #[.slice A164_6 ((rd_T248 l0 x5_1).f5).length c164_6, .int .i64 t170] rfl (by (try simp only [List.map_toArray, List.map_cons, List.map_nil]); first | done | rfl | (simp only [List.length_drop, List.length_take]; rfl)) ?_; (with_reducible refine (laws_heldInt64S.calls k1 _ _ ((rd_T248 l0 x5_1).f5) t170 t172 _ ?side1 ?side2 A12.out).mono ?_); (case side1 => repeat (first | exact HR171_6.out | (with_reducible refine Kd.C_alloc ?_ _) | (with_reducible refine Kd.C_drewN ?_ _) | (with_reducible refine Kd.C_drew ?_))); (case side2 => exact HC171_6.out); rintro e w' ⟨rfl, ⟨nd, rfl⟩⟩; refine ⟨_, rfl, ?_⟩))
            go_ret
            exact ⟨by first | rfl | (simp; done) | (simp [*]; done) | (simp only [bne_nil_]; done) | (simp [bne_nil_]; done), by repeat (first | exact Drawn0.refl _ | apply Drawn0.step)⟩
           ·rw [if_neg c13] at H
            have c13b0 : decide (t172 < 0) = false := decide_eq_false c13
            clear c13
            have H' := Aside0.mk H
            clear H
            have p164 : 0 ≤ (x5_1 : Int) := of_decide_eq_true (by first | (with_reducible assumption) | assumption)
            have q164 : x5_1 < (l0.length : Int) := of_decide_eq_true (by first | (with_reducible assumption) | assumption)
            obtain ⟨ad164, A164_5, c164_5, A164_6, c164_6, e164, hx164_0, hx164_1, hx164_2, hx164_3, hx164_4, hx164_5, hx164_6, hl164_5, hi164_5, hl164_6, hi164_6⟩ := at_T248 HR0.out x5_1 p164 q164
            cases e164
            have HR164_5 := Aside0.mk hi164_5
            have HC164_5 := Aside0.mk hl164_5
            clear hi164_5 hl164_5
            have HR164_6 := Aside0.mk hi164_6
            have HC164_6 := Aside0.mk hl164_6
            clear hi164_6 hl164_6
            replace p164 := eq_true p164
            replace q164 := eq_true q164
            have p165 : 0 ≤ (x5_1 : Int) := of_decide_eq_true (by first | (with_reducible assumption) | assumption)
            have q165 : x5_1 < (l0.length : Int) := of_decide_eq_true (by first | (with_reducible assumption) | assumption)
            obtain ⟨ad165, A165_5, c165_5, A165_6, c165_6, e165, hx165_0, hx165_1, hx165_2, hx165_3, hx165_4, hx165_5, hx165_6, hl165_5, hi165_5, hl165_6, hi165_6⟩ := at_T248 HR0.out x5_1 p165 q165
            obtain rfl : ad164 = ad165 := (by injection e165)
            have HR165_5 := Aside0.mk hi165_5
            have HC165_5 := Aside0.mk hl165_5
            clear hi165_5 hl165_5
            have HR165_6 := Aside0.mk hi165_6
            have HC165_6 := Aside0.mk hl165_6
            clear hi165_6 hl165_6
            replace p165 := eq_true p165
            replace q165 := eq_true q165
            have ea_ := Option.some.inj (hx164_5.symm.trans hx165_5)
            injection ea_ with ea_ en_ ec_
            subst ea_
            subst ec_
            clear en_
            have ea_ := Option.some.inj (hx164_6.symm.trans hx165_6)
            injection ea_ with ea_ en_ ec_
            subst ea_
            subst ec_
            clear en_
            have p166 : 0 ≤ (x5_1 : Int) := of_decide_eq_true (by first | (with_reducible assumption) | assumption)
            have q166 : x5_1 < (l0.length : Int) := of_decide_eq_true (by first | (with_reducible assumption) | assumption)
            obtain ⟨ad166, A166_5, c166_5, A166_6, c166_6, e166, hx166_0, hx166_1, hx166_2, hx166_3, hx166_4, hx166_5, hx166_6, hl166_5, hi166_5, hl166_6, hi166_6⟩ := at_T248 HR0.out x5_1 p166 q166
            obtain rfl : ad164 = ad166 := (by injection e166)
            have HR166_5 := Aside0.mk hi166_5
            have HC166_5 := Aside0.mk hl166_5
            clear hi166_5 hl166_5
            have HR166_6 := Aside0.mk hi166_6
            have HC166_6 := Aside0.mk hl166_6
            clear hi166_6 hl166_6
            replace p166 := eq_true p166
            replace q166 := eq_true q166
            have ea_ := Option.some.inj (hx164_5.symm.trans hx166_5)
            injection ea_ with ea_ en_ ec_
            subst ea_
            subst ec_
            clear en_
            have ea_ := Option.some.inj (hx164_6.symm.trans hx166_6)
            injection ea_ with ea_ en_ ec_
            subst ea_
            subst ec_
            clear en_
            have p167 : 0 ≤ (x5_1 : Int) := of_decide_eq_true (by first | (with_reducible assumption) | assumption)
            have q167 : x5_1 < (l0.length : Int) := of_decide_eq_true (by first | (with_reducible assumption) | assumption)
            obtain ⟨ad167, A167_5, c167_5, A167_6, c167_6, e167, hx167_0, hx167_1, hx167_2, hx167_3, hx167_4, hx167_5, hx167_6, hl167_5, hi167_5, hl167_6, hi167_6⟩ := at_T248 HR0.out x5_1 p167 q167
            obtain rfl : ad164 = ad167 := (by injection e167)
            have HR167_5 := Aside0.mk hi167_5
            have HC167_5 := Aside0.mk hl167_5
            clear hi167_5 hl167_5
            have HR167_6 := Aside0.mk hi167_6
            have HC167_6 := Aside0.mk hl167_6
            clear hi167_6 hl167_6
            replace p167 := eq_true p167
            replace q167 := eq_true q167
            have ea_ := Option.some.inj (hx164_5.symm.trans hx167_5)
            injection ea_ with ea_ en_ ec_
            subst ea_
            subst ec_
            clear en_
            have ea_ := Option.some.inj (hx164_6.symm.trans hx167_6)
            injection ea_ with ea_ en_ ec_
            subst ea_
            subst ec_
            clear en_
            have p168 : 0 ≤ (x5_1 : Int) := of_decide_eq_true (by first | (with_reducible assumption) | assumption)
            have q168 : x5_1 < (l0.length : Int) := of_decide_eq_true (by first | (with_reducible assumption) | assumption)
            obtain ⟨ad168, A168_5, c168_5, A168_6, c168_6, e168, hx168_0, hx168_1, hx168_2, hx168_3, hx168_4, hx168_5, hx168_6, hl168_5, hi168_5, hl168_6, hi168_6⟩ := at_T248 HR0.out x5_1 p168 q168
            obtain rfl : ad164 = ad168 := (by injection e168)
            have HR168_5 := Aside0.mk hi168_5
            have HC168_5 := Aside0.mk hl168_5
            clear hi168_5 hl168_5
            have HR168_6 := Aside0.mk hi168_6
            have HC168_6 := Aside0.mk hl168_6
            clear hi168_6 hl168_6
            replace p168 := eq_true p168
            replace q168 := eq_true q168
            have ea_ := Option.some.inj (hx164_5.symm.trans hx168_5)
            injection ea_ with ea_ en_ ec_
            subst ea_
            subst ec_
            clear en_
            have ea_ := Option.some.inj (hx164_6.symm.trans hx168_6)
            injection ea_ with ea_ en_ ec_
            subst ea_
            subst ec_
            clear en_
            have p169 : 0 ≤ (x5_1 : Int) := of_decide_eq_true (by first | (with_reducible assumption) | assumption)
            have q169 : x5_1 < (l0.length : Int) := of_decide_eq_true (by first | (with_reducible assumption) | assumption)
            obtain ⟨ad169, A169_5, c169_5, A169_6, c169_6, e169, hx169_0, hx169_1, hx169_2, hx169_3, hx169_4, hx169_5, hx169_6, hl169_5, hi169_5, hl169_6, hi169_6⟩ := at_T248 HR0.out x5_1 p169 q169
            obtain rfl : ad164 = ad169 := (by injection e169)
            have HR169_5 := Aside0.mk hi169_5
            have HC169_5 := Aside0.mk hl169_5
            clear hi169_5 hl169_5
            have HR169_6 := Aside0.mk hi169_6
            have HC169_6 := Aside0.mk hl169_6
            clear hi169_6 hl169_6
            replace p169 := eq_true p169
            replace q169 := eq_true q169
            have ea_ := Option.some.inj (hx164_5.symm.trans hx169_5)
            injection ea_ with ea_ en_ ec_
            subst ea_
            subst ec_
            clear en_
            have ea_ := Option.some.inj (hx164_6.symm.trans hx169_6)
            injection ea_ with ea_ en_ ec_
            subst ea_
            subst ec_
            clear en_
            go_wp2_with (first | ((with_reducible refine gate_callee (f := 116) rfl ?_); refine goesL_ (some 65) rfl rfl Try.func116 (by kernel_rfl) rfl #[.slice A164_5 ((rd_T248 l0 x5_1).f4.f1).length c164_5, .int .i64 (wrap64 ((wrap64 ((wrap64 ((wrap64 ((wrap64 (x1_1 + 1)) + 1)) + 1)) + 1)) + 1))] rfl (by (try simp only [List.map_toArray, List.map_cons, List.map_nil]); first | done | rfl | (simp only [List.length_drop, List.length_take]; rfl)) ?_; (with_reducible refine (laws_heldUint64S.calls k1 _ _ ((rd_T248 l0 x5_1).f4.f1) (wrap64 ((wrap64 ((wrap64 ((wrap64 ((wrap64 (x1_1 + 1)) + 1)) + 1)) + 1)) + 1)) t170 _ ?side1 ?side2 A10.out).mono ?_); (case side1 => repeat (first | exact HR169_5.out | (with_reducible refine Kd.C_alloc ?_ _) | (with_reducible refine Kd.C_drewN ?_ _) | (with_reducible refine Kd.C_drew ?_))); (case side2 => exact HC169_5.out); rintro e w' ⟨rfl, ⟨nd, rfl⟩⟩; refine ⟨_, rfl, ?_⟩; have p171 : 0 ≤ (x5_1 : Int) := of_decide_eq_true (by first | (with_reducible assumption) | assumption); have q171 : x5_1 < (l0.length : Int) := of_decide_eq_true (by first | (with_reducible assumption) | assumption); obtain ⟨ad171, A171_5, c171_5, A171_6, c171_6, e171, hx171_0, hx171_1, hx171_2, hx171_3, hx171_4, hx171_5, hx171_6, hl171_5, hi171_5, hl171_6, hi171_6⟩ := at_T248 HR0.out x5_1 p171 q171; obtain rfl : ad164 = ad171 := (by injection e171); have HR171_5 := Aside0.mk hi171_5; have HC171_5 := Aside0.mk hl171_5; clear hi171_5 hl171_5; have HR171_6 := Aside0.mk hi171_6; have HC171_6 := Aside0.mk hl171_6; clear hi171_6 hl171_6; replace p171 := eq_true p171; replace q171 := eq_true q171; have ea_ := Option.some.inj (hx164_5.symm.trans hx171_5); injection ea_ with ea_ en_ ec_; subst ea_; subst ec_; clear en_; have ea_ := Option.some.inj (hx164_6.symm.trans hx171_6); injection ea_ with ea_ en_ ec_; subst ea_; subst ec_; clear en_) | ((with_reducible refine gate_callee (f := 24) rfl ?_); refine goesL_ (some 74) rfl rfl Try.func24 (by kernel_rfl) rfl #[.slice A164_6 ((rd_T248 l0 x5_1).f5).length c164_6, .int .i64 t170] rfl (by (try simp only [List.map_toArray, List.map_cons, List.map_nil]); first | done | rfl | (simp only [List.length_drop, List.length_take]; rfl)) ?_; (with_reducible refine (laws_heldInt64S.calls k1 _ _ ((rd_T248 l0 x5_1).f5) t170 t172 _ ?side1 ?side2 A12.out).mono ?_); (case side1 => repeat (first | exact HR171_6.out | (with_reducible refine Kd.C_alloc ?_ _) | (with_reducible refine Kd.C_drewN ?_ _) | (with_reducible refine Kd.C_drew ?_))); (case side2 => exact HC171_6.out); rintro e w' ⟨rfl, ⟨nd, rfl⟩⟩; refine ⟨_, rfl, ?_⟩))
            go_roundg k1
            case measure => have := HK1.out; omega
            case rel => exact ⟨(t172), (wrap64 (x5_1 + 1)), (by first | rfl | (simp; done) | (simp [*]; done) | (simp only [bne_nil_]; done) | (simp [bne_nil_]; done)), (by first | rfl | (simp; done) | (simp [*]; done) | (simp only [bne_nil_]; done) | (simp [bne_nil_]; done)), H', ⟨by have := HK1.out; omega⟩, by repeat (first | exact Drawn0.refl _ | apply Drawn0.step)⟩
         ·rw [if_neg c9] at H
          have c9b0 : (((rd_T248 l0 x5_1).f4.f0) == (wrap64 ((wrap64 ((wrap64 ((wrap64 (x1_1 + 1)) + 1)) + 1)) + 1))) = false := beq_eq_false_iff_ne.mpr c9
          have c9b1 : (((rd_T248 l0 x5_1).f4.f0) != (wrap64 ((wrap64 ((wrap64 ((wrap64 (x1_1 + 1)) + 1)) + 1)) + 1))) = true := bne_iff_ne.mpr c9
          obtain rfl := Option.some.inj H
          have p164 : 0 ≤ (x5_1 : Int) := of_decide_eq_true (by first | (with_reducible assumption) | assumption)
          have q164 : x5_1 < (l0.length : Int) := of_decide_eq_true (by first | (with_reducible assumption) | assumption)
          obtain ⟨ad164, A164_5, c164_5, A164_6, c164_6, e164, hx164_0, hx164_1, hx164_2, hx164_3, hx164_4, hx164_5, hx164_6, hl164_5, hi164_5, hl164_6, hi164_6⟩ := at_T248 HR0.out x5_1 p164 q164
          cases e164
          have HR164_5 := Aside0.mk hi164_5
          have HC164_5 := Aside0.mk hl164_5
          clear hi164_5 hl164_5
          have HR164_6 := Aside0.mk hi164_6
          have HC164_6 := Aside0.mk hl164_6
          clear hi164_6 hl164_6
          replace p164 := eq_true p164
          replace q164 := eq_true q164
          have p165 : 0 ≤ (x5_1 : Int) := of_decide_eq_true (by first | (with_reducible assumption) | assumption)
          have q165 : x5_1 < (l0.length : Int) := of_decide_eq_true (by first | (with_reducible assumption) | assumption)
          obtain ⟨ad165, A165_5, c165_5, A165_6, c165_6, e165, hx165_0, hx165_1, hx165_2, hx165_3, hx165_4, hx165_5, hx165_6, hl165_5, hi165_5, hl165_6, hi165_6⟩ := at_T248 HR0.out x5_1 p165 q165
          obtain rfl : ad164 = ad165 := (by injection e165)
          have HR165_5 := Aside0.mk hi165_5
          have HC165_5 := Aside0.mk hl165_5
          clear hi165_5 hl165_5
          have HR165_6 := Aside0.mk hi165_6
          have HC165_6 := Aside0.mk hl165_6
          clear hi165_6 hl165_6
          replace p165 := eq_true p165
          replace q165 := eq_true q165
          have ea_ := Option.some.inj (hx164_5.symm.trans hx165_5)
          injection ea_ with ea_ en_ ec_
          subst ea_
          subst ec_
          clear en_
          have ea_ := Option.some.inj (hx164_6.symm.trans hx165_6)
          injection ea_ with ea_ en_ ec_
          subst ea_
          subst ec_
          clear en_
          have p166 : 0 ≤ (x5_1 : Int) := of_decide_eq_true (by first | (with_reducible assumption) | assumption)
          have q166 : x5_1 < (l0.length : Int) := of_decide_eq_true (by first | (with_reducible assumption) | assumption)
          obtain ⟨ad166, A166_5, c166_5, A166_6, c166_6, e166, hx166_0, hx166_1, hx166_2, hx166_3, hx166_4, hx166_5, hx166_6, hl166_5, hi166_5, hl166_6, hi166_6⟩ := at_T248 HR0.out x5_1 p166 q166
          obtain rfl : ad164 = ad166 := (by injection e166)
          have HR166_5 := Aside0.mk hi166_5
          have HC166_5 := Aside0.mk hl166_5
          clear hi166_5 hl166_5
          have HR166_6 := Aside0.mk hi166_6
          have HC166_6 := Aside0.mk hl166_6
          clear hi166_6 hl166_6
          replace p166 := eq_true p166
          replace q166 := eq_true q166
          have ea_ := Option.some.inj (hx164_5.symm.trans hx166_5)
          injection ea_ with ea_ en_ ec_
          subst ea_
          subst ec_
          clear en_
          have ea_ := Option.some.inj (hx164_6.symm.trans hx166_6)
          injection ea_ with ea_ en_ ec_
          subst ea_
          subst ec_
          clear en_
          have p167 : 0 ≤ (x5_1 : Int) := of_decide_eq_true (by first | (with_reducible assumption) | assumption)
          have q167 : x5_1 < (l0.length : Int) := of_decide_eq_true (by first | (with_reducible assumption) | assumption)
          obtain ⟨ad167, A167_5, c167_5, A167_6, c167_6, e167, hx167_0, hx167_1, hx167_2, hx167_3, hx167_4, hx167_5, hx167_6, hl167_5, hi167_5, hl167_6, hi167_6⟩ := at_T248 HR0.out x5_1 p167 q167
          obtain rfl : ad164 = ad167 := (by injection e167)
          have HR167_5 := Aside0.mk hi167_5
          have HC167_5 := Aside0.mk hl167_5
          clear hi167_5 hl167_5
          have HR167_6 := Aside0.mk hi167_6
          have HC167_6 := Aside0.mk hl167_6
          clear hi167_6 hl167_6
          replace p167 := eq_true p167
          replace q167 := eq_true q167
          have ea_ := Option.some.inj (hx164_5.symm.trans hx167_5)
          injection ea_ with ea_ en_ ec_
          subst ea_
          subst ec_
          clear en_
          have ea_ := Option.some.inj (hx164_6.symm.trans hx167_6)
          injection ea_ with ea_ en_ ec_
          subst ea_
          subst ec_
          clear en_
          have p168 : 0 ≤ (x5_1 : Int) := of_decide_eq_true (by first | (with_reducible assumption) | assumption)
          have q168 : x5_1 < (l0.length : Int) := of_decide_eq_true (by first | (with_reducible assumption) | assumption)
          obtain ⟨ad168, A168_5, c168_5, A168_6, c168_6, e168, hx168_0, hx168_1, hx168_2, hx168_3, hx168_4, hx168_5, hx168_6, hl168_5, hi168_5, hl168_6, hi168_6⟩ := at_T248 HR0.out x5_1 p168 q168
          obtain rfl : ad164 = ad168 := (by injection e168)
          have HR168_5 := Aside0.mk hi168_5
          have HC168_5 := Aside0.mk hl168_5
          clear hi168_5 hl168_5
          have HR168_6 := Aside0.mk hi168_6
          have HC168_6 := Aside0.mk hl168_6
          clear hi168_6 hl168_6
          replace p168 := eq_true p168
          replace q168 := eq_true q168
          have ea_ := Option.some.inj (hx164_5.symm.trans hx168_5)
          injection ea_ with ea_ en_ ec_
          subst ea_
          subst ec_
          clear en_
          have ea_ := Option.some.inj (hx164_6.symm.trans hx168_6)
          injection ea_ with ea_ en_ ec_
          subst ea_
          subst ec_
          clear en_
          go_wp2
          go_ret
          exact ⟨by first | rfl | (simp; done) | (simp [*]; done) | (simp only [bne_nil_]; done) | (simp [bne_nil_]; done), by repeat (first | exact Drawn0.refl _ | apply Drawn0.step)⟩
        ·rw [if_neg c8] at H
         have c8b0 : (((rd_T248 l0 x5_1).f3) == (wrap64 ((wrap64 ((wrap64 (x1_1 + 1)) + 1)) + 1))) = false := beq_eq_false_iff_ne.mpr c8
         have c8b1 : (((rd_T248 l0 x5_1).f3) != (wrap64 ((wrap64 ((wrap64 (x1_1 + 1)) + 1)) + 1))) = true := bne_iff_ne.mpr c8
         obtain rfl := Option.some.inj H
         have p164 : 0 ≤ (x5_1 : Int) := of_decide_eq_true (by first | (with_reducible assumption) | assumption)
         have q164 : x5_1 < (l0.length : Int) := of_decide_eq_true (by first | (with_reducible assumption) | assumption)
         obtain ⟨ad164, A164_5, c164_5, A164_6, c164_6, e164, hx164_0, hx164_1, hx164_2, hx164_3, hx164_4, hx164_5, hx164_6, hl164_5, hi164_5, hl164_6, hi164_6⟩ := at_T248 HR0.out x5_1 p164 q164
         cases e164
         have HR164_5 := Aside0.mk hi164_5
         have HC164_5 := Aside0.mk hl164_5
         clear hi164_5 hl164_5
         have HR164_6 := Aside0.mk hi164_6
         have HC164_6 := Aside0.mk hl164_6
         clear hi164_6 hl164_6
         replace p164 := eq_true p164
         replace q164 := eq_true q164
         have p165 : 0 ≤ (x5_1 : Int) := of_decide_eq_true (by first | (with_reducible assumption) | assumption)
         have q165 : x5_1 < (l0.length : Int) := of_decide_eq_true (by first | (with_reducible assumption) | assumption)
         obtain ⟨ad165, A165_5, c165_5, A165_6, c165_6, e165, hx165_0, hx165_1, hx165_2, hx165_3, hx165_4, hx165_5, hx165_6, hl165_5, hi165_5, hl165_6, hi165_6⟩ := at_T248 HR0.out x5_1 p165 q165
         obtain rfl : ad164 = ad165 := (by injection e165)
         have HR165_5 := Aside0.mk hi165_5
         have HC165_5 := Aside0.mk hl165_5
         clear hi165_5 hl165_5
         have HR165_6 := Aside0.mk hi165_6
         have HC165_6 := Aside0.mk hl165_6
         clear hi165_6 hl165_6
         replace p165 := eq_true p165
         replace q165 := eq_true q165
         have ea_ := Option.some.inj (hx164_5.symm.trans hx165_5)
         injection ea_ with ea_ en_ ec_
         subst ea_
         subst ec_
         clear en_
         have ea_ := Option.some.inj (hx164_6.symm.trans hx165_6)
         injection ea_ with ea_ en_ ec_
         subst ea_
         subst ec_
         clear en_
         have p166 : 0 ≤ (x5_1 : Int) := of_decide_eq_true (by first | (with_reducible assumption) | assumption)
         have q166 : x5_1 < (l0.length : Int) := of_decide_eq_true (by first | (with_reducible assumption) | assumption)
         obtain ⟨ad166, A166_5, c166_5, A166_6, c166_6, e166, hx166_0, hx166_1, hx166_2, hx166_3, hx166_4, hx166_5, hx166_6, hl166_5, hi166_5, hl166_6, hi166_6⟩ := at_T248 HR0.out x5_1 p166 q166
         obtain rfl : ad164 = ad166 := (by injection e166)
         have HR166_5 := Aside0.mk hi166_5
         have HC166_5 := Aside0.mk hl166_5
         clear hi166_5 hl166_5
         have HR166_6 := Aside0.mk hi166_6
         have HC166_6 := Aside0.mk hl166_6
         clear hi166_6 hl166_6
         replace p166 := eq_true p166
         replace q166 := eq_true q166
         have ea_ := Option.some.inj (hx164_5.symm.trans hx166_5)
         injection ea_ with ea_ en_ ec_
         subst ea_
         subst ec_
         clear en_
         have ea_ := Option.some.inj (hx164_6.symm.trans hx166_6)
         injection ea_ with ea_ en_ ec_
         subst ea_
         subst ec_
         clear en_
         have p167 : 0 ≤ (x5_1 : Int) := of_decide_eq_true (by first | (with_reducible assumption) | assumption)
         have q167 : x5_1 < (l0.length : Int) := of_decide_eq_true (by first | (with_reducible assumption) | assumption)
         obtain ⟨ad167, A167_5, c167_5, A167_6, c167_6, e167, hx167_0, hx167_1, hx167_2, hx167_3, hx167_4, hx167_5, hx167_6, hl167_5, hi167_5, hl167_6, hi167_6⟩ := at_T248 HR0.out x5_1 p167 q167
         obtain rfl : ad164 = ad167 := (by injection e167)
         have HR167_5 := Aside0.mk hi167_5
         have HC167_5 := Aside0.mk hl167_5
         clear hi167_5 hl167_5
         have HR167_6 := Aside0.mk hi167_6
         have HC167_6 := Aside0.mk hl167_6
         clear hi167_6 hl167_6
         replace p167 := eq_true p167
         replace q167 := eq_true q167
         have ea_ := Option.some.inj (hx164_5.symm.trans hx167_5)
         injection ea_ with ea_ en_ ec_
         subst ea_
         subst ec_
         clear en_
         have ea_ := Option.some.inj (hx164_6.symm.trans hx167_6)
         injection ea_ with ea_ en_ ec_
         subst ea_
         subst ec_
         clear en_
         go_wp2
         go_ret
         exact ⟨by first | rfl | (simp; done) | (simp [*]; done) | (simp only [bne_nil_]; done) | (simp [bne_nil_]; done), by repeat (first | exact Drawn0.refl _ | apply Drawn0.step)⟩
       ·rw [if_neg c7] at H
        have c7b0 : (((rd_T248 l0 x5_1).f2) == (wrap64 ((wrap64 (x1_1 + 1)) + 1))) = false := beq_eq_false_iff_ne.mpr c7
        have c7b1 : (((rd_T248 l0 x5_1).f2) != (wrap64 ((wrap64 (x1_1 + 1)) + 1))) = true := bne_iff_ne.mpr c7
        obtain rfl := Option.some.inj H
        have p164 : 0 ≤ (x5_1 : Int) := of_decide_eq_true (by first | (with_reducible assumption) | assumption)
        have q164 : x5_1 < (l0.length : Int) := of_decide_eq_true (by first | (with_reducible assumption) | assumption)
        obtain ⟨ad164, A164_5, c164_5, A164_6, c164_6, e164, hx164_0, hx164_1, hx164_2, hx164_3, hx164_4, hx164_5, hx164_6, hl164_5, hi164_5, hl164_6, hi164_6⟩ := at_T248 HR0.out x5_1 p164 q164
        cases e164
        have HR164_5 := Aside0.mk hi164_5
        have HC164_5 := Aside0.mk hl164_5
        clear hi164_5 hl164_5
        have HR164_6 := Aside0.mk hi164_6
        have HC164_6 := Aside0.mk hl164_6
        clear hi164_6 hl164_6
        replace p164 := eq_true p164
        replace q164 := eq_true q164
        have p165 : 0 ≤ (x5_1 : Int) := of_decide_eq_true (by first | (with_reducible assumption) | assumption)
        have q165 : x5_1 < (l0.length : Int) := of_decide_eq_true (by first | (with_reducible assumption) | assumption)
        obtain ⟨ad165, A165_5, c165_5, A165_6, c165_6, e165, hx165_0, hx165_1, hx165_2, hx165_3, hx165_4, hx165_5, hx165_6, hl165_5, hi165_5, hl165_6, hi165_6⟩ := at_T248 HR0.out x5_1 p165 q165
        obtain rfl : ad164 = ad165 := (by injection e165)
        have HR165_5 := Aside0.mk hi165_5
        have HC165_5 := Aside0.mk hl165_5
        clear hi165_5 hl165_5
        have HR165_6 := Aside0.mk hi165_6
        have HC165_6 := Aside0.mk hl165_6
        clear hi165_6 hl165_6
        replace p165 := eq_true p165
        replace q165 := eq_true q165
        have ea_ := Option.some.inj (hx164_5.symm.trans hx165_5)
        injection ea_ with ea_ en_ ec_
        subst ea_
        subst ec_
        clear en_
        have ea_ := Option.some.inj (hx164_6.symm.trans hx165_6)
        injection ea_ with ea_ en_ ec_
        subst ea_
        subst ec_
        clear en_
        have p166 : 0 ≤ (x5_1 : Int) := of_decide_eq_true (by first | (with_reducible assumption) | assumption)
        have q166 : x5_1 < (l0.length : Int) := of_decide_eq_true (by first | (with_reducible assumption) | assumption)
        obtain ⟨ad166, A166_5, c166_5, A166_6, c166_6, e166, hx166_0, hx166_1, hx166_2, hx166_3, hx166_4, hx166_5, hx166_6, hl166_5, hi166_5, hl166_6, hi166_6⟩ := at_T248 HR0.out x5_1 p166 q166
        obtain rfl : ad164 = ad166 := (by injection e166)
        have HR166_5 := Aside0.mk hi166_5
        have HC166_5 := Aside0.mk hl166_5
        clear hi166_5 hl166_5
        have HR166_6 := Aside0.mk hi166_6
        have HC166_6 := Aside0.mk hl166_6
        clear hi166_6 hl166_6
        replace p166 := eq_true p166
        replace q166 := eq_true q166
        have ea_ := Option.some.inj (hx164_5.symm.trans hx166_5)
        injection ea_ with ea_ en_ ec_
        subst ea_
        subst ec_
        clear en_
        have ea_ := Option.some.inj (hx164_6.symm.trans hx166_6)
        injection ea_ with ea_ en_ ec_
        subst ea_
        subst ec_
        clear en_
        go_wp2
        go_ret
        exact ⟨by first | rfl | (simp; done) | (simp [*]; done) | (simp only [bne_nil_]; done) | (simp [bne_nil_]; done), by repeat (first | exact Drawn0.refl _ | apply Drawn0.step)⟩
      ·rw [if_neg c6] at H
       have c6b0 : (((rd_T248 l0 x5_1).f1) == (wrap64 (x1_1 + 1))) = false := beq_eq_false_iff_ne.mpr c6
       have c6b1 : (((rd_T248 l0 x5_1).f1) != (wrap64 (x1_1 + 1))) = true := bne_iff_ne.mpr c6
       obtain rfl := Option.some.inj H
       have p164 : 0 ≤ (x5_1 : Int) := of_decide_eq_true (by first | (with_reducible assumption) | assumption)
       have q164 : x5_1 < (l0.length : Int) := of_decide_eq_true (by first | (with_reducible assumption) | assumption)
       obtain ⟨ad164, A164_5, c164_5, A164_6, c164_6, e164, hx164_0, hx164_1, hx164_2, hx164_3, hx164_4, hx164_5, hx164_6, hl164_5, hi164_5, hl164_6, hi164_6⟩ := at_T248 HR0.out x5_1 p164 q164
       cases e164
       have HR164_5 := Aside0.mk hi164_5
       have HC164_5 := Aside0.mk hl164_5
       clear hi164_5 hl164_5
       have HR164_6 := Aside0.mk hi164_6
       have HC164_6 := Aside0.mk hl164_6
       clear hi164_6 hl164_6
       replace p164 := eq_true p164
       replace q164 := eq_true q164
       have p165 : 0 ≤ (x5_1 : Int) := of_decide_eq_true (by first | (with_reducible assumption) | assumption)
       have q165 : x5_1 < (l0.length : Int) := of_decide_eq_true (by first | (with_reducible assumption) | assumption)
       obtain ⟨ad165, A165_5, c165_5, A165_6, c165_6, e165, hx165_0, hx165_1, hx165_2, hx165_3, hx165_4, hx165_5, hx165_6, hl165_5, hi165_5, hl165_6, hi165_6⟩ := at_T248 HR0.out x5_1 p165 q165
       obtain rfl : ad164 = ad165 := (by injection e165)
       have HR165_5 := Aside0.mk hi165_5
       have HC165_5 := Aside0.mk hl165_5
       clear hi165_5 hl165_5
       have HR165_6 := Aside0.mk hi165_6
       have HC165_6 := Aside0.mk hl165_6
       clear hi165_6 hl165_6
       replace p165 := eq_true p165
       replace q165 := eq_true q165
       have ea_ := Option.some.inj (hx164_5.symm.trans hx165_5)
       injection ea_ with ea_ en_ ec_
       subst ea_
       subst ec_
       clear en_
       have ea_ := Option.some.inj (hx164_6.symm.trans hx165_6)
       injection ea_ with ea_ en_ ec_
       subst ea_
       subst ec_
       clear en_
       go_wp2
       go_ret
       exact ⟨by first | rfl | (simp; done) | (simp [*]; done) | (simp only [bne_nil_]; done) | (simp [bne_nil_]; done), by repeat (first | exact Drawn0.refl _ | apply Drawn0.step)⟩
     ·rw [if_neg c5] at H
      have c5b0 : (((rd_T248 l0 x5_1).f0) == x1_1) = false := beq_eq_false_iff_ne.mpr c5
      have c5b1 : (((rd_T248 l0 x5_1).f0) != x1_1) = true := bne_iff_ne.mpr c5
      obtain rfl := Option.some.inj H
      have p164 : 0 ≤ (x5_1 : Int) := of_decide_eq_true (by first | (with_reducible assumption) | assumption)
      have q164 : x5_1 < (l0.length : Int) := of_decide_eq_true (by first | (with_reducible assumption) | assumption)
      obtain ⟨ad164, A164_5, c164_5, A164_6, c164_6, e164, hx164_0, hx164_1, hx164_2, hx164_3, hx164_4, hx164_5, hx164_6, hl164_5, hi164_5, hl164_6, hi164_6⟩ := at_T248 HR0.out x5_1 p164 q164
      cases e164
      have HR164_5 := Aside0.mk hi164_5
      have HC164_5 := Aside0.mk hl164_5
      clear hi164_5 hl164_5
      have HR164_6 := Aside0.mk hi164_6
      have HC164_6 := Aside0.mk hl164_6
      clear hi164_6 hl164_6
      replace p164 := eq_true p164
      replace q164 := eq_true q164
      go_wp2
      go_ret
      exact ⟨by first | rfl | (simp; done) | (simp [*]; done) | (simp only [bne_nil_]; done) | (simp [bne_nil_]; done), by repeat (first | exact Drawn0.refl _ | apply Drawn0.step)⟩
    ·rw [if_neg c4] at H
     exact absurd H (by simp)
   ·rw [if_neg c3] at H
    have c3b0 : decide (x5_1 < (l0.length : Int)) = false := decide_eq_false c3
    clear c3
    obtain rfl := Option.some.inj H
    go_wp2
    go_ret
    exact ⟨by first | rfl | (simp; done) | (simp [*]; done) | (simp only [bne_nil_]; done) | (simp [bne_nil_]; done), by repeat (first | exact Drawn0.refl _ | apply Drawn0.step)⟩

end Go.Proofs.Ytjmnhcooimdioaa.PFnExactBegin
