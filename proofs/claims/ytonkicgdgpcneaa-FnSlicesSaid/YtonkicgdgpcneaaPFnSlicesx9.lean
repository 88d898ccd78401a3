-- Written by a program of this session (a turned copy of the kit's printer); Lean checks it.
-- half the depth
import Derived.Test.YtonkicgdgpcneaaPFnSlicesx0
import Derived.Test.YtonkicgdgpcneaaPFnSlicesx1
import Derived.Test.YtonkicgdgpcneaaPFnSlicesx2
import Derived.Test.YtonkicgdgpcneaaPFnSlicesx5
import Derived.Test.YtonkicgdgpcneaaPFnSlicesx8
namespace Go.Proofs.Ytonkicgdgpcneaa.PFnSlices
open Go.RowKit Go.Proofs.YtonkicgdgpcneaaW.PrintWords Go.Proofs.YtonkicgdgpcneaaW.PrintLast Go.Proofs.YtonkicgdgpcneaaW.PrintMore
attribute [local go_sem] max2_int min2_int max_two min_two max_three min_three max_four min_four   -- for this text's walks alone
set_option linter.unusedVariables false
set_option linter.unusedSimpArgs false

/-! ### laws_FnSlices: function 5 -/
mutual
def laws_FnSlices.l0 : Nat → List (S63) → Int → List (S65) → Int → Int → Option (Bool)
 | 0, _, _, _, _, _ => none
 | k + 1, x3, x5, x6, x7, x8 => if x8 < (x3.length : Int) then (laws_FnSlices.l1 k x3 x5 x6 x7 x8 0) else (if x7 = (x6.length : Int) then (some (x7 == x5)) else (some false))
def laws_FnSlices.l1 : Nat → List (S63) → Int → List (S65) → Int → Int → Int → Option (Bool)
 | 0, _, _, _, _, _, _ => none
 | k + 1, x3, x5, x6, x7, x8, x9 => if 0 ≤ x8 then (if x8 < (x3.length : Int) then (if x9 < ((rd_T63 x3 x8).f1) then (if x7 ≥ (x6.length : Int) then (some false) else (if 0 ≤ x7 then (if x7 < (x6.length : Int) then (if ((rd_T65 x6 x7).f0) = x8 then (if ((rd_T65 x6 x7).f1) = x9 then (if ((rd_T65 x6 x7).f2) < 1 then (some false) else (laws_FnSlices.l1 k x3 x5 x6 (wrap64 (x7 + 1)) x8 (wrap64 (x9 + ((rd_T65 x6 x7).f2))))) else (some false)) else (some false)) else (none)) else (none))) else (if x9 = ((rd_T63 x3 x8).f1) then (laws_FnSlices.l0 k x3 x5 x6 x7 (wrap64 (x8 + 1))) else (some false))) else (none)) else (none)
end
def laws_FnSlices.f (k : Nat) (l0 : List Int) : Option (Bool) := (laws_big.f l0).bind fun t247 => (if t247 = true then (some true) else ((spec_DrawSlicesOf.f k l0).bind fun bt248 => ((impl_Gauge.f k bt248.1 bt248.2).bind fun t255 => ((spec_Gauge.f k bt248.1 bt248.2).bind fun t256 => (if t255 = t256 then ((impl_SlicesOf.f k bt248.1 bt248.2).bind fun t257 => (if t255 < 0 then (some ((t257.length : Int) == 0)) else (laws_FnSlices.l0 k bt248.1 t255 t257 0 0))) else (some false))))))
set_option maxHeartbeats 8000000 in
set_option maxRecDepth 100000 in
theorem laws_FnSlices.calls (k : Nat) (A0 : Option Addr) (c0 : Nat) (l0 : List Int) (r : Bool) (w : World) (hr0 : Kd.C (Kd.int .u8) w A0 l0.length l0) (hc0 : l0.length ≤ c0) (h : laws_FnSlices.f k l0 = some r) (hrt : r = true) :
  Calls Try.prog 5 #[.slice A0 l0.length c0] w fun e w' => e = .returned (.bool r) ∧ Below w.heap.size w w' := by
 have hu44 := Try.underlying44; have HR0 := Aside0.mk hr0; have HC0 := Aside0.mk hc0; clear hr0 hc0; have HB := Aside0.mk (Below.refl w.heap.size w); have H : ((laws_big.f l0).bind fun t247 => (if t247 = true then (some true) else ((spec_DrawSlicesOf.f k l0).bind fun bt248 => ((impl_Gauge.f k bt248.1 bt248.2).bind fun t255 => ((spec_Gauge.f k bt248.1 bt248.2).bind fun t256 => (if t255 = t256 then ((impl_SlicesOf.f k bt248.1 bt248.2).bind fun t257 => (if t255 < 0 then (some ((t257.length : Int) == 0)) else (laws_FnSlices.l0 k bt248.1 t255 t257 0 0))) else (some false))))))) = some r := h; clear h; replace H := Option.bind_eq_some_iff.mp H; obtain ⟨t247, A20, H⟩ := H; replace H : (if t247 = true then (some true) else ((spec_DrawSlicesOf.f k l0).bind fun bt248 => ((impl_Gauge.f k bt248.1 bt248.2).bind fun t255 => ((spec_Gauge.f k bt248.1 bt248.2).bind fun t256 => (if t255 = t256 then ((impl_SlicesOf.f k bt248.1 bt248.2).bind fun t257 => (if t255 < 0 then (some ((t257.length : Int) == 0)) else (laws_FnSlices.l0 k bt248.1 t255 t257 0 0))) else (some false)))))) = some r := H; have A2 := Aside0.mk A20; clear A20
 by_cases c3 : t247 = true
 ·subst c3
  have H1 : (some true) = some r := by rw [if_pos rfl] at H; exact H
  clear H; have H := H1; clear H1; clear hrt; obtain rfl := Option.some.inj H
  go_enter Try.func5, Try.ntmps5
  go_wp2_with (first | ((with_reducible refine gate_callee (f := 27) rfl ?_); refine goesL_ (some 11) rfl rfl Try.func27 (by kernel_rfl) rfl #[.slice A0 l0.length c0] rfl ma ?_; (with_reducible refine (laws_big.calls _ _ l0 true _ ?side1 ?side2 A2.out).mono ?_); (case side1 => repeat (first | exact HR0.out | (with_reducible refine Kd.C_alloc ?_ _) | (with_reducible refine Kd.C_drewN ?_ _) | (with_reducible refine Kd.C_drew ?_))); (case side2 => exact HC0.out); rintro e w' ⟨rfl, ⟨nd, rfl⟩⟩; refine ⟨_, rfl, ?_⟩))
  go_ret
  exact ⟨by first | rfl | (simp [errW_none, errW_some] <;> rfl) | (simp [*, errW_none, errW_some] <;> rfl), bl HB⟩
 ·replace c3 := Bool.eq_false_iff.mpr c3
  subst c3
  have H1 : ((spec_DrawSlicesOf.f k l0).bind fun bt248 => ((impl_Gauge.f k bt248.1 bt248.2).bind fun t255 => ((spec_Gauge.f k bt248.1 bt248.2).bind fun t256 => (if t255 = t256 then ((impl_SlicesOf.f k bt248.1 bt248.2).bind fun t257 => (if t255 < 0 then (some ((t257.length : Int) == 0)) else (laws_FnSlices.l0 k bt248.1 t255 t257 0 0))) else (some false))))) = some r := by rw [if_neg (show ¬ (false = true) by decide)] at H; exact H
  clear H; have H := H1; clear H1; replace H := Option.bind_eq_some_iff.mp H; obtain ⟨⟨t248, t251⟩, A40, H⟩ := H; replace H : ((impl_Gauge.f k t248 t251).bind fun t255 => ((spec_Gauge.f k t248 t251).bind fun t256 => (if t255 = t256 then ((impl_SlicesOf.f k t248 t251).bind fun t257 => (if t255 < 0 then (some ((t257.length : Int) == 0)) else (laws_FnSlices.l0 k t248 t255 t257 0 0))) else (some false)))) = some r := H; have A4 := Aside0.mk A40; clear A40; replace H := Option.bind_eq_some_iff.mp H; obtain ⟨t255, A50, H⟩ := H; replace H : ((spec_Gauge.f k t248 t251).bind fun t256 => (if t255 = t256 then ((impl_SlicesOf.f k t248 t251).bind fun t257 => (if t255 < 0 then (some ((t257.length : Int) == 0)) else (laws_FnSlices.l0 k t248 t255 t257 0 0))) else (some false))) = some r := H; have A5 := Aside0.mk A50; clear A50; replace H := Option.bind_eq_some_iff.mp H; obtain ⟨t256, A60, H⟩ := H; replace H : (if t255 = t256 then ((impl_SlicesOf.f k t248 t251).bind fun t257 => (if t255 < 0 then (some ((t257.length : Int) == 0)) else (laws_FnSlices.l0 k t248 t255 t257 0 0))) else (some false)) = some r := H; have A6 := Aside0.mk A60; clear A60
  by_cases c7 : t255 = t256
  ·rw [if_pos c7] at H
   have c7b0 : (t255 == t256) = true := beq_iff_eq.mpr c7; have c7b1 : (t255 != t256) = false := bne_eq_false_iff_eq.mpr c7; clear c7; replace H := Option.bind_eq_some_iff.mp H; obtain ⟨t257, A80, H⟩ := H; replace H : (if t255 < 0 then (some ((t257.length : Int) == 0)) else (laws_FnSlices.l0 k t248 t255 t257 0 0)) = some r := H; have A8 := Aside0.mk A80; clear A80
   by_cases c9 : t255 < 0
   ·rw [if_pos c9] at H
    have c9b0 : decide (t255 < 0) = true := decide_eq_true c9; clear c9; clear hrt; obtain rfl := Option.some.inj H
    go_enter Try.func5, Try.ntmps5
    go_wp2_with (first | ((with_reducible refine gate_callee (f := 27) rfl ?_); refine goesL_ (some 11) rfl rfl Try.func27 (by kernel_rfl) rfl #[.slice A0 l0.length c0] rfl ma ?_; (with_reducible refine (laws_big.calls _ _ l0 false _ ?side1 ?side2 A2.out).mono ?_); (case side1 => repeat (first | exact HR0.out | (with_reducible refine Kd.C_alloc ?_ _) | (with_reducible refine Kd.C_drewN ?_ _) | (with_reducible refine Kd.C_drew ?_))); (case side2 => exact HC0.out); rintro e w' ⟨rfl, ⟨nd, rfl⟩⟩; refine ⟨_, rfl, ?_⟩) | ((with_reducible refine gate_callee (f := 28) rfl ?_); refine goesL_ (some 14) rfl rfl Try.func28 (by kernel_rfl) rfl #[.slice A0 l0.length c0] rfl ma ?_; (with_reducible refine (spec_DrawSlicesOf.calls k _ _ l0 t248 t251 _ ?side1 ?side2 A4.out).mono ?_); (case side1 => repeat (first | exact HR0.out | (with_reducible refine Kd.C_alloc ?_ _) | (with_reducible refine Kd.C_drewN ?_ _) | (with_reducible refine Kd.C_drew ?_))); (case side2 => exact HC0.out); rintro e w10 ⟨v249, v252, rfl, ho0, ho1, hb⟩; refine ⟨_, rfl, ?_⟩; have n0_ := Aside0.mk (Kd.R_lower ho0 (below_size (bl HB))); have n1_ := Aside0.mk (Kd.Q_lower ho1 (below_size (bl HB))); have n2_ := Aside0.mk (below_step (bl HB) hb); clear HB; have HO250 := n0_; have HO253 := n1_; have HB := n2_; clear n0_ n1_ n2_; (try clear hb); (try clear hb2); (try clear hk); (try clear hi); (try clear ho0); (try clear ho1)) | ((with_reducible refine gate_dst (N := 4) rfl ?_); refine be 4 #[.slice none 0 0] 44 ?_; intro gb254 hg w11 hbox hb; have n0_ := Aside0.mk (Kd.R_below (rl HO250) hb); have n1_ := Aside0.mk (Kd.Q_below (by (with_reducible repeat (first | apply Kd.Q_alloc | apply Kd.Q_drewN | apply Kd.Q_drew)); exact HO253.out) hb); have n2_ := Aside0.mk (below_step (bl HB) hb); have n3_ := Aside0.mk (hbox); have n4_ := Aside0.mk (gs HB hg); have n5_ := Aside0.mk (gs HB hg); clear HO250; clear HO253; clear HB; have HO250 := n0_; have HO253 := n1_; have HB := n2_; have BK254 := n3_; have GW254 := n4_; have GE254 := n5_; clear n0_ n1_ n2_ n3_ n4_ n5_; clear hb hbox hg; obtain ⟨Ao12, co12, eo12, _⟩ := Kd.Q_slice HO253.out; subst eo12; have hcz13_0 : w11.cell? ⟨gb254, 0, none⟩ = some (.slice none 0 0) := (blk_cell BK254.out 0).trans rfl; have hfz13_0 := blk_frozen BK254.out 0; obtain ⟨Ao14, co14, eo14⟩ := Kd.R_slice HO250.out; subst eo14) | ((with_reducible refine gate_callee (f := 29) rfl ?_); refine goesL_ (some 19) rfl rfl Try.func29 (by kernel_rfl) rfl #[.slice Ao14 t248.length co14, .agg #[.slice Ao12 t251.length co12]] rfl ma ?_; (with_reducible refine (impl_Gauge.calls k _ _ t248 _ _ t251 t255 _ ?side1 ?side2 ?side3 ?side4 A5.out).mono ?_); (case side1 => refine (Kd.R_reads' (e := 63) (base := w.heap.size) (ok := fun k_ => True) (n := t248.length) (c := co14) ?_).2.2; exact (by (with_reducible repeat (first | apply Kd.R_alloc | apply Kd.R_drewN | apply Kd.R_drew)); exact (Kd.R_mono (Kd.R_far (p := ⟨gb254, 0, none⟩) (Kd.R_types HO250.out BK254.out (by decide)) (fun _ hk => hk.2) (.slice Ao12 t251.length co12)) (fun _ h_ => h_.1)))); (case side2 => exact (Kd.R_reads' HO250.out).2.1); (case side3 => refine (Kd.Q_reads' (e := 26) (base := w.heap.size) (ok := fun k_ => True) (n := t251.length) (c := co12) ?_).2.2; exact (by (with_reducible repeat (first | apply Kd.Q_alloc | apply Kd.Q_drewN | apply Kd.Q_drew)); exact (Kd.Q_mono (Kd.Q_far (p := ⟨gb254, 0, none⟩) (Kd.Q_types HO253.out BK254.out (by decide)) (fun _ hk => hk.2) (.slice Ao12 t251.length co12)) (fun _ h_ => h_.1)))); (case side4 => exact (Kd.Q_reads' HO253.out).2.1); rintro e w15 ⟨rfl, hb⟩; refine ⟨_, rfl, ?_⟩; have n0_ := Aside0.mk (Kd.R_below (by (with_reducible repeat (first | apply Kd.R_alloc | apply Kd.R_drewN | apply Kd.R_drew)); exact (Kd.R_mono (Kd.R_far (p := ⟨gb254, 0, none⟩) (Kd.R_types HO250.out BK254.out (by decide)) (fun _ hk => hk.2) (.slice Ao12 t251.length co12)) (fun _ h_ => h_.1))) hb); have n1_ := Aside0.mk (Kd.Q_below (by (with_reducible repeat (first | apply Kd.Q_alloc | apply Kd.Q_drewN | apply Kd.Q_drew)); exact (Kd.Q_mono (Kd.Q_far (p := ⟨gb254, 0, none⟩) (Kd.Q_types HO253.out BK254.out (by decide)) (fun _ hk => hk.2) (.slice Ao12 t251.length co12)) (fun _ h_ => h_.1))) hb); have n2_ := Aside0.mk (blk_below (g := gb254) (o := .cells #[.slice Ao12 t251.length co12] 44 (0, 0)) (by refine bd ?_; refine blk_put (cs := #[.slice none 0 0]) ?_ 0 _ rfl; (with_reducible repeat (first | refine blk_drewN ?_ _ | refine blk_drew ?_ | refine blk_alloc ?_ _)); exact BK254.out) hb); have n3_ := Aside0.mk (below_step (bs HB GE254) hb); clear HO250; clear HO253; clear BK254; clear HB; have HO250 := n0_; have HO253 := n1_; have BK254 := n2_; have HB := n3_; clear n0_ n1_ n2_ n3_; (try clear hb); (try clear hb2); (try clear hk); (try clear hi); have hcz16_0 : w15.cell? ⟨gb254, 0, none⟩ = some (.slice Ao12 t251.length co12) := (blk_cell BK254.out 0).trans rfl; have hfz16_0 := blk_frozen BK254.out 0) | ((with_reducible refine gate_callee (f := 30) rfl ?_); refine goesL_ (some 23) rfl rfl Try.func30 (by kernel_rfl) rfl #[.slice Ao14 t248.length co14, .agg #[.slice Ao12 t251.length co12]] rfl ma ?_; (with_reducible refine (spec_Gauge.calls k _ _ t248 _ _ t251 t256 _ ?side1 ?side2 ?side3 ?side4 A6.out).mono ?_); (case side1 => repeat (first | exact (Kd.R_reads' HO250.out).2.2 | (with_reducible refine Kd.C_alloc ?_ _) | (with_reducible refine Kd.C_drewN ?_ _) | (with_reducible refine Kd.C_drew ?_))); (case side2 => exact (Kd.R_reads' HO250.out).2.1); (case side3 => repeat (first | exact (Kd.Q_reads' HO253.out).2.2 | (with_reducible refine Kd.C_alloc ?_ _) | (with_reducible refine Kd.C_drewN ?_ _) | (with_reducible refine Kd.C_drew ?_))); (case side4 => exact (Kd.Q_reads' HO253.out).2.1); rintro e w17 ⟨rfl, hb⟩; refine ⟨_, rfl, ?_⟩; have n0_ := Aside0.mk (Kd.R_below (rl HO250) hb); have n1_ := Aside0.mk (Kd.Q_below (by (with_reducible repeat (first | apply Kd.Q_alloc | apply Kd.Q_drewN | apply Kd.Q_drew)); exact HO253.out) hb); have n2_ := Aside0.mk (blk_below (g := gb254) (o := .cells #[.slice Ao12 t251.length co12] 44 (0, 0)) (bk BK254) hb); have n3_ := Aside0.mk (below_step (bs HB GE254) hb); clear HO250; clear HO253; clear BK254; clear HB; have HO250 := n0_; have HO253 := n1_; have BK254 := n2_; have HB := n3_; clear n0_ n1_ n2_ n3_; (try clear hb); (try clear hb2); (try clear hk); (try clear hi); have hcz18_0 : w17.cell? ⟨gb254, 0, none⟩ = some (.slice Ao12 t251.length co12) := (blk_cell BK254.out 0).trans rfl; have hfz18_0 := blk_frozen BK254.out 0) | ((with_reducible refine gate_callee (f := 31) rfl ?_); refine goesL_ (some 27) rfl rfl Try.func31 (by kernel_rfl) rfl #[.slice Ao14 t248.length co14, .agg #[.slice Ao12 t251.length co12]] rfl ma ?_; (with_reducible refine (impl_SlicesOf.calls k _ _ t248 _ _ t251 t257 _ ?side1 ?side2 ?side3 ?side4 A8.out).mono ?_); (case side1 => repeat (first | exact (Kd.R_reads' HO250.out).2.2 | (with_reducible refine Kd.C_alloc ?_ _) | (with_reducible refine Kd.C_drewN ?_ _) | (with_reducible refine Kd.C_drew ?_))); (case side2 => exact (Kd.R_reads' HO250.out).2.1); (case side3 => repeat (first | exact (Kd.Q_reads' HO253.out).2.2 | (with_reducible refine Kd.C_alloc ?_ _) | (with_reducible refine Kd.C_drewN ?_ _) | (with_reducible refine Kd.C_drew ?_))); (case side4 => exact (Kd.Q_reads' HO253.out).2.1); rintro e w19 ⟨v258, rfl, ho0, hb⟩; refine ⟨_, rfl, ?_⟩; have n0_ := Aside0.mk (Kd.R_below (rl HO250) hb); have n1_ := Aside0.mk (Kd.Q_below (by (with_reducible repeat (first | apply Kd.Q_alloc | apply Kd.Q_drewN | apply Kd.Q_drew)); exact HO253.out) hb); have n2_ := Aside0.mk (Kd.R_lower ho0 (below_size (bs HB GE254))); have n3_ := Aside0.mk (blk_below (g := gb254) (o := .cells #[.slice Ao12 t251.length co12] 44 (0, 0)) (bk BK254) hb); have n4_ := Aside0.mk (below_step (bs HB GE254) hb); clear HO250; clear HO253; clear BK254; clear HB; have HO250 := n0_; have HO253 := n1_; have HO259 := n2_; have BK254 := n3_; have HB := n4_; clear n0_ n1_ n2_ n3_ n4_; (try clear hb); (try clear hb2); (try clear hk); (try clear hi); (try clear ho0); obtain ⟨Ao20, co20, eo20⟩ := Kd.R_slice HO259.out; subst eo20))
    go_ret
    exact ⟨by first | rfl | (simp [errW_none, errW_some] <;> rfl) | (simp [*, errW_none, errW_some] <;> rfl), bs HB GE254⟩
   ·rw [if_neg c9] at H
    have c9b0 : decide (t255 < 0) = false := decide_eq_false c9; clear c9; have H' := Aside0.mk H; clear H
    go_enter Try.func5, Try.ntmps5
    go_wp2_with (first | ((with_reducible refine gate_callee (f := 27) rfl ?_); refine goesL_ (some 11) rfl rfl Try.func27 (by kernel_rfl) rfl #[.slice A0 l0.length c0] rfl ma ?_; (with_reducible refine (laws_big.calls _ _ l0 false _ ?side1 ?side2 A2.out).mono ?_); (case side1 => repeat (first | exact HR0.out | (with_reducible refine Kd.C_alloc ?_ _) | (with_reducible refine Kd.C_drewN ?_ _) | (with_reducible refine Kd.C_drew ?_))); (case side2 => exact HC0.out); rintro e w' ⟨rfl, ⟨nd, rfl⟩⟩; refine ⟨_, rfl, ?_⟩) | ((with_reducible refine gate_callee (f := 28) rfl ?_); refine goesL_ (some 14) rfl rfl Try.func28 (by kernel_rfl) rfl #[.slice A0 l0.length c0] rfl ma ?_; (with_reducible refine (spec_DrawSlicesOf.calls k _ _ l0 t248 t251 _ ?side1 ?side2 A4.out).mono ?_); (case side1 => repeat (first | exact HR0.out | (with_reducible refine Kd.C_alloc ?_ _) | (with_reducible refine Kd.C_drewN ?_ _) | (with_reducible refine Kd.C_drew ?_))); (case side2 => exact HC0.out); rintro e w21 ⟨v249, v252, rfl, ho0, ho1, hb⟩; refine ⟨_, rfl, ?_⟩; have n0_ := Aside0.mk (Kd.R_lower ho0 (below_size (bl HB))); have n1_ := Aside0.mk (Kd.Q_lower ho1 (below_size (bl HB))); have n2_ := Aside0.mk (below_step (bl HB) hb); clear HB; have HO250 := n0_; have HO253 := n1_; have HB := n2_; clear n0_ n1_ n2_; (try clear hb); (try clear hb2); (try clear hk); (try clear hi); (try clear ho0); (try clear ho1)) | ((with_reducible refine gate_dst (N := 4) rfl ?_); refine be 4 #[.slice none 0 0] 44 ?_; intro gb254 hg w22 hbox hb; have n0_ := Aside0.mk (Kd.R_below (rl HO250) hb); have n1_ := Aside0.mk (Kd.Q_below (by (with_reducible repeat (first | apply Kd.Q_alloc | apply Kd.Q_drewN | apply Kd.Q_drew)); exact HO253.out) hb); have n2_ := Aside0.mk (below_step (bl HB) hb); have n3_ := Aside0.mk (hbox); have n4_ := Aside0.mk (gs HB hg); have n5_ := Aside0.mk (gs HB hg); clear HO250; clear HO253; clear HB; have HO250 := n0_; have HO253 := n1_; have HB := n2_; have BK254 := n3_; have GW254 := n4_; have GE254 := n5_; clear n0_ n1_ n2_ n3_ n4_ n5_; clear hb hbox hg; obtain ⟨Ao23, co23, eo23, _⟩ := Kd.Q_slice HO253.out; subst eo23; have hcz24_0 : w22.cell? ⟨gb254, 0, none⟩ = some (.slice none 0 0) := (blk_cell BK254.out 0).trans rfl; have hfz24_0 := blk_frozen BK254.out 0; obtain ⟨Ao25, co25, eo25⟩ := Kd.R_slice HO250.out; subst eo25) | ((with_reducible refine gate_callee (f := 29) rfl ?_); refine goesL_ (some 19) rfl rfl Try.func29 (by kernel_rfl) rfl #[.slice Ao25 t248.length co25, .agg #[.slice Ao23 t251.length co23]] rfl ma ?_; (with_reducible refine (impl_Gauge.calls k _ _ t248 _ _ t251 t255 _ ?side1 ?side2 ?side3 ?side4 A5.out).mono ?_); (case side1 => refine (Kd.R_reads' (e := 63) (base := w.heap.size) (ok := fun k_ => True) (n := t248.length) (c := co25) ?_).2.2; exact (by (with_reducible repeat (first | apply Kd.R_alloc | apply Kd.R_drewN | apply Kd.R_drew)); exact (Kd.R_mono (Kd.R_far (p := ⟨gb254, 0, none⟩) (Kd.R_types HO250.out BK254.out (by decide)) (fun _ hk => hk.2) (.slice Ao23 t251.length co23)) (fun _ h_ => h_.1)))); (case side2 => exact (Kd.R_reads' HO250.out).2.1); (case side3 => refine (Kd.Q_reads' (e := 26) (base := w.heap.size) (ok := fun k_ => True) (n := t251.length) (c := co23) ?_).2.2; exact (by (with_reducible repeat (first | apply Kd.Q_alloc | apply Kd.Q_drewN | apply Kd.Q_drew)); exact (Kd.Q_mono (Kd.Q_far (p := ⟨gb254, 0, none⟩) (Kd.Q_types HO253.out BK254.out (by decide)) (fun _ hk => hk.2) (.slice Ao23 t251.length co23)) (fun _ h_ => h_.1)))); (case side4 => exact (Kd.Q_reads' HO253.out).2.1); rintro e w26 ⟨rfl, hb⟩; refine ⟨_, rfl, ?_⟩; have n0_ := Aside0.mk (Kd.R_below (by (with_reducible repeat (first | apply Kd.R_alloc | apply Kd.R_drewN | apply Kd.R_drew)); exact (Kd.R_mono (Kd.R_far (p := ⟨gb254, 0, none⟩) (Kd.R_types HO250.out BK254.out (by decide)) (fun _ hk => hk.2) (.slice Ao23 t251.length co23)) (fun _ h_ => h_.1))) hb); have n1_ := Aside0.mk (Kd.Q_below (by (with_reducible repeat (first | apply Kd.Q_alloc | apply Kd.Q_drewN | apply Kd.Q_drew)); exact (Kd.Q_mono (Kd.Q_far (p := ⟨gb254, 0, none⟩) (Kd.Q_types HO253.out BK254.out (by decide)) (fun _ hk => hk.2) (.slice Ao23 t251.length co23)) (fun _ h_ => h_.1))) hb); have n2_ := Aside0.mk (blk_below (g := gb254) (o := .cells #[.slice Ao23 t251.length co23] 44 (0, 0)) (by refine bd ?_; refine blk_put (cs := #[.slice none 0 0]) ?_ 0 _ rfl; (with_reducible repeat (first | refine blk_drewN ?_ _ | refine blk_drew ?_ | refine blk_alloc ?_ _)); exact BK254.out) hb); have n3_ := Aside0.mk (below_step (bs HB GE254) hb); clear HO250; clear HO253; clear BK254; clear HB; have HO250 := n0_; have HO253 := n1_; have BK254 := n2_; have HB := n3_; clear n0_ n1_ n2_ n3_; (try clear hb); (try clear hb2); (try clear hk); (try clear hi); have hcz27_0 : w26.cell? ⟨gb254, 0, none⟩ = some (.slice Ao23 t251.length co23) := (blk_cell BK254.out 0).trans rfl; have hfz27_0 := blk_frozen BK254.out 0) | ((with_reducible refine gate_callee (f := 30) rfl ?_); refine goesL_ (some 23) rfl rfl Try.func30 (by kernel_rfl) rfl #[.slice Ao25 t248.length co25, .agg #[.slice Ao23 t251.length co23]] rfl ma ?_; (with_reducible refine (spec_Gauge.calls k _ _ t248 _ _ t251 t256 _ ?side1 ?side2 ?side3 ?side4 A6.out).mono ?_); (case side1 => repeat (first | exact (Kd.R_reads' HO250.out).2.2 | (with_reducible refine Kd.C_alloc ?_ _) | (with_reducible refine Kd.C_drewN ?_ _) | (with_reducible refine Kd.C_drew ?_))); (case side2 => exact (Kd.R_reads' HO250.out).2.1); (case side3 => repeat (first | exact (Kd.Q_reads' HO253.out).2.2 | (with_reducible refine Kd.C_alloc ?_ _) | (with_reducible refine Kd.C_drewN ?_ _) | (with_reducible refine Kd.C_drew ?_))); (case side4 => exact (Kd.Q_reads' HO253.out).2.1); rintro e w28 ⟨rfl, hb⟩; refine ⟨_, rfl, ?_⟩; have n0_ := Aside0.mk (Kd.R_below (rl HO250) hb); have n1_ := Aside0.mk (Kd.Q_below (by (with_reducible repeat (first | apply Kd.Q_alloc | apply Kd.Q_drewN | apply Kd.Q_drew)); exact HO253.out) hb); have n2_ := Aside0.mk (blk_below (g := gb254) (o := .cells #[.slice Ao23 t251.length co23] 44 (0, 0)) (bk BK254) hb); have n3_ := Aside0.mk (below_step (bs HB GE254) hb); clear HO250; clear HO253; clear BK254; clear HB; have HO250 := n0_; have HO253 := n1_; have BK254 := n2_; have HB := n3_; clear n0_ n1_ n2_ n3_; (try clear hb); (try clear hb2); (try clear hk); (try clear hi); have hcz29_0 : w28.cell? ⟨gb254, 0, none⟩ = some (.slice Ao23 t251.length co23) := (blk_cell BK254.out 0).trans rfl; have hfz29_0 := blk_frozen BK254.out 0) | ((with_reducible refine gate_callee (f := 31) rfl ?_); refine goesL_ (some 27) rfl rfl Try.func31 (by kernel_rfl) rfl #[.slice Ao25 t248.length co25, .agg #[.slice Ao23 t251.length co23]] rfl ma ?_; (with_reducible refine (impl_SlicesOf.calls k _ _ t248 _ _ t251 t257 _ ?side1 ?side2 ?side3 ?side4 A8.out).mono ?_); (case side1 => repeat (first | exact (Kd.R_reads' HO250.out).2.2 | (with_reducible refine Kd.C_alloc ?_ _) | (with_reducible refine Kd.C_drewN ?_ _) | (with_reducible refine Kd.C_drew ?_))); (case side2 => exact (Kd.R_reads' HO250.out).2.1); (case side3 => repeat (first | exact (Kd.Q_reads' HO253.out).2.2 | (with_reducible refine Kd.C_alloc ?_ _) | (with_reducible refine Kd.C_drewN ?_ _) | (with_reducible refine Kd.C_drew ?_))); (case side4 => exact (Kd.Q_reads' HO253.out).2.1); rintro e w30 ⟨v258, rfl, ho0, hb⟩; refine ⟨_, rfl, ?_⟩; have n0_ := Aside0.mk (Kd.R_below (rl HO250) hb); have n1_ := Aside0.mk (Kd.Q_below (by (with_reducible repeat (first | apply Kd.Q_alloc | apply Kd.Q_drewN | apply Kd.Q_drew)); exact HO253.out) hb); have n2_ := Aside0.mk (Kd.R_lower ho0 (below_size (bs HB GE254))); have n3_ := Aside0.mk (blk_below (g := gb254) (o := .cells #[.slice Ao23 t251.length co23] 44 (0, 0)) (bk BK254) hb); have n4_ := Aside0.mk (below_step (bs HB GE254) hb); clear HO250; clear HO253; clear BK254; clear HB; have HO250 := n0_; have HO253 := n1_; have HO259 := n2_; have BK254 := n3_; have HB := n4_; clear n0_ n1_ n2_ n3_ n4_; (try clear hb); (try clear hb2); (try clear hk); (try clear hi); (try clear ho0)))
    go_loopg [7, 8] k (fun kq v7 v8 w' => ∃ (x7_1 : Int) (x8_1 : Int), v7 = .int .i64 x7_1 ∧ v8 = .int .i64 x8_1 ∧ Aside0 (laws_FnSlices.l0 kq t248 t255 t257 x7_1 x8_1 = some r) ∧ Aside0 (kq ≤ k) ∧ Aside0 (Kd.R k63 63 w' w.heap.size (fun _ => True) (.slice Ao25 t248.length co25) t248) ∧ Aside0 (Kd.R k65 65 w' w.heap.size (fun _ => True) v258 t257) ∧ Aside0 (Kd.Q (Kd.slice 2 (Kd.int .i64)) 26 w' w.heap.size (fun _ => True) (.slice Ao23 t251.length co23) t251) ∧ Aside0 (w'.heap[gb254]? = some (.cells #[(.slice Ao23 t251.length co23)] 44 (0, 0))) ∧ Aside0 (Below w.heap.size w w'))
    case atStart => exact ⟨(0), (0), au, au, H', ⟨Nat.le_refl _⟩, ⟨rl HO250⟩, ⟨rl HO259⟩, ⟨by (with_reducible repeat (first | apply Kd.Q_alloc | apply Kd.Q_drewN | apply Kd.Q_drew)); exact HO253.out⟩, ⟨bk BK254⟩, ⟨bs HB GE254⟩⟩
    case round =>
     clear H'
     try clear c2
     try clear p2
     try clear c3
     try clear c5
     try clear c7
     try clear c7b0
     try clear c7b1
     try clear c9
     try clear c9b0
     try clear c27
     try clear c28
     try clear c29
     try clear c30
     try clear hcz13_0
     try clear hcz16_0
     try clear hcz18_0
     try clear hcz24_0
     try clear hcz27_0
     try clear hcz29_0
     try clear hfz13_0
     try clear hfz16_0
     try clear hfz18_0
     try clear hfz24_0
     try clear hfz27_0
     try clear hfz29_0
     obtain ⟨x7_1, x8_1, rfl, rfl, HA, HK1, HO_3, HO_6, HO_255000, BK254, HB⟩ := hrel
     cases gk with
     | zero => exact absurd HA.out (by simp [laws_FnSlices.l0])
     | succ k1 =>
      have H := HA.out; clear HA
      simp only [laws_FnSlices.l0] at H
      by_cases c31 : x8_1 < (t248.length : Int)
      ·rw [if_pos c31] at H
       have c31b0 : decide (x8_1 < (t248.length : Int)) = true := decide_eq_true c31; clear c31; have H' := Aside0.mk H; clear H
       go_wp2
       go_loopg [7, 9] k1 (fun kq v7 v9 w' => ∃ (x7_2 : Int) (x9_2 : Int), v7 = .int .i64 x7_2 ∧ v9 = .int .i64 x9_2 ∧ Aside0 (laws_FnSlices.l1 kq t248 t255 t257 x7_2 x8_1 x9_2 = some r) ∧ Aside0 (kq ≤ k1) ∧ Aside0 (Kd.R k63 63 w' w.heap.size (fun _ => True) (.slice Ao25 t248.length co25) t248) ∧ Aside0 (Kd.R k65 65 w' w.heap.size (fun _ => True) v258 t257) ∧ Aside0 (Kd.Q (Kd.slice 2 (Kd.int .i64)) 26 w' w.heap.size (fun _ => True) (.slice Ao23 t251.length co23) t251) ∧ Aside0 (w'.heap[gb254]? = some (.cells #[(.slice Ao23 t251.length co23)] 44 (0, 0))) ∧ Aside0 (Below w.heap.size w w'))
       case atStart => exact ⟨(x7_1), (0), au, au, H', ⟨Nat.le_refl _⟩, ⟨rl HO_3⟩, ⟨rl HO_6⟩, ⟨by (with_reducible repeat (first | apply Kd.Q_alloc | apply Kd.Q_drewN | apply Kd.Q_drew)); exact HO_255000.out⟩, ⟨bk BK254⟩, ⟨bs HB GE254⟩⟩
       case round =>
        clear H'
        try clear c2
        try clear p2
        try clear c3
        try clear c5
        try clear c7
        try clear c7b0
        try clear c7b1
        try clear c9
        try clear c9b0
        try clear c27
        try clear c28
        try clear c29
        try clear c30
        try clear c31
        try clear c31b0
        try clear hcz13_0
        try clear hcz16_0
        try clear hcz18_0
        try clear hcz24_0
        try clear hcz27_0
        try clear hcz29_0
        try clear hfz13_0
        try clear hfz16_0
        try clear hfz18_0
        try clear hfz24_0
        try clear hfz27_0
        try clear hfz29_0
        try clear p2
        obtain ⟨x7_2, x9_2, rfl, rfl, HA, HK2, HO_3, HO_6, HO_255000, BK254, HB⟩ := hrel
        cases gk with
        | zero => exact absurd HA.out (by simp [laws_FnSlices.l1])
        | succ k2 =>
         have H := HA.out; clear HA
         simp only [laws_FnSlices.l1] at H
         by_cases c32 : 0 ≤ x8_1
         ·rw [if_pos c32] at H
          have c32b0 : decide (0 ≤ x8_1) = true := decide_eq_true c32; clear c32
          by_cases c33 : x8_1 < (t248.length : Int)
          ·rw [if_pos c33] at H
           have c33b0 : decide (x8_1 < (t248.length : Int)) = true := decide_eq_true c33; clear c33
           by_cases c34 : x9_2 < ((rd_T63 t248 x8_1).f1)
           ·rw [if_pos c34] at H
            have c34b0 : decide (x9_2 < ((rd_T63 t248 x8_1).f1)) = true := decide_eq_true c34; clear c34
            by_cases c35 : x7_2 ≥ (t257.length : Int)
            ·rw [if_pos c35] at H
             have c35b0 : decide ((t257.length : Int) ≤ x7_2) = true := decide_eq_true c35; clear c35
             subst hrt
             exact absurd H (by simp)
            ·rw [if_neg c35] at H
             have c35b0 : decide ((t257.length : Int) ≤ x7_2) = false := decide_eq_false c35; clear c35
             by_cases c36 : 0 ≤ x7_2
             ·rw [if_pos c36] at H
              have c36b0 : decide (0 ≤ x7_2) = true := decide_eq_true c36; clear c36
              by_cases c37 : x7_2 < (t257.length : Int)
              ·rw [if_pos c37] at H
               have c37b0 : decide (x7_2 < (t257.length : Int)) = true := decide_eq_true c37; clear c37
               by_cases c38 : ((rd_T65 t257 x7_2).f0) = x8_1
               ·rw [if_pos c38] at H
                have c38b0 : (((rd_T65 t257 x7_2).f0) == x8_1) = true := beq_iff_eq.mpr c38; have c38b1 : (((rd_T65 t257 x7_2).f0) != x8_1) = false := bne_eq_false_iff_eq.mpr c38; clear c38
                by_cases c39 : ((rd_T65 t257 x7_2).f1) = x9_2
                ·rw [if_pos c39] at H
                 have c39b0 : (((rd_T65 t257 x7_2).f1) == x9_2) = true := beq_iff_eq.mpr c39; have c39b1 : (((rd_T65 t257 x7_2).f1) != x9_2) = false := bne_eq_false_iff_eq.mpr c39; clear c39
                 by_cases c40 : ((rd_T65 t257 x7_2).f2) < 1
                 ·rw [if_pos c40] at H
                  have c40b0 : decide (((rd_T65 t257 x7_2).f2) < 1) = true := decide_eq_true c40; clear c40
                  subst hrt
                  exact absurd H (by simp)
                 ·rw [if_neg c40] at H
                  have c40b0 : decide (((rd_T65 t257 x7_2).f2) < 1) = false := decide_eq_false c40; clear c40; have H' := Aside0.mk H; clear H; have p260 : 0 ≤ (x8_1 : Int) := ode; have q260 : x8_1 < (t248.length : Int) := ode; obtain ⟨ad260, e260, hx260_0, hx260_1⟩ := at_T63 (Kd.R_reads' HO_3.out).2.2 x8_1 p260 q260
                  cases e260
                  replace p260 := eq_true p260; replace q260 := eq_true q260; obtain ⟨Ao41, co41, eo41⟩ := Kd.R_slice HO_6.out
                  subst eo41
                  have p261 : 0 ≤ (x7_2 : Int) := ode; have q261 : x7_2 < (t257.length : Int) := ode; obtain ⟨ad261, e261, hx261_0, hx261_1, hx261_2⟩ := at_T65 (Kd.R_reads' HO_6.out).2.2 x7_2 p261 q261
                  cases e261
                  replace p261 := eq_true p261; replace q261 := eq_true q261; have p262 : 0 ≤ (x7_2 : Int) := ode; have q262 : x7_2 < (t257.length : Int) := ode; obtain ⟨ad262, e262, hx262_0, hx262_1, hx262_2⟩ := at_T65 (Kd.R_reads' HO_6.out).2.2 x7_2 p262 q262; obtain rfl : ad261 = ad262 := (by injection e262); replace p262 := eq_true p262; replace q262 := eq_true q262; have p263 : 0 ≤ (x7_2 : Int) := ode; have q263 : x7_2 < (t257.length : Int) := ode; obtain ⟨ad263, e263, hx263_0, hx263_1, hx263_2⟩ := at_T65 (Kd.R_reads' HO_6.out).2.2 x7_2 p263 q263; obtain rfl : ad261 = ad263 := (by injection e263); replace p263 := eq_true p263; replace q263 := eq_true q263; have p264 : 0 ≤ (x7_2 : Int) := ode; have q264 : x7_2 < (t257.length : Int) := ode; obtain ⟨ad264, e264, hx264_0, hx264_1, hx264_2⟩ := at_T65 (Kd.R_reads' HO_6.out).2.2 x7_2 p264 q264; obtain rfl : ad261 = ad264 := (by injection e264); replace p264 := eq_true p264; replace q264 := eq_true q264
                  go_wp2
                  go_roundg k2
                  case measure => have := HK1.out; have := HK2.out; omega
                  case rel => exact ⟨(wrap64 (x7_2 + 1)), (wrap64 (x9_2 + ((rd_T65 t257 x7_2).f2))), au, au, H', ⟨by have := HK1.out; have := HK2.out; omega⟩, ⟨rl HO_3⟩, ⟨rl HO_6⟩, ⟨by (with_reducible repeat (first | apply Kd.Q_alloc | apply Kd.Q_drewN | apply Kd.Q_drew)); exact HO_255000.out⟩, ⟨bk BK254⟩, ⟨bs HB GE254⟩⟩
                ·rw [if_neg c39] at H
                 have c39b0 : (((rd_T65 t257 x7_2).f1) == x9_2) = false := beq_eq_false_iff_ne.mpr c39; have c39b1 : (((rd_T65 t257 x7_2).f1) != x9_2) = true := bne_iff_ne.mpr c39
                 subst hrt
                 exact absurd H (by simp)
               ·rw [if_neg c38] at H
                have c38b0 : (((rd_T65 t257 x7_2).f0) == x8_1) = false := beq_eq_false_iff_ne.mpr c38; have c38b1 : (((rd_T65 t257 x7_2).f0) != x8_1) = true := bne_iff_ne.mpr c38
                subst hrt
                exact absurd H (by simp)
              ·rw [if_neg c37] at H
               exact absurd H (by simp)
             ·rw [if_neg c36] at H
              exact absurd H (by simp)
           ·rw [if_neg c34] at H
            have c34b0 : decide (x9_2 < ((rd_T63 t248 x8_1).f1)) = false := decide_eq_false c34; clear c34
            by_cases c42 : x9_2 = ((rd_T63 t248 x8_1).f1)
            ·rw [if_pos c42] at H
             have c42b0 : (x9_2 == ((rd_T63 t248 x8_1).f1)) = true := beq_iff_eq.mpr c42; have c42b1 : (x9_2 != ((rd_T63 t248 x8_1).f1)) = false := bne_eq_false_iff_eq.mpr c42; clear c42; have H' := Aside0.mk H; clear H; have p260 : 0 ≤ (x8_1 : Int) := ode; have q260 : x8_1 < (t248.length : Int) := ode; obtain ⟨ad260, e260, hx260_0, hx260_1⟩ := at_T63 (Kd.R_reads' HO_3.out).2.2 x8_1 p260 q260
             cases e260
             replace p260 := eq_true p260; replace q260 := eq_true q260; have p265 : 0 ≤ (x8_1 : Int) := ode; have q265 : x8_1 < (t248.length : Int) := ode; obtain ⟨ad265, e265, hx265_0, hx265_1⟩ := at_T63 (Kd.R_reads' HO_3.out).2.2 x8_1 p265 q265; obtain rfl : ad260 = ad265 := (by injection e265); replace p265 := eq_true p265; replace q265 := eq_true q265
             go_wp2
             go_roundg k2
             case measure => have := HK1.out; have := HK2.out; omega
             case rel => exact ⟨(x7_2), (wrap64 (x8_1 + 1)), au, au, H', ⟨by have := HK1.out; have := HK2.out; omega⟩, ⟨rl HO_3⟩, ⟨rl HO_6⟩, ⟨by (with_reducible repeat (first | apply Kd.Q_alloc | apply Kd.Q_drewN | apply Kd.Q_drew)); exact HO_255000.out⟩, ⟨bk BK254⟩, ⟨bs HB GE254⟩⟩
            ·rw [if_neg c42] at H
             have c42b0 : (x9_2 == ((rd_T63 t248 x8_1).f1)) = false := beq_eq_false_iff_ne.mpr c42; have c42b1 : (x9_2 != ((rd_T63 t248 x8_1).f1)) = true := bne_iff_ne.mpr c42
             subst hrt
             exact absurd H (by simp)
          ·rw [if_neg c33] at H
           exact absurd H (by simp)
         ·rw [if_neg c32] at H
          exact absurd H (by simp)
      ·rw [if_neg c31] at H
       have c31b0 : decide (x8_1 < (t248.length : Int)) = false := decide_eq_false c31; clear c31
       by_cases c43 : x7_1 = (t257.length : Int)
       ·rw [if_pos c43] at H
        have c43b0 : (x7_1 == (t257.length : Int)) = true := beq_iff_eq.mpr c43; have c43b1 : (x7_1 != (t257.length : Int)) = false := bne_eq_false_iff_eq.mpr c43; clear c43; clear hrt; obtain rfl := Option.some.inj H; obtain ⟨Ao44, co44, eo44⟩ := Kd.R_slice HO_6.out
        subst eo44
        go_wp2
        go_ret
        exact ⟨by first | rfl | (simp [errW_none, errW_some] <;> rfl) | (simp [*, errW_none, errW_some] <;> rfl), bs HB GE254⟩
       ·rw [if_neg c43] at H
        have c43b0 : (x7_1 == (t257.length : Int)) = false := beq_eq_false_iff_ne.mpr c43; have c43b1 : (x7_1 != (t257.length : Int)) = true := bne_iff_ne.mpr c43
        subst hrt
        exact absurd H (by simp)
  ·rw [if_neg c7] at H
   have c7b0 : (t255 == t256) = false := beq_eq_false_iff_ne.mpr c7; have c7b1 : (t255 != t256) = true := bne_iff_ne.mpr c7
   subst hrt
   exact absurd H (by simp)

end Go.Proofs.Ytonkicgdgpcneaa.PFnSlices
