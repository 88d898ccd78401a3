-- Written by a program of this session (a turned copy of the kit's printer); Lean checks it.
-- half the depth
import Derived.Test.YtonkicgdgpcneaaPFnExactReasonsx0
import Derived.Test.YtonkicgdgpcneaaPFnExactReasonsx1
import Derived.Test.YtonkicgdgpcneaaPFnExactReasonsx4
import Derived.Test.YtonkicgdgpcneaaPFnExactReasonsx5
import Derived.Test.YtonkicgdgpcneaaPFnExactReasonsx8
import Derived.Test.YtonkicgdgpcneaaPFnExactReasonsx9
namespace Go.Proofs.Ytonkicgdgpcneaa.PFnExactReasons
open Go.RowKit Go.Proofs.YtonkicgdgpcneaaW.PrintWords Go.Proofs.YtonkicgdgpcneaaW.PrintLast Go.Proofs.YtonkicgdgpcneaaW.PrintMore
attribute [local go_sem] max2_int min2_int max_two min_two max_three min_three max_four min_four   -- for this text's walks alone
set_option linter.unusedVariables false
set_option linter.unusedSimpArgs false

/-! ### laws_FnExactReasons: function 3 -/
mutual
def laws_FnExactReasons.j0 : Nat → Int → Int → List Int → Bool → List Int → Bool → Bool → Int → List (S105) → Int → List (S70) → Option (Bool)
 | 0, _, _, _, _, _, _, _, _, _, _, _ => none
 | k + 1, x1, x2, x8, x9, x11, x12, x48, x263000, x263001, x277000, x277001 => if x48 = true then (some false) else ((laws_toForest.f k x263000 x263001).bind fun bt282 => ((laws_eqForest.f k x277000 x277001 bt282.1 bt282.2).bind fun t286 => (if t286 = true then ((laws_markForest.f k x277000 x277001 1).bind fun bt287 => (if bt287.1 < 0 then (laws_FnExactReasons.j1 k x1 x2 x8 x9 x11 true x263000 x263001) else ((laws_eqInt64S.f k x11 x8).bind fun t289 => (if t289 = true then (laws_FnExactReasons.j1 k x1 x2 x8 x9 x11 (x12 != x9) x263000 x263001) else (laws_FnExactReasons.j1 k x1 x2 x8 x9 x11 true x263000 x263001))))) else (some false))))
def laws_FnExactReasons.j1 : Nat → Int → Int → List Int → Bool → List Int → Bool → Int → List (S105) → Option (Bool)
 | 0, _, _, _, _, _, _, _, _ => none
 | k + 1, x1, x2, x8, x9, x11, x69, x263000, x263001 => if x69 = true then (some false) else ((laws_markInt64S.f k x11 1).bind fun bt290 => ((laws_heldInt64S.f k bt290.2 1).bind fun t292 => (if t292 < 0 then (some false) else (if t292 = bt290.1 then ((laws_toForest.f k x263000 x263001).bind fun bt293 => ((impl_Reasons.f k bt293.1 bt293.2 x1 x2).bind fun bt297 => ((laws_eqInt64S.f k bt297.1 x8).bind fun t301 => (if t301 = true then (laws_FnExactReasons.j2 k bt290.2 bt290.1 (bt297.2 != x9)) else (laws_FnExactReasons.j2 k bt290.2 bt290.1 true))))) else (some false)))))
def laws_FnExactReasons.j2 : Nat → List Int → Int → Bool → Option (Bool)
 | 0, _, _, _ => none
 | k + 1, x11, x14, x97 => if x97 = true then (some false) else ((laws_heldInt64S.f k x11 1).bind fun t302 => (if t302 < 0 then (some false) else (if t302 = x14 then (some true) else (some false))))
end
def laws_FnExactReasons.f (k : Nat) (a0_0 : Int) (l0_1 : List (S105)) (a1 : Int) (a2 : Int) : Option (Bool) := (laws_szForest.f a0_0 l0_1 1048576).bind fun t263 => (if t263 < 0 then (some true) else ((laws_toForest.f k a0_0 l0_1).bind fun bt264 => ((spec_Reasons.f k bt264.1 bt264.2 a1 a2).bind fun bt268 => ((laws_toForest.f k a0_0 l0_1).bind fun bt272 => ((impl_Reasons.f k bt272.1 bt272.2 a1 a2).bind fun bt277 => ((laws_eqInt64S.f k bt277.1 bt268.1).bind fun t281 => (if t281 = true then (laws_FnExactReasons.j0 k a1 a2 bt268.1 bt268.2 bt277.1 bt277.2 (bt277.2 != bt268.2) a0_0 l0_1 bt272.1 bt272.2) else (laws_FnExactReasons.j0 k a1 a2 bt268.1 bt268.2 bt277.1 bt277.2 true a0_0 l0_1 bt272.1 bt272.2))))))))
set_option maxHeartbeats 8000000 in
set_option maxRecDepth 100000 in
theorem laws_FnExactReasons.calls (k : Nat) (a0_0 : Int) (A0_1 : Option Addr) (c0_1 : Nat) (l0_1 : List (S105)) (a1 : Int) (a2 : Int) (r : Bool) (w : World) (hr0_1 : Kd.C k105 w A0_1 l0_1.length l0_1) (hc0_1 : l0_1.length ≤ c0_1) (h : laws_FnExactReasons.f k a0_0 l0_1 a1 a2 = some r) (hrt : r = true) :
  Calls Try.prog 3 #[.agg #[.int .i64 a0_0, .slice A0_1 l0_1.length c0_1], .int .i64 a1, .int .i64 a2] w fun e w' => e = .returned (.bool r) ∧ Below w.heap.size w w' := by
 have hu24 := Try.underlying24; have hu31 := Try.underlying31; have HR0_1 := Aside0.mk hr0_1; have HC0_1 := Aside0.mk hc0_1; clear hr0_1 hc0_1; have HB := Aside0.mk (Below.refl w.heap.size w); have H : ((laws_szForest.f a0_0 l0_1 1048576).bind fun t263 => (if t263 < 0 then (some true) else ((laws_toForest.f k a0_0 l0_1).bind fun bt264 => ((spec_Reasons.f k bt264.1 bt264.2 a1 a2).bind fun bt268 => ((laws_toForest.f k a0_0 l0_1).bind fun bt272 => ((impl_Reasons.f k bt272.1 bt272.2 a1 a2).bind fun bt277 => ((laws_eqInt64S.f k bt277.1 bt268.1).bind fun t281 => (if t281 = true then (laws_FnExactReasons.j0 k a1 a2 bt268.1 bt268.2 bt277.1 bt277.2 (bt277.2 != bt268.2) a0_0 l0_1 bt272.1 bt272.2) else (laws_FnExactReasons.j0 k a1 a2 bt268.1 bt268.2 bt277.1 bt277.2 true a0_0 l0_1 bt272.1 bt272.2))))))))) = some r := h; clear h; replace H := Option.bind_eq_some_iff.mp H; obtain ⟨t263, A40, H⟩ := H; replace H : (if t263 < 0 then (some true) else ((laws_toForest.f k a0_0 l0_1).bind fun bt264 => ((spec_Reasons.f k bt264.1 bt264.2 a1 a2).bind fun bt268 => ((laws_toForest.f k a0_0 l0_1).bind fun bt272 => ((impl_Reasons.f k bt272.1 bt272.2 a1 a2).bind fun bt277 => ((laws_eqInt64S.f k bt277.1 bt268.1).bind fun t281 => (if t281 = true then (laws_FnExactReasons.j0 k a1 a2 bt268.1 bt268.2 bt277.1 bt277.2 (bt277.2 != bt268.2) a0_0 l0_1 bt272.1 bt272.2) else (laws_FnExactReasons.j0 k a1 a2 bt268.1 bt268.2 bt277.1 bt277.2 true a0_0 l0_1 bt272.1 bt272.2)))))))) = some r := H; have A4 := Aside0.mk A40; clear A40
 by_cases c5 : t263 < 0
 ·rw [if_pos c5] at H
  have c5b0 : decide (t263 < 0) = true := decide_eq_true c5; clear c5; clear hrt; obtain rfl := Option.some.inj H
  go_enter Try.func3, Try.ntmps3
  go_wp2_with (first | ((with_reducible refine gate_dst (N := 3) rfl ?_); refine be 3 #[.int .i64 a0_0, .slice A0_1 l0_1.length c0_1] 24 ?_; intro gb262 hg w6 hbox hb; have n0_ := Aside0.mk (below_step (bl HB) hb); have n1_ := Aside0.mk (hbox); have n2_ := Aside0.mk (gs HB hg); have n3_ := Aside0.mk (gs HB hg); clear HB; have HB := n0_; have BK262 := n1_; have GW262 := n2_; have GE262 := n3_; clear n0_ n1_ n2_ n3_; clear hb hbox hg; have hcz7_0 : w6.cell? ⟨gb262, 0, none⟩ = some (.int .i64 a0_0) := (blk_cell BK262.out 0).trans rfl; have hcz7_1 : w6.cell? ⟨gb262, 1, none⟩ = some (.slice A0_1 l0_1.length c0_1) := (blk_cell BK262.out 1).trans rfl; have hfz7_0 := blk_frozen BK262.out 0; have hfz7_1 := blk_frozen BK262.out 1) | ((with_reducible refine gate_callee (f := 7) rfl ?_); refine goesL_ (some 20) rfl rfl Try.func7 (by kernel_rfl) rfl #[.agg #[.int .i64 a0_0, .slice A0_1 l0_1.length c0_1], .int .i64 1048576] rfl ma ?_; (with_reducible refine (laws_szForest.calls a0_0 _ _ l0_1 1048576 t263 _ ?side1 ?side2 A4.out).mono ?_); (case side1 => exact rc HR0_1 HB); (case side2 => exact HC0_1.out); rintro e w8 ⟨rfl, hb⟩; refine ⟨_, rfl, ?_⟩; have n0_ := Aside0.mk (blk_below (g := gb262) (o := .cells #[.int .i64 a0_0, .slice A0_1 l0_1.length c0_1] 24 (0, 0)) (bk BK262) hb); have n1_ := Aside0.mk (below_step (bs HB GE262) hb); clear BK262; clear HB; have BK262 := n0_; have HB := n1_; clear n0_ n1_; (try clear hb); (try clear hb2); (try clear hk); (try clear hi)))
  go_ret
  exact ⟨by first | rfl | (simp [errW_none, errW_some] <;> rfl) | (simp [*, errW_none, errW_some] <;> rfl), bs HB GE262⟩
 ·rw [if_neg c5] at H
  have c5b0 : decide (t263 < 0) = false := decide_eq_false c5; clear c5; replace H := Option.bind_eq_some_iff.mp H; obtain ⟨⟨t264, t265⟩, A90, H⟩ := H; replace H : ((spec_Reasons.f k t264 t265 a1 a2).bind fun bt268 => ((laws_toForest.f k a0_0 l0_1).bind fun bt272 => ((impl_Reasons.f k bt272.1 bt272.2 a1 a2).bind fun bt277 => ((laws_eqInt64S.f k bt277.1 bt268.1).bind fun t281 => (if t281 = true then (laws_FnExactReasons.j0 k a1 a2 bt268.1 bt268.2 bt277.1 bt277.2 (bt277.2 != bt268.2) a0_0 l0_1 bt272.1 bt272.2) else (laws_FnExactReasons.j0 k a1 a2 bt268.1 bt268.2 bt277.1 bt277.2 true a0_0 l0_1 bt272.1 bt272.2)))))) = some r := H; have A9 := Aside0.mk A90; clear A90; replace H := Option.bind_eq_some_iff.mp H; obtain ⟨⟨t268, t271⟩, A100, H⟩ := H; replace H : ((laws_toForest.f k a0_0 l0_1).bind fun bt272 => ((impl_Reasons.f k bt272.1 bt272.2 a1 a2).bind fun bt277 => ((laws_eqInt64S.f k bt277.1 t268).bind fun t281 => (if t281 = true then (laws_FnExactReasons.j0 k a1 a2 t268 t271 bt277.1 bt277.2 (bt277.2 != t271) a0_0 l0_1 bt272.1 bt272.2) else (laws_FnExactReasons.j0 k a1 a2 t268 t271 bt277.1 bt277.2 true a0_0 l0_1 bt272.1 bt272.2))))) = some r := H; have A10 := Aside0.mk A100; clear A100; replace H := Option.bind_eq_some_iff.mp H; obtain ⟨⟨t272, t273⟩, A110, H⟩ := H; replace H : ((impl_Reasons.f k t272 t273 a1 a2).bind fun bt277 => ((laws_eqInt64S.f k bt277.1 t268).bind fun t281 => (if t281 = true then (laws_FnExactReasons.j0 k a1 a2 t268 t271 bt277.1 bt277.2 (bt277.2 != t271) a0_0 l0_1 t272 t273) else (laws_FnExactReasons.j0 k a1 a2 t268 t271 bt277.1 bt277.2 true a0_0 l0_1 t272 t273)))) = some r := H; have A11 := Aside0.mk A110; clear A110; replace H := Option.bind_eq_some_iff.mp H; obtain ⟨⟨t277, t280⟩, A120, H⟩ := H; replace H : ((laws_eqInt64S.f k t277 t268).bind fun t281 => (if t281 = true then (laws_FnExactReasons.j0 k a1 a2 t268 t271 t277 t280 (t280 != t271) a0_0 l0_1 t272 t273) else (laws_FnExactReasons.j0 k a1 a2 t268 t271 t277 t280 true a0_0 l0_1 t272 t273))) = some r := H; have A12 := Aside0.mk A120; clear A120; have HC13 := Aside0.mk H; clear H
  go_enter Try.func3, Try.ntmps3
  go_upto_region 8 with (first | ((with_reducible refine gate_dst (N := 3) rfl ?_); refine be 3 #[.int .i64 a0_0, .slice A0_1 l0_1.length c0_1] 24 ?_; intro gb262 hg w14 hbox hb; have n0_ := Aside0.mk (below_step (bl HB) hb); have n1_ := Aside0.mk (hbox); have n2_ := Aside0.mk (gs HB hg); have n3_ := Aside0.mk (gs HB hg); clear HB; have HB := n0_; have BK262 := n1_; have GW262 := n2_; have GE262 := n3_; clear n0_ n1_ n2_ n3_; clear hb hbox hg; have hcz15_0 : w14.cell? ⟨gb262, 0, none⟩ = some (.int .i64 a0_0) := (blk_cell BK262.out 0).trans rfl; have hcz15_1 : w14.cell? ⟨gb262, 1, none⟩ = some (.slice A0_1 l0_1.length c0_1) := (blk_cell BK262.out 1).trans rfl; have hfz15_0 := blk_frozen BK262.out 0; have hfz15_1 := blk_frozen BK262.out 1) | ((with_reducible refine gate_callee (f := 7) rfl ?_); refine goesL_ (some 20) rfl rfl Try.func7 (by kernel_rfl) rfl #[.agg #[.int .i64 a0_0, .slice A0_1 l0_1.length c0_1], .int .i64 1048576] rfl ma ?_; (with_reducible refine (laws_szForest.calls a0_0 _ _ l0_1 1048576 t263 _ ?side1 ?side2 A4.out).mono ?_); (case side1 => exact rc HR0_1 HB); (case side2 => exact HC0_1.out); rintro e w16 ⟨rfl, hb⟩; refine ⟨_, rfl, ?_⟩; have n0_ := Aside0.mk (blk_below (g := gb262) (o := .cells #[.int .i64 a0_0, .slice A0_1 l0_1.length c0_1] 24 (0, 0)) (bk BK262) hb); have n1_ := Aside0.mk (below_step (bs HB GE262) hb); clear BK262; clear HB; have BK262 := n0_; have HB := n1_; clear n0_ n1_; (try clear hb); (try clear hb2); (try clear hk); (try clear hi); have hcz17_0 : w16.cell? ⟨gb262, 0, none⟩ = some (.int .i64 a0_0) := (blk_cell BK262.out 0).trans rfl; have hcz17_1 : w16.cell? ⟨gb262, 1, none⟩ = some (.slice A0_1 l0_1.length c0_1) := (blk_cell BK262.out 1).trans rfl; have hfz17_0 := blk_frozen BK262.out 0; have hfz17_1 := blk_frozen BK262.out 1) | ((with_reducible refine gate_callee (f := 9) rfl ?_); refine goesL_ (some 25) rfl rfl Try.func9 (by kernel_rfl) rfl #[.agg #[.int .i64 a0_0, .slice A0_1 l0_1.length c0_1]] rfl ma ?_; (with_reducible refine (laws_toForest.calls k a0_0 _ _ l0_1 t264 t265 _ ?side1 ?side2 A9.out).mono ?_); (case side1 => exact rc HR0_1 HB); (case side2 => exact HC0_1.out); rintro e w18 ⟨v266, rfl, ho0, hb⟩; refine ⟨_, rfl, ?_⟩; have n0_ := Aside0.mk (Kd.R_lower ho0 (below_size (bs HB GE262))); have n1_ := Aside0.mk (blk_below (g := gb262) (o := .cells #[.int .i64 a0_0, .slice A0_1 l0_1.length c0_1] 24 (0, 0)) (bk BK262) hb); have n2_ := Aside0.mk (below_step (bs HB GE262) hb); clear BK262; clear HB; have HO267 := n0_; have BK262 := n1_; have HB := n2_; clear n0_ n1_ n2_; (try clear hb); (try clear hb2); (try clear hk); (try clear hi); (try clear ho0); obtain ⟨Ao19, co19, eo19⟩ := Kd.R_slice HO267.out; subst eo19) | ((with_reducible refine gate_callee (f := 8) rfl ?_); refine goesL_ (some 28) rfl rfl Try.func8 (by kernel_rfl) rfl #[.agg #[.int .i64 t264, .slice Ao19 t265.length co19], .int .i64 a1, .int .i64 a2] rfl ma ?_; (with_reducible refine (spec_Reasons.calls k t264 _ _ t265 a1 a2 t268 t271 _ ?side1 ?side2 A10.out).mono ?_); (case side1 => repeat (first | exact (Kd.R_reads' HO267.out).2.2 | (with_reducible refine Kd.C_alloc ?_ _) | (with_reducible refine Kd.C_drewN ?_ _) | (with_reducible refine Kd.C_drew ?_))); (case side2 => exact (Kd.R_reads' HO267.out).2.1); rintro e w20 ⟨v269, rfl, ho0, hb⟩; refine ⟨_, rfl, ?_⟩; have n0_ := Aside0.mk (Kd.R_below (rl HO267) hb); have n1_ := Aside0.mk (Kd.R_lower ho0 (below_size (bs HB GE262))); have n2_ := Aside0.mk (blk_below (g := gb262) (o := .cells #[.int .i64 a0_0, .slice A0_1 l0_1.length c0_1] 24 (0, 0)) (bk BK262) hb); have n3_ := Aside0.mk (below_step (bs HB GE262) hb); clear HO267; clear BK262; clear HB; have HO267 := n0_; have HO270 := n1_; have BK262 := n2_; have HB := n3_; clear n0_ n1_ n2_ n3_; (try clear hb); (try clear hb2); (try clear hk); (try clear hi); (try clear ho0); have hcz21_0 : w20.cell? ⟨gb262, 0, none⟩ = some (.int .i64 a0_0) := (blk_cell BK262.out 0).trans rfl; have hcz21_1 : w20.cell? ⟨gb262, 1, none⟩ = some (.slice A0_1 l0_1.length c0_1) := (blk_cell BK262.out 1).trans rfl; have hfz21_0 := blk_frozen BK262.out 0; have hfz21_1 := blk_frozen BK262.out 1) | ((with_reducible refine gate_callee (f := 9) rfl ?_); refine goesL_ (some 32) rfl rfl Try.func9 (by kernel_rfl) rfl #[.agg #[.int .i64 a0_0, .slice A0_1 l0_1.length c0_1]] rfl ma ?_; (with_reducible refine (laws_toForest.calls k a0_0 _ _ l0_1 t272 t273 _ ?side1 ?side2 A11.out).mono ?_); (case side1 => exact rc HR0_1 HB); (case side2 => exact HC0_1.out); rintro e w22 ⟨v274, rfl, ho0, hb⟩; refine ⟨_, rfl, ?_⟩; have n0_ := Aside0.mk (Kd.R_elder' (rl HO267) (Kd.R_base ho0) hb); have n1_ := Aside0.mk (Kd.R_below (rl HO270) hb); have n2_ := Aside0.mk (Kd.R_lower (Kd.R_new' ho0 (Kd.R_lt (rl HO267))) (below_size (bs HB GE262))); have n3_ := Aside0.mk (blk_below (g := gb262) (o := .cells #[.int .i64 a0_0, .slice A0_1 l0_1.length c0_1] 24 (0, 0)) (bk BK262) hb); have n4_ := Aside0.mk (below_step (bs HB GE262) hb); clear HO267; clear HO270; clear BK262; clear HB; have HO267 := n0_; have HO270 := n1_; have HO275 := n2_; have BK262 := n3_; have HB := n4_; clear n0_ n1_ n2_ n3_ n4_; (try clear hb); (try clear hb2); (try clear hk); (try clear hi); (try clear ho0)) | ((with_reducible refine gate_dst (N := 10) rfl ?_); refine be 10 #[.int .i64 0, .slice none 0 0] 31 ?_; intro gb276 hg w23 hbox hb; have n0_ := Aside0.mk (Kd.R_below (rl HO267) hb); have n1_ := Aside0.mk (Kd.R_below (rl HO270) hb); have n2_ := Aside0.mk (Kd.R_below (rl HO275) hb); have n3_ := Aside0.mk (blk_below (g := gb262) (o := .cells #[.int .i64 a0_0, .slice A0_1 l0_1.length c0_1] 24 (0, 0)) (bk BK262) hb); have n4_ := Aside0.mk (below_step (bs HB GE262) hb); have n5_ := Aside0.mk (hbox); have n6_ := Aside0.mk ((by rw [hg]; exact (below_size (bs HB GE262)) : w.heap.size ≤ gb276)); have n7_ := Aside0.mk ((by rw [hg]; exact (below_size (bs HB GE262)) : w.heap.size ≤ gb276)); have n8_ := Aside0.mk ((by rw [hg]; exact Nat.ne_of_lt (blk_lt (g := gb262) (o := .cells #[.int .i64 a0_0, .slice A0_1 l0_1.length c0_1] 24 (0, 0)) (bk BK262)) : gb262 ≠ gb276)); have n9_ := Aside0.mk ((by rw [hg]; exact Nat.ne_of_gt (blk_lt (g := gb262) (o := .cells #[.int .i64 a0_0, .slice A0_1 l0_1.length c0_1] 24 (0, 0)) (bk BK262)) : gb276 ≠ gb262)); clear HO267; clear HO270; clear HO275; clear BK262; clear HB; have HO267 := n0_; have HO270 := n1_; have HO275 := n2_; have BK262 := n3_; have HB := n4_; have BK276 := n5_; have GW276 := n6_; have GE276 := n7_; have NB262_276 := n8_; have NB276_262 := n9_; clear n0_ n1_ n2_ n3_ n4_ n5_ n6_ n7_ n8_ n9_; clear hb hbox hg; have hnb24 := NB276_262.out; have hnc24 := NB262_276.out; have hcz25_0 : w23.cell? ⟨gb276, 0, none⟩ = some (.int .i64 0) := (blk_cell BK276.out 0).trans rfl; have hcz25_1 : w23.cell? ⟨gb276, 1, none⟩ = some (.slice none 0 0) := (blk_cell BK276.out 1).trans rfl; have hfz25_0 := blk_frozen BK276.out 0; have hfz25_1 := blk_frozen BK276.out 1; obtain ⟨Ao26, co26, eo26⟩ := Kd.R_slice HO275.out; subst eo26) | ((with_reducible refine gate_callee (f := 10) rfl ?_); refine goesL_ (some 37) rfl rfl Try.func10 (by kernel_rfl) rfl #[.agg #[.int .i64 t272, .slice Ao26 t273.length co26], .int .i64 a1, .int .i64 a2] rfl ma ?_; (with_reducible refine (impl_Reasons.calls k t272 _ _ t273 a1 a2 t277 t280 _ ?side1 ?side2 A12.out).mono ?_); (case side1 => refine (Kd.R_reads' (e := 70) (base := w.heap.size) (ok := fun k_ => (True ∧ some k_ ≠ (.slice Ao19 t265.length co19 : Value).ownBlock)) (n := t273.length) (c := co26) ?_).2.2; exact (by (with_reducible repeat (first | apply Kd.R_alloc | apply Kd.R_drewN | apply Kd.R_drew)); exact (Kd.R_mono (Kd.R_far (p := ⟨gb276, 1, none⟩) (Kd.R_far (p := ⟨gb276, 0, none⟩) (Kd.R_types HO275.out BK276.out (by decide)) (fun _ hk => hk.2) (.int .i64 t272)) (fun _ hk => hk.2) (.slice Ao26 t273.length co26)) (fun _ h_ => h_.1)))); (case side2 => exact (Kd.R_reads' HO275.out).2.1); rintro e w27 ⟨v278, rfl, ho0, hb⟩; refine ⟨_, rfl, ?_⟩; have n0_ := Aside0.mk (Kd.R_below (by (with_reducible repeat (first | apply Kd.R_alloc | apply Kd.R_drewN | apply Kd.R_drew)); exact (Kd.R_mono (Kd.R_far (p := ⟨gb276, 1, none⟩) (Kd.R_far (p := ⟨gb276, 0, none⟩) (Kd.R_types HO267.out BK276.out (by decide)) (fun _ hk => hk.2) (.int .i64 t272)) (fun _ hk => hk.2) (.slice Ao26 t273.length co26)) (fun _ h_ => h_.1))) hb); have n1_ := Aside0.mk (Kd.R_elder' (by (with_reducible repeat (first | apply Kd.R_alloc | apply Kd.R_drewN | apply Kd.R_drew)); exact (Kd.R_mono (Kd.R_far (p := ⟨gb276, 1, none⟩) (Kd.R_far (p := ⟨gb276, 0, none⟩) (Kd.R_types HO270.out BK276.out (by decide)) (fun _ hk => hk.2) (.int .i64 t272)) (fun _ hk => hk.2) (.slice Ao26 t273.length co26)) (fun _ h_ => h_.1))) (Kd.R_base ho0) hb); have n2_ := Aside0.mk (Kd.R_below (by (with_reducible repeat (first | apply Kd.R_alloc | apply Kd.R_drewN | apply Kd.R_drew)); exact (Kd.R_mono (Kd.R_far (p := ⟨gb276, 1, none⟩) (Kd.R_far (p := ⟨gb276, 0, none⟩) (Kd.R_types HO275.out BK276.out (by decide)) (fun _ hk => hk.2) (.int .i64 t272)) (fun _ hk => hk.2) (.slice Ao26 t273.length co26)) (fun _ h_ => h_.1))) hb); have n3_ := Aside0.mk (Kd.R_lower (Kd.R_new' ho0 (Kd.R_lt (by (with_reducible repeat (first | apply Kd.R_alloc | apply Kd.R_drewN | apply Kd.R_drew)); exact (Kd.R_mono (Kd.R_far (p := ⟨gb276, 1, none⟩) (Kd.R_far (p := ⟨gb276, 0, none⟩) (Kd.R_types HO270.out BK276.out (by decide)) (fun _ hk => hk.2) (.int .i64 t272)) (fun _ hk => hk.2) (.slice Ao26 t273.length co26)) (fun _ h_ => h_.1))))) (below_size (bs2 HB GE262 GE276))); have n4_ := Aside0.mk (blk_below (g := gb262) (o := .cells #[.int .i64 a0_0, .slice A0_1 l0_1.length c0_1] 24 (0, 0)) (by (with_reducible repeat (first | refine blk_drewN ?_ _ | refine blk_drew ?_ | refine blk_alloc ?_ _)); refine blk_far ?_ NB262_276.out _; (with_reducible repeat (first | refine blk_drewN ?_ _ | refine blk_drew ?_ | refine blk_alloc ?_ _)); refine blk_far ?_ NB262_276.out _; (with_reducible repeat (first | refine blk_drewN ?_ _ | refine blk_drew ?_ | refine blk_alloc ?_ _)); exact BK262.out) hb); have n5_ := Aside0.mk (blk_below (g := gb276) (o := .cells #[.int .i64 t272, .slice Ao26 t273.length co26] 31 (0, 0)) (by refine bd ?_; refine blk_put (cs := #[.int .i64 t272, .slice none 0 0]) ?_ 1 _ rfl; refine bd ?_; refine blk_put (cs := #[.int .i64 0, .slice none 0 0]) ?_ 0 _ rfl; (with_reducible repeat (first | refine blk_drewN ?_ _ | refine blk_drew ?_ | refine blk_alloc ?_ _)); exact BK276.out) hb); have n6_ := Aside0.mk (below_step (bs2 HB GE262 GE276) hb); clear HO267; clear HO270; clear HO275; clear BK262; clear BK276; clear HB; have HO267 := n0_; have HO270 := n1_; have HO275 := n2_; have HO279 := n3_; have BK262 := n4_; have BK276 := n5_; have HB := n6_; clear n0_ n1_ n2_ n3_ n4_ n5_ n6_; (try clear hb); (try clear hb2); (try clear hk); (try clear hi); (try clear ho0)))
  (try simp only [Act.put, List.setIfInBounds_toArray, List.set_cons_zero, List.set_cons_succ])
  go_cut [48] (fun v48 wc => ∃ (kq : Nat) (x48_12 : Bool), v48 = .bool x48_12 ∧ Aside0 (laws_FnExactReasons.j0 kq a1 a2 t268 t271 t277 t280 x48_12 a0_0 l0_1 t272 t273 = some r) ∧ Aside0 (kq ≤ k) ∧ Aside0 (Kd.R (Kd.int .i64) 2 wc w.heap.size (fun k_ => some k_ ≠ (v278 : Value).ownBlock) v269 t268) ∧ Aside0 (Kd.R (Kd.int .i64) 2 wc w.heap.size (fun k_ => some k_ ≠ (v269 : Value).ownBlock) v278 t277) ∧ Aside0 (Kd.R k70 70 wc w.heap.size (fun _ => True) (.slice Ao26 t273.length co26) t273) ∧ Aside0 (wc.heap[gb262]? = some (.cells #[.int .i64 a0_0, (.slice A0_1 l0_1.length c0_1)] 24 (0, 0))) ∧ Aside0 (wc.heap[gb276]? = some (.cells #[.int .i64 t272, (.slice Ao26 t273.length co26)] 31 (0, 0))) ∧ Aside0 (Below w.heap.size w wc))
  case first =>
   have H := HC13.out; clear HC13; replace H := Option.bind_eq_some_iff.mp H; obtain ⟨t281, A280, H⟩ := H; replace H : (if t281 = true then (laws_FnExactReasons.j0 k a1 a2 t268 t271 t277 t280 (t280 != t271) a0_0 l0_1 t272 t273) else (laws_FnExactReasons.j0 k a1 a2 t268 t271 t277 t280 true a0_0 l0_1 t272 t273)) = some r := H; have A28 := Aside0.mk A280; clear A280
   by_cases c29 : t281 = true
   ·subst c29
    have H1 : (laws_FnExactReasons.j0 k a1 a2 t268 t271 t277 t280 (t280 != t271) a0_0 l0_1 t272 t273) = some r := by rw [if_pos rfl] at H; exact H
    clear H; have H := H1; clear H1; have H' := Aside0.mk H; clear H; obtain ⟨Ao30, co30, eo30⟩ := Kd.R_slice HO279.out
    subst eo30
    obtain ⟨Ao31, co31, eo31⟩ := Kd.R_slice HO270.out
    subst eo31
    go_wp2_with (first | ((with_reducible refine gate_callee (f := 11) rfl ?_); refine goesL_ (some 42) rfl rfl Try.func11 (by kernel_rfl) rfl #[.slice Ao30 t277.length co30, .slice Ao31 t268.length co31] rfl ma ?_; (with_reducible refine (laws_eqInt64S.calls k _ _ t277 _ _ t268 true _ ?side1 ?side2 ?side3 ?side4 A28.out).mono ?_); (case side1 => repeat (first | exact (Kd.R_reads' HO279.out).2.2 | (with_reducible refine Kd.C_alloc ?_ _) | (with_reducible refine Kd.C_drewN ?_ _) | (with_reducible refine Kd.C_drew ?_))); (case side2 => exact (Kd.R_reads' HO279.out).2.1); (case side3 => repeat (first | exact (Kd.R_reads' HO270.out).2.2 | (with_reducible refine Kd.C_alloc ?_ _) | (with_reducible refine Kd.C_drewN ?_ _) | (with_reducible refine Kd.C_drew ?_))); (case side4 => exact (Kd.R_reads' HO270.out).2.1); rintro e w' ⟨rfl, ⟨nd, rfl⟩⟩; refine ⟨_, rfl, ?_⟩))
    go_meet
    case rel => exact ⟨_, ((t280 != t271)), au, H', ⟨by first | omega | exact Nat.le_refl _⟩, ⟨by (with_reducible repeat (first | apply Kd.R_alloc | apply Kd.R_drewN | apply Kd.R_drew)); exact Kd.R_mono HO270.out (fun _ hk => hk.2)⟩, ⟨by (with_reducible repeat (first | apply Kd.R_alloc | apply Kd.R_drewN | apply Kd.R_drew)); exact Kd.R_mono HO279.out (fun _ hk => hk.2)⟩, ⟨by (with_reducible repeat (first | apply Kd.R_alloc | apply Kd.R_drewN | apply Kd.R_drew)); exact Kd.R_mono HO275.out (fun _ hk => trivial)⟩, ⟨bk BK262⟩, ⟨bk BK276⟩, ⟨bs2 HB GE262 GE276⟩⟩
   ·replace c29 := Bool.eq_false_iff.mpr c29
    subst c29
    have H1 : (laws_FnExactReasons.j0 k a1 a2 t268 t271 t277 t280 true a0_0 l0_1 t272 t273) = some r := by rw [if_neg (show ¬ (false = true) by decide)] at H; exact H
    clear H; have H := H1; clear H1; have H' := Aside0.mk H; clear H; obtain ⟨Ao32, co32, eo32⟩ := Kd.R_slice HO279.out
    subst eo32
    obtain ⟨Ao33, co33, eo33⟩ := Kd.R_slice HO270.out
    subst eo33
    go_wp2_with (first | ((with_reducible refine gate_callee (f := 11) rfl ?_); refine goesL_ (some 42) rfl rfl Try.func11 (by kernel_rfl) rfl #[.slice Ao32 t277.length co32, .slice Ao33 t268.length co33] rfl ma ?_; (with_reducible refine (laws_eqInt64S.calls k _ _ t277 _ _ t268 false _ ?side1 ?side2 ?side3 ?side4 A28.out).mono ?_); (case side1 => repeat (first | exact (Kd.R_reads' HO279.out).2.2 | (with_reducible refine Kd.C_alloc ?_ _) | (with_reducible refine Kd.C_drewN ?_ _) | (with_reducible refine Kd.C_drew ?_))); (case side2 => exact (Kd.R_reads' HO279.out).2.1); (case side3 => repeat (first | exact (Kd.R_reads' HO270.out).2.2 | (with_reducible refine Kd.C_alloc ?_ _) | (with_reducible refine Kd.C_drewN ?_ _) | (with_reducible refine Kd.C_drew ?_))); (case side4 => exact (Kd.R_reads' HO270.out).2.1); rintro e w' ⟨rfl, ⟨nd, rfl⟩⟩; refine ⟨_, rfl, ?_⟩))
    go_meet
    case rel => exact ⟨_, (true), au, H', ⟨by first | omega | exact Nat.le_refl _⟩, ⟨by (with_reducible repeat (first | apply Kd.R_alloc | apply Kd.R_drewN | apply Kd.R_drew)); exact Kd.R_mono HO270.out (fun _ hk => hk.2)⟩, ⟨by (with_reducible repeat (first | apply Kd.R_alloc | apply Kd.R_drewN | apply Kd.R_drew)); exact Kd.R_mono HO279.out (fun _ hk => hk.2)⟩, ⟨by (with_reducible repeat (first | apply Kd.R_alloc | apply Kd.R_drewN | apply Kd.R_drew)); exact Kd.R_mono HO275.out (fun _ hk => trivial)⟩, ⟨bk BK262⟩, ⟨bk BK276⟩, ⟨bs2 HB GE262 GE276⟩⟩
  case rest =>
   clear HC13
   try clear c1
   try clear c2
   try clear p2
   try clear c3
   try clear c5
   try clear c5b0
   try clear c7
   try clear c8
   try clear c9
   try clear c10
   try clear c11
   try clear c24
   try clear c29
   try clear hcz15_0
   try clear hcz15_1
   try clear hcz17_0
   try clear hcz17_1
   try clear hcz21_0
   try clear hcz21_1
   try clear hcz25_0
   try clear hcz25_1
   try clear hcz7_0
   try clear hcz7_1
   try clear hfz15_0
   try clear hfz15_1
   try clear hfz17_0
   try clear hfz17_1
   try clear hfz21_0
   try clear hfz21_1
   try clear hfz25_0
   try clear hfz25_1
   try clear hfz7_0
   try clear hfz7_1
   obtain ⟨kq, x48_12, rfl, HA, HJ12, HO_8, HO_11, HO_277001, BK262, BK276, HB⟩ := hcut
   cases kq with
   | zero => exact absurd HA.out (by simp [laws_FnExactReasons.j0])
   | succ kj12 =>
    have H := HA.out; clear HA
    simp only [laws_FnExactReasons.j0] at H
    by_cases c34 : x48_12 = true
    ·subst c34
     have H1 : (some false) = some r := by rw [if_pos rfl] at H; exact H
     clear H; have H := H1; clear H1
     subst hrt
     exact absurd H (by simp)
    ·replace c34 := Bool.eq_false_iff.mpr c34
     subst c34
     have H1 : ((laws_toForest.f kj12 a0_0 l0_1).bind fun bt282 => ((laws_eqForest.f kj12 t272 t273 bt282.1 bt282.2).bind fun t286 => (if t286 = true then ((laws_markForest.f kj12 t272 t273 1).bind fun bt287 => (if bt287.1 < 0 then (laws_FnExactReasons.j1 kj12 a1 a2 t268 t271 t277 true a0_0 l0_1) else ((laws_eqInt64S.f kj12 t277 t268).bind fun t289 => (if t289 = true then (laws_FnExactReasons.j1 kj12 a1 a2 t268 t271 t277 (t280 != t271) a0_0 l0_1) else (laws_FnExactReasons.j1 kj12 a1 a2 t268 t271 t277 true a0_0 l0_1))))) else (some false)))) = some r := by rw [if_neg (show ¬ (false = true) by decide)] at H; exact H
     clear H; have H := H1; clear H1; replace H := Option.bind_eq_some_iff.mp H; obtain ⟨⟨t282, t283⟩, A350, H⟩ := H; replace H : ((laws_eqForest.f kj12 t272 t273 t282 t283).bind fun t286 => (if t286 = true then ((laws_markForest.f kj12 t272 t273 1).bind fun bt287 => (if bt287.1 < 0 then (laws_FnExactReasons.j1 kj12 a1 a2 t268 t271 t277 true a0_0 l0_1) else ((laws_eqInt64S.f kj12 t277 t268).bind fun t289 => (if t289 = true then (laws_FnExactReasons.j1 kj12 a1 a2 t268 t271 t277 (t280 != t271) a0_0 l0_1) else (laws_FnExactReasons.j1 kj12 a1 a2 t268 t271 t277 true a0_0 l0_1))))) else (some false))) = some r := H; have A35 := Aside0.mk A350; clear A350; replace H := Option.bind_eq_some_iff.mp H; obtain ⟨t286, A360, H⟩ := H; replace H : (if t286 = true then ((laws_markForest.f kj12 t272 t273 1).bind fun bt287 => (if bt287.1 < 0 then (laws_FnExactReasons.j1 kj12 a1 a2 t268 t271 t277 true a0_0 l0_1) else ((laws_eqInt64S.f kj12 t277 t268).bind fun t289 => (if t289 = true then (laws_FnExactReasons.j1 kj12 a1 a2 t268 t271 t277 (t280 != t271) a0_0 l0_1) else (laws_FnExactReasons.j1 kj12 a1 a2 t268 t271 t277 true a0_0 l0_1))))) else (some false)) = some r := H; have A36 := Aside0.mk A360; clear A360
     by_cases c37 : t286 = true
     ·subst c37
      have H1 : ((laws_markForest.f kj12 t272 t273 1).bind fun bt287 => (if bt287.1 < 0 then (laws_FnExactReasons.j1 kj12 a1 a2 t268 t271 t277 true a0_0 l0_1) else ((laws_eqInt64S.f kj12 t277 t268).bind fun t289 => (if t289 = true then (laws_FnExactReasons.j1 kj12 a1 a2 t268 t271 t277 (t280 != t271) a0_0 l0_1) else (laws_FnExactReasons.j1 kj12 a1 a2 t268 t271 t277 true a0_0 l0_1))))) = some r := by rw [if_pos rfl] at H; exact H
      clear H; have H := H1; clear H1; replace H := Option.bind_eq_some_iff.mp H; obtain ⟨⟨t287, t288⟩, A380, H⟩ := H; replace H : (if t287 < 0 then (laws_FnExactReasons.j1 kj12 a1 a2 t268 t271 t277 true a0_0 l0_1) else ((laws_eqInt64S.f kj12 t277 t268).bind fun t289 => (if t289 = true then (laws_FnExactReasons.j1 kj12 a1 a2 t268 t271 t277 (t280 != t271) a0_0 l0_1) else (laws_FnExactReasons.j1 kj12 a1 a2 t268 t271 t277 true a0_0 l0_1)))) = some r := H; have A38 := Aside0.mk A380; clear A380; have HC39 := Aside0.mk H; clear H
      try go_wp2
      have n0_ := Aside0.mk (Kd.R_drew HO_8.out); have n1_ := Aside0.mk (Kd.R_drew HO_11.out); have n2_ := Aside0.mk (Kd.R_drew HO_277001.out); have n3_ := Aside0.mk (blk_drew BK262.out); have n4_ := Aside0.mk (blk_drew BK276.out); have n5_ := Aside0.mk (below_drew1 HB.out); clear HO_8; clear HO_11; clear HO_277001; clear BK262; clear BK276; clear HB; have HO_8 := n0_; have HO_11 := n1_; have HO_277001 := n2_; have BK262 := n3_; have BK276 := n4_; have HB := n5_; clear n0_ n1_ n2_ n3_ n4_ n5_; refine start_ (n := 5) (S := fun w' => w'.cell? ⟨gb276, 0, none⟩ = some (.int .i64 t272) ∧ w'.cell? ⟨gb276, 1, none⟩ = some (.slice Ao26 t273.length co26) ∧ w'.cell? ⟨gb262, 0, none⟩ = some (.int .i64 a0_0) ∧ w'.cell? ⟨gb262, 1, none⟩ = some (.slice A0_1 l0_1.length c0_1)) (ds := []) (tf 0 5) (by kernel_rfl) rfl rfl ⟨(blk_cell BK276.out 0).trans rfl, (blk_cell BK276.out 1).trans rfl, (blk_cell BK262.out 0).trans rfl, (blk_cell BK262.out 1).trans rfl⟩ (fun hHeld => ?_); generalize wc.drew = w40 at HO_8 HO_11 HO_277001 BK262 BK276 HB hHeld ⊢; refine take_ (i := 0) (N := some 49) (v := ?_) (a' := ?_) #[true, false, false, false, false] rfl rfl (by kernel_rfl) (fun _ _ _ h => h) (Or.inl ⟨by rfl, ?_⟩) hHeld ?_ ?_
      rotate_left
      ·rintro w' ⟨s0, s1, s2, s3⟩
       go_simp
       with_reducible rfl
      rotate_left
      ·simp only [Act.put, List.setIfInBounds_toArray, List.set_cons_zero, List.set_cons_succ, i64_w, i32_w]
       rfl
      refine take_ (i := 1) (N := some 50) (v := ?_) (a' := ?_) #[true, true, false, false, false] rfl rfl (by kernel_rfl) (fun _ _ _ h => h) (Or.inl ⟨by rfl, ?_⟩) hHeld ?_ ?_
      rotate_left
      ·rintro w' ⟨s0, s1, s2, s3⟩
       go_simp
       with_reducible rfl
      rotate_left
      ·simp only [Act.put, List.setIfInBounds_toArray, List.set_cons_zero, List.set_cons_succ, i64_w, i32_w]
       rfl
      refine one_ (i := 2) (N := some 51) #[true, true, true, false, false] rfl rfl (by kernel_rfl) (by decide) (fun K hK => ?_); refine goes_ Try.func9 (by kernel_rfl) rfl #[.agg #[.int .i64 a0_0, .slice A0_1 l0_1.length c0_1]] (by rfl) rfl rfl ma ?_; (with_reducible refine (laws_toForest.calls kj12 a0_0 _ _ l0_1 t282 t283 _ ?side1 ?side2 A35.out).mono ?_)
      (case side1 => exact rc HR0_1 HB); (case side2 => exact HC0_1.out)
      rintro e w41 ⟨v284, rfl, ho0, hb⟩; refine ⟨_, rfl, ?_⟩; have n0_ := Aside0.mk (Kd.R_below (rl HO_8) hb); have n1_ := Aside0.mk (Kd.R_below (rl HO_11) hb); have n2_ := Aside0.mk (Kd.R_elder' (rl HO_277001) (Kd.R_base ho0) hb); have n3_ := Aside0.mk (Kd.R_lower (Kd.R_new' ho0 (Kd.R_lt (rl HO_277001))) (below_size (bs2 HB GE262 GE276))); have n4_ := Aside0.mk (blk_below (g := gb262) (o := .cells #[.int .i64 a0_0, .slice A0_1 l0_1.length c0_1] 24 (0, 0)) (bk BK262) hb); have n5_ := Aside0.mk (blk_below (g := gb276) (o := .cells #[.int .i64 t272, .slice Ao26 t273.length co26] 31 (0, 0)) (bk BK276) hb); have n6_ := Aside0.mk (below_step (bs2 HB GE262 GE276) hb); clear HO_8; clear HO_11; clear HO_277001; clear BK262; clear BK276; clear HB; have HO_8 := n0_; have HO_11 := n1_; have HO_277001 := n2_; have HO285 := n3_; have BK262 := n4_; have BK276 := n5_; have HB := n6_; clear n0_ n1_ n2_ n3_ n4_ n5_ n6_; (try clear hb)
      (try clear hb2); (try clear hk)
      (try clear hi); (try clear ho0)
      obtain ⟨Ao42, co42, eo42⟩ := Kd.R_slice HO285.out
      (first | subst eo42 | (injection eo42 with f1_ f2_ f3_; have f4_ := f1_.symm; have f5_ := f3_.symm; clear f1_ f2_ f3_; subst f4_; subst f5_))
      refine hK.out _ _ ⟨(blk_cell BK276.out 0).trans rfl, (blk_cell BK276.out 1).trans rfl, (blk_cell BK262.out 0).trans rfl, (blk_cell BK262.out 1).trans rfl⟩ (fun hHeld => ?_); clear hK K; refine nm 51 ?_; refine one_ (i := 3) (N := some 52) #[true, true, true, true, false] rfl rfl (by kernel_rfl) (by decide) (fun K hK => ?_); refine goes_ Try.func12 (by kernel_rfl) rfl #[.agg #[.int .i64 t272, .slice Ao26 t273.length co26], .agg #[.int .i64 t282, .slice Ao42 t283.length co42]] (by rfl) rfl rfl ma ?_; (with_reducible refine (laws_eqForest.calls kj12 t272 _ _ t273 t282 _ _ t283 true _ ?side1 ?side2 ?side3 ?side4 A36.out).mono ?_)
      (case side1 => repeat (first | exact (Kd.R_reads' HO_277001.out).2.2 | (with_reducible refine Kd.C_alloc ?_ _) | (with_reducible refine Kd.C_drewN ?_ _) | (with_reducible refine Kd.C_drew ?_))); (case side2 => exact (Kd.R_reads' HO_277001.out).2.1)
      (case side3 => repeat (first | exact (Kd.R_reads' HO285.out).2.2 | (with_reducible refine Kd.C_alloc ?_ _) | (with_reducible refine Kd.C_drewN ?_ _) | (with_reducible refine Kd.C_drew ?_))); (case side4 => exact (Kd.R_reads' HO285.out).2.1)
      rintro e w43 ⟨rfl, hb⟩; refine ⟨_, rfl, ?_⟩; have n0_ := Aside0.mk (Kd.R_below (rl HO_8) hb); have n1_ := Aside0.mk (Kd.R_below (rl HO_11) hb); have n2_ := Aside0.mk (Kd.R_below (rl HO_277001) hb); have n3_ := Aside0.mk (Kd.R_below (rl HO285) hb); have n4_ := Aside0.mk (blk_below (g := gb262) (o := .cells #[.int .i64 a0_0, .slice A0_1 l0_1.length c0_1] 24 (0, 0)) (bk BK262) hb); have n5_ := Aside0.mk (blk_below (g := gb276) (o := .cells #[.int .i64 t272, .slice Ao26 t273.length co26] 31 (0, 0)) (bk BK276) hb); have n6_ := Aside0.mk (below_step (bs2 HB GE262 GE276) hb); clear HO_8; clear HO_11; clear HO_277001; clear HO285; clear BK262; clear BK276; clear HB; have HO_8 := n0_; have HO_11 := n1_; have HO_277001 := n2_; have HO285 := n3_; have BK262 := n4_; have BK276 := n5_; have HB := n6_; clear n0_ n1_ n2_ n3_ n4_ n5_ n6_; (try clear hb)
      (try clear hb2); (try clear hk)
      (try clear hi); refine hK.out _ _ ⟨(blk_cell BK276.out 0).trans rfl, (blk_cell BK276.out 1).trans rfl, (blk_cell BK262.out 0).trans rfl, (blk_cell BK262.out 1).trans rfl⟩ (fun hHeld => ?_); clear hK K; refine nm 52 ?_; refine pure_ (i := 4) (N := some 53) (v := ?_) (a' := ?_) #[true, true, true, true, true] rfl rfl (by kernel_rfl) (fun _ _ _ h => h) (Or.inl ⟨by rfl, ?_⟩) ?_ ?_
      rotate_left
      ·intro w'
       go_simp
       with_reducible rfl
      rotate_left
      ·simp only [Act.put, List.setIfInBounds_toArray, List.set_cons_zero, List.set_cons_succ, i64_w, i32_w]
       rfl
      refine done_ (by kernel_rfl) ?_; have hnb44 := NB276_262.out; have hnc44 := NB262_276.out; have hcz45_0 : w43.cell? ⟨gb276, 0, none⟩ = some (.int .i64 t272) := (blk_cell BK276.out 0).trans rfl; have hcz45_1 : w43.cell? ⟨gb276, 1, none⟩ = some (.slice Ao26 t273.length co26) := (blk_cell BK276.out 1).trans rfl; have hfz45_0 := blk_frozen BK276.out 0; have hfz45_1 := blk_frozen BK276.out 1
      go_upto_region 14 with (first | ((with_reducible refine gate_callee (f := 13) rfl ?_); refine goesL_ (some 56) rfl rfl Try.func13 (by kernel_rfl) rfl #[.agg #[.int .i64 t272, .slice Ao26 t273.length co26], .int .i64 1] rfl ma ?_; (with_reducible refine (laws_markForest.calls kj12 t272 (fun k_ => some k_ = (.slice Ao26 t273.length co26 : Value).ownBlock) (.slice Ao26 t273.length co26) t273 1 t287 t288 w _ ?side1 ?side2 A38.out).mono ?_); (case side1 => repeat (first | (with_reducible first | exact HB.out | apply below_alloc | apply pw_below_drewN | apply below_drew1 | refine below_set ?_ GE262.out | refine below_set ?_ GE276.out) | exact HB.out)); (case side2 => exact Kd.R_tight rfl HO_277001.out); rintro e w46 ⟨rfl, hy0, hb, hkp⟩; refine ⟨_, rfl, ?_⟩; have n0_ := Aside0.mk (Kd.R_mono (ok' := fun k_ => some k_ ≠ (v278 : Value).ownBlock) (Kd.R_keptB ((Kd.R_apart' HO_8.out (Kd.R_typed HO_277001.out) (by decide))) hkp (fun k_ hk_ hs_ => (hk_.2) hs_)) (fun k_ hk_ => hk_.1.1)); have n1_ := Aside0.mk (Kd.R_mono (ok' := fun k_ => some k_ ≠ (v269 : Value).ownBlock) (Kd.R_keptB ((Kd.R_apart' HO_11.out (Kd.R_typed HO_277001.out) (by decide))) hkp (fun k_ hk_ hs_ => (hk_.2) hs_)) (fun k_ hk_ => hk_.1.1)); have n2_ := Aside0.mk (Kd.R_reok rfl hy0 (fun k_ e_ => HO_277001.out.1 k_ e_)); have n3_ := Aside0.mk (blk_kept (bk BK262) hkp (fun hs_ => (fun e_ => (Kd.R_ne HO_277001.out BK262.out (by decide)) e_) hs_)); have n4_ := Aside0.mk (blk_kept (bk BK276) hkp (fun hs_ => (fun e_ => (Kd.R_ne HO_277001.out BK276.out (by decide)) e_) hs_)); have n5_ := Aside0.mk (Kd.R_mono (ok' := fun k_ => some k_ ≠ (.slice Ao26 t273.length co26 : Value).ownBlock) (Kd.R_keptB (HO285.out) hkp (fun k_ hk_ hs_ => (hk_.2) hs_)) (fun k_ hk_ => hk_.1.2)); have n6_ := Aside0.mk (hb); clear HO_8; clear HO_11; clear HO_277001; clear BK262; clear BK276; clear HO285; clear HB; have HO_8 := n0_; have HO_11 := n1_; have HO_277001 := n2_; have BK262 := n3_; have BK276 := n4_; have HO285 := n5_; have HB := n6_; clear n0_ n1_ n2_ n3_ n4_ n5_ n6_; (try clear hb); (try clear hkp); (try clear hy0)))
      (try simp only [Act.put, List.setIfInBounds_toArray, List.set_cons_zero, List.set_cons_succ])
      go_cut [69] (fun v69 wc => ∃ (kq : Nat) (x69_38 : Bool), v69 = .bool x69_38 ∧ Aside0 (laws_FnExactReasons.j1 kq a1 a2 t268 t271 t277 x69_38 a0_0 l0_1 = some r) ∧ Aside0 (kq ≤ kj12) ∧ Aside0 (Kd.R (Kd.int .i64) 2 wc w.heap.size (fun k_ => some k_ ≠ (v278 : Value).ownBlock) v269 t268) ∧ Aside0 (Kd.R (Kd.int .i64) 2 wc w.heap.size (fun k_ => some k_ ≠ (v269 : Value).ownBlock) v278 t277) ∧ Aside0 (Kd.R k70 70 wc w.heap.size (fun _ => True) (.slice Ao26 t273.length co26) t288) ∧ Aside0 (wc.heap[gb262]? = some (.cells #[.int .i64 a0_0, (.slice A0_1 l0_1.length c0_1)] 24 (0, 0))) ∧ Aside0 (wc.heap[gb276]? = some (.cells #[.int .i64 t272, (.slice Ao26 t273.length co26)] 31 (0, 0))) ∧ Aside0 (Below w.heap.size w wc))
      case first =>
       have H := HC39.out; clear HC39
       by_cases c47 : t287 < 0
       ·rw [if_pos c47] at H
        have c47b0 : decide (t287 < 0) = true := decide_eq_true c47; clear c47
        (first | rw [c47b0] | (simp only [i64_w, i32_w]; rw [c47b0]) | skip)
        have H' := Aside0.mk H; clear H
        go_wp2
        go_meet
        case rel => exact ⟨_, (true), au, H', ⟨by have := HJ12.out; first | omega | exact Nat.le_refl _⟩, ⟨rl HO_8⟩, ⟨rl HO_11⟩, ⟨by (with_reducible repeat (first | apply Kd.R_alloc | apply Kd.R_drewN | apply Kd.R_drew)); exact Kd.R_mono HO_277001.out (fun _ hk => trivial)⟩, ⟨bk BK262⟩, ⟨bk BK276⟩, ⟨bs2 HB GE262 GE276⟩⟩
       ·rw [if_neg c47] at H
        have c47b0 : decide (t287 < 0) = false := decide_eq_false c47; clear c47
        (first | rw [c47b0] | (simp only [i64_w, i32_w]; rw [c47b0]) | skip)
        replace H := Option.bind_eq_some_iff.mp H; obtain ⟨t289, A480, H⟩ := H; replace H : (if t289 = true then (laws_FnExactReasons.j1 kj12 a1 a2 t268 t271 t277 (t280 != t271) a0_0 l0_1) else (laws_FnExactReasons.j1 kj12 a1 a2 t268 t271 t277 true a0_0 l0_1)) = some r := H; have A48 := Aside0.mk A480; clear A480
        by_cases c49 : t289 = true
        ·subst c49
         have H1 : (laws_FnExactReasons.j1 kj12 a1 a2 t268 t271 t277 (t280 != t271) a0_0 l0_1) = some r := by rw [if_pos rfl] at H; exact H
         clear H; have H := H1; clear H1; have H' := Aside0.mk H; clear H; obtain ⟨Ao50, co50, eo50⟩ := Kd.R_slice HO_11.out
         subst eo50
         obtain ⟨Ao51, co51, eo51⟩ := Kd.R_slice HO_8.out
         subst eo51
         go_wp2_with (first | (go_at_call 11; (with_reducible refine (laws_eqInt64S.calls kj12 _ _ t277 _ _ t268 true _ ?side1 ?side2 ?side3 ?side4 A48.out).mono ?_); (case side1 => repeat (first | exact (Kd.R_reads' HO_11.out).2.2 | (with_reducible refine Kd.C_alloc ?_ _) | (with_reducible refine Kd.C_drewN ?_ _) | (with_reducible refine Kd.C_drew ?_))); (case side2 => exact (Kd.R_reads' HO_11.out).2.1); (case side3 => repeat (first | exact (Kd.R_reads' HO_8.out).2.2 | (with_reducible refine Kd.C_alloc ?_ _) | (with_reducible refine Kd.C_drewN ?_ _) | (with_reducible refine Kd.C_drew ?_))); (case side4 => exact (Kd.R_reads' HO_8.out).2.1); rintro e w' ⟨rfl, ⟨nd, rfl⟩⟩))
         go_meet
         case rel => exact ⟨_, ((t280 != t271)), au, H', ⟨by have := HJ12.out; first | omega | exact Nat.le_refl _⟩, ⟨rl HO_8⟩, ⟨rl HO_11⟩, ⟨by (with_reducible repeat (first | apply Kd.R_alloc | apply Kd.R_drewN | apply Kd.R_drew)); exact Kd.R_mono HO_277001.out (fun _ hk => trivial)⟩, ⟨bk BK262⟩, ⟨bk BK276⟩, ⟨bs2 HB GE262 GE276⟩⟩
        ·replace c49 := Bool.eq_false_iff.mpr c49
         subst c49
         have H1 : (laws_FnExactReasons.j1 kj12 a1 a2 t268 t271 t277 true a0_0 l0_1) = some r := by rw [if_neg (show ¬ (false = true) by decide)] at H; exact H
         clear H; have H := H1; clear H1; have H' := Aside0.mk H; clear H; obtain ⟨Ao52, co52, eo52⟩ := Kd.R_slice HO_11.out
         subst eo52
         obtain ⟨Ao53, co53, eo53⟩ := Kd.R_slice HO_8.out
         subst eo53
         go_wp2_with (first | (go_at_call 11; (with_reducible refine (laws_eqInt64S.calls kj12 _ _ t277 _ _ t268 false _ ?side1 ?side2 ?side3 ?side4 A48.out).mono ?_); (case side1 => repeat (first | exact (Kd.R_reads' HO_11.out).2.2 | (with_reducible refine Kd.C_alloc ?_ _) | (with_reducible refine Kd.C_drewN ?_ _) | (with_reducible refine Kd.C_drew ?_))); (case side2 => exact (Kd.R_reads' HO_11.out).2.1); (case side3 => repeat (first | exact (Kd.R_reads' HO_8.out).2.2 | (with_reducible refine Kd.C_alloc ?_ _) | (with_reducible refine Kd.C_drewN ?_ _) | (with_reducible refine Kd.C_drew ?_))); (case side4 => exact (Kd.R_reads' HO_8.out).2.1); rintro e w' ⟨rfl, ⟨nd, rfl⟩⟩))
         go_meet
         case rel => exact ⟨_, (true), au, H', ⟨by have := HJ12.out; first | omega | exact Nat.le_refl _⟩, ⟨rl HO_8⟩, ⟨rl HO_11⟩, ⟨by (with_reducible repeat (first | apply Kd.R_alloc | apply Kd.R_drewN | apply Kd.R_drew)); exact Kd.R_mono HO_277001.out (fun _ hk => trivial)⟩, ⟨bk BK262⟩, ⟨bk BK276⟩, ⟨bs2 HB GE262 GE276⟩⟩
      case rest =>
       clear HC39
       try clear c1
       try clear c2
       try clear p2
       try clear c3
       try clear c4
       try clear c5
       try clear c5b0
       try clear c7
       try clear c8
       try clear c9
       try clear c10
       try clear c11
       try clear c12
       try clear c13
       try clear c24
       try clear c29
       try clear c34
       try clear c37
       try clear c44
       try clear c47
       try clear c47b0
       try clear c49
       try clear hcz15_0
       try clear hcz15_1
       try clear hcz17_0
       try clear hcz17_1
       try clear hcz21_0
       try clear hcz21_1
       try clear hcz25_0
       try clear hcz25_1
       try clear hcz45_0
       try clear hcz45_1
       try clear hcz7_0
       try clear hcz7_1
       try clear hfz15_0
       try clear hfz15_1
       try clear hfz17_0
       try clear hfz17_1
       try clear hfz21_0
       try clear hfz21_1
       try clear hfz25_0
       try clear hfz25_1
       try clear hfz45_0
       try clear hfz45_1
       try clear hfz7_0
       try clear hfz7_1
       try clear p2
       obtain ⟨kq, x69_38, rfl, HA, HJ38, HO_8, HO_11, HO_277001, BK262, BK276, HB⟩ := hcut; have hl277001_38 := (Kd.R_reads' HO_277001.out).1; rw [hl277001_38] at HO_277001
       (try simp only [hl277001_38])
       (try simp only [hl277001_38] at BK262)
       (try simp only [hl277001_38] at BK276)
       (try simp only [hl277001_38] at HO_8)
       (try simp only [hl277001_38] at HO_11)
       cases kq with
       | zero => exact absurd HA.out (by simp [laws_FnExactReasons.j1])
       | succ kj38 =>
        have H := HA.out; clear HA
        simp only [laws_FnExactReasons.j1] at H
        by_cases c54 : x69_38 = true
        ·subst c54
         have H1 : (some false) = some r := by rw [if_pos rfl] at H; exact H
         clear H; have H := H1; clear H1
         subst hrt
         exact absurd H (by simp)
        ·replace c54 := Bool.eq_false_iff.mpr c54
         subst c54
         have H1 : ((laws_markInt64S.f kj38 t277 1).bind fun bt290 => ((laws_heldInt64S.f kj38 bt290.2 1).bind fun t292 => (if t292 < 0 then (some false) else (if t292 = bt290.1 then ((laws_toForest.f kj38 a0_0 l0_1).bind fun bt293 => ((impl_Reasons.f kj38 bt293.1 bt293.2 a1 a2).bind fun bt297 => ((laws_eqInt64S.f kj38 bt297.1 t268).bind fun t301 => (if t301 = true then (laws_FnExactReasons.j2 kj38 bt290.2 bt290.1 (bt297.2 != t271)) else (laws_FnExactReasons.j2 kj38 bt290.2 bt290.1 true))))) else (some false))))) = some r := by rw [if_neg (show ¬ (false = true) by decide)] at H; exact H
         clear H; have H := H1; clear H1; replace H := Option.bind_eq_some_iff.mp H; obtain ⟨⟨t290, t291⟩, A550, H⟩ := H; replace H : ((laws_heldInt64S.f kj38 t291 1).bind fun t292 => (if t292 < 0 then (some false) else (if t292 = t290 then ((laws_toForest.f kj38 a0_0 l0_1).bind fun bt293 => ((impl_Reasons.f kj38 bt293.1 bt293.2 a1 a2).bind fun bt297 => ((laws_eqInt64S.f kj38 bt297.1 t268).bind fun t301 => (if t301 = true then (laws_FnExactReasons.j2 kj38 t291 t290 (bt297.2 != t271)) else (laws_FnExactReasons.j2 kj38 t291 t290 true))))) else (some false)))) = some r := H; have A55 := Aside0.mk A550; clear A550; replace H := Option.bind_eq_some_iff.mp H; obtain ⟨t292, A560, H⟩ := H; replace H : (if t292 < 0 then (some false) else (if t292 = t290 then ((laws_toForest.f kj38 a0_0 l0_1).bind fun bt293 => ((impl_Reasons.f kj38 bt293.1 bt293.2 a1 a2).bind fun bt297 => ((laws_eqInt64S.f kj38 bt297.1 t268).bind fun t301 => (if t301 = true then (laws_FnExactReasons.j2 kj38 t291 t290 (bt297.2 != t271)) else (laws_FnExactReasons.j2 kj38 t291 t290 true))))) else (some false))) = some r := H; have A56 := Aside0.mk A560; clear A560
         by_cases c57 : t292 < 0
         ·rw [if_pos c57] at H
          have c57b0 : decide (t292 < 0) = true := decide_eq_true c57; clear c57
          subst hrt
          exact absurd H (by simp)
         ·rw [if_neg c57] at H
          have c57b0 : decide (t292 < 0) = false := decide_eq_false c57; clear c57
          by_cases c58 : t292 = t290
          ·rw [if_pos c58] at H
           have c58b0 : (t292 == t290) = true := beq_iff_eq.mpr c58; have c58b1 : (t292 != t290) = false := bne_eq_false_iff_eq.mpr c58; clear c58; replace H := Option.bind_eq_some_iff.mp H; obtain ⟨⟨t293, t294⟩, A590, H⟩ := H; replace H : ((impl_Reasons.f kj38 t293 t294 a1 a2).bind fun bt297 => ((laws_eqInt64S.f kj38 bt297.1 t268).bind fun t301 => (if t301 = true then (laws_FnExactReasons.j2 kj38 t291 t290 (bt297.2 != t271)) else (laws_FnExactReasons.j2 kj38 t291 t290 true)))) = some r := H; have A59 := Aside0.mk A590; clear A590; replace H := Option.bind_eq_some_iff.mp H; obtain ⟨⟨t297, t300⟩, A600, H⟩ := H; replace H : ((laws_eqInt64S.f kj38 t297 t268).bind fun t301 => (if t301 = true then (laws_FnExactReasons.j2 kj38 t291 t290 (t300 != t271)) else (laws_FnExactReasons.j2 kj38 t291 t290 true))) = some r := H; have A60 := Aside0.mk A600; clear A600; have HC61 := Aside0.mk H; clear H; obtain ⟨Ao62, co62, eo62⟩ := Kd.R_slice HO_11.out
           subst eo62
           go_upto_region 25 with (first | ((with_reducible refine gate_callee (f := 14) rfl ?_); refine goesL_ (some 72) rfl rfl Try.func14 (by kernel_rfl) rfl #[.slice Ao62 t277.length co62, .int .i64 1] rfl ma ?_; (with_reducible refine (laws_markInt64S.calls kj38 (fun k_ => some k_ = (.slice Ao62 t277.length co62 : Value).ownBlock) (.slice Ao62 t277.length co62) t277 1 t290 t291 w _ ?side1 ?side2 A55.out).mono ?_); (case side1 => repeat (first | (with_reducible first | exact HB.out | apply below_alloc | apply pw_below_drewN | apply below_drew1 | refine below_set ?_ GE262.out | refine below_set ?_ GE276.out) | exact HB.out)); (case side2 => exact Kd.R_tight rfl HO_11.out); rintro e w63 ⟨rfl, hy0, hb, hkp⟩; refine ⟨_, rfl, ?_⟩; have n0_ := Aside0.mk (Kd.R_mono (ok' := fun k_ => some k_ ≠ (.slice Ao62 t277.length co62 : Value).ownBlock) (Kd.R_keptB (HO_8.out) hkp (fun k_ hk_ hs_ => (hk_) hs_)) (fun k_ hk_ => hk_.1)); have n1_ := Aside0.mk (Kd.R_reok rfl hy0 (fun k_ e_ => HO_11.out.1 k_ e_)); have n2_ := Aside0.mk (Kd.R_mono (ok' := fun k_ => True) (Kd.R_keptB ((Kd.R_apart' HO_277001.out (Kd.R_typed HO_11.out) (by decide))) hkp (fun k_ hk_ hs_ => (hk_.2) hs_)) (fun k_ hk_ => trivial)); have n3_ := Aside0.mk (blk_kept (bk BK262) hkp (fun hs_ => (fun e_ => (Kd.R_ne HO_11.out BK262.out (by decide)) e_) hs_)); have n4_ := Aside0.mk (blk_kept (bk BK276) hkp (fun hs_ => (fun e_ => (Kd.R_ne HO_11.out BK276.out (by decide)) e_) hs_)); have n5_ := Aside0.mk (hb); clear HO_8; clear HO_11; clear HO_277001; clear BK262; clear BK276; clear HB; have HO_8 := n0_; have HO_11 := n1_; have HO_277001 := n2_; have BK262 := n3_; have BK276 := n4_; have HB := n5_; clear n0_ n1_ n2_ n3_ n4_ n5_; (try clear hb); (try clear hkp); (try clear hy0)) | ((with_reducible refine gate_callee (f := 15) rfl ?_); refine goesL_ (some 75) rfl rfl Try.func15 (by kernel_rfl) rfl #[.slice Ao62 t291.length co62, .int .i64 1] rfl (by (try simp only [List.map_toArray, List.map_cons, List.map_nil]); first | done | (rw [show t291.length = t277.length from (Kd.R_reads' HO_11.out).1.symm] <;> rfl) | rfl | (simp only [List.length_drop, List.length_take]; rfl)) ?_; (with_reducible refine (laws_heldInt64S.calls kj38 _ _ t291 1 t292 _ ?side1 ?side2 A56.out).mono ?_); (case side1 => repeat (first | exact (Kd.R_reads' HO_11.out).2.2 | (with_reducible refine Kd.C_alloc ?_ _) | (with_reducible refine Kd.C_drewN ?_ _) | (with_reducible refine Kd.C_drew ?_))); (case side2 => rw [show t291.length = t277.length from (Kd.R_reads' HO_11.out).1.symm]; exact (Kd.R_reads' HO_11.out).2.1); rintro e w' ⟨rfl, ⟨nd, rfl⟩⟩; refine ⟨_, rfl, ?_⟩; have hnb64 := NB262_276.out; have hnc64 := NB276_262.out; have hcz65_0 : w63.cell? ⟨gb262, 0, none⟩ = some (.int .i64 a0_0) := (blk_cell BK262.out 0).trans rfl; have hcz65_1 : w63.cell? ⟨gb262, 1, none⟩ = some (.slice A0_1 l0_1.length c0_1) := (blk_cell BK262.out 1).trans rfl; have hfz65_0 := blk_frozen BK262.out 0; have hfz65_1 := blk_frozen BK262.out 1) | ((with_reducible refine gate_callee (f := 9) rfl ?_); refine goesL_ (some 83) rfl rfl Try.func9 (by kernel_rfl) rfl #[.agg #[.int .i64 a0_0, .slice A0_1 l0_1.length c0_1]] rfl ma ?_; (with_reducible refine (laws_toForest.calls kj38 a0_0 _ _ l0_1 t293 t294 _ ?side1 ?side2 A59.out).mono ?_); (case side1 => repeat (first | exact (Kd.C_below HR0_1.out (bs2 HB GE262 GE276)) | (with_reducible refine Kd.C_alloc ?_ _) | (with_reducible refine Kd.C_drewN ?_ _) | (with_reducible refine Kd.C_drew ?_))); (case side2 => exact HC0_1.out); rintro e w66 ⟨v295, rfl, ho0, hb⟩; refine ⟨_, rfl, ?_⟩; have n0_ := Aside0.mk (Kd.R_below (rl HO_8) hb); have n1_ := Aside0.mk (Kd.R_below (rl HO_11) hb); have n2_ := Aside0.mk (Kd.R_elder' (rl HO_277001) (Kd.R_base ho0) hb); have n3_ := Aside0.mk (Kd.R_lower (Kd.R_new' ho0 (Kd.R_lt (rl HO_277001))) (below_size (bs2 HB GE262 GE276))); have n4_ := Aside0.mk (blk_below (g := gb262) (o := .cells #[.int .i64 a0_0, .slice A0_1 l0_1.length c0_1] 24 (0, 0)) (bk BK262) hb); have n5_ := Aside0.mk (blk_below (g := gb276) (o := .cells #[.int .i64 t272, .slice Ao26 t288.length co26] 31 (0, 0)) (bk BK276) hb); have n6_ := Aside0.mk (below_step (bs2 HB GE262 GE276) hb); clear HO_8; clear HO_11; clear HO_277001; clear BK262; clear BK276; clear HB; have HO_8 := n0_; have HO_11 := n1_; have HO_277001 := n2_; have HO296 := n3_; have BK262 := n4_; have BK276 := n5_; have HB := n6_; clear n0_ n1_ n2_ n3_ n4_ n5_ n6_; (try clear hb); (try clear hb2); (try clear hk); (try clear hi); (try clear ho0); obtain ⟨Ao67, co67, eo67⟩ := Kd.R_slice HO296.out; subst eo67) | ((with_reducible refine gate_callee (f := 10) rfl ?_); refine goesL_ (some 86) rfl rfl Try.func10 (by kernel_rfl) rfl #[.agg #[.int .i64 t293, .slice Ao67 t294.length co67], .int .i64 a1, .int .i64 a2] rfl ma ?_; (with_reducible refine (impl_Reasons.calls kj38 t293 _ _ t294 a1 a2 t297 t300 _ ?side1 ?side2 A60.out).mono ?_); (case side1 => repeat (first | exact (Kd.R_reads' HO296.out).2.2 | (with_reducible refine Kd.C_alloc ?_ _) | (with_reducible refine Kd.C_drewN ?_ _) | (with_reducible refine Kd.C_drew ?_))); (case side2 => exact (Kd.R_reads' HO296.out).2.1); rintro e w68 ⟨v298, rfl, ho0, hb⟩; refine ⟨_, rfl, ?_⟩; have n0_ := Aside0.mk (Kd.R_elder' (rl HO_8) (Kd.R_base ho0) hb); have n1_ := Aside0.mk (Kd.R_elder' (rl HO_11) (Kd.R_base ho0) hb); have n2_ := Aside0.mk (Kd.R_below (rl HO_277001) hb); have n3_ := Aside0.mk (Kd.R_below (rl HO296) hb); have n4_ := Aside0.mk (Kd.R_lower (Kd.R_new' (Kd.R_new' ho0 (Kd.R_lt (rl HO_8))) (Kd.R_lt (rl HO_11))) (below_size (bs2 HB GE262 GE276))); have n5_ := Aside0.mk (blk_below (g := gb262) (o := .cells #[.int .i64 a0_0, .slice A0_1 l0_1.length c0_1] 24 (0, 0)) (bk BK262) hb); have n6_ := Aside0.mk (blk_below (g := gb276) (o := .cells #[.int .i64 t272, .slice Ao26 t288.length co26] 31 (0, 0)) (bk BK276) hb); have n7_ := Aside0.mk (below_step (bs2 HB GE262 GE276) hb); clear HO_8; clear HO_11; clear HO_277001; clear HO296; clear BK262; clear BK276; clear HB; have HO_8 := n0_; have HO_11 := n1_; have HO_277001 := n2_; have HO296 := n3_; have HO299 := n4_; have BK262 := n5_; have BK276 := n6_; have HB := n7_; clear n0_ n1_ n2_ n3_ n4_ n5_ n6_ n7_; (try clear hb); (try clear hb2); (try clear hk); (try clear hi); (try clear ho0)))
           (try simp only [Act.put, List.setIfInBounds_toArray, List.set_cons_zero, List.set_cons_succ])
           go_cut [97] (fun v97 wc => ∃ (kq : Nat) (x97_60 : Bool), v97 = .bool x97_60 ∧ Aside0 (laws_FnExactReasons.j2 kq t291 t290 x97_60 = some r) ∧ Aside0 (kq ≤ kj38) ∧ Aside0 (Kd.R (Kd.int .i64) 2 wc w.heap.size (fun _ => True) (.slice Ao62 t277.length co62) t291) ∧ Aside0 (Kd.R k70 70 wc w.heap.size (fun _ => True) (.slice Ao26 t288.length co26) t288) ∧ Aside0 (wc.heap[gb262]? = some (.cells #[.int .i64 a0_0, (.slice A0_1 l0_1.length c0_1)] 24 (0, 0))) ∧ Aside0 (wc.heap[gb276]? = some (.cells #[.int .i64 t272, (.slice Ao26 t288.length co26)] 31 (0, 0))) ∧ Aside0 (Below w.heap.size w wc))
           case first =>
            have H := HC61.out; clear HC61; replace H := Option.bind_eq_some_iff.mp H; obtain ⟨t301, A690, H⟩ := H; replace H : (if t301 = true then (laws_FnExactReasons.j2 kj38 t291 t290 (t300 != t271)) else (laws_FnExactReasons.j2 kj38 t291 t290 true)) = some r := H; have A69 := Aside0.mk A690; clear A690
            by_cases c70 : t301 = true
            ·subst c70
             have H1 : (laws_FnExactReasons.j2 kj38 t291 t290 (t300 != t271)) = some r := by rw [if_pos rfl] at H; exact H
             clear H; have H := H1; clear H1; have H' := Aside0.mk H; clear H; obtain ⟨Ao71, co71, eo71⟩ := Kd.R_slice HO299.out
             subst eo71
             obtain ⟨Ao72, co72, eo72⟩ := Kd.R_slice HO_8.out
             subst eo72
             go_wp2_with (first | ((with_reducible refine gate_callee (f := 11) rfl ?_); refine goesL_ (some 91) rfl rfl Try.func11 (by kernel_rfl) rfl #[.slice Ao71 t297.length co71, .slice Ao72 t268.length co72] rfl ma ?_; (with_reducible refine (laws_eqInt64S.calls kj38 _ _ t297 _ _ t268 true _ ?side1 ?side2 ?side3 ?side4 A69.out).mono ?_); (case side1 => repeat (first | exact (Kd.R_reads' HO299.out).2.2 | (with_reducible refine Kd.C_alloc ?_ _) | (with_reducible refine Kd.C_drewN ?_ _) | (with_reducible refine Kd.C_drew ?_))); (case side2 => exact (Kd.R_reads' HO299.out).2.1); (case side3 => repeat (first | exact (Kd.R_reads' HO_8.out).2.2 | (with_reducible refine Kd.C_alloc ?_ _) | (with_reducible refine Kd.C_drewN ?_ _) | (with_reducible refine Kd.C_drew ?_))); (case side4 => exact (Kd.R_reads' HO_8.out).2.1); rintro e w' ⟨rfl, ⟨nd, rfl⟩⟩; refine ⟨_, rfl, ?_⟩))
             go_meet
             case rel => exact ⟨_, ((t300 != t271)), au, H', ⟨by have := HJ12.out; have := HJ38.out; first | omega | exact Nat.le_refl _⟩, ⟨by (try simp only [hl277001_38]); (with_reducible repeat (first | apply Kd.R_alloc | apply Kd.R_drewN | apply Kd.R_drew)); exact Kd.R_mono HO_11.out (fun _ hk => trivial)⟩, ⟨by (try simp only [hl277001_38]); (with_reducible repeat (first | apply Kd.R_alloc | apply Kd.R_drewN | apply Kd.R_drew)); exact Kd.R_mono HO_277001.out (fun _ hk => trivial)⟩, ⟨by (try simp only [hl277001_38]); (with_reducible repeat (first | refine blk_drewN ?_ _ | refine blk_drew ?_ | refine blk_alloc ?_ _)); exact BK262.out⟩, ⟨by (try simp only [hl277001_38]); (with_reducible repeat (first | refine blk_drewN ?_ _ | refine blk_drew ?_ | refine blk_alloc ?_ _)); exact BK276.out⟩, ⟨bs2 HB GE262 GE276⟩⟩
            ·replace c70 := Bool.eq_false_iff.mpr c70
             subst c70
             have H1 : (laws_FnExactReasons.j2 kj38 t291 t290 true) = some r := by rw [if_neg (show ¬ (false = true) by decide)] at H; exact H
             clear H; have H := H1; clear H1; have H' := Aside0.mk H; clear H; obtain ⟨Ao73, co73, eo73⟩ := Kd.R_slice HO299.out
             subst eo73
             obtain ⟨Ao74, co74, eo74⟩ := Kd.R_slice HO_8.out
             subst eo74
             go_wp2_with (first | ((with_reducible refine gate_callee (f := 11) rfl ?_); refine goesL_ (some 91) rfl rfl Try.func11 (by kernel_rfl) rfl #[.slice Ao73 t297.length co73, .slice Ao74 t268.length co74] rfl ma ?_; (with_reducible refine (laws_eqInt64S.calls kj38 _ _ t297 _ _ t268 false _ ?side1 ?side2 ?side3 ?side4 A69.out).mono ?_); (case side1 => repeat (first | exact (Kd.R_reads' HO299.out).2.2 | (with_reducible refine Kd.C_alloc ?_ _) | (with_reducible refine Kd.C_drewN ?_ _) | (with_reducible refine Kd.C_drew ?_))); (case side2 => exact (Kd.R_reads' HO299.out).2.1); (case side3 => repeat (first | exact (Kd.R_reads' HO_8.out).2.2 | (with_reducible refine Kd.C_alloc ?_ _) | (with_reducible refine Kd.C_drewN ?_ _) | (with_reducible refine Kd.C_drew ?_))); (case side4 => exact (Kd.R_reads' HO_8.out).2.1); rintro e w' ⟨rfl, ⟨nd, rfl⟩⟩; refine ⟨_, rfl, ?_⟩))
             go_meet
             case rel => exact ⟨_, (true), au, H', ⟨by have := HJ12.out; have := HJ38.out; first | omega | exact Nat.le_refl _⟩, ⟨by (try simp only [hl277001_38]); (with_reducible repeat (first | apply Kd.R_alloc | apply Kd.R_drewN | apply Kd.R_drew)); exact Kd.R_mono HO_11.out (fun _ hk => trivial)⟩, ⟨by (try simp only [hl277001_38]); (with_reducible repeat (first | apply Kd.R_alloc | apply Kd.R_drewN | apply Kd.R_drew)); exact Kd.R_mono HO_277001.out (fun _ hk => trivial)⟩, ⟨by (try simp only [hl277001_38]); (with_reducible repeat (first | refine blk_drewN ?_ _ | refine blk_drew ?_ | refine blk_alloc ?_ _)); exact BK262.out⟩, ⟨by (try simp only [hl277001_38]); (with_reducible repeat (first | refine blk_drewN ?_ _ | refine blk_drew ?_ | refine blk_alloc ?_ _)); exact BK276.out⟩, ⟨bs2 HB GE262 GE276⟩⟩
           case rest =>
            clear HC61
            try clear c1
            try clear c2
            try clear p2
            try clear c3
            try clear c4
            try clear c5
            try clear c5b0
            try clear c6
            try clear c7
            try clear c8
            try clear c9
            try clear c10
            try clear c11
            try clear c12
            try clear c13
            try clear c14
            try clear c15
            try clear c24
            try clear c29
            try clear c34
            try clear c37
            try clear c44
            try clear c47
            try clear c47b0
            try clear c49
            try clear c54
            try clear c57
            try clear c57b0
            try clear c58
            try clear c58b0
            try clear c58b1
            try clear c64
            try clear c70
            try clear hcz15_0
            try clear hcz15_1
            try clear hcz17_0
            try clear hcz17_1
            try clear hcz21_0
            try clear hcz21_1
            try clear hcz25_0
            try clear hcz25_1
            try clear hcz45_0
            try clear hcz45_1
            try clear hcz65_0
            try clear hcz65_1
            try clear hcz7_0
            try clear hcz7_1
            try clear hfz15_0
            try clear hfz15_1
            try clear hfz17_0
            try clear hfz17_1
            try clear hfz21_0
            try clear hfz21_1
            try clear hfz25_0
            try clear hfz25_1
            try clear hfz45_0
            try clear hfz45_1
            try clear hfz65_0
            try clear hfz65_1
            try clear hfz7_0
            try clear hfz7_1
            try clear p2
            obtain ⟨kq, x97_60, rfl, HA, HJ60, HO_11, HO_277001, BK262, BK276, HB⟩ := hcut; have hl11_60 := (Kd.R_reads' HO_11.out).1; rw [hl11_60] at HO_11
            (try simp only [hl11_60])
            (try simp only [hl11_60] at BK262)
            (try simp only [hl11_60] at BK276)
            (try simp only [hl11_60] at HO_277001)
            cases kq with
            | zero => exact absurd HA.out (by simp [laws_FnExactReasons.j2])
            | succ kj60 =>
             have H := HA.out; clear HA
             simp only [laws_FnExactReasons.j2] at H
             by_cases c75 : x97_60 = true
             ·subst c75
              have H1 : (some false) = some r := by rw [if_pos rfl] at H; exact H
              clear H; have H := H1; clear H1
              subst hrt
              exact absurd H (by simp)
             ·replace c75 := Bool.eq_false_iff.mpr c75
              subst c75
              have H1 : ((laws_heldInt64S.f kj60 t291 1).bind fun t302 => (if t302 < 0 then (some false) else (if t302 = t290 then (some true) else (some false)))) = some r := by rw [if_neg (show ¬ (false = true) by decide)] at H; exact H
              clear H; have H := H1; clear H1; replace H := Option.bind_eq_some_iff.mp H; obtain ⟨t302, A760, H⟩ := H; replace H : (if t302 < 0 then (some false) else (if t302 = t290 then (some true) else (some false))) = some r := H; have A76 := Aside0.mk A760; clear A760
              by_cases c77 : t302 < 0
              ·rw [if_pos c77] at H
               have c77b0 : decide (t302 < 0) = true := decide_eq_true c77; clear c77
               subst hrt
               exact absurd H (by simp)
              ·rw [if_neg c77] at H
               have c77b0 : decide (t302 < 0) = false := decide_eq_false c77; clear c77
               by_cases c78 : t302 = t290
               ·rw [if_pos c78] at H
                have c78b0 : (t302 == t290) = true := beq_iff_eq.mpr c78; have c78b1 : (t302 != t290) = false := bne_eq_false_iff_eq.mpr c78; clear c78; clear hrt; obtain rfl := Option.some.inj H
                go_wp2_with (first | ((with_reducible refine gate_callee (f := 15) rfl ?_); refine goesL_ (some 100) rfl rfl Try.func15 (by kernel_rfl) rfl #[.slice Ao62 t291.length co62, .int .i64 1] rfl ma ?_; (with_reducible refine (laws_heldInt64S.calls kj60 _ _ t291 1 t302 _ ?side1 ?side2 A76.out).mono ?_); (case side1 => repeat (first | exact (Kd.R_reads' HO_11.out).2.2 | (with_reducible refine Kd.C_alloc ?_ _) | (with_reducible refine Kd.C_drewN ?_ _) | (with_reducible refine Kd.C_drew ?_))); (case side2 => exact (Kd.R_reads' HO_11.out).2.1); rintro e w' ⟨rfl, ⟨nd, rfl⟩⟩; refine ⟨_, rfl, ?_⟩))
                go_ret
                exact ⟨by first | rfl | (simp [errW_none, errW_some] <;> rfl) | (simp [*, errW_none, errW_some] <;> rfl), bs2 HB GE262 GE276⟩
               ·rw [if_neg c78] at H
                have c78b0 : (t302 == t290) = false := beq_eq_false_iff_ne.mpr c78; have c78b1 : (t302 != t290) = true := bne_iff_ne.mpr c78
                subst hrt
                exact absurd H (by simp)
          ·rw [if_neg c58] at H
           have c58b0 : (t292 == t290) = false := beq_eq_false_iff_ne.mpr c58; have c58b1 : (t292 != t290) = true := bne_iff_ne.mpr c58
           subst hrt
           exact absurd H (by simp)
     ·replace c37 := Bool.eq_false_iff.mpr c37
      subst c37
      have H1 : (some false) = some r := by rw [if_neg (show ¬ (false = true) by decide)] at H; exact H
      clear H; have H := H1; clear H1
      subst hrt
      exact absurd H (by simp)

end Go.Proofs.Ytonkicgdgpcneaa.PFnExactReasons
