-- Written by a program of this session (a turned copy of the kit's printer); Lean checks it.
-- half the depth
import Derived.Test.YtpkclocdenagcaaPFnUnitsx0
import Derived.Test.YtpkclocdenagcaaPFnUnitsx2
import Derived.Test.YtpkclocdenagcaaPFnUnitsx4
import Derived.Test.YtpkclocdenagcaaPFnUnitsx6
import Derived.Test.YtpkclocdenagcaaPFnUnitsx7
import Derived.Test.YtpkclocdenagcaaPFnUnitsx9
namespace Go.Proofs.Ytpkclocdenagcaa.PFnUnits
open Go.RowKit Go.Proofs.YtpkclocdenagcaaW.PrintWords Go.Proofs.YtpkclocdenagcaaW.PrintLast Go.Proofs.YtpkclocdenagcaaW.PrintMore
attribute [local go_sem] max2_int min2_int max_two min_two max_three min_three max_four min_four   -- for this text's walks alone
set_option linter.unusedVariables false
set_option linter.unusedSimpArgs false

/-! ### laws_FnUnits: function 5 -/
mutual
def laws_FnUnits.j0 : Nat → List Int → List Int → Bool → Bool → Int → List (List Int) → Option (Bool)
 | 0, _, _, _, _, _, _ => none
 | k + 1, x4, x7, x8, x41, x284000, x284001 => if x41 = true then (some false) else (if x8 = true then ((some (([] : List Int) : List Int)).bind fun y293 => (if y293.length + x7.length < 17592186044416 then ((impl_Unit.f k x284000 x284001 (y293 ++ x7)).bind fun bt299 => (if bt299.2 = true then ((laws_sameInts.f k bt299.1 x7).bind fun t303 => (if t303 = true then (laws_FnUnits.j1 k x4 x7 x8 x284000 x284001) else (some false))) else (some false))) else (none))) else (laws_FnUnits.j1 k x4 x7 x8 x284000 x284001))
def laws_FnUnits.j1 : Nat → List Int → List Int → Bool → Int → List (List Int) → Option (Bool)
 | 0, _, _, _, _, _ => none
 | k + 1, x4, x7, x8, x284000, x284001 => if x284000 > 9 then (laws_FnUnits.j2 k x4 x7 x8 true x284000 x284001) else ((spec_CnfOk.f k x284000 x284001).bind fun t304 => (if t304 = true then (if (x7.length : Int) = 0 then (laws_FnUnits.j2 k x4 x7 x8 (!x8) x284000 x284001) else (laws_FnUnits.j2 k x4 x7 x8 false x284000 x284001)) else (laws_FnUnits.j2 k x4 x7 x8 true x284000 x284001)))
def laws_FnUnits.j2 : Nat → List Int → List Int → Bool → Bool → Int → List (List Int) → Option (Bool)
 | 0, _, _, _, _, _, _ => none
 | k + 1, x4, x7, x8, x75, x284000, x284001 => if x75 = true then (some true) else (laws_FnUnits.l0 k x4 x7 x8 0 x284000 x284001)
def laws_FnUnits.l0 : Nat → List Int → List Int → Bool → Int → Int → List (List Int) → Option (Bool)
 | 0, _, _, _, _, _, _ => none
 | k + 1, x4, x7, x8, x11, x284000, x284001 => if 0 ≤ (IntKind.u64.wrap (x284000)) then (if x11 < (shl .i64 1 (IntKind.u64.wrap (x284000))) then (laws_FnUnits.l1 k x4 x7 x8 x11 (([] : List Bool)) 0 x284000 x284001) else (some true)) else (none)
def laws_FnUnits.l1 : Nat → List Int → List Int → Bool → Int → List Bool → Int → Int → List (List Int) → Option (Bool)
 | 0, _, _, _, _, _, _, _, _ => none
 | k + 1, x4, x7, x8, x11, x12, x13, x284000, x284001 => if x13 < x284000 then (if 0 ≤ (IntKind.u64.wrap (x13)) then (if x12.length < 140737488355328 then (laws_FnUnits.l1 k x4 x7 x8 x11 (x12 ++ [((Go.bits .and .i64 (shr .i64 x11 (IntKind.u64.wrap (x13))) 1) == 1)]) (wrap64 (x13 + 1)) x284000 x284001) else (none)) else (none)) else ((impl_Meets.f k x284000 x284001 x12).bind fun t311 => (if t311 = true then ((laws_stand.f k x12 x4).bind fun t312 => (laws_FnUnits.j5 k x4 x7 x8 x11 x12 (!t312) x284000 x284001)) else (laws_FnUnits.j5 k x4 x7 x8 x11 x12 true x284000 x284001)))
def laws_FnUnits.j5 : Nat → List Int → List Int → Bool → Int → List Bool → Bool → Int → List (List Int) → Option (Bool)
 | 0, _, _, _, _, _, _, _, _ => none
 | k + 1, x4, x7, x8, x11, x12, x109, x284000, x284001 => if x109 = true then (laws_FnUnits.l0 k x4 x7 x8 (wrap64 (x11 + 1)) x284000 x284001) else (if x8 = true then ((laws_stand.f k x12 x7).bind fun t313 => (if t313 = true then (laws_FnUnits.l0 k x4 x7 x8 (wrap64 (x11 + 1)) x284000 x284001) else (some false))) else (some false))
end
def laws_FnUnits.f (k : Nat) (l0 : List Int) : Option (Bool) := (laws_big.f l0).bind fun t275 => (if t275 = true then (some true) else ((spec_DrawUnit.f k l0).bind fun bt276 => ((spec_Unit.f k bt276.1 bt276.2.1 bt276.2.2).bind fun bt284 => ((impl_Unit.f k bt276.1 bt276.2.1 bt276.2.2).bind fun bt288 => (if (bt288.2 != bt284.2) = true then (laws_FnUnits.j0 k bt276.2.2 bt288.1 bt288.2 true bt276.1 bt276.2.1) else ((laws_sameInts.f k bt288.1 bt284.1).bind fun t292 => (laws_FnUnits.j0 k bt276.2.2 bt288.1 bt288.2 (!t292) bt276.1 bt276.2.1)))))))
def laws_FnUnits.T9 : Bool × List (List Nat × List Nat) := (true, [([], []), ([], []), ([], []), ([1, 2], [1, 2]), ([0, 3, 3], [0, 3]), ([4], [4]), ([5], [5]), ([5], [5]), ([6, 4, 0, 1, 2, 3, 4, 5, 6], [6]), ([7, 8, 0, 1, 2, 3, 4, 5, 6, 7, 8], [7])])
def laws_FnUnits.B9 : List Nat := [0, 0, 0, 6, 15, 31, 63, 63, 127, 511]
theorem laws_FnUnits.tab9 : rtab .any (opsOf Try.f5 9) = laws_FnUnits.T9 := by kernel_rfl
theorem laws_FnUnits.bits9 : waitsOk laws_FnUnits.T9.2 laws_FnUnits.B9 = true := by kernel_rfl
set_option maxHeartbeats 8000000 in
set_option maxRecDepth 100000 in
theorem laws_FnUnits.calls (k : Nat) (A0 : Option Addr) (c0 : Nat) (l0 : List Int) (r : Bool) (w : World) (hr0 : Kd.C (Kd.int .u8) w A0 l0.length l0) (hc0 : l0.length ≤ c0) (h : laws_FnUnits.f k l0 = some r) (hrt : r = true) :
  Calls Try.prog 5 #[.slice A0 l0.length c0] w fun e w' => e = .returned (.bool r) ∧ Below w.heap.size w w' := by
 have hu37 := Try.underlying37; have HR0 := Aside0.mk hr0; have HC0 := Aside0.mk hc0; clear hr0 hc0; have HB := Aside0.mk (Below.refl w.heap.size w); have H : ((laws_big.f l0).bind fun t275 => (if t275 = true then (some true) else ((spec_DrawUnit.f k l0).bind fun bt276 => ((spec_Unit.f k bt276.1 bt276.2.1 bt276.2.2).bind fun bt284 => ((impl_Unit.f k bt276.1 bt276.2.1 bt276.2.2).bind fun bt288 => (if (bt288.2 != bt284.2) = true then (laws_FnUnits.j0 k bt276.2.2 bt288.1 bt288.2 true bt276.1 bt276.2.1) else ((laws_sameInts.f k bt288.1 bt284.1).bind fun t292 => (laws_FnUnits.j0 k bt276.2.2 bt288.1 bt288.2 (!t292) bt276.1 bt276.2.1)))))))) = some r := h; clear h; replace H := Option.bind_eq_some_iff.mp H; obtain ⟨t275, A20, H⟩ := H; replace H : (if t275 = true then (some true) else ((spec_DrawUnit.f k l0).bind fun bt276 => ((spec_Unit.f k bt276.1 bt276.2.1 bt276.2.2).bind fun bt284 => ((impl_Unit.f k bt276.1 bt276.2.1 bt276.2.2).bind fun bt288 => (if (bt288.2 != bt284.2) = true then (laws_FnUnits.j0 k bt276.2.2 bt288.1 bt288.2 true bt276.1 bt276.2.1) else ((laws_sameInts.f k bt288.1 bt284.1).bind fun t292 => (laws_FnUnits.j0 k bt276.2.2 bt288.1 bt288.2 (!t292) bt276.1 bt276.2.1))))))) = some r := H; have A2 := Aside0.mk A20; clear A20
 by_cases c3 : t275 = true
 ·subst c3
  have H1 : (some true) = some r := by rw [if_pos rfl] at H; exact H
  clear H; have H := H1; clear H1; clear hrt; obtain rfl := Option.some.inj H
  go_enter Try.func5, Try.ntmps5
  go_wp2_with (first | ((with_reducible refine gate_callee (f := 23) rfl ?_); refine goesL_ (some 15) rfl rfl Try.func23 (by kernel_rfl) rfl #[.slice A0 l0.length c0] rfl ma ?_; (with_reducible refine (laws_big.calls _ _ l0 true _ ?side1 ?side2 A2.out).mono ?_); (case side1 => repeat (first | exact HR0.out | (with_reducible refine Kd.C_alloc ?_ _) | (with_reducible refine Kd.C_drewN ?_ _) | (with_reducible refine Kd.C_drew ?_))); (case side2 => exact HC0.out); rintro e w' ⟨rfl, ⟨nd, rfl⟩⟩; refine ⟨_, rfl, ?_⟩))
  go_ret
  exact ⟨by first | rfl | (simp [errW_none, errW_some] <;> rfl) | (simp [*, errW_none, errW_some] <;> rfl), bl HB⟩
 ·replace c3 := Bool.eq_false_iff.mpr c3
  subst c3
  have H1 : ((spec_DrawUnit.f k l0).bind fun bt276 => ((spec_Unit.f k bt276.1 bt276.2.1 bt276.2.2).bind fun bt284 => ((impl_Unit.f k bt276.1 bt276.2.1 bt276.2.2).bind fun bt288 => (if (bt288.2 != bt284.2) = true then (laws_FnUnits.j0 k bt276.2.2 bt288.1 bt288.2 true bt276.1 bt276.2.1) else ((laws_sameInts.f k bt288.1 bt284.1).bind fun t292 => (laws_FnUnits.j0 k bt276.2.2 bt288.1 bt288.2 (!t292) bt276.1 bt276.2.1)))))) = some r := by rw [if_neg (show ¬ (false = true) by decide)] at H; exact H
  clear H; have H := H1; clear H1; replace H := Option.bind_eq_some_iff.mp H; obtain ⟨⟨t276, t277, t280⟩, A40, H⟩ := H; replace H : ((spec_Unit.f k t276 t277 t280).bind fun bt284 => ((impl_Unit.f k t276 t277 t280).bind fun bt288 => (if (bt288.2 != bt284.2) = true then (laws_FnUnits.j0 k t280 bt288.1 bt288.2 true t276 t277) else ((laws_sameInts.f k bt288.1 bt284.1).bind fun t292 => (laws_FnUnits.j0 k t280 bt288.1 bt288.2 (!t292) t276 t277))))) = some r := H; have A4 := Aside0.mk A40; clear A40; replace H := Option.bind_eq_some_iff.mp H; obtain ⟨⟨t284, t287⟩, A50, H⟩ := H; replace H : ((impl_Unit.f k t276 t277 t280).bind fun bt288 => (if (bt288.2 != t287) = true then (laws_FnUnits.j0 k t280 bt288.1 bt288.2 true t276 t277) else ((laws_sameInts.f k bt288.1 t284).bind fun t292 => (laws_FnUnits.j0 k t280 bt288.1 bt288.2 (!t292) t276 t277)))) = some r := H; have A5 := Aside0.mk A50; clear A50; replace H := Option.bind_eq_some_iff.mp H; obtain ⟨⟨t288, t291⟩, A60, H⟩ := H; replace H : (if (t291 != t287) = true then (laws_FnUnits.j0 k t280 t288 t291 true t276 t277) else ((laws_sameInts.f k t288 t284).bind fun t292 => (laws_FnUnits.j0 k t280 t288 t291 (!t292) t276 t277))) = some r := H; have A6 := Aside0.mk A60; clear A60; have HC7 := Aside0.mk H; clear H
  go_enter Try.func5, Try.ntmps5
  go_upto_region 6 with (first | ((with_reducible refine gate_callee (f := 23) rfl ?_); refine goesL_ (some 15) rfl rfl Try.func23 (by kernel_rfl) rfl #[.slice A0 l0.length c0] rfl ma ?_; (with_reducible refine (laws_big.calls _ _ l0 false _ ?side1 ?side2 A2.out).mono ?_); (case side1 => repeat (first | exact HR0.out | (with_reducible refine Kd.C_alloc ?_ _) | (with_reducible refine Kd.C_drewN ?_ _) | (with_reducible refine Kd.C_drew ?_))); (case side2 => exact HC0.out); rintro e w' ⟨rfl, ⟨nd, rfl⟩⟩; refine ⟨_, rfl, ?_⟩) | ((with_reducible refine gate_callee (f := 24) rfl ?_); refine goesL_ (some 18) rfl rfl Try.func24 (by kernel_rfl) rfl #[.slice A0 l0.length c0] rfl ma ?_; (with_reducible refine (spec_DrawUnit.calls k _ _ l0 t276 t277 t280 _ ?side1 ?side2 A4.out).mono ?_); (case side1 => repeat (first | exact HR0.out | (with_reducible refine Kd.C_alloc ?_ _) | (with_reducible refine Kd.C_drewN ?_ _) | (with_reducible refine Kd.C_drew ?_))); (case side2 => exact HC0.out); rintro e w8 ⟨v278, v281, rfl, ho0, ho1, hb⟩; refine ⟨_, rfl, ?_⟩; have n0_ := Aside0.mk (Kd.S_lower ho0 (below_size (bl HB))); have n1_ := Aside0.mk (Kd.R_lower ho1 (below_size (bl HB))); have n2_ := Aside0.mk (below_step (bl HB) hb); clear HB; have HO279 := n0_; have HO282 := n1_; have HB := n2_; clear n0_ n1_ n2_; (try clear hb); (try clear hb2); (try clear hk); (try clear hi); (try clear ho0); (try clear ho1)) | ((with_reducible refine gate_dst (N := 3) rfl ?_); (try (refine gate_guard (by rfl) ?_; dsimp only)); refine be 3 #[.int .i64 0, .slice none 0 0] 37 ?_; intro gb283 hg w9 hbox hb; have n0_ := Aside0.mk (Kd.S_below (sl HO279) hb); have n1_ := Aside0.mk (Kd.R_below (rl HO282) hb); have n2_ := Aside0.mk (below_step (bl HB) hb); have n3_ := Aside0.mk (hbox); have n4_ := Aside0.mk (gs HB hg); have n5_ := Aside0.mk (gs HB hg); clear HO279; clear HO282; clear HB; have HO279 := n0_; have HO282 := n1_; have HB := n2_; have BK283 := n3_; have GW283 := n4_; have GE283 := n5_; clear n0_ n1_ n2_ n3_ n4_ n5_; clear hb hbox hg; have hcz10_0 : w9.cell? ⟨gb283, 0, none⟩ = some (.int .i64 0) := (blk_cell BK283.out 0).trans rfl; have hcz10_1 : w9.cell? ⟨gb283, 1, none⟩ = some (.slice none 0 0) := (blk_cell BK283.out 1).trans rfl; have hfz10_0 := blk_frozen BK283.out 0; have hfz10_1 := blk_frozen BK283.out 1; obtain ⟨Ao11, co11, eo11⟩ := Kd.S_slice HO279.out; subst eo11; obtain ⟨Ao12, co12, eo12⟩ := Kd.R_slice HO282.out; subst eo12) | ((with_reducible refine gate_callee (f := 14) rfl ?_); refine goesL_ (some 24) rfl rfl Try.func14 (by kernel_rfl) rfl #[.agg #[.int .i64 t276, .slice Ao11 t277.length co11], .slice Ao12 t280.length co12] rfl ma ?_; (with_reducible refine (spec_Unit.calls k t276 _ _ t277 _ _ t280 t284 t287 _ ?side1 ?side2 ?side3 ?side4 A5.out).mono ?_); (case side1 => refine (Kd.S_reads' (e := 33) (base := w.heap.size) (ok := fun k_ => some k_ ≠ (.slice Ao12 t280.length co12 : Value).ownBlock) (n := t277.length) (c := co11) ?_).2.2; exact (by (with_reducible repeat (first | apply Kd.S_alloc | apply Kd.S_drewN | apply Kd.S_drew)); exact (Kd.S_mono (Kd.S_far (p := ⟨gb283, 1, none⟩) (Kd.S_far (p := ⟨gb283, 0, none⟩) (Kd.S_types HO279.out BK283.out (by decide)) (fun _ hk => hk.2) (.int .i64 t276)) (fun _ hk => hk.2) (.slice Ao11 t277.length co11)) (fun _ h_ => h_.1)))); (case side2 => exact (Kd.S_reads' HO279.out).2.1); (case side3 => refine (Kd.R_reads' (e := 2) (base := w.heap.size) (ok := fun k_ => True) (n := t280.length) (c := co12) ?_).2.2; exact (by (with_reducible repeat (first | apply Kd.R_alloc | apply Kd.R_drewN | apply Kd.R_drew)); exact (Kd.R_mono (Kd.R_far (p := ⟨gb283, 1, none⟩) (Kd.R_far (p := ⟨gb283, 0, none⟩) (Kd.R_types HO282.out BK283.out (by decide)) (fun _ hk => hk.2) (.int .i64 t276)) (fun _ hk => hk.2) (.slice Ao11 t277.length co11)) (fun _ h_ => h_.1)))); (case side4 => exact (Kd.R_reads' HO282.out).2.1); rintro e w13 ⟨v285, rfl, ho0, hb⟩; refine ⟨_, rfl, ?_⟩; have n0_ := Aside0.mk (Kd.S_elder' (by (with_reducible repeat (first | apply Kd.S_alloc | apply Kd.S_drewN | apply Kd.S_drew)); exact (Kd.S_mono (Kd.S_far (p := ⟨gb283, 1, none⟩) (Kd.S_far (p := ⟨gb283, 0, none⟩) (Kd.S_types HO279.out BK283.out (by decide)) (fun _ hk => hk.2) (.int .i64 t276)) (fun _ hk => hk.2) (.slice Ao11 t277.length co11)) (fun _ h_ => h_.1))) (Kd.R_base ho0) hb); have n1_ := Aside0.mk (Kd.R_elder' (by (with_reducible repeat (first | apply Kd.R_alloc | apply Kd.R_drewN | apply Kd.R_drew)); exact (Kd.R_mono (Kd.R_far (p := ⟨gb283, 1, none⟩) (Kd.R_far (p := ⟨gb283, 0, none⟩) (Kd.R_types HO282.out BK283.out (by decide)) (fun _ hk => hk.2) (.int .i64 t276)) (fun _ hk => hk.2) (.slice Ao11 t277.length co11)) (fun _ h_ => h_.1))) (Kd.R_base ho0) hb); have n2_ := Aside0.mk (Kd.R_lower (Kd.R_new' ho0 (Kd.R_lt (by (with_reducible repeat (first | apply Kd.R_alloc | apply Kd.R_drewN | apply Kd.R_drew)); exact (Kd.R_mono (Kd.R_far (p := ⟨gb283, 1, none⟩) (Kd.R_far (p := ⟨gb283, 0, none⟩) (Kd.R_types HO282.out BK283.out (by decide)) (fun _ hk => hk.2) (.int .i64 t276)) (fun _ hk => hk.2) (.slice Ao11 t277.length co11)) (fun _ h_ => h_.1))))) (below_size (bs HB GE283))); have n3_ := Aside0.mk (blk_below (g := gb283) (o := .cells #[.int .i64 t276, .slice Ao11 t277.length co11] 37 (0, 0)) (by refine bd ?_; refine blk_put (cs := #[.int .i64 t276, .slice none 0 0]) ?_ 1 _ rfl; refine bd ?_; refine blk_put (cs := #[.int .i64 0, .slice none 0 0]) ?_ 0 _ rfl; (with_reducible repeat (first | refine blk_drewN ?_ _ | refine blk_drew ?_ | refine blk_alloc ?_ _)); exact BK283.out) hb); have n4_ := Aside0.mk (below_step (bs HB GE283) hb); clear HO279; clear HO282; clear BK283; clear HB; have HO279 := n0_; have HO282 := n1_; have HO286 := n2_; have BK283 := n3_; have HB := n4_; clear n0_ n1_ n2_ n3_ n4_; (try clear hb); (try clear hb2); (try clear hk); (try clear hi); (try clear ho0); have hcz14_0 : w13.cell? ⟨gb283, 0, none⟩ = some (.int .i64 t276) := (blk_cell BK283.out 0).trans rfl; have hcz14_1 : w13.cell? ⟨gb283, 1, none⟩ = some (.slice Ao11 t277.length co11) := (blk_cell BK283.out 1).trans rfl; have hfz14_0 := blk_frozen BK283.out 0; have hfz14_1 := blk_frozen BK283.out 1) | ((with_reducible refine gate_callee (f := 17) rfl ?_); refine goesL_ (some 30) rfl rfl Try.func17 (by kernel_rfl) rfl #[.agg #[.int .i64 t276, .slice Ao11 t277.length co11], .slice Ao12 t280.length co12] rfl ma ?_; (with_reducible refine (impl_Unit.calls k t276 _ _ t277 _ _ t280 t288 t291 _ ?side1 ?side2 ?side3 ?side4 A6.out).mono ?_); (case side1 => repeat (first | exact (Kd.S_reads' HO279.out).2.2 | (with_reducible refine Kd.C_alloc ?_ _) | (with_reducible refine Kd.C_drewN ?_ _) | (with_reducible refine Kd.C_drew ?_))); (case side2 => exact (Kd.S_reads' HO279.out).2.1); (case side3 => repeat (first | exact (Kd.R_reads' HO282.out).2.2 | (with_reducible refine Kd.C_alloc ?_ _) | (with_reducible refine Kd.C_drewN ?_ _) | (with_reducible refine Kd.C_drew ?_))); (case side4 => exact (Kd.R_reads' HO282.out).2.1); rintro e w15 ⟨v289, rfl, ho0, hb⟩; refine ⟨_, rfl, ?_⟩; have n0_ := Aside0.mk (Kd.S_elder' (sl HO279) (Kd.R_base ho0) hb); have n1_ := Aside0.mk (Kd.R_elder' (rl HO282) (Kd.R_base ho0) hb); have n2_ := Aside0.mk (Kd.R_elder' (rl HO286) (Kd.R_base ho0) hb); have n3_ := Aside0.mk (Kd.R_lower (Kd.R_new' (Kd.R_new' ho0 (Kd.R_lt (rl HO282))) (Kd.R_lt (rl HO286))) (below_size (bs HB GE283))); have n4_ := Aside0.mk (blk_below (g := gb283) (o := .cells #[.int .i64 t276, .slice Ao11 t277.length co11] 37 (0, 0)) (bk BK283) hb); have n5_ := Aside0.mk (below_step (bs HB GE283) hb); clear HO279; clear HO282; clear HO286; clear BK283; clear HB; have HO279 := n0_; have HO282 := n1_; have HO286 := n2_; have HO290 := n3_; have BK283 := n4_; have HB := n5_; clear n0_ n1_ n2_ n3_ n4_ n5_; (try clear hb); (try clear hb2); (try clear hk); (try clear hi); (try clear ho0)))
  (try simp only [Act.put, List.setIfInBounds_toArray, List.set_cons_zero, List.set_cons_succ])
  go_cut [41] (fun v41 wc => ∃ (kq : Nat) (x41_6 : Bool), v41 = .bool x41_6 ∧ Aside0 (laws_FnUnits.j0 kq t280 t288 t291 x41_6 t276 t277 = some r) ∧ Aside0 (kq ≤ k) ∧ Aside0 (Kd.R (Kd.int .i64) 2 wc w.heap.size (fun k_ => some k_ ≠ (v289 : Value).ownBlock) (.slice Ao12 t280.length co12) t280) ∧ Aside0 (Kd.R (Kd.int .i64) 2 wc w.heap.size (fun k_ => some k_ ≠ ((.slice Ao12 t280.length co12) : Value).ownBlock) v289 t288) ∧ Aside0 (Kd.S (Kd.slice 2 (Kd.int .i64)) 33 wc w.heap.size (fun k_ => some k_ ≠ ((.slice Ao12 t280.length co12) : Value).ownBlock ∧ some k_ ≠ (v289 : Value).ownBlock) (.slice Ao11 t277.length co11) t277) ∧ Aside0 (wc.heap[gb283]? = some (.cells #[.int .i64 t276, (.slice Ao11 t277.length co11)] 37 (0, 0))) ∧ Aside0 (Below w.heap.size w wc))
  case first =>
   have H := HC7.out; clear HC7
   by_cases c16 : (t291 != t287) = true
   ·rw [if_pos c16] at H
    have c16b0 : (t291 != t287) = true := c16
    (try (have c16b1 : decide (t291 = t287) = false := by simpa using c16))
    (try (have c16b2 : (t291 == t287) = false := by simpa using c16))
    (try (have c16b3 : ¬ (t291 = t287) := by simpa using c16))
    clear c16
    (first | rw [c16b0] | (simp only [i64_w, i32_w]; rw [c16b0]) | skip)
    have H' := Aside0.mk H; clear H
    go_wp2
    go_meet
    case rel => exact ⟨_, (true), au, H', ⟨by first | omega | exact Nat.le_refl _⟩, ⟨by (with_reducible repeat (first | apply Kd.R_alloc | apply Kd.R_drewN | apply Kd.R_drew)); exact Kd.R_mono HO282.out (fun _ hk => hk.2)⟩, ⟨by (with_reducible repeat (first | apply Kd.R_alloc | apply Kd.R_drewN | apply Kd.R_drew)); exact Kd.R_mono HO290.out (fun _ hk => hk.1.2)⟩, ⟨by (with_reducible repeat (first | apply Kd.S_alloc | apply Kd.S_drewN | apply Kd.S_drew)); exact Kd.S_mono HO279.out (fun _ hk => ⟨hk.1.1, hk.2⟩)⟩, ⟨bk BK283⟩, ⟨bs HB GE283⟩⟩
   ·rw [if_neg c16] at H
    have c16b0 : (t291 != t287) = false := by simpa using c16
    (try (have c16b1 : decide (t291 = t287) = true := by simpa using c16))
    (try (have c16b2 : (t291 == t287) = true := by simpa using c16))
    clear c16
    (first | rw [c16b0] | (simp only [i64_w, i32_w]; rw [c16b0]) | skip)
    replace H := Option.bind_eq_some_iff.mp H; obtain ⟨t292, A170, H⟩ := H; replace H : (laws_FnUnits.j0 k t280 t288 t291 (!t292) t276 t277) = some r := H; have A17 := Aside0.mk A170; clear A170; have H' := Aside0.mk H; clear H; obtain ⟨Ao18, co18, eo18⟩ := Kd.R_slice HO290.out
    subst eo18
    obtain ⟨Ao19, co19, eo19⟩ := Kd.R_slice HO286.out
    subst eo19
    go_wp2_with (first | (go_at_call 25; (with_reducible refine (laws_sameInts.calls k _ _ t288 _ _ t284 t292 _ ?side1 ?side2 ?side3 ?side4 A17.out).mono ?_); (case side1 => repeat (first | exact (Kd.R_reads' HO290.out).2.2 | (with_reducible refine Kd.C_alloc ?_ _) | (with_reducible refine Kd.C_drewN ?_ _) | (with_reducible refine Kd.C_drew ?_))); (case side2 => exact (Kd.R_reads' HO290.out).2.1); (case side3 => repeat (first | exact (Kd.R_reads' HO286.out).2.2 | (with_reducible refine Kd.C_alloc ?_ _) | (with_reducible refine Kd.C_drewN ?_ _) | (with_reducible refine Kd.C_drew ?_))); (case side4 => exact (Kd.R_reads' HO286.out).2.1); rintro e w' ⟨rfl, ⟨nd, rfl⟩⟩))
    go_meet
    case rel => exact ⟨_, (!t292), au, H', ⟨by first | omega | exact Nat.le_refl _⟩, ⟨by (with_reducible repeat (first | apply Kd.R_alloc | apply Kd.R_drewN | apply Kd.R_drew)); exact Kd.R_mono HO282.out (fun _ hk => hk.2)⟩, ⟨by (with_reducible repeat (first | apply Kd.R_alloc | apply Kd.R_drewN | apply Kd.R_drew)); exact Kd.R_mono HO290.out (fun _ hk => hk.1.2)⟩, ⟨by (with_reducible repeat (first | apply Kd.S_alloc | apply Kd.S_drewN | apply Kd.S_drew)); exact Kd.S_mono HO279.out (fun _ hk => ⟨hk.1.1, hk.2⟩)⟩, ⟨bk BK283⟩, ⟨bs HB GE283⟩⟩
  case rest =>
   clear HC7
   try clear c1
   try clear c2
   try clear p2
   try clear c3
   try clear c5
   try clear c14
   try clear c16
   try clear c16b0
   try clear c16b1
   try clear c16b2
   try clear c17
   try clear hcz10_0
   try clear hcz10_1
   try clear hcz14_0
   try clear hcz14_1
   try clear hfz10_0
   try clear hfz10_1
   try clear hfz14_0
   try clear hfz14_1
   obtain ⟨kq, x41_6, rfl, HA, HJ6, HO_4, HO_7, HO_284001, BK283, HB⟩ := hcut
   cases kq with
   | zero => exact absurd HA.out (by simp [laws_FnUnits.j0])
   | succ kj6 =>
    have H := HA.out; clear HA
    simp only [laws_FnUnits.j0] at H
    by_cases c20 : x41_6 = true
    ·subst c20
     have H1 : (some false) = some r := by rw [if_pos rfl] at H; exact H
     clear H; have H := H1; clear H1
     subst hrt
     exact absurd H (by simp)
    ·replace c20 := Bool.eq_false_iff.mpr c20
     subst c20
     have H1 : (if t291 = true then ((some (([] : List Int) : List Int)).bind fun y293 => (if y293.length + t288.length < 17592186044416 then ((impl_Unit.f kj6 t276 t277 (y293 ++ t288)).bind fun bt299 => (if bt299.2 = true then ((laws_sameInts.f kj6 bt299.1 t288).bind fun t303 => (if t303 = true then (laws_FnUnits.j1 kj6 t280 t288 t291 t276 t277) else (some false))) else (some false))) else (none))) else (laws_FnUnits.j1 kj6 t280 t288 t291 t276 t277)) = some r := by rw [if_neg (show ¬ (false = true) by decide)] at H; exact H
     clear H; have H := H1; clear H1; have HC21 := Aside0.mk H; clear H
     go_upto_if 42 with (fail)
     go_cut [] (fun wc => ∃ (kq : Nat), Aside0 (laws_FnUnits.j1 kq t280 t288 t291 t276 t277 = some r) ∧ Aside0 (kq ≤ kj6) ∧ Aside0 (Kd.R (Kd.int .i64) 2 wc w.heap.size (fun k_ => some k_ ≠ (v289 : Value).ownBlock) (.slice Ao12 t280.length co12) t280) ∧ Aside0 (Kd.R (Kd.int .i64) 2 wc w.heap.size (fun k_ => some k_ ≠ ((.slice Ao12 t280.length co12) : Value).ownBlock) v289 t288) ∧ Aside0 (Kd.S (Kd.slice 2 (Kd.int .i64)) 33 wc w.heap.size (fun k_ => some k_ ≠ ((.slice Ao12 t280.length co12) : Value).ownBlock ∧ some k_ ≠ (v289 : Value).ownBlock) (.slice Ao11 t277.length co11) t277) ∧ Aside0 (wc.heap[gb283]? = some (.cells #[.int .i64 t276, (.slice Ao11 t277.length co11)] 37 (0, 0))) ∧ Aside0 (Below w.heap.size w wc))
     case first =>
      have H := HC21.out; clear HC21
      by_cases c22 : t291 = true
      ·subst c22
       have H1 : ((some (([] : List Int) : List Int)).bind fun y293 => (if y293.length + t288.length < 17592186044416 then ((impl_Unit.f kj6 t276 t277 (y293 ++ t288)).bind fun bt299 => (if bt299.2 = true then ((laws_sameInts.f kj6 bt299.1 t288).bind fun t303 => (if t303 = true then (laws_FnUnits.j1 kj6 t280 t288 true t276 t277) else (some false))) else (some false))) else (none))) = some r := by rw [if_pos rfl] at H; exact H
       clear H; have H := H1; clear H1; obtain ⟨y293, hy293⟩ : ∃ y_ : List Int, y_ = (([] : List Int)) := ⟨_, rfl⟩
       replace H : (if y293.length + t288.length < 17592186044416 then ((impl_Unit.f kj6 t276 t277 (y293 ++ t288)).bind fun bt299 => (if bt299.2 = true then ((laws_sameInts.f kj6 bt299.1 t288).bind fun t303 => (if t303 = true then (laws_FnUnits.j1 kj6 t280 t288 true t276 t277) else (some false))) else (some false))) else (none)) = some r := by first | (rw [hy293]; with_reducible exact H) | (have H2_ := (Option.bind_some _ _).symm.trans H; rw [hy293]; with_reducible exact H2_) | (have H2_ := (Option.bind_some _ _).symm.trans H; with_reducible exact H2_) | with_reducible exact H | (rw [hy293]; exact H) | exact H
       have Ny293 := Aside0.mk hy293; clear hy293
       by_cases c23 : y293.length + t288.length < 17592186044416
       ·rw [if_pos c23] at H
        have LMc23 := Aside0.mk c23; clear c23; obtain ⟨y296, hy296⟩ : ∃ y_ : List Int, y_ = (y293 ++ t288) := ⟨_, rfl⟩
        replace H : ((impl_Unit.f kj6 t276 t277 y296).bind fun bt299 => (if bt299.2 = true then ((laws_sameInts.f kj6 bt299.1 t288).bind fun t303 => (if t303 = true then (laws_FnUnits.j1 kj6 t280 t288 true t276 t277) else (some false))) else (some false))) = some r := by first | (rw [hy296]; with_reducible exact H) | (have H2_ := (Option.bind_some _ _).symm.trans H; rw [hy296]; with_reducible exact H2_) | (have H2_ := (Option.bind_some _ _).symm.trans H; with_reducible exact H2_) | with_reducible exact H | (rw [hy296]; exact H) | exact H
        have Ny296 := Aside0.mk hy296; clear hy296; replace H := Option.bind_eq_some_iff.mp H; obtain ⟨⟨t299, t302⟩, A240, H⟩ := H; replace H : (if t302 = true then ((laws_sameInts.f kj6 t299 t288).bind fun t303 => (if t303 = true then (laws_FnUnits.j1 kj6 t280 t288 true t276 t277) else (some false))) else (some false)) = some r := H; have A24 := Aside0.mk A240; clear A240
        by_cases c25 : t302 = true
        ·subst c25
         have H1 : ((laws_sameInts.f kj6 t299 t288).bind fun t303 => (if t303 = true then (laws_FnUnits.j1 kj6 t280 t288 true t276 t277) else (some false))) = some r := by rw [if_pos rfl] at H; exact H
         clear H; have H := H1; clear H1; replace H := Option.bind_eq_some_iff.mp H; obtain ⟨t303, A260, H⟩ := H; replace H : (if t303 = true then (laws_FnUnits.j1 kj6 t280 t288 true t276 t277) else (some false)) = some r := H; have A26 := Aside0.mk A260; clear A260
         by_cases c27 : t303 = true
         ·subst c27
          have H1 : (laws_FnUnits.j1 kj6 t280 t288 true t276 t277) = some r := by rw [if_pos rfl] at H; exact H
          clear H; have H := H1; clear H1; have H' := Aside0.mk H; clear H
          try go_wp2
          have n0_ := Aside0.mk (Kd.R_drew HO_4.out); have n1_ := Aside0.mk (Kd.R_drew HO_7.out); have n2_ := Aside0.mk (Kd.S_drew HO_284001.out); have n3_ := Aside0.mk (blk_drew BK283.out); have n4_ := Aside0.mk (below_drew1 HB.out); clear HO_4; clear HO_7; clear HO_284001; clear BK283; clear HB; have HO_4 := n0_; have HO_7 := n1_; have HO_284001 := n2_; have BK283 := n3_; have HB := n4_; clear n0_ n1_ n2_ n3_ n4_; refine start_ (n := 10) (S := fun w' => w'.cell? ⟨gb283, 0, none⟩ = some (.int .i64 t276) ∧ w'.cell? ⟨gb283, 1, none⟩ = some (.slice Ao11 t277.length co11)) (ds := []) (tf 0 10) (by kernel_rfl) rfl rfl ⟨(blk_cell BK283.out 0).trans rfl, (blk_cell BK283.out 1).trans rfl⟩ (fun hHeld => ?_); refine with_tabW laws_FnUnits.tab9 laws_FnUnits.bits9 (fun HT_ HW_ => ?_); generalize wc.drew = w28 at HO_4 HO_7 HO_284001 BK283 HB hHeld ⊢; refine pq HT_ 2 46 10 4 ?_; refine tq HT_ HW_ hHeld 0 44 10 5 ?_; refine oq HT_ 1 45 10 7 (fun K hK => ?_)
          refine Kd.R_lit_step (Kd.int .i64) _ 2 ?hg (N := 45) ?hd (xs := ([] : List Int)) (inner := []) (ok := fun _ => True) (okp := fun _ => True) ?hr ?hp (fun _ hk => hk) trivial (Below.refl _ _) (Nat.le_refl _) (by simp) ?_; (case hd => rfl); (case hg => rfl); (case hr => first | (go_simp; done) | (go_simp; rfl)); (case hp => exact (Reps.none _ _))
          intro v294 w29 ho30 hb hg_ hnew_
          clear hg_ hnew_
          (first | rw [← Ny293.out] at ho30 | (simp only [Int.reduceToNat] at ho30; rw [← Ny293.out] at ho30))
          have n0_ := Aside0.mk (Kd.R_elder' (rl HO_4) (Kd.R_base ho30) hb); have n1_ := Aside0.mk (Kd.R_elder' (rl HO_7) (Kd.R_base ho30) hb); have n2_ := Aside0.mk (Kd.S_elder' (sl HO_284001) (Kd.R_base ho30) hb); have n3_ := Aside0.mk (Kd.R_lower (Kd.R_new' (Kd.R_new' ho30 (Kd.R_lt (rl HO_4))) (Kd.R_lt (rl HO_7))) (below_size (bs HB GE283))); have n4_ := Aside0.mk (blk_below (g := gb283) (o := .cells #[.int .i64 t276, .slice Ao11 t277.length co11] 37 (0, 0)) (bk BK283) hb); have n5_ := Aside0.mk (below_step (bs HB GE283) hb); clear HO_4; clear HO_7; clear HO_284001; clear BK283; clear HB; have HO_4 := n0_; have HO_7 := n1_; have HO_284001 := n2_; have HO295 := n3_; have BK283 := n4_; have HB := n5_; clear n0_ n1_ n2_ n3_ n4_ n5_; clear hb ho30; obtain ⟨Ao32, co32, eo32⟩ := Kd.R_slice HO_7.out
          (first | subst eo32 | (injection eo32 with f1_ f2_ f3_; have f4_ := f1_.symm; have f5_ := f3_.symm; clear f1_ f2_ f3_; subst f4_; subst f5_))
          refine hK.out _ _ ⟨(blk_cell BK283.out 0).trans rfl, (blk_cell BK283.out 1).trans rfl⟩ (fun hHeld => ?_); clear hK K; refine nm 45 ?_; refine on HT_ 3 47 6 (fun K hK => ?_); refine Kd.R_append_rows_step (Kd.int .i64) (w0 := w) w.heap.size (by rfl) (.tmp 45) (.tmp 46) 33 2 (.int .i64 0) 8 rfl Try.underlying33 info2 rfl (by decide) (by omega) v294 y293 t288 _ _ _ (fun k_ => some k_ ≠ (.slice Ao12 t280.length co12 : Value).ownBlock ∧ some k_ ≠ (.slice Ao32 t288.length co32 : Value).ownBlock) (fun _ => False) rfl rfl ?aO ?aR (fun _ _ h => h) (fun _ h => h.elim) ?aF ?aB ?aS ?aL ?_
          (case aR => repeat (first | exact (Kd.R_reads' HO_7.out).2.2 | (with_reducible refine Kd.C_alloc ?_ _) | (with_reducible refine Kd.C_drewN ?_ _) | (with_reducible refine Kd.C_drew ?_)))
          (case aB => exact (bs HB GE283))
          (case aF => exact (fun k_ hk => ⟨Kd.fresh' (Kd.R_lt (rl HO_4)) k_ hk, Kd.fresh' (Kd.R_lt (rl HO_7)) k_ hk⟩))
          (case aO => exact (by (with_reducible repeat (first | apply Kd.R_alloc | apply Kd.R_drewN | apply Kd.R_drew)); exact Kd.R_mono HO295.out (fun _ hk => ⟨hk.1.2, hk.2⟩)))
          (case aS => exact (below_size (bs HB GE283)))
          (case aL => have := LMc23.out; omega)
          intro v297 w31 ho hb hg hat
          rw [← Ny296.out] at ho; have n0_ := Aside0.mk (Kd.R_after (ok := (fun k_ => some k_ ≠ (.slice Ao32 t288.length co32 : Value).ownBlock)) (rl HO_4) hg hat); have n1_ := Aside0.mk (Kd.R_after (ok := (fun k_ => some k_ ≠ (.slice Ao12 t280.length co12 : Value).ownBlock)) (rl HO_7) hg hat); have n2_ := Aside0.mk (Kd.S_after (ok := (fun k_ => some k_ ≠ (.slice Ao12 t280.length co12 : Value).ownBlock ∧ some k_ ≠ (.slice Ao32 t288.length co32 : Value).ownBlock)) (sl HO_284001) hg hat); have n3_ := Aside0.mk (blk_grown (g := gb283) (o := .cells #[.int .i64 t276, .slice Ao11 t277.length co11] 37 (0, 0)) (bk BK283) hg (Kd.R_ne HO295.out BK283.out (by decide))); have n4_ := Aside0.mk (hb); have n5_ := Aside0.mk (ho); clear HO_4; clear HO_7; clear HO_284001; clear BK283; clear HB; clear HO295; have HO_4 := n0_; have HO_7 := n1_; have HO_284001 := n2_; have BK283 := n3_; have HB := n4_; have HO298 := n5_; clear n0_ n1_ n2_ n3_ n4_ n5_; clear ho hb hg hat; obtain ⟨Ao33, co33, eo33⟩ := Kd.R_slice HO298.out
          (first | subst eo33 | (injection eo33 with f1_ f2_ f3_; have f4_ := f1_.symm; have f5_ := f3_.symm; clear f1_ f2_ f3_; subst f4_; subst f5_))
          refine hK.out _ _ ⟨(blk_cell BK283.out 0).trans rfl, (blk_cell BK283.out 1).trans rfl⟩ (fun hHeld => ?_); clear hK K; refine nm 47 ?_; refine on HT_ 4 48 5 (fun K hK => ?_); refine goes_ Try.func17 (by kernel_rfl) rfl #[.agg #[.int .i64 t276, .slice Ao11 t277.length co11], .slice Ao33 y296.length co33] (by rfl) rfl rfl ma ?_; (with_reducible refine (impl_Unit.calls kj6 t276 _ _ t277 _ _ y296 t299 true _ ?side1 ?side2 ?side3 ?side4 A24.out).mono ?_)
          (case side1 => repeat (first | exact (Kd.S_reads' HO_284001.out).2.2 | (with_reducible refine Kd.C_alloc ?_ _) | (with_reducible refine Kd.C_drewN ?_ _) | (with_reducible refine Kd.C_drew ?_))); (case side2 => exact (Kd.S_reads' HO_284001.out).2.1)
          (case side3 => repeat (first | exact (Kd.R_reads' HO298.out).2.2 | (with_reducible refine Kd.C_alloc ?_ _) | (with_reducible refine Kd.C_drewN ?_ _) | (with_reducible refine Kd.C_drew ?_))); (case side4 => exact (Kd.R_reads' HO298.out).2.1)
          rintro e w34 ⟨v300, rfl, ho0, hb⟩; refine ⟨_, rfl, ?_⟩; have n0_ := Aside0.mk (Kd.R_elder' (rl HO_4) (Kd.R_base ho0) hb); have n1_ := Aside0.mk (Kd.R_elder' (rl HO_7) (Kd.R_base ho0) hb); have n2_ := Aside0.mk (Kd.S_elder' (sl HO_284001) (Kd.R_base ho0) hb); have n3_ := Aside0.mk (Kd.R_elder' (rl HO298) (Kd.R_base ho0) hb); have n4_ := Aside0.mk (Kd.R_lower (Kd.R_new' (Kd.R_new' (Kd.R_new' ho0 (Kd.R_lt (rl HO_4))) (Kd.R_lt (rl HO_7))) (Kd.R_lt (rl HO298))) (below_size (bs HB GE283))); have n5_ := Aside0.mk (blk_below (g := gb283) (o := .cells #[.int .i64 t276, .slice Ao11 t277.length co11] 37 (0, 0)) (bk BK283) hb); have n6_ := Aside0.mk (below_step (bs HB GE283) hb); clear HO_4; clear HO_7; clear HO_284001; clear HO298; clear BK283; clear HB; have HO_4 := n0_; have HO_7 := n1_; have HO_284001 := n2_; have HO298 := n3_; have HO301 := n4_; have BK283 := n5_; have HB := n6_; clear n0_ n1_ n2_ n3_ n4_ n5_ n6_; (try clear hb)
          (try clear hb2); (try clear hk)
          (try clear hi); (try clear ho0)
          refine hK.out _ _ ⟨(blk_cell BK283.out 0).trans rfl, (blk_cell BK283.out 1).trans rfl⟩ (fun hHeld => ?_); clear hK K; refine nm 48 ?_; refine pu HT_ 5 43 4 ?_; refine pu HT_ 6 49 3 ?_; refine pu HT_ 7 50 2 ?_; refine pu HT_ 8 9 1 ?_; refine pu HT_ 9 10 0 ?_; refine done_ (done_of HT_.out (by kernel_rfl)) ?_; obtain ⟨Ao35, co35, eo35⟩ := Kd.R_slice HO301.out
          subst eo35
          try go_wp2_with (first | (go_at_call 25; (with_reducible refine (laws_sameInts.calls kj6 _ _ t299 _ _ t288 true _ ?side1 ?side2 ?side3 ?side4 A26.out).mono ?_); (case side1 => repeat (first | exact (Kd.R_reads' HO301.out).2.2 | (with_reducible refine Kd.C_alloc ?_ _) | (with_reducible refine Kd.C_drewN ?_ _) | (with_reducible refine Kd.C_drew ?_))); (case side2 => exact (Kd.R_reads' HO301.out).2.1); (case side3 => repeat (first | exact (Kd.R_reads' HO_7.out).2.2 | (with_reducible refine Kd.C_alloc ?_ _) | (with_reducible refine Kd.C_drewN ?_ _) | (with_reducible refine Kd.C_drew ?_))); (case side4 => exact (Kd.R_reads' HO_7.out).2.1); rintro e w' ⟨rfl, ⟨nd, rfl⟩⟩))
          go_meet
          case rel => exact ⟨_, H', ⟨by have := HJ6.out; first | omega | exact Nat.le_refl _⟩, ⟨by (with_reducible repeat (first | apply Kd.R_alloc | apply Kd.R_drewN | apply Kd.R_drew)); exact Kd.R_mono HO_4.out (fun _ hk => hk.1.1)⟩, ⟨by (with_reducible repeat (first | apply Kd.R_alloc | apply Kd.R_drewN | apply Kd.R_drew)); exact Kd.R_mono HO_7.out (fun _ hk => hk.1.1)⟩, ⟨by (with_reducible repeat (first | apply Kd.S_alloc | apply Kd.S_drewN | apply Kd.S_drew)); exact Kd.S_mono HO_284001.out (fun _ hk => ⟨hk.1.1.1, hk.1.1.2⟩)⟩, ⟨bk BK283⟩, ⟨bs HB GE283⟩⟩
         ·replace c27 := Bool.eq_false_iff.mpr c27
          subst c27
          have H1 : (some false) = some r := by rw [if_neg (show ¬ (false = true) by decide)] at H; exact H
          clear H; have H := H1; clear H1
          subst hrt
          exact absurd H (by simp)
        ·replace c25 := Bool.eq_false_iff.mpr c25
         subst c25
         have H1 : (some false) = some r := by rw [if_neg (show ¬ (false = true) by decide)] at H; exact H
         clear H; have H := H1; clear H1
         subst hrt
         exact absurd H (by simp)
       ·rw [if_neg c23] at H
        exact absurd H (by simp)
      ·replace c22 := Bool.eq_false_iff.mpr c22
       subst c22
       have H1 : (laws_FnUnits.j1 kj6 t280 t288 false t276 t277) = some r := by rw [if_neg (show ¬ (false = true) by decide)] at H; exact H
       clear H; have H := H1; clear H1; have H' := Aside0.mk H; clear H
       go_wp2
       go_meet
       case rel => exact ⟨_, H', ⟨by have := HJ6.out; first | omega | exact Nat.le_refl _⟩, ⟨rl HO_4⟩, ⟨rl HO_7⟩, ⟨sl HO_284001⟩, ⟨bk BK283⟩, ⟨bs HB GE283⟩⟩
     case rest =>
      clear HC21
      try clear c1
      try clear c2
      try clear p2
      try clear c3
      try clear c5
      try clear c14
      try clear c16
      try clear c16b0
      try clear c16b1
      try clear c16b2
      try clear c17
      try clear c20
      try clear c22
      try clear c23
      try clear c24
      try clear c25
      try clear c27
      try clear hcz10_0
      try clear hcz10_1
      try clear hcz14_0
      try clear hcz14_1
      try clear hfz10_0
      try clear hfz10_1
      try clear hfz14_0
      try clear hfz14_1
      try clear p2
      obtain ⟨kq, HA, HJ20, HO_4, HO_7, HO_284001, BK283, HB⟩ := hcut
      cases kq with
      | zero => exact absurd HA.out (by simp [laws_FnUnits.j1])
      | succ kj20 =>
       have H := HA.out; clear HA
       simp only [laws_FnUnits.j1] at H
       have HC36 := Aside0.mk H; clear H
       go_upto_region 12 with (fail)
       go_cut [75] (fun v75 wc => ∃ (kq : Nat) (x75_35 : Bool), v75 = .bool x75_35 ∧ Aside0 (laws_FnUnits.j2 kq t280 t288 t291 x75_35 t276 t277 = some r) ∧ Aside0 (kq ≤ kj20) ∧ Aside0 (Kd.R (Kd.int .i64) 2 wc w.heap.size (fun k_ => some k_ ≠ (v289 : Value).ownBlock) (.slice Ao12 t280.length co12) t280) ∧ Aside0 (Kd.R (Kd.int .i64) 2 wc w.heap.size (fun k_ => some k_ ≠ ((.slice Ao12 t280.length co12) : Value).ownBlock) v289 t288) ∧ Aside0 (Kd.S (Kd.slice 2 (Kd.int .i64)) 33 wc w.heap.size (fun k_ => some k_ ≠ ((.slice Ao12 t280.length co12) : Value).ownBlock ∧ some k_ ≠ (v289 : Value).ownBlock) (.slice Ao11 t277.length co11) t277) ∧ Aside0 (wc.heap[gb283]? = some (.cells #[.int .i64 t276, (.slice Ao11 t277.length co11)] 37 (0, 0))) ∧ Aside0 (Below w.heap.size w wc))
       case first =>
        have H := HC36.out; clear HC36
        by_cases c37 : t276 > 9
        ·rw [if_pos c37] at H
         have c37b0 : decide (9 < t276) = true := decide_eq_true c37; clear c37
         (first | rw [c37b0] | (simp only [i64_w, i32_w]; rw [c37b0]) | skip)
         have H' := Aside0.mk H; clear H; have hcz38_0 : wc.cell? ⟨gb283, 0, none⟩ = some (.int .i64 t276) := (blk_cell BK283.out 0).trans rfl; have hcz38_1 : wc.cell? ⟨gb283, 1, none⟩ = some (.slice Ao11 t277.length co11) := (blk_cell BK283.out 1).trans rfl; have hfz38_0 := blk_frozen BK283.out 0; have hfz38_1 := blk_frozen BK283.out 1
         go_wp2
         go_meet
         case rel => exact ⟨_, (true), au, H', ⟨by have := HJ6.out; have := HJ20.out; first | omega | exact Nat.le_refl _⟩, ⟨rl HO_4⟩, ⟨rl HO_7⟩, ⟨sl HO_284001⟩, ⟨bk BK283⟩, ⟨bs HB GE283⟩⟩
        ·rw [if_neg c37] at H
         have c37b0 : decide (9 < t276) = false := decide_eq_false c37; clear c37
         (first | rw [c37b0] | (simp only [i64_w, i32_w]; rw [c37b0]) | skip)
         replace H := Option.bind_eq_some_iff.mp H; obtain ⟨t304, A390, H⟩ := H; replace H : (if t304 = true then (if (t288.length : Int) = 0 then (laws_FnUnits.j2 kj20 t280 t288 t291 (!t291) t276 t277) else (laws_FnUnits.j2 kj20 t280 t288 t291 false t276 t277)) else (laws_FnUnits.j2 kj20 t280 t288 t291 true t276 t277)) = some r := H; have A39 := Aside0.mk A390; clear A390
         by_cases c40 : t304 = true
         ·subst c40
          have H1 : (if (t288.length : Int) = 0 then (laws_FnUnits.j2 kj20 t280 t288 t291 (!t291) t276 t277) else (laws_FnUnits.j2 kj20 t280 t288 t291 false t276 t277)) = some r := by rw [if_pos rfl] at H; exact H
          clear H; have H := H1; clear H1
          by_cases c41 : (t288.length : Int) = 0
          ·rw [if_pos c41] at H
           have c41b0 : ((t288.length : Int) == 0) = true := beq_iff_eq.mpr c41; have c41b1 : ((t288.length : Int) != 0) = false := bne_eq_false_iff_eq.mpr c41; clear c41; have H' := Aside0.mk H; clear H; have hcz42_0 : wc.cell? ⟨gb283, 0, none⟩ = some (.int .i64 t276) := (blk_cell BK283.out 0).trans rfl; have hcz42_1 : wc.cell? ⟨gb283, 1, none⟩ = some (.slice Ao11 t277.length co11) := (blk_cell BK283.out 1).trans rfl; have hfz42_0 := blk_frozen BK283.out 0; have hfz42_1 := blk_frozen BK283.out 1
           go_wp2_with (first | (go_at_call 26; (with_reducible refine (spec_CnfOk.calls kj20 t276 _ _ t277 true _ ?side1 ?side2 A39.out).mono ?_); (case side1 => repeat (first | exact (Kd.S_reads' HO_284001.out).2.2 | (with_reducible refine Kd.C_alloc ?_ _) | (with_reducible refine Kd.C_drewN ?_ _) | (with_reducible refine Kd.C_drew ?_))); (case side2 => exact (Kd.S_reads' HO_284001.out).2.1); rintro e w43 ⟨rfl, hb⟩; have n0_ := Aside0.mk (Kd.R_below (rl HO_4) hb); have n1_ := Aside0.mk (Kd.R_below (rl HO_7) hb); have n2_ := Aside0.mk (Kd.S_below (sl HO_284001) hb); have n3_ := Aside0.mk (blk_below (g := gb283) (o := .cells #[.int .i64 t276, .slice Ao11 t277.length co11] 37 (0, 0)) (bk BK283) hb); have n4_ := Aside0.mk (below_step (bs HB GE283) hb); clear HO_4; clear HO_7; clear HO_284001; clear BK283; clear HB; have HO_4 := n0_; have HO_7 := n1_; have HO_284001 := n2_; have BK283 := n3_; have HB := n4_; clear n0_ n1_ n2_ n3_ n4_; (try clear hb); (try clear hb2); (try clear hk); (try clear hi); obtain ⟨Ao44, co44, eo44⟩ := Kd.R_slice HO_7.out; subst eo44))
           go_meet
           case rel => exact ⟨_, (!t291), au, H', ⟨by have := HJ6.out; have := HJ20.out; first | omega | exact Nat.le_refl _⟩, ⟨rl HO_4⟩, ⟨rl HO_7⟩, ⟨sl HO_284001⟩, ⟨bk BK283⟩, ⟨bs HB GE283⟩⟩
          ·rw [if_neg c41] at H
           have c41b0 : ((t288.length : Int) == 0) = false := beq_eq_false_iff_ne.mpr c41; have c41b1 : ((t288.length : Int) != 0) = true := bne_iff_ne.mpr c41
           have c41b2 : ¬ (t288 = []) := fun h_ => c41 (by rw [h_]; rfl)
           have H' := Aside0.mk H; clear H; have hcz45_0 : wc.cell? ⟨gb283, 0, none⟩ = some (.int .i64 t276) := (blk_cell BK283.out 0).trans rfl; have hcz45_1 : wc.cell? ⟨gb283, 1, none⟩ = some (.slice Ao11 t277.length co11) := (blk_cell BK283.out 1).trans rfl; have hfz45_0 := blk_frozen BK283.out 0; have hfz45_1 := blk_frozen BK283.out 1
           go_wp2_with (first | (go_at_call 26; (with_reducible refine (spec_CnfOk.calls kj20 t276 _ _ t277 true _ ?side1 ?side2 A39.out).mono ?_); (case side1 => repeat (first | exact (Kd.S_reads' HO_284001.out).2.2 | (with_reducible refine Kd.C_alloc ?_ _) | (with_reducible refine Kd.C_drewN ?_ _) | (with_reducible refine Kd.C_drew ?_))); (case side2 => exact (Kd.S_reads' HO_284001.out).2.1); rintro e w46 ⟨rfl, hb⟩; have n0_ := Aside0.mk (Kd.R_below (rl HO_4) hb); have n1_ := Aside0.mk (Kd.R_below (rl HO_7) hb); have n2_ := Aside0.mk (Kd.S_below (sl HO_284001) hb); have n3_ := Aside0.mk (blk_below (g := gb283) (o := .cells #[.int .i64 t276, .slice Ao11 t277.length co11] 37 (0, 0)) (bk BK283) hb); have n4_ := Aside0.mk (below_step (bs HB GE283) hb); clear HO_4; clear HO_7; clear HO_284001; clear BK283; clear HB; have HO_4 := n0_; have HO_7 := n1_; have HO_284001 := n2_; have BK283 := n3_; have HB := n4_; clear n0_ n1_ n2_ n3_ n4_; (try clear hb); (try clear hb2); (try clear hk); (try clear hi); obtain ⟨Ao47, co47, eo47⟩ := Kd.R_slice HO_7.out; subst eo47))
           go_meet
           case rel => exact ⟨_, (false), au, H', ⟨by have := HJ6.out; have := HJ20.out; first | omega | exact Nat.le_refl _⟩, ⟨rl HO_4⟩, ⟨rl HO_7⟩, ⟨sl HO_284001⟩, ⟨bk BK283⟩, ⟨bs HB GE283⟩⟩
         ·replace c40 := Bool.eq_false_iff.mpr c40
          subst c40
          have H1 : (laws_FnUnits.j2 kj20 t280 t288 t291 true t276 t277) = some r := by rw [if_neg (show ¬ (false = true) by decide)] at H; exact H
          clear H; have H := H1; clear H1; have H' := Aside0.mk H; clear H; have hcz48_0 : wc.cell? ⟨gb283, 0, none⟩ = some (.int .i64 t276) := (blk_cell BK283.out 0).trans rfl; have hcz48_1 : wc.cell? ⟨gb283, 1, none⟩ = some (.slice Ao11 t277.length co11) := (blk_cell BK283.out 1).trans rfl; have hfz48_0 := blk_frozen BK283.out 0; have hfz48_1 := blk_frozen BK283.out 1
          go_wp2_with (first | (go_at_call 26; (with_reducible refine (spec_CnfOk.calls kj20 t276 _ _ t277 false _ ?side1 ?side2 A39.out).mono ?_); (case side1 => repeat (first | exact (Kd.S_reads' HO_284001.out).2.2 | (with_reducible refine Kd.C_alloc ?_ _) | (with_reducible refine Kd.C_drewN ?_ _) | (with_reducible refine Kd.C_drew ?_))); (case side2 => exact (Kd.S_reads' HO_284001.out).2.1); rintro e w49 ⟨rfl, hb⟩; have n0_ := Aside0.mk (Kd.R_below (rl HO_4) hb); have n1_ := Aside0.mk (Kd.R_below (rl HO_7) hb); have n2_ := Aside0.mk (Kd.S_below (sl HO_284001) hb); have n3_ := Aside0.mk (blk_below (g := gb283) (o := .cells #[.int .i64 t276, .slice Ao11 t277.length co11] 37 (0, 0)) (bk BK283) hb); have n4_ := Aside0.mk (below_step (bs HB GE283) hb); clear HO_4; clear HO_7; clear HO_284001; clear BK283; clear HB; have HO_4 := n0_; have HO_7 := n1_; have HO_284001 := n2_; have BK283 := n3_; have HB := n4_; clear n0_ n1_ n2_ n3_ n4_; (try clear hb); (try clear hb2); (try clear hk); (try clear hi)))
          go_meet
          case rel => exact ⟨_, (true), au, H', ⟨by have := HJ6.out; have := HJ20.out; first | omega | exact Nat.le_refl _⟩, ⟨rl HO_4⟩, ⟨rl HO_7⟩, ⟨sl HO_284001⟩, ⟨bk BK283⟩, ⟨bs HB GE283⟩⟩
       case rest =>
        clear HC36
        try clear c1
        try clear c2
        try clear p2
        try clear c3
        try clear c4
        try clear c5
        try clear c14
        try clear c16
        try clear c16b0
        try clear c16b1
        try clear c16b2
        try clear c17
        try clear c20
        try clear c22
        try clear c23
        try clear c24
        try clear c25
        try clear c27
        try clear c37
        try clear c37b0
        try clear c40
        try clear c41
        try clear c41b0
        try clear c41b1
        try clear c41b2
        try clear hcz10_0
        try clear hcz10_1
        try clear hcz14_0
        try clear hcz14_1
        try clear hcz38_0
        try clear hcz38_1
        try clear hcz42_0
        try clear hcz42_1
        try clear hcz45_0
        try clear hcz45_1
        try clear hcz48_0
        try clear hcz48_1
        try clear hfz10_0
        try clear hfz10_1
        try clear hfz14_0
        try clear hfz14_1
        try clear hfz38_0
        try clear hfz38_1
        try clear hfz42_0
        try clear hfz42_1
        try clear hfz45_0
        try clear hfz45_1
        try clear hfz48_0
        try clear hfz48_1
        try clear p2
        obtain ⟨kq, x75_35, rfl, HA, HJ35, HO_4, HO_7, HO_284001, BK283, HB⟩ := hcut
        cases kq with
        | zero => exact absurd HA.out (by simp [laws_FnUnits.j2])
        | succ kj35 =>
         have H := HA.out; clear HA
         simp only [laws_FnUnits.j2] at H
         by_cases c50 : x75_35 = true
         ·subst c50
          have H1 : (some true) = some r := by rw [if_pos rfl] at H; exact H
          clear H; have H := H1; clear H1; clear hrt; obtain rfl := Option.some.inj H
          go_wp2
          go_ret
          exact ⟨by first | rfl | (simp [errW_none, errW_some] <;> rfl) | (simp [*, errW_none, errW_some] <;> rfl), bs HB GE283⟩
         ·replace c50 := Bool.eq_false_iff.mpr c50
          subst c50
          have H1 : (laws_FnUnits.l0 kj35 t280 t288 t291 0 t276 t277) = some r := by rw [if_neg (show ¬ (false = true) by decide)] at H; exact H
          clear H; have H := H1; clear H1; have H' := Aside0.mk H; clear H
          go_wp2
          go_loopg [11] kj35 (fun kq v11 w' => ∃ (x11_4 : Int), v11 = .int .i64 x11_4 ∧ Aside0 (laws_FnUnits.l0 kq t280 t288 t291 x11_4 t276 t277 = some r) ∧ Aside0 (kq ≤ kj35) ∧ Aside0 (Kd.R (Kd.int .i64) 2 w' w.heap.size (fun k_ => some k_ ≠ (v289 : Value).ownBlock) (.slice Ao12 t280.length co12) t280) ∧ Aside0 (Kd.R (Kd.int .i64) 2 w' w.heap.size (fun k_ => some k_ ≠ ((.slice Ao12 t280.length co12) : Value).ownBlock) v289 t288) ∧ Aside0 (Kd.S (Kd.slice 2 (Kd.int .i64)) 33 w' w.heap.size (fun k_ => some k_ ≠ ((.slice Ao12 t280.length co12) : Value).ownBlock ∧ some k_ ≠ (v289 : Value).ownBlock) (.slice Ao11 t277.length co11) t277) ∧ Aside0 (w'.heap[gb283]? = some (.cells #[.int .i64 t276, (.slice Ao11 t277.length co11)] 37 (0, 0))) ∧ Aside0 (Below w.heap.size w w'))
          case atStart => exact ⟨(0), au, H', ⟨Nat.le_refl _⟩, ⟨rl HO_4⟩, ⟨rl HO_7⟩, ⟨sl HO_284001⟩, ⟨bk BK283⟩, ⟨bs HB GE283⟩⟩
          case round =>
           clear H'
           try clear c1
           try clear c2
           try clear p2
           try clear c3
           try clear c4
           try clear c5
           try clear c14
           try clear c16
           try clear c16b0
           try clear c16b1
           try clear c16b2
           try clear c17
           try clear c20
           try clear c22
           try clear c23
           try clear c24
           try clear c25
           try clear c27
           try clear c37
           try clear c37b0
           try clear c40
           try clear c41
           try clear c41b0
           try clear c41b1
           try clear c41b2
           try clear c50
           try clear hcz10_0
           try clear hcz10_1
           try clear hcz14_0
           try clear hcz14_1
           try clear hcz38_0
           try clear hcz38_1
           try clear hcz42_0
           try clear hcz42_1
           try clear hcz45_0
           try clear hcz45_1
           try clear hcz48_0
           try clear hcz48_1
           try clear hfz10_0
           try clear hfz10_1
           try clear hfz14_0
           try clear hfz14_1
           try clear hfz38_0
           try clear hfz38_1
           try clear hfz42_0
           try clear hfz42_1
           try clear hfz45_0
           try clear hfz45_1
           try clear hfz48_0
           try clear hfz48_1
           try clear p2
           obtain ⟨x11_4, rfl, HA, HK4, HO_4, HO_7, HO_284001, BK283, HB⟩ := hrel
           cases gk with
           | zero => exact absurd HA.out (by simp [laws_FnUnits.l0])
           | succ k4 =>
            have H := HA.out; clear HA
            simp only [laws_FnUnits.l0] at H
            obtain ⟨ji51, hji51⟩ : ∃ j_ : Int, (IntKind.u64.wrap (t276)) = j_ := ⟨_, rfl⟩
            replace H : (if 0 ≤ (ji51) then (if x11_4 < (shl .i64 1 (ji51)) then (laws_FnUnits.l1 k4 t280 t288 t291 x11_4 (([] : List Bool)) 0 t276 t277) else (some true)) else (none)) = some r := by first | (rw [hji51] at H; exact H) | (simp only [hji51] at H ⊢; exact H)
            by_cases c52 : 0 ≤ (ji51)
            ·rw [if_pos c52] at H
             have c52b0 := eq_true c52; have c52b1 : decide (0 ≤ (ji51)) = true := decide_eq_true c52; clear c52; obtain ⟨ji53, hji53⟩ : ∃ j_ : Int, (shl .i64 1 (ji51)) = j_ := ⟨_, rfl⟩
             replace H : (if x11_4 < (ji53) then (laws_FnUnits.l1 k4 t280 t288 t291 x11_4 (([] : List Bool)) 0 t276 t277) else (some true)) = some r := by first | (rw [hji53] at H; exact H) | (simp only [hji53] at H ⊢; exact H)
             have hji53_ : (IntKind.i64.wrap (1 * 2 ^ min (ji51).toNat 64)) = ji53 := hji53; have hji53z : (ji51) ≤ 64 → (IntKind.i64.wrap (1 * 2 ^ (ji51).toNat)) = ji53 := shl_small hji53
             (try have hji53k := hji53z (by first | omega | (rw [← hji51]; exact Int.le_of_lt (Int.tmod_lt_of_pos _ (by decide)))))
             have hji53u : (IntKind.i64.wrap (2 ^ min (ji51).toNat 64)) = ji53 := by have h_ := hji53_; rw [Int.one_mul] at h_; exact h_
             have hji53v : (ji51) ≤ 64 → (IntKind.i64.wrap (2 ^ (ji51).toNat)) = ji53 := fun hle_ => by have h_ := hji53z hle_; rw [Int.one_mul] at h_; exact h_
             have hji53y : (wrap64 (1 * 2 ^ min (ji51).toNat 64)) = ji53 := (i64_w _).symm.trans hji53_
             have hji53x : (ji51) ≤ 64 → (wrap64 (1 * 2 ^ (ji51).toNat)) = ji53 := fun h_ => (i64_w _).symm.trans (hji53z h_)
             by_cases c54 : x11_4 < (ji53)
             ·rw [if_pos c54] at H
              have c54b0 : decide (x11_4 < (ji53)) = true := decide_eq_true c54; clear c54; obtain ⟨y305, hy305⟩ : ∃ y_ : List Bool, y_ = (([] : List Bool)) := ⟨_, rfl⟩
              replace H : (laws_FnUnits.l1 k4 t280 t288 t291 x11_4 y305 0 t276 t277) = some r := by first | (rw [hy305]; with_reducible exact H) | (have H2_ := (Option.bind_some _ _).symm.trans H; rw [hy305]; with_reducible exact H2_) | (have H2_ := (Option.bind_some _ _).symm.trans H; with_reducible exact H2_) | with_reducible exact H | (rw [hy305]; exact H) | exact H
              have Ny305 := Aside0.mk hy305; clear hy305; have H' := Aside0.mk H; clear H; have hcz55_0 : wr.cell? ⟨gb283, 0, none⟩ = some (.int .i64 t276) := (blk_cell BK283.out 0).trans rfl; have hcz55_1 : wr.cell? ⟨gb283, 1, none⟩ = some (.slice Ao11 t277.length co11) := (blk_cell BK283.out 1).trans rfl; have hfz55_0 := blk_frozen BK283.out 0; have hfz55_1 := blk_frozen BK283.out 1
              go_wp2_with (first | ((with_reducible refine gate_dst (N := 84) rfl ?_); (try (refine gate_guard (by rfl) ?_; dsimp only)); refine Kd.R_lit Kd.bool _ 4 ?hg (N := 84) ?hd (xs := ([] : List Bool)) (inner := []) (ok := fun _ => True) (okp := fun _ => True) ?hr ?hp (fun _ hk => hk) trivial (Below.refl _ _) (Nat.le_refl _) (by simp) ?_; (case hd => rfl); (case hg => rfl); (case hr => first | (go_simp; done) | (go_simp; rfl)); (case hp => exact (Reps.none _ _)); intro v306 w56 ho57 hb hg_ hnew_; clear hg_ hnew_; (first | rw [← Ny305.out] at ho57 | (simp only [Int.reduceToNat] at ho57; rw [← Ny305.out] at ho57)); have n0_ := Aside0.mk (Kd.R_below (rl HO_4) hb); have n1_ := Aside0.mk (Kd.R_below (rl HO_7) hb); have n2_ := Aside0.mk (Kd.S_below (sl HO_284001) hb); have n3_ := Aside0.mk (Kd.R_lower ho57 (below_size (bs HB GE283))); have n4_ := Aside0.mk (blk_below (g := gb283) (o := .cells #[.int .i64 t276, .slice Ao11 t277.length co11] 37 (0, 0)) (bk BK283) hb); have n5_ := Aside0.mk (below_step (bs HB GE283) hb); clear HO_4; clear HO_7; clear HO_284001; clear BK283; clear HB; have HO_4 := n0_; have HO_7 := n1_; have HO_284001 := n2_; have HO307 := n3_; have BK283 := n4_; have HB := n5_; clear n0_ n1_ n2_ n3_ n4_ n5_; clear hb ho57))
              go_loopg [12, 13] k4 (fun kq v12 v13 w' => ∃ (x12_5 : List Bool) (x13_5 : Int), v13 = .int .i64 x13_5 ∧ Aside0 (laws_FnUnits.l1 kq t280 t288 t291 x11_4 x12_5 x13_5 t276 t277 = some r) ∧ Aside0 (kq ≤ k4) ∧ Aside0 (Kd.R (Kd.int .i64) 2 w' w.heap.size (fun k_ => some k_ ≠ (v289 : Value).ownBlock) (.slice Ao12 t280.length co12) t280) ∧ Aside0 (Kd.R (Kd.int .i64) 2 w' w.heap.size (fun k_ => some k_ ≠ ((.slice Ao12 t280.length co12) : Value).ownBlock) v289 t288) ∧ Aside0 (Kd.R Kd.bool 4 w' w.heap.size (fun _ => True) v12 x12_5) ∧ Aside0 (Kd.S (Kd.slice 2 (Kd.int .i64)) 33 w' w.heap.size (fun k_ => some k_ ≠ ((.slice Ao12 t280.length co12) : Value).ownBlock ∧ some k_ ≠ (v289 : Value).ownBlock) (.slice Ao11 t277.length co11) t277) ∧ Aside0 (w'.heap[gb283]? = some (.cells #[.int .i64 t276, (.slice Ao11 t277.length co11)] 37 (0, 0))) ∧ Aside0 (Below w.heap.size w w'))
              case atStart => exact ⟨(y305), (0), au, H', ⟨Nat.le_refl _⟩, ⟨rl HO_4⟩, ⟨rl HO_7⟩, ⟨rl HO307⟩, ⟨sl HO_284001⟩, ⟨bk BK283⟩, ⟨bs HB GE283⟩⟩
              case round =>
               clear H'
               try clear c1
               try clear c2
               try clear p2
               try clear c3
               try clear c4
               try clear c5
               try clear p6
               try clear c14
               try clear c16
               try clear c16b0
               try clear c16b1
               try clear c16b2
               try clear c17
               try clear c20
               try clear c22
               try clear c23
               try clear c24
               try clear c25
               try clear c27
               try clear c37
               try clear c37b0
               try clear c40
               try clear c41
               try clear c41b0
               try clear c41b1
               try clear c41b2
               try clear c50
               try clear c52
               try clear c52b0
               try clear c52b1
               try clear c54
               try clear c54b0
               try clear hcz10_0
               try clear hcz10_1
               try clear hcz14_0
               try clear hcz14_1
               try clear hcz38_0
               try clear hcz38_1
               try clear hcz42_0
               try clear hcz42_1
               try clear hcz45_0
               try clear hcz45_1
               try clear hcz48_0
               try clear hcz48_1
               try clear hcz55_0
               try clear hcz55_1
               try clear hfz10_0
               try clear hfz10_1
               try clear hfz14_0
               try clear hfz14_1
               try clear hfz38_0
               try clear hfz38_1
               try clear hfz42_0
               try clear hfz42_1
               try clear hfz45_0
               try clear hfz45_1
               try clear hfz48_0
               try clear hfz48_1
               try clear hfz55_0
               try clear hfz55_1
               try clear p2
               obtain ⟨x12_5, x13_5, rfl, HA, HK5, HO_4, HO_7, HO_12, HO_284001, BK283, HB⟩ := hrel
               cases gk with
               | zero => exact absurd HA.out (by simp [laws_FnUnits.l1])
               | succ k5 =>
                have H := HA.out; clear HA
                simp only [laws_FnUnits.l1] at H
                by_cases c58 : x13_5 < t276
                ·rw [if_pos c58] at H
                 have c58b0 : decide (x13_5 < t276) = true := decide_eq_true c58; clear c58; obtain ⟨ji59, hji59⟩ : ∃ j_ : Int, (IntKind.u64.wrap (x13_5)) = j_ := ⟨_, rfl⟩
                 replace H : (if 0 ≤ (ji59) then (if x12_5.length < 140737488355328 then (laws_FnUnits.l1 k5 t280 t288 t291 x11_4 (x12_5 ++ [((Go.bits .and .i64 (shr .i64 x11_4 (ji59)) 1) == 1)]) (wrap64 (x13_5 + 1)) t276 t277) else (none)) else (none)) = some r := by first | (rw [hji59] at H; exact H) | (simp only [hji59] at H ⊢; exact H)
                 by_cases c60 : 0 ≤ (ji59)
                 ·rw [if_pos c60] at H
                  have c60b0 := eq_true c60; have c60b1 : decide (0 ≤ (ji59)) = true := decide_eq_true c60; clear c60; obtain ⟨ji61, hji61⟩ : ∃ j_ : Int, (shr .i64 x11_4 (ji59)) = j_ := ⟨_, rfl⟩
                  replace H : (if x12_5.length < 140737488355328 then (laws_FnUnits.l1 k5 t280 t288 t291 x11_4 (x12_5 ++ [((Go.bits .and .i64 (ji61) 1) == 1)]) (wrap64 (x13_5 + 1)) t276 t277) else (none)) = some r := by first | (rw [hji61] at H; exact H) | (simp only [hji61] at H ⊢; exact H)
                  have hji61_ : (x11_4 / 2 ^ min (ji59).toNat 64) = ji61 := hji61; have hji61z : (ji59) ≤ 64 → (x11_4 / 2 ^ (ji59).toNat) = ji61 := shr_small hji61
                  (try have hji61k := hji61z (by first | omega | (rw [← hji59]; exact Int.le_of_lt (Int.tmod_lt_of_pos _ (by decide)))))
                  by_cases c62 : x12_5.length < 140737488355328
                  ·rw [if_pos c62] at H
                   have LMc62 := Aside0.mk c62; clear c62; obtain ⟨y308, hy308⟩ : ∃ y_ : List Bool, y_ = (x12_5 ++ [((Go.bits .and .i64 (ji61) 1) == 1)]) := ⟨_, rfl⟩
                   replace H : (laws_FnUnits.l1 k5 t280 t288 t291 x11_4 y308 (wrap64 (x13_5 + 1)) t276 t277) = some r := by first | (rw [hy308]; with_reducible exact H) | (have H2_ := (Option.bind_some _ _).symm.trans H; rw [hy308]; with_reducible exact H2_) | (have H2_ := (Option.bind_some _ _).symm.trans H; with_reducible exact H2_) | with_reducible exact H | (rw [hy308]; exact H) | exact H
                   have Ny308 := Aside0.mk hy308; clear hy308; have H' := Aside0.mk H; clear H; have hcz63_0 : wr.cell? ⟨gb283, 0, none⟩ = some (.int .i64 t276) := (blk_cell BK283.out 0).trans rfl; have hcz63_1 : wr.cell? ⟨gb283, 1, none⟩ = some (.slice Ao11 t277.length co11) := (blk_cell BK283.out 1).trans rfl; have hfz63_0 := blk_frozen BK283.out 0; have hfz63_1 := blk_frozen BK283.out 1
                   go_wp2_with (first | ((with_reducible refine gate_builtin (b := .append) (xs := #[.tmp 91, .tmp 98]) rfl ?_); (try (refine gate_guard (by rfl) ?_; dsimp only)); at_builtin; refine Kd.R_append Kd.bool (w0 := w) w.heap.size rfl (.tmp 91) (.tmp 98) 51 4 (.bool false) 1 rfl Try.underlying51 info4 rfl (by decide) (by omega) u12 x12_5 ((Go.bits .and .i64 (ji61) 1) == 1) [.bool ((Go.bits .and .i64 (ji61) 1) == 1)] (fun _ => True) (fun _ => False) rfl rfl ?aP (fun _ hk => hk.elim) ?aF ?aO ?aB ?aS ?aL ?_; (case aP => exact rfl); (case aB => exact (bs HB GE283)); (case aF => exact (fun _ _ => trivial)); (case aO => exact (rl HO_12)); (case aS => exact (below_size (bs HB GE283))); (case aL => have := LMc62.out; omega); intro v309 w64 ho hb hg hat; rw [← Ny308.out] at ho; have n0_ := Aside0.mk (Kd.R_over' (rl HO_4) (Kd.R_typed (rl HO_12)) (by decide) hg); have n1_ := Aside0.mk (Kd.R_over' (rl HO_7) (Kd.R_typed (rl HO_12)) (by decide) hg); have n2_ := Aside0.mk (Kd.S_over' (sl HO_284001) (Kd.R_typed (rl HO_12)) (by decide) hg); have n3_ := Aside0.mk (blk_grown (g := gb283) (o := .cells #[.int .i64 t276, .slice Ao11 t277.length co11] 37 (0, 0)) (bk BK283) hg (Kd.R_ne HO_12.out BK283.out (by decide))); have n4_ := Aside0.mk (hb); have n5_ := Aside0.mk (ho); clear HO_4; clear HO_7; clear HO_284001; clear BK283; clear HB; clear HO_12; have HO_4 := n0_; have HO_7 := n1_; have HO_284001 := n2_; have BK283 := n3_; have HB := n4_; have HO310 := n5_; clear n0_ n1_ n2_ n3_ n4_ n5_; clear ho hb hg hat))
                   go_roundg k5
                   case measure => have := HJ6.out; have := HJ20.out; have := HJ35.out; have := HK4.out; have := HK5.out; omega
                   case rel => exact ⟨(y308), (wrap64 (x13_5 + 1)), au, H', ⟨by have := HJ6.out; have := HJ20.out; have := HJ35.out; have := HK4.out; have := HK5.out; omega⟩, ⟨rl HO_4⟩, ⟨rl HO_7⟩, ⟨rl HO310⟩, ⟨sl HO_284001⟩, ⟨bk BK283⟩, ⟨bs HB GE283⟩⟩
                  ·rw [if_neg c62] at H
                   exact absurd H (by simp)
                 ·rw [if_neg c60] at H
                  exact absurd H (by simp)
                ·rw [if_neg c58] at H
                 have c58b0 : decide (x13_5 < t276) = false := decide_eq_false c58; clear c58; have HC65 := Aside0.mk H; clear H; have hcz66_0 : wr.cell? ⟨gb283, 0, none⟩ = some (.int .i64 t276) := (blk_cell BK283.out 0).trans rfl; have hcz66_1 : wr.cell? ⟨gb283, 1, none⟩ = some (.slice Ao11 t277.length co11) := (blk_cell BK283.out 1).trans rfl; have hfz66_0 := blk_frozen BK283.out 0; have hfz66_1 := blk_frozen BK283.out 1
                 go_upto_region 22 with (fail)
                 go_cut [109] (fun v109 wc => ∃ (kq : Nat) (x109_64 : Bool), v109 = .bool x109_64 ∧ Aside0 (laws_FnUnits.j5 kq t280 t288 t291 x11_4 x12_5 x109_64 t276 t277 = some r) ∧ Aside0 (kq ≤ k5) ∧ Aside0 (Kd.R (Kd.int .i64) 2 wc w.heap.size (fun k_ => some k_ ≠ (v289 : Value).ownBlock) (.slice Ao12 t280.length co12) t280) ∧ Aside0 (Kd.R (Kd.int .i64) 2 wc w.heap.size (fun k_ => some k_ ≠ ((.slice Ao12 t280.length co12) : Value).ownBlock) v289 t288) ∧ Aside0 (Kd.R Kd.bool 4 wc w.heap.size (fun _ => True) u12 x12_5) ∧ Aside0 (Kd.S (Kd.slice 2 (Kd.int .i64)) 33 wc w.heap.size (fun k_ => some k_ ≠ ((.slice Ao12 t280.length co12) : Value).ownBlock ∧ some k_ ≠ (v289 : Value).ownBlock) (.slice Ao11 t277.length co11) t277) ∧ Aside0 (wc.heap[gb283]? = some (.cells #[.int .i64 t276, (.slice Ao11 t277.length co11)] 37 (0, 0))) ∧ Aside0 (Below w.heap.size w wc))
                 case first =>
                  have H := HC65.out; clear HC65; replace H := Option.bind_eq_some_iff.mp H; obtain ⟨t311, A670, H⟩ := H; replace H : (if t311 = true then ((laws_stand.f k5 x12_5 t280).bind fun t312 => (laws_FnUnits.j5 k5 t280 t288 t291 x11_4 x12_5 (!t312) t276 t277)) else (laws_FnUnits.j5 k5 t280 t288 t291 x11_4 x12_5 true t276 t277)) = some r := H; have A67 := Aside0.mk A670; clear A670
                  by_cases c68 : t311 = true
                  ·subst c68
                   have H1 : ((laws_stand.f k5 x12_5 t280).bind fun t312 => (laws_FnUnits.j5 k5 t280 t288 t291 x11_4 x12_5 (!t312) t276 t277)) = some r := by rw [if_pos rfl] at H; exact H
                   clear H; have H := H1; clear H1; replace H := Option.bind_eq_some_iff.mp H; obtain ⟨t312, A690, H⟩ := H; replace H : (laws_FnUnits.j5 k5 t280 t288 t291 x11_4 x12_5 (!t312) t276 t277) = some r := H; have A69 := Aside0.mk A690; clear A690; have H' := Aside0.mk H; clear H; have hcz70_0 : wr.cell? ⟨gb283, 0, none⟩ = some (.int .i64 t276) := (blk_cell BK283.out 0).trans rfl; have hcz70_1 : wr.cell? ⟨gb283, 1, none⟩ = some (.slice Ao11 t277.length co11) := (blk_cell BK283.out 1).trans rfl; have hfz70_0 := blk_frozen BK283.out 0; have hfz70_1 := blk_frozen BK283.out 1; obtain ⟨Ao71, co71, eo71⟩ := Kd.R_slice HO_12.out
                   subst eo71
                   go_wp2_with (first | ((with_reducible refine gate_callee (f := 27) rfl ?_); refine goesL_ (some 102) rfl rfl Try.func27 (by kernel_rfl) rfl #[.agg #[.int .i64 t276, .slice Ao11 t277.length co11], .slice Ao71 x12_5.length co71] rfl ma ?_; (with_reducible refine (impl_Meets.calls k5 t276 _ _ t277 _ _ x12_5 true _ ?side1 ?side2 ?side3 ?side4 A67.out).mono ?_); (case side1 => repeat (first | exact (Kd.S_reads' HO_284001.out).2.2 | (with_reducible refine Kd.C_alloc ?_ _) | (with_reducible refine Kd.C_drewN ?_ _) | (with_reducible refine Kd.C_drew ?_))); (case side2 => exact (Kd.S_reads' HO_284001.out).2.1); (case side3 => repeat (first | exact (Kd.R_reads' HO_12.out).2.2 | (with_reducible refine Kd.C_alloc ?_ _) | (with_reducible refine Kd.C_drewN ?_ _) | (with_reducible refine Kd.C_drew ?_))); (case side4 => exact (Kd.R_reads' HO_12.out).2.1); rintro e w72 ⟨rfl, hb⟩; refine ⟨_, rfl, ?_⟩; have n0_ := Aside0.mk (Kd.R_below (rl HO_4) hb); have n1_ := Aside0.mk (Kd.R_below (rl HO_7) hb); have n2_ := Aside0.mk (Kd.R_below (rl HO_12) hb); have n3_ := Aside0.mk (Kd.S_below (sl HO_284001) hb); have n4_ := Aside0.mk (blk_below (g := gb283) (o := .cells #[.int .i64 t276, .slice Ao11 t277.length co11] 37 (0, 0)) (bk BK283) hb); have n5_ := Aside0.mk (below_step (bs HB GE283) hb); clear HO_4; clear HO_7; clear HO_12; clear HO_284001; clear BK283; clear HB; have HO_4 := n0_; have HO_7 := n1_; have HO_12 := n2_; have HO_284001 := n3_; have BK283 := n4_; have HB := n5_; clear n0_ n1_ n2_ n3_ n4_ n5_; (try clear hb); (try clear hb2); (try clear hk); (try clear hi)) | (go_at_call 28; (with_reducible refine (laws_stand.calls k5 _ _ x12_5 _ _ t280 t312 _ ?side1 ?side2 ?side3 ?side4 A69.out).mono ?_); (case side1 => repeat (first | exact (Kd.R_reads' HO_12.out).2.2 | (with_reducible refine Kd.C_alloc ?_ _) | (with_reducible refine Kd.C_drewN ?_ _) | (with_reducible refine Kd.C_drew ?_))); (case side2 => exact (Kd.R_reads' HO_12.out).2.1); (case side3 => repeat (first | exact (Kd.R_reads' HO_4.out).2.2 | (with_reducible refine Kd.C_alloc ?_ _) | (with_reducible refine Kd.C_drewN ?_ _) | (with_reducible refine Kd.C_drew ?_))); (case side4 => exact (Kd.R_reads' HO_4.out).2.1); rintro e w73 ⟨rfl, hb⟩; have n0_ := Aside0.mk (Kd.R_below (rl HO_4) hb); have n1_ := Aside0.mk (Kd.R_below (rl HO_7) hb); have n2_ := Aside0.mk (Kd.R_below (rl HO_12) hb); have n3_ := Aside0.mk (Kd.S_below (sl HO_284001) hb); have n4_ := Aside0.mk (blk_below (g := gb283) (o := .cells #[.int .i64 t276, .slice Ao11 t277.length co11] 37 (0, 0)) (bk BK283) hb); have n5_ := Aside0.mk (below_step (bs HB GE283) hb); clear HO_4; clear HO_7; clear HO_12; clear HO_284001; clear BK283; clear HB; have HO_4 := n0_; have HO_7 := n1_; have HO_12 := n2_; have HO_284001 := n3_; have BK283 := n4_; have HB := n5_; clear n0_ n1_ n2_ n3_ n4_ n5_; (try clear hb); (try clear hb2); (try clear hk); (try clear hi)))
                   go_meet
                   case rel => exact ⟨_, (!t312), au, H', ⟨by have := HJ6.out; have := HJ20.out; have := HJ35.out; have := HK4.out; have := HK5.out; first | omega | exact Nat.le_refl _⟩, ⟨rl HO_4⟩, ⟨rl HO_7⟩, ⟨rl HO_12⟩, ⟨sl HO_284001⟩, ⟨bk BK283⟩, ⟨bs HB GE283⟩⟩
                  ·replace c68 := Bool.eq_false_iff.mpr c68
                   subst c68
                   have H1 : (laws_FnUnits.j5 k5 t280 t288 t291 x11_4 x12_5 true t276 t277) = some r := by rw [if_neg (show ¬ (false = true) by decide)] at H; exact H
                   clear H; have H := H1; clear H1; have H' := Aside0.mk H; clear H; have hcz74_0 : wr.cell? ⟨gb283, 0, none⟩ = some (.int .i64 t276) := (blk_cell BK283.out 0).trans rfl; have hcz74_1 : wr.cell? ⟨gb283, 1, none⟩ = some (.slice Ao11 t277.length co11) := (blk_cell BK283.out 1).trans rfl; have hfz74_0 := blk_frozen BK283.out 0; have hfz74_1 := blk_frozen BK283.out 1; obtain ⟨Ao75, co75, eo75⟩ := Kd.R_slice HO_12.out
                   subst eo75
                   go_wp2_with (first | ((with_reducible refine gate_callee (f := 27) rfl ?_); refine goesL_ (some 102) rfl rfl Try.func27 (by kernel_rfl) rfl #[.agg #[.int .i64 t276, .slice Ao11 t277.length co11], .slice Ao75 x12_5.length co75] rfl ma ?_; (with_reducible refine (impl_Meets.calls k5 t276 _ _ t277 _ _ x12_5 false _ ?side1 ?side2 ?side3 ?side4 A67.out).mono ?_); (case side1 => repeat (first | exact (Kd.S_reads' HO_284001.out).2.2 | (with_reducible refine Kd.C_alloc ?_ _) | (with_reducible refine Kd.C_drewN ?_ _) | (with_reducible refine Kd.C_drew ?_))); (case side2 => exact (Kd.S_reads' HO_284001.out).2.1); (case side3 => repeat (first | exact (Kd.R_reads' HO_12.out).2.2 | (with_reducible refine Kd.C_alloc ?_ _) | (with_reducible refine Kd.C_drewN ?_ _) | (with_reducible refine Kd.C_drew ?_))); (case side4 => exact (Kd.R_reads' HO_12.out).2.1); rintro e w76 ⟨rfl, hb⟩; refine ⟨_, rfl, ?_⟩; have n0_ := Aside0.mk (Kd.R_below (rl HO_4) hb); have n1_ := Aside0.mk (Kd.R_below (rl HO_7) hb); have n2_ := Aside0.mk (Kd.R_below (rl HO_12) hb); have n3_ := Aside0.mk (Kd.S_below (sl HO_284001) hb); have n4_ := Aside0.mk (blk_below (g := gb283) (o := .cells #[.int .i64 t276, .slice Ao11 t277.length co11] 37 (0, 0)) (bk BK283) hb); have n5_ := Aside0.mk (below_step (bs HB GE283) hb); clear HO_4; clear HO_7; clear HO_12; clear HO_284001; clear BK283; clear HB; have HO_4 := n0_; have HO_7 := n1_; have HO_12 := n2_; have HO_284001 := n3_; have BK283 := n4_; have HB := n5_; clear n0_ n1_ n2_ n3_ n4_ n5_; (try clear hb); (try clear hb2); (try clear hk); (try clear hi)))
                   go_meet
                   case rel => exact ⟨_, (true), au, H', ⟨by have := HJ6.out; have := HJ20.out; have := HJ35.out; have := HK4.out; have := HK5.out; first | omega | exact Nat.le_refl _⟩, ⟨rl HO_4⟩, ⟨rl HO_7⟩, ⟨rl HO_12⟩, ⟨sl HO_284001⟩, ⟨bk BK283⟩, ⟨bs HB GE283⟩⟩
                 case rest =>
                  clear HC65
                  try clear c1
                  try clear c2
                  try clear p2
                  try clear c3
                  try clear c4
                  try clear c5
                  try clear c6
                  try clear p6
                  try clear c14
                  try clear c16
                  try clear c16b0
                  try clear c16b1
                  try clear c16b2
                  try clear c17
                  try clear c20
                  try clear c22
                  try clear c23
                  try clear c24
                  try clear c25
                  try clear c27
                  try clear c37
                  try clear c37b0
                  try clear c40
                  try clear c41
                  try clear c41b0
                  try clear c41b1
                  try clear c41b2
                  try clear c50
                  try clear c52
                  try clear c52b0
                  try clear c52b1
                  try clear c54
                  try clear c54b0
                  try clear c58
                  try clear c58b0
                  try clear c60
                  try clear c60b0
                  try clear c60b1
                  try clear c62
                  try clear p64
                  try clear c68
                  try clear hcz10_0
                  try clear hcz10_1
                  try clear hcz14_0
                  try clear hcz14_1
                  try clear hcz38_0
                  try clear hcz38_1
                  try clear hcz42_0
                  try clear hcz42_1
                  try clear hcz45_0
                  try clear hcz45_1
                  try clear hcz48_0
                  try clear hcz48_1
                  try clear hcz55_0
                  try clear hcz55_1
                  try clear hcz63_0
                  try clear hcz63_1
                  try clear hcz66_0
                  try clear hcz66_1
                  try clear hcz70_0
                  try clear hcz70_1
                  try clear hcz74_0
                  try clear hcz74_1
                  try clear hfz10_0
                  try clear hfz10_1
                  try clear hfz14_0
                  try clear hfz14_1
                  try clear hfz38_0
                  try clear hfz38_1
                  try clear hfz42_0
                  try clear hfz42_1
                  try clear hfz45_0
                  try clear hfz45_1
                  try clear hfz48_0
                  try clear hfz48_1
                  try clear hfz55_0
                  try clear hfz55_1
                  try clear hfz63_0
                  try clear hfz63_1
                  try clear hfz66_0
                  try clear hfz66_1
                  try clear hfz70_0
                  try clear hfz70_1
                  try clear hfz74_0
                  try clear hfz74_1
                  try clear p2
                  try clear p6
                  obtain ⟨kq, x109_64, rfl, HA, HJ64, HO_4, HO_7, HO_12, HO_284001, BK283, HB⟩ := hcut
                  cases kq with
                  | zero => exact absurd HA.out (by simp [laws_FnUnits.j5])
                  | succ kj64 =>
                   have H := HA.out; clear HA
                   simp only [laws_FnUnits.j5] at H
                   by_cases c77 : x109_64 = true
                   ·subst c77
                    have H1 : (laws_FnUnits.l0 kj64 t280 t288 t291 (wrap64 (x11_4 + 1)) t276 t277) = some r := by rw [if_pos rfl] at H; exact H
                    clear H; have H := H1; clear H1; have H' := Aside0.mk H; clear H
                    go_wp2
                    go_roundg kj64
                    case measure => have := HJ6.out; have := HJ20.out; have := HJ35.out; have := HK4.out; have := HK5.out; have := HJ64.out; omega
                    case rel => exact ⟨(wrap64 (x11_4 + 1)), au, H', ⟨by have := HJ6.out; have := HJ20.out; have := HJ35.out; have := HK4.out; have := HK5.out; have := HJ64.out; omega⟩, ⟨rl HO_4⟩, ⟨rl HO_7⟩, ⟨sl HO_284001⟩, ⟨bk BK283⟩, ⟨bs HB GE283⟩⟩
                   ·replace c77 := Bool.eq_false_iff.mpr c77
                    subst c77
                    have H1 : (if t291 = true then ((laws_stand.f kj64 x12_5 t288).bind fun t313 => (if t313 = true then (laws_FnUnits.l0 kj64 t280 t288 t291 (wrap64 (x11_4 + 1)) t276 t277) else (some false))) else (some false)) = some r := by rw [if_neg (show ¬ (false = true) by decide)] at H; exact H
                    clear H; have H := H1; clear H1
                    by_cases c78 : t291 = true
                    ·subst c78
                     have H1 : ((laws_stand.f kj64 x12_5 t288).bind fun t313 => (if t313 = true then (laws_FnUnits.l0 kj64 t280 t288 true (wrap64 (x11_4 + 1)) t276 t277) else (some false))) = some r := by rw [if_pos rfl] at H; exact H
                     clear H; have H := H1; clear H1; replace H := Option.bind_eq_some_iff.mp H; obtain ⟨t313, A790, H⟩ := H; replace H : (if t313 = true then (laws_FnUnits.l0 kj64 t280 t288 true (wrap64 (x11_4 + 1)) t276 t277) else (some false)) = some r := H; have A79 := Aside0.mk A790; clear A790
                     by_cases c80 : t313 = true
                     ·subst c80
                      have H1 : (laws_FnUnits.l0 kj64 t280 t288 true (wrap64 (x11_4 + 1)) t276 t277) = some r := by rw [if_pos rfl] at H; exact H
                      clear H; have H := H1; clear H1; have H' := Aside0.mk H; clear H; obtain ⟨Ao81, co81, eo81⟩ := Kd.R_slice HO_12.out
                      subst eo81
                      obtain ⟨Ao82, co82, eo82⟩ := Kd.R_slice HO_7.out
                      subst eo82
                      go_wp2_with (first | (go_at_call 28; (with_reducible refine (laws_stand.calls kj64 _ _ x12_5 _ _ t288 true _ ?side1 ?side2 ?side3 ?side4 A79.out).mono ?_); (case side1 => repeat (first | exact (Kd.R_reads' HO_12.out).2.2 | (with_reducible refine Kd.C_alloc ?_ _) | (with_reducible refine Kd.C_drewN ?_ _) | (with_reducible refine Kd.C_drew ?_))); (case side2 => exact (Kd.R_reads' HO_12.out).2.1); (case side3 => repeat (first | exact (Kd.R_reads' HO_7.out).2.2 | (with_reducible refine Kd.C_alloc ?_ _) | (with_reducible refine Kd.C_drewN ?_ _) | (with_reducible refine Kd.C_drew ?_))); (case side4 => exact (Kd.R_reads' HO_7.out).2.1); rintro e w83 ⟨rfl, hb⟩; have n0_ := Aside0.mk (Kd.R_below (rl HO_4) hb); have n1_ := Aside0.mk (Kd.R_below (rl HO_7) hb); have n2_ := Aside0.mk (Kd.R_below (rl HO_12) hb); have n3_ := Aside0.mk (Kd.S_below (sl HO_284001) hb); have n4_ := Aside0.mk (blk_below (g := gb283) (o := .cells #[.int .i64 t276, .slice Ao11 t277.length co11] 37 (0, 0)) (bk BK283) hb); have n5_ := Aside0.mk (below_step (bs HB GE283) hb); clear HO_4; clear HO_7; clear HO_12; clear HO_284001; clear BK283; clear HB; have HO_4 := n0_; have HO_7 := n1_; have HO_12 := n2_; have HO_284001 := n3_; have BK283 := n4_; have HB := n5_; clear n0_ n1_ n2_ n3_ n4_ n5_; (try clear hb); (try clear hb2); (try clear hk); (try clear hi)))
                      go_roundg kj64
                      case measure => have := HJ6.out; have := HJ20.out; have := HJ35.out; have := HK4.out; have := HK5.out; have := HJ64.out; omega
                      case rel => exact ⟨(wrap64 (x11_4 + 1)), au, H', ⟨by have := HJ6.out; have := HJ20.out; have := HJ35.out; have := HK4.out; have := HK5.out; have := HJ64.out; omega⟩, ⟨rl HO_4⟩, ⟨rl HO_7⟩, ⟨sl HO_284001⟩, ⟨bk BK283⟩, ⟨bs HB GE283⟩⟩
                     ·replace c80 := Bool.eq_false_iff.mpr c80
                      subst c80
                      have H1 : (some false) = some r := by rw [if_neg (show ¬ (false = true) by decide)] at H; exact H
                      clear H; have H := H1; clear H1
                      subst hrt
                      exact absurd H (by simp)
                    ·replace c78 := Bool.eq_false_iff.mpr c78
                     subst c78
                     have H1 : (some false) = some r := by rw [if_neg (show ¬ (false = true) by decide)] at H; exact H
                     clear H; have H := H1; clear H1
                     subst hrt
                     exact absurd H (by simp)
             ·rw [if_neg c54] at H
              have c54b0 : decide (x11_4 < (ji53)) = false := decide_eq_false c54; clear c54; clear hrt; obtain rfl := Option.some.inj H; have hcz84_0 : wr.cell? ⟨gb283, 0, none⟩ = some (.int .i64 t276) := (blk_cell BK283.out 0).trans rfl; have hcz84_1 : wr.cell? ⟨gb283, 1, none⟩ = some (.slice Ao11 t277.length co11) := (blk_cell BK283.out 1).trans rfl; have hfz84_0 := blk_frozen BK283.out 0; have hfz84_1 := blk_frozen BK283.out 1
              go_wp2
              go_ret
              exact ⟨by first | rfl | (simp [errW_none, errW_some] <;> rfl) | (simp only [← hji51, ← hji53]; first | rfl | (simp [errW_none, errW_some] <;> rfl)) | (simp [*, errW_none, errW_some] <;> rfl), bs HB GE283⟩
            ·rw [if_neg c52] at H
             exact absurd H (by simp)

end Go.Proofs.Ytpkclocdenagcaa.PFnUnits
