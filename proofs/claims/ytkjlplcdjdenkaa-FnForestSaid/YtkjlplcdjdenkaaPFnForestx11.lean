-- Written by a program of this session (a turned copy of the kit's printer); Lean checks it.
-- half the depth
import Derived.Test.YtkjlplcdjdenkaaPFnForestx0
import Derived.Test.YtkjlplcdjdenkaaPFnForestx1
import Derived.Test.YtkjlplcdjdenkaaPFnForestx4
import Derived.Test.YtkjlplcdjdenkaaPFnForestx6
import Derived.Test.YtkjlplcdjdenkaaPFnForestx7
import Derived.Test.YtkjlplcdjdenkaaPFnForestx9
import Derived.Test.YtkjlplcdjdenkaaPFnForestx10
namespace Go.Proofs.Ytkjlplcdjdenkaa.PFnForest
open Go.RowKit Go.Proofs.YtkjlplcdjdenkaaW.PrintWords Go.Proofs.YtkjlplcdjdenkaaW.PrintLast Go.Proofs.YtkjlplcdjdenkaaW.PrintMore
attribute [local go_sem] max2_int min2_int max_two min_two max_three min_three max_four min_four   -- for this text's walks alone
set_option linter.unusedVariables false
set_option linter.unusedSimpArgs false

attribute [local go_sem high] eqA51
/-! ### laws_FnForest: function 6 -/
mutual
def laws_FnForest.j0 : Nat → Int → Int → Bool → Bool → Bool → Int → List (S51) → Int → List (S51) → Option (Bool)
 | 0, _, _, _, _, _, _, _, _, _ => none
 | k + 1, x4, x5, x11, x12, x54, x314000, x314001, x328000, x328001 => if x54 = true then (some false) else (if x12 = true then ((impl_Root.f k x314000 x314001 x4).bind fun t328 => ((impl_Root.f k x314000 x314001 x5).bind fun t329 => ((impl_Root.f k x328000 x328001 x4).bind fun t330 => (if t330 = (mn t328 t329) then ((impl_Root.f k x328000 x328001 x5).bind fun t331 => (if t331 = (mn t328 t329) then ((impl_ForestOk.f k x328000 x328001).bind fun t332 => (if t332 = true then (laws_FnForest.j1 k x4 x5 ((t328 == t329) != (!x11)) x314000 x314001 x328000 x328001) else (laws_FnForest.j1 k x4 x5 true x314000 x314001 x328000 x328001))) else (laws_FnForest.j1 k x4 x5 true x314000 x314001 x328000 x328001))) else (laws_FnForest.j1 k x4 x5 true x314000 x314001 x328000 x328001))))) else (some true))
def laws_FnForest.j1 : Nat → Int → Int → Bool → Int → List (S51) → Int → List (S51) → Option (Bool)
 | 0, _, _, _, _, _, _, _ => none
 | k + 1, x4, x5, x91, x314000, x314001, x328000, x328001 => if x91 = true then (some false) else ((impl_Undo.f k x328000 x328001 (x314001.length : Int)).bind fun bt333 => (if bt333.1 = x314000 then (laws_FnForest.j2 k x4 x5 ((bt333.2.length : Int) != (x314001.length : Int)) x314000 x314001 x328000 x328001 bt333.1 bt333.2) else (laws_FnForest.j2 k x4 x5 true x314000 x314001 x328000 x328001 bt333.1 bt333.2)))
def laws_FnForest.j2 : Nat → Int → Int → Bool → Int → List (S51) → Int → List (S51) → Int → List (S51) → Option (Bool)
 | 0, _, _, _, _, _, _, _, _, _ => none
 | k + 1, x4, x5, x110, x314000, x314001, x328000, x328001, x338000, x338001 => if x110 = true then (some false) else (laws_FnForest.l0 k x4 x5 0 x314000 x314001 x328000 x328001 x338000 x338001)
def laws_FnForest.l0 : Nat → Int → Int → Int → Int → List (S51) → Int → List (S51) → Int → List (S51) → Option (Bool)
 | 0, _, _, _, _, _, _, _, _, _ => none
 | k + 1, x4, x5, x16, x314000, x314001, x328000, x328001, x338000, x338001 => if x16 < (x314001.length : Int) then (if 0 ≤ x16 then (if x16 < (x338001.length : Int) then (if (!(((rd_T51 x338001 x16).f0) == ((rd_T51 x314001 x16).f0)) || (!(((rd_T51 x338001 x16).f1) == ((rd_T51 x314001 x16).f1)) || (!(((rd_T51 x338001 x16).f2) == ((rd_T51 x314001 x16).f2))))) = true then (some false) else (laws_FnForest.l0 k x4 x5 (wrap64 (x16 + 1)) x314000 x314001 x328000 x328001 x338000 x338001)) else (none)) else (none)) else ((impl_GroupsOf.f k x328000 x328001).bind fun t340 => (laws_FnForest.l1 k x4 x5 t340 (x4 == x5) 0))
def laws_FnForest.l1 : Nat → Int → Int → List (List Int) → Bool → Int → Option (Bool)
 | 0, _, _, _, _, _ => none
 | k + 1, x4, x5, x17, x18, x19 => if x19 < (x17.length : Int) then (if x18 = true then (laws_FnForest.l1 k x4 x5 x17 true (wrap64 (x19 + 1))) else (if 0 ≤ x19 then ((laws_has.f k (rd_L3 x17 x19) x4).bind fun t344 => (if t344 = true then ((laws_has.f k (rd_L3 x17 x19) x5).bind fun t346 => (laws_FnForest.l1 k x4 x5 x17 t346 (wrap64 (x19 + 1)))) else (laws_FnForest.l1 k x4 x5 x17 false (wrap64 (x19 + 1))))) else (none))) else (some x18)
end
def laws_FnForest.f (k : Nat) (l0 : List Int) : Option (Bool) := (laws_big.f l0).bind fun t305 => (if t305 = true then (some true) else ((spec_DrawJoin.f k l0).bind fun bt306 => ((spec_Join.f k bt306.1 bt306.2.1 bt306.2.2.1 bt306.2.2.2.1 bt306.2.2.2.2).bind fun bt314 => ((impl_Join.f k bt306.1 bt306.2.1 bt306.2.2.1 bt306.2.2.2.1 bt306.2.2.2.2).bind fun bt321 => (if (bt321.2.2.2 != bt314.2.2.2) = true then (laws_FnForest.j0 k bt306.2.2.1 bt306.2.2.2.1 bt321.2.2.1 bt321.2.2.2 true bt306.1 bt306.2.1 bt321.1 bt321.2.1) else (laws_FnForest.j0 k bt306.2.2.1 bt306.2.2.2.1 bt321.2.2.1 bt321.2.2.2 (bt321.2.2.1 != bt314.2.2.1) bt306.1 bt306.2.1 bt321.1 bt321.2.1))))))
set_option maxHeartbeats 8000000 in
set_option maxRecDepth 100000 in
theorem laws_FnForest.calls (k : Nat) (A0 : Option Addr) (c0 : Nat) (l0 : List Int) (r : Bool) (w : World) (hr0 : Kd.C (Kd.int .u8) w A0 l0.length l0) (hc0 : l0.length ≤ c0) (h : laws_FnForest.f k l0 = some r) (hrt : r = true) :
  Calls Try.prog 6 #[.slice A0 l0.length c0] w fun e w' => e = .returned (.bool r) ∧ Below w.heap.size w w' := by
 have hu35 := Try.underlying35
 have hu51 := Try.underlying51
 have HR0 := Aside0.mk hr0
 have HC0 := Aside0.mk hc0
 clear hr0 hc0
 have HB := Aside0.mk (Below.refl w.heap.size w)
 have H : ((laws_big.f l0).bind fun t305 => (if t305 = true then (some true) else ((spec_DrawJoin.f k l0).bind fun bt306 => ((spec_Join.f k bt306.1 bt306.2.1 bt306.2.2.1 bt306.2.2.2.1 bt306.2.2.2.2).bind fun bt314 => ((impl_Join.f k bt306.1 bt306.2.1 bt306.2.2.1 bt306.2.2.2.1 bt306.2.2.2.2).bind fun bt321 => (if (bt321.2.2.2 != bt314.2.2.2) = true then (laws_FnForest.j0 k bt306.2.2.1 bt306.2.2.2.1 bt321.2.2.1 bt321.2.2.2 true bt306.1 bt306.2.1 bt321.1 bt321.2.1) else (laws_FnForest.j0 k bt306.2.2.1 bt306.2.2.2.1 bt321.2.2.1 bt321.2.2.2 (bt321.2.2.1 != bt314.2.2.1) bt306.1 bt306.2.1 bt321.1 bt321.2.1))))))) = some r := h
 clear h
 replace H := Option.bind_eq_some_iff.mp H
 obtain ⟨t305, A20, H⟩ := H
 replace H : (if t305 = true then (some true) else ((spec_DrawJoin.f k l0).bind fun bt306 => ((spec_Join.f k bt306.1 bt306.2.1 bt306.2.2.1 bt306.2.2.2.1 bt306.2.2.2.2).bind fun bt314 => ((impl_Join.f k bt306.1 bt306.2.1 bt306.2.2.1 bt306.2.2.2.1 bt306.2.2.2.2).bind fun bt321 => (if (bt321.2.2.2 != bt314.2.2.2) = true then (laws_FnForest.j0 k bt306.2.2.1 bt306.2.2.2.1 bt321.2.2.1 bt321.2.2.2 true bt306.1 bt306.2.1 bt321.1 bt321.2.1) else (laws_FnForest.j0 k bt306.2.2.1 bt306.2.2.2.1 bt321.2.2.1 bt321.2.2.2 (bt321.2.2.1 != bt314.2.2.1) bt306.1 bt306.2.1 bt321.1 bt321.2.1)))))) = some r := H
 have A2 := Aside0.mk A20
 clear A20
 by_cases c3 : t305 = true
 ·subst c3
  have H1 : (some true) = some r := by rw [if_pos rfl] at H; exact H
  clear H
  have H := H1
  clear H1
  clear hrt
  obtain rfl := Option.some.inj H
  go_enter Try.func6, Try.ntmps6
  go_wp2_with (first | (go_at_call 29; (with_reducible refine (laws_big.calls _ _ l0 true _ ?side1 ?side2 A2.out).mono ?_); (case side1 => repeat (first | exact HR0.out | (with_reducible refine Kd.C_alloc ?_ _) | (with_reducible refine Kd.C_drewN ?_ _) | (with_reducible refine Kd.C_drew ?_))); (case side2 => exact HC0.out); rintro e w' ⟨rfl, ⟨nd, rfl⟩⟩; (try first | exact ⟨rfl, _, World.drewN_drewN _ _ _⟩ | exact ⟨rfl, _, Eq.trans (World.drewN_drewN _ _ _) (congrArg (World.drewN _) (Nat.add_assoc _ _ _))⟩)))
  repeat (go_quiet (first | (go_at_call 29; (with_reducible refine (laws_big.calls _ _ l0 true _ ?side1 ?side2 A2.out).mono ?_); (case side1 => repeat (first | exact HR0.out | (with_reducible refine Kd.C_alloc ?_ _) | (with_reducible refine Kd.C_drewN ?_ _) | (with_reducible refine Kd.C_drew ?_))); (case side2 => exact HC0.out); rintro e w' ⟨rfl, ⟨nd, rfl⟩⟩; (try first | exact ⟨rfl, _, World.drewN_drewN _ _ _⟩ | exact ⟨rfl, _, Eq.trans (World.drewN_drewN _ _ _) (congrArg (World.drewN _) (Nat.add_assoc _ _ _))⟩))); try go_wp2_with (first | (go_at_call 29; (with_reducible refine (laws_big.calls _ _ l0 true _ ?side1 ?side2 A2.out).mono ?_); (case side1 => repeat (first | exact HR0.out | (with_reducible refine Kd.C_alloc ?_ _) | (with_reducible refine Kd.C_drewN ?_ _) | (with_reducible refine Kd.C_drew ?_))); (case side2 => exact HC0.out); rintro e w' ⟨rfl, ⟨nd, rfl⟩⟩; (try first | exact ⟨rfl, _, World.drewN_drewN _ _ _⟩ | exact ⟨rfl, _, Eq.trans (World.drewN_drewN _ _ _) (congrArg (World.drewN _) (Nat.add_assoc _ _ _))⟩))))
  go_ret
  exact ⟨by first | rfl | (simp [errW_none, errW_some] <;> rfl) | (simp [*, errW_none, errW_some] <;> rfl), bl HB⟩
 ·replace c3 := Bool.eq_false_iff.mpr c3
  subst c3
  have H1 : ((spec_DrawJoin.f k l0).bind fun bt306 => ((spec_Join.f k bt306.1 bt306.2.1 bt306.2.2.1 bt306.2.2.2.1 bt306.2.2.2.2).bind fun bt314 => ((impl_Join.f k bt306.1 bt306.2.1 bt306.2.2.1 bt306.2.2.2.1 bt306.2.2.2.2).bind fun bt321 => (if (bt321.2.2.2 != bt314.2.2.2) = true then (laws_FnForest.j0 k bt306.2.2.1 bt306.2.2.2.1 bt321.2.2.1 bt321.2.2.2 true bt306.1 bt306.2.1 bt321.1 bt321.2.1) else (laws_FnForest.j0 k bt306.2.2.1 bt306.2.2.2.1 bt321.2.2.1 bt321.2.2.2 (bt321.2.2.1 != bt314.2.2.1) bt306.1 bt306.2.1 bt321.1 bt321.2.1))))) = some r := by rw [if_neg (show ¬ (false = true) by decide)] at H; exact H
  clear H
  have H := H1
  clear H1
  replace H := Option.bind_eq_some_iff.mp H
  obtain ⟨⟨t306, t307, t310, t311, t312⟩, A40, H⟩ := H
  replace H : ((spec_Join.f k t306 t307 t310 t311 t312).bind fun bt314 => ((impl_Join.f k t306 t307 t310 t311 t312).bind fun bt321 => (if (bt321.2.2.2 != bt314.2.2.2) = true then (laws_FnForest.j0 k t310 t311 bt321.2.2.1 bt321.2.2.2 true t306 t307 bt321.1 bt321.2.1) else (laws_FnForest.j0 k t310 t311 bt321.2.2.1 bt321.2.2.2 (bt321.2.2.1 != bt314.2.2.1) t306 t307 bt321.1 bt321.2.1)))) = some r := H
  have A4 := Aside0.mk A40
  clear A40
  replace H := Option.bind_eq_some_iff.mp H
  obtain ⟨⟨t314, t315, t318, t319⟩, A50, H⟩ := H
  replace H : ((impl_Join.f k t306 t307 t310 t311 t312).bind fun bt321 => (if (bt321.2.2.2 != t319) = true then (laws_FnForest.j0 k t310 t311 bt321.2.2.1 bt321.2.2.2 true t306 t307 bt321.1 bt321.2.1) else (laws_FnForest.j0 k t310 t311 bt321.2.2.1 bt321.2.2.2 (bt321.2.2.1 != t318) t306 t307 bt321.1 bt321.2.1))) = some r := H
  have A5 := Aside0.mk A50
  clear A50
  replace H := Option.bind_eq_some_iff.mp H
  obtain ⟨⟨t321, t322, t325, t326⟩, A60, H⟩ := H
  replace H : (if (t326 != t319) = true then (laws_FnForest.j0 k t310 t311 t325 t326 true t306 t307 t321 t322) else (laws_FnForest.j0 k t310 t311 t325 t326 (t325 != t318) t306 t307 t321 t322)) = some r := H
  have A6 := Aside0.mk A60
  clear A60
  have HC7 := Aside0.mk H
  clear H
  go_enter Try.func6, Try.ntmps6
  go_upto_region 6 with (first | (go_at_call 29; (with_reducible refine (laws_big.calls _ _ l0 false _ ?side1 ?side2 A2.out).mono ?_); (case side1 => repeat (first | exact HR0.out | (with_reducible refine Kd.C_alloc ?_ _) | (with_reducible refine Kd.C_drewN ?_ _) | (with_reducible refine Kd.C_drew ?_))); (case side2 => exact HC0.out); rintro e w' ⟨rfl, ⟨nd, rfl⟩⟩; (try first | exact ⟨rfl, _, World.drewN_drewN _ _ _⟩ | exact ⟨rfl, _, Eq.trans (World.drewN_drewN _ _ _) (congrArg (World.drewN _) (Nat.add_assoc _ _ _))⟩)) | (go_at_call 30; (with_reducible refine (spec_DrawJoin.calls k _ _ l0 t306 t307 t310 t311 t312 _ ?side1 ?side2 A4.out).mono ?_); (case side1 => repeat (first | exact HR0.out | (with_reducible refine Kd.C_alloc ?_ _) | (with_reducible refine Kd.C_drewN ?_ _) | (with_reducible refine Kd.C_drew ?_))); (case side2 => exact HC0.out); rintro e w8 ⟨v308, rfl, ho0, hb⟩; have n0_ := Aside0.mk (Kd.R_lower ho0 (below_size (bl HB))); have n1_ := Aside0.mk (below_step (bl HB) hb); clear HB; have HO309 := n0_; have HB := n1_; clear n0_ n1_; (try clear hb); (try clear hb2); (try clear hk); (try clear hi); (try clear ho0)) | ((with_reducible refine gate_dst (N := 3) rfl ?_); (try (refine gate_guard (by rfl) ?_; dsimp only)); refine box_event ?hg (N := 3) ?hd (cs := #[.int .i64 0, .slice none 0 0]) (t := 35) ?hr ?_; (case hd => rfl); (case hg => rfl); (case hr => first | (go_simp; done) | (go_simp; rfl)); intro gb313 hg w9 hbox hb; have n0_ := Aside0.mk (Kd.R_below (rl HO309) hb); have n1_ := Aside0.mk (below_step (bl HB) hb); have n2_ := Aside0.mk (hbox); have n3_ := Aside0.mk ((by rw [hg]; exact (below_size (bl HB)) : w.heap.size ≤ gb313)); have n4_ := Aside0.mk ((by rw [hg]; exact (below_size (bl HB)) : w.heap.size ≤ gb313)); clear HO309; clear HB; have HO309 := n0_; have HB := n1_; have BK313 := n2_; have GW313 := n3_; have GE313 := n4_; clear n0_ n1_ n2_ n3_ n4_; clear hb hbox hg; have hcz10_0 : w9.cell? ⟨gb313, 0, none⟩ = some (.int .i64 0) := (blk_cell BK313.out 0).trans rfl; have hcz10_1 : w9.cell? ⟨gb313, 1, none⟩ = some (.slice none 0 0) := (blk_cell BK313.out 1).trans rfl; have hfz10_0 := blk_frozen BK313.out 0; have hfz10_1 := blk_frozen BK313.out 1; obtain ⟨Ao11, co11, eo11⟩ := Kd.R_slice HO309.out; subst eo11) | (go_at_call 27; (with_reducible refine (spec_Join.calls k t306 _ _ t307 t310 t311 t312 t314 t315 t318 t319 _ ?side1 ?side2 A5.out).mono ?_); (case side1 => refine (Kd.R_reads' (e := 51) (base := w.heap.size) (ok := fun k_ => True) (n := t307.length) (c := co11) ?_).2.2; exact (by (with_reducible repeat (first | apply Kd.R_alloc | apply Kd.R_drewN | apply Kd.R_drew)); exact (Kd.R_mono (Kd.R_far (p := ⟨gb313, 1, none⟩) (Kd.R_far (p := ⟨gb313, 0, none⟩) (Kd.R_types HO309.out BK313.out (by decide)) (fun _ hk => hk.2) (.int .i64 t306)) (fun _ hk => hk.2) (.slice Ao11 t307.length co11)) (fun _ h_ => h_.1)))); (case side2 => exact (Kd.R_reads' HO309.out).2.1); rintro e w12 ⟨v316, rfl, ho0, hb⟩; have n0_ := Aside0.mk (Kd.R_elder' (by (with_reducible repeat (first | apply Kd.R_alloc | apply Kd.R_drewN | apply Kd.R_drew)); exact (Kd.R_mono (Kd.R_far (p := ⟨gb313, 1, none⟩) (Kd.R_far (p := ⟨gb313, 0, none⟩) (Kd.R_types HO309.out BK313.out (by decide)) (fun _ hk => hk.2) (.int .i64 t306)) (fun _ hk => hk.2) (.slice Ao11 t307.length co11)) (fun _ h_ => h_.1))) (Kd.R_base ho0) hb); have n1_ := Aside0.mk (Kd.R_lower (Kd.R_new' ho0 (Kd.R_lt (by (with_reducible repeat (first | apply Kd.R_alloc | apply Kd.R_drewN | apply Kd.R_drew)); exact (Kd.R_mono (Kd.R_far (p := ⟨gb313, 1, none⟩) (Kd.R_far (p := ⟨gb313, 0, none⟩) (Kd.R_types HO309.out BK313.out (by decide)) (fun _ hk => hk.2) (.int .i64 t306)) (fun _ hk => hk.2) (.slice Ao11 t307.length co11)) (fun _ h_ => h_.1))))) (below_size (bs HB GE313))); have n2_ := Aside0.mk (blk_below (g := gb313) (o := .cells #[.int .i64 t306, .slice Ao11 t307.length co11] 35 (0, 0)) (by (with_reducible repeat (first | refine blk_drewN ?_ _ | refine blk_drew ?_ | refine blk_alloc ?_ _)); refine blk_put (cs := #[.int .i64 t306, .slice none 0 0]) ?_ 1 _ rfl; (with_reducible repeat (first | refine blk_drewN ?_ _ | refine blk_drew ?_ | refine blk_alloc ?_ _)); refine blk_put (cs := #[.int .i64 0, .slice none 0 0]) ?_ 0 _ rfl; (with_reducible repeat (first | refine blk_drewN ?_ _ | refine blk_drew ?_ | refine blk_alloc ?_ _)); exact BK313.out) hb); have n3_ := Aside0.mk (below_step (bs HB GE313) hb); clear HO309; clear BK313; clear HB; have HO309 := n0_; have HO317 := n1_; have BK313 := n2_; have HB := n3_; clear n0_ n1_ n2_ n3_; (try clear hb); (try clear hb2); (try clear hk); (try clear hi); (try clear ho0)) | ((with_reducible refine gate_dst (N := 7) rfl ?_); (try (refine gate_guard (by rfl) ?_; dsimp only)); refine box_event ?hg (N := 7) ?hd (cs := #[.int .i64 0, .slice none 0 0]) (t := 35) ?hr ?_; (case hd => rfl); (case hg => rfl); (case hr => first | (go_simp; done) | (go_simp; rfl)); intro gb320 hg w13 hbox hb; have n0_ := Aside0.mk (Kd.R_below (rl HO309) hb); have n1_ := Aside0.mk (Kd.R_below (rl HO317) hb); have n2_ := Aside0.mk (blk_below (g := gb313) (o := .cells #[.int .i64 t306, .slice Ao11 t307.length co11] 35 (0, 0)) (bk BK313) hb); have n3_ := Aside0.mk (below_step (bs HB GE313) hb); have n4_ := Aside0.mk (hbox); have n5_ := Aside0.mk ((by rw [hg]; exact (below_size (bs HB GE313)) : w.heap.size ≤ gb320)); have n6_ := Aside0.mk ((by rw [hg]; exact (below_size (bs HB GE313)) : w.heap.size ≤ gb320)); have n7_ := Aside0.mk ((by rw [hg]; exact Nat.ne_of_lt (blk_lt (g := gb313) (o := .cells #[.int .i64 t306, .slice Ao11 t307.length co11] 35 (0, 0)) (bk BK313)) : gb313 ≠ gb320)); have n8_ := Aside0.mk ((by rw [hg]; exact Nat.ne_of_gt (blk_lt (g := gb313) (o := .cells #[.int .i64 t306, .slice Ao11 t307.length co11] 35 (0, 0)) (bk BK313)) : gb320 ≠ gb313)); clear HO309; clear HO317; clear BK313; clear HB; have HO309 := n0_; have HO317 := n1_; have BK313 := n2_; have HB := n3_; have BK320 := n4_; have GW320 := n5_; have GE320 := n6_; have NB313_320 := n7_; have NB320_313 := n8_; clear n0_ n1_ n2_ n3_ n4_ n5_ n6_ n7_ n8_; clear hb hbox hg; have hnb14 := NB320_313.out; have hnc14 := NB313_320.out; have hcz15_0 : w13.cell? ⟨gb320, 0, none⟩ = some (.int .i64 0) := (blk_cell BK320.out 0).trans rfl; have hcz15_1 : w13.cell? ⟨gb320, 1, none⟩ = some (.slice none 0 0) := (blk_cell BK320.out 1).trans rfl; have hfz15_0 := blk_frozen BK320.out 0; have hfz15_1 := blk_frozen BK320.out 1; obtain ⟨Ao16, co16, eo16⟩ := Kd.R_slice HO317.out; subst eo16; have hcz17_0 : w13.cell? ⟨gb313, 0, none⟩ = some (.int .i64 t306) := (blk_cell BK313.out 0).trans rfl; have hcz17_1 : w13.cell? ⟨gb313, 1, none⟩ = some (.slice Ao11 t307.length co11) := (blk_cell BK313.out 1).trans rfl; have hfz17_0 := blk_frozen BK313.out 0; have hfz17_1 := blk_frozen BK313.out 1) | (go_at_call 28; (with_reducible refine (impl_Join.calls k t306 _ _ t307 t310 t311 t312 t321 t322 t325 t326 _ ?side1 ?side2 A6.out).mono ?_); (case side1 => refine (Kd.R_reads' (e := 51) (base := w.heap.size) (ok := fun k_ => (True ∧ some k_ ≠ (.slice Ao16 t315.length co16 : Value).ownBlock)) (n := t307.length) (c := co11) ?_).2.2; exact (by (with_reducible repeat (first | apply Kd.R_alloc | apply Kd.R_drewN | apply Kd.R_drew)); exact (Kd.R_mono (Kd.R_far (p := ⟨gb320, 1, none⟩) (Kd.R_far (p := ⟨gb320, 0, none⟩) (Kd.R_types HO309.out BK320.out (by decide)) (fun _ hk => hk.2) (.int .i64 t314)) (fun _ hk => hk.2) (.slice Ao16 t315.length co16)) (fun _ h_ => h_.1)))); (case side2 => exact (Kd.R_reads' HO309.out).2.1); rintro e w18 ⟨v323, rfl, ho0, hb⟩; have n0_ := Aside0.mk (Kd.R_elder' (by (with_reducible repeat (first | apply Kd.R_alloc | apply Kd.R_drewN | apply Kd.R_drew)); exact (Kd.R_mono (Kd.R_far (p := ⟨gb320, 1, none⟩) (Kd.R_far (p := ⟨gb320, 0, none⟩) (Kd.R_types HO309.out BK320.out (by decide)) (fun _ hk => hk.2) (.int .i64 t314)) (fun _ hk => hk.2) (.slice Ao16 t315.length co16)) (fun _ h_ => h_.1))) (Kd.R_base ho0) hb); have n1_ := Aside0.mk (Kd.R_elder' (by (with_reducible repeat (first | apply Kd.R_alloc | apply Kd.R_drewN | apply Kd.R_drew)); exact (Kd.R_mono (Kd.R_far (p := ⟨gb320, 1, none⟩) (Kd.R_far (p := ⟨gb320, 0, none⟩) (Kd.R_types HO317.out BK320.out (by decide)) (fun _ hk => hk.2) (.int .i64 t314)) (fun _ hk => hk.2) (.slice Ao16 t315.length co16)) (fun _ h_ => h_.1))) (Kd.R_base ho0) hb); have n2_ := Aside0.mk (Kd.R_lower (Kd.R_new' (Kd.R_new' ho0 (Kd.R_lt (by (with_reducible repeat (first | apply Kd.R_alloc | apply Kd.R_drewN | apply Kd.R_drew)); exact (Kd.R_mono (Kd.R_far (p := ⟨gb320, 1, none⟩) (Kd.R_far (p := ⟨gb320, 0, none⟩) (Kd.R_types HO309.out BK320.out (by decide)) (fun _ hk => hk.2) (.int .i64 t314)) (fun _ hk => hk.2) (.slice Ao16 t315.length co16)) (fun _ h_ => h_.1))))) (Kd.R_lt (by (with_reducible repeat (first | apply Kd.R_alloc | apply Kd.R_drewN | apply Kd.R_drew)); exact (Kd.R_mono (Kd.R_far (p := ⟨gb320, 1, none⟩) (Kd.R_far (p := ⟨gb320, 0, none⟩) (Kd.R_types HO317.out BK320.out (by decide)) (fun _ hk => hk.2) (.int .i64 t314)) (fun _ hk => hk.2) (.slice Ao16 t315.length co16)) (fun _ h_ => h_.1))))) (below_size (bs2 HB GE313 GE320))); have n3_ := Aside0.mk (blk_below (g := gb313) (o := .cells #[.int .i64 t306, .slice Ao11 t307.length co11] 35 (0, 0)) (by (with_reducible repeat (first | refine blk_drewN ?_ _ | refine blk_drew ?_ | refine blk_alloc ?_ _)); refine blk_far ?_ NB313_320.out _; (with_reducible repeat (first | refine blk_drewN ?_ _ | refine blk_drew ?_ | refine blk_alloc ?_ _)); refine blk_far ?_ NB313_320.out _; (with_reducible repeat (first | refine blk_drewN ?_ _ | refine blk_drew ?_ | refine blk_alloc ?_ _)); exact BK313.out) hb); have n4_ := Aside0.mk (blk_below (g := gb320) (o := .cells #[.int .i64 t314, .slice Ao16 t315.length co16] 35 (0, 0)) (by (with_reducible repeat (first | refine blk_drewN ?_ _ | refine blk_drew ?_ | refine blk_alloc ?_ _)); refine blk_put (cs := #[.int .i64 t314, .slice none 0 0]) ?_ 1 _ rfl; (with_reducible repeat (first | refine blk_drewN ?_ _ | refine blk_drew ?_ | refine blk_alloc ?_ _)); refine blk_put (cs := #[.int .i64 0, .slice none 0 0]) ?_ 0 _ rfl; (with_reducible repeat (first | refine blk_drewN ?_ _ | refine blk_drew ?_ | refine blk_alloc ?_ _)); exact BK320.out) hb); have n5_ := Aside0.mk (below_step (bs2 HB GE313 GE320) hb); clear HO309; clear HO317; clear BK313; clear BK320; clear HB; have HO309 := n0_; have HO317 := n1_; have HO324 := n2_; have BK313 := n3_; have BK320 := n4_; have HB := n5_; clear n0_ n1_ n2_ n3_ n4_ n5_; (try clear hb); (try clear hb2); (try clear hk); (try clear hi); (try clear ho0)) | ((with_reducible refine gate_dst (N := 10) rfl ?_); (try (refine gate_guard (by rfl) ?_; dsimp only)); refine box_event ?hg (N := 10) ?hd (cs := #[.int .i64 0, .slice none 0 0]) (t := 35) ?hr ?_; (case hd => rfl); (case hg => rfl); (case hr => first | (go_simp; done) | (go_simp; rfl)); intro gb327 hg w19 hbox hb; have n0_ := Aside0.mk (Kd.R_below (rl HO309) hb); have n1_ := Aside0.mk (Kd.R_below (rl HO317) hb); have n2_ := Aside0.mk (Kd.R_below (rl HO324) hb); have n3_ := Aside0.mk (blk_below (g := gb313) (o := .cells #[.int .i64 t306, .slice Ao11 t307.length co11] 35 (0, 0)) (bk BK313) hb); have n4_ := Aside0.mk (blk_below (g := gb320) (o := .cells #[.int .i64 t314, .slice Ao16 t315.length co16] 35 (0, 0)) (bk BK320) hb); have n5_ := Aside0.mk (below_step (bs2 HB GE313 GE320) hb); have n6_ := Aside0.mk (hbox); have n7_ := Aside0.mk ((by rw [hg]; exact (below_size (bs2 HB GE313 GE320)) : w.heap.size ≤ gb327)); have n8_ := Aside0.mk ((by rw [hg]; exact (below_size (bs2 HB GE313 GE320)) : w.heap.size ≤ gb327)); have n9_ := Aside0.mk ((by rw [hg]; exact Nat.ne_of_lt (blk_lt (g := gb313) (o := .cells #[.int .i64 t306, .slice Ao11 t307.length co11] 35 (0, 0)) (bk BK313)) : gb313 ≠ gb327)); have n10_ := Aside0.mk ((by rw [hg]; exact Nat.ne_of_gt (blk_lt (g := gb313) (o := .cells #[.int .i64 t306, .slice Ao11 t307.length co11] 35 (0, 0)) (bk BK313)) : gb327 ≠ gb313)); have n11_ := Aside0.mk ((by rw [hg]; exact Nat.ne_of_lt (blk_lt (g := gb320) (o := .cells #[.int .i64 t314, .slice Ao16 t315.length co16] 35 (0, 0)) (bk BK320)) : gb320 ≠ gb327)); have n12_ := Aside0.mk ((by rw [hg]; exact Nat.ne_of_gt (blk_lt (g := gb320) (o := .cells #[.int .i64 t314, .slice Ao16 t315.length co16] 35 (0, 0)) (bk BK320)) : gb327 ≠ gb320)); clear HO309; clear HO317; clear HO324; clear BK313; clear BK320; clear HB; have HO309 := n0_; have HO317 := n1_; have HO324 := n2_; have BK313 := n3_; have BK320 := n4_; have HB := n5_; have BK327 := n6_; have GW327 := n7_; have GE327 := n8_; have NB313_327 := n9_; have NB327_313 := n10_; have NB320_327 := n11_; have NB327_320 := n12_; clear n0_ n1_ n2_ n3_ n4_ n5_ n6_ n7_ n8_ n9_ n10_ n11_ n12_; clear hb hbox hg; have hnb20 := NB327_313.out; have hnc20 := NB313_327.out; have hnb21 := NB327_320.out; have hnc21 := NB320_327.out; have hcz22_0 : w19.cell? ⟨gb327, 0, none⟩ = some (.int .i64 0) := (blk_cell BK327.out 0).trans rfl; have hcz22_1 : w19.cell? ⟨gb327, 1, none⟩ = some (.slice none 0 0) := (blk_cell BK327.out 1).trans rfl; have hfz22_0 := blk_frozen BK327.out 0; have hfz22_1 := blk_frozen BK327.out 1; obtain ⟨Ao23, co23, eo23⟩ := Kd.R_slice HO324.out; subst eo23))
  repeat (go_quiet (first | (go_at_call 29; (with_reducible refine (laws_big.calls _ _ l0 false _ ?side1 ?side2 A2.out).mono ?_); (case side1 => repeat (first | exact HR0.out | (with_reducible refine Kd.C_alloc ?_ _) | (with_reducible refine Kd.C_drewN ?_ _) | (with_reducible refine Kd.C_drew ?_))); (case side2 => exact HC0.out); rintro e w' ⟨rfl, ⟨nd, rfl⟩⟩; (try first | exact ⟨rfl, _, World.drewN_drewN _ _ _⟩ | exact ⟨rfl, _, Eq.trans (World.drewN_drewN _ _ _) (congrArg (World.drewN _) (Nat.add_assoc _ _ _))⟩)) | (go_at_call 30; (with_reducible refine (spec_DrawJoin.calls k _ _ l0 t306 t307 t310 t311 t312 _ ?side1 ?side2 A4.out).mono ?_); (case side1 => repeat (first | exact HR0.out | (with_reducible refine Kd.C_alloc ?_ _) | (with_reducible refine Kd.C_drewN ?_ _) | (with_reducible refine Kd.C_drew ?_))); (case side2 => exact HC0.out); rintro e w8 ⟨v308, rfl, ho0, hb⟩; have n0_ := Aside0.mk (Kd.R_lower ho0 (below_size (bl HB))); have n1_ := Aside0.mk (below_step (bl HB) hb); clear HB; have HO309 := n0_; have HB := n1_; clear n0_ n1_; (try clear hb); (try clear hb2); (try clear hk); (try clear hi); (try clear ho0)) | ((with_reducible refine gate_dst (N := 3) rfl ?_); (try (refine gate_guard (by rfl) ?_; dsimp only)); refine box_event ?hg (N := 3) ?hd (cs := #[.int .i64 0, .slice none 0 0]) (t := 35) ?hr ?_; (case hd => rfl); (case hg => rfl); (case hr => first | (go_simp; done) | (go_simp; rfl)); intro gb313 hg w9 hbox hb; have n0_ := Aside0.mk (Kd.R_below (rl HO309) hb); have n1_ := Aside0.mk (below_step (bl HB) hb); have n2_ := Aside0.mk (hbox); have n3_ := Aside0.mk ((by rw [hg]; exact (below_size (bl HB)) : w.heap.size ≤ gb313)); have n4_ := Aside0.mk ((by rw [hg]; exact (below_size (bl HB)) : w.heap.size ≤ gb313)); clear HO309; clear HB; have HO309 := n0_; have HB := n1_; have BK313 := n2_; have GW313 := n3_; have GE313 := n4_; clear n0_ n1_ n2_ n3_ n4_; clear hb hbox hg; have hcz10_0 : w9.cell? ⟨gb313, 0, none⟩ = some (.int .i64 0) := (blk_cell BK313.out 0).trans rfl; have hcz10_1 : w9.cell? ⟨gb313, 1, none⟩ = some (.slice none 0 0) := (blk_cell BK313.out 1).trans rfl; have hfz10_0 := blk_frozen BK313.out 0; have hfz10_1 := blk_frozen BK313.out 1; obtain ⟨Ao11, co11, eo11⟩ := Kd.R_slice HO309.out; subst eo11) | (go_at_call 27; (with_reducible refine (spec_Join.calls k t306 _ _ t307 t310 t311 t312 t314 t315 t318 t319 _ ?side1 ?side2 A5.out).mono ?_); (case side1 => refine (Kd.R_reads' (e := 51) (base := w.heap.size) (ok := fun k_ => True) (n := t307.length) (c := co11) ?_).2.2; exact (by (with_reducible repeat (first | apply Kd.R_alloc | apply Kd.R_drewN | apply Kd.R_drew)); exact (Kd.R_mono (Kd.R_far (p := ⟨gb313, 1, none⟩) (Kd.R_far (p := ⟨gb313, 0, none⟩) (Kd.R_types HO309.out BK313.out (by decide)) (fun _ hk => hk.2) (.int .i64 t306)) (fun _ hk => hk.2) (.slice Ao11 t307.length co11)) (fun _ h_ => h_.1)))); (case side2 => exact (Kd.R_reads' HO309.out).2.1); rintro e w12 ⟨v316, rfl, ho0, hb⟩; have n0_ := Aside0.mk (Kd.R_elder' (by (with_reducible repeat (first | apply Kd.R_alloc | apply Kd.R_drewN | apply Kd.R_drew)); exact (Kd.R_mono (Kd.R_far (p := ⟨gb313, 1, none⟩) (Kd.R_far (p := ⟨gb313, 0, none⟩) (Kd.R_types HO309.out BK313.out (by decide)) (fun _ hk => hk.2) (.int .i64 t306)) (fun _ hk => hk.2) (.slice Ao11 t307.length co11)) (fun _ h_ => h_.1))) (Kd.R_base ho0) hb); have n1_ := Aside0.mk (Kd.R_lower (Kd.R_new' ho0 (Kd.R_lt (by (with_reducible repeat (first | apply Kd.R_alloc | apply Kd.R_drewN | apply Kd.R_drew)); exact (Kd.R_mono (Kd.R_far (p := ⟨gb313, 1, none⟩) (Kd.R_far (p := ⟨gb313, 0, none⟩) (Kd.R_types HO309.out BK313.out (by decide)) (fun _ hk => hk.2) (.int .i64 t306)) (fun _ hk => hk.2) (.slice Ao11 t307.length co11)) (fun _ h_ => h_.1))))) (below_size (bs HB GE313))); have n2_ := Aside0.mk (blk_below (g := gb313) (o := .cells #[.int .i64 t306, .slice Ao11 t307.length co11] 35 (0, 0)) (by (with_reducible repeat (first | refine blk_drewN ?_ _ | refine blk_drew ?_ | refine blk_alloc ?_ _)); refine blk_put (cs := #[.int .i64 t306, .slice none 0 0]) ?_ 1 _ rfl; (with_reducible repeat (first | refine blk_drewN ?_ _ | refine blk_drew ?_ | refine blk_alloc ?_ _)); refine blk_put (cs := #[.int .i64 0, .slice none 0 0]) ?_ 0 _ rfl; (with_reducible repeat (first | refine blk_drewN ?_ _ | refine blk_drew ?_ | refine blk_alloc ?_ _)); exact BK313.out) hb); have n3_ := Aside0.mk (below_step (bs HB GE313) hb); clear HO309; clear BK313; clear HB; have HO309 := n0_; have HO317 := n1_; have BK313 := n2_; have HB := n3_; clear n0_ n1_ n2_ n3_; (try clear hb); (try clear hb2); (try clear hk); (try clear hi); (try clear ho0)) | ((with_reducible refine gate_dst (N := 7) rfl ?_); (try (refine gate_guard (by rfl) ?_; dsimp only)); refine box_event ?hg (N := 7) ?hd (cs := #[.int .i64 0, .slice none 0 0]) (t := 35) ?hr ?_; (case hd => rfl); (case hg => rfl); (case hr => first | (go_simp; done) | (go_simp; rfl)); intro gb320 hg w13 hbox hb; have n0_ := Aside0.mk (Kd.R_below (rl HO309) hb); have n1_ := Aside0.mk (Kd.R_below (rl HO317) hb); have n2_ := Aside0.mk (blk_below (g := gb313) (o := .cells #[.int .i64 t306, .slice Ao11 t307.length co11] 35 (0, 0)) (bk BK313) hb); have n3_ := Aside0.mk (below_step (bs HB GE313) hb); have n4_ := Aside0.mk (hbox); have n5_ := Aside0.mk ((by rw [hg]; exact (below_size (bs HB GE313)) : w.heap.size ≤ gb320)); have n6_ := Aside0.mk ((by rw [hg]; exact (below_size (bs HB GE313)) : w.heap.size ≤ gb320)); have n7_ := Aside0.mk ((by rw [hg]; exact Nat.ne_of_lt (blk_lt (g := gb313) (o := .cells #[.int .i64 t306, .slice Ao11 t307.length co11] 35 (0, 0)) (bk BK313)) : gb313 ≠ gb320)); have n8_ := Aside0.mk ((by rw [hg]; exact Nat.ne_of_gt (blk_lt (g := gb313) (o := .cells #[.int .i64 t306, .slice Ao11 t307.length co11] 35 (0, 0)) (bk BK313)) : gb320 ≠ gb313)); clear HO309; clear HO317; clear BK313; clear HB; have HO309 := n0_; have HO317 := n1_; have BK313 := n2_; have HB := n3_; have BK320 := n4_; have GW320 := n5_; have GE320 := n6_; have NB313_320 := n7_; have NB320_313 := n8_; clear n0_ n1_ n2_ n3_ n4_ n5_ n6_ n7_ n8_; clear hb hbox hg; have hnb14 := NB320_313.out; have hnc14 := NB313_320.out; have hcz15_0 : w13.cell? ⟨gb320, 0, none⟩ = some (.int .i64 0) := (blk_cell BK320.out 0).trans rfl; have hcz15_1 : w13.cell? ⟨gb320, 1, none⟩ = some (.slice none 0 0) := (blk_cell BK320.out 1).trans rfl; have hfz15_0 := blk_frozen BK320.out 0; have hfz15_1 := blk_frozen BK320.out 1; obtain ⟨Ao16, co16, eo16⟩ := Kd.R_slice HO317.out; subst eo16; have hcz17_0 : w13.cell? ⟨gb313, 0, none⟩ = some (.int .i64 t306) := (blk_cell BK313.out 0).trans rfl; have hcz17_1 : w13.cell? ⟨gb313, 1, none⟩ = some (.slice Ao11 t307.length co11) := (blk_cell BK313.out 1).trans rfl; have hfz17_0 := blk_frozen BK313.out 0; have hfz17_1 := blk_frozen BK313.out 1) | (go_at_call 28; (with_reducible refine (impl_Join.calls k t306 _ _ t307 t310 t311 t312 t321 t322 t325 t326 _ ?side1 ?side2 A6.out).mono ?_); (case side1 => refine (Kd.R_reads' (e := 51) (base := w.heap.size) (ok := fun k_ => (True ∧ some k_ ≠ (.slice Ao16 t315.length co16 : Value).ownBlock)) (n := t307.length) (c := co11) ?_).2.2; exact (by (with_reducible repeat (first | apply Kd.R_alloc | apply Kd.R_drewN | apply Kd.R_drew)); exact (Kd.R_mono (Kd.R_far (p := ⟨gb320, 1, none⟩) (Kd.R_far (p := ⟨gb320, 0, none⟩) (Kd.R_types HO309.out BK320.out (by decide)) (fun _ hk => hk.2) (.int .i64 t314)) (fun _ hk => hk.2) (.slice Ao16 t315.length co16)) (fun _ h_ => h_.1)))); (case side2 => exact (Kd.R_reads' HO309.out).2.1); rintro e w18 ⟨v323, rfl, ho0, hb⟩; have n0_ := Aside0.mk (Kd.R_elder' (by (with_reducible repeat (first | apply Kd.R_alloc | apply Kd.R_drewN | apply Kd.R_drew)); exact (Kd.R_mono (Kd.R_far (p := ⟨gb320, 1, none⟩) (Kd.R_far (p := ⟨gb320, 0, none⟩) (Kd.R_types HO309.out BK320.out (by decide)) (fun _ hk => hk.2) (.int .i64 t314)) (fun _ hk => hk.2) (.slice Ao16 t315.length co16)) (fun _ h_ => h_.1))) (Kd.R_base ho0) hb); have n1_ := Aside0.mk (Kd.R_elder' (by (with_reducible repeat (first | apply Kd.R_alloc | apply Kd.R_drewN | apply Kd.R_drew)); exact (Kd.R_mono (Kd.R_far (p := ⟨gb320, 1, none⟩) (Kd.R_far (p := ⟨gb320, 0, none⟩) (Kd.R_types HO317.out BK320.out (by decide)) (fun _ hk => hk.2) (.int .i64 t314)) (fun _ hk => hk.2) (.slice Ao16 t315.length co16)) (fun _ h_ => h_.1))) (Kd.R_base ho0) hb); have n2_ := Aside0.mk (Kd.R_lower (Kd.R_new' (Kd.R_new' ho0 (Kd.R_lt (by (with_reducible repeat (first | apply Kd.R_alloc | apply Kd.R_drewN | apply Kd.R_drew)); exact (Kd.R_mono (Kd.R_far (p := ⟨gb320, 1, none⟩) (Kd.R_far (p := ⟨gb320, 0, none⟩) (Kd.R_types HO309.out BK320.out (by decide)) (fun _ hk => hk.2) (.int .i64 t314)) (fun _ hk => hk.2) (.slice Ao16 t315.length co16)) (fun _ h_ => h_.1))))) (Kd.R_lt (by (with_reducible repeat (first | apply Kd.R_alloc | apply Kd.R_drewN | apply Kd.R_drew)); exact (Kd.R_mono (Kd.R_far (p := ⟨gb320, 1, none⟩) (Kd.R_far (p := ⟨gb320, 0, none⟩) (Kd.R_types HO317.out BK320.out (by decide)) (fun _ hk => hk.2) (.int .i64 t314)) (fun _ hk => hk.2) (.slice Ao16 t315.length co16)) (fun _ h_ => h_.1))))) (below_size (bs2 HB GE313 GE320))); have n3_ := Aside0.mk (blk_below (g := gb313) (o := .cells #[.int .i64 t306, .slice Ao11 t307.length co11] 35 (0, 0)) (by (with_reducible repeat (first | refine blk_drewN ?_ _ | refine blk_drew ?_ | refine blk_alloc ?_ _)); refine blk_far ?_ NB313_320.out _; (with_reducible repeat (first | refine blk_drewN ?_ _ | refine blk_drew ?_ | refine blk_alloc ?_ _)); refine blk_far ?_ NB313_320.out _; (with_reducible repeat (first | refine blk_drewN ?_ _ | refine blk_drew ?_ | refine blk_alloc ?_ _)); exact BK313.out) hb); have n4_ := Aside0.mk (blk_below (g := gb320) (o := .cells #[.int .i64 t314, .slice Ao16 t315.length co16] 35 (0, 0)) (by (with_reducible repeat (first | refine blk_drewN ?_ _ | refine blk_drew ?_ | refine blk_alloc ?_ _)); refine blk_put (cs := #[.int .i64 t314, .slice none 0 0]) ?_ 1 _ rfl; (with_reducible repeat (first | refine blk_drewN ?_ _ | refine blk_drew ?_ | refine blk_alloc ?_ _)); refine blk_put (cs := #[.int .i64 0, .slice none 0 0]) ?_ 0 _ rfl; (with_reducible repeat (first | refine blk_drewN ?_ _ | refine blk_drew ?_ | refine blk_alloc ?_ _)); exact BK320.out) hb); have n5_ := Aside0.mk (below_step (bs2 HB GE313 GE320) hb); clear HO309; clear HO317; clear BK313; clear BK320; clear HB; have HO309 := n0_; have HO317 := n1_; have HO324 := n2_; have BK313 := n3_; have BK320 := n4_; have HB := n5_; clear n0_ n1_ n2_ n3_ n4_ n5_; (try clear hb); (try clear hb2); (try clear hk); (try clear hi); (try clear ho0)) | ((with_reducible refine gate_dst (N := 10) rfl ?_); (try (refine gate_guard (by rfl) ?_; dsimp only)); refine box_event ?hg (N := 10) ?hd (cs := #[.int .i64 0, .slice none 0 0]) (t := 35) ?hr ?_; (case hd => rfl); (case hg => rfl); (case hr => first | (go_simp; done) | (go_simp; rfl)); intro gb327 hg w19 hbox hb; have n0_ := Aside0.mk (Kd.R_below (rl HO309) hb); have n1_ := Aside0.mk (Kd.R_below (rl HO317) hb); have n2_ := Aside0.mk (Kd.R_below (rl HO324) hb); have n3_ := Aside0.mk (blk_below (g := gb313) (o := .cells #[.int .i64 t306, .slice Ao11 t307.length co11] 35 (0, 0)) (bk BK313) hb); have n4_ := Aside0.mk (blk_below (g := gb320) (o := .cells #[.int .i64 t314, .slice Ao16 t315.length co16] 35 (0, 0)) (bk BK320) hb); have n5_ := Aside0.mk (below_step (bs2 HB GE313 GE320) hb); have n6_ := Aside0.mk (hbox); have n7_ := Aside0.mk ((by rw [hg]; exact (below_size (bs2 HB GE313 GE320)) : w.heap.size ≤ gb327)); have n8_ := Aside0.mk ((by rw [hg]; exact (below_size (bs2 HB GE313 GE320)) : w.heap.size ≤ gb327)); have n9_ := Aside0.mk ((by rw [hg]; exact Nat.ne_of_lt (blk_lt (g := gb313) (o := .cells #[.int .i64 t306, .slice Ao11 t307.length co11] 35 (0, 0)) (bk BK313)) : gb313 ≠ gb327)); have n10_ := Aside0.mk ((by rw [hg]; exact Nat.ne_of_gt (blk_lt (g := gb313) (o := .cells #[.int .i64 t306, .slice Ao11 t307.length co11] 35 (0, 0)) (bk BK313)) : gb327 ≠ gb313)); have n11_ := Aside0.mk ((by rw [hg]; exact Nat.ne_of_lt (blk_lt (g := gb320) (o := .cells #[.int .i64 t314, .slice Ao16 t315.length co16] 35 (0, 0)) (bk BK320)) : gb320 ≠ gb327)); have n12_ := Aside0.mk ((by rw [hg]; exact Nat.ne_of_gt (blk_lt (g := gb320) (o := .cells #[.int .i64 t314, .slice Ao16 t315.length co16] 35 (0, 0)) (bk BK320)) : gb327 ≠ gb320)); clear HO309; clear HO317; clear HO324; clear BK313; clear BK320; clear HB; have HO309 := n0_; have HO317 := n1_; have HO324 := n2_; have BK313 := n3_; have BK320 := n4_; have HB := n5_; have BK327 := n6_; have GW327 := n7_; have GE327 := n8_; have NB313_327 := n9_; have NB327_313 := n10_; have NB320_327 := n11_; have NB327_320 := n12_; clear n0_ n1_ n2_ n3_ n4_ n5_ n6_ n7_ n8_ n9_ n10_ n11_ n12_; clear hb hbox hg; have hnb20 := NB327_313.out; have hnc20 := NB313_327.out; have hnb21 := NB327_320.out; have hnc21 := NB320_327.out; have hcz22_0 : w19.cell? ⟨gb327, 0, none⟩ = some (.int .i64 0) := (blk_cell BK327.out 0).trans rfl; have hcz22_1 : w19.cell? ⟨gb327, 1, none⟩ = some (.slice none 0 0) := (blk_cell BK327.out 1).trans rfl; have hfz22_0 := blk_frozen BK327.out 0; have hfz22_1 := blk_frozen BK327.out 1; obtain ⟨Ao23, co23, eo23⟩ := Kd.R_slice HO324.out; subst eo23)); go_upto_region 6 with (first | (go_at_call 29; (with_reducible refine (laws_big.calls _ _ l0 false _ ?side1 ?side2 A2.out).mono ?_); (case side1 => repeat (first | exact HR0.out | (with_reducible refine Kd.C_alloc ?_ _) | (with_reducible refine Kd.C_drewN ?_ _) | (with_reducible refine Kd.C_drew ?_))); (case side2 => exact HC0.out); rintro e w' ⟨rfl, ⟨nd, rfl⟩⟩; (try first | exact ⟨rfl, _, World.drewN_drewN _ _ _⟩ | exact ⟨rfl, _, Eq.trans (World.drewN_drewN _ _ _) (congrArg (World.drewN _) (Nat.add_assoc _ _ _))⟩)) | (go_at_call 30; (with_reducible refine (spec_DrawJoin.calls k _ _ l0 t306 t307 t310 t311 t312 _ ?side1 ?side2 A4.out).mono ?_); (case side1 => repeat (first | exact HR0.out | (with_reducible refine Kd.C_alloc ?_ _) | (with_reducible refine Kd.C_drewN ?_ _) | (with_reducible refine Kd.C_drew ?_))); (case side2 => exact HC0.out); rintro e w8 ⟨v308, rfl, ho0, hb⟩; have n0_ := Aside0.mk (Kd.R_lower ho0 (below_size (bl HB))); have n1_ := Aside0.mk (below_step (bl HB) hb); clear HB; have HO309 := n0_; have HB := n1_; clear n0_ n1_; (try clear hb); (try clear hb2); (try clear hk); (try clear hi); (try clear ho0)) | ((with_reducible refine gate_dst (N := 3) rfl ?_); (try (refine gate_guard (by rfl) ?_; dsimp only)); refine box_event ?hg (N := 3) ?hd (cs := #[.int .i64 0, .slice none 0 0]) (t := 35) ?hr ?_; (case hd => rfl); (case hg => rfl); (case hr => first | (go_simp; done) | (go_simp; rfl)); intro gb313 hg w9 hbox hb; have n0_ := Aside0.mk (Kd.R_below (rl HO309) hb); have n1_ := Aside0.mk (below_step (bl HB) hb); have n2_ := Aside0.mk (hbox); have n3_ := Aside0.mk ((by rw [hg]; exact (below_size (bl HB)) : w.heap.size ≤ gb313)); have n4_ := Aside0.mk ((by rw [hg]; exact (below_size (bl HB)) : w.heap.size ≤ gb313)); clear HO309; clear HB; have HO309 := n0_; have HB := n1_; have BK313 := n2_; have GW313 := n3_; have GE313 := n4_; clear n0_ n1_ n2_ n3_ n4_; clear hb hbox hg; have hcz10_0 : w9.cell? ⟨gb313, 0, none⟩ = some (.int .i64 0) := (blk_cell BK313.out 0).trans rfl; have hcz10_1 : w9.cell? ⟨gb313, 1, none⟩ = some (.slice none 0 0) := (blk_cell BK313.out 1).trans rfl; have hfz10_0 := blk_frozen BK313.out 0; have hfz10_1 := blk_frozen BK313.out 1; obtain ⟨Ao11, co11, eo11⟩ := Kd.R_slice HO309.out; subst eo11) | (go_at_call 27; (with_reducible refine (spec_Join.calls k t306 _ _ t307 t310 t311 t312 t314 t315 t318 t319 _ ?side1 ?side2 A5.out).mono ?_); (case side1 => refine (Kd.R_reads' (e := 51) (base := w.heap.size) (ok := fun k_ => True) (n := t307.length) (c := co11) ?_).2.2; exact (by (with_reducible repeat (first | apply Kd.R_alloc | apply Kd.R_drewN | apply Kd.R_drew)); exact (Kd.R_mono (Kd.R_far (p := ⟨gb313, 1, none⟩) (Kd.R_far (p := ⟨gb313, 0, none⟩) (Kd.R_types HO309.out BK313.out (by decide)) (fun _ hk => hk.2) (.int .i64 t306)) (fun _ hk => hk.2) (.slice Ao11 t307.length co11)) (fun _ h_ => h_.1)))); (case side2 => exact (Kd.R_reads' HO309.out).2.1); rintro e w12 ⟨v316, rfl, ho0, hb⟩; have n0_ := Aside0.mk (Kd.R_elder' (by (with_reducible repeat (first | apply Kd.R_alloc | apply Kd.R_drewN | apply Kd.R_drew)); exact (Kd.R_mono (Kd.R_far (p := ⟨gb313, 1, none⟩) (Kd.R_far (p := ⟨gb313, 0, none⟩) (Kd.R_types HO309.out BK313.out (by decide)) (fun _ hk => hk.2) (.int .i64 t306)) (fun _ hk => hk.2) (.slice Ao11 t307.length co11)) (fun _ h_ => h_.1))) (Kd.R_base ho0) hb); have n1_ := Aside0.mk (Kd.R_lower (Kd.R_new' ho0 (Kd.R_lt (by (with_reducible repeat (first | apply Kd.R_alloc | apply Kd.R_drewN | apply Kd.R_drew)); exact (Kd.R_mono (Kd.R_far (p := ⟨gb313, 1, none⟩) (Kd.R_far (p := ⟨gb313, 0, none⟩) (Kd.R_types HO309.out BK313.out (by decide)) (fun _ hk => hk.2) (.int .i64 t306)) (fun _ hk => hk.2) (.slice Ao11 t307.length co11)) (fun _ h_ => h_.1))))) (below_size (bs HB GE313))); have n2_ := Aside0.mk (blk_below (g := gb313) (o := .cells #[.int .i64 t306, .slice Ao11 t307.length co11] 35 (0, 0)) (by (with_reducible repeat (first | refine blk_drewN ?_ _ | refine blk_drew ?_ | refine blk_alloc ?_ _)); refine blk_put (cs := #[.int .i64 t306, .slice none 0 0]) ?_ 1 _ rfl; (with_reducible repeat (first | refine blk_drewN ?_ _ | refine blk_drew ?_ | refine blk_alloc ?_ _)); refine blk_put (cs := #[.int .i64 0, .slice none 0 0]) ?_ 0 _ rfl; (with_reducible repeat (first | refine blk_drewN ?_ _ | refine blk_drew ?_ | refine blk_alloc ?_ _)); exact BK313.out) hb); have n3_ := Aside0.mk (below_step (bs HB GE313) hb); clear HO309; clear BK313; clear HB; have HO309 := n0_; have HO317 := n1_; have BK313 := n2_; have HB := n3_; clear n0_ n1_ n2_ n3_; (try clear hb); (try clear hb2); (try clear hk); (try clear hi); (try clear ho0)) | ((with_reducible refine gate_dst (N := 7) rfl ?_); (try (refine gate_guard (by rfl) ?_; dsimp only)); refine box_event ?hg (N := 7) ?hd (cs := #[.int .i64 0, .slice none 0 0]) (t := 35) ?hr ?_; (case hd => rfl); (case hg => rfl); (case hr => first | (go_simp; done) | (go_simp; rfl)); intro gb320 hg w13 hbox hb; have n0_ := Aside0.mk (Kd.R_below (rl HO309) hb); have n1_ := Aside0.mk (Kd.R_below (rl HO317) hb); have n2_ := Aside0.mk (blk_below (g := gb313) (o := .cells #[.int .i64 t306, .slice Ao11 t307.length co11] 35 (0, 0)) (bk BK313) hb); have n3_ := Aside0.mk (below_step (bs HB GE313) hb); have n4_ := Aside0.mk (hbox); have n5_ := Aside0.mk ((by rw [hg]; exact (below_size (bs HB GE313)) : w.heap.size ≤ gb320)); have n6_ := Aside0.mk ((by rw [hg]; exact (below_size (bs HB GE313)) : w.heap.size ≤ gb320)); have n7_ := Aside0.mk ((by rw [hg]; exact Nat.ne_of_lt (blk_lt (g := gb313) (o := .cells #[.int .i64 t306, .slice Ao11 t307.length co11] 35 (0, 0)) (bk BK313)) : gb313 ≠ gb320)); have n8_ := Aside0.mk ((by rw [hg]; exact Nat.ne_of_gt (blk_lt (g := gb313) (o := .cells #[.int .i64 t306, .slice Ao11 t307.length co11] 35 (0, 0)) (bk BK313)) : gb320 ≠ gb313)); clear HO309; clear HO317; clear BK313; clear HB; have HO309 := n0_; have HO317 := n1_; have BK313 := n2_; have HB := n3_; have BK320 := n4_; have GW320 := n5_; have GE320 := n6_; have NB313_320 := n7_; have NB320_313 := n8_; clear n0_ n1_ n2_ n3_ n4_ n5_ n6_ n7_ n8_; clear hb hbox hg; have hnb14 := NB320_313.out; have hnc14 := NB313_320.out; have hcz15_0 : w13.cell? ⟨gb320, 0, none⟩ = some (.int .i64 0) := (blk_cell BK320.out 0).trans rfl; have hcz15_1 : w13.cell? ⟨gb320, 1, none⟩ = some (.slice none 0 0) := (blk_cell BK320.out 1).trans rfl; have hfz15_0 := blk_frozen BK320.out 0; have hfz15_1 := blk_frozen BK320.out 1; obtain ⟨Ao16, co16, eo16⟩ := Kd.R_slice HO317.out; subst eo16; have hcz17_0 : w13.cell? ⟨gb313, 0, none⟩ = some (.int .i64 t306) := (blk_cell BK313.out 0).trans rfl; have hcz17_1 : w13.cell? ⟨gb313, 1, none⟩ = some (.slice Ao11 t307.length co11) := (blk_cell BK313.out 1).trans rfl; have hfz17_0 := blk_frozen BK313.out 0; have hfz17_1 := blk_frozen BK313.out 1) | (go_at_call 28; (with_reducible refine (impl_Join.calls k t306 _ _ t307 t310 t311 t312 t321 t322 t325 t326 _ ?side1 ?side2 A6.out).mono ?_); (case side1 => refine (Kd.R_reads' (e := 51) (base := w.heap.size) (ok := fun k_ => (True ∧ some k_ ≠ (.slice Ao16 t315.length co16 : Value).ownBlock)) (n := t307.length) (c := co11) ?_).2.2; exact (by (with_reducible repeat (first | apply Kd.R_alloc | apply Kd.R_drewN | apply Kd.R_drew)); exact (Kd.R_mono (Kd.R_far (p := ⟨gb320, 1, none⟩) (Kd.R_far (p := ⟨gb320, 0, none⟩) (Kd.R_types HO309.out BK320.out (by decide)) (fun _ hk => hk.2) (.int .i64 t314)) (fun _ hk => hk.2) (.slice Ao16 t315.length co16)) (fun _ h_ => h_.1)))); (case side2 => exact (Kd.R_reads' HO309.out).2.1); rintro e w18 ⟨v323, rfl, ho0, hb⟩; have n0_ := Aside0.mk (Kd.R_elder' (by (with_reducible repeat (first | apply Kd.R_alloc | apply Kd.R_drewN | apply Kd.R_drew)); exact (Kd.R_mono (Kd.R_far (p := ⟨gb320, 1, none⟩) (Kd.R_far (p := ⟨gb320, 0, none⟩) (Kd.R_types HO309.out BK320.out (by decide)) (fun _ hk => hk.2) (.int .i64 t314)) (fun _ hk => hk.2) (.slice Ao16 t315.length co16)) (fun _ h_ => h_.1))) (Kd.R_base ho0) hb); have n1_ := Aside0.mk (Kd.R_elder' (by (with_reducible repeat (first | apply Kd.R_alloc | apply Kd.R_drewN | apply Kd.R_drew)); exact (Kd.R_mono (Kd.R_far (p := ⟨gb320, 1, none⟩) (Kd.R_far (p := ⟨gb320, 0, none⟩) (Kd.R_types HO317.out BK320.out (by decide)) (fun _ hk => hk.2) (.int .i64 t314)) (fun _ hk => hk.2) (.slice Ao16 t315.length co16)) (fun _ h_ => h_.1))) (Kd.R_base ho0) hb); have n2_ := Aside0.mk (Kd.R_lower (Kd.R_new' (Kd.R_new' ho0 (Kd.R_lt (by (with_reducible repeat (first | apply Kd.R_alloc | apply Kd.R_drewN | apply Kd.R_drew)); exact (Kd.R_mono (Kd.R_far (p := ⟨gb320, 1, none⟩) (Kd.R_far (p := ⟨gb320, 0, none⟩) (Kd.R_types HO309.out BK320.out (by decide)) (fun _ hk => hk.2) (.int .i64 t314)) (fun _ hk => hk.2) (.slice Ao16 t315.length co16)) (fun _ h_ => h_.1))))) (Kd.R_lt (by (with_reducible repeat (first | apply Kd.R_alloc | apply Kd.R_drewN | apply Kd.R_drew)); exact (Kd.R_mono (Kd.R_far (p := ⟨gb320, 1, none⟩) (Kd.R_far (p := ⟨gb320, 0, none⟩) (Kd.R_types HO317.out BK320.out (by decide)) (fun _ hk => hk.2) (.int .i64 t314)) (fun _ hk => hk.2) (.slice Ao16 t315.length co16)) (fun _ h_ => h_.1))))) (below_size (bs2 HB GE313 GE320))); have n3_ := Aside0.mk (blk_below (g := gb313) (o := .cells #[.int .i64 t306, .slice Ao11 t307.length co11] 35 (0, 0)) (by (with_reducible repeat (first | refine blk_drewN ?_ _ | refine blk_drew ?_ | refine blk_alloc ?_ _)); refine blk_far ?_ NB313_320.out _; (with_reducible repeat (first | refine blk_drewN ?_ _ | refine blk_drew ?_ | refine blk_alloc ?_ _)); refine blk_far ?_ NB313_320.out _; (with_reducible repeat (first | refine blk_drewN ?_ _ | refine blk_drew ?_ | refine blk_alloc ?_ _)); exact BK313.out) hb); have n4_ := Aside0.mk (blk_below (g := gb320) (o := .cells #[.int .i64 t314, .slice Ao16 t315.length co16] 35 (0, 0)) (by (with_reducible repeat (first | refine blk_drewN ?_ _ | refine blk_drew ?_ | refine blk_alloc ?_ _)); refine blk_put (cs := #[.int .i64 t314, .slice none 0 0]) ?_ 1 _ rfl; (with_reducible repeat (first | refine blk_drewN ?_ _ | refine blk_drew ?_ | refine blk_alloc ?_ _)); refine blk_put (cs := #[.int .i64 0, .slice none 0 0]) ?_ 0 _ rfl; (with_reducible repeat (first | refine blk_drewN ?_ _ | refine blk_drew ?_ | refine blk_alloc ?_ _)); exact BK320.out) hb); have n5_ := Aside0.mk (below_step (bs2 HB GE313 GE320) hb); clear HO309; clear HO317; clear BK313; clear BK320; clear HB; have HO309 := n0_; have HO317 := n1_; have HO324 := n2_; have BK313 := n3_; have BK320 := n4_; have HB := n5_; clear n0_ n1_ n2_ n3_ n4_ n5_; (try clear hb); (try clear hb2); (try clear hk); (try clear hi); (try clear ho0)) | ((with_reducible refine gate_dst (N := 10) rfl ?_); (try (refine gate_guard (by rfl) ?_; dsimp only)); refine box_event ?hg (N := 10) ?hd (cs := #[.int .i64 0, .slice none 0 0]) (t := 35) ?hr ?_; (case hd => rfl); (case hg => rfl); (case hr => first | (go_simp; done) | (go_simp; rfl)); intro gb327 hg w19 hbox hb; have n0_ := Aside0.mk (Kd.R_below (rl HO309) hb); have n1_ := Aside0.mk (Kd.R_below (rl HO317) hb); have n2_ := Aside0.mk (Kd.R_below (rl HO324) hb); have n3_ := Aside0.mk (blk_below (g := gb313) (o := .cells #[.int .i64 t306, .slice Ao11 t307.length co11] 35 (0, 0)) (bk BK313) hb); have n4_ := Aside0.mk (blk_below (g := gb320) (o := .cells #[.int .i64 t314, .slice Ao16 t315.length co16] 35 (0, 0)) (bk BK320) hb); have n5_ := Aside0.mk (below_step (bs2 HB GE313 GE320) hb); have n6_ := Aside0.mk (hbox); have n7_ := Aside0.mk ((by rw [hg]; exact (below_size (bs2 HB GE313 GE320)) : w.heap.size ≤ gb327)); have n8_ := Aside0.mk ((by rw [hg]; exact (below_size (bs2 HB GE313 GE320)) : w.heap.size ≤ gb327)); have n9_ := Aside0.mk ((by rw [hg]; exact Nat.ne_of_lt (blk_lt (g := gb313) (o := .cells #[.int .i64 t306, .slice Ao11 t307.length co11] 35 (0, 0)) (bk BK313)) : gb313 ≠ gb327)); have n10_ := Aside0.mk ((by rw [hg]; exact Nat.ne_of_gt (blk_lt (g := gb313) (o := .cells #[.int .i64 t306, .slice Ao11 t307.length co11] 35 (0, 0)) (bk BK313)) : gb327 ≠ gb313)); have n11_ := Aside0.mk ((by rw [hg]; exact Nat.ne_of_lt (blk_lt (g := gb320) (o := .cells #[.int .i64 t314, .slice Ao16 t315.length co16] 35 (0, 0)) (bk BK320)) : gb320 ≠ gb327)); have n12_ := Aside0.mk ((by rw [hg]; exact Nat.ne_of_gt (blk_lt (g := gb320) (o := .cells #[.int .i64 t314, .slice Ao16 t315.length co16] 35 (0, 0)) (bk BK320)) : gb327 ≠ gb320)); clear HO309; clear HO317; clear HO324; clear BK313; clear BK320; clear HB; have HO309 := n0_; have HO317 := n1_; have HO324 := n2_; have BK313 := n3_; have BK320 := n4_; have HB := n5_; have BK327 := n6_; have GW327 := n7_; have GE327 := n8_; have NB313_327 := n9_; have NB327_313 := n10_; have NB320_327 := n11_; have NB327_320 := n12_; clear n0_ n1_ n2_ n3_ n4_ n5_ n6_ n7_ n8_ n9_ n10_ n11_ n12_; clear hb hbox hg; have hnb20 := NB327_313.out; have hnc20 := NB313_327.out; have hnb21 := NB327_320.out; have hnc21 := NB320_327.out; have hcz22_0 : w19.cell? ⟨gb327, 0, none⟩ = some (.int .i64 0) := (blk_cell BK327.out 0).trans rfl; have hcz22_1 : w19.cell? ⟨gb327, 1, none⟩ = some (.slice none 0 0) := (blk_cell BK327.out 1).trans rfl; have hfz22_0 := blk_frozen BK327.out 0; have hfz22_1 := blk_frozen BK327.out 1; obtain ⟨Ao23, co23, eo23⟩ := Kd.R_slice HO324.out; subst eo23)))
  (try simp only [Act.put, List.setIfInBounds_toArray, List.set_cons_zero, List.set_cons_succ])
  go_cut [54] (fun v54 wc => ∃ (kq : Nat) (x54_6 : Bool), v54 = .bool x54_6 ∧ Aside0 (laws_FnForest.j0 kq t310 t311 t325 t326 x54_6 t306 t307 t321 t322 = some r) ∧ Aside0 (kq ≤ k) ∧ Aside0 (Kd.R k51 51 wc w.heap.size (fun k_ => some k_ ≠ ((.slice Ao16 t315.length co16) : Value).ownBlock ∧ some k_ ≠ ((.slice Ao23 t322.length co23) : Value).ownBlock) (.slice Ao11 t307.length co11) t307) ∧ Aside0 (Kd.R k51 51 wc w.heap.size (fun k_ => some k_ ≠ ((.slice Ao11 t307.length co11) : Value).ownBlock ∧ some k_ ≠ ((.slice Ao23 t322.length co23) : Value).ownBlock) (.slice Ao16 t315.length co16) t315) ∧ Aside0 (Kd.R k51 51 wc w.heap.size (fun k_ => some k_ ≠ ((.slice Ao11 t307.length co11) : Value).ownBlock ∧ some k_ ≠ ((.slice Ao16 t315.length co16) : Value).ownBlock) (.slice Ao23 t322.length co23) t322) ∧ Aside0 (wc.heap[gb313]? = some (.cells #[.int .i64 t306, (.slice Ao11 t307.length co11)] 35 (0, 0))) ∧ Aside0 (wc.heap[gb320]? = some (.cells #[.int .i64 t314, (.slice Ao16 t315.length co16)] 35 (0, 0))) ∧ Aside0 (wc.heap[gb327]? = some (.cells #[.int .i64 t321, (.slice Ao23 t322.length co23)] 35 (0, 0))) ∧ Aside0 (Below w.heap.size w wc))
  case first =>
   have H := HC7.out
   clear HC7
   by_cases c24 : (t326 != t319) = true
   ·rw [if_pos c24] at H
    have c24b0 : (t326 != t319) = true := c24
    (try (have c24b1 : decide (t326 = t319) = false := by simpa using c24))
    (try (have c24b2 : (t326 == t319) = false := by simpa using c24))
    (try (have c24b3 : ¬ (t326 = t319) := by simpa using c24))
    clear c24
    (first | rw [c24b0] | (simp only [i64_w, i32_w]; rw [c24b0]) | skip)
    have H' := Aside0.mk H
    clear H
    go_wp2
    repeat (go_quiet (fail); try go_wp2)
    go_meet
    case rel => exact ⟨_, (true), (by first | rfl | (simp; done) | (simp [*]; done) | (simp only [bne_nil_]; done) | (simp [bne_nil_]; done)), H', ⟨by first | omega | exact Nat.le_refl _⟩, ⟨by (with_reducible repeat (first | apply Kd.R_alloc | apply Kd.R_drewN | apply Kd.R_drew)); exact Kd.R_mono (Kd.R_far (p := ⟨gb327, 1, none⟩) (Kd.R_far (p := ⟨gb327, 0, none⟩) (Kd.R_types HO309.out BK327.out (by decide)) (fun _ hk => hk.2) (.int .i64 t321)) (fun _ hk => hk.2) (.slice Ao23 t322.length co23)) (fun _ hk => ⟨hk.1.1.2, hk.1.2⟩)⟩, ⟨by (with_reducible repeat (first | apply Kd.R_alloc | apply Kd.R_drewN | apply Kd.R_drew)); exact Kd.R_mono (Kd.R_far (p := ⟨gb327, 1, none⟩) (Kd.R_far (p := ⟨gb327, 0, none⟩) (Kd.R_types HO317.out BK327.out (by decide)) (fun _ hk => hk.2) (.int .i64 t321)) (fun _ hk => hk.2) (.slice Ao23 t322.length co23)) (fun _ hk => ⟨hk.1.1.2, hk.1.2⟩)⟩, ⟨by (with_reducible repeat (first | apply Kd.R_alloc | apply Kd.R_drewN | apply Kd.R_drew)); exact Kd.R_mono (Kd.R_far (p := ⟨gb327, 1, none⟩) (Kd.R_far (p := ⟨gb327, 0, none⟩) (Kd.R_types HO324.out BK327.out (by decide)) (fun _ hk => hk.2) (.int .i64 t321)) (fun _ hk => hk.2) (.slice Ao23 t322.length co23)) (fun _ hk => ⟨hk.1.1.2, hk.1.2⟩)⟩, ⟨by (with_reducible repeat (first | refine blk_drewN ?_ _ | refine blk_drew ?_ | refine blk_alloc ?_ _)); refine blk_far ?_ NB313_327.out _; (with_reducible repeat (first | refine blk_drewN ?_ _ | refine blk_drew ?_ | refine blk_alloc ?_ _)); refine blk_far ?_ NB313_327.out _; (with_reducible repeat (first | refine blk_drewN ?_ _ | refine blk_drew ?_ | refine blk_alloc ?_ _)); exact BK313.out⟩, ⟨by (with_reducible repeat (first | refine blk_drewN ?_ _ | refine blk_drew ?_ | refine blk_alloc ?_ _)); refine blk_far ?_ NB320_327.out _; (with_reducible repeat (first | refine blk_drewN ?_ _ | refine blk_drew ?_ | refine blk_alloc ?_ _)); refine blk_far ?_ NB320_327.out _; (with_reducible repeat (first | refine blk_drewN ?_ _ | refine blk_drew ?_ | refine blk_alloc ?_ _)); exact BK320.out⟩, ⟨by (with_reducible repeat (first | refine blk_drewN ?_ _ | refine blk_drew ?_ | refine blk_alloc ?_ _)); refine blk_put (cs := #[.int .i64 t321, .slice none 0 0]) ?_ 1 _ rfl; (with_reducible repeat (first | refine blk_drewN ?_ _ | refine blk_drew ?_ | refine blk_alloc ?_ _)); refine blk_put (cs := #[.int .i64 0, .slice none 0 0]) ?_ 0 _ rfl; (with_reducible repeat (first | refine blk_drewN ?_ _ | refine blk_drew ?_ | refine blk_alloc ?_ _)); exact BK327.out⟩, ⟨bs3 HB GE313 GE320 GE327⟩⟩
   ·rw [if_neg c24] at H
    have c24b0 : (t326 != t319) = false := by simpa using c24
    (try (have c24b1 : decide (t326 = t319) = true := by simpa using c24))
    (try (have c24b2 : (t326 == t319) = true := by simpa using c24))
    clear c24
    (first | rw [c24b0] | (simp only [i64_w, i32_w]; rw [c24b0]) | skip)
    have H' := Aside0.mk H
    clear H
    go_wp2
    repeat (go_quiet (fail); try go_wp2)
    go_meet
    case rel => exact ⟨_, ((t325 != t318)), (by first | rfl | (simp; done) | (simp [*]; done) | (simp only [bne_nil_]; done) | (simp [bne_nil_]; done)), H', ⟨by first | omega | exact Nat.le_refl _⟩, ⟨by (with_reducible repeat (first | apply Kd.R_alloc | apply Kd.R_drewN | apply Kd.R_drew)); exact Kd.R_mono (Kd.R_far (p := ⟨gb327, 1, none⟩) (Kd.R_far (p := ⟨gb327, 0, none⟩) (Kd.R_types HO309.out BK327.out (by decide)) (fun _ hk => hk.2) (.int .i64 t321)) (fun _ hk => hk.2) (.slice Ao23 t322.length co23)) (fun _ hk => ⟨hk.1.1.2, hk.1.2⟩)⟩, ⟨by (with_reducible repeat (first | apply Kd.R_alloc | apply Kd.R_drewN | apply Kd.R_drew)); exact Kd.R_mono (Kd.R_far (p := ⟨gb327, 1, none⟩) (Kd.R_far (p := ⟨gb327, 0, none⟩) (Kd.R_types HO317.out BK327.out (by decide)) (fun _ hk => hk.2) (.int .i64 t321)) (fun _ hk => hk.2) (.slice Ao23 t322.length co23)) (fun _ hk => ⟨hk.1.1.2, hk.1.2⟩)⟩, ⟨by (with_reducible repeat (first | apply Kd.R_alloc | apply Kd.R_drewN | apply Kd.R_drew)); exact Kd.R_mono (Kd.R_far (p := ⟨gb327, 1, none⟩) (Kd.R_far (p := ⟨gb327, 0, none⟩) (Kd.R_types HO324.out BK327.out (by decide)) (fun _ hk => hk.2) (.int .i64 t321)) (fun _ hk => hk.2) (.slice Ao23 t322.length co23)) (fun _ hk => ⟨hk.1.1.2, hk.1.2⟩)⟩, ⟨by (with_reducible repeat (first | refine blk_drewN ?_ _ | refine blk_drew ?_ | refine blk_alloc ?_ _)); refine blk_far ?_ NB313_327.out _; (with_reducible repeat (first | refine blk_drewN ?_ _ | refine blk_drew ?_ | refine blk_alloc ?_ _)); refine blk_far ?_ NB313_327.out _; (with_reducible repeat (first | refine blk_drewN ?_ _ | refine blk_drew ?_ | refine blk_alloc ?_ _)); exact BK313.out⟩, ⟨by (with_reducible repeat (first | refine blk_drewN ?_ _ | refine blk_drew ?_ | refine blk_alloc ?_ _)); refine blk_far ?_ NB320_327.out _; (with_reducible repeat (first | refine blk_drewN ?_ _ | refine blk_drew ?_ | refine blk_alloc ?_ _)); refine blk_far ?_ NB320_327.out _; (with_reducible repeat (first | refine blk_drewN ?_ _ | refine blk_drew ?_ | refine blk_alloc ?_ _)); exact BK320.out⟩, ⟨by (with_reducible repeat (first | refine blk_drewN ?_ _ | refine blk_drew ?_ | refine blk_alloc ?_ _)); refine blk_put (cs := #[.int .i64 t321, .slice none 0 0]) ?_ 1 _ rfl; (with_reducible repeat (first | refine blk_drewN ?_ _ | refine blk_drew ?_ | refine blk_alloc ?_ _)); refine blk_put (cs := #[.int .i64 0, .slice none 0 0]) ?_ 0 _ rfl; (with_reducible repeat (first | refine blk_drewN ?_ _ | refine blk_drew ?_ | refine blk_alloc ?_ _)); exact BK327.out⟩, ⟨bs3 HB GE313 GE320 GE327⟩⟩
  case rest =>
   clear HC7
   try clear c1
   try clear c2
   try clear p2
   try clear c3
   try clear c6
   try clear c14
   try clear c20
   try clear c21
   try clear c24
   try clear c24b0
   try clear c24b1
   try clear c24b2
   try clear hcz10_0
   try clear hcz10_1
   try clear hcz15_0
   try clear hcz15_1
   try clear hcz17_0
   try clear hcz17_1
   try clear hcz22_0
   try clear hcz22_1
   try clear hfz10_0
   try clear hfz10_1
   try clear hfz15_0
   try clear hfz15_1
   try clear hfz17_0
   try clear hfz17_1
   try clear hfz22_0
   try clear hfz22_1
   obtain ⟨kq, x54_6, rfl, HA, HJ6, HO_314001, HO_321001, HO_328001, BK313, BK320, BK327, HB⟩ := hcut
   cases kq with
   | zero => exact absurd HA.out (by simp [laws_FnForest.j0])
   | succ kj6 =>
    have H := HA.out
    clear HA
    simp only [laws_FnForest.j0] at H
    by_cases c25 : x54_6 = true
    ·subst c25
     have H1 : (some false) = some r := by rw [if_pos rfl] at H; exact H
     clear H
     have H := H1
     clear H1
     subst hrt
     exact absurd H (by simp)
    ·replace c25 := Bool.eq_false_iff.mpr c25
     subst c25
     have H1 : (if t326 = true then ((impl_Root.f kj6 t306 t307 t310).bind fun t328 => ((impl_Root.f kj6 t306 t307 t311).bind fun t329 => ((impl_Root.f kj6 t321 t322 t310).bind fun t330 => (if t330 = (mn t328 t329) then ((impl_Root.f kj6 t321 t322 t311).bind fun t331 => (if t331 = (mn t328 t329) then ((impl_ForestOk.f kj6 t321 t322).bind fun t332 => (if t332 = true then (laws_FnForest.j1 kj6 t310 t311 ((t328 == t329) != (!t325)) t306 t307 t321 t322) else (laws_FnForest.j1 kj6 t310 t311 true t306 t307 t321 t322))) else (laws_FnForest.j1 kj6 t310 t311 true t306 t307 t321 t322))) else (laws_FnForest.j1 kj6 t310 t311 true t306 t307 t321 t322))))) else (some true)) = some r := by rw [if_neg (show ¬ (false = true) by decide)] at H; exact H
     clear H
     have H := H1
     clear H1
     by_cases c26 : t326 = true
     ·subst c26
      have H1 : ((impl_Root.f kj6 t306 t307 t310).bind fun t328 => ((impl_Root.f kj6 t306 t307 t311).bind fun t329 => ((impl_Root.f kj6 t321 t322 t310).bind fun t330 => (if t330 = (mn t328 t329) then ((impl_Root.f kj6 t321 t322 t311).bind fun t331 => (if t331 = (mn t328 t329) then ((impl_ForestOk.f kj6 t321 t322).bind fun t332 => (if t332 = true then (laws_FnForest.j1 kj6 t310 t311 ((t328 == t329) != (!t325)) t306 t307 t321 t322) else (laws_FnForest.j1 kj6 t310 t311 true t306 t307 t321 t322))) else (laws_FnForest.j1 kj6 t310 t311 true t306 t307 t321 t322))) else (laws_FnForest.j1 kj6 t310 t311 true t306 t307 t321 t322))))) = some r := by rw [if_pos rfl] at H; exact H
      clear H
      have H := H1
      clear H1
      replace H := Option.bind_eq_some_iff.mp H
      obtain ⟨t328, A270, H⟩ := H
      replace H : ((impl_Root.f kj6 t306 t307 t311).bind fun t329 => ((impl_Root.f kj6 t321 t322 t310).bind fun t330 => (if t330 = (mn t328 t329) then ((impl_Root.f kj6 t321 t322 t311).bind fun t331 => (if t331 = (mn t328 t329) then ((impl_ForestOk.f kj6 t321 t322).bind fun t332 => (if t332 = true then (laws_FnForest.j1 kj6 t310 t311 ((t328 == t329) != (!t325)) t306 t307 t321 t322) else (laws_FnForest.j1 kj6 t310 t311 true t306 t307 t321 t322))) else (laws_FnForest.j1 kj6 t310 t311 true t306 t307 t321 t322))) else (laws_FnForest.j1 kj6 t310 t311 true t306 t307 t321 t322)))) = some r := H
      have A27 := Aside0.mk A270
      clear A270
      replace H := Option.bind_eq_some_iff.mp H
      obtain ⟨t329, A280, H⟩ := H
      replace H : ((impl_Root.f kj6 t321 t322 t310).bind fun t330 => (if t330 = (mn t328 t329) then ((impl_Root.f kj6 t321 t322 t311).bind fun t331 => (if t331 = (mn t328 t329) then ((impl_ForestOk.f kj6 t321 t322).bind fun t332 => (if t332 = true then (laws_FnForest.j1 kj6 t310 t311 ((t328 == t329) != (!t325)) t306 t307 t321 t322) else (laws_FnForest.j1 kj6 t310 t311 true t306 t307 t321 t322))) else (laws_FnForest.j1 kj6 t310 t311 true t306 t307 t321 t322))) else (laws_FnForest.j1 kj6 t310 t311 true t306 t307 t321 t322))) = some r := H
      have A28 := Aside0.mk A280
      clear A280
      have HC29 := Aside0.mk H
      clear H
      have hnb30 := NB313_320.out
      have hnc30 := NB320_313.out
      have hnb31 := NB313_327.out
      have hnc31 := NB327_313.out
      have hcz32_0 : wc.cell? ⟨gb313, 0, none⟩ = some (.int .i64 t306) := (blk_cell BK313.out 0).trans rfl
      have hcz32_1 : wc.cell? ⟨gb313, 1, none⟩ = some (.slice Ao11 t307.length co11) := (blk_cell BK313.out 1).trans rfl
      have hfz32_0 := blk_frozen BK313.out 0
      have hfz32_1 := blk_frozen BK313.out 1
      go_upto_region 12 with (first | (go_at_call 31; (with_reducible refine (impl_Root.calls kj6 t306 _ _ t307 t310 t328 _ ?side1 ?side2 A27.out).mono ?_); (case side1 => repeat (first | exact (Kd.R_reads' HO_314001.out).2.2 | (with_reducible refine Kd.C_alloc ?_ _) | (with_reducible refine Kd.C_drewN ?_ _) | (with_reducible refine Kd.C_drew ?_))); (case side2 => exact (Kd.R_reads' HO_314001.out).2.1); rintro e w33 ⟨rfl, hb⟩; have n0_ := Aside0.mk (Kd.R_below (rl HO_314001) hb); have n1_ := Aside0.mk (Kd.R_below (rl HO_321001) hb); have n2_ := Aside0.mk (Kd.R_below (rl HO_328001) hb); have n3_ := Aside0.mk (blk_below (g := gb313) (o := .cells #[.int .i64 t306, .slice Ao11 t307.length co11] 35 (0, 0)) (bk BK313) hb); have n4_ := Aside0.mk (blk_below (g := gb320) (o := .cells #[.int .i64 t314, .slice Ao16 t315.length co16] 35 (0, 0)) (bk BK320) hb); have n5_ := Aside0.mk (blk_below (g := gb327) (o := .cells #[.int .i64 t321, .slice Ao23 t322.length co23] 35 (0, 0)) (bk BK327) hb); have n6_ := Aside0.mk (below_step (bs3 HB GE313 GE320 GE327) hb); clear HO_314001; clear HO_321001; clear HO_328001; clear BK313; clear BK320; clear BK327; clear HB; have HO_314001 := n0_; have HO_321001 := n1_; have HO_328001 := n2_; have BK313 := n3_; have BK320 := n4_; have BK327 := n5_; have HB := n6_; clear n0_ n1_ n2_ n3_ n4_ n5_ n6_; (try clear hb); (try clear hb2); (try clear hk); (try clear hi); have hcz34_0 : w33.cell? ⟨gb313, 0, none⟩ = some (.int .i64 t306) := (blk_cell BK313.out 0).trans rfl; have hcz34_1 : w33.cell? ⟨gb313, 1, none⟩ = some (.slice Ao11 t307.length co11) := (blk_cell BK313.out 1).trans rfl; have hfz34_0 := blk_frozen BK313.out 0; have hfz34_1 := blk_frozen BK313.out 1) | (go_at_call 31; (with_reducible refine (impl_Root.calls kj6 t306 _ _ t307 t311 t329 _ ?side1 ?side2 A28.out).mono ?_); (case side1 => repeat (first | exact (Kd.R_reads' HO_314001.out).2.2 | (with_reducible refine Kd.C_alloc ?_ _) | (with_reducible refine Kd.C_drewN ?_ _) | (with_reducible refine Kd.C_drew ?_))); (case side2 => exact (Kd.R_reads' HO_314001.out).2.1); rintro e w35 ⟨rfl, hb⟩; have n0_ := Aside0.mk (Kd.R_below (rl HO_314001) hb); have n1_ := Aside0.mk (Kd.R_below (rl HO_321001) hb); have n2_ := Aside0.mk (Kd.R_below (rl HO_328001) hb); have n3_ := Aside0.mk (blk_below (g := gb313) (o := .cells #[.int .i64 t306, .slice Ao11 t307.length co11] 35 (0, 0)) (bk BK313) hb); have n4_ := Aside0.mk (blk_below (g := gb320) (o := .cells #[.int .i64 t314, .slice Ao16 t315.length co16] 35 (0, 0)) (bk BK320) hb); have n5_ := Aside0.mk (blk_below (g := gb327) (o := .cells #[.int .i64 t321, .slice Ao23 t322.length co23] 35 (0, 0)) (bk BK327) hb); have n6_ := Aside0.mk (below_step (bs3 HB GE313 GE320 GE327) hb); clear HO_314001; clear HO_321001; clear HO_328001; clear BK313; clear BK320; clear BK327; clear HB; have HO_314001 := n0_; have HO_321001 := n1_; have HO_328001 := n2_; have BK313 := n3_; have BK320 := n4_; have BK327 := n5_; have HB := n6_; clear n0_ n1_ n2_ n3_ n4_ n5_ n6_; (try clear hb); (try clear hb2); (try clear hk); (try clear hi)))
      repeat (go_quiet (first | (go_at_call 31; (with_reducible refine (impl_Root.calls kj6 t306 _ _ t307 t310 t328 _ ?side1 ?side2 A27.out).mono ?_); (case side1 => repeat (first | exact (Kd.R_reads' HO_314001.out).2.2 | (with_reducible refine Kd.C_alloc ?_ _) | (with_reducible refine Kd.C_drewN ?_ _) | (with_reducible refine Kd.C_drew ?_))); (case side2 => exact (Kd.R_reads' HO_314001.out).2.1); rintro e w33 ⟨rfl, hb⟩; have n0_ := Aside0.mk (Kd.R_below (rl HO_314001) hb); have n1_ := Aside0.mk (Kd.R_below (rl HO_321001) hb); have n2_ := Aside0.mk (Kd.R_below (rl HO_328001) hb); have n3_ := Aside0.mk (blk_below (g := gb313) (o := .cells #[.int .i64 t306, .slice Ao11 t307.length co11] 35 (0, 0)) (bk BK313) hb); have n4_ := Aside0.mk (blk_below (g := gb320) (o := .cells #[.int .i64 t314, .slice Ao16 t315.length co16] 35 (0, 0)) (bk BK320) hb); have n5_ := Aside0.mk (blk_below (g := gb327) (o := .cells #[.int .i64 t321, .slice Ao23 t322.length co23] 35 (0, 0)) (bk BK327) hb); have n6_ := Aside0.mk (below_step (bs3 HB GE313 GE320 GE327) hb); clear HO_314001; clear HO_321001; clear HO_328001; clear BK313; clear BK320; clear BK327; clear HB; have HO_314001 := n0_; have HO_321001 := n1_; have HO_328001 := n2_; have BK313 := n3_; have BK320 := n4_; have BK327 := n5_; have HB := n6_; clear n0_ n1_ n2_ n3_ n4_ n5_ n6_; (try clear hb); (try clear hb2); (try clear hk); (try clear hi); have hcz34_0 : w33.cell? ⟨gb313, 0, none⟩ = some (.int .i64 t306) := (blk_cell BK313.out 0).trans rfl; have hcz34_1 : w33.cell? ⟨gb313, 1, none⟩ = some (.slice Ao11 t307.length co11) := (blk_cell BK313.out 1).trans rfl; have hfz34_0 := blk_frozen BK313.out 0; have hfz34_1 := blk_frozen BK313.out 1) | (go_at_call 31; (with_reducible refine (impl_Root.calls kj6 t306 _ _ t307 t311 t329 _ ?side1 ?side2 A28.out).mono ?_); (case side1 => repeat (first | exact (Kd.R_reads' HO_314001.out).2.2 | (with_reducible refine Kd.C_alloc ?_ _) | (with_reducible refine Kd.C_drewN ?_ _) | (with_reducible refine Kd.C_drew ?_))); (case side2 => exact (Kd.R_reads' HO_314001.out).2.1); rintro e w35 ⟨rfl, hb⟩; have n0_ := Aside0.mk (Kd.R_below (rl HO_314001) hb); have n1_ := Aside0.mk (Kd.R_below (rl HO_321001) hb); have n2_ := Aside0.mk (Kd.R_below (rl HO_328001) hb); have n3_ := Aside0.mk (blk_below (g := gb313) (o := .cells #[.int .i64 t306, .slice Ao11 t307.length co11] 35 (0, 0)) (bk BK313) hb); have n4_ := Aside0.mk (blk_below (g := gb320) (o := .cells #[.int .i64 t314, .slice Ao16 t315.length co16] 35 (0, 0)) (bk BK320) hb); have n5_ := Aside0.mk (blk_below (g := gb327) (o := .cells #[.int .i64 t321, .slice Ao23 t322.length co23] 35 (0, 0)) (bk BK327) hb); have n6_ := Aside0.mk (below_step (bs3 HB GE313 GE320 GE327) hb); clear HO_314001; clear HO_321001; clear HO_328001; clear BK313; clear BK320; clear BK327; clear HB; have HO_314001 := n0_; have HO_321001 := n1_; have HO_328001 := n2_; have BK313 := n3_; have BK320 := n4_; have BK327 := n5_; have HB := n6_; clear n0_ n1_ n2_ n3_ n4_ n5_ n6_; (try clear hb); (try clear hb2); (try clear hk); (try clear hi))); go_upto_region 12 with (first | (go_at_call 31; (with_reducible refine (impl_Root.calls kj6 t306 _ _ t307 t310 t328 _ ?side1 ?side2 A27.out).mono ?_); (case side1 => repeat (first | exact (Kd.R_reads' HO_314001.out).2.2 | (with_reducible refine Kd.C_alloc ?_ _) | (with_reducible refine Kd.C_drewN ?_ _) | (with_reducible refine Kd.C_drew ?_))); (case side2 => exact (Kd.R_reads' HO_314001.out).2.1); rintro e w33 ⟨rfl, hb⟩; have n0_ := Aside0.mk (Kd.R_below (rl HO_314001) hb); have n1_ := Aside0.mk (Kd.R_below (rl HO_321001) hb); have n2_ := Aside0.mk (Kd.R_below (rl HO_328001) hb); have n3_ := Aside0.mk (blk_below (g := gb313) (o := .cells #[.int .i64 t306, .slice Ao11 t307.length co11] 35 (0, 0)) (bk BK313) hb); have n4_ := Aside0.mk (blk_below (g := gb320) (o := .cells #[.int .i64 t314, .slice Ao16 t315.length co16] 35 (0, 0)) (bk BK320) hb); have n5_ := Aside0.mk (blk_below (g := gb327) (o := .cells #[.int .i64 t321, .slice Ao23 t322.length co23] 35 (0, 0)) (bk BK327) hb); have n6_ := Aside0.mk (below_step (bs3 HB GE313 GE320 GE327) hb); clear HO_314001; clear HO_321001; clear HO_328001; clear BK313; clear BK320; clear BK327; clear HB; have HO_314001 := n0_; have HO_321001 := n1_; have HO_328001 := n2_; have BK313 := n3_; have BK320 := n4_; have BK327 := n5_; have HB := n6_; clear n0_ n1_ n2_ n3_ n4_ n5_ n6_; (try clear hb); (try clear hb2); (try clear hk); (try clear hi); have hcz34_0 : w33.cell? ⟨gb313, 0, none⟩ = some (.int .i64 t306) := (blk_cell BK313.out 0).trans rfl; have hcz34_1 : w33.cell? ⟨gb313, 1, none⟩ = some (.slice Ao11 t307.length co11) := (blk_cell BK313.out 1).trans rfl; have hfz34_0 := blk_frozen BK313.out 0; have hfz34_1 := blk_frozen BK313.out 1) | (go_at_call 31; (with_reducible refine (impl_Root.calls kj6 t306 _ _ t307 t311 t329 _ ?side1 ?side2 A28.out).mono ?_); (case side1 => repeat (first | exact (Kd.R_reads' HO_314001.out).2.2 | (with_reducible refine Kd.C_alloc ?_ _) | (with_reducible refine Kd.C_drewN ?_ _) | (with_reducible refine Kd.C_drew ?_))); (case side2 => exact (Kd.R_reads' HO_314001.out).2.1); rintro e w35 ⟨rfl, hb⟩; have n0_ := Aside0.mk (Kd.R_below (rl HO_314001) hb); have n1_ := Aside0.mk (Kd.R_below (rl HO_321001) hb); have n2_ := Aside0.mk (Kd.R_below (rl HO_328001) hb); have n3_ := Aside0.mk (blk_below (g := gb313) (o := .cells #[.int .i64 t306, .slice Ao11 t307.length co11] 35 (0, 0)) (bk BK313) hb); have n4_ := Aside0.mk (blk_below (g := gb320) (o := .cells #[.int .i64 t314, .slice Ao16 t315.length co16] 35 (0, 0)) (bk BK320) hb); have n5_ := Aside0.mk (blk_below (g := gb327) (o := .cells #[.int .i64 t321, .slice Ao23 t322.length co23] 35 (0, 0)) (bk BK327) hb); have n6_ := Aside0.mk (below_step (bs3 HB GE313 GE320 GE327) hb); clear HO_314001; clear HO_321001; clear HO_328001; clear BK313; clear BK320; clear BK327; clear HB; have HO_314001 := n0_; have HO_321001 := n1_; have HO_328001 := n2_; have BK313 := n3_; have BK320 := n4_; have BK327 := n5_; have HB := n6_; clear n0_ n1_ n2_ n3_ n4_ n5_ n6_; (try clear hb); (try clear hb2); (try clear hk); (try clear hi))))
      (try simp only [Act.put, List.setIfInBounds_toArray, List.set_cons_zero, List.set_cons_succ])
      go_cut [91] (fun v91 wc => ∃ (kq : Nat) (x91_28 : Bool), v91 = .bool x91_28 ∧ Aside0 (laws_FnForest.j1 kq t310 t311 x91_28 t306 t307 t321 t322 = some r) ∧ Aside0 (kq ≤ kj6) ∧ Aside0 (Kd.R k51 51 wc w.heap.size (fun k_ => some k_ ≠ ((.slice Ao16 t315.length co16) : Value).ownBlock ∧ some k_ ≠ ((.slice Ao23 t322.length co23) : Value).ownBlock) (.slice Ao11 t307.length co11) t307) ∧ Aside0 (Kd.R k51 51 wc w.heap.size (fun k_ => some k_ ≠ ((.slice Ao11 t307.length co11) : Value).ownBlock ∧ some k_ ≠ ((.slice Ao23 t322.length co23) : Value).ownBlock) (.slice Ao16 t315.length co16) t315) ∧ Aside0 (Kd.R k51 51 wc w.heap.size (fun k_ => some k_ ≠ ((.slice Ao11 t307.length co11) : Value).ownBlock ∧ some k_ ≠ ((.slice Ao16 t315.length co16) : Value).ownBlock) (.slice Ao23 t322.length co23) t322) ∧ Aside0 (wc.heap[gb313]? = some (.cells #[.int .i64 t306, (.slice Ao11 t307.length co11)] 35 (0, 0))) ∧ Aside0 (wc.heap[gb320]? = some (.cells #[.int .i64 t314, (.slice Ao16 t315.length co16)] 35 (0, 0))) ∧ Aside0 (wc.heap[gb327]? = some (.cells #[.int .i64 t321, (.slice Ao23 t322.length co23)] 35 (0, 0))) ∧ Aside0 (Below w.heap.size w wc))
      case first =>
       have H := HC29.out
       clear HC29
       replace H := Option.bind_eq_some_iff.mp H
       obtain ⟨t330, A360, H⟩ := H
       replace H : (if t330 = (mn t328 t329) then ((impl_Root.f kj6 t321 t322 t311).bind fun t331 => (if t331 = (mn t328 t329) then ((impl_ForestOk.f kj6 t321 t322).bind fun t332 => (if t332 = true then (laws_FnForest.j1 kj6 t310 t311 ((t328 == t329) != (!t325)) t306 t307 t321 t322) else (laws_FnForest.j1 kj6 t310 t311 true t306 t307 t321 t322))) else (laws_FnForest.j1 kj6 t310 t311 true t306 t307 t321 t322))) else (laws_FnForest.j1 kj6 t310 t311 true t306 t307 t321 t322)) = some r := H
       have A36 := Aside0.mk A360
       clear A360
       obtain ⟨ji37, hji37⟩ : ∃ j_ : Int, (mn t328 t329) = j_ := ⟨_, rfl⟩
       replace H : (if t330 = (ji37) then ((impl_Root.f kj6 t321 t322 t311).bind fun t331 => (if t331 = (ji37) then ((impl_ForestOk.f kj6 t321 t322).bind fun t332 => (if t332 = true then (laws_FnForest.j1 kj6 t310 t311 ((t328 == t329) != (!t325)) t306 t307 t321 t322) else (laws_FnForest.j1 kj6 t310 t311 true t306 t307 t321 t322))) else (laws_FnForest.j1 kj6 t310 t311 true t306 t307 t321 t322))) else (laws_FnForest.j1 kj6 t310 t311 true t306 t307 t321 t322)) = some r := by first | (rw [hji37] at H; exact H) | (simp only [hji37] at H ⊢; exact H)
       (try rw [hji37] at A36)
       have hji37_ : (if t329 < t328 then t329 else t328) = ji37 := hji37
       by_cases c38 : t330 = (ji37)
       ·rw [if_pos c38] at H
        have c38b0 : (t330 == (ji37)) = true := beq_iff_eq.mpr c38
        have c38b1 : (t330 != (ji37)) = false := bne_eq_false_iff_eq.mpr c38
        clear c38
        (first | rw [c38b0] | (simp only [i64_w, i32_w]; rw [c38b0]) | skip)
        replace H := Option.bind_eq_some_iff.mp H
        obtain ⟨t331, A390, H⟩ := H
        replace H : (if t331 = (ji37) then ((impl_ForestOk.f kj6 t321 t322).bind fun t332 => (if t332 = true then (laws_FnForest.j1 kj6 t310 t311 ((t328 == t329) != (!t325)) t306 t307 t321 t322) else (laws_FnForest.j1 kj6 t310 t311 true t306 t307 t321 t322))) else (laws_FnForest.j1 kj6 t310 t311 true t306 t307 t321 t322)) = some r := H
        have A39 := Aside0.mk A390
        clear A390
        by_cases c41 : t331 = (ji37)
        ·rw [if_pos c41] at H
         have c41b0 : (t331 == (ji37)) = true := beq_iff_eq.mpr c41
         have c41b1 : (t331 != (ji37)) = false := bne_eq_false_iff_eq.mpr c41
         clear c41
         replace H := Option.bind_eq_some_iff.mp H
         obtain ⟨t332, A420, H⟩ := H
         replace H : (if t332 = true then (laws_FnForest.j1 kj6 t310 t311 ((t328 == t329) != (!t325)) t306 t307 t321 t322) else (laws_FnForest.j1 kj6 t310 t311 true t306 t307 t321 t322)) = some r := H
         have A42 := Aside0.mk A420
         clear A420
         by_cases c43 : t332 = true
         ·subst c43
          have H1 : (laws_FnForest.j1 kj6 t310 t311 ((t328 == t329) != (!t325)) t306 t307 t321 t322) = some r := by rw [if_pos rfl] at H; exact H
          clear H
          have H := H1
          clear H1
          have H' := Aside0.mk H
          clear H
          have hnb44 := NB327_313.out
          have hnc44 := NB313_327.out
          have hnb45 := NB327_320.out
          have hnc45 := NB320_327.out
          have hcz46_0 : w35.cell? ⟨gb327, 0, none⟩ = some (.int .i64 t321) := (blk_cell BK327.out 0).trans rfl
          have hcz46_1 : w35.cell? ⟨gb327, 1, none⟩ = some (.slice Ao23 t322.length co23) := (blk_cell BK327.out 1).trans rfl
          have hfz46_0 := blk_frozen BK327.out 0
          have hfz46_1 := blk_frozen BK327.out 1
          go_wp2_with (first | (go_at_call 31; (with_reducible refine (impl_Root.calls kj6 t321 _ _ t322 t310 t330 _ ?side1 ?side2 A36.out).mono ?_); (case side1 => repeat (first | exact (Kd.R_reads' HO_328001.out).2.2 | (with_reducible refine Kd.C_alloc ?_ _) | (with_reducible refine Kd.C_drewN ?_ _) | (with_reducible refine Kd.C_drew ?_))); (case side2 => exact (Kd.R_reads' HO_328001.out).2.1); rintro e w47 ⟨rfl, hb⟩; have n0_ := Aside0.mk (Kd.R_below (rl HO_314001) hb); have n1_ := Aside0.mk (Kd.R_below (rl HO_321001) hb); have n2_ := Aside0.mk (Kd.R_below (rl HO_328001) hb); have n3_ := Aside0.mk (blk_below (g := gb313) (o := .cells #[.int .i64 t306, .slice Ao11 t307.length co11] 35 (0, 0)) (bk BK313) hb); have n4_ := Aside0.mk (blk_below (g := gb320) (o := .cells #[.int .i64 t314, .slice Ao16 t315.length co16] 35 (0, 0)) (bk BK320) hb); have n5_ := Aside0.mk (blk_below (g := gb327) (o := .cells #[.int .i64 t321, .slice Ao23 t322.length co23] 35 (0, 0)) (bk BK327) hb); have n6_ := Aside0.mk (below_step (bs3 HB GE313 GE320 GE327) hb); clear HO_314001; clear HO_321001; clear HO_328001; clear BK313; clear BK320; clear BK327; clear HB; have HO_314001 := n0_; have HO_321001 := n1_; have HO_328001 := n2_; have BK313 := n3_; have BK320 := n4_; have BK327 := n5_; have HB := n6_; clear n0_ n1_ n2_ n3_ n4_ n5_ n6_; (try clear hb); (try clear hb2); (try clear hk); (try clear hi); have hcz48_0 : w47.cell? ⟨gb327, 0, none⟩ = some (.int .i64 t321) := (blk_cell BK327.out 0).trans rfl; have hcz48_1 : w47.cell? ⟨gb327, 1, none⟩ = some (.slice Ao23 t322.length co23) := (blk_cell BK327.out 1).trans rfl; have hfz48_0 := blk_frozen BK327.out 0; have hfz48_1 := blk_frozen BK327.out 1) | (go_at_call 31; (with_reducible refine (impl_Root.calls kj6 t321 _ _ t322 t311 t331 _ ?side1 ?side2 A39.out).mono ?_); (case side1 => repeat (first | exact (Kd.R_reads' HO_328001.out).2.2 | (with_reducible refine Kd.C_alloc ?_ _) | (with_reducible refine Kd.C_drewN ?_ _) | (with_reducible refine Kd.C_drew ?_))); (case side2 => exact (Kd.R_reads' HO_328001.out).2.1); rintro e w49 ⟨rfl, hb⟩; have n0_ := Aside0.mk (Kd.R_below (rl HO_314001) hb); have n1_ := Aside0.mk (Kd.R_below (rl HO_321001) hb); have n2_ := Aside0.mk (Kd.R_below (rl HO_328001) hb); have n3_ := Aside0.mk (blk_below (g := gb313) (o := .cells #[.int .i64 t306, .slice Ao11 t307.length co11] 35 (0, 0)) (bk BK313) hb); have n4_ := Aside0.mk (blk_below (g := gb320) (o := .cells #[.int .i64 t314, .slice Ao16 t315.length co16] 35 (0, 0)) (bk BK320) hb); have n5_ := Aside0.mk (blk_below (g := gb327) (o := .cells #[.int .i64 t321, .slice Ao23 t322.length co23] 35 (0, 0)) (bk BK327) hb); have n6_ := Aside0.mk (below_step (bs3 HB GE313 GE320 GE327) hb); clear HO_314001; clear HO_321001; clear HO_328001; clear BK313; clear BK320; clear BK327; clear HB; have HO_314001 := n0_; have HO_321001 := n1_; have HO_328001 := n2_; have BK313 := n3_; have BK320 := n4_; have BK327 := n5_; have HB := n6_; clear n0_ n1_ n2_ n3_ n4_ n5_ n6_; (try clear hb); (try clear hb2); (try clear hk); (try clear hi); have hcz50_0 : w49.cell? ⟨gb327, 0, none⟩ = some (.int .i64 t321) := (blk_cell BK327.out 0).trans rfl; have hcz50_1 : w49.cell? ⟨gb327, 1, none⟩ = some (.slice Ao23 t322.length co23) := (blk_cell BK327.out 1).trans rfl; have hfz50_0 := blk_frozen BK327.out 0; have hfz50_1 := blk_frozen BK327.out 1) | (go_at_call 32; (with_reducible refine (impl_ForestOk.calls kj6 t321 _ _ t322 true _ ?side1 ?side2 A42.out).mono ?_); (case side1 => repeat (first | exact (Kd.R_reads' HO_328001.out).2.2 | (with_reducible refine Kd.C_alloc ?_ _) | (with_reducible refine Kd.C_drewN ?_ _) | (with_reducible refine Kd.C_drew ?_))); (case side2 => exact (Kd.R_reads' HO_328001.out).2.1); rintro e w51 ⟨rfl, hb⟩; have n0_ := Aside0.mk (Kd.R_below (rl HO_314001) hb); have n1_ := Aside0.mk (Kd.R_below (rl HO_321001) hb); have n2_ := Aside0.mk (Kd.R_below (rl HO_328001) hb); have n3_ := Aside0.mk (blk_below (g := gb313) (o := .cells #[.int .i64 t306, .slice Ao11 t307.length co11] 35 (0, 0)) (bk BK313) hb); have n4_ := Aside0.mk (blk_below (g := gb320) (o := .cells #[.int .i64 t314, .slice Ao16 t315.length co16] 35 (0, 0)) (bk BK320) hb); have n5_ := Aside0.mk (blk_below (g := gb327) (o := .cells #[.int .i64 t321, .slice Ao23 t322.length co23] 35 (0, 0)) (bk BK327) hb); have n6_ := Aside0.mk (below_step (bs3 HB GE313 GE320 GE327) hb); clear HO_314001; clear HO_321001; clear HO_328001; clear BK313; clear BK320; clear BK327; clear HB; have HO_314001 := n0_; have HO_321001 := n1_; have HO_328001 := n2_; have BK313 := n3_; have BK320 := n4_; have BK327 := n5_; have HB := n6_; clear n0_ n1_ n2_ n3_ n4_ n5_ n6_; (try clear hb); (try clear hb2); (try clear hk); (try clear hi)))
          repeat (go_quiet (first | (go_at_call 31; (with_reducible refine (impl_Root.calls kj6 t321 _ _ t322 t310 t330 _ ?side1 ?side2 A36.out).mono ?_); (case side1 => repeat (first | exact (Kd.R_reads' HO_328001.out).2.2 | (with_reducible refine Kd.C_alloc ?_ _) | (with_reducible refine Kd.C_drewN ?_ _) | (with_reducible refine Kd.C_drew ?_))); (case side2 => exact (Kd.R_reads' HO_328001.out).2.1); rintro e w47 ⟨rfl, hb⟩; have n0_ := Aside0.mk (Kd.R_below (rl HO_314001) hb); have n1_ := Aside0.mk (Kd.R_below (rl HO_321001) hb); have n2_ := Aside0.mk (Kd.R_below (rl HO_328001) hb); have n3_ := Aside0.mk (blk_below (g := gb313) (o := .cells #[.int .i64 t306, .slice Ao11 t307.length co11] 35 (0, 0)) (bk BK313) hb); have n4_ := Aside0.mk (blk_below (g := gb320) (o := .cells #[.int .i64 t314, .slice Ao16 t315.length co16] 35 (0, 0)) (bk BK320) hb); have n5_ := Aside0.mk (blk_below (g := gb327) (o := .cells #[.int .i64 t321, .slice Ao23 t322.length co23] 35 (0, 0)) (bk BK327) hb); have n6_ := Aside0.mk (below_step (bs3 HB GE313 GE320 GE327) hb); clear HO_314001; clear HO_321001; clear HO_328001; clear BK313; clear BK320; clear BK327; clear HB; have HO_314001 := n0_; have HO_321001 := n1_; have HO_328001 := n2_; have BK313 := n3_; have BK320 := n4_; have BK327 := n5_; have HB := n6_; clear n0_ n1_ n2_ n3_ n4_ n5_ n6_; (try clear hb); (try clear hb2); (try clear hk); (try clear hi); have hcz48_0 : w47.cell? ⟨gb327, 0, none⟩ = some (.int .i64 t321) := (blk_cell BK327.out 0).trans rfl; have hcz48_1 : w47.cell? ⟨gb327, 1, none⟩ = some (.slice Ao23 t322.length co23) := (blk_cell BK327.out 1).trans rfl; have hfz48_0 := blk_frozen BK327.out 0; have hfz48_1 := blk_frozen BK327.out 1) | (go_at_call 31; (with_reducible refine (impl_Root.calls kj6 t321 _ _ t322 t311 t331 _ ?side1 ?side2 A39.out).mono ?_); (case side1 => repeat (first | exact (Kd.R_reads' HO_328001.out).2.2 | (with_reducible refine Kd.C_alloc ?_ _) | (with_reducible refine Kd.C_drewN ?_ _) | (with_reducible refine Kd.C_drew ?_))); (case side2 => exact (Kd.R_reads' HO_328001.out).2.1); rintro e w49 ⟨rfl, hb⟩; have n0_ := Aside0.mk (Kd.R_below (rl HO_314001) hb); have n1_ := Aside0.mk (Kd.R_below (rl HO_321001) hb); have n2_ := Aside0.mk (Kd.R_below (rl HO_328001) hb); have n3_ := Aside0.mk (blk_below (g := gb313) (o := .cells #[.int .i64 t306, .slice Ao11 t307.length co11] 35 (0, 0)) (bk BK313) hb); have n4_ := Aside0.mk (blk_below (g := gb320) (o := .cells #[.int .i64 t314, .slice Ao16 t315.length co16] 35 (0, 0)) (bk BK320) hb); have n5_ := Aside0.mk (blk_below (g := gb327) (o := .cells #[.int .i64 t321, .slice Ao23 t322.length co23] 35 (0, 0)) (bk BK327) hb); have n6_ := Aside0.mk (below_step (bs3 HB GE313 GE320 GE327) hb); clear HO_314001; clear HO_321001; clear HO_328001; clear BK313; clear BK320; clear BK327; clear HB; have HO_314001 := n0_; have HO_321001 := n1_; have HO_328001 := n2_; have BK313 := n3_; have BK320 := n4_; have BK327 := n5_; have HB := n6_; clear n0_ n1_ n2_ n3_ n4_ n5_ n6_; (try clear hb); (try clear hb2); (try clear hk); (try clear hi); have hcz50_0 : w49.cell? ⟨gb327, 0, none⟩ = some (.int .i64 t321) := (blk_cell BK327.out 0).trans rfl; have hcz50_1 : w49.cell? ⟨gb327, 1, none⟩ = some (.slice Ao23 t322.length co23) := (blk_cell BK327.out 1).trans rfl; have hfz50_0 := blk_frozen BK327.out 0; have hfz50_1 := blk_frozen BK327.out 1) | (go_at_call 32; (with_reducible refine (impl_ForestOk.calls kj6 t321 _ _ t322 true _ ?side1 ?side2 A42.out).mono ?_); (case side1 => repeat (first | exact (Kd.R_reads' HO_328001.out).2.2 | (with_reducible refine Kd.C_alloc ?_ _) | (with_reducible refine Kd.C_drewN ?_ _) | (with_reducible refine Kd.C_drew ?_))); (case side2 => exact (Kd.R_reads' HO_328001.out).2.1); rintro e w51 ⟨rfl, hb⟩; have n0_ := Aside0.mk (Kd.R_below (rl HO_314001) hb); have n1_ := Aside0.mk (Kd.R_below (rl HO_321001) hb); have n2_ := Aside0.mk (Kd.R_below (rl HO_328001) hb); have n3_ := Aside0.mk (blk_below (g := gb313) (o := .cells #[.int .i64 t306, .slice Ao11 t307.length co11] 35 (0, 0)) (bk BK313) hb); have n4_ := Aside0.mk (blk_below (g := gb320) (o := .cells #[.int .i64 t314, .slice Ao16 t315.length co16] 35 (0, 0)) (bk BK320) hb); have n5_ := Aside0.mk (blk_below (g := gb327) (o := .cells #[.int .i64 t321, .slice Ao23 t322.length co23] 35 (0, 0)) (bk BK327) hb); have n6_ := Aside0.mk (below_step (bs3 HB GE313 GE320 GE327) hb); clear HO_314001; clear HO_321001; clear HO_328001; clear BK313; clear BK320; clear BK327; clear HB; have HO_314001 := n0_; have HO_321001 := n1_; have HO_328001 := n2_; have BK313 := n3_; have BK320 := n4_; have BK327 := n5_; have HB := n6_; clear n0_ n1_ n2_ n3_ n4_ n5_ n6_; (try clear hb); (try clear hb2); (try clear hk); (try clear hi))); try go_wp2_with (first | (go_at_call 31; (with_reducible refine (impl_Root.calls kj6 t321 _ _ t322 t310 t330 _ ?side1 ?side2 A36.out).mono ?_); (case side1 => repeat (first | exact (Kd.R_reads' HO_328001.out).2.2 | (with_reducible refine Kd.C_alloc ?_ _) | (with_reducible refine Kd.C_drewN ?_ _) | (with_reducible refine Kd.C_drew ?_))); (case side2 => exact (Kd.R_reads' HO_328001.out).2.1); rintro e w47 ⟨rfl, hb⟩; have n0_ := Aside0.mk (Kd.R_below (rl HO_314001) hb); have n1_ := Aside0.mk (Kd.R_below (rl HO_321001) hb); have n2_ := Aside0.mk (Kd.R_below (rl HO_328001) hb); have n3_ := Aside0.mk (blk_below (g := gb313) (o := .cells #[.int .i64 t306, .slice Ao11 t307.length co11] 35 (0, 0)) (bk BK313) hb); have n4_ := Aside0.mk (blk_below (g := gb320) (o := .cells #[.int .i64 t314, .slice Ao16 t315.length co16] 35 (0, 0)) (bk BK320) hb); have n5_ := Aside0.mk (blk_below (g := gb327) (o := .cells #[.int .i64 t321, .slice Ao23 t322.length co23] 35 (0, 0)) (bk BK327) hb); have n6_ := Aside0.mk (below_step (bs3 HB GE313 GE320 GE327) hb); clear HO_314001; clear HO_321001; clear HO_328001; clear BK313; clear BK320; clear BK327; clear HB; have HO_314001 := n0_; have HO_321001 := n1_; have HO_328001 := n2_; have BK313 := n3_; have BK320 := n4_; have BK327 := n5_; have HB := n6_; clear n0_ n1_ n2_ n3_ n4_ n5_ n6_; (try clear hb); (try clear hb2); (try clear hk); (try clear hi); have hcz48_0 : w47.cell? ⟨gb327, 0, none⟩ = some (.int .i64 t321) := (blk_cell BK327.out 0).trans rfl; have hcz48_1 : w47.cell? ⟨gb327, 1, none⟩ = some (.slice Ao23 t322.length co23) := (blk_cell BK327.out 1).trans rfl; have hfz48_0 := blk_frozen BK327.out 0; have hfz48_1 := blk_frozen BK327.out 1) | (go_at_call 31; (with_reducible refine (impl_Root.calls kj6 t321 _ _ t322 t311 t331 _ ?side1 ?side2 A39.out).mono ?_); (case side1 => repeat (first | exact (Kd.R_reads' HO_328001.out).2.2 | (with_reducible refine Kd.C_alloc ?_ _) | (with_reducible refine Kd.C_drewN ?_ _) | (with_reducible refine Kd.C_drew ?_))); (case side2 => exact (Kd.R_reads' HO_328001.out).2.1); rintro e w49 ⟨rfl, hb⟩; have n0_ := Aside0.mk (Kd.R_below (rl HO_314001) hb); have n1_ := Aside0.mk (Kd.R_below (rl HO_321001) hb); have n2_ := Aside0.mk (Kd.R_below (rl HO_328001) hb); have n3_ := Aside0.mk (blk_below (g := gb313) (o := .cells #[.int .i64 t306, .slice Ao11 t307.length co11] 35 (0, 0)) (bk BK313) hb); have n4_ := Aside0.mk (blk_below (g := gb320) (o := .cells #[.int .i64 t314, .slice Ao16 t315.length co16] 35 (0, 0)) (bk BK320) hb); have n5_ := Aside0.mk (blk_below (g := gb327) (o := .cells #[.int .i64 t321, .slice Ao23 t322.length co23] 35 (0, 0)) (bk BK327) hb); have n6_ := Aside0.mk (below_step (bs3 HB GE313 GE320 GE327) hb); clear HO_314001; clear HO_321001; clear HO_328001; clear BK313; clear BK320; clear BK327; clear HB; have HO_314001 := n0_; have HO_321001 := n1_; have HO_328001 := n2_; have BK313 := n3_; have BK320 := n4_; have BK327 := n5_; have HB := n6_; clear n0_ n1_ n2_ n3_ n4_ n5_ n6_; (try clear hb); (try clear hb2); (try clear hk); (try clear hi); have hcz50_0 : w49.cell? ⟨gb327, 0, none⟩ = some (.int .i64 t321) := (blk_cell BK327.out 0).trans rfl; have hcz50_1 : w49.cell? ⟨gb327, 1, none⟩ = some (.slice Ao23 t322.length co23) := (blk_cell BK327.out 1).trans rfl; have hfz50_0 := blk_frozen BK327.out 0; have hfz50_1 := blk_frozen BK327.out 1) | (go_at_call 32; (with_reducible refine (impl_ForestOk.calls kj6 t321 _ _ t322 true _ ?side1 ?side2 A42.out).mono ?_); (case side1 => repeat (first | exact (Kd.R_reads' HO_328001.out).2.2 | (with_reducible refine Kd.C_alloc ?_ _) | (with_reducible refine Kd.C_drewN ?_ _) | (with_reducible refine Kd.C_drew ?_))); (case side2 => exact (Kd.R_reads' HO_328001.out).2.1); rintro e w51 ⟨rfl, hb⟩; have n0_ := Aside0.mk (Kd.R_below (rl HO_314001) hb); have n1_ := Aside0.mk (Kd.R_below (rl HO_321001) hb); have n2_ := Aside0.mk (Kd.R_below (rl HO_328001) hb); have n3_ := Aside0.mk (blk_below (g := gb313) (o := .cells #[.int .i64 t306, .slice Ao11 t307.length co11] 35 (0, 0)) (bk BK313) hb); have n4_ := Aside0.mk (blk_below (g := gb320) (o := .cells #[.int .i64 t314, .slice Ao16 t315.length co16] 35 (0, 0)) (bk BK320) hb); have n5_ := Aside0.mk (blk_below (g := gb327) (o := .cells #[.int .i64 t321, .slice Ao23 t322.length co23] 35 (0, 0)) (bk BK327) hb); have n6_ := Aside0.mk (below_step (bs3 HB GE313 GE320 GE327) hb); clear HO_314001; clear HO_321001; clear HO_328001; clear BK313; clear BK320; clear BK327; clear HB; have HO_314001 := n0_; have HO_321001 := n1_; have HO_328001 := n2_; have BK313 := n3_; have BK320 := n4_; have BK327 := n5_; have HB := n6_; clear n0_ n1_ n2_ n3_ n4_ n5_ n6_; (try clear hb); (try clear hb2); (try clear hk); (try clear hi))))
          go_meet
          case rel => exact ⟨_, (((t328 == t329) != (!t325))), (by first | rfl | (simp; done) | (simp [*]; done) | (simp only [bne_nil_]; done) | (simp [bne_nil_]; done)), H', ⟨by have := HJ6.out; first | omega | exact Nat.le_refl _⟩, ⟨rl HO_314001⟩, ⟨rl HO_321001⟩, ⟨rl HO_328001⟩, ⟨bk BK313⟩, ⟨bk BK320⟩, ⟨bk BK327⟩, ⟨bs3 HB GE313 GE320 GE327⟩⟩
         ·replace c43 := Bool.eq_false_iff.mpr c43
          subst c43
          have H1 : (laws_FnForest.j1 kj6 t310 t311 true t306 t307 t321 t322) = some r := by rw [if_neg (show ¬ (false = true) by decide)] at H; exact H
          clear H
          have H := H1
          clear H1
          have H' := Aside0.mk H
          clear H
          have hnb52 := NB327_313.out
          have hnc52 := NB313_327.out
          have hnb53 := NB327_320.out
          have hnc53 := NB320_327.out
          have hcz54_0 : w35.cell? ⟨gb327, 0, none⟩ = some (.int .i64 t321) := (blk_cell BK327.out 0).trans rfl
          have hcz54_1 : w35.cell? ⟨gb327, 1, none⟩ = some (.slice Ao23 t322.length co23) := (blk_cell BK327.out 1).trans rfl
          have hfz54_0 := blk_frozen BK327.out 0
          have hfz54_1 := blk_frozen BK327.out 1
          go_wp2_with (first | (go_at_call 31; (with_reducible refine (impl_Root.calls kj6 t321 _ _ t322 t310 t330 _ ?side1 ?side2 A36.out).mono ?_); (case side1 => repeat (first | exact (Kd.R_reads' HO_328001.out).2.2 | (with_reducible refine Kd.C_alloc ?_ _) | (with_reducible refine Kd.C_drewN ?_ _) | (with_reducible refine Kd.C_drew ?_))); (case side2 => exact (Kd.R_reads' HO_328001.out).2.1); rintro e w55 ⟨rfl, hb⟩; have n0_ := Aside0.mk (Kd.R_below (rl HO_314001) hb); have n1_ := Aside0.mk (Kd.R_below (rl HO_321001) hb); have n2_ := Aside0.mk (Kd.R_below (rl HO_328001) hb); have n3_ := Aside0.mk (blk_below (g := gb313) (o := .cells #[.int .i64 t306, .slice Ao11 t307.length co11] 35 (0, 0)) (bk BK313) hb); have n4_ := Aside0.mk (blk_below (g := gb320) (o := .cells #[.int .i64 t314, .slice Ao16 t315.length co16] 35 (0, 0)) (bk BK320) hb); have n5_ := Aside0.mk (blk_below (g := gb327) (o := .cells #[.int .i64 t321, .slice Ao23 t322.length co23] 35 (0, 0)) (bk BK327) hb); have n6_ := Aside0.mk (below_step (bs3 HB GE313 GE320 GE327) hb); clear HO_314001; clear HO_321001; clear HO_328001; clear BK313; clear BK320; clear BK327; clear HB; have HO_314001 := n0_; have HO_321001 := n1_; have HO_328001 := n2_; have BK313 := n3_; have BK320 := n4_; have BK327 := n5_; have HB := n6_; clear n0_ n1_ n2_ n3_ n4_ n5_ n6_; (try clear hb); (try clear hb2); (try clear hk); (try clear hi); have hcz56_0 : w55.cell? ⟨gb327, 0, none⟩ = some (.int .i64 t321) := (blk_cell BK327.out 0).trans rfl; have hcz56_1 : w55.cell? ⟨gb327, 1, none⟩ = some (.slice Ao23 t322.length co23) := (blk_cell BK327.out 1).trans rfl; have hfz56_0 := blk_frozen BK327.out 0; have hfz56_1 := blk_frozen BK327.out 1) | (go_at_call 31; (with_reducible refine (impl_Root.calls kj6 t321 _ _ t322 t311 t331 _ ?side1 ?side2 A39.out).mono ?_); (case side1 => repeat (first | exact (Kd.R_reads' HO_328001.out).2.2 | (with_reducible refine Kd.C_alloc ?_ _) | (with_reducible refine Kd.C_drewN ?_ _) | (with_reducible refine Kd.C_drew ?_))); (case side2 => exact (Kd.R_reads' HO_328001.out).2.1); rintro e w57 ⟨rfl, hb⟩; have n0_ := Aside0.mk (Kd.R_below (rl HO_314001) hb); have n1_ := Aside0.mk (Kd.R_below (rl HO_321001) hb); have n2_ := Aside0.mk (Kd.R_below (rl HO_328001) hb); have n3_ := Aside0.mk (blk_below (g := gb313) (o := .cells #[.int .i64 t306, .slice Ao11 t307.length co11] 35 (0, 0)) (bk BK313) hb); have n4_ := Aside0.mk (blk_below (g := gb320) (o := .cells #[.int .i64 t314, .slice Ao16 t315.length co16] 35 (0, 0)) (bk BK320) hb); have n5_ := Aside0.mk (blk_below (g := gb327) (o := .cells #[.int .i64 t321, .slice Ao23 t322.length co23] 35 (0, 0)) (bk BK327) hb); have n6_ := Aside0.mk (below_step (bs3 HB GE313 GE320 GE327) hb); clear HO_314001; clear HO_321001; clear HO_328001; clear BK313; clear BK320; clear BK327; clear HB; have HO_314001 := n0_; have HO_321001 := n1_; have HO_328001 := n2_; have BK313 := n3_; have BK320 := n4_; have BK327 := n5_; have HB := n6_; clear n0_ n1_ n2_ n3_ n4_ n5_ n6_; (try clear hb); (try clear hb2); (try clear hk); (try clear hi); have hcz58_0 : w57.cell? ⟨gb327, 0, none⟩ = some (.int .i64 t321) := (blk_cell BK327.out 0).trans rfl; have hcz58_1 : w57.cell? ⟨gb327, 1, none⟩ = some (.slice Ao23 t322.length co23) := (blk_cell BK327.out 1).trans rfl; have hfz58_0 := blk_frozen BK327.out 0; have hfz58_1 := blk_frozen BK327.out 1) | (go_at_call 32; (with_reducible refine (impl_ForestOk.calls kj6 t321 _ _ t322 false _ ?side1 ?side2 A42.out).mono ?_); (case side1 => repeat (first | exact (Kd.R_reads' HO_328001.out).2.2 | (with_reducible refine Kd.C_alloc ?_ _) | (with_reducible refine Kd.C_drewN ?_ _) | (with_reducible refine Kd.C_drew ?_))); (case side2 => exact (Kd.R_reads' HO_328001.out).2.1); rintro e w59 ⟨rfl, hb⟩; have n0_ := Aside0.mk (Kd.R_below (rl HO_314001) hb); have n1_ := Aside0.mk (Kd.R_below (rl HO_321001) hb); have n2_ := Aside0.mk (Kd.R_below (rl HO_328001) hb); have n3_ := Aside0.mk (blk_below (g := gb313) (o := .cells #[.int .i64 t306, .slice Ao11 t307.length co11] 35 (0, 0)) (bk BK313) hb); have n4_ := Aside0.mk (blk_below (g := gb320) (o := .cells #[.int .i64 t314, .slice Ao16 t315.length co16] 35 (0, 0)) (bk BK320) hb); have n5_ := Aside0.mk (blk_below (g := gb327) (o := .cells #[.int .i64 t321, .slice Ao23 t322.length co23] 35 (0, 0)) (bk BK327) hb); have n6_ := Aside0.mk (below_step (bs3 HB GE313 GE320 GE327) hb); clear HO_314001; clear HO_321001; clear HO_328001; clear BK313; clear BK320; clear BK327; clear HB; have HO_314001 := n0_; have HO_321001 := n1_; have HO_328001 := n2_; have BK313 := n3_; have BK320 := n4_; have BK327 := n5_; have HB := n6_; clear n0_ n1_ n2_ n3_ n4_ n5_ n6_; (try clear hb); (try clear hb2); (try clear hk); (try clear hi)))
          repeat (go_quiet (first | (go_at_call 31; (with_reducible refine (impl_Root.calls kj6 t321 _ _ t322 t310 t330 _ ?side1 ?side2 A36.out).mono ?_); (case side1 => repeat (first | exact (Kd.R_reads' HO_328001.out).2.2 | (with_reducible refine Kd.C_alloc ?_ _) | (with_reducible refine Kd.C_drewN ?_ _) | (with_reducible refine Kd.C_drew ?_))); (case side2 => exact (Kd.R_reads' HO_328001.out).2.1); rintro e w55 ⟨rfl, hb⟩; have n0_ := Aside0.mk (Kd.R_below (rl HO_314001) hb); have n1_ := Aside0.mk (Kd.R_below (rl HO_321001) hb); have n2_ := Aside0.mk (Kd.R_below (rl HO_328001) hb); have n3_ := Aside0.mk (blk_below (g := gb313) (o := .cells #[.int .i64 t306, .slice Ao11 t307.length co11] 35 (0, 0)) (bk BK313) hb); have n4_ := Aside0.mk (blk_below (g := gb320) (o := .cells #[.int .i64 t314, .slice Ao16 t315.length co16] 35 (0, 0)) (bk BK320) hb); have n5_ := Aside0.mk (blk_below (g := gb327) (o := .cells #[.int .i64 t321, .slice Ao23 t322.length co23] 35 (0, 0)) (bk BK327) hb); have n6_ := Aside0.mk (below_step (bs3 HB GE313 GE320 GE327) hb); clear HO_314001; clear HO_321001; clear HO_328001; clear BK313; clear BK320; clear BK327; clear HB; have HO_314001 := n0_; have HO_321001 := n1_; have HO_328001 := n2_; have BK313 := n3_; have BK320 := n4_; have BK327 := n5_; have HB := n6_; clear n0_ n1_ n2_ n3_ n4_ n5_ n6_; (try clear hb); (try clear hb2); (try clear hk); (try clear hi); have hcz56_0 : w55.cell? ⟨gb327, 0, none⟩ = some (.int .i64 t321) := (blk_cell BK327.out 0).trans rfl; have hcz56_1 : w55.cell? ⟨gb327, 1, none⟩ = some (.slice Ao23 t322.length co23) := (blk_cell BK327.out 1).trans rfl; have hfz56_0 := blk_frozen BK327.out 0; have hfz56_1 := blk_frozen BK327.out 1) | (go_at_call 31; (with_reducible refine (impl_Root.calls kj6 t321 _ _ t322 t311 t331 _ ?side1 ?side2 A39.out).mono ?_); (case side1 => repeat (first | exact (Kd.R_reads' HO_328001.out).2.2 | (with_reducible refine Kd.C_alloc ?_ _) | (with_reducible refine Kd.C_drewN ?_ _) | (with_reducible refine Kd.C_drew ?_))); (case side2 => exact (Kd.R_reads' HO_328001.out).2.1); rintro e w57 ⟨rfl, hb⟩; have n0_ := Aside0.mk (Kd.R_below (rl HO_314001) hb); have n1_ := Aside0.mk (Kd.R_below (rl HO_321001) hb); have n2_ := Aside0.mk (Kd.R_below (rl HO_328001) hb); have n3_ := Aside0.mk (blk_below (g := gb313) (o := .cells #[.int .i64 t306, .slice Ao11 t307.length co11] 35 (0, 0)) (bk BK313) hb); have n4_ := Aside0.mk (blk_below (g := gb320) (o := .cells #[.int .i64 t314, .slice Ao16 t315.length co16] 35 (0, 0)) (bk BK320) hb); have n5_ := Aside0.mk (blk_below (g := gb327) (o := .cells #[.int .i64 t321, .slice Ao23 t322.length co23] 35 (0, 0)) (bk BK327) hb); have n6_ := Aside0.mk (below_step (bs3 HB GE313 GE320 GE327) hb); clear HO_314001; clear HO_321001; clear HO_328001; clear BK313; clear BK320; clear BK327; clear HB; have HO_314001 := n0_; have HO_321001 := n1_; have HO_328001 := n2_; have BK313 := n3_; have BK320 := n4_; have BK327 := n5_; have HB := n6_; clear n0_ n1_ n2_ n3_ n4_ n5_ n6_; (try clear hb); (try clear hb2); (try clear hk); (try clear hi); have hcz58_0 : w57.cell? ⟨gb327, 0, none⟩ = some (.int .i64 t321) := (blk_cell BK327.out 0).trans rfl; have hcz58_1 : w57.cell? ⟨gb327, 1, none⟩ = some (.slice Ao23 t322.length co23) := (blk_cell BK327.out 1).trans rfl; have hfz58_0 := blk_frozen BK327.out 0; have hfz58_1 := blk_frozen BK327.out 1) | (go_at_call 32; (with_reducible refine (impl_ForestOk.calls kj6 t321 _ _ t322 false _ ?side1 ?side2 A42.out).mono ?_); (case side1 => repeat (first | exact (Kd.R_reads' HO_328001.out).2.2 | (with_reducible refine Kd.C_alloc ?_ _) | (with_reducible refine Kd.C_drewN ?_ _) | (with_reducible refine Kd.C_drew ?_))); (case side2 => exact (Kd.R_reads' HO_328001.out).2.1); rintro e w59 ⟨rfl, hb⟩; have n0_ := Aside0.mk (Kd.R_below (rl HO_314001) hb); have n1_ := Aside0.mk (Kd.R_below (rl HO_321001) hb); have n2_ := Aside0.mk (Kd.R_below (rl HO_328001) hb); have n3_ := Aside0.mk (blk_below (g := gb313) (o := .cells #[.int .i64 t306, .slice Ao11 t307.length co11] 35 (0, 0)) (bk BK313) hb); have n4_ := Aside0.mk (blk_below (g := gb320) (o := .cells #[.int .i64 t314, .slice Ao16 t315.length co16] 35 (0, 0)) (bk BK320) hb); have n5_ := Aside0.mk (blk_below (g := gb327) (o := .cells #[.int .i64 t321, .slice Ao23 t322.length co23] 35 (0, 0)) (bk BK327) hb); have n6_ := Aside0.mk (below_step (bs3 HB GE313 GE320 GE327) hb); clear HO_314001; clear HO_321001; clear HO_328001; clear BK313; clear BK320; clear BK327; clear HB; have HO_314001 := n0_; have HO_321001 := n1_; have HO_328001 := n2_; have BK313 := n3_; have BK320 := n4_; have BK327 := n5_; have HB := n6_; clear n0_ n1_ n2_ n3_ n4_ n5_ n6_; (try clear hb); (try clear hb2); (try clear hk); (try clear hi))); try go_wp2_with (first | (go_at_call 31; (with_reducible refine (impl_Root.calls kj6 t321 _ _ t322 t310 t330 _ ?side1 ?side2 A36.out).mono ?_); (case side1 => repeat (first | exact (Kd.R_reads' HO_328001.out).2.2 | (with_reducible refine Kd.C_alloc ?_ _) | (with_reducible refine Kd.C_drewN ?_ _) | (with_reducible refine Kd.C_drew ?_))); (case side2 => exact (Kd.R_reads' HO_328001.out).2.1); rintro e w55 ⟨rfl, hb⟩; have n0_ := Aside0.mk (Kd.R_below (rl HO_314001) hb); have n1_ := Aside0.mk (Kd.R_below (rl HO_321001) hb); have n2_ := Aside0.mk (Kd.R_below (rl HO_328001) hb); have n3_ := Aside0.mk (blk_below (g := gb313) (o := .cells #[.int .i64 t306, .slice Ao11 t307.length co11] 35 (0, 0)) (bk BK313) hb); have n4_ := Aside0.mk (blk_below (g := gb320) (o := .cells #[.int .i64 t314, .slice Ao16 t315.length co16] 35 (0, 0)) (bk BK320) hb); have n5_ := Aside0.mk (blk_below (g := gb327) (o := .cells #[.int .i64 t321, .slice Ao23 t322.length co23] 35 (0, 0)) (bk BK327) hb); have n6_ := Aside0.mk (below_step (bs3 HB GE313 GE320 GE327) hb); clear HO_314001; clear HO_321001; clear HO_328001; clear BK313; clear BK320; clear BK327; clear HB; have HO_314001 := n0_; have HO_321001 := n1_; have HO_328001 := n2_; have BK313 := n3_; have BK320 := n4_; have BK327 := n5_; have HB := n6_; clear n0_ n1_ n2_ n3_ n4_ n5_ n6_; (try clear hb); (try clear hb2); (try clear hk); (try clear hi); have hcz56_0 : w55.cell? ⟨gb327, 0, none⟩ = some (.int .i64 t321) := (blk_cell BK327.out 0).trans rfl; have hcz56_1 : w55.cell? ⟨gb327, 1, none⟩ = some (.slice Ao23 t322.length co23) := (blk_cell BK327.out 1).trans rfl; have hfz56_0 := blk_frozen BK327.out 0; have hfz56_1 := blk_frozen BK327.out 1) | (go_at_call 31; (with_reducible refine (impl_Root.calls kj6 t321 _ _ t322 t311 t331 _ ?side1 ?side2 A39.out).mono ?_); (case side1 => repeat (first | exact (Kd.R_reads' HO_328001.out).2.2 | (with_reducible refine Kd.C_alloc ?_ _) | (with_reducible refine Kd.C_drewN ?_ _) | (with_reducible refine Kd.C_drew ?_))); (case side2 => exact (Kd.R_reads' HO_328001.out).2.1); rintro e w57 ⟨rfl, hb⟩; have n0_ := Aside0.mk (Kd.R_below (rl HO_314001) hb); have n1_ := Aside0.mk (Kd.R_below (rl HO_321001) hb); have n2_ := Aside0.mk (Kd.R_below (rl HO_328001) hb); have n3_ := Aside0.mk (blk_below (g := gb313) (o := .cells #[.int .i64 t306, .slice Ao11 t307.length co11] 35 (0, 0)) (bk BK313) hb); have n4_ := Aside0.mk (blk_below (g := gb320) (o := .cells #[.int .i64 t314, .slice Ao16 t315.length co16] 35 (0, 0)) (bk BK320) hb); have n5_ := Aside0.mk (blk_below (g := gb327) (o := .cells #[.int .i64 t321, .slice Ao23 t322.length co23] 35 (0, 0)) (bk BK327) hb); have n6_ := Aside0.mk (below_step (bs3 HB GE313 GE320 GE327) hb); clear HO_314001; clear HO_321001; clear HO_328001; clear BK313; clear BK320; clear BK327; clear HB; have HO_314001 := n0_; have HO_321001 := n1_; have HO_328001 := n2_; have BK313 := n3_; have BK320 := n4_; have BK327 := n5_; have HB := n6_; clear n0_ n1_ n2_ n3_ n4_ n5_ n6_; (try clear hb); (try clear hb2); (try clear hk); (try clear hi); have hcz58_0 : w57.cell? ⟨gb327, 0, none⟩ = some (.int .i64 t321) := (blk_cell BK327.out 0).trans rfl; have hcz58_1 : w57.cell? ⟨gb327, 1, none⟩ = some (.slice Ao23 t322.length co23) := (blk_cell BK327.out 1).trans rfl; have hfz58_0 := blk_frozen BK327.out 0; have hfz58_1 := blk_frozen BK327.out 1) | (go_at_call 32; (with_reducible refine (impl_ForestOk.calls kj6 t321 _ _ t322 false _ ?side1 ?side2 A42.out).mono ?_); (case side1 => repeat (first | exact (Kd.R_reads' HO_328001.out).2.2 | (with_reducible refine Kd.C_alloc ?_ _) | (with_reducible refine Kd.C_drewN ?_ _) | (with_reducible refine Kd.C_drew ?_))); (case side2 => exact (Kd.R_reads' HO_328001.out).2.1); rintro e w59 ⟨rfl, hb⟩; have n0_ := Aside0.mk (Kd.R_below (rl HO_314001) hb); have n1_ := Aside0.mk (Kd.R_below (rl HO_321001) hb); have n2_ := Aside0.mk (Kd.R_below (rl HO_328001) hb); have n3_ := Aside0.mk (blk_below (g := gb313) (o := .cells #[.int .i64 t306, .slice Ao11 t307.length co11] 35 (0, 0)) (bk BK313) hb); have n4_ := Aside0.mk (blk_below (g := gb320) (o := .cells #[.int .i64 t314, .slice Ao16 t315.length co16] 35 (0, 0)) (bk BK320) hb); have n5_ := Aside0.mk (blk_below (g := gb327) (o := .cells #[.int .i64 t321, .slice Ao23 t322.length co23] 35 (0, 0)) (bk BK327) hb); have n6_ := Aside0.mk (below_step (bs3 HB GE313 GE320 GE327) hb); clear HO_314001; clear HO_321001; clear HO_328001; clear BK313; clear BK320; clear BK327; clear HB; have HO_314001 := n0_; have HO_321001 := n1_; have HO_328001 := n2_; have BK313 := n3_; have BK320 := n4_; have BK327 := n5_; have HB := n6_; clear n0_ n1_ n2_ n3_ n4_ n5_ n6_; (try clear hb); (try clear hb2); (try clear hk); (try clear hi))))
          go_meet
          case rel => exact ⟨_, (true), (by first | rfl | (simp; done) | (simp [*]; done) | (simp only [bne_nil_]; done) | (simp [bne_nil_]; done)), H', ⟨by have := HJ6.out; first | omega | exact Nat.le_refl _⟩, ⟨rl HO_314001⟩, ⟨rl HO_321001⟩, ⟨rl HO_328001⟩, ⟨bk BK313⟩, ⟨bk BK320⟩, ⟨bk BK327⟩, ⟨bs3 HB GE313 GE320 GE327⟩⟩
        ·rw [if_neg c41] at H
         have c41b0 : (t331 == (ji37)) = false := beq_eq_false_iff_ne.mpr c41
         have c41b1 : (t331 != (ji37)) = true := bne_iff_ne.mpr c41
         have H' := Aside0.mk H
         clear H
         have hnb60 := NB327_313.out
         have hnc60 := NB313_327.out
         have hnb61 := NB327_320.out
         have hnc61 := NB320_327.out
         have hcz62_0 : w35.cell? ⟨gb327, 0, none⟩ = some (.int .i64 t321) := (blk_cell BK327.out 0).trans rfl
         have hcz62_1 : w35.cell? ⟨gb327, 1, none⟩ = some (.slice Ao23 t322.length co23) := (blk_cell BK327.out 1).trans rfl
         have hfz62_0 := blk_frozen BK327.out 0
         have hfz62_1 := blk_frozen BK327.out 1
         go_wp2_with (first | (go_at_call 31; (with_reducible refine (impl_Root.calls kj6 t321 _ _ t322 t310 t330 _ ?side1 ?side2 A36.out).mono ?_); (case side1 => repeat (first | exact (Kd.R_reads' HO_328001.out).2.2 | (with_reducible refine Kd.C_alloc ?_ _) | (with_reducible refine Kd.C_drewN ?_ _) | (with_reducible refine Kd.C_drew ?_))); (case side2 => exact (Kd.R_reads' HO_328001.out).2.1); rintro e w63 ⟨rfl, hb⟩; have n0_ := Aside0.mk (Kd.R_below (rl HO_314001) hb); have n1_ := Aside0.mk (Kd.R_below (rl HO_321001) hb); have n2_ := Aside0.mk (Kd.R_below (rl HO_328001) hb); have n3_ := Aside0.mk (blk_below (g := gb313) (o := .cells #[.int .i64 t306, .slice Ao11 t307.length co11] 35 (0, 0)) (bk BK313) hb); have n4_ := Aside0.mk (blk_below (g := gb320) (o := .cells #[.int .i64 t314, .slice Ao16 t315.length co16] 35 (0, 0)) (bk BK320) hb); have n5_ := Aside0.mk (blk_below (g := gb327) (o := .cells #[.int .i64 t321, .slice Ao23 t322.length co23] 35 (0, 0)) (bk BK327) hb); have n6_ := Aside0.mk (below_step (bs3 HB GE313 GE320 GE327) hb); clear HO_314001; clear HO_321001; clear HO_328001; clear BK313; clear BK320; clear BK327; clear HB; have HO_314001 := n0_; have HO_321001 := n1_; have HO_328001 := n2_; have BK313 := n3_; have BK320 := n4_; have BK327 := n5_; have HB := n6_; clear n0_ n1_ n2_ n3_ n4_ n5_ n6_; (try clear hb); (try clear hb2); (try clear hk); (try clear hi); have hcz64_0 : w63.cell? ⟨gb327, 0, none⟩ = some (.int .i64 t321) := (blk_cell BK327.out 0).trans rfl; have hcz64_1 : w63.cell? ⟨gb327, 1, none⟩ = some (.slice Ao23 t322.length co23) := (blk_cell BK327.out 1).trans rfl; have hfz64_0 := blk_frozen BK327.out 0; have hfz64_1 := blk_frozen BK327.out 1) | (go_at_call 31; (with_reducible refine (impl_Root.calls kj6 t321 _ _ t322 t311 t331 _ ?side1 ?side2 A39.out).mono ?_); (case side1 => repeat (first | exact (Kd.R_reads' HO_328001.out).2.2 | (with_reducible refine Kd.C_alloc ?_ _) | (with_reducible refine Kd.C_drewN ?_ _) | (with_reducible refine Kd.C_drew ?_))); (case side2 => exact (Kd.R_reads' HO_328001.out).2.1); rintro e w65 ⟨rfl, hb⟩; have n0_ := Aside0.mk (Kd.R_below (rl HO_314001) hb); have n1_ := Aside0.mk (Kd.R_below (rl HO_321001) hb); have n2_ := Aside0.mk (Kd.R_below (rl HO_328001) hb); have n3_ := Aside0.mk (blk_below (g := gb313) (o := .cells #[.int .i64 t306, .slice Ao11 t307.length co11] 35 (0, 0)) (bk BK313) hb); have n4_ := Aside0.mk (blk_below (g := gb320) (o := .cells #[.int .i64 t314, .slice Ao16 t315.length co16] 35 (0, 0)) (bk BK320) hb); have n5_ := Aside0.mk (blk_below (g := gb327) (o := .cells #[.int .i64 t321, .slice Ao23 t322.length co23] 35 (0, 0)) (bk BK327) hb); have n6_ := Aside0.mk (below_step (bs3 HB GE313 GE320 GE327) hb); clear HO_314001; clear HO_321001; clear HO_328001; clear BK313; clear BK320; clear BK327; clear HB; have HO_314001 := n0_; have HO_321001 := n1_; have HO_328001 := n2_; have BK313 := n3_; have BK320 := n4_; have BK327 := n5_; have HB := n6_; clear n0_ n1_ n2_ n3_ n4_ n5_ n6_; (try clear hb); (try clear hb2); (try clear hk); (try clear hi)))
         repeat (go_quiet (first | (go_at_call 31; (with_reducible refine (impl_Root.calls kj6 t321 _ _ t322 t310 t330 _ ?side1 ?side2 A36.out).mono ?_); (case side1 => repeat (first | exact (Kd.R_reads' HO_328001.out).2.2 | (with_reducible refine Kd.C_alloc ?_ _) | (with_reducible refine Kd.C_drewN ?_ _) | (with_reducible refine Kd.C_drew ?_))); (case side2 => exact (Kd.R_reads' HO_328001.out).2.1); rintro e w63 ⟨rfl, hb⟩; have n0_ := Aside0.mk (Kd.R_below (rl HO_314001) hb); have n1_ := Aside0.mk (Kd.R_below (rl HO_321001) hb); have n2_ := Aside0.mk (Kd.R_below (rl HO_328001) hb); have n3_ := Aside0.mk (blk_below (g := gb313) (o := .cells #[.int .i64 t306, .slice Ao11 t307.length co11] 35 (0, 0)) (bk BK313) hb); have n4_ := Aside0.mk (blk_below (g := gb320) (o := .cells #[.int .i64 t314, .slice Ao16 t315.length co16] 35 (0, 0)) (bk BK320) hb); have n5_ := Aside0.mk (blk_below (g := gb327) (o := .cells #[.int .i64 t321, .slice Ao23 t322.length co23] 35 (0, 0)) (bk BK327) hb); have n6_ := Aside0.mk (below_step (bs3 HB GE313 GE320 GE327) hb); clear HO_314001; clear HO_321001; clear HO_328001; clear BK313; clear BK320; clear BK327; clear HB; have HO_314001 := n0_; have HO_321001 := n1_; have HO_328001 := n2_; have BK313 := n3_; have BK320 := n4_; have BK327 := n5_; have HB := n6_; clear n0_ n1_ n2_ n3_ n4_ n5_ n6_; (try clear hb); (try clear hb2); (try clear hk); (try clear hi); have hcz64_0 : w63.cell? ⟨gb327, 0, none⟩ = some (.int .i64 t321) := (blk_cell BK327.out 0).trans rfl; have hcz64_1 : w63.cell? ⟨gb327, 1, none⟩ = some (.slice Ao23 t322.length co23) := (blk_cell BK327.out 1).trans rfl; have hfz64_0 := blk_frozen BK327.out 0; have hfz64_1 := blk_frozen BK327.out 1) | (go_at_call 31; (with_reducible refine (impl_Root.calls kj6 t321 _ _ t322 t311 t331 _ ?side1 ?side2 A39.out).mono ?_); (case side1 => repeat (first | exact (Kd.R_reads' HO_328001.out).2.2 | (with_reducible refine Kd.C_alloc ?_ _) | (with_reducible refine Kd.C_drewN ?_ _) | (with_reducible refine Kd.C_drew ?_))); (case side2 => exact (Kd.R_reads' HO_328001.out).2.1); rintro e w65 ⟨rfl, hb⟩; have n0_ := Aside0.mk (Kd.R_below (rl HO_314001) hb); have n1_ := Aside0.mk (Kd.R_below (rl HO_321001) hb); have n2_ := Aside0.mk (Kd.R_below (rl HO_328001) hb); have n3_ := Aside0.mk (blk_below (g := gb313) (o := .cells #[.int .i64 t306, .slice Ao11 t307.length co11] 35 (0, 0)) (bk BK313) hb); have n4_ := Aside0.mk (blk_below (g := gb320) (o := .cells #[.int .i64 t314, .slice Ao16 t315.length co16] 35 (0, 0)) (bk BK320) hb); have n5_ := Aside0.mk (blk_below (g := gb327) (o := .cells #[.int .i64 t321, .slice Ao23 t322.length co23] 35 (0, 0)) (bk BK327) hb); have n6_ := Aside0.mk (below_step (bs3 HB GE313 GE320 GE327) hb); clear HO_314001; clear HO_321001; clear HO_328001; clear BK313; clear BK320; clear BK327; clear HB; have HO_314001 := n0_; have HO_321001 := n1_; have HO_328001 := n2_; have BK313 := n3_; have BK320 := n4_; have BK327 := n5_; have HB := n6_; clear n0_ n1_ n2_ n3_ n4_ n5_ n6_; (try clear hb); (try clear hb2); (try clear hk); (try clear hi))); try go_wp2_with (first | (go_at_call 31; (with_reducible refine (impl_Root.calls kj6 t321 _ _ t322 t310 t330 _ ?side1 ?side2 A36.out).mono ?_); (case side1 => repeat (first | exact (Kd.R_reads' HO_328001.out).2.2 | (with_reducible refine Kd.C_alloc ?_ _) | (with_reducible refine Kd.C_drewN ?_ _) | (with_reducible refine Kd.C_drew ?_))); (case side2 => exact (Kd.R_reads' HO_328001.out).2.1); rintro e w63 ⟨rfl, hb⟩; have n0_ := Aside0.mk (Kd.R_below (rl HO_314001) hb); have n1_ := Aside0.mk (Kd.R_below (rl HO_321001) hb); have n2_ := Aside0.mk (Kd.R_below (rl HO_328001) hb); have n3_ := Aside0.mk (blk_below (g := gb313) (o := .cells #[.int .i64 t306, .slice Ao11 t307.length co11] 35 (0, 0)) (bk BK313) hb); have n4_ := Aside0.mk (blk_below (g := gb320) (o := .cells #[.int .i64 t314, .slice Ao16 t315.length co16] 35 (0, 0)) (bk BK320) hb); have n5_ := Aside0.mk (blk_below (g := gb327) (o := .cells #[.int .i64 t321, .slice Ao23 t322.length co23] 35 (0, 0)) (bk BK327) hb); have n6_ := Aside0.mk (below_step (bs3 HB GE313 GE320 GE327) hb); clear HO_314001; clear HO_321001; clear HO_328001; clear BK313; clear BK320; clear BK327; clear HB; have HO_314001 := n0_; have HO_321001 := n1_; have HO_328001 := n2_; have BK313 := n3_; have BK320 := n4_; have BK327 := n5_; have HB := n6_; clear n0_ n1_ n2_ n3_ n4_ n5_ n6_; (try clear hb); (try clear hb2); (try clear hk); (try clear hi); have hcz64_0 : w63.cell? ⟨gb327, 0, none⟩ = some (.int .i64 t321) := (blk_cell BK327.out 0).trans rfl; have hcz64_1 : w63.cell? ⟨gb327, 1, none⟩ = some (.slice Ao23 t322.length co23) := (blk_cell BK327.out 1).trans rfl; have hfz64_0 := blk_frozen BK327.out 0; have hfz64_1 := blk_frozen BK327.out 1) | (go_at_call 31; (with_reducible refine (impl_Root.calls kj6 t321 _ _ t322 t311 t331 _ ?side1 ?side2 A39.out).mono ?_); (case side1 => repeat (first | exact (Kd.R_reads' HO_328001.out).2.2 | (with_reducible refine Kd.C_alloc ?_ _) | (with_reducible refine Kd.C_drewN ?_ _) | (with_reducible refine Kd.C_drew ?_))); (case side2 => exact (Kd.R_reads' HO_328001.out).2.1); rintro e w65 ⟨rfl, hb⟩; have n0_ := Aside0.mk (Kd.R_below (rl HO_314001) hb); have n1_ := Aside0.mk (Kd.R_below (rl HO_321001) hb); have n2_ := Aside0.mk (Kd.R_below (rl HO_328001) hb); have n3_ := Aside0.mk (blk_below (g := gb313) (o := .cells #[.int .i64 t306, .slice Ao11 t307.length co11] 35 (0, 0)) (bk BK313) hb); have n4_ := Aside0.mk (blk_below (g := gb320) (o := .cells #[.int .i64 t314, .slice Ao16 t315.length co16] 35 (0, 0)) (bk BK320) hb); have n5_ := Aside0.mk (blk_below (g := gb327) (o := .cells #[.int .i64 t321, .slice Ao23 t322.length co23] 35 (0, 0)) (bk BK327) hb); have n6_ := Aside0.mk (below_step (bs3 HB GE313 GE320 GE327) hb); clear HO_314001; clear HO_321001; clear HO_328001; clear BK313; clear BK320; clear BK327; clear HB; have HO_314001 := n0_; have HO_321001 := n1_; have HO_328001 := n2_; have BK313 := n3_; have BK320 := n4_; have BK327 := n5_; have HB := n6_; clear n0_ n1_ n2_ n3_ n4_ n5_ n6_; (try clear hb); (try clear hb2); (try clear hk); (try clear hi))))
         go_meet
         case rel => exact ⟨_, (true), (by first | rfl | (simp; done) | (simp [*]; done) | (simp only [bne_nil_]; done) | (simp [bne_nil_]; done)), H', ⟨by have := HJ6.out; first | omega | exact Nat.le_refl _⟩, ⟨rl HO_314001⟩, ⟨rl HO_321001⟩, ⟨rl HO_328001⟩, ⟨bk BK313⟩, ⟨bk BK320⟩, ⟨bk BK327⟩, ⟨bs3 HB GE313 GE320 GE327⟩⟩
       ·rw [if_neg c38] at H
        have c38b0 : (t330 == (ji37)) = false := beq_eq_false_iff_ne.mpr c38
        have c38b1 : (t330 != (ji37)) = true := bne_iff_ne.mpr c38
        (first | rw [c38b0] | (simp only [i64_w, i32_w]; rw [c38b0]) | skip)
        have H' := Aside0.mk H
        clear H
        have hnb66 := NB327_313.out
        have hnc66 := NB313_327.out
        have hnb67 := NB327_320.out
        have hnc67 := NB320_327.out
        have hcz68_0 : w35.cell? ⟨gb327, 0, none⟩ = some (.int .i64 t321) := (blk_cell BK327.out 0).trans rfl
        have hcz68_1 : w35.cell? ⟨gb327, 1, none⟩ = some (.slice Ao23 t322.length co23) := (blk_cell BK327.out 1).trans rfl
        have hfz68_0 := blk_frozen BK327.out 0
        have hfz68_1 := blk_frozen BK327.out 1
        go_wp2_with (first | (go_at_call 31; (with_reducible refine (impl_Root.calls kj6 t321 _ _ t322 t310 t330 _ ?side1 ?side2 A36.out).mono ?_); (case side1 => repeat (first | exact (Kd.R_reads' HO_328001.out).2.2 | (with_reducible refine Kd.C_alloc ?_ _) | (with_reducible refine Kd.C_drewN ?_ _) | (with_reducible refine Kd.C_drew ?_))); (case side2 => exact (Kd.R_reads' HO_328001.out).2.1); rintro e w69 ⟨rfl, hb⟩; have n0_ := Aside0.mk (Kd.R_below (rl HO_314001) hb); have n1_ := Aside0.mk (Kd.R_below (rl HO_321001) hb); have n2_ := Aside0.mk (Kd.R_below (rl HO_328001) hb); have n3_ := Aside0.mk (blk_below (g := gb313) (o := .cells #[.int .i64 t306, .slice Ao11 t307.length co11] 35 (0, 0)) (bk BK313) hb); have n4_ := Aside0.mk (blk_below (g := gb320) (o := .cells #[.int .i64 t314, .slice Ao16 t315.length co16] 35 (0, 0)) (bk BK320) hb); have n5_ := Aside0.mk (blk_below (g := gb327) (o := .cells #[.int .i64 t321, .slice Ao23 t322.length co23] 35 (0, 0)) (bk BK327) hb); have n6_ := Aside0.mk (below_step (bs3 HB GE313 GE320 GE327) hb); clear HO_314001; clear HO_321001; clear HO_328001; clear BK313; clear BK320; clear BK327; clear HB; have HO_314001 := n0_; have HO_321001 := n1_; have HO_328001 := n2_; have BK313 := n3_; have BK320 := n4_; have BK327 := n5_; have HB := n6_; clear n0_ n1_ n2_ n3_ n4_ n5_ n6_; (try clear hb); (try clear hb2); (try clear hk); (try clear hi)))
        repeat (go_quiet (first | (go_at_call 31; (with_reducible refine (impl_Root.calls kj6 t321 _ _ t322 t310 t330 _ ?side1 ?side2 A36.out).mono ?_); (case side1 => repeat (first | exact (Kd.R_reads' HO_328001.out).2.2 | (with_reducible refine Kd.C_alloc ?_ _) | (with_reducible refine Kd.C_drewN ?_ _) | (with_reducible refine Kd.C_drew ?_))); (case side2 => exact (Kd.R_reads' HO_328001.out).2.1); rintro e w69 ⟨rfl, hb⟩; have n0_ := Aside0.mk (Kd.R_below (rl HO_314001) hb); have n1_ := Aside0.mk (Kd.R_below (rl HO_321001) hb); have n2_ := Aside0.mk (Kd.R_below (rl HO_328001) hb); have n3_ := Aside0.mk (blk_below (g := gb313) (o := .cells #[.int .i64 t306, .slice Ao11 t307.length co11] 35 (0, 0)) (bk BK313) hb); have n4_ := Aside0.mk (blk_below (g := gb320) (o := .cells #[.int .i64 t314, .slice Ao16 t315.length co16] 35 (0, 0)) (bk BK320) hb); have n5_ := Aside0.mk (blk_below (g := gb327) (o := .cells #[.int .i64 t321, .slice Ao23 t322.length co23] 35 (0, 0)) (bk BK327) hb); have n6_ := Aside0.mk (below_step (bs3 HB GE313 GE320 GE327) hb); clear HO_314001; clear HO_321001; clear HO_328001; clear BK313; clear BK320; clear BK327; clear HB; have HO_314001 := n0_; have HO_321001 := n1_; have HO_328001 := n2_; have BK313 := n3_; have BK320 := n4_; have BK327 := n5_; have HB := n6_; clear n0_ n1_ n2_ n3_ n4_ n5_ n6_; (try clear hb); (try clear hb2); (try clear hk); (try clear hi))); try go_wp2_with (first | (go_at_call 31; (with_reducible refine (impl_Root.calls kj6 t321 _ _ t322 t310 t330 _ ?side1 ?side2 A36.out).mono ?_); (case side1 => repeat (first | exact (Kd.R_reads' HO_328001.out).2.2 | (with_reducible refine Kd.C_alloc ?_ _) | (with_reducible refine Kd.C_drewN ?_ _) | (with_reducible refine Kd.C_drew ?_))); (case side2 => exact (Kd.R_reads' HO_328001.out).2.1); rintro e w69 ⟨rfl, hb⟩; have n0_ := Aside0.mk (Kd.R_below (rl HO_314001) hb); have n1_ := Aside0.mk (Kd.R_below (rl HO_321001) hb); have n2_ := Aside0.mk (Kd.R_below (rl HO_328001) hb); have n3_ := Aside0.mk (blk_below (g := gb313) (o := .cells #[.int .i64 t306, .slice Ao11 t307.length co11] 35 (0, 0)) (bk BK313) hb); have n4_ := Aside0.mk (blk_below (g := gb320) (o := .cells #[.int .i64 t314, .slice Ao16 t315.length co16] 35 (0, 0)) (bk BK320) hb); have n5_ := Aside0.mk (blk_below (g := gb327) (o := .cells #[.int .i64 t321, .slice Ao23 t322.length co23] 35 (0, 0)) (bk BK327) hb); have n6_ := Aside0.mk (below_step (bs3 HB GE313 GE320 GE327) hb); clear HO_314001; clear HO_321001; clear HO_328001; clear BK313; clear BK320; clear BK327; clear HB; have HO_314001 := n0_; have HO_321001 := n1_; have HO_328001 := n2_; have BK313 := n3_; have BK320 := n4_; have BK327 := n5_; have HB := n6_; clear n0_ n1_ n2_ n3_ n4_ n5_ n6_; (try clear hb); (try clear hb2); (try clear hk); (try clear hi))))
        go_meet
        case rel => exact ⟨_, (true), (by first | rfl | (simp; done) | (simp [*]; done) | (simp only [bne_nil_]; done) | (simp [bne_nil_]; done)), H', ⟨by have := HJ6.out; first | omega | exact Nat.le_refl _⟩, ⟨rl HO_314001⟩, ⟨rl HO_321001⟩, ⟨rl HO_328001⟩, ⟨bk BK313⟩, ⟨bk BK320⟩, ⟨bk BK327⟩, ⟨bs3 HB GE313 GE320 GE327⟩⟩
      case rest =>
       clear HC29
       try clear c1
       try clear c2
       try clear p2
       try clear c3
       try clear c4
       try clear c5
       try clear c6
       try clear c14
       try clear c20
       try clear c21
       try clear c24
       try clear c24b0
       try clear c24b1
       try clear c24b2
       try clear c25
       try clear c26
       try clear c30
       try clear c31
       try clear c38
       try clear c38b0
       try clear c38b1
       try clear c40
       try clear c40b0
       try clear c41
       try clear c41b0
       try clear c41b1
       try clear c43
       try clear c44
       try clear c45
       try clear c52
       try clear c53
       try clear c60
       try clear c61
       try clear c66
       try clear c67
       try clear hcz10_0
       try clear hcz10_1
       try clear hcz15_0
       try clear hcz15_1
       try clear hcz17_0
       try clear hcz17_1
       try clear hcz22_0
       try clear hcz22_1
       try clear hcz32_0
       try clear hcz32_1
       try clear hcz34_0
       try clear hcz34_1
       try clear hcz46_0
       try clear hcz46_1
       try clear hcz48_0
       try clear hcz48_1
       try clear hcz50_0
       try clear hcz50_1
       try clear hcz54_0
       try clear hcz54_1
       try clear hcz56_0
       try clear hcz56_1
       try clear hcz58_0
       try clear hcz58_1
       try clear hcz62_0
       try clear hcz62_1
       try clear hcz64_0
       try clear hcz64_1
       try clear hcz68_0
       try clear hcz68_1
       try clear hfz10_0
       try clear hfz10_1
       try clear hfz15_0
       try clear hfz15_1
       try clear hfz17_0
       try clear hfz17_1
       try clear hfz22_0
       try clear hfz22_1
       try clear hfz32_0
       try clear hfz32_1
       try clear hfz34_0
       try clear hfz34_1
       try clear hfz46_0
       try clear hfz46_1
       try clear hfz48_0
       try clear hfz48_1
       try clear hfz50_0
       try clear hfz50_1
       try clear hfz54_0
       try clear hfz54_1
       try clear hfz56_0
       try clear hfz56_1
       try clear hfz58_0
       try clear hfz58_1
       try clear hfz62_0
       try clear hfz62_1
       try clear hfz64_0
       try clear hfz64_1
       try clear hfz68_0
       try clear hfz68_1
       try clear p2
       obtain ⟨kq, x91_28, rfl, HA, HJ28, HO_314001, HO_321001, HO_328001, BK313, BK320, BK327, HB⟩ := hcut
       cases kq with
       | zero => exact absurd HA.out (by simp [laws_FnForest.j1])
       | succ kj28 =>
        have H := HA.out
        clear HA
        simp only [laws_FnForest.j1] at H
        by_cases c70 : x91_28 = true
        ·subst c70
         have H1 : (some false) = some r := by rw [if_pos rfl] at H; exact H
         clear H
         have H := H1
         clear H1
         subst hrt
         exact absurd H (by simp)
        ·replace c70 := Bool.eq_false_iff.mpr c70
         subst c70
         have H1 : ((impl_Undo.f kj28 t321 t322 (t307.length : Int)).bind fun bt333 => (if bt333.1 = t306 then (laws_FnForest.j2 kj28 t310 t311 ((bt333.2.length : Int) != (t307.length : Int)) t306 t307 t321 t322 bt333.1 bt333.2) else (laws_FnForest.j2 kj28 t310 t311 true t306 t307 t321 t322 bt333.1 bt333.2))) = some r := by rw [if_neg (show ¬ (false = true) by decide)] at H; exact H
         clear H
         have H := H1
         clear H1
         replace H := Option.bind_eq_some_iff.mp H
         obtain ⟨⟨t333, t334⟩, A710, H⟩ := H
         replace H : (if t333 = t306 then (laws_FnForest.j2 kj28 t310 t311 ((t334.length : Int) != (t307.length : Int)) t306 t307 t321 t322 t333 t334) else (laws_FnForest.j2 kj28 t310 t311 true t306 t307 t321 t322 t333 t334)) = some r := H
         have A71 := Aside0.mk A710
         clear A710
         have HC72 := Aside0.mk H
         clear H
         have hnb73 := NB327_313.out
         have hnc73 := NB313_327.out
         have hnb74 := NB327_320.out
         have hnc74 := NB320_327.out
         have hcz75_0 : wc.cell? ⟨gb327, 0, none⟩ = some (.int .i64 t321) := (blk_cell BK327.out 0).trans rfl
         have hcz75_1 : wc.cell? ⟨gb327, 1, none⟩ = some (.slice Ao23 t322.length co23) := (blk_cell BK327.out 1).trans rfl
         have hfz75_0 := blk_frozen BK327.out 0
         have hfz75_1 := blk_frozen BK327.out 1
         have hnb76 := NB313_320.out
         have hnc76 := NB320_313.out
         have hcz77_0 : wc.cell? ⟨gb313, 0, none⟩ = some (.int .i64 t306) := (blk_cell BK313.out 0).trans rfl
         have hcz77_1 : wc.cell? ⟨gb313, 1, none⟩ = some (.slice Ao11 t307.length co11) := (blk_cell BK313.out 1).trans rfl
         have hfz77_0 := blk_frozen BK313.out 0
         have hfz77_1 := blk_frozen BK313.out 1
         go_upto_region 15 with (first | (go_at_call 23; (with_reducible refine (impl_Undo.calls kj28 t321 _ _ t322 (t307.length : Int) t333 t334 _ ?side1 ?side2 A71.out).mono ?_); (case side1 => repeat (first | exact (Kd.R_reads' HO_328001.out).2.2 | (with_reducible refine Kd.C_alloc ?_ _) | (with_reducible refine Kd.C_drewN ?_ _) | (with_reducible refine Kd.C_drew ?_))); (case side2 => exact (Kd.R_reads' HO_328001.out).2.1); rintro e w78 ⟨v335, rfl, ho0, hb⟩; have n0_ := Aside0.mk (Kd.R_elder' (rl HO_314001) (Kd.R_base ho0) hb); have n1_ := Aside0.mk (Kd.R_elder' (rl HO_321001) (Kd.R_base ho0) hb); have n2_ := Aside0.mk (Kd.R_elder' (rl HO_328001) (Kd.R_base ho0) hb); have n3_ := Aside0.mk (Kd.R_lower (Kd.R_new' (Kd.R_new' (Kd.R_new' ho0 (Kd.R_lt (rl HO_314001))) (Kd.R_lt (rl HO_321001))) (Kd.R_lt (rl HO_328001))) (below_size (bs3 HB GE313 GE320 GE327))); have n4_ := Aside0.mk (blk_below (g := gb313) (o := .cells #[.int .i64 t306, .slice Ao11 t307.length co11] 35 (0, 0)) (bk BK313) hb); have n5_ := Aside0.mk (blk_below (g := gb320) (o := .cells #[.int .i64 t314, .slice Ao16 t315.length co16] 35 (0, 0)) (bk BK320) hb); have n6_ := Aside0.mk (blk_below (g := gb327) (o := .cells #[.int .i64 t321, .slice Ao23 t322.length co23] 35 (0, 0)) (bk BK327) hb); have n7_ := Aside0.mk (below_step (bs3 HB GE313 GE320 GE327) hb); clear HO_314001; clear HO_321001; clear HO_328001; clear BK313; clear BK320; clear BK327; clear HB; have HO_314001 := n0_; have HO_321001 := n1_; have HO_328001 := n2_; have HO336 := n3_; have BK313 := n4_; have BK320 := n5_; have BK327 := n6_; have HB := n7_; clear n0_ n1_ n2_ n3_ n4_ n5_ n6_ n7_; (try clear hb); (try clear hb2); (try clear hk); (try clear hi); (try clear ho0)) | ((with_reducible refine gate_dst (N := 15) rfl ?_); (try (refine gate_guard (by rfl) ?_; dsimp only)); refine box_event ?hg (N := 15) ?hd (cs := #[.int .i64 0, .slice none 0 0]) (t := 35) ?hr ?_; (case hd => rfl); (case hg => rfl); (case hr => first | (go_simp; done) | (go_simp; rfl)); intro gb337 hg w79 hbox hb; have n0_ := Aside0.mk (Kd.R_below (rl HO_314001) hb); have n1_ := Aside0.mk (Kd.R_below (rl HO_321001) hb); have n2_ := Aside0.mk (Kd.R_below (rl HO_328001) hb); have n3_ := Aside0.mk (Kd.R_below (rl HO336) hb); have n4_ := Aside0.mk (blk_below (g := gb313) (o := .cells #[.int .i64 t306, .slice Ao11 t307.length co11] 35 (0, 0)) (bk BK313) hb); have n5_ := Aside0.mk (blk_below (g := gb320) (o := .cells #[.int .i64 t314, .slice Ao16 t315.length co16] 35 (0, 0)) (bk BK320) hb); have n6_ := Aside0.mk (blk_below (g := gb327) (o := .cells #[.int .i64 t321, .slice Ao23 t322.length co23] 35 (0, 0)) (bk BK327) hb); have n7_ := Aside0.mk (below_step (bs3 HB GE313 GE320 GE327) hb); have n8_ := Aside0.mk (hbox); have n9_ := Aside0.mk ((by rw [hg]; exact (below_size (bs3 HB GE313 GE320 GE327)) : w.heap.size ≤ gb337)); have n10_ := Aside0.mk ((by rw [hg]; exact (below_size (bs3 HB GE313 GE320 GE327)) : w.heap.size ≤ gb337)); have n11_ := Aside0.mk ((by rw [hg]; exact Nat.ne_of_lt (blk_lt (g := gb313) (o := .cells #[.int .i64 t306, .slice Ao11 t307.length co11] 35 (0, 0)) (bk BK313)) : gb313 ≠ gb337)); have n12_ := Aside0.mk ((by rw [hg]; exact Nat.ne_of_gt (blk_lt (g := gb313) (o := .cells #[.int .i64 t306, .slice Ao11 t307.length co11] 35 (0, 0)) (bk BK313)) : gb337 ≠ gb313)); have n13_ := Aside0.mk ((by rw [hg]; exact Nat.ne_of_lt (blk_lt (g := gb320) (o := .cells #[.int .i64 t314, .slice Ao16 t315.length co16] 35 (0, 0)) (bk BK320)) : gb320 ≠ gb337)); have n14_ := Aside0.mk ((by rw [hg]; exact Nat.ne_of_gt (blk_lt (g := gb320) (o := .cells #[.int .i64 t314, .slice Ao16 t315.length co16] 35 (0, 0)) (bk BK320)) : gb337 ≠ gb320)); have n15_ := Aside0.mk ((by rw [hg]; exact Nat.ne_of_lt (blk_lt (g := gb327) (o := .cells #[.int .i64 t321, .slice Ao23 t322.length co23] 35 (0, 0)) (bk BK327)) : gb327 ≠ gb337)); have n16_ := Aside0.mk ((by rw [hg]; exact Nat.ne_of_gt (blk_lt (g := gb327) (o := .cells #[.int .i64 t321, .slice Ao23 t322.length co23] 35 (0, 0)) (bk BK327)) : gb337 ≠ gb327)); clear HO_314001; clear HO_321001; clear HO_328001; clear HO336; clear BK313; clear BK320; clear BK327; clear HB; have HO_314001 := n0_; have HO_321001 := n1_; have HO_328001 := n2_; have HO336 := n3_; have BK313 := n4_; have BK320 := n5_; have BK327 := n6_; have HB := n7_; have BK337 := n8_; have GW337 := n9_; have GE337 := n10_; have NB313_337 := n11_; have NB337_313 := n12_; have NB320_337 := n13_; have NB337_320 := n14_; have NB327_337 := n15_; have NB337_327 := n16_; clear n0_ n1_ n2_ n3_ n4_ n5_ n6_ n7_ n8_ n9_ n10_ n11_ n12_ n13_ n14_ n15_ n16_; clear hb hbox hg; have hnb80 := NB337_313.out; have hnc80 := NB313_337.out; have hnb81 := NB337_320.out; have hnc81 := NB320_337.out; have hnb82 := NB337_327.out; have hnc82 := NB327_337.out; have hcz83_0 : w79.cell? ⟨gb337, 0, none⟩ = some (.int .i64 0) := (blk_cell BK337.out 0).trans rfl; have hcz83_1 : w79.cell? ⟨gb337, 1, none⟩ = some (.slice none 0 0) := (blk_cell BK337.out 1).trans rfl; have hfz83_0 := blk_frozen BK337.out 0; have hfz83_1 := blk_frozen BK337.out 1; obtain ⟨Ao84, co84, eo84⟩ := Kd.R_slice HO336.out; subst eo84))
         repeat (go_quiet (first | (go_at_call 23; (with_reducible refine (impl_Undo.calls kj28 t321 _ _ t322 (t307.length : Int) t333 t334 _ ?side1 ?side2 A71.out).mono ?_); (case side1 => repeat (first | exact (Kd.R_reads' HO_328001.out).2.2 | (with_reducible refine Kd.C_alloc ?_ _) | (with_reducible refine Kd.C_drewN ?_ _) | (with_reducible refine Kd.C_drew ?_))); (case side2 => exact (Kd.R_reads' HO_328001.out).2.1); rintro e w78 ⟨v335, rfl, ho0, hb⟩; have n0_ := Aside0.mk (Kd.R_elder' (rl HO_314001) (Kd.R_base ho0) hb); have n1_ := Aside0.mk (Kd.R_elder' (rl HO_321001) (Kd.R_base ho0) hb); have n2_ := Aside0.mk (Kd.R_elder' (rl HO_328001) (Kd.R_base ho0) hb); have n3_ := Aside0.mk (Kd.R_lower (Kd.R_new' (Kd.R_new' (Kd.R_new' ho0 (Kd.R_lt (rl HO_314001))) (Kd.R_lt (rl HO_321001))) (Kd.R_lt (rl HO_328001))) (below_size (bs3 HB GE313 GE320 GE327))); have n4_ := Aside0.mk (blk_below (g := gb313) (o := .cells #[.int .i64 t306, .slice Ao11 t307.length co11] 35 (0, 0)) (bk BK313) hb); have n5_ := Aside0.mk (blk_below (g := gb320) (o := .cells #[.int .i64 t314, .slice Ao16 t315.length co16] 35 (0, 0)) (bk BK320) hb); have n6_ := Aside0.mk (blk_below (g := gb327) (o := .cells #[.int .i64 t321, .slice Ao23 t322.length co23] 35 (0, 0)) (bk BK327) hb); have n7_ := Aside0.mk (below_step (bs3 HB GE313 GE320 GE327) hb); clear HO_314001; clear HO_321001; clear HO_328001; clear BK313; clear BK320; clear BK327; clear HB; have HO_314001 := n0_; have HO_321001 := n1_; have HO_328001 := n2_; have HO336 := n3_; have BK313 := n4_; have BK320 := n5_; have BK327 := n6_; have HB := n7_; clear n0_ n1_ n2_ n3_ n4_ n5_ n6_ n7_; (try clear hb); (try clear hb2); (try clear hk); (try clear hi); (try clear ho0)) | ((with_reducible refine gate_dst (N := 15) rfl ?_); (try (refine gate_guard (by rfl) ?_; dsimp only)); refine box_event ?hg (N := 15) ?hd (cs := #[.int .i64 0, .slice none 0 0]) (t := 35) ?hr ?_; (case hd => rfl); (case hg => rfl); (case hr => first | (go_simp; done) | (go_simp; rfl)); intro gb337 hg w79 hbox hb; have n0_ := Aside0.mk (Kd.R_below (rl HO_314001) hb); have n1_ := Aside0.mk (Kd.R_below (rl HO_321001) hb); have n2_ := Aside0.mk (Kd.R_below (rl HO_328001) hb); have n3_ := Aside0.mk (Kd.R_below (rl HO336) hb); have n4_ := Aside0.mk (blk_below (g := gb313) (o := .cells #[.int .i64 t306, .slice Ao11 t307.length co11] 35 (0, 0)) (bk BK313) hb); have n5_ := Aside0.mk (blk_below (g := gb320) (o := .cells #[.int .i64 t314, .slice Ao16 t315.length co16] 35 (0, 0)) (bk BK320) hb); have n6_ := Aside0.mk (blk_below (g := gb327) (o := .cells #[.int .i64 t321, .slice Ao23 t322.length co23] 35 (0, 0)) (bk BK327) hb); have n7_ := Aside0.mk (below_step (bs3 HB GE313 GE320 GE327) hb); have n8_ := Aside0.mk (hbox); have n9_ := Aside0.mk ((by rw [hg]; exact (below_size (bs3 HB GE313 GE320 GE327)) : w.heap.size ≤ gb337)); have n10_ := Aside0.mk ((by rw [hg]; exact (below_size (bs3 HB GE313 GE320 GE327)) : w.heap.size ≤ gb337)); have n11_ := Aside0.mk ((by rw [hg]; exact Nat.ne_of_lt (blk_lt (g := gb313) (o := .cells #[.int .i64 t306, .slice Ao11 t307.length co11] 35 (0, 0)) (bk BK313)) : gb313 ≠ gb337)); have n12_ := Aside0.mk ((by rw [hg]; exact Nat.ne_of_gt (blk_lt (g := gb313) (o := .cells #[.int .i64 t306, .slice Ao11 t307.length co11] 35 (0, 0)) (bk BK313)) : gb337 ≠ gb313)); have n13_ := Aside0.mk ((by rw [hg]; exact Nat.ne_of_lt (blk_lt (g := gb320) (o := .cells #[.int .i64 t314, .slice Ao16 t315.length co16] 35 (0, 0)) (bk BK320)) : gb320 ≠ gb337)); have n14_ := Aside0.mk ((by rw [hg]; exact Nat.ne_of_gt (blk_lt (g := gb320) (o := .cells #[.int .i64 t314, .slice Ao16 t315.length co16] 35 (0, 0)) (bk BK320)) : gb337 ≠ gb320)); have n15_ := Aside0.mk ((by rw [hg]; exact Nat.ne_of_lt (blk_lt (g := gb327) (o := .cells #[.int .i64 t321, .slice Ao23 t322.length co23] 35 (0, 0)) (bk BK327)) : gb327 ≠ gb337)); have n16_ := Aside0.mk ((by rw [hg]; exact Nat.ne_of_gt (blk_lt (g := gb327) (o := .cells #[.int .i64 t321, .slice Ao23 t322.length co23] 35 (0, 0)) (bk BK327)) : gb337 ≠ gb327)); clear HO_314001; clear HO_321001; clear HO_328001; clear HO336; clear BK313; clear BK320; clear BK327; clear HB; have HO_314001 := n0_; have HO_321001 := n1_; have HO_328001 := n2_; have HO336 := n3_; have BK313 := n4_; have BK320 := n5_; have BK327 := n6_; have HB := n7_; have BK337 := n8_; have GW337 := n9_; have GE337 := n10_; have NB313_337 := n11_; have NB337_313 := n12_; have NB320_337 := n13_; have NB337_320 := n14_; have NB327_337 := n15_; have NB337_327 := n16_; clear n0_ n1_ n2_ n3_ n4_ n5_ n6_ n7_ n8_ n9_ n10_ n11_ n12_ n13_ n14_ n15_ n16_; clear hb hbox hg; have hnb80 := NB337_313.out; have hnc80 := NB313_337.out; have hnb81 := NB337_320.out; have hnc81 := NB320_337.out; have hnb82 := NB337_327.out; have hnc82 := NB327_337.out; have hcz83_0 : w79.cell? ⟨gb337, 0, none⟩ = some (.int .i64 0) := (blk_cell BK337.out 0).trans rfl; have hcz83_1 : w79.cell? ⟨gb337, 1, none⟩ = some (.slice none 0 0) := (blk_cell BK337.out 1).trans rfl; have hfz83_0 := blk_frozen BK337.out 0; have hfz83_1 := blk_frozen BK337.out 1; obtain ⟨Ao84, co84, eo84⟩ := Kd.R_slice HO336.out; subst eo84)); go_upto_region 15 with (first | (go_at_call 23; (with_reducible refine (impl_Undo.calls kj28 t321 _ _ t322 (t307.length : Int) t333 t334 _ ?side1 ?side2 A71.out).mono ?_); (case side1 => repeat (first | exact (Kd.R_reads' HO_328001.out).2.2 | (with_reducible refine Kd.C_alloc ?_ _) | (with_reducible refine Kd.C_drewN ?_ _) | (with_reducible refine Kd.C_drew ?_))); (case side2 => exact (Kd.R_reads' HO_328001.out).2.1); rintro e w78 ⟨v335, rfl, ho0, hb⟩; have n0_ := Aside0.mk (Kd.R_elder' (rl HO_314001) (Kd.R_base ho0) hb); have n1_ := Aside0.mk (Kd.R_elder' (rl HO_321001) (Kd.R_base ho0) hb); have n2_ := Aside0.mk (Kd.R_elder' (rl HO_328001) (Kd.R_base ho0) hb); have n3_ := Aside0.mk (Kd.R_lower (Kd.R_new' (Kd.R_new' (Kd.R_new' ho0 (Kd.R_lt (rl HO_314001))) (Kd.R_lt (rl HO_321001))) (Kd.R_lt (rl HO_328001))) (below_size (bs3 HB GE313 GE320 GE327))); have n4_ := Aside0.mk (blk_below (g := gb313) (o := .cells #[.int .i64 t306, .slice Ao11 t307.length co11] 35 (0, 0)) (bk BK313) hb); have n5_ := Aside0.mk (blk_below (g := gb320) (o := .cells #[.int .i64 t314, .slice Ao16 t315.length co16] 35 (0, 0)) (bk BK320) hb); have n6_ := Aside0.mk (blk_below (g := gb327) (o := .cells #[.int .i64 t321, .slice Ao23 t322.length co23] 35 (0, 0)) (bk BK327) hb); have n7_ := Aside0.mk (below_step (bs3 HB GE313 GE320 GE327) hb); clear HO_314001; clear HO_321001; clear HO_328001; clear BK313; clear BK320; clear BK327; clear HB; have HO_314001 := n0_; have HO_321001 := n1_; have HO_328001 := n2_; have HO336 := n3_; have BK313 := n4_; have BK320 := n5_; have BK327 := n6_; have HB := n7_; clear n0_ n1_ n2_ n3_ n4_ n5_ n6_ n7_; (try clear hb); (try clear hb2); (try clear hk); (try clear hi); (try clear ho0)) | ((with_reducible refine gate_dst (N := 15) rfl ?_); (try (refine gate_guard (by rfl) ?_; dsimp only)); refine box_event ?hg (N := 15) ?hd (cs := #[.int .i64 0, .slice none 0 0]) (t := 35) ?hr ?_; (case hd => rfl); (case hg => rfl); (case hr => first | (go_simp; done) | (go_simp; rfl)); intro gb337 hg w79 hbox hb; have n0_ := Aside0.mk (Kd.R_below (rl HO_314001) hb); have n1_ := Aside0.mk (Kd.R_below (rl HO_321001) hb); have n2_ := Aside0.mk (Kd.R_below (rl HO_328001) hb); have n3_ := Aside0.mk (Kd.R_below (rl HO336) hb); have n4_ := Aside0.mk (blk_below (g := gb313) (o := .cells #[.int .i64 t306, .slice Ao11 t307.length co11] 35 (0, 0)) (bk BK313) hb); have n5_ := Aside0.mk (blk_below (g := gb320) (o := .cells #[.int .i64 t314, .slice Ao16 t315.length co16] 35 (0, 0)) (bk BK320) hb); have n6_ := Aside0.mk (blk_below (g := gb327) (o := .cells #[.int .i64 t321, .slice Ao23 t322.length co23] 35 (0, 0)) (bk BK327) hb); have n7_ := Aside0.mk (below_step (bs3 HB GE313 GE320 GE327) hb); have n8_ := Aside0.mk (hbox); have n9_ := Aside0.mk ((by rw [hg]; exact (below_size (bs3 HB GE313 GE320 GE327)) : w.heap.size ≤ gb337)); have n10_ := Aside0.mk ((by rw [hg]; exact (below_size (bs3 HB GE313 GE320 GE327)) : w.heap.size ≤ gb337)); have n11_ := Aside0.mk ((by rw [hg]; exact Nat.ne_of_lt (blk_lt (g := gb313) (o := .cells #[.int .i64 t306, .slice Ao11 t307.length co11] 35 (0, 0)) (bk BK313)) : gb313 ≠ gb337)); have n12_ := Aside0.mk ((by rw [hg]; exact Nat.ne_of_gt (blk_lt (g := gb313) (o := .cells #[.int .i64 t306, .slice Ao11 t307.length co11] 35 (0, 0)) (bk BK313)) : gb337 ≠ gb313)); have n13_ := Aside0.mk ((by rw [hg]; exact Nat.ne_of_lt (blk_lt (g := gb320) (o := .cells #[.int .i64 t314, .slice Ao16 t315.length co16] 35 (0, 0)) (bk BK320)) : gb320 ≠ gb337)); have n14_ := Aside0.mk ((by rw [hg]; exact Nat.ne_of_gt (blk_lt (g := gb320) (o := .cells #[.int .i64 t314, .slice Ao16 t315.length co16] 35 (0, 0)) (bk BK320)) : gb337 ≠ gb320)); have n15_ := Aside0.mk ((by rw [hg]; exact Nat.ne_of_lt (blk_lt (g := gb327) (o := .cells #[.int .i64 t321, .slice Ao23 t322.length co23] 35 (0, 0)) (bk BK327)) : gb327 ≠ gb337)); have n16_ := Aside0.mk ((by rw [hg]; exact Nat.ne_of_gt (blk_lt (g := gb327) (o := .cells #[.int .i64 t321, .slice Ao23 t322.length co23] 35 (0, 0)) (bk BK327)) : gb337 ≠ gb327)); clear HO_314001; clear HO_321001; clear HO_328001; clear HO336; clear BK313; clear BK320; clear BK327; clear HB; have HO_314001 := n0_; have HO_321001 := n1_; have HO_328001 := n2_; have HO336 := n3_; have BK313 := n4_; have BK320 := n5_; have BK327 := n6_; have HB := n7_; have BK337 := n8_; have GW337 := n9_; have GE337 := n10_; have NB313_337 := n11_; have NB337_313 := n12_; have NB320_337 := n13_; have NB337_320 := n14_; have NB327_337 := n15_; have NB337_327 := n16_; clear n0_ n1_ n2_ n3_ n4_ n5_ n6_ n7_ n8_ n9_ n10_ n11_ n12_ n13_ n14_ n15_ n16_; clear hb hbox hg; have hnb80 := NB337_313.out; have hnc80 := NB313_337.out; have hnb81 := NB337_320.out; have hnc81 := NB320_337.out; have hnb82 := NB337_327.out; have hnc82 := NB327_337.out; have hcz83_0 : w79.cell? ⟨gb337, 0, none⟩ = some (.int .i64 0) := (blk_cell BK337.out 0).trans rfl; have hcz83_1 : w79.cell? ⟨gb337, 1, none⟩ = some (.slice none 0 0) := (blk_cell BK337.out 1).trans rfl; have hfz83_0 := blk_frozen BK337.out 0; have hfz83_1 := blk_frozen BK337.out 1; obtain ⟨Ao84, co84, eo84⟩ := Kd.R_slice HO336.out; subst eo84)))
         (try simp only [Act.put, List.setIfInBounds_toArray, List.set_cons_zero, List.set_cons_succ])
         go_cut [110] (fun v110 wc => ∃ (kq : Nat) (x110_71 : Bool), v110 = .bool x110_71 ∧ Aside0 (laws_FnForest.j2 kq t310 t311 x110_71 t306 t307 t321 t322 t333 t334 = some r) ∧ Aside0 (kq ≤ kj28) ∧ Aside0 (Kd.R k51 51 wc w.heap.size (fun k_ => some k_ ≠ ((.slice Ao16 t315.length co16) : Value).ownBlock ∧ some k_ ≠ ((.slice Ao23 t322.length co23) : Value).ownBlock ∧ some k_ ≠ ((.slice Ao84 t334.length co84) : Value).ownBlock) (.slice Ao11 t307.length co11) t307) ∧ Aside0 (Kd.R k51 51 wc w.heap.size (fun k_ => some k_ ≠ ((.slice Ao11 t307.length co11) : Value).ownBlock ∧ some k_ ≠ ((.slice Ao23 t322.length co23) : Value).ownBlock ∧ some k_ ≠ ((.slice Ao84 t334.length co84) : Value).ownBlock) (.slice Ao16 t315.length co16) t315) ∧ Aside0 (Kd.R k51 51 wc w.heap.size (fun k_ => some k_ ≠ ((.slice Ao11 t307.length co11) : Value).ownBlock ∧ some k_ ≠ ((.slice Ao16 t315.length co16) : Value).ownBlock ∧ some k_ ≠ ((.slice Ao84 t334.length co84) : Value).ownBlock) (.slice Ao23 t322.length co23) t322) ∧ Aside0 (Kd.R k51 51 wc w.heap.size (fun k_ => some k_ ≠ ((.slice Ao11 t307.length co11) : Value).ownBlock ∧ some k_ ≠ ((.slice Ao16 t315.length co16) : Value).ownBlock ∧ some k_ ≠ ((.slice Ao23 t322.length co23) : Value).ownBlock) (.slice Ao84 t334.length co84) t334) ∧ Aside0 (wc.heap[gb313]? = some (.cells #[.int .i64 t306, (.slice Ao11 t307.length co11)] 35 (0, 0))) ∧ Aside0 (wc.heap[gb320]? = some (.cells #[.int .i64 t314, (.slice Ao16 t315.length co16)] 35 (0, 0))) ∧ Aside0 (wc.heap[gb327]? = some (.cells #[.int .i64 t321, (.slice Ao23 t322.length co23)] 35 (0, 0))) ∧ Aside0 (wc.heap[gb337]? = some (.cells #[.int .i64 t333, (.slice Ao84 t334.length co84)] 35 (0, 0))) ∧ Aside0 (Below w.heap.size w wc))
         case first =>
          have H := HC72.out
          clear HC72
          by_cases c85 : t333 = t306
          ·rw [if_pos c85] at H
           have c85b0 : (t333 == t306) = true := beq_iff_eq.mpr c85
           have c85b1 : (t333 != t306) = false := bne_eq_false_iff_eq.mpr c85
           clear c85
           (first | rw [c85b0] | (simp only [i64_w, i32_w]; rw [c85b0]) | skip)
           have H' := Aside0.mk H
           clear H
           have hnb86 := NB337_313.out
           have hnc86 := NB313_337.out
           have hnb87 := NB337_320.out
           have hnc87 := NB320_337.out
           have hnb88 := NB337_327.out
           have hnc88 := NB327_337.out
           have hcz89_0 : w79.cell? ⟨gb337, 0, none⟩ = some (.int .i64 0) := (blk_cell BK337.out 0).trans rfl
           have hcz89_1 : w79.cell? ⟨gb337, 1, none⟩ = some (.slice none 0 0) := (blk_cell BK337.out 1).trans rfl
           have hfz89_0 := blk_frozen BK337.out 0
           have hfz89_1 := blk_frozen BK337.out 1
           have hnb90 := NB313_320.out
           have hnc90 := NB320_313.out
           have hnb91 := NB313_327.out
           have hnc91 := NB327_313.out
           have hcz92_0 : w79.cell? ⟨gb313, 0, none⟩ = some (.int .i64 t306) := (blk_cell BK313.out 0).trans rfl
           have hcz92_1 : w79.cell? ⟨gb313, 1, none⟩ = some (.slice Ao11 t307.length co11) := (blk_cell BK313.out 1).trans rfl
           have hfz92_0 := blk_frozen BK313.out 0
           have hfz92_1 := blk_frozen BK313.out 1
           go_wp2
           repeat (go_quiet (fail); try go_wp2)
           go_meet
           case rel => exact ⟨_, (((t334.length : Int) != (t307.length : Int))), (by first | rfl | (simp; done) | (simp [*]; done) | (simp only [bne_nil_]; done) | (simp [bne_nil_]; done)), H', ⟨by have := HJ6.out; have := HJ28.out; first | omega | exact Nat.le_refl _⟩, ⟨by (with_reducible repeat (first | apply Kd.R_alloc | apply Kd.R_drewN | apply Kd.R_drew)); exact Kd.R_mono (Kd.R_far (p := ⟨gb337, 1, none⟩) (Kd.R_far (p := ⟨gb337, 0, none⟩) (Kd.R_types HO_314001.out BK337.out (by decide)) (fun _ hk => hk.2) (.int .i64 t333)) (fun _ hk => hk.2) (.slice Ao84 t334.length co84)) (fun _ hk => ⟨hk.1.1.1, ⟨hk.1.1.2, hk.1.2⟩⟩)⟩, ⟨by (with_reducible repeat (first | apply Kd.R_alloc | apply Kd.R_drewN | apply Kd.R_drew)); exact Kd.R_mono (Kd.R_far (p := ⟨gb337, 1, none⟩) (Kd.R_far (p := ⟨gb337, 0, none⟩) (Kd.R_types HO_321001.out BK337.out (by decide)) (fun _ hk => hk.2) (.int .i64 t333)) (fun _ hk => hk.2) (.slice Ao84 t334.length co84)) (fun _ hk => ⟨hk.1.1.1, ⟨hk.1.1.2, hk.1.2⟩⟩)⟩, ⟨by (with_reducible repeat (first | apply Kd.R_alloc | apply Kd.R_drewN | apply Kd.R_drew)); exact Kd.R_mono (Kd.R_far (p := ⟨gb337, 1, none⟩) (Kd.R_far (p := ⟨gb337, 0, none⟩) (Kd.R_types HO_328001.out BK337.out (by decide)) (fun _ hk => hk.2) (.int .i64 t333)) (fun _ hk => hk.2) (.slice Ao84 t334.length co84)) (fun _ hk => ⟨hk.1.1.1, ⟨hk.1.1.2, hk.1.2⟩⟩)⟩, ⟨by (with_reducible repeat (first | apply Kd.R_alloc | apply Kd.R_drewN | apply Kd.R_drew)); exact Kd.R_mono (Kd.R_far (p := ⟨gb337, 1, none⟩) (Kd.R_far (p := ⟨gb337, 0, none⟩) (Kd.R_types HO336.out BK337.out (by decide)) (fun _ hk => hk.2) (.int .i64 t333)) (fun _ hk => hk.2) (.slice Ao84 t334.length co84)) (fun _ hk => ⟨hk.1.1.1.2, ⟨hk.1.1.2, hk.1.2⟩⟩)⟩, ⟨by (with_reducible repeat (first | refine blk_drewN ?_ _ | refine blk_drew ?_ | refine blk_alloc ?_ _)); refine blk_far ?_ NB313_337.out _; (with_reducible repeat (first | refine blk_drewN ?_ _ | refine blk_drew ?_ | refine blk_alloc ?_ _)); refine blk_far ?_ NB313_337.out _; (with_reducible repeat (first | refine blk_drewN ?_ _ | refine blk_drew ?_ | refine blk_alloc ?_ _)); exact BK313.out⟩, ⟨by (with_reducible repeat (first | refine blk_drewN ?_ _ | refine blk_drew ?_ | refine blk_alloc ?_ _)); refine blk_far ?_ NB320_337.out _; (with_reducible repeat (first | refine blk_drewN ?_ _ | refine blk_drew ?_ | refine blk_alloc ?_ _)); refine blk_far ?_ NB320_337.out _; (with_reducible repeat (first | refine blk_drewN ?_ _ | refine blk_drew ?_ | refine blk_alloc ?_ _)); exact BK320.out⟩, ⟨by (with_reducible repeat (first | refine blk_drewN ?_ _ | refine blk_drew ?_ | refine blk_alloc ?_ _)); refine blk_far ?_ NB327_337.out _; (with_reducible repeat (first | refine blk_drewN ?_ _ | refine blk_drew ?_ | refine blk_alloc ?_ _)); refine blk_far ?_ NB327_337.out _; (with_reducible repeat (first | refine blk_drewN ?_ _ | refine blk_drew ?_ | refine blk_alloc ?_ _)); exact BK327.out⟩, ⟨by (with_reducible repeat (first | refine blk_drewN ?_ _ | refine blk_drew ?_ | refine blk_alloc ?_ _)); refine blk_put (cs := #[.int .i64 t333, .slice none 0 0]) ?_ 1 _ rfl; (with_reducible repeat (first | refine blk_drewN ?_ _ | refine blk_drew ?_ | refine blk_alloc ?_ _)); refine blk_put (cs := #[.int .i64 0, .slice none 0 0]) ?_ 0 _ rfl; (with_reducible repeat (first | refine blk_drewN ?_ _ | refine blk_drew ?_ | refine blk_alloc ?_ _)); exact BK337.out⟩, ⟨by repeat (first | (with_reducible first | exact HB.out | apply below_alloc | apply pw_below_drewN | apply below_drew1 | refine below_set ?_ GE313.out | refine below_set ?_ GE320.out | refine below_set ?_ GE327.out | refine below_set ?_ GE337.out) | exact HB.out)⟩⟩
          ·rw [if_neg c85] at H
           have c85b0 : (t333 == t306) = false := beq_eq_false_iff_ne.mpr c85
           have c85b1 : (t333 != t306) = true := bne_iff_ne.mpr c85
           (first | rw [c85b0] | (simp only [i64_w, i32_w]; rw [c85b0]) | skip)
           have H' := Aside0.mk H
           clear H
           have hnb93 := NB337_313.out
           have hnc93 := NB313_337.out
           have hnb94 := NB337_320.out
           have hnc94 := NB320_337.out
           have hnb95 := NB337_327.out
           have hnc95 := NB327_337.out
           have hcz96_0 : w79.cell? ⟨gb337, 0, none⟩ = some (.int .i64 0) := (blk_cell BK337.out 0).trans rfl
           have hcz96_1 : w79.cell? ⟨gb337, 1, none⟩ = some (.slice none 0 0) := (blk_cell BK337.out 1).trans rfl
           have hfz96_0 := blk_frozen BK337.out 0
           have hfz96_1 := blk_frozen BK337.out 1
           have hnb97 := NB313_320.out
           have hnc97 := NB320_313.out
           have hnb98 := NB313_327.out
           have hnc98 := NB327_313.out
           have hcz99_0 : w79.cell? ⟨gb313, 0, none⟩ = some (.int .i64 t306) := (blk_cell BK313.out 0).trans rfl
           have hcz99_1 : w79.cell? ⟨gb313, 1, none⟩ = some (.slice Ao11 t307.length co11) := (blk_cell BK313.out 1).trans rfl
           have hfz99_0 := blk_frozen BK313.out 0
           have hfz99_1 := blk_frozen BK313.out 1
           go_wp2
           repeat (go_quiet (fail); try go_wp2)
           go_meet
           case rel => exact ⟨_, (true), (by first | rfl | (simp; done) | (simp [*]; done) | (simp only [bne_nil_]; done) | (simp [bne_nil_]; done)), H', ⟨by have := HJ6.out; have := HJ28.out; first | omega | exact Nat.le_refl _⟩, ⟨by (with_reducible repeat (first | apply Kd.R_alloc | apply Kd.R_drewN | apply Kd.R_drew)); exact Kd.R_mono (Kd.R_far (p := ⟨gb337, 1, none⟩) (Kd.R_far (p := ⟨gb337, 0, none⟩) (Kd.R_types HO_314001.out BK337.out (by decide)) (fun _ hk => hk.2) (.int .i64 t333)) (fun _ hk => hk.2) (.slice Ao84 t334.length co84)) (fun _ hk => ⟨hk.1.1.1, ⟨hk.1.1.2, hk.1.2⟩⟩)⟩, ⟨by (with_reducible repeat (first | apply Kd.R_alloc | apply Kd.R_drewN | apply Kd.R_drew)); exact Kd.R_mono (Kd.R_far (p := ⟨gb337, 1, none⟩) (Kd.R_far (p := ⟨gb337, 0, none⟩) (Kd.R_types HO_321001.out BK337.out (by decide)) (fun _ hk => hk.2) (.int .i64 t333)) (fun _ hk => hk.2) (.slice Ao84 t334.length co84)) (fun _ hk => ⟨hk.1.1.1, ⟨hk.1.1.2, hk.1.2⟩⟩)⟩, ⟨by (with_reducible repeat (first | apply Kd.R_alloc | apply Kd.R_drewN | apply Kd.R_drew)); exact Kd.R_mono (Kd.R_far (p := ⟨gb337, 1, none⟩) (Kd.R_far (p := ⟨gb337, 0, none⟩) (Kd.R_types HO_328001.out BK337.out (by decide)) (fun _ hk => hk.2) (.int .i64 t333)) (fun _ hk => hk.2) (.slice Ao84 t334.length co84)) (fun _ hk => ⟨hk.1.1.1, ⟨hk.1.1.2, hk.1.2⟩⟩)⟩, ⟨by (with_reducible repeat (first | apply Kd.R_alloc | apply Kd.R_drewN | apply Kd.R_drew)); exact Kd.R_mono (Kd.R_far (p := ⟨gb337, 1, none⟩) (Kd.R_far (p := ⟨gb337, 0, none⟩) (Kd.R_types HO336.out BK337.out (by decide)) (fun _ hk => hk.2) (.int .i64 t333)) (fun _ hk => hk.2) (.slice Ao84 t334.length co84)) (fun _ hk => ⟨hk.1.1.1.2, ⟨hk.1.1.2, hk.1.2⟩⟩)⟩, ⟨by (with_reducible repeat (first | refine blk_drewN ?_ _ | refine blk_drew ?_ | refine blk_alloc ?_ _)); refine blk_far ?_ NB313_337.out _; (with_reducible repeat (first | refine blk_drewN ?_ _ | refine blk_drew ?_ | refine blk_alloc ?_ _)); refine blk_far ?_ NB313_337.out _; (with_reducible repeat (first | refine blk_drewN ?_ _ | refine blk_drew ?_ | refine blk_alloc ?_ _)); exact BK313.out⟩, ⟨by (with_reducible repeat (first | refine blk_drewN ?_ _ | refine blk_drew ?_ | refine blk_alloc ?_ _)); refine blk_far ?_ NB320_337.out _; (with_reducible repeat (first | refine blk_drewN ?_ _ | refine blk_drew ?_ | refine blk_alloc ?_ _)); refine blk_far ?_ NB320_337.out _; (with_reducible repeat (first | refine blk_drewN ?_ _ | refine blk_drew ?_ | refine blk_alloc ?_ _)); exact BK320.out⟩, ⟨by (with_reducible repeat (first | refine blk_drewN ?_ _ | refine blk_drew ?_ | refine blk_alloc ?_ _)); refine blk_far ?_ NB327_337.out _; (with_reducible repeat (first | refine blk_drewN ?_ _ | refine blk_drew ?_ | refine blk_alloc ?_ _)); refine blk_far ?_ NB327_337.out _; (with_reducible repeat (first | refine blk_drewN ?_ _ | refine blk_drew ?_ | refine blk_alloc ?_ _)); exact BK327.out⟩, ⟨by (with_reducible repeat (first | refine blk_drewN ?_ _ | refine blk_drew ?_ | refine blk_alloc ?_ _)); refine blk_put (cs := #[.int .i64 t333, .slice none 0 0]) ?_ 1 _ rfl; (with_reducible repeat (first | refine blk_drewN ?_ _ | refine blk_drew ?_ | refine blk_alloc ?_ _)); refine blk_put (cs := #[.int .i64 0, .slice none 0 0]) ?_ 0 _ rfl; (with_reducible repeat (first | refine blk_drewN ?_ _ | refine blk_drew ?_ | refine blk_alloc ?_ _)); exact BK337.out⟩, ⟨by repeat (first | (with_reducible first | exact HB.out | apply below_alloc | apply pw_below_drewN | apply below_drew1 | refine below_set ?_ GE313.out | refine below_set ?_ GE320.out | refine below_set ?_ GE327.out | refine below_set ?_ GE337.out) | exact HB.out)⟩⟩
         case rest =>
          clear HC72
          try clear c1
          try clear c2
          try clear p2
          try clear c3
          try clear c4
          try clear c5
          try clear c6
          try clear c7
          try clear c8
          try clear c9
          try clear c14
          try clear c20
          try clear c21
          try clear c24
          try clear c24b0
          try clear c24b1
          try clear c24b2
          try clear c25
          try clear c26
          try clear c30
          try clear c31
          try clear c38
          try clear c38b0
          try clear c38b1
          try clear c40
          try clear c40b0
          try clear c41
          try clear c41b0
          try clear c41b1
          try clear c43
          try clear c44
          try clear c45
          try clear c52
          try clear c53
          try clear c60
          try clear c61
          try clear c66
          try clear c67
          try clear c70
          try clear c73
          try clear c74
          try clear c76
          try clear c80
          try clear c81
          try clear c82
          try clear c85
          try clear c85b0
          try clear c85b1
          try clear c86
          try clear c87
          try clear c88
          try clear c90
          try clear c91
          try clear c93
          try clear c94
          try clear c95
          try clear c97
          try clear c98
          try clear hcz10_0
          try clear hcz10_1
          try clear hcz15_0
          try clear hcz15_1
          try clear hcz17_0
          try clear hcz17_1
          try clear hcz22_0
          try clear hcz22_1
          try clear hcz32_0
          try clear hcz32_1
          try clear hcz34_0
          try clear hcz34_1
          try clear hcz46_0
          try clear hcz46_1
          try clear hcz48_0
          try clear hcz48_1
          try clear hcz50_0
          try clear hcz50_1
          try clear hcz54_0
          try clear hcz54_1
          try clear hcz56_0
          try clear hcz56_1
          try clear hcz58_0
          try clear hcz58_1
          try clear hcz62_0
          try clear hcz62_1
          try clear hcz64_0
          try clear hcz64_1
          try clear hcz68_0
          try clear hcz68_1
          try clear hcz75_0
          try clear hcz75_1
          try clear hcz77_0
          try clear hcz77_1
          try clear hcz83_0
          try clear hcz83_1
          try clear hcz89_0
          try clear hcz89_1
          try clear hcz92_0
          try clear hcz92_1
          try clear hcz96_0
          try clear hcz96_1
          try clear hcz99_0
          try clear hcz99_1
          try clear hfz10_0
          try clear hfz10_1
          try clear hfz15_0
          try clear hfz15_1
          try clear hfz17_0
          try clear hfz17_1
          try clear hfz22_0
          try clear hfz22_1
          try clear hfz32_0
          try clear hfz32_1
          try clear hfz34_0
          try clear hfz34_1
          try clear hfz46_0
          try clear hfz46_1
          try clear hfz48_0
          try clear hfz48_1
          try clear hfz50_0
          try clear hfz50_1
          try clear hfz54_0
          try clear hfz54_1
          try clear hfz56_0
          try clear hfz56_1
          try clear hfz58_0
          try clear hfz58_1
          try clear hfz62_0
          try clear hfz62_1
          try clear hfz64_0
          try clear hfz64_1
          try clear hfz68_0
          try clear hfz68_1
          try clear hfz75_0
          try clear hfz75_1
          try clear hfz77_0
          try clear hfz77_1
          try clear hfz83_0
          try clear hfz83_1
          try clear hfz89_0
          try clear hfz89_1
          try clear hfz92_0
          try clear hfz92_1
          try clear hfz96_0
          try clear hfz96_1
          try clear hfz99_0
          try clear hfz99_1
          try clear p2
          obtain ⟨kq, x110_71, rfl, HA, HJ71, HO_314001, HO_321001, HO_328001, HO_338001, BK313, BK320, BK327, BK337, HB⟩ := hcut
          cases kq with
          | zero => exact absurd HA.out (by simp [laws_FnForest.j2])
          | succ kj71 =>
           have H := HA.out
           clear HA
           simp only [laws_FnForest.j2] at H
           by_cases c100 : x110_71 = true
           ·subst c100
            have H1 : (some false) = some r := by rw [if_pos rfl] at H; exact H
            clear H
            have H := H1
            clear H1
            subst hrt
            exact absurd H (by simp)
           ·replace c100 := Bool.eq_false_iff.mpr c100
            subst c100
            have H1 : (laws_FnForest.l0 kj71 t310 t311 0 t306 t307 t321 t322 t333 t334) = some r := by rw [if_neg (show ¬ (false = true) by decide)] at H; exact H
            clear H
            have H := H1
            clear H1
            have H' := Aside0.mk H
            clear H
            go_wp2
            repeat (go_quiet (fail); try go_wp2)
            go_loopg [16] kj71 (fun kq v16 w' => ∃ (x16_4 : Int), v16 = .int .i64 x16_4 ∧ Aside0 (laws_FnForest.l0 kq t310 t311 x16_4 t306 t307 t321 t322 t333 t334 = some r) ∧ Aside0 (kq ≤ kj71) ∧ Aside0 (Kd.R k51 51 w' w.heap.size (fun k_ => some k_ ≠ ((.slice Ao16 t315.length co16) : Value).ownBlock ∧ some k_ ≠ ((.slice Ao23 t322.length co23) : Value).ownBlock ∧ some k_ ≠ ((.slice Ao84 t334.length co84) : Value).ownBlock) (.slice Ao11 t307.length co11) t307) ∧ Aside0 (Kd.R k51 51 w' w.heap.size (fun k_ => some k_ ≠ ((.slice Ao11 t307.length co11) : Value).ownBlock ∧ some k_ ≠ ((.slice Ao23 t322.length co23) : Value).ownBlock ∧ some k_ ≠ ((.slice Ao84 t334.length co84) : Value).ownBlock) (.slice Ao16 t315.length co16) t315) ∧ Aside0 (Kd.R k51 51 w' w.heap.size (fun k_ => some k_ ≠ ((.slice Ao11 t307.length co11) : Value).ownBlock ∧ some k_ ≠ ((.slice Ao16 t315.length co16) : Value).ownBlock ∧ some k_ ≠ ((.slice Ao84 t334.length co84) : Value).ownBlock) (.slice Ao23 t322.length co23) t322) ∧ Aside0 (Kd.R k51 51 w' w.heap.size (fun k_ => some k_ ≠ ((.slice Ao11 t307.length co11) : Value).ownBlock ∧ some k_ ≠ ((.slice Ao16 t315.length co16) : Value).ownBlock ∧ some k_ ≠ ((.slice Ao23 t322.length co23) : Value).ownBlock) (.slice Ao84 t334.length co84) t334) ∧ Aside0 (w'.heap[gb313]? = some (.cells #[.int .i64 t306, (.slice Ao11 t307.length co11)] 35 (0, 0))) ∧ Aside0 (w'.heap[gb320]? = some (.cells #[.int .i64 t314, (.slice Ao16 t315.length co16)] 35 (0, 0))) ∧ Aside0 (w'.heap[gb327]? = some (.cells #[.int .i64 t321, (.slice Ao23 t322.length co23)] 35 (0, 0))) ∧ Aside0 (w'.heap[gb337]? = some (.cells #[.int .i64 t333, (.slice Ao84 t334.length co84)] 35 (0, 0))) ∧ Aside0 (Below w.heap.size w w'))
            case atStart => exact ⟨(0), (by first | rfl | (simp; done) | (simp [*]; done) | (simp only [bne_nil_]; done) | (simp [bne_nil_]; done)), H', ⟨Nat.le_refl _⟩, ⟨rl HO_314001⟩, ⟨rl HO_321001⟩, ⟨rl HO_328001⟩, ⟨rl HO_338001⟩, ⟨bk BK313⟩, ⟨bk BK320⟩, ⟨bk BK327⟩, ⟨bk BK337⟩, ⟨by repeat (first | (with_reducible first | exact HB.out | apply below_alloc | apply pw_below_drewN | apply below_drew1 | refine below_set ?_ GE313.out | refine below_set ?_ GE320.out | refine below_set ?_ GE327.out | refine below_set ?_ GE337.out) | exact HB.out)⟩⟩
            case round =>
             clear H'
             try clear c1
             try clear c2
             try clear p2
             try clear c3
             try clear c4
             try clear c5
             try clear c6
             try clear c7
             try clear c8
             try clear c9
             try clear c10
             try clear c14
             try clear c20
             try clear c21
             try clear c24
             try clear c24b0
             try clear c24b1
             try clear c24b2
             try clear c25
             try clear c26
             try clear c30
             try clear c31
             try clear c38
             try clear c38b0
             try clear c38b1
             try clear c40
             try clear c40b0
             try clear c41
             try clear c41b0
             try clear c41b1
             try clear c43
             try clear c44
             try clear c45
             try clear c52
             try clear c53
             try clear c60
             try clear c61
             try clear c66
             try clear c67
             try clear c70
             try clear c73
             try clear c74
             try clear c76
             try clear c80
             try clear c81
             try clear c82
             try clear c85
             try clear c85b0
             try clear c85b1
             try clear c86
             try clear c87
             try clear c88
             try clear c90
             try clear c91
             try clear c93
             try clear c94
             try clear c95
             try clear c97
             try clear c98
             try clear c100
             try clear hcz10_0
             try clear hcz10_1
             try clear hcz15_0
             try clear hcz15_1
             try clear hcz17_0
             try clear hcz17_1
             try clear hcz22_0
             try clear hcz22_1
             try clear hcz32_0
             try clear hcz32_1
             try clear hcz34_0
             try clear hcz34_1
             try clear hcz46_0
             try clear hcz46_1
             try clear hcz48_0
             try clear hcz48_1
             try clear hcz50_0
             try clear hcz50_1
             try clear hcz54_0
             try clear hcz54_1
             try clear hcz56_0
             try clear hcz56_1
             try clear hcz58_0
             try clear hcz58_1
             try clear hcz62_0
             try clear hcz62_1
             try clear hcz64_0
             try clear hcz64_1
             try clear hcz68_0
             try clear hcz68_1
             try clear hcz75_0
             try clear hcz75_1
             try clear hcz77_0
             try clear hcz77_1
             try clear hcz83_0
             try clear hcz83_1
             try clear hcz89_0
             try clear hcz89_1
             try clear hcz92_0
             try clear hcz92_1
             try clear hcz96_0
             try clear hcz96_1
             try clear hcz99_0
             try clear hcz99_1
             try clear hfz10_0
             try clear hfz10_1
             try clear hfz15_0
             try clear hfz15_1
             try clear hfz17_0
             try clear hfz17_1
             try clear hfz22_0
             try clear hfz22_1
             try clear hfz32_0
             try clear hfz32_1
             try clear hfz34_0
             try clear hfz34_1
             try clear hfz46_0
             try clear hfz46_1
             try clear hfz48_0
             try clear hfz48_1
             try clear hfz50_0
             try clear hfz50_1
             try clear hfz54_0
             try clear hfz54_1
             try clear hfz56_0
             try clear hfz56_1
             try clear hfz58_0
             try clear hfz58_1
             try clear hfz62_0
             try clear hfz62_1
             try clear hfz64_0
             try clear hfz64_1
             try clear hfz68_0
             try clear hfz68_1
             try clear hfz75_0
             try clear hfz75_1
             try clear hfz77_0
             try clear hfz77_1
             try clear hfz83_0
             try clear hfz83_1
             try clear hfz89_0
             try clear hfz89_1
             try clear hfz92_0
             try clear hfz92_1
             try clear hfz96_0
             try clear hfz96_1
             try clear hfz99_0
             try clear hfz99_1
             try clear p2
             obtain ⟨x16_4, rfl, HA, HK4, HO_314001, HO_321001, HO_328001, HO_338001, BK313, BK320, BK327, BK337, HB⟩ := hrel
             cases gk with
             | zero => exact absurd HA.out (by simp [laws_FnForest.l0])
             | succ k4 =>
              have H := HA.out
              clear HA
              simp only [laws_FnForest.l0] at H
              by_cases c101 : x16_4 < (t307.length : Int)
              ·rw [if_pos c101] at H
               have c101b0 : decide (x16_4 < (t307.length : Int)) = true := decide_eq_true c101
               clear c101
               by_cases c102 : 0 ≤ x16_4
               ·rw [if_pos c102] at H
                have c102b0 : decide (0 ≤ x16_4) = true := decide_eq_true c102
                clear c102
                by_cases c103 : x16_4 < (t334.length : Int)
                ·rw [if_pos c103] at H
                 have c103b0 : decide (x16_4 < (t334.length : Int)) = true := decide_eq_true c103
                 clear c103
                 by_cases c104 : (!(((rd_T51 t334 x16_4).f0) == ((rd_T51 t307 x16_4).f0)) || (!(((rd_T51 t334 x16_4).f1) == ((rd_T51 t307 x16_4).f1)) || (!(((rd_T51 t334 x16_4).f2) == ((rd_T51 t307 x16_4).f2))))) = true
                 ·rw [if_pos c104] at H
                  have c104b0 : (!(((rd_T51 t334 x16_4).f0) == ((rd_T51 t307 x16_4).f0)) || (!(((rd_T51 t334 x16_4).f1) == ((rd_T51 t307 x16_4).f1)) || (!(((rd_T51 t334 x16_4).f2) == ((rd_T51 t307 x16_4).f2))))) = true := c104
                  clear c104
                  subst hrt
                  exact absurd H (by simp)
                 ·rw [if_neg c104] at H
                  have c104b0 : (!(((rd_T51 t334 x16_4).f0) == ((rd_T51 t307 x16_4).f0)) || (!(((rd_T51 t334 x16_4).f1) == ((rd_T51 t307 x16_4).f1)) || (!(((rd_T51 t334 x16_4).f2) == ((rd_T51 t307 x16_4).f2))))) = false := by simpa using c104
                  clear c104
                  have H' := Aside0.mk H
                  clear H
                  have hnb105 := NB313_320.out
                  have hnc105 := NB320_313.out
                  have hnb106 := NB313_327.out
                  have hnc106 := NB327_313.out
                  have hnb107 := NB313_337.out
                  have hnc107 := NB337_313.out
                  have hcz108_0 : wr.cell? ⟨gb313, 0, none⟩ = some (.int .i64 t306) := (blk_cell BK313.out 0).trans rfl
                  have hcz108_1 : wr.cell? ⟨gb313, 1, none⟩ = some (.slice Ao11 t307.length co11) := (blk_cell BK313.out 1).trans rfl
                  have hfz108_0 := blk_frozen BK313.out 0
                  have hfz108_1 := blk_frozen BK313.out 1
                  have hnb109 := NB337_320.out
                  have hnc109 := NB320_337.out
                  have hnb110 := NB337_327.out
                  have hnc110 := NB327_337.out
                  have hcz111_0 : wr.cell? ⟨gb337, 0, none⟩ = some (.int .i64 t333) := (blk_cell BK337.out 0).trans rfl
                  have hcz111_1 : wr.cell? ⟨gb337, 1, none⟩ = some (.slice Ao84 t334.length co84) := (blk_cell BK337.out 1).trans rfl
                  have hfz111_0 := blk_frozen BK337.out 0
                  have hfz111_1 := blk_frozen BK337.out 1
                  have p338 : 0 ≤ (x16_4 : Int) := ode
                  have q338 : x16_4 < (t334.length : Int) := ode
                  obtain ⟨ad338, e338, hx338_0, hx338_1, hx338_2⟩ := at_T51 (Kd.R_reads' HO_338001.out).2.2 x16_4 p338 q338
                  cases e338
                  replace p338 := eq_true p338
                  replace q338 := eq_true q338
                  have p339 : 0 ≤ (x16_4 : Int) := ode
                  have q339 : x16_4 < (t307.length : Int) := ode
                  obtain ⟨ad339, e339, hx339_0, hx339_1, hx339_2⟩ := at_T51 (Kd.R_reads' HO_314001.out).2.2 x16_4 p339 q339
                  cases e339
                  replace p339 := eq_true p339
                  replace q339 := eq_true q339
                  go_wp2
                  repeat (go_quiet (fail); try go_wp2)
                  go_roundg k4
                  case measure => have := HJ6.out; have := HJ28.out; have := HJ71.out; have := HK4.out; omega
                  case rel => exact ⟨(wrap64 (x16_4 + 1)), (by first | rfl | (simp; done) | (simp [*]; done) | (simp only [bne_nil_]; done) | (simp [bne_nil_]; done)), H', ⟨by have := HJ6.out; have := HJ28.out; have := HJ71.out; have := HK4.out; omega⟩, ⟨rl HO_314001⟩, ⟨rl HO_321001⟩, ⟨rl HO_328001⟩, ⟨rl HO_338001⟩, ⟨bk BK313⟩, ⟨bk BK320⟩, ⟨bk BK327⟩, ⟨bk BK337⟩, ⟨by repeat (first | (with_reducible first | exact HB.out | apply below_alloc | apply pw_below_drewN | apply below_drew1 | refine below_set ?_ GE313.out | refine below_set ?_ GE320.out | refine below_set ?_ GE327.out | refine below_set ?_ GE337.out) | exact HB.out)⟩⟩
                ·rw [if_neg c103] at H
                 exact absurd H (by simp)
               ·rw [if_neg c102] at H
                exact absurd H (by simp)
              ·rw [if_neg c101] at H
               have c101b0 : decide (x16_4 < (t307.length : Int)) = false := decide_eq_false c101
               clear c101
               replace H := Option.bind_eq_some_iff.mp H
               obtain ⟨t340, A1120, H⟩ := H
               replace H : (laws_FnForest.l1 k4 t310 t311 t340 (t310 == t311) 0) = some r := H
               have A112 := Aside0.mk A1120
               clear A1120
               have H' := Aside0.mk H
               clear H
               have hnb113 := NB313_320.out
               have hnc113 := NB320_313.out
               have hnb114 := NB313_327.out
               have hnc114 := NB327_313.out
               have hnb115 := NB313_337.out
               have hnc115 := NB337_313.out
               have hcz116_0 : wr.cell? ⟨gb313, 0, none⟩ = some (.int .i64 t306) := (blk_cell BK313.out 0).trans rfl
               have hcz116_1 : wr.cell? ⟨gb313, 1, none⟩ = some (.slice Ao11 t307.length co11) := (blk_cell BK313.out 1).trans rfl
               have hfz116_0 := blk_frozen BK313.out 0
               have hfz116_1 := blk_frozen BK313.out 1
               have hnb117 := NB327_320.out
               have hnc117 := NB320_327.out
               have hnb118 := NB327_337.out
               have hnc118 := NB337_327.out
               have hcz119_0 : wr.cell? ⟨gb327, 0, none⟩ = some (.int .i64 t321) := (blk_cell BK327.out 0).trans rfl
               have hcz119_1 : wr.cell? ⟨gb327, 1, none⟩ = some (.slice Ao23 t322.length co23) := (blk_cell BK327.out 1).trans rfl
               have hfz119_0 := blk_frozen BK327.out 0
               have hfz119_1 := blk_frozen BK327.out 1
               go_wp2_with (first | (go_at_call 33; (with_reducible refine (impl_GroupsOf.calls k4 t321 _ _ t322 t340 _ ?side1 ?side2 A112.out).mono ?_); (case side1 => repeat (first | exact (Kd.R_reads' HO_328001.out).2.2 | (with_reducible refine Kd.C_alloc ?_ _) | (with_reducible refine Kd.C_drewN ?_ _) | (with_reducible refine Kd.C_drew ?_))); (case side2 => exact (Kd.R_reads' HO_328001.out).2.1); rintro e w120 ⟨v341, rfl, ho0, hb⟩; have n0_ := Aside0.mk (Kd.R_below (rl HO_314001) hb); have n1_ := Aside0.mk (Kd.R_below (rl HO_321001) hb); have n2_ := Aside0.mk (Kd.R_below (rl HO_328001) hb); have n3_ := Aside0.mk (Kd.R_below (rl HO_338001) hb); have n4_ := Aside0.mk (Kd.S_lower ho0 (below_size (by repeat (first | (with_reducible first | exact HB.out | apply below_alloc | apply pw_below_drewN | apply below_drew1 | refine below_set ?_ GE313.out | refine below_set ?_ GE320.out | refine below_set ?_ GE327.out | refine below_set ?_ GE337.out) | exact HB.out)))); have n5_ := Aside0.mk (blk_below (g := gb313) (o := .cells #[.int .i64 t306, .slice Ao11 t307.length co11] 35 (0, 0)) (bk BK313) hb); have n6_ := Aside0.mk (blk_below (g := gb320) (o := .cells #[.int .i64 t314, .slice Ao16 t315.length co16] 35 (0, 0)) (bk BK320) hb); have n7_ := Aside0.mk (blk_below (g := gb327) (o := .cells #[.int .i64 t321, .slice Ao23 t322.length co23] 35 (0, 0)) (bk BK327) hb); have n8_ := Aside0.mk (blk_below (g := gb337) (o := .cells #[.int .i64 t333, .slice Ao84 t334.length co84] 35 (0, 0)) (bk BK337) hb); have n9_ := Aside0.mk (below_step (by repeat (first | (with_reducible first | exact HB.out | apply below_alloc | apply pw_below_drewN | apply below_drew1 | refine below_set ?_ GE313.out | refine below_set ?_ GE320.out | refine below_set ?_ GE327.out | refine below_set ?_ GE337.out) | exact HB.out)) hb); clear HO_314001; clear HO_321001; clear HO_328001; clear HO_338001; clear BK313; clear BK320; clear BK327; clear BK337; clear HB; have HO_314001 := n0_; have HO_321001 := n1_; have HO_328001 := n2_; have HO_338001 := n3_; have HO342 := n4_; have BK313 := n5_; have BK320 := n6_; have BK327 := n7_; have BK337 := n8_; have HB := n9_; clear n0_ n1_ n2_ n3_ n4_ n5_ n6_ n7_ n8_ n9_; (try clear hb); (try clear hb2); (try clear hk); (try clear hi); (try clear ho0)))
               repeat (go_quiet (first | (go_at_call 33; (with_reducible refine (impl_GroupsOf.calls k4 t321 _ _ t322 t340 _ ?side1 ?side2 A112.out).mono ?_); (case side1 => repeat (first | exact (Kd.R_reads' HO_328001.out).2.2 | (with_reducible refine Kd.C_alloc ?_ _) | (with_reducible refine Kd.C_drewN ?_ _) | (with_reducible refine Kd.C_drew ?_))); (case side2 => exact (Kd.R_reads' HO_328001.out).2.1); rintro e w120 ⟨v341, rfl, ho0, hb⟩; have n0_ := Aside0.mk (Kd.R_below (rl HO_314001) hb); have n1_ := Aside0.mk (Kd.R_below (rl HO_321001) hb); have n2_ := Aside0.mk (Kd.R_below (rl HO_328001) hb); have n3_ := Aside0.mk (Kd.R_below (rl HO_338001) hb); have n4_ := Aside0.mk (Kd.S_lower ho0 (below_size (by repeat (first | (with_reducible first | exact HB.out | apply below_alloc | apply pw_below_drewN | apply below_drew1 | refine below_set ?_ GE313.out | refine below_set ?_ GE320.out | refine below_set ?_ GE327.out | refine below_set ?_ GE337.out) | exact HB.out)))); have n5_ := Aside0.mk (blk_below (g := gb313) (o := .cells #[.int .i64 t306, .slice Ao11 t307.length co11] 35 (0, 0)) (bk BK313) hb); have n6_ := Aside0.mk (blk_below (g := gb320) (o := .cells #[.int .i64 t314, .slice Ao16 t315.length co16] 35 (0, 0)) (bk BK320) hb); have n7_ := Aside0.mk (blk_below (g := gb327) (o := .cells #[.int .i64 t321, .slice Ao23 t322.length co23] 35 (0, 0)) (bk BK327) hb); have n8_ := Aside0.mk (blk_below (g := gb337) (o := .cells #[.int .i64 t333, .slice Ao84 t334.length co84] 35 (0, 0)) (bk BK337) hb); have n9_ := Aside0.mk (below_step (by repeat (first | (with_reducible first | exact HB.out | apply below_alloc | apply pw_below_drewN | apply below_drew1 | refine below_set ?_ GE313.out | refine below_set ?_ GE320.out | refine below_set ?_ GE327.out | refine below_set ?_ GE337.out) | exact HB.out)) hb); clear HO_314001; clear HO_321001; clear HO_328001; clear HO_338001; clear BK313; clear BK320; clear BK327; clear BK337; clear HB; have HO_314001 := n0_; have HO_321001 := n1_; have HO_328001 := n2_; have HO_338001 := n3_; have HO342 := n4_; have BK313 := n5_; have BK320 := n6_; have BK327 := n7_; have BK337 := n8_; have HB := n9_; clear n0_ n1_ n2_ n3_ n4_ n5_ n6_ n7_ n8_ n9_; (try clear hb); (try clear hb2); (try clear hk); (try clear hi); (try clear ho0))); try go_wp2_with (first | (go_at_call 33; (with_reducible refine (impl_GroupsOf.calls k4 t321 _ _ t322 t340 _ ?side1 ?side2 A112.out).mono ?_); (case side1 => repeat (first | exact (Kd.R_reads' HO_328001.out).2.2 | (with_reducible refine Kd.C_alloc ?_ _) | (with_reducible refine Kd.C_drewN ?_ _) | (with_reducible refine Kd.C_drew ?_))); (case side2 => exact (Kd.R_reads' HO_328001.out).2.1); rintro e w120 ⟨v341, rfl, ho0, hb⟩; have n0_ := Aside0.mk (Kd.R_below (rl HO_314001) hb); have n1_ := Aside0.mk (Kd.R_below (rl HO_321001) hb); have n2_ := Aside0.mk (Kd.R_below (rl HO_328001) hb); have n3_ := Aside0.mk (Kd.R_below (rl HO_338001) hb); have n4_ := Aside0.mk (Kd.S_lower ho0 (below_size (by repeat (first | (with_reducible first | exact HB.out | apply below_alloc | apply pw_below_drewN | apply below_drew1 | refine below_set ?_ GE313.out | refine below_set ?_ GE320.out | refine below_set ?_ GE327.out | refine below_set ?_ GE337.out) | exact HB.out)))); have n5_ := Aside0.mk (blk_below (g := gb313) (o := .cells #[.int .i64 t306, .slice Ao11 t307.length co11] 35 (0, 0)) (bk BK313) hb); have n6_ := Aside0.mk (blk_below (g := gb320) (o := .cells #[.int .i64 t314, .slice Ao16 t315.length co16] 35 (0, 0)) (bk BK320) hb); have n7_ := Aside0.mk (blk_below (g := gb327) (o := .cells #[.int .i64 t321, .slice Ao23 t322.length co23] 35 (0, 0)) (bk BK327) hb); have n8_ := Aside0.mk (blk_below (g := gb337) (o := .cells #[.int .i64 t333, .slice Ao84 t334.length co84] 35 (0, 0)) (bk BK337) hb); have n9_ := Aside0.mk (below_step (by repeat (first | (with_reducible first | exact HB.out | apply below_alloc | apply pw_below_drewN | apply below_drew1 | refine below_set ?_ GE313.out | refine below_set ?_ GE320.out | refine below_set ?_ GE327.out | refine below_set ?_ GE337.out) | exact HB.out)) hb); clear HO_314001; clear HO_321001; clear HO_328001; clear HO_338001; clear BK313; clear BK320; clear BK327; clear BK337; clear HB; have HO_314001 := n0_; have HO_321001 := n1_; have HO_328001 := n2_; have HO_338001 := n3_; have HO342 := n4_; have BK313 := n5_; have BK320 := n6_; have BK327 := n7_; have BK337 := n8_; have HB := n9_; clear n0_ n1_ n2_ n3_ n4_ n5_ n6_ n7_ n8_ n9_; (try clear hb); (try clear hb2); (try clear hk); (try clear hi); (try clear ho0))))
               go_loopg [18, 19] k4 (fun kq v18 v19 w' => ∃ (x18_5 : Bool) (x19_5 : Int), v18 = .bool x18_5 ∧ v19 = .int .i64 x19_5 ∧ Aside0 (laws_FnForest.l1 kq t310 t311 t340 x18_5 x19_5 = some r) ∧ Aside0 (kq ≤ k4) ∧ Aside0 (Kd.S (Kd.slice 2 (Kd.int .i64)) 55 w' w.heap.size (fun _ => True) v341 t340) ∧ Aside0 (Kd.R k51 51 w' w.heap.size (fun k_ => some k_ ≠ ((.slice Ao16 t315.length co16) : Value).ownBlock ∧ some k_ ≠ ((.slice Ao23 t322.length co23) : Value).ownBlock ∧ some k_ ≠ ((.slice Ao84 t334.length co84) : Value).ownBlock) (.slice Ao11 t307.length co11) t307) ∧ Aside0 (Kd.R k51 51 w' w.heap.size (fun k_ => some k_ ≠ ((.slice Ao11 t307.length co11) : Value).ownBlock ∧ some k_ ≠ ((.slice Ao23 t322.length co23) : Value).ownBlock ∧ some k_ ≠ ((.slice Ao84 t334.length co84) : Value).ownBlock) (.slice Ao16 t315.length co16) t315) ∧ Aside0 (Kd.R k51 51 w' w.heap.size (fun k_ => some k_ ≠ ((.slice Ao11 t307.length co11) : Value).ownBlock ∧ some k_ ≠ ((.slice Ao16 t315.length co16) : Value).ownBlock ∧ some k_ ≠ ((.slice Ao84 t334.length co84) : Value).ownBlock) (.slice Ao23 t322.length co23) t322) ∧ Aside0 (Kd.R k51 51 w' w.heap.size (fun k_ => some k_ ≠ ((.slice Ao11 t307.length co11) : Value).ownBlock ∧ some k_ ≠ ((.slice Ao16 t315.length co16) : Value).ownBlock ∧ some k_ ≠ ((.slice Ao23 t322.length co23) : Value).ownBlock) (.slice Ao84 t334.length co84) t334) ∧ Aside0 (w'.heap[gb313]? = some (.cells #[.int .i64 t306, (.slice Ao11 t307.length co11)] 35 (0, 0))) ∧ Aside0 (w'.heap[gb320]? = some (.cells #[.int .i64 t314, (.slice Ao16 t315.length co16)] 35 (0, 0))) ∧ Aside0 (w'.heap[gb327]? = some (.cells #[.int .i64 t321, (.slice Ao23 t322.length co23)] 35 (0, 0))) ∧ Aside0 (w'.heap[gb337]? = some (.cells #[.int .i64 t333, (.slice Ao84 t334.length co84)] 35 (0, 0))) ∧ Aside0 (Below w.heap.size w w'))
               case atStart => exact ⟨((t310 == t311)), (0), (by first | rfl | (simp; done) | (simp [*]; done) | (simp only [bne_nil_]; done) | (simp [bne_nil_]; done)), (by first | rfl | (simp; done) | (simp [*]; done) | (simp only [bne_nil_]; done) | (simp [bne_nil_]; done)), H', ⟨Nat.le_refl _⟩, ⟨by (with_reducible repeat (first | apply Kd.S_alloc | apply Kd.S_drewN | apply Kd.S_drew)); exact HO342.out⟩, ⟨rl HO_314001⟩, ⟨rl HO_321001⟩, ⟨rl HO_328001⟩, ⟨rl HO_338001⟩, ⟨bk BK313⟩, ⟨bk BK320⟩, ⟨bk BK327⟩, ⟨bk BK337⟩, ⟨by repeat (first | (with_reducible first | exact HB.out | apply below_alloc | apply pw_below_drewN | apply below_drew1 | refine below_set ?_ GE313.out | refine below_set ?_ GE320.out | refine below_set ?_ GE327.out | refine below_set ?_ GE337.out) | exact HB.out)⟩⟩
               case round =>
                clear H'
                try clear c1
                try clear c2
                try clear p2
                try clear c3
                try clear p3
                try clear q3
                try clear hx3
                try clear c4
                try clear c5
                try clear c6
                try clear p6
                try clear c7
                try clear c8
                try clear c9
                try clear c10
                try clear c11
                try clear c14
                try clear c20
                try clear c21
                try clear c24
                try clear c24b0
                try clear c24b1
                try clear c24b2
                try clear c25
                try clear c26
                try clear c30
                try clear c31
                try clear p33
                try clear q33
                try clear hx33
                try clear c38
                try clear c38b0
                try clear c38b1
                try clear c40
                try clear c40b0
                try clear c41
                try clear c41b0
                try clear c41b1
                try clear c43
                try clear c44
                try clear c45
                try clear c52
                try clear c53
                try clear c60
                try clear c61
                try clear p64
                try clear c66
                try clear c67
                try clear c70
                try clear c73
                try clear c74
                try clear c76
                try clear c80
                try clear c81
                try clear c82
                try clear c85
                try clear c85b0
                try clear c85b1
                try clear c86
                try clear c87
                try clear c88
                try clear c90
                try clear c91
                try clear c93
                try clear c94
                try clear c95
                try clear c97
                try clear c98
                try clear c100
                try clear c101
                try clear c101b0
                try clear c102
                try clear c102b0
                try clear c103
                try clear c103b0
                try clear c104
                try clear c104b0
                try clear c105
                try clear c106
                try clear c107
                try clear c109
                try clear c110
                try clear c113
                try clear c114
                try clear c115
                try clear c117
                try clear c118
                try clear hcz108_0
                try clear hcz108_1
                try clear hcz10_0
                try clear hcz10_1
                try clear hcz111_0
                try clear hcz111_1
                try clear hcz116_0
                try clear hcz116_1
                try clear hcz119_0
                try clear hcz119_1
                try clear hcz15_0
                try clear hcz15_1
                try clear hcz17_0
                try clear hcz17_1
                try clear hcz22_0
                try clear hcz22_1
                try clear hcz32_0
                try clear hcz32_1
                try clear hcz34_0
                try clear hcz34_1
                try clear hcz46_0
                try clear hcz46_1
                try clear hcz48_0
                try clear hcz48_1
                try clear hcz50_0
                try clear hcz50_1
                try clear hcz54_0
                try clear hcz54_1
                try clear hcz56_0
                try clear hcz56_1
                try clear hcz58_0
                try clear hcz58_1
                try clear hcz62_0
                try clear hcz62_1
                try clear hcz64_0
                try clear hcz64_1
                try clear hcz68_0
                try clear hcz68_1
                try clear hcz75_0
                try clear hcz75_1
                try clear hcz77_0
                try clear hcz77_1
                try clear hcz83_0
                try clear hcz83_1
                try clear hcz89_0
                try clear hcz89_1
                try clear hcz92_0
                try clear hcz92_1
                try clear hcz96_0
                try clear hcz96_1
                try clear hcz99_0
                try clear hcz99_1
                try clear hfz108_0
                try clear hfz108_1
                try clear hfz10_0
                try clear hfz10_1
                try clear hfz111_0
                try clear hfz111_1
                try clear hfz116_0
                try clear hfz116_1
                try clear hfz119_0
                try clear hfz119_1
                try clear hfz15_0
                try clear hfz15_1
                try clear hfz17_0
                try clear hfz17_1
                try clear hfz22_0
                try clear hfz22_1
                try clear hfz32_0
                try clear hfz32_1
                try clear hfz34_0
                try clear hfz34_1
                try clear hfz46_0
                try clear hfz46_1
                try clear hfz48_0
                try clear hfz48_1
                try clear hfz50_0
                try clear hfz50_1
                try clear hfz54_0
                try clear hfz54_1
                try clear hfz56_0
                try clear hfz56_1
                try clear hfz58_0
                try clear hfz58_1
                try clear hfz62_0
                try clear hfz62_1
                try clear hfz64_0
                try clear hfz64_1
                try clear hfz68_0
                try clear hfz68_1
                try clear hfz75_0
                try clear hfz75_1
                try clear hfz77_0
                try clear hfz77_1
                try clear hfz83_0
                try clear hfz83_1
                try clear hfz89_0
                try clear hfz89_1
                try clear hfz92_0
                try clear hfz92_1
                try clear hfz96_0
                try clear hfz96_1
                try clear hfz99_0
                try clear hfz99_1
                try clear hx338_0
                try clear hx338_1
                try clear hx338_2
                try clear hx339_0
                try clear hx339_1
                try clear hx339_2
                try clear p2
                try clear p338
                try clear p339
                try clear q338
                try clear q339
                obtain ⟨x18_5, x19_5, rfl, rfl, HA, HK5, HO_17, HO_314001, HO_321001, HO_328001, HO_338001, BK313, BK320, BK327, BK337, HB⟩ := hrel
                cases gk with
                | zero => exact absurd HA.out (by simp [laws_FnForest.l1])
                | succ k5 =>
                 have H := HA.out
                 clear HA
                 simp only [laws_FnForest.l1] at H
                 by_cases c121 : x19_5 < (t340.length : Int)
                 ·rw [if_pos c121] at H
                  have c121b0 : decide (x19_5 < (t340.length : Int)) = true := decide_eq_true c121
                  clear c121
                  by_cases c122 : x18_5 = true
                  ·subst c122
                   have H1 : (laws_FnForest.l1 k5 t310 t311 t340 true (wrap64 (x19_5 + 1))) = some r := by rw [if_pos rfl] at H; exact H
                   clear H
                   have H := H1
                   clear H1
                   have H' := Aside0.mk H
                   clear H
                   obtain ⟨Ao123, co123, eo123⟩ := Kd.S_slice HO_17.out
                   subst eo123
                   go_wp2
                   repeat (go_quiet (fail); try go_wp2)
                   go_roundg k5
                   case measure => have := HJ6.out; have := HJ28.out; have := HJ71.out; have := HK4.out; have := HK5.out; omega
                   case rel => exact ⟨(true), (wrap64 (x19_5 + 1)), (by first | rfl | (simp; done) | (simp [*]; done) | (simp only [bne_nil_]; done) | (simp [bne_nil_]; done)), (by first | rfl | (simp; done) | (simp [*]; done) | (simp only [bne_nil_]; done) | (simp [bne_nil_]; done)), H', ⟨by have := HJ6.out; have := HJ28.out; have := HJ71.out; have := HK4.out; have := HK5.out; omega⟩, ⟨by (with_reducible repeat (first | apply Kd.S_alloc | apply Kd.S_drewN | apply Kd.S_drew)); exact HO_17.out⟩, ⟨rl HO_314001⟩, ⟨rl HO_321001⟩, ⟨rl HO_328001⟩, ⟨rl HO_338001⟩, ⟨bk BK313⟩, ⟨bk BK320⟩, ⟨bk BK327⟩, ⟨bk BK337⟩, ⟨by repeat (first | (with_reducible first | exact HB.out | apply below_alloc | apply pw_below_drewN | apply below_drew1 | refine below_set ?_ GE313.out | refine below_set ?_ GE320.out | refine below_set ?_ GE327.out | refine below_set ?_ GE337.out) | exact HB.out)⟩⟩
                  ·replace c122 := Bool.eq_false_iff.mpr c122
                   subst c122
                   have H1 : (if 0 ≤ x19_5 then ((laws_has.f k5 (rd_L3 t340 x19_5) t310).bind fun t344 => (if t344 = true then ((laws_has.f k5 (rd_L3 t340 x19_5) t311).bind fun t346 => (laws_FnForest.l1 k5 t310 t311 t340 t346 (wrap64 (x19_5 + 1)))) else (laws_FnForest.l1 k5 t310 t311 t340 false (wrap64 (x19_5 + 1))))) else (none)) = some r := by rw [if_neg (show ¬ (false = true) by decide)] at H; exact H
                   clear H
                   have H := H1
                   clear H1
                   by_cases c124 : 0 ≤ x19_5
                   ·rw [if_pos c124] at H
                    have c124b0 : decide (0 ≤ x19_5) = true := decide_eq_true c124
                    clear c124
                    replace H := Option.bind_eq_some_iff.mp H
                    obtain ⟨t344, A1250, H⟩ := H
                    replace H : (if t344 = true then ((laws_has.f k5 (rd_L3 t340 x19_5) t311).bind fun t346 => (laws_FnForest.l1 k5 t310 t311 t340 t346 (wrap64 (x19_5 + 1)))) else (laws_FnForest.l1 k5 t310 t311 t340 false (wrap64 (x19_5 + 1)))) = some r := H
                    have A125 := Aside0.mk A1250
                    clear A1250
                    by_cases c126 : t344 = true
                    ·subst c126
                     have H1 : ((laws_has.f k5 (rd_L3 t340 x19_5) t311).bind fun t346 => (laws_FnForest.l1 k5 t310 t311 t340 t346 (wrap64 (x19_5 + 1)))) = some r := by rw [if_pos rfl] at H; exact H
                     clear H
                     have H := H1
                     clear H1
                     replace H := Option.bind_eq_some_iff.mp H
                     obtain ⟨t346, A1270, H⟩ := H
                     replace H : (laws_FnForest.l1 k5 t310 t311 t340 t346 (wrap64 (x19_5 + 1))) = some r := H
                     have A127 := Aside0.mk A1270
                     clear A1270
                     have H' := Aside0.mk H
                     clear H
                     obtain ⟨Ao128, co128, eo128⟩ := Kd.S_slice HO_17.out
                     subst eo128
                     have p343 : 0 ≤ (x19_5 : Int) := ode
                     have q343 : x19_5 < (t340.length : Int) := ode
                     obtain ⟨ad343, A343_0, c343_0, e343, hx343_0, hl343_0, hi343_0⟩ := at_L3 (Kd.S_reads' HO_17.out).2.2 x19_5 p343 q343
                     cases e343
                     obtain ⟨ce343, hce343, hMe343, hcc343⟩ := Kd.S_get HO_17.out [] x19_5 p343 (by first | exact q343 | exact ode | (have e_ := (Kd.S_reads' HO_17.out).1; omega))
                     obtain ⟨ve343_0, rfl, ge343_0⟩ := hMe343
                     have hv343_0 := hcc343 0 _ rfl
                     rw [Nat.add_zero, show ((Kd.slice 2 (Kd.int .i64))).sz = 1 from rfl, Nat.mul_one] at hv343_0
                     replace hv343_0 := Option.some.inj (hv343_0.symm.trans hx343_0)
                     rw [hv343_0] at ge343_0
                     have HL343_0 := Aside0.mk (show Kd.R (Kd.int .i64) 2 _ _ _ _ (rd_L3 t340 x19_5) from ge343_0)
                     clear hv343_0 ge343_0
                     clear hcc343 hce343
                     have HR343_0 := Aside0.mk hi343_0
                     have HC343_0 := Aside0.mk hl343_0
                     clear hi343_0 hl343_0
                     replace p343 := eq_true p343
                     replace q343 := eq_true q343
                     go_wp2_with (first | (go_at_call 34; (with_reducible refine (laws_has.calls k5 _ _ (rd_L3 t340 x19_5) t310 true _ ?side1 ?side2 A125.out).mono ?_); (case side1 => repeat (first | exact (by repeat (first | (with_reducible exact HR343_0.out) | (with_reducible refine Kd.C_alloc ?_ _) | (with_reducible refine Kd.C_drewN ?_ _) | (with_reducible refine Kd.C_drew ?_) | exact HR343_0.out)) | (with_reducible refine Kd.C_alloc ?_ _) | (with_reducible refine Kd.C_drewN ?_ _) | (with_reducible refine Kd.C_drew ?_))); (case side2 => exact HC343_0.out); rintro e w' ⟨rfl, ⟨nd, rfl⟩⟩; (try first | exact ⟨rfl, _, World.drewN_drewN _ _ _⟩ | exact ⟨rfl, _, Eq.trans (World.drewN_drewN _ _ _) (congrArg (World.drewN _) (Nat.add_assoc _ _ _))⟩); have p345 : 0 ≤ (x19_5 : Int) := ode; have q345 : x19_5 < (t340.length : Int) := ode; obtain ⟨ad345, A345_0, c345_0, e345, hx345_0, hl345_0, hi345_0⟩ := at_L3 (Kd.S_reads' HO_17.out).2.2 x19_5 p345 q345; obtain rfl : ad343 = ad345 := (by injection e345); obtain ⟨ce345, hce345, hMe345, hcc345⟩ := Kd.S_get HO_17.out [] x19_5 p345 (by first | exact q345 | exact ode | (have e_ := (Kd.S_reads' HO_17.out).1; omega)); obtain ⟨ve345_0, rfl, ge345_0⟩ := hMe345; have hv345_0 := hcc345 0 _ rfl; rw [Nat.add_zero, show ((Kd.slice 2 (Kd.int .i64))).sz = 1 from rfl, Nat.mul_one] at hv345_0; replace hv345_0 := Option.some.inj (hv345_0.symm.trans hx345_0); rw [hv345_0] at ge345_0; have HL345_0 := Aside0.mk (show Kd.R (Kd.int .i64) 2 _ _ _ _ (rd_L3 t340 x19_5) from ge345_0); clear hv345_0 ge345_0; clear hcc345 hce345; have HR345_0 := Aside0.mk hi345_0; have HC345_0 := Aside0.mk hl345_0; clear hi345_0 hl345_0; replace p345 := eq_true p345; replace q345 := eq_true q345; have ea_ := Option.some.inj (hx343_0.symm.trans hx345_0); injection ea_ with ea_ en_ ec_; subst ea_; subst ec_; clear en_) | (go_at_call 34; (with_reducible refine (laws_has.calls k5 _ _ (rd_L3 t340 x19_5) t311 t346 _ ?side1 ?side2 A127.out).mono ?_); (case side1 => repeat (first | exact (by repeat (first | (with_reducible exact HR345_0.out) | (with_reducible refine Kd.C_alloc ?_ _) | (with_reducible refine Kd.C_drewN ?_ _) | (with_reducible refine Kd.C_drew ?_) | exact HR345_0.out)) | (with_reducible refine Kd.C_alloc ?_ _) | (with_reducible refine Kd.C_drewN ?_ _) | (with_reducible refine Kd.C_drew ?_))); (case side2 => exact HC345_0.out); rintro e w' ⟨rfl, ⟨nd, rfl⟩⟩; (try first | exact ⟨rfl, _, World.drewN_drewN _ _ _⟩ | exact ⟨rfl, _, Eq.trans (World.drewN_drewN _ _ _) (congrArg (World.drewN _) (Nat.add_assoc _ _ _))⟩)))
                     repeat (go_quiet (first | (go_at_call 34; (with_reducible refine (laws_has.calls k5 _ _ (rd_L3 t340 x19_5) t310 true _ ?side1 ?side2 A125.out).mono ?_); (case side1 => repeat (first | exact (by repeat (first | (with_reducible exact HR343_0.out) | (with_reducible refine Kd.C_alloc ?_ _) | (with_reducible refine Kd.C_drewN ?_ _) | (with_reducible refine Kd.C_drew ?_) | exact HR343_0.out)) | (with_reducible refine Kd.C_alloc ?_ _) | (with_reducible refine Kd.C_drewN ?_ _) | (with_reducible refine Kd.C_drew ?_))); (case side2 => exact HC343_0.out); rintro e w' ⟨rfl, ⟨nd, rfl⟩⟩; (try first | exact ⟨rfl, _, World.drewN_drewN _ _ _⟩ | exact ⟨rfl, _, Eq.trans (World.drewN_drewN _ _ _) (congrArg (World.drewN _) (Nat.add_assoc _ _ _))⟩); have p345 : 0 ≤ (x19_5 : Int) := ode; have q345 : x19_5 < (t340.length : Int) := ode; obtain ⟨ad345, A345_0, c345_0, e345, hx345_0, hl345_0, hi345_0⟩ := at_L3 (Kd.S_reads' HO_17.out).2.2 x19_5 p345 q345; obtain rfl : ad343 = ad345 := (by injection e345); obtain ⟨ce345, hce345, hMe345, hcc345⟩ := Kd.S_get HO_17.out [] x19_5 p345 (by first | exact q345 | exact ode | (have e_ := (Kd.S_reads' HO_17.out).1; omega)); obtain ⟨ve345_0, rfl, ge345_0⟩ := hMe345; have hv345_0 := hcc345 0 _ rfl; rw [Nat.add_zero, show ((Kd.slice 2 (Kd.int .i64))).sz = 1 from rfl, Nat.mul_one] at hv345_0; replace hv345_0 := Option.some.inj (hv345_0.symm.trans hx345_0); rw [hv345_0] at ge345_0; have HL345_0 := Aside0.mk (show Kd.R (Kd.int .i64) 2 _ _ _ _ (rd_L3 t340 x19_5) from ge345_0); clear hv345_0 ge345_0; clear hcc345 hce345; have HR345_0 := Aside0.mk hi345_0; have HC345_0 := Aside0.mk hl345_0; clear hi345_0 hl345_0; replace p345 := eq_true p345; replace q345 := eq_true q345; have ea_ := Option.some.inj (hx343_0.symm.trans hx345_0); injection ea_ with ea_ en_ ec_; subst ea_; subst ec_; clear en_) | (go_at_call 34; (with_reducible refine (laws_has.calls k5 _ _ (rd_L3 t340 x19_5) t311 t346 _ ?side1 ?side2 A127.out).mono ?_); (case side1 => repeat (first | exact (by repeat (first | (with_reducible exact HR345_0.out) | (with_reducible refine Kd.C_alloc ?_ _) | (with_reducible refine Kd.C_drewN ?_ _) | (with_reducible refine Kd.C_drew ?_) | exact HR345_0.out)) | (with_reducible refine Kd.C_alloc ?_ _) | (with_reducible refine Kd.C_drewN ?_ _) | (with_reducible refine Kd.C_drew ?_))); (case side2 => exact HC345_0.out); rintro e w' ⟨rfl, ⟨nd, rfl⟩⟩; (try first | exact ⟨rfl, _, World.drewN_drewN _ _ _⟩ | exact ⟨rfl, _, Eq.trans (World.drewN_drewN _ _ _) (congrArg (World.drewN _) (Nat.add_assoc _ _ _))⟩))); try go_wp2_with (first | (go_at_call 34; (with_reducible refine (laws_has.calls k5 _ _ (rd_L3 t340 x19_5) t310 true _ ?side1 ?side2 A125.out).mono ?_); (case side1 => repeat (first | exact (by repeat (first | (with_reducible exact HR343_0.out) | (with_reducible refine Kd.C_alloc ?_ _) | (with_reducible refine Kd.C_drewN ?_ _) | (with_reducible refine Kd.C_drew ?_) | exact HR343_0.out)) | (with_reducible refine Kd.C_alloc ?_ _) | (with_reducible refine Kd.C_drewN ?_ _) | (with_reducible refine Kd.C_drew ?_))); (case side2 => exact HC343_0.out); rintro e w' ⟨rfl, ⟨nd, rfl⟩⟩; (try first | exact ⟨rfl, _, World.drewN_drewN _ _ _⟩ | exact ⟨rfl, _, Eq.trans (World.drewN_drewN _ _ _) (congrArg (World.drewN _) (Nat.add_assoc _ _ _))⟩); have p345 : 0 ≤ (x19_5 : Int) := ode; have q345 : x19_5 < (t340.length : Int) := ode; obtain ⟨ad345, A345_0, c345_0, e345, hx345_0, hl345_0, hi345_0⟩ := at_L3 (Kd.S_reads' HO_17.out).2.2 x19_5 p345 q345; obtain rfl : ad343 = ad345 := (by injection e345); obtain ⟨ce345, hce345, hMe345, hcc345⟩ := Kd.S_get HO_17.out [] x19_5 p345 (by first | exact q345 | exact ode | (have e_ := (Kd.S_reads' HO_17.out).1; omega)); obtain ⟨ve345_0, rfl, ge345_0⟩ := hMe345; have hv345_0 := hcc345 0 _ rfl; rw [Nat.add_zero, show ((Kd.slice 2 (Kd.int .i64))).sz = 1 from rfl, Nat.mul_one] at hv345_0; replace hv345_0 := Option.some.inj (hv345_0.symm.trans hx345_0); rw [hv345_0] at ge345_0; have HL345_0 := Aside0.mk (show Kd.R (Kd.int .i64) 2 _ _ _ _ (rd_L3 t340 x19_5) from ge345_0); clear hv345_0 ge345_0; clear hcc345 hce345; have HR345_0 := Aside0.mk hi345_0; have HC345_0 := Aside0.mk hl345_0; clear hi345_0 hl345_0; replace p345 := eq_true p345; replace q345 := eq_true q345; have ea_ := Option.some.inj (hx343_0.symm.trans hx345_0); injection ea_ with ea_ en_ ec_; subst ea_; subst ec_; clear en_) | (go_at_call 34; (with_reducible refine (laws_has.calls k5 _ _ (rd_L3 t340 x19_5) t311 t346 _ ?side1 ?side2 A127.out).mono ?_); (case side1 => repeat (first | exact (by repeat (first | (with_reducible exact HR345_0.out) | (with_reducible refine Kd.C_alloc ?_ _) | (with_reducible refine Kd.C_drewN ?_ _) | (with_reducible refine Kd.C_drew ?_) | exact HR345_0.out)) | (with_reducible refine Kd.C_alloc ?_ _) | (with_reducible refine Kd.C_drewN ?_ _) | (with_reducible refine Kd.C_drew ?_))); (case side2 => exact HC345_0.out); rintro e w' ⟨rfl, ⟨nd, rfl⟩⟩; (try first | exact ⟨rfl, _, World.drewN_drewN _ _ _⟩ | exact ⟨rfl, _, Eq.trans (World.drewN_drewN _ _ _) (congrArg (World.drewN _) (Nat.add_assoc _ _ _))⟩))))
                     go_roundg k5
                     case measure => have := HJ6.out; have := HJ28.out; have := HJ71.out; have := HK4.out; have := HK5.out; omega
                     case rel => exact ⟨(t346), (wrap64 (x19_5 + 1)), (by first | rfl | (simp; done) | (simp [*]; done) | (simp only [bne_nil_]; done) | (simp [bne_nil_]; done)), (by first | rfl | (simp; done) | (simp [*]; done) | (simp only [bne_nil_]; done) | (simp [bne_nil_]; done)), H', ⟨by have := HJ6.out; have := HJ28.out; have := HJ71.out; have := HK4.out; have := HK5.out; omega⟩, ⟨by (with_reducible repeat (first | apply Kd.S_alloc | apply Kd.S_drewN | apply Kd.S_drew)); exact HO_17.out⟩, ⟨rl HO_314001⟩, ⟨rl HO_321001⟩, ⟨rl HO_328001⟩, ⟨rl HO_338001⟩, ⟨bk BK313⟩, ⟨bk BK320⟩, ⟨bk BK327⟩, ⟨bk BK337⟩, ⟨by repeat (first | (with_reducible first | exact HB.out | apply below_alloc | apply pw_below_drewN | apply below_drew1 | refine below_set ?_ GE313.out | refine below_set ?_ GE320.out | refine below_set ?_ GE327.out | refine below_set ?_ GE337.out) | exact HB.out)⟩⟩
                    ·replace c126 := Bool.eq_false_iff.mpr c126
                     subst c126
                     have H1 : (laws_FnForest.l1 k5 t310 t311 t340 false (wrap64 (x19_5 + 1))) = some r := by rw [if_neg (show ¬ (false = true) by decide)] at H; exact H
                     clear H
                     have H := H1
                     clear H1
                     have H' := Aside0.mk H
                     clear H
                     obtain ⟨Ao129, co129, eo129⟩ := Kd.S_slice HO_17.out
                     subst eo129
                     have p343 : 0 ≤ (x19_5 : Int) := ode
                     have q343 : x19_5 < (t340.length : Int) := ode
                     obtain ⟨ad343, A343_0, c343_0, e343, hx343_0, hl343_0, hi343_0⟩ := at_L3 (Kd.S_reads' HO_17.out).2.2 x19_5 p343 q343
                     cases e343
                     obtain ⟨ce343, hce343, hMe343, hcc343⟩ := Kd.S_get HO_17.out [] x19_5 p343 (by first | exact q343 | exact ode | (have e_ := (Kd.S_reads' HO_17.out).1; omega))
                     obtain ⟨ve343_0, rfl, ge343_0⟩ := hMe343
                     have hv343_0 := hcc343 0 _ rfl
                     rw [Nat.add_zero, show ((Kd.slice 2 (Kd.int .i64))).sz = 1 from rfl, Nat.mul_one] at hv343_0
                     replace hv343_0 := Option.some.inj (hv343_0.symm.trans hx343_0)
                     rw [hv343_0] at ge343_0
                     have HL343_0 := Aside0.mk (show Kd.R (Kd.int .i64) 2 _ _ _ _ (rd_L3 t340 x19_5) from ge343_0)
                     clear hv343_0 ge343_0
                     clear hcc343 hce343
                     have HR343_0 := Aside0.mk hi343_0
                     have HC343_0 := Aside0.mk hl343_0
                     clear hi343_0 hl343_0
                     replace p343 := eq_true p343
                     replace q343 := eq_true q343
                     go_wp2_with (first | (go_at_call 34; (with_reducible refine (laws_has.calls k5 _ _ (rd_L3 t340 x19_5) t310 false _ ?side1 ?side2 A125.out).mono ?_); (case side1 => repeat (first | exact (by repeat (first | (with_reducible exact HR343_0.out) | (with_reducible refine Kd.C_alloc ?_ _) | (with_reducible refine Kd.C_drewN ?_ _) | (with_reducible refine Kd.C_drew ?_) | exact HR343_0.out)) | (with_reducible refine Kd.C_alloc ?_ _) | (with_reducible refine Kd.C_drewN ?_ _) | (with_reducible refine Kd.C_drew ?_))); (case side2 => exact HC343_0.out); rintro e w' ⟨rfl, ⟨nd, rfl⟩⟩; (try first | exact ⟨rfl, _, World.drewN_drewN _ _ _⟩ | exact ⟨rfl, _, Eq.trans (World.drewN_drewN _ _ _) (congrArg (World.drewN _) (Nat.add_assoc _ _ _))⟩)))
                     repeat (go_quiet (first | (go_at_call 34; (with_reducible refine (laws_has.calls k5 _ _ (rd_L3 t340 x19_5) t310 false _ ?side1 ?side2 A125.out).mono ?_); (case side1 => repeat (first | exact (by repeat (first | (with_reducible exact HR343_0.out) | (with_reducible refine Kd.C_alloc ?_ _) | (with_reducible refine Kd.C_drewN ?_ _) | (with_reducible refine Kd.C_drew ?_) | exact HR343_0.out)) | (with_reducible refine Kd.C_alloc ?_ _) | (with_reducible refine Kd.C_drewN ?_ _) | (with_reducible refine Kd.C_drew ?_))); (case side2 => exact HC343_0.out); rintro e w' ⟨rfl, ⟨nd, rfl⟩⟩; (try first | exact ⟨rfl, _, World.drewN_drewN _ _ _⟩ | exact ⟨rfl, _, Eq.trans (World.drewN_drewN _ _ _) (congrArg (World.drewN _) (Nat.add_assoc _ _ _))⟩))); try go_wp2_with (first | (go_at_call 34; (with_reducible refine (laws_has.calls k5 _ _ (rd_L3 t340 x19_5) t310 false _ ?side1 ?side2 A125.out).mono ?_); (case side1 => repeat (first | exact (by repeat (first | (with_reducible exact HR343_0.out) | (with_reducible refine Kd.C_alloc ?_ _) | (with_reducible refine Kd.C_drewN ?_ _) | (with_reducible refine Kd.C_drew ?_) | exact HR343_0.out)) | (with_reducible refine Kd.C_alloc ?_ _) | (with_reducible refine Kd.C_drewN ?_ _) | (with_reducible refine Kd.C_drew ?_))); (case side2 => exact HC343_0.out); rintro e w' ⟨rfl, ⟨nd, rfl⟩⟩; (try first | exact ⟨rfl, _, World.drewN_drewN _ _ _⟩ | exact ⟨rfl, _, Eq.trans (World.drewN_drewN _ _ _) (congrArg (World.drewN _) (Nat.add_assoc _ _ _))⟩))))
                     go_roundg k5
                     case measure => have := HJ6.out; have := HJ28.out; have := HJ71.out; have := HK4.out; have := HK5.out; omega
                     case rel => exact ⟨(false), (wrap64 (x19_5 + 1)), (by first | rfl | (simp; done) | (simp [*]; done) | (simp only [bne_nil_]; done) | (simp [bne_nil_]; done)), (by first | rfl | (simp; done) | (simp [*]; done) | (simp only [bne_nil_]; done) | (simp [bne_nil_]; done)), H', ⟨by have := HJ6.out; have := HJ28.out; have := HJ71.out; have := HK4.out; have := HK5.out; omega⟩, ⟨by (with_reducible repeat (first | apply Kd.S_alloc | apply Kd.S_drewN | apply Kd.S_drew)); exact HO_17.out⟩, ⟨rl HO_314001⟩, ⟨rl HO_321001⟩, ⟨rl HO_328001⟩, ⟨rl HO_338001⟩, ⟨bk BK313⟩, ⟨bk BK320⟩, ⟨bk BK327⟩, ⟨bk BK337⟩, ⟨by repeat (first | (with_reducible first | exact HB.out | apply below_alloc | apply pw_below_drewN | apply below_drew1 | refine below_set ?_ GE313.out | refine below_set ?_ GE320.out | refine below_set ?_ GE327.out | refine below_set ?_ GE337.out) | exact HB.out)⟩⟩
                   ·rw [if_neg c124] at H
                    exact absurd H (by simp)
                 ·rw [if_neg c121] at H
                  have c121b0 : decide (x19_5 < (t340.length : Int)) = false := decide_eq_false c121
                  clear c121
                  clear hrt
                  obtain rfl := Option.some.inj H
                  obtain ⟨Ao130, co130, eo130⟩ := Kd.S_slice HO_17.out
                  subst eo130
                  go_wp2
                  repeat (go_quiet (fail); try go_wp2)
                  go_ret
                  exact ⟨by first | rfl | (simp [errW_none, errW_some] <;> rfl) | (simp [*, errW_none, errW_some] <;> rfl), by repeat (first | (with_reducible first | exact HB.out | apply below_alloc | apply pw_below_drewN | apply below_drew1 | refine below_set ?_ GE313.out | refine below_set ?_ GE320.out | refine below_set ?_ GE327.out | refine below_set ?_ GE337.out) | exact HB.out)⟩
     ·replace c26 := Bool.eq_false_iff.mpr c26
      subst c26
      have H1 : (some true) = some r := by rw [if_neg (show ¬ (false = true) by decide)] at H; exact H
      clear H
      have H := H1
      clear H1
      clear hrt
      obtain rfl := Option.some.inj H
      go_wp2
      repeat (go_quiet (fail); try go_wp2)
      go_ret
      exact ⟨by first | rfl | (simp [errW_none, errW_some] <;> rfl) | (simp [*, errW_none, errW_some] <;> rfl), bs3 HB GE313 GE320 GE327⟩

end Go.Proofs.Ytkjlplcdjdenkaa.PFnForest
