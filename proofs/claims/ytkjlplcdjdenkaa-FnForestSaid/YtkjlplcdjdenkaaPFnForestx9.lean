-- Written by a program of this session (a turned copy of the kit's printer); Lean checks it.
-- half the depth
import Derived.Test.YtkjlplcdjdenkaaPFnForestx0
import Derived.Test.YtkjlplcdjdenkaaPFnForestx2
import Derived.Test.YtkjlplcdjdenkaaPFnForestx3
import Derived.Test.YtkjlplcdjdenkaaPFnForestx7
import Derived.Test.YtkjlplcdjdenkaaPFnForestx8
namespace Go.Proofs.Ytkjlplcdjdenkaa.PFnForest
open Go.RowKit Go.Proofs.YtkjlplcdjdenkaaW.PrintWords Go.Proofs.YtkjlplcdjdenkaaW.PrintLast Go.Proofs.YtkjlplcdjdenkaaW.PrintMore
attribute [local go_sem] max2_int min2_int max_two min_two max_three min_three max_four min_four   -- for this text's walks alone
set_option linter.unusedVariables false
set_option linter.unusedSimpArgs false

/-! ### spec_DrawJoin: function 30 -/
def spec_DrawJoin.f (k : Nat) (l0 : List Int) : Option (Int × (List (S51)) × Int × Int × Int) := (spec_l1Open.f l0).bind fun bt282 => ((spec_l1Rd_forest.f k bt282.1 bt282.2).bind fun bt285 => ((spec_l1Rd_off.f k bt282.1 bt285.2.2 0 (wrap64 (bt285.1 - 1))).bind fun bt291 => ((spec_l1Rd_off.f k bt282.1 bt291.2 0 (wrap64 (bt285.1 - 1))).bind fun bt293 => ((spec_l1Rd_off.f k bt282.1 bt293.2 0 9).bind fun bt295 => (some (bt285.1, bt285.2.1, bt291.1, bt293.1, bt295.1))))))
def spec_DrawJoin.T3 : Bool × List (List Nat × List Nat) := (true, [([], []), ([], []), ([], []), ([2], [2]), ([3], [3]), ([1, 4], [1, 4]), ([], []), ([], []), ([7], [7]), ([8], [8]), ([6, 9, 5], [6, 9]), ([], []), ([11, 10], [11]), ([0, 12, 0], [0]), ([5, 13, 0, 1, 2, 3, 4, 5, 13], [5]), ([10, 14, 0, 1, 2, 3, 4, 5, 6, 7, 8, 9, 10, 13, 14], [10]), ([12, 15, 0, 1, 2, 3, 4, 5, 6, 7, 8, 9, 10, 11, 12, 13, 14, 15], [12])])
def spec_DrawJoin.B3 : List Nat := [0, 0, 0, 4, 12, 30, 0, 0, 128, 384, 1022, 0, 4094, 8191, 16383, 32767, 65535]
theorem spec_DrawJoin.tab3 : rtab .any (opsOf Try.f30 3) = spec_DrawJoin.T3 := by kernel_rfl
theorem spec_DrawJoin.bits3 : waitsOk spec_DrawJoin.T3.2 spec_DrawJoin.B3 = true := by kernel_rfl
set_option maxHeartbeats 8000000 in
set_option maxRecDepth 100000 in
theorem spec_DrawJoin.calls (k : Nat) (A0 : Option Addr) (c0 : Nat) (l0 : List Int) (r1 : Int) (r2 : List (S51)) (r3 : Int) (r4 : Int) (r5 : Int) (w : World) (hr0 : Kd.C (Kd.int .u8) w A0 l0.length l0) (hc0 : l0.length ≤ c0) (h : spec_DrawJoin.f k l0 = some (r1, r2, r3, r4, r5)) :
  Calls Try.prog 30 #[.slice A0 l0.length c0] w fun e w' => ∃ v1_ : Value, e = .returned (.tuple #[.agg #[.int .i64 r1, v1_], .int .i64 r3, .int .i64 r4, .int .i64 r5]) ∧ Kd.R k51 51 w' w.heap.size (fun _ => True) v1_ r2 ∧ Below w.heap.size w w' := by
 have hu35 := Try.underlying35
 have HR0 := Aside0.mk hr0
 have HC0 := Aside0.mk hc0
 clear hr0 hc0
 have HB := Aside0.mk (Below.refl w.heap.size w)
 have H : ((spec_l1Open.f l0).bind fun bt282 => ((spec_l1Rd_forest.f k bt282.1 bt282.2).bind fun bt285 => ((spec_l1Rd_off.f k bt282.1 bt285.2.2 0 (wrap64 (bt285.1 - 1))).bind fun bt291 => ((spec_l1Rd_off.f k bt282.1 bt291.2 0 (wrap64 (bt285.1 - 1))).bind fun bt293 => ((spec_l1Rd_off.f k bt282.1 bt293.2 0 9).bind fun bt295 => (some (bt285.1, bt285.2.1, bt291.1, bt293.1, bt295.1))))))) = some (r1, r2, r3, r4, r5) := h
 clear h
 replace H := Option.bind_eq_some_iff.mp H
 obtain ⟨⟨t282, t283⟩, A20, H⟩ := H
 replace H : ((spec_l1Rd_forest.f k t282 t283).bind fun bt285 => ((spec_l1Rd_off.f k t282 bt285.2.2 0 (wrap64 (bt285.1 - 1))).bind fun bt291 => ((spec_l1Rd_off.f k t282 bt291.2 0 (wrap64 (bt285.1 - 1))).bind fun bt293 => ((spec_l1Rd_off.f k t282 bt293.2 0 9).bind fun bt295 => (some (bt285.1, bt285.2.1, bt291.1, bt293.1, bt295.1)))))) = some (r1, r2, r3, r4, r5) := H
 have A2 := Aside0.mk A20
 clear A20
 replace H := Option.bind_eq_some_iff.mp H
 obtain ⟨⟨t285, t286, t289⟩, A30, H⟩ := H
 replace H : ((spec_l1Rd_off.f k t282 t289 0 (wrap64 (t285 - 1))).bind fun bt291 => ((spec_l1Rd_off.f k t282 bt291.2 0 (wrap64 (t285 - 1))).bind fun bt293 => ((spec_l1Rd_off.f k t282 bt293.2 0 9).bind fun bt295 => (some (t285, t286, bt291.1, bt293.1, bt295.1))))) = some (r1, r2, r3, r4, r5) := H
 have A3 := Aside0.mk A30
 clear A30
 replace H := Option.bind_eq_some_iff.mp H
 obtain ⟨⟨t291, t292⟩, A40, H⟩ := H
 replace H : ((spec_l1Rd_off.f k t282 t292 0 (wrap64 (t285 - 1))).bind fun bt293 => ((spec_l1Rd_off.f k t282 bt293.2 0 9).bind fun bt295 => (some (t285, t286, t291, bt293.1, bt295.1)))) = some (r1, r2, r3, r4, r5) := H
 have A4 := Aside0.mk A40
 clear A40
 replace H := Option.bind_eq_some_iff.mp H
 obtain ⟨⟨t293, t294⟩, A50, H⟩ := H
 replace H : ((spec_l1Rd_off.f k t282 t294 0 9).bind fun bt295 => (some (t285, t286, t291, t293, bt295.1))) = some (r1, r2, r3, r4, r5) := H
 have A5 := Aside0.mk A50
 clear A50
 replace H := Option.bind_eq_some_iff.mp H
 obtain ⟨⟨t295, t296⟩, A60, H⟩ := H
 replace H : (some (t285, t286, t291, t293, t295)) = some (r1, r2, r3, r4, r5) := H
 have A6 := Aside0.mk A60
 clear A60
 simp only [Option.some.injEq, Prod.mk.injEq] at H
 obtain ⟨rfl, rfl, rfl, rfl, rfl⟩ := H
 go_enter Try.func30, Try.ntmps30
 try go_wp2_with (first | ((with_reducible refine gate_dst (N := 2) rfl ?_); refine box_event ?hg (N := 2) ?hd (cs := #[.int .i64 0, .slice none 0 0]) (t := 35) ?hr ?_; (case hd => rfl); (case hg => rfl); (case hr => first | (go_simp; done) | (go_simp; rfl)); intro gb281 hg w7 hbox hb; have n0_ := Aside0.mk (below_step (bl HB) hb); have n1_ := Aside0.mk (hbox); have n2_ := Aside0.mk ((by rw [hg]; exact (below_size (bl HB)) : w.heap.size ≤ gb281)); have n3_ := Aside0.mk ((by rw [hg]; exact (below_size (bl HB)) : w.heap.size ≤ gb281)); clear HB; have HB := n0_; have BK281 := n1_; have GW281 := n2_; have GE281 := n3_; clear n0_ n1_ n2_ n3_; clear hb hbox hg) | ((with_reducible refine gate_callee (f := 88) rfl ?_); refine goesL_ (some 9) rfl rfl Try.func88 (by kernel_rfl) rfl #[.slice A0 l0.length c0] rfl (by (try simp only [List.map_toArray, List.map_cons, List.map_nil]); first | done | rfl | (simp only [List.length_drop, List.length_take]; rfl)) ?_; (with_reducible refine (spec_l1Open.calls _ _ l0 t282 t283 w _ ?side1 ?side2 ?side3 A2.out).mono ?_); (case side1 => repeat (first | (with_reducible first | exact HB.out | apply below_alloc | apply pw_below_drewN | apply below_drew1 | refine below_set ?_ GE281.out) | exact HB.out)); (case side2 => exact HR0.out); (case side3 => exact HC0.out); rintro e w8 ⟨g284, rfl, hi, hb, hb2⟩; refine ⟨_, rfl, ?_⟩; have n0_ := Aside0.mk (blk_below (g := gb281) (o := .cells #[.int .i64 0, .slice none 0 0] 35 (0, 0)) (bk BK281) hb2); have n1_ := Aside0.mk (hb); have n2_ := Aside0.mk (hi); have n3_ := Aside0.mk (IsS183.ne_blk hi (blk_below (g := gb281) (o := .cells #[.int .i64 0, .slice none 0 0] 35 (0, 0)) (bk BK281) hb2) (by decide)); have n4_ := Aside0.mk (Ne.symm (IsS183.ne_blk hi (blk_below (g := gb281) (o := .cells #[.int .i64 0, .slice none 0 0] 35 (0, 0)) (bk BK281) hb2) (by decide))); clear BK281; clear HB; have BK281 := n0_; have HB := n1_; have HI284 := n2_; have NB284_281 := n3_; have NB281_284 := n4_; clear n0_ n1_ n2_ n3_ n4_; (try clear hb); (try clear hb2); (try clear hk); (try clear hi)) | ((with_reducible refine gate_callee (f := 89) rfl ?_); refine goesL_ (some 11) rfl rfl Try.func89 (by kernel_rfl) rfl #[.pointer (some ⟨g284, 0, none⟩)] rfl (by (try simp only [List.map_toArray, List.map_cons, List.map_nil]); first | done | rfl | (simp only [List.length_drop, List.length_take]; rfl)) ?_; (with_reducible refine (spec_l1Rd_forest.calls k g284 t282 t283 t285 t286 t289 w _ ?side1 ?side2 A3.out).mono ?_); (case side1 => repeat (first | (with_reducible first | exact HI284.out | apply IsS183.alloc | apply IsS183.drewN | apply IsS183.drew | apply IsS183.set_1 | refine IsS183.far ?_ NB284_281.out _) | exact HI284.out)); (case side2 => repeat (first | (with_reducible first | exact HB.out | apply below_alloc | apply pw_below_drewN | apply below_drew1 | refine below_set ?_ (IsS183.ge HI284.out) | refine below_set ?_ GE281.out) | exact HB.out)); rintro e w9 ⟨v287, rfl, ho0, hi, hb, hk⟩; refine ⟨_, rfl, ?_⟩; have n0_ := Aside0.mk (KeepBut.blk hk (g' := gb281) (o := .cells #[.int .i64 0, .slice none 0 0] 35 (0, 0)) (bk BK281) NB281_284.out (by simp)); have n1_ := Aside0.mk (Kd.R_lower ho0 (below_size (bs2 HB ⟨IsS183.ge HI284.out⟩ GE281))); have n2_ := Aside0.mk (hb); have n3_ := Aside0.mk (hi); clear BK281; clear HB; clear HI284; have BK281 := n0_; have HO288 := n1_; have HB := n2_; have HI284 := n3_; clear n0_ n1_ n2_ n3_; (try clear hb); (try clear hb2); (try clear hk); (try clear hi); (try clear ho0)) | ((with_reducible refine gate_dst (N := 7) rfl ?_); refine box_event ?hg (N := 7) ?hd (cs := #[.int .i64 0, .slice none 0 0]) (t := 35) ?hr ?_; (case hd => rfl); (case hg => rfl); (case hr => first | (go_simp; done) | (go_simp; rfl)); intro gb290 hg w10 hbox hb; have n0_ := Aside0.mk (Kd.R_below (rl HO288) hb); have n1_ := Aside0.mk (blk_below (g := gb281) (o := .cells #[.int .i64 0, .slice none 0 0] 35 (0, 0)) (bk BK281) hb); have n2_ := Aside0.mk (IsS183.below (by repeat (first | (with_reducible first | exact HI284.out | apply IsS183.alloc | apply IsS183.drewN | apply IsS183.drew | apply IsS183.set_1 | refine IsS183.far ?_ NB284_281.out _) | exact HI284.out)) hb); have n3_ := Aside0.mk (below_step (bs2 HB ⟨IsS183.ge HI284.out⟩ GE281) hb); have n4_ := Aside0.mk (hbox); have n5_ := Aside0.mk ((by rw [hg]; exact (below_size (bs2 HB ⟨IsS183.ge HI284.out⟩ GE281)) : w.heap.size ≤ gb290)); have n6_ := Aside0.mk ((by rw [hg]; exact (below_size (bs2 HB ⟨IsS183.ge HI284.out⟩ GE281)) : w.heap.size ≤ gb290)); have n7_ := Aside0.mk ((by rw [hg]; exact Nat.ne_of_lt (blk_lt (g := gb281) (o := .cells #[.int .i64 0, .slice none 0 0] 35 (0, 0)) (bk BK281)) : gb281 ≠ gb290)); have n8_ := Aside0.mk ((by rw [hg]; exact Nat.ne_of_gt (blk_lt (g := gb281) (o := .cells #[.int .i64 0, .slice none 0 0] 35 (0, 0)) (bk BK281)) : gb290 ≠ gb281)); have n9_ := Aside0.mk ((by rw [hg]; exact Nat.ne_of_lt (IsS183.lt (show IsS183 w _ g284 t282 t289 from by repeat (first | (with_reducible first | exact HI284.out | apply IsS183.alloc | apply IsS183.drewN | apply IsS183.drew | apply IsS183.set_1 | refine IsS183.far ?_ NB284_281.out _) | exact HI284.out))) : g284 ≠ gb290)); have n10_ := Aside0.mk ((by rw [hg]; exact Nat.ne_of_gt (IsS183.lt (show IsS183 w _ g284 t282 t289 from by repeat (first | (with_reducible first | exact HI284.out | apply IsS183.alloc | apply IsS183.drewN | apply IsS183.drew | apply IsS183.set_1 | refine IsS183.far ?_ NB284_281.out _) | exact HI284.out))) : gb290 ≠ g284)); clear HO288; clear BK281; clear HI284; clear HB; have HO288 := n0_; have BK281 := n1_; have HI284 := n2_; have HB := n3_; have BK290 := n4_; have GW290 := n5_; have GE290 := n6_; have NB281_290 := n7_; have NB290_281 := n8_; have NB284_290 := n9_; have NB290_284 := n10_; clear n0_ n1_ n2_ n3_ n4_ n5_ n6_ n7_ n8_ n9_ n10_; clear hb hbox hg; have hnb11 := NB290_281.out; have hnc11 := NB281_290.out; have hnb12 := NB290_284.out; have hnc12 := NB284_290.out; have hcz13_0 : w10.cell? ⟨gb290, 0, none⟩ = some (.int .i64 0) := (blk_cell BK290.out 0).trans rfl; have hcz13_1 : w10.cell? ⟨gb290, 1, none⟩ = some (.slice none 0 0) := (blk_cell BK290.out 1).trans rfl; have hfz13_0 := blk_frozen BK290.out 0; have hfz13_1 := blk_frozen BK290.out 1; obtain ⟨Ao14, co14, eo14⟩ := Kd.R_slice HO288.out; subst eo14))
 have n0_ : Aside0 (Kd.R k51 51 ((w10.setCell ⟨gb290, 0, none⟩ (.int .i64 t285)).setCell ⟨gb290, 1, none⟩ (.slice Ao14 t286.length co14)) w.heap.size (fun _ => True) (.slice Ao14 t286.length co14) t286) := ⟨by (with_reducible repeat (first | apply Kd.R_alloc | apply Kd.R_drewN | apply Kd.R_drew)); exact Kd.R_mono (Kd.R_far (p := ⟨gb290, 1, none⟩) (Kd.R_far (p := ⟨gb290, 0, none⟩) (Kd.R_types HO288.out BK290.out (by decide)) (fun _ hk => hk.2) (.int .i64 t285)) (fun _ hk => hk.2) (.slice Ao14 t286.length co14)) (fun _ hk => trivial)⟩
 have n1_ : Aside0 (((w10.setCell ⟨gb290, 0, none⟩ (.int .i64 t285)).setCell ⟨gb290, 1, none⟩ (.slice Ao14 t286.length co14)).heap[gb281]? = some (.cells #[.int .i64 0, .slice none 0 0] 35 (0, 0))) := ⟨by (with_reducible repeat (first | refine blk_drewN ?_ _ | refine blk_drew ?_ | refine blk_alloc ?_ _)); refine blk_far ?_ NB281_290.out _; (with_reducible repeat (first | refine blk_drewN ?_ _ | refine blk_drew ?_ | refine blk_alloc ?_ _)); refine blk_far ?_ NB281_290.out _; (with_reducible repeat (first | refine blk_drewN ?_ _ | refine blk_drew ?_ | refine blk_alloc ?_ _)); exact BK281.out⟩
 have n2_ : Aside0 (((w10.setCell ⟨gb290, 0, none⟩ (.int .i64 t285)).setCell ⟨gb290, 1, none⟩ (.slice Ao14 t286.length co14)).heap[gb290]? = some (.cells #[.int .i64 t285, .slice Ao14 t286.length co14] 35 (0, 0))) := ⟨by (with_reducible repeat (first | refine blk_drewN ?_ _ | refine blk_drew ?_ | refine blk_alloc ?_ _)); refine blk_put (cs := #[.int .i64 t285, .slice none 0 0]) ?_ 1 _ rfl; (with_reducible repeat (first | refine blk_drewN ?_ _ | refine blk_drew ?_ | refine blk_alloc ?_ _)); refine blk_put (cs := #[.int .i64 0, .slice none 0 0]) ?_ 0 _ rfl; (with_reducible repeat (first | refine blk_drewN ?_ _ | refine blk_drew ?_ | refine blk_alloc ?_ _)); exact BK290.out⟩
 have n3_ : Aside0 (IsS183 w ((w10.setCell ⟨gb290, 0, none⟩ (.int .i64 t285)).setCell ⟨gb290, 1, none⟩ (.slice Ao14 t286.length co14)) g284 t282 t289) := ⟨by repeat (first | (with_reducible first | exact HI284.out | apply IsS183.alloc | apply IsS183.drewN | apply IsS183.drew | apply IsS183.set_1 | refine IsS183.far ?_ NB284_281.out _ | refine IsS183.far ?_ NB284_290.out _) | exact HI284.out)⟩
 have n4_ : Aside0 (Below w.heap.size w ((w10.setCell ⟨gb290, 0, none⟩ (.int .i64 t285)).setCell ⟨gb290, 1, none⟩ (.slice Ao14 t286.length co14))) := ⟨bs3 HB ⟨IsS183.ge HI284.out⟩ GE281 GE290⟩
 (try clear HO288)
 (try clear BK281)
 (try clear BK290)
 (try clear HI284)
 (try clear HB)
 generalize ((w10.setCell ⟨gb290, 0, none⟩ (.int .i64 t285)).setCell ⟨gb290, 1, none⟩ (.slice Ao14 t286.length co14)) = w15 at n0_ n1_ n2_ n3_ n4_ ⊢
 have HO288 := n0_
 have BK281 := n1_
 have BK290 := n2_
 have HI284 := n3_
 have HB := n4_
 clear n0_ n1_ n2_ n3_ n4_
 have n0_ := Aside0.mk (Kd.R_drew HO288.out)
 have n1_ := Aside0.mk (blk_drew BK281.out)
 have n2_ := Aside0.mk (blk_drew BK290.out)
 have n3_ := Aside0.mk (IsS183.drew HI284.out)
 have n4_ := Aside0.mk (below_drew1 HB.out)
 clear HO288
 clear BK281
 clear BK290
 clear HI284
 clear HB
 have HO288 := n0_
 have BK281 := n1_
 have BK290 := n2_
 have HI284 := n3_
 have HB := n4_
 clear n0_ n1_ n2_ n3_ n4_
 refine start_ (n := 17) (S := fun w' => w'.cell? ⟨gb290, 0, none⟩ = some (.int .i64 t285) ∧ w'.cell? ⟨gb290, 1, none⟩ = some (.slice Ao14 t286.length co14)) (ds := []) #[false, false, false, false, false, false, false, false, false, false, false, false, false, false, false, false, false] (by kernel_rfl) rfl rfl ⟨(blk_cell BK290.out 0).trans rfl, (blk_cell BK290.out 1).trans rfl⟩ (fun hHeld => ?_); refine with_tabW spec_DrawJoin.tab3 spec_DrawJoin.bits3 (fun HT_ HW_ => ?_)
 generalize w15.drew = w16 at HO288 BK281 BK290 HI284 HB hHeld ⊢
 refine pure_ (i := 1) (N := some 13) (v := ?_) (a' := ?_) #[false, true, false, false, false, false, false, false, false, false, false, false, false, false, false, false, false] rfl rfl (any_of HT_.out (by kernel_rfl)) (fun _ _ _ h => h) (Or.inl ⟨by rfl, ?_⟩) ?_ ?_
 rotate_left
 ·intro w'
  go_simp
  with_reducible rfl
 rotate_left
 ·simp only [Act.put, List.setIfInBounds_toArray, List.set_cons_zero, List.set_cons_succ, i64_w, i32_w]
  rfl
 refine pure_ (i := 2) (N := some 14) (v := ?_) (a' := ?_) #[false, true, true, false, false, false, false, false, false, false, false, false, false, false, false, false, false] rfl rfl (any_of HT_.out (by kernel_rfl)) (fun _ _ _ h => h) (Or.inl ⟨by rfl, ?_⟩) ?_ ?_
 rotate_left
 ·intro w'
  go_simp
  with_reducible rfl
 rotate_left
 ·simp only [Act.put, List.setIfInBounds_toArray, List.set_cons_zero, List.set_cons_succ, i64_w, i32_w]
  rfl
 refine pure_ (i := 6) (N := some 18) (v := ?_) (a' := ?_) #[false, true, true, false, false, false, true, false, false, false, false, false, false, false, false, false, false] rfl rfl (any_of HT_.out (by kernel_rfl)) (fun _ _ _ h => h) (Or.inl ⟨by rfl, ?_⟩) ?_ ?_
 rotate_left
 ·intro w'
  go_simp
  with_reducible rfl
 rotate_left
 ·simp only [Act.put, List.setIfInBounds_toArray, List.set_cons_zero, List.set_cons_succ, i64_w, i32_w]
  rfl
 refine pure_ (i := 7) (N := some 19) (v := ?_) (a' := ?_) #[false, true, true, false, false, false, true, true, false, false, false, false, false, false, false, false, false] rfl rfl (any_of HT_.out (by kernel_rfl)) (fun _ _ _ h => h) (Or.inl ⟨by rfl, ?_⟩) ?_ ?_
 rotate_left
 ·intro w'
  go_simp
  with_reducible rfl
 rotate_left
 ·simp only [Act.put, List.setIfInBounds_toArray, List.set_cons_zero, List.set_cons_succ, i64_w, i32_w]
  rfl
 refine pure_ (i := 11) (N := some 23) (v := ?_) (a' := ?_) #[false, true, true, false, false, false, true, true, false, false, false, true, false, false, false, false, false] rfl rfl (any_of HT_.out (by kernel_rfl)) (fun _ _ _ h => h) (Or.inl ⟨by rfl, ?_⟩) ?_ ?_
 rotate_left
 ·intro w'
  go_simp
  with_reducible rfl
 rotate_left
 ·simp only [Act.put, List.setIfInBounds_toArray, List.set_cons_zero, List.set_cons_succ, i64_w, i32_w]
  rfl
 refine take_ (i := 0) (N := some 12) (v := ?_) (a' := ?_) #[true, true, true, false, false, false, true, true, false, false, false, true, false, false, false, false, false] rfl rfl (take_ofW HT_.out HW_.out (by kernel_rfl)) (fun _ _ _ h => h) (Or.inl ⟨by rfl, ?_⟩) hHeld ?_ ?_
 rotate_left
 ·rintro w' ⟨s0, s1⟩
  go_simp
  with_reducible rfl
 rotate_left
 ·simp only [Act.put, List.setIfInBounds_toArray, List.set_cons_zero, List.set_cons_succ, i64_w, i32_w]
  rfl
 refine take_ (i := 3) (N := some 15) (v := ?_) (a' := ?_) #[true, true, true, true, false, false, true, true, false, false, false, true, false, false, false, false, false] rfl rfl (take_ofW HT_.out HW_.out (by kernel_rfl)) (fun _ _ _ h => h) (Or.inl ⟨by rfl, ?_⟩) hHeld ?_ ?_
 rotate_left
 ·rintro w' ⟨s0, s1⟩
  go_simp
  with_reducible rfl
 rotate_left
 ·simp only [Act.put, List.setIfInBounds_toArray, List.set_cons_zero, List.set_cons_succ, i64_w, i32_w]
  rfl
 refine pure_ (i := 4) (N := some 16) (v := ?_) (a' := ?_) #[true, true, true, true, true, false, true, true, false, false, false, true, false, false, false, false, false] rfl rfl (any_of HT_.out (by kernel_rfl)) (fun _ _ _ h => h) (Or.inl ⟨by rfl, ?_⟩) ?_ ?_
 rotate_left
 ·intro w'
  go_simp
  with_reducible rfl
 rotate_left
 ·simp only [Act.put, List.setIfInBounds_toArray, List.set_cons_zero, List.set_cons_succ, i64_w, i32_w]
  rfl
 refine take_ (i := 8) (N := some 20) (v := ?_) (a' := ?_) #[true, true, true, true, true, false, true, true, true, false, false, true, false, false, false, false, false] rfl rfl (take_ofW HT_.out HW_.out (by kernel_rfl)) (fun _ _ _ h => h) (Or.inl ⟨by rfl, ?_⟩) hHeld ?_ ?_
 rotate_left
 ·rintro w' ⟨s0, s1⟩
  go_simp
  with_reducible rfl
 rotate_left
 ·simp only [Act.put, List.setIfInBounds_toArray, List.set_cons_zero, List.set_cons_succ, i64_w, i32_w]
  rfl
 refine pure_ (i := 9) (N := some 21) (v := ?_) (a' := ?_) #[true, true, true, true, true, false, true, true, true, true, false, true, false, false, false, false, false] rfl rfl (any_of HT_.out (by kernel_rfl)) (fun _ _ _ h => h) (Or.inl ⟨by rfl, ?_⟩) ?_ ?_
 rotate_left
 ·intro w'
  go_simp
  with_reducible rfl
 rotate_left
 ·simp only [Act.put, List.setIfInBounds_toArray, List.set_cons_zero, List.set_cons_succ, i64_w, i32_w]
  rfl
 refine one_ (i := 5) (N := some 17) #[true, true, true, true, true, true, true, true, true, true, false, true, false, false, false, false, false] rfl rfl (one_of HT_.out (by kernel_rfl)) (by decide) (fun K hK => ?_)
 refine goes_ Try.func90 (by kernel_rfl) rfl #[.pointer (some ⟨g284, 0, none⟩), .int .i64 0, .int .i64 (wrap64 (t285 - 1))] (by rfl) rfl rfl (by (try simp only [List.map_toArray, List.map_cons, List.map_nil]); first | done | rfl | (simp only [List.length_drop, List.length_take]; rfl)) ?_
 with_reducible refine (spec_l1Rd_off.calls k g284 t282 t289 0 (wrap64 (t285 - 1)) t291 t292 w _ ?side1 ?side2 A4.out).mono ?_
 (case side1 => repeat (first | (with_reducible first | exact HI284.out | apply IsS183.alloc | apply IsS183.drewN | apply IsS183.drew | apply IsS183.set_1 | refine IsS183.far ?_ NB284_281.out _ | refine IsS183.far ?_ NB284_290.out _) | exact HI284.out))
 (case side2 => repeat (first | (with_reducible first | exact HB.out | apply below_alloc | apply pw_below_drewN | apply below_drew1 | refine below_set ?_ (IsS183.ge HI284.out) | refine below_set ?_ GE281.out | refine below_set ?_ GE290.out) | exact HB.out))
 rintro e w17 ⟨rfl, hi, hb, hk⟩
 refine ⟨_, rfl, ?_⟩
 have n0_ := Aside0.mk (KeepBut.blk hk (g' := gb281) (o := .cells #[.int .i64 0, .slice none 0 0] 35 (0, 0)) (bk BK281) NB281_284.out (by simp))
 have n1_ := Aside0.mk (Kd.R_mono (Kd.R_keep (IsS183.apart (show IsS183 w _ g284 t282 t289 from by repeat (first | (with_reducible first | exact HI284.out | apply IsS183.alloc | apply IsS183.drewN | apply IsS183.drew | apply IsS183.set_1 | refine IsS183.far ?_ NB284_281.out _ | refine IsS183.far ?_ NB284_290.out _) | exact HI284.out)) (rl HO288) (by decide)) hk (fun _ h => h.2)) (fun _ h => h.1))
 have n2_ := Aside0.mk (KeepBut.blk hk (g' := gb290) (o := .cells #[.int .i64 t285, .slice Ao14 t286.length co14] 35 (0, 0)) (bk BK290) NB290_284.out (by simp))
 have n3_ := Aside0.mk (hb)
 have n4_ := Aside0.mk (hi)
 clear BK281
 clear HO288
 clear BK290
 clear HB
 clear HI284
 have BK281 := n0_
 have HO288 := n1_
 have BK290 := n2_
 have HB := n3_
 have HI284 := n4_
 clear n0_ n1_ n2_ n3_ n4_
 (try clear hb)
 (try clear hb2)
 (try clear hk)
 (try clear hi)
 refine hK.out _ _ ⟨(blk_cell BK290.out 0).trans rfl, (blk_cell BK290.out 1).trans rfl⟩ (fun hHeld => ?_)
 clear hK K
 refine norm_ (a' := ?_) ?_ ?_
 rotate_left
 ·show Act.put _ (some 17) _ = _
  simp only [Act.put, List.setIfInBounds_toArray, List.set_cons_zero, List.set_cons_succ, i64_w, i32_w]
  rfl
 refine one_ (i := 10) (N := some 22) #[true, true, true, true, true, true, true, true, true, true, true, true, false, false, false, false, false] rfl rfl (one_of HT_.out (by kernel_rfl)) (by decide) (fun K hK => ?_)
 refine goes_ Try.func90 (by kernel_rfl) rfl #[.pointer (some ⟨g284, 0, none⟩), .int .i64 0, .int .i64 (wrap64 (t285 - 1))] (by rfl) rfl rfl (by (try simp only [List.map_toArray, List.map_cons, List.map_nil]); first | done | rfl | (simp only [List.length_drop, List.length_take]; rfl)) ?_
 with_reducible refine (spec_l1Rd_off.calls k g284 t282 t292 0 (wrap64 (t285 - 1)) t293 t294 w _ ?side1 ?side2 A5.out).mono ?_
 (case side1 => repeat (first | (with_reducible first | exact HI284.out | apply IsS183.alloc | apply IsS183.drewN | apply IsS183.drew | apply IsS183.set_1 | refine IsS183.far ?_ NB284_281.out _ | refine IsS183.far ?_ NB284_290.out _) | exact HI284.out))
 (case side2 => repeat (first | (with_reducible first | exact HB.out | apply below_alloc | apply pw_below_drewN | apply below_drew1 | refine below_set ?_ (IsS183.ge HI284.out) | refine below_set ?_ GE281.out | refine below_set ?_ GE290.out) | exact HB.out))
 rintro e w18 ⟨rfl, hi, hb, hk⟩
 refine ⟨_, rfl, ?_⟩
 have n0_ := Aside0.mk (KeepBut.blk hk (g' := gb281) (o := .cells #[.int .i64 0, .slice none 0 0] 35 (0, 0)) (bk BK281) NB281_284.out (by simp))
 have n1_ := Aside0.mk (Kd.R_mono (Kd.R_keep (IsS183.apart (show IsS183 w _ g284 t282 t292 from by repeat (first | (with_reducible first | exact HI284.out | apply IsS183.alloc | apply IsS183.drewN | apply IsS183.drew | apply IsS183.set_1 | refine IsS183.far ?_ NB284_281.out _ | refine IsS183.far ?_ NB284_290.out _) | exact HI284.out)) (rl HO288) (by decide)) hk (fun _ h => h.2)) (fun _ h => h.1))
 have n2_ := Aside0.mk (KeepBut.blk hk (g' := gb290) (o := .cells #[.int .i64 t285, .slice Ao14 t286.length co14] 35 (0, 0)) (bk BK290) NB290_284.out (by simp))
 have n3_ := Aside0.mk (hb)
 have n4_ := Aside0.mk (hi)
 clear BK281
 clear HO288
 clear BK290
 clear HB
 clear HI284
 have BK281 := n0_
 have HO288 := n1_
 have BK290 := n2_
 have HB := n3_
 have HI284 := n4_
 clear n0_ n1_ n2_ n3_ n4_
 (try clear hb)
 (try clear hb2)
 (try clear hk)
 (try clear hi)
 refine hK.out _ _ ⟨(blk_cell BK290.out 0).trans rfl, (blk_cell BK290.out 1).trans rfl⟩ (fun hHeld => ?_)
 clear hK K
 refine norm_ (a' := ?_) ?_ ?_
 rotate_left
 ·show Act.put _ (some 22) _ = _
  simp only [Act.put, List.setIfInBounds_toArray, List.set_cons_zero, List.set_cons_succ, i64_w, i32_w]
  rfl
 refine one_ (i := 12) (N := some 24) #[true, true, true, true, true, true, true, true, true, true, true, true, true, false, false, false, false] rfl rfl (one_of HT_.out (by kernel_rfl)) (by decide) (fun K hK => ?_)
 refine goes_ Try.func90 (by kernel_rfl) rfl #[.pointer (some ⟨g284, 0, none⟩), .int .i64 0, .int .i64 9] (by rfl) rfl rfl (by (try simp only [List.map_toArray, List.map_cons, List.map_nil]); first | done | rfl | (simp only [List.length_drop, List.length_take]; rfl)) ?_
 with_reducible refine (spec_l1Rd_off.calls k g284 t282 t294 0 9 t295 t296 w _ ?side1 ?side2 A6.out).mono ?_
 (case side1 => repeat (first | (with_reducible first | exact HI284.out | apply IsS183.alloc | apply IsS183.drewN | apply IsS183.drew | apply IsS183.set_1 | refine IsS183.far ?_ NB284_281.out _ | refine IsS183.far ?_ NB284_290.out _) | exact HI284.out))
 (case side2 => repeat (first | (with_reducible first | exact HB.out | apply below_alloc | apply pw_below_drewN | apply below_drew1 | refine below_set ?_ (IsS183.ge HI284.out) | refine below_set ?_ GE281.out | refine below_set ?_ GE290.out) | exact HB.out))
 rintro e w19 ⟨rfl, hi, hb, hk⟩
 refine ⟨_, rfl, ?_⟩
 have n0_ := Aside0.mk (KeepBut.blk hk (g' := gb281) (o := .cells #[.int .i64 0, .slice none 0 0] 35 (0, 0)) (bk BK281) NB281_284.out (by simp))
 have n1_ := Aside0.mk (Kd.R_mono (Kd.R_keep (IsS183.apart (show IsS183 w _ g284 t282 t294 from by repeat (first | (with_reducible first | exact HI284.out | apply IsS183.alloc | apply IsS183.drewN | apply IsS183.drew | apply IsS183.set_1 | refine IsS183.far ?_ NB284_281.out _ | refine IsS183.far ?_ NB284_290.out _) | exact HI284.out)) (rl HO288) (by decide)) hk (fun _ h => h.2)) (fun _ h => h.1))
 have n2_ := Aside0.mk (KeepBut.blk hk (g' := gb290) (o := .cells #[.int .i64 t285, .slice Ao14 t286.length co14] 35 (0, 0)) (bk BK290) NB290_284.out (by simp))
 have n3_ := Aside0.mk (hb)
 have n4_ := Aside0.mk (hi)
 clear BK281
 clear HO288
 clear BK290
 clear HB
 clear HI284
 have BK281 := n0_
 have HO288 := n1_
 have BK290 := n2_
 have HB := n3_
 have HI284 := n4_
 clear n0_ n1_ n2_ n3_ n4_
 (try clear hb)
 (try clear hb2)
 (try clear hk)
 (try clear hi)
 refine hK.out _ _ ⟨(blk_cell BK290.out 0).trans rfl, (blk_cell BK290.out 1).trans rfl⟩ (fun hHeld => ?_)
 clear hK K
 refine norm_ (a' := ?_) ?_ ?_
 rotate_left
 ·show Act.put _ (some 24) _ = _
  simp only [Act.put, List.setIfInBounds_toArray, List.set_cons_zero, List.set_cons_succ, i64_w, i32_w]
  rfl
 refine one_ (i := 13) (N := none) #[true, true, true, true, true, true, true, true, true, true, true, true, true, true, false, false, false] rfl rfl (one_of HT_.out (by kernel_rfl)) (by decide) (fun K hK => ?_)
 have hs20 : w19.cell? ⟨gb281, 0, none⟩ = some (.int .i64 0) := (blk_cell BK281.out 0).trans rfl
 have hfs20 := blk_frozen BK281.out 0
 have hns20_1 := NB290_281.out
 have hms20_1 := NB281_290.out
 have hs21 : w19.cell? ⟨gb281, 1, none⟩ = some (.slice none 0 0) := (blk_cell BK281.out 1).trans rfl
 have hfs21 := blk_frozen BK281.out 1
 have hns21_1 := NB290_281.out
 have hms21_1 := NB281_290.out
 refine skip_ (w1 := ?_) (by rfl) rfl ?_ ?_
 rotate_left
 ·go_simp
  rfl
 refine hK.out _ _ ⟨((cell_far (p := ⟨gb281, _, none⟩) NB290_281.out _).trans (((cell_far (p := ⟨gb281, _, none⟩) NB290_281.out _).trans (hHeld.1)))), ((cell_far (p := ⟨gb281, _, none⟩) NB290_281.out _).trans (((cell_far (p := ⟨gb281, _, none⟩) NB290_281.out _).trans (hHeld.2))))⟩ (fun hHeld => ?_)
 clear hK K
 refine pure_ (i := 14) (N := some 3) (v := ?_) (a' := ?_) #[true, true, true, true, true, true, true, true, true, true, true, true, true, true, true, false, false] rfl rfl (any_of HT_.out (by kernel_rfl)) (fun _ _ _ h => h) (Or.inl ⟨by rfl, ?_⟩) ?_ ?_
 rotate_left
 ·intro w'
  go_simp
  with_reducible rfl
 rotate_left
 ·simp only [Act.put, List.setIfInBounds_toArray, List.set_cons_zero, List.set_cons_succ, i64_w, i32_w]
  rfl
 refine pure_ (i := 15) (N := some 4) (v := ?_) (a' := ?_) #[true, true, true, true, true, true, true, true, true, true, true, true, true, true, true, true, false] rfl rfl (any_of HT_.out (by kernel_rfl)) (fun _ _ _ h => h) (Or.inl ⟨by rfl, ?_⟩) ?_ ?_
 rotate_left
 ·intro w'
  go_simp
  with_reducible rfl
 rotate_left
 ·simp only [Act.put, List.setIfInBounds_toArray, List.set_cons_zero, List.set_cons_succ, i64_w, i32_w]
  rfl
 refine pure_ (i := 16) (N := some 5) (v := ?_) (a' := ?_) #[true, true, true, true, true, true, true, true, true, true, true, true, true, true, true, true, true] rfl rfl (any_of HT_.out (by kernel_rfl)) (fun _ _ _ h => h) (Or.inl ⟨by rfl, ?_⟩) ?_ ?_
 rotate_left
 ·intro w'
  go_simp
  with_reducible rfl
 rotate_left
 ·simp only [Act.put, List.setIfInBounds_toArray, List.set_cons_zero, List.set_cons_succ, i64_w, i32_w]
  rfl
 refine done_ (done_of HT_.out (by kernel_rfl)) ?_
 try go_wp2
 refine bodyPost_ret (results_list (rs := [.cell 2 35, .tmp 3, .tmp 4, .tmp 5]) rfl (by simp) (.cell gb281 35 #[.int .i64 t285, .slice Ao14 t286.length co14] (0, 0) _ rfl (by (with_reducible repeat (first | refine blk_drewN ?_ _ | refine blk_drew ?_ | refine blk_alloc ?_ _)); refine blk_put (cs := #[.int .i64 t285, .slice none 0 0]) ?_ 1 _ rfl; (with_reducible repeat (first | refine blk_drewN ?_ _ | refine blk_drew ?_ | refine blk_alloc ?_ _)); refine blk_put (cs := #[.int .i64 0, .slice none 0 0]) ?_ 0 _ rfl; (with_reducible repeat (first | refine blk_drewN ?_ _ | refine blk_drew ?_ | refine blk_alloc ?_ _)); exact BK281.out) Try.underlying35 rfl (by kernel_rfl) (.tmp (.tmp (.tmp .nil))))) rfl ?_
 exact ⟨_, by first | rfl | (simp [errW_none, errW_some] <;> rfl) | (simp [*, errW_none, errW_some] <;> rfl), by (with_reducible repeat (first | apply Kd.R_alloc | apply Kd.R_drewN | apply Kd.R_drew)); exact Kd.R_mono (Kd.R_far (p := ⟨gb281, 1, none⟩) (Kd.R_far (p := ⟨gb281, 0, none⟩) (Kd.R_types HO288.out BK281.out (by decide)) (fun _ hk => hk.2) (.int .i64 t285)) (fun _ hk => hk.2) (.slice Ao14 t286.length co14)) (fun _ hk => trivial), bs3 HB ⟨IsS183.ge HI284.out⟩ GE281 GE290⟩

/-! ### impl_Root: function 31 -/
def impl_Root.f (k : Nat) (a0_0 : Int) (l0_1 : List (S51)) (a1 : Int) : Option (Int) := (impl_roots.f k a0_0 l0_1).bind fun bt298 => (if bt298.2 = true then ((impl_inside.f a1 0 (wrap64 (a0_0 - 1))).bind fun t302 => (if t302 = true then (if 0 ≤ a1 then (if a1 < (bt298.1.length : Int) then (some (rd bt298.1 a1)) else (none)) else (none)) else (some (-1)))) else (some (-1)))
set_option maxHeartbeats 8000000 in
set_option maxRecDepth 100000 in
theorem impl_Root.calls (k : Nat) (a0_0 : Int) (A0_1 : Option Addr) (c0_1 : Nat) (l0_1 : List (S51)) (a1 : Int) (r : Int) (w : World) (hr0_1 : Kd.C k51 w A0_1 l0_1.length l0_1) (hc0_1 : l0_1.length ≤ c0_1) (h : impl_Root.f k a0_0 l0_1 a1 = some r) :
  Calls Try.prog 31 #[.agg #[.int .i64 a0_0, .slice A0_1 l0_1.length c0_1], .int .i64 a1] w fun e w' => e = .returned (.int .i64 r) ∧ Below w.heap.size w w' := by
 have hu35 := Try.underlying35
 have HR0_1 := Aside0.mk hr0_1
 have HC0_1 := Aside0.mk hc0_1
 clear hr0_1 hc0_1
 have HB := Aside0.mk (Below.refl w.heap.size w)
 have H : ((impl_roots.f k a0_0 l0_1).bind fun bt298 => (if bt298.2 = true then ((impl_inside.f a1 0 (wrap64 (a0_0 - 1))).bind fun t302 => (if t302 = true then (if 0 ≤ a1 then (if a1 < (bt298.1.length : Int) then (some (rd bt298.1 a1)) else (none)) else (none)) else (some (-1)))) else (some (-1)))) = some r := h
 clear h
 replace H := Option.bind_eq_some_iff.mp H
 obtain ⟨⟨t298, t301⟩, A30, H⟩ := H
 replace H : (if t301 = true then ((impl_inside.f a1 0 (wrap64 (a0_0 - 1))).bind fun t302 => (if t302 = true then (if 0 ≤ a1 then (if a1 < (t298.length : Int) then (some (rd t298 a1)) else (none)) else (none)) else (some (-1)))) else (some (-1))) = some r := H
 have A3 := Aside0.mk A30
 clear A30
 by_cases c4 : t301 = true
 ·subst c4
  have H1 : ((impl_inside.f a1 0 (wrap64 (a0_0 - 1))).bind fun t302 => (if t302 = true then (if 0 ≤ a1 then (if a1 < (t298.length : Int) then (some (rd t298 a1)) else (none)) else (none)) else (some (-1)))) = some r := by rw [if_pos rfl] at H; exact H
  clear H
  have H := H1
  clear H1
  replace H := Option.bind_eq_some_iff.mp H
  obtain ⟨t302, A50, H⟩ := H
  replace H : (if t302 = true then (if 0 ≤ a1 then (if a1 < (t298.length : Int) then (some (rd t298 a1)) else (none)) else (none)) else (some (-1))) = some r := H
  have A5 := Aside0.mk A50
  clear A50
  by_cases c6 : t302 = true
  ·subst c6
   have H1 : (if 0 ≤ a1 then (if a1 < (t298.length : Int) then (some (rd t298 a1)) else (none)) else (none)) = some r := by rw [if_pos rfl] at H; exact H
   clear H
   have H := H1
   clear H1
   by_cases c7 : 0 ≤ a1
   ·rw [if_pos c7] at H
    have c7b0 : decide (0 ≤ a1) = true := decide_eq_true c7
    clear c7
    by_cases c8 : a1 < (t298.length : Int)
    ·rw [if_pos c8] at H
     have c8b0 : decide (a1 < (t298.length : Int)) = true := decide_eq_true c8
     clear c8
     obtain rfl := Option.some.inj H
     go_enter Try.func31, Try.ntmps31
     go_wp2_with (first | ((with_reducible refine gate_dst (N := 2) rfl ?_); refine box_event ?hg (N := 2) ?hd (cs := #[.int .i64 a0_0, .slice A0_1 l0_1.length c0_1]) (t := 35) ?hr ?_; (case hd => rfl); (case hg => rfl); (case hr => first | (go_simp; done) | (go_simp; rfl)); intro gb297 hg w9 hbox hb; have n0_ := Aside0.mk (below_step (bl HB) hb); have n1_ := Aside0.mk (hbox); have n2_ := Aside0.mk ((by rw [hg]; exact (below_size (bl HB)) : w.heap.size ≤ gb297)); have n3_ := Aside0.mk ((by rw [hg]; exact (below_size (bl HB)) : w.heap.size ≤ gb297)); clear HB; have HB := n0_; have BK297 := n1_; have GW297 := n2_; have GE297 := n3_; clear n0_ n1_ n2_ n3_; clear hb hbox hg; have hcz10_0 : w9.cell? ⟨gb297, 0, none⟩ = some (.int .i64 a0_0) := (blk_cell BK297.out 0).trans rfl; have hcz10_1 : w9.cell? ⟨gb297, 1, none⟩ = some (.slice A0_1 l0_1.length c0_1) := (blk_cell BK297.out 1).trans rfl; have hfz10_0 := blk_frozen BK297.out 0; have hfz10_1 := blk_frozen BK297.out 1) | ((with_reducible refine gate_callee (f := 86) rfl ?_); refine goesL_ (some 9) rfl rfl Try.func86 (by kernel_rfl) rfl #[.agg #[.int .i64 a0_0, .slice A0_1 l0_1.length c0_1]] rfl (by (try simp only [List.map_toArray, List.map_cons, List.map_nil]); first | done | rfl | (simp only [List.length_drop, List.length_take]; rfl)) ?_; (with_reducible refine (impl_roots.calls k a0_0 _ _ l0_1 t298 true _ ?side1 ?side2 A3.out).mono ?_); (case side1 => repeat (first | exact (Kd.C_below HR0_1.out HB.out) | (with_reducible refine Kd.C_alloc ?_ _) | (with_reducible refine Kd.C_drewN ?_ _) | (with_reducible refine Kd.C_drew ?_))); (case side2 => exact HC0_1.out); rintro e w11 ⟨v299, rfl, ho0, hb⟩; refine ⟨_, rfl, ?_⟩; have n0_ := Aside0.mk (Kd.R_lower ho0 (below_size (bs HB GE297))); have n1_ := Aside0.mk (blk_below (g := gb297) (o := .cells #[.int .i64 a0_0, .slice A0_1 l0_1.length c0_1] 35 (0, 0)) (bk BK297) hb); have n2_ := Aside0.mk (below_step (bs HB GE297) hb); clear BK297; clear HB; have HO300 := n0_; have BK297 := n1_; have HB := n2_; clear n0_ n1_ n2_; (try clear hb); (try clear hb2); (try clear hk); (try clear hi); (try clear ho0); have hcz12_0 : w11.cell? ⟨gb297, 0, none⟩ = some (.int .i64 a0_0) := (blk_cell BK297.out 0).trans rfl; have hcz12_1 : w11.cell? ⟨gb297, 1, none⟩ = some (.slice A0_1 l0_1.length c0_1) := (blk_cell BK297.out 1).trans rfl; have hfz12_0 := blk_frozen BK297.out 0; have hfz12_1 := blk_frozen BK297.out 1) | (go_at_call 79; (with_reducible refine (impl_inside.calls a1 0 (wrap64 (a0_0 - 1)) true _ A5.out).mono ?_); rintro e w' ⟨rfl, ⟨nd, rfl⟩⟩; obtain ⟨Ao13, co13, eo13⟩ := Kd.R_slice HO300.out; subst eo13; have p303 : 0 ≤ (a1 : Int) := ode; have q303 : a1 < (t298.length : Int) := ode; obtain ⟨ad303, e303, hx303_0⟩ := Kd.at_int (Kd.R_reads' HO300.out).2.2 a1 p303 q303; cases e303; replace p303 := eq_true p303; replace q303 := eq_true q303))
     go_ret
     exact ⟨by first | rfl | (simp [errW_none, errW_some] <;> rfl) | (simp [*, errW_none, errW_some] <;> rfl), bs HB GE297⟩
    ·rw [if_neg c8] at H
     exact absurd H (by simp)
   ·rw [if_neg c7] at H
    exact absurd H (by simp)
  ·replace c6 := Bool.eq_false_iff.mpr c6
   subst c6
   have H1 : (some (-1)) = some r := by rw [if_neg (show ¬ (false = true) by decide)] at H; exact H
   clear H
   have H := H1
   clear H1
   obtain rfl := Option.some.inj H
   go_enter Try.func31, Try.ntmps31
   go_wp2_with (first | ((with_reducible refine gate_dst (N := 2) rfl ?_); refine box_event ?hg (N := 2) ?hd (cs := #[.int .i64 a0_0, .slice A0_1 l0_1.length c0_1]) (t := 35) ?hr ?_; (case hd => rfl); (case hg => rfl); (case hr => first | (go_simp; done) | (go_simp; rfl)); intro gb297 hg w14 hbox hb; have n0_ := Aside0.mk (below_step (bl HB) hb); have n1_ := Aside0.mk (hbox); have n2_ := Aside0.mk ((by rw [hg]; exact (below_size (bl HB)) : w.heap.size ≤ gb297)); have n3_ := Aside0.mk ((by rw [hg]; exact (below_size (bl HB)) : w.heap.size ≤ gb297)); clear HB; have HB := n0_; have BK297 := n1_; have GW297 := n2_; have GE297 := n3_; clear n0_ n1_ n2_ n3_; clear hb hbox hg; have hcz15_0 : w14.cell? ⟨gb297, 0, none⟩ = some (.int .i64 a0_0) := (blk_cell BK297.out 0).trans rfl; have hcz15_1 : w14.cell? ⟨gb297, 1, none⟩ = some (.slice A0_1 l0_1.length c0_1) := (blk_cell BK297.out 1).trans rfl; have hfz15_0 := blk_frozen BK297.out 0; have hfz15_1 := blk_frozen BK297.out 1) | ((with_reducible refine gate_callee (f := 86) rfl ?_); refine goesL_ (some 9) rfl rfl Try.func86 (by kernel_rfl) rfl #[.agg #[.int .i64 a0_0, .slice A0_1 l0_1.length c0_1]] rfl (by (try simp only [List.map_toArray, List.map_cons, List.map_nil]); first | done | rfl | (simp only [List.length_drop, List.length_take]; rfl)) ?_; (with_reducible refine (impl_roots.calls k a0_0 _ _ l0_1 t298 true _ ?side1 ?side2 A3.out).mono ?_); (case side1 => repeat (first | exact (Kd.C_below HR0_1.out HB.out) | (with_reducible refine Kd.C_alloc ?_ _) | (with_reducible refine Kd.C_drewN ?_ _) | (with_reducible refine Kd.C_drew ?_))); (case side2 => exact HC0_1.out); rintro e w16 ⟨v299, rfl, ho0, hb⟩; refine ⟨_, rfl, ?_⟩; have n0_ := Aside0.mk (Kd.R_lower ho0 (below_size (bs HB GE297))); have n1_ := Aside0.mk (blk_below (g := gb297) (o := .cells #[.int .i64 a0_0, .slice A0_1 l0_1.length c0_1] 35 (0, 0)) (bk BK297) hb); have n2_ := Aside0.mk (below_step (bs HB GE297) hb); clear BK297; clear HB; have HO300 := n0_; have BK297 := n1_; have HB := n2_; clear n0_ n1_ n2_; (try clear hb); (try clear hb2); (try clear hk); (try clear hi); (try clear ho0); have hcz17_0 : w16.cell? ⟨gb297, 0, none⟩ = some (.int .i64 a0_0) := (blk_cell BK297.out 0).trans rfl; have hcz17_1 : w16.cell? ⟨gb297, 1, none⟩ = some (.slice A0_1 l0_1.length c0_1) := (blk_cell BK297.out 1).trans rfl; have hfz17_0 := blk_frozen BK297.out 0; have hfz17_1 := blk_frozen BK297.out 1) | (go_at_call 79; (with_reducible refine (impl_inside.calls a1 0 (wrap64 (a0_0 - 1)) false _ A5.out).mono ?_); rintro e w' ⟨rfl, ⟨nd, rfl⟩⟩))
   go_ret
   exact ⟨by first | rfl | (simp [errW_none, errW_some] <;> rfl) | (simp [*, errW_none, errW_some] <;> rfl), bs HB GE297⟩
 ·replace c4 := Bool.eq_false_iff.mpr c4
  subst c4
  have H1 : (some (-1)) = some r := by rw [if_neg (show ¬ (false = true) by decide)] at H; exact H
  clear H
  have H := H1
  clear H1
  obtain rfl := Option.some.inj H
  go_enter Try.func31, Try.ntmps31
  go_wp2_with (first | ((with_reducible refine gate_dst (N := 2) rfl ?_); refine box_event ?hg (N := 2) ?hd (cs := #[.int .i64 a0_0, .slice A0_1 l0_1.length c0_1]) (t := 35) ?hr ?_; (case hd => rfl); (case hg => rfl); (case hr => first | (go_simp; done) | (go_simp; rfl)); intro gb297 hg w18 hbox hb; have n0_ := Aside0.mk (below_step (bl HB) hb); have n1_ := Aside0.mk (hbox); have n2_ := Aside0.mk ((by rw [hg]; exact (below_size (bl HB)) : w.heap.size ≤ gb297)); have n3_ := Aside0.mk ((by rw [hg]; exact (below_size (bl HB)) : w.heap.size ≤ gb297)); clear HB; have HB := n0_; have BK297 := n1_; have GW297 := n2_; have GE297 := n3_; clear n0_ n1_ n2_ n3_; clear hb hbox hg; have hcz19_0 : w18.cell? ⟨gb297, 0, none⟩ = some (.int .i64 a0_0) := (blk_cell BK297.out 0).trans rfl; have hcz19_1 : w18.cell? ⟨gb297, 1, none⟩ = some (.slice A0_1 l0_1.length c0_1) := (blk_cell BK297.out 1).trans rfl; have hfz19_0 := blk_frozen BK297.out 0; have hfz19_1 := blk_frozen BK297.out 1) | ((with_reducible refine gate_callee (f := 86) rfl ?_); refine goesL_ (some 9) rfl rfl Try.func86 (by kernel_rfl) rfl #[.agg #[.int .i64 a0_0, .slice A0_1 l0_1.length c0_1]] rfl (by (try simp only [List.map_toArray, List.map_cons, List.map_nil]); first | done | rfl | (simp only [List.length_drop, List.length_take]; rfl)) ?_; (with_reducible refine (impl_roots.calls k a0_0 _ _ l0_1 t298 false _ ?side1 ?side2 A3.out).mono ?_); (case side1 => repeat (first | exact (Kd.C_below HR0_1.out HB.out) | (with_reducible refine Kd.C_alloc ?_ _) | (with_reducible refine Kd.C_drewN ?_ _) | (with_reducible refine Kd.C_drew ?_))); (case side2 => exact HC0_1.out); rintro e w20 ⟨v299, rfl, ho0, hb⟩; refine ⟨_, rfl, ?_⟩; have n0_ := Aside0.mk (Kd.R_lower ho0 (below_size (bs HB GE297))); have n1_ := Aside0.mk (blk_below (g := gb297) (o := .cells #[.int .i64 a0_0, .slice A0_1 l0_1.length c0_1] 35 (0, 0)) (bk BK297) hb); have n2_ := Aside0.mk (below_step (bs HB GE297) hb); clear BK297; clear HB; have HO300 := n0_; have BK297 := n1_; have HB := n2_; clear n0_ n1_ n2_; (try clear hb); (try clear hb2); (try clear hk); (try clear hi); (try clear ho0)))
  go_ret
  exact ⟨by first | rfl | (simp [errW_none, errW_some] <;> rfl) | (simp [*, errW_none, errW_some] <;> rfl), bs HB GE297⟩

-- NOT PRINTED: function 139 (slices_IndexFunc_int64_int64)

-- NOT PRINTED: function 91 (slices_DeleteFunc_int64_int64)

/-! ### impl_GroupsOf: function 33 -/

def impl_GroupsOf.g (s : List (List Int)) (r : Int) : List Int := s.getD r.toNat []
def impl_GroupsOf.l0 : Nat → List (List Int) → List Int → Int → Option (List (List Int))
 | 0, _, _, _ => none
 | k + 1, s, least, i => if i < (least.length : Int) then (if 0 ≤ i then (if 0 ≤ rd least i then (if rd least i < (s.length : Int) then (if (impl_GroupsOf.g s (rd least i)).length < 17592186044416 then impl_GroupsOf.l0 k (s.set (rd least i).toNat (impl_GroupsOf.g s (rd least i) ++ [i])) least (wrap64 (i + 1)) else none) else none) else none) else none) else some s
def impl_GroupsOf.f (k : Nat) (a0_0 : Int) (l0_1 : List (S51)) : Option ((List (List Int))) := (impl_roots.f k a0_0 l0_1).bind fun t => if t.2 = true then (if 0 ≤ a0_0 then (if a0_0.toNat ≤ 5864062014805 then ((impl_GroupsOf.l0 k (List.replicate a0_0.toNat []) t.1 0).bind fun s => some (s.filter fun x => decide (2 ≤ x.length))) else none) else none) else some []
/-- The first row that is to go, counted from i; -1: none. -/
def impl_GroupsOf.ix : List (List Int) → Int → Int
 | [], _ => -1
 | x :: xs, i => if decide ((x.length : Int) < 2) = true then i else impl_GroupsOf.ix xs (i + 1)
theorem impl_GroupsOf.ix_drop (l : List (List Int)) (k : Nat) (h : k < l.length) : impl_GroupsOf.ix (l.drop k) k = if decide (((l.getD k []).length : Int) < 2) = true then (k : Int) else impl_GroupsOf.ix (l.drop (k + 1)) ((k + 1 : Nat) : Int) := by
 rw [List.drop_eq_getElem_cons h]
 have e : l.getD k [] = l[k] := by rw [List.getD_eq_getElem?_getD, List.getElem?_eq_getElem h]; rfl
 rw [e]
 simp only [impl_GroupsOf.ix]
 norm_cast
theorem impl_GroupsOf.ix_cases : ∀ (l : List (List Int)) (i : Nat), (impl_GroupsOf.ix l i = -1 ∧ l.filter (fun x => decide (2 ≤ x.length)) = l) ∨ (∃ j : Nat, j < l.length ∧ impl_GroupsOf.ix l i = ((i + j : Nat) : Int) ∧ (l.take j).filter (fun x => decide (2 ≤ x.length)) = l.take j ∧ (l.getD j []).length < 2)
 | [], i => .inl ⟨rfl, rfl⟩
 | x :: xs, i => by
  simp only [impl_GroupsOf.ix]
  by_cases c : (x.length : Int) < 2
  ·rw [if_pos (decide_eq_true c)]
   exact .inr ⟨0, by simp, rfl, rfl, by simpa using (by omega : x.length < 2)⟩
  ·rw [if_neg (by simpa using c)]
   have hp : decide (2 ≤ x.length) = true := decide_eq_true (by omega)
   have hcast : ((i : Int) + 1) = ((i + 1 : Nat) : Int) := rfl
   rw [hcast]
   rcases impl_GroupsOf.ix_cases xs (i + 1) with ⟨h1, h2⟩ | ⟨j, h1, h2, h3, h4⟩
   ·exact .inl ⟨h1, by rw [List.filter_cons]; simp only [hp, if_true, h2]⟩
   ·exact .inr ⟨j + 1, by simp; omega, by rw [h2]; omega, by rw [List.take_succ_cons, List.filter_cons]; simp only [hp, if_true, h3], by simpa using h4⟩

set_option maxHeartbeats 2000000 in
set_option maxRecDepth 100000 in
theorem impl_GroupsOf.clo (A : Option Addr) (n c : Nat) (w : World) : Calls Try.prog 92 #[.slice A n c] w fun e w' => e = .returned (.bool (decide ((n : Int) < 2))) ∧ Below w.heap.size w w' := by
 go_enter Try.func92, Try.ntmps92
 go_wp2
 go_ret
 exact ⟨by first | rfl | (simp; done), by repeat (first | exact Below.refl _ _ | apply pw_below_drewN)⟩
theorem impl_GroupsOf.enters : ∀ (args : Array Value) (w : World), (callFunc 92 args).run Try.prog w = .ok (.enter 92 args) w := enters_of Try.func92 (by kernel_rfl) rfl
theorem impl_GroupsOf.elemC {w : World} {A0 : Option Addr} {l0 : List (List Int)} (h : Kd.C (Kd.slice 2 (Kd.int .i64)) w A0 l0.length l0) (k : Nat) (hk : k < l0.length) : ∃ ad A c, A0 = some ad ∧ w.cell? (ad.add k) = some (.slice A (l0.getD k []).length c) := by
 obtain ⟨ad, cs, e, _, ⟨A, c, rfl, _, _⟩, hc⟩ := Kd.C_get h ([] : List Int) (k : Int) (by omega) (by omega)
 have h0 := hc 0 _ rfl
 have e2 : (k : Int).toNat * (Kd.slice 2 (Kd.int .i64)).sz + 0 = k := by show (k : Int).toNat * 1 + 0 = k; omega
 rw [e2] at h0
 rw [Int.toNat_natCast] at h0
 exact ⟨ad, A, c, e, h0⟩
set_option maxHeartbeats 2000000 in
set_option maxRecDepth 100000 in
theorem impl_GroupsOf.idx (A0 : Option Addr) (c0 : Nat) (l0 : List (List Int)) (w : World) (hr0 : Kd.C (Kd.slice 2 (Kd.int .i64)) w A0 l0.length l0) :
  Calls Try.prog 139 #[.slice A0 l0.length c0, .func (.func 92) #[] #[]] w fun e w' => e = .returned (.int .i64 (impl_GroupsOf.ix l0 0)) ∧ Below w.heap.size w w' := by
 have hmax := Kd.C_max hr0
 have HR0 := Aside0.mk hr0
 clear hr0
 have eg := impl_GroupsOf.enters
 go_enter Try.func139, Try.ntmps139
 go_wp2
 go_loopg [5, 8] l0.length (fun gg _ s8 wr => ∃ kk : Nat, kk ≤ l0.length ∧ l0.length - kk ≤ gg ∧ s8 = .int .i64 kk ∧ Aside0 (Below w.heap.size w wr) ∧ Aside0 (impl_GroupsOf.ix (l0.drop kk) kk = impl_GroupsOf.ix l0 0))
 case atStart => exact ⟨0, Nat.zero_le _, by omega, rfl, ⟨by repeat (first | exact Below.refl _ w | apply pw_below_drewN)⟩, ⟨rfl⟩⟩
 case round =>
  obtain ⟨kk, hkk, hg, rfl, HB, HE⟩ := hrel
  by_cases hlt2 : kk < l0.length
  ·have hltz : (kk : Int) < (l0.length : Int) := by omega
   obtain ⟨ad, A1, c1, e0, hx0⟩ := impl_GroupsOf.elemC HR0.out kk hlt2
   cases e0
   replace hx0 := (HB.out.cell (World.block_lt_of_cell? w _ hx0)).trans hx0
   have hd := impl_GroupsOf.ix_drop l0 kk hlt2
   have HD := Aside0.mk (hd.symm.trans HE.out)
   clear hd
   obtain ⟨ys, hys⟩ : ∃ ys, ys = l0.getD kk [] := ⟨_, rfl⟩
   rw [← hys] at hx0 HD
   clear hys
   have hcall := impl_GroupsOf.clo A1 ys.length c1 wr
   cases hq : decide ((ys.length : Int) < 2) with
   | true =>
    rw [hq] at hcall HD
    have HQ := Aside0.mk hq
    clear hq
    go_wp2_with (go_at_fn 92; refine hcall.mono ?_; rintro e w' ⟨rfl, hb'⟩)
    go_ret
    exact ⟨by rw [← HD.out]; rfl, below_step HB.out hb'⟩
   | false =>
    rw [hq] at hcall HD
    have HQ := Aside0.mk hq
    clear hq
    go_wp2_with (go_at_fn 92; refine hcall.mono ?_; rintro e w' ⟨rfl, hb'⟩)
    go_roundg (l0.length - (kk + 1))
    case measure => omega
    case rel => exact ⟨kk + 1, by omega, by omega, by go_num, ⟨below_step HB.out hb'⟩, ⟨by rw [← HD.out]; rfl⟩⟩
  ·have hltz : ¬ (kk : Int) < (l0.length : Int) := by omega
   have : kk = l0.length := by omega
   subst this
   go_wp2
   go_ret
   exact ⟨by rw [← HE.out, List.drop_length]; rfl, by repeat (first | exact HB.out | apply pw_below_drewN)⟩
theorem impl_GroupsOf.cutL (W : World) (g n c i : Nat) (hi : i < n) (hn : n ≤ c) : (Instr.slice 52 (.slice (some ⟨g, 0, none⟩) n c) (some (.int .i64 (i : Int))) none none).run Try.prog W = .ok (.slice (some ⟨g, i, none⟩) (n - i) (c - i)) W := by
 obtain ⟨i0, hi0, hz⟩ := Option.map_eq_some_iff.1 info55
 have hel : Try.prog.elem 52 = 55 := by simp [Program.elem, Try.underlying52]
 have hu : Try.prog.underlying 52 = some (.slice (Try.prog.elem 52)) := by rw [hel]; exact Try.underlying52
 have hs : i0.size = 1 := by simp only [Prod.mk.injEq] at hz; exact hz.2.1
 rw [run_slice_l W 52 _ n c hu .i64 (i : Int) (Int.natCast_nonneg _) (by omega), hel]
 simp [sizeOf, typeInfo, hi0, hs, sliced, Result.andThen, add_plain, show c ≠ i from by omega]
theorem impl_GroupsOf.cutH (W : World) (A : Option Addr) (n c i : Nat) (hi : i ≤ c) : (Instr.slice 52 (.slice A n c) none (some (.int .i64 (i : Int))) none).run Try.prog W = .ok (.slice A i c) W := by
 obtain ⟨i0, hi0, hz⟩ := Option.map_eq_some_iff.1 info55
 have hel : Try.prog.elem 52 = 55 := by simp [Program.elem, Try.underlying52]
 have hu : Try.prog.underlying 52 = some (.slice (Try.prog.elem 52)) := by rw [hel]; exact Try.underlying52
 have hs : i0.size = 1 := by simp only [Prod.mk.injEq] at hz; exact hz.2.1
 have ha : (A.map fun x => x.add 0) = A := by cases A <;> simp [Addr.add]
 rw [run_slice_h W 52 A n c hu .i64 (i : Int) (Int.natCast_nonneg _) (by omega), hel]
 simp [sizeOf, typeInfo, hi0, hs, sliced, Result.andThen, ha]
theorem impl_GroupsOf.zeroL (w : World) : (zeroValue 55).run Try.prog w = .ok (.slice none 0 0) w := by kernel_rfl
/-- Rows with tags of their own each: each leads to memory of its own. -/
theorem impl_GroupsOf.untag {f : Nat → Nat} {e : Nat} {w : World} {base : Nat} {ok : Nat → Prop} {v : Value} {zs : List (List Int × Nat)} (h : (Kd.tag f (Kd.slice 2 (Kd.int .i64))).R e w base ok v zs) (hn : (zs.map Prod.snd).Nodup) : Kd.S (Kd.slice 2 (Kd.int .i64)) e w base ok v (zs.map Prod.fst) := by
 refine ⟨fun k => (zs.map Prod.snd).idxOf (f k), ?_⟩
 obtain ⟨h0, inner, ho, hr⟩ := h
 refine ⟨h0, inner, by rw [List.length_zipIdx, List.length_map]; exact ho, by rw [List.length_zipIdx, List.length_map]; exact hr.1, fun j p hp => ?_⟩
 rw [List.getElem?_zipIdx, Nat.zero_add] at hp
 obtain ⟨x, hx, rfl⟩ := Option.map_eq_some_iff.1 hp
 rw [List.getElem?_map] at hx
 obtain ⟨z, hz, rfl⟩ := Option.map_eq_some_iff.1 hx
 have hM := hr.2 j z hz
 refine (Kd.slice 2 (Kd.int .i64)).M_mono (fun k hk => ⟨hk.1, ?_⟩) hM
 have hjl : j < zs.length := (List.getElem?_eq_some_iff.1 hz).1
 have e1 : f k = (zs.map Prod.snd)[j]'(by rw [List.length_map]; exact hjl) := by
  rw [List.getElem_map]
  have := (List.getElem?_eq_some_iff.1 hz).2
  rw [this]
  exact hk.2
 show List.idxOf (f k) (zs.map Prod.snd) = j
 rw [e1]
 exact hn.idxOf_getElem j (by rw [List.length_map]; exact hjl)
/-- The rows behind a place are cleared. -/
theorem impl_GroupsOf.wipe {f : Nat → Nat} {w0 : World} {ok : Nat → Prop} {g n cap : Nat} : ∀ (m i : Nat) (W : World) (zs : List (List Int × Nat)), (Kd.tag f (Kd.slice 2 (Kd.int .i64))).R 55 W w0.heap.size ok (.slice (some ⟨g, 0, none⟩) n cap) zs → i + m ≤ n →
  ∃ zs', (Kd.tag f (Kd.slice 2 (Kd.int .i64))).R 55 (W.setCells g i (List.replicate m (.slice none 0 0))) w0.heap.size ok (.slice (some ⟨g, 0, none⟩) n cap) zs' ∧ zs'.take i = zs.take i ∧ W.grownBy (W.setCells g i (List.replicate m (.slice none 0 0))) (some g)
 | 0, i, W, zs, h, hi => ⟨zs, h, rfl, World.grownBy.refl _ _⟩
 | m + 1, i, W, zs, h, hi => by
  have hn : n = zs.length := (Kd.R_reads' h).1
  obtain ⟨c, hcl, hM, hcc, hfr⟩ := Kd.R_elem h (([] : List Int), 0) (i : Int) (by omega) (by omega)
  have hc1 : c.length = 1 := hcl
  obtain ⟨r1, r2⟩ := Kd.R_seg h (i : Int) (by omega) (by omega) (c := c) (seg := [.slice none 0 0]) (j := 0) hcl hcc (show 0 + 1 ≤ 1 from by decide) (x' := (([] : List Int), 0)) (okp := fun _ => False) (by
   rw [List.drop_eq_nil_of_le (by simp; omega)]
   exact ⟨_, rfl, Kd.R_nil _ _ _ _ _⟩) (fun _ hk => hk.elim)
  have e2 : (i : Int).toNat * (Kd.tag f (Kd.slice 2 (Kd.int .i64))).sz + 0 = i := by show (i : Int).toNat * 1 + 0 = i; omega
  rw [e2] at r1 r2
  obtain ⟨zs', q1, q2, q3⟩ := impl_GroupsOf.wipe m (i + 1) _ _ r1 (by omega)
  refine ⟨zs', q1, ?_, r2.trans q3⟩
  have q4 := congrArg (List.take i) q2
  rw [List.take_take, List.take_take, Nat.min_eq_left (by omega)] at q4
  rw [q4, List.take_set_of_le (by omega)]
theorem impl_GroupsOf.abs {P : Program} {ops : Array Oper} {rest : List Oper} {a : Act} {Q : Exit → Act → World → Prop} {W : World} (h : ∀ W', W' = W → wpList P ops Q rest a W') : wpList P ops Q rest a W := h W rfl
theorem impl_GroupsOf.zip_at (xs : List (List Int)) (j : Nat) (h : j < xs.length) : xs.zipIdx[j]? = some (xs.getD j [], j) := by
 rw [List.getElem?_zipIdx, List.getElem?_eq_getElem h, Nat.zero_add, List.getD_eq_getElem?_getD, List.getElem?_eq_getElem h]
 rfl
theorem impl_GroupsOf.zip_keep (xs : List (List Int)) (i : Nat) (h : (xs.take i).filter (fun x => decide (2 ≤ x.length)) = xs.take i) : (xs.zipIdx.take i).filter (fun z : List Int × Nat => decide (2 ≤ z.1.length)) = xs.zipIdx.take i := by
 rw [List.filter_eq_self] at h ⊢
 intro z hz
 have h1 : z.1 ∈ (xs.zipIdx.take i).map Prod.fst := List.mem_map_of_mem hz
 rw [List.map_take, List.zipIdx_map_fst] at h1
 exact h z.1 h1
theorem impl_GroupsOf.tagged {f : Nat → Nat} {w : World} {base : Nat} {ok : Nat → Prop} {g n cap : Nat} {zs : List (List Int × Nat)} (h : (Kd.tag f (Kd.slice 2 (Kd.int .i64))).R 55 w base ok (.slice (some ⟨g, 0, none⟩) n cap) zs) (j : Nat) (hj : j < n) (ys : List Int) (t : Nat) (hz : zs.getD j ([], 0) = (ys, t)) :
  ∃ A c, w.cell? ⟨g, j, none⟩ = some (.slice A ys.length c) ∧ w.frozen? ⟨g, j, none⟩ = false ∧ (Kd.int .i64).R 2 w base (fun k => (ok k ∧ k ≠ g) ∧ f k = t) (.slice A ys.length c) ys := by
 obtain ⟨c, hcl, hM, hcc, hfr⟩ := Kd.R_elem h (([] : List Int), 0) (j : Int) (by omega) (by omega)
 rw [Int.toNat_natCast, hz] at hM
 obtain ⟨v, rfl, hR⟩ := hM
 obtain ⟨A, c, rfl⟩ := Kd.R_slice hR
 have h1 := hcc 0 _ rfl
 have h2 := hfr 0
 have e2 : (j : Int).toNat * (Kd.tag f (Kd.slice 2 (Kd.int .i64))).sz + 0 = j := by show (j : Int).toNat * 1 + 0 = j; omega
 rw [e2] at h1 h2
 exact ⟨A, c, h1, h2, hR⟩
theorem impl_GroupsOf.moved {f : Nat → Nat} {w : World} {base : Nat} {ok : Nat → Prop} {g n cap : Nat} {zs : List (List Int × Nat)} (h : (Kd.tag f (Kd.slice 2 (Kd.int .i64))).R 55 w base ok (.slice (some ⟨g, 0, none⟩) n cap) zs) (i : Nat) (hi : i < n) (ys : List Int) (t : Nat) (A : Option Addr) (c : Nat) (hR : (Kd.int .i64).R 2 w base (fun k => (ok k ∧ k ≠ g) ∧ f k = t) (.slice A ys.length c) ys) :
  (Kd.tag f (Kd.slice 2 (Kd.int .i64))).R 55 (w.setCell ⟨g, i, none⟩ (.slice A ys.length c)) base ok (.slice (some ⟨g, 0, none⟩) n cap) (zs.set i (ys, t)) ∧ w.grownBy (w.setCell ⟨g, i, none⟩ (.slice A ys.length c)) (some g) := by
 obtain ⟨ci, hcl, hM, hcc, hfr⟩ := Kd.R_elem h (([] : List Int), 0) (i : Int) (by omega) (by omega)
 have hc1 : ci.length = 1 := hcl
 obtain ⟨r1, r2⟩ := Kd.R_seg h (i : Int) (by omega) (by omega) (c := ci) (seg := [.slice A ys.length c]) (j := 0) hcl hcc (show 0 + 1 ≤ 1 from by decide) (x' := (ys, t)) (okp := fun k => ok k ∧ k ≠ g) (by
  rw [List.drop_eq_nil_of_le (by simp; omega)]
  exact ⟨_, rfl, hR⟩) (fun _ hk => hk)
 have e2 : (i : Int).toNat * (Kd.tag f (Kd.slice 2 (Kd.int .i64))).sz + 0 = i := by show (i : Int).toNat * 1 + 0 = i; omega
 rw [e2] at r1 r2
 rw [Int.toNat_natCast] at r1
 exact ⟨r1, r2⟩
theorem impl_GroupsOf.get_drop {zs Z : List (List Int × Nat)} {j : Nat} (h : zs.drop j = Z.drop j) (z : List Int × Nat) : zs.getD j z = Z.getD j z := by
 have e : ∀ l : List (List Int × Nat), l.getD j z = (l.drop j).getD 0 z := fun l => by
  rw [List.getD_eq_getElem?_getD, List.getD_eq_getElem?_getD, List.getElem?_drop, Nat.add_zero]
 rw [e, e, h]
theorem impl_GroupsOf.skip {n : Nat} {zs Z : List (List Int × Nat)} {i j : Nat} {ys : List Int} {t : Nat} (hz : Z[j]? = some (ys, t)) (hp : decide (2 ≤ ys.length) = false) (h : zs.length = n ∧ zs.take i = (Z.take j).filter (fun z : List Int × Nat => decide (2 ≤ z.1.length)) ∧ zs.drop j = Z.drop j) :
  zs.length = n ∧ zs.take i = (Z.take (j + 1)).filter (fun z : List Int × Nat => decide (2 ≤ z.1.length)) ∧ zs.drop (j + 1) = Z.drop (j + 1) := by
 refine ⟨h.1, ?_, ?_⟩
 ·rw [List.take_add_one, hz, List.filter_append, ← h.2.1]
  simp only [Option.toList_some, List.filter_cons, hp, Bool.false_eq_true, if_false, List.filter_nil, List.append_nil]
 ·rw [← List.drop_drop, ← List.drop_drop, h.2.2]
theorem impl_GroupsOf.keep {n : Nat} {zs Z : List (List Int × Nat)} {i j : Nat} {ys : List Int} {t : Nat} (hz : Z[j]? = some (ys, t)) (hp : decide (2 ≤ ys.length) = true) (hij : i < j) (hj : j ≤ n) (h : zs.length = n ∧ zs.take i = (Z.take j).filter (fun z : List Int × Nat => decide (2 ≤ z.1.length)) ∧ zs.drop j = Z.drop j) :
  (zs.set i (ys, t)).length = n ∧ (zs.set i (ys, t)).take (i + 1) = (Z.take (j + 1)).filter (fun z : List Int × Nat => decide (2 ≤ z.1.length)) ∧ (zs.set i (ys, t)).drop (j + 1) = Z.drop (j + 1) := by
 refine ⟨by rw [List.length_set]; exact h.1, ?_, ?_⟩
 ·rw [List.take_add_one, List.take_set_of_le (Nat.le_refl _), List.getElem?_set_self (by omega), List.take_add_one (l := Z), hz, List.filter_append, ← h.2.1]
  simp only [Option.toList_some, List.filter_cons, hp, if_true, List.filter_nil]
 ·rw [List.drop_set_of_lt (by omega), ← List.drop_drop, ← List.drop_drop, h.2.2]
set_option maxHeartbeats 4000000 in
set_option maxRecDepth 100000 in
theorem impl_GroupsOf.del (w0 : World) (f : Nat → Nat) (ok : Nat → Prop) (g cap : Nat) (xs : List (List Int)) (w : World) (hB : Below w0.heap.size w0 w) (hR : (Kd.tag f (Kd.slice 2 (Kd.int .i64))).R 55 w w0.heap.size ok (.slice (some ⟨g, 0, none⟩) xs.length cap) xs.zipIdx) :
  Calls Try.prog 91 #[.slice (some ⟨g, 0, none⟩) xs.length cap, .func (.func 92) #[] #[]] w fun e w' => ∃ v', e = .returned v' ∧ Kd.S (Kd.slice 2 (Kd.int .i64)) 55 w' w0.heap.size ok v' (xs.filter fun x => decide (2 ≤ x.length)) ∧ Below w0.heap.size w0 w' := by
 have hS : Kd.S (Kd.slice 2 (Kd.int .i64)) 55 w w0.heap.size ok (.slice (some ⟨g, 0, none⟩) xs.length cap) xs := ⟨f, hR⟩
 have hC := (Kd.S_reads' hS).2
 have hcap := hC.1
 have hmax := Kd.C_max hC.2
 have hgl : w0.heap.size ≤ g := Kd.S_base hS g (by simp [Value.ownBlock])
 have hidx := impl_GroupsOf.idx _ cap xs w hC.2
 have HR := Aside0.mk hR
 have HB := Aside0.mk hB
 clear hR hB hC hS
 have eg := impl_GroupsOf.enters
 rcases impl_GroupsOf.ix_cases xs 0 with ⟨hi, hf⟩ | ⟨i0, hi1, hi, hf, hlt⟩
 ·have hi' : impl_GroupsOf.ix xs 0 = -1 := hi
  rw [hi'] at hidx
  clear hi hi'
  have HF := Aside0.mk hf
  clear hf
  go_enter Try.func91, Try.ntmps91
  go_wp2_with (first | ((with_reducible refine gate_dst (N := 10) rfl ?_); refine goesL_ (some 10) rfl rfl Try.func139 (by kernel_rfl) rfl #[.slice (some ⟨g, 0, none⟩) xs.length cap, .func (.func 92) #[] #[]] rfl (by (try simp only [List.map_toArray, List.map_cons, List.map_nil]); first | done | rfl) ?_; refine hidx.mono ?_; rintro e w1 ⟨rfl, hb⟩; refine ⟨_, rfl, ?_⟩))
  go_ret
  exact ⟨_, rfl, by rw [HF.out]; exact ⟨f, by repeat (first | exact Kd.R_below HR.out hb | apply Kd.R_drewN)⟩, by repeat (first | exact below_step HB.out hb | apply pw_below_drewN)⟩
 ·rw [Nat.zero_add] at hi
  have hi' : impl_GroupsOf.ix xs 0 = (i0 : Int) := hi
  rw [hi'] at hidx
  clear hi hi'
  have hne1 : ((i0 : Int) == -1) = false := beq_eq_false_iff_ne.2 (by omega)
  have hne2 : decide ((i0 : Int) = -1) = false := decide_eq_false (by omega)
  obtain ⟨Z, hZ⟩ : ∃ Z, Z = xs.zipIdx := ⟨_, rfl⟩
  have hZl : Z.length = xs.length := by rw [hZ, List.length_zipIdx]
  have HZj := Aside0.mk (fun j (h : j < xs.length) => hZ ▸ impl_GroupsOf.zip_at xs j h : ∀ j, j < xs.length → Z[j]? = some (xs.getD j [], j))
  have HZ0 : Aside0 ((Z.take (i0 + 1)).filter (fun z : List Int × Nat => decide (2 ≤ z.1.length)) = Z.take i0) := ⟨by
   rw [List.take_add_one, HZj.out i0 hi1, List.filter_append, hZ, impl_GroupsOf.zip_keep xs i0 hf]
   have : decide (2 ≤ (xs.getD i0 []).length) = false := decide_eq_false (by omega)
   simp only [Option.toList_some, List.filter_cons, this, Bool.false_eq_true, if_false, List.filter_nil, List.append_nil]⟩
  have HZE : Aside0 ((Z.filter (fun z : List Int × Nat => decide (2 ≤ z.1.length))).map Prod.fst = xs.filter (fun x => decide (2 ≤ x.length)) ∧ ((Z.filter (fun z : List Int × Nat => decide (2 ≤ z.1.length))).map Prod.snd).Nodup) := ⟨by
   constructor
   ·have h1 := (List.filter_map (f := Prod.fst) (p := fun x : List Int => decide (2 ≤ x.length)) (l := Z)).symm
    rw [hZ, List.zipIdx_map_fst] at h1
    rw [hZ]
    exact h1
   ·have h2 : (Z.map Prod.snd).Nodup := by rw [hZ, List.zipIdx_map_snd]; exact List.nodup_range'
    exact h2.sublist (List.Sublist.map _ List.filter_sublist)⟩
  rw [← hZ] at HR
  clear hZ hf hlt
  have kcl := impl_GroupsOf.cutL
  have kch := impl_GroupsOf.cutH
  go_enter Try.func91, Try.ntmps91
  go_wp2_with (first | ((with_reducible refine gate_dst (N := 10) rfl ?_); refine goesL_ (some 10) rfl rfl Try.func139 (by kernel_rfl) rfl #[.slice (some ⟨g, 0, none⟩) xs.length cap, .func (.func 92) #[] #[]] rfl (by (try simp only [List.map_toArray, List.map_cons, List.map_nil]); first | done | rfl) ?_; refine hidx.mono ?_; rintro e w1 ⟨rfl, hb⟩; refine ⟨_, rfl, ?_⟩))
  go_loopg [5, 6] xs.length (fun gg s5 s6 wr => ∃ (i j : Nat) (zs : List (List Int × Nat)), s5 = .int .i64 i ∧ s6 = .int .i64 j ∧ i < j ∧ j ≤ xs.length ∧ xs.length - j ≤ gg ∧ Aside0 (zs.length = xs.length ∧ zs.take i = (Z.take j).filter (fun z : List Int × Nat => decide (2 ≤ z.1.length)) ∧ zs.drop j = Z.drop j) ∧ Aside0 ((Kd.tag f (Kd.slice 2 (Kd.int .i64))).R 55 wr w0.heap.size ok (.slice (some ⟨g, 0, none⟩) xs.length cap) zs) ∧ Aside0 (Below w0.heap.size w0 wr))
  case atStart => exact ⟨i0, i0 + 1, Z, by first | rfl | go_num, by go_num, by omega, by omega, by omega, ⟨hZl, HZ0.out.symm, rfl⟩, ⟨by repeat (first | exact Kd.R_below HR.out hb | apply Kd.R_drewN)⟩, ⟨by repeat (first | exact below_step HB.out hb | apply pw_below_drewN)⟩⟩
  case round =>
   clear hidx HR HB hb hne1 hne2 HZ0
   obtain ⟨i, j, zs, rfl, rfl, hij, hjx, hg, HI, HR, HB⟩ := hrel
   by_cases hlt2 : j < xs.length
   ·have hltz : (j : Int) < (xs.length : Int) := by omega
    have hiz : (i : Int) < (xs.length : Int) := by omega
    obtain ⟨ys, hys⟩ : ∃ ys, ys = xs.getD j [] := ⟨_, rfl⟩
    have HZ := Aside0.mk (HZj.out j hlt2)
    have hzd : zs.getD j ([], 0) = (xs.getD j [], j) := by rw [impl_GroupsOf.get_drop HI.out.2.2, List.getD_eq_getElem?_getD, HZ.out]; rfl
    rw [← hys] at HZ hzd
    clear hys
    obtain ⟨Aj, cj, hx0, _, hRj⟩ := impl_GroupsOf.tagged HR.out j hlt2 ys j hzd
    have HRj := Aside0.mk hRj
    clear hRj hzd
    have hcall := impl_GroupsOf.clo Aj ys.length cj wr
    by_cases hq : ys.length < 2
    ·rw [show decide ((ys.length : Int) < 2) = true from decide_eq_true (by omega)] at hcall
     have HQ : Aside0 (decide (2 ≤ ys.length) = false) := ⟨decide_eq_false (by omega)⟩
     clear hq
     go_wp2_with (go_at_fn 92; refine hcall.mono ?_; rintro e w' ⟨rfl, hb'⟩)
     go_roundg (xs.length - (j + 1))
     case measure => omega
     case rel => exact ⟨i, j + 1, zs, rfl, by go_num, by omega, by omega, by omega, ⟨impl_GroupsOf.skip HZ.out HQ.out HI.out⟩, ⟨by repeat (first | exact Kd.R_below HR.out hb' | apply Kd.R_drewN)⟩, ⟨by repeat (first | exact below_step HB.out hb' | apply pw_below_drewN)⟩⟩
    ·rw [show decide ((ys.length : Int) < 2) = false from decide_eq_false (by omega)] at hcall
     have HQ : Aside0 (decide (2 ≤ ys.length) = true) := ⟨decide_eq_true (by omega)⟩
     clear hq
     go_wp2_with (first | (go_at_fn 92; refine hcall.mono ?_; rintro e w' ⟨rfl, hb'⟩) | ((with_reducible refine gate_store (t := 55) (p := 33) rfl ?_); refine impl_GroupsOf.abs ?_; intro wc hq_; (have HRc : Aside0 ((Kd.tag f (Kd.slice 2 (Kd.int .i64))).R 55 wc w0.heap.size ok (.slice (some ⟨g, 0, none⟩) xs.length cap) zs) := ⟨by rw [hq_]; repeat (first | exact Kd.R_below HR.out hb' | apply Kd.R_drewN)⟩); (have HRd : Aside0 ((Kd.int .i64).R 2 wc w0.heap.size (fun k => (ok k ∧ k ≠ g) ∧ f k = j) (.slice Aj ys.length cj) ys) := ⟨by rw [hq_]; repeat (first | exact Kd.R_below HRj.out hb' | apply Kd.R_drewN)⟩); (have HBc : Aside0 (Below w0.heap.size w0 wc) := ⟨by rw [hq_]; repeat (first | exact below_step HB.out hb' | apply pw_below_drewN)⟩); clear hq_; obtain ⟨_, _, hxi, hfi, _⟩ := impl_GroupsOf.tagged HRc.out i (by omega) _ _ rfl; refine store_event (t := 55) (p := 33) (v := ?vo) (w1 := wc.setCell ⟨g, i, none⟩ (.slice Aj ys.length cj)) ?hg ?ho ?hn ?hr ?_; (case ho => rfl); (case hg => rfl); (case hn => rfl); (case hr => first | (go_simp; done) | (go_simp; rfl)); intro w2 hw; clear hxi hfi))
     go_roundg (xs.length - (j + 1))
     case measure => omega
     case rel => exact ⟨i + 1, j + 1, zs.set i (ys, j), by go_num, by go_num, by omega, by omega, by omega, ⟨impl_GroupsOf.keep HZ.out HQ.out hij hjx HI.out⟩, ⟨by (try rw [hw]); exact (impl_GroupsOf.moved HRc.out i (by omega) ys j Aj cj HRd.out).1⟩, ⟨by (try rw [hw]); exact pw_below_grown HBc.out (some g) HBc.out.size (impl_GroupsOf.moved HRc.out i (by omega) ys j Aj cj HRd.out).2 (fun k hk => by injection hk with hk; omega)⟩⟩
   ·have hltz : ¬ (j : Int) < (xs.length : Int) := by omega
    have hje : j = xs.length := by omega
    subst hje
    have hiz : (i : Int) ≤ (xs.length : Int) := by omega
    obtain ⟨zs', q1, q2, q3⟩ := impl_GroupsOf.wipe (xs.length - i) i wr zs HR.out (by omega)
    have hcc := fun (q : Nat) (hq : q < xs.length) => impl_GroupsOf.tagged HR.out q hq _ _ rfl
    have hcl : ∀ ty, (Builtin.clear_ #[52] ty #[.slice (some ⟨g, i, none⟩) (xs.length - i) (cap - i)]).run Try.prog wr = .ok (.tuple #[]) (wr.setCells g i (List.replicate (xs.length - i) (.slice none 0 0))) :=
     fun ty => Lib.run_clear_slice wr 52 55 ty (.slice none 0 0) Try.underlying52 impl_GroupsOf.zeroL rfl rfl g i _ _ (by omega) (fun q hq => by obtain ⟨_, _, h1, _, _⟩ := hcc (i + q) (by omega); rw [h1]; rfl) (fun q hq => by obtain ⟨_, _, _, h1, _⟩ := hcc (i + q) (by omega); exact h1)
    have k1 := impl_GroupsOf.cutL wr g xs.length cap i hij hcap
    have Q1 := Aside0.mk q1
    have Q2 := Aside0.mk q2
    have Q3 := Aside0.mk q3
    clear q1 q2 q3 hcc
    obtain ⟨W2, hW2⟩ : ∃ W2, W2 = wr.setCells g i (List.replicate (xs.length - i) (.slice none 0 0)) := ⟨_, rfl⟩
    rw [← hW2] at hcl Q1 Q3
    clear hW2
    have k2 := impl_GroupsOf.cutH W2 (some ⟨g, 0, none⟩) xs.length cap i (by omega)
    clear kcl kch
    go_wp2
    go_ret
    refine ⟨_, rfl, ?_, pw_below_grown HB.out (some g) HB.out.size Q3.out (fun k hk => by injection hk with hk; omega)⟩
    have h1 := Kd.R_take Q1.out (m := i) (by rw [← (Kd.R_reads' Q1.out).1]; omega)
    rw [Q2.out, HI.out.2.1, show Z.take xs.length = Z from List.take_of_length_le (by omega)] at h1
    have h2 := impl_GroupsOf.untag h1 HZE.out.2
    rw [HZE.out.1] at h2
    exact h2
theorem impl_GroupsOf.del2 (w0 : World) (ok : Nat → Prop) (g n cap : Nat) (xs : List (List Int)) (hn : xs.length = n) (w : World) (hB : Below w0.heap.size w0 w) (hS : Kd.S (Kd.slice 2 (Kd.int .i64)) 55 w w0.heap.size ok (.slice (some ⟨g, 0, none⟩) n cap) xs) :
  Calls Try.prog 91 #[.slice (some ⟨g, 0, none⟩) n cap, .func (.func 92) #[] #[]] w fun e w' => ∃ v', e = .returned v' ∧ Kd.S (Kd.slice 2 (Kd.int .i64)) 55 w' w0.heap.size ok v' (xs.filter fun x => decide (2 ≤ x.length)) ∧ Below w0.heap.size w0 w' := by
 subst hn
 obtain ⟨f, hR⟩ := hS
 exact impl_GroupsOf.del w0 f ok g cap xs w hB hR
theorem impl_GroupsOf.cellI {w : World} {A : Option Addr} {l : List Int} (h : Kd.C (Kd.int .i64) w A l.length l) (i : Nat) (hi : i < l.length) : ∃ ad, A = some ad ∧ w.cell? (ad.add i) = some (.int .i64 (rd l (i : Int))) := by
 obtain ⟨ad, c, e, _, hK, hc⟩ := Kd.C_get h 0 (i : Int) (by omega) (by omega)
 have hK : c = [.int .i64 (rd l (i : Int))] := hK
 subst hK
 have h0 := hc 0 _ rfl
 have e2 : (i : Int).toNat * (Kd.int .i64).sz + 0 = i := by show (i : Int).toNat * 1 + 0 = i; omega
 rw [e2] at h0
 exact ⟨ad, e, h0⟩
theorem impl_GroupsOf.form {w : World} {base : Nat} {ok : Nat → Prop} {v : Value} {xs : List (List Int)} {b : Nat} (h : Kd.S (Kd.slice 2 (Kd.int .i64)) 55 w base ok v xs) (hb : v.ownBlock = some b) : ∃ g c, v = .slice (some ⟨g, 0, none⟩) xs.length c := by
 obtain ⟨inner, _, ⟨rfl, _⟩ | ⟨g, cap, cur, rfl, _⟩⟩ := Kd.S_own h
 ·cases hb
 ·exact ⟨g, cap, rfl⟩
set_option maxHeartbeats 8000000 in
set_option maxRecDepth 100000 in
theorem impl_GroupsOf.calls (k : Nat) (a0_0 : Int) (A0_1 : Option Addr) (c0_1 : Nat) (l0_1 : List (S51)) (r : List (List Int)) (w : World) (hr0_1 : Kd.C k51 w A0_1 l0_1.length l0_1) (hc0_1 : l0_1.length ≤ c0_1) (h : impl_GroupsOf.f k a0_0 l0_1 = some r) :
  Calls Try.prog 33 #[.agg #[.int .i64 a0_0, .slice A0_1 l0_1.length c0_1]] w fun e w' => ∃ v0_ : Value, e = .returned (v0_) ∧ Kd.S (Kd.slice 2 (Kd.int .i64)) 55 w' w.heap.size (fun _ => True) v0_ r ∧ Below w.heap.size w w' := by

 obtain ⟨⟨least, okb⟩, A1, h⟩ := Option.bind_eq_some_iff.1 h
 have HA1 := Aside0.mk A1
 have HR0 := Aside0.mk hr0_1
 have HC0 := Aside0.mk hc0_1
 clear A1 hr0_1 hc0_1
 have hu35 := Try.underlying35
 have HS := St.nil w
 cases okb with
 | false =>
  replace h : some ([] : List (List Int)) = some r := h
  cases h
  go_enter Try.func33, Try.ntmps33
  go_upto_region 1 with (first | ((with_reducible refine gate_dst (N := 1) rfl ?_); (try (refine gate_guard (by rfl) ?_; dsimp only)); refine box_event ?hg (N := 1) ?hd (cs := #[.int .i64 a0_0, .slice A0_1 l0_1.length c0_1]) (t := 35) ?hr ?_; (case hd => rfl); (case hg => rfl); (case hr => first | (go_simp; done) | (go_simp; rfl)); intro gb hg w3 hbox hb; replace HS := St.box HS hg hbox hb; clear hb hbox hg))
  (try simp only [Act.put, List.setIfInBounds_toArray, List.set_cons_zero, List.set_cons_succ])
  have hcz0 : w3.cell? ⟨gb, 0, none⟩ = some (.int .i64 a0_0) := (blk_cell (St.getB HS 0 rfl) 0).trans rfl
  have hcz1 : w3.cell? ⟨gb, 1, none⟩ = some (.slice A0_1 l0_1.length c0_1) := (blk_cell (St.getB HS 0 rfl) 1).trans rfl
  go_wp2_with (first | ((with_reducible refine gate_dst (N := 10) rfl ?_); refine goesL_ (some 10) rfl rfl Try.func86 (by kernel_rfl) rfl #[.agg #[.int .i64 a0_0, .slice A0_1 l0_1.length c0_1]] rfl (by (try simp only [List.map_toArray, List.map_cons, List.map_nil]); first | done | rfl) ?_; refine (impl_roots.calls k a0_0 A0_1 c0_1 l0_1 least false _ (Kd.C_below HR0.out (St.lift HS).below) HC0.out HA1.out).mono ?_; rintro e w4 ⟨v, rfl, hr4, hb4⟩; obtain ⟨okL, AL, cL, rfl, HCL, HS2⟩ := St.callR HS hb4 hr4; clear hr4 hb4; refine ⟨_, rfl, ?_⟩))
  go_ret
  exact ⟨_, rfl, Kd.S_nil _ _ _ _ _, (St.lift HS2).below⟩
 | true =>
  replace h : (if 0 ≤ a0_0 then (if a0_0.toNat ≤ 5864062014805 then ((impl_GroupsOf.l0 k (List.replicate a0_0.toNat []) least 0).bind fun s => some (s.filter fun x => decide (2 ≤ x.length))) else none) else none) = some r := h
  by_cases h0 : 0 ≤ a0_0
  ·rw [if_pos h0] at h
   by_cases h1 : a0_0.toNat ≤ 5864062014805
   ·rw [if_pos h1] at h
    obtain ⟨s, A2, h⟩ := Option.bind_eq_some_iff.1 h
    cases h
    obtain ⟨S0, hS0⟩ : ∃ S0, S0 = List.replicate a0_0.toNat ([] : List Int) := ⟨_, rfl⟩
    rw [← hS0] at A2
    have HA2 := Aside0.mk A2
    have HS0 := Aside0.mk hS0
    clear A2 hS0
    go_enter Try.func33, Try.ntmps33
    go_upto_region 1 with (first | ((with_reducible refine gate_dst (N := 1) rfl ?_); (try (refine gate_guard (by rfl) ?_; dsimp only)); refine box_event ?hg (N := 1) ?hd (cs := #[.int .i64 a0_0, .slice A0_1 l0_1.length c0_1]) (t := 35) ?hr ?_; (case hd => rfl); (case hg => rfl); (case hr => first | (go_simp; done) | (go_simp; rfl)); intro gb hg w3 hbox hb; replace HS := St.box HS hg hbox hb; clear hb hbox hg))
    (try simp only [Act.put, List.setIfInBounds_toArray, List.set_cons_zero, List.set_cons_succ])
    have hcz0 : w3.cell? ⟨gb, 0, none⟩ = some (.int .i64 a0_0) := (blk_cell (St.getB HS 0 rfl) 0).trans rfl
    have hcz1 : w3.cell? ⟨gb, 1, none⟩ = some (.slice A0_1 l0_1.length c0_1) := (blk_cell (St.getB HS 0 rfl) 1).trans rfl
    go_wp2_with (first | ((with_reducible refine gate_dst (N := 10) rfl ?_); refine goesL_ (some 10) rfl rfl Try.func86 (by kernel_rfl) rfl #[.agg #[.int .i64 a0_0, .slice A0_1 l0_1.length c0_1]] rfl (by (try simp only [List.map_toArray, List.map_cons, List.map_nil]); first | done | rfl) ?_; refine (impl_roots.calls k a0_0 A0_1 c0_1 l0_1 least true _ (Kd.C_below HR0.out (St.lift HS).below) HC0.out HA1.out).mono ?_; rintro e w4 ⟨v, rfl, hr4, hb4⟩; obtain ⟨okL, AL, cL, rfl, HCL, HS2⟩ := St.callR HS hb4 hr4; clear hr4 hb4; have hcz4 : w4.cell? ⟨gb, 0, none⟩ = some (.int .i64 a0_0) := (blk_cell (St.getB HS2 1 rfl) 0).trans rfl; refine ⟨_, rfl, ?_⟩) | ((with_reducible refine gate_dst (N := 17) rfl ?_); refine Kd.S_make (Kd.slice 2 (Kd.int .i64)) _ 55 rfl (N := 17) rfl 52 _ _ rfl a0_0 rfl rfl Try.underlying52 (.slice none 0 0) 24 info55 rfl (by decide) (by omega) [] (ok := fun _ => True) (okp := fun _ => True) ⟨_, rfl, Kd.R_nil _ _ _ _ _⟩ (fun _ hk => hk) trivial h0 (by omega) (Below.refl _ _) (Nat.le_refl _) ?_; intro v5 w5 hs5 hb5 hg5 hat5; rw [← HS0.out] at hs5; obtain ⟨b5, hat5, _⟩ := hat5; obtain ⟨g, cap, rfl⟩ := impl_GroupsOf.form hs5 hat5; obtain ⟨ok5, A5, c5, e5, HC5, HS3⟩ := St.callS HS2 hb5 hs5; cases e5; clear hat5 hs5 hb5 hg5))
    have hmaxL := Kd.C_max (Kd.R_reads' (St.getR HS3 1 rfl)).2.2
    go_loopg [20] least.length (fun gg s20 wr => ∃ (kq i : Nat) (S : List (List Int)) (ok : Nat → Prop), s20 = .int .i64 i ∧ i ≤ least.length ∧ least.length - i ≤ gg ∧ Aside0 (S.length = S0.length) ∧ Aside0 (impl_GroupsOf.l0 kq S least i = some s) ∧ Aside0 (St w wr [Ob.S w (Kd.slice 2 (Kd.int .i64)) 55 ok (.slice (some ⟨g, 0, none⟩) S0.length cap) S, Ob.R w (Kd.int .i64) 2 okL (.slice AL least.length cL) least]))
    case atStart => exact ⟨k, 0, S0, ok5, rfl, Nat.zero_le _, by omega, ⟨rfl⟩, HA2, St.drop HS3 2⟩
    case round =>
     clear HA1 HA2 HS HS2 HS3 hcz0 hcz1
     obtain ⟨kq, i, S, ok, rfl, hi, hg, HL, HX, HS⟩ := hrel
     cases kq with
     | zero => exact absurd HX.out (by simp [impl_GroupsOf.l0])
     | succ kq =>
      by_cases hlt : i < least.length
      ·have hltz : (i : Int) < (least.length : Int) := by omega
       have hX : (if (i : Int) < (least.length : Int) then (if 0 ≤ (i : Int) then (if 0 ≤ rd least i then (if rd least i < (S.length : Int) then (if (impl_GroupsOf.g S (rd least i)).length < 17592186044416 then impl_GroupsOf.l0 kq (S.set (rd least i).toNat (impl_GroupsOf.g S (rd least i) ++ [(i : Int)])) least (wrap64 ((i : Int) + 1)) else none) else none) else none) else none) else some S) = some s := HX.out
       rw [if_pos hltz, if_pos (Int.natCast_nonneg i)] at hX
       obtain ⟨aL, rfl, hxi⟩ := impl_GroupsOf.cellI (w := wr) (Kd.R_reads' (St.getR (W' := wr) HS 1 rfl)).2.2 i hlt
       obtain ⟨p, hp⟩ : ∃ p, p = rd least (i : Int) := ⟨_, rfl⟩
       rw [← hp] at hX hxi
       by_cases p0 : 0 ≤ p
       ·rw [if_pos p0] at hX
        by_cases p1 : p < (S.length : Int)
        ·rw [if_pos p1] at hX
         by_cases p2 : (impl_GroupsOf.g S p).length < 17592186044416
         ·rw [if_pos p2, show wrap64 ((i : Int) + 1) = ((i + 1 : Nat) : Int) from by unfold wrap64; omega] at hX
          have hp1 : p < (S0.length : Int) := by rw [← HL.out]; exact p1
          obtain ⟨oki, c, hcl, hM, hoki, hcells, hlend⟩ := St.lendS (W' := wr) HS 0 rfl ([] : List Int) p p0 hp1
          have hgs : S.getD p.toNat [] = impl_GroupsOf.g S p := rfl
          rw [hgs] at hM
          obtain ⟨ys, hys⟩ : ∃ ys, ys = impl_GroupsOf.g S p := ⟨_, rfl⟩
          rw [← hys] at hM p2 hX
          obtain ⟨v, rfl, hRv⟩ := hM
          obtain ⟨Ae, ce, rfl⟩ := Kd.R_slice hRv
          have hx1 := (hcells wr (Kept.refl _ _)).1 0 _ rfl
          have e2 : p.toNat * (Kd.slice 2 (Kd.int .i64)).sz + 0 = p.toNat := by show p.toNat * 1 + 0 = p.toNat; omega
          rw [e2] at hx1
          have HC := Aside0.mk hcells
          have HN := Aside0.mk hlend
          have HRv := Aside0.mk hRv
          have HX1 := Aside0.mk hX
          have HY := Aside0.mk hys
          have HP := Aside0.mk hp
          have HO := Aside0.mk hoki
          clear hcells hlend hRv hX hys hgs hp hoki hcl HX p1
          go_wp2_with (first | ((with_reducible refine gate_builtin (b := .append) (xs := #[.tmp 30, .tmp 32]) rfl ?_); at_builtin; refine Kd.R_append (Kd.int .i64) (w0 := w) w.heap.size rfl (.tmp 30) (.tmp 32) 55 2 (.int .i64 0) 8 rfl Try.underlying55 info2 rfl (by decide) (by omega) (.slice Ae ys.length ce) ys (i : Int) [.int .i64 (i : Int)] (fun k_ => oki k_ ∨ wr.heap.size ≤ k_) (fun _ => False) rfl rfl ?aP (fun _ hk => hk.elim) ?aF ?aO ?aB ?aS ?aL ?_; (case aP => exact rfl); (case aF => exact (fun k_ hk => .inr hk)); (case aO => exact Kd.R_mono (by repeat (first | exact HRv.out | apply Kd.R_drewN)) (fun _ h_ => .inl h_)); (case aB => exact (St.lift HS).below); (case aS => exact (St.lift HS).below.size); (case aL => omega); intro v6 w6 ho hb6 hg6 hat6; have hk6 : Kept wr w6 oki := Kept.of_grown hg6 (by repeat (first | exact Kept.refl _ _ | apply Kept.drewN)) (fun k_ e_ => .inl (HRv.out.1 k_ e_)); obtain ⟨okn, HS6⟩ := HN.out w6 (ys ++ [(i : Int)]) 0 [v6] hb6 hk6 (show 0 + 1 ≤ 1 from by decide) ⟨v6, rfl, ho⟩; rw [e2] at HS6; have hx6 := (HC.out w6 hk6).1 0 _ rfl; have hf6 := (HC.out w6 hk6).2 0; rw [e2] at hx6 hf6; obtain ⟨A6, c6, rfl⟩ := Kd.R_slice ho; clear ho hb6 hg6 hat6 hk6) | ((with_reducible refine gate_store (t := 55) (p := 34) rfl ?_); refine store_event (t := 55) (p := 34) (v := ?vo) (w1 := w6.setCell ⟨g, p.toNat, none⟩ (.slice A6 (ys ++ [(i : Int)]).length c6)) ?hg ?ho ?hn ?hr ?_; (case ho => rfl); (case hg => rfl); (case hn => rfl); (case hr => first | (go_simp; done) | (go_simp; rfl)); intro w7 hw; clear hx6 hf6; (have HS7 : Aside0 (St w w7 _) := ⟨by rw [hw]; exact HS6.out⟩); clear hw HS6))
          go_roundg (least.length - (i + 1))
          case measure => omega
          case rel => exact ⟨kq, i + 1, S.set p.toNat (ys ++ [(i : Int)]), okn, by go_num, by omega, by omega, ⟨by rw [List.length_set]; exact HL.out⟩, ⟨HX1.out⟩, ⟨St.lift HS7⟩⟩
         ·rw [if_neg p2] at hX; cases hX
        ·rw [if_neg p1] at hX; cases hX
       ·rw [if_neg p0] at hX; cases hX
      ·have hltz : ¬ (i : Int) < (least.length : Int) := by omega
       have hX : (if (i : Int) < (least.length : Int) then (if 0 ≤ (i : Int) then (if 0 ≤ rd least i then (if rd least i < (S.length : Int) then (if (impl_GroupsOf.g S (rd least i)).length < 17592186044416 then impl_GroupsOf.l0 kq (S.set (rd least i).toNat (impl_GroupsOf.g S (rd least i) ++ [(i : Int)])) least (wrap64 ((i : Int) + 1)) else none) else none) else none) else none) else some S) = some s := HX.out
       rw [if_neg hltz] at hX
       replace hX := Option.some.inj hX
       subst hX
       clear HX
       go_wp2_with (first | ((with_reducible refine gate_dst (N := 37) rfl ?_); refine goesL_ (some 37) rfl rfl Try.func91 (by kernel_rfl) rfl #[.slice (some ⟨g, 0, none⟩) S0.length cap, .func (.func 92) #[] #[]] rfl (by (try simp only [List.map_toArray, List.map_cons, List.map_nil]); first | done | rfl) ?_; refine (impl_GroupsOf.del2 w ok g S0.length cap S HL.out _ (St.lift HS).below (St.getS HS 0 rfl)).mono ?_; rintro e w8 ⟨v8, rfl, hs8, hb8⟩; have HS8 := Aside0.mk hs8; have HB8 := Aside0.mk hb8; clear hs8 hb8; refine ⟨_, rfl, ?_⟩))
       go_ret
       exact ⟨_, rfl, Kd.S_mono (by repeat (first | exact HS8.out | apply Kd.S_drewN)) (fun _ _ => trivial), by repeat (first | exact HB8.out | apply pw_below_drewN)⟩
   ·rw [if_neg h1] at h; cases h
  ·rw [if_neg h0] at h; cases h

end Go.Proofs.Ytkjlplcdjdenkaa.PFnForest
