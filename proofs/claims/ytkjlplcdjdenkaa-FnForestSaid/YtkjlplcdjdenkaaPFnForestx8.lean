-- Written by a program of this session (a turned copy of the kit's printer); Lean checks it.
-- half the depth
import Derived.Test.YtkjlplcdjdenkaaPFnForestx0
import Derived.Test.YtkjlplcdjdenkaaPFnForestx6
import Derived.Test.YtkjlplcdjdenkaaPFnForestx7
namespace Go.Proofs.Ytkjlplcdjdenkaa.PFnForest
open Go.RowKit Go.Proofs.YtkjlplcdjdenkaaW.PrintWords Go.Proofs.YtkjlplcdjdenkaaW.PrintLast Go.Proofs.YtkjlplcdjdenkaaW.PrintMore
attribute [local go_sem] max2_int min2_int max_two min_two max_three min_three max_four min_four   -- for this text's walks alone
set_option linter.unusedVariables false
set_option linter.unusedSimpArgs false

/-! ### spec_l1Rd_forest: function 89 -/
def spec_l1Rd_forest.l0 : Nat → Int → List Int → Int → Int → List (S51) → Option (Int × (List (S51)) × Int)
 | 0, _, _, _, _, _ => none
 | k + 1, x4, x1000, x1001, x250000, x250001 => if x4 > 0 then ((spec_l1Rd_below.f x1000 x1001 x250000).bind fun bt252 => ((spec_l1Rd_below.f x1000 bt252.2 x250000).bind fun bt254 => ((spec_l1Rd_below.f x1000 bt254.2 9).bind fun bt256 => ((spec_Join.f k x250000 x250001 bt252.1 bt254.1 bt256.1).bind fun bt258 => (if bt258.2.2.2 = true then (spec_l1Rd_forest.l0 k (wrap64 (x4 - 1)) x1000 bt256.2 bt258.1 bt258.2.1) else (spec_l1Rd_forest.l0 k (wrap64 (x4 - 1)) x1000 bt256.2 x250000 x250001)))))) else ((spec_l1Rd_below.f x1000 x1001 30).bind fun bt265 => (if bt265.1 = 0 then ((spec_l1Rd_off.f k x1000 bt265.2 0 (wrap64 (x250000 - 1))).bind fun bt267 => ((spec_l1Rd_off.f k x1000 bt267.2 0 (wrap64 (x250000 - 1))).bind fun bt269 => (if x250001.length < 5864062014805 then (some (x250000, (x250001 ++ [(⟨bt267.1, bt269.1, 0⟩ : S51)]), bt269.2)) else (none)))) else (if bt265.1 = 1 then ((spec_l1Rd_off.f k x1000 bt265.2 0 x250000).bind fun bt274 => (some (bt274.1, x250001, bt274.2))) else (if bt265.1 = 2 then (if (x250001.length : Int) > 0 then ((spec_l1Rd_off.f k x1000 bt265.2 0 1000000).bind fun bt276 => (if 0 < (x250001.length : Int) then (some (x250000, (x250001.set (0 : Int).toNat (⟨(rd_T51 x250001 0).f0, (rd_T51 x250001 0).f1, bt276.1⟩ : S51)), bt276.2)) else (none))) else (some (x250000, x250001, bt265.2))) else (if bt265.1 = 3 then ((spec_l1Rd_below.f x1000 bt265.2 2).bind fun bt279 => (some (wrap64 (1000 + bt279.1), x250001, bt279.2))) else (some (x250000, x250001, bt265.2)))))))
def spec_l1Rd_forest.f (k : Nat) (s0_0 : List Int) (s0_1 : Int) : Option (Int × (List (S51)) × Int) := (spec_l1Rd_below.f s0_0 s0_1 (mn 14 (wrap64 (2 + (wrap64 ((s0_0.length : Int) / 4)))))).bind fun bt247 => ((spec_l1Rd_below.f s0_0 bt247.2 (wrap64 ((wrap64 (1 + bt247.1)) + 2))).bind fun bt250 => (spec_l1Rd_forest.l0 k bt250.1 s0_0 bt250.2 (wrap64 (1 + bt247.1)) ([] : List (S51))))
def spec_l1Rd_forest.T5 : Bool × List (List Nat × List Nat) := (true, [([], []), ([], []), ([], []), ([2], [2]), ([1, 3], [1, 3]), ([], []), ([], []), ([6], [6]), ([5, 7, 4], [5, 7]), ([], []), ([9, 8], [9]), ([0, 4, 8, 10, 10], [0, 4, 8, 10]), ([11], [11]), ([12], [12]), ([12], [12]), ([12], [12]), ([], []), ([16, 13, 11, 0, 1, 2, 3, 4, 5, 6, 7, 8, 9, 10, 11, 12, 13, 16], [13, 16]), ([14, 17, 0, 1, 2, 3, 4, 5, 6, 7, 8, 9, 10, 11, 12, 13, 14, 16, 17], [14]), ([15, 18, 0, 1, 2, 3, 4, 5, 6, 7, 8, 9, 10, 11, 12, 13, 14, 15, 16, 17, 18], [15])])
def spec_l1Rd_forest.B5 : List Nat := [0, 0, 0, 4, 14, 0, 0, 64, 254, 0, 1022, 2047, 4095, 8191, 8191, 8191, 0, 81919, 229375, 524287]
theorem spec_l1Rd_forest.tab5 : rtab .any (opsOf Try.f89 5) = spec_l1Rd_forest.T5 := by kernel_rfl
theorem spec_l1Rd_forest.bits5 : waitsOk spec_l1Rd_forest.T5.2 spec_l1Rd_forest.B5 = true := by kernel_rfl
def spec_l1Rd_forest.T10 : Bool × List (List Nat × List Nat) := (true, [([], []), ([0], [0]), ([], []), ([], []), ([3], [3]), ([4], [4]), ([2, 5], [2, 5]), ([], []), ([], []), ([8], [8]), ([9], [9]), ([7, 10, 6], [7, 10]), ([6, 11], [6, 11]), ([12], [12]), ([1, 13, 11], [1, 13]), ([0, 1, 2, 3, 4, 5, 6, 7, 8, 9, 10, 11, 12, 13, 14], []), ([15, 14, 14, 0, 1, 2, 3, 4, 5, 6, 7, 8, 9, 10, 11, 12, 13, 14], [14, 15])])
def spec_l1Rd_forest.B10 : List Nat := [0, 1, 0, 0, 8, 24, 60, 0, 0, 256, 768, 2044, 4092, 8188, 16383, 32767, 65535]
theorem spec_l1Rd_forest.tab10 : rtab .any (opsOf Try.f89 10) = spec_l1Rd_forest.T10 := by kernel_rfl
theorem spec_l1Rd_forest.bits10 : waitsOk spec_l1Rd_forest.T10.2 spec_l1Rd_forest.B10 = true := by kernel_rfl
set_option maxHeartbeats 8000000 in
set_option maxRecDepth 100000 in
theorem spec_l1Rd_forest.calls (k : Nat) (g : Nat) (s0_0 : List Int) (s0_1 : Int) (r1 : Int) (r2 : List (S51)) (r3 : Int) (w0 w : World) (hI : IsS183 w0 w g s0_0 s0_1) (hB : Below w0.heap.size w0 w) (h : spec_l1Rd_forest.f k s0_0 s0_1 = some (r1, r2, r3)) :
  Calls Try.prog 89 #[.pointer (some ⟨g, 0, none⟩)] w fun e w' => ∃ v1_ : Value, e = .returned (.agg #[.int .i64 r1, v1_]) ∧ Kd.R k51 51 w' w.heap.size (fun _ => True) v1_ r2 ∧ IsS183 w0 w' g s0_0 r3 ∧ Below w0.heap.size w0 w' ∧ KeepBut w w' g none := by
 have hu35 := Try.underlying35
 have hu51 := Try.underlying51
 have HI0 := Aside0.mk hI
 have HK := Aside0.mk (KeepBut.refl w g none)
 have HL := Aside0.mk hB.size
 clear hI
 have HW0 := Aside0.mk hB.size
 have HB := Aside0.mk hB
 clear hB
 have H : ((spec_l1Rd_below.f s0_0 s0_1 (mn 14 (wrap64 (2 + (wrap64 ((s0_0.length : Int) / 4)))))).bind fun bt247 => ((spec_l1Rd_below.f s0_0 bt247.2 (wrap64 ((wrap64 (1 + bt247.1)) + 2))).bind fun bt250 => (spec_l1Rd_forest.l0 k bt250.1 s0_0 bt250.2 (wrap64 (1 + bt247.1)) ([] : List (S51))))) = some (r1, r2, r3) := h
 clear h
 obtain ⟨ji2, hji2⟩ : ∃ j_ : Int, (mn 14 (wrap64 (2 + (wrap64 ((s0_0.length : Int) / 4))))) = j_ := ⟨_, rfl⟩
 replace H : ((spec_l1Rd_below.f s0_0 s0_1 (ji2)).bind fun bt247 => ((spec_l1Rd_below.f s0_0 bt247.2 (wrap64 ((wrap64 (1 + bt247.1)) + 2))).bind fun bt250 => (spec_l1Rd_forest.l0 k bt250.1 s0_0 bt250.2 (wrap64 (1 + bt247.1)) ([] : List (S51))))) = some (r1, r2, r3) := by first | (rw [hji2] at H; exact H) | (simp only [hji2] at H ⊢; exact H)
 (try (have hji2h : ji2 ≤ 14 := by (rw [← hji2]; unfold mn; (repeat' split) <;> omega)))
 (try (have hji2g : ji2 ≤ 64 := by omega))
 have hji2_ : (if (wrap64 (2 + (wrap64 ((s0_0.length : Int) / 4)))) < 14 then (wrap64 (2 + (wrap64 ((s0_0.length : Int) / 4)))) else 14) = ji2 := hji2
 replace H := Option.bind_eq_some_iff.mp H
 obtain ⟨⟨t247, t248⟩, A30, H⟩ := H
 replace H : ((spec_l1Rd_below.f s0_0 t248 (wrap64 ((wrap64 (1 + t247)) + 2))).bind fun bt250 => (spec_l1Rd_forest.l0 k bt250.1 s0_0 bt250.2 (wrap64 (1 + t247)) ([] : List (S51)))) = some (r1, r2, r3) := H
 have A3 := Aside0.mk A30
 clear A30
 replace H := Option.bind_eq_some_iff.mp H
 obtain ⟨⟨t250, t251⟩, A40, H⟩ := H
 replace H : (spec_l1Rd_forest.l0 k t250 s0_0 t251 (wrap64 (1 + t247)) ([] : List (S51))) = some (r1, r2, r3) := H
 have A4 := Aside0.mk A40
 clear A40
 have H' := Aside0.mk H
 clear H
 go_enter Try.func89, Try.ntmps89
 go_wp2_with (first | ((with_reducible refine gate_dst (N := 2) rfl ?_); refine box_event ?hg (N := 2) ?hd (cs := #[.int .i64 0, .slice none 0 0]) (t := 35) ?hr ?_; (case hd => rfl); (case hg => rfl); (case hr => first | (go_simp; done) | (go_simp; rfl)); intro gb246 hg w5 hbox hb; have n0_ := Aside0.mk (IsS183.below (by repeat (first | (with_reducible first | exact HI0.out | apply IsS183.alloc | apply IsS183.drewN | apply IsS183.drew | apply IsS183.set_1) | exact HI0.out)) hb); have n1_ := Aside0.mk (KeepBut.trans (kp HK) (KeepBut.of_below hb g none) (.inl rfl)); have n2_ := Aside0.mk (below_step (bs HB ⟨IsS183.ge HI0.out⟩) hb); have n3_ := Aside0.mk (hbox); have n4_ := Aside0.mk ((by rw [hg]; exact (keep_size (w := w) (g := g) (row := none) (kp HK)) : w.heap.size ≤ gb246)); have n5_ := Aside0.mk ((Nat.le_trans HW0.out (by rw [hg]; exact (keep_size (w := w) (g := g) (row := none) (kp HK)) : w.heap.size ≤ gb246) : w0.heap.size ≤ gb246)); have n6_ := Aside0.mk ((by rw [hg]; exact Nat.ne_of_lt (IsS183.lt (show IsS183 w0 _ g s0_0 s0_1 from by repeat (first | (with_reducible first | exact HI0.out | apply IsS183.alloc | apply IsS183.drewN | apply IsS183.drew | apply IsS183.set_1) | exact HI0.out))) : g ≠ gb246)); have n7_ := Aside0.mk ((by rw [hg]; exact Nat.ne_of_gt (IsS183.lt (show IsS183 w0 _ g s0_0 s0_1 from by repeat (first | (with_reducible first | exact HI0.out | apply IsS183.alloc | apply IsS183.drewN | apply IsS183.drew | apply IsS183.set_1) | exact HI0.out))) : gb246 ≠ g)); clear HI0; clear HK; clear HB; have HI0 := n0_; have HK := n1_; have HB := n2_; have BK246 := n3_; have GW246 := n4_; have GE246 := n5_; have NB0_246 := n6_; have NB246_0 := n7_; clear n0_ n1_ n2_ n3_ n4_ n5_ n6_ n7_; clear hb hbox hg; obtain ⟨ASz6_0, cSz6_0, HGz6, hgz6, HSz6_0⟩ := HI0.out; have hcz6_0 := cellS183_0 HGz6; have hcz6_1 := cellS183_1 HGz6; have hfz6_1 := blk_frozen HGz6 1; clear HGz6 hgz6) | ((with_reducible refine gate_callee (f := 136) rfl ?_); refine goesL_ (some 17) rfl rfl Try.func136 (by kernel_rfl) rfl #[.pointer (some ⟨g, 0, none⟩), .int .i64 ji2] rfl (by (try simp only [List.map_toArray, List.map_cons, List.map_nil]); first | done | (simp only [hji2]; rfl) | rfl | (simp only [List.length_drop, List.length_take]; rfl)) ?_; (with_reducible refine (spec_l1Rd_below.calls g s0_0 s0_1 ji2 t247 t248 w0 _ ?side1 ?side2 A3.out).mono ?_); (case side1 => repeat (first | (with_reducible first | exact HI0.out | apply IsS183.alloc | apply IsS183.drewN | apply IsS183.drew | apply IsS183.set_1 | refine IsS183.far ?_ NB0_246.out _) | exact HI0.out)); (case side2 => repeat (first | (with_reducible first | exact HB.out | apply below_alloc | apply pw_below_drewN | apply below_drew1 | refine below_set ?_ (IsS183.ge HI0.out) | refine below_set ?_ GE246.out) | exact HB.out)); rintro e w7 ⟨rfl, hi, hb, hk⟩; refine ⟨_, rfl, ?_⟩; have n0_ := Aside0.mk (KeepBut.blk hk (g' := gb246) (o := .cells #[.int .i64 0, .slice none 0 0] 35 (0, 0)) (bk BK246) NB246_0.out (by simp)); have n1_ := Aside0.mk (KeepBut.trans (kp1 HK GW246) hk (.inl rfl)); have n2_ := Aside0.mk (hb); have n3_ := Aside0.mk (hi); clear BK246; clear HK; clear HB; clear HI0; have BK246 := n0_; have HK := n1_; have HB := n2_; have HI0 := n3_; clear n0_ n1_ n2_ n3_; (try clear hb); (try clear hb2); (try clear hk); (try clear hi)) | ((with_reducible refine gate_dst (N := 3) rfl ?_); refine box_event ?hg (N := 3) ?hd (cs := #[.int .i64 0, .slice none 0 0]) (t := 35) ?hr ?_; (case hd => rfl); (case hg => rfl); (case hr => first | (go_simp; done) | (go_simp; rfl)); intro gb249 hg w8 hbox hb; have n0_ := Aside0.mk (IsS183.below (by repeat (first | (with_reducible first | exact HI0.out | apply IsS183.alloc | apply IsS183.drewN | apply IsS183.drew | apply IsS183.set_1 | refine IsS183.far ?_ NB0_246.out _) | exact HI0.out)) hb); have n1_ := Aside0.mk (blk_below (g := gb246) (o := .cells #[.int .i64 0, .slice none 0 0] 35 (0, 0)) (bk BK246) hb); have n2_ := Aside0.mk (KeepBut.trans (kp1 HK GW246) (KeepBut.of_below hb g none) (.inl rfl)); have n3_ := Aside0.mk (below_step (bs2 HB ⟨IsS183.ge HI0.out⟩ GE246) hb); have n4_ := Aside0.mk (hbox); have n5_ := Aside0.mk ((by rw [hg]; exact (keep_size (w := w) (g := g) (row := none) (kp1 HK GW246)) : w.heap.size ≤ gb249)); have n6_ := Aside0.mk ((Nat.le_trans HW0.out (by rw [hg]; exact (keep_size (w := w) (g := g) (row := none) (kp1 HK GW246)) : w.heap.size ≤ gb249) : w0.heap.size ≤ gb249)); have n7_ := Aside0.mk ((by rw [hg]; exact Nat.ne_of_lt (blk_lt (g := gb246) (o := .cells #[.int .i64 0, .slice none 0 0] 35 (0, 0)) (bk BK246)) : gb246 ≠ gb249)); have n8_ := Aside0.mk ((by rw [hg]; exact Nat.ne_of_gt (blk_lt (g := gb246) (o := .cells #[.int .i64 0, .slice none 0 0] 35 (0, 0)) (bk BK246)) : gb249 ≠ gb246)); have n9_ := Aside0.mk ((by rw [hg]; exact Nat.ne_of_lt (IsS183.lt (show IsS183 w0 _ g s0_0 t248 from by repeat (first | (with_reducible first | exact HI0.out | apply IsS183.alloc | apply IsS183.drewN | apply IsS183.drew | apply IsS183.set_1 | refine IsS183.far ?_ NB0_246.out _) | exact HI0.out))) : g ≠ gb249)); have n10_ := Aside0.mk ((by rw [hg]; exact Nat.ne_of_gt (IsS183.lt (show IsS183 w0 _ g s0_0 t248 from by repeat (first | (with_reducible first | exact HI0.out | apply IsS183.alloc | apply IsS183.drewN | apply IsS183.drew | apply IsS183.set_1 | refine IsS183.far ?_ NB0_246.out _) | exact HI0.out))) : gb249 ≠ g)); clear HI0; clear BK246; clear HK; clear HB; have HI0 := n0_; have BK246 := n1_; have HK := n2_; have HB := n3_; have BK249 := n4_; have GW249 := n5_; have GE249 := n6_; have NB246_249 := n7_; have NB249_246 := n8_; have NB0_249 := n9_; have NB249_0 := n10_; clear n0_ n1_ n2_ n3_ n4_ n5_ n6_ n7_ n8_ n9_ n10_; clear hb hbox hg; have hnb9 := NB249_246.out; have hnc9 := NB246_249.out; have hnb10 := NB249_0.out; have hnc10 := NB0_249.out; have hcz11_0 : w8.cell? ⟨gb249, 0, none⟩ = some (.int .i64 0) := (blk_cell BK249.out 0).trans rfl; have hcz11_1 : w8.cell? ⟨gb249, 1, none⟩ = some (.slice none 0 0) := (blk_cell BK249.out 1).trans rfl; have hfz11_0 := blk_frozen BK249.out 0; have hfz11_1 := blk_frozen BK249.out 1) | ((with_reducible refine gate_callee (f := 136) rfl ?_); refine goesL_ (some 24) rfl rfl Try.func136 (by kernel_rfl) rfl #[.pointer (some ⟨g, 0, none⟩), .int .i64 (wrap64 ((wrap64 (1 + t247)) + 2))] rfl (by (try simp only [List.map_toArray, List.map_cons, List.map_nil]); first | done | rfl | (simp only [List.length_drop, List.length_take]; rfl)) ?_; (with_reducible refine (spec_l1Rd_below.calls g s0_0 t248 (wrap64 ((wrap64 (1 + t247)) + 2)) t250 t251 w0 _ ?side1 ?side2 A4.out).mono ?_); (case side1 => repeat (first | (with_reducible first | exact HI0.out | apply IsS183.alloc | apply IsS183.drewN | apply IsS183.drew | apply IsS183.set_1 | refine IsS183.far ?_ NB0_246.out _ | refine IsS183.far ?_ NB0_249.out _) | exact HI0.out)); (case side2 => repeat (first | (with_reducible first | exact HB.out | apply below_alloc | apply pw_below_drewN | apply below_drew1 | refine below_set ?_ (IsS183.ge HI0.out) | refine below_set ?_ GE246.out | refine below_set ?_ GE249.out) | exact HB.out)); rintro e w12 ⟨rfl, hi, hb, hk⟩; refine ⟨_, rfl, ?_⟩; have n0_ := Aside0.mk (KeepBut.blk hk (g' := gb246) (o := .cells #[.int .i64 0, .slice none 0 0] 35 (0, 0)) (by (with_reducible repeat (first | refine blk_drewN ?_ _ | refine blk_drew ?_ | refine blk_alloc ?_ _)); refine blk_far ?_ NB246_249.out _; (with_reducible repeat (first | refine blk_drewN ?_ _ | refine blk_drew ?_ | refine blk_alloc ?_ _)); refine blk_far ?_ NB246_249.out _; (with_reducible repeat (first | refine blk_drewN ?_ _ | refine blk_drew ?_ | refine blk_alloc ?_ _)); exact BK246.out) NB246_0.out (by simp)); have n1_ := Aside0.mk (KeepBut.blk hk (g' := gb249) (o := .cells #[.int .i64 (wrap64 (1 + t247)), .slice none 0 0] 35 (0, 0)) (by (with_reducible repeat (first | refine blk_drewN ?_ _ | refine blk_drew ?_ | refine blk_alloc ?_ _)); refine blk_put (cs := #[.int .i64 (wrap64 (1 + t247)), .slice none 0 0]) ?_ 1 _ rfl; (with_reducible repeat (first | refine blk_drewN ?_ _ | refine blk_drew ?_ | refine blk_alloc ?_ _)); refine blk_put (cs := #[.int .i64 0, .slice none 0 0]) ?_ 0 _ rfl; (with_reducible repeat (first | refine blk_drewN ?_ _ | refine blk_drew ?_ | refine blk_alloc ?_ _)); exact BK249.out) NB249_0.out (by simp)); have n2_ := Aside0.mk (KeepBut.trans (kp2 HK GW246 GW249) hk (.inl rfl)); have n3_ := Aside0.mk (hb); have n4_ := Aside0.mk (hi); clear BK246; clear BK249; clear HK; clear HB; clear HI0; have BK246 := n0_; have BK249 := n1_; have HK := n2_; have HB := n3_; have HI0 := n4_; clear n0_ n1_ n2_ n3_ n4_; (try clear hb); (try clear hb2); (try clear hk); (try clear hi)))
 go_loopg [4] k (fun kq v4 w' => ∃ (x4_1 : Int) (x1001_1 : Int) (x250000_1 : Int) (x250001_1 : List (S51)) (u250001 : Value), v4 = .int .i64 x4_1 ∧ Aside0 (spec_l1Rd_forest.l0 kq x4_1 s0_0 x1001_1 x250000_1 x250001_1 = some (r1, r2, r3)) ∧ Aside0 (kq ≤ k) ∧ Aside0 (Kd.R k51 51 w' w.heap.size (fun _ => True) u250001 x250001_1) ∧ Aside0 (w'.heap[gb246]? = some (.cells #[.int .i64 0, (.slice none 0 0)] 35 (0, 0))) ∧ Aside0 (w'.heap[gb249]? = some (.cells #[.int .i64 x250000_1, u250001] 35 (0, 0))) ∧ Aside0 (IsS183 w0 w' g s0_0 x1001_1) ∧ Aside0 (KeepBut w w' g none) ∧ Aside0 (Below w0.heap.size w0 w'))
 case atStart => exact ⟨(t250), (t251), (wrap64 (1 + t247)), (([] : List (S51))), (.slice none 0 0), (by first | rfl | (simp; done) | (simp [*]; done) | (simp only [bne_nil_]; done) | (simp [bne_nil_]; done)), H', ⟨Nat.le_refl _⟩, ⟨by first | exact Kd.R_nil _ _ _ _ _ | exact Kd.N_nil _ _ _ _ _ | exact Kd.V_nil _ _ _ _ _ | exact Kd.Q_nil _ _ _ _ _ | exact Kd.S_nil _ _ _ _ _⟩, ⟨bk BK246⟩, ⟨bk BK249⟩, ⟨by repeat (first | (with_reducible first | exact HI0.out | apply IsS183.alloc | apply IsS183.drewN | apply IsS183.drew | apply IsS183.set_1 | refine IsS183.far ?_ NB0_246.out _ | refine IsS183.far ?_ NB0_249.out _) | exact HI0.out)⟩, ⟨kp2 HK GW246 GW249⟩, ⟨bs3 HB ⟨IsS183.ge HI0.out⟩ GE246 GE249⟩⟩
 case round =>
  clear H'
  try clear c1
  try clear p2
  try clear p6
  try clear c8
  try clear c9
  try clear c10
  try clear hcz11_0
  try clear hcz11_1
  try clear hcz6_0
  try clear hcz6_1
  try clear hfz11_0
  try clear hfz11_1
  try clear hfz6_1
  obtain ⟨x4_1, x1001_1, x250000_1, x250001_1, u250001, rfl, HA, HK1, HO_250001, BK246, BK249, HI0, HK, HB⟩ := hrel
  cases gk with
  | zero => exact absurd HA.out (by simp [spec_l1Rd_forest.l0])
  | succ k1 =>
   have H := HA.out
   clear HA
   simp only [spec_l1Rd_forest.l0] at H
   by_cases c13 : x4_1 > 0
   ·rw [if_pos c13] at H
    have c13b0 : decide (0 < x4_1) = true := decide_eq_true c13
    clear c13
    replace H := Option.bind_eq_some_iff.mp H
    obtain ⟨⟨t252, t253⟩, A140, H⟩ := H
    replace H : ((spec_l1Rd_below.f s0_0 t253 x250000_1).bind fun bt254 => ((spec_l1Rd_below.f s0_0 bt254.2 9).bind fun bt256 => ((spec_Join.f k1 x250000_1 x250001_1 t252 bt254.1 bt256.1).bind fun bt258 => (if bt258.2.2.2 = true then (spec_l1Rd_forest.l0 k1 (wrap64 (x4_1 - 1)) s0_0 bt256.2 bt258.1 bt258.2.1) else (spec_l1Rd_forest.l0 k1 (wrap64 (x4_1 - 1)) s0_0 bt256.2 x250000_1 x250001_1))))) = some (r1, r2, r3) := H
    have A14 := Aside0.mk A140
    clear A140
    replace H := Option.bind_eq_some_iff.mp H
    obtain ⟨⟨t254, t255⟩, A150, H⟩ := H
    replace H : ((spec_l1Rd_below.f s0_0 t255 9).bind fun bt256 => ((spec_Join.f k1 x250000_1 x250001_1 t252 t254 bt256.1).bind fun bt258 => (if bt258.2.2.2 = true then (spec_l1Rd_forest.l0 k1 (wrap64 (x4_1 - 1)) s0_0 bt256.2 bt258.1 bt258.2.1) else (spec_l1Rd_forest.l0 k1 (wrap64 (x4_1 - 1)) s0_0 bt256.2 x250000_1 x250001_1)))) = some (r1, r2, r3) := H
    have A15 := Aside0.mk A150
    clear A150
    replace H := Option.bind_eq_some_iff.mp H
    obtain ⟨⟨t256, t257⟩, A160, H⟩ := H
    replace H : ((spec_Join.f k1 x250000_1 x250001_1 t252 t254 t256).bind fun bt258 => (if bt258.2.2.2 = true then (spec_l1Rd_forest.l0 k1 (wrap64 (x4_1 - 1)) s0_0 t257 bt258.1 bt258.2.1) else (spec_l1Rd_forest.l0 k1 (wrap64 (x4_1 - 1)) s0_0 t257 x250000_1 x250001_1))) = some (r1, r2, r3) := H
    have A16 := Aside0.mk A160
    clear A160
    replace H := Option.bind_eq_some_iff.mp H
    obtain ⟨⟨t258, t259, t262, t263⟩, A170, H⟩ := H
    replace H : (if t263 = true then (spec_l1Rd_forest.l0 k1 (wrap64 (x4_1 - 1)) s0_0 t257 t258 t259) else (spec_l1Rd_forest.l0 k1 (wrap64 (x4_1 - 1)) s0_0 t257 x250000_1 x250001_1)) = some (r1, r2, r3) := H
    have A17 := Aside0.mk A170
    clear A170
    by_cases c18 : t263 = true
    ·subst c18
     have H1 : (spec_l1Rd_forest.l0 k1 (wrap64 (x4_1 - 1)) s0_0 t257 t258 t259) = some (r1, r2, r3) := by rw [if_pos rfl] at H; exact H
     clear H
     have H := H1
     clear H1
     have H' := Aside0.mk H
     clear H
     obtain ⟨Ao19, co19, eo19⟩ := Kd.R_slice HO_250001.out
     subst eo19
     try go_wp2
     have n0_ := Aside0.mk (Kd.R_drew HO_250001.out)
     have n1_ := Aside0.mk (blk_drew BK246.out)
     have n2_ := Aside0.mk (blk_drew BK249.out)
     have n3_ := Aside0.mk (IsS183.drew HI0.out)
     have n4_ := Aside0.mk (keep_drew HK.out)
     have n5_ := Aside0.mk (below_drew1 HB.out)
     clear HO_250001
     clear BK246
     clear BK249
     clear HI0
     clear HK
     clear HB
     have HO_250001 := n0_
     have BK246 := n1_
     have BK249 := n2_
     have HI0 := n3_
     have HK := n4_
     have HB := n5_
     clear n0_ n1_ n2_ n3_ n4_ n5_
     refine start_ (n := 20) (S := fun w' => w'.cell? ⟨gb249, 0, none⟩ = some (.int .i64 x250000_1) ∧ w'.cell? ⟨gb249, 1, none⟩ = some (.slice Ao19 x250001_1.length co19)) (ds := []) #[false, false, false, false, false, false, false, false, false, false, false, false, false, false, false, false, false, false, false, false] (by kernel_rfl) rfl rfl ⟨(blk_cell BK249.out 0).trans rfl, (blk_cell BK249.out 1).trans rfl⟩ (fun hHeld => ?_); refine with_tabW spec_l1Rd_forest.tab5 spec_l1Rd_forest.bits5 (fun HT_ HW_ => ?_)
     generalize wr.drew = w20 at HO_250001 BK246 BK249 HI0 HK HB hHeld ⊢
     refine pure_ (i := 1) (N := some 31) (v := ?_) (a' := ?_) #[false, true, false, false, false, false, false, false, false, false, false, false, false, false, false, false, false, false, false, false] rfl rfl (any_of HT_.out (by kernel_rfl)) (fun _ _ _ h => h) (Or.inl ⟨by rfl, ?_⟩) ?_ ?_
     rotate_left
     ·intro w'
      go_simp
      with_reducible rfl
     rotate_left
     ·simp only [Act.put, List.setIfInBounds_toArray, List.set_cons_zero, List.set_cons_succ, i64_w, i32_w]
      rfl
     refine pure_ (i := 2) (N := some 32) (v := ?_) (a' := ?_) #[false, true, true, false, false, false, false, false, false, false, false, false, false, false, false, false, false, false, false, false] rfl rfl (any_of HT_.out (by kernel_rfl)) (fun _ _ _ h => h) (Or.inl ⟨by rfl, ?_⟩) ?_ ?_
     rotate_left
     ·intro w'
      go_simp
      with_reducible rfl
     rotate_left
     ·simp only [Act.put, List.setIfInBounds_toArray, List.set_cons_zero, List.set_cons_succ, i64_w, i32_w]
      rfl
     refine pure_ (i := 5) (N := some 35) (v := ?_) (a' := ?_) #[false, true, true, false, false, true, false, false, false, false, false, false, false, false, false, false, false, false, false, false] rfl rfl (any_of HT_.out (by kernel_rfl)) (fun _ _ _ h => h) (Or.inl ⟨by rfl, ?_⟩) ?_ ?_
     rotate_left
     ·intro w'
      go_simp
      with_reducible rfl
     rotate_left
     ·simp only [Act.put, List.setIfInBounds_toArray, List.set_cons_zero, List.set_cons_succ, i64_w, i32_w]
      rfl
     refine pure_ (i := 6) (N := some 36) (v := ?_) (a' := ?_) #[false, true, true, false, false, true, true, false, false, false, false, false, false, false, false, false, false, false, false, false] rfl rfl (any_of HT_.out (by kernel_rfl)) (fun _ _ _ h => h) (Or.inl ⟨by rfl, ?_⟩) ?_ ?_
     rotate_left
     ·intro w'
      go_simp
      with_reducible rfl
     rotate_left
     ·simp only [Act.put, List.setIfInBounds_toArray, List.set_cons_zero, List.set_cons_succ, i64_w, i32_w]
      rfl
     refine pure_ (i := 9) (N := some 39) (v := ?_) (a' := ?_) #[false, true, true, false, false, true, true, false, false, true, false, false, false, false, false, false, false, false, false, false] rfl rfl (any_of HT_.out (by kernel_rfl)) (fun _ _ _ h => h) (Or.inl ⟨by rfl, ?_⟩) ?_ ?_
     rotate_left
     ·intro w'
      go_simp
      with_reducible rfl
     rotate_left
     ·simp only [Act.put, List.setIfInBounds_toArray, List.set_cons_zero, List.set_cons_succ, i64_w, i32_w]
      rfl
     refine take_ (i := 0) (N := some 30) (v := ?_) (a' := ?_) #[true, true, true, false, false, true, true, false, false, true, false, false, false, false, false, false, false, false, false, false] rfl rfl (take_ofW HT_.out HW_.out (by kernel_rfl)) (fun _ _ _ h => h) (Or.inl ⟨by rfl, ?_⟩) hHeld ?_ ?_
     rotate_left
     ·rintro w' ⟨s0, s1⟩
      go_simp
      with_reducible rfl
     rotate_left
     ·simp only [Act.put, List.setIfInBounds_toArray, List.set_cons_zero, List.set_cons_succ, i64_w, i32_w]
      rfl
     refine take_ (i := 3) (N := some 33) (v := ?_) (a' := ?_) #[true, true, true, true, false, true, true, false, false, true, false, false, false, false, false, false, false, false, false, false] rfl rfl (take_ofW HT_.out HW_.out (by kernel_rfl)) (fun _ _ _ h => h) (Or.inl ⟨by rfl, ?_⟩) hHeld ?_ ?_
     rotate_left
     ·rintro w' ⟨s0, s1⟩
      go_simp
      with_reducible rfl
     rotate_left
     ·simp only [Act.put, List.setIfInBounds_toArray, List.set_cons_zero, List.set_cons_succ, i64_w, i32_w]
      rfl
     refine take_ (i := 7) (N := some 37) (v := ?_) (a' := ?_) #[true, true, true, true, false, true, true, true, false, true, false, false, false, false, false, false, false, false, false, false] rfl rfl (take_ofW HT_.out HW_.out (by kernel_rfl)) (fun _ _ _ h => h) (Or.inl ⟨by rfl, ?_⟩) hHeld ?_ ?_
     rotate_left
     ·rintro w' ⟨s0, s1⟩
      go_simp
      with_reducible rfl
     rotate_left
     ·simp only [Act.put, List.setIfInBounds_toArray, List.set_cons_zero, List.set_cons_succ, i64_w, i32_w]
      rfl
     refine join_ (σ := Value × Nat) 3 #[true, true, true, true, true, true, true, true, true, true, true, true, true, true, true, true, true, false, false, false] (fun s_ => [(34, .int .i64 t252), (38, .int .i64 t254), (40, .int .i64 t256), (41, .tuple #[.agg #[.int .i64 t258, s_.1], .bool t262, .bool true]), (5, .pointer (some ⟨s_.2, 0, none⟩)), (29, .tuple #[.agg #[.int .i64 t258, s_.1], .bool t262, .bool true]), (42, .agg #[.int .i64 t258, s_.1]), (43, .bool t262), (44, .bool true)]) (fun s_ w' => (w'.cell? ⟨gb249, 0, none⟩ = some (.int .i64 x250000_1) ∧ w'.cell? ⟨gb249, 1, none⟩ = some (.slice Ao19 x250001_1.length co19)) ∧ (Kd.R k51 51 w' w.heap.size (fun k_ => some k_ ≠ (.slice Ao19 x250001_1.length co19 : Value).ownBlock) s_.1 t259) ∧ (Kd.R k51 51 w' w.heap.size (fun k_ => some k_ ≠ (s_.1 : Value).ownBlock) (.slice Ao19 x250001_1.length co19) x250001_1) ∧ (w'.heap[gb246]? = some (.cells #[.int .i64 0, .slice none 0 0] 35 (0, 0))) ∧ (w'.heap[gb249]? = some (.cells #[.int .i64 x250000_1, .slice Ao19 x250001_1.length co19] 35 (0, 0))) ∧ (w'.heap[s_.2]? = some (.cells #[.int .i64 0, .slice none 0 0] 35 (0, 0))) ∧ (w.heap.size ≤ s_.2) ∧ (w0.heap.size ≤ s_.2) ∧ (g ≠ s_.2) ∧ (s_.2 ≠ g) ∧ (gb246 ≠ s_.2) ∧ (s_.2 ≠ gb246) ∧ (gb249 ≠ s_.2) ∧ (s_.2 ≠ gb249) ∧ (IsS183 w0 w' g s0_0 t257) ∧ (KeepBut w w' g none) ∧ (Below w0.heap.size w0 w')) ?_ ?_
     rotate_left
     ·intro hJ4_8_10_11_16
      refine join_ (σ := Value) 4 #[true, true, true, true, true, true, true, true, true, true, true, true, true, true, true, true, false, false, false, false] (fun s_ => [(34, .int .i64 t252), (38, .int .i64 t254), (40, .int .i64 t256), (41, .tuple #[.agg #[.int .i64 t258, s_], .bool t262, .bool true]), (29, .tuple #[.agg #[.int .i64 t258, s_], .bool t262, .bool true]), (42, .agg #[.int .i64 t258, s_]), (43, .bool t262), (44, .bool true)]) (fun s_ w' => (w'.cell? ⟨gb249, 0, none⟩ = some (.int .i64 x250000_1) ∧ w'.cell? ⟨gb249, 1, none⟩ = some (.slice Ao19 x250001_1.length co19)) ∧ (Kd.R k51 51 w' w.heap.size (fun k_ => some k_ ≠ (.slice Ao19 x250001_1.length co19 : Value).ownBlock) s_ t259) ∧ (Kd.R k51 51 w' w.heap.size (fun k_ => some k_ ≠ (s_ : Value).ownBlock) (.slice Ao19 x250001_1.length co19) x250001_1) ∧ (w'.heap[gb246]? = some (.cells #[.int .i64 0, .slice none 0 0] 35 (0, 0))) ∧ (w'.heap[gb249]? = some (.cells #[.int .i64 x250000_1, .slice Ao19 x250001_1.length co19] 35 (0, 0))) ∧ (IsS183 w0 w' g s0_0 t257) ∧ (KeepBut w w' g none) ∧ (Below w0.heap.size w0 w')) ?_ ?_
      rotate_left
      ·intro hJ4_8_10_11
       refine join_ (σ := Nat) 8 #[true, true, true, true, true, true, true, true, true, true, true, false, false, false, false, false, true, false, false, false] (fun s_ => [(34, .int .i64 t252), (38, .int .i64 t254), (40, .int .i64 t256), (5, .pointer (some ⟨s_, 0, none⟩))]) (fun s_ w' => (w'.cell? ⟨gb249, 0, none⟩ = some (.int .i64 x250000_1) ∧ w'.cell? ⟨gb249, 1, none⟩ = some (.slice Ao19 x250001_1.length co19)) ∧ (Kd.R k51 51 w' w.heap.size (fun _ => True) (.slice Ao19 x250001_1.length co19) x250001_1) ∧ (w'.heap[gb246]? = some (.cells #[.int .i64 0, .slice none 0 0] 35 (0, 0))) ∧ (w'.heap[gb249]? = some (.cells #[.int .i64 x250000_1, .slice Ao19 x250001_1.length co19] 35 (0, 0))) ∧ (w'.heap[s_]? = some (.cells #[.int .i64 0, .slice none 0 0] 35 (0, 0))) ∧ (w.heap.size ≤ s_) ∧ (w0.heap.size ≤ s_) ∧ (g ≠ s_) ∧ (s_ ≠ g) ∧ (gb246 ≠ s_) ∧ (s_ ≠ gb246) ∧ (gb249 ≠ s_) ∧ (s_ ≠ gb249) ∧ (IsS183 w0 w' g s0_0 t257) ∧ (KeepBut w w' g none) ∧ (Below w0.heap.size w0 w')) ?_ ?_
       rotate_left
       ·intro hJ4_8_10_16
        refine join_ (σ := Unit) 9 #[true, true, true, true, true, true, true, true, true, true, true, false, false, false, false, false, false, false, false, false] (fun s_ => [(34, .int .i64 t252), (38, .int .i64 t254), (40, .int .i64 t256)]) (fun s_ w' => (w'.cell? ⟨gb249, 0, none⟩ = some (.int .i64 x250000_1) ∧ w'.cell? ⟨gb249, 1, none⟩ = some (.slice Ao19 x250001_1.length co19)) ∧ (Kd.R k51 51 w' w.heap.size (fun _ => True) (.slice Ao19 x250001_1.length co19) x250001_1) ∧ (w'.heap[gb246]? = some (.cells #[.int .i64 0, .slice none 0 0] 35 (0, 0))) ∧ (w'.heap[gb249]? = some (.cells #[.int .i64 x250000_1, .slice Ao19 x250001_1.length co19] 35 (0, 0))) ∧ (IsS183 w0 w' g s0_0 t257) ∧ (KeepBut w w' g none) ∧ (Below w0.heap.size w0 w')) ?_ ?_
        rotate_left
        ·intro hJ4_8_10
         refine join_ (σ := Nat) 9 #[true, true, true, true, true, true, true, true, true, true, false, false, false, false, false, false, true, false, false, false] (fun s_ => [(34, .int .i64 t252), (38, .int .i64 t254), (5, .pointer (some ⟨s_, 0, none⟩))]) (fun s_ w' => (w'.cell? ⟨gb249, 0, none⟩ = some (.int .i64 x250000_1) ∧ w'.cell? ⟨gb249, 1, none⟩ = some (.slice Ao19 x250001_1.length co19)) ∧ (Kd.R k51 51 w' w.heap.size (fun _ => True) (.slice Ao19 x250001_1.length co19) x250001_1) ∧ (w'.heap[gb246]? = some (.cells #[.int .i64 0, .slice none 0 0] 35 (0, 0))) ∧ (w'.heap[gb249]? = some (.cells #[.int .i64 x250000_1, .slice Ao19 x250001_1.length co19] 35 (0, 0))) ∧ (w'.heap[s_]? = some (.cells #[.int .i64 0, .slice none 0 0] 35 (0, 0))) ∧ (w.heap.size ≤ s_) ∧ (w0.heap.size ≤ s_) ∧ (g ≠ s_) ∧ (s_ ≠ g) ∧ (gb246 ≠ s_) ∧ (s_ ≠ gb246) ∧ (gb249 ≠ s_) ∧ (s_ ≠ gb249) ∧ (IsS183 w0 w' g s0_0 t255) ∧ (KeepBut w w' g none) ∧ (Below w0.heap.size w0 w')) ?_ ?_
         rotate_left
         ·intro hJ4_8_16
          refine join_ (σ := Unit) 10 #[true, true, true, true, true, true, true, true, true, true, false, false, false, false, false, false, false, false, false, false] (fun s_ => [(34, .int .i64 t252), (38, .int .i64 t254)]) (fun s_ w' => (w'.cell? ⟨gb249, 0, none⟩ = some (.int .i64 x250000_1) ∧ w'.cell? ⟨gb249, 1, none⟩ = some (.slice Ao19 x250001_1.length co19)) ∧ (Kd.R k51 51 w' w.heap.size (fun _ => True) (.slice Ao19 x250001_1.length co19) x250001_1) ∧ (w'.heap[gb246]? = some (.cells #[.int .i64 0, .slice none 0 0] 35 (0, 0))) ∧ (w'.heap[gb249]? = some (.cells #[.int .i64 x250000_1, .slice Ao19 x250001_1.length co19] 35 (0, 0))) ∧ (IsS183 w0 w' g s0_0 t255) ∧ (KeepBut w w' g none) ∧ (Below w0.heap.size w0 w')) ?_ ?_
          rotate_left
          ·intro hJ4_8
           refine join_ (σ := Nat) 10 #[true, true, true, true, true, true, true, true, false, true, false, false, false, false, false, false, true, false, false, false] (fun s_ => [(34, .int .i64 t252), (5, .pointer (some ⟨s_, 0, none⟩))]) (fun s_ w' => (w'.cell? ⟨gb249, 0, none⟩ = some (.int .i64 x250000_1) ∧ w'.cell? ⟨gb249, 1, none⟩ = some (.slice Ao19 x250001_1.length co19)) ∧ (Kd.R k51 51 w' w.heap.size (fun _ => True) (.slice Ao19 x250001_1.length co19) x250001_1) ∧ (w'.heap[gb246]? = some (.cells #[.int .i64 0, .slice none 0 0] 35 (0, 0))) ∧ (w'.heap[gb249]? = some (.cells #[.int .i64 x250000_1, .slice Ao19 x250001_1.length co19] 35 (0, 0))) ∧ (w'.heap[s_]? = some (.cells #[.int .i64 0, .slice none 0 0] 35 (0, 0))) ∧ (w.heap.size ≤ s_) ∧ (w0.heap.size ≤ s_) ∧ (g ≠ s_) ∧ (s_ ≠ g) ∧ (gb246 ≠ s_) ∧ (s_ ≠ gb246) ∧ (gb249 ≠ s_) ∧ (s_ ≠ gb249) ∧ (IsS183 w0 w' g s0_0 t253) ∧ (KeepBut w w' g none) ∧ (Below w0.heap.size w0 w')) ?_ ?_
           rotate_left
           ·intro hJ4_16
            refine join_ (σ := Unit) 11 #[true, true, true, true, true, true, true, true, false, true, false, false, false, false, false, false, false, false, false, false] (fun s_ => [(34, .int .i64 t252)]) (fun s_ w' => (w'.cell? ⟨gb249, 0, none⟩ = some (.int .i64 x250000_1) ∧ w'.cell? ⟨gb249, 1, none⟩ = some (.slice Ao19 x250001_1.length co19)) ∧ (Kd.R k51 51 w' w.heap.size (fun _ => True) (.slice Ao19 x250001_1.length co19) x250001_1) ∧ (w'.heap[gb246]? = some (.cells #[.int .i64 0, .slice none 0 0] 35 (0, 0))) ∧ (w'.heap[gb249]? = some (.cells #[.int .i64 x250000_1, .slice Ao19 x250001_1.length co19] 35 (0, 0))) ∧ (IsS183 w0 w' g s0_0 t253) ∧ (KeepBut w w' g none) ∧ (Below w0.heap.size w0 w')) ?_ ?_
            rotate_left
            ·intro hJ4
             refine join_ (σ := Nat) 11 #[true, true, true, true, false, true, true, true, false, true, false, false, false, false, false, false, true, false, false, false] (fun s_ => [(5, .pointer (some ⟨s_, 0, none⟩))]) (fun s_ w' => (w'.cell? ⟨gb249, 0, none⟩ = some (.int .i64 x250000_1) ∧ w'.cell? ⟨gb249, 1, none⟩ = some (.slice Ao19 x250001_1.length co19)) ∧ (Kd.R k51 51 w' w.heap.size (fun _ => True) (.slice Ao19 x250001_1.length co19) x250001_1) ∧ (w'.heap[gb246]? = some (.cells #[.int .i64 0, .slice none 0 0] 35 (0, 0))) ∧ (w'.heap[gb249]? = some (.cells #[.int .i64 x250000_1, .slice Ao19 x250001_1.length co19] 35 (0, 0))) ∧ (w'.heap[s_]? = some (.cells #[.int .i64 0, .slice none 0 0] 35 (0, 0))) ∧ (w.heap.size ≤ s_) ∧ (w0.heap.size ≤ s_) ∧ (g ≠ s_) ∧ (s_ ≠ g) ∧ (gb246 ≠ s_) ∧ (s_ ≠ gb246) ∧ (gb249 ≠ s_) ∧ (s_ ≠ gb249) ∧ (IsS183 w0 w' g s0_0 x1001_1) ∧ (KeepBut w w' g none) ∧ (Below w0.heap.size w0 w')) ?_ ?_
             rotate_left
             ·intro hJ16
              refine two_ (i := 4) (j := 16) (Ni := some 34) (Nj := some 5) #[true, true, true, true, true, true, true, true, false, true, false, false, false, false, false, false, false, false, false, false] #[true, true, true, true, false, true, true, true, false, true, false, false, false, false, false, false, true, false, false, false] rfl rfl rfl rfl (two_of HT_.out (by kernel_rfl)) (by decide) (by decide) (fun K hK => ?_) (fun K hK => ?_)
              ·skip
               refine goes_ Try.func136 (by kernel_rfl) rfl #[.pointer (some ⟨g, 0, none⟩), .int .i64 x250000_1] (by rfl) rfl rfl (by (try simp only [List.map_toArray, List.map_cons, List.map_nil]); first | done | rfl | (simp only [List.length_drop, List.length_take]; rfl)) ?_
               with_reducible refine (spec_l1Rd_below.calls g s0_0 x1001_1 x250000_1 t252 t253 w0 _ ?side1 ?side2 A14.out).mono ?_
               (case side1 => repeat (first | (with_reducible first | exact HI0.out | apply IsS183.alloc | apply IsS183.drewN | apply IsS183.drew | apply IsS183.set_1 | refine IsS183.far ?_ NB0_246.out _ | refine IsS183.far ?_ NB0_249.out _) | exact HI0.out))
               (case side2 => repeat (first | (with_reducible first | exact HB.out | apply below_alloc | apply pw_below_drewN | apply below_drew1 | refine below_set ?_ (IsS183.ge HI0.out) | refine below_set ?_ GE246.out | refine below_set ?_ GE249.out) | exact HB.out))
               rintro e w21 ⟨rfl, hi, hb, hk⟩
               refine ⟨_, rfl, ?_⟩
               have n0_ := Aside0.mk (Kd.R_mono (Kd.R_keep (IsS183.apart (show IsS183 w0 _ g s0_0 x1001_1 from by repeat (first | (with_reducible first | exact HI0.out | apply IsS183.alloc | apply IsS183.drewN | apply IsS183.drew | apply IsS183.set_1 | refine IsS183.far ?_ NB0_246.out _ | refine IsS183.far ?_ NB0_249.out _) | exact HI0.out)) (rl HO_250001) (by decide)) hk (fun _ h => h.2)) (fun _ h => h.1))
               have n1_ := Aside0.mk (KeepBut.blk hk (g' := gb246) (o := .cells #[.int .i64 0, .slice none 0 0] 35 (0, 0)) (bk BK246) NB246_0.out (by simp))
               have n2_ := Aside0.mk (KeepBut.blk hk (g' := gb249) (o := .cells #[.int .i64 x250000_1, .slice Ao19 x250001_1.length co19] 35 (0, 0)) (bk BK249) NB249_0.out (by simp))
               have n3_ := Aside0.mk (KeepBut.trans (kp2 HK GW246 GW249) hk (.inl rfl))
               have n4_ := Aside0.mk (hb)
               have n5_ := Aside0.mk (hi)
               clear HO_250001
               clear BK246
               clear BK249
               clear HK
               clear HB
               clear HI0
               have HO_250001 := n0_
               have BK246 := n1_
               have BK249 := n2_
               have HK := n3_
               have HB := n4_
               have HI0 := n5_
               clear n0_ n1_ n2_ n3_ n4_ n5_
               (try clear hb)
               (try clear hb2)
               (try clear hk)
               (try clear hi)
               refine hK.out _ _ ⟨(blk_cell BK249.out 0).trans rfl, (blk_cell BK249.out 1).trans rfl⟩ (fun hHeld => ?_)
               clear hK K
               refine norm_ (a' := ?_) ?_ ?_
               rotate_left
               ·show Act.put _ (some 34) _ = _
                simp only [Act.put, List.setIfInBounds_toArray, List.set_cons_zero, List.set_cons_succ, i64_w, i32_w]
                rfl
               exact norm_ (by first | (simp only [putAll, Act.put, List.setIfInBounds_toArray, List.set_cons_zero, List.set_cons_succ]; done) | (simp only [putAll, Act.put, List.setIfInBounds_toArray, List.set_cons_zero, List.set_cons_succ]; rfl)) (hJ4 () _ ⟨hHeld, (rl HO_250001), (bk BK246), (bk BK249), (by repeat (first | (with_reducible first | exact HI0.out | apply IsS183.alloc | apply IsS183.drewN | apply IsS183.drew | apply IsS183.set_1 | refine IsS183.far ?_ NB0_246.out _ | refine IsS183.far ?_ NB0_249.out _) | exact HI0.out)), (kp2 HK GW246 GW249), (bs3 HB ⟨IsS183.ge HI0.out⟩ GE246 GE249)⟩)
              ·skip
               refine box_step ?hg (N := 5) ?hd (cs := #[.int .i64 0, .slice none 0 0]) (t := 35) ?hr ?_; (case hd => rfl); (case hg => rfl); (case hr => first | (go_simp; done) | (go_simp; rfl))
               intro gb264 hg w21 hbox hb
               have n0_ := Aside0.mk (Kd.R_below (rl HO_250001) hb)
               have n1_ := Aside0.mk (blk_below (g := gb246) (o := .cells #[.int .i64 0, .slice none 0 0] 35 (0, 0)) (bk BK246) hb)
               have n2_ := Aside0.mk (blk_below (g := gb249) (o := .cells #[.int .i64 x250000_1, .slice Ao19 x250001_1.length co19] 35 (0, 0)) (bk BK249) hb)
               have n3_ := Aside0.mk (IsS183.below (by repeat (first | (with_reducible first | exact HI0.out | apply IsS183.alloc | apply IsS183.drewN | apply IsS183.drew | apply IsS183.set_1 | refine IsS183.far ?_ NB0_246.out _ | refine IsS183.far ?_ NB0_249.out _) | exact HI0.out)) hb)
               have n4_ := Aside0.mk (KeepBut.trans (kp2 HK GW246 GW249) (KeepBut.of_below hb g none) (.inl rfl))
               have n5_ := Aside0.mk (below_step (bs3 HB ⟨IsS183.ge HI0.out⟩ GE246 GE249) hb)
               have n6_ := Aside0.mk (hbox)
               have n7_ := Aside0.mk ((by rw [hg]; exact (keep_size (w := w) (g := g) (row := none) (kp2 HK GW246 GW249)) : w.heap.size ≤ gb264))
               have n8_ := Aside0.mk ((Nat.le_trans HW0.out (by rw [hg]; exact (keep_size (w := w) (g := g) (row := none) (kp2 HK GW246 GW249)) : w.heap.size ≤ gb264) : w0.heap.size ≤ gb264))
               have n9_ := Aside0.mk ((by rw [hg]; exact Nat.ne_of_lt (blk_lt (g := gb246) (o := .cells #[.int .i64 0, .slice none 0 0] 35 (0, 0)) (bk BK246)) : gb246 ≠ gb264))
               have n10_ := Aside0.mk ((by rw [hg]; exact Nat.ne_of_gt (blk_lt (g := gb246) (o := .cells #[.int .i64 0, .slice none 0 0] 35 (0, 0)) (bk BK246)) : gb264 ≠ gb246))
               have n11_ := Aside0.mk ((by rw [hg]; exact Nat.ne_of_lt (blk_lt (g := gb249) (o := .cells #[.int .i64 x250000_1, .slice Ao19 x250001_1.length co19] 35 (0, 0)) (bk BK249)) : gb249 ≠ gb264))
               have n12_ := Aside0.mk ((by rw [hg]; exact Nat.ne_of_gt (blk_lt (g := gb249) (o := .cells #[.int .i64 x250000_1, .slice Ao19 x250001_1.length co19] 35 (0, 0)) (bk BK249)) : gb264 ≠ gb249))
               have n13_ := Aside0.mk ((by rw [hg]; exact Nat.ne_of_lt (IsS183.lt (show IsS183 w0 _ g s0_0 x1001_1 from by repeat (first | (with_reducible first | exact HI0.out | apply IsS183.alloc | apply IsS183.drewN | apply IsS183.drew | apply IsS183.set_1 | refine IsS183.far ?_ NB0_246.out _ | refine IsS183.far ?_ NB0_249.out _) | exact HI0.out))) : g ≠ gb264))
               have n14_ := Aside0.mk ((by rw [hg]; exact Nat.ne_of_gt (IsS183.lt (show IsS183 w0 _ g s0_0 x1001_1 from by repeat (first | (with_reducible first | exact HI0.out | apply IsS183.alloc | apply IsS183.drewN | apply IsS183.drew | apply IsS183.set_1 | refine IsS183.far ?_ NB0_246.out _ | refine IsS183.far ?_ NB0_249.out _) | exact HI0.out))) : gb264 ≠ g))
               clear HO_250001
               clear BK246
               clear BK249
               clear HI0
               clear HK
               clear HB
               have HO_250001 := n0_
               have BK246 := n1_
               have BK249 := n2_
               have HI0 := n3_
               have HK := n4_
               have HB := n5_
               have BK264 := n6_
               have GW264 := n7_
               have GE264 := n8_
               have NB246_264 := n9_
               have NB264_246 := n10_
               have NB249_264 := n11_
               have NB264_249 := n12_
               have NB0_264 := n13_
               have NB264_0 := n14_
               clear n0_ n1_ n2_ n3_ n4_ n5_ n6_ n7_ n8_ n9_ n10_ n11_ n12_ n13_ n14_
               clear hb hbox hg
               refine hK.out _ _ ⟨(blk_cell BK249.out 0).trans rfl, (blk_cell BK249.out 1).trans rfl⟩ (fun hHeld => ?_)
               clear hK K
               refine norm_ (a' := ?_) ?_ ?_
               rotate_left
               ·show Act.put _ (some 5) _ = _
                simp only [Act.put, List.setIfInBounds_toArray, List.set_cons_zero, List.set_cons_succ, i64_w, i32_w]
                rfl
               exact norm_ (by first | (simp only [putAll, Act.put, List.setIfInBounds_toArray, List.set_cons_zero, List.set_cons_succ]; done) | (simp only [putAll, Act.put, List.setIfInBounds_toArray, List.set_cons_zero, List.set_cons_succ]; rfl)) (hJ16 (gb264) _ ⟨hHeld, (rl HO_250001), (bk BK246), (bk BK249), (bk BK264), GW264.out, GE264.out, NB0_264.out, NB264_0.out, NB246_264.out, NB264_246.out, NB249_264.out, NB264_249.out, (by repeat (first | (with_reducible first | exact HI0.out | apply IsS183.alloc | apply IsS183.drewN | apply IsS183.drew | apply IsS183.set_1 | refine IsS183.far ?_ NB0_246.out _ | refine IsS183.far ?_ NB0_249.out _ | refine IsS183.far ?_ NB0_264.out _) | exact HI0.out)), (kp3 HK GW246 GW249 GW264), (bs4 HB ⟨IsS183.ge HI0.out⟩ GE246 GE249 GE264)⟩)
             ·skip
              rintro gb264 w22 ⟨hS_, h0_, h1_, h2_, h3_, h4_, h5_, h6_, h7_, h8_, h9_, h10_, h11_, h12_, h13_, h14_⟩
              have n0_ : Aside0 (Kd.R k51 51 w22 w.heap.size (fun _ => True) (.slice Ao19 x250001_1.length co19) x250001_1) := ⟨h0_⟩
              have n1_ : Aside0 (w22.heap[gb246]? = some (.cells #[.int .i64 0, .slice none 0 0] 35 (0, 0))) := ⟨h1_⟩
              have n2_ : Aside0 (w22.heap[gb249]? = some (.cells #[.int .i64 x250000_1, .slice Ao19 x250001_1.length co19] 35 (0, 0))) := ⟨h2_⟩
              have n3_ : Aside0 (w22.heap[gb264]? = some (.cells #[.int .i64 0, .slice none 0 0] 35 (0, 0))) := ⟨h3_⟩
              have n4_ : Aside0 (w.heap.size ≤ gb264) := ⟨h4_⟩
              have n5_ : Aside0 (w0.heap.size ≤ gb264) := ⟨h5_⟩
              have n6_ : Aside0 (g ≠ gb264) := ⟨h6_⟩
              have n7_ : Aside0 (gb264 ≠ g) := ⟨h7_⟩
              have n8_ : Aside0 (gb246 ≠ gb264) := ⟨h8_⟩
              have n9_ : Aside0 (gb264 ≠ gb246) := ⟨h9_⟩
              have n10_ : Aside0 (gb249 ≠ gb264) := ⟨h10_⟩
              have n11_ : Aside0 (gb264 ≠ gb249) := ⟨h11_⟩
              have n12_ : Aside0 (IsS183 w0 w22 g s0_0 x1001_1) := ⟨h12_⟩
              have n13_ : Aside0 (KeepBut w w22 g none) := ⟨h13_⟩
              have n14_ : Aside0 (Below w0.heap.size w0 w22) := ⟨h14_⟩
              clear HO_250001
              clear BK246
              clear BK249
              clear HI0
              clear HK
              clear HB
              clear h0_ h1_ h2_ h3_ h4_ h5_ h6_ h7_ h8_ h9_ h10_ h11_ h12_ h13_ h14_
              have HO_250001 := n0_
              have BK246 := n1_
              have BK249 := n2_
              have BK264 := n3_
              have GW264 := n4_
              have GE264 := n5_
              have NB0_264 := n6_
              have NB264_0 := n7_
              have NB246_264 := n8_
              have NB264_246 := n9_
              have NB249_264 := n10_
              have NB264_249 := n11_
              have HI0 := n12_
              have HK := n13_
              have HB := n14_
              clear n0_ n1_ n2_ n3_ n4_ n5_ n6_ n7_ n8_ n9_ n10_ n11_ n12_ n13_ n14_
              have hHeld : w22.cell? ⟨gb249, 0, none⟩ = some (.int .i64 x250000_1) ∧ w22.cell? ⟨gb249, 1, none⟩ = some (.slice Ao19 x250001_1.length co19) := hS_
              refine norm_ (a' := ?_) ?_ ?_
              rotate_left
              ·simp only [putAll, Act.put, List.setIfInBounds_toArray, List.set_cons_zero, List.set_cons_succ]
               rfl
              refine one_ (i := 4) (N := some 34) #[true, true, true, true, true, true, true, true, false, true, false, false, false, false, false, false, true, false, false, false] rfl rfl (one_of HT_.out (by kernel_rfl)) (by decide) (fun K hK => ?_)
              refine goes_ Try.func136 (by kernel_rfl) rfl #[.pointer (some ⟨g, 0, none⟩), .int .i64 x250000_1] (by rfl) rfl rfl (by (try simp only [List.map_toArray, List.map_cons, List.map_nil]); first | done | rfl | (simp only [List.length_drop, List.length_take]; rfl)) ?_
              with_reducible refine (spec_l1Rd_below.calls g s0_0 x1001_1 x250000_1 t252 t253 w0 _ ?side1 ?side2 A14.out).mono ?_
              (case side1 => repeat (first | (with_reducible first | exact HI0.out | apply IsS183.alloc | apply IsS183.drewN | apply IsS183.drew | apply IsS183.set_1 | refine IsS183.far ?_ NB0_246.out _ | refine IsS183.far ?_ NB0_249.out _ | refine IsS183.far ?_ NB0_264.out _) | exact HI0.out))
              (case side2 => repeat (first | (with_reducible first | exact HB.out | apply below_alloc | apply pw_below_drewN | apply below_drew1 | refine below_set ?_ (IsS183.ge HI0.out) | refine below_set ?_ GE246.out | refine below_set ?_ GE249.out | refine below_set ?_ GE264.out) | exact HB.out))
              rintro e w23 ⟨rfl, hi, hb, hk⟩
              refine ⟨_, rfl, ?_⟩
              have n0_ := Aside0.mk (Kd.R_mono (Kd.R_keep (IsS183.apart (show IsS183 w0 _ g s0_0 x1001_1 from by repeat (first | (with_reducible first | exact HI0.out | apply IsS183.alloc | apply IsS183.drewN | apply IsS183.drew | apply IsS183.set_1 | refine IsS183.far ?_ NB0_246.out _ | refine IsS183.far ?_ NB0_249.out _ | refine IsS183.far ?_ NB0_264.out _) | exact HI0.out)) (rl HO_250001) (by decide)) hk (fun _ h => h.2)) (fun _ h => h.1))
              have n1_ := Aside0.mk (KeepBut.blk hk (g' := gb246) (o := .cells #[.int .i64 0, .slice none 0 0] 35 (0, 0)) (bk BK246) NB246_0.out (by simp))
              have n2_ := Aside0.mk (KeepBut.blk hk (g' := gb249) (o := .cells #[.int .i64 x250000_1, .slice Ao19 x250001_1.length co19] 35 (0, 0)) (bk BK249) NB249_0.out (by simp))
              have n3_ := Aside0.mk (KeepBut.blk hk (g' := gb264) (o := .cells #[.int .i64 0, .slice none 0 0] 35 (0, 0)) (bk BK264) NB264_0.out (by simp))
              have n4_ := Aside0.mk (KeepBut.trans (kp3 HK GW246 GW249 GW264) hk (.inl rfl))
              have n5_ := Aside0.mk (hb)
              have n6_ := Aside0.mk (hi)
              clear HO_250001
              clear BK246
              clear BK249
              clear BK264
              clear HK
              clear HB
              clear HI0
              have HO_250001 := n0_
              have BK246 := n1_
              have BK249 := n2_
              have BK264 := n3_
              have HK := n4_
              have HB := n5_
              have HI0 := n6_
              clear n0_ n1_ n2_ n3_ n4_ n5_ n6_
              (try clear hb)
              (try clear hb2)
              (try clear hk)
              (try clear hi)
              refine hK.out _ _ ⟨(blk_cell BK249.out 0).trans rfl, (blk_cell BK249.out 1).trans rfl⟩ (fun hHeld => ?_)
              clear hK K
              refine norm_ (a' := ?_) ?_ ?_
              rotate_left
              ·show Act.put _ (some 34) _ = _
               simp only [Act.put, List.setIfInBounds_toArray, List.set_cons_zero, List.set_cons_succ, i64_w, i32_w]
               rfl
              exact norm_ (by first | (simp only [putAll, Act.put, List.setIfInBounds_toArray, List.set_cons_zero, List.set_cons_succ]; done) | (simp only [putAll, Act.put, List.setIfInBounds_toArray, List.set_cons_zero, List.set_cons_succ]; rfl)) (hJ4_16 (gb264) _ ⟨hHeld, (rl HO_250001), (bk BK246), (bk BK249), (bk BK264), GW264.out, GE264.out, NB0_264.out, NB264_0.out, NB246_264.out, NB264_246.out, NB249_264.out, NB264_249.out, (by repeat (first | (with_reducible first | exact HI0.out | apply IsS183.alloc | apply IsS183.drewN | apply IsS183.drew | apply IsS183.set_1 | refine IsS183.far ?_ NB0_246.out _ | refine IsS183.far ?_ NB0_249.out _ | refine IsS183.far ?_ NB0_264.out _) | exact HI0.out)), (kp3 HK GW246 GW249 GW264), (bs4 HB ⟨IsS183.ge HI0.out⟩ GE246 GE249 GE264)⟩)
            ·skip
             rintro _ w22 ⟨hS_, h0_, h1_, h2_, h3_, h4_, h5_⟩
             have n0_ : Aside0 (Kd.R k51 51 w22 w.heap.size (fun _ => True) (.slice Ao19 x250001_1.length co19) x250001_1) := ⟨h0_⟩
             have n1_ : Aside0 (w22.heap[gb246]? = some (.cells #[.int .i64 0, .slice none 0 0] 35 (0, 0))) := ⟨h1_⟩
             have n2_ : Aside0 (w22.heap[gb249]? = some (.cells #[.int .i64 x250000_1, .slice Ao19 x250001_1.length co19] 35 (0, 0))) := ⟨h2_⟩
             have n3_ : Aside0 (IsS183 w0 w22 g s0_0 t253) := ⟨h3_⟩
             have n4_ : Aside0 (KeepBut w w22 g none) := ⟨h4_⟩
             have n5_ : Aside0 (Below w0.heap.size w0 w22) := ⟨h5_⟩
             clear HO_250001
             clear BK246
             clear BK249
             clear HI0
             clear HK
             clear HB
             clear h0_ h1_ h2_ h3_ h4_ h5_
             have HO_250001 := n0_
             have BK246 := n1_
             have BK249 := n2_
             have HI0 := n3_
             have HK := n4_
             have HB := n5_
             clear n0_ n1_ n2_ n3_ n4_ n5_
             have hHeld : w22.cell? ⟨gb249, 0, none⟩ = some (.int .i64 x250000_1) ∧ w22.cell? ⟨gb249, 1, none⟩ = some (.slice Ao19 x250001_1.length co19) := hS_
             refine norm_ (a' := ?_) ?_ ?_
             rotate_left
             ·simp only [putAll, Act.put, List.setIfInBounds_toArray, List.set_cons_zero, List.set_cons_succ]
              rfl
             refine two_ (i := 8) (j := 16) (Ni := some 38) (Nj := some 5) #[true, true, true, true, true, true, true, true, true, true, false, false, false, false, false, false, false, false, false, false] #[true, true, true, true, true, true, true, true, false, true, false, false, false, false, false, false, true, false, false, false] rfl rfl rfl rfl (two_of HT_.out (by kernel_rfl)) (by decide) (by decide) (fun K hK => ?_) (fun K hK => ?_)
             ·skip
              refine goes_ Try.func136 (by kernel_rfl) rfl #[.pointer (some ⟨g, 0, none⟩), .int .i64 x250000_1] (by rfl) rfl rfl (by (try simp only [List.map_toArray, List.map_cons, List.map_nil]); first | done | rfl | (simp only [List.length_drop, List.length_take]; rfl)) ?_
              with_reducible refine (spec_l1Rd_below.calls g s0_0 t253 x250000_1 t254 t255 w0 _ ?side1 ?side2 A15.out).mono ?_
              (case side1 => repeat (first | (with_reducible first | exact HI0.out | apply IsS183.alloc | apply IsS183.drewN | apply IsS183.drew | apply IsS183.set_1 | refine IsS183.far ?_ NB0_246.out _ | refine IsS183.far ?_ NB0_249.out _) | exact HI0.out))
              (case side2 => repeat (first | (with_reducible first | exact HB.out | apply below_alloc | apply pw_below_drewN | apply below_drew1 | refine below_set ?_ (IsS183.ge HI0.out) | refine below_set ?_ GE246.out | refine below_set ?_ GE249.out) | exact HB.out))
              rintro e w23 ⟨rfl, hi, hb, hk⟩
              refine ⟨_, rfl, ?_⟩
              have n0_ := Aside0.mk (Kd.R_mono (Kd.R_keep (IsS183.apart (show IsS183 w0 _ g s0_0 t253 from by repeat (first | (with_reducible first | exact HI0.out | apply IsS183.alloc | apply IsS183.drewN | apply IsS183.drew | apply IsS183.set_1 | refine IsS183.far ?_ NB0_246.out _ | refine IsS183.far ?_ NB0_249.out _) | exact HI0.out)) (rl HO_250001) (by decide)) hk (fun _ h => h.2)) (fun _ h => h.1))
              have n1_ := Aside0.mk (KeepBut.blk hk (g' := gb246) (o := .cells #[.int .i64 0, .slice none 0 0] 35 (0, 0)) (bk BK246) NB246_0.out (by simp))
              have n2_ := Aside0.mk (KeepBut.blk hk (g' := gb249) (o := .cells #[.int .i64 x250000_1, .slice Ao19 x250001_1.length co19] 35 (0, 0)) (bk BK249) NB249_0.out (by simp))
              have n3_ := Aside0.mk (KeepBut.trans (kp2 HK GW246 GW249) hk (.inl rfl))
              have n4_ := Aside0.mk (hb)
              have n5_ := Aside0.mk (hi)
              clear HO_250001
              clear BK246
              clear BK249
              clear HK
              clear HB
              clear HI0
              have HO_250001 := n0_
              have BK246 := n1_
              have BK249 := n2_
              have HK := n3_
              have HB := n4_
              have HI0 := n5_
              clear n0_ n1_ n2_ n3_ n4_ n5_
              (try clear hb)
              (try clear hb2)
              (try clear hk)
              (try clear hi)
              refine hK.out _ _ ⟨(blk_cell BK249.out 0).trans rfl, (blk_cell BK249.out 1).trans rfl⟩ (fun hHeld => ?_)
              clear hK K
              refine norm_ (a' := ?_) ?_ ?_
              rotate_left
              ·show Act.put _ (some 38) _ = _
               simp only [Act.put, List.setIfInBounds_toArray, List.set_cons_zero, List.set_cons_succ, i64_w, i32_w]
               rfl
              exact norm_ (by first | (simp only [putAll, Act.put, List.setIfInBounds_toArray, List.set_cons_zero, List.set_cons_succ]; done) | (simp only [putAll, Act.put, List.setIfInBounds_toArray, List.set_cons_zero, List.set_cons_succ]; rfl)) (hJ4_8 () _ ⟨hHeld, (rl HO_250001), (bk BK246), (bk BK249), (by repeat (first | (with_reducible first | exact HI0.out | apply IsS183.alloc | apply IsS183.drewN | apply IsS183.drew | apply IsS183.set_1 | refine IsS183.far ?_ NB0_246.out _ | refine IsS183.far ?_ NB0_249.out _) | exact HI0.out)), (kp2 HK GW246 GW249), (bs3 HB ⟨IsS183.ge HI0.out⟩ GE246 GE249)⟩)
             ·skip
              refine box_step ?hg (N := 5) ?hd (cs := #[.int .i64 0, .slice none 0 0]) (t := 35) ?hr ?_; (case hd => rfl); (case hg => rfl); (case hr => first | (go_simp; done) | (go_simp; rfl))
              intro gb264 hg w23 hbox hb
              have n0_ := Aside0.mk (Kd.R_below (rl HO_250001) hb)
              have n1_ := Aside0.mk (blk_below (g := gb246) (o := .cells #[.int .i64 0, .slice none 0 0] 35 (0, 0)) (bk BK246) hb)
              have n2_ := Aside0.mk (blk_below (g := gb249) (o := .cells #[.int .i64 x250000_1, .slice Ao19 x250001_1.length co19] 35 (0, 0)) (bk BK249) hb)
              have n3_ := Aside0.mk (IsS183.below (by repeat (first | (with_reducible first | exact HI0.out | apply IsS183.alloc | apply IsS183.drewN | apply IsS183.drew | apply IsS183.set_1 | refine IsS183.far ?_ NB0_246.out _ | refine IsS183.far ?_ NB0_249.out _) | exact HI0.out)) hb)
              have n4_ := Aside0.mk (KeepBut.trans (kp2 HK GW246 GW249) (KeepBut.of_below hb g none) (.inl rfl))
              have n5_ := Aside0.mk (below_step (bs3 HB ⟨IsS183.ge HI0.out⟩ GE246 GE249) hb)
              have n6_ := Aside0.mk (hbox)
              have n7_ := Aside0.mk ((by rw [hg]; exact (keep_size (w := w) (g := g) (row := none) (kp2 HK GW246 GW249)) : w.heap.size ≤ gb264))
              have n8_ := Aside0.mk ((Nat.le_trans HW0.out (by rw [hg]; exact (keep_size (w := w) (g := g) (row := none) (kp2 HK GW246 GW249)) : w.heap.size ≤ gb264) : w0.heap.size ≤ gb264))
              have n9_ := Aside0.mk ((by rw [hg]; exact Nat.ne_of_lt (blk_lt (g := gb246) (o := .cells #[.int .i64 0, .slice none 0 0] 35 (0, 0)) (bk BK246)) : gb246 ≠ gb264))
              have n10_ := Aside0.mk ((by rw [hg]; exact Nat.ne_of_gt (blk_lt (g := gb246) (o := .cells #[.int .i64 0, .slice none 0 0] 35 (0, 0)) (bk BK246)) : gb264 ≠ gb246))
              have n11_ := Aside0.mk ((by rw [hg]; exact Nat.ne_of_lt (blk_lt (g := gb249) (o := .cells #[.int .i64 x250000_1, .slice Ao19 x250001_1.length co19] 35 (0, 0)) (bk BK249)) : gb249 ≠ gb264))
              have n12_ := Aside0.mk ((by rw [hg]; exact Nat.ne_of_gt (blk_lt (g := gb249) (o := .cells #[.int .i64 x250000_1, .slice Ao19 x250001_1.length co19] 35 (0, 0)) (bk BK249)) : gb264 ≠ gb249))
              have n13_ := Aside0.mk ((by rw [hg]; exact Nat.ne_of_lt (IsS183.lt (show IsS183 w0 _ g s0_0 t253 from by repeat (first | (with_reducible first | exact HI0.out | apply IsS183.alloc | apply IsS183.drewN | apply IsS183.drew | apply IsS183.set_1 | refine IsS183.far ?_ NB0_246.out _ | refine IsS183.far ?_ NB0_249.out _) | exact HI0.out))) : g ≠ gb264))
              have n14_ := Aside0.mk ((by rw [hg]; exact Nat.ne_of_gt (IsS183.lt (show IsS183 w0 _ g s0_0 t253 from by repeat (first | (with_reducible first | exact HI0.out | apply IsS183.alloc | apply IsS183.drewN | apply IsS183.drew | apply IsS183.set_1 | refine IsS183.far ?_ NB0_246.out _ | refine IsS183.far ?_ NB0_249.out _) | exact HI0.out))) : gb264 ≠ g))
              clear HO_250001
              clear BK246
              clear BK249
              clear HI0
              clear HK
              clear HB
              have HO_250001 := n0_
              have BK246 := n1_
              have BK249 := n2_
              have HI0 := n3_
              have HK := n4_
              have HB := n5_
              have BK264 := n6_
              have GW264 := n7_
              have GE264 := n8_
              have NB246_264 := n9_
              have NB264_246 := n10_
              have NB249_264 := n11_
              have NB264_249 := n12_
              have NB0_264 := n13_
              have NB264_0 := n14_
              clear n0_ n1_ n2_ n3_ n4_ n5_ n6_ n7_ n8_ n9_ n10_ n11_ n12_ n13_ n14_
              clear hb hbox hg
              refine hK.out _ _ ⟨(blk_cell BK249.out 0).trans rfl, (blk_cell BK249.out 1).trans rfl⟩ (fun hHeld => ?_)
              clear hK K
              refine norm_ (a' := ?_) ?_ ?_
              rotate_left
              ·show Act.put _ (some 5) _ = _
               simp only [Act.put, List.setIfInBounds_toArray, List.set_cons_zero, List.set_cons_succ, i64_w, i32_w]
               rfl
              exact norm_ (by first | (simp only [putAll, Act.put, List.setIfInBounds_toArray, List.set_cons_zero, List.set_cons_succ]; done) | (simp only [putAll, Act.put, List.setIfInBounds_toArray, List.set_cons_zero, List.set_cons_succ]; rfl)) (hJ4_16 (gb264) _ ⟨hHeld, (rl HO_250001), (bk BK246), (bk BK249), (bk BK264), GW264.out, GE264.out, NB0_264.out, NB264_0.out, NB246_264.out, NB264_246.out, NB249_264.out, NB264_249.out, (by repeat (first | (with_reducible first | exact HI0.out | apply IsS183.alloc | apply IsS183.drewN | apply IsS183.drew | apply IsS183.set_1 | refine IsS183.far ?_ NB0_246.out _ | refine IsS183.far ?_ NB0_249.out _ | refine IsS183.far ?_ NB0_264.out _) | exact HI0.out)), (kp3 HK GW246 GW249 GW264), (bs4 HB ⟨IsS183.ge HI0.out⟩ GE246 GE249 GE264)⟩)
           ·skip
            rintro gb264 w23 ⟨hS_, h0_, h1_, h2_, h3_, h4_, h5_, h6_, h7_, h8_, h9_, h10_, h11_, h12_, h13_, h14_⟩
            have n0_ : Aside0 (Kd.R k51 51 w23 w.heap.size (fun _ => True) (.slice Ao19 x250001_1.length co19) x250001_1) := ⟨h0_⟩
            have n1_ : Aside0 (w23.heap[gb246]? = some (.cells #[.int .i64 0, .slice none 0 0] 35 (0, 0))) := ⟨h1_⟩
            have n2_ : Aside0 (w23.heap[gb249]? = some (.cells #[.int .i64 x250000_1, .slice Ao19 x250001_1.length co19] 35 (0, 0))) := ⟨h2_⟩
            have n3_ : Aside0 (w23.heap[gb264]? = some (.cells #[.int .i64 0, .slice none 0 0] 35 (0, 0))) := ⟨h3_⟩
            have n4_ : Aside0 (w.heap.size ≤ gb264) := ⟨h4_⟩
            have n5_ : Aside0 (w0.heap.size ≤ gb264) := ⟨h5_⟩
            have n6_ : Aside0 (g ≠ gb264) := ⟨h6_⟩
            have n7_ : Aside0 (gb264 ≠ g) := ⟨h7_⟩
            have n8_ : Aside0 (gb246 ≠ gb264) := ⟨h8_⟩
            have n9_ : Aside0 (gb264 ≠ gb246) := ⟨h9_⟩
            have n10_ : Aside0 (gb249 ≠ gb264) := ⟨h10_⟩
            have n11_ : Aside0 (gb264 ≠ gb249) := ⟨h11_⟩
            have n12_ : Aside0 (IsS183 w0 w23 g s0_0 t253) := ⟨h12_⟩
            have n13_ : Aside0 (KeepBut w w23 g none) := ⟨h13_⟩
            have n14_ : Aside0 (Below w0.heap.size w0 w23) := ⟨h14_⟩
            clear HO_250001
            clear BK246
            clear BK249
            clear HI0
            clear HK
            clear HB
            clear h0_ h1_ h2_ h3_ h4_ h5_ h6_ h7_ h8_ h9_ h10_ h11_ h12_ h13_ h14_
            have HO_250001 := n0_
            have BK246 := n1_
            have BK249 := n2_
            have BK264 := n3_
            have GW264 := n4_
            have GE264 := n5_
            have NB0_264 := n6_
            have NB264_0 := n7_
            have NB246_264 := n8_
            have NB264_246 := n9_
            have NB249_264 := n10_
            have NB264_249 := n11_
            have HI0 := n12_
            have HK := n13_
            have HB := n14_
            clear n0_ n1_ n2_ n3_ n4_ n5_ n6_ n7_ n8_ n9_ n10_ n11_ n12_ n13_ n14_
            have hHeld : w23.cell? ⟨gb249, 0, none⟩ = some (.int .i64 x250000_1) ∧ w23.cell? ⟨gb249, 1, none⟩ = some (.slice Ao19 x250001_1.length co19) := hS_
            refine norm_ (a' := ?_) ?_ ?_
            rotate_left
            ·simp only [putAll, Act.put, List.setIfInBounds_toArray, List.set_cons_zero, List.set_cons_succ]
             rfl
            refine one_ (i := 8) (N := some 38) #[true, true, true, true, true, true, true, true, true, true, false, false, false, false, false, false, true, false, false, false] rfl rfl (one_of HT_.out (by kernel_rfl)) (by decide) (fun K hK => ?_)
            refine goes_ Try.func136 (by kernel_rfl) rfl #[.pointer (some ⟨g, 0, none⟩), .int .i64 x250000_1] (by rfl) rfl rfl (by (try simp only [List.map_toArray, List.map_cons, List.map_nil]); first | done | rfl | (simp only [List.length_drop, List.length_take]; rfl)) ?_
            with_reducible refine (spec_l1Rd_below.calls g s0_0 t253 x250000_1 t254 t255 w0 _ ?side1 ?side2 A15.out).mono ?_
            (case side1 => repeat (first | (with_reducible first | exact HI0.out | apply IsS183.alloc | apply IsS183.drewN | apply IsS183.drew | apply IsS183.set_1 | refine IsS183.far ?_ NB0_246.out _ | refine IsS183.far ?_ NB0_249.out _ | refine IsS183.far ?_ NB0_264.out _) | exact HI0.out))
            (case side2 => repeat (first | (with_reducible first | exact HB.out | apply below_alloc | apply pw_below_drewN | apply below_drew1 | refine below_set ?_ (IsS183.ge HI0.out) | refine below_set ?_ GE246.out | refine below_set ?_ GE249.out | refine below_set ?_ GE264.out) | exact HB.out))
            rintro e w24 ⟨rfl, hi, hb, hk⟩
            refine ⟨_, rfl, ?_⟩
            have n0_ := Aside0.mk (Kd.R_mono (Kd.R_keep (IsS183.apart (show IsS183 w0 _ g s0_0 t253 from by repeat (first | (with_reducible first | exact HI0.out | apply IsS183.alloc | apply IsS183.drewN | apply IsS183.drew | apply IsS183.set_1 | refine IsS183.far ?_ NB0_246.out _ | refine IsS183.far ?_ NB0_249.out _ | refine IsS183.far ?_ NB0_264.out _) | exact HI0.out)) (rl HO_250001) (by decide)) hk (fun _ h => h.2)) (fun _ h => h.1))
            have n1_ := Aside0.mk (KeepBut.blk hk (g' := gb246) (o := .cells #[.int .i64 0, .slice none 0 0] 35 (0, 0)) (bk BK246) NB246_0.out (by simp))
            have n2_ := Aside0.mk (KeepBut.blk hk (g' := gb249) (o := .cells #[.int .i64 x250000_1, .slice Ao19 x250001_1.length co19] 35 (0, 0)) (bk BK249) NB249_0.out (by simp))
            have n3_ := Aside0.mk (KeepBut.blk hk (g' := gb264) (o := .cells #[.int .i64 0, .slice none 0 0] 35 (0, 0)) (bk BK264) NB264_0.out (by simp))
            have n4_ := Aside0.mk (KeepBut.trans (kp3 HK GW246 GW249 GW264) hk (.inl rfl))
            have n5_ := Aside0.mk (hb)
            have n6_ := Aside0.mk (hi)
            clear HO_250001
            clear BK246
            clear BK249
            clear BK264
            clear HK
            clear HB
            clear HI0
            have HO_250001 := n0_
            have BK246 := n1_
            have BK249 := n2_
            have BK264 := n3_
            have HK := n4_
            have HB := n5_
            have HI0 := n6_
            clear n0_ n1_ n2_ n3_ n4_ n5_ n6_
            (try clear hb)
            (try clear hb2)
            (try clear hk)
            (try clear hi)
            refine hK.out _ _ ⟨(blk_cell BK249.out 0).trans rfl, (blk_cell BK249.out 1).trans rfl⟩ (fun hHeld => ?_)
            clear hK K
            refine norm_ (a' := ?_) ?_ ?_
            rotate_left
            ·show Act.put _ (some 38) _ = _
             simp only [Act.put, List.setIfInBounds_toArray, List.set_cons_zero, List.set_cons_succ, i64_w, i32_w]
             rfl
            exact norm_ (by first | (simp only [putAll, Act.put, List.setIfInBounds_toArray, List.set_cons_zero, List.set_cons_succ]; done) | (simp only [putAll, Act.put, List.setIfInBounds_toArray, List.set_cons_zero, List.set_cons_succ]; rfl)) (hJ4_8_16 (gb264) _ ⟨hHeld, (rl HO_250001), (bk BK246), (bk BK249), (bk BK264), GW264.out, GE264.out, NB0_264.out, NB264_0.out, NB246_264.out, NB264_246.out, NB249_264.out, NB264_249.out, (by repeat (first | (with_reducible first | exact HI0.out | apply IsS183.alloc | apply IsS183.drewN | apply IsS183.drew | apply IsS183.set_1 | refine IsS183.far ?_ NB0_246.out _ | refine IsS183.far ?_ NB0_249.out _ | refine IsS183.far ?_ NB0_264.out _) | exact HI0.out)), (kp3 HK GW246 GW249 GW264), (bs4 HB ⟨IsS183.ge HI0.out⟩ GE246 GE249 GE264)⟩)
          ·skip
           rintro _ w23 ⟨hS_, h0_, h1_, h2_, h3_, h4_, h5_⟩
           have n0_ : Aside0 (Kd.R k51 51 w23 w.heap.size (fun _ => True) (.slice Ao19 x250001_1.length co19) x250001_1) := ⟨h0_⟩
           have n1_ : Aside0 (w23.heap[gb246]? = some (.cells #[.int .i64 0, .slice none 0 0] 35 (0, 0))) := ⟨h1_⟩
           have n2_ : Aside0 (w23.heap[gb249]? = some (.cells #[.int .i64 x250000_1, .slice Ao19 x250001_1.length co19] 35 (0, 0))) := ⟨h2_⟩
           have n3_ : Aside0 (IsS183 w0 w23 g s0_0 t255) := ⟨h3_⟩
           have n4_ : Aside0 (KeepBut w w23 g none) := ⟨h4_⟩
           have n5_ : Aside0 (Below w0.heap.size w0 w23) := ⟨h5_⟩
           clear HO_250001
           clear BK246
           clear BK249
           clear HI0
           clear HK
           clear HB
           clear h0_ h1_ h2_ h3_ h4_ h5_
           have HO_250001 := n0_
           have BK246 := n1_
           have BK249 := n2_
           have HI0 := n3_
           have HK := n4_
           have HB := n5_
           clear n0_ n1_ n2_ n3_ n4_ n5_
           have hHeld : w23.cell? ⟨gb249, 0, none⟩ = some (.int .i64 x250000_1) ∧ w23.cell? ⟨gb249, 1, none⟩ = some (.slice Ao19 x250001_1.length co19) := hS_
           refine norm_ (a' := ?_) ?_ ?_
           rotate_left
           ·simp only [putAll, Act.put, List.setIfInBounds_toArray, List.set_cons_zero, List.set_cons_succ]
            rfl
           refine two_ (i := 10) (j := 16) (Ni := some 40) (Nj := some 5) #[true, true, true, true, true, true, true, true, true, true, true, false, false, false, false, false, false, false, false, false] #[true, true, true, true, true, true, true, true, true, true, false, false, false, false, false, false, true, false, false, false] rfl rfl rfl rfl (two_of HT_.out (by kernel_rfl)) (by decide) (by decide) (fun K hK => ?_) (fun K hK => ?_)
           ·skip
            refine goes_ Try.func136 (by kernel_rfl) rfl #[.pointer (some ⟨g, 0, none⟩), .int .i64 9] (by rfl) rfl rfl (by (try simp only [List.map_toArray, List.map_cons, List.map_nil]); first | done | rfl | (simp only [List.length_drop, List.length_take]; rfl)) ?_
            with_reducible refine (spec_l1Rd_below.calls g s0_0 t255 9 t256 t257 w0 _ ?side1 ?side2 A16.out).mono ?_
            (case side1 => repeat (first | (with_reducible first | exact HI0.out | apply IsS183.alloc | apply IsS183.drewN | apply IsS183.drew | apply IsS183.set_1 | refine IsS183.far ?_ NB0_246.out _ | refine IsS183.far ?_ NB0_249.out _) | exact HI0.out))
            (case side2 => repeat (first | (with_reducible first | exact HB.out | apply below_alloc | apply pw_below_drewN | apply below_drew1 | refine below_set ?_ (IsS183.ge HI0.out) | refine below_set ?_ GE246.out | refine below_set ?_ GE249.out) | exact HB.out))
            rintro e w24 ⟨rfl, hi, hb, hk⟩
            refine ⟨_, rfl, ?_⟩
            have n0_ := Aside0.mk (Kd.R_mono (Kd.R_keep (IsS183.apart (show IsS183 w0 _ g s0_0 t255 from by repeat (first | (with_reducible first | exact HI0.out | apply IsS183.alloc | apply IsS183.drewN | apply IsS183.drew | apply IsS183.set_1 | refine IsS183.far ?_ NB0_246.out _ | refine IsS183.far ?_ NB0_249.out _) | exact HI0.out)) (rl HO_250001) (by decide)) hk (fun _ h => h.2)) (fun _ h => h.1))
            have n1_ := Aside0.mk (KeepBut.blk hk (g' := gb246) (o := .cells #[.int .i64 0, .slice none 0 0] 35 (0, 0)) (bk BK246) NB246_0.out (by simp))
            have n2_ := Aside0.mk (KeepBut.blk hk (g' := gb249) (o := .cells #[.int .i64 x250000_1, .slice Ao19 x250001_1.length co19] 35 (0, 0)) (bk BK249) NB249_0.out (by simp))
            have n3_ := Aside0.mk (KeepBut.trans (kp2 HK GW246 GW249) hk (.inl rfl))
            have n4_ := Aside0.mk (hb)
            have n5_ := Aside0.mk (hi)
            clear HO_250001
            clear BK246
            clear BK249
            clear HK
            clear HB
            clear HI0
            have HO_250001 := n0_
            have BK246 := n1_
            have BK249 := n2_
            have HK := n3_
            have HB := n4_
            have HI0 := n5_
            clear n0_ n1_ n2_ n3_ n4_ n5_
            (try clear hb)
            (try clear hb2)
            (try clear hk)
            (try clear hi)
            refine hK.out _ _ ⟨(blk_cell BK249.out 0).trans rfl, (blk_cell BK249.out 1).trans rfl⟩ (fun hHeld => ?_)
            clear hK K
            refine norm_ (a' := ?_) ?_ ?_
            rotate_left
            ·show Act.put _ (some 40) _ = _
             simp only [Act.put, List.setIfInBounds_toArray, List.set_cons_zero, List.set_cons_succ, i64_w, i32_w]
             rfl
            exact norm_ (by first | (simp only [putAll, Act.put, List.setIfInBounds_toArray, List.set_cons_zero, List.set_cons_succ]; done) | (simp only [putAll, Act.put, List.setIfInBounds_toArray, List.set_cons_zero, List.set_cons_succ]; rfl)) (hJ4_8_10 () _ ⟨hHeld, (rl HO_250001), (bk BK246), (bk BK249), (by repeat (first | (with_reducible first | exact HI0.out | apply IsS183.alloc | apply IsS183.drewN | apply IsS183.drew | apply IsS183.set_1 | refine IsS183.far ?_ NB0_246.out _ | refine IsS183.far ?_ NB0_249.out _) | exact HI0.out)), (kp2 HK GW246 GW249), (bs3 HB ⟨IsS183.ge HI0.out⟩ GE246 GE249)⟩)
           ·skip
            refine box_step ?hg (N := 5) ?hd (cs := #[.int .i64 0, .slice none 0 0]) (t := 35) ?hr ?_; (case hd => rfl); (case hg => rfl); (case hr => first | (go_simp; done) | (go_simp; rfl))
            intro gb264 hg w24 hbox hb
            have n0_ := Aside0.mk (Kd.R_below (rl HO_250001) hb)
            have n1_ := Aside0.mk (blk_below (g := gb246) (o := .cells #[.int .i64 0, .slice none 0 0] 35 (0, 0)) (bk BK246) hb)
            have n2_ := Aside0.mk (blk_below (g := gb249) (o := .cells #[.int .i64 x250000_1, .slice Ao19 x250001_1.length co19] 35 (0, 0)) (bk BK249) hb)
            have n3_ := Aside0.mk (IsS183.below (by repeat (first | (with_reducible first | exact HI0.out | apply IsS183.alloc | apply IsS183.drewN | apply IsS183.drew | apply IsS183.set_1 | refine IsS183.far ?_ NB0_246.out _ | refine IsS183.far ?_ NB0_249.out _) | exact HI0.out)) hb)
            have n4_ := Aside0.mk (KeepBut.trans (kp2 HK GW246 GW249) (KeepBut.of_below hb g none) (.inl rfl))
            have n5_ := Aside0.mk (below_step (bs3 HB ⟨IsS183.ge HI0.out⟩ GE246 GE249) hb)
            have n6_ := Aside0.mk (hbox)
            have n7_ := Aside0.mk ((by rw [hg]; exact (keep_size (w := w) (g := g) (row := none) (kp2 HK GW246 GW249)) : w.heap.size ≤ gb264))
            have n8_ := Aside0.mk ((Nat.le_trans HW0.out (by rw [hg]; exact (keep_size (w := w) (g := g) (row := none) (kp2 HK GW246 GW249)) : w.heap.size ≤ gb264) : w0.heap.size ≤ gb264))
            have n9_ := Aside0.mk ((by rw [hg]; exact Nat.ne_of_lt (blk_lt (g := gb246) (o := .cells #[.int .i64 0, .slice none 0 0] 35 (0, 0)) (bk BK246)) : gb246 ≠ gb264))
            have n10_ := Aside0.mk ((by rw [hg]; exact Nat.ne_of_gt (blk_lt (g := gb246) (o := .cells #[.int .i64 0, .slice none 0 0] 35 (0, 0)) (bk BK246)) : gb264 ≠ gb246))
            have n11_ := Aside0.mk ((by rw [hg]; exact Nat.ne_of_lt (blk_lt (g := gb249) (o := .cells #[.int .i64 x250000_1, .slice Ao19 x250001_1.length co19] 35 (0, 0)) (bk BK249)) : gb249 ≠ gb264))
            have n12_ := Aside0.mk ((by rw [hg]; exact Nat.ne_of_gt (blk_lt (g := gb249) (o := .cells #[.int .i64 x250000_1, .slice Ao19 x250001_1.length co19] 35 (0, 0)) (bk BK249)) : gb264 ≠ gb249))
            have n13_ := Aside0.mk ((by rw [hg]; exact Nat.ne_of_lt (IsS183.lt (show IsS183 w0 _ g s0_0 t255 from by repeat (first | (with_reducible first | exact HI0.out | apply IsS183.alloc | apply IsS183.drewN | apply IsS183.drew | apply IsS183.set_1 | refine IsS183.far ?_ NB0_246.out _ | refine IsS183.far ?_ NB0_249.out _) | exact HI0.out))) : g ≠ gb264))
            have n14_ := Aside0.mk ((by rw [hg]; exact Nat.ne_of_gt (IsS183.lt (show IsS183 w0 _ g s0_0 t255 from by repeat (first | (with_reducible first | exact HI0.out | apply IsS183.alloc | apply IsS183.drewN | apply IsS183.drew | apply IsS183.set_1 | refine IsS183.far ?_ NB0_246.out _ | refine IsS183.far ?_ NB0_249.out _) | exact HI0.out))) : gb264 ≠ g))
            clear HO_250001
            clear BK246
            clear BK249
            clear HI0
            clear HK
            clear HB
            have HO_250001 := n0_
            have BK246 := n1_
            have BK249 := n2_
            have HI0 := n3_
            have HK := n4_
            have HB := n5_
            have BK264 := n6_
            have GW264 := n7_
            have GE264 := n8_
            have NB246_264 := n9_
            have NB264_246 := n10_
            have NB249_264 := n11_
            have NB264_249 := n12_
            have NB0_264 := n13_
            have NB264_0 := n14_
            clear n0_ n1_ n2_ n3_ n4_ n5_ n6_ n7_ n8_ n9_ n10_ n11_ n12_ n13_ n14_
            clear hb hbox hg
            refine hK.out _ _ ⟨(blk_cell BK249.out 0).trans rfl, (blk_cell BK249.out 1).trans rfl⟩ (fun hHeld => ?_)
            clear hK K
            refine norm_ (a' := ?_) ?_ ?_
            rotate_left
            ·show Act.put _ (some 5) _ = _
             simp only [Act.put, List.setIfInBounds_toArray, List.set_cons_zero, List.set_cons_succ, i64_w, i32_w]
             rfl
            exact norm_ (by first | (simp only [putAll, Act.put, List.setIfInBounds_toArray, List.set_cons_zero, List.set_cons_succ]; done) | (simp only [putAll, Act.put, List.setIfInBounds_toArray, List.set_cons_zero, List.set_cons_succ]; rfl)) (hJ4_8_16 (gb264) _ ⟨hHeld, (rl HO_250001), (bk BK246), (bk BK249), (bk BK264), GW264.out, GE264.out, NB0_264.out, NB264_0.out, NB246_264.out, NB264_246.out, NB249_264.out, NB264_249.out, (by repeat (first | (with_reducible first | exact HI0.out | apply IsS183.alloc | apply IsS183.drewN | apply IsS183.drew | apply IsS183.set_1 | refine IsS183.far ?_ NB0_246.out _ | refine IsS183.far ?_ NB0_249.out _ | refine IsS183.far ?_ NB0_264.out _) | exact HI0.out)), (kp3 HK GW246 GW249 GW264), (bs4 HB ⟨IsS183.ge HI0.out⟩ GE246 GE249 GE264)⟩)
         ·skip
          rintro gb264 w24 ⟨hS_, h0_, h1_, h2_, h3_, h4_, h5_, h6_, h7_, h8_, h9_, h10_, h11_, h12_, h13_, h14_⟩
          have n0_ : Aside0 (Kd.R k51 51 w24 w.heap.size (fun _ => True) (.slice Ao19 x250001_1.length co19) x250001_1) := ⟨h0_⟩
          have n1_ : Aside0 (w24.heap[gb246]? = some (.cells #[.int .i64 0, .slice none 0 0] 35 (0, 0))) := ⟨h1_⟩
          have n2_ : Aside0 (w24.heap[gb249]? = some (.cells #[.int .i64 x250000_1, .slice Ao19 x250001_1.length co19] 35 (0, 0))) := ⟨h2_⟩
          have n3_ : Aside0 (w24.heap[gb264]? = some (.cells #[.int .i64 0, .slice none 0 0] 35 (0, 0))) := ⟨h3_⟩
          have n4_ : Aside0 (w.heap.size ≤ gb264) := ⟨h4_⟩
          have n5_ : Aside0 (w0.heap.size ≤ gb264) := ⟨h5_⟩
          have n6_ : Aside0 (g ≠ gb264) := ⟨h6_⟩
          have n7_ : Aside0 (gb264 ≠ g) := ⟨h7_⟩
          have n8_ : Aside0 (gb246 ≠ gb264) := ⟨h8_⟩
          have n9_ : Aside0 (gb264 ≠ gb246) := ⟨h9_⟩
          have n10_ : Aside0 (gb249 ≠ gb264) := ⟨h10_⟩
          have n11_ : Aside0 (gb264 ≠ gb249) := ⟨h11_⟩
          have n12_ : Aside0 (IsS183 w0 w24 g s0_0 t255) := ⟨h12_⟩
          have n13_ : Aside0 (KeepBut w w24 g none) := ⟨h13_⟩
          have n14_ : Aside0 (Below w0.heap.size w0 w24) := ⟨h14_⟩
          clear HO_250001
          clear BK246
          clear BK249
          clear HI0
          clear HK
          clear HB
          clear h0_ h1_ h2_ h3_ h4_ h5_ h6_ h7_ h8_ h9_ h10_ h11_ h12_ h13_ h14_
          have HO_250001 := n0_
          have BK246 := n1_
          have BK249 := n2_
          have BK264 := n3_
          have GW264 := n4_
          have GE264 := n5_
          have NB0_264 := n6_
          have NB264_0 := n7_
          have NB246_264 := n8_
          have NB264_246 := n9_
          have NB249_264 := n10_
          have NB264_249 := n11_
          have HI0 := n12_
          have HK := n13_
          have HB := n14_
          clear n0_ n1_ n2_ n3_ n4_ n5_ n6_ n7_ n8_ n9_ n10_ n11_ n12_ n13_ n14_
          have hHeld : w24.cell? ⟨gb249, 0, none⟩ = some (.int .i64 x250000_1) ∧ w24.cell? ⟨gb249, 1, none⟩ = some (.slice Ao19 x250001_1.length co19) := hS_
          refine norm_ (a' := ?_) ?_ ?_
          rotate_left
          ·simp only [putAll, Act.put, List.setIfInBounds_toArray, List.set_cons_zero, List.set_cons_succ]
           rfl
          refine one_ (i := 10) (N := some 40) #[true, true, true, true, true, true, true, true, true, true, true, false, false, false, false, false, true, false, false, false] rfl rfl (one_of HT_.out (by kernel_rfl)) (by decide) (fun K hK => ?_)
          refine goes_ Try.func136 (by kernel_rfl) rfl #[.pointer (some ⟨g, 0, none⟩), .int .i64 9] (by rfl) rfl rfl (by (try simp only [List.map_toArray, List.map_cons, List.map_nil]); first | done | rfl | (simp only [List.length_drop, List.length_take]; rfl)) ?_
          with_reducible refine (spec_l1Rd_below.calls g s0_0 t255 9 t256 t257 w0 _ ?side1 ?side2 A16.out).mono ?_
          (case side1 => repeat (first | (with_reducible first | exact HI0.out | apply IsS183.alloc | apply IsS183.drewN | apply IsS183.drew | apply IsS183.set_1 | refine IsS183.far ?_ NB0_246.out _ | refine IsS183.far ?_ NB0_249.out _ | refine IsS183.far ?_ NB0_264.out _) | exact HI0.out))
          (case side2 => repeat (first | (with_reducible first | exact HB.out | apply below_alloc | apply pw_below_drewN | apply below_drew1 | refine below_set ?_ (IsS183.ge HI0.out) | refine below_set ?_ GE246.out | refine below_set ?_ GE249.out | refine below_set ?_ GE264.out) | exact HB.out))
          rintro e w25 ⟨rfl, hi, hb, hk⟩
          refine ⟨_, rfl, ?_⟩
          have n0_ := Aside0.mk (Kd.R_mono (Kd.R_keep (IsS183.apart (show IsS183 w0 _ g s0_0 t255 from by repeat (first | (with_reducible first | exact HI0.out | apply IsS183.alloc | apply IsS183.drewN | apply IsS183.drew | apply IsS183.set_1 | refine IsS183.far ?_ NB0_246.out _ | refine IsS183.far ?_ NB0_249.out _ | refine IsS183.far ?_ NB0_264.out _) | exact HI0.out)) (rl HO_250001) (by decide)) hk (fun _ h => h.2)) (fun _ h => h.1))
          have n1_ := Aside0.mk (KeepBut.blk hk (g' := gb246) (o := .cells #[.int .i64 0, .slice none 0 0] 35 (0, 0)) (bk BK246) NB246_0.out (by simp))
          have n2_ := Aside0.mk (KeepBut.blk hk (g' := gb249) (o := .cells #[.int .i64 x250000_1, .slice Ao19 x250001_1.length co19] 35 (0, 0)) (bk BK249) NB249_0.out (by simp))
          have n3_ := Aside0.mk (KeepBut.blk hk (g' := gb264) (o := .cells #[.int .i64 0, .slice none 0 0] 35 (0, 0)) (bk BK264) NB264_0.out (by simp))
          have n4_ := Aside0.mk (KeepBut.trans (kp3 HK GW246 GW249 GW264) hk (.inl rfl))
          have n5_ := Aside0.mk (hb)
          have n6_ := Aside0.mk (hi)
          clear HO_250001
          clear BK246
          clear BK249
          clear BK264
          clear HK
          clear HB
          clear HI0
          have HO_250001 := n0_
          have BK246 := n1_
          have BK249 := n2_
          have BK264 := n3_
          have HK := n4_
          have HB := n5_
          have HI0 := n6_
          clear n0_ n1_ n2_ n3_ n4_ n5_ n6_
          (try clear hb)
          (try clear hb2)
          (try clear hk)
          (try clear hi)
          refine hK.out _ _ ⟨(blk_cell BK249.out 0).trans rfl, (blk_cell BK249.out 1).trans rfl⟩ (fun hHeld => ?_)
          clear hK K
          refine norm_ (a' := ?_) ?_ ?_
          rotate_left
          ·show Act.put _ (some 40) _ = _
           simp only [Act.put, List.setIfInBounds_toArray, List.set_cons_zero, List.set_cons_succ, i64_w, i32_w]
           rfl
          exact norm_ (by first | (simp only [putAll, Act.put, List.setIfInBounds_toArray, List.set_cons_zero, List.set_cons_succ]; done) | (simp only [putAll, Act.put, List.setIfInBounds_toArray, List.set_cons_zero, List.set_cons_succ]; rfl)) (hJ4_8_10_16 (gb264) _ ⟨hHeld, (rl HO_250001), (bk BK246), (bk BK249), (bk BK264), GW264.out, GE264.out, NB0_264.out, NB264_0.out, NB246_264.out, NB264_246.out, NB249_264.out, NB264_249.out, (by repeat (first | (with_reducible first | exact HI0.out | apply IsS183.alloc | apply IsS183.drewN | apply IsS183.drew | apply IsS183.set_1 | refine IsS183.far ?_ NB0_246.out _ | refine IsS183.far ?_ NB0_249.out _ | refine IsS183.far ?_ NB0_264.out _) | exact HI0.out)), (kp3 HK GW246 GW249 GW264), (bs4 HB ⟨IsS183.ge HI0.out⟩ GE246 GE249 GE264)⟩)
        ·skip
         rintro _ w24 ⟨hS_, h0_, h1_, h2_, h3_, h4_, h5_⟩
         have n0_ : Aside0 (Kd.R k51 51 w24 w.heap.size (fun _ => True) (.slice Ao19 x250001_1.length co19) x250001_1) := ⟨h0_⟩
         have n1_ : Aside0 (w24.heap[gb246]? = some (.cells #[.int .i64 0, .slice none 0 0] 35 (0, 0))) := ⟨h1_⟩
         have n2_ : Aside0 (w24.heap[gb249]? = some (.cells #[.int .i64 x250000_1, .slice Ao19 x250001_1.length co19] 35 (0, 0))) := ⟨h2_⟩
         have n3_ : Aside0 (IsS183 w0 w24 g s0_0 t257) := ⟨h3_⟩
         have n4_ : Aside0 (KeepBut w w24 g none) := ⟨h4_⟩
         have n5_ : Aside0 (Below w0.heap.size w0 w24) := ⟨h5_⟩
         clear HO_250001
         clear BK246
         clear BK249
         clear HI0
         clear HK
         clear HB
         clear h0_ h1_ h2_ h3_ h4_ h5_
         have HO_250001 := n0_
         have BK246 := n1_
         have BK249 := n2_
         have HI0 := n3_
         have HK := n4_
         have HB := n5_
         clear n0_ n1_ n2_ n3_ n4_ n5_
         have hHeld : w24.cell? ⟨gb249, 0, none⟩ = some (.int .i64 x250000_1) ∧ w24.cell? ⟨gb249, 1, none⟩ = some (.slice Ao19 x250001_1.length co19) := hS_
         refine norm_ (a' := ?_) ?_ ?_
         rotate_left
         ·simp only [putAll, Act.put, List.setIfInBounds_toArray, List.set_cons_zero, List.set_cons_succ]
          rfl
         refine two_ (i := 11) (j := 16) (Ni := some 41) (Nj := some 5) #[true, true, true, true, true, true, true, true, true, true, true, true, false, false, false, false, false, false, false, false] #[true, true, true, true, true, true, true, true, true, true, true, false, false, false, false, false, true, false, false, false] rfl rfl rfl rfl (two_of HT_.out (by kernel_rfl)) (by decide) (by decide) (fun K hK => ?_) (fun K hK => ?_)
         ·skip
          refine goes_ Try.func27 (by kernel_rfl) rfl #[.agg #[.int .i64 x250000_1, .slice Ao19 x250001_1.length co19], .int .i64 t252, .int .i64 t254, .int .i64 t256] (by rfl) rfl rfl (by (try simp only [List.map_toArray, List.map_cons, List.map_nil]); first | done | rfl | (simp only [List.length_drop, List.length_take]; rfl)) ?_
          with_reducible refine (spec_Join.calls k1 x250000_1 _ _ x250001_1 t252 t254 t256 t258 t259 t262 true _ ?side1 ?side2 A17.out).mono ?_
          (case side1 => repeat (first | exact (Kd.R_reads' HO_250001.out).2.2 | (with_reducible refine Kd.C_alloc ?_ _) | (with_reducible refine Kd.C_drewN ?_ _) | (with_reducible refine Kd.C_drew ?_)))
          (case side2 => exact (Kd.R_reads' HO_250001.out).2.1)
          rintro e w25 ⟨v260, rfl, ho0, hb⟩
          refine ⟨_, rfl, ?_⟩
          have n0_ := Aside0.mk (Kd.R_elder' (rl HO_250001) (Kd.R_base ho0) hb)
          have n1_ := Aside0.mk (Kd.R_lower (Kd.R_new' ho0 (Kd.R_lt (rl HO_250001))) (keep_size (w := w) (g := g) (row := none) (kp2 HK GW246 GW249)))
          have n2_ := Aside0.mk (blk_below (g := gb246) (o := .cells #[.int .i64 0, .slice none 0 0] 35 (0, 0)) (bk BK246) hb)
          have n3_ := Aside0.mk (blk_below (g := gb249) (o := .cells #[.int .i64 x250000_1, .slice Ao19 x250001_1.length co19] 35 (0, 0)) (bk BK249) hb)
          have n4_ := Aside0.mk (IsS183.below (by repeat (first | (with_reducible first | exact HI0.out | apply IsS183.alloc | apply IsS183.drewN | apply IsS183.drew | apply IsS183.set_1 | refine IsS183.far ?_ NB0_246.out _ | refine IsS183.far ?_ NB0_249.out _) | exact HI0.out)) hb)
          have n5_ := Aside0.mk (KeepBut.trans (kp2 HK GW246 GW249) (KeepBut.of_below hb g none) (.inl rfl))
          have n6_ := Aside0.mk (below_step (bs3 HB ⟨IsS183.ge HI0.out⟩ GE246 GE249) hb)
          clear HO_250001
          clear BK246
          clear BK249
          clear HI0
          clear HK
          clear HB
          have HO_250001 := n0_
          have HO261 := n1_
          have BK246 := n2_
          have BK249 := n3_
          have HI0 := n4_
          have HK := n5_
          have HB := n6_
          clear n0_ n1_ n2_ n3_ n4_ n5_ n6_
          (try clear hb)
          (try clear hb2)
          (try clear hk)
          (try clear hi)
          (try clear ho0)
          refine hK.out _ _ ⟨(blk_cell BK249.out 0).trans rfl, (blk_cell BK249.out 1).trans rfl⟩ (fun hHeld => ?_)
          clear hK K
          refine norm_ (a' := ?_) ?_ ?_
          rotate_left
          ·show Act.put _ (some 41) _ = _
           simp only [Act.put, List.setIfInBounds_toArray, List.set_cons_zero, List.set_cons_succ, i64_w, i32_w]
           rfl
          refine pure_ (i := 12) (N := some 29) (v := ?_) (a' := ?_) #[true, true, true, true, true, true, true, true, true, true, true, true, true, false, false, false, false, false, false, false] rfl rfl (any_of HT_.out (by kernel_rfl)) (fun _ _ _ h => h) (Or.inl ⟨by rfl, ?_⟩) ?_ ?_
          rotate_left
          ·intro w'
           go_simp
           with_reducible rfl
          rotate_left
          ·simp only [Act.put, List.setIfInBounds_toArray, List.set_cons_zero, List.set_cons_succ, i64_w, i32_w]
           rfl
          refine pure_ (i := 13) (N := some 42) (v := ?_) (a' := ?_) #[true, true, true, true, true, true, true, true, true, true, true, true, true, true, false, false, false, false, false, false] rfl rfl (any_of HT_.out (by kernel_rfl)) (fun _ _ _ h => h) (Or.inl ⟨by rfl, ?_⟩) ?_ ?_
          rotate_left
          ·intro w'
           go_simp
           with_reducible rfl
          rotate_left
          ·simp only [Act.put, List.setIfInBounds_toArray, List.set_cons_zero, List.set_cons_succ, i64_w, i32_w]
           rfl
          refine pure_ (i := 14) (N := some 43) (v := ?_) (a' := ?_) #[true, true, true, true, true, true, true, true, true, true, true, true, true, true, true, false, false, false, false, false] rfl rfl (any_of HT_.out (by kernel_rfl)) (fun _ _ _ h => h) (Or.inl ⟨by rfl, ?_⟩) ?_ ?_
          rotate_left
          ·intro w'
           go_simp
           with_reducible rfl
          rotate_left
          ·simp only [Act.put, List.setIfInBounds_toArray, List.set_cons_zero, List.set_cons_succ, i64_w, i32_w]
           rfl
          refine pure_ (i := 15) (N := some 44) (v := ?_) (a' := ?_) #[true, true, true, true, true, true, true, true, true, true, true, true, true, true, true, true, false, false, false, false] rfl rfl (any_of HT_.out (by kernel_rfl)) (fun _ _ _ h => h) (Or.inl ⟨by rfl, ?_⟩) ?_ ?_
          rotate_left
          ·intro w'
           go_simp
           with_reducible rfl
          rotate_left
          ·simp only [Act.put, List.setIfInBounds_toArray, List.set_cons_zero, List.set_cons_succ, i64_w, i32_w]
           rfl
          exact norm_ (by first | (simp only [putAll, Act.put, List.setIfInBounds_toArray, List.set_cons_zero, List.set_cons_succ]; done) | (simp only [putAll, Act.put, List.setIfInBounds_toArray, List.set_cons_zero, List.set_cons_succ]; rfl)) (hJ4_8_10_11 (v260) _ ⟨hHeld, (by (with_reducible repeat (first | apply Kd.R_alloc | apply Kd.R_drewN | apply Kd.R_drew)); exact Kd.R_mono HO261.out (fun _ hk => hk.2)), (by (with_reducible repeat (first | apply Kd.R_alloc | apply Kd.R_drewN | apply Kd.R_drew)); exact Kd.R_mono HO_250001.out (fun _ hk => hk.2)), (bk BK246), (bk BK249), (by repeat (first | (with_reducible first | exact HI0.out | apply IsS183.alloc | apply IsS183.drewN | apply IsS183.drew | apply IsS183.set_1 | refine IsS183.far ?_ NB0_246.out _ | refine IsS183.far ?_ NB0_249.out _) | exact HI0.out)), (kp2 HK GW246 GW249), (bs3 HB ⟨IsS183.ge HI0.out⟩ GE246 GE249)⟩)
         ·skip
          refine box_step ?hg (N := 5) ?hd (cs := #[.int .i64 0, .slice none 0 0]) (t := 35) ?hr ?_; (case hd => rfl); (case hg => rfl); (case hr => first | (go_simp; done) | (go_simp; rfl))
          intro gb264 hg w25 hbox hb
          have n0_ := Aside0.mk (Kd.R_below (rl HO_250001) hb)
          have n1_ := Aside0.mk (blk_below (g := gb246) (o := .cells #[.int .i64 0, .slice none 0 0] 35 (0, 0)) (bk BK246) hb)
          have n2_ := Aside0.mk (blk_below (g := gb249) (o := .cells #[.int .i64 x250000_1, .slice Ao19 x250001_1.length co19] 35 (0, 0)) (bk BK249) hb)
          have n3_ := Aside0.mk (IsS183.below (by repeat (first | (with_reducible first | exact HI0.out | apply IsS183.alloc | apply IsS183.drewN | apply IsS183.drew | apply IsS183.set_1 | refine IsS183.far ?_ NB0_246.out _ | refine IsS183.far ?_ NB0_249.out _) | exact HI0.out)) hb)
          have n4_ := Aside0.mk (KeepBut.trans (kp2 HK GW246 GW249) (KeepBut.of_below hb g none) (.inl rfl))
          have n5_ := Aside0.mk (below_step (bs3 HB ⟨IsS183.ge HI0.out⟩ GE246 GE249) hb)
          have n6_ := Aside0.mk (hbox)
          have n7_ := Aside0.mk ((by rw [hg]; exact (keep_size (w := w) (g := g) (row := none) (kp2 HK GW246 GW249)) : w.heap.size ≤ gb264))
          have n8_ := Aside0.mk ((Nat.le_trans HW0.out (by rw [hg]; exact (keep_size (w := w) (g := g) (row := none) (kp2 HK GW246 GW249)) : w.heap.size ≤ gb264) : w0.heap.size ≤ gb264))
          have n9_ := Aside0.mk ((by rw [hg]; exact Nat.ne_of_lt (blk_lt (g := gb246) (o := .cells #[.int .i64 0, .slice none 0 0] 35 (0, 0)) (bk BK246)) : gb246 ≠ gb264))
          have n10_ := Aside0.mk ((by rw [hg]; exact Nat.ne_of_gt (blk_lt (g := gb246) (o := .cells #[.int .i64 0, .slice none 0 0] 35 (0, 0)) (bk BK246)) : gb264 ≠ gb246))
          have n11_ := Aside0.mk ((by rw [hg]; exact Nat.ne_of_lt (blk_lt (g := gb249) (o := .cells #[.int .i64 x250000_1, .slice Ao19 x250001_1.length co19] 35 (0, 0)) (bk BK249)) : gb249 ≠ gb264))
          have n12_ := Aside0.mk ((by rw [hg]; exact Nat.ne_of_gt (blk_lt (g := gb249) (o := .cells #[.int .i64 x250000_1, .slice Ao19 x250001_1.length co19] 35 (0, 0)) (bk BK249)) : gb264 ≠ gb249))
          have n13_ := Aside0.mk ((by rw [hg]; exact Nat.ne_of_lt (IsS183.lt (show IsS183 w0 _ g s0_0 t257 from by repeat (first | (with_reducible first | exact HI0.out | apply IsS183.alloc | apply IsS183.drewN | apply IsS183.drew | apply IsS183.set_1 | refine IsS183.far ?_ NB0_246.out _ | refine IsS183.far ?_ NB0_249.out _) | exact HI0.out))) : g ≠ gb264))
          have n14_ := Aside0.mk ((by rw [hg]; exact Nat.ne_of_gt (IsS183.lt (show IsS183 w0 _ g s0_0 t257 from by repeat (first | (with_reducible first | exact HI0.out | apply IsS183.alloc | apply IsS183.drewN | apply IsS183.drew | apply IsS183.set_1 | refine IsS183.far ?_ NB0_246.out _ | refine IsS183.far ?_ NB0_249.out _) | exact HI0.out))) : gb264 ≠ g))
          clear HO_250001
          clear BK246
          clear BK249
          clear HI0
          clear HK
          clear HB
          have HO_250001 := n0_
          have BK246 := n1_
          have BK249 := n2_
          have HI0 := n3_
          have HK := n4_
          have HB := n5_
          have BK264 := n6_
          have GW264 := n7_
          have GE264 := n8_
          have NB246_264 := n9_
          have NB264_246 := n10_
          have NB249_264 := n11_
          have NB264_249 := n12_
          have NB0_264 := n13_
          have NB264_0 := n14_
          clear n0_ n1_ n2_ n3_ n4_ n5_ n6_ n7_ n8_ n9_ n10_ n11_ n12_ n13_ n14_
          clear hb hbox hg
          refine hK.out _ _ ⟨(blk_cell BK249.out 0).trans rfl, (blk_cell BK249.out 1).trans rfl⟩ (fun hHeld => ?_)
          clear hK K
          refine norm_ (a' := ?_) ?_ ?_
          rotate_left
          ·show Act.put _ (some 5) _ = _
           simp only [Act.put, List.setIfInBounds_toArray, List.set_cons_zero, List.set_cons_succ, i64_w, i32_w]
           rfl
          exact norm_ (by first | (simp only [putAll, Act.put, List.setIfInBounds_toArray, List.set_cons_zero, List.set_cons_succ]; done) | (simp only [putAll, Act.put, List.setIfInBounds_toArray, List.set_cons_zero, List.set_cons_succ]; rfl)) (hJ4_8_10_16 (gb264) _ ⟨hHeld, (rl HO_250001), (bk BK246), (bk BK249), (bk BK264), GW264.out, GE264.out, NB0_264.out, NB264_0.out, NB246_264.out, NB264_246.out, NB249_264.out, NB264_249.out, (by repeat (first | (with_reducible first | exact HI0.out | apply IsS183.alloc | apply IsS183.drewN | apply IsS183.drew | apply IsS183.set_1 | refine IsS183.far ?_ NB0_246.out _ | refine IsS183.far ?_ NB0_249.out _ | refine IsS183.far ?_ NB0_264.out _) | exact HI0.out)), (kp3 HK GW246 GW249 GW264), (bs4 HB ⟨IsS183.ge HI0.out⟩ GE246 GE249 GE264)⟩)
       ·skip
        rintro gb264 w25 ⟨hS_, h0_, h1_, h2_, h3_, h4_, h5_, h6_, h7_, h8_, h9_, h10_, h11_, h12_, h13_, h14_⟩
        have n0_ : Aside0 (Kd.R k51 51 w25 w.heap.size (fun _ => True) (.slice Ao19 x250001_1.length co19) x250001_1) := ⟨h0_⟩
        have n1_ : Aside0 (w25.heap[gb246]? = some (.cells #[.int .i64 0, .slice none 0 0] 35 (0, 0))) := ⟨h1_⟩
        have n2_ : Aside0 (w25.heap[gb249]? = some (.cells #[.int .i64 x250000_1, .slice Ao19 x250001_1.length co19] 35 (0, 0))) := ⟨h2_⟩
        have n3_ : Aside0 (w25.heap[gb264]? = some (.cells #[.int .i64 0, .slice none 0 0] 35 (0, 0))) := ⟨h3_⟩
        have n4_ : Aside0 (w.heap.size ≤ gb264) := ⟨h4_⟩
        have n5_ : Aside0 (w0.heap.size ≤ gb264) := ⟨h5_⟩
        have n6_ : Aside0 (g ≠ gb264) := ⟨h6_⟩
        have n7_ : Aside0 (gb264 ≠ g) := ⟨h7_⟩
        have n8_ : Aside0 (gb246 ≠ gb264) := ⟨h8_⟩
        have n9_ : Aside0 (gb264 ≠ gb246) := ⟨h9_⟩
        have n10_ : Aside0 (gb249 ≠ gb264) := ⟨h10_⟩
        have n11_ : Aside0 (gb264 ≠ gb249) := ⟨h11_⟩
        have n12_ : Aside0 (IsS183 w0 w25 g s0_0 t257) := ⟨h12_⟩
        have n13_ : Aside0 (KeepBut w w25 g none) := ⟨h13_⟩
        have n14_ : Aside0 (Below w0.heap.size w0 w25) := ⟨h14_⟩
        clear HO_250001
        clear BK246
        clear BK249
        clear HI0
        clear HK
        clear HB
        clear h0_ h1_ h2_ h3_ h4_ h5_ h6_ h7_ h8_ h9_ h10_ h11_ h12_ h13_ h14_
        have HO_250001 := n0_
        have BK246 := n1_
        have BK249 := n2_
        have BK264 := n3_
        have GW264 := n4_
        have GE264 := n5_
        have NB0_264 := n6_
        have NB264_0 := n7_
        have NB246_264 := n8_
        have NB264_246 := n9_
        have NB249_264 := n10_
        have NB264_249 := n11_
        have HI0 := n12_
        have HK := n13_
        have HB := n14_
        clear n0_ n1_ n2_ n3_ n4_ n5_ n6_ n7_ n8_ n9_ n10_ n11_ n12_ n13_ n14_
        have hHeld : w25.cell? ⟨gb249, 0, none⟩ = some (.int .i64 x250000_1) ∧ w25.cell? ⟨gb249, 1, none⟩ = some (.slice Ao19 x250001_1.length co19) := hS_
        refine norm_ (a' := ?_) ?_ ?_
        rotate_left
        ·simp only [putAll, Act.put, List.setIfInBounds_toArray, List.set_cons_zero, List.set_cons_succ]
         rfl
        refine one_ (i := 11) (N := some 41) #[true, true, true, true, true, true, true, true, true, true, true, true, false, false, false, false, true, false, false, false] rfl rfl (one_of HT_.out (by kernel_rfl)) (by decide) (fun K hK => ?_)
        refine goes_ Try.func27 (by kernel_rfl) rfl #[.agg #[.int .i64 x250000_1, .slice Ao19 x250001_1.length co19], .int .i64 t252, .int .i64 t254, .int .i64 t256] (by rfl) rfl rfl (by (try simp only [List.map_toArray, List.map_cons, List.map_nil]); first | done | rfl | (simp only [List.length_drop, List.length_take]; rfl)) ?_
        with_reducible refine (spec_Join.calls k1 x250000_1 _ _ x250001_1 t252 t254 t256 t258 t259 t262 true _ ?side1 ?side2 A17.out).mono ?_
        (case side1 => repeat (first | exact (Kd.R_reads' HO_250001.out).2.2 | (with_reducible refine Kd.C_alloc ?_ _) | (with_reducible refine Kd.C_drewN ?_ _) | (with_reducible refine Kd.C_drew ?_)))
        (case side2 => exact (Kd.R_reads' HO_250001.out).2.1)
        rintro e w26 ⟨v260, rfl, ho0, hb⟩
        refine ⟨_, rfl, ?_⟩
        have n0_ := Aside0.mk (Kd.R_elder' (rl HO_250001) (Kd.R_base ho0) hb)
        have n1_ := Aside0.mk (Kd.R_lower (Kd.R_new' ho0 (Kd.R_lt (rl HO_250001))) (keep_size (w := w) (g := g) (row := none) (kp3 HK GW246 GW249 GW264)))
        have n2_ := Aside0.mk (blk_below (g := gb246) (o := .cells #[.int .i64 0, .slice none 0 0] 35 (0, 0)) (bk BK246) hb)
        have n3_ := Aside0.mk (blk_below (g := gb249) (o := .cells #[.int .i64 x250000_1, .slice Ao19 x250001_1.length co19] 35 (0, 0)) (bk BK249) hb)
        have n4_ := Aside0.mk (IsS183.below (by repeat (first | (with_reducible first | exact HI0.out | apply IsS183.alloc | apply IsS183.drewN | apply IsS183.drew | apply IsS183.set_1 | refine IsS183.far ?_ NB0_246.out _ | refine IsS183.far ?_ NB0_249.out _ | refine IsS183.far ?_ NB0_264.out _) | exact HI0.out)) hb)
        have n5_ := Aside0.mk (blk_below (g := gb264) (o := .cells #[.int .i64 0, .slice none 0 0] 35 (0, 0)) (bk BK264) hb)
        have n6_ := Aside0.mk (KeepBut.trans (kp3 HK GW246 GW249 GW264) (KeepBut.of_below hb g none) (.inl rfl))
        have n7_ := Aside0.mk (below_step (bs4 HB ⟨IsS183.ge HI0.out⟩ GE246 GE249 GE264) hb)
        clear HO_250001
        clear BK246
        clear BK249
        clear HI0
        clear BK264
        clear HK
        clear HB
        have HO_250001 := n0_
        have HO261 := n1_
        have BK246 := n2_
        have BK249 := n3_
        have HI0 := n4_
        have BK264 := n5_
        have HK := n6_
        have HB := n7_
        clear n0_ n1_ n2_ n3_ n4_ n5_ n6_ n7_
        (try clear hb)
        (try clear hb2)
        (try clear hk)
        (try clear hi)
        (try clear ho0)
        refine hK.out _ _ ⟨(blk_cell BK249.out 0).trans rfl, (blk_cell BK249.out 1).trans rfl⟩ (fun hHeld => ?_)
        clear hK K
        refine norm_ (a' := ?_) ?_ ?_
        rotate_left
        ·show Act.put _ (some 41) _ = _
         simp only [Act.put, List.setIfInBounds_toArray, List.set_cons_zero, List.set_cons_succ, i64_w, i32_w]
         rfl
        refine pure_ (i := 12) (N := some 29) (v := ?_) (a' := ?_) #[true, true, true, true, true, true, true, true, true, true, true, true, true, false, false, false, true, false, false, false] rfl rfl (any_of HT_.out (by kernel_rfl)) (fun _ _ _ h => h) (Or.inl ⟨by rfl, ?_⟩) ?_ ?_
        rotate_left
        ·intro w'
         go_simp
         with_reducible rfl
        rotate_left
        ·simp only [Act.put, List.setIfInBounds_toArray, List.set_cons_zero, List.set_cons_succ, i64_w, i32_w]
         rfl
        refine pure_ (i := 13) (N := some 42) (v := ?_) (a' := ?_) #[true, true, true, true, true, true, true, true, true, true, true, true, true, true, false, false, true, false, false, false] rfl rfl (any_of HT_.out (by kernel_rfl)) (fun _ _ _ h => h) (Or.inl ⟨by rfl, ?_⟩) ?_ ?_
        rotate_left
        ·intro w'
         go_simp
         with_reducible rfl
        rotate_left
        ·simp only [Act.put, List.setIfInBounds_toArray, List.set_cons_zero, List.set_cons_succ, i64_w, i32_w]
         rfl
        refine pure_ (i := 14) (N := some 43) (v := ?_) (a' := ?_) #[true, true, true, true, true, true, true, true, true, true, true, true, true, true, true, false, true, false, false, false] rfl rfl (any_of HT_.out (by kernel_rfl)) (fun _ _ _ h => h) (Or.inl ⟨by rfl, ?_⟩) ?_ ?_
        rotate_left
        ·intro w'
         go_simp
         with_reducible rfl
        rotate_left
        ·simp only [Act.put, List.setIfInBounds_toArray, List.set_cons_zero, List.set_cons_succ, i64_w, i32_w]
         rfl
        refine pure_ (i := 15) (N := some 44) (v := ?_) (a' := ?_) #[true, true, true, true, true, true, true, true, true, true, true, true, true, true, true, true, true, false, false, false] rfl rfl (any_of HT_.out (by kernel_rfl)) (fun _ _ _ h => h) (Or.inl ⟨by rfl, ?_⟩) ?_ ?_
        rotate_left
        ·intro w'
         go_simp
         with_reducible rfl
        rotate_left
        ·simp only [Act.put, List.setIfInBounds_toArray, List.set_cons_zero, List.set_cons_succ, i64_w, i32_w]
         rfl
        exact norm_ (by first | (simp only [putAll, Act.put, List.setIfInBounds_toArray, List.set_cons_zero, List.set_cons_succ]; done) | (simp only [putAll, Act.put, List.setIfInBounds_toArray, List.set_cons_zero, List.set_cons_succ]; rfl)) (hJ4_8_10_11_16 (v260, gb264) _ ⟨hHeld, (by (with_reducible repeat (first | apply Kd.R_alloc | apply Kd.R_drewN | apply Kd.R_drew)); exact Kd.R_mono HO261.out (fun _ hk => hk.2)), (by (with_reducible repeat (first | apply Kd.R_alloc | apply Kd.R_drewN | apply Kd.R_drew)); exact Kd.R_mono HO_250001.out (fun _ hk => hk.2)), (bk BK246), (bk BK249), (bk BK264), GW264.out, GE264.out, NB0_264.out, NB264_0.out, NB246_264.out, NB264_246.out, NB249_264.out, NB264_249.out, (by repeat (first | (with_reducible first | exact HI0.out | apply IsS183.alloc | apply IsS183.drewN | apply IsS183.drew | apply IsS183.set_1 | refine IsS183.far ?_ NB0_246.out _ | refine IsS183.far ?_ NB0_249.out _ | refine IsS183.far ?_ NB0_264.out _) | exact HI0.out)), (kp3 HK GW246 GW249 GW264), (bs4 HB ⟨IsS183.ge HI0.out⟩ GE246 GE249 GE264)⟩)
      ·skip
       rintro v260 w25 ⟨hS_, h0_, h1_, h2_, h3_, h4_, h5_, h6_⟩
       have n0_ : Aside0 (Kd.R k51 51 w25 w.heap.size (fun k_ => some k_ ≠ (.slice Ao19 x250001_1.length co19 : Value).ownBlock) v260 t259) := ⟨h0_⟩
       have n1_ : Aside0 (Kd.R k51 51 w25 w.heap.size (fun k_ => some k_ ≠ (v260 : Value).ownBlock) (.slice Ao19 x250001_1.length co19) x250001_1) := ⟨h1_⟩
       have n2_ : Aside0 (w25.heap[gb246]? = some (.cells #[.int .i64 0, .slice none 0 0] 35 (0, 0))) := ⟨h2_⟩
       have n3_ : Aside0 (w25.heap[gb249]? = some (.cells #[.int .i64 x250000_1, .slice Ao19 x250001_1.length co19] 35 (0, 0))) := ⟨h3_⟩
       have n4_ : Aside0 (IsS183 w0 w25 g s0_0 t257) := ⟨h4_⟩
       have n5_ : Aside0 (KeepBut w w25 g none) := ⟨h5_⟩
       have n6_ : Aside0 (Below w0.heap.size w0 w25) := ⟨h6_⟩
       clear HO_250001
       clear BK246
       clear BK249
       clear HI0
       clear HK
       clear HB
       clear h0_ h1_ h2_ h3_ h4_ h5_ h6_
       have HO261 := n0_
       have HO_250001 := n1_
       have BK246 := n2_
       have BK249 := n3_
       have HI0 := n4_
       have HK := n5_
       have HB := n6_
       clear n0_ n1_ n2_ n3_ n4_ n5_ n6_
       have hHeld : w25.cell? ⟨gb249, 0, none⟩ = some (.int .i64 x250000_1) ∧ w25.cell? ⟨gb249, 1, none⟩ = some (.slice Ao19 x250001_1.length co19) := hS_
       refine norm_ (a' := ?_) ?_ ?_
       rotate_left
       ·simp only [putAll, Act.put, List.setIfInBounds_toArray, List.set_cons_zero, List.set_cons_succ]
        rfl
       refine one_ (i := 16) (N := some 5) #[true, true, true, true, true, true, true, true, true, true, true, true, true, true, true, true, true, false, false, false] rfl rfl (one_of HT_.out (by kernel_rfl)) (by decide) (fun K hK => ?_)
       refine box_step ?hg (N := 5) ?hd (cs := #[.int .i64 0, .slice none 0 0]) (t := 35) ?hr ?_; (case hd => rfl); (case hg => rfl); (case hr => first | (go_simp; done) | (go_simp; rfl))
       intro gb264 hg w26 hbox hb
       have n0_ := Aside0.mk (Kd.R_below (rl HO_250001) hb)
       have n1_ := Aside0.mk (Kd.R_below (rl HO261) hb)
       have n2_ := Aside0.mk (blk_below (g := gb246) (o := .cells #[.int .i64 0, .slice none 0 0] 35 (0, 0)) (bk BK246) hb)
       have n3_ := Aside0.mk (blk_below (g := gb249) (o := .cells #[.int .i64 x250000_1, .slice Ao19 x250001_1.length co19] 35 (0, 0)) (bk BK249) hb)
       have n4_ := Aside0.mk (IsS183.below (by repeat (first | (with_reducible first | exact HI0.out | apply IsS183.alloc | apply IsS183.drewN | apply IsS183.drew | apply IsS183.set_1 | refine IsS183.far ?_ NB0_246.out _ | refine IsS183.far ?_ NB0_249.out _) | exact HI0.out)) hb)
       have n5_ := Aside0.mk (KeepBut.trans (kp2 HK GW246 GW249) (KeepBut.of_below hb g none) (.inl rfl))
       have n6_ := Aside0.mk (below_step (bs3 HB ⟨IsS183.ge HI0.out⟩ GE246 GE249) hb)
       have n7_ := Aside0.mk (hbox)
       have n8_ := Aside0.mk ((by rw [hg]; exact (keep_size (w := w) (g := g) (row := none) (kp2 HK GW246 GW249)) : w.heap.size ≤ gb264))
       have n9_ := Aside0.mk ((Nat.le_trans HW0.out (by rw [hg]; exact (keep_size (w := w) (g := g) (row := none) (kp2 HK GW246 GW249)) : w.heap.size ≤ gb264) : w0.heap.size ≤ gb264))
       have n10_ := Aside0.mk ((by rw [hg]; exact Nat.ne_of_lt (blk_lt (g := gb246) (o := .cells #[.int .i64 0, .slice none 0 0] 35 (0, 0)) (bk BK246)) : gb246 ≠ gb264))
       have n11_ := Aside0.mk ((by rw [hg]; exact Nat.ne_of_gt (blk_lt (g := gb246) (o := .cells #[.int .i64 0, .slice none 0 0] 35 (0, 0)) (bk BK246)) : gb264 ≠ gb246))
       have n12_ := Aside0.mk ((by rw [hg]; exact Nat.ne_of_lt (blk_lt (g := gb249) (o := .cells #[.int .i64 x250000_1, .slice Ao19 x250001_1.length co19] 35 (0, 0)) (bk BK249)) : gb249 ≠ gb264))
       have n13_ := Aside0.mk ((by rw [hg]; exact Nat.ne_of_gt (blk_lt (g := gb249) (o := .cells #[.int .i64 x250000_1, .slice Ao19 x250001_1.length co19] 35 (0, 0)) (bk BK249)) : gb264 ≠ gb249))
       have n14_ := Aside0.mk ((by rw [hg]; exact Nat.ne_of_lt (IsS183.lt (show IsS183 w0 _ g s0_0 t257 from by repeat (first | (with_reducible first | exact HI0.out | apply IsS183.alloc | apply IsS183.drewN | apply IsS183.drew | apply IsS183.set_1 | refine IsS183.far ?_ NB0_246.out _ | refine IsS183.far ?_ NB0_249.out _) | exact HI0.out))) : g ≠ gb264))
       have n15_ := Aside0.mk ((by rw [hg]; exact Nat.ne_of_gt (IsS183.lt (show IsS183 w0 _ g s0_0 t257 from by repeat (first | (with_reducible first | exact HI0.out | apply IsS183.alloc | apply IsS183.drewN | apply IsS183.drew | apply IsS183.set_1 | refine IsS183.far ?_ NB0_246.out _ | refine IsS183.far ?_ NB0_249.out _) | exact HI0.out))) : gb264 ≠ g))
       clear HO_250001
       clear HO261
       clear BK246
       clear BK249
       clear HI0
       clear HK
       clear HB
       have HO_250001 := n0_
       have HO261 := n1_
       have BK246 := n2_
       have BK249 := n3_
       have HI0 := n4_
       have HK := n5_
       have HB := n6_
       have BK264 := n7_
       have GW264 := n8_
       have GE264 := n9_
       have NB246_264 := n10_
       have NB264_246 := n11_
       have NB249_264 := n12_
       have NB264_249 := n13_
       have NB0_264 := n14_
       have NB264_0 := n15_
       clear n0_ n1_ n2_ n3_ n4_ n5_ n6_ n7_ n8_ n9_ n10_ n11_ n12_ n13_ n14_ n15_
       clear hb hbox hg
       refine hK.out _ _ ⟨(blk_cell BK249.out 0).trans rfl, (blk_cell BK249.out 1).trans rfl⟩ (fun hHeld => ?_)
       clear hK K
       refine norm_ (a' := ?_) ?_ ?_
       rotate_left
       ·show Act.put _ (some 5) _ = _
        simp only [Act.put, List.setIfInBounds_toArray, List.set_cons_zero, List.set_cons_succ, i64_w, i32_w]
        rfl
       exact norm_ (by first | (simp only [putAll, Act.put, List.setIfInBounds_toArray, List.set_cons_zero, List.set_cons_succ]; done) | (simp only [putAll, Act.put, List.setIfInBounds_toArray, List.set_cons_zero, List.set_cons_succ]; rfl)) (hJ4_8_10_11_16 (v260, gb264) _ ⟨hHeld, (rl HO261), (rl HO_250001), (bk BK246), (bk BK249), (bk BK264), GW264.out, GE264.out, NB0_264.out, NB264_0.out, NB246_264.out, NB264_246.out, NB249_264.out, NB264_249.out, (by repeat (first | (with_reducible first | exact HI0.out | apply IsS183.alloc | apply IsS183.drewN | apply IsS183.drew | apply IsS183.set_1 | refine IsS183.far ?_ NB0_246.out _ | refine IsS183.far ?_ NB0_249.out _ | refine IsS183.far ?_ NB0_264.out _) | exact HI0.out)), (kp3 HK GW246 GW249 GW264), (bs4 HB ⟨IsS183.ge HI0.out⟩ GE246 GE249 GE264)⟩)
     rintro ⟨v260, gb264⟩ w26 ⟨hS_, h0_, h1_, h2_, h3_, h4_, h5_, h6_, h7_, h8_, h9_, h10_, h11_, h12_, h13_, h14_, h15_⟩
     have n0_ : Aside0 (Kd.R k51 51 w26 w.heap.size (fun k_ => some k_ ≠ (.slice Ao19 x250001_1.length co19 : Value).ownBlock) v260 t259) := ⟨h0_⟩
     have n1_ : Aside0 (Kd.R k51 51 w26 w.heap.size (fun k_ => some k_ ≠ (v260 : Value).ownBlock) (.slice Ao19 x250001_1.length co19) x250001_1) := ⟨h1_⟩
     have n2_ : Aside0 (w26.heap[gb246]? = some (.cells #[.int .i64 0, .slice none 0 0] 35 (0, 0))) := ⟨h2_⟩
     have n3_ : Aside0 (w26.heap[gb249]? = some (.cells #[.int .i64 x250000_1, .slice Ao19 x250001_1.length co19] 35 (0, 0))) := ⟨h3_⟩
     have n4_ : Aside0 (w26.heap[gb264]? = some (.cells #[.int .i64 0, .slice none 0 0] 35 (0, 0))) := ⟨h4_⟩
     have n5_ : Aside0 (w.heap.size ≤ gb264) := ⟨h5_⟩
     have n6_ : Aside0 (w0.heap.size ≤ gb264) := ⟨h6_⟩
     have n7_ : Aside0 (g ≠ gb264) := ⟨h7_⟩
     have n8_ : Aside0 (gb264 ≠ g) := ⟨h8_⟩
     have n9_ : Aside0 (gb246 ≠ gb264) := ⟨h9_⟩
     have n10_ : Aside0 (gb264 ≠ gb246) := ⟨h10_⟩
     have n11_ : Aside0 (gb249 ≠ gb264) := ⟨h11_⟩
     have n12_ : Aside0 (gb264 ≠ gb249) := ⟨h12_⟩
     have n13_ : Aside0 (IsS183 w0 w26 g s0_0 t257) := ⟨h13_⟩
     have n14_ : Aside0 (KeepBut w w26 g none) := ⟨h14_⟩
     have n15_ : Aside0 (Below w0.heap.size w0 w26) := ⟨h15_⟩
     clear HO_250001
     clear BK246
     clear BK249
     clear HI0
     clear HK
     clear HB
     clear h0_ h1_ h2_ h3_ h4_ h5_ h6_ h7_ h8_ h9_ h10_ h11_ h12_ h13_ h14_ h15_
     have HO261 := n0_
     have HO_250001 := n1_
     have BK246 := n2_
     have BK249 := n3_
     have BK264 := n4_
     have GW264 := n5_
     have GE264 := n6_
     have NB0_264 := n7_
     have NB264_0 := n8_
     have NB246_264 := n9_
     have NB264_246 := n10_
     have NB249_264 := n11_
     have NB264_249 := n12_
     have HI0 := n13_
     have HK := n14_
     have HB := n15_
     clear n0_ n1_ n2_ n3_ n4_ n5_ n6_ n7_ n8_ n9_ n10_ n11_ n12_ n13_ n14_ n15_
     have hHeld : w26.cell? ⟨gb249, 0, none⟩ = some (.int .i64 x250000_1) ∧ w26.cell? ⟨gb249, 1, none⟩ = some (.slice Ao19 x250001_1.length co19) := hS_
     obtain ⟨Ao28, co28, eo28⟩ := Kd.R_slice HO261.out
     (first | subst eo28 | (injection eo28 with f1_ f2_ f3_; have f4_ := f1_.symm; have f5_ := f3_.symm; clear f1_ f2_ f3_; subst f4_; subst f5_))
     refine norm_ (a' := ?_) ?_ ?_
     rotate_left
     ·simp only [putAll, Act.put, List.setIfInBounds_toArray, List.set_cons_zero, List.set_cons_succ]
      rfl
     refine one_ (i := 17) (N := none) #[true, true, true, true, true, true, true, true, true, true, true, true, true, true, true, true, true, true, false, false] rfl rfl (one_of HT_.out (by kernel_rfl)) (by decide) (fun K hK => ?_)
     have hs27 : w26.cell? ⟨gb264, 0, none⟩ = some (.int .i64 0) := (blk_cell BK264.out 0).trans rfl
     have hfs27 := blk_frozen BK264.out 0
     have hns27_0 := NB246_264.out
     have hns27_1 := NB249_264.out
     have hms27_0 := NB264_246.out
     have hms27_1 := NB264_249.out
     have hs29 : w26.cell? ⟨gb264, 1, none⟩ = some (.slice none 0 0) := (blk_cell BK264.out 1).trans rfl
     have hfs29 := blk_frozen BK264.out 1
     have hns29_0 := NB246_264.out
     have hns29_1 := NB249_264.out
     have hms29_0 := NB264_246.out
     have hms29_1 := NB264_249.out
     refine skip_ (w1 := ?_) (by rfl) rfl ?_ ?_
     rotate_left
     ·go_simp
      rfl
     refine hK.out _ _ ⟨((cell_far (p := ⟨gb264, _, none⟩) NB249_264.out _).trans (((cell_far (p := ⟨gb264, _, none⟩) NB249_264.out _).trans (hHeld.1)))), ((cell_far (p := ⟨gb264, _, none⟩) NB249_264.out _).trans (((cell_far (p := ⟨gb264, _, none⟩) NB249_264.out _).trans (hHeld.2))))⟩ (fun hHeld => ?_)
     clear hK K
     refine pure_ (i := 18) (N := some 6) (v := ?_) (a' := ?_) #[true, true, true, true, true, true, true, true, true, true, true, true, true, true, true, true, true, true, true, false] rfl rfl (any_of HT_.out (by kernel_rfl)) (fun _ _ _ h => h) (Or.inl ⟨by rfl, ?_⟩) ?_ ?_
     rotate_left
     ·intro w'
      go_simp
      with_reducible rfl
     rotate_left
     ·simp only [Act.put, List.setIfInBounds_toArray, List.set_cons_zero, List.set_cons_succ, i64_w, i32_w]
      rfl
     refine pure_ (i := 19) (N := some 7) (v := ?_) (a' := ?_) #[true, true, true, true, true, true, true, true, true, true, true, true, true, true, true, true, true, true, true, true] rfl rfl (any_of HT_.out (by kernel_rfl)) (fun _ _ _ h => h) (Or.inl ⟨by rfl, ?_⟩) ?_ ?_
     rotate_left
     ·intro w'
      go_simp
      with_reducible rfl
     rotate_left
     ·simp only [Act.put, List.setIfInBounds_toArray, List.set_cons_zero, List.set_cons_succ, i64_w, i32_w]
      rfl
     refine done_ (done_of HT_.out (by kernel_rfl)) ?_
     have hnb30 := NB264_246.out
     have hnc30 := NB246_264.out
     have hnb31 := NB264_249.out
     have hnc31 := NB249_264.out
     have hnb32 := NB264_0.out
     have hnc32 := NB0_264.out
     have hcz33_0 : w26.cell? ⟨gb264, 0, none⟩ = some (.int .i64 0) := (blk_cell BK264.out 0).trans rfl
     have hcz33_1 : w26.cell? ⟨gb264, 1, none⟩ = some (.slice none 0 0) := (blk_cell BK264.out 1).trans rfl
     have hfz33_0 := blk_frozen BK264.out 0
     have hfz33_1 := blk_frozen BK264.out 1
     have hnb34 := NB249_246.out
     have hnc34 := NB246_249.out
     have hnb35 := NB249_0.out
     have hnc35 := NB0_249.out
     have hcz36_0 : w26.cell? ⟨gb249, 0, none⟩ = some (.int .i64 x250000_1) := (blk_cell BK249.out 0).trans rfl
     have hcz36_1 : w26.cell? ⟨gb249, 1, none⟩ = some (.slice Ao19 x250001_1.length co19) := (blk_cell BK249.out 1).trans rfl
     have hfz36_0 := blk_frozen BK249.out 0
     have hfz36_1 := blk_frozen BK249.out 1
     try go_wp2
     go_roundg k1
     case measure => have := HK1.out; omega
     case rel => exact ⟨(wrap64 (x4_1 - 1)), (t257), (t258), (t259), (.slice Ao28 t259.length co28), (by first | rfl | (simp; done) | (simp [*]; done) | (simp only [bne_nil_]; done) | (simp [bne_nil_]; done)), H', ⟨by have := HK1.out; omega⟩, ⟨by (with_reducible repeat (first | apply Kd.R_alloc | apply Kd.R_drewN | apply Kd.R_drew)); exact Kd.R_mono (Kd.R_far (p := ⟨gb249, 1, none⟩) (Kd.R_far (p := ⟨gb249, 0, none⟩) (Kd.R_far (p := ⟨gb264, 1, none⟩) (Kd.R_far (p := ⟨gb264, 0, none⟩) (Kd.R_types (Kd.R_types HO261.out BK264.out (by decide)) BK249.out (by decide)) (fun _ hk => hk.1.2) (.int .i64 t258)) (fun _ hk => hk.1.2) (.slice Ao28 t259.length co28)) (fun _ hk => hk.2) (.int .i64 t258)) (fun _ hk => hk.2) (.slice Ao28 t259.length co28)) (fun _ hk => trivial)⟩, ⟨by (with_reducible repeat (first | refine blk_drewN ?_ _ | refine blk_drew ?_ | refine blk_alloc ?_ _)); refine blk_far ?_ NB246_249.out _; (with_reducible repeat (first | refine blk_drewN ?_ _ | refine blk_drew ?_ | refine blk_alloc ?_ _)); refine blk_far ?_ NB246_249.out _; (with_reducible repeat (first | refine blk_drewN ?_ _ | refine blk_drew ?_ | refine blk_alloc ?_ _)); refine blk_far ?_ NB246_264.out _; (with_reducible repeat (first | refine blk_drewN ?_ _ | refine blk_drew ?_ | refine blk_alloc ?_ _)); refine blk_far ?_ NB246_264.out _; (with_reducible repeat (first | refine blk_drewN ?_ _ | refine blk_drew ?_ | refine blk_alloc ?_ _)); exact BK246.out⟩, ⟨by (with_reducible repeat (first | refine blk_drewN ?_ _ | refine blk_drew ?_ | refine blk_alloc ?_ _)); refine blk_put (cs := #[.int .i64 t258, .slice Ao19 x250001_1.length co19]) ?_ 1 _ rfl; (with_reducible repeat (first | refine blk_drewN ?_ _ | refine blk_drew ?_ | refine blk_alloc ?_ _)); refine blk_put (cs := #[.int .i64 x250000_1, .slice Ao19 x250001_1.length co19]) ?_ 0 _ rfl; (with_reducible repeat (first | refine blk_drewN ?_ _ | refine blk_drew ?_ | refine blk_alloc ?_ _)); refine blk_far ?_ NB249_264.out _; (with_reducible repeat (first | refine blk_drewN ?_ _ | refine blk_drew ?_ | refine blk_alloc ?_ _)); refine blk_far ?_ NB249_264.out _; (with_reducible repeat (first | refine blk_drewN ?_ _ | refine blk_drew ?_ | refine blk_alloc ?_ _)); exact BK249.out⟩, ⟨by repeat (first | (with_reducible first | exact HI0.out | apply IsS183.alloc | apply IsS183.drewN | apply IsS183.drew | apply IsS183.set_1 | refine IsS183.far ?_ NB0_246.out _ | refine IsS183.far ?_ NB0_249.out _ | refine IsS183.far ?_ NB0_264.out _) | exact HI0.out)⟩, ⟨kp3 HK GW246 GW249 GW264⟩, ⟨bs4 HB ⟨IsS183.ge HI0.out⟩ GE246 GE249 GE264⟩⟩
    ·replace c18 := Bool.eq_false_iff.mpr c18
     subst c18
     have H1 : (spec_l1Rd_forest.l0 k1 (wrap64 (x4_1 - 1)) s0_0 t257 x250000_1 x250001_1) = some (r1, r2, r3) := by rw [if_neg (show ¬ (false = true) by decide)] at H; exact H
     clear H
     have H := H1
     clear H1
     have H' := Aside0.mk H
     clear H
     obtain ⟨Ao37, co37, eo37⟩ := Kd.R_slice HO_250001.out
     subst eo37
     try go_wp2
     have n0_ := Aside0.mk (Kd.R_drew HO_250001.out)
     have n1_ := Aside0.mk (blk_drew BK246.out)
     have n2_ := Aside0.mk (blk_drew BK249.out)
     have n3_ := Aside0.mk (IsS183.drew HI0.out)
     have n4_ := Aside0.mk (keep_drew HK.out)
     have n5_ := Aside0.mk (below_drew1 HB.out)
     clear HO_250001
     clear BK246
     clear BK249
     clear HI0
     clear HK
     clear HB
     have HO_250001 := n0_
     have BK246 := n1_
     have BK249 := n2_
     have HI0 := n3_
     have HK := n4_
     have HB := n5_
     clear n0_ n1_ n2_ n3_ n4_ n5_
     refine start_ (n := 20) (S := fun w' => w'.cell? ⟨gb249, 0, none⟩ = some (.int .i64 x250000_1) ∧ w'.cell? ⟨gb249, 1, none⟩ = some (.slice Ao37 x250001_1.length co37)) (ds := []) #[false, false, false, false, false, false, false, false, false, false, false, false, false, false, false, false, false, false, false, false] (by kernel_rfl) rfl rfl ⟨(blk_cell BK249.out 0).trans rfl, (blk_cell BK249.out 1).trans rfl⟩ (fun hHeld => ?_); refine with_tabW spec_l1Rd_forest.tab5 spec_l1Rd_forest.bits5 (fun HT_ HW_ => ?_)
     generalize wr.drew = w38 at HO_250001 BK246 BK249 HI0 HK HB hHeld ⊢
     refine pure_ (i := 1) (N := some 31) (v := ?_) (a' := ?_) #[false, true, false, false, false, false, false, false, false, false, false, false, false, false, false, false, false, false, false, false] rfl rfl (any_of HT_.out (by kernel_rfl)) (fun _ _ _ h => h) (Or.inl ⟨by rfl, ?_⟩) ?_ ?_
     rotate_left
     ·intro w'
      go_simp
      with_reducible rfl
     rotate_left
     ·simp only [Act.put, List.setIfInBounds_toArray, List.set_cons_zero, List.set_cons_succ, i64_w, i32_w]
      rfl
     refine pure_ (i := 2) (N := some 32) (v := ?_) (a' := ?_) #[false, true, true, false, false, false, false, false, false, false, false, false, false, false, false, false, false, false, false, false] rfl rfl (any_of HT_.out (by kernel_rfl)) (fun _ _ _ h => h) (Or.inl ⟨by rfl, ?_⟩) ?_ ?_
     rotate_left
     ·intro w'
      go_simp
      with_reducible rfl
     rotate_left
     ·simp only [Act.put, List.setIfInBounds_toArray, List.set_cons_zero, List.set_cons_succ, i64_w, i32_w]
      rfl
     refine pure_ (i := 5) (N := some 35) (v := ?_) (a' := ?_) #[false, true, true, false, false, true, false, false, false, false, false, false, false, false, false, false, false, false, false, false] rfl rfl (any_of HT_.out (by kernel_rfl)) (fun _ _ _ h => h) (Or.inl ⟨by rfl, ?_⟩) ?_ ?_
     rotate_left
     ·intro w'
      go_simp
      with_reducible rfl
     rotate_left
     ·simp only [Act.put, List.setIfInBounds_toArray, List.set_cons_zero, List.set_cons_succ, i64_w, i32_w]
      rfl
     refine pure_ (i := 6) (N := some 36) (v := ?_) (a' := ?_) #[false, true, true, false, false, true, true, false, false, false, false, false, false, false, false, false, false, false, false, false] rfl rfl (any_of HT_.out (by kernel_rfl)) (fun _ _ _ h => h) (Or.inl ⟨by rfl, ?_⟩) ?_ ?_
     rotate_left
     ·intro w'
      go_simp
      with_reducible rfl
     rotate_left
     ·simp only [Act.put, List.setIfInBounds_toArray, List.set_cons_zero, List.set_cons_succ, i64_w, i32_w]
      rfl
     refine pure_ (i := 9) (N := some 39) (v := ?_) (a' := ?_) #[false, true, true, false, false, true, true, false, false, true, false, false, false, false, false, false, false, false, false, false] rfl rfl (any_of HT_.out (by kernel_rfl)) (fun _ _ _ h => h) (Or.inl ⟨by rfl, ?_⟩) ?_ ?_
     rotate_left
     ·intro w'
      go_simp
      with_reducible rfl
     rotate_left
     ·simp only [Act.put, List.setIfInBounds_toArray, List.set_cons_zero, List.set_cons_succ, i64_w, i32_w]
      rfl
     refine take_ (i := 0) (N := some 30) (v := ?_) (a' := ?_) #[true, true, true, false, false, true, true, false, false, true, false, false, false, false, false, false, false, false, false, false] rfl rfl (take_ofW HT_.out HW_.out (by kernel_rfl)) (fun _ _ _ h => h) (Or.inl ⟨by rfl, ?_⟩) hHeld ?_ ?_
     rotate_left
     ·rintro w' ⟨s0, s1⟩
      go_simp
      with_reducible rfl
     rotate_left
     ·simp only [Act.put, List.setIfInBounds_toArray, List.set_cons_zero, List.set_cons_succ, i64_w, i32_w]
      rfl
     refine take_ (i := 3) (N := some 33) (v := ?_) (a' := ?_) #[true, true, true, true, false, true, true, false, false, true, false, false, false, false, false, false, false, false, false, false] rfl rfl (take_ofW HT_.out HW_.out (by kernel_rfl)) (fun _ _ _ h => h) (Or.inl ⟨by rfl, ?_⟩) hHeld ?_ ?_
     rotate_left
     ·rintro w' ⟨s0, s1⟩
      go_simp
      with_reducible rfl
     rotate_left
     ·simp only [Act.put, List.setIfInBounds_toArray, List.set_cons_zero, List.set_cons_succ, i64_w, i32_w]
      rfl
     refine take_ (i := 7) (N := some 37) (v := ?_) (a' := ?_) #[true, true, true, true, false, true, true, true, false, true, false, false, false, false, false, false, false, false, false, false] rfl rfl (take_ofW HT_.out HW_.out (by kernel_rfl)) (fun _ _ _ h => h) (Or.inl ⟨by rfl, ?_⟩) hHeld ?_ ?_
     rotate_left
     ·rintro w' ⟨s0, s1⟩
      go_simp
      with_reducible rfl
     rotate_left
     ·simp only [Act.put, List.setIfInBounds_toArray, List.set_cons_zero, List.set_cons_succ, i64_w, i32_w]
      rfl
     refine join_ (σ := Value × Nat) 3 #[true, true, true, true, true, true, true, true, true, true, true, true, true, true, true, true, true, false, false, false] (fun s_ => [(34, .int .i64 t252), (38, .int .i64 t254), (40, .int .i64 t256), (41, .tuple #[.agg #[.int .i64 t258, s_.1], .bool t262, .bool false]), (5, .pointer (some ⟨s_.2, 0, none⟩)), (29, .tuple #[.agg #[.int .i64 t258, s_.1], .bool t262, .bool false]), (42, .agg #[.int .i64 t258, s_.1]), (43, .bool t262), (44, .bool false)]) (fun s_ w' => (w'.cell? ⟨gb249, 0, none⟩ = some (.int .i64 x250000_1) ∧ w'.cell? ⟨gb249, 1, none⟩ = some (.slice Ao37 x250001_1.length co37)) ∧ (Kd.R k51 51 w' w.heap.size (fun k_ => some k_ ≠ (.slice Ao37 x250001_1.length co37 : Value).ownBlock) s_.1 t259) ∧ (Kd.R k51 51 w' w.heap.size (fun k_ => some k_ ≠ (s_.1 : Value).ownBlock) (.slice Ao37 x250001_1.length co37) x250001_1) ∧ (w'.heap[gb246]? = some (.cells #[.int .i64 0, .slice none 0 0] 35 (0, 0))) ∧ (w'.heap[gb249]? = some (.cells #[.int .i64 x250000_1, .slice Ao37 x250001_1.length co37] 35 (0, 0))) ∧ (w'.heap[s_.2]? = some (.cells #[.int .i64 0, .slice none 0 0] 35 (0, 0))) ∧ (w.heap.size ≤ s_.2) ∧ (w0.heap.size ≤ s_.2) ∧ (g ≠ s_.2) ∧ (s_.2 ≠ g) ∧ (gb246 ≠ s_.2) ∧ (s_.2 ≠ gb246) ∧ (gb249 ≠ s_.2) ∧ (s_.2 ≠ gb249) ∧ (IsS183 w0 w' g s0_0 t257) ∧ (KeepBut w w' g none) ∧ (Below w0.heap.size w0 w')) ?_ ?_
     rotate_left
     ·intro hJ4_8_10_11_16
      refine join_ (σ := Value) 4 #[true, true, true, true, true, true, true, true, true, true, true, true, true, true, true, true, false, false, false, false] (fun s_ => [(34, .int .i64 t252), (38, .int .i64 t254), (40, .int .i64 t256), (41, .tuple #[.agg #[.int .i64 t258, s_], .bool t262, .bool false]), (29, .tuple #[.agg #[.int .i64 t258, s_], .bool t262, .bool false]), (42, .agg #[.int .i64 t258, s_]), (43, .bool t262), (44, .bool false)]) (fun s_ w' => (w'.cell? ⟨gb249, 0, none⟩ = some (.int .i64 x250000_1) ∧ w'.cell? ⟨gb249, 1, none⟩ = some (.slice Ao37 x250001_1.length co37)) ∧ (Kd.R k51 51 w' w.heap.size (fun k_ => some k_ ≠ (.slice Ao37 x250001_1.length co37 : Value).ownBlock) s_ t259) ∧ (Kd.R k51 51 w' w.heap.size (fun k_ => some k_ ≠ (s_ : Value).ownBlock) (.slice Ao37 x250001_1.length co37) x250001_1) ∧ (w'.heap[gb246]? = some (.cells #[.int .i64 0, .slice none 0 0] 35 (0, 0))) ∧ (w'.heap[gb249]? = some (.cells #[.int .i64 x250000_1, .slice Ao37 x250001_1.length co37] 35 (0, 0))) ∧ (IsS183 w0 w' g s0_0 t257) ∧ (KeepBut w w' g none) ∧ (Below w0.heap.size w0 w')) ?_ ?_
      rotate_left
      ·intro hJ4_8_10_11
       refine join_ (σ := Nat) 8 #[true, true, true, true, true, true, true, true, true, true, true, false, false, false, false, false, true, false, false, false] (fun s_ => [(34, .int .i64 t252), (38, .int .i64 t254), (40, .int .i64 t256), (5, .pointer (some ⟨s_, 0, none⟩))]) (fun s_ w' => (w'.cell? ⟨gb249, 0, none⟩ = some (.int .i64 x250000_1) ∧ w'.cell? ⟨gb249, 1, none⟩ = some (.slice Ao37 x250001_1.length co37)) ∧ (Kd.R k51 51 w' w.heap.size (fun _ => True) (.slice Ao37 x250001_1.length co37) x250001_1) ∧ (w'.heap[gb246]? = some (.cells #[.int .i64 0, .slice none 0 0] 35 (0, 0))) ∧ (w'.heap[gb249]? = some (.cells #[.int .i64 x250000_1, .slice Ao37 x250001_1.length co37] 35 (0, 0))) ∧ (w'.heap[s_]? = some (.cells #[.int .i64 0, .slice none 0 0] 35 (0, 0))) ∧ (w.heap.size ≤ s_) ∧ (w0.heap.size ≤ s_) ∧ (g ≠ s_) ∧ (s_ ≠ g) ∧ (gb246 ≠ s_) ∧ (s_ ≠ gb246) ∧ (gb249 ≠ s_) ∧ (s_ ≠ gb249) ∧ (IsS183 w0 w' g s0_0 t257) ∧ (KeepBut w w' g none) ∧ (Below w0.heap.size w0 w')) ?_ ?_
       rotate_left
       ·intro hJ4_8_10_16
        refine join_ (σ := Unit) 9 #[true, true, true, true, true, true, true, true, true, true, true, false, false, false, false, false, false, false, false, false] (fun s_ => [(34, .int .i64 t252), (38, .int .i64 t254), (40, .int .i64 t256)]) (fun s_ w' => (w'.cell? ⟨gb249, 0, none⟩ = some (.int .i64 x250000_1) ∧ w'.cell? ⟨gb249, 1, none⟩ = some (.slice Ao37 x250001_1.length co37)) ∧ (Kd.R k51 51 w' w.heap.size (fun _ => True) (.slice Ao37 x250001_1.length co37) x250001_1) ∧ (w'.heap[gb246]? = some (.cells #[.int .i64 0, .slice none 0 0] 35 (0, 0))) ∧ (w'.heap[gb249]? = some (.cells #[.int .i64 x250000_1, .slice Ao37 x250001_1.length co37] 35 (0, 0))) ∧ (IsS183 w0 w' g s0_0 t257) ∧ (KeepBut w w' g none) ∧ (Below w0.heap.size w0 w')) ?_ ?_
        rotate_left
        ·intro hJ4_8_10
         refine join_ (σ := Nat) 9 #[true, true, true, true, true, true, true, true, true, true, false, false, false, false, false, false, true, false, false, false] (fun s_ => [(34, .int .i64 t252), (38, .int .i64 t254), (5, .pointer (some ⟨s_, 0, none⟩))]) (fun s_ w' => (w'.cell? ⟨gb249, 0, none⟩ = some (.int .i64 x250000_1) ∧ w'.cell? ⟨gb249, 1, none⟩ = some (.slice Ao37 x250001_1.length co37)) ∧ (Kd.R k51 51 w' w.heap.size (fun _ => True) (.slice Ao37 x250001_1.length co37) x250001_1) ∧ (w'.heap[gb246]? = some (.cells #[.int .i64 0, .slice none 0 0] 35 (0, 0))) ∧ (w'.heap[gb249]? = some (.cells #[.int .i64 x250000_1, .slice Ao37 x250001_1.length co37] 35 (0, 0))) ∧ (w'.heap[s_]? = some (.cells #[.int .i64 0, .slice none 0 0] 35 (0, 0))) ∧ (w.heap.size ≤ s_) ∧ (w0.heap.size ≤ s_) ∧ (g ≠ s_) ∧ (s_ ≠ g) ∧ (gb246 ≠ s_) ∧ (s_ ≠ gb246) ∧ (gb249 ≠ s_) ∧ (s_ ≠ gb249) ∧ (IsS183 w0 w' g s0_0 t255) ∧ (KeepBut w w' g none) ∧ (Below w0.heap.size w0 w')) ?_ ?_
         rotate_left
         ·intro hJ4_8_16
          refine join_ (σ := Unit) 10 #[true, true, true, true, true, true, true, true, true, true, false, false, false, false, false, false, false, false, false, false] (fun s_ => [(34, .int .i64 t252), (38, .int .i64 t254)]) (fun s_ w' => (w'.cell? ⟨gb249, 0, none⟩ = some (.int .i64 x250000_1) ∧ w'.cell? ⟨gb249, 1, none⟩ = some (.slice Ao37 x250001_1.length co37)) ∧ (Kd.R k51 51 w' w.heap.size (fun _ => True) (.slice Ao37 x250001_1.length co37) x250001_1) ∧ (w'.heap[gb246]? = some (.cells #[.int .i64 0, .slice none 0 0] 35 (0, 0))) ∧ (w'.heap[gb249]? = some (.cells #[.int .i64 x250000_1, .slice Ao37 x250001_1.length co37] 35 (0, 0))) ∧ (IsS183 w0 w' g s0_0 t255) ∧ (KeepBut w w' g none) ∧ (Below w0.heap.size w0 w')) ?_ ?_
          rotate_left
          ·intro hJ4_8
           refine join_ (σ := Nat) 10 #[true, true, true, true, true, true, true, true, false, true, false, false, false, false, false, false, true, false, false, false] (fun s_ => [(34, .int .i64 t252), (5, .pointer (some ⟨s_, 0, none⟩))]) (fun s_ w' => (w'.cell? ⟨gb249, 0, none⟩ = some (.int .i64 x250000_1) ∧ w'.cell? ⟨gb249, 1, none⟩ = some (.slice Ao37 x250001_1.length co37)) ∧ (Kd.R k51 51 w' w.heap.size (fun _ => True) (.slice Ao37 x250001_1.length co37) x250001_1) ∧ (w'.heap[gb246]? = some (.cells #[.int .i64 0, .slice none 0 0] 35 (0, 0))) ∧ (w'.heap[gb249]? = some (.cells #[.int .i64 x250000_1, .slice Ao37 x250001_1.length co37] 35 (0, 0))) ∧ (w'.heap[s_]? = some (.cells #[.int .i64 0, .slice none 0 0] 35 (0, 0))) ∧ (w.heap.size ≤ s_) ∧ (w0.heap.size ≤ s_) ∧ (g ≠ s_) ∧ (s_ ≠ g) ∧ (gb246 ≠ s_) ∧ (s_ ≠ gb246) ∧ (gb249 ≠ s_) ∧ (s_ ≠ gb249) ∧ (IsS183 w0 w' g s0_0 t253) ∧ (KeepBut w w' g none) ∧ (Below w0.heap.size w0 w')) ?_ ?_
           rotate_left
           ·intro hJ4_16
            refine join_ (σ := Unit) 11 #[true, true, true, true, true, true, true, true, false, true, false, false, false, false, false, false, false, false, false, false] (fun s_ => [(34, .int .i64 t252)]) (fun s_ w' => (w'.cell? ⟨gb249, 0, none⟩ = some (.int .i64 x250000_1) ∧ w'.cell? ⟨gb249, 1, none⟩ = some (.slice Ao37 x250001_1.length co37)) ∧ (Kd.R k51 51 w' w.heap.size (fun _ => True) (.slice Ao37 x250001_1.length co37) x250001_1) ∧ (w'.heap[gb246]? = some (.cells #[.int .i64 0, .slice none 0 0] 35 (0, 0))) ∧ (w'.heap[gb249]? = some (.cells #[.int .i64 x250000_1, .slice Ao37 x250001_1.length co37] 35 (0, 0))) ∧ (IsS183 w0 w' g s0_0 t253) ∧ (KeepBut w w' g none) ∧ (Below w0.heap.size w0 w')) ?_ ?_
            rotate_left
            ·intro hJ4
             refine join_ (σ := Nat) 11 #[true, true, true, true, false, true, true, true, false, true, false, false, false, false, false, false, true, false, false, false] (fun s_ => [(5, .pointer (some ⟨s_, 0, none⟩))]) (fun s_ w' => (w'.cell? ⟨gb249, 0, none⟩ = some (.int .i64 x250000_1) ∧ w'.cell? ⟨gb249, 1, none⟩ = some (.slice Ao37 x250001_1.length co37)) ∧ (Kd.R k51 51 w' w.heap.size (fun _ => True) (.slice Ao37 x250001_1.length co37) x250001_1) ∧ (w'.heap[gb246]? = some (.cells #[.int .i64 0, .slice none 0 0] 35 (0, 0))) ∧ (w'.heap[gb249]? = some (.cells #[.int .i64 x250000_1, .slice Ao37 x250001_1.length co37] 35 (0, 0))) ∧ (w'.heap[s_]? = some (.cells #[.int .i64 0, .slice none 0 0] 35 (0, 0))) ∧ (w.heap.size ≤ s_) ∧ (w0.heap.size ≤ s_) ∧ (g ≠ s_) ∧ (s_ ≠ g) ∧ (gb246 ≠ s_) ∧ (s_ ≠ gb246) ∧ (gb249 ≠ s_) ∧ (s_ ≠ gb249) ∧ (IsS183 w0 w' g s0_0 x1001_1) ∧ (KeepBut w w' g none) ∧ (Below w0.heap.size w0 w')) ?_ ?_
             rotate_left
             ·intro hJ16
              refine two_ (i := 4) (j := 16) (Ni := some 34) (Nj := some 5) #[true, true, true, true, true, true, true, true, false, true, false, false, false, false, false, false, false, false, false, false] #[true, true, true, true, false, true, true, true, false, true, false, false, false, false, false, false, true, false, false, false] rfl rfl rfl rfl (two_of HT_.out (by kernel_rfl)) (by decide) (by decide) (fun K hK => ?_) (fun K hK => ?_)
              ·skip
               refine goes_ Try.func136 (by kernel_rfl) rfl #[.pointer (some ⟨g, 0, none⟩), .int .i64 x250000_1] (by rfl) rfl rfl (by (try simp only [List.map_toArray, List.map_cons, List.map_nil]); first | done | rfl | (simp only [List.length_drop, List.length_take]; rfl)) ?_
               with_reducible refine (spec_l1Rd_below.calls g s0_0 x1001_1 x250000_1 t252 t253 w0 _ ?side1 ?side2 A14.out).mono ?_
               (case side1 => repeat (first | (with_reducible first | exact HI0.out | apply IsS183.alloc | apply IsS183.drewN | apply IsS183.drew | apply IsS183.set_1 | refine IsS183.far ?_ NB0_246.out _ | refine IsS183.far ?_ NB0_249.out _) | exact HI0.out))
               (case side2 => repeat (first | (with_reducible first | exact HB.out | apply below_alloc | apply pw_below_drewN | apply below_drew1 | refine below_set ?_ (IsS183.ge HI0.out) | refine below_set ?_ GE246.out | refine below_set ?_ GE249.out) | exact HB.out))
               rintro e w39 ⟨rfl, hi, hb, hk⟩
               refine ⟨_, rfl, ?_⟩
               have n0_ := Aside0.mk (Kd.R_mono (Kd.R_keep (IsS183.apart (show IsS183 w0 _ g s0_0 x1001_1 from by repeat (first | (with_reducible first | exact HI0.out | apply IsS183.alloc | apply IsS183.drewN | apply IsS183.drew | apply IsS183.set_1 | refine IsS183.far ?_ NB0_246.out _ | refine IsS183.far ?_ NB0_249.out _) | exact HI0.out)) (rl HO_250001) (by decide)) hk (fun _ h => h.2)) (fun _ h => h.1))
               have n1_ := Aside0.mk (KeepBut.blk hk (g' := gb246) (o := .cells #[.int .i64 0, .slice none 0 0] 35 (0, 0)) (bk BK246) NB246_0.out (by simp))
               have n2_ := Aside0.mk (KeepBut.blk hk (g' := gb249) (o := .cells #[.int .i64 x250000_1, .slice Ao37 x250001_1.length co37] 35 (0, 0)) (bk BK249) NB249_0.out (by simp))
               have n3_ := Aside0.mk (KeepBut.trans (kp2 HK GW246 GW249) hk (.inl rfl))
               have n4_ := Aside0.mk (hb)
               have n5_ := Aside0.mk (hi)
               clear HO_250001
               clear BK246
               clear BK249
               clear HK
               clear HB
               clear HI0
               have HO_250001 := n0_
               have BK246 := n1_
               have BK249 := n2_
               have HK := n3_
               have HB := n4_
               have HI0 := n5_
               clear n0_ n1_ n2_ n3_ n4_ n5_
               (try clear hb)
               (try clear hb2)
               (try clear hk)
               (try clear hi)
               refine hK.out _ _ ⟨(blk_cell BK249.out 0).trans rfl, (blk_cell BK249.out 1).trans rfl⟩ (fun hHeld => ?_)
               clear hK K
               refine norm_ (a' := ?_) ?_ ?_
               rotate_left
               ·show Act.put _ (some 34) _ = _
                simp only [Act.put, List.setIfInBounds_toArray, List.set_cons_zero, List.set_cons_succ, i64_w, i32_w]
                rfl
               exact norm_ (by first | (simp only [putAll, Act.put, List.setIfInBounds_toArray, List.set_cons_zero, List.set_cons_succ]; done) | (simp only [putAll, Act.put, List.setIfInBounds_toArray, List.set_cons_zero, List.set_cons_succ]; rfl)) (hJ4 () _ ⟨hHeld, (rl HO_250001), (bk BK246), (bk BK249), (by repeat (first | (with_reducible first | exact HI0.out | apply IsS183.alloc | apply IsS183.drewN | apply IsS183.drew | apply IsS183.set_1 | refine IsS183.far ?_ NB0_246.out _ | refine IsS183.far ?_ NB0_249.out _) | exact HI0.out)), (kp2 HK GW246 GW249), (bs3 HB ⟨IsS183.ge HI0.out⟩ GE246 GE249)⟩)
              ·skip
               refine box_step ?hg (N := 5) ?hd (cs := #[.int .i64 0, .slice none 0 0]) (t := 35) ?hr ?_; (case hd => rfl); (case hg => rfl); (case hr => first | (go_simp; done) | (go_simp; rfl))
               intro gb264 hg w39 hbox hb
               have n0_ := Aside0.mk (Kd.R_below (rl HO_250001) hb)
               have n1_ := Aside0.mk (blk_below (g := gb246) (o := .cells #[.int .i64 0, .slice none 0 0] 35 (0, 0)) (bk BK246) hb)
               have n2_ := Aside0.mk (blk_below (g := gb249) (o := .cells #[.int .i64 x250000_1, .slice Ao37 x250001_1.length co37] 35 (0, 0)) (bk BK249) hb)
               have n3_ := Aside0.mk (IsS183.below (by repeat (first | (with_reducible first | exact HI0.out | apply IsS183.alloc | apply IsS183.drewN | apply IsS183.drew | apply IsS183.set_1 | refine IsS183.far ?_ NB0_246.out _ | refine IsS183.far ?_ NB0_249.out _) | exact HI0.out)) hb)
               have n4_ := Aside0.mk (KeepBut.trans (kp2 HK GW246 GW249) (KeepBut.of_below hb g none) (.inl rfl))
               have n5_ := Aside0.mk (below_step (bs3 HB ⟨IsS183.ge HI0.out⟩ GE246 GE249) hb)
               have n6_ := Aside0.mk (hbox)
               have n7_ := Aside0.mk ((by rw [hg]; exact (keep_size (w := w) (g := g) (row := none) (kp2 HK GW246 GW249)) : w.heap.size ≤ gb264))
               have n8_ := Aside0.mk ((Nat.le_trans HW0.out (by rw [hg]; exact (keep_size (w := w) (g := g) (row := none) (kp2 HK GW246 GW249)) : w.heap.size ≤ gb264) : w0.heap.size ≤ gb264))
               have n9_ := Aside0.mk ((by rw [hg]; exact Nat.ne_of_lt (blk_lt (g := gb246) (o := .cells #[.int .i64 0, .slice none 0 0] 35 (0, 0)) (bk BK246)) : gb246 ≠ gb264))
               have n10_ := Aside0.mk ((by rw [hg]; exact Nat.ne_of_gt (blk_lt (g := gb246) (o := .cells #[.int .i64 0, .slice none 0 0] 35 (0, 0)) (bk BK246)) : gb264 ≠ gb246))
               have n11_ := Aside0.mk ((by rw [hg]; exact Nat.ne_of_lt (blk_lt (g := gb249) (o := .cells #[.int .i64 x250000_1, .slice Ao37 x250001_1.length co37] 35 (0, 0)) (bk BK249)) : gb249 ≠ gb264))
               have n12_ := Aside0.mk ((by rw [hg]; exact Nat.ne_of_gt (blk_lt (g := gb249) (o := .cells #[.int .i64 x250000_1, .slice Ao37 x250001_1.length co37] 35 (0, 0)) (bk BK249)) : gb264 ≠ gb249))
               have n13_ := Aside0.mk ((by rw [hg]; exact Nat.ne_of_lt (IsS183.lt (show IsS183 w0 _ g s0_0 x1001_1 from by repeat (first | (with_reducible first | exact HI0.out | apply IsS183.alloc | apply IsS183.drewN | apply IsS183.drew | apply IsS183.set_1 | refine IsS183.far ?_ NB0_246.out _ | refine IsS183.far ?_ NB0_249.out _) | exact HI0.out))) : g ≠ gb264))
               have n14_ := Aside0.mk ((by rw [hg]; exact Nat.ne_of_gt (IsS183.lt (show IsS183 w0 _ g s0_0 x1001_1 from by repeat (first | (with_reducible first | exact HI0.out | apply IsS183.alloc | apply IsS183.drewN | apply IsS183.drew | apply IsS183.set_1 | refine IsS183.far ?_ NB0_246.out _ | refine IsS183.far ?_ NB0_249.out _) | exact HI0.out))) : gb264 ≠ g))
               clear HO_250001
               clear BK246
               clear BK249
               clear HI0
               clear HK
               clear HB
               have HO_250001 := n0_
               have BK246 := n1_
               have BK249 := n2_
               have HI0 := n3_
               have HK := n4_
               have HB := n5_
               have BK264 := n6_
               have GW264 := n7_
               have GE264 := n8_
               have NB246_264 := n9_
               have NB264_246 := n10_
               have NB249_264 := n11_
               have NB264_249 := n12_
               have NB0_264 := n13_
               have NB264_0 := n14_
               clear n0_ n1_ n2_ n3_ n4_ n5_ n6_ n7_ n8_ n9_ n10_ n11_ n12_ n13_ n14_
               clear hb hbox hg
               refine hK.out _ _ ⟨(blk_cell BK249.out 0).trans rfl, (blk_cell BK249.out 1).trans rfl⟩ (fun hHeld => ?_)
               clear hK K
               refine norm_ (a' := ?_) ?_ ?_
               rotate_left
               ·show Act.put _ (some 5) _ = _
                simp only [Act.put, List.setIfInBounds_toArray, List.set_cons_zero, List.set_cons_succ, i64_w, i32_w]
                rfl
               exact norm_ (by first | (simp only [putAll, Act.put, List.setIfInBounds_toArray, List.set_cons_zero, List.set_cons_succ]; done) | (simp only [putAll, Act.put, List.setIfInBounds_toArray, List.set_cons_zero, List.set_cons_succ]; rfl)) (hJ16 (gb264) _ ⟨hHeld, (rl HO_250001), (bk BK246), (bk BK249), (bk BK264), GW264.out, GE264.out, NB0_264.out, NB264_0.out, NB246_264.out, NB264_246.out, NB249_264.out, NB264_249.out, (by repeat (first | (with_reducible first | exact HI0.out | apply IsS183.alloc | apply IsS183.drewN | apply IsS183.drew | apply IsS183.set_1 | refine IsS183.far ?_ NB0_246.out _ | refine IsS183.far ?_ NB0_249.out _ | refine IsS183.far ?_ NB0_264.out _) | exact HI0.out)), (kp3 HK GW246 GW249 GW264), (bs4 HB ⟨IsS183.ge HI0.out⟩ GE246 GE249 GE264)⟩)
             ·skip
              rintro gb264 w40 ⟨hS_, h0_, h1_, h2_, h3_, h4_, h5_, h6_, h7_, h8_, h9_, h10_, h11_, h12_, h13_, h14_⟩
              have n0_ : Aside0 (Kd.R k51 51 w40 w.heap.size (fun _ => True) (.slice Ao37 x250001_1.length co37) x250001_1) := ⟨h0_⟩
              have n1_ : Aside0 (w40.heap[gb246]? = some (.cells #[.int .i64 0, .slice none 0 0] 35 (0, 0))) := ⟨h1_⟩
              have n2_ : Aside0 (w40.heap[gb249]? = some (.cells #[.int .i64 x250000_1, .slice Ao37 x250001_1.length co37] 35 (0, 0))) := ⟨h2_⟩
              have n3_ : Aside0 (w40.heap[gb264]? = some (.cells #[.int .i64 0, .slice none 0 0] 35 (0, 0))) := ⟨h3_⟩
              have n4_ : Aside0 (w.heap.size ≤ gb264) := ⟨h4_⟩
              have n5_ : Aside0 (w0.heap.size ≤ gb264) := ⟨h5_⟩
              have n6_ : Aside0 (g ≠ gb264) := ⟨h6_⟩
              have n7_ : Aside0 (gb264 ≠ g) := ⟨h7_⟩
              have n8_ : Aside0 (gb246 ≠ gb264) := ⟨h8_⟩
              have n9_ : Aside0 (gb264 ≠ gb246) := ⟨h9_⟩
              have n10_ : Aside0 (gb249 ≠ gb264) := ⟨h10_⟩
              have n11_ : Aside0 (gb264 ≠ gb249) := ⟨h11_⟩
              have n12_ : Aside0 (IsS183 w0 w40 g s0_0 x1001_1) := ⟨h12_⟩
              have n13_ : Aside0 (KeepBut w w40 g none) := ⟨h13_⟩
              have n14_ : Aside0 (Below w0.heap.size w0 w40) := ⟨h14_⟩
              clear HO_250001
              clear BK246
              clear BK249
              clear HI0
              clear HK
              clear HB
              clear h0_ h1_ h2_ h3_ h4_ h5_ h6_ h7_ h8_ h9_ h10_ h11_ h12_ h13_ h14_
              have HO_250001 := n0_
              have BK246 := n1_
              have BK249 := n2_
              have BK264 := n3_
              have GW264 := n4_
              have GE264 := n5_
              have NB0_264 := n6_
              have NB264_0 := n7_
              have NB246_264 := n8_
              have NB264_246 := n9_
              have NB249_264 := n10_
              have NB264_249 := n11_
              have HI0 := n12_
              have HK := n13_
              have HB := n14_
              clear n0_ n1_ n2_ n3_ n4_ n5_ n6_ n7_ n8_ n9_ n10_ n11_ n12_ n13_ n14_
              have hHeld : w40.cell? ⟨gb249, 0, none⟩ = some (.int .i64 x250000_1) ∧ w40.cell? ⟨gb249, 1, none⟩ = some (.slice Ao37 x250001_1.length co37) := hS_
              refine norm_ (a' := ?_) ?_ ?_
              rotate_left
              ·simp only [putAll, Act.put, List.setIfInBounds_toArray, List.set_cons_zero, List.set_cons_succ]
               rfl
              refine one_ (i := 4) (N := some 34) #[true, true, true, true, true, true, true, true, false, true, false, false, false, false, false, false, true, false, false, false] rfl rfl (one_of HT_.out (by kernel_rfl)) (by decide) (fun K hK => ?_)
              refine goes_ Try.func136 (by kernel_rfl) rfl #[.pointer (some ⟨g, 0, none⟩), .int .i64 x250000_1] (by rfl) rfl rfl (by (try simp only [List.map_toArray, List.map_cons, List.map_nil]); first | done | rfl | (simp only [List.length_drop, List.length_take]; rfl)) ?_
              with_reducible refine (spec_l1Rd_below.calls g s0_0 x1001_1 x250000_1 t252 t253 w0 _ ?side1 ?side2 A14.out).mono ?_
              (case side1 => repeat (first | (with_reducible first | exact HI0.out | apply IsS183.alloc | apply IsS183.drewN | apply IsS183.drew | apply IsS183.set_1 | refine IsS183.far ?_ NB0_246.out _ | refine IsS183.far ?_ NB0_249.out _ | refine IsS183.far ?_ NB0_264.out _) | exact HI0.out))
              (case side2 => repeat (first | (with_reducible first | exact HB.out | apply below_alloc | apply pw_below_drewN | apply below_drew1 | refine below_set ?_ (IsS183.ge HI0.out) | refine below_set ?_ GE246.out | refine below_set ?_ GE249.out | refine below_set ?_ GE264.out) | exact HB.out))
              rintro e w41 ⟨rfl, hi, hb, hk⟩
              refine ⟨_, rfl, ?_⟩
              have n0_ := Aside0.mk (Kd.R_mono (Kd.R_keep (IsS183.apart (show IsS183 w0 _ g s0_0 x1001_1 from by repeat (first | (with_reducible first | exact HI0.out | apply IsS183.alloc | apply IsS183.drewN | apply IsS183.drew | apply IsS183.set_1 | refine IsS183.far ?_ NB0_246.out _ | refine IsS183.far ?_ NB0_249.out _ | refine IsS183.far ?_ NB0_264.out _) | exact HI0.out)) (rl HO_250001) (by decide)) hk (fun _ h => h.2)) (fun _ h => h.1))
              have n1_ := Aside0.mk (KeepBut.blk hk (g' := gb246) (o := .cells #[.int .i64 0, .slice none 0 0] 35 (0, 0)) (bk BK246) NB246_0.out (by simp))
              have n2_ := Aside0.mk (KeepBut.blk hk (g' := gb249) (o := .cells #[.int .i64 x250000_1, .slice Ao37 x250001_1.length co37] 35 (0, 0)) (bk BK249) NB249_0.out (by simp))
              have n3_ := Aside0.mk (KeepBut.blk hk (g' := gb264) (o := .cells #[.int .i64 0, .slice none 0 0] 35 (0, 0)) (bk BK264) NB264_0.out (by simp))
              have n4_ := Aside0.mk (KeepBut.trans (kp3 HK GW246 GW249 GW264) hk (.inl rfl))
              have n5_ := Aside0.mk (hb)
              have n6_ := Aside0.mk (hi)
              clear HO_250001
              clear BK246
              clear BK249
              clear BK264
              clear HK
              clear HB
              clear HI0
              have HO_250001 := n0_
              have BK246 := n1_
              have BK249 := n2_
              have BK264 := n3_
              have HK := n4_
              have HB := n5_
              have HI0 := n6_
              clear n0_ n1_ n2_ n3_ n4_ n5_ n6_
              (try clear hb)
              (try clear hb2)
              (try clear hk)
              (try clear hi)
              refine hK.out _ _ ⟨(blk_cell BK249.out 0).trans rfl, (blk_cell BK249.out 1).trans rfl⟩ (fun hHeld => ?_)
              clear hK K
              refine norm_ (a' := ?_) ?_ ?_
              rotate_left
              ·show Act.put _ (some 34) _ = _
               simp only [Act.put, List.setIfInBounds_toArray, List.set_cons_zero, List.set_cons_succ, i64_w, i32_w]
               rfl
              exact norm_ (by first | (simp only [putAll, Act.put, List.setIfInBounds_toArray, List.set_cons_zero, List.set_cons_succ]; done) | (simp only [putAll, Act.put, List.setIfInBounds_toArray, List.set_cons_zero, List.set_cons_succ]; rfl)) (hJ4_16 (gb264) _ ⟨hHeld, (rl HO_250001), (bk BK246), (bk BK249), (bk BK264), GW264.out, GE264.out, NB0_264.out, NB264_0.out, NB246_264.out, NB264_246.out, NB249_264.out, NB264_249.out, (by repeat (first | (with_reducible first | exact HI0.out | apply IsS183.alloc | apply IsS183.drewN | apply IsS183.drew | apply IsS183.set_1 | refine IsS183.far ?_ NB0_246.out _ | refine IsS183.far ?_ NB0_249.out _ | refine IsS183.far ?_ NB0_264.out _) | exact HI0.out)), (kp3 HK GW246 GW249 GW264), (bs4 HB ⟨IsS183.ge HI0.out⟩ GE246 GE249 GE264)⟩)
            ·skip
             rintro _ w40 ⟨hS_, h0_, h1_, h2_, h3_, h4_, h5_⟩
             have n0_ : Aside0 (Kd.R k51 51 w40 w.heap.size (fun _ => True) (.slice Ao37 x250001_1.length co37) x250001_1) := ⟨h0_⟩
             have n1_ : Aside0 (w40.heap[gb246]? = some (.cells #[.int .i64 0, .slice none 0 0] 35 (0, 0))) := ⟨h1_⟩
             have n2_ : Aside0 (w40.heap[gb249]? = some (.cells #[.int .i64 x250000_1, .slice Ao37 x250001_1.length co37] 35 (0, 0))) := ⟨h2_⟩
             have n3_ : Aside0 (IsS183 w0 w40 g s0_0 t253) := ⟨h3_⟩
             have n4_ : Aside0 (KeepBut w w40 g none) := ⟨h4_⟩
             have n5_ : Aside0 (Below w0.heap.size w0 w40) := ⟨h5_⟩
             clear HO_250001
             clear BK246
             clear BK249
             clear HI0
             clear HK
             clear HB
             clear h0_ h1_ h2_ h3_ h4_ h5_
             have HO_250001 := n0_
             have BK246 := n1_
             have BK249 := n2_
             have HI0 := n3_
             have HK := n4_
             have HB := n5_
             clear n0_ n1_ n2_ n3_ n4_ n5_
             have hHeld : w40.cell? ⟨gb249, 0, none⟩ = some (.int .i64 x250000_1) ∧ w40.cell? ⟨gb249, 1, none⟩ = some (.slice Ao37 x250001_1.length co37) := hS_
             refine norm_ (a' := ?_) ?_ ?_
             rotate_left
             ·simp only [putAll, Act.put, List.setIfInBounds_toArray, List.set_cons_zero, List.set_cons_succ]
              rfl
             refine two_ (i := 8) (j := 16) (Ni := some 38) (Nj := some 5) #[true, true, true, true, true, true, true, true, true, true, false, false, false, false, false, false, false, false, false, false] #[true, true, true, true, true, true, true, true, false, true, false, false, false, false, false, false, true, false, false, false] rfl rfl rfl rfl (two_of HT_.out (by kernel_rfl)) (by decide) (by decide) (fun K hK => ?_) (fun K hK => ?_)
             ·skip
              refine goes_ Try.func136 (by kernel_rfl) rfl #[.pointer (some ⟨g, 0, none⟩), .int .i64 x250000_1] (by rfl) rfl rfl (by (try simp only [List.map_toArray, List.map_cons, List.map_nil]); first | done | rfl | (simp only [List.length_drop, List.length_take]; rfl)) ?_
              with_reducible refine (spec_l1Rd_below.calls g s0_0 t253 x250000_1 t254 t255 w0 _ ?side1 ?side2 A15.out).mono ?_
              (case side1 => repeat (first | (with_reducible first | exact HI0.out | apply IsS183.alloc | apply IsS183.drewN | apply IsS183.drew | apply IsS183.set_1 | refine IsS183.far ?_ NB0_246.out _ | refine IsS183.far ?_ NB0_249.out _) | exact HI0.out))
              (case side2 => repeat (first | (with_reducible first | exact HB.out | apply below_alloc | apply pw_below_drewN | apply below_drew1 | refine below_set ?_ (IsS183.ge HI0.out) | refine below_set ?_ GE246.out | refine below_set ?_ GE249.out) | exact HB.out))
              rintro e w41 ⟨rfl, hi, hb, hk⟩
              refine ⟨_, rfl, ?_⟩
              have n0_ := Aside0.mk (Kd.R_mono (Kd.R_keep (IsS183.apart (show IsS183 w0 _ g s0_0 t253 from by repeat (first | (with_reducible first | exact HI0.out | apply IsS183.alloc | apply IsS183.drewN | apply IsS183.drew | apply IsS183.set_1 | refine IsS183.far ?_ NB0_246.out _ | refine IsS183.far ?_ NB0_249.out _) | exact HI0.out)) (rl HO_250001) (by decide)) hk (fun _ h => h.2)) (fun _ h => h.1))
              have n1_ := Aside0.mk (KeepBut.blk hk (g' := gb246) (o := .cells #[.int .i64 0, .slice none 0 0] 35 (0, 0)) (bk BK246) NB246_0.out (by simp))
              have n2_ := Aside0.mk (KeepBut.blk hk (g' := gb249) (o := .cells #[.int .i64 x250000_1, .slice Ao37 x250001_1.length co37] 35 (0, 0)) (bk BK249) NB249_0.out (by simp))
              have n3_ := Aside0.mk (KeepBut.trans (kp2 HK GW246 GW249) hk (.inl rfl))
              have n4_ := Aside0.mk (hb)
              have n5_ := Aside0.mk (hi)
              clear HO_250001
              clear BK246
              clear BK249
              clear HK
              clear HB
              clear HI0
              have HO_250001 := n0_
              have BK246 := n1_
              have BK249 := n2_
              have HK := n3_
              have HB := n4_
              have HI0 := n5_
              clear n0_ n1_ n2_ n3_ n4_ n5_
              (try clear hb)
              (try clear hb2)
              (try clear hk)
              (try clear hi)
              refine hK.out _ _ ⟨(blk_cell BK249.out 0).trans rfl, (blk_cell BK249.out 1).trans rfl⟩ (fun hHeld => ?_)
              clear hK K
              refine norm_ (a' := ?_) ?_ ?_
              rotate_left
              ·show Act.put _ (some 38) _ = _
               simp only [Act.put, List.setIfInBounds_toArray, List.set_cons_zero, List.set_cons_succ, i64_w, i32_w]
               rfl
              exact norm_ (by first | (simp only [putAll, Act.put, List.setIfInBounds_toArray, List.set_cons_zero, List.set_cons_succ]; done) | (simp only [putAll, Act.put, List.setIfInBounds_toArray, List.set_cons_zero, List.set_cons_succ]; rfl)) (hJ4_8 () _ ⟨hHeld, (rl HO_250001), (bk BK246), (bk BK249), (by repeat (first | (with_reducible first | exact HI0.out | apply IsS183.alloc | apply IsS183.drewN | apply IsS183.drew | apply IsS183.set_1 | refine IsS183.far ?_ NB0_246.out _ | refine IsS183.far ?_ NB0_249.out _) | exact HI0.out)), (kp2 HK GW246 GW249), (bs3 HB ⟨IsS183.ge HI0.out⟩ GE246 GE249)⟩)
             ·skip
              refine box_step ?hg (N := 5) ?hd (cs := #[.int .i64 0, .slice none 0 0]) (t := 35) ?hr ?_; (case hd => rfl); (case hg => rfl); (case hr => first | (go_simp; done) | (go_simp; rfl))
              intro gb264 hg w41 hbox hb
              have n0_ := Aside0.mk (Kd.R_below (rl HO_250001) hb)
              have n1_ := Aside0.mk (blk_below (g := gb246) (o := .cells #[.int .i64 0, .slice none 0 0] 35 (0, 0)) (bk BK246) hb)
              have n2_ := Aside0.mk (blk_below (g := gb249) (o := .cells #[.int .i64 x250000_1, .slice Ao37 x250001_1.length co37] 35 (0, 0)) (bk BK249) hb)
              have n3_ := Aside0.mk (IsS183.below (by repeat (first | (with_reducible first | exact HI0.out | apply IsS183.alloc | apply IsS183.drewN | apply IsS183.drew | apply IsS183.set_1 | refine IsS183.far ?_ NB0_246.out _ | refine IsS183.far ?_ NB0_249.out _) | exact HI0.out)) hb)
              have n4_ := Aside0.mk (KeepBut.trans (kp2 HK GW246 GW249) (KeepBut.of_below hb g none) (.inl rfl))
              have n5_ := Aside0.mk (below_step (bs3 HB ⟨IsS183.ge HI0.out⟩ GE246 GE249) hb)
              have n6_ := Aside0.mk (hbox)
              have n7_ := Aside0.mk ((by rw [hg]; exact (keep_size (w := w) (g := g) (row := none) (kp2 HK GW246 GW249)) : w.heap.size ≤ gb264))
              have n8_ := Aside0.mk ((Nat.le_trans HW0.out (by rw [hg]; exact (keep_size (w := w) (g := g) (row := none) (kp2 HK GW246 GW249)) : w.heap.size ≤ gb264) : w0.heap.size ≤ gb264))
              have n9_ := Aside0.mk ((by rw [hg]; exact Nat.ne_of_lt (blk_lt (g := gb246) (o := .cells #[.int .i64 0, .slice none 0 0] 35 (0, 0)) (bk BK246)) : gb246 ≠ gb264))
              have n10_ := Aside0.mk ((by rw [hg]; exact Nat.ne_of_gt (blk_lt (g := gb246) (o := .cells #[.int .i64 0, .slice none 0 0] 35 (0, 0)) (bk BK246)) : gb264 ≠ gb246))
              have n11_ := Aside0.mk ((by rw [hg]; exact Nat.ne_of_lt (blk_lt (g := gb249) (o := .cells #[.int .i64 x250000_1, .slice Ao37 x250001_1.length co37] 35 (0, 0)) (bk BK249)) : gb249 ≠ gb264))
              have n12_ := Aside0.mk ((by rw [hg]; exact Nat.ne_of_gt (blk_lt (g := gb249) (o := .cells #[.int .i64 x250000_1, .slice Ao37 x250001_1.length co37] 35 (0, 0)) (bk BK249)) : gb264 ≠ gb249))
              have n13_ := Aside0.mk ((by rw [hg]; exact Nat.ne_of_lt (IsS183.lt (show IsS183 w0 _ g s0_0 t253 from by repeat (first | (with_reducible first | exact HI0.out | apply IsS183.alloc | apply IsS183.drewN | apply IsS183.drew | apply IsS183.set_1 | refine IsS183.far ?_ NB0_246.out _ | refine IsS183.far ?_ NB0_249.out _) | exact HI0.out))) : g ≠ gb264))
              have n14_ := Aside0.mk ((by rw [hg]; exact Nat.ne_of_gt (IsS183.lt (show IsS183 w0 _ g s0_0 t253 from by repeat (first | (with_reducible first | exact HI0.out | apply IsS183.alloc | apply IsS183.drewN | apply IsS183.drew | apply IsS183.set_1 | refine IsS183.far ?_ NB0_246.out _ | refine IsS183.far ?_ NB0_249.out _) | exact HI0.out))) : gb264 ≠ g))
              clear HO_250001
              clear BK246
              clear BK249
              clear HI0
              clear HK
              clear HB
              have HO_250001 := n0_
              have BK246 := n1_
              have BK249 := n2_
              have HI0 := n3_
              have HK := n4_
              have HB := n5_
              have BK264 := n6_
              have GW264 := n7_
              have GE264 := n8_
              have NB246_264 := n9_
              have NB264_246 := n10_
              have NB249_264 := n11_
              have NB264_249 := n12_
              have NB0_264 := n13_
              have NB264_0 := n14_
              clear n0_ n1_ n2_ n3_ n4_ n5_ n6_ n7_ n8_ n9_ n10_ n11_ n12_ n13_ n14_
              clear hb hbox hg
              refine hK.out _ _ ⟨(blk_cell BK249.out 0).trans rfl, (blk_cell BK249.out 1).trans rfl⟩ (fun hHeld => ?_)
              clear hK K
              refine norm_ (a' := ?_) ?_ ?_
              rotate_left
              ·show Act.put _ (some 5) _ = _
               simp only [Act.put, List.setIfInBounds_toArray, List.set_cons_zero, List.set_cons_succ, i64_w, i32_w]
               rfl
              exact norm_ (by first | (simp only [putAll, Act.put, List.setIfInBounds_toArray, List.set_cons_zero, List.set_cons_succ]; done) | (simp only [putAll, Act.put, List.setIfInBounds_toArray, List.set_cons_zero, List.set_cons_succ]; rfl)) (hJ4_16 (gb264) _ ⟨hHeld, (rl HO_250001), (bk BK246), (bk BK249), (bk BK264), GW264.out, GE264.out, NB0_264.out, NB264_0.out, NB246_264.out, NB264_246.out, NB249_264.out, NB264_249.out, (by repeat (first | (with_reducible first | exact HI0.out | apply IsS183.alloc | apply IsS183.drewN | apply IsS183.drew | apply IsS183.set_1 | refine IsS183.far ?_ NB0_246.out _ | refine IsS183.far ?_ NB0_249.out _ | refine IsS183.far ?_ NB0_264.out _) | exact HI0.out)), (kp3 HK GW246 GW249 GW264), (bs4 HB ⟨IsS183.ge HI0.out⟩ GE246 GE249 GE264)⟩)
           ·skip
            rintro gb264 w41 ⟨hS_, h0_, h1_, h2_, h3_, h4_, h5_, h6_, h7_, h8_, h9_, h10_, h11_, h12_, h13_, h14_⟩
            have n0_ : Aside0 (Kd.R k51 51 w41 w.heap.size (fun _ => True) (.slice Ao37 x250001_1.length co37) x250001_1) := ⟨h0_⟩
            have n1_ : Aside0 (w41.heap[gb246]? = some (.cells #[.int .i64 0, .slice none 0 0] 35 (0, 0))) := ⟨h1_⟩
            have n2_ : Aside0 (w41.heap[gb249]? = some (.cells #[.int .i64 x250000_1, .slice Ao37 x250001_1.length co37] 35 (0, 0))) := ⟨h2_⟩
            have n3_ : Aside0 (w41.heap[gb264]? = some (.cells #[.int .i64 0, .slice none 0 0] 35 (0, 0))) := ⟨h3_⟩
            have n4_ : Aside0 (w.heap.size ≤ gb264) := ⟨h4_⟩
            have n5_ : Aside0 (w0.heap.size ≤ gb264) := ⟨h5_⟩
            have n6_ : Aside0 (g ≠ gb264) := ⟨h6_⟩
            have n7_ : Aside0 (gb264 ≠ g) := ⟨h7_⟩
            have n8_ : Aside0 (gb246 ≠ gb264) := ⟨h8_⟩
            have n9_ : Aside0 (gb264 ≠ gb246) := ⟨h9_⟩
            have n10_ : Aside0 (gb249 ≠ gb264) := ⟨h10_⟩
            have n11_ : Aside0 (gb264 ≠ gb249) := ⟨h11_⟩
            have n12_ : Aside0 (IsS183 w0 w41 g s0_0 t253) := ⟨h12_⟩
            have n13_ : Aside0 (KeepBut w w41 g none) := ⟨h13_⟩
            have n14_ : Aside0 (Below w0.heap.size w0 w41) := ⟨h14_⟩
            clear HO_250001
            clear BK246
            clear BK249
            clear HI0
            clear HK
            clear HB
            clear h0_ h1_ h2_ h3_ h4_ h5_ h6_ h7_ h8_ h9_ h10_ h11_ h12_ h13_ h14_
            have HO_250001 := n0_
            have BK246 := n1_
            have BK249 := n2_
            have BK264 := n3_
            have GW264 := n4_
            have GE264 := n5_
            have NB0_264 := n6_
            have NB264_0 := n7_
            have NB246_264 := n8_
            have NB264_246 := n9_
            have NB249_264 := n10_
            have NB264_249 := n11_
            have HI0 := n12_
            have HK := n13_
            have HB := n14_
            clear n0_ n1_ n2_ n3_ n4_ n5_ n6_ n7_ n8_ n9_ n10_ n11_ n12_ n13_ n14_
            have hHeld : w41.cell? ⟨gb249, 0, none⟩ = some (.int .i64 x250000_1) ∧ w41.cell? ⟨gb249, 1, none⟩ = some (.slice Ao37 x250001_1.length co37) := hS_
            refine norm_ (a' := ?_) ?_ ?_
            rotate_left
            ·simp only [putAll, Act.put, List.setIfInBounds_toArray, List.set_cons_zero, List.set_cons_succ]
             rfl
            refine one_ (i := 8) (N := some 38) #[true, true, true, true, true, true, true, true, true, true, false, false, false, false, false, false, true, false, false, false] rfl rfl (one_of HT_.out (by kernel_rfl)) (by decide) (fun K hK => ?_)
            refine goes_ Try.func136 (by kernel_rfl) rfl #[.pointer (some ⟨g, 0, none⟩), .int .i64 x250000_1] (by rfl) rfl rfl (by (try simp only [List.map_toArray, List.map_cons, List.map_nil]); first | done | rfl | (simp only [List.length_drop, List.length_take]; rfl)) ?_
            with_reducible refine (spec_l1Rd_below.calls g s0_0 t253 x250000_1 t254 t255 w0 _ ?side1 ?side2 A15.out).mono ?_
            (case side1 => repeat (first | (with_reducible first | exact HI0.out | apply IsS183.alloc | apply IsS183.drewN | apply IsS183.drew | apply IsS183.set_1 | refine IsS183.far ?_ NB0_246.out _ | refine IsS183.far ?_ NB0_249.out _ | refine IsS183.far ?_ NB0_264.out _) | exact HI0.out))
            (case side2 => repeat (first | (with_reducible first | exact HB.out | apply below_alloc | apply pw_below_drewN | apply below_drew1 | refine below_set ?_ (IsS183.ge HI0.out) | refine below_set ?_ GE246.out | refine below_set ?_ GE249.out | refine below_set ?_ GE264.out) | exact HB.out))
            rintro e w42 ⟨rfl, hi, hb, hk⟩
            refine ⟨_, rfl, ?_⟩
            have n0_ := Aside0.mk (Kd.R_mono (Kd.R_keep (IsS183.apart (show IsS183 w0 _ g s0_0 t253 from by repeat (first | (with_reducible first | exact HI0.out | apply IsS183.alloc | apply IsS183.drewN | apply IsS183.drew | apply IsS183.set_1 | refine IsS183.far ?_ NB0_246.out _ | refine IsS183.far ?_ NB0_249.out _ | refine IsS183.far ?_ NB0_264.out _) | exact HI0.out)) (rl HO_250001) (by decide)) hk (fun _ h => h.2)) (fun _ h => h.1))
            have n1_ := Aside0.mk (KeepBut.blk hk (g' := gb246) (o := .cells #[.int .i64 0, .slice none 0 0] 35 (0, 0)) (bk BK246) NB246_0.out (by simp))
            have n2_ := Aside0.mk (KeepBut.blk hk (g' := gb249) (o := .cells #[.int .i64 x250000_1, .slice Ao37 x250001_1.length co37] 35 (0, 0)) (bk BK249) NB249_0.out (by simp))
            have n3_ := Aside0.mk (KeepBut.blk hk (g' := gb264) (o := .cells #[.int .i64 0, .slice none 0 0] 35 (0, 0)) (bk BK264) NB264_0.out (by simp))
            have n4_ := Aside0.mk (KeepBut.trans (kp3 HK GW246 GW249 GW264) hk (.inl rfl))
            have n5_ := Aside0.mk (hb)
            have n6_ := Aside0.mk (hi)
            clear HO_250001
            clear BK246
            clear BK249
            clear BK264
            clear HK
            clear HB
            clear HI0
            have HO_250001 := n0_
            have BK246 := n1_
            have BK249 := n2_
            have BK264 := n3_
            have HK := n4_
            have HB := n5_
            have HI0 := n6_
            clear n0_ n1_ n2_ n3_ n4_ n5_ n6_
            (try clear hb)
            (try clear hb2)
            (try clear hk)
            (try clear hi)
            refine hK.out _ _ ⟨(blk_cell BK249.out 0).trans rfl, (blk_cell BK249.out 1).trans rfl⟩ (fun hHeld => ?_)
            clear hK K
            refine norm_ (a' := ?_) ?_ ?_
            rotate_left
            ·show Act.put _ (some 38) _ = _
             simp only [Act.put, List.setIfInBounds_toArray, List.set_cons_zero, List.set_cons_succ, i64_w, i32_w]
             rfl
            exact norm_ (by first | (simp only [putAll, Act.put, List.setIfInBounds_toArray, List.set_cons_zero, List.set_cons_succ]; done) | (simp only [putAll, Act.put, List.setIfInBounds_toArray, List.set_cons_zero, List.set_cons_succ]; rfl)) (hJ4_8_16 (gb264) _ ⟨hHeld, (rl HO_250001), (bk BK246), (bk BK249), (bk BK264), GW264.out, GE264.out, NB0_264.out, NB264_0.out, NB246_264.out, NB264_246.out, NB249_264.out, NB264_249.out, (by repeat (first | (with_reducible first | exact HI0.out | apply IsS183.alloc | apply IsS183.drewN | apply IsS183.drew | apply IsS183.set_1 | refine IsS183.far ?_ NB0_246.out _ | refine IsS183.far ?_ NB0_249.out _ | refine IsS183.far ?_ NB0_264.out _) | exact HI0.out)), (kp3 HK GW246 GW249 GW264), (bs4 HB ⟨IsS183.ge HI0.out⟩ GE246 GE249 GE264)⟩)
          ·skip
           rintro _ w41 ⟨hS_, h0_, h1_, h2_, h3_, h4_, h5_⟩
           have n0_ : Aside0 (Kd.R k51 51 w41 w.heap.size (fun _ => True) (.slice Ao37 x250001_1.length co37) x250001_1) := ⟨h0_⟩
           have n1_ : Aside0 (w41.heap[gb246]? = some (.cells #[.int .i64 0, .slice none 0 0] 35 (0, 0))) := ⟨h1_⟩
           have n2_ : Aside0 (w41.heap[gb249]? = some (.cells #[.int .i64 x250000_1, .slice Ao37 x250001_1.length co37] 35 (0, 0))) := ⟨h2_⟩
           have n3_ : Aside0 (IsS183 w0 w41 g s0_0 t255) := ⟨h3_⟩
           have n4_ : Aside0 (KeepBut w w41 g none) := ⟨h4_⟩
           have n5_ : Aside0 (Below w0.heap.size w0 w41) := ⟨h5_⟩
           clear HO_250001
           clear BK246
           clear BK249
           clear HI0
           clear HK
           clear HB
           clear h0_ h1_ h2_ h3_ h4_ h5_
           have HO_250001 := n0_
           have BK246 := n1_
           have BK249 := n2_
           have HI0 := n3_
           have HK := n4_
           have HB := n5_
           clear n0_ n1_ n2_ n3_ n4_ n5_
           have hHeld : w41.cell? ⟨gb249, 0, none⟩ = some (.int .i64 x250000_1) ∧ w41.cell? ⟨gb249, 1, none⟩ = some (.slice Ao37 x250001_1.length co37) := hS_
           refine norm_ (a' := ?_) ?_ ?_
           rotate_left
           ·simp only [putAll, Act.put, List.setIfInBounds_toArray, List.set_cons_zero, List.set_cons_succ]
            rfl
           refine two_ (i := 10) (j := 16) (Ni := some 40) (Nj := some 5) #[true, true, true, true, true, true, true, true, true, true, true, false, false, false, false, false, false, false, false, false] #[true, true, true, true, true, true, true, true, true, true, false, false, false, false, false, false, true, false, false, false] rfl rfl rfl rfl (two_of HT_.out (by kernel_rfl)) (by decide) (by decide) (fun K hK => ?_) (fun K hK => ?_)
           ·skip
            refine goes_ Try.func136 (by kernel_rfl) rfl #[.pointer (some ⟨g, 0, none⟩), .int .i64 9] (by rfl) rfl rfl (by (try simp only [List.map_toArray, List.map_cons, List.map_nil]); first | done | rfl | (simp only [List.length_drop, List.length_take]; rfl)) ?_
            with_reducible refine (spec_l1Rd_below.calls g s0_0 t255 9 t256 t257 w0 _ ?side1 ?side2 A16.out).mono ?_
            (case side1 => repeat (first | (with_reducible first | exact HI0.out | apply IsS183.alloc | apply IsS183.drewN | apply IsS183.drew | apply IsS183.set_1 | refine IsS183.far ?_ NB0_246.out _ | refine IsS183.far ?_ NB0_249.out _) | exact HI0.out))
            (case side2 => repeat (first | (with_reducible first | exact HB.out | apply below_alloc | apply pw_below_drewN | apply below_drew1 | refine below_set ?_ (IsS183.ge HI0.out) | refine below_set ?_ GE246.out | refine below_set ?_ GE249.out) | exact HB.out))
            rintro e w42 ⟨rfl, hi, hb, hk⟩
            refine ⟨_, rfl, ?_⟩
            have n0_ := Aside0.mk (Kd.R_mono (Kd.R_keep (IsS183.apart (show IsS183 w0 _ g s0_0 t255 from by repeat (first | (with_reducible first | exact HI0.out | apply IsS183.alloc | apply IsS183.drewN | apply IsS183.drew | apply IsS183.set_1 | refine IsS183.far ?_ NB0_246.out _ | refine IsS183.far ?_ NB0_249.out _) | exact HI0.out)) (rl HO_250001) (by decide)) hk (fun _ h => h.2)) (fun _ h => h.1))
            have n1_ := Aside0.mk (KeepBut.blk hk (g' := gb246) (o := .cells #[.int .i64 0, .slice none 0 0] 35 (0, 0)) (bk BK246) NB246_0.out (by simp))
            have n2_ := Aside0.mk (KeepBut.blk hk (g' := gb249) (o := .cells #[.int .i64 x250000_1, .slice Ao37 x250001_1.length co37] 35 (0, 0)) (bk BK249) NB249_0.out (by simp))
            have n3_ := Aside0.mk (KeepBut.trans (kp2 HK GW246 GW249) hk (.inl rfl))
            have n4_ := Aside0.mk (hb)
            have n5_ := Aside0.mk (hi)
            clear HO_250001
            clear BK246
            clear BK249
            clear HK
            clear HB
            clear HI0
            have HO_250001 := n0_
            have BK246 := n1_
            have BK249 := n2_
            have HK := n3_
            have HB := n4_
            have HI0 := n5_
            clear n0_ n1_ n2_ n3_ n4_ n5_
            (try clear hb)
            (try clear hb2)
            (try clear hk)
            (try clear hi)
            refine hK.out _ _ ⟨(blk_cell BK249.out 0).trans rfl, (blk_cell BK249.out 1).trans rfl⟩ (fun hHeld => ?_)
            clear hK K
            refine norm_ (a' := ?_) ?_ ?_
            rotate_left
            ·show Act.put _ (some 40) _ = _
             simp only [Act.put, List.setIfInBounds_toArray, List.set_cons_zero, List.set_cons_succ, i64_w, i32_w]
             rfl
            exact norm_ (by first | (simp only [putAll, Act.put, List.setIfInBounds_toArray, List.set_cons_zero, List.set_cons_succ]; done) | (simp only [putAll, Act.put, List.setIfInBounds_toArray, List.set_cons_zero, List.set_cons_succ]; rfl)) (hJ4_8_10 () _ ⟨hHeld, (rl HO_250001), (bk BK246), (bk BK249), (by repeat (first | (with_reducible first | exact HI0.out | apply IsS183.alloc | apply IsS183.drewN | apply IsS183.drew | apply IsS183.set_1 | refine IsS183.far ?_ NB0_246.out _ | refine IsS183.far ?_ NB0_249.out _) | exact HI0.out)), (kp2 HK GW246 GW249), (bs3 HB ⟨IsS183.ge HI0.out⟩ GE246 GE249)⟩)
           ·skip
            refine box_step ?hg (N := 5) ?hd (cs := #[.int .i64 0, .slice none 0 0]) (t := 35) ?hr ?_; (case hd => rfl); (case hg => rfl); (case hr => first | (go_simp; done) | (go_simp; rfl))
            intro gb264 hg w42 hbox hb
            have n0_ := Aside0.mk (Kd.R_below (rl HO_250001) hb)
            have n1_ := Aside0.mk (blk_below (g := gb246) (o := .cells #[.int .i64 0, .slice none 0 0] 35 (0, 0)) (bk BK246) hb)
            have n2_ := Aside0.mk (blk_below (g := gb249) (o := .cells #[.int .i64 x250000_1, .slice Ao37 x250001_1.length co37] 35 (0, 0)) (bk BK249) hb)
            have n3_ := Aside0.mk (IsS183.below (by repeat (first | (with_reducible first | exact HI0.out | apply IsS183.alloc | apply IsS183.drewN | apply IsS183.drew | apply IsS183.set_1 | refine IsS183.far ?_ NB0_246.out _ | refine IsS183.far ?_ NB0_249.out _) | exact HI0.out)) hb)
            have n4_ := Aside0.mk (KeepBut.trans (kp2 HK GW246 GW249) (KeepBut.of_below hb g none) (.inl rfl))
            have n5_ := Aside0.mk (below_step (bs3 HB ⟨IsS183.ge HI0.out⟩ GE246 GE249) hb)
            have n6_ := Aside0.mk (hbox)
            have n7_ := Aside0.mk ((by rw [hg]; exact (keep_size (w := w) (g := g) (row := none) (kp2 HK GW246 GW249)) : w.heap.size ≤ gb264))
            have n8_ := Aside0.mk ((Nat.le_trans HW0.out (by rw [hg]; exact (keep_size (w := w) (g := g) (row := none) (kp2 HK GW246 GW249)) : w.heap.size ≤ gb264) : w0.heap.size ≤ gb264))
            have n9_ := Aside0.mk ((by rw [hg]; exact Nat.ne_of_lt (blk_lt (g := gb246) (o := .cells #[.int .i64 0, .slice none 0 0] 35 (0, 0)) (bk BK246)) : gb246 ≠ gb264))
            have n10_ := Aside0.mk ((by rw [hg]; exact Nat.ne_of_gt (blk_lt (g := gb246) (o := .cells #[.int .i64 0, .slice none 0 0] 35 (0, 0)) (bk BK246)) : gb264 ≠ gb246))
            have n11_ := Aside0.mk ((by rw [hg]; exact Nat.ne_of_lt (blk_lt (g := gb249) (o := .cells #[.int .i64 x250000_1, .slice Ao37 x250001_1.length co37] 35 (0, 0)) (bk BK249)) : gb249 ≠ gb264))
            have n12_ := Aside0.mk ((by rw [hg]; exact Nat.ne_of_gt (blk_lt (g := gb249) (o := .cells #[.int .i64 x250000_1, .slice Ao37 x250001_1.length co37] 35 (0, 0)) (bk BK249)) : gb264 ≠ gb249))
            have n13_ := Aside0.mk ((by rw [hg]; exact Nat.ne_of_lt (IsS183.lt (show IsS183 w0 _ g s0_0 t255 from by repeat (first | (with_reducible first | exact HI0.out | apply IsS183.alloc | apply IsS183.drewN | apply IsS183.drew | apply IsS183.set_1 | refine IsS183.far ?_ NB0_246.out _ | refine IsS183.far ?_ NB0_249.out _) | exact HI0.out))) : g ≠ gb264))
            have n14_ := Aside0.mk ((by rw [hg]; exact Nat.ne_of_gt (IsS183.lt (show IsS183 w0 _ g s0_0 t255 from by repeat (first | (with_reducible first | exact HI0.out | apply IsS183.alloc | apply IsS183.drewN | apply IsS183.drew | apply IsS183.set_1 | refine IsS183.far ?_ NB0_246.out _ | refine IsS183.far ?_ NB0_249.out _) | exact HI0.out))) : gb264 ≠ g))
            clear HO_250001
            clear BK246
            clear BK249
            clear HI0
            clear HK
            clear HB
            have HO_250001 := n0_
            have BK246 := n1_
            have BK249 := n2_
            have HI0 := n3_
            have HK := n4_
            have HB := n5_
            have BK264 := n6_
            have GW264 := n7_
            have GE264 := n8_
            have NB246_264 := n9_
            have NB264_246 := n10_
            have NB249_264 := n11_
            have NB264_249 := n12_
            have NB0_264 := n13_
            have NB264_0 := n14_
            clear n0_ n1_ n2_ n3_ n4_ n5_ n6_ n7_ n8_ n9_ n10_ n11_ n12_ n13_ n14_
            clear hb hbox hg
            refine hK.out _ _ ⟨(blk_cell BK249.out 0).trans rfl, (blk_cell BK249.out 1).trans rfl⟩ (fun hHeld => ?_)
            clear hK K
            refine norm_ (a' := ?_) ?_ ?_
            rotate_left
            ·show Act.put _ (some 5) _ = _
             simp only [Act.put, List.setIfInBounds_toArray, List.set_cons_zero, List.set_cons_succ, i64_w, i32_w]
             rfl
            exact norm_ (by first | (simp only [putAll, Act.put, List.setIfInBounds_toArray, List.set_cons_zero, List.set_cons_succ]; done) | (simp only [putAll, Act.put, List.setIfInBounds_toArray, List.set_cons_zero, List.set_cons_succ]; rfl)) (hJ4_8_16 (gb264) _ ⟨hHeld, (rl HO_250001), (bk BK246), (bk BK249), (bk BK264), GW264.out, GE264.out, NB0_264.out, NB264_0.out, NB246_264.out, NB264_246.out, NB249_264.out, NB264_249.out, (by repeat (first | (with_reducible first | exact HI0.out | apply IsS183.alloc | apply IsS183.drewN | apply IsS183.drew | apply IsS183.set_1 | refine IsS183.far ?_ NB0_246.out _ | refine IsS183.far ?_ NB0_249.out _ | refine IsS183.far ?_ NB0_264.out _) | exact HI0.out)), (kp3 HK GW246 GW249 GW264), (bs4 HB ⟨IsS183.ge HI0.out⟩ GE246 GE249 GE264)⟩)
         ·skip
          rintro gb264 w42 ⟨hS_, h0_, h1_, h2_, h3_, h4_, h5_, h6_, h7_, h8_, h9_, h10_, h11_, h12_, h13_, h14_⟩
          have n0_ : Aside0 (Kd.R k51 51 w42 w.heap.size (fun _ => True) (.slice Ao37 x250001_1.length co37) x250001_1) := ⟨h0_⟩
          have n1_ : Aside0 (w42.heap[gb246]? = some (.cells #[.int .i64 0, .slice none 0 0] 35 (0, 0))) := ⟨h1_⟩
          have n2_ : Aside0 (w42.heap[gb249]? = some (.cells #[.int .i64 x250000_1, .slice Ao37 x250001_1.length co37] 35 (0, 0))) := ⟨h2_⟩
          have n3_ : Aside0 (w42.heap[gb264]? = some (.cells #[.int .i64 0, .slice none 0 0] 35 (0, 0))) := ⟨h3_⟩
          have n4_ : Aside0 (w.heap.size ≤ gb264) := ⟨h4_⟩
          have n5_ : Aside0 (w0.heap.size ≤ gb264) := ⟨h5_⟩
          have n6_ : Aside0 (g ≠ gb264) := ⟨h6_⟩
          have n7_ : Aside0 (gb264 ≠ g) := ⟨h7_⟩
          have n8_ : Aside0 (gb246 ≠ gb264) := ⟨h8_⟩
          have n9_ : Aside0 (gb264 ≠ gb246) := ⟨h9_⟩
          have n10_ : Aside0 (gb249 ≠ gb264) := ⟨h10_⟩
          have n11_ : Aside0 (gb264 ≠ gb249) := ⟨h11_⟩
          have n12_ : Aside0 (IsS183 w0 w42 g s0_0 t255) := ⟨h12_⟩
          have n13_ : Aside0 (KeepBut w w42 g none) := ⟨h13_⟩
          have n14_ : Aside0 (Below w0.heap.size w0 w42) := ⟨h14_⟩
          clear HO_250001
          clear BK246
          clear BK249
          clear HI0
          clear HK
          clear HB
          clear h0_ h1_ h2_ h3_ h4_ h5_ h6_ h7_ h8_ h9_ h10_ h11_ h12_ h13_ h14_
          have HO_250001 := n0_
          have BK246 := n1_
          have BK249 := n2_
          have BK264 := n3_
          have GW264 := n4_
          have GE264 := n5_
          have NB0_264 := n6_
          have NB264_0 := n7_
          have NB246_264 := n8_
          have NB264_246 := n9_
          have NB249_264 := n10_
          have NB264_249 := n11_
          have HI0 := n12_
          have HK := n13_
          have HB := n14_
          clear n0_ n1_ n2_ n3_ n4_ n5_ n6_ n7_ n8_ n9_ n10_ n11_ n12_ n13_ n14_
          have hHeld : w42.cell? ⟨gb249, 0, none⟩ = some (.int .i64 x250000_1) ∧ w42.cell? ⟨gb249, 1, none⟩ = some (.slice Ao37 x250001_1.length co37) := hS_
          refine norm_ (a' := ?_) ?_ ?_
          rotate_left
          ·simp only [putAll, Act.put, List.setIfInBounds_toArray, List.set_cons_zero, List.set_cons_succ]
           rfl
          refine one_ (i := 10) (N := some 40) #[true, true, true, true, true, true, true, true, true, true, true, false, false, false, false, false, true, false, false, false] rfl rfl (one_of HT_.out (by kernel_rfl)) (by decide) (fun K hK => ?_)
          refine goes_ Try.func136 (by kernel_rfl) rfl #[.pointer (some ⟨g, 0, none⟩), .int .i64 9] (by rfl) rfl rfl (by (try simp only [List.map_toArray, List.map_cons, List.map_nil]); first | done | rfl | (simp only [List.length_drop, List.length_take]; rfl)) ?_
          with_reducible refine (spec_l1Rd_below.calls g s0_0 t255 9 t256 t257 w0 _ ?side1 ?side2 A16.out).mono ?_
          (case side1 => repeat (first | (with_reducible first | exact HI0.out | apply IsS183.alloc | apply IsS183.drewN | apply IsS183.drew | apply IsS183.set_1 | refine IsS183.far ?_ NB0_246.out _ | refine IsS183.far ?_ NB0_249.out _ | refine IsS183.far ?_ NB0_264.out _) | exact HI0.out))
          (case side2 => repeat (first | (with_reducible first | exact HB.out | apply below_alloc | apply pw_below_drewN | apply below_drew1 | refine below_set ?_ (IsS183.ge HI0.out) | refine below_set ?_ GE246.out | refine below_set ?_ GE249.out | refine below_set ?_ GE264.out) | exact HB.out))
          rintro e w43 ⟨rfl, hi, hb, hk⟩
          refine ⟨_, rfl, ?_⟩
          have n0_ := Aside0.mk (Kd.R_mono (Kd.R_keep (IsS183.apart (show IsS183 w0 _ g s0_0 t255 from by repeat (first | (with_reducible first | exact HI0.out | apply IsS183.alloc | apply IsS183.drewN | apply IsS183.drew | apply IsS183.set_1 | refine IsS183.far ?_ NB0_246.out _ | refine IsS183.far ?_ NB0_249.out _ | refine IsS183.far ?_ NB0_264.out _) | exact HI0.out)) (rl HO_250001) (by decide)) hk (fun _ h => h.2)) (fun _ h => h.1))
          have n1_ := Aside0.mk (KeepBut.blk hk (g' := gb246) (o := .cells #[.int .i64 0, .slice none 0 0] 35 (0, 0)) (bk BK246) NB246_0.out (by simp))
          have n2_ := Aside0.mk (KeepBut.blk hk (g' := gb249) (o := .cells #[.int .i64 x250000_1, .slice Ao37 x250001_1.length co37] 35 (0, 0)) (bk BK249) NB249_0.out (by simp))
          have n3_ := Aside0.mk (KeepBut.blk hk (g' := gb264) (o := .cells #[.int .i64 0, .slice none 0 0] 35 (0, 0)) (bk BK264) NB264_0.out (by simp))
          have n4_ := Aside0.mk (KeepBut.trans (kp3 HK GW246 GW249 GW264) hk (.inl rfl))
          have n5_ := Aside0.mk (hb)
          have n6_ := Aside0.mk (hi)
          clear HO_250001
          clear BK246
          clear BK249
          clear BK264
          clear HK
          clear HB
          clear HI0
          have HO_250001 := n0_
          have BK246 := n1_
          have BK249 := n2_
          have BK264 := n3_
          have HK := n4_
          have HB := n5_
          have HI0 := n6_
          clear n0_ n1_ n2_ n3_ n4_ n5_ n6_
          (try clear hb)
          (try clear hb2)
          (try clear hk)
          (try clear hi)
          refine hK.out _ _ ⟨(blk_cell BK249.out 0).trans rfl, (blk_cell BK249.out 1).trans rfl⟩ (fun hHeld => ?_)
          clear hK K
          refine norm_ (a' := ?_) ?_ ?_
          rotate_left
          ·show Act.put _ (some 40) _ = _
           simp only [Act.put, List.setIfInBounds_toArray, List.set_cons_zero, List.set_cons_succ, i64_w, i32_w]
           rfl
          exact norm_ (by first | (simp only [putAll, Act.put, List.setIfInBounds_toArray, List.set_cons_zero, List.set_cons_succ]; done) | (simp only [putAll, Act.put, List.setIfInBounds_toArray, List.set_cons_zero, List.set_cons_succ]; rfl)) (hJ4_8_10_16 (gb264) _ ⟨hHeld, (rl HO_250001), (bk BK246), (bk BK249), (bk BK264), GW264.out, GE264.out, NB0_264.out, NB264_0.out, NB246_264.out, NB264_246.out, NB249_264.out, NB264_249.out, (by repeat (first | (with_reducible first | exact HI0.out | apply IsS183.alloc | apply IsS183.drewN | apply IsS183.drew | apply IsS183.set_1 | refine IsS183.far ?_ NB0_246.out _ | refine IsS183.far ?_ NB0_249.out _ | refine IsS183.far ?_ NB0_264.out _) | exact HI0.out)), (kp3 HK GW246 GW249 GW264), (bs4 HB ⟨IsS183.ge HI0.out⟩ GE246 GE249 GE264)⟩)
        ·skip
         rintro _ w42 ⟨hS_, h0_, h1_, h2_, h3_, h4_, h5_⟩
         have n0_ : Aside0 (Kd.R k51 51 w42 w.heap.size (fun _ => True) (.slice Ao37 x250001_1.length co37) x250001_1) := ⟨h0_⟩
         have n1_ : Aside0 (w42.heap[gb246]? = some (.cells #[.int .i64 0, .slice none 0 0] 35 (0, 0))) := ⟨h1_⟩
         have n2_ : Aside0 (w42.heap[gb249]? = some (.cells #[.int .i64 x250000_1, .slice Ao37 x250001_1.length co37] 35 (0, 0))) := ⟨h2_⟩
         have n3_ : Aside0 (IsS183 w0 w42 g s0_0 t257) := ⟨h3_⟩
         have n4_ : Aside0 (KeepBut w w42 g none) := ⟨h4_⟩
         have n5_ : Aside0 (Below w0.heap.size w0 w42) := ⟨h5_⟩
         clear HO_250001
         clear BK246
         clear BK249
         clear HI0
         clear HK
         clear HB
         clear h0_ h1_ h2_ h3_ h4_ h5_
         have HO_250001 := n0_
         have BK246 := n1_
         have BK249 := n2_
         have HI0 := n3_
         have HK := n4_
         have HB := n5_
         clear n0_ n1_ n2_ n3_ n4_ n5_
         have hHeld : w42.cell? ⟨gb249, 0, none⟩ = some (.int .i64 x250000_1) ∧ w42.cell? ⟨gb249, 1, none⟩ = some (.slice Ao37 x250001_1.length co37) := hS_
         refine norm_ (a' := ?_) ?_ ?_
         rotate_left
         ·simp only [putAll, Act.put, List.setIfInBounds_toArray, List.set_cons_zero, List.set_cons_succ]
          rfl
         refine two_ (i := 11) (j := 16) (Ni := some 41) (Nj := some 5) #[true, true, true, true, true, true, true, true, true, true, true, true, false, false, false, false, false, false, false, false] #[true, true, true, true, true, true, true, true, true, true, true, false, false, false, false, false, true, false, false, false] rfl rfl rfl rfl (two_of HT_.out (by kernel_rfl)) (by decide) (by decide) (fun K hK => ?_) (fun K hK => ?_)
         ·skip
          refine goes_ Try.func27 (by kernel_rfl) rfl #[.agg #[.int .i64 x250000_1, .slice Ao37 x250001_1.length co37], .int .i64 t252, .int .i64 t254, .int .i64 t256] (by rfl) rfl rfl (by (try simp only [List.map_toArray, List.map_cons, List.map_nil]); first | done | rfl | (simp only [List.length_drop, List.length_take]; rfl)) ?_
          with_reducible refine (spec_Join.calls k1 x250000_1 _ _ x250001_1 t252 t254 t256 t258 t259 t262 false _ ?side1 ?side2 A17.out).mono ?_
          (case side1 => repeat (first | exact (Kd.R_reads' HO_250001.out).2.2 | (with_reducible refine Kd.C_alloc ?_ _) | (with_reducible refine Kd.C_drewN ?_ _) | (with_reducible refine Kd.C_drew ?_)))
          (case side2 => exact (Kd.R_reads' HO_250001.out).2.1)
          rintro e w43 ⟨v260, rfl, ho0, hb⟩
          refine ⟨_, rfl, ?_⟩
          have n0_ := Aside0.mk (Kd.R_elder' (rl HO_250001) (Kd.R_base ho0) hb)
          have n1_ := Aside0.mk (Kd.R_lower (Kd.R_new' ho0 (Kd.R_lt (rl HO_250001))) (keep_size (w := w) (g := g) (row := none) (kp2 HK GW246 GW249)))
          have n2_ := Aside0.mk (blk_below (g := gb246) (o := .cells #[.int .i64 0, .slice none 0 0] 35 (0, 0)) (bk BK246) hb)
          have n3_ := Aside0.mk (blk_below (g := gb249) (o := .cells #[.int .i64 x250000_1, .slice Ao37 x250001_1.length co37] 35 (0, 0)) (bk BK249) hb)
          have n4_ := Aside0.mk (IsS183.below (by repeat (first | (with_reducible first | exact HI0.out | apply IsS183.alloc | apply IsS183.drewN | apply IsS183.drew | apply IsS183.set_1 | refine IsS183.far ?_ NB0_246.out _ | refine IsS183.far ?_ NB0_249.out _) | exact HI0.out)) hb)
          have n5_ := Aside0.mk (KeepBut.trans (kp2 HK GW246 GW249) (KeepBut.of_below hb g none) (.inl rfl))
          have n6_ := Aside0.mk (below_step (bs3 HB ⟨IsS183.ge HI0.out⟩ GE246 GE249) hb)
          clear HO_250001
          clear BK246
          clear BK249
          clear HI0
          clear HK
          clear HB
          have HO_250001 := n0_
          have HO261 := n1_
          have BK246 := n2_
          have BK249 := n3_
          have HI0 := n4_
          have HK := n5_
          have HB := n6_
          clear n0_ n1_ n2_ n3_ n4_ n5_ n6_
          (try clear hb)
          (try clear hb2)
          (try clear hk)
          (try clear hi)
          (try clear ho0)
          refine hK.out _ _ ⟨(blk_cell BK249.out 0).trans rfl, (blk_cell BK249.out 1).trans rfl⟩ (fun hHeld => ?_)
          clear hK K
          refine norm_ (a' := ?_) ?_ ?_
          rotate_left
          ·show Act.put _ (some 41) _ = _
           simp only [Act.put, List.setIfInBounds_toArray, List.set_cons_zero, List.set_cons_succ, i64_w, i32_w]
           rfl
          refine pure_ (i := 12) (N := some 29) (v := ?_) (a' := ?_) #[true, true, true, true, true, true, true, true, true, true, true, true, true, false, false, false, false, false, false, false] rfl rfl (any_of HT_.out (by kernel_rfl)) (fun _ _ _ h => h) (Or.inl ⟨by rfl, ?_⟩) ?_ ?_
          rotate_left
          ·intro w'
           go_simp
           with_reducible rfl
          rotate_left
          ·simp only [Act.put, List.setIfInBounds_toArray, List.set_cons_zero, List.set_cons_succ, i64_w, i32_w]
           rfl
          refine pure_ (i := 13) (N := some 42) (v := ?_) (a' := ?_) #[true, true, true, true, true, true, true, true, true, true, true, true, true, true, false, false, false, false, false, false] rfl rfl (any_of HT_.out (by kernel_rfl)) (fun _ _ _ h => h) (Or.inl ⟨by rfl, ?_⟩) ?_ ?_
          rotate_left
          ·intro w'
           go_simp
           with_reducible rfl
          rotate_left
          ·simp only [Act.put, List.setIfInBounds_toArray, List.set_cons_zero, List.set_cons_succ, i64_w, i32_w]
           rfl
          refine pure_ (i := 14) (N := some 43) (v := ?_) (a' := ?_) #[true, true, true, true, true, true, true, true, true, true, true, true, true, true, true, false, false, false, false, false] rfl rfl (any_of HT_.out (by kernel_rfl)) (fun _ _ _ h => h) (Or.inl ⟨by rfl, ?_⟩) ?_ ?_
          rotate_left
          ·intro w'
           go_simp
           with_reducible rfl
          rotate_left
          ·simp only [Act.put, List.setIfInBounds_toArray, List.set_cons_zero, List.set_cons_succ, i64_w, i32_w]
           rfl
          refine pure_ (i := 15) (N := some 44) (v := ?_) (a' := ?_) #[true, true, true, true, true, true, true, true, true, true, true, true, true, true, true, true, false, false, false, false] rfl rfl (any_of HT_.out (by kernel_rfl)) (fun _ _ _ h => h) (Or.inl ⟨by rfl, ?_⟩) ?_ ?_
          rotate_left
          ·intro w'
           go_simp
           with_reducible rfl
          rotate_left
          ·simp only [Act.put, List.setIfInBounds_toArray, List.set_cons_zero, List.set_cons_succ, i64_w, i32_w]
           rfl
          exact norm_ (by first | (simp only [putAll, Act.put, List.setIfInBounds_toArray, List.set_cons_zero, List.set_cons_succ]; done) | (simp only [putAll, Act.put, List.setIfInBounds_toArray, List.set_cons_zero, List.set_cons_succ]; rfl)) (hJ4_8_10_11 (v260) _ ⟨hHeld, (by (with_reducible repeat (first | apply Kd.R_alloc | apply Kd.R_drewN | apply Kd.R_drew)); exact Kd.R_mono HO261.out (fun _ hk => hk.2)), (by (with_reducible repeat (first | apply Kd.R_alloc | apply Kd.R_drewN | apply Kd.R_drew)); exact Kd.R_mono HO_250001.out (fun _ hk => hk.2)), (bk BK246), (bk BK249), (by repeat (first | (with_reducible first | exact HI0.out | apply IsS183.alloc | apply IsS183.drewN | apply IsS183.drew | apply IsS183.set_1 | refine IsS183.far ?_ NB0_246.out _ | refine IsS183.far ?_ NB0_249.out _) | exact HI0.out)), (kp2 HK GW246 GW249), (bs3 HB ⟨IsS183.ge HI0.out⟩ GE246 GE249)⟩)
         ·skip
          refine box_step ?hg (N := 5) ?hd (cs := #[.int .i64 0, .slice none 0 0]) (t := 35) ?hr ?_; (case hd => rfl); (case hg => rfl); (case hr => first | (go_simp; done) | (go_simp; rfl))
          intro gb264 hg w43 hbox hb
          have n0_ := Aside0.mk (Kd.R_below (rl HO_250001) hb)
          have n1_ := Aside0.mk (blk_below (g := gb246) (o := .cells #[.int .i64 0, .slice none 0 0] 35 (0, 0)) (bk BK246) hb)
          have n2_ := Aside0.mk (blk_below (g := gb249) (o := .cells #[.int .i64 x250000_1, .slice Ao37 x250001_1.length co37] 35 (0, 0)) (bk BK249) hb)
          have n3_ := Aside0.mk (IsS183.below (by repeat (first | (with_reducible first | exact HI0.out | apply IsS183.alloc | apply IsS183.drewN | apply IsS183.drew | apply IsS183.set_1 | refine IsS183.far ?_ NB0_246.out _ | refine IsS183.far ?_ NB0_249.out _) | exact HI0.out)) hb)
          have n4_ := Aside0.mk (KeepBut.trans (kp2 HK GW246 GW249) (KeepBut.of_below hb g none) (.inl rfl))
          have n5_ := Aside0.mk (below_step (bs3 HB ⟨IsS183.ge HI0.out⟩ GE246 GE249) hb)
          have n6_ := Aside0.mk (hbox)
          have n7_ := Aside0.mk ((by rw [hg]; exact (keep_size (w := w) (g := g) (row := none) (kp2 HK GW246 GW249)) : w.heap.size ≤ gb264))
          have n8_ := Aside0.mk ((Nat.le_trans HW0.out (by rw [hg]; exact (keep_size (w := w) (g := g) (row := none) (kp2 HK GW246 GW249)) : w.heap.size ≤ gb264) : w0.heap.size ≤ gb264))
          have n9_ := Aside0.mk ((by rw [hg]; exact Nat.ne_of_lt (blk_lt (g := gb246) (o := .cells #[.int .i64 0, .slice none 0 0] 35 (0, 0)) (bk BK246)) : gb246 ≠ gb264))
          have n10_ := Aside0.mk ((by rw [hg]; exact Nat.ne_of_gt (blk_lt (g := gb246) (o := .cells #[.int .i64 0, .slice none 0 0] 35 (0, 0)) (bk BK246)) : gb264 ≠ gb246))
          have n11_ := Aside0.mk ((by rw [hg]; exact Nat.ne_of_lt (blk_lt (g := gb249) (o := .cells #[.int .i64 x250000_1, .slice Ao37 x250001_1.length co37] 35 (0, 0)) (bk BK249)) : gb249 ≠ gb264))
          have n12_ := Aside0.mk ((by rw [hg]; exact Nat.ne_of_gt (blk_lt (g := gb249) (o := .cells #[.int .i64 x250000_1, .slice Ao37 x250001_1.length co37] 35 (0, 0)) (bk BK249)) : gb264 ≠ gb249))
          have n13_ := Aside0.mk ((by rw [hg]; exact Nat.ne_of_lt (IsS183.lt (show IsS183 w0 _ g s0_0 t257 from by repeat (first | (with_reducible first | exact HI0.out | apply IsS183.alloc | apply IsS183.drewN | apply IsS183.drew | apply IsS183.set_1 | refine IsS183.far ?_ NB0_246.out _ | refine IsS183.far ?_ NB0_249.out _) | exact HI0.out))) : g ≠ gb264))
          have n14_ := Aside0.mk ((by rw [hg]; exact Nat.ne_of_gt (IsS183.lt (show IsS183 w0 _ g s0_0 t257 from by repeat (first | (with_reducible first | exact HI0.out | apply IsS183.alloc | apply IsS183.drewN | apply IsS183.drew | apply IsS183.set_1 | refine IsS183.far ?_ NB0_246.out _ | refine IsS183.far ?_ NB0_249.out _) | exact HI0.out))) : gb264 ≠ g))
          clear HO_250001
          clear BK246
          clear BK249
          clear HI0
          clear HK
          clear HB
          have HO_250001 := n0_
          have BK246 := n1_
          have BK249 := n2_
          have HI0 := n3_
          have HK := n4_
          have HB := n5_
          have BK264 := n6_
          have GW264 := n7_
          have GE264 := n8_
          have NB246_264 := n9_
          have NB264_246 := n10_
          have NB249_264 := n11_
          have NB264_249 := n12_
          have NB0_264 := n13_
          have NB264_0 := n14_
          clear n0_ n1_ n2_ n3_ n4_ n5_ n6_ n7_ n8_ n9_ n10_ n11_ n12_ n13_ n14_
          clear hb hbox hg
          refine hK.out _ _ ⟨(blk_cell BK249.out 0).trans rfl, (blk_cell BK249.out 1).trans rfl⟩ (fun hHeld => ?_)
          clear hK K
          refine norm_ (a' := ?_) ?_ ?_
          rotate_left
          ·show Act.put _ (some 5) _ = _
           simp only [Act.put, List.setIfInBounds_toArray, List.set_cons_zero, List.set_cons_succ, i64_w, i32_w]
           rfl
          exact norm_ (by first | (simp only [putAll, Act.put, List.setIfInBounds_toArray, List.set_cons_zero, List.set_cons_succ]; done) | (simp only [putAll, Act.put, List.setIfInBounds_toArray, List.set_cons_zero, List.set_cons_succ]; rfl)) (hJ4_8_10_16 (gb264) _ ⟨hHeld, (rl HO_250001), (bk BK246), (bk BK249), (bk BK264), GW264.out, GE264.out, NB0_264.out, NB264_0.out, NB246_264.out, NB264_246.out, NB249_264.out, NB264_249.out, (by repeat (first | (with_reducible first | exact HI0.out | apply IsS183.alloc | apply IsS183.drewN | apply IsS183.drew | apply IsS183.set_1 | refine IsS183.far ?_ NB0_246.out _ | refine IsS183.far ?_ NB0_249.out _ | refine IsS183.far ?_ NB0_264.out _) | exact HI0.out)), (kp3 HK GW246 GW249 GW264), (bs4 HB ⟨IsS183.ge HI0.out⟩ GE246 GE249 GE264)⟩)
       ·skip
        rintro gb264 w43 ⟨hS_, h0_, h1_, h2_, h3_, h4_, h5_, h6_, h7_, h8_, h9_, h10_, h11_, h12_, h13_, h14_⟩
        have n0_ : Aside0 (Kd.R k51 51 w43 w.heap.size (fun _ => True) (.slice Ao37 x250001_1.length co37) x250001_1) := ⟨h0_⟩
        have n1_ : Aside0 (w43.heap[gb246]? = some (.cells #[.int .i64 0, .slice none 0 0] 35 (0, 0))) := ⟨h1_⟩
        have n2_ : Aside0 (w43.heap[gb249]? = some (.cells #[.int .i64 x250000_1, .slice Ao37 x250001_1.length co37] 35 (0, 0))) := ⟨h2_⟩
        have n3_ : Aside0 (w43.heap[gb264]? = some (.cells #[.int .i64 0, .slice none 0 0] 35 (0, 0))) := ⟨h3_⟩
        have n4_ : Aside0 (w.heap.size ≤ gb264) := ⟨h4_⟩
        have n5_ : Aside0 (w0.heap.size ≤ gb264) := ⟨h5_⟩
        have n6_ : Aside0 (g ≠ gb264) := ⟨h6_⟩
        have n7_ : Aside0 (gb264 ≠ g) := ⟨h7_⟩
        have n8_ : Aside0 (gb246 ≠ gb264) := ⟨h8_⟩
        have n9_ : Aside0 (gb264 ≠ gb246) := ⟨h9_⟩
        have n10_ : Aside0 (gb249 ≠ gb264) := ⟨h10_⟩
        have n11_ : Aside0 (gb264 ≠ gb249) := ⟨h11_⟩
        have n12_ : Aside0 (IsS183 w0 w43 g s0_0 t257) := ⟨h12_⟩
        have n13_ : Aside0 (KeepBut w w43 g none) := ⟨h13_⟩
        have n14_ : Aside0 (Below w0.heap.size w0 w43) := ⟨h14_⟩
        clear HO_250001
        clear BK246
        clear BK249
        clear HI0
        clear HK
        clear HB
        clear h0_ h1_ h2_ h3_ h4_ h5_ h6_ h7_ h8_ h9_ h10_ h11_ h12_ h13_ h14_
        have HO_250001 := n0_
        have BK246 := n1_
        have BK249 := n2_
        have BK264 := n3_
        have GW264 := n4_
        have GE264 := n5_
        have NB0_264 := n6_
        have NB264_0 := n7_
        have NB246_264 := n8_
        have NB264_246 := n9_
        have NB249_264 := n10_
        have NB264_249 := n11_
        have HI0 := n12_
        have HK := n13_
        have HB := n14_
        clear n0_ n1_ n2_ n3_ n4_ n5_ n6_ n7_ n8_ n9_ n10_ n11_ n12_ n13_ n14_
        have hHeld : w43.cell? ⟨gb249, 0, none⟩ = some (.int .i64 x250000_1) ∧ w43.cell? ⟨gb249, 1, none⟩ = some (.slice Ao37 x250001_1.length co37) := hS_
        refine norm_ (a' := ?_) ?_ ?_
        rotate_left
        ·simp only [putAll, Act.put, List.setIfInBounds_toArray, List.set_cons_zero, List.set_cons_succ]
         rfl
        refine one_ (i := 11) (N := some 41) #[true, true, true, true, true, true, true, true, true, true, true, true, false, false, false, false, true, false, false, false] rfl rfl (one_of HT_.out (by kernel_rfl)) (by decide) (fun K hK => ?_)
        refine goes_ Try.func27 (by kernel_rfl) rfl #[.agg #[.int .i64 x250000_1, .slice Ao37 x250001_1.length co37], .int .i64 t252, .int .i64 t254, .int .i64 t256] (by rfl) rfl rfl (by (try simp only [List.map_toArray, List.map_cons, List.map_nil]); first | done | rfl | (simp only [List.length_drop, List.length_take]; rfl)) ?_
        with_reducible refine (spec_Join.calls k1 x250000_1 _ _ x250001_1 t252 t254 t256 t258 t259 t262 false _ ?side1 ?side2 A17.out).mono ?_
        (case side1 => repeat (first | exact (Kd.R_reads' HO_250001.out).2.2 | (with_reducible refine Kd.C_alloc ?_ _) | (with_reducible refine Kd.C_drewN ?_ _) | (with_reducible refine Kd.C_drew ?_)))
        (case side2 => exact (Kd.R_reads' HO_250001.out).2.1)
        rintro e w44 ⟨v260, rfl, ho0, hb⟩
        refine ⟨_, rfl, ?_⟩
        have n0_ := Aside0.mk (Kd.R_elder' (rl HO_250001) (Kd.R_base ho0) hb)
        have n1_ := Aside0.mk (Kd.R_lower (Kd.R_new' ho0 (Kd.R_lt (rl HO_250001))) (keep_size (w := w) (g := g) (row := none) (kp3 HK GW246 GW249 GW264)))
        have n2_ := Aside0.mk (blk_below (g := gb246) (o := .cells #[.int .i64 0, .slice none 0 0] 35 (0, 0)) (bk BK246) hb)
        have n3_ := Aside0.mk (blk_below (g := gb249) (o := .cells #[.int .i64 x250000_1, .slice Ao37 x250001_1.length co37] 35 (0, 0)) (bk BK249) hb)
        have n4_ := Aside0.mk (IsS183.below (by repeat (first | (with_reducible first | exact HI0.out | apply IsS183.alloc | apply IsS183.drewN | apply IsS183.drew | apply IsS183.set_1 | refine IsS183.far ?_ NB0_246.out _ | refine IsS183.far ?_ NB0_249.out _ | refine IsS183.far ?_ NB0_264.out _) | exact HI0.out)) hb)
        have n5_ := Aside0.mk (blk_below (g := gb264) (o := .cells #[.int .i64 0, .slice none 0 0] 35 (0, 0)) (bk BK264) hb)
        have n6_ := Aside0.mk (KeepBut.trans (kp3 HK GW246 GW249 GW264) (KeepBut.of_below hb g none) (.inl rfl))
        have n7_ := Aside0.mk (below_step (bs4 HB ⟨IsS183.ge HI0.out⟩ GE246 GE249 GE264) hb)
        clear HO_250001
        clear BK246
        clear BK249
        clear HI0
        clear BK264
        clear HK
        clear HB
        have HO_250001 := n0_
        have HO261 := n1_
        have BK246 := n2_
        have BK249 := n3_
        have HI0 := n4_
        have BK264 := n5_
        have HK := n6_
        have HB := n7_
        clear n0_ n1_ n2_ n3_ n4_ n5_ n6_ n7_
        (try clear hb)
        (try clear hb2)
        (try clear hk)
        (try clear hi)
        (try clear ho0)
        refine hK.out _ _ ⟨(blk_cell BK249.out 0).trans rfl, (blk_cell BK249.out 1).trans rfl⟩ (fun hHeld => ?_)
        clear hK K
        refine norm_ (a' := ?_) ?_ ?_
        rotate_left
        ·show Act.put _ (some 41) _ = _
         simp only [Act.put, List.setIfInBounds_toArray, List.set_cons_zero, List.set_cons_succ, i64_w, i32_w]
         rfl
        refine pure_ (i := 12) (N := some 29) (v := ?_) (a' := ?_) #[true, true, true, true, true, true, true, true, true, true, true, true, true, false, false, false, true, false, false, false] rfl rfl (any_of HT_.out (by kernel_rfl)) (fun _ _ _ h => h) (Or.inl ⟨by rfl, ?_⟩) ?_ ?_
        rotate_left
        ·intro w'
         go_simp
         with_reducible rfl
        rotate_left
        ·simp only [Act.put, List.setIfInBounds_toArray, List.set_cons_zero, List.set_cons_succ, i64_w, i32_w]
         rfl
        refine pure_ (i := 13) (N := some 42) (v := ?_) (a' := ?_) #[true, true, true, true, true, true, true, true, true, true, true, true, true, true, false, false, true, false, false, false] rfl rfl (any_of HT_.out (by kernel_rfl)) (fun _ _ _ h => h) (Or.inl ⟨by rfl, ?_⟩) ?_ ?_
        rotate_left
        ·intro w'
         go_simp
         with_reducible rfl
        rotate_left
        ·simp only [Act.put, List.setIfInBounds_toArray, List.set_cons_zero, List.set_cons_succ, i64_w, i32_w]
         rfl
        refine pure_ (i := 14) (N := some 43) (v := ?_) (a' := ?_) #[true, true, true, true, true, true, true, true, true, true, true, true, true, true, true, false, true, false, false, false] rfl rfl (any_of HT_.out (by kernel_rfl)) (fun _ _ _ h => h) (Or.inl ⟨by rfl, ?_⟩) ?_ ?_
        rotate_left
        ·intro w'
         go_simp
         with_reducible rfl
        rotate_left
        ·simp only [Act.put, List.setIfInBounds_toArray, List.set_cons_zero, List.set_cons_succ, i64_w, i32_w]
         rfl
        refine pure_ (i := 15) (N := some 44) (v := ?_) (a' := ?_) #[true, true, true, true, true, true, true, true, true, true, true, true, true, true, true, true, true, false, false, false] rfl rfl (any_of HT_.out (by kernel_rfl)) (fun _ _ _ h => h) (Or.inl ⟨by rfl, ?_⟩) ?_ ?_
        rotate_left
        ·intro w'
         go_simp
         with_reducible rfl
        rotate_left
        ·simp only [Act.put, List.setIfInBounds_toArray, List.set_cons_zero, List.set_cons_succ, i64_w, i32_w]
         rfl
        exact norm_ (by first | (simp only [putAll, Act.put, List.setIfInBounds_toArray, List.set_cons_zero, List.set_cons_succ]; done) | (simp only [putAll, Act.put, List.setIfInBounds_toArray, List.set_cons_zero, List.set_cons_succ]; rfl)) (hJ4_8_10_11_16 (v260, gb264) _ ⟨hHeld, (by (with_reducible repeat (first | apply Kd.R_alloc | apply Kd.R_drewN | apply Kd.R_drew)); exact Kd.R_mono HO261.out (fun _ hk => hk.2)), (by (with_reducible repeat (first | apply Kd.R_alloc | apply Kd.R_drewN | apply Kd.R_drew)); exact Kd.R_mono HO_250001.out (fun _ hk => hk.2)), (bk BK246), (bk BK249), (bk BK264), GW264.out, GE264.out, NB0_264.out, NB264_0.out, NB246_264.out, NB264_246.out, NB249_264.out, NB264_249.out, (by repeat (first | (with_reducible first | exact HI0.out | apply IsS183.alloc | apply IsS183.drewN | apply IsS183.drew | apply IsS183.set_1 | refine IsS183.far ?_ NB0_246.out _ | refine IsS183.far ?_ NB0_249.out _ | refine IsS183.far ?_ NB0_264.out _) | exact HI0.out)), (kp3 HK GW246 GW249 GW264), (bs4 HB ⟨IsS183.ge HI0.out⟩ GE246 GE249 GE264)⟩)
      ·skip
       rintro v260 w43 ⟨hS_, h0_, h1_, h2_, h3_, h4_, h5_, h6_⟩
       have n0_ : Aside0 (Kd.R k51 51 w43 w.heap.size (fun k_ => some k_ ≠ (.slice Ao37 x250001_1.length co37 : Value).ownBlock) v260 t259) := ⟨h0_⟩
       have n1_ : Aside0 (Kd.R k51 51 w43 w.heap.size (fun k_ => some k_ ≠ (v260 : Value).ownBlock) (.slice Ao37 x250001_1.length co37) x250001_1) := ⟨h1_⟩
       have n2_ : Aside0 (w43.heap[gb246]? = some (.cells #[.int .i64 0, .slice none 0 0] 35 (0, 0))) := ⟨h2_⟩
       have n3_ : Aside0 (w43.heap[gb249]? = some (.cells #[.int .i64 x250000_1, .slice Ao37 x250001_1.length co37] 35 (0, 0))) := ⟨h3_⟩
       have n4_ : Aside0 (IsS183 w0 w43 g s0_0 t257) := ⟨h4_⟩
       have n5_ : Aside0 (KeepBut w w43 g none) := ⟨h5_⟩
       have n6_ : Aside0 (Below w0.heap.size w0 w43) := ⟨h6_⟩
       clear HO_250001
       clear BK246
       clear BK249
       clear HI0
       clear HK
       clear HB
       clear h0_ h1_ h2_ h3_ h4_ h5_ h6_
       have HO261 := n0_
       have HO_250001 := n1_
       have BK246 := n2_
       have BK249 := n3_
       have HI0 := n4_
       have HK := n5_
       have HB := n6_
       clear n0_ n1_ n2_ n3_ n4_ n5_ n6_
       have hHeld : w43.cell? ⟨gb249, 0, none⟩ = some (.int .i64 x250000_1) ∧ w43.cell? ⟨gb249, 1, none⟩ = some (.slice Ao37 x250001_1.length co37) := hS_
       refine norm_ (a' := ?_) ?_ ?_
       rotate_left
       ·simp only [putAll, Act.put, List.setIfInBounds_toArray, List.set_cons_zero, List.set_cons_succ]
        rfl
       refine one_ (i := 16) (N := some 5) #[true, true, true, true, true, true, true, true, true, true, true, true, true, true, true, true, true, false, false, false] rfl rfl (one_of HT_.out (by kernel_rfl)) (by decide) (fun K hK => ?_)
       refine box_step ?hg (N := 5) ?hd (cs := #[.int .i64 0, .slice none 0 0]) (t := 35) ?hr ?_; (case hd => rfl); (case hg => rfl); (case hr => first | (go_simp; done) | (go_simp; rfl))
       intro gb264 hg w44 hbox hb
       have n0_ := Aside0.mk (Kd.R_below (rl HO_250001) hb)
       have n1_ := Aside0.mk (Kd.R_below (rl HO261) hb)
       have n2_ := Aside0.mk (blk_below (g := gb246) (o := .cells #[.int .i64 0, .slice none 0 0] 35 (0, 0)) (bk BK246) hb)
       have n3_ := Aside0.mk (blk_below (g := gb249) (o := .cells #[.int .i64 x250000_1, .slice Ao37 x250001_1.length co37] 35 (0, 0)) (bk BK249) hb)
       have n4_ := Aside0.mk (IsS183.below (by repeat (first | (with_reducible first | exact HI0.out | apply IsS183.alloc | apply IsS183.drewN | apply IsS183.drew | apply IsS183.set_1 | refine IsS183.far ?_ NB0_246.out _ | refine IsS183.far ?_ NB0_249.out _) | exact HI0.out)) hb)
       have n5_ := Aside0.mk (KeepBut.trans (kp2 HK GW246 GW249) (KeepBut.of_below hb g none) (.inl rfl))
       have n6_ := Aside0.mk (below_step (bs3 HB ⟨IsS183.ge HI0.out⟩ GE246 GE249) hb)
       have n7_ := Aside0.mk (hbox)
       have n8_ := Aside0.mk ((by rw [hg]; exact (keep_size (w := w) (g := g) (row := none) (kp2 HK GW246 GW249)) : w.heap.size ≤ gb264))
       have n9_ := Aside0.mk ((Nat.le_trans HW0.out (by rw [hg]; exact (keep_size (w := w) (g := g) (row := none) (kp2 HK GW246 GW249)) : w.heap.size ≤ gb264) : w0.heap.size ≤ gb264))
       have n10_ := Aside0.mk ((by rw [hg]; exact Nat.ne_of_lt (blk_lt (g := gb246) (o := .cells #[.int .i64 0, .slice none 0 0] 35 (0, 0)) (bk BK246)) : gb246 ≠ gb264))
       have n11_ := Aside0.mk ((by rw [hg]; exact Nat.ne_of_gt (blk_lt (g := gb246) (o := .cells #[.int .i64 0, .slice none 0 0] 35 (0, 0)) (bk BK246)) : gb264 ≠ gb246))
       have n12_ := Aside0.mk ((by rw [hg]; exact Nat.ne_of_lt (blk_lt (g := gb249) (o := .cells #[.int .i64 x250000_1, .slice Ao37 x250001_1.length co37] 35 (0, 0)) (bk BK249)) : gb249 ≠ gb264))
       have n13_ := Aside0.mk ((by rw [hg]; exact Nat.ne_of_gt (blk_lt (g := gb249) (o := .cells #[.int .i64 x250000_1, .slice Ao37 x250001_1.length co37] 35 (0, 0)) (bk BK249)) : gb264 ≠ gb249))
       have n14_ := Aside0.mk ((by rw [hg]; exact Nat.ne_of_lt (IsS183.lt (show IsS183 w0 _ g s0_0 t257 from by repeat (first | (with_reducible first | exact HI0.out | apply IsS183.alloc | apply IsS183.drewN | apply IsS183.drew | apply IsS183.set_1 | refine IsS183.far ?_ NB0_246.out _ | refine IsS183.far ?_ NB0_249.out _) | exact HI0.out))) : g ≠ gb264))
       have n15_ := Aside0.mk ((by rw [hg]; exact Nat.ne_of_gt (IsS183.lt (show IsS183 w0 _ g s0_0 t257 from by repeat (first | (with_reducible first | exact HI0.out | apply IsS183.alloc | apply IsS183.drewN | apply IsS183.drew | apply IsS183.set_1 | refine IsS183.far ?_ NB0_246.out _ | refine IsS183.far ?_ NB0_249.out _) | exact HI0.out))) : gb264 ≠ g))
       clear HO_250001
       clear HO261
       clear BK246
       clear BK249
       clear HI0
       clear HK
       clear HB
       have HO_250001 := n0_
       have HO261 := n1_
       have BK246 := n2_
       have BK249 := n3_
       have HI0 := n4_
       have HK := n5_
       have HB := n6_
       have BK264 := n7_
       have GW264 := n8_
       have GE264 := n9_
       have NB246_264 := n10_
       have NB264_246 := n11_
       have NB249_264 := n12_
       have NB264_249 := n13_
       have NB0_264 := n14_
       have NB264_0 := n15_
       clear n0_ n1_ n2_ n3_ n4_ n5_ n6_ n7_ n8_ n9_ n10_ n11_ n12_ n13_ n14_ n15_
       clear hb hbox hg
       refine hK.out _ _ ⟨(blk_cell BK249.out 0).trans rfl, (blk_cell BK249.out 1).trans rfl⟩ (fun hHeld => ?_)
       clear hK K
       refine norm_ (a' := ?_) ?_ ?_
       rotate_left
       ·show Act.put _ (some 5) _ = _
        simp only [Act.put, List.setIfInBounds_toArray, List.set_cons_zero, List.set_cons_succ, i64_w, i32_w]
        rfl
       exact norm_ (by first | (simp only [putAll, Act.put, List.setIfInBounds_toArray, List.set_cons_zero, List.set_cons_succ]; done) | (simp only [putAll, Act.put, List.setIfInBounds_toArray, List.set_cons_zero, List.set_cons_succ]; rfl)) (hJ4_8_10_11_16 (v260, gb264) _ ⟨hHeld, (rl HO261), (rl HO_250001), (bk BK246), (bk BK249), (bk BK264), GW264.out, GE264.out, NB0_264.out, NB264_0.out, NB246_264.out, NB264_246.out, NB249_264.out, NB264_249.out, (by repeat (first | (with_reducible first | exact HI0.out | apply IsS183.alloc | apply IsS183.drewN | apply IsS183.drew | apply IsS183.set_1 | refine IsS183.far ?_ NB0_246.out _ | refine IsS183.far ?_ NB0_249.out _ | refine IsS183.far ?_ NB0_264.out _) | exact HI0.out)), (kp3 HK GW246 GW249 GW264), (bs4 HB ⟨IsS183.ge HI0.out⟩ GE246 GE249 GE264)⟩)
     rintro ⟨v260, gb264⟩ w44 ⟨hS_, h0_, h1_, h2_, h3_, h4_, h5_, h6_, h7_, h8_, h9_, h10_, h11_, h12_, h13_, h14_, h15_⟩
     have n0_ : Aside0 (Kd.R k51 51 w44 w.heap.size (fun k_ => some k_ ≠ (.slice Ao37 x250001_1.length co37 : Value).ownBlock) v260 t259) := ⟨h0_⟩
     have n1_ : Aside0 (Kd.R k51 51 w44 w.heap.size (fun k_ => some k_ ≠ (v260 : Value).ownBlock) (.slice Ao37 x250001_1.length co37) x250001_1) := ⟨h1_⟩
     have n2_ : Aside0 (w44.heap[gb246]? = some (.cells #[.int .i64 0, .slice none 0 0] 35 (0, 0))) := ⟨h2_⟩
     have n3_ : Aside0 (w44.heap[gb249]? = some (.cells #[.int .i64 x250000_1, .slice Ao37 x250001_1.length co37] 35 (0, 0))) := ⟨h3_⟩
     have n4_ : Aside0 (w44.heap[gb264]? = some (.cells #[.int .i64 0, .slice none 0 0] 35 (0, 0))) := ⟨h4_⟩
     have n5_ : Aside0 (w.heap.size ≤ gb264) := ⟨h5_⟩
     have n6_ : Aside0 (w0.heap.size ≤ gb264) := ⟨h6_⟩
     have n7_ : Aside0 (g ≠ gb264) := ⟨h7_⟩
     have n8_ : Aside0 (gb264 ≠ g) := ⟨h8_⟩
     have n9_ : Aside0 (gb246 ≠ gb264) := ⟨h9_⟩
     have n10_ : Aside0 (gb264 ≠ gb246) := ⟨h10_⟩
     have n11_ : Aside0 (gb249 ≠ gb264) := ⟨h11_⟩
     have n12_ : Aside0 (gb264 ≠ gb249) := ⟨h12_⟩
     have n13_ : Aside0 (IsS183 w0 w44 g s0_0 t257) := ⟨h13_⟩
     have n14_ : Aside0 (KeepBut w w44 g none) := ⟨h14_⟩
     have n15_ : Aside0 (Below w0.heap.size w0 w44) := ⟨h15_⟩
     clear HO_250001
     clear BK246
     clear BK249
     clear HI0
     clear HK
     clear HB
     clear h0_ h1_ h2_ h3_ h4_ h5_ h6_ h7_ h8_ h9_ h10_ h11_ h12_ h13_ h14_ h15_
     have HO261 := n0_
     have HO_250001 := n1_
     have BK246 := n2_
     have BK249 := n3_
     have BK264 := n4_
     have GW264 := n5_
     have GE264 := n6_
     have NB0_264 := n7_
     have NB264_0 := n8_
     have NB246_264 := n9_
     have NB264_246 := n10_
     have NB249_264 := n11_
     have NB264_249 := n12_
     have HI0 := n13_
     have HK := n14_
     have HB := n15_
     clear n0_ n1_ n2_ n3_ n4_ n5_ n6_ n7_ n8_ n9_ n10_ n11_ n12_ n13_ n14_ n15_
     have hHeld : w44.cell? ⟨gb249, 0, none⟩ = some (.int .i64 x250000_1) ∧ w44.cell? ⟨gb249, 1, none⟩ = some (.slice Ao37 x250001_1.length co37) := hS_
     obtain ⟨Ao46, co46, eo46⟩ := Kd.R_slice HO261.out
     (first | subst eo46 | (injection eo46 with f1_ f2_ f3_; have f4_ := f1_.symm; have f5_ := f3_.symm; clear f1_ f2_ f3_; subst f4_; subst f5_))
     refine norm_ (a' := ?_) ?_ ?_
     rotate_left
     ·simp only [putAll, Act.put, List.setIfInBounds_toArray, List.set_cons_zero, List.set_cons_succ]
      rfl
     refine one_ (i := 17) (N := none) #[true, true, true, true, true, true, true, true, true, true, true, true, true, true, true, true, true, true, false, false] rfl rfl (one_of HT_.out (by kernel_rfl)) (by decide) (fun K hK => ?_)
     have hs45 : w44.cell? ⟨gb264, 0, none⟩ = some (.int .i64 0) := (blk_cell BK264.out 0).trans rfl
     have hfs45 := blk_frozen BK264.out 0
     have hns45_0 := NB246_264.out
     have hns45_1 := NB249_264.out
     have hms45_0 := NB264_246.out
     have hms45_1 := NB264_249.out
     have hs47 : w44.cell? ⟨gb264, 1, none⟩ = some (.slice none 0 0) := (blk_cell BK264.out 1).trans rfl
     have hfs47 := blk_frozen BK264.out 1
     have hns47_0 := NB246_264.out
     have hns47_1 := NB249_264.out
     have hms47_0 := NB264_246.out
     have hms47_1 := NB264_249.out
     refine skip_ (w1 := ?_) (by rfl) rfl ?_ ?_
     rotate_left
     ·go_simp
      rfl
     refine hK.out _ _ ⟨((cell_far (p := ⟨gb264, _, none⟩) NB249_264.out _).trans (((cell_far (p := ⟨gb264, _, none⟩) NB249_264.out _).trans (hHeld.1)))), ((cell_far (p := ⟨gb264, _, none⟩) NB249_264.out _).trans (((cell_far (p := ⟨gb264, _, none⟩) NB249_264.out _).trans (hHeld.2))))⟩ (fun hHeld => ?_)
     clear hK K
     refine pure_ (i := 18) (N := some 6) (v := ?_) (a' := ?_) #[true, true, true, true, true, true, true, true, true, true, true, true, true, true, true, true, true, true, true, false] rfl rfl (any_of HT_.out (by kernel_rfl)) (fun _ _ _ h => h) (Or.inl ⟨by rfl, ?_⟩) ?_ ?_
     rotate_left
     ·intro w'
      go_simp
      with_reducible rfl
     rotate_left
     ·simp only [Act.put, List.setIfInBounds_toArray, List.set_cons_zero, List.set_cons_succ, i64_w, i32_w]
      rfl
     refine pure_ (i := 19) (N := some 7) (v := ?_) (a' := ?_) #[true, true, true, true, true, true, true, true, true, true, true, true, true, true, true, true, true, true, true, true] rfl rfl (any_of HT_.out (by kernel_rfl)) (fun _ _ _ h => h) (Or.inl ⟨by rfl, ?_⟩) ?_ ?_
     rotate_left
     ·intro w'
      go_simp
      with_reducible rfl
     rotate_left
     ·simp only [Act.put, List.setIfInBounds_toArray, List.set_cons_zero, List.set_cons_succ, i64_w, i32_w]
      rfl
     refine done_ (done_of HT_.out (by kernel_rfl)) ?_
     try go_wp2
     go_roundg k1
     case measure => have := HK1.out; omega
     case rel => exact ⟨(wrap64 (x4_1 - 1)), (t257), (x250000_1), (x250001_1), (.slice Ao37 x250001_1.length co37), (by first | rfl | (simp; done) | (simp [*]; done) | (simp only [bne_nil_]; done) | (simp [bne_nil_]; done)), H', ⟨by have := HK1.out; omega⟩, ⟨by (with_reducible repeat (first | apply Kd.R_alloc | apply Kd.R_drewN | apply Kd.R_drew)); exact Kd.R_mono (Kd.R_far (p := ⟨gb264, 1, none⟩) (Kd.R_far (p := ⟨gb264, 0, none⟩) (Kd.R_types HO_250001.out BK264.out (by decide)) (fun _ hk => hk.2) (.int .i64 t258)) (fun _ hk => hk.2) (.slice Ao46 t259.length co46)) (fun _ hk => trivial)⟩, ⟨by (with_reducible repeat (first | refine blk_drewN ?_ _ | refine blk_drew ?_ | refine blk_alloc ?_ _)); refine blk_far ?_ NB246_264.out _; (with_reducible repeat (first | refine blk_drewN ?_ _ | refine blk_drew ?_ | refine blk_alloc ?_ _)); refine blk_far ?_ NB246_264.out _; (with_reducible repeat (first | refine blk_drewN ?_ _ | refine blk_drew ?_ | refine blk_alloc ?_ _)); exact BK246.out⟩, ⟨by (with_reducible repeat (first | refine blk_drewN ?_ _ | refine blk_drew ?_ | refine blk_alloc ?_ _)); refine blk_far ?_ NB249_264.out _; (with_reducible repeat (first | refine blk_drewN ?_ _ | refine blk_drew ?_ | refine blk_alloc ?_ _)); refine blk_far ?_ NB249_264.out _; (with_reducible repeat (first | refine blk_drewN ?_ _ | refine blk_drew ?_ | refine blk_alloc ?_ _)); exact BK249.out⟩, ⟨by repeat (first | (with_reducible first | exact HI0.out | apply IsS183.alloc | apply IsS183.drewN | apply IsS183.drew | apply IsS183.set_1 | refine IsS183.far ?_ NB0_246.out _ | refine IsS183.far ?_ NB0_249.out _ | refine IsS183.far ?_ NB0_264.out _) | exact HI0.out)⟩, ⟨kp3 HK GW246 GW249 GW264⟩, ⟨bs4 HB ⟨IsS183.ge HI0.out⟩ GE246 GE249 GE264⟩⟩
   ·rw [if_neg c13] at H
    have c13b0 : decide (0 < x4_1) = false := decide_eq_false c13
    clear c13
    replace H := Option.bind_eq_some_iff.mp H
    obtain ⟨⟨t265, t266⟩, A480, H⟩ := H
    replace H : (if t265 = 0 then ((spec_l1Rd_off.f k1 s0_0 t266 0 (wrap64 (x250000_1 - 1))).bind fun bt267 => ((spec_l1Rd_off.f k1 s0_0 bt267.2 0 (wrap64 (x250000_1 - 1))).bind fun bt269 => (if x250001_1.length < 5864062014805 then (some (x250000_1, (x250001_1 ++ [(⟨bt267.1, bt269.1, 0⟩ : S51)]), bt269.2)) else (none)))) else (if t265 = 1 then ((spec_l1Rd_off.f k1 s0_0 t266 0 x250000_1).bind fun bt274 => (some (bt274.1, x250001_1, bt274.2))) else (if t265 = 2 then (if (x250001_1.length : Int) > 0 then ((spec_l1Rd_off.f k1 s0_0 t266 0 1000000).bind fun bt276 => (if 0 < (x250001_1.length : Int) then (some (x250000_1, (x250001_1.set (0 : Int).toNat (⟨(rd_T51 x250001_1 0).f0, (rd_T51 x250001_1 0).f1, bt276.1⟩ : S51)), bt276.2)) else (none))) else (some (x250000_1, x250001_1, t266))) else (if t265 = 3 then ((spec_l1Rd_below.f s0_0 t266 2).bind fun bt279 => (some (wrap64 (1000 + bt279.1), x250001_1, bt279.2))) else (some (x250000_1, x250001_1, t266)))))) = some (r1, r2, r3) := H
    have A48 := Aside0.mk A480
    clear A480
    by_cases c49 : t265 = 0
    ·rw [if_pos c49] at H
     have c49b0 : (t265 == 0) = true := beq_iff_eq.mpr c49
     have c49b1 : (t265 != 0) = false := bne_eq_false_iff_eq.mpr c49
     clear c49
     replace H := Option.bind_eq_some_iff.mp H
     obtain ⟨⟨t267, t268⟩, A500, H⟩ := H
     replace H : ((spec_l1Rd_off.f k1 s0_0 t268 0 (wrap64 (x250000_1 - 1))).bind fun bt269 => (if x250001_1.length < 5864062014805 then (some (x250000_1, (x250001_1 ++ [(⟨t267, bt269.1, 0⟩ : S51)]), bt269.2)) else (none))) = some (r1, r2, r3) := H
     have A50 := Aside0.mk A500
     clear A500
     replace H := Option.bind_eq_some_iff.mp H
     obtain ⟨⟨t269, t270⟩, A510, H⟩ := H
     replace H : (if x250001_1.length < 5864062014805 then (some (x250000_1, (x250001_1 ++ [(⟨t267, t269, 0⟩ : S51)]), t270)) else (none)) = some (r1, r2, r3) := H
     have A51 := Aside0.mk A510
     clear A510
     by_cases c52 : x250001_1.length < 5864062014805
     ·rw [if_pos c52] at H
      have LMc52 := Aside0.mk c52
      clear c52
      obtain ⟨y271, hy271⟩ : ∃ y_ : List (S51), y_ = (x250001_1 ++ [(⟨t267, t269, 0⟩ : S51)]) := ⟨_, rfl⟩
      replace H : (some (x250000_1, y271, t270)) = some (r1, r2, r3) := by first | (rw [hy271]; with_reducible exact H) | (have H2_ := (Option.bind_some _ _).symm.trans H; rw [hy271]; with_reducible exact H2_) | (have H2_ := (Option.bind_some _ _).symm.trans H; with_reducible exact H2_) | with_reducible exact H | (rw [hy271]; exact H) | exact H
      have Ny271 := Aside0.mk hy271
      clear hy271
      simp only [Option.some.injEq, Prod.mk.injEq] at H
      obtain ⟨rfl, rfl, rfl⟩ := H
      try go_wp2_with (first | ((with_reducible refine gate_callee (f := 136) rfl ?_); refine goesL_ (some 48) rfl rfl Try.func136 (by kernel_rfl) rfl #[.pointer (some ⟨g, 0, none⟩), .int .i64 30] rfl (by (try simp only [List.map_toArray, List.map_cons, List.map_nil]); first | done | rfl | (simp only [List.length_drop, List.length_take]; rfl)) ?_; (with_reducible refine (spec_l1Rd_below.calls g s0_0 x1001_1 30 t265 t266 w0 _ ?side1 ?side2 A48.out).mono ?_); (case side1 => repeat (first | (with_reducible first | exact HI0.out | apply IsS183.alloc | apply IsS183.drewN | apply IsS183.drew | apply IsS183.set_1 | refine IsS183.far ?_ NB0_246.out _ | refine IsS183.far ?_ NB0_249.out _) | exact HI0.out)); (case side2 => repeat (first | (with_reducible first | exact HB.out | apply below_alloc | apply pw_below_drewN | apply below_drew1 | refine below_set ?_ (IsS183.ge HI0.out) | refine below_set ?_ GE246.out | refine below_set ?_ GE249.out) | exact HB.out)); rintro e w53 ⟨rfl, hi, hb, hk⟩; refine ⟨_, rfl, ?_⟩; have n0_ := Aside0.mk (Kd.R_mono (Kd.R_keep (IsS183.apart (show IsS183 w0 _ g s0_0 x1001_1 from by repeat (first | (with_reducible first | exact HI0.out | apply IsS183.alloc | apply IsS183.drewN | apply IsS183.drew | apply IsS183.set_1 | refine IsS183.far ?_ NB0_246.out _ | refine IsS183.far ?_ NB0_249.out _) | exact HI0.out)) (rl HO_250001) (by decide)) hk (fun _ h => h.2)) (fun _ h => h.1)); have n1_ := Aside0.mk (KeepBut.blk hk (g' := gb246) (o := .cells #[.int .i64 0, .slice none 0 0] 35 (0, 0)) (bk BK246) NB246_0.out (by simp)); have n2_ := Aside0.mk (KeepBut.blk hk (g' := gb249) (o := .cells #[.int .i64 x250000_1, u250001] 35 (0, 0)) (bk BK249) NB249_0.out (by simp)); have n3_ := Aside0.mk (KeepBut.trans (kp2 HK GW246 GW249) hk (.inl rfl)); have n4_ := Aside0.mk (hb); have n5_ := Aside0.mk (hi); clear HO_250001; clear BK246; clear BK249; clear HK; clear HB; clear HI0; have HO_250001 := n0_; have BK246 := n1_; have BK249 := n2_; have HK := n3_; have HB := n4_; have HI0 := n5_; clear n0_ n1_ n2_ n3_ n4_ n5_; (try clear hb); (try clear hb2); (try clear hk); (try clear hi)))
      have n0_ := Aside0.mk (Kd.R_drew HO_250001.out)
      have n1_ := Aside0.mk (blk_drew BK246.out)
      have n2_ := Aside0.mk (blk_drew BK249.out)
      have n3_ := Aside0.mk (IsS183.drew HI0.out)
      have n4_ := Aside0.mk (keep_drew HK.out)
      have n5_ := Aside0.mk (below_drew1 HB.out)
      clear HO_250001
      clear BK246
      clear BK249
      clear HI0
      clear HK
      clear HB
      have HO_250001 := n0_
      have BK246 := n1_
      have BK249 := n2_
      have HI0 := n3_
      have HK := n4_
      have HB := n5_
      clear n0_ n1_ n2_ n3_ n4_ n5_
      refine start_ (n := 17) (S := fun w' => w'.cell? ⟨gb249, 0, none⟩ = some (.int .i64 x250000_1) ∧ w'.cell? ⟨gb249, 1, none⟩ = some (u250001)) (ds := [16]) #[false, false, false, false, false, false, false, false, false, false, false, false, false, false, false, false, false] (by kernel_rfl) rfl rfl ⟨(blk_cell BK249.out 0).trans rfl, (blk_cell BK249.out 1).trans rfl⟩ (fun hHeld => ?_); refine with_tabW spec_l1Rd_forest.tab10 spec_l1Rd_forest.bits10 (fun HT_ HW_ => ?_)
      generalize w53.drew = w54 at HO_250001 BK246 BK249 HI0 HK HB hHeld ⊢
      refine pure_ (i := 0) (N := some 51) (v := ?_) (a' := ?_) #[true, false, false, false, false, false, false, false, false, false, false, false, false, false, false, false, false] rfl rfl (any_of HT_.out (by kernel_rfl)) (fun _ _ _ h => h) (Or.inl ⟨by rfl, ?_⟩) ?_ ?_
      rotate_left
      ·intro w'
       go_simp
       with_reducible rfl
      rotate_left
      ·simp only [Act.put, List.setIfInBounds_toArray, List.set_cons_zero, List.set_cons_succ, i64_w, i32_w]
       rfl
      refine pure_ (i := 2) (N := some 53) (v := ?_) (a' := ?_) #[true, false, true, false, false, false, false, false, false, false, false, false, false, false, false, false, false] rfl rfl (any_of HT_.out (by kernel_rfl)) (fun _ _ _ h => h) (Or.inl ⟨by rfl, ?_⟩) ?_ ?_
      rotate_left
      ·intro w'
       go_simp
       with_reducible rfl
      rotate_left
      ·simp only [Act.put, List.setIfInBounds_toArray, List.set_cons_zero, List.set_cons_succ, i64_w, i32_w]
       rfl
      refine pure_ (i := 3) (N := some 54) (v := ?_) (a' := ?_) #[true, false, true, true, false, false, false, false, false, false, false, false, false, false, false, false, false] rfl rfl (any_of HT_.out (by kernel_rfl)) (fun _ _ _ h => h) (Or.inl ⟨by rfl, ?_⟩) ?_ ?_
      rotate_left
      ·intro w'
       go_simp
       with_reducible rfl
      rotate_left
      ·simp only [Act.put, List.setIfInBounds_toArray, List.set_cons_zero, List.set_cons_succ, i64_w, i32_w]
       rfl
      refine pure_ (i := 7) (N := some 58) (v := ?_) (a' := ?_) #[true, false, true, true, false, false, false, true, false, false, false, false, false, false, false, false, false] rfl rfl (any_of HT_.out (by kernel_rfl)) (fun _ _ _ h => h) (Or.inl ⟨by rfl, ?_⟩) ?_ ?_
      rotate_left
      ·intro w'
       go_simp
       with_reducible rfl
      rotate_left
      ·simp only [Act.put, List.setIfInBounds_toArray, List.set_cons_zero, List.set_cons_succ, i64_w, i32_w]
       rfl
      refine pure_ (i := 8) (N := some 59) (v := ?_) (a' := ?_) #[true, false, true, true, false, false, false, true, true, false, false, false, false, false, false, false, false] rfl rfl (any_of HT_.out (by kernel_rfl)) (fun _ _ _ h => h) (Or.inl ⟨by rfl, ?_⟩) ?_ ?_
      rotate_left
      ·intro w'
       go_simp
       with_reducible rfl
      rotate_left
      ·simp only [Act.put, List.setIfInBounds_toArray, List.set_cons_zero, List.set_cons_succ, i64_w, i32_w]
       rfl
      refine take_ (i := 1) (N := some 52) (v := ?_) (a' := ?_) #[true, true, true, true, false, false, false, true, true, false, false, false, false, false, false, false, false] rfl rfl (take_ofW HT_.out HW_.out (by kernel_rfl)) (fun _ _ _ h => h) (Or.inl ⟨by rfl, ?_⟩) hHeld ?_ ?_
      rotate_left
      ·rintro w' ⟨s0, s1⟩
       go_simp
       with_reducible rfl
      rotate_left
      ·simp only [Act.put, List.setIfInBounds_toArray, List.set_cons_zero, List.set_cons_succ, i64_w, i32_w]
       rfl
      refine take_ (i := 4) (N := some 55) (v := ?_) (a' := ?_) #[true, true, true, true, true, false, false, true, true, false, false, false, false, false, false, false, false] rfl rfl (take_ofW HT_.out HW_.out (by kernel_rfl)) (fun _ _ _ h => h) (Or.inl ⟨by rfl, ?_⟩) hHeld ?_ ?_
      rotate_left
      ·rintro w' ⟨s0, s1⟩
       go_simp
       with_reducible rfl
      rotate_left
      ·simp only [Act.put, List.setIfInBounds_toArray, List.set_cons_zero, List.set_cons_succ, i64_w, i32_w]
       rfl
      refine pure_ (i := 5) (N := some 56) (v := ?_) (a' := ?_) #[true, true, true, true, true, true, false, true, true, false, false, false, false, false, false, false, false] rfl rfl (any_of HT_.out (by kernel_rfl)) (fun _ _ _ h => h) (Or.inl ⟨by rfl, ?_⟩) ?_ ?_
      rotate_left
      ·intro w'
       go_simp
       with_reducible rfl
      rotate_left
      ·simp only [Act.put, List.setIfInBounds_toArray, List.set_cons_zero, List.set_cons_succ, i64_w, i32_w]
       rfl
      refine take_ (i := 9) (N := some 60) (v := ?_) (a' := ?_) #[true, true, true, true, true, true, false, true, true, true, false, false, false, false, false, false, false] rfl rfl (take_ofW HT_.out HW_.out (by kernel_rfl)) (fun _ _ _ h => h) (Or.inl ⟨by rfl, ?_⟩) hHeld ?_ ?_
      rotate_left
      ·rintro w' ⟨s0, s1⟩
       go_simp
       with_reducible rfl
      rotate_left
      ·simp only [Act.put, List.setIfInBounds_toArray, List.set_cons_zero, List.set_cons_succ, i64_w, i32_w]
       rfl
      refine pure_ (i := 10) (N := some 61) (v := ?_) (a' := ?_) #[true, true, true, true, true, true, false, true, true, true, true, false, false, false, false, false, false] rfl rfl (any_of HT_.out (by kernel_rfl)) (fun _ _ _ h => h) (Or.inl ⟨by rfl, ?_⟩) ?_ ?_
      rotate_left
      ·intro w'
       go_simp
       with_reducible rfl
      rotate_left
      ·simp only [Act.put, List.setIfInBounds_toArray, List.set_cons_zero, List.set_cons_succ, i64_w, i32_w]
       rfl
      refine one_ (i := 6) (N := some 57) #[true, true, true, true, true, true, true, true, true, true, true, false, false, false, false, false, false] rfl rfl (one_of HT_.out (by kernel_rfl)) (by decide) (fun K hK => ?_)
      refine goes_ Try.func90 (by kernel_rfl) rfl #[.pointer (some ⟨g, 0, none⟩), .int .i64 0, .int .i64 (wrap64 (x250000_1 - 1))] (by rfl) rfl rfl (by (try simp only [List.map_toArray, List.map_cons, List.map_nil]); first | done | rfl | (simp only [List.length_drop, List.length_take]; rfl)) ?_
      with_reducible refine (spec_l1Rd_off.calls k1 g s0_0 t266 0 (wrap64 (x250000_1 - 1)) t267 t268 w0 _ ?side1 ?side2 A50.out).mono ?_
      (case side1 => repeat (first | (with_reducible first | exact HI0.out | apply IsS183.alloc | apply IsS183.drewN | apply IsS183.drew | apply IsS183.set_1 | refine IsS183.far ?_ NB0_246.out _ | refine IsS183.far ?_ NB0_249.out _) | exact HI0.out))
      (case side2 => repeat (first | (with_reducible first | exact HB.out | apply below_alloc | apply pw_below_drewN | apply below_drew1 | refine below_set ?_ (IsS183.ge HI0.out) | refine below_set ?_ GE246.out | refine below_set ?_ GE249.out) | exact HB.out))
      rintro e w55 ⟨rfl, hi, hb, hk⟩
      refine ⟨_, rfl, ?_⟩
      have n0_ := Aside0.mk (Kd.R_mono (Kd.R_keep (IsS183.apart (show IsS183 w0 _ g s0_0 t266 from by repeat (first | (with_reducible first | exact HI0.out | apply IsS183.alloc | apply IsS183.drewN | apply IsS183.drew | apply IsS183.set_1 | refine IsS183.far ?_ NB0_246.out _ | refine IsS183.far ?_ NB0_249.out _) | exact HI0.out)) (rl HO_250001) (by decide)) hk (fun _ h => h.2)) (fun _ h => h.1))
      have n1_ := Aside0.mk (KeepBut.blk hk (g' := gb246) (o := .cells #[.int .i64 0, .slice none 0 0] 35 (0, 0)) (bk BK246) NB246_0.out (by simp))
      have n2_ := Aside0.mk (KeepBut.blk hk (g' := gb249) (o := .cells #[.int .i64 x250000_1, u250001] 35 (0, 0)) (bk BK249) NB249_0.out (by simp))
      have n3_ := Aside0.mk (KeepBut.trans (kp2 HK GW246 GW249) hk (.inl rfl))
      have n4_ := Aside0.mk (hb)
      have n5_ := Aside0.mk (hi)
      clear HO_250001
      clear BK246
      clear BK249
      clear HK
      clear HB
      clear HI0
      have HO_250001 := n0_
      have BK246 := n1_
      have BK249 := n2_
      have HK := n3_
      have HB := n4_
      have HI0 := n5_
      clear n0_ n1_ n2_ n3_ n4_ n5_
      (try clear hb)
      (try clear hb2)
      (try clear hk)
      (try clear hi)
      refine hK.out _ _ ⟨(blk_cell BK249.out 0).trans rfl, (blk_cell BK249.out 1).trans rfl⟩ (fun hHeld => ?_)
      clear hK K
      refine norm_ (a' := ?_) ?_ ?_
      rotate_left
      ·show Act.put _ (some 57) _ = _
       simp only [Act.put, List.setIfInBounds_toArray, List.set_cons_zero, List.set_cons_succ, i64_w, i32_w]
       rfl
      refine one_ (i := 11) (N := some 62) #[true, true, true, true, true, true, true, true, true, true, true, true, false, false, false, false, false] rfl rfl (one_of HT_.out (by kernel_rfl)) (by decide) (fun K hK => ?_)
      refine goes_ Try.func90 (by kernel_rfl) rfl #[.pointer (some ⟨g, 0, none⟩), .int .i64 0, .int .i64 (wrap64 (x250000_1 - 1))] (by rfl) rfl rfl (by (try simp only [List.map_toArray, List.map_cons, List.map_nil]); first | done | rfl | (simp only [List.length_drop, List.length_take]; rfl)) ?_
      with_reducible refine (spec_l1Rd_off.calls k1 g s0_0 t268 0 (wrap64 (x250000_1 - 1)) t269 t270 w0 _ ?side1 ?side2 A51.out).mono ?_
      (case side1 => repeat (first | (with_reducible first | exact HI0.out | apply IsS183.alloc | apply IsS183.drewN | apply IsS183.drew | apply IsS183.set_1 | refine IsS183.far ?_ NB0_246.out _ | refine IsS183.far ?_ NB0_249.out _) | exact HI0.out))
      (case side2 => repeat (first | (with_reducible first | exact HB.out | apply below_alloc | apply pw_below_drewN | apply below_drew1 | refine below_set ?_ (IsS183.ge HI0.out) | refine below_set ?_ GE246.out | refine below_set ?_ GE249.out) | exact HB.out))
      rintro e w56 ⟨rfl, hi, hb, hk⟩
      refine ⟨_, rfl, ?_⟩
      have n0_ := Aside0.mk (Kd.R_mono (Kd.R_keep (IsS183.apart (show IsS183 w0 _ g s0_0 t268 from by repeat (first | (with_reducible first | exact HI0.out | apply IsS183.alloc | apply IsS183.drewN | apply IsS183.drew | apply IsS183.set_1 | refine IsS183.far ?_ NB0_246.out _ | refine IsS183.far ?_ NB0_249.out _) | exact HI0.out)) (rl HO_250001) (by decide)) hk (fun _ h => h.2)) (fun _ h => h.1))
      have n1_ := Aside0.mk (KeepBut.blk hk (g' := gb246) (o := .cells #[.int .i64 0, .slice none 0 0] 35 (0, 0)) (bk BK246) NB246_0.out (by simp))
      have n2_ := Aside0.mk (KeepBut.blk hk (g' := gb249) (o := .cells #[.int .i64 x250000_1, u250001] 35 (0, 0)) (bk BK249) NB249_0.out (by simp))
      have n3_ := Aside0.mk (KeepBut.trans (kp2 HK GW246 GW249) hk (.inl rfl))
      have n4_ := Aside0.mk (hb)
      have n5_ := Aside0.mk (hi)
      clear HO_250001
      clear BK246
      clear BK249
      clear HK
      clear HB
      clear HI0
      have HO_250001 := n0_
      have BK246 := n1_
      have BK249 := n2_
      have HK := n3_
      have HB := n4_
      have HI0 := n5_
      clear n0_ n1_ n2_ n3_ n4_ n5_
      (try clear hb)
      (try clear hb2)
      (try clear hk)
      (try clear hi)
      refine hK.out _ _ ⟨(blk_cell BK249.out 0).trans rfl, (blk_cell BK249.out 1).trans rfl⟩ (fun hHeld => ?_)
      clear hK K
      refine norm_ (a' := ?_) ?_ ?_
      rotate_left
      ·show Act.put _ (some 62) _ = _
       simp only [Act.put, List.setIfInBounds_toArray, List.set_cons_zero, List.set_cons_succ, i64_w, i32_w]
       rfl
      refine pure_ (i := 12) (N := some 63) (v := ?_) (a' := ?_) #[true, true, true, true, true, true, true, true, true, true, true, true, true, false, false, false, false] rfl rfl (any_of HT_.out (by kernel_rfl)) (fun _ _ _ h => h) (Or.inl ⟨by rfl, ?_⟩) ?_ ?_
      rotate_left
      ·intro w'
       go_simp
       with_reducible rfl
      rotate_left
      ·simp only [Act.put, List.setIfInBounds_toArray, List.set_cons_zero, List.set_cons_succ, i64_w, i32_w]
       rfl
      refine one_ (i := 13) (N := some 64) #[true, true, true, true, true, true, true, true, true, true, true, true, true, true, false, false, false] rfl rfl (one_of HT_.out (by kernel_rfl)) (by decide) (fun K hK => ?_)
      refine value_ (w1 := ?_) (v := ?_) (by rfl) rfl ?_ ?_
      rotate_left 2
      ·go_simp
       constructor
       ·rfl
       ·rfl
      refine hK.out _ _ ⟨(blk_cell (blk_alloc BK249.out _) 0).trans rfl, (blk_cell (blk_alloc BK249.out _) 1).trans rfl⟩ (fun hHeld => ?_)
      clear hK K
      refine norm_ (a' := ?_) ?_ ?_
      rotate_left
      ·show Act.put _ (some 64) _ = _
       simp only [Act.put, List.setIfInBounds_toArray, List.set_cons_zero, List.set_cons_succ, i64_w, i32_w]
       rfl
      refine one_ (i := 14) (N := some 65) #[true, true, true, true, true, true, true, true, true, true, true, true, true, true, true, false, false] rfl rfl (one_of HT_.out (by kernel_rfl)) (by decide) (fun K hK => ?_)
      refine Kd.R_append_step k51 w.heap.size (by rfl) (.tmp 52) (.tmp 64) 33 51 (.agg #[(.int .i64 0), (.int .i64 0), (.int .i64 0)]) 24 rfl Try.underlying33 info51 rfl (by decide) (by omega) u250001 x250001_1 (⟨t267, t269, 0⟩ : S51) [.int .i64 t267, .int .i64 t269, .int .i64 0] (fun _ => True) (fun _ => False) rfl rfl ?aP (fun _ hk => hk.elim) ?aF ?aO (Below.refl _ _) ?aS ?aL ?_
      (case aP => exact k51_mkM _ _ _ (⟨t267, t269, 0⟩ : S51))
      (case aF => exact (fun _ _ => trivial))
      (case aO => exact (rl HO_250001))
      (case aS => exact (keep_size (w := w) (g := g) (row := none) (kp2 HK GW246 GW249)))
      (case aL => have := LMc52.out; omega)
      intro v272 w57 ho hb hg hat
      rw [← Ny271.out] at ho
      have n0_ := Aside0.mk (blk_grown (g := gb246) (o := .cells #[.int .i64 0, .slice none 0 0] 35 (0, 0)) (bk BK246) hg (Kd.R_ne HO_250001.out BK246.out (by decide)))
      have n1_ := Aside0.mk (blk_grown (g := gb249) (o := .cells #[.int .i64 x250000_1, u250001] 35 (0, 0)) (bk BK249) hg (Kd.R_ne HO_250001.out BK249.out (by decide)))
      have n2_ := Aside0.mk (IsS183.grown (by repeat (first | (with_reducible first | exact HI0.out | apply IsS183.alloc | apply IsS183.drewN | apply IsS183.drew | apply IsS183.set_1 | refine IsS183.far ?_ NB0_246.out _ | refine IsS183.far ?_ NB0_249.out _) | exact HI0.out)) hg (IsS183.own_ne HI0.out HO_250001.out (by decide)))
      have n3_ := Aside0.mk (below_weaken (bs3 HB ⟨IsS183.ge HI0.out⟩ GE246 GE249) HL.out hb)
      have n4_ := Aside0.mk (KeepBut.trans (kp2 HK GW246 GW249) (KeepBut.of_grown hg g) (Kd.R_base2 HO_250001.out))
      have n5_ := Aside0.mk (ho)
      clear BK246
      clear BK249
      clear HI0
      clear HB
      clear HK
      clear HO_250001
      have BK246 := n0_
      have BK249 := n1_
      have HI0 := n2_
      have HB := n3_
      have HK := n4_
      have HO273 := n5_
      clear n0_ n1_ n2_ n3_ n4_ n5_
      clear ho hb hg hat
      obtain ⟨Ao58, co58, eo58⟩ := Kd.R_slice HO273.out
      (first | subst eo58 | (injection eo58 with f1_ f2_ f3_; have f4_ := f1_.symm; have f5_ := f3_.symm; clear f1_ f2_ f3_; subst f4_; subst f5_))
      refine hK.out _ _ ⟨(blk_cell BK249.out 0).trans rfl, (blk_cell BK249.out 1).trans rfl⟩ (fun hHeld => ?_)
      clear hK K
      refine norm_ (a' := ?_) ?_ ?_
      rotate_left
      ·show Act.put _ (some 65) _ = _
       simp only [Act.put, List.setIfInBounds_toArray, List.set_cons_zero, List.set_cons_succ, i64_w, i32_w]
       rfl
      refine pure_ (i := 15) (N := some 66) (v := ?_) (a' := ?_) #[true, true, true, true, true, true, true, true, true, true, true, true, true, true, true, true, false] rfl rfl (any_of HT_.out (by kernel_rfl)) (fun _ _ _ h => h) (Or.inl ⟨by rfl, ?_⟩) ?_ ?_
      rotate_left
      ·intro w'
       go_simp
       with_reducible rfl
      rotate_left
      ·simp only [Act.put, List.setIfInBounds_toArray, List.set_cons_zero, List.set_cons_succ, i64_w, i32_w]
       rfl
      refine last_ (i := 16) (N := none) #[true, true, true, true, true, true, true, true, true, true, true, true, true, true, true, true, true] rfl rfl (one_of HT_.out (by kernel_rfl)) (by decide) (fun K hK => ?_)
      have hs59 : w57.cell? ⟨gb249, 1, none⟩ = some (u250001) := (blk_cell BK249.out 1).trans rfl
      have hfs59 := blk_frozen BK249.out 1
      have hns59_0 := NB246_249.out
      have hms59_0 := NB249_246.out
      refine skip_ (w1 := ?_) (by rfl) rfl ?_ ?_
      rotate_left
      ·go_simp
       rfl
      refine hK.out _ _ ?_
      clear hK K
      refine done_ (done_of HT_.out (by kernel_rfl)) ?_
      have hnb60 := NB249_246.out
      have hnc60 := NB246_249.out
      have hnb61 := NB249_0.out
      have hnc61 := NB0_249.out
      have hcz62_0 : w57.cell? ⟨gb249, 0, none⟩ = some (.int .i64 x250000_1) := (blk_cell BK249.out 0).trans rfl
      have hcz62_1 : w57.cell? ⟨gb249, 1, none⟩ = some (u250001) := (blk_cell BK249.out 1).trans rfl
      have hfz62_0 := blk_frozen BK249.out 0
      have hfz62_1 := blk_frozen BK249.out 1
      have hnb63 := NB246_0.out
      have hnc63 := NB0_246.out
      have hcz64_0 : w57.cell? ⟨gb246, 0, none⟩ = some (.int .i64 0) := (blk_cell BK246.out 0).trans rfl
      have hcz64_1 : w57.cell? ⟨gb246, 1, none⟩ = some (.slice none 0 0) := (blk_cell BK246.out 1).trans rfl
      have hfz64_0 := blk_frozen BK246.out 0
      have hfz64_1 := blk_frozen BK246.out 1
      try go_wp2
      refine bodyPost_ret (results_cell_row rfl _ _ gb246 35 #[.int .i64 x250000_1, .slice Ao58 y271.length co58] (0, 0) _ rfl (by (with_reducible repeat (first | refine blk_drewN ?_ _ | refine blk_drew ?_ | refine blk_alloc ?_ _)); refine blk_put (cs := #[.int .i64 x250000_1, .slice none 0 0]) ?_ 1 _ rfl; (with_reducible repeat (first | refine blk_drewN ?_ _ | refine blk_drew ?_ | refine blk_alloc ?_ _)); refine blk_put (cs := #[.int .i64 0, .slice none 0 0]) ?_ 0 _ rfl; (with_reducible repeat (first | refine blk_drewN ?_ _ | refine blk_drew ?_ | refine blk_alloc ?_ _)); refine blk_far ?_ NB246_249.out _; (with_reducible repeat (first | refine blk_drewN ?_ _ | refine blk_drew ?_ | refine blk_alloc ?_ _)); exact BK246.out) Try.underlying35 rfl (by kernel_rfl)) rfl ?_
      exact ⟨_, by first | rfl | (simp [errW_none, errW_some] <;> rfl) | (simp only [← hji2]; first | rfl | (simp [errW_none, errW_some] <;> rfl)) | (simp [*, errW_none, errW_some] <;> rfl), by (with_reducible repeat (first | apply Kd.R_alloc | apply Kd.R_drewN | apply Kd.R_drew)); exact Kd.R_mono (Kd.R_far (p := ⟨gb246, 1, none⟩) (Kd.R_far (p := ⟨gb246, 0, none⟩) (Kd.R_far (p := ⟨gb249, 1, none⟩) (Kd.R_types (Kd.R_types HO273.out BK249.out (by decide)) BK246.out (by decide)) (fun _ hk => hk.1.2) (.slice Ao58 y271.length co58)) (fun _ hk => hk.2) (.int .i64 x250000_1)) (fun _ hk => hk.2) (.slice Ao58 y271.length co58)) (fun _ hk => trivial), by repeat (first | (with_reducible first | exact HI0.out | apply IsS183.alloc | apply IsS183.drewN | apply IsS183.drew | apply IsS183.set_1 | refine IsS183.far ?_ NB0_246.out _ | refine IsS183.far ?_ NB0_249.out _) | exact HI0.out), bs3 HB ⟨IsS183.ge HI0.out⟩ GE246 GE249, kp2 HK GW246 GW249⟩
     ·rw [if_neg c52] at H
      exact absurd H (by simp)
    ·rw [if_neg c49] at H
     have c49b0 : (t265 == 0) = false := beq_eq_false_iff_ne.mpr c49
     have c49b1 : (t265 != 0) = true := bne_iff_ne.mpr c49
     by_cases c65 : t265 = 1
     ·rw [if_pos c65] at H
      have c65b0 : (t265 == 1) = true := beq_iff_eq.mpr c65
      have c65b1 : (t265 != 1) = false := bne_eq_false_iff_eq.mpr c65
      clear c65
      replace H := Option.bind_eq_some_iff.mp H
      obtain ⟨⟨t274, t275⟩, A660, H⟩ := H
      replace H : (some (t274, x250001_1, t275)) = some (r1, r2, r3) := H
      have A66 := Aside0.mk A660
      clear A660
      simp only [Option.some.injEq, Prod.mk.injEq] at H
      obtain ⟨rfl, rfl, rfl⟩ := H
      go_wp2_with (first | ((with_reducible refine gate_callee (f := 136) rfl ?_); refine goesL_ (some 48) rfl rfl Try.func136 (by kernel_rfl) rfl #[.pointer (some ⟨g, 0, none⟩), .int .i64 30] rfl (by (try simp only [List.map_toArray, List.map_cons, List.map_nil]); first | done | rfl | (simp only [List.length_drop, List.length_take]; rfl)) ?_; (with_reducible refine (spec_l1Rd_below.calls g s0_0 x1001_1 30 t265 t266 w0 _ ?side1 ?side2 A48.out).mono ?_); (case side1 => repeat (first | (with_reducible first | exact HI0.out | apply IsS183.alloc | apply IsS183.drewN | apply IsS183.drew | apply IsS183.set_1 | refine IsS183.far ?_ NB0_246.out _ | refine IsS183.far ?_ NB0_249.out _) | exact HI0.out)); (case side2 => repeat (first | (with_reducible first | exact HB.out | apply below_alloc | apply pw_below_drewN | apply below_drew1 | refine below_set ?_ (IsS183.ge HI0.out) | refine below_set ?_ GE246.out | refine below_set ?_ GE249.out) | exact HB.out)); rintro e w67 ⟨rfl, hi, hb, hk⟩; refine ⟨_, rfl, ?_⟩; have n0_ := Aside0.mk (Kd.R_mono (Kd.R_keep (IsS183.apart (show IsS183 w0 _ g s0_0 x1001_1 from by repeat (first | (with_reducible first | exact HI0.out | apply IsS183.alloc | apply IsS183.drewN | apply IsS183.drew | apply IsS183.set_1 | refine IsS183.far ?_ NB0_246.out _ | refine IsS183.far ?_ NB0_249.out _) | exact HI0.out)) (rl HO_250001) (by decide)) hk (fun _ h => h.2)) (fun _ h => h.1)); have n1_ := Aside0.mk (KeepBut.blk hk (g' := gb246) (o := .cells #[.int .i64 0, .slice none 0 0] 35 (0, 0)) (bk BK246) NB246_0.out (by simp)); have n2_ := Aside0.mk (KeepBut.blk hk (g' := gb249) (o := .cells #[.int .i64 x250000_1, u250001] 35 (0, 0)) (bk BK249) NB249_0.out (by simp)); have n3_ := Aside0.mk (KeepBut.trans (kp2 HK GW246 GW249) hk (.inl rfl)); have n4_ := Aside0.mk (hb); have n5_ := Aside0.mk (hi); clear HO_250001; clear BK246; clear BK249; clear HK; clear HB; clear HI0; have HO_250001 := n0_; have BK246 := n1_; have BK249 := n2_; have HK := n3_; have HB := n4_; have HI0 := n5_; clear n0_ n1_ n2_ n3_ n4_ n5_; (try clear hb); (try clear hb2); (try clear hk); (try clear hi); have hnb68 := NB249_246.out; have hnc68 := NB246_249.out; have hnb69 := NB249_0.out; have hnc69 := NB0_249.out; have hcz70_0 : w67.cell? ⟨gb249, 0, none⟩ = some (.int .i64 x250000_1) := (blk_cell BK249.out 0).trans rfl; have hcz70_1 : w67.cell? ⟨gb249, 1, none⟩ = some (u250001) := (blk_cell BK249.out 1).trans rfl; have hfz70_0 := blk_frozen BK249.out 0; have hfz70_1 := blk_frozen BK249.out 1) | ((with_reducible refine gate_callee (f := 90) rfl ?_); refine goesL_ (some 72) rfl rfl Try.func90 (by kernel_rfl) rfl #[.pointer (some ⟨g, 0, none⟩), .int .i64 0, .int .i64 x250000_1] rfl (by (try simp only [List.map_toArray, List.map_cons, List.map_nil]); first | done | rfl | (simp only [List.length_drop, List.length_take]; rfl)) ?_; (with_reducible refine (spec_l1Rd_off.calls k1 g s0_0 t266 0 x250000_1 t274 t275 w0 _ ?side1 ?side2 A66.out).mono ?_); (case side1 => repeat (first | (with_reducible first | exact HI0.out | apply IsS183.alloc | apply IsS183.drewN | apply IsS183.drew | apply IsS183.set_1 | refine IsS183.far ?_ NB0_246.out _ | refine IsS183.far ?_ NB0_249.out _) | exact HI0.out)); (case side2 => repeat (first | (with_reducible first | exact HB.out | apply below_alloc | apply pw_below_drewN | apply below_drew1 | refine below_set ?_ (IsS183.ge HI0.out) | refine below_set ?_ GE246.out | refine below_set ?_ GE249.out) | exact HB.out)); rintro e w71 ⟨rfl, hi, hb, hk⟩; refine ⟨_, rfl, ?_⟩; have n0_ := Aside0.mk (Kd.R_mono (Kd.R_keep (IsS183.apart (show IsS183 w0 _ g s0_0 t266 from by repeat (first | (with_reducible first | exact HI0.out | apply IsS183.alloc | apply IsS183.drewN | apply IsS183.drew | apply IsS183.set_1 | refine IsS183.far ?_ NB0_246.out _ | refine IsS183.far ?_ NB0_249.out _) | exact HI0.out)) (rl HO_250001) (by decide)) hk (fun _ h => h.2)) (fun _ h => h.1)); have n1_ := Aside0.mk (KeepBut.blk hk (g' := gb246) (o := .cells #[.int .i64 0, .slice none 0 0] 35 (0, 0)) (bk BK246) NB246_0.out (by simp)); have n2_ := Aside0.mk (KeepBut.blk hk (g' := gb249) (o := .cells #[.int .i64 x250000_1, u250001] 35 (0, 0)) (bk BK249) NB249_0.out (by simp)); have n3_ := Aside0.mk (KeepBut.trans (kp2 HK GW246 GW249) hk (.inl rfl)); have n4_ := Aside0.mk (hb); have n5_ := Aside0.mk (hi); clear HO_250001; clear BK246; clear BK249; clear HK; clear HB; clear HI0; have HO_250001 := n0_; have BK246 := n1_; have BK249 := n2_; have HK := n3_; have HB := n4_; have HI0 := n5_; clear n0_ n1_ n2_ n3_ n4_ n5_; (try clear hb); (try clear hb2); (try clear hk); (try clear hi); have hcz72_0 : w71.cell? ⟨gb249, 0, none⟩ = some (.int .i64 x250000_1) := (blk_cell BK249.out 0).trans rfl; have hcz72_1 : w71.cell? ⟨gb249, 1, none⟩ = some (u250001) := (blk_cell BK249.out 1).trans rfl; have hfz72_0 := blk_frozen BK249.out 0; have hfz72_1 := blk_frozen BK249.out 1; have hnb73 := NB246_0.out; have hnc73 := NB0_246.out; have hcz74_0 : w71.cell? ⟨gb246, 0, none⟩ = some (.int .i64 0) := (blk_cell BK246.out 0).trans rfl; have hcz74_1 : w71.cell? ⟨gb246, 1, none⟩ = some (.slice none 0 0) := (blk_cell BK246.out 1).trans rfl; have hfz74_0 := blk_frozen BK246.out 0; have hfz74_1 := blk_frozen BK246.out 1; obtain ⟨Ao75, co75, eo75⟩ := Kd.R_slice HO_250001.out; subst eo75))
      refine bodyPost_ret (results_cell_row rfl _ _ gb246 35 #[.int .i64 t274, .slice Ao75 x250001_1.length co75] (0, 0) _ rfl (by (with_reducible repeat (first | refine blk_drewN ?_ _ | refine blk_drew ?_ | refine blk_alloc ?_ _)); refine blk_put (cs := #[.int .i64 t274, .slice none 0 0]) ?_ 1 _ rfl; (with_reducible repeat (first | refine blk_drewN ?_ _ | refine blk_drew ?_ | refine blk_alloc ?_ _)); refine blk_put (cs := #[.int .i64 0, .slice none 0 0]) ?_ 0 _ rfl; (with_reducible repeat (first | refine blk_drewN ?_ _ | refine blk_drew ?_ | refine blk_alloc ?_ _)); refine blk_far ?_ NB246_249.out _; (with_reducible repeat (first | refine blk_drewN ?_ _ | refine blk_drew ?_ | refine blk_alloc ?_ _)); exact BK246.out) Try.underlying35 rfl (by kernel_rfl)) rfl ?_
      exact ⟨_, by first | rfl | (simp [errW_none, errW_some] <;> rfl) | (simp only [← hji2]; first | rfl | (simp [errW_none, errW_some] <;> rfl)) | (simp [*, errW_none, errW_some] <;> rfl), by (with_reducible repeat (first | apply Kd.R_alloc | apply Kd.R_drewN | apply Kd.R_drew)); exact Kd.R_mono (Kd.R_far (p := ⟨gb246, 1, none⟩) (Kd.R_far (p := ⟨gb246, 0, none⟩) (Kd.R_far (p := ⟨gb249, 0, none⟩) (Kd.R_types (Kd.R_types HO_250001.out BK249.out (by decide)) BK246.out (by decide)) (fun _ hk => hk.1.2) (.int .i64 t274)) (fun _ hk => hk.2) (.int .i64 t274)) (fun _ hk => hk.2) (.slice Ao75 x250001_1.length co75)) (fun _ hk => trivial), by repeat (first | (with_reducible first | exact HI0.out | apply IsS183.alloc | apply IsS183.drewN | apply IsS183.drew | apply IsS183.set_1 | refine IsS183.far ?_ NB0_246.out _ | refine IsS183.far ?_ NB0_249.out _) | exact HI0.out), bs3 HB ⟨IsS183.ge HI0.out⟩ GE246 GE249, kp2 HK GW246 GW249⟩
     ·rw [if_neg c65] at H
      have c65b0 : (t265 == 1) = false := beq_eq_false_iff_ne.mpr c65
      have c65b1 : (t265 != 1) = true := bne_iff_ne.mpr c65
      by_cases c76 : t265 = 2
      ·rw [if_pos c76] at H
       have c76b0 : (t265 == 2) = true := beq_iff_eq.mpr c76
       have c76b1 : (t265 != 2) = false := bne_eq_false_iff_eq.mpr c76
       clear c76
       by_cases c77 : (x250001_1.length : Int) > 0
       ·rw [if_pos c77] at H
        have c77b0 : decide (0 < (x250001_1.length : Int)) = true := decide_eq_true c77
        have c77b1 : decide (0 < x250001_1.length) = true := decide_eq_true (by omega)
        clear c77
        replace H := Option.bind_eq_some_iff.mp H
        obtain ⟨⟨t276, t277⟩, A780, H⟩ := H
        replace H : (if 0 < (x250001_1.length : Int) then (some (x250000_1, (x250001_1.set (0 : Int).toNat (⟨(rd_T51 x250001_1 0).f0, (rd_T51 x250001_1 0).f1, t276⟩ : S51)), t277)) else (none)) = some (r1, r2, r3) := H
        have A78 := Aside0.mk A780
        clear A780
        by_cases c79 : 0 < (x250001_1.length : Int)
        ·rw [if_pos c79] at H
         have c79b0 : decide (0 < (x250001_1.length : Int)) = true := decide_eq_true c79
         have c79b1 : decide (0 < x250001_1.length) = true := decide_eq_true (by omega)
         clear c79
         obtain ⟨y278, hy278⟩ : ∃ y_ : List (S51), y_ = (x250001_1.set (0 : Int).toNat (⟨(rd_T51 x250001_1 0).f0, (rd_T51 x250001_1 0).f1, t276⟩ : S51)) := ⟨_, rfl⟩
         replace H : (some (x250000_1, y278, t277)) = some (r1, r2, r3) := by first | (rw [hy278]; with_reducible exact H) | (have H2_ := (Option.bind_some _ _).symm.trans H; rw [hy278]; with_reducible exact H2_) | (have H2_ := (Option.bind_some _ _).symm.trans H; with_reducible exact H2_) | with_reducible exact H | (rw [hy278]; exact H) | exact H
         have Ny278 := Aside0.mk hy278
         clear hy278
         simp only [Option.some.injEq, Prod.mk.injEq] at H
         obtain ⟨rfl, rfl, rfl⟩ := H
         try go_wp2_with (first | ((with_reducible refine gate_callee (f := 136) rfl ?_); refine goesL_ (some 48) rfl rfl Try.func136 (by kernel_rfl) rfl #[.pointer (some ⟨g, 0, none⟩), .int .i64 30] rfl (by (try simp only [List.map_toArray, List.map_cons, List.map_nil]); first | done | rfl | (simp only [List.length_drop, List.length_take]; rfl)) ?_; (with_reducible refine (spec_l1Rd_below.calls g s0_0 x1001_1 30 t265 t266 w0 _ ?side1 ?side2 A48.out).mono ?_); (case side1 => repeat (first | (with_reducible first | exact HI0.out | apply IsS183.alloc | apply IsS183.drewN | apply IsS183.drew | apply IsS183.set_1 | refine IsS183.far ?_ NB0_246.out _ | refine IsS183.far ?_ NB0_249.out _) | exact HI0.out)); (case side2 => repeat (first | (with_reducible first | exact HB.out | apply below_alloc | apply pw_below_drewN | apply below_drew1 | refine below_set ?_ (IsS183.ge HI0.out) | refine below_set ?_ GE246.out | refine below_set ?_ GE249.out) | exact HB.out)); rintro e w81 ⟨rfl, hi, hb, hk⟩; refine ⟨_, rfl, ?_⟩; have n0_ := Aside0.mk (Kd.R_mono (Kd.R_keep (IsS183.apart (show IsS183 w0 _ g s0_0 x1001_1 from by repeat (first | (with_reducible first | exact HI0.out | apply IsS183.alloc | apply IsS183.drewN | apply IsS183.drew | apply IsS183.set_1 | refine IsS183.far ?_ NB0_246.out _ | refine IsS183.far ?_ NB0_249.out _) | exact HI0.out)) (rl HO_250001) (by decide)) hk (fun _ h => h.2)) (fun _ h => h.1)); have n1_ := Aside0.mk (KeepBut.blk hk (g' := gb246) (o := .cells #[.int .i64 0, .slice none 0 0] 35 (0, 0)) (bk BK246) NB246_0.out (by simp)); have n2_ := Aside0.mk (KeepBut.blk hk (g' := gb249) (o := .cells #[.int .i64 x250000_1, u250001] 35 (0, 0)) (bk BK249) NB249_0.out (by simp)); have n3_ := Aside0.mk (KeepBut.trans (kp2 HK GW246 GW249) hk (.inl rfl)); have n4_ := Aside0.mk (hb); have n5_ := Aside0.mk (hi); clear HO_250001; clear BK246; clear BK249; clear HK; clear HB; clear HI0; have HO_250001 := n0_; have BK246 := n1_; have BK249 := n2_; have HK := n3_; have HB := n4_; have HI0 := n5_; clear n0_ n1_ n2_ n3_ n4_ n5_; (try clear hb); (try clear hb2); (try clear hk); (try clear hi); have hnb82 := NB249_246.out; have hnc82 := NB246_249.out; have hnb83 := NB249_0.out; have hnc83 := NB0_249.out; have hcz84_0 : w81.cell? ⟨gb249, 0, none⟩ = some (.int .i64 x250000_1) := (blk_cell BK249.out 0).trans rfl; have hcz84_1 : w81.cell? ⟨gb249, 1, none⟩ = some (u250001) := (blk_cell BK249.out 1).trans rfl; have hfz84_0 := blk_frozen BK249.out 0; have hfz84_1 := blk_frozen BK249.out 1; obtain ⟨Ao85, co85, eo85⟩ := Kd.R_slice HO_250001.out; subst eo85))
         have n0_ := Aside0.mk (Kd.R_drew HO_250001.out)
         have n1_ := Aside0.mk (blk_drew BK246.out)
         have n2_ := Aside0.mk (blk_drew BK249.out)
         have n3_ := Aside0.mk (IsS183.drew HI0.out)
         have n4_ := Aside0.mk (keep_drew HK.out)
         have n5_ := Aside0.mk (below_drew1 HB.out)
         clear HO_250001
         clear BK246
         clear BK249
         clear HI0
         clear HK
         clear HB
         have HO_250001 := n0_
         have BK246 := n1_
         have BK249 := n2_
         have HI0 := n3_
         have HK := n4_
         have HB := n5_
         clear n0_ n1_ n2_ n3_ n4_ n5_
         refine start_ (n := 7) (S := fun w' => w'.cell? ⟨gb249, 0, none⟩ = some (.int .i64 x250000_1) ∧ w'.cell? ⟨gb249, 1, none⟩ = some (.slice Ao85 x250001_1.length co85)) (ds := [6]) #[false, false, false, false, false, false, false] (by kernel_rfl) rfl rfl ⟨(blk_cell BK249.out 0).trans rfl, (blk_cell BK249.out 1).trans rfl⟩ (fun hHeld => ?_)
         generalize w81.drew = w86 at HO_250001 BK246 BK249 HI0 HK HB hHeld ⊢
         refine pure_ (i := 0) (N := some 80) (v := ?_) (a' := ?_) #[true, false, false, false, false, false, false] rfl rfl (by kernel_rfl) (fun _ _ _ h => h) (Or.inl ⟨by rfl, ?_⟩) ?_ ?_
         rotate_left
         ·intro w'
          go_simp
          with_reducible rfl
         rotate_left
         ·simp only [Act.put, List.setIfInBounds_toArray, List.set_cons_zero, List.set_cons_succ, i64_w, i32_w]
          rfl
         refine pure_ (i := 2) (N := some 82) (v := ?_) (a' := ?_) #[true, false, true, false, false, false, false] rfl rfl (by kernel_rfl) (fun _ _ _ h => h) (Or.inl ⟨by rfl, ?_⟩) ?_ ?_
         rotate_left
         ·intro w'
          go_simp
          with_reducible rfl
         rotate_left
         ·simp only [Act.put, List.setIfInBounds_toArray, List.set_cons_zero, List.set_cons_succ, i64_w, i32_w]
          rfl
         refine take_ (i := 1) (N := some 81) (v := ?_) (a' := ?_) #[true, true, true, false, false, false, false] rfl rfl (by kernel_rfl) (fun _ _ _ h => h) (Or.inl ⟨by rfl, ?_⟩) hHeld ?_ ?_
         rotate_left
         ·rintro w' ⟨s0, s1⟩
          go_simp
          with_reducible rfl
         rotate_left
         ·simp only [Act.put, List.setIfInBounds_toArray, List.set_cons_zero, List.set_cons_succ, i64_w, i32_w]
          rfl
         refine one_ (i := 3) (N := some 83) #[true, true, true, true, false, false, false] rfl rfl (by kernel_rfl) (by decide) (fun K hK => ?_)
         refine goes_ Try.func90 (by kernel_rfl) rfl #[.pointer (some ⟨g, 0, none⟩), .int .i64 0, .int .i64 1000000] (by rfl) rfl rfl (by (try simp only [List.map_toArray, List.map_cons, List.map_nil]); first | done | rfl | (simp only [List.length_drop, List.length_take]; rfl)) ?_
         with_reducible refine (spec_l1Rd_off.calls k1 g s0_0 t266 0 1000000 t276 t277 w0 _ ?side1 ?side2 A78.out).mono ?_
         (case side1 => repeat (first | (with_reducible first | exact HI0.out | apply IsS183.alloc | apply IsS183.drewN | apply IsS183.drew | apply IsS183.set_1 | refine IsS183.far ?_ NB0_246.out _ | refine IsS183.far ?_ NB0_249.out _) | exact HI0.out))
         (case side2 => repeat (first | (with_reducible first | exact HB.out | apply below_alloc | apply pw_below_drewN | apply below_drew1 | refine below_set ?_ (IsS183.ge HI0.out) | refine below_set ?_ GE246.out | refine below_set ?_ GE249.out) | exact HB.out))
         rintro e w87 ⟨rfl, hi, hb, hk⟩
         refine ⟨_, rfl, ?_⟩
         have n0_ := Aside0.mk (Kd.R_mono (Kd.R_keep (IsS183.apart (show IsS183 w0 _ g s0_0 t266 from by repeat (first | (with_reducible first | exact HI0.out | apply IsS183.alloc | apply IsS183.drewN | apply IsS183.drew | apply IsS183.set_1 | refine IsS183.far ?_ NB0_246.out _ | refine IsS183.far ?_ NB0_249.out _) | exact HI0.out)) (rl HO_250001) (by decide)) hk (fun _ h => h.2)) (fun _ h => h.1))
         have n1_ := Aside0.mk (KeepBut.blk hk (g' := gb246) (o := .cells #[.int .i64 0, .slice none 0 0] 35 (0, 0)) (bk BK246) NB246_0.out (by simp))
         have n2_ := Aside0.mk (KeepBut.blk hk (g' := gb249) (o := .cells #[.int .i64 x250000_1, .slice Ao85 x250001_1.length co85] 35 (0, 0)) (bk BK249) NB249_0.out (by simp))
         have n3_ := Aside0.mk (KeepBut.trans (kp2 HK GW246 GW249) hk (.inl rfl))
         have n4_ := Aside0.mk (hb)
         have n5_ := Aside0.mk (hi)
         clear HO_250001
         clear BK246
         clear BK249
         clear HK
         clear HB
         clear HI0
         have HO_250001 := n0_
         have BK246 := n1_
         have BK249 := n2_
         have HK := n3_
         have HB := n4_
         have HI0 := n5_
         clear n0_ n1_ n2_ n3_ n4_ n5_
         (try clear hb)
         (try clear hb2)
         (try clear hk)
         (try clear hi)
         have p80 : 0 ≤ (0 : Int) := (by omega)
         have q80 : (0 : Int) < ((x250001_1.length : Int) : Int) := ode
         have qi80 : (0 < x250001_1.length) = True := eq_true (by omega)
         obtain ⟨go80, co80, eo80, gb80, gl80, cl80, HG80⟩ := Kd.R_form HO_250001.out (by omega)
         (first | cases eo80 | (injection eo80 with ea_ en_ ec_; (first | subst ea_ | (injection ea_ with ea_; subst ea_)); subst ec_; clear en_))
         have GB80 := Aside0.mk gb80
         have GG80 := Aside0.mk HG80
         clear gb80 gl80 HG80
         obtain ⟨ce80, hcl80, hM80, hcc80, hfr80⟩ := Kd.R_elem HO_250001.out z51 (0 : Int) p80 q80
         obtain rfl := k51_openM hM80
         have hx80_0 : World.cell? _ ⟨go80, (0 : Int).toNat * 3, none⟩ = some (.int .i64 ((rd_T51 x250001_1 0).f0)) := hcc80 0 _ rfl
         have hx80_1 : World.cell? _ ⟨go80, (0 : Int).toNat * 3 + 1, none⟩ = some (.int .i64 ((rd_T51 x250001_1 0).f1)) := hcc80 1 _ rfl
         have hx80_2 : World.cell? _ ⟨go80, (0 : Int).toNat * 3 + 2, none⟩ = some (.int .i64 ((rd_T51 x250001_1 0).f2)) := hcc80 2 _ rfl
         have hf80_0 : World.frozen? _ ⟨go80, (0 : Int).toNat * 3, none⟩ = false := hfr80 0
         have hf80_1 : World.frozen? _ ⟨go80, (0 : Int).toNat * 3 + 1, none⟩ = false := hfr80 1
         have hf80_2 : World.frozen? _ ⟨go80, (0 : Int).toNat * 3 + 2, none⟩ = false := hfr80 2
         clear hcl80 hcc80 hfr80; (try clear hM80)
         (try rw [show ((0 : Int)).toNat = 0 from rfl] at hx80_0)
         (try simp only [Nat.reduceMul, Nat.zero_mul, Nat.zero_add, Nat.reduceAdd] at hx80_0)
         (try rw [show ((0 : Int)).toNat = 0 from rfl] at hf80_0)
         (try simp only [Nat.reduceMul, Nat.zero_mul, Nat.zero_add, Nat.reduceAdd] at hf80_0)
         (try rw [show ((0 : Int)).toNat = 0 from rfl] at hx80_1)
         (try simp only [Nat.reduceMul, Nat.zero_mul, Nat.zero_add, Nat.reduceAdd] at hx80_1)
         (try rw [show ((0 : Int)).toNat = 0 from rfl] at hf80_1)
         (try simp only [Nat.reduceMul, Nat.zero_mul, Nat.zero_add, Nat.reduceAdd] at hf80_1)
         (try rw [show ((0 : Int)).toNat = 0 from rfl] at hx80_2)
         (try simp only [Nat.reduceMul, Nat.zero_mul, Nat.zero_add, Nat.reduceAdd] at hx80_2)
         (try rw [show ((0 : Int)).toNat = 0 from rfl] at hf80_2)
         (try simp only [Nat.reduceMul, Nat.zero_mul, Nat.zero_add, Nat.reduceAdd] at hf80_2)
         replace p80 := eq_true p80
         replace q80 := eq_true q80
         have HN0_go80 := Aside0.mk (show g ≠ go80 from by have h_ := IsS183.own_ne HI0.out HO_250001.out (by decide); intro e_; exact h_ (by rw [e_]; rfl))
         obtain ⟨ce88, hcl88, hM88, hcc88, hfr88⟩ := Kd.R_elem HO_250001.out z51 (0 : Int) (by omega) (by have h_ : (0 : Int) < ((x250001_1.length : Int) : Int) := ode; first | exact h_ | (have e_ := (Kd.R_reads' HO_250001.out).1; omega) | simpa using h_)
         obtain rfl := k51_openM hM88
         have HP88 := (Kd.R_seg HO_250001.out (0 : Int) (by omega) (by have h_ : (0 : Int) < ((x250001_1.length : Int) : Int) := ode; first | exact h_ | (have e_ := (Kd.R_reads' HO_250001.out).1; omega) | simpa using h_) (seg := [.int .i64 t276]) (j := 2) hcl88 hcc88 (show 3 ≤ 3 from by decide) (x' := (⟨(rd_T51 x250001_1 0).f0, (rd_T51 x250001_1 0).f1, t276⟩ : S51)) (k51_mkM _ _ _ (⟨(rd_T51 x250001_1 0).f0, (rd_T51 x250001_1 0).f1, t276⟩ : S51) ) (fun _ hk => hk)).1
         rw [← Ny278.out] at HP88
         have HQ88 := Aside0.mk HP88
         clear hcl88 hcc88 hfr88; (try clear hM88); clear HP88
         refine hK.out _ _ ⟨(blk_cell BK249.out 0).trans rfl, (blk_cell BK249.out 1).trans rfl⟩ (fun hHeld => ?_)
         clear hK K
         refine norm_ (a' := ?_) ?_ ?_
         rotate_left
         ·show Act.put _ (some 83) _ = _
          simp only [Act.put, List.setIfInBounds_toArray, List.set_cons_zero, List.set_cons_succ, i64_w, i32_w]
          rfl
         refine pure_ (i := 4) (N := some 84) (v := ?_) (a' := ?_) #[true, true, true, true, true, false, false] rfl rfl (by kernel_rfl) (fun _ _ _ h => h) (Or.inl ⟨by rfl, ?_⟩) ?_ ?_
         rotate_left
         ·intro w'
          go_simp
          with_reducible rfl
         rotate_left
         ·simp only [Act.put, List.setIfInBounds_toArray, List.set_cons_zero, List.set_cons_succ, i64_w, i32_w]
          rfl
         refine pure_ (i := 5) (N := some 85) (v := ?_) (a' := ?_) #[true, true, true, true, true, true, false] rfl rfl (by kernel_rfl) (fun _ _ _ h => h) (Or.inl ⟨by rfl, ?_⟩) ?_ ?_
         rotate_left
         ·intro w'
          go_simp
          with_reducible rfl
         rotate_left
         ·simp only [Act.put, List.setIfInBounds_toArray, List.set_cons_zero, List.set_cons_succ, i64_w, i32_w]
          rfl
         refine last_ (i := 6) (N := none) #[true, true, true, true, true, true, true] rfl rfl (by kernel_rfl) (by decide) (fun K hK => ?_)
         refine skip_ (w1 := ?_) (by rfl) rfl ?_ ?_
         rotate_left
         ·go_simp
          rfl
         refine hK.out _ _ ?_
         clear hK K
         refine done_ (by kernel_rfl) ?_
         have n0_ : Aside0 (Kd.R k51 51 (w87.setCell ⟨go80, 2, none⟩ (.int .i64 t276)) w.heap.size (fun _ => True) (.slice (some ⟨go80, 0, none⟩) x250001_1.length co85) y278) := ⟨rl HQ88⟩
         have n1_ : Aside0 ((w87.setCell ⟨go80, 2, none⟩ (.int .i64 t276)).heap[gb246]? = some (.cells #[.int .i64 0, .slice none 0 0] 35 (0, 0))) := ⟨by (with_reducible repeat (first | refine blk_drewN ?_ _ | refine blk_drew ?_ | refine blk_alloc ?_ _)); refine blk_far ?_ (by have h_ := Kd.R_ne HO_250001.out BK246.out (by decide); intro e_; exact h_ (by rw [e_]; rfl)) _; (with_reducible repeat (first | refine blk_drewN ?_ _ | refine blk_drew ?_ | refine blk_alloc ?_ _)); exact BK246.out⟩
         have n2_ : Aside0 ((w87.setCell ⟨go80, 2, none⟩ (.int .i64 t276)).heap[gb249]? = some (.cells #[.int .i64 x250000_1, .slice (some ⟨go80, 0, none⟩) x250001_1.length co85] 35 (0, 0))) := ⟨by (with_reducible repeat (first | refine blk_drewN ?_ _ | refine blk_drew ?_ | refine blk_alloc ?_ _)); refine blk_far ?_ (by have h_ := Kd.R_ne HO_250001.out BK249.out (by decide); intro e_; exact h_ (by rw [e_]; rfl)) _; (with_reducible repeat (first | refine blk_drewN ?_ _ | refine blk_drew ?_ | refine blk_alloc ?_ _)); exact BK249.out⟩
         have n3_ : Aside0 (IsS183 w0 (w87.setCell ⟨go80, 2, none⟩ (.int .i64 t276)) g s0_0 t277) := ⟨by repeat (first | (with_reducible first | exact HI0.out | apply IsS183.alloc | apply IsS183.drewN | apply IsS183.drew | apply IsS183.set_1 | refine IsS183.far ?_ HN0_go80.out _ | refine IsS183.far ?_ NB0_246.out _ | refine IsS183.far ?_ NB0_249.out _) | exact HI0.out)⟩
         have n4_ : Aside0 (KeepBut w (w87.setCell ⟨go80, 2, none⟩ (.int .i64 t276)) g none) := ⟨kp3 HK GB80 GW246 GW249⟩
         have n5_ : Aside0 (Below w0.heap.size w0 (w87.setCell ⟨go80, 2, none⟩ (.int .i64 t276))) := ⟨by repeat (first | (with_reducible first | exact HB.out | apply below_alloc | apply pw_below_drewN | apply below_drew1 | refine below_set ?_ (Nat.le_trans HL.out GB80.out) | refine below_set ?_ (IsS183.ge HI0.out) | refine below_set ?_ GE246.out | refine below_set ?_ GE249.out) | exact HB.out)⟩
         (try clear HO_250001)
         (try clear BK246)
         (try clear BK249)
         (try clear HI0)
         (try clear HK)
         (try clear HB)
         generalize (w87.setCell ⟨go80, 2, none⟩ (.int .i64 t276)) = w89 at n0_ n1_ n2_ n3_ n4_ n5_ ⊢
         have HO_250001 := n0_
         have BK246 := n1_
         have BK249 := n2_
         have HI0 := n3_
         have HK := n4_
         have HB := n5_
         clear n0_ n1_ n2_ n3_ n4_ n5_
         (try have hnr90 : go80 ≠ gb249 := (by have h_ := Kd.R_ne HO_250001.out BK249.out (by decide); intro e_; exact h_ (by rw [e_]; rfl)))
         (try have hns90 : gb249 ≠ go80 := Ne.symm hnr90)
         have hcz91_0 : w89.cell? ⟨gb249, 0, none⟩ = some (.int .i64 x250000_1) := (blk_cell BK249.out 0).trans rfl
         have hcz91_1 : w89.cell? ⟨gb249, 1, none⟩ = some (.slice (some ⟨go80, 0, none⟩) x250001_1.length co85) := (blk_cell BK249.out 1).trans rfl
         have hfz91_0 := blk_frozen BK249.out 0
         have hfz91_1 := blk_frozen BK249.out 1
         have hnb92 := NB246_0.out
         have hnc92 := NB0_246.out
         (try have hnr93 : go80 ≠ gb246 := (by have h_ := Kd.R_ne HO_250001.out BK246.out (by decide); intro e_; exact h_ (by rw [e_]; rfl)))
         (try have hns93 : gb246 ≠ go80 := Ne.symm hnr93)
         have hcz94_0 : w89.cell? ⟨gb246, 0, none⟩ = some (.int .i64 0) := (blk_cell BK246.out 0).trans rfl
         have hcz94_1 : w89.cell? ⟨gb246, 1, none⟩ = some (.slice none 0 0) := (blk_cell BK246.out 1).trans rfl
         have hfz94_0 := blk_frozen BK246.out 0
         have hfz94_1 := blk_frozen BK246.out 1
         try go_wp2
         refine bodyPost_ret (results_cell_row rfl _ _ gb246 35 #[.int .i64 x250000_1, .slice (some ⟨go80, 0, none⟩) x250001_1.length co85] (0, 0) _ rfl (by (with_reducible repeat (first | refine blk_drewN ?_ _ | refine blk_drew ?_ | refine blk_alloc ?_ _)); refine blk_put (cs := #[.int .i64 x250000_1, .slice none 0 0]) ?_ 1 _ rfl; (with_reducible repeat (first | refine blk_drewN ?_ _ | refine blk_drew ?_ | refine blk_alloc ?_ _)); refine blk_put (cs := #[.int .i64 0, .slice none 0 0]) ?_ 0 _ rfl; (with_reducible repeat (first | refine blk_drewN ?_ _ | refine blk_drew ?_ | refine blk_alloc ?_ _)); exact BK246.out) Try.underlying35 rfl (by kernel_rfl)) rfl ?_
         exact ⟨_, by first | rfl | (simp [errW_none, errW_some] <;> rfl) | (simp only [← hji2]; first | rfl | (simp [errW_none, errW_some] <;> rfl)) | (simp [*, errW_none, errW_some] <;> rfl), by (with_reducible repeat (first | apply Kd.R_alloc | apply Kd.R_drewN | apply Kd.R_drew)); exact Kd.R_mono (Kd.R_far (p := ⟨gb246, 1, none⟩) (Kd.R_far (p := ⟨gb246, 0, none⟩) (Kd.R_types HO_250001.out BK246.out (by decide)) (fun _ hk => hk.2) (.int .i64 x250000_1)) (fun _ hk => hk.2) (.slice (some ⟨go80, 0, none⟩) x250001_1.length co85)) (fun _ hk => trivial), by repeat (first | (with_reducible first | exact HI0.out | apply IsS183.alloc | apply IsS183.drewN | apply IsS183.drew | apply IsS183.set_1 | refine IsS183.far ?_ NB0_246.out _ | refine IsS183.far ?_ NB0_249.out _) | exact HI0.out), bs3 HB ⟨IsS183.ge HI0.out⟩ GE246 GE249, kp2 HK GW246 GW249⟩
        ·rw [if_neg c79] at H
         exact absurd H (by simp)
       ·rw [if_neg c77] at H
        have c77b0 : decide (0 < (x250001_1.length : Int)) = false := decide_eq_false c77
        have c77b1 : decide (0 < x250001_1.length) = false := decide_eq_false (by omega)
        clear c77
        simp only [Option.some.injEq, Prod.mk.injEq] at H
        obtain ⟨rfl, rfl, rfl⟩ := H
        go_wp2_with (first | ((with_reducible refine gate_callee (f := 136) rfl ?_); refine goesL_ (some 48) rfl rfl Try.func136 (by kernel_rfl) rfl #[.pointer (some ⟨g, 0, none⟩), .int .i64 30] rfl (by (try simp only [List.map_toArray, List.map_cons, List.map_nil]); first | done | rfl | (simp only [List.length_drop, List.length_take]; rfl)) ?_; (with_reducible refine (spec_l1Rd_below.calls g s0_0 x1001_1 30 t265 t266 w0 _ ?side1 ?side2 A48.out).mono ?_); (case side1 => repeat (first | (with_reducible first | exact HI0.out | apply IsS183.alloc | apply IsS183.drewN | apply IsS183.drew | apply IsS183.set_1 | refine IsS183.far ?_ NB0_246.out _ | refine IsS183.far ?_ NB0_249.out _) | exact HI0.out)); (case side2 => repeat (first | (with_reducible first | exact HB.out | apply below_alloc | apply pw_below_drewN | apply below_drew1 | refine below_set ?_ (IsS183.ge HI0.out) | refine below_set ?_ GE246.out | refine below_set ?_ GE249.out) | exact HB.out)); rintro e w95 ⟨rfl, hi, hb, hk⟩; refine ⟨_, rfl, ?_⟩; have n0_ := Aside0.mk (Kd.R_mono (Kd.R_keep (IsS183.apart (show IsS183 w0 _ g s0_0 x1001_1 from by repeat (first | (with_reducible first | exact HI0.out | apply IsS183.alloc | apply IsS183.drewN | apply IsS183.drew | apply IsS183.set_1 | refine IsS183.far ?_ NB0_246.out _ | refine IsS183.far ?_ NB0_249.out _) | exact HI0.out)) (rl HO_250001) (by decide)) hk (fun _ h => h.2)) (fun _ h => h.1)); have n1_ := Aside0.mk (KeepBut.blk hk (g' := gb246) (o := .cells #[.int .i64 0, .slice none 0 0] 35 (0, 0)) (bk BK246) NB246_0.out (by simp)); have n2_ := Aside0.mk (KeepBut.blk hk (g' := gb249) (o := .cells #[.int .i64 x250000_1, u250001] 35 (0, 0)) (bk BK249) NB249_0.out (by simp)); have n3_ := Aside0.mk (KeepBut.trans (kp2 HK GW246 GW249) hk (.inl rfl)); have n4_ := Aside0.mk (hb); have n5_ := Aside0.mk (hi); clear HO_250001; clear BK246; clear BK249; clear HK; clear HB; clear HI0; have HO_250001 := n0_; have BK246 := n1_; have BK249 := n2_; have HK := n3_; have HB := n4_; have HI0 := n5_; clear n0_ n1_ n2_ n3_ n4_ n5_; (try clear hb); (try clear hb2); (try clear hk); (try clear hi); have hnb96 := NB249_246.out; have hnc96 := NB246_249.out; have hnb97 := NB249_0.out; have hnc97 := NB0_249.out; have hcz98_0 : w95.cell? ⟨gb249, 0, none⟩ = some (.int .i64 x250000_1) := (blk_cell BK249.out 0).trans rfl; have hcz98_1 : w95.cell? ⟨gb249, 1, none⟩ = some (u250001) := (blk_cell BK249.out 1).trans rfl; have hfz98_0 := blk_frozen BK249.out 0; have hfz98_1 := blk_frozen BK249.out 1; obtain ⟨Ao99, co99, eo99⟩ := Kd.R_slice HO_250001.out; subst eo99; have hnb100 := NB246_0.out; have hnc100 := NB0_246.out; have hcz101_0 : w95.cell? ⟨gb246, 0, none⟩ = some (.int .i64 0) := (blk_cell BK246.out 0).trans rfl; have hcz101_1 : w95.cell? ⟨gb246, 1, none⟩ = some (.slice none 0 0) := (blk_cell BK246.out 1).trans rfl; have hfz101_0 := blk_frozen BK246.out 0; have hfz101_1 := blk_frozen BK246.out 1))
        refine bodyPost_ret (results_cell_row rfl _ _ gb246 35 #[.int .i64 x250000_1, .slice Ao99 x250001_1.length co99] (0, 0) _ rfl (by (with_reducible repeat (first | refine blk_drewN ?_ _ | refine blk_drew ?_ | refine blk_alloc ?_ _)); refine blk_put (cs := #[.int .i64 x250000_1, .slice none 0 0]) ?_ 1 _ rfl; (with_reducible repeat (first | refine blk_drewN ?_ _ | refine blk_drew ?_ | refine blk_alloc ?_ _)); refine blk_put (cs := #[.int .i64 0, .slice none 0 0]) ?_ 0 _ rfl; (with_reducible repeat (first | refine blk_drewN ?_ _ | refine blk_drew ?_ | refine blk_alloc ?_ _)); exact BK246.out) Try.underlying35 rfl (by kernel_rfl)) rfl ?_
        exact ⟨_, by first | rfl | (simp [errW_none, errW_some] <;> rfl) | (simp only [← hji2]; first | rfl | (simp [errW_none, errW_some] <;> rfl)) | (simp [*, errW_none, errW_some] <;> rfl), by (with_reducible repeat (first | apply Kd.R_alloc | apply Kd.R_drewN | apply Kd.R_drew)); exact Kd.R_mono (Kd.R_far (p := ⟨gb246, 1, none⟩) (Kd.R_far (p := ⟨gb246, 0, none⟩) (Kd.R_types HO_250001.out BK246.out (by decide)) (fun _ hk => hk.2) (.int .i64 x250000_1)) (fun _ hk => hk.2) (.slice Ao99 x250001_1.length co99)) (fun _ hk => trivial), by repeat (first | (with_reducible first | exact HI0.out | apply IsS183.alloc | apply IsS183.drewN | apply IsS183.drew | apply IsS183.set_1 | refine IsS183.far ?_ NB0_246.out _ | refine IsS183.far ?_ NB0_249.out _) | exact HI0.out), bs3 HB ⟨IsS183.ge HI0.out⟩ GE246 GE249, kp2 HK GW246 GW249⟩
      ·rw [if_neg c76] at H
       have c76b0 : (t265 == 2) = false := beq_eq_false_iff_ne.mpr c76
       have c76b1 : (t265 != 2) = true := bne_iff_ne.mpr c76
       by_cases c102 : t265 = 3
       ·rw [if_pos c102] at H
        have c102b0 : (t265 == 3) = true := beq_iff_eq.mpr c102
        have c102b1 : (t265 != 3) = false := bne_eq_false_iff_eq.mpr c102
        clear c102
        replace H := Option.bind_eq_some_iff.mp H
        obtain ⟨⟨t279, t280⟩, A1030, H⟩ := H
        replace H : (some (wrap64 (1000 + t279), x250001_1, t280)) = some (r1, r2, r3) := H
        have A103 := Aside0.mk A1030
        clear A1030
        simp only [Option.some.injEq, Prod.mk.injEq] at H
        obtain ⟨rfl, rfl, rfl⟩ := H
        go_wp2_with (first | ((with_reducible refine gate_callee (f := 136) rfl ?_); refine goesL_ (some 48) rfl rfl Try.func136 (by kernel_rfl) rfl #[.pointer (some ⟨g, 0, none⟩), .int .i64 30] rfl (by (try simp only [List.map_toArray, List.map_cons, List.map_nil]); first | done | rfl | (simp only [List.length_drop, List.length_take]; rfl)) ?_; (with_reducible refine (spec_l1Rd_below.calls g s0_0 x1001_1 30 t265 t266 w0 _ ?side1 ?side2 A48.out).mono ?_); (case side1 => repeat (first | (with_reducible first | exact HI0.out | apply IsS183.alloc | apply IsS183.drewN | apply IsS183.drew | apply IsS183.set_1 | refine IsS183.far ?_ NB0_246.out _ | refine IsS183.far ?_ NB0_249.out _) | exact HI0.out)); (case side2 => repeat (first | (with_reducible first | exact HB.out | apply below_alloc | apply pw_below_drewN | apply below_drew1 | refine below_set ?_ (IsS183.ge HI0.out) | refine below_set ?_ GE246.out | refine below_set ?_ GE249.out) | exact HB.out)); rintro e w104 ⟨rfl, hi, hb, hk⟩; refine ⟨_, rfl, ?_⟩; have n0_ := Aside0.mk (Kd.R_mono (Kd.R_keep (IsS183.apart (show IsS183 w0 _ g s0_0 x1001_1 from by repeat (first | (with_reducible first | exact HI0.out | apply IsS183.alloc | apply IsS183.drewN | apply IsS183.drew | apply IsS183.set_1 | refine IsS183.far ?_ NB0_246.out _ | refine IsS183.far ?_ NB0_249.out _) | exact HI0.out)) (rl HO_250001) (by decide)) hk (fun _ h => h.2)) (fun _ h => h.1)); have n1_ := Aside0.mk (KeepBut.blk hk (g' := gb246) (o := .cells #[.int .i64 0, .slice none 0 0] 35 (0, 0)) (bk BK246) NB246_0.out (by simp)); have n2_ := Aside0.mk (KeepBut.blk hk (g' := gb249) (o := .cells #[.int .i64 x250000_1, u250001] 35 (0, 0)) (bk BK249) NB249_0.out (by simp)); have n3_ := Aside0.mk (KeepBut.trans (kp2 HK GW246 GW249) hk (.inl rfl)); have n4_ := Aside0.mk (hb); have n5_ := Aside0.mk (hi); clear HO_250001; clear BK246; clear BK249; clear HK; clear HB; clear HI0; have HO_250001 := n0_; have BK246 := n1_; have BK249 := n2_; have HK := n3_; have HB := n4_; have HI0 := n5_; clear n0_ n1_ n2_ n3_ n4_ n5_; (try clear hb); (try clear hb2); (try clear hk); (try clear hi)) | ((with_reducible refine gate_callee (f := 136) rfl ?_); refine goesL_ (some 89) rfl rfl Try.func136 (by kernel_rfl) rfl #[.pointer (some ⟨g, 0, none⟩), .int .i64 2] rfl (by (try simp only [List.map_toArray, List.map_cons, List.map_nil]); first | done | rfl | (simp only [List.length_drop, List.length_take]; rfl)) ?_; (with_reducible refine (spec_l1Rd_below.calls g s0_0 t266 2 t279 t280 w0 _ ?side1 ?side2 A103.out).mono ?_); (case side1 => repeat (first | (with_reducible first | exact HI0.out | apply IsS183.alloc | apply IsS183.drewN | apply IsS183.drew | apply IsS183.set_1 | refine IsS183.far ?_ NB0_246.out _ | refine IsS183.far ?_ NB0_249.out _) | exact HI0.out)); (case side2 => repeat (first | (with_reducible first | exact HB.out | apply below_alloc | apply pw_below_drewN | apply below_drew1 | refine below_set ?_ (IsS183.ge HI0.out) | refine below_set ?_ GE246.out | refine below_set ?_ GE249.out) | exact HB.out)); rintro e w105 ⟨rfl, hi, hb, hk⟩; refine ⟨_, rfl, ?_⟩; have n0_ := Aside0.mk (Kd.R_mono (Kd.R_keep (IsS183.apart (show IsS183 w0 _ g s0_0 t266 from by repeat (first | (with_reducible first | exact HI0.out | apply IsS183.alloc | apply IsS183.drewN | apply IsS183.drew | apply IsS183.set_1 | refine IsS183.far ?_ NB0_246.out _ | refine IsS183.far ?_ NB0_249.out _) | exact HI0.out)) (rl HO_250001) (by decide)) hk (fun _ h => h.2)) (fun _ h => h.1)); have n1_ := Aside0.mk (KeepBut.blk hk (g' := gb246) (o := .cells #[.int .i64 0, .slice none 0 0] 35 (0, 0)) (bk BK246) NB246_0.out (by simp)); have n2_ := Aside0.mk (KeepBut.blk hk (g' := gb249) (o := .cells #[.int .i64 x250000_1, u250001] 35 (0, 0)) (bk BK249) NB249_0.out (by simp)); have n3_ := Aside0.mk (KeepBut.trans (kp2 HK GW246 GW249) hk (.inl rfl)); have n4_ := Aside0.mk (hb); have n5_ := Aside0.mk (hi); clear HO_250001; clear BK246; clear BK249; clear HK; clear HB; clear HI0; have HO_250001 := n0_; have BK246 := n1_; have BK249 := n2_; have HK := n3_; have HB := n4_; have HI0 := n5_; clear n0_ n1_ n2_ n3_ n4_ n5_; (try clear hb); (try clear hb2); (try clear hk); (try clear hi); have hnb106 := NB249_246.out; have hnc106 := NB246_249.out; have hnb107 := NB249_0.out; have hnc107 := NB0_249.out; have hcz108_0 : w105.cell? ⟨gb249, 0, none⟩ = some (.int .i64 x250000_1) := (blk_cell BK249.out 0).trans rfl; have hcz108_1 : w105.cell? ⟨gb249, 1, none⟩ = some (u250001) := (blk_cell BK249.out 1).trans rfl; have hfz108_0 := blk_frozen BK249.out 0; have hfz108_1 := blk_frozen BK249.out 1; have hnb109 := NB246_0.out; have hnc109 := NB0_246.out; have hcz110_0 : w105.cell? ⟨gb246, 0, none⟩ = some (.int .i64 0) := (blk_cell BK246.out 0).trans rfl; have hcz110_1 : w105.cell? ⟨gb246, 1, none⟩ = some (.slice none 0 0) := (blk_cell BK246.out 1).trans rfl; have hfz110_0 := blk_frozen BK246.out 0; have hfz110_1 := blk_frozen BK246.out 1; obtain ⟨Ao111, co111, eo111⟩ := Kd.R_slice HO_250001.out; subst eo111))
        refine bodyPost_ret (results_cell_row rfl _ _ gb246 35 #[.int .i64 (wrap64 (1000 + t279)), .slice Ao111 x250001_1.length co111] (0, 0) _ rfl (by (with_reducible repeat (first | refine blk_drewN ?_ _ | refine blk_drew ?_ | refine blk_alloc ?_ _)); refine blk_put (cs := #[.int .i64 (wrap64 (1000 + t279)), .slice none 0 0]) ?_ 1 _ rfl; (with_reducible repeat (first | refine blk_drewN ?_ _ | refine blk_drew ?_ | refine blk_alloc ?_ _)); refine blk_put (cs := #[.int .i64 0, .slice none 0 0]) ?_ 0 _ rfl; (with_reducible repeat (first | refine blk_drewN ?_ _ | refine blk_drew ?_ | refine blk_alloc ?_ _)); refine blk_far ?_ NB246_249.out _; (with_reducible repeat (first | refine blk_drewN ?_ _ | refine blk_drew ?_ | refine blk_alloc ?_ _)); exact BK246.out) Try.underlying35 rfl (by kernel_rfl)) rfl ?_
        exact ⟨_, by first | rfl | (simp [errW_none, errW_some] <;> rfl) | (simp only [← hji2]; first | rfl | (simp [errW_none, errW_some] <;> rfl)) | (simp [*, errW_none, errW_some] <;> rfl), by (with_reducible repeat (first | apply Kd.R_alloc | apply Kd.R_drewN | apply Kd.R_drew)); exact Kd.R_mono (Kd.R_far (p := ⟨gb246, 1, none⟩) (Kd.R_far (p := ⟨gb246, 0, none⟩) (Kd.R_far (p := ⟨gb249, 0, none⟩) (Kd.R_types (Kd.R_types HO_250001.out BK249.out (by decide)) BK246.out (by decide)) (fun _ hk => hk.1.2) (.int .i64 (wrap64 (1000 + t279)))) (fun _ hk => hk.2) (.int .i64 (wrap64 (1000 + t279)))) (fun _ hk => hk.2) (.slice Ao111 x250001_1.length co111)) (fun _ hk => trivial), by repeat (first | (with_reducible first | exact HI0.out | apply IsS183.alloc | apply IsS183.drewN | apply IsS183.drew | apply IsS183.set_1 | refine IsS183.far ?_ NB0_246.out _ | refine IsS183.far ?_ NB0_249.out _) | exact HI0.out), bs3 HB ⟨IsS183.ge HI0.out⟩ GE246 GE249, kp2 HK GW246 GW249⟩
       ·rw [if_neg c102] at H
        have c102b0 : (t265 == 3) = false := beq_eq_false_iff_ne.mpr c102
        have c102b1 : (t265 != 3) = true := bne_iff_ne.mpr c102
        simp only [Option.some.injEq, Prod.mk.injEq] at H
        obtain ⟨rfl, rfl, rfl⟩ := H
        go_wp2_with (first | ((with_reducible refine gate_callee (f := 136) rfl ?_); refine goesL_ (some 48) rfl rfl Try.func136 (by kernel_rfl) rfl #[.pointer (some ⟨g, 0, none⟩), .int .i64 30] rfl (by (try simp only [List.map_toArray, List.map_cons, List.map_nil]); first | done | rfl | (simp only [List.length_drop, List.length_take]; rfl)) ?_; (with_reducible refine (spec_l1Rd_below.calls g s0_0 x1001_1 30 t265 t266 w0 _ ?side1 ?side2 A48.out).mono ?_); (case side1 => repeat (first | (with_reducible first | exact HI0.out | apply IsS183.alloc | apply IsS183.drewN | apply IsS183.drew | apply IsS183.set_1 | refine IsS183.far ?_ NB0_246.out _ | refine IsS183.far ?_ NB0_249.out _) | exact HI0.out)); (case side2 => repeat (first | (with_reducible first | exact HB.out | apply below_alloc | apply pw_below_drewN | apply below_drew1 | refine below_set ?_ (IsS183.ge HI0.out) | refine below_set ?_ GE246.out | refine below_set ?_ GE249.out) | exact HB.out)); rintro e w112 ⟨rfl, hi, hb, hk⟩; refine ⟨_, rfl, ?_⟩; have n0_ := Aside0.mk (Kd.R_mono (Kd.R_keep (IsS183.apart (show IsS183 w0 _ g s0_0 x1001_1 from by repeat (first | (with_reducible first | exact HI0.out | apply IsS183.alloc | apply IsS183.drewN | apply IsS183.drew | apply IsS183.set_1 | refine IsS183.far ?_ NB0_246.out _ | refine IsS183.far ?_ NB0_249.out _) | exact HI0.out)) (rl HO_250001) (by decide)) hk (fun _ h => h.2)) (fun _ h => h.1)); have n1_ := Aside0.mk (KeepBut.blk hk (g' := gb246) (o := .cells #[.int .i64 0, .slice none 0 0] 35 (0, 0)) (bk BK246) NB246_0.out (by simp)); have n2_ := Aside0.mk (KeepBut.blk hk (g' := gb249) (o := .cells #[.int .i64 x250000_1, u250001] 35 (0, 0)) (bk BK249) NB249_0.out (by simp)); have n3_ := Aside0.mk (KeepBut.trans (kp2 HK GW246 GW249) hk (.inl rfl)); have n4_ := Aside0.mk (hb); have n5_ := Aside0.mk (hi); clear HO_250001; clear BK246; clear BK249; clear HK; clear HB; clear HI0; have HO_250001 := n0_; have BK246 := n1_; have BK249 := n2_; have HK := n3_; have HB := n4_; have HI0 := n5_; clear n0_ n1_ n2_ n3_ n4_ n5_; (try clear hb); (try clear hb2); (try clear hk); (try clear hi); have hnb113 := NB249_246.out; have hnc113 := NB246_249.out; have hnb114 := NB249_0.out; have hnc114 := NB0_249.out; have hcz115_0 : w112.cell? ⟨gb249, 0, none⟩ = some (.int .i64 x250000_1) := (blk_cell BK249.out 0).trans rfl; have hcz115_1 : w112.cell? ⟨gb249, 1, none⟩ = some (u250001) := (blk_cell BK249.out 1).trans rfl; have hfz115_0 := blk_frozen BK249.out 0; have hfz115_1 := blk_frozen BK249.out 1; have hnb116 := NB246_0.out; have hnc116 := NB0_246.out; have hcz117_0 : w112.cell? ⟨gb246, 0, none⟩ = some (.int .i64 0) := (blk_cell BK246.out 0).trans rfl; have hcz117_1 : w112.cell? ⟨gb246, 1, none⟩ = some (.slice none 0 0) := (blk_cell BK246.out 1).trans rfl; have hfz117_0 := blk_frozen BK246.out 0; have hfz117_1 := blk_frozen BK246.out 1; obtain ⟨Ao118, co118, eo118⟩ := Kd.R_slice HO_250001.out; subst eo118))
        refine bodyPost_ret (results_cell_row rfl _ _ gb246 35 #[.int .i64 x250000_1, .slice Ao118 x250001_1.length co118] (0, 0) _ rfl (by (with_reducible repeat (first | refine blk_drewN ?_ _ | refine blk_drew ?_ | refine blk_alloc ?_ _)); refine blk_put (cs := #[.int .i64 x250000_1, .slice none 0 0]) ?_ 1 _ rfl; (with_reducible repeat (first | refine blk_drewN ?_ _ | refine blk_drew ?_ | refine blk_alloc ?_ _)); refine blk_put (cs := #[.int .i64 0, .slice none 0 0]) ?_ 0 _ rfl; (with_reducible repeat (first | refine blk_drewN ?_ _ | refine blk_drew ?_ | refine blk_alloc ?_ _)); exact BK246.out) Try.underlying35 rfl (by kernel_rfl)) rfl ?_
        exact ⟨_, by first | rfl | (simp [errW_none, errW_some] <;> rfl) | (simp only [← hji2]; first | rfl | (simp [errW_none, errW_some] <;> rfl)) | (simp [*, errW_none, errW_some] <;> rfl), by (with_reducible repeat (first | apply Kd.R_alloc | apply Kd.R_drewN | apply Kd.R_drew)); exact Kd.R_mono (Kd.R_far (p := ⟨gb246, 1, none⟩) (Kd.R_far (p := ⟨gb246, 0, none⟩) (Kd.R_types HO_250001.out BK246.out (by decide)) (fun _ hk => hk.2) (.int .i64 x250000_1)) (fun _ hk => hk.2) (.slice Ao118 x250001_1.length co118)) (fun _ hk => trivial), by repeat (first | (with_reducible first | exact HI0.out | apply IsS183.alloc | apply IsS183.drewN | apply IsS183.drew | apply IsS183.set_1 | refine IsS183.far ?_ NB0_246.out _ | refine IsS183.far ?_ NB0_249.out _) | exact HI0.out), bs3 HB ⟨IsS183.ge HI0.out⟩ GE246 GE249, kp2 HK GW246 GW249⟩

end Go.Proofs.Ytkjlplcdjdenkaa.PFnForest
