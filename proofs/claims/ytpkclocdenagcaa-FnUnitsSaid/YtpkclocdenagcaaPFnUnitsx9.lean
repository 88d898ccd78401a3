-- Written by a program of this session (a turned copy of the kit's printer); Lean checks it.
-- half the depth
import Derived.Laws.EntriesVeiled
import Derived.Test.YtpkclocdenagcaaPFnUnitsx0
import Derived.Test.YtpkclocdenagcaaPFnUnitsx5
import Derived.Test.YtpkclocdenagcaaPFnUnitsx7
import Derived.Test.YtpkclocdenagcaaPFnUnitsx8
namespace Go.Proofs.Ytpkclocdenagcaa.PFnUnits
open Go.RowKit Go.Proofs.YtpkclocdenagcaaW.PrintWords Go.Proofs.YtpkclocdenagcaaW.PrintLast Go.Proofs.YtpkclocdenagcaaW.PrintMore
attribute [local go_sem] max2_int min2_int max_two min_two max_three min_three max_four min_four   -- for this text's walks alone
set_option linter.unusedVariables false
set_option linter.unusedSimpArgs false

/-! ### spec_DrawUnit: function 24 -/
mutual
def spec_DrawUnit.l0 : Nat → List Int → Int → List Int → Int → Int → List (List Int) → Option (Int × (List (List Int)) × List Int)
 | 0, _, _, _, _, _, _ => none
 | k + 1, x6, x7, x246000, x246001, x252000, x252001 => if x7 ≤ x252000 then (spec_DrawUnit.j1 k x6 x7 (decide (x7 < 20)) x246000 x246001 x252000 x252001) else (spec_DrawUnit.j1 k x6 x7 false x246000 x246001 x252000 x252001)
def spec_DrawUnit.j1 : Nat → List Int → Int → Bool → List Int → Int → Int → List (List Int) → Option (Int × (List (List Int)) × List Int)
 | 0, _, _, _, _, _, _, _ => none
 | k + 1, x6, x7, x20, x246000, x246001, x252000, x252001 => if x20 = true then ((spec_l1Rd_once.f x246000 x246001 4).bind fun bt255 => (if bt255.1 = true then ((spec_l1Rd_below.f x246000 bt255.2 2).bind fun bt257 => (if x6.length < 17592186044416 then (spec_DrawUnit.l0 k (x6 ++ [wrap64 (x7 * (wrap64 (1 - (wrap64 (2 * bt257.1)))))]) (wrap64 (x7 + 1)) x246000 bt257.2 x252000 x252001) else (none))) else (spec_DrawUnit.l0 k x6 (wrap64 (x7 + 1)) x246000 bt255.2 x252000 x252001))) else ((spec_l1Rd_once.f x246000 x246001 20).bind fun bt262 => (if bt262.1 = true then ((spec_l1Rd_off.f k x246000 bt262.2 (wrap64 (-x252000)) x252000).bind fun bt264 => (if x6.length < 17592186044416 then (some (x252000, x252001, (x6 ++ [bt264.1]))) else (none))) else (some (x252000, x252001, x6))))
end
def spec_DrawUnit.f (k : Nat) (l0 : List Int) : Option (Int × (List (List Int)) × List Int) := (spec_l1Open.f l0).bind fun bt243 => ((spec_l1Rd_cnf.f k bt243.1 bt243.2).bind fun bt246 => (spec_DrawUnit.l0 k (([] : List Int)) 1 bt243.1 bt246.2.2 bt246.1 bt246.2.1))
set_option maxHeartbeats 8000000 in
set_option maxRecDepth 100000 in
theorem spec_DrawUnit.calls (k : Nat) (A0 : Option Addr) (c0 : Nat) (l0 : List Int) (r1 : Int) (r2 : List (List Int)) (r3 : List Int) (w : World) (hr0 : Kd.C (Kd.int .u8) w A0 l0.length l0) (hc0 : l0.length ≤ c0) (h : spec_DrawUnit.f k l0 = some (r1, r2, r3)) :
  Calls Try.prog 24 #[.slice A0 l0.length c0] w fun e w' => ∃ v1_ v2_ : Value, e = .returned (.tuple #[.agg #[.int .i64 r1, v1_], v2_]) ∧ Kd.S (Kd.slice 2 (Kd.int .i64)) 33 w' w.heap.size (fun k_ => some k_ ≠ (v2_ : Value).ownBlock) v1_ r2 ∧ Kd.R (Kd.int .i64) 2 w' w.heap.size (fun _ => True) v2_ r3 ∧ Below w.heap.size w w' := by
 have hu37 := Try.underlying37; have HR0 := Aside0.mk hr0; have HC0 := Aside0.mk hc0; clear hr0 hc0; have HB := Aside0.mk (Below.refl w.heap.size w); have H : ((spec_l1Open.f l0).bind fun bt243 => ((spec_l1Rd_cnf.f k bt243.1 bt243.2).bind fun bt246 => (spec_DrawUnit.l0 k (([] : List Int)) 1 bt243.1 bt246.2.2 bt246.1 bt246.2.1))) = some (r1, r2, r3) := h; clear h; replace H := Option.bind_eq_some_iff.mp H; obtain ⟨⟨t243, t244⟩, A20, H⟩ := H; replace H : ((spec_l1Rd_cnf.f k t243 t244).bind fun bt246 => (spec_DrawUnit.l0 k (([] : List Int)) 1 t243 bt246.2.2 bt246.1 bt246.2.1)) = some (r1, r2, r3) := H; have A2 := Aside0.mk A20; clear A20; replace H := Option.bind_eq_some_iff.mp H; obtain ⟨⟨t246, t247, t250⟩, A30, H⟩ := H; replace H : (spec_DrawUnit.l0 k (([] : List Int)) 1 t243 t250 t246 t247) = some (r1, r2, r3) := H; have A3 := Aside0.mk A30; clear A30; obtain ⟨y252, hy252⟩ : ∃ y_ : List Int, y_ = (([] : List Int)) := ⟨_, rfl⟩
 replace H : (spec_DrawUnit.l0 k y252 1 t243 t250 t246 t247) = some (r1, r2, r3) := by first | (rw [hy252]; with_reducible exact H) | (have H2_ := (Option.bind_some _ _).symm.trans H; rw [hy252]; with_reducible exact H2_) | (have H2_ := (Option.bind_some _ _).symm.trans H; with_reducible exact H2_) | with_reducible exact H | (rw [hy252]; exact H) | exact H
 have Ny252 := Aside0.mk hy252; clear hy252; have H' := Aside0.mk H; clear H
 go_enter Try.func24, Try.ntmps24
 go_wp2_with (first | ((with_reducible refine gate_dst (N := 2) rfl ?_); refine be 2 #[.int .i64 0, .slice none 0 0] 37 ?_; intro gb242 hg w4 hbox hb; have n0_ := Aside0.mk (below_step (bl HB) hb); have n1_ := Aside0.mk (hbox); have n2_ := Aside0.mk (gs HB hg); have n3_ := Aside0.mk (gs HB hg); clear HB; have HB := n0_; have BK242 := n1_; have GW242 := n2_; have GE242 := n3_; clear n0_ n1_ n2_ n3_; clear hb hbox hg) | ((with_reducible refine gate_callee (f := 55) rfl ?_); refine goesL_ (some 9) rfl rfl Try.func55 (by kernel_rfl) rfl #[.slice A0 l0.length c0] rfl ma ?_; (with_reducible refine (spec_l1Open.calls _ _ l0 t243 t244 w _ ?side1 ?side2 ?side3 A2.out).mono ?_); (case side1 => repeat (first | (with_reducible first | exact HB.out | apply below_alloc | apply pw_below_drewN | apply below_drew1 | refine below_set ?_ GE242.out) | exact HB.out)); (case side2 => exact HR0.out); (case side3 => exact HC0.out); rintro e w5 ⟨g245, rfl, hi, hb, hb2⟩; refine ⟨_, rfl, ?_⟩; have n0_ := Aside0.mk (blk_below (g := gb242) (o := .cells #[.int .i64 0, .slice none 0 0] 37 (0, 0)) (bk BK242) hb2); have n1_ := Aside0.mk (hb); have n2_ := Aside0.mk (hi); have n3_ := Aside0.mk (IsS102.ne_blk hi (blk_below (g := gb242) (o := .cells #[.int .i64 0, .slice none 0 0] 37 (0, 0)) (bk BK242) hb2) (by decide)); have n4_ := Aside0.mk (Ne.symm (IsS102.ne_blk hi (blk_below (g := gb242) (o := .cells #[.int .i64 0, .slice none 0 0] 37 (0, 0)) (bk BK242) hb2) (by decide))); clear BK242; clear HB; have BK242 := n0_; have HB := n1_; have HI245 := n2_; have NB245_242 := n3_; have NB242_245 := n4_; clear n0_ n1_ n2_ n3_ n4_; (try clear hb); (try clear hb2); (try clear hk); (try clear hi)) | ((with_reducible refine gate_callee (f := 56) rfl ?_); refine goesL_ (some 11) rfl rfl Try.func56 (by kernel_rfl) rfl #[.pointer (some ⟨g245, 0, none⟩)] rfl ma ?_; (with_reducible refine (spec_l1Rd_cnf.calls k g245 t243 t244 t246 t247 t250 w _ ?side1 ?side2 A3.out).mono ?_); (case side1 => repeat (first | (with_reducible first | exact HI245.out | apply IsS102.alloc | apply IsS102.drewN | apply IsS102.drew | apply IsS102.set_1 | refine IsS102.far ?_ NB245_242.out _) | exact HI245.out)); (case side2 => repeat (first | (with_reducible first | exact HB.out | apply below_alloc | apply pw_below_drewN | apply below_drew1 | refine below_set ?_ (IsS102.ge HI245.out) | refine below_set ?_ GE242.out) | exact HB.out)); rintro e w6 ⟨v248, rfl, ho0, hi, hb, hk⟩; refine ⟨_, rfl, ?_⟩; have n0_ := Aside0.mk (KeepBut.blk hk (g' := gb242) (o := .cells #[.int .i64 0, .slice none 0 0] 37 (0, 0)) (bk BK242) NB242_245.out (by simp)); have n1_ := Aside0.mk (Kd.S_lower ho0 (below_size (bs2 HB ⟨IsS102.ge HI245.out⟩ GE242))); have n2_ := Aside0.mk (hb); have n3_ := Aside0.mk (hi); clear BK242; clear HB; clear HI245; have BK242 := n0_; have HO249 := n1_; have HB := n2_; have HI245 := n3_; clear n0_ n1_ n2_ n3_; (try clear hb); (try clear hb2); (try clear hk); (try clear hi); (try clear ho0)) | ((with_reducible refine gate_dst (N := 5) rfl ?_); refine be 5 #[.int .i64 0, .slice none 0 0] 37 ?_; intro gb251 hg w7 hbox hb; have n0_ := Aside0.mk (Kd.S_below (sl HO249) hb); have n1_ := Aside0.mk (blk_below (g := gb242) (o := .cells #[.int .i64 0, .slice none 0 0] 37 (0, 0)) (bk BK242) hb); have n2_ := Aside0.mk (IsS102.below (by repeat (first | (with_reducible first | exact HI245.out | apply IsS102.alloc | apply IsS102.drewN | apply IsS102.drew | apply IsS102.set_1 | refine IsS102.far ?_ NB245_242.out _) | exact HI245.out)) hb); have n3_ := Aside0.mk (below_step (bs2 HB ⟨IsS102.ge HI245.out⟩ GE242) hb); have n4_ := Aside0.mk (hbox); have n5_ := Aside0.mk ((by rw [hg]; exact (below_size (bs2 HB ⟨IsS102.ge HI245.out⟩ GE242)) : w.heap.size ≤ gb251)); have n6_ := Aside0.mk ((by rw [hg]; exact (below_size (bs2 HB ⟨IsS102.ge HI245.out⟩ GE242)) : w.heap.size ≤ gb251)); have n7_ := Aside0.mk ((by rw [hg]; exact Nat.ne_of_lt (blk_lt (g := gb242) (o := .cells #[.int .i64 0, .slice none 0 0] 37 (0, 0)) (bk BK242)) : gb242 ≠ gb251)); have n8_ := Aside0.mk ((by rw [hg]; exact Nat.ne_of_gt (blk_lt (g := gb242) (o := .cells #[.int .i64 0, .slice none 0 0] 37 (0, 0)) (bk BK242)) : gb251 ≠ gb242)); have n9_ := Aside0.mk ((by rw [hg]; exact Nat.ne_of_lt (IsS102.lt (show IsS102 w _ g245 t243 t250 from by repeat (first | (with_reducible first | exact HI245.out | apply IsS102.alloc | apply IsS102.drewN | apply IsS102.drew | apply IsS102.set_1 | refine IsS102.far ?_ NB245_242.out _) | exact HI245.out))) : g245 ≠ gb251)); have n10_ := Aside0.mk ((by rw [hg]; exact Nat.ne_of_gt (IsS102.lt (show IsS102 w _ g245 t243 t250 from by repeat (first | (with_reducible first | exact HI245.out | apply IsS102.alloc | apply IsS102.drewN | apply IsS102.drew | apply IsS102.set_1 | refine IsS102.far ?_ NB245_242.out _) | exact HI245.out))) : gb251 ≠ g245)); clear HO249; clear BK242; clear HI245; clear HB; have HO249 := n0_; have BK242 := n1_; have HI245 := n2_; have HB := n3_; have BK251 := n4_; have GW251 := n5_; have GE251 := n6_; have NB242_251 := n7_; have NB251_242 := n8_; have NB245_251 := n9_; have NB251_245 := n10_; clear n0_ n1_ n2_ n3_ n4_ n5_ n6_ n7_ n8_ n9_ n10_; clear hb hbox hg; have hnb8 := NB251_242.out; have hnc8 := NB242_251.out; have hnb9 := NB251_245.out; have hnc9 := NB245_251.out; have hcz10_0 : w7.cell? ⟨gb251, 0, none⟩ = some (.int .i64 0) := (blk_cell BK251.out 0).trans rfl; have hcz10_1 : w7.cell? ⟨gb251, 1, none⟩ = some (.slice none 0 0) := (blk_cell BK251.out 1).trans rfl; have hfz10_0 := blk_frozen BK251.out 0; have hfz10_1 := blk_frozen BK251.out 1; obtain ⟨Ao11, co11, eo11⟩ := Kd.S_slice HO249.out; subst eo11) | ((with_reducible refine gate_dst (N := 12) rfl ?_); refine Kd.R_lit (Kd.int .i64) _ 2 ?hg (N := 12) ?hd (xs := ([] : List Int)) (inner := []) (ok := fun _ => True) (okp := fun _ => True) ?hr ?hp (fun _ hk => hk) trivial (Below.refl _ _) (Nat.le_refl _) (by simp) ?_; (case hd => rfl); (case hg => rfl); (case hr => first | (go_simp; done) | (go_simp; rfl)); (case hp => exact (Reps.none _ _)); intro v253 w12 ho13 hb hg_ hnew_; clear hg_ hnew_; (first | rw [← Ny252.out] at ho13 | (simp only [Int.reduceToNat] at ho13; rw [← Ny252.out] at ho13)); have n0_ := Aside0.mk (Kd.S_elder' (by (with_reducible repeat (first | apply Kd.S_alloc | apply Kd.S_drewN | apply Kd.S_drew)); exact (Kd.S_mono (Kd.S_far (p := ⟨gb251, 1, none⟩) (Kd.S_far (p := ⟨gb251, 0, none⟩) (Kd.S_types HO249.out BK251.out (by decide)) (fun _ hk => hk.2) (.int .i64 t246)) (fun _ hk => hk.2) (.slice Ao11 t247.length co11)) (fun _ h_ => h_.1))) (Kd.R_base ho13) hb); have n1_ := Aside0.mk (Kd.R_lower ho13 (below_size (bs3 HB ⟨IsS102.ge HI245.out⟩ GE242 GE251))); have n2_ := Aside0.mk (blk_below (g := gb242) (o := .cells #[.int .i64 0, .slice none 0 0] 37 (0, 0)) (by (with_reducible repeat (first | refine blk_drewN ?_ _ | refine blk_drew ?_ | refine blk_alloc ?_ _)); refine blk_far ?_ NB242_251.out _; (with_reducible repeat (first | refine blk_drewN ?_ _ | refine blk_drew ?_ | refine blk_alloc ?_ _)); refine blk_far ?_ NB242_251.out _; (with_reducible repeat (first | refine blk_drewN ?_ _ | refine blk_drew ?_ | refine blk_alloc ?_ _)); exact BK242.out) hb); have n3_ := Aside0.mk (IsS102.below (show IsS102 w ((w7.setCell ⟨gb251, 0, none⟩ (.int .i64 t246)).setCell ⟨gb251, 1, none⟩ (.slice Ao11 t247.length co11)) g245 t243 t250 from by repeat (first | (with_reducible first | exact HI245.out | apply IsS102.alloc | apply IsS102.drewN | apply IsS102.drew | apply IsS102.set_1 | refine IsS102.far ?_ NB245_242.out _ | refine IsS102.far ?_ NB245_251.out _) | exact HI245.out)) hb); have n4_ := Aside0.mk (blk_below (g := gb251) (o := .cells #[.int .i64 t246, .slice Ao11 t247.length co11] 37 (0, 0)) (by refine bd ?_; refine blk_put (cs := #[.int .i64 t246, .slice none 0 0]) ?_ 1 _ rfl; refine bd ?_; refine blk_put (cs := #[.int .i64 0, .slice none 0 0]) ?_ 0 _ rfl; (with_reducible repeat (first | refine blk_drewN ?_ _ | refine blk_drew ?_ | refine blk_alloc ?_ _)); exact BK251.out) hb); have n5_ := Aside0.mk (below_step (bs3 HB ⟨IsS102.ge HI245.out⟩ GE242 GE251) hb); clear HO249; clear BK242; clear HI245; clear BK251; clear HB; have HO249 := n0_; have HO254 := n1_; have BK242 := n2_; have HI245 := n3_; have BK251 := n4_; have HB := n5_; clear n0_ n1_ n2_ n3_ n4_ n5_; clear hb ho13))
 go_loopg [6, 7] k (fun kq v6 v7 w' => ∃ (x6_1 : List Int) (x7_1 : Int) (x246001_1 : Int), v7 = .int .i64 x7_1 ∧ Aside0 (spec_DrawUnit.l0 kq x6_1 x7_1 t243 x246001_1 t246 t247 = some (r1, r2, r3)) ∧ Aside0 (kq ≤ k) ∧ Aside0 (Kd.R (Kd.int .i64) 2 w' w.heap.size (fun _ => True) v6 x6_1) ∧ Aside0 (Kd.S (Kd.slice 2 (Kd.int .i64)) 33 w' w.heap.size (fun k_ => some k_ ≠ (v6 : Value).ownBlock) (.slice Ao11 t247.length co11) t247) ∧ Aside0 (w'.heap[gb242]? = some (.cells #[.int .i64 0, (.slice none 0 0)] 37 (0, 0))) ∧ Aside0 (w'.heap[gb251]? = some (.cells #[.int .i64 t246, (.slice Ao11 t247.length co11)] 37 (0, 0))) ∧ Aside0 (IsS102 w w' g245 t243 x246001_1) ∧ Aside0 (Below w.heap.size w w'))
 case atStart => exact ⟨(y252), (1), (t250), au, H', ⟨Nat.le_refl _⟩, ⟨rl HO254⟩, ⟨by (with_reducible repeat (first | apply Kd.S_alloc | apply Kd.S_drewN | apply Kd.S_drew)); exact Kd.S_mono HO249.out (fun _ hk => hk.2)⟩, ⟨bk BK242⟩, ⟨bk BK251⟩, ⟨by repeat (first | (with_reducible first | exact HI245.out | apply IsS102.alloc | apply IsS102.drewN | apply IsS102.drew | apply IsS102.set_1 | refine IsS102.far ?_ NB245_242.out _ | refine IsS102.far ?_ NB245_251.out _) | exact HI245.out)⟩, ⟨bs3 HB ⟨IsS102.ge HI245.out⟩ GE242 GE251⟩⟩
 case round =>
  clear H'
  try clear c2
  try clear p2
  try clear c5
  try clear c8
  try clear c9
  try clear hcz10_0
  try clear hcz10_1
  try clear hfz10_0
  try clear hfz10_1
  obtain ⟨x6_1, x7_1, x246001_1, rfl, HA, HK1, HO_6, HO_252001, BK242, BK251, HI245, HB⟩ := hrel
  cases gk with
  | zero => exact absurd HA.out (by simp [spec_DrawUnit.l0])
  | succ k1 =>
   have H := HA.out; clear HA
   simp only [spec_DrawUnit.l0] at H
   have HC14 := Aside0.mk H; clear H
   go_upto_region 5 with (fail)
   go_cut [20] (fun v20 wc => ∃ (kq : Nat) (x20_13 : Bool), v20 = .bool x20_13 ∧ Aside0 (spec_DrawUnit.j1 kq x6_1 x7_1 x20_13 t243 x246001_1 t246 t247 = some (r1, r2, r3)) ∧ Aside0 (kq ≤ k1) ∧ Aside0 (Kd.R (Kd.int .i64) 2 wc w.heap.size (fun _ => True) u6 x6_1) ∧ Aside0 (Kd.S (Kd.slice 2 (Kd.int .i64)) 33 wc w.heap.size (fun k_ => some k_ ≠ (u6 : Value).ownBlock) (.slice Ao11 t247.length co11) t247) ∧ Aside0 (wc.heap[gb242]? = some (.cells #[.int .i64 0, (.slice none 0 0)] 37 (0, 0))) ∧ Aside0 (wc.heap[gb251]? = some (.cells #[.int .i64 t246, (.slice Ao11 t247.length co11)] 37 (0, 0))) ∧ Aside0 (IsS102 w wc g245 t243 x246001_1) ∧ Aside0 (Below w.heap.size w wc))
   case first =>
    have H := HC14.out; clear HC14
    by_cases c15 : x7_1 ≤ t246
    ·rw [if_pos c15] at H
     have c15b0 : decide (x7_1 ≤ t246) = true := decide_eq_true c15; clear c15
     (first | rw [c15b0] | (simp only [i64_w, i32_w]; rw [c15b0]) | skip)
     have H' := Aside0.mk H; clear H; have hnb16 := NB251_242.out; have hnc16 := NB242_251.out; have hnb17 := NB251_245.out; have hnc17 := NB245_251.out; have hcz18_0 : wr.cell? ⟨gb251, 0, none⟩ = some (.int .i64 t246) := (blk_cell BK251.out 0).trans rfl; have hcz18_1 : wr.cell? ⟨gb251, 1, none⟩ = some (.slice Ao11 t247.length co11) := (blk_cell BK251.out 1).trans rfl; have hfz18_0 := blk_frozen BK251.out 0; have hfz18_1 := blk_frozen BK251.out 1
     go_wp2
     go_meet
     case rel => exact ⟨_, (decide (x7_1 < 20)), au, H', ⟨by have := HK1.out; first | omega | exact Nat.le_refl _⟩, ⟨rl HO_6⟩, ⟨sl HO_252001⟩, ⟨bk BK242⟩, ⟨bk BK251⟩, ⟨by repeat (first | (with_reducible first | exact HI245.out | apply IsS102.alloc | apply IsS102.drewN | apply IsS102.drew | apply IsS102.set_1 | refine IsS102.far ?_ NB245_242.out _ | refine IsS102.far ?_ NB245_251.out _) | exact HI245.out)⟩, ⟨bs3 HB ⟨IsS102.ge HI245.out⟩ GE242 GE251⟩⟩
    ·rw [if_neg c15] at H
     have c15b0 : decide (x7_1 ≤ t246) = false := decide_eq_false c15; clear c15
     (first | rw [c15b0] | (simp only [i64_w, i32_w]; rw [c15b0]) | skip)
     have H' := Aside0.mk H; clear H; have hnb19 := NB251_242.out; have hnc19 := NB242_251.out; have hnb20 := NB251_245.out; have hnc20 := NB245_251.out; have hcz21_0 : wr.cell? ⟨gb251, 0, none⟩ = some (.int .i64 t246) := (blk_cell BK251.out 0).trans rfl; have hcz21_1 : wr.cell? ⟨gb251, 1, none⟩ = some (.slice Ao11 t247.length co11) := (blk_cell BK251.out 1).trans rfl; have hfz21_0 := blk_frozen BK251.out 0; have hfz21_1 := blk_frozen BK251.out 1
     go_wp2
     go_meet
     case rel => exact ⟨_, (false), au, H', ⟨by have := HK1.out; first | omega | exact Nat.le_refl _⟩, ⟨rl HO_6⟩, ⟨sl HO_252001⟩, ⟨bk BK242⟩, ⟨bk BK251⟩, ⟨by repeat (first | (with_reducible first | exact HI245.out | apply IsS102.alloc | apply IsS102.drewN | apply IsS102.drew | apply IsS102.set_1 | refine IsS102.far ?_ NB245_242.out _ | refine IsS102.far ?_ NB245_251.out _) | exact HI245.out)⟩, ⟨bs3 HB ⟨IsS102.ge HI245.out⟩ GE242 GE251⟩⟩
   case rest =>
    clear HC14
    try clear c1
    try clear c2
    try clear p2
    try clear c5
    try clear c8
    try clear c9
    try clear c15
    try clear c15b0
    try clear c16
    try clear c17
    try clear c19
    try clear c20
    try clear hcz10_0
    try clear hcz10_1
    try clear hcz18_0
    try clear hcz18_1
    try clear hcz21_0
    try clear hcz21_1
    try clear hfz10_0
    try clear hfz10_1
    try clear hfz18_0
    try clear hfz18_1
    try clear hfz21_0
    try clear hfz21_1
    try clear p2
    obtain ⟨kq, x20_13, rfl, HA, HJ13, HO_6, HO_252001, BK242, BK251, HI245, HB⟩ := hcut
    cases kq with
    | zero => exact absurd HA.out (by simp [spec_DrawUnit.j1])
    | succ kj13 =>
     have H := HA.out; clear HA
     simp only [spec_DrawUnit.j1] at H
     by_cases c22 : x20_13 = true
     ·subst c22
      have H1 : ((spec_l1Rd_once.f t243 x246001_1 4).bind fun bt255 => (if bt255.1 = true then ((spec_l1Rd_below.f t243 bt255.2 2).bind fun bt257 => (if x6_1.length < 17592186044416 then (spec_DrawUnit.l0 kj13 (x6_1 ++ [wrap64 (x7_1 * (wrap64 (1 - (wrap64 (2 * bt257.1)))))]) (wrap64 (x7_1 + 1)) t243 bt257.2 t246 t247) else (none))) else (spec_DrawUnit.l0 kj13 x6_1 (wrap64 (x7_1 + 1)) t243 bt255.2 t246 t247))) = some (r1, r2, r3) := by rw [if_pos rfl] at H; exact H
      clear H; have H := H1; clear H1; replace H := Option.bind_eq_some_iff.mp H; obtain ⟨⟨t255, t256⟩, A230, H⟩ := H; replace H : (if t255 = true then ((spec_l1Rd_below.f t243 t256 2).bind fun bt257 => (if x6_1.length < 17592186044416 then (spec_DrawUnit.l0 kj13 (x6_1 ++ [wrap64 (x7_1 * (wrap64 (1 - (wrap64 (2 * bt257.1)))))]) (wrap64 (x7_1 + 1)) t243 bt257.2 t246 t247) else (none))) else (spec_DrawUnit.l0 kj13 x6_1 (wrap64 (x7_1 + 1)) t243 t256 t246 t247)) = some (r1, r2, r3) := H; have A23 := Aside0.mk A230; clear A230
      by_cases c24 : t255 = true
      ·subst c24
       have H1 : ((spec_l1Rd_below.f t243 t256 2).bind fun bt257 => (if x6_1.length < 17592186044416 then (spec_DrawUnit.l0 kj13 (x6_1 ++ [wrap64 (x7_1 * (wrap64 (1 - (wrap64 (2 * bt257.1)))))]) (wrap64 (x7_1 + 1)) t243 bt257.2 t246 t247) else (none))) = some (r1, r2, r3) := by rw [if_pos rfl] at H; exact H
       clear H; have H := H1; clear H1; replace H := Option.bind_eq_some_iff.mp H; obtain ⟨⟨t257, t258⟩, A250, H⟩ := H; replace H : (if x6_1.length < 17592186044416 then (spec_DrawUnit.l0 kj13 (x6_1 ++ [wrap64 (x7_1 * (wrap64 (1 - (wrap64 (2 * t257)))))]) (wrap64 (x7_1 + 1)) t243 t258 t246 t247) else (none)) = some (r1, r2, r3) := H; have A25 := Aside0.mk A250; clear A250
       by_cases c26 : x6_1.length < 17592186044416
       ·rw [if_pos c26] at H
        have LMc26 := Aside0.mk c26; clear c26; obtain ⟨y259, hy259⟩ : ∃ y_ : List Int, y_ = (x6_1 ++ [wrap64 (x7_1 * (wrap64 (1 - (wrap64 (2 * t257)))))]) := ⟨_, rfl⟩
        replace H : (spec_DrawUnit.l0 kj13 y259 (wrap64 (x7_1 + 1)) t243 t258 t246 t247) = some (r1, r2, r3) := by first | (rw [hy259]; with_reducible exact H) | (have H2_ := (Option.bind_some _ _).symm.trans H; rw [hy259]; with_reducible exact H2_) | (have H2_ := (Option.bind_some _ _).symm.trans H; with_reducible exact H2_) | with_reducible exact H | (rw [hy259]; exact H) | exact H
        have Ny259 := Aside0.mk hy259; clear hy259; have H' := Aside0.mk H; clear H
        go_wp2_with (first | ((with_reducible refine gate_callee (f := 57) rfl ?_); refine goesL_ (some 24) rfl rfl Try.func57 (by kernel_rfl) rfl #[.pointer (some ⟨g245, 0, none⟩), .int .i64 4] rfl ma ?_; (with_reducible refine (spec_l1Rd_once.calls g245 t243 x246001_1 4 true t256 w _ ?side1 ?side2 A23.out).mono ?_); (case side1 => repeat (first | (with_reducible first | exact HI245.out | apply IsS102.alloc | apply IsS102.drewN | apply IsS102.drew | apply IsS102.set_1 | refine IsS102.far ?_ NB245_242.out _ | refine IsS102.far ?_ NB245_251.out _) | exact HI245.out)); (case side2 => repeat (first | (with_reducible first | exact HB.out | apply below_alloc | apply pw_below_drewN | apply below_drew1 | refine below_set ?_ (IsS102.ge HI245.out) | refine below_set ?_ GE242.out | refine below_set ?_ GE251.out) | exact HB.out)); rintro e w27 ⟨rfl, hi, hb, hk⟩; refine ⟨_, rfl, ?_⟩; have n0_ := Aside0.mk (Kd.R_mono (Kd.R_keep (IsS102.apart (show IsS102 w _ g245 t243 x246001_1 from by repeat (first | (with_reducible first | exact HI245.out | apply IsS102.alloc | apply IsS102.drewN | apply IsS102.drew | apply IsS102.set_1 | refine IsS102.far ?_ NB245_242.out _ | refine IsS102.far ?_ NB245_251.out _) | exact HI245.out)) (rl HO_6) (by decide)) hk (fun _ h => h.2)) (fun _ h => h.1)); have n1_ := Aside0.mk (Kd.S_mono (Kd.S_keep (IsS102.apartS (show IsS102 w _ g245 t243 x246001_1 from by repeat (first | (with_reducible first | exact HI245.out | apply IsS102.alloc | apply IsS102.drewN | apply IsS102.drew | apply IsS102.set_1 | refine IsS102.far ?_ NB245_242.out _ | refine IsS102.far ?_ NB245_251.out _) | exact HI245.out)) (sl HO_252001) (by decide)) hk (fun _ h => h.2)) (fun _ h => h.1)); have n2_ := Aside0.mk (KeepBut.blk hk (g' := gb242) (o := .cells #[.int .i64 0, .slice none 0 0] 37 (0, 0)) (bk BK242) NB242_245.out (by simp)); have n3_ := Aside0.mk (KeepBut.blk hk (g' := gb251) (o := .cells #[.int .i64 t246, .slice Ao11 t247.length co11] 37 (0, 0)) (bk BK251) NB251_245.out (by simp)); have n4_ := Aside0.mk (hb); have n5_ := Aside0.mk (hi); clear HO_6; clear HO_252001; clear BK242; clear BK251; clear HB; clear HI245; have HO_6 := n0_; have HO_252001 := n1_; have BK242 := n2_; have BK251 := n3_; have HB := n4_; have HI245 := n5_; clear n0_ n1_ n2_ n3_ n4_ n5_; (try clear hb); (try clear hb2); (try clear hk); (try clear hi)) | ((with_reducible refine gate_callee (f := 58) rfl ?_); refine goesL_ (some 28) rfl rfl Try.func58 (by kernel_rfl) rfl #[.pointer (some ⟨g245, 0, none⟩), .int .i64 2] rfl ma ?_; (with_reducible refine (spec_l1Rd_below.calls g245 t243 t256 2 t257 t258 w _ ?side1 ?side2 A25.out).mono ?_); (case side1 => repeat (first | (with_reducible first | exact HI245.out | apply IsS102.alloc | apply IsS102.drewN | apply IsS102.drew | apply IsS102.set_1 | refine IsS102.far ?_ NB245_242.out _ | refine IsS102.far ?_ NB245_251.out _) | exact HI245.out)); (case side2 => repeat (first | (with_reducible first | exact HB.out | apply below_alloc | apply pw_below_drewN | apply below_drew1 | refine below_set ?_ (IsS102.ge HI245.out) | refine below_set ?_ GE242.out | refine below_set ?_ GE251.out) | exact HB.out)); rintro e w28 ⟨rfl, hi, hb, hk⟩; refine ⟨_, rfl, ?_⟩; have n0_ := Aside0.mk (Kd.R_mono (Kd.R_keep (IsS102.apart (show IsS102 w _ g245 t243 t256 from by repeat (first | (with_reducible first | exact HI245.out | apply IsS102.alloc | apply IsS102.drewN | apply IsS102.drew | apply IsS102.set_1 | refine IsS102.far ?_ NB245_242.out _ | refine IsS102.far ?_ NB245_251.out _) | exact HI245.out)) (rl HO_6) (by decide)) hk (fun _ h => h.2)) (fun _ h => h.1)); have n1_ := Aside0.mk (Kd.S_mono (Kd.S_keep (IsS102.apartS (show IsS102 w _ g245 t243 t256 from by repeat (first | (with_reducible first | exact HI245.out | apply IsS102.alloc | apply IsS102.drewN | apply IsS102.drew | apply IsS102.set_1 | refine IsS102.far ?_ NB245_242.out _ | refine IsS102.far ?_ NB245_251.out _) | exact HI245.out)) (sl HO_252001) (by decide)) hk (fun _ h => h.2)) (fun _ h => h.1)); have n2_ := Aside0.mk (KeepBut.blk hk (g' := gb242) (o := .cells #[.int .i64 0, .slice none 0 0] 37 (0, 0)) (bk BK242) NB242_245.out (by simp)); have n3_ := Aside0.mk (KeepBut.blk hk (g' := gb251) (o := .cells #[.int .i64 t246, .slice Ao11 t247.length co11] 37 (0, 0)) (bk BK251) NB251_245.out (by simp)); have n4_ := Aside0.mk (hb); have n5_ := Aside0.mk (hi); clear HO_6; clear HO_252001; clear BK242; clear BK251; clear HB; clear HI245; have HO_6 := n0_; have HO_252001 := n1_; have BK242 := n2_; have BK251 := n3_; have HB := n4_; have HI245 := n5_; clear n0_ n1_ n2_ n3_ n4_ n5_; (try clear hb); (try clear hb2); (try clear hk); (try clear hi)) | ((with_reducible refine gate_builtin (b := .append) (xs := #[.tmp 25, .tmp 32]) rfl ?_); at_builtin; refine Kd.R_append (Kd.int .i64) (w0 := w) w.heap.size rfl (.tmp 25) (.tmp 32) 33 2 (.int .i64 0) 8 rfl Try.underlying33 info2 rfl (by decide) (by omega) u6 x6_1 (wrap64 (x7_1 * (wrap64 (1 - (wrap64 (2 * t257)))))) [.int .i64 (wrap64 (x7_1 * (wrap64 (1 - (wrap64 (2 * t257))))))] (fun _ => True) (fun _ => False) rfl rfl ?aP (fun _ hk => hk.elim) ?aF ?aO ?aB ?aS ?aL ?_; (case aP => exact rfl); (case aB => exact (bs3 HB ⟨IsS102.ge HI245.out⟩ GE242 GE251)); (case aF => exact (fun _ _ => trivial)); (case aO => exact (rl HO_6)); (case aS => exact (below_size (bs3 HB ⟨IsS102.ge HI245.out⟩ GE242 GE251))); (case aL => have := LMc26.out; omega); intro v260 w29 ho hb hg hat; rw [← Ny259.out] at ho; have n0_ := Aside0.mk (Kd.S_after (ok := (fun _ => True)) (by (with_reducible repeat (first | apply Kd.S_alloc | apply Kd.S_drewN | apply Kd.S_drew)); exact Kd.S_mono HO_252001.out (fun _ hk => ⟨trivial, hk⟩)) hg hat); have n1_ := Aside0.mk (blk_grown (g := gb242) (o := .cells #[.int .i64 0, .slice none 0 0] 37 (0, 0)) (bk BK242) hg (Kd.R_ne HO_6.out BK242.out (by decide))); have n2_ := Aside0.mk (blk_grown (g := gb251) (o := .cells #[.int .i64 t246, .slice Ao11 t247.length co11] 37 (0, 0)) (bk BK251) hg (Kd.R_ne HO_6.out BK251.out (by decide))); have n3_ := Aside0.mk (IsS102.grown (by repeat (first | (with_reducible first | exact HI245.out | apply IsS102.alloc | apply IsS102.drewN | apply IsS102.drew | apply IsS102.set_1 | refine IsS102.far ?_ NB245_242.out _ | refine IsS102.far ?_ NB245_251.out _) | exact HI245.out)) hg (IsS102.own_ne HI245.out HO_6.out (by decide))); have n4_ := Aside0.mk (hb); have n5_ := Aside0.mk (ho); clear HO_252001; clear BK242; clear BK251; clear HI245; clear HB; clear HO_6; have HO_252001 := n0_; have BK242 := n1_; have BK251 := n2_; have HI245 := n3_; have HB := n4_; have HO261 := n5_; clear n0_ n1_ n2_ n3_ n4_ n5_; clear ho hb hg hat))
        go_roundg kj13
        case measure => have := HK1.out; have := HJ13.out; omega
        case rel => exact ⟨(y259), (wrap64 (x7_1 + 1)), (t258), au, H', ⟨by have := HK1.out; have := HJ13.out; omega⟩, ⟨rl HO261⟩, ⟨by (with_reducible repeat (first | apply Kd.S_alloc | apply Kd.S_drewN | apply Kd.S_drew)); exact Kd.S_mono HO_252001.out (fun _ hk => hk.2)⟩, ⟨bk BK242⟩, ⟨bk BK251⟩, ⟨by repeat (first | (with_reducible first | exact HI245.out | apply IsS102.alloc | apply IsS102.drewN | apply IsS102.drew | apply IsS102.set_1 | refine IsS102.far ?_ NB245_242.out _ | refine IsS102.far ?_ NB245_251.out _) | exact HI245.out)⟩, ⟨bs3 HB ⟨IsS102.ge HI245.out⟩ GE242 GE251⟩⟩
       ·rw [if_neg c26] at H
        exact absurd H (by simp)
      ·replace c24 := Bool.eq_false_iff.mpr c24
       subst c24
       have H1 : (spec_DrawUnit.l0 kj13 x6_1 (wrap64 (x7_1 + 1)) t243 t256 t246 t247) = some (r1, r2, r3) := by rw [if_neg (show ¬ (false = true) by decide)] at H; exact H
       clear H; have H := H1; clear H1; have H' := Aside0.mk H; clear H
       go_wp2_with (first | ((with_reducible refine gate_callee (f := 57) rfl ?_); refine goesL_ (some 24) rfl rfl Try.func57 (by kernel_rfl) rfl #[.pointer (some ⟨g245, 0, none⟩), .int .i64 4] rfl ma ?_; (with_reducible refine (spec_l1Rd_once.calls g245 t243 x246001_1 4 false t256 w _ ?side1 ?side2 A23.out).mono ?_); (case side1 => repeat (first | (with_reducible first | exact HI245.out | apply IsS102.alloc | apply IsS102.drewN | apply IsS102.drew | apply IsS102.set_1 | refine IsS102.far ?_ NB245_242.out _ | refine IsS102.far ?_ NB245_251.out _) | exact HI245.out)); (case side2 => repeat (first | (with_reducible first | exact HB.out | apply below_alloc | apply pw_below_drewN | apply below_drew1 | refine below_set ?_ (IsS102.ge HI245.out) | refine below_set ?_ GE242.out | refine below_set ?_ GE251.out) | exact HB.out)); rintro e w30 ⟨rfl, hi, hb, hk⟩; refine ⟨_, rfl, ?_⟩; have n0_ := Aside0.mk (Kd.R_mono (Kd.R_keep (IsS102.apart (show IsS102 w _ g245 t243 x246001_1 from by repeat (first | (with_reducible first | exact HI245.out | apply IsS102.alloc | apply IsS102.drewN | apply IsS102.drew | apply IsS102.set_1 | refine IsS102.far ?_ NB245_242.out _ | refine IsS102.far ?_ NB245_251.out _) | exact HI245.out)) (rl HO_6) (by decide)) hk (fun _ h => h.2)) (fun _ h => h.1)); have n1_ := Aside0.mk (Kd.S_mono (Kd.S_keep (IsS102.apartS (show IsS102 w _ g245 t243 x246001_1 from by repeat (first | (with_reducible first | exact HI245.out | apply IsS102.alloc | apply IsS102.drewN | apply IsS102.drew | apply IsS102.set_1 | refine IsS102.far ?_ NB245_242.out _ | refine IsS102.far ?_ NB245_251.out _) | exact HI245.out)) (sl HO_252001) (by decide)) hk (fun _ h => h.2)) (fun _ h => h.1)); have n2_ := Aside0.mk (KeepBut.blk hk (g' := gb242) (o := .cells #[.int .i64 0, .slice none 0 0] 37 (0, 0)) (bk BK242) NB242_245.out (by simp)); have n3_ := Aside0.mk (KeepBut.blk hk (g' := gb251) (o := .cells #[.int .i64 t246, .slice Ao11 t247.length co11] 37 (0, 0)) (bk BK251) NB251_245.out (by simp)); have n4_ := Aside0.mk (hb); have n5_ := Aside0.mk (hi); clear HO_6; clear HO_252001; clear BK242; clear BK251; clear HB; clear HI245; have HO_6 := n0_; have HO_252001 := n1_; have BK242 := n2_; have BK251 := n3_; have HB := n4_; have HI245 := n5_; clear n0_ n1_ n2_ n3_ n4_ n5_; (try clear hb); (try clear hb2); (try clear hk); (try clear hi)))
       go_roundg kj13
       case measure => have := HK1.out; have := HJ13.out; omega
       case rel => exact ⟨(x6_1), (wrap64 (x7_1 + 1)), (t256), au, H', ⟨by have := HK1.out; have := HJ13.out; omega⟩, ⟨rl HO_6⟩, ⟨sl HO_252001⟩, ⟨bk BK242⟩, ⟨bk BK251⟩, ⟨by repeat (first | (with_reducible first | exact HI245.out | apply IsS102.alloc | apply IsS102.drewN | apply IsS102.drew | apply IsS102.set_1 | refine IsS102.far ?_ NB245_242.out _ | refine IsS102.far ?_ NB245_251.out _) | exact HI245.out)⟩, ⟨bs3 HB ⟨IsS102.ge HI245.out⟩ GE242 GE251⟩⟩
     ·replace c22 := Bool.eq_false_iff.mpr c22
      subst c22
      have H1 : ((spec_l1Rd_once.f t243 x246001_1 20).bind fun bt262 => (if bt262.1 = true then ((spec_l1Rd_off.f kj13 t243 bt262.2 (wrap64 (-t246)) t246).bind fun bt264 => (if x6_1.length < 17592186044416 then (some (t246, t247, (x6_1 ++ [bt264.1]))) else (none))) else (some (t246, t247, x6_1)))) = some (r1, r2, r3) := by rw [if_neg (show ¬ (false = true) by decide)] at H; exact H
      clear H; have H := H1; clear H1; replace H := Option.bind_eq_some_iff.mp H; obtain ⟨⟨t262, t263⟩, A310, H⟩ := H; replace H : (if t262 = true then ((spec_l1Rd_off.f kj13 t243 t263 (wrap64 (-t246)) t246).bind fun bt264 => (if x6_1.length < 17592186044416 then (some (t246, t247, (x6_1 ++ [bt264.1]))) else (none))) else (some (t246, t247, x6_1))) = some (r1, r2, r3) := H; have A31 := Aside0.mk A310; clear A310
      by_cases c32 : t262 = true
      ·subst c32
       have H1 : ((spec_l1Rd_off.f kj13 t243 t263 (wrap64 (-t246)) t246).bind fun bt264 => (if x6_1.length < 17592186044416 then (some (t246, t247, (x6_1 ++ [bt264.1]))) else (none))) = some (r1, r2, r3) := by rw [if_pos rfl] at H; exact H
       clear H; have H := H1; clear H1; replace H := Option.bind_eq_some_iff.mp H; obtain ⟨⟨t264, t265⟩, A330, H⟩ := H; replace H : (if x6_1.length < 17592186044416 then (some (t246, t247, (x6_1 ++ [t264]))) else (none)) = some (r1, r2, r3) := H; have A33 := Aside0.mk A330; clear A330
       by_cases c34 : x6_1.length < 17592186044416
       ·rw [if_pos c34] at H
        have LMc34 := Aside0.mk c34; clear c34; obtain ⟨y266, hy266⟩ : ∃ y_ : List Int, y_ = (x6_1 ++ [t264]) := ⟨_, rfl⟩
        replace H : (some (t246, t247, y266)) = some (r1, r2, r3) := by first | (rw [hy266]; with_reducible exact H) | (have H2_ := (Option.bind_some _ _).symm.trans H; rw [hy266]; with_reducible exact H2_) | (have H2_ := (Option.bind_some _ _).symm.trans H; with_reducible exact H2_) | with_reducible exact H | (rw [hy266]; exact H) | exact H
        have Ny266 := Aside0.mk hy266; clear hy266
        simp only [Option.some.injEq, Prod.mk.injEq] at H
        obtain ⟨rfl, rfl, rfl⟩ := H
        go_wp2_with (first | ((with_reducible refine gate_callee (f := 57) rfl ?_); refine goesL_ (some 35) rfl rfl Try.func57 (by kernel_rfl) rfl #[.pointer (some ⟨g245, 0, none⟩), .int .i64 20] rfl ma ?_; (with_reducible refine (spec_l1Rd_once.calls g245 t243 x246001_1 20 true t263 w _ ?side1 ?side2 A31.out).mono ?_); (case side1 => repeat (first | (with_reducible first | exact HI245.out | apply IsS102.alloc | apply IsS102.drewN | apply IsS102.drew | apply IsS102.set_1 | refine IsS102.far ?_ NB245_242.out _ | refine IsS102.far ?_ NB245_251.out _) | exact HI245.out)); (case side2 => repeat (first | (with_reducible first | exact HB.out | apply below_alloc | apply pw_below_drewN | apply below_drew1 | refine below_set ?_ (IsS102.ge HI245.out) | refine below_set ?_ GE242.out | refine below_set ?_ GE251.out) | exact HB.out)); rintro e w35 ⟨rfl, hi, hb, hk⟩; refine ⟨_, rfl, ?_⟩; have n0_ := Aside0.mk (Kd.R_mono (Kd.R_keep (IsS102.apart (show IsS102 w _ g245 t243 x246001_1 from by repeat (first | (with_reducible first | exact HI245.out | apply IsS102.alloc | apply IsS102.drewN | apply IsS102.drew | apply IsS102.set_1 | refine IsS102.far ?_ NB245_242.out _ | refine IsS102.far ?_ NB245_251.out _) | exact HI245.out)) (rl HO_6) (by decide)) hk (fun _ h => h.2)) (fun _ h => h.1)); have n1_ := Aside0.mk (Kd.S_mono (Kd.S_keep (IsS102.apartS (show IsS102 w _ g245 t243 x246001_1 from by repeat (first | (with_reducible first | exact HI245.out | apply IsS102.alloc | apply IsS102.drewN | apply IsS102.drew | apply IsS102.set_1 | refine IsS102.far ?_ NB245_242.out _ | refine IsS102.far ?_ NB245_251.out _) | exact HI245.out)) (sl HO_252001) (by decide)) hk (fun _ h => h.2)) (fun _ h => h.1)); have n2_ := Aside0.mk (KeepBut.blk hk (g' := gb242) (o := .cells #[.int .i64 0, .slice none 0 0] 37 (0, 0)) (bk BK242) NB242_245.out (by simp)); have n3_ := Aside0.mk (KeepBut.blk hk (g' := gb251) (o := .cells #[.int .i64 t246, .slice Ao11 t247.length co11] 37 (0, 0)) (bk BK251) NB251_245.out (by simp)); have n4_ := Aside0.mk (hb); have n5_ := Aside0.mk (hi); clear HO_6; clear HO_252001; clear BK242; clear BK251; clear HB; clear HI245; have HO_6 := n0_; have HO_252001 := n1_; have BK242 := n2_; have BK251 := n3_; have HB := n4_; have HI245 := n5_; clear n0_ n1_ n2_ n3_ n4_ n5_; (try clear hb); (try clear hb2); (try clear hk); (try clear hi); have hnb36 := NB251_242.out; have hnc36 := NB242_251.out; have hnb37 := NB251_245.out; have hnc37 := NB245_251.out; have hcz38_0 : w35.cell? ⟨gb251, 0, none⟩ = some (.int .i64 t246) := (blk_cell BK251.out 0).trans rfl; have hcz38_1 : w35.cell? ⟨gb251, 1, none⟩ = some (.slice Ao11 t247.length co11) := (blk_cell BK251.out 1).trans rfl; have hfz38_0 := blk_frozen BK251.out 0; have hfz38_1 := blk_frozen BK251.out 1) | ((with_reducible refine gate_callee (f := 59) rfl ?_); refine goesL_ (some 43) rfl rfl Try.func59 (by kernel_rfl) rfl #[.pointer (some ⟨g245, 0, none⟩), .int .i64 (wrap64 (-t246)), .int .i64 t246] rfl ma ?_; (with_reducible refine (spec_l1Rd_off.calls kj13 g245 t243 t263 (wrap64 (-t246)) t246 t264 t265 w _ ?side1 ?side2 A33.out).mono ?_); (case side1 => repeat (first | (with_reducible first | exact HI245.out | apply IsS102.alloc | apply IsS102.drewN | apply IsS102.drew | apply IsS102.set_1 | refine IsS102.far ?_ NB245_242.out _ | refine IsS102.far ?_ NB245_251.out _) | exact HI245.out)); (case side2 => repeat (first | (with_reducible first | exact HB.out | apply below_alloc | apply pw_below_drewN | apply below_drew1 | refine below_set ?_ (IsS102.ge HI245.out) | refine below_set ?_ GE242.out | refine below_set ?_ GE251.out) | exact HB.out)); rintro e w39 ⟨rfl, hi, hb, hk⟩; refine ⟨_, rfl, ?_⟩; have n0_ := Aside0.mk (Kd.R_mono (Kd.R_keep (IsS102.apart (show IsS102 w _ g245 t243 t263 from by repeat (first | (with_reducible first | exact HI245.out | apply IsS102.alloc | apply IsS102.drewN | apply IsS102.drew | apply IsS102.set_1 | refine IsS102.far ?_ NB245_242.out _ | refine IsS102.far ?_ NB245_251.out _) | exact HI245.out)) (rl HO_6) (by decide)) hk (fun _ h => h.2)) (fun _ h => h.1)); have n1_ := Aside0.mk (Kd.S_mono (Kd.S_keep (IsS102.apartS (show IsS102 w _ g245 t243 t263 from by repeat (first | (with_reducible first | exact HI245.out | apply IsS102.alloc | apply IsS102.drewN | apply IsS102.drew | apply IsS102.set_1 | refine IsS102.far ?_ NB245_242.out _ | refine IsS102.far ?_ NB245_251.out _) | exact HI245.out)) (sl HO_252001) (by decide)) hk (fun _ h => h.2)) (fun _ h => h.1)); have n2_ := Aside0.mk (KeepBut.blk hk (g' := gb242) (o := .cells #[.int .i64 0, .slice none 0 0] 37 (0, 0)) (bk BK242) NB242_245.out (by simp)); have n3_ := Aside0.mk (KeepBut.blk hk (g' := gb251) (o := .cells #[.int .i64 t246, .slice Ao11 t247.length co11] 37 (0, 0)) (bk BK251) NB251_245.out (by simp)); have n4_ := Aside0.mk (hb); have n5_ := Aside0.mk (hi); clear HO_6; clear HO_252001; clear BK242; clear BK251; clear HB; clear HI245; have HO_6 := n0_; have HO_252001 := n1_; have BK242 := n2_; have BK251 := n3_; have HB := n4_; have HI245 := n5_; clear n0_ n1_ n2_ n3_ n4_ n5_; (try clear hb); (try clear hb2); (try clear hk); (try clear hi)) | ((with_reducible refine gate_builtin (b := .append) (xs := #[.tmp 36, .tmp 44]) rfl ?_); at_builtin; refine Kd.R_append (Kd.int .i64) (w0 := w) w.heap.size rfl (.tmp 36) (.tmp 44) 33 2 (.int .i64 0) 8 rfl Try.underlying33 info2 rfl (by decide) (by omega) u6 x6_1 t264 [.int .i64 t264] (fun _ => True) (fun _ => False) rfl rfl ?aP (fun _ hk => hk.elim) ?aF ?aO ?aB ?aS ?aL ?_; (case aP => exact rfl); (case aB => exact (bs3 HB ⟨IsS102.ge HI245.out⟩ GE242 GE251)); (case aF => exact (fun _ _ => trivial)); (case aO => exact (rl HO_6)); (case aS => exact (below_size (bs3 HB ⟨IsS102.ge HI245.out⟩ GE242 GE251))); (case aL => have := LMc34.out; omega); intro v267 w40 ho hb hg hat; rw [← Ny266.out] at ho; have n0_ := Aside0.mk (Kd.S_after (ok := (fun _ => True)) (by (with_reducible repeat (first | apply Kd.S_alloc | apply Kd.S_drewN | apply Kd.S_drew)); exact Kd.S_mono HO_252001.out (fun _ hk => ⟨trivial, hk⟩)) hg hat); have n1_ := Aside0.mk (blk_grown (g := gb242) (o := .cells #[.int .i64 0, .slice none 0 0] 37 (0, 0)) (bk BK242) hg (Kd.R_ne HO_6.out BK242.out (by decide))); have n2_ := Aside0.mk (blk_grown (g := gb251) (o := .cells #[.int .i64 t246, .slice Ao11 t247.length co11] 37 (0, 0)) (bk BK251) hg (Kd.R_ne HO_6.out BK251.out (by decide))); have n3_ := Aside0.mk (IsS102.grown (by repeat (first | (with_reducible first | exact HI245.out | apply IsS102.alloc | apply IsS102.drewN | apply IsS102.drew | apply IsS102.set_1 | refine IsS102.far ?_ NB245_242.out _ | refine IsS102.far ?_ NB245_251.out _) | exact HI245.out)) hg (IsS102.own_ne HI245.out HO_6.out (by decide))); have n4_ := Aside0.mk (hb); have n5_ := Aside0.mk (ho); clear HO_252001; clear BK242; clear BK251; clear HI245; clear HB; clear HO_6; have HO_252001 := n0_; have BK242 := n1_; have BK251 := n2_; have HI245 := n3_; have HB := n4_; have HO268 := n5_; clear n0_ n1_ n2_ n3_ n4_ n5_; clear ho hb hg hat; have hcz41_0 : w40.cell? ⟨gb251, 0, none⟩ = some (.int .i64 t246) := (blk_cell BK251.out 0).trans rfl; have hcz41_1 : w40.cell? ⟨gb251, 1, none⟩ = some (.slice Ao11 t247.length co11) := (blk_cell BK251.out 1).trans rfl; have hfz41_0 := blk_frozen BK251.out 0; have hfz41_1 := blk_frozen BK251.out 1; have hnb42 := NB242_245.out; have hnc42 := NB245_242.out; have hcz43_0 : w40.cell? ⟨gb242, 0, none⟩ = some (.int .i64 0) := (blk_cell BK242.out 0).trans rfl; have hcz43_1 : w40.cell? ⟨gb242, 1, none⟩ = some (.slice none 0 0) := (blk_cell BK242.out 1).trans rfl; have hfz43_0 := blk_frozen BK242.out 0; have hfz43_1 := blk_frozen BK242.out 1))
        refine bodyPost_ret (results_ct rfl _ _ gb242 37 #[.int .i64 t246, .slice Ao11 t247.length co11] (0, 0) _ rfl (by refine bd ?_; refine blk_put (cs := #[.int .i64 t246, .slice none 0 0]) ?_ 1 _ rfl; refine bd ?_; refine blk_put (cs := #[.int .i64 0, .slice none 0 0]) ?_ 0 _ rfl; (with_reducible repeat (first | refine blk_drewN ?_ _ | refine blk_drew ?_ | refine blk_alloc ?_ _)); exact BK242.out) Try.underlying37 rfl (by kernel_rfl)) rfl ?_
        exact ⟨_, _, by first | rfl | (simp [errW_none, errW_some] <;> rfl) | (simp [*, errW_none, errW_some] <;> rfl), by (with_reducible repeat (first | apply Kd.S_alloc | apply Kd.S_drewN | apply Kd.S_drew)); exact Kd.S_mono (Kd.S_far (p := ⟨gb242, 1, none⟩) (Kd.S_far (p := ⟨gb242, 0, none⟩) (Kd.S_types HO_252001.out BK242.out (by decide)) (fun _ hk => hk.2) (.int .i64 t246)) (fun _ hk => hk.2) (.slice Ao11 t247.length co11)) (fun _ hk => hk.1.2), by (with_reducible repeat (first | apply Kd.R_alloc | apply Kd.R_drewN | apply Kd.R_drew)); exact Kd.R_mono (Kd.R_far (p := ⟨gb242, 1, none⟩) (Kd.R_far (p := ⟨gb242, 0, none⟩) (Kd.R_types HO268.out BK242.out (by decide)) (fun _ hk => hk.2) (.int .i64 t246)) (fun _ hk => hk.2) (.slice Ao11 t247.length co11)) (fun _ hk => trivial), bs3 HB ⟨IsS102.ge HI245.out⟩ GE242 GE251⟩
       ·rw [if_neg c34] at H
        exact absurd H (by simp)
      ·replace c32 := Bool.eq_false_iff.mpr c32
       subst c32
       have H1 : (some (t246, t247, x6_1)) = some (r1, r2, r3) := by rw [if_neg (show ¬ (false = true) by decide)] at H; exact H
       clear H; have H := H1; clear H1
       simp only [Option.some.injEq, Prod.mk.injEq] at H
       obtain ⟨rfl, rfl, rfl⟩ := H
       go_wp2_with (first | ((with_reducible refine gate_callee (f := 57) rfl ?_); refine goesL_ (some 35) rfl rfl Try.func57 (by kernel_rfl) rfl #[.pointer (some ⟨g245, 0, none⟩), .int .i64 20] rfl ma ?_; (with_reducible refine (spec_l1Rd_once.calls g245 t243 x246001_1 20 false t263 w _ ?side1 ?side2 A31.out).mono ?_); (case side1 => repeat (first | (with_reducible first | exact HI245.out | apply IsS102.alloc | apply IsS102.drewN | apply IsS102.drew | apply IsS102.set_1 | refine IsS102.far ?_ NB245_242.out _ | refine IsS102.far ?_ NB245_251.out _) | exact HI245.out)); (case side2 => repeat (first | (with_reducible first | exact HB.out | apply below_alloc | apply pw_below_drewN | apply below_drew1 | refine below_set ?_ (IsS102.ge HI245.out) | refine below_set ?_ GE242.out | refine below_set ?_ GE251.out) | exact HB.out)); rintro e w44 ⟨rfl, hi, hb, hk⟩; refine ⟨_, rfl, ?_⟩; have n0_ := Aside0.mk (Kd.R_mono (Kd.R_keep (IsS102.apart (show IsS102 w _ g245 t243 x246001_1 from by repeat (first | (with_reducible first | exact HI245.out | apply IsS102.alloc | apply IsS102.drewN | apply IsS102.drew | apply IsS102.set_1 | refine IsS102.far ?_ NB245_242.out _ | refine IsS102.far ?_ NB245_251.out _) | exact HI245.out)) (rl HO_6) (by decide)) hk (fun _ h => h.2)) (fun _ h => h.1)); have n1_ := Aside0.mk (Kd.S_mono (Kd.S_keep (IsS102.apartS (show IsS102 w _ g245 t243 x246001_1 from by repeat (first | (with_reducible first | exact HI245.out | apply IsS102.alloc | apply IsS102.drewN | apply IsS102.drew | apply IsS102.set_1 | refine IsS102.far ?_ NB245_242.out _ | refine IsS102.far ?_ NB245_251.out _) | exact HI245.out)) (sl HO_252001) (by decide)) hk (fun _ h => h.2)) (fun _ h => h.1)); have n2_ := Aside0.mk (KeepBut.blk hk (g' := gb242) (o := .cells #[.int .i64 0, .slice none 0 0] 37 (0, 0)) (bk BK242) NB242_245.out (by simp)); have n3_ := Aside0.mk (KeepBut.blk hk (g' := gb251) (o := .cells #[.int .i64 t246, .slice Ao11 t247.length co11] 37 (0, 0)) (bk BK251) NB251_245.out (by simp)); have n4_ := Aside0.mk (hb); have n5_ := Aside0.mk (hi); clear HO_6; clear HO_252001; clear BK242; clear BK251; clear HB; clear HI245; have HO_6 := n0_; have HO_252001 := n1_; have BK242 := n2_; have BK251 := n3_; have HB := n4_; have HI245 := n5_; clear n0_ n1_ n2_ n3_ n4_ n5_; (try clear hb); (try clear hb2); (try clear hk); (try clear hi); have hnb45 := NB251_242.out; have hnc45 := NB242_251.out; have hnb46 := NB251_245.out; have hnc46 := NB245_251.out; have hcz47_0 : w44.cell? ⟨gb251, 0, none⟩ = some (.int .i64 t246) := (blk_cell BK251.out 0).trans rfl; have hcz47_1 : w44.cell? ⟨gb251, 1, none⟩ = some (.slice Ao11 t247.length co11) := (blk_cell BK251.out 1).trans rfl; have hfz47_0 := blk_frozen BK251.out 0; have hfz47_1 := blk_frozen BK251.out 1; have hnb48 := NB242_245.out; have hnc48 := NB245_242.out; have hcz49_0 : w44.cell? ⟨gb242, 0, none⟩ = some (.int .i64 0) := (blk_cell BK242.out 0).trans rfl; have hcz49_1 : w44.cell? ⟨gb242, 1, none⟩ = some (.slice none 0 0) := (blk_cell BK242.out 1).trans rfl; have hfz49_0 := blk_frozen BK242.out 0; have hfz49_1 := blk_frozen BK242.out 1))
       refine bodyPost_ret (results_ct rfl _ _ gb242 37 #[.int .i64 t246, .slice Ao11 t247.length co11] (0, 0) _ rfl (by refine bd ?_; refine blk_put (cs := #[.int .i64 t246, .slice none 0 0]) ?_ 1 _ rfl; refine bd ?_; refine blk_put (cs := #[.int .i64 0, .slice none 0 0]) ?_ 0 _ rfl; (with_reducible repeat (first | refine blk_drewN ?_ _ | refine blk_drew ?_ | refine blk_alloc ?_ _)); exact BK242.out) Try.underlying37 rfl (by kernel_rfl)) rfl ?_
       exact ⟨_, _, by first | rfl | (simp [errW_none, errW_some] <;> rfl) | (simp [*, errW_none, errW_some] <;> rfl), by (with_reducible repeat (first | apply Kd.S_alloc | apply Kd.S_drewN | apply Kd.S_drew)); exact Kd.S_mono (Kd.S_far (p := ⟨gb242, 1, none⟩) (Kd.S_far (p := ⟨gb242, 0, none⟩) (Kd.S_types HO_252001.out BK242.out (by decide)) (fun _ hk => hk.2) (.int .i64 t246)) (fun _ hk => hk.2) (.slice Ao11 t247.length co11)) (fun _ hk => hk.1), by (with_reducible repeat (first | apply Kd.R_alloc | apply Kd.R_drewN | apply Kd.R_drew)); exact Kd.R_mono (Kd.R_far (p := ⟨gb242, 1, none⟩) (Kd.R_far (p := ⟨gb242, 0, none⟩) (Kd.R_types HO_6.out BK242.out (by decide)) (fun _ hk => hk.2) (.int .i64 t246)) (fun _ hk => hk.2) (.slice Ao11 t247.length co11)) (fun _ hk => trivial), bs3 HB ⟨IsS102.ge HI245.out⟩ GE242 GE251⟩

/-! ### laws_sameInts: function 25 -/
def laws_sameInts.l0 : Nat → List Int → List Int → Int → Option (Bool)
 | 0, _, _, _ => none
 | k + 1, x0, x1, x5 => if x5 < (x0.length : Int) then (if 0 ≤ x5 then (if x5 < (x1.length : Int) then (if (rd x0 x5) = (rd x1 x5) then (laws_sameInts.l0 k x0 x1 (wrap64 (x5 + 1))) else (some false)) else (none)) else (none)) else (some true)
def laws_sameInts.f (k : Nat) (l0 : List Int) (l1 : List Int) : Option (Bool) := if (l0.length : Int) = (l1.length : Int) then (laws_sameInts.l0 k l0 l1 0) else (some false)
set_option maxHeartbeats 8000000 in
set_option maxRecDepth 100000 in
theorem laws_sameInts.calls (k : Nat) (A0 : Option Addr) (c0 : Nat) (l0 : List Int) (A1 : Option Addr) (c1 : Nat) (l1 : List Int) (r : Bool) (w : World) (hr0 : Kd.C (Kd.int .i64) w A0 l0.length l0) (hc0 : l0.length ≤ c0) (hr1 : Kd.C (Kd.int .i64) w A1 l1.length l1) (hc1 : l1.length ≤ c1) (h : laws_sameInts.f k l0 l1 = some r) :
  Calls Try.prog 25 #[.slice A0 l0.length c0, .slice A1 l1.length c1] w fun e w' => e = .returned (.bool r) ∧ Drawn0 w w' := by
 have HR0 := Aside0.mk hr0; have HC0 := Aside0.mk hc0; clear hr0 hc0; have HR1 := Aside0.mk hr1; have HC1 := Aside0.mk hc1; clear hr1 hc1; have H : (if (l0.length : Int) = (l1.length : Int) then (laws_sameInts.l0 k l0 l1 0) else (some false)) = some r := h; clear h
 by_cases c3 : (l0.length : Int) = (l1.length : Int)
 ·rw [if_pos c3] at H
  have c3b0 : ((l0.length : Int) == (l1.length : Int)) = true := beq_iff_eq.mpr c3; have c3b1 : ((l0.length : Int) != (l1.length : Int)) = false := bne_eq_false_iff_eq.mpr c3
  have c3b2 : (l0.length == l1.length) = true := by first | simpa using c3 | (simp at c3 ⊢; omega)
  clear c3; have H' := Aside0.mk H; clear H
  go_enter Try.func25, Try.ntmps25
  go_wp2
  repeat (go_quiet (fail); try go_wp2)
  go_loopg [5] k (fun kq v5 w' => ∃ (x5_1 : Int), v5 = .int .i64 x5_1 ∧ Aside0 (laws_sameInts.l0 kq l0 l1 x5_1 = some r) ∧ Aside0 (kq ≤ k) ∧ Drawn0 w w')
  case atStart => exact ⟨(0), au, H', ⟨Nat.le_refl _⟩, dr⟩
  case round =>
   clear H'
   try clear c1
   try clear c2
   try clear p2
   try clear c3
   try clear c3b0
   try clear c3b1
   try clear c3b2
   obtain ⟨x5_1, rfl, HA, HK1, ⟨m1, rfl⟩⟩ := hrel
   cases gk with
   | zero => exact absurd HA.out (by simp [laws_sameInts.l0])
   | succ k1 =>
    have H := HA.out; clear HA
    simp only [laws_sameInts.l0] at H
    by_cases c4 : x5_1 < (l0.length : Int)
    ·rw [if_pos c4] at H
     have c4b0 : decide (x5_1 < (l0.length : Int)) = true := decide_eq_true c4; clear c4
     by_cases c5 : 0 ≤ x5_1
     ·rw [if_pos c5] at H
      have c5b0 : decide (0 ≤ x5_1) = true := decide_eq_true c5; clear c5
      by_cases c6 : x5_1 < (l1.length : Int)
      ·rw [if_pos c6] at H
       have c6b0 : decide (x5_1 < (l1.length : Int)) = true := decide_eq_true c6; clear c6
       by_cases c7 : (rd l0 x5_1) = (rd l1 x5_1)
       ·rw [if_pos c7] at H
        have c7b0 : ((rd l0 x5_1) == (rd l1 x5_1)) = true := beq_iff_eq.mpr c7; have c7b1 : ((rd l0 x5_1) != (rd l1 x5_1)) = false := bne_eq_false_iff_eq.mpr c7; clear c7; have H' := Aside0.mk H; clear H; have p269 : 0 ≤ (x5_1 : Int) := ode; have q269 : x5_1 < (l0.length : Int) := ode; obtain ⟨ad269, e269, hx269_0⟩ := Kd.at_int HR0.out x5_1 p269 q269
        cases e269
        replace p269 := eq_true p269; replace q269 := eq_true q269; have p270 : 0 ≤ (x5_1 : Int) := ode; have q270 : x5_1 < (l1.length : Int) := ode; obtain ⟨ad270, e270, hx270_0⟩ := Kd.at_int HR1.out x5_1 p270 q270
        cases e270
        replace p270 := eq_true p270; replace q270 := eq_true q270
        go_wp2
        repeat (go_quiet (fail); try go_wp2)
        go_roundg k1
        case measure => have := HK1.out; omega
        case rel => exact ⟨(wrap64 (x5_1 + 1)), au, H', ⟨by have := HK1.out; omega⟩, dr⟩
       ·rw [if_neg c7] at H
        have c7b0 : ((rd l0 x5_1) == (rd l1 x5_1)) = false := beq_eq_false_iff_ne.mpr c7; have c7b1 : ((rd l0 x5_1) != (rd l1 x5_1)) = true := bne_iff_ne.mpr c7; obtain rfl := Option.some.inj H; have p269 : 0 ≤ (x5_1 : Int) := ode; have q269 : x5_1 < (l0.length : Int) := ode; obtain ⟨ad269, e269, hx269_0⟩ := Kd.at_int HR0.out x5_1 p269 q269
        cases e269
        replace p269 := eq_true p269; replace q269 := eq_true q269; have p270 : 0 ≤ (x5_1 : Int) := ode; have q270 : x5_1 < (l1.length : Int) := ode; obtain ⟨ad270, e270, hx270_0⟩ := Kd.at_int HR1.out x5_1 p270 q270
        cases e270
        replace p270 := eq_true p270; replace q270 := eq_true q270
        go_wp2
        repeat (go_quiet (fail); try go_wp2)
        go_ret
        exact ⟨au, dr⟩
      ·rw [if_neg c6] at H
       exact absurd H (by simp)
     ·rw [if_neg c5] at H
      exact absurd H (by simp)
    ·rw [if_neg c4] at H
     have c4b0 : decide (x5_1 < (l0.length : Int)) = false := decide_eq_false c4; clear c4; obtain rfl := Option.some.inj H
     go_wp2
     repeat (go_quiet (fail); try go_wp2)
     go_ret
     exact ⟨au, dr⟩
 ·rw [if_neg c3] at H
  have c3b0 : ((l0.length : Int) == (l1.length : Int)) = false := beq_eq_false_iff_ne.mpr c3; have c3b1 : ((l0.length : Int) != (l1.length : Int)) = true := bne_iff_ne.mpr c3
  have c3b2 : (l0.length == l1.length) = false := by first | simpa using c3 | (simp at c3 ⊢; omega)
  obtain rfl := Option.some.inj H
  go_enter Try.func25, Try.ntmps25
  go_wp2
  repeat (go_quiet (fail); try go_wp2)
  go_ret
  exact ⟨au, dr⟩

/-! ### impl_Meets: function 27 -/

def impl_Meets.q (on : List Bool) (n : Int) : Option Bool := if 0 ≤ wrap64 (mx n (wrap64 (-n)) - 1) ∧ wrap64 (mx n (wrap64 (-n)) - 1) < (on.length : Int) then some ((rdOf false on (wrap64 (mx n (wrap64 (-n)) - 1))) == (decide (n > 0))) else none
def impl_Meets.p (on : List Bool) (x : List Int) : Option Bool := (idxG (impl_Meets.q on) x 0).bind fun v => some (!decide (0 ≤ v))
def impl_Meets.f (k : Nat) (a0_0 : Int) (l0_1 : List (List Int)) (l1 : List Bool) : Option (Bool) := (impl_CnfOk.f k a0_0 l0_1).bind fun t => if t = true then (if (l1.length : Int) ≠ a0_0 then some false else (idxG (impl_Meets.p l1) l0_1 0).bind fun v => some (!decide (0 ≤ v))) else some false

set_option maxHeartbeats 2000000 in
set_option maxRecDepth 100000 in
theorem impl_Meets.so (on : List Bool) (AO : Option Addr) (cO : Nat) (n : Int) (t : Bool) (gb : Nat) (w : World) (hc : w.cell? ⟨gb, 0, none⟩ = some (.slice AO on.length cO)) (hr : Kd.C Kd.bool w AO on.length on) (h : impl_Meets.q on n = some t) :
  Calls Try.prog 61 #[.int .i64 n, .pointer (some ⟨gb, 0, none⟩)] w fun e w' => e = .returned (.bool t) ∧ Below w.heap.size w w' := by
 have hlt : gb < w.heap.size := World.block_lt_of_cell? w ⟨gb, 0, none⟩ hc; have hmax := Kd.C_max hr
 unfold impl_Meets.q at h
 obtain ⟨m, hm⟩ : ∃ m, mx n (wrap64 (-n)) = m := ⟨_, rfl⟩; obtain ⟨j, hj⟩ : ∃ j, wrap64 (m - 1) = j := ⟨_, rfl⟩; rw [hm, hj] at h; have hm_ : (if n < wrap64 (-n) then wrap64 (-n) else n) = m := hm; have hjw : IntKind.i64.wrap (m - 1) = j := (i64_w _).trans hj
 by_cases c : 0 ≤ j ∧ j < (on.length : Int)
 ·rw [if_pos c] at h
  obtain rfl := Option.some.inj h; clear h; obtain ⟨p, q⟩ := c; obtain ⟨ad, e, hx⟩ := Kd.at_bool hr j p q
  cases e
  clear hr; replace p := eq_true p; replace q := eq_true q
  go_enter Try.func61, Try.ntmps61
  go_wp2
  go_ret
  exact ⟨by first | rfl | (simp [*]; done), by (repeat (first | apply pw_below_drewN | apply below_alloc)); exact Below.refl _ _⟩
 ·rw [if_neg c] at h
  cases h

set_option maxHeartbeats 2000000 in
set_option maxRecDepth 100000 in
theorem impl_Meets.idx1 (A0 : Option Addr) (c0 : Nat) (l0 : List Int) (on : List Bool) (AO : Option Addr) (cO : Nat) (gb : Nat) (v : Int) (w : World) (hc : w.cell? ⟨gb, 0, none⟩ = some (.slice AO on.length cO)) (hon : Kd.C Kd.bool w AO on.length on) (hr0 : Kd.C (Kd.int .i64) w A0 l0.length l0) (h : idxG (impl_Meets.q on) l0 0 = some v) :
  Calls Try.prog 80 #[.slice A0 l0.length c0, .func (.func 61) #[] #[.pointer (some ⟨gb, 0, none⟩)]] w fun e w' => e = .returned (.int .i64 v) ∧ Below w.heap.size w w' := by
 have hlt : gb < w.heap.size := World.block_lt_of_cell? w ⟨gb, 0, none⟩ hc; have HC := Aside0.mk hc; have HO := Aside0.mk hon; clear hc hon; have hmax := Kd.C_max hr0; have HR0 := Aside0.mk hr0; have HS := Aside0.mk h; clear hr0 h; have eg : ∀ (args : Array Value) (w : World), (callFunc 61 args).run Try.prog w = .ok (.enter 61 args) w := enters_of Try.func61 (by kernel_rfl) rfl
 go_enter Try.func80, Try.ntmps80
 go_wp2
 go_loopg [5, 8] l0.length (fun gg _ s8 wr => ∃ kk : Nat, kk ≤ l0.length ∧ l0.length - kk ≤ gg ∧ s8 = .int .i64 kk ∧ Aside0 (Below w.heap.size w wr) ∧ Aside0 (idxG (impl_Meets.q on) (l0.drop kk) kk = some v))
 case atStart => exact ⟨0, Nat.zero_le _, by omega, rfl, ⟨Below.refl _ w⟩, ⟨HS.out⟩⟩
 case round =>
  obtain ⟨kk, hkk, hg, rfl, HB, HE⟩ := hrel
  by_cases hlt2 : kk < l0.length
  ·have hltz : (kk : Int) < (l0.length : Int) := by omega
   obtain ⟨ad, e0, hx0⟩ := Kd.at_int HR0.out (kk : Int) (by omega) hltz
   cases e0
   replace hx0 := cl HB hx0; rw [Int.toNat_natCast] at hx0; have hcc := (HB.out.cell (p := ⟨gb, 0, none⟩) hlt).trans HC.out; obtain ⟨t, ht, h1, h2⟩ := idxG_drop (impl_Meets.q on) l0 kk hlt2 0 v HE.out
   have ht' : impl_Meets.q on (rd l0 (kk : Int)) = some t := by rw [← ht]; rfl
   have hcall := impl_Meets.so on AO cO (rd l0 (kk : Int)) t gb wr hcc (Kd.C_below HO.out HB.out) ht'; clear hcc ht ht'
   cases t with
   | true =>
    have HV := Aside0.mk (h1 rfl); clear h1 h2
    go_wp2_with (go_at_fn 61; refine hcall.mono ?_; rintro e w' ⟨rfl, hb'⟩)
    go_ret
    exact ⟨by rw [HV.out]; rfl, below_step HB.out hb'⟩
   | false =>
    have HV := Aside0.mk (h2 rfl); clear h1 h2
    go_wp2_with (go_at_fn 61; refine hcall.mono ?_; rintro e w' ⟨rfl, hb'⟩)
    go_roundg (l0.length - (kk + 1))
    case measure => omega
    case rel => exact ⟨kk + 1, by omega, by omega, by go_num, ⟨below_step HB.out hb'⟩, ⟨HV.out⟩⟩
  ·have hltz : ¬ (kk : Int) < (l0.length : Int) := by omega
   have hk : kk = l0.length := by omega
   have hv : v = -1 := by
    have := HE.out; rw [List.drop_eq_nil_of_le (by omega)] at this
    simp only [idxG] at this
    exact (Option.some.inj this).symm
   subst hv
   go_wp2
   go_ret
   exact ⟨rfl, HB.out⟩

set_option maxHeartbeats 2000000 in
set_option maxRecDepth 100000 in
theorem impl_Meets.has1 (A0 : Option Addr) (c0 : Nat) (l0 : List Int) (on : List Bool) (AO : Option Addr) (cO : Nat) (gb : Nat) (v : Int) (w : World) (hc : w.cell? ⟨gb, 0, none⟩ = some (.slice AO on.length cO)) (hon : Kd.C Kd.bool w AO on.length on) (hr0 : Kd.C (Kd.int .i64) w A0 l0.length l0) (h : idxG (impl_Meets.q on) l0 0 = some v) :
  Calls Try.prog 64 #[.slice A0 l0.length c0, .func (.func 61) #[] #[.pointer (some ⟨gb, 0, none⟩)]] w fun e w' => e = .returned (.bool (decide (0 ≤ v))) ∧ Below w.heap.size w w' := by
 have hidx := impl_Meets.idx1 A0 c0 l0 on AO cO gb v w hc hon hr0 h; have hb1 := idxG_bound _ l0 0 v (by omega) h; have hmax := Kd.C_max hr0; clear hc hon hr0 h
 go_enter Try.func64, Try.ntmps64
 go_wp2_with (first | (go_at_call 80; refine hidx.mono ?_; rintro e w' ⟨rfl, hb⟩))
 go_ret
 exact ⟨rfl, hb⟩

set_option maxHeartbeats 2000000 in
set_option maxRecDepth 100000 in
theorem impl_Meets.clo (on : List Bool) (AO : Option Addr) (cO : Nat) (A : Option Addr) (c : Nat) (x : List Int) (t : Bool) (gO gb : Nat) (w : World) (hc : w.cell? ⟨gb, 0, none⟩ = some (.func (.func 61) #[] #[.pointer (some ⟨gO, 0, none⟩)])) (ho : w.cell? ⟨gO, 0, none⟩ = some (.slice AO on.length cO)) (hon : Kd.C Kd.bool w AO on.length on) (hr : Kd.C (Kd.int .i64) w A x.length x) (h : impl_Meets.p on x = some t) :
  Calls Try.prog 63 #[.slice A x.length c, .pointer (some ⟨gb, 0, none⟩)] w fun e w' => e = .returned (.bool t) ∧ Below w.heap.size w w' := by
 have hlt : gb < w.heap.size := World.block_lt_of_cell? w ⟨gb, 0, none⟩ hc
 unfold impl_Meets.p at h
 obtain ⟨v, hv, h⟩ := Option.bind_eq_some_iff.mp h; obtain rfl := Option.some.inj h; have hcall := impl_Meets.has1 A c x on AO cO gO v w ho hon hr hv; clear hr hv h ho hon
 go_enter Try.func63, Try.ntmps63
 go_wp2_with (first | (go_at_call 64; refine hcall.mono ?_; rintro e w' ⟨rfl, hb⟩))
 go_ret
 exact ⟨rfl, hb⟩

set_option maxHeartbeats 2000000 in
set_option maxRecDepth 100000 in
theorem impl_Meets.idx (A0 : Option Addr) (c0 : Nat) (l0 : List (List Int)) (on : List Bool) (AO : Option Addr) (cO : Nat) (gO gb : Nat) (v : Int) (w : World) (hc : w.cell? ⟨gb, 0, none⟩ = some (.func (.func 61) #[] #[.pointer (some ⟨gO, 0, none⟩)])) (ho : w.cell? ⟨gO, 0, none⟩ = some (.slice AO on.length cO)) (hon : Kd.C Kd.bool w AO on.length on) (hr0 : Kd.C (Kd.slice 2 (Kd.int .i64)) w A0 l0.length l0) (h : idxG (impl_Meets.p on) l0 0 = some v) :
  Calls Try.prog 79 #[.slice A0 l0.length c0, .func (.func 63) #[] #[.pointer (some ⟨gb, 0, none⟩)]] w fun e w' => e = .returned (.int .i64 v) ∧ Below w.heap.size w w' := by
 have hlt : gb < w.heap.size := World.block_lt_of_cell? w ⟨gb, 0, none⟩ hc; have hltO : gO < w.heap.size := World.block_lt_of_cell? w ⟨gO, 0, none⟩ ho; have HC := Aside0.mk hc; have HG := Aside0.mk ho; have HO := Aside0.mk hon; clear hc ho hon; have hmax := Kd.C_max hr0; have HR0 := Aside0.mk hr0; have HS := Aside0.mk h; clear hr0 h; have eg : ∀ (args : Array Value) (w : World), (callFunc 63 args).run Try.prog w = .ok (.enter 63 args) w := enters_of Try.func63 (by kernel_rfl) rfl
 go_enter Try.func79, Try.ntmps79
 go_wp2
 go_loopg [5, 8] l0.length (fun gg _ s8 wr => ∃ kk : Nat, kk ≤ l0.length ∧ l0.length - kk ≤ gg ∧ s8 = .int .i64 kk ∧ Aside0 (Below w.heap.size w wr) ∧ Aside0 (idxG (impl_Meets.p on) (l0.drop kk) kk = some v))
 case atStart => exact ⟨0, Nat.zero_le _, by omega, rfl, ⟨Below.refl _ w⟩, ⟨HS.out⟩⟩
 case round =>
  obtain ⟨kk, hkk, hg, rfl, HB, HE⟩ := hrel
  by_cases hlt2 : kk < l0.length
  ·have hltz : (kk : Int) < (l0.length : Int) := by omega
   obtain ⟨ad, A1, c1, e0, hx0, hl0, hi0⟩ := at_L1 HR0.out (kk : Int) (by omega) hltz
   cases e0
   replace hx0 := cl HB hx0; rw [Int.toNat_natCast] at hx0; have hcc := (HB.out.cell (p := ⟨gb, 0, none⟩) hlt).trans HC.out; have hco := (HB.out.cell (p := ⟨gO, 0, none⟩) hltO).trans HG.out; obtain ⟨t, ht, h1, h2⟩ := idxG_drop (impl_Meets.p on) l0 kk hlt2 [] v HE.out
   have ht' : impl_Meets.p on (rd_L1 l0 (kk : Int)) = some t := by rw [← ht]; rfl
   have hcall := impl_Meets.clo on AO cO A1 c1 (rd_L1 l0 (kk : Int)) t gO gb wr hcc hco (Kd.C_below HO.out HB.out) (Kd.C_below hi0 HB.out) ht'; clear hcc hco ht ht' hi0
   cases t with
   | true =>
    have HV := Aside0.mk (h1 rfl); clear h1 h2
    go_wp2_with (go_at_fn 63; refine hcall.mono ?_; rintro e w' ⟨rfl, hb'⟩)
    go_ret
    exact ⟨by rw [HV.out]; rfl, below_step HB.out hb'⟩
   | false =>
    have HV := Aside0.mk (h2 rfl); clear h1 h2
    go_wp2_with (go_at_fn 63; refine hcall.mono ?_; rintro e w' ⟨rfl, hb'⟩)
    go_roundg (l0.length - (kk + 1))
    case measure => omega
    case rel => exact ⟨kk + 1, by omega, by omega, by go_num, ⟨below_step HB.out hb'⟩, ⟨HV.out⟩⟩
  ·have hltz : ¬ (kk : Int) < (l0.length : Int) := by omega
   have hk : kk = l0.length := by omega
   have hv : v = -1 := by
    have := HE.out; rw [List.drop_eq_nil_of_le (by omega)] at this
    simp only [idxG] at this
    exact (Option.some.inj this).symm
   subst hv
   go_wp2
   go_ret
   exact ⟨rfl, HB.out⟩

set_option maxHeartbeats 2000000 in
set_option maxRecDepth 100000 in
theorem impl_Meets.has (A0 : Option Addr) (c0 : Nat) (l0 : List (List Int)) (on : List Bool) (AO : Option Addr) (cO : Nat) (gO gb : Nat) (v : Int) (w : World) (hc : w.cell? ⟨gb, 0, none⟩ = some (.func (.func 61) #[] #[.pointer (some ⟨gO, 0, none⟩)])) (ho : w.cell? ⟨gO, 0, none⟩ = some (.slice AO on.length cO)) (hon : Kd.C Kd.bool w AO on.length on) (hr0 : Kd.C (Kd.slice 2 (Kd.int .i64)) w A0 l0.length l0) (h : idxG (impl_Meets.p on) l0 0 = some v) :
  Calls Try.prog 62 #[.slice A0 l0.length c0, .func (.func 63) #[] #[.pointer (some ⟨gb, 0, none⟩)]] w fun e w' => e = .returned (.bool (decide (0 ≤ v))) ∧ Below w.heap.size w w' := by
 have hidx := impl_Meets.idx A0 c0 l0 on AO cO gO gb v w hc ho hon hr0 h; have hb1 := idxG_bound _ l0 0 v (by omega) h; have hmax := Kd.C_max hr0; clear hc ho hon hr0 h
 go_enter Try.func62, Try.ntmps62
 go_wp2_with (first | (go_at_call 79; refine hidx.mono ?_; rintro e w' ⟨rfl, hb⟩))
 go_ret
 exact ⟨rfl, hb⟩
set_option maxHeartbeats 8000000 in
set_option maxRecDepth 100000 in
theorem impl_Meets.calls (k : Nat) (a0_0 : Int) (A0_1 : Option Addr) (c0_1 : Nat) (l0_1 : List (List Int)) (A1 : Option Addr) (c1 : Nat) (l1 : List Bool) (r : Bool) (w : World) (hr0_1 : Kd.C (Kd.slice 2 (Kd.int .i64)) w A0_1 l0_1.length l0_1) (hc0_1 : l0_1.length ≤ c0_1) (hr1 : Kd.C Kd.bool w A1 l1.length l1) (hc1 : l1.length ≤ c1) (h : impl_Meets.f k a0_0 l0_1 l1 = some r) :
  Calls Try.prog 27 #[.agg #[.int .i64 a0_0, .slice A0_1 l0_1.length c0_1], .slice A1 l1.length c1] w fun e w' => e = .returned (.bool r) ∧ Below w.heap.size w w' := by

 have HR0 := Aside0.mk hr0_1; have HC0 := Aside0.mk hc0_1; have HO := Aside0.mk hr1; have hmax := Kd.C_max hr0_1; have hmax1 := Kd.C_max hr1; clear hr0_1 hc0_1 hr1 hc1; have hu_ := Try.underlying37
 unfold impl_Meets.f at h
 obtain ⟨t, ht, h⟩ := Option.bind_eq_some_iff.mp h; have HT := Aside0.mk ht; clear ht
 cases t with
 | false =>
  obtain rfl := Option.some.inj h; clear h
  go_enter Try.func27, Try.ntmps27
  go_wp2_with (first | (go_at_call 48; refine (impl_CnfOk.calls k a0_0 _ _ l0_1 _ _ (by first | exact Kd.C_alloc (Kd.C_alloc HR0.out _) _ | exact Kd.C_drewN (Kd.C_alloc (Kd.C_alloc HR0.out _) _) _) HC0.out HT.out).mono ?_; rintro e w' ⟨rfl, hb⟩; have hz0 : w'.cell? ⟨w.heap.size, 0, none⟩ = some (.int .i64 a0_0) := (hb.cell (by simp; try omega)).trans (by simp); have hz1 : w'.cell? ⟨w.heap.size, 1, none⟩ = some (.slice A0_1 l0_1.length c0_1) := (hb.cell (by simp; try omega)).trans (by simp); have hz2 : w'.cell? ⟨w.heap.size + 1, 0, none⟩ = some (.slice A1 l1.length c1) := (hb.cell (by simp; try omega)).trans (by simp); have hs0 : w.heap.size < w'.heap.size := World.block_lt_of_cell? w' ⟨w.heap.size, 0, none⟩ hz0; have hs1 : w.heap.size + 1 < w'.heap.size := World.block_lt_of_cell? w' ⟨w.heap.size + 1, 0, none⟩ hz2; have hbw : Below w.heap.size w w' := below_step (by (repeat (first | apply pw_below_drewN | apply below_alloc)); exact Below.refl _ _) hb; clear hb))
  go_ret
  exact ⟨rfl, by first | exact hbw | ((repeat (first | apply pw_below_drewN | apply below_alloc)); exact hbw)⟩
 | true =>
  rw [if_pos rfl] at h
  by_cases c1 : (l1.length : Int) ≠ a0_0
  ·rw [if_pos c1] at h
   obtain rfl := Option.some.inj h; clear h; have c1b : ((l1.length : Int) != a0_0) = true := bne_iff_ne.mpr c1; clear c1
   go_enter Try.func27, Try.ntmps27
   go_wp2_with (first | (go_at_call 48; refine (impl_CnfOk.calls k a0_0 _ _ l0_1 _ _ (by first | exact Kd.C_alloc (Kd.C_alloc HR0.out _) _ | exact Kd.C_drewN (Kd.C_alloc (Kd.C_alloc HR0.out _) _) _) HC0.out HT.out).mono ?_; rintro e w' ⟨rfl, hb⟩; have hz0 : w'.cell? ⟨w.heap.size, 0, none⟩ = some (.int .i64 a0_0) := (hb.cell (by simp; try omega)).trans (by simp); have hz1 : w'.cell? ⟨w.heap.size, 1, none⟩ = some (.slice A0_1 l0_1.length c0_1) := (hb.cell (by simp; try omega)).trans (by simp); have hz2 : w'.cell? ⟨w.heap.size + 1, 0, none⟩ = some (.slice A1 l1.length c1) := (hb.cell (by simp; try omega)).trans (by simp); have hs0 : w.heap.size < w'.heap.size := World.block_lt_of_cell? w' ⟨w.heap.size, 0, none⟩ hz0; have hs1 : w.heap.size + 1 < w'.heap.size := World.block_lt_of_cell? w' ⟨w.heap.size + 1, 0, none⟩ hz2; have hbw : Below w.heap.size w w' := below_step (by (repeat (first | apply pw_below_drewN | apply below_alloc)); exact Below.refl _ _) hb; clear hb))
   go_ret
   exact ⟨rfl, by first | exact hbw | ((repeat (first | apply pw_below_drewN | apply below_alloc)); exact hbw)⟩
  ·rw [if_neg c1] at h
   obtain ⟨v, hv, h⟩ := Option.bind_eq_some_iff.mp h; obtain rfl := Option.some.inj h; have HV := Aside0.mk hv; clear h hv; have c1b : ((l1.length : Int) != a0_0) = false := bne_eq_false_iff_eq.mpr (by omega); clear c1
   go_enter Try.func27, Try.ntmps27
   go_wp2_with (first | (go_at_call 48; refine (impl_CnfOk.calls k a0_0 _ _ l0_1 _ _ (by first | exact Kd.C_alloc (Kd.C_alloc HR0.out _) _ | exact Kd.C_drewN (Kd.C_alloc (Kd.C_alloc HR0.out _) _) _) HC0.out HT.out).mono ?_; rintro e w' ⟨rfl, hb⟩; have hz0 : w'.cell? ⟨w.heap.size, 0, none⟩ = some (.int .i64 a0_0) := (hb.cell (by simp; try omega)).trans (by simp); have hz1 : w'.cell? ⟨w.heap.size, 1, none⟩ = some (.slice A0_1 l0_1.length c0_1) := (hb.cell (by simp; try omega)).trans (by simp); have hz2 : w'.cell? ⟨w.heap.size + 1, 0, none⟩ = some (.slice A1 l1.length c1) := (hb.cell (by simp; try omega)).trans (by simp); have hs0 : w.heap.size < w'.heap.size := World.block_lt_of_cell? w' ⟨w.heap.size, 0, none⟩ hz0; have hs1 : w.heap.size + 1 < w'.heap.size := World.block_lt_of_cell? w' ⟨w.heap.size + 1, 0, none⟩ hz2; have hbw : Below w.heap.size w w' := below_step (by (repeat (first | apply pw_below_drewN | apply below_alloc)); exact Below.refl _ _) hb; clear hb))
   refine (impl_Meets.has A0_1 c0_1 l0_1 l1 A1 c1 (w.heap.size + 1) w'.heap.size v _ (by simp) ((((Below.refl w'.heap.size w').alloc (Nat.le_refl _) _).cell (p := ⟨w.heap.size + 1, 0, none⟩) hs1).trans hz2) (Kd.C_alloc (Kd.C_below HO.out hbw) _) (Kd.C_alloc (Kd.C_below HR0.out hbw) _) HV.out).mono ?_; rintro e w2 ⟨rfl, hb2⟩
   go_wp2
   go_ret
   exact ⟨rfl, below_step (by first | exact hbw | ((repeat (first | apply pw_below_drewN | apply below_alloc)); exact hbw)) hb2⟩

/-! ### laws_stand: function 28 -/
def laws_stand.l0 : Nat → List Bool → List Int → Int → Option (Bool)
 | 0, _, _, _ => none
 | k + 1, x0, x1, x5 => if x5 < (x1.length : Int) then (if 0 ≤ x5 then (if 0 ≤ (wrap64 ((mx (rd x1 x5) (wrap64 (-(rd x1 x5)))) - 1)) then (if (wrap64 ((mx (rd x1 x5) (wrap64 (-(rd x1 x5)))) - 1)) < (x0.length : Int) then (if ((rdOf false x0 (wrap64 ((mx (rd x1 x5) (wrap64 (-(rd x1 x5)))) - 1))) != (decide ((rd x1 x5) > 0))) = true then (some false) else (laws_stand.l0 k x0 x1 (wrap64 (x5 + 1)))) else (none)) else (none)) else (none)) else (some true)
def laws_stand.f (k : Nat) (l0 : List Bool) (l1 : List Int) : Option (Bool) := laws_stand.l0 k l0 l1 0
set_option maxHeartbeats 8000000 in
set_option maxRecDepth 100000 in
theorem laws_stand.calls (k : Nat) (A0 : Option Addr) (c0 : Nat) (l0 : List Bool) (A1 : Option Addr) (c1 : Nat) (l1 : List Int) (r : Bool) (w : World) (hr0 : Kd.C Kd.bool w A0 l0.length l0) (hc0 : l0.length ≤ c0) (hr1 : Kd.C (Kd.int .i64) w A1 l1.length l1) (hc1 : l1.length ≤ c1) (h : laws_stand.f k l0 l1 = some r) :
  Calls Try.prog 28 #[.slice A0 l0.length c0, .slice A1 l1.length c1] w fun e w' => e = .returned (.bool r) ∧ Below w.heap.size w w' := by
 have HR0 := Aside0.mk hr0; have HC0 := Aside0.mk hc0; clear hr0 hc0; have HR1 := Aside0.mk hr1; have HC1 := Aside0.mk hc1; clear hr1 hc1; have HB := Aside0.mk (Below.refl w.heap.size w); have H : (laws_stand.l0 k l0 l1 0) = some r := h; clear h; have H' := Aside0.mk H; clear H
 go_enter Try.func28, Try.ntmps28
 go_wp2
 repeat (go_quiet (fail); try go_wp2)
 go_loopg [5] k (fun kq v5 w' => ∃ (x5_1 : Int), v5 = .int .i64 x5_1 ∧ Aside0 (laws_stand.l0 kq l0 l1 x5_1 = some r) ∧ Aside0 (kq ≤ k) ∧ Aside0 (Below w.heap.size w w'))
 case atStart => exact ⟨(0), au, H', ⟨Nat.le_refl _⟩, ⟨bl HB⟩⟩
 case round =>
  clear H'
  try clear c1
  try clear c2
  try clear p2
  obtain ⟨x5_1, rfl, HA, HK1, HB⟩ := hrel
  cases gk with
  | zero => exact absurd HA.out (by simp [laws_stand.l0])
  | succ k1 =>
   have H := HA.out; clear HA
   simp only [laws_stand.l0] at H
   by_cases c3 : x5_1 < (l1.length : Int)
   ·rw [if_pos c3] at H
    have c3b0 : decide (x5_1 < (l1.length : Int)) = true := decide_eq_true c3; clear c3
    by_cases c4 : 0 ≤ x5_1
    ·rw [if_pos c4] at H
     have c4b0 : decide (0 ≤ x5_1) = true := decide_eq_true c4; clear c4; obtain ⟨ji5, hji5⟩ : ∃ j_ : Int, (mx (rd l1 x5_1) (wrap64 (-(rd l1 x5_1)))) = j_ := ⟨_, rfl⟩
     replace H : (if 0 ≤ (wrap64 ((ji5) - 1)) then (if (wrap64 ((ji5) - 1)) < (l0.length : Int) then (if ((rdOf false l0 (wrap64 ((ji5) - 1))) != (decide ((rd l1 x5_1) > 0))) = true then (some false) else (laws_stand.l0 k1 l0 l1 (wrap64 (x5_1 + 1)))) else (none)) else (none)) = some r := by first | (rw [hji5] at H; exact H) | (simp only [hji5] at H ⊢; exact H)
     have hji5_ : (if (rd l1 x5_1) < (wrap64 (-(rd l1 x5_1))) then (wrap64 (-(rd l1 x5_1))) else (rd l1 x5_1)) = ji5 := hji5; obtain ⟨ji6, hji6⟩ : ∃ j_ : Int, (wrap64 ((ji5) - 1)) = j_ := ⟨_, rfl⟩
     replace H : (if 0 ≤ (ji6) then (if (ji6) < (l0.length : Int) then (if ((rdOf false l0 (ji6)) != (decide ((rd l1 x5_1) > 0))) = true then (some false) else (laws_stand.l0 k1 l0 l1 (wrap64 (x5_1 + 1)))) else (none)) else (none)) = some r := by first | (rw [hji6] at H; exact H) | (simp only [hji6] at H ⊢; exact H)
     have hji6w : (IntKind.i64.wrap ((ji5) - 1)) = ji6 := (i64_w _).trans hji6
     by_cases c7 : 0 ≤ (ji6)
     ·rw [if_pos c7] at H
      have c7b0 : decide (0 ≤ (ji6)) = true := decide_eq_true c7; clear c7
      by_cases c8 : (ji6) < (l0.length : Int)
      ·rw [if_pos c8] at H
       have c8b0 : decide ((ji6) < (l0.length : Int)) = true := decide_eq_true c8; clear c8
       by_cases c9 : ((rdOf false l0 (ji6)) != (decide ((rd l1 x5_1) > 0))) = true
       ·rw [if_pos c9] at H
        have c9b0 : ((rdOf false l0 (ji6)) != (decide ((rd l1 x5_1) > 0))) = true := c9
        (try (have c9b1 : decide ((rdOf false l0 (ji6)) = (decide ((rd l1 x5_1) > 0))) = false := by simpa using c9))
        (try (have c9b2 : ((rdOf false l0 (ji6)) == (decide ((rd l1 x5_1) > 0))) = false := by simpa using c9))
        (try (have c9b3 : ¬ ((rdOf false l0 (ji6)) = (decide ((rd l1 x5_1) > 0))) := by simpa using c9))
        clear c9; obtain rfl := Option.some.inj H; have p271 : 0 ≤ (x5_1 : Int) := ode; have q271 : x5_1 < (l1.length : Int) := ode; obtain ⟨ad271, e271, hx271_0⟩ := Kd.at_int HR1.out x5_1 p271 q271
        cases e271
        replace hx271_0 := cl HB hx271_0; replace p271 := eq_true p271; replace q271 := eq_true q271; have p272 : 0 ≤ (x5_1 : Int) := ode; have q272 : x5_1 < (l1.length : Int) := ode; obtain ⟨ad272, e272, hx272_0⟩ := Kd.at_int HR1.out x5_1 p272 q272; obtain rfl : ad271 = ad272 := (by injection e272); replace hx272_0 := cl HB hx272_0; replace p272 := eq_true p272; replace q272 := eq_true q272; have p273 : 0 ≤ ((ji6) : Int) := ode; have q273 : (ji6) < (l0.length : Int) := ode; obtain ⟨ad273, e273, hx273_0⟩ := Kd.at_bool HR0.out (ji6) p273 q273
        cases e273
        replace hx273_0 := cl HB hx273_0; replace p273 := eq_true p273; replace q273 := eq_true q273; have p274 : 0 ≤ (x5_1 : Int) := ode; have q274 : x5_1 < (l1.length : Int) := ode; obtain ⟨ad274, e274, hx274_0⟩ := Kd.at_int HR1.out x5_1 p274 q274; obtain rfl : ad271 = ad274 := (by injection e274); replace hx274_0 := cl HB hx274_0; replace p274 := eq_true p274; replace q274 := eq_true q274
        go_wp2
        repeat (go_quiet (fail); try go_wp2)
        go_ret
        exact ⟨by first | rfl | (simp [errW_none, errW_some] <;> rfl) | (simp only [← hji5, ← hji6]; first | rfl | (simp [errW_none, errW_some] <;> rfl)) | (simp [*, errW_none, errW_some] <;> rfl), bl HB⟩
       ·rw [if_neg c9] at H
        have c9b0 : ((rdOf false l0 (ji6)) != (decide ((rd l1 x5_1) > 0))) = false := by simpa using c9
        (try (have c9b1 : decide ((rdOf false l0 (ji6)) = (decide ((rd l1 x5_1) > 0))) = true := by simpa using c9))
        (try (have c9b2 : ((rdOf false l0 (ji6)) == (decide ((rd l1 x5_1) > 0))) = true := by simpa using c9))
        clear c9; have H' := Aside0.mk H; clear H; have p271 : 0 ≤ (x5_1 : Int) := ode; have q271 : x5_1 < (l1.length : Int) := ode; obtain ⟨ad271, e271, hx271_0⟩ := Kd.at_int HR1.out x5_1 p271 q271
        cases e271
        replace hx271_0 := cl HB hx271_0; replace p271 := eq_true p271; replace q271 := eq_true q271; have p272 : 0 ≤ (x5_1 : Int) := ode; have q272 : x5_1 < (l1.length : Int) := ode; obtain ⟨ad272, e272, hx272_0⟩ := Kd.at_int HR1.out x5_1 p272 q272; obtain rfl : ad271 = ad272 := (by injection e272); replace hx272_0 := cl HB hx272_0; replace p272 := eq_true p272; replace q272 := eq_true q272; have p273 : 0 ≤ ((ji6) : Int) := ode; have q273 : (ji6) < (l0.length : Int) := ode; obtain ⟨ad273, e273, hx273_0⟩ := Kd.at_bool HR0.out (ji6) p273 q273
        cases e273
        replace hx273_0 := cl HB hx273_0; replace p273 := eq_true p273; replace q273 := eq_true q273; have p274 : 0 ≤ (x5_1 : Int) := ode; have q274 : x5_1 < (l1.length : Int) := ode; obtain ⟨ad274, e274, hx274_0⟩ := Kd.at_int HR1.out x5_1 p274 q274; obtain rfl : ad271 = ad274 := (by injection e274); replace hx274_0 := cl HB hx274_0; replace p274 := eq_true p274; replace q274 := eq_true q274
        go_wp2
        repeat (go_quiet (fail); try go_wp2)
        go_roundg k1
        case measure => have := HK1.out; omega
        case rel => exact ⟨(wrap64 (x5_1 + 1)), au, H', ⟨by have := HK1.out; omega⟩, ⟨bl HB⟩⟩
      ·rw [if_neg c8] at H
       exact absurd H (by simp)
     ·rw [if_neg c7] at H
      exact absurd H (by simp)
    ·rw [if_neg c4] at H
     exact absurd H (by simp)
   ·rw [if_neg c3] at H
    have c3b0 : decide (x5_1 < (l1.length : Int)) = false := decide_eq_false c3; clear c3; obtain rfl := Option.some.inj H
    go_wp2
    repeat (go_quiet (fail); try go_wp2)
    go_ret
    exact ⟨by first | rfl | (simp [errW_none, errW_some] <;> rfl) | (simp [*, errW_none, errW_some] <;> rfl), bl HB⟩

end Go.Proofs.Ytpkclocdenagcaa.PFnUnits
