-- Written by a program of this session (a turned copy of the kit's printer); Lean checks it.
-- half the depth
import Derived.Test.YtjjlcmfjmdfedaaPFnTreeBackx0
import Derived.Test.YtjjlcmfjmdfedaaPFnTreeBackx7
import Derived.Test.YtjjlcmfjmdfedaaPFnTreeBackx8
namespace Go.Proofs.Ytjjlcmfjmdfedaa.PFnTreeBack
open Go.RowKit Go.Proofs.YtjjlcmfjmdfedaaW.PrintWords Go.Proofs.YtjjlcmfjmdfedaaW.PrintLast Go.Proofs.YtjjlcmfjmdfedaaW.PrintMore
attribute [local go_sem] max2_int min2_int max_two min_two max_three min_three max_four min_four   -- for this text's walks alone
set_option linter.unusedVariables false
set_option linter.unusedSimpArgs false

/-! ### spec_DrawTreeOk: function 34 -/
def spec_DrawTreeOk.l0 : Nat → Int → Int → List (S66) → Option ((List (S66)))
 | 0, _, _, _ => none
 | k + 1, x5, x6, x241000 => if x6 < x5 then (if x241000.length < 3518437208883 then (spec_DrawTreeOk.l0 k x5 (wrap64 (x6 + 1)) (x241000 ++ [(⟨(⟨#[]⟩ : ByteArray), (([wrap64 (x6 + 1)] : List Int))⟩ : S66)])) else (none)) else (if x241000.length < 3518437208883 then (some (x241000 ++ [(⟨(⟨#[97]⟩ : ByteArray), ([] : List Int)⟩ : S66)])) else (none))
def spec_DrawTreeOk.f (k : Nat) (l0 : List Int) : Option ((List (S66))) := (spec_l1Open.f l0).bind fun bt235 => ((spec_l1Rd_once.f bt235.1 bt235.2 20).bind fun bt238 => (if bt238.1 = true then ((spec_l1Rd_below.f bt235.1 bt238.2 3).bind fun bt241 => (spec_DrawTreeOk.l0 k (wrap64 (100 + bt241.1)) 0 ([] : List (S66)))) else ((spec_l1Rd_tree.f k bt235.1 bt238.2).bind fun bt252 => (some bt252.1))))
set_option maxHeartbeats 8000000 in
set_option maxRecDepth 100000 in
theorem spec_DrawTreeOk.calls (k : Nat) (A0 : Option Addr) (c0 : Nat) (l0 : List Int) (r : List (S66)) (w : World) (hr0 : Kd.C (Kd.int .u8) w A0 l0.length l0) (hc0 : l0.length ≤ c0) (h : spec_DrawTreeOk.f k l0 = some r) :
  Calls Try.prog 34 #[.slice A0 l0.length c0] w fun e w' => ∃ v0_ : Value, e = .returned (.agg #[v0_]) ∧ Kd.S k66 66 w' w.heap.size (fun _ => True) v0_ r ∧ Below w.heap.size w w' := by
 have hu29 := Try.underlying29; have hu66 := Try.underlying66; have HR0 := Aside0.mk hr0; have HC0 := Aside0.mk hc0; clear hr0 hc0; have HB := Aside0.mk (Below.refl w.heap.size w); have H : ((spec_l1Open.f l0).bind fun bt235 => ((spec_l1Rd_once.f bt235.1 bt235.2 20).bind fun bt238 => (if bt238.1 = true then ((spec_l1Rd_below.f bt235.1 bt238.2 3).bind fun bt241 => (spec_DrawTreeOk.l0 k (wrap64 (100 + bt241.1)) 0 ([] : List (S66)))) else ((spec_l1Rd_tree.f k bt235.1 bt238.2).bind fun bt252 => (some bt252.1))))) = some r := h; clear h; replace H := Option.bind_eq_some_iff.mp H; obtain ⟨⟨t235, t236⟩, A20, H⟩ := H; replace H : ((spec_l1Rd_once.f t235 t236 20).bind fun bt238 => (if bt238.1 = true then ((spec_l1Rd_below.f t235 bt238.2 3).bind fun bt241 => (spec_DrawTreeOk.l0 k (wrap64 (100 + bt241.1)) 0 ([] : List (S66)))) else ((spec_l1Rd_tree.f k t235 bt238.2).bind fun bt252 => (some bt252.1)))) = some r := H; have A2 := Aside0.mk A20; clear A20; replace H := Option.bind_eq_some_iff.mp H; obtain ⟨⟨t238, t239⟩, A30, H⟩ := H; replace H : (if t238 = true then ((spec_l1Rd_below.f t235 t239 3).bind fun bt241 => (spec_DrawTreeOk.l0 k (wrap64 (100 + bt241.1)) 0 ([] : List (S66)))) else ((spec_l1Rd_tree.f k t235 t239).bind fun bt252 => (some bt252.1))) = some r := H; have A3 := Aside0.mk A30; clear A30
 by_cases c4 : t238 = true
 ·subst c4
  have H1 : ((spec_l1Rd_below.f t235 t239 3).bind fun bt241 => (spec_DrawTreeOk.l0 k (wrap64 (100 + bt241.1)) 0 ([] : List (S66)))) = some r := by rw [if_pos rfl] at H; exact H
  clear H; have H := H1; clear H1; replace H := Option.bind_eq_some_iff.mp H; obtain ⟨⟨t241, t242⟩, A50, H⟩ := H; replace H : (spec_DrawTreeOk.l0 k (wrap64 (100 + t241)) 0 ([] : List (S66))) = some r := H; have A5 := Aside0.mk A50; clear A50; have H' := Aside0.mk H; clear H
  go_enter Try.func34, Try.ntmps34
  go_wp2_with (first | ((with_reducible refine gate_dst (N := 2) rfl ?_); refine be 2 #[.slice none 0 0] 29 ?_; intro gb234 hg w6 hbox hb; have n0_ := Aside0.mk (below_step (bl HB) hb); have n1_ := Aside0.mk (hbox); have n2_ := Aside0.mk (gs HB hg); have n3_ := Aside0.mk (gs HB hg); clear HB; have HB := n0_; have BK234 := n1_; have GW234 := n2_; have GE234 := n3_; clear n0_ n1_ n2_ n3_; clear hb hbox hg) | ((with_reducible refine gate_callee (f := 36) rfl ?_); refine goesL_ (some 8) rfl rfl Try.func36 (by kernel_rfl) rfl #[.slice A0 l0.length c0] rfl ma ?_; (with_reducible refine (spec_l1Open.calls _ _ l0 t235 t236 w _ ?side1 ?side2 ?side3 A2.out).mono ?_); (case side1 => repeat (first | (with_reducible first | exact HB.out | apply below_alloc | apply pw_below_drewN | apply below_drew1 | refine below_set ?_ GE234.out) | exact HB.out)); (case side2 => exact HR0.out); (case side3 => exact HC0.out); rintro e w7 ⟨g237, rfl, hi, hb, hb2⟩; refine ⟨_, rfl, ?_⟩; have n0_ := Aside0.mk (blk_below (g := gb234) (o := .cells #[.slice none 0 0] 29 (0, 0)) (bk BK234) hb2); have n1_ := Aside0.mk (hb); have n2_ := Aside0.mk (hi); have n3_ := Aside0.mk (IsS73.ne_blk hi (blk_below (g := gb234) (o := .cells #[.slice none 0 0] 29 (0, 0)) (bk BK234) hb2) (by decide)); have n4_ := Aside0.mk (Ne.symm (IsS73.ne_blk hi (blk_below (g := gb234) (o := .cells #[.slice none 0 0] 29 (0, 0)) (bk BK234) hb2) (by decide))); clear BK234; clear HB; have BK234 := n0_; have HB := n1_; have HI237 := n2_; have NB237_234 := n3_; have NB234_237 := n4_; clear n0_ n1_ n2_ n3_ n4_; (try clear hb); (try clear hb2); (try clear hk); (try clear hi)) | ((with_reducible refine gate_callee (f := 55) rfl ?_); refine goesL_ (some 10) rfl rfl Try.func55 (by kernel_rfl) rfl #[.pointer (some ⟨g237, 0, none⟩), .int .i64 20] rfl ma ?_; (with_reducible refine (spec_l1Rd_once.calls g237 t235 t236 20 true t239 w _ ?side1 ?side2 A3.out).mono ?_); (case side1 => repeat (first | (with_reducible first | exact HI237.out | apply IsS73.alloc | apply IsS73.drewN | apply IsS73.drew | apply IsS73.set_1 | refine IsS73.far ?_ NB237_234.out _) | exact HI237.out)); (case side2 => repeat (first | (with_reducible first | exact HB.out | apply below_alloc | apply pw_below_drewN | apply below_drew1 | refine below_set ?_ (IsS73.ge HI237.out) | refine below_set ?_ GE234.out) | exact HB.out)); rintro e w8 ⟨rfl, hi, hb, hk⟩; refine ⟨_, rfl, ?_⟩; have n0_ := Aside0.mk (KeepBut.blk hk (g' := gb234) (o := .cells #[.slice none 0 0] 29 (0, 0)) (bk BK234) NB234_237.out (by simp)); have n1_ := Aside0.mk (hb); have n2_ := Aside0.mk (hi); clear BK234; clear HB; clear HI237; have BK234 := n0_; have HB := n1_; have HI237 := n2_; clear n0_ n1_ n2_; (try clear hb); (try clear hb2); (try clear hk); (try clear hi)) | ((with_reducible refine gate_dst (N := 4) rfl ?_); refine be 4 #[.slice none 0 0] 29 ?_; intro gb240 hg w9 hbox hb; have n0_ := Aside0.mk (blk_below (g := gb234) (o := .cells #[.slice none 0 0] 29 (0, 0)) (bk BK234) hb); have n1_ := Aside0.mk (IsS73.below (by repeat (first | (with_reducible first | exact HI237.out | apply IsS73.alloc | apply IsS73.drewN | apply IsS73.drew | apply IsS73.set_1 | refine IsS73.far ?_ NB237_234.out _) | exact HI237.out)) hb); have n2_ := Aside0.mk (below_step (bs2 HB ⟨IsS73.ge HI237.out⟩ GE234) hb); have n3_ := Aside0.mk (hbox); have n4_ := Aside0.mk ((by rw [hg]; exact (below_size (bs2 HB ⟨IsS73.ge HI237.out⟩ GE234)) : w.heap.size ≤ gb240)); have n5_ := Aside0.mk ((by rw [hg]; exact (below_size (bs2 HB ⟨IsS73.ge HI237.out⟩ GE234)) : w.heap.size ≤ gb240)); have n6_ := Aside0.mk ((by rw [hg]; exact Nat.ne_of_lt (blk_lt (g := gb234) (o := .cells #[.slice none 0 0] 29 (0, 0)) (bk BK234)) : gb234 ≠ gb240)); have n7_ := Aside0.mk ((by rw [hg]; exact Nat.ne_of_gt (blk_lt (g := gb234) (o := .cells #[.slice none 0 0] 29 (0, 0)) (bk BK234)) : gb240 ≠ gb234)); have n8_ := Aside0.mk ((by rw [hg]; exact Nat.ne_of_lt (IsS73.lt (show IsS73 w _ g237 t235 t239 from by repeat (first | (with_reducible first | exact HI237.out | apply IsS73.alloc | apply IsS73.drewN | apply IsS73.drew | apply IsS73.set_1 | refine IsS73.far ?_ NB237_234.out _) | exact HI237.out))) : g237 ≠ gb240)); have n9_ := Aside0.mk ((by rw [hg]; exact Nat.ne_of_gt (IsS73.lt (show IsS73 w _ g237 t235 t239 from by repeat (first | (with_reducible first | exact HI237.out | apply IsS73.alloc | apply IsS73.drewN | apply IsS73.drew | apply IsS73.set_1 | refine IsS73.far ?_ NB237_234.out _) | exact HI237.out))) : gb240 ≠ g237)); clear BK234; clear HI237; clear HB; have BK234 := n0_; have HI237 := n1_; have HB := n2_; have BK240 := n3_; have GW240 := n4_; have GE240 := n5_; have NB234_240 := n6_; have NB240_234 := n7_; have NB237_240 := n8_; have NB240_237 := n9_; clear n0_ n1_ n2_ n3_ n4_ n5_ n6_ n7_ n8_ n9_; clear hb hbox hg; have hnb10 := NB240_234.out; have hnc10 := NB234_240.out; have hnb11 := NB240_237.out; have hnc11 := NB237_240.out; have hcz12_0 : w9.cell? ⟨gb240, 0, none⟩ = some (.slice none 0 0) := (blk_cell BK240.out 0).trans rfl; have hfz12_0 := blk_frozen BK240.out 0) | ((with_reducible refine gate_callee (f := 38) rfl ?_); refine goesL_ (some 13) rfl rfl Try.func38 (by kernel_rfl) rfl #[.pointer (some ⟨g237, 0, none⟩), .int .i64 3] rfl ma ?_; (with_reducible refine (spec_l1Rd_below.calls g237 t235 t239 3 t241 t242 w _ ?side1 ?side2 A5.out).mono ?_); (case side1 => repeat (first | (with_reducible first | exact HI237.out | apply IsS73.alloc | apply IsS73.drewN | apply IsS73.drew | apply IsS73.set_1 | refine IsS73.far ?_ NB237_234.out _ | refine IsS73.far ?_ NB237_240.out _) | exact HI237.out)); (case side2 => repeat (first | (with_reducible first | exact HB.out | apply below_alloc | apply pw_below_drewN | apply below_drew1 | refine below_set ?_ (IsS73.ge HI237.out) | refine below_set ?_ GE234.out | refine below_set ?_ GE240.out) | exact HB.out)); rintro e w13 ⟨rfl, hi, hb, hk⟩; refine ⟨_, rfl, ?_⟩; have n0_ := Aside0.mk (KeepBut.blk hk (g' := gb234) (o := .cells #[.slice none 0 0] 29 (0, 0)) (by (with_reducible repeat (first | refine blk_drewN ?_ _ | refine blk_drew ?_ | refine blk_alloc ?_ _)); refine blk_far ?_ NB234_240.out _; (with_reducible repeat (first | refine blk_drewN ?_ _ | refine blk_drew ?_ | refine blk_alloc ?_ _)); exact BK234.out) NB234_237.out (by simp)); have n1_ := Aside0.mk (KeepBut.blk hk (g' := gb240) (o := .cells #[.slice none 0 0] 29 (0, 0)) (by refine bd ?_; refine blk_put (cs := #[.slice none 0 0]) ?_ 0 _ rfl; (with_reducible repeat (first | refine blk_drewN ?_ _ | refine blk_drew ?_ | refine blk_alloc ?_ _)); exact BK240.out) NB240_237.out (by simp)); have n2_ := Aside0.mk (hb); have n3_ := Aside0.mk (hi); clear BK234; clear BK240; clear HB; clear HI237; have BK234 := n0_; have BK240 := n1_; have HB := n2_; have HI237 := n3_; clear n0_ n1_ n2_ n3_; (try clear hb); (try clear hb2); (try clear hk); (try clear hi)))
  go_loopg [6] k (fun kq v6 w' => ∃ (x6_1 : Int) (x241000_1 : List (S66)) (u241000 : Value), v6 = .int .i64 x6_1 ∧ Aside0 (spec_DrawTreeOk.l0 kq (wrap64 (100 + t241)) x6_1 x241000_1 = some r) ∧ Aside0 (kq ≤ k) ∧ Aside0 (Kd.S k66 66 w' w.heap.size (fun _ => True) u241000 x241000_1) ∧ Aside0 (w'.heap[gb234]? = some (.cells #[(.slice none 0 0)] 29 (0, 0))) ∧ Aside0 (w'.heap[gb240]? = some (.cells #[u241000] 29 (0, 0))) ∧ Aside0 (Below w.heap.size w w'))
  case atStart => exact ⟨(0), (([] : List (S66))), (.slice none 0 0), au, H', ⟨Nat.le_refl _⟩, ⟨by first | exact Kd.S_nil _ _ _ _ _ | exact Kd.N_nil _ _ _ _ _ | exact Kd.V_nil _ _ _ _ _ | exact Kd.Q_nil _ _ _ _ _ | exact Kd.R_nil _ _ _ _ _⟩, ⟨bk BK234⟩, ⟨bk BK240⟩, ⟨bs3 HB ⟨IsS73.ge HI237.out⟩ GE234 GE240⟩⟩
  case round =>
   clear H'
   try clear c1
   try clear p2
   try clear c3
   try clear c4
   try clear c5
   try clear p6
   try clear c10
   try clear c11
   try clear hcz12_0
   try clear hfz12_0
   obtain ⟨x6_1, x241000_1, u241000, rfl, HA, HK1, HO_241000, BK234, BK240, HB⟩ := hrel
   cases gk with
   | zero => exact absurd HA.out (by simp [spec_DrawTreeOk.l0])
   | succ k1 =>
    have H := HA.out; clear HA
    simp only [spec_DrawTreeOk.l0] at H
    by_cases c14 : x6_1 < (wrap64 (100 + t241))
    ·rw [if_pos c14] at H
     have c14b0 : decide (x6_1 < (wrap64 (100 + t241))) = true := decide_eq_true c14; clear c14; obtain ⟨y243, hy243⟩ : ∃ y_ : List Int, y_ = (([wrap64 (x6_1 + 1)] : List Int)) := ⟨_, rfl⟩
     replace H : (if x241000_1.length < 3518437208883 then (spec_DrawTreeOk.l0 k1 (wrap64 (100 + t241)) (wrap64 (x6_1 + 1)) (x241000_1 ++ [(⟨(⟨#[]⟩ : ByteArray), y243⟩ : S66)])) else (none)) = some r := by first | (rw [hy243]; with_reducible exact H) | (have H2_ := (Option.bind_some _ _).symm.trans H; rw [hy243]; with_reducible exact H2_) | (have H2_ := (Option.bind_some _ _).symm.trans H; with_reducible exact H2_) | with_reducible exact H | (rw [hy243]; exact H) | exact H
     have Ny243 := Aside0.mk hy243; clear hy243
     by_cases c15 : x241000_1.length < 3518437208883
     ·rw [if_pos c15] at H
      have LMc15 := Aside0.mk c15; clear c15; obtain ⟨y246, hy246⟩ : ∃ y_ : List (S66), y_ = (x241000_1 ++ [(⟨(⟨#[]⟩ : ByteArray), y243⟩ : S66)]) := ⟨_, rfl⟩
      replace H : (spec_DrawTreeOk.l0 k1 (wrap64 (100 + t241)) (wrap64 (x6_1 + 1)) y246) = some r := by first | (rw [hy246]; with_reducible exact H) | (have H2_ := (Option.bind_some _ _).symm.trans H; rw [hy246]; with_reducible exact H2_) | (have H2_ := (Option.bind_some _ _).symm.trans H; with_reducible exact H2_) | with_reducible exact H | (rw [hy246]; exact H) | exact H
      have Ny246 := Aside0.mk hy246; clear hy246; have H' := Aside0.mk H; clear H; have hnb16 := NB240_234.out; have hnc16 := NB234_240.out; have hcz17_0 : wr.cell? ⟨gb240, 0, none⟩ = some (u241000) := (blk_cell BK240.out 0).trans rfl; have hfz17_0 := blk_frozen BK240.out 0
      go_wp2_with (first | ((with_reducible refine gate_dst (N := 24) rfl ?_); refine Kd.R_lit (Kd.int .i64) _ 2 ?hg (N := 24) ?hd (xs := ([wrap64 (x6_1 + 1)] : List Int)) (inner := [.int .i64 (wrap64 (x6_1 + 1))]) (ok := fun _ => True) (okp := fun _ => True) ?hr ?hp (fun _ hk => hk) trivial (Below.refl _ _) (Nat.le_refl _) (by simp) ?_; (case hd => rfl); (case hg => rfl); (case hr => first | (go_simp; done) | (go_simp; rfl)); (case hp => exact (Reps.one (show Kd.M (Kd.int .i64) _ _ _ (wrap64 (x6_1 + 1)) [.int .i64 (wrap64 (x6_1 + 1))] from rfl) (Reps.none _ _))); intro v244 w18 ho19 hb hg_ hnew_; clear hg_ hnew_; (first | rw [← Ny243.out] at ho19 | (simp only [Int.reduceToNat] at ho19; rw [← Ny243.out] at ho19)); have n0_ := Aside0.mk (Kd.S_elder' (sl HO_241000) (Kd.R_base ho19) hb); have n1_ := Aside0.mk (Kd.R_lower ho19 (below_size (bs2 HB GE234 GE240))); have n2_ := Aside0.mk (blk_below (g := gb234) (o := .cells #[.slice none 0 0] 29 (0, 0)) (bk BK234) hb); have n3_ := Aside0.mk (blk_below (g := gb240) (o := .cells #[u241000] 29 (0, 0)) (bk BK240) hb); have n4_ := Aside0.mk (below_step (bs2 HB GE234 GE240) hb); clear HO_241000; clear BK234; clear BK240; clear HB; have HO_241000 := n0_; have HO245 := n1_; have BK234 := n2_; have BK240 := n3_; have HB := n4_; clear n0_ n1_ n2_ n3_ n4_; clear hb ho19; obtain ⟨Ao20, co20, eo20⟩ := Kd.R_slice HO245.out; subst eo20) | ((with_reducible refine gate_builtin (b := .append) (xs := #[.tmp 21, .tmp 26]) rfl ?_); at_builtin; refine Kd.S_append k66 (w0 := w) w.heap.size rfl (.tmp 21) (.tmp 26) 27 66 (.agg #[(.string ⟨#[]⟩), (.slice none 0 0)]) 40 rfl Try.underlying27 info66 rfl (by decide) (by omega) u241000 x241000_1 (⟨(⟨#[]⟩ : ByteArray), y243⟩ : S66) [.string (⟨#[]⟩ : ByteArray), .slice Ao20 y243.length co20] (fun _ => True) (fun k_ => some k_ = (.slice Ao20 y243.length co20 : Value).ownBlock) rfl rfl ?aP (fun k_ hk_ => ((Kd.R_mono (ok' := fun k_ => ((fun _ => True)) k_ ∧ some k_ ≠ (u241000 : Value).ownBlock) (Kd.R_apart' (HO245.out) (Kd.S_typed HO_241000.out) (by decide)) (fun k_ hk => ⟨trivial, hk.2⟩))).1 k_ hk_.symm) ?aF ?aO ?aB ?aS ?aL ?_; (case aP => exact k66_mkM _ _ _ (⟨(⟨#[]⟩ : ByteArray), y243⟩ : S66) (Kd.R_mono (Kd.R_tight rfl (Kd.R_mono (ok' := fun k_ => ((fun _ => True)) k_ ∧ some k_ ≠ (u241000 : Value).ownBlock) (Kd.R_apart' (HO245.out) (Kd.S_typed HO_241000.out) (by decide)) (fun k_ hk => ⟨trivial, hk.2⟩))) (fun _ h_ => h_))); (case aB => exact (bs2 HB GE234 GE240)); (case aF => exact (fun _ _ => trivial)); (case aO => exact (by (with_reducible repeat (first | apply Kd.S_alloc | apply Kd.S_drewN | apply Kd.S_drew)); exact Kd.S_mono HO_241000.out (fun k_ hk => ⟨trivial, fun e_ => hk.2 e_⟩))); (case aS => exact (below_size (bs2 HB GE234 GE240))); (case aL => have := LMc15.out; omega); intro v247 w21 ho hb hg hat; rw [← Ny246.out] at ho; have n0_ := Aside0.mk (blk_grown (g := gb234) (o := .cells #[.slice none 0 0] 29 (0, 0)) (bk BK234) hg (Kd.S_ne HO_241000.out BK234.out (by decide))); have n1_ := Aside0.mk (blk_grown (g := gb240) (o := .cells #[u241000] 29 (0, 0)) (bk BK240) hg (Kd.S_ne HO_241000.out BK240.out (by decide))); have n2_ := Aside0.mk (hb); have n3_ := Aside0.mk (ho); clear BK234; clear BK240; clear HB; clear HO_241000; clear HO245; have BK234 := n0_; have BK240 := n1_; have HB := n2_; have HO248 := n3_; clear n0_ n1_ n2_ n3_; clear ho hb hg hat; obtain ⟨Ao22, co22, eo22⟩ := Kd.S_slice HO248.out; subst eo22; have hcz23_0 : w21.cell? ⟨gb240, 0, none⟩ = some (u241000) := (blk_cell BK240.out 0).trans rfl; have hfz23_0 := blk_frozen BK240.out 0))
      go_roundg k1
      case measure => have := HK1.out; omega
      case rel => exact ⟨(wrap64 (x6_1 + 1)), (y246), (.slice Ao22 y246.length co22), au, H', ⟨by have := HK1.out; omega⟩, ⟨by (with_reducible repeat (first | apply Kd.S_alloc | apply Kd.S_drewN | apply Kd.S_drew)); exact Kd.S_mono (Kd.S_far (p := ⟨gb240, 0, none⟩) (Kd.S_types HO248.out BK240.out (by decide)) (fun _ hk => hk.2) (.slice Ao22 y246.length co22)) (fun _ hk => trivial)⟩, ⟨by (with_reducible repeat (first | refine blk_drewN ?_ _ | refine blk_drew ?_ | refine blk_alloc ?_ _)); refine blk_far ?_ NB234_240.out _; (with_reducible repeat (first | refine blk_drewN ?_ _ | refine blk_drew ?_ | refine blk_alloc ?_ _)); exact BK234.out⟩, ⟨by refine bd ?_; refine blk_put (cs := #[u241000]) ?_ 0 _ rfl; (with_reducible repeat (first | refine blk_drewN ?_ _ | refine blk_drew ?_ | refine blk_alloc ?_ _)); exact BK240.out⟩, ⟨bs2 HB GE234 GE240⟩⟩
     ·rw [if_neg c15] at H
      exact absurd H (by simp)
    ·rw [if_neg c14] at H
     have c14b0 : decide (x6_1 < (wrap64 (100 + t241))) = false := decide_eq_false c14; clear c14
     by_cases c24 : x241000_1.length < 3518437208883
     ·rw [if_pos c24] at H
      have LMc24 := Aside0.mk c24; clear c24; obtain ⟨y249, hy249⟩ : ∃ y_ : List (S66), y_ = (x241000_1 ++ [(⟨(⟨#[97]⟩ : ByteArray), ([] : List Int)⟩ : S66)]) := ⟨_, rfl⟩
      replace H : (some y249) = some r := by first | (rw [hy249]; with_reducible exact H) | (have H2_ := (Option.bind_some _ _).symm.trans H; rw [hy249]; with_reducible exact H2_) | (have H2_ := (Option.bind_some _ _).symm.trans H; with_reducible exact H2_) | with_reducible exact H | (rw [hy249]; exact H) | exact H
      have Ny249 := Aside0.mk hy249; clear hy249; obtain rfl := Option.some.inj H; have hnb25 := NB240_234.out; have hnc25 := NB234_240.out; have hcz26_0 : wr.cell? ⟨gb240, 0, none⟩ = some (u241000) := (blk_cell BK240.out 0).trans rfl; have hfz26_0 := blk_frozen BK240.out 0
      go_wp2_with (first | ((with_reducible refine gate_builtin (b := .append) (xs := #[.tmp 30, .tmp 32]) rfl ?_); at_builtin; refine Kd.S_append k66 (w0 := w) w.heap.size rfl (.tmp 30) (.tmp 32) 27 66 (.agg #[(.string ⟨#[]⟩), (.slice none 0 0)]) 40 rfl Try.underlying27 info66 rfl (by decide) (by omega) u241000 x241000_1 (⟨(⟨#[97]⟩ : ByteArray), ([] : List Int)⟩ : S66) [.string (⟨#[97]⟩ : ByteArray), .slice none 0 0] (fun _ => True) (fun _ => False) rfl rfl ?aP (fun k_ hk_ => hk_.elim) ?aF ?aO ?aB ?aS ?aL ?_; (case aP => exact k66_mkM _ _ _ (⟨(⟨#[97]⟩ : ByteArray), ([] : List Int)⟩ : S66) (Kd.R_nil _ _ _ _ _)); (case aB => exact (bs2 HB GE234 GE240)); (case aF => exact (fun _ _ => trivial)); (case aO => exact (by (with_reducible repeat (first | apply Kd.S_alloc | apply Kd.S_drewN | apply Kd.S_drew)); exact Kd.S_mono HO_241000.out (fun k_ hk => ⟨trivial, fun e_ => e_⟩))); (case aS => exact (below_size (bs2 HB GE234 GE240))); (case aL => have := LMc24.out; omega); intro v250 w27 ho hb hg hat; rw [← Ny249.out] at ho; have n0_ := Aside0.mk (blk_grown (g := gb234) (o := .cells #[.slice none 0 0] 29 (0, 0)) (bk BK234) hg (Kd.S_ne HO_241000.out BK234.out (by decide))); have n1_ := Aside0.mk (blk_grown (g := gb240) (o := .cells #[u241000] 29 (0, 0)) (bk BK240) hg (Kd.S_ne HO_241000.out BK240.out (by decide))); have n2_ := Aside0.mk (hb); have n3_ := Aside0.mk (ho); clear BK234; clear BK240; clear HB; clear HO_241000; have BK234 := n0_; have BK240 := n1_; have HB := n2_; have HO251 := n3_; clear n0_ n1_ n2_ n3_; clear ho hb hg hat; obtain ⟨Ao28, co28, eo28⟩ := Kd.S_slice HO251.out; subst eo28; have hcz29_0 : w27.cell? ⟨gb240, 0, none⟩ = some (u241000) := (blk_cell BK240.out 0).trans rfl; have hfz29_0 := blk_frozen BK240.out 0; have hcz30_0 : w27.cell? ⟨gb234, 0, none⟩ = some (.slice none 0 0) := (blk_cell BK234.out 0).trans rfl; have hfz30_0 := blk_frozen BK234.out 0))
      refine bodyPost_ret (results_cell_row rfl _ _ gb234 29 #[.slice Ao28 y249.length co28] (0, 0) _ rfl (by refine bd ?_; refine blk_put (cs := #[.slice none 0 0]) ?_ 0 _ rfl; (with_reducible repeat (first | refine blk_drewN ?_ _ | refine blk_drew ?_ | refine blk_alloc ?_ _)); refine blk_far ?_ NB234_240.out _; (with_reducible repeat (first | refine blk_drewN ?_ _ | refine blk_drew ?_ | refine blk_alloc ?_ _)); exact BK234.out) Try.underlying29 rfl (by kernel_rfl)) rfl ?_
      exact ⟨_, by first | rfl | (simp [errW_none, errW_some] <;> rfl) | (simp [*, errW_none, errW_some] <;> rfl), by (with_reducible repeat (first | apply Kd.S_alloc | apply Kd.S_drewN | apply Kd.S_drew)); exact Kd.S_mono (Kd.S_far (p := ⟨gb234, 0, none⟩) (Kd.S_far (p := ⟨gb240, 0, none⟩) (Kd.S_types (Kd.S_types HO251.out BK240.out (by decide)) BK234.out (by decide)) (fun _ hk => hk.1.2) (.slice Ao28 y249.length co28)) (fun _ hk => hk.2) (.slice Ao28 y249.length co28)) (fun _ hk => trivial), bs2 HB GE234 GE240⟩
     ·rw [if_neg c24] at H
      exact absurd H (by simp)
 ·replace c4 := Bool.eq_false_iff.mpr c4
  subst c4
  have H1 : ((spec_l1Rd_tree.f k t235 t239).bind fun bt252 => (some bt252.1)) = some r := by rw [if_neg (show ¬ (false = true) by decide)] at H; exact H
  clear H; have H := H1; clear H1; replace H := Option.bind_eq_some_iff.mp H; obtain ⟨⟨t252, t255⟩, A310, H⟩ := H; replace H : (some t252) = some r := H; have A31 := Aside0.mk A310; clear A310; obtain rfl := Option.some.inj H
  go_enter Try.func34, Try.ntmps34
  go_wp2_with (first | ((with_reducible refine gate_dst (N := 2) rfl ?_); refine be 2 #[.slice none 0 0] 29 ?_; intro gb234 hg w32 hbox hb; have n0_ := Aside0.mk (below_step (bl HB) hb); have n1_ := Aside0.mk (hbox); have n2_ := Aside0.mk (gs HB hg); have n3_ := Aside0.mk (gs HB hg); clear HB; have HB := n0_; have BK234 := n1_; have GW234 := n2_; have GE234 := n3_; clear n0_ n1_ n2_ n3_; clear hb hbox hg) | ((with_reducible refine gate_callee (f := 36) rfl ?_); refine goesL_ (some 8) rfl rfl Try.func36 (by kernel_rfl) rfl #[.slice A0 l0.length c0] rfl ma ?_; (with_reducible refine (spec_l1Open.calls _ _ l0 t235 t236 w _ ?side1 ?side2 ?side3 A2.out).mono ?_); (case side1 => repeat (first | (with_reducible first | exact HB.out | apply below_alloc | apply pw_below_drewN | apply below_drew1 | refine below_set ?_ GE234.out) | exact HB.out)); (case side2 => exact HR0.out); (case side3 => exact HC0.out); rintro e w33 ⟨g237, rfl, hi, hb, hb2⟩; refine ⟨_, rfl, ?_⟩; have n0_ := Aside0.mk (blk_below (g := gb234) (o := .cells #[.slice none 0 0] 29 (0, 0)) (bk BK234) hb2); have n1_ := Aside0.mk (hb); have n2_ := Aside0.mk (hi); have n3_ := Aside0.mk (IsS73.ne_blk hi (blk_below (g := gb234) (o := .cells #[.slice none 0 0] 29 (0, 0)) (bk BK234) hb2) (by decide)); have n4_ := Aside0.mk (Ne.symm (IsS73.ne_blk hi (blk_below (g := gb234) (o := .cells #[.slice none 0 0] 29 (0, 0)) (bk BK234) hb2) (by decide))); clear BK234; clear HB; have BK234 := n0_; have HB := n1_; have HI237 := n2_; have NB237_234 := n3_; have NB234_237 := n4_; clear n0_ n1_ n2_ n3_ n4_; (try clear hb); (try clear hb2); (try clear hk); (try clear hi)) | ((with_reducible refine gate_callee (f := 55) rfl ?_); refine goesL_ (some 10) rfl rfl Try.func55 (by kernel_rfl) rfl #[.pointer (some ⟨g237, 0, none⟩), .int .i64 20] rfl ma ?_; (with_reducible refine (spec_l1Rd_once.calls g237 t235 t236 20 false t239 w _ ?side1 ?side2 A3.out).mono ?_); (case side1 => repeat (first | (with_reducible first | exact HI237.out | apply IsS73.alloc | apply IsS73.drewN | apply IsS73.drew | apply IsS73.set_1 | refine IsS73.far ?_ NB237_234.out _) | exact HI237.out)); (case side2 => repeat (first | (with_reducible first | exact HB.out | apply below_alloc | apply pw_below_drewN | apply below_drew1 | refine below_set ?_ (IsS73.ge HI237.out) | refine below_set ?_ GE234.out) | exact HB.out)); rintro e w34 ⟨rfl, hi, hb, hk⟩; refine ⟨_, rfl, ?_⟩; have n0_ := Aside0.mk (KeepBut.blk hk (g' := gb234) (o := .cells #[.slice none 0 0] 29 (0, 0)) (bk BK234) NB234_237.out (by simp)); have n1_ := Aside0.mk (hb); have n2_ := Aside0.mk (hi); clear BK234; clear HB; clear HI237; have BK234 := n0_; have HB := n1_; have HI237 := n2_; clear n0_ n1_ n2_; (try clear hb); (try clear hb2); (try clear hk); (try clear hi)) | ((with_reducible refine gate_callee (f := 56) rfl ?_); refine goesL_ (some 37) rfl rfl Try.func56 (by kernel_rfl) rfl #[.pointer (some ⟨g237, 0, none⟩)] rfl ma ?_; (with_reducible refine (spec_l1Rd_tree.calls k g237 t235 t239 t252 t255 w _ ?side1 ?side2 A31.out).mono ?_); (case side1 => repeat (first | (with_reducible first | exact HI237.out | apply IsS73.alloc | apply IsS73.drewN | apply IsS73.drew | apply IsS73.set_1 | refine IsS73.far ?_ NB237_234.out _) | exact HI237.out)); (case side2 => repeat (first | (with_reducible first | exact HB.out | apply below_alloc | apply pw_below_drewN | apply below_drew1 | refine below_set ?_ (IsS73.ge HI237.out) | refine below_set ?_ GE234.out) | exact HB.out)); rintro e w35 ⟨v253, rfl, ho0, hi, hb, hk⟩; refine ⟨_, rfl, ?_⟩; have n0_ := Aside0.mk (KeepBut.blk hk (g' := gb234) (o := .cells #[.slice none 0 0] 29 (0, 0)) (bk BK234) NB234_237.out (by simp)); have n1_ := Aside0.mk (Kd.S_lower ho0 (below_size (bs2 HB ⟨IsS73.ge HI237.out⟩ GE234))); have n2_ := Aside0.mk (hb); have n3_ := Aside0.mk (hi); clear BK234; clear HB; clear HI237; have BK234 := n0_; have HO254 := n1_; have HB := n2_; have HI237 := n3_; clear n0_ n1_ n2_ n3_; (try clear hb); (try clear hb2); (try clear hk); (try clear hi); (try clear ho0); obtain ⟨Ao36, co36, eo36⟩ := Kd.S_slice HO254.out; subst eo36; have hnb37 := NB234_237.out; have hnc37 := NB237_234.out; have hcz38_0 : w35.cell? ⟨gb234, 0, none⟩ = some (.slice none 0 0) := (blk_cell BK234.out 0).trans rfl; have hfz38_0 := blk_frozen BK234.out 0))
  refine bodyPost_ret (results_cell_row rfl _ _ gb234 29 #[.slice Ao36 t252.length co36] (0, 0) _ rfl (by refine bd ?_; refine blk_put (cs := #[.slice none 0 0]) ?_ 0 _ rfl; (with_reducible repeat (first | refine blk_drewN ?_ _ | refine blk_drew ?_ | refine blk_alloc ?_ _)); exact BK234.out) Try.underlying29 rfl (by kernel_rfl)) rfl ?_
  exact ⟨_, by first | rfl | (simp [errW_none, errW_some] <;> rfl) | (simp [*, errW_none, errW_some] <;> rfl), by (with_reducible repeat (first | apply Kd.S_alloc | apply Kd.S_drewN | apply Kd.S_drew)); exact Kd.S_mono (Kd.S_far (p := ⟨gb234, 0, none⟩) (Kd.S_types HO254.out BK234.out (by decide)) (fun _ hk => hk.2) (.slice Ao36 t252.length co36)) (fun _ hk => trivial), bs2 HB ⟨IsS73.ge HI237.out⟩ GE234⟩

/-! ### spec_DrawWriteTree: function 16 -/
def spec_DrawWriteTree.f (k : Nat) (l0 : List Int) : Option ((List (S66))) := (spec_DrawTreeOk.f k l0).bind fun t257 => (some t257)
set_option maxHeartbeats 8000000 in
set_option maxRecDepth 100000 in
theorem spec_DrawWriteTree.calls (k : Nat) (A0 : Option Addr) (c0 : Nat) (l0 : List Int) (r : List (S66)) (w : World) (hr0 : Kd.C (Kd.int .u8) w A0 l0.length l0) (hc0 : l0.length ≤ c0) (h : spec_DrawWriteTree.f k l0 = some r) :
  Calls Try.prog 16 #[.slice A0 l0.length c0] w fun e w' => ∃ v0_ : Value, e = .returned (.agg #[v0_]) ∧ Kd.S k66 66 w' w.heap.size (fun _ => True) v0_ r ∧ Below w.heap.size w w' := by
 have hu29 := Try.underlying29; have HR0 := Aside0.mk hr0; have HC0 := Aside0.mk hc0; clear hr0 hc0; have HB := Aside0.mk (Below.refl w.heap.size w); have H : ((spec_DrawTreeOk.f k l0).bind fun t257 => (some t257)) = some r := h; clear h; replace H := Option.bind_eq_some_iff.mp H; obtain ⟨t257, A20, H⟩ := H; replace H : (some t257) = some r := H; have A2 := Aside0.mk A20; clear A20; obtain rfl := Option.some.inj H
 go_enter Try.func16, Try.ntmps16
 go_wp2_with (first | ((with_reducible refine gate_dst (N := 2) rfl ?_); refine be 2 #[.slice none 0 0] 29 ?_; intro gb256 hg w3 hbox hb; have n0_ := Aside0.mk (below_step (bl HB) hb); have n1_ := Aside0.mk (hbox); have n2_ := Aside0.mk (gs HB hg); have n3_ := Aside0.mk (gs HB hg); clear HB; have HB := n0_; have BK256 := n1_; have GW256 := n2_; have GE256 := n3_; clear n0_ n1_ n2_ n3_; clear hb hbox hg) | ((with_reducible refine gate_callee (f := 34) rfl ?_); refine goesL_ (some 4) rfl rfl Try.func34 (by kernel_rfl) rfl #[.slice A0 l0.length c0] rfl ma ?_; (with_reducible refine (spec_DrawTreeOk.calls k _ _ l0 t257 _ ?side1 ?side2 A2.out).mono ?_); (case side1 => exact rc HR0 HB); (case side2 => exact HC0.out); rintro e w4 ⟨v258, rfl, ho0, hb⟩; refine ⟨_, rfl, ?_⟩; have n0_ := Aside0.mk (Kd.S_lower ho0 (below_size (bs HB GE256))); have n1_ := Aside0.mk (blk_below (g := gb256) (o := .cells #[.slice none 0 0] 29 (0, 0)) (bk BK256) hb); have n2_ := Aside0.mk (below_step (bs HB GE256) hb); clear BK256; clear HB; have HO259 := n0_; have BK256 := n1_; have HB := n2_; clear n0_ n1_ n2_; (try clear hb); (try clear hb2); (try clear hk); (try clear hi); (try clear ho0); obtain ⟨Ao5, co5, eo5⟩ := Kd.S_slice HO259.out; subst eo5; have hcz6_0 : w4.cell? ⟨gb256, 0, none⟩ = some (.slice none 0 0) := (blk_cell BK256.out 0).trans rfl; have hfz6_0 := blk_frozen BK256.out 0))
 refine bodyPost_ret (results_cell_row rfl _ _ gb256 29 #[.slice Ao5 t257.length co5] (0, 0) _ rfl (by refine bd ?_; refine blk_put (cs := #[.slice none 0 0]) ?_ 0 _ rfl; (with_reducible repeat (first | refine blk_drewN ?_ _ | refine blk_drew ?_ | refine blk_alloc ?_ _)); exact BK256.out) Try.underlying29 rfl (by kernel_rfl)) rfl ?_
 exact ⟨_, by first | rfl | (simp [errW_none, errW_some] <;> rfl) | (simp [*, errW_none, errW_some] <;> rfl), by (with_reducible repeat (first | apply Kd.S_alloc | apply Kd.S_drewN | apply Kd.S_drew)); exact Kd.S_mono (Kd.S_far (p := ⟨gb256, 0, none⟩) (Kd.S_types HO259.out BK256.out (by decide)) (fun _ hk => hk.2) (.slice Ao5 t257.length co5)) (fun _ hk => trivial), bs HB GE256⟩

/-! ### laws_sameInts: function 35 -/
def laws_sameInts.l0 : Nat → List Int → List Int → Int → Option (Bool)
 | 0, _, _, _ => none
 | k + 1, x0, x1, x5 => if x5 < (x0.length : Int) then (if 0 ≤ x5 then (if x5 < (x1.length : Int) then (if (rd x0 x5) = (rd x1 x5) then (laws_sameInts.l0 k x0 x1 (wrap64 (x5 + 1))) else (some false)) else (none)) else (none)) else (some true)
def laws_sameInts.f (k : Nat) (l0 : List Int) (l1 : List Int) : Option (Bool) := if (l0.length : Int) = (l1.length : Int) then (laws_sameInts.l0 k l0 l1 0) else (some false)
set_option maxHeartbeats 8000000 in
set_option maxRecDepth 100000 in
theorem laws_sameInts.calls (k : Nat) (A0 : Option Addr) (c0 : Nat) (l0 : List Int) (A1 : Option Addr) (c1 : Nat) (l1 : List Int) (r : Bool) (w : World) (hr0 : Kd.C (Kd.int .i64) w A0 l0.length l0) (hc0 : l0.length ≤ c0) (hr1 : Kd.C (Kd.int .i64) w A1 l1.length l1) (hc1 : l1.length ≤ c1) (h : laws_sameInts.f k l0 l1 = some r) :
  Calls Try.prog 35 #[.slice A0 l0.length c0, .slice A1 l1.length c1] w fun e w' => e = .returned (.bool r) ∧ Drawn0 w w' := by
 have HR0 := Aside0.mk hr0; have HC0 := Aside0.mk hc0; clear hr0 hc0; have HR1 := Aside0.mk hr1; have HC1 := Aside0.mk hc1; clear hr1 hc1; have H : (if (l0.length : Int) = (l1.length : Int) then (laws_sameInts.l0 k l0 l1 0) else (some false)) = some r := h; clear h
 by_cases c3 : (l0.length : Int) = (l1.length : Int)
 ·rw [if_pos c3] at H
  have c3b0 : ((l0.length : Int) == (l1.length : Int)) = true := beq_iff_eq.mpr c3; have c3b1 : ((l0.length : Int) != (l1.length : Int)) = false := bne_eq_false_iff_eq.mpr c3
  have c3b2 : (l0.length == l1.length) = true := by first | simpa using c3 | (simp at c3 ⊢; omega)
  clear c3; have H' := Aside0.mk H; clear H
  go_enter Try.func35, Try.ntmps35
  go_wp2
  repeat (go_quiet (fail); try go_wp2)
  go_loopg [5] k (fun kq v5 w' => ∃ (x5_1 : Int), v5 = .int .i64 x5_1 ∧ Aside0 (laws_sameInts.l0 kq l0 l1 x5_1 = some r) ∧ Aside0 (kq ≤ k) ∧ Drawn0 w w')
  case atStart => exact ⟨(0), au, H', ⟨Nat.le_refl _⟩, dr⟩
  case round =>
   clear H'
   try clear c1
   try clear p2
   try clear c3
   try clear c3b0
   try clear c3b1
   try clear c3b2
   obtain ⟨x5_1, rfl, HA, HK1, ⟨m1, rfl⟩⟩ := hrel
   cases gk with
   | zero => exact absurd HA.out (by simp [laws_sameInts.l0])
   | succ k1 =>
    have H := HA.out; clear HA
    simp only [laws_sameInts.l0] at H
    by_cases c4 : x5_1 < (l0.length : Int)
    ·rw [if_pos c4] at H
     have c4b0 : decide (x5_1 < (l0.length : Int)) = true := decide_eq_true c4; clear c4
     by_cases c5 : 0 ≤ x5_1
     ·rw [if_pos c5] at H
      have c5b0 : decide (0 ≤ x5_1) = true := decide_eq_true c5; clear c5
      by_cases c6 : x5_1 < (l1.length : Int)
      ·rw [if_pos c6] at H
       have c6b0 : decide (x5_1 < (l1.length : Int)) = true := decide_eq_true c6; clear c6
       by_cases c7 : (rd l0 x5_1) = (rd l1 x5_1)
       ·rw [if_pos c7] at H
        have c7b0 : ((rd l0 x5_1) == (rd l1 x5_1)) = true := beq_iff_eq.mpr c7; have c7b1 : ((rd l0 x5_1) != (rd l1 x5_1)) = false := bne_eq_false_iff_eq.mpr c7; clear c7; have H' := Aside0.mk H; clear H; have p260 : 0 ≤ (x5_1 : Int) := ode; have q260 : x5_1 < (l0.length : Int) := ode; obtain ⟨ad260, e260, hx260_0⟩ := Kd.at_int HR0.out x5_1 p260 q260
        cases e260
        replace p260 := eq_true p260; replace q260 := eq_true q260; have p261 : 0 ≤ (x5_1 : Int) := ode; have q261 : x5_1 < (l1.length : Int) := ode; obtain ⟨ad261, e261, hx261_0⟩ := Kd.at_int HR1.out x5_1 p261 q261
        cases e261
        replace p261 := eq_true p261; replace q261 := eq_true q261
        go_wp2
        repeat (go_quiet (fail); try go_wp2)
        go_roundg k1
        case measure => have := HK1.out; omega
        case rel => exact ⟨(wrap64 (x5_1 + 1)), au, H', ⟨by have := HK1.out; omega⟩, dr⟩
       ·rw [if_neg c7] at H
        have c7b0 : ((rd l0 x5_1) == (rd l1 x5_1)) = false := beq_eq_false_iff_ne.mpr c7; have c7b1 : ((rd l0 x5_1) != (rd l1 x5_1)) = true := bne_iff_ne.mpr c7; obtain rfl := Option.some.inj H; have p260 : 0 ≤ (x5_1 : Int) := ode; have q260 : x5_1 < (l0.length : Int) := ode; obtain ⟨ad260, e260, hx260_0⟩ := Kd.at_int HR0.out x5_1 p260 q260
        cases e260
        replace p260 := eq_true p260; replace q260 := eq_true q260; have p261 : 0 ≤ (x5_1 : Int) := ode; have q261 : x5_1 < (l1.length : Int) := ode; obtain ⟨ad261, e261, hx261_0⟩ := Kd.at_int HR1.out x5_1 p261 q261
        cases e261
        replace p261 := eq_true p261; replace q261 := eq_true q261
        go_wp2
        repeat (go_quiet (fail); try go_wp2)
        go_ret
        exact ⟨au, dr⟩
      ·rw [if_neg c6] at H
       exact absurd H (by simp)
     ·rw [if_neg c5] at H
      exact absurd H (by simp)
    ·rw [if_neg c4] at H
     have c4b0 : decide (x5_1 < (l0.length : Int)) = false := decide_eq_false c4; clear c4; obtain rfl := Option.some.inj H
     go_wp2
     repeat (go_quiet (fail); try go_wp2)
     go_ret
     exact ⟨au, dr⟩
 ·rw [if_neg c3] at H
  have c3b0 : ((l0.length : Int) == (l1.length : Int)) = false := beq_eq_false_iff_ne.mpr c3; have c3b1 : ((l0.length : Int) != (l1.length : Int)) = true := bne_iff_ne.mpr c3
  have c3b2 : (l0.length == l1.length) = false := by first | simpa using c3 | (simp at c3 ⊢; omega)
  obtain rfl := Option.some.inj H
  go_enter Try.func35, Try.ntmps35
  go_wp2
  repeat (go_quiet (fail); try go_wp2)
  go_ret
  exact ⟨au, dr⟩

/-! ### laws_sameTree: function 17 -/
def laws_sameTree.l0 : Nat → Int → List (S66) → List (S66) → Option (Bool)
 | 0, _, _, _ => none
 | k + 1, x5, x263000, x264000 => if x5 < (x263000.length : Int) then (if 0 ≤ x5 then (if x5 < (x264000.length : Int) then (if ((rd_T66 x263000 x5).f0).toList = ((rd_T66 x264000 x5).f0).toList then ((laws_sameInts.f k ((rd_T66 x263000 x5).f1) ((rd_T66 x264000 x5).f1)).bind fun t268 => (if t268 = true then (laws_sameTree.l0 k (wrap64 (x5 + 1)) x263000 x264000) else (some false))) else (some false)) else (none)) else (none)) else (some true)
def laws_sameTree.f (k : Nat) (l0_0 : List (S66)) (l1_0 : List (S66)) : Option (Bool) := if (l0_0.length : Int) = (l1_0.length : Int) then (laws_sameTree.l0 k 0 l0_0 l1_0) else (some false)
set_option maxHeartbeats 8000000 in
set_option maxRecDepth 100000 in
theorem laws_sameTree.calls (k : Nat) (A0_0 : Option Addr) (c0_0 : Nat) (l0_0 : List (S66)) (A1_0 : Option Addr) (c1_0 : Nat) (l1_0 : List (S66)) (r : Bool) (w : World) (hr0_0 : Kd.C k66 w A0_0 l0_0.length l0_0) (hc0_0 : l0_0.length ≤ c0_0) (hr1_0 : Kd.C k66 w A1_0 l1_0.length l1_0) (hc1_0 : l1_0.length ≤ c1_0) (h : laws_sameTree.f k l0_0 l1_0 = some r) :
  Calls Try.prog 17 #[.agg #[.slice A0_0 l0_0.length c0_0], .agg #[.slice A1_0 l1_0.length c1_0]] w fun e w' => e = .returned (.bool r) ∧ Below w.heap.size w w' := by
 have hu29 := Try.underlying29; have HR0_0 := Aside0.mk hr0_0; have HC0_0 := Aside0.mk hc0_0; clear hr0_0 hc0_0; have HR1_0 := Aside0.mk hr1_0; have HC1_0 := Aside0.mk hc1_0; clear hr1_0 hc1_0; have HB := Aside0.mk (Below.refl w.heap.size w); have H : (if (l0_0.length : Int) = (l1_0.length : Int) then (laws_sameTree.l0 k 0 l0_0 l1_0) else (some false)) = some r := h; clear h
 by_cases c3 : (l0_0.length : Int) = (l1_0.length : Int)
 ·rw [if_pos c3] at H
  have c3b0 : ((l0_0.length : Int) == (l1_0.length : Int)) = true := beq_iff_eq.mpr c3; have c3b1 : ((l0_0.length : Int) != (l1_0.length : Int)) = false := bne_eq_false_iff_eq.mpr c3
  have c3b2 : (l0_0.length == l1_0.length) = true := by first | simpa using c3 | (simp at c3 ⊢; omega)
  clear c3; have H' := Aside0.mk H; clear H
  go_enter Try.func17, Try.ntmps17
  go_wp2_with (first | ((with_reducible refine gate_dst (N := 2) rfl ?_); refine be 2 #[.slice A0_0 l0_0.length c0_0] 29 ?_; intro gb262 hg w4 hbox hb; have n0_ := Aside0.mk (below_step (bl HB) hb); have n1_ := Aside0.mk (hbox); have n2_ := Aside0.mk (gs HB hg); have n3_ := Aside0.mk (gs HB hg); clear HB; have HB := n0_; have BK262 := n1_; have GW262 := n2_; have GE262 := n3_; clear n0_ n1_ n2_ n3_; clear hb hbox hg) | ((with_reducible refine gate_dst (N := 3) rfl ?_); refine be 3 #[.slice A1_0 l1_0.length c1_0] 29 ?_; intro gb263 hg w5 hbox hb; have n0_ := Aside0.mk (blk_below (g := gb262) (o := .cells #[.slice A0_0 l0_0.length c0_0] 29 (0, 0)) (bk BK262) hb); have n1_ := Aside0.mk (below_step (bs HB GE262) hb); have n2_ := Aside0.mk (hbox); have n3_ := Aside0.mk ((by rw [hg]; exact (below_size (bs HB GE262)) : w.heap.size ≤ gb263)); have n4_ := Aside0.mk ((by rw [hg]; exact (below_size (bs HB GE262)) : w.heap.size ≤ gb263)); have n5_ := Aside0.mk ((by rw [hg]; exact Nat.ne_of_lt (blk_lt (g := gb262) (o := .cells #[.slice A0_0 l0_0.length c0_0] 29 (0, 0)) (bk BK262)) : gb262 ≠ gb263)); have n6_ := Aside0.mk ((by rw [hg]; exact Nat.ne_of_gt (blk_lt (g := gb262) (o := .cells #[.slice A0_0 l0_0.length c0_0] 29 (0, 0)) (bk BK262)) : gb263 ≠ gb262)); clear BK262; clear HB; have BK262 := n0_; have HB := n1_; have BK263 := n2_; have GW263 := n3_; have GE263 := n4_; have NB262_263 := n5_; have NB263_262 := n6_; clear n0_ n1_ n2_ n3_ n4_ n5_ n6_; clear hb hbox hg; have hnb6 := NB262_263.out; have hnc6 := NB263_262.out; have hcz7_0 : w5.cell? ⟨gb262, 0, none⟩ = some (.slice A0_0 l0_0.length c0_0) := (blk_cell BK262.out 0).trans rfl; have hfz7_0 := blk_frozen BK262.out 0; have hcz8_0 : w5.cell? ⟨gb263, 0, none⟩ = some (.slice A1_0 l1_0.length c1_0) := (blk_cell BK263.out 0).trans rfl; have hfz8_0 := blk_frozen BK263.out 0))
  repeat (go_quiet (first | ((with_reducible refine gate_dst (N := 2) rfl ?_); refine be 2 #[.slice A0_0 l0_0.length c0_0] 29 ?_; intro gb262 hg w4 hbox hb; have n0_ := Aside0.mk (below_step (bl HB) hb); have n1_ := Aside0.mk (hbox); have n2_ := Aside0.mk (gs HB hg); have n3_ := Aside0.mk (gs HB hg); clear HB; have HB := n0_; have BK262 := n1_; have GW262 := n2_; have GE262 := n3_; clear n0_ n1_ n2_ n3_; clear hb hbox hg) | ((with_reducible refine gate_dst (N := 3) rfl ?_); refine be 3 #[.slice A1_0 l1_0.length c1_0] 29 ?_; intro gb263 hg w5 hbox hb; have n0_ := Aside0.mk (blk_below (g := gb262) (o := .cells #[.slice A0_0 l0_0.length c0_0] 29 (0, 0)) (bk BK262) hb); have n1_ := Aside0.mk (below_step (bs HB GE262) hb); have n2_ := Aside0.mk (hbox); have n3_ := Aside0.mk ((by rw [hg]; exact (below_size (bs HB GE262)) : w.heap.size ≤ gb263)); have n4_ := Aside0.mk ((by rw [hg]; exact (below_size (bs HB GE262)) : w.heap.size ≤ gb263)); have n5_ := Aside0.mk ((by rw [hg]; exact Nat.ne_of_lt (blk_lt (g := gb262) (o := .cells #[.slice A0_0 l0_0.length c0_0] 29 (0, 0)) (bk BK262)) : gb262 ≠ gb263)); have n6_ := Aside0.mk ((by rw [hg]; exact Nat.ne_of_gt (blk_lt (g := gb262) (o := .cells #[.slice A0_0 l0_0.length c0_0] 29 (0, 0)) (bk BK262)) : gb263 ≠ gb262)); clear BK262; clear HB; have BK262 := n0_; have HB := n1_; have BK263 := n2_; have GW263 := n3_; have GE263 := n4_; have NB262_263 := n5_; have NB263_262 := n6_; clear n0_ n1_ n2_ n3_ n4_ n5_ n6_; clear hb hbox hg; have hnb6 := NB262_263.out; have hnc6 := NB263_262.out; have hcz7_0 : w5.cell? ⟨gb262, 0, none⟩ = some (.slice A0_0 l0_0.length c0_0) := (blk_cell BK262.out 0).trans rfl; have hfz7_0 := blk_frozen BK262.out 0; have hcz8_0 : w5.cell? ⟨gb263, 0, none⟩ = some (.slice A1_0 l1_0.length c1_0) := (blk_cell BK263.out 0).trans rfl; have hfz8_0 := blk_frozen BK263.out 0)); try go_wp2_with (first | ((with_reducible refine gate_dst (N := 2) rfl ?_); refine be 2 #[.slice A0_0 l0_0.length c0_0] 29 ?_; intro gb262 hg w4 hbox hb; have n0_ := Aside0.mk (below_step (bl HB) hb); have n1_ := Aside0.mk (hbox); have n2_ := Aside0.mk (gs HB hg); have n3_ := Aside0.mk (gs HB hg); clear HB; have HB := n0_; have BK262 := n1_; have GW262 := n2_; have GE262 := n3_; clear n0_ n1_ n2_ n3_; clear hb hbox hg) | ((with_reducible refine gate_dst (N := 3) rfl ?_); refine be 3 #[.slice A1_0 l1_0.length c1_0] 29 ?_; intro gb263 hg w5 hbox hb; have n0_ := Aside0.mk (blk_below (g := gb262) (o := .cells #[.slice A0_0 l0_0.length c0_0] 29 (0, 0)) (bk BK262) hb); have n1_ := Aside0.mk (below_step (bs HB GE262) hb); have n2_ := Aside0.mk (hbox); have n3_ := Aside0.mk ((by rw [hg]; exact (below_size (bs HB GE262)) : w.heap.size ≤ gb263)); have n4_ := Aside0.mk ((by rw [hg]; exact (below_size (bs HB GE262)) : w.heap.size ≤ gb263)); have n5_ := Aside0.mk ((by rw [hg]; exact Nat.ne_of_lt (blk_lt (g := gb262) (o := .cells #[.slice A0_0 l0_0.length c0_0] 29 (0, 0)) (bk BK262)) : gb262 ≠ gb263)); have n6_ := Aside0.mk ((by rw [hg]; exact Nat.ne_of_gt (blk_lt (g := gb262) (o := .cells #[.slice A0_0 l0_0.length c0_0] 29 (0, 0)) (bk BK262)) : gb263 ≠ gb262)); clear BK262; clear HB; have BK262 := n0_; have HB := n1_; have BK263 := n2_; have GW263 := n3_; have GE263 := n4_; have NB262_263 := n5_; have NB263_262 := n6_; clear n0_ n1_ n2_ n3_ n4_ n5_ n6_; clear hb hbox hg; have hnb6 := NB262_263.out; have hnc6 := NB263_262.out; have hcz7_0 : w5.cell? ⟨gb262, 0, none⟩ = some (.slice A0_0 l0_0.length c0_0) := (blk_cell BK262.out 0).trans rfl; have hfz7_0 := blk_frozen BK262.out 0; have hcz8_0 : w5.cell? ⟨gb263, 0, none⟩ = some (.slice A1_0 l1_0.length c1_0) := (blk_cell BK263.out 0).trans rfl; have hfz8_0 := blk_frozen BK263.out 0)))
  go_loopg [5] k (fun kq v5 w' => ∃ (x5_1 : Int), v5 = .int .i64 x5_1 ∧ Aside0 (laws_sameTree.l0 kq x5_1 l0_0 l1_0 = some r) ∧ Aside0 (kq ≤ k) ∧ Aside0 (w'.heap[gb262]? = some (.cells #[(.slice A0_0 l0_0.length c0_0)] 29 (0, 0))) ∧ Aside0 (w'.heap[gb263]? = some (.cells #[(.slice A1_0 l1_0.length c1_0)] 29 (0, 0))) ∧ Aside0 (Below w.heap.size w w'))
  case atStart => exact ⟨(0), au, H', ⟨Nat.le_refl _⟩, ⟨bk BK262⟩, ⟨bk BK263⟩, ⟨bs2 HB GE262 GE263⟩⟩
  case round =>
   clear H'
   try clear c1
   try clear p2
   try clear c3
   try clear c3b0
   try clear c3b1
   try clear c3b2
   try clear c6
   try clear hcz7_0
   try clear hcz8_0
   try clear hfz7_0
   try clear hfz8_0
   obtain ⟨x5_1, rfl, HA, HK1, BK262, BK263, HB⟩ := hrel
   cases gk with
   | zero => exact absurd HA.out (by simp [laws_sameTree.l0])
   | succ k1 =>
    have H := HA.out; clear HA
    simp only [laws_sameTree.l0] at H
    by_cases c9 : x5_1 < (l0_0.length : Int)
    ·rw [if_pos c9] at H
     have c9b0 : decide (x5_1 < (l0_0.length : Int)) = true := decide_eq_true c9; clear c9
     by_cases c10 : 0 ≤ x5_1
     ·rw [if_pos c10] at H
      have c10b0 : decide (0 ≤ x5_1) = true := decide_eq_true c10; clear c10
      by_cases c11 : x5_1 < (l1_0.length : Int)
      ·rw [if_pos c11] at H
       have c11b0 : decide (x5_1 < (l1_0.length : Int)) = true := decide_eq_true c11; clear c11
       by_cases c12 : ((rd_T66 l0_0 x5_1).f0).toList = ((rd_T66 l1_0 x5_1).f0).toList
       ·rw [if_pos c12] at H
        have c12b0 : (((rd_T66 l0_0 x5_1).f0).toList == ((rd_T66 l1_0 x5_1).f0).toList) = true := beq_iff_eq.mpr c12; have c12b1 : (((rd_T66 l0_0 x5_1).f0).toList != ((rd_T66 l1_0 x5_1).f0).toList) = false := bne_eq_false_iff_eq.mpr c12; clear c12; replace H := Option.bind_eq_some_iff.mp H; obtain ⟨t268, A130, H⟩ := H; replace H : (if t268 = true then (laws_sameTree.l0 k1 (wrap64 (x5_1 + 1)) l0_0 l1_0) else (some false)) = some r := H; have A13 := Aside0.mk A130; clear A130
        by_cases c14 : t268 = true
        ·subst c14
         have H1 : (laws_sameTree.l0 k1 (wrap64 (x5_1 + 1)) l0_0 l1_0) = some r := by rw [if_pos rfl] at H; exact H
         clear H; have H := H1; clear H1; have H' := Aside0.mk H; clear H; have hnb15 := NB262_263.out; have hnc15 := NB263_262.out; have hcz16_0 : wr.cell? ⟨gb262, 0, none⟩ = some (.slice A0_0 l0_0.length c0_0) := (blk_cell BK262.out 0).trans rfl; have hfz16_0 := blk_frozen BK262.out 0; have p264 : 0 ≤ (x5_1 : Int) := ode; have q264 : x5_1 < (l0_0.length : Int) := ode; obtain ⟨ad264, A264_1, c264_1, e264, hx264_0, hx264_1, hl264_1, hi264_1⟩ := at_T66 HR0_0.out x5_1 p264 q264
         cases e264
         replace hx264_0 := cl HB hx264_0; replace hx264_1 := cl HB hx264_1; have HR264_1 := Aside0.mk hi264_1; have HC264_1 := Aside0.mk hl264_1; clear hi264_1 hl264_1; replace p264 := eq_true p264; replace q264 := eq_true q264; have hcz17_0 : wr.cell? ⟨gb263, 0, none⟩ = some (.slice A1_0 l1_0.length c1_0) := (blk_cell BK263.out 0).trans rfl; have hfz17_0 := blk_frozen BK263.out 0; have p265 : 0 ≤ (x5_1 : Int) := ode; have q265 : x5_1 < (l1_0.length : Int) := ode; obtain ⟨ad265, A265_1, c265_1, e265, hx265_0, hx265_1, hl265_1, hi265_1⟩ := at_T66 HR1_0.out x5_1 p265 q265
         cases e265
         replace hx265_0 := cl HB hx265_0; replace hx265_1 := cl HB hx265_1; have HR265_1 := Aside0.mk hi265_1; have HC265_1 := Aside0.mk hl265_1; clear hi265_1 hl265_1; replace p265 := eq_true p265; replace q265 := eq_true q265; have p266 : 0 ≤ (x5_1 : Int) := ode; have q266 : x5_1 < (l0_0.length : Int) := ode; obtain ⟨ad266, A266_1, c266_1, e266, hx266_0, hx266_1, hl266_1, hi266_1⟩ := at_T66 HR0_0.out x5_1 p266 q266; obtain rfl : ad264 = ad266 := (by injection e266); replace hx266_0 := cl HB hx266_0; replace hx266_1 := cl HB hx266_1; have HR266_1 := Aside0.mk hi266_1; have HC266_1 := Aside0.mk hl266_1; clear hi266_1 hl266_1; replace p266 := eq_true p266; replace q266 := eq_true q266; have ea_ := Option.some.inj (hx264_1.symm.trans hx266_1)
         injection ea_ with ea_ en_ ec_
         subst ea_
         subst ec_
         clear en_; have p267 : 0 ≤ (x5_1 : Int) := ode; have q267 : x5_1 < (l1_0.length : Int) := ode; obtain ⟨ad267, A267_1, c267_1, e267, hx267_0, hx267_1, hl267_1, hi267_1⟩ := at_T66 HR1_0.out x5_1 p267 q267; obtain rfl : ad265 = ad267 := (by injection e267); replace hx267_0 := cl HB hx267_0; replace hx267_1 := cl HB hx267_1; have HR267_1 := Aside0.mk hi267_1; have HC267_1 := Aside0.mk hl267_1; clear hi267_1 hl267_1; replace p267 := eq_true p267; replace q267 := eq_true q267; have ea_ := Option.some.inj (hx265_1.symm.trans hx267_1)
         injection ea_ with ea_ en_ ec_
         subst ea_
         subst ec_
         clear en_
         go_wp2_with (first | (go_at_call 35; (with_reducible refine (laws_sameInts.calls k1 _ _ ((rd_T66 l0_0 x5_1).f1) _ _ ((rd_T66 l1_0 x5_1).f1) true _ ?side1 ?side2 ?side3 ?side4 A13.out).mono ?_); (case side1 => exact rc HR266_1 HB); (case side2 => exact HC266_1.out); (case side3 => exact rc HR267_1 HB); (case side4 => exact HC267_1.out); rintro e w' ⟨rfl, ⟨nd, rfl⟩⟩; (try exact dd)))
         repeat (go_quiet (first | (go_at_call 35; (with_reducible refine (laws_sameInts.calls k1 _ _ ((rd_T66 l0_0 x5_1).f1) _ _ ((rd_T66 l1_0 x5_1).f1) true _ ?side1 ?side2 ?side3 ?side4 A13.out).mono ?_); (case side1 => exact rc HR266_1 HB); (case side2 => exact HC266_1.out); (case side3 => exact rc HR267_1 HB); (case side4 => exact HC267_1.out); rintro e w' ⟨rfl, ⟨nd, rfl⟩⟩; (try exact dd))); try go_wp2_with (first | (go_at_call 35; (with_reducible refine (laws_sameInts.calls k1 _ _ ((rd_T66 l0_0 x5_1).f1) _ _ ((rd_T66 l1_0 x5_1).f1) true _ ?side1 ?side2 ?side3 ?side4 A13.out).mono ?_); (case side1 => exact rc HR266_1 HB); (case side2 => exact HC266_1.out); (case side3 => exact rc HR267_1 HB); (case side4 => exact HC267_1.out); rintro e w' ⟨rfl, ⟨nd, rfl⟩⟩; (try exact dd))))
         go_roundg k1
         case measure => have := HK1.out; omega
         case rel => exact ⟨(wrap64 (x5_1 + 1)), au, H', ⟨by have := HK1.out; omega⟩, ⟨bk BK262⟩, ⟨bk BK263⟩, ⟨bs2 HB GE262 GE263⟩⟩
        ·replace c14 := Bool.eq_false_iff.mpr c14
         subst c14
         have H1 : (some false) = some r := by rw [if_neg (show ¬ (false = true) by decide)] at H; exact H
         clear H; have H := H1; clear H1; obtain rfl := Option.some.inj H; have hnb18 := NB262_263.out; have hnc18 := NB263_262.out; have hcz19_0 : wr.cell? ⟨gb262, 0, none⟩ = some (.slice A0_0 l0_0.length c0_0) := (blk_cell BK262.out 0).trans rfl; have hfz19_0 := blk_frozen BK262.out 0; have p264 : 0 ≤ (x5_1 : Int) := ode; have q264 : x5_1 < (l0_0.length : Int) := ode; obtain ⟨ad264, A264_1, c264_1, e264, hx264_0, hx264_1, hl264_1, hi264_1⟩ := at_T66 HR0_0.out x5_1 p264 q264
         cases e264
         replace hx264_0 := cl HB hx264_0; replace hx264_1 := cl HB hx264_1; have HR264_1 := Aside0.mk hi264_1; have HC264_1 := Aside0.mk hl264_1; clear hi264_1 hl264_1; replace p264 := eq_true p264; replace q264 := eq_true q264; have hcz20_0 : wr.cell? ⟨gb263, 0, none⟩ = some (.slice A1_0 l1_0.length c1_0) := (blk_cell BK263.out 0).trans rfl; have hfz20_0 := blk_frozen BK263.out 0; have p265 : 0 ≤ (x5_1 : Int) := ode; have q265 : x5_1 < (l1_0.length : Int) := ode; obtain ⟨ad265, A265_1, c265_1, e265, hx265_0, hx265_1, hl265_1, hi265_1⟩ := at_T66 HR1_0.out x5_1 p265 q265
         cases e265
         replace hx265_0 := cl HB hx265_0; replace hx265_1 := cl HB hx265_1; have HR265_1 := Aside0.mk hi265_1; have HC265_1 := Aside0.mk hl265_1; clear hi265_1 hl265_1; replace p265 := eq_true p265; replace q265 := eq_true q265; have p266 : 0 ≤ (x5_1 : Int) := ode; have q266 : x5_1 < (l0_0.length : Int) := ode; obtain ⟨ad266, A266_1, c266_1, e266, hx266_0, hx266_1, hl266_1, hi266_1⟩ := at_T66 HR0_0.out x5_1 p266 q266; obtain rfl : ad264 = ad266 := (by injection e266); replace hx266_0 := cl HB hx266_0; replace hx266_1 := cl HB hx266_1; have HR266_1 := Aside0.mk hi266_1; have HC266_1 := Aside0.mk hl266_1; clear hi266_1 hl266_1; replace p266 := eq_true p266; replace q266 := eq_true q266; have ea_ := Option.some.inj (hx264_1.symm.trans hx266_1)
         injection ea_ with ea_ en_ ec_
         subst ea_
         subst ec_
         clear en_; have p267 : 0 ≤ (x5_1 : Int) := ode; have q267 : x5_1 < (l1_0.length : Int) := ode; obtain ⟨ad267, A267_1, c267_1, e267, hx267_0, hx267_1, hl267_1, hi267_1⟩ := at_T66 HR1_0.out x5_1 p267 q267; obtain rfl : ad265 = ad267 := (by injection e267); replace hx267_0 := cl HB hx267_0; replace hx267_1 := cl HB hx267_1; have HR267_1 := Aside0.mk hi267_1; have HC267_1 := Aside0.mk hl267_1; clear hi267_1 hl267_1; replace p267 := eq_true p267; replace q267 := eq_true q267; have ea_ := Option.some.inj (hx265_1.symm.trans hx267_1)
         injection ea_ with ea_ en_ ec_
         subst ea_
         subst ec_
         clear en_
         go_wp2_with (first | (go_at_call 35; (with_reducible refine (laws_sameInts.calls k1 _ _ ((rd_T66 l0_0 x5_1).f1) _ _ ((rd_T66 l1_0 x5_1).f1) false _ ?side1 ?side2 ?side3 ?side4 A13.out).mono ?_); (case side1 => exact rc HR266_1 HB); (case side2 => exact HC266_1.out); (case side3 => exact rc HR267_1 HB); (case side4 => exact HC267_1.out); rintro e w' ⟨rfl, ⟨nd, rfl⟩⟩; (try exact dd)))
         repeat (go_quiet (first | (go_at_call 35; (with_reducible refine (laws_sameInts.calls k1 _ _ ((rd_T66 l0_0 x5_1).f1) _ _ ((rd_T66 l1_0 x5_1).f1) false _ ?side1 ?side2 ?side3 ?side4 A13.out).mono ?_); (case side1 => exact rc HR266_1 HB); (case side2 => exact HC266_1.out); (case side3 => exact rc HR267_1 HB); (case side4 => exact HC267_1.out); rintro e w' ⟨rfl, ⟨nd, rfl⟩⟩; (try exact dd))); try go_wp2_with (first | (go_at_call 35; (with_reducible refine (laws_sameInts.calls k1 _ _ ((rd_T66 l0_0 x5_1).f1) _ _ ((rd_T66 l1_0 x5_1).f1) false _ ?side1 ?side2 ?side3 ?side4 A13.out).mono ?_); (case side1 => exact rc HR266_1 HB); (case side2 => exact HC266_1.out); (case side3 => exact rc HR267_1 HB); (case side4 => exact HC267_1.out); rintro e w' ⟨rfl, ⟨nd, rfl⟩⟩; (try exact dd))))
         go_ret
         exact ⟨by first | rfl | (simp [errW_none, errW_some] <;> rfl) | (simp [*, errW_none, errW_some] <;> rfl), bs2 HB GE262 GE263⟩
       ·rw [if_neg c12] at H
        have c12b0 : (((rd_T66 l0_0 x5_1).f0).toList == ((rd_T66 l1_0 x5_1).f0).toList) = false := beq_eq_false_iff_ne.mpr c12; have c12b1 : (((rd_T66 l0_0 x5_1).f0).toList != ((rd_T66 l1_0 x5_1).f0).toList) = true := bne_iff_ne.mpr c12; obtain rfl := Option.some.inj H; have hnb21 := NB262_263.out; have hnc21 := NB263_262.out; have hcz22_0 : wr.cell? ⟨gb262, 0, none⟩ = some (.slice A0_0 l0_0.length c0_0) := (blk_cell BK262.out 0).trans rfl; have hfz22_0 := blk_frozen BK262.out 0; have p264 : 0 ≤ (x5_1 : Int) := ode; have q264 : x5_1 < (l0_0.length : Int) := ode; obtain ⟨ad264, A264_1, c264_1, e264, hx264_0, hx264_1, hl264_1, hi264_1⟩ := at_T66 HR0_0.out x5_1 p264 q264
        cases e264
        replace hx264_0 := cl HB hx264_0; replace hx264_1 := cl HB hx264_1; have HR264_1 := Aside0.mk hi264_1; have HC264_1 := Aside0.mk hl264_1; clear hi264_1 hl264_1; replace p264 := eq_true p264; replace q264 := eq_true q264; have hcz23_0 : wr.cell? ⟨gb263, 0, none⟩ = some (.slice A1_0 l1_0.length c1_0) := (blk_cell BK263.out 0).trans rfl; have hfz23_0 := blk_frozen BK263.out 0; have p265 : 0 ≤ (x5_1 : Int) := ode; have q265 : x5_1 < (l1_0.length : Int) := ode; obtain ⟨ad265, A265_1, c265_1, e265, hx265_0, hx265_1, hl265_1, hi265_1⟩ := at_T66 HR1_0.out x5_1 p265 q265
        cases e265
        replace hx265_0 := cl HB hx265_0; replace hx265_1 := cl HB hx265_1; have HR265_1 := Aside0.mk hi265_1; have HC265_1 := Aside0.mk hl265_1; clear hi265_1 hl265_1; replace p265 := eq_true p265; replace q265 := eq_true q265
        go_wp2
        repeat (go_quiet (fail); try go_wp2)
        go_ret
        exact ⟨by first | rfl | (simp [errW_none, errW_some] <;> rfl) | (simp [*, errW_none, errW_some] <;> rfl), bs2 HB GE262 GE263⟩
      ·rw [if_neg c11] at H
       exact absurd H (by simp)
     ·rw [if_neg c10] at H
      exact absurd H (by simp)
    ·rw [if_neg c9] at H
     have c9b0 : decide (x5_1 < (l0_0.length : Int)) = false := decide_eq_false c9; clear c9; obtain rfl := Option.some.inj H; have hnb24 := NB262_263.out; have hnc24 := NB263_262.out; have hcz25_0 : wr.cell? ⟨gb262, 0, none⟩ = some (.slice A0_0 l0_0.length c0_0) := (blk_cell BK262.out 0).trans rfl; have hfz25_0 := blk_frozen BK262.out 0
     go_wp2
     repeat (go_quiet (fail); try go_wp2)
     go_ret
     exact ⟨by first | rfl | (simp [errW_none, errW_some] <;> rfl) | (simp [*, errW_none, errW_some] <;> rfl), bs2 HB GE262 GE263⟩
 ·rw [if_neg c3] at H
  have c3b0 : ((l0_0.length : Int) == (l1_0.length : Int)) = false := beq_eq_false_iff_ne.mpr c3; have c3b1 : ((l0_0.length : Int) != (l1_0.length : Int)) = true := bne_iff_ne.mpr c3
  have c3b2 : (l0_0.length == l1_0.length) = false := by first | simpa using c3 | (simp at c3 ⊢; omega)
  obtain rfl := Option.some.inj H
  go_enter Try.func17, Try.ntmps17
  go_wp2_with (first | ((with_reducible refine gate_dst (N := 2) rfl ?_); refine be 2 #[.slice A0_0 l0_0.length c0_0] 29 ?_; intro gb262 hg w26 hbox hb; have n0_ := Aside0.mk (below_step (bl HB) hb); have n1_ := Aside0.mk (hbox); have n2_ := Aside0.mk (gs HB hg); have n3_ := Aside0.mk (gs HB hg); clear HB; have HB := n0_; have BK262 := n1_; have GW262 := n2_; have GE262 := n3_; clear n0_ n1_ n2_ n3_; clear hb hbox hg) | ((with_reducible refine gate_dst (N := 3) rfl ?_); refine be 3 #[.slice A1_0 l1_0.length c1_0] 29 ?_; intro gb263 hg w27 hbox hb; have n0_ := Aside0.mk (blk_below (g := gb262) (o := .cells #[.slice A0_0 l0_0.length c0_0] 29 (0, 0)) (bk BK262) hb); have n1_ := Aside0.mk (below_step (bs HB GE262) hb); have n2_ := Aside0.mk (hbox); have n3_ := Aside0.mk ((by rw [hg]; exact (below_size (bs HB GE262)) : w.heap.size ≤ gb263)); have n4_ := Aside0.mk ((by rw [hg]; exact (below_size (bs HB GE262)) : w.heap.size ≤ gb263)); have n5_ := Aside0.mk ((by rw [hg]; exact Nat.ne_of_lt (blk_lt (g := gb262) (o := .cells #[.slice A0_0 l0_0.length c0_0] 29 (0, 0)) (bk BK262)) : gb262 ≠ gb263)); have n6_ := Aside0.mk ((by rw [hg]; exact Nat.ne_of_gt (blk_lt (g := gb262) (o := .cells #[.slice A0_0 l0_0.length c0_0] 29 (0, 0)) (bk BK262)) : gb263 ≠ gb262)); clear BK262; clear HB; have BK262 := n0_; have HB := n1_; have BK263 := n2_; have GW263 := n3_; have GE263 := n4_; have NB262_263 := n5_; have NB263_262 := n6_; clear n0_ n1_ n2_ n3_ n4_ n5_ n6_; clear hb hbox hg; have hnb28 := NB262_263.out; have hnc28 := NB263_262.out; have hcz29_0 : w27.cell? ⟨gb262, 0, none⟩ = some (.slice A0_0 l0_0.length c0_0) := (blk_cell BK262.out 0).trans rfl; have hfz29_0 := blk_frozen BK262.out 0; have hcz30_0 : w27.cell? ⟨gb263, 0, none⟩ = some (.slice A1_0 l1_0.length c1_0) := (blk_cell BK263.out 0).trans rfl; have hfz30_0 := blk_frozen BK263.out 0))
  repeat (go_quiet (first | ((with_reducible refine gate_dst (N := 2) rfl ?_); refine be 2 #[.slice A0_0 l0_0.length c0_0] 29 ?_; intro gb262 hg w26 hbox hb; have n0_ := Aside0.mk (below_step (bl HB) hb); have n1_ := Aside0.mk (hbox); have n2_ := Aside0.mk (gs HB hg); have n3_ := Aside0.mk (gs HB hg); clear HB; have HB := n0_; have BK262 := n1_; have GW262 := n2_; have GE262 := n3_; clear n0_ n1_ n2_ n3_; clear hb hbox hg) | ((with_reducible refine gate_dst (N := 3) rfl ?_); refine be 3 #[.slice A1_0 l1_0.length c1_0] 29 ?_; intro gb263 hg w27 hbox hb; have n0_ := Aside0.mk (blk_below (g := gb262) (o := .cells #[.slice A0_0 l0_0.length c0_0] 29 (0, 0)) (bk BK262) hb); have n1_ := Aside0.mk (below_step (bs HB GE262) hb); have n2_ := Aside0.mk (hbox); have n3_ := Aside0.mk ((by rw [hg]; exact (below_size (bs HB GE262)) : w.heap.size ≤ gb263)); have n4_ := Aside0.mk ((by rw [hg]; exact (below_size (bs HB GE262)) : w.heap.size ≤ gb263)); have n5_ := Aside0.mk ((by rw [hg]; exact Nat.ne_of_lt (blk_lt (g := gb262) (o := .cells #[.slice A0_0 l0_0.length c0_0] 29 (0, 0)) (bk BK262)) : gb262 ≠ gb263)); have n6_ := Aside0.mk ((by rw [hg]; exact Nat.ne_of_gt (blk_lt (g := gb262) (o := .cells #[.slice A0_0 l0_0.length c0_0] 29 (0, 0)) (bk BK262)) : gb263 ≠ gb262)); clear BK262; clear HB; have BK262 := n0_; have HB := n1_; have BK263 := n2_; have GW263 := n3_; have GE263 := n4_; have NB262_263 := n5_; have NB263_262 := n6_; clear n0_ n1_ n2_ n3_ n4_ n5_ n6_; clear hb hbox hg; have hnb28 := NB262_263.out; have hnc28 := NB263_262.out; have hcz29_0 : w27.cell? ⟨gb262, 0, none⟩ = some (.slice A0_0 l0_0.length c0_0) := (blk_cell BK262.out 0).trans rfl; have hfz29_0 := blk_frozen BK262.out 0; have hcz30_0 : w27.cell? ⟨gb263, 0, none⟩ = some (.slice A1_0 l1_0.length c1_0) := (blk_cell BK263.out 0).trans rfl; have hfz30_0 := blk_frozen BK263.out 0)); try go_wp2_with (first | ((with_reducible refine gate_dst (N := 2) rfl ?_); refine be 2 #[.slice A0_0 l0_0.length c0_0] 29 ?_; intro gb262 hg w26 hbox hb; have n0_ := Aside0.mk (below_step (bl HB) hb); have n1_ := Aside0.mk (hbox); have n2_ := Aside0.mk (gs HB hg); have n3_ := Aside0.mk (gs HB hg); clear HB; have HB := n0_; have BK262 := n1_; have GW262 := n2_; have GE262 := n3_; clear n0_ n1_ n2_ n3_; clear hb hbox hg) | ((with_reducible refine gate_dst (N := 3) rfl ?_); refine be 3 #[.slice A1_0 l1_0.length c1_0] 29 ?_; intro gb263 hg w27 hbox hb; have n0_ := Aside0.mk (blk_below (g := gb262) (o := .cells #[.slice A0_0 l0_0.length c0_0] 29 (0, 0)) (bk BK262) hb); have n1_ := Aside0.mk (below_step (bs HB GE262) hb); have n2_ := Aside0.mk (hbox); have n3_ := Aside0.mk ((by rw [hg]; exact (below_size (bs HB GE262)) : w.heap.size ≤ gb263)); have n4_ := Aside0.mk ((by rw [hg]; exact (below_size (bs HB GE262)) : w.heap.size ≤ gb263)); have n5_ := Aside0.mk ((by rw [hg]; exact Nat.ne_of_lt (blk_lt (g := gb262) (o := .cells #[.slice A0_0 l0_0.length c0_0] 29 (0, 0)) (bk BK262)) : gb262 ≠ gb263)); have n6_ := Aside0.mk ((by rw [hg]; exact Nat.ne_of_gt (blk_lt (g := gb262) (o := .cells #[.slice A0_0 l0_0.length c0_0] 29 (0, 0)) (bk BK262)) : gb263 ≠ gb262)); clear BK262; clear HB; have BK262 := n0_; have HB := n1_; have BK263 := n2_; have GW263 := n3_; have GE263 := n4_; have NB262_263 := n5_; have NB263_262 := n6_; clear n0_ n1_ n2_ n3_ n4_ n5_ n6_; clear hb hbox hg; have hnb28 := NB262_263.out; have hnc28 := NB263_262.out; have hcz29_0 : w27.cell? ⟨gb262, 0, none⟩ = some (.slice A0_0 l0_0.length c0_0) := (blk_cell BK262.out 0).trans rfl; have hfz29_0 := blk_frozen BK262.out 0; have hcz30_0 : w27.cell? ⟨gb263, 0, none⟩ = some (.slice A1_0 l1_0.length c1_0) := (blk_cell BK263.out 0).trans rfl; have hfz30_0 := blk_frozen BK263.out 0)))
  go_ret
  exact ⟨by first | rfl | (simp [errW_none, errW_some] <;> rfl) | (simp [*, errW_none, errW_some] <;> rfl), bs2 HB GE262 GE263⟩

/-! ### spec_l2Chain: function 39 -/
def spec_l2Chain.l0 : Nat → Int → ByteArray → Int → Option (ByteArray)
 | 0, _, _, _ => none
 | k + 1, x0, x3, x4 => if x4 < x0 then (if 1 + x3.size ≤ 9223372036854775807 then (if ((⟨#[40]⟩ : ByteArray) ++ x3).size + 1 ≤ 9223372036854775807 then (spec_l2Chain.l0 k x0 (((⟨#[40]⟩ : ByteArray) ++ x3) ++ (⟨#[41]⟩ : ByteArray)) (wrap64 (x4 + 1))) else (none)) else (none)) else (some x3)
def spec_l2Chain.f (k : Nat) (a0 : Int) : Option (ByteArray) := spec_l2Chain.l0 k a0 (⟨#[97]⟩ : ByteArray) 0
set_option maxHeartbeats 8000000 in
set_option maxRecDepth 100000 in
theorem spec_l2Chain.calls (k : Nat) (a0 : Int) (r : ByteArray) (w : World) (h : spec_l2Chain.f k a0 = some r) :
  Calls Try.prog 39 #[.int .i64 a0] w fun e w' => e = .returned (.string r) ∧ Drawn0 w w' := by
 have H : (spec_l2Chain.l0 k a0 (⟨#[97]⟩ : ByteArray) 0) = some r := h; clear h; have H' := Aside0.mk H; clear H
 go_enter Try.func39, Try.ntmps39
 go_wp2
 go_loopg [3, 4] k (fun kq v3 v4 w' => ∃ (x3_1 : ByteArray) (x4_1 : Int), v3 = .string x3_1 ∧ v4 = .int .i64 x4_1 ∧ Aside0 (spec_l2Chain.l0 kq a0 x3_1 x4_1 = some r) ∧ Aside0 (kq ≤ k) ∧ Drawn0 w w')
 case atStart => exact ⟨((⟨#[97]⟩ : ByteArray)), (0), au, au, H', ⟨Nat.le_refl _⟩, dr⟩
 case round =>
  clear H'; obtain ⟨x3_1, x4_1, rfl, rfl, HA, HK1, ⟨m1, rfl⟩⟩ := hrel
  cases gk with
  | zero => exact absurd HA.out (by simp [spec_l2Chain.l0])
  | succ k1 =>
   have H := HA.out; clear HA
   simp only [spec_l2Chain.l0] at H
   by_cases c2 : x4_1 < a0
   ·rw [if_pos c2] at H
    have c2b0 : decide (x4_1 < a0) = true := decide_eq_true c2; clear c2
    by_cases c3 : 1 + x3_1.size ≤ 9223372036854775807
    ·rw [if_pos c3] at H
     have c3b0 := eq_true c3; have c3b1 : decide (1 + x3_1.size ≤ 9223372036854775807) = true := decide_eq_true c3
     try have c3b2 : (9223372036854775807 < 1 + x3_1.size) = False := eq_false (Nat.not_lt.2 c3)
     by_cases c4 : ((⟨#[40]⟩ : ByteArray) ++ x3_1).size + 1 ≤ 9223372036854775807
     ·rw [if_pos c4] at H
      have c4b0 := eq_true c4; have c4b1 : decide (((⟨#[40]⟩ : ByteArray) ++ x3_1).size + 1 ≤ 9223372036854775807) = true := decide_eq_true c4
      have hcx_ : (9223372036854775807 < 1 + x3_1.size + 1) = False := eq_false (by have h_ := c4; rw [ByteArray.size_append] at h_; exact Nat.not_lt.2 h_)
      try have c4b2 : (9223372036854775807 < ((⟨#[40]⟩ : ByteArray) ++ x3_1).size + 1) = False := eq_false (Nat.not_lt.2 c4)
      have H' := Aside0.mk H; clear H
      go_wp2
      go_roundg k1
      case measure => have := HK1.out; omega
      case rel => exact ⟨(((⟨#[40]⟩ : ByteArray) ++ x3_1) ++ (⟨#[41]⟩ : ByteArray)), (wrap64 (x4_1 + 1)), au, au, H', ⟨by have := HK1.out; omega⟩, dr⟩
     ·rw [if_neg c4] at H
      exact absurd H (by simp)
    ·rw [if_neg c3] at H
     exact absurd H (by simp)
   ·rw [if_neg c2] at H
    have c2b0 : decide (x4_1 < a0) = false := decide_eq_false c2; clear c2; obtain rfl := Option.some.inj H
    go_wp2
    go_ret
    exact ⟨au, dr⟩

end Go.Proofs.Ytjjlcmfjmdfedaa.PFnTreeBack
