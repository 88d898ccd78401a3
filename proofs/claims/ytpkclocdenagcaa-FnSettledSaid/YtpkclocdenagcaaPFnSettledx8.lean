-- Written by a program of this session (a turned copy of the kit's printer); Lean checks it.
-- half the depth
import Derived.Test.YtpkclocdenagcaaPFnSettledx0
import Derived.Test.YtpkclocdenagcaaPFnSettledx6
import Derived.Test.YtpkclocdenagcaaPFnSettledx7
namespace Go.Proofs.Ytpkclocdenagcaa.PFnSettled
open Go.RowKit Go.Proofs.YtpkclocdenagcaaW.PrintWords Go.Proofs.YtpkclocdenagcaaW.PrintLast Go.Proofs.YtpkclocdenagcaaW.PrintMore
attribute [local go_sem] max2_int min2_int max_two min_two max_three min_three max_four min_four   -- for this text's walks alone
set_option linter.unusedVariables false
set_option linter.unusedSimpArgs false

/-! ### spec_DrawSettle: function 34 -/
def spec_DrawSettle.j0 : Nat → List Int → Int → Int → List (List Int) → Option (Int × (List (List Int)) × Int)
 | 0, _, _, _, _ => none
 | k + 1, x217000, x217001, x223000, x223001 => (spec_l1Rd_once.f x217000 x217001 4).bind fun bt223 => (if bt223.1 = true then ((spec_l1Rd_off.f k x217000 bt223.2 0 5).bind fun bt225 => (some (x223000, x223001, bt225.1))) else ((spec_l1Rd_off.f k x217000 bt223.2 0 300).bind fun bt227 => (some (x223000, x223001, bt227.1))))
def spec_DrawSettle.f (k : Nat) (l0 : List Int) : Option (Int × (List (List Int)) × Int) := (spec_l1Open.f l0).bind fun bt214 => ((spec_l1Rd_cnf.f k bt214.1 bt214.2).bind fun bt217 => (if bt217.1 > 12 then (spec_DrawSettle.j0 k bt214.1 bt217.2.2 12 bt217.2.1) else (spec_DrawSettle.j0 k bt214.1 bt217.2.2 bt217.1 bt217.2.1)))
set_option maxHeartbeats 8000000 in
set_option maxRecDepth 100000 in
theorem spec_DrawSettle.calls (k : Nat) (A0 : Option Addr) (c0 : Nat) (l0 : List Int) (r1 : Int) (r2 : List (List Int)) (r3 : Int) (w : World) (hr0 : Kd.C (Kd.int .u8) w A0 l0.length l0) (hc0 : l0.length ≤ c0) (h : spec_DrawSettle.f k l0 = some (r1, r2, r3)) :
  Calls Try.prog 34 #[.slice A0 l0.length c0] w fun e w' => ∃ v1_ : Value, e = .returned (.tuple #[.agg #[.int .i64 r1, v1_], .int .i64 r3]) ∧ Kd.S (Kd.slice 2 (Kd.int .i64)) 33 w' w.heap.size (fun _ => True) v1_ r2 ∧ Below w.heap.size w w' := by
 have hu37 := Try.underlying37; have HR0 := Aside0.mk hr0; have HC0 := Aside0.mk hc0; clear hr0 hc0; have HB := Aside0.mk (Below.refl w.heap.size w); have H : ((spec_l1Open.f l0).bind fun bt214 => ((spec_l1Rd_cnf.f k bt214.1 bt214.2).bind fun bt217 => (if bt217.1 > 12 then (spec_DrawSettle.j0 k bt214.1 bt217.2.2 12 bt217.2.1) else (spec_DrawSettle.j0 k bt214.1 bt217.2.2 bt217.1 bt217.2.1)))) = some (r1, r2, r3) := h; clear h; replace H := Option.bind_eq_some_iff.mp H; obtain ⟨⟨t214, t215⟩, A20, H⟩ := H; replace H : ((spec_l1Rd_cnf.f k t214 t215).bind fun bt217 => (if bt217.1 > 12 then (spec_DrawSettle.j0 k t214 bt217.2.2 12 bt217.2.1) else (spec_DrawSettle.j0 k t214 bt217.2.2 bt217.1 bt217.2.1))) = some (r1, r2, r3) := H; have A2 := Aside0.mk A20; clear A20; replace H := Option.bind_eq_some_iff.mp H; obtain ⟨⟨t217, t218, t221⟩, A30, H⟩ := H; replace H : (if t217 > 12 then (spec_DrawSettle.j0 k t214 t221 12 t218) else (spec_DrawSettle.j0 k t214 t221 t217 t218)) = some (r1, r2, r3) := H; have A3 := Aside0.mk A30; clear A30; have HC4 := Aside0.mk H; clear H
 go_enter Try.func34, Try.ntmps34
 go_upto_if 12 with (first | ((with_reducible refine gate_dst (N := 2) rfl ?_); refine be 2 #[.int .i64 0, .slice none 0 0] 37 ?_; intro gb213 hg w5 hbox hb; have n0_ := Aside0.mk (below_step (bl HB) hb); have n1_ := Aside0.mk (hbox); have n2_ := Aside0.mk (gs HB hg); have n3_ := Aside0.mk (gs HB hg); clear HB; have HB := n0_; have BK213 := n1_; have GW213 := n2_; have GE213 := n3_; clear n0_ n1_ n2_ n3_; clear hb hbox hg) | ((with_reducible refine gate_callee (f := 55) rfl ?_); refine goesL_ (some 7) rfl rfl Try.func55 (by kernel_rfl) rfl #[.slice A0 l0.length c0] rfl ma ?_; (with_reducible refine (spec_l1Open.calls _ _ l0 t214 t215 w _ ?side1 ?side2 ?side3 A2.out).mono ?_); (case side1 => repeat (first | (with_reducible first | exact HB.out | apply below_alloc | apply pw_below_drewN | apply below_drew1 | refine below_set ?_ GE213.out) | exact HB.out)); (case side2 => exact HR0.out); (case side3 => exact HC0.out); rintro e w6 ⟨g216, rfl, hi, hb, hb2⟩; refine ⟨_, rfl, ?_⟩; have n0_ := Aside0.mk (blk_below (g := gb213) (o := .cells #[.int .i64 0, .slice none 0 0] 37 (0, 0)) (bk BK213) hb2); have n1_ := Aside0.mk (hb); have n2_ := Aside0.mk (hi); have n3_ := Aside0.mk (IsS102.ne_blk hi (blk_below (g := gb213) (o := .cells #[.int .i64 0, .slice none 0 0] 37 (0, 0)) (bk BK213) hb2) (by decide)); have n4_ := Aside0.mk (Ne.symm (IsS102.ne_blk hi (blk_below (g := gb213) (o := .cells #[.int .i64 0, .slice none 0 0] 37 (0, 0)) (bk BK213) hb2) (by decide))); clear BK213; clear HB; have BK213 := n0_; have HB := n1_; have HI216 := n2_; have NB216_213 := n3_; have NB213_216 := n4_; clear n0_ n1_ n2_ n3_ n4_; (try clear hb); (try clear hb2); (try clear hk); (try clear hi)) | ((with_reducible refine gate_callee (f := 56) rfl ?_); refine goesL_ (some 9) rfl rfl Try.func56 (by kernel_rfl) rfl #[.pointer (some ⟨g216, 0, none⟩)] rfl ma ?_; (with_reducible refine (spec_l1Rd_cnf.calls k g216 t214 t215 t217 t218 t221 w _ ?side1 ?side2 A3.out).mono ?_); (case side1 => repeat (first | (with_reducible first | exact HI216.out | apply IsS102.alloc | apply IsS102.drewN | apply IsS102.drew | apply IsS102.set_1 | refine IsS102.far ?_ NB216_213.out _) | exact HI216.out)); (case side2 => repeat (first | (with_reducible first | exact HB.out | apply below_alloc | apply pw_below_drewN | apply below_drew1 | refine below_set ?_ (IsS102.ge HI216.out) | refine below_set ?_ GE213.out) | exact HB.out)); rintro e w7 ⟨v219, rfl, ho0, hi, hb, hk⟩; refine ⟨_, rfl, ?_⟩; have n0_ := Aside0.mk (KeepBut.blk hk (g' := gb213) (o := .cells #[.int .i64 0, .slice none 0 0] 37 (0, 0)) (bk BK213) NB213_216.out (by simp)); have n1_ := Aside0.mk (Kd.S_lower ho0 (below_size (bs2 HB ⟨IsS102.ge HI216.out⟩ GE213))); have n2_ := Aside0.mk (hb); have n3_ := Aside0.mk (hi); clear BK213; clear HB; clear HI216; have BK213 := n0_; have HO220 := n1_; have HB := n2_; have HI216 := n3_; clear n0_ n1_ n2_ n3_; (try clear hb); (try clear hb2); (try clear hk); (try clear hi); (try clear ho0)) | ((with_reducible refine gate_dst (N := 5) rfl ?_); refine be 5 #[.int .i64 0, .slice none 0 0] 37 ?_; intro gb222 hg w8 hbox hb; have n0_ := Aside0.mk (Kd.S_below (sl HO220) hb); have n1_ := Aside0.mk (blk_below (g := gb213) (o := .cells #[.int .i64 0, .slice none 0 0] 37 (0, 0)) (bk BK213) hb); have n2_ := Aside0.mk (IsS102.below (by repeat (first | (with_reducible first | exact HI216.out | apply IsS102.alloc | apply IsS102.drewN | apply IsS102.drew | apply IsS102.set_1 | refine IsS102.far ?_ NB216_213.out _) | exact HI216.out)) hb); have n3_ := Aside0.mk (below_step (bs2 HB ⟨IsS102.ge HI216.out⟩ GE213) hb); have n4_ := Aside0.mk (hbox); have n5_ := Aside0.mk ((by rw [hg]; exact (below_size (bs2 HB ⟨IsS102.ge HI216.out⟩ GE213)) : w.heap.size ≤ gb222)); have n6_ := Aside0.mk ((by rw [hg]; exact (below_size (bs2 HB ⟨IsS102.ge HI216.out⟩ GE213)) : w.heap.size ≤ gb222)); have n7_ := Aside0.mk ((by rw [hg]; exact Nat.ne_of_lt (blk_lt (g := gb213) (o := .cells #[.int .i64 0, .slice none 0 0] 37 (0, 0)) (bk BK213)) : gb213 ≠ gb222)); have n8_ := Aside0.mk ((by rw [hg]; exact Nat.ne_of_gt (blk_lt (g := gb213) (o := .cells #[.int .i64 0, .slice none 0 0] 37 (0, 0)) (bk BK213)) : gb222 ≠ gb213)); have n9_ := Aside0.mk ((by rw [hg]; exact Nat.ne_of_lt (IsS102.lt (show IsS102 w _ g216 t214 t221 from by repeat (first | (with_reducible first | exact HI216.out | apply IsS102.alloc | apply IsS102.drewN | apply IsS102.drew | apply IsS102.set_1 | refine IsS102.far ?_ NB216_213.out _) | exact HI216.out))) : g216 ≠ gb222)); have n10_ := Aside0.mk ((by rw [hg]; exact Nat.ne_of_gt (IsS102.lt (show IsS102 w _ g216 t214 t221 from by repeat (first | (with_reducible first | exact HI216.out | apply IsS102.alloc | apply IsS102.drewN | apply IsS102.drew | apply IsS102.set_1 | refine IsS102.far ?_ NB216_213.out _) | exact HI216.out))) : gb222 ≠ g216)); clear HO220; clear BK213; clear HI216; clear HB; have HO220 := n0_; have BK213 := n1_; have HI216 := n2_; have HB := n3_; have BK222 := n4_; have GW222 := n5_; have GE222 := n6_; have NB213_222 := n7_; have NB222_213 := n8_; have NB216_222 := n9_; have NB222_216 := n10_; clear n0_ n1_ n2_ n3_ n4_ n5_ n6_ n7_ n8_ n9_ n10_; clear hb hbox hg; have hnb9 := NB222_213.out; have hnc9 := NB213_222.out; have hnb10 := NB222_216.out; have hnc10 := NB216_222.out; have hcz11_0 : w8.cell? ⟨gb222, 0, none⟩ = some (.int .i64 0) := (blk_cell BK222.out 0).trans rfl; have hcz11_1 : w8.cell? ⟨gb222, 1, none⟩ = some (.slice none 0 0) := (blk_cell BK222.out 1).trans rfl; have hfz11_0 := blk_frozen BK222.out 0; have hfz11_1 := blk_frozen BK222.out 1; obtain ⟨Ao12, co12, eo12⟩ := Kd.S_slice HO220.out; subst eo12))
 (try simp only [Act.put, List.setIfInBounds_toArray, List.set_cons_zero, List.set_cons_succ])
 go_cut [] (fun wc => ∃ (kq : Nat) (x223000_3 : Int), Aside0 (spec_DrawSettle.j0 kq t214 t221 x223000_3 t218 = some (r1, r2, r3)) ∧ Aside0 (kq ≤ k) ∧ Aside0 (Kd.S (Kd.slice 2 (Kd.int .i64)) 33 wc w.heap.size (fun _ => True) (.slice Ao12 t218.length co12) t218) ∧ Aside0 (wc.heap[gb213]? = some (.cells #[.int .i64 0, (.slice none 0 0)] 37 (0, 0))) ∧ Aside0 (wc.heap[gb222]? = some (.cells #[.int .i64 x223000_3, (.slice Ao12 t218.length co12)] 37 (0, 0))) ∧ Aside0 (IsS102 w wc g216 t214 t221) ∧ Aside0 (Below w.heap.size w wc))
 case first =>
  have H := HC4.out; clear HC4
  by_cases c13 : t217 > 12
  ·rw [if_pos c13] at H
   have c13b0 : decide (12 < t217) = true := decide_eq_true c13; clear c13
   (first | rw [c13b0] | (simp only [i64_w, i32_w]; rw [c13b0]) | skip)
   have H' := Aside0.mk H; clear H; have hnb14 := NB222_213.out; have hnc14 := NB213_222.out; have hnb15 := NB222_216.out; have hnc15 := NB216_222.out; have hcz16_0 : w8.cell? ⟨gb222, 0, none⟩ = some (.int .i64 0) := (blk_cell BK222.out 0).trans rfl; have hcz16_1 : w8.cell? ⟨gb222, 1, none⟩ = some (.slice none 0 0) := (blk_cell BK222.out 1).trans rfl; have hfz16_0 := blk_frozen BK222.out 0; have hfz16_1 := blk_frozen BK222.out 1
   go_wp2
   go_meet
   case rel => exact ⟨_, (12), H', ⟨by first | omega | exact Nat.le_refl _⟩, ⟨by (with_reducible repeat (first | apply Kd.S_alloc | apply Kd.S_drewN | apply Kd.S_drew)); exact Kd.S_mono (Kd.S_far (p := ⟨gb222, 0, none⟩) (Kd.S_far (p := ⟨gb222, 1, none⟩) (Kd.S_far (p := ⟨gb222, 0, none⟩) (Kd.S_types HO220.out BK222.out (by decide)) (fun _ hk => hk.2) (.int .i64 t217)) (fun _ hk => hk.2) (.slice Ao12 t218.length co12)) (fun _ hk => hk.2) (.int .i64 12)) (fun _ hk => trivial)⟩, ⟨by (with_reducible repeat (first | refine blk_drewN ?_ _ | refine blk_drew ?_ | refine blk_alloc ?_ _)); refine blk_far ?_ NB213_222.out _; (with_reducible repeat (first | refine blk_drewN ?_ _ | refine blk_drew ?_ | refine blk_alloc ?_ _)); refine blk_far ?_ NB213_222.out _; (with_reducible repeat (first | refine blk_drewN ?_ _ | refine blk_drew ?_ | refine blk_alloc ?_ _)); refine blk_far ?_ NB213_222.out _; (with_reducible repeat (first | refine blk_drewN ?_ _ | refine blk_drew ?_ | refine blk_alloc ?_ _)); exact BK213.out⟩, ⟨by refine bd ?_; refine blk_put (cs := #[.int .i64 t217, .slice Ao12 t218.length co12]) ?_ 0 _ rfl; refine bd ?_; refine blk_put (cs := #[.int .i64 t217, .slice none 0 0]) ?_ 1 _ rfl; refine bd ?_; refine blk_put (cs := #[.int .i64 0, .slice none 0 0]) ?_ 0 _ rfl; (with_reducible repeat (first | refine blk_drewN ?_ _ | refine blk_drew ?_ | refine blk_alloc ?_ _)); exact BK222.out⟩, ⟨by repeat (first | (with_reducible first | exact HI216.out | apply IsS102.alloc | apply IsS102.drewN | apply IsS102.drew | apply IsS102.set_1 | refine IsS102.far ?_ NB216_213.out _ | refine IsS102.far ?_ NB216_222.out _) | exact HI216.out)⟩, ⟨bs3 HB ⟨IsS102.ge HI216.out⟩ GE213 GE222⟩⟩
  ·rw [if_neg c13] at H
   have c13b0 : decide (12 < t217) = false := decide_eq_false c13; clear c13
   (first | rw [c13b0] | (simp only [i64_w, i32_w]; rw [c13b0]) | skip)
   have H' := Aside0.mk H; clear H
   go_wp2
   go_meet
   case rel => exact ⟨_, (t217), H', ⟨by first | omega | exact Nat.le_refl _⟩, ⟨by (with_reducible repeat (first | apply Kd.S_alloc | apply Kd.S_drewN | apply Kd.S_drew)); exact Kd.S_mono (Kd.S_far (p := ⟨gb222, 1, none⟩) (Kd.S_far (p := ⟨gb222, 0, none⟩) (Kd.S_types HO220.out BK222.out (by decide)) (fun _ hk => hk.2) (.int .i64 t217)) (fun _ hk => hk.2) (.slice Ao12 t218.length co12)) (fun _ hk => trivial)⟩, ⟨by (with_reducible repeat (first | refine blk_drewN ?_ _ | refine blk_drew ?_ | refine blk_alloc ?_ _)); refine blk_far ?_ NB213_222.out _; (with_reducible repeat (first | refine blk_drewN ?_ _ | refine blk_drew ?_ | refine blk_alloc ?_ _)); refine blk_far ?_ NB213_222.out _; (with_reducible repeat (first | refine blk_drewN ?_ _ | refine blk_drew ?_ | refine blk_alloc ?_ _)); exact BK213.out⟩, ⟨by refine bd ?_; refine blk_put (cs := #[.int .i64 t217, .slice none 0 0]) ?_ 1 _ rfl; refine bd ?_; refine blk_put (cs := #[.int .i64 0, .slice none 0 0]) ?_ 0 _ rfl; (with_reducible repeat (first | refine blk_drewN ?_ _ | refine blk_drew ?_ | refine blk_alloc ?_ _)); exact BK222.out⟩, ⟨by repeat (first | (with_reducible first | exact HI216.out | apply IsS102.alloc | apply IsS102.drewN | apply IsS102.drew | apply IsS102.set_1 | refine IsS102.far ?_ NB216_213.out _ | refine IsS102.far ?_ NB216_222.out _) | exact HI216.out)⟩, ⟨bs3 HB ⟨IsS102.ge HI216.out⟩ GE213 GE222⟩⟩
 case rest =>
  clear HC4
  try clear c1
  try clear p2
  try clear c3
  try clear c5
  try clear c9
  try clear c10
  try clear c13
  try clear c13b0
  try clear c14
  try clear c15
  try clear hcz11_0
  try clear hcz11_1
  try clear hcz16_0
  try clear hcz16_1
  try clear hfz11_0
  try clear hfz11_1
  try clear hfz16_0
  try clear hfz16_1
  obtain ⟨kq, x223000_3, HA, HJ3, HO_223001, BK213, BK222, HI216, HB⟩ := hcut
  cases kq with
  | zero => exact absurd HA.out (by simp [spec_DrawSettle.j0])
  | succ kj3 =>
   have H := HA.out; clear HA
   simp only [spec_DrawSettle.j0] at H
   replace H := Option.bind_eq_some_iff.mp H; obtain ⟨⟨t223, t224⟩, A170, H⟩ := H; replace H : (if t223 = true then ((spec_l1Rd_off.f kj3 t214 t224 0 5).bind fun bt225 => (some (x223000_3, t218, bt225.1))) else ((spec_l1Rd_off.f kj3 t214 t224 0 300).bind fun bt227 => (some (x223000_3, t218, bt227.1)))) = some (r1, r2, r3) := H; have A17 := Aside0.mk A170; clear A170
   by_cases c18 : t223 = true
   ·subst c18
    have H1 : ((spec_l1Rd_off.f kj3 t214 t224 0 5).bind fun bt225 => (some (x223000_3, t218, bt225.1))) = some (r1, r2, r3) := by rw [if_pos rfl] at H; exact H
    clear H; have H := H1; clear H1; replace H := Option.bind_eq_some_iff.mp H; obtain ⟨⟨t225, t226⟩, A190, H⟩ := H; replace H : (some (x223000_3, t218, t225)) = some (r1, r2, r3) := H; have A19 := Aside0.mk A190; clear A190
    simp only [Option.some.injEq, Prod.mk.injEq] at H
    obtain ⟨rfl, rfl, rfl⟩ := H
    try go_wp2_with (first | ((with_reducible refine gate_callee (f := 57) rfl ?_); refine goesL_ (some 15) rfl rfl Try.func57 (by kernel_rfl) rfl #[.pointer (some ⟨g216, 0, none⟩), .int .i64 4] rfl ma ?_; (with_reducible refine (spec_l1Rd_once.calls g216 t214 t221 4 true t224 w _ ?side1 ?side2 A17.out).mono ?_); (case side1 => repeat (first | (with_reducible first | exact HI216.out | apply IsS102.alloc | apply IsS102.drewN | apply IsS102.drew | apply IsS102.set_1 | refine IsS102.far ?_ NB216_213.out _ | refine IsS102.far ?_ NB216_222.out _) | exact HI216.out)); (case side2 => repeat (first | (with_reducible first | exact HB.out | apply below_alloc | apply pw_below_drewN | apply below_drew1 | refine below_set ?_ (IsS102.ge HI216.out) | refine below_set ?_ GE213.out | refine below_set ?_ GE222.out) | exact HB.out)); rintro e w20 ⟨rfl, hi, hb, hk⟩; refine ⟨_, rfl, ?_⟩; have n0_ := Aside0.mk (Kd.S_mono (Kd.S_keep (IsS102.apartS (show IsS102 w _ g216 t214 t221 from by repeat (first | (with_reducible first | exact HI216.out | apply IsS102.alloc | apply IsS102.drewN | apply IsS102.drew | apply IsS102.set_1 | refine IsS102.far ?_ NB216_213.out _ | refine IsS102.far ?_ NB216_222.out _) | exact HI216.out)) (sl HO_223001) (by decide)) hk (fun _ h => h.2)) (fun _ h => h.1)); have n1_ := Aside0.mk (KeepBut.blk hk (g' := gb213) (o := .cells #[.int .i64 0, .slice none 0 0] 37 (0, 0)) (bk BK213) NB213_216.out (by simp)); have n2_ := Aside0.mk (KeepBut.blk hk (g' := gb222) (o := .cells #[.int .i64 x223000_3, .slice Ao12 t218.length co12] 37 (0, 0)) (bk BK222) NB222_216.out (by simp)); have n3_ := Aside0.mk (hb); have n4_ := Aside0.mk (hi); clear HO_223001; clear BK213; clear BK222; clear HB; clear HI216; have HO_223001 := n0_; have BK213 := n1_; have BK222 := n2_; have HB := n3_; have HI216 := n4_; clear n0_ n1_ n2_ n3_ n4_; (try clear hb); (try clear hb2); (try clear hk); (try clear hi)))
    have n0_ := Aside0.mk (Kd.S_drew HO_223001.out); have n1_ := Aside0.mk (blk_drew BK213.out); have n2_ := Aside0.mk (blk_drew BK222.out); have n3_ := Aside0.mk (IsS102.drew HI216.out); have n4_ := Aside0.mk (below_drew1 HB.out); clear HO_223001; clear BK213; clear BK222; clear HI216; clear HB; have HO_223001 := n0_; have BK213 := n1_; have BK222 := n2_; have HI216 := n3_; have HB := n4_; clear n0_ n1_ n2_ n3_ n4_; refine start_ (n := 5) (S := fun w' => w'.cell? ⟨gb222, 0, none⟩ = some (.int .i64 x223000_3) ∧ w'.cell? ⟨gb222, 1, none⟩ = some (.slice Ao12 t218.length co12)) (ds := []) (tf 0 5) (by kernel_rfl) rfl rfl ⟨(blk_cell BK222.out 0).trans rfl, (blk_cell BK222.out 1).trans rfl⟩ (fun hHeld => ?_); generalize w20.drew = w21 at HO_223001 BK213 BK222 HI216 HB hHeld ⊢; refine pure_ (i := 1) (N := some 17) (v := ?_) (a' := ?_) #[false, true, false, false, false] rfl rfl (by kernel_rfl) (fun _ _ _ h => h) (Or.inl ⟨by rfl, ?_⟩) ?_ ?_
    rotate_left
    ·intro w'
     go_simp
     with_reducible rfl
    rotate_left
    ·simp only [Act.put, List.setIfInBounds_toArray, List.set_cons_zero, List.set_cons_succ, i64_w, i32_w]
     rfl
    refine take_ (i := 0) (N := some 16) (v := ?_) (a' := ?_) #[true, true, false, false, false] rfl rfl (by kernel_rfl) (fun _ _ _ h => h) (Or.inl ⟨by rfl, ?_⟩) hHeld ?_ ?_
    rotate_left
    ·rintro w' ⟨s0, s1⟩
     go_simp
     with_reducible rfl
    rotate_left
    ·simp only [Act.put, List.setIfInBounds_toArray, List.set_cons_zero, List.set_cons_succ, i64_w, i32_w]
     rfl
    refine one_ (i := 2) (N := some 18) #[true, true, true, false, false] rfl rfl (by kernel_rfl) (by decide) (fun K hK => ?_); refine goes_ Try.func59 (by kernel_rfl) rfl #[.pointer (some ⟨g216, 0, none⟩), .int .i64 0, .int .i64 5] (by rfl) rfl rfl ma ?_; (with_reducible refine (spec_l1Rd_off.calls kj3 g216 t214 t224 0 5 t225 t226 w _ ?side1 ?side2 A19.out).mono ?_)
    (case side1 => repeat (first | (with_reducible first | exact HI216.out | apply IsS102.alloc | apply IsS102.drewN | apply IsS102.drew | apply IsS102.set_1 | refine IsS102.far ?_ NB216_213.out _ | refine IsS102.far ?_ NB216_222.out _) | exact HI216.out)); (case side2 => repeat (first | (with_reducible first | exact HB.out | apply below_alloc | apply pw_below_drewN | apply below_drew1 | refine below_set ?_ (IsS102.ge HI216.out) | refine below_set ?_ GE213.out | refine below_set ?_ GE222.out) | exact HB.out))
    rintro e w22 ⟨rfl, hi, hb, hk⟩; refine ⟨_, rfl, ?_⟩; have n0_ := Aside0.mk (Kd.S_mono (Kd.S_keep (IsS102.apartS (show IsS102 w _ g216 t214 t224 from by repeat (first | (with_reducible first | exact HI216.out | apply IsS102.alloc | apply IsS102.drewN | apply IsS102.drew | apply IsS102.set_1 | refine IsS102.far ?_ NB216_213.out _ | refine IsS102.far ?_ NB216_222.out _) | exact HI216.out)) (sl HO_223001) (by decide)) hk (fun _ h => h.2)) (fun _ h => h.1)); have n1_ := Aside0.mk (KeepBut.blk hk (g' := gb213) (o := .cells #[.int .i64 0, .slice none 0 0] 37 (0, 0)) (bk BK213) NB213_216.out (by simp)); have n2_ := Aside0.mk (KeepBut.blk hk (g' := gb222) (o := .cells #[.int .i64 x223000_3, .slice Ao12 t218.length co12] 37 (0, 0)) (bk BK222) NB222_216.out (by simp)); have n3_ := Aside0.mk (hb); have n4_ := Aside0.mk (hi); clear HO_223001; clear BK213; clear BK222; clear HB; clear HI216; have HO_223001 := n0_; have BK213 := n1_; have BK222 := n2_; have HB := n3_; have HI216 := n4_; clear n0_ n1_ n2_ n3_ n4_; (try clear hb)
    (try clear hb2); (try clear hk)
    (try clear hi); refine hK.out _ _ ⟨(blk_cell BK222.out 0).trans rfl, (blk_cell BK222.out 1).trans rfl⟩ (fun hHeld => ?_); clear hK K; refine nm 18 ?_; refine one_ (i := 3) (N := none) #[true, true, true, true, false] rfl rfl (by kernel_rfl) (by decide) (fun K hK => ?_); have hs23 : w22.cell? ⟨gb213, 0, none⟩ = some (.int .i64 0) := (blk_cell BK213.out 0).trans rfl; have hfs23 := blk_frozen BK213.out 0; have hns23_1 := NB222_213.out; have hms23_1 := NB213_222.out; have hs24 : w22.cell? ⟨gb213, 1, none⟩ = some (.slice none 0 0) := (blk_cell BK213.out 1).trans rfl; have hfs24 := blk_frozen BK213.out 1; have hns24_1 := NB222_213.out; have hms24_1 := NB213_222.out; refine skip_ (w1 := ?_) (by rfl) rfl ?_ ?_
    rotate_left
    ·go_simp
     rfl
    refine hK.out _ _ ⟨((cell_far (p := ⟨gb213, _, none⟩) NB222_213.out _).trans (((cell_far (p := ⟨gb213, _, none⟩) NB222_213.out _).trans (hHeld.1)))), ((cell_far (p := ⟨gb213, _, none⟩) NB222_213.out _).trans (((cell_far (p := ⟨gb213, _, none⟩) NB222_213.out _).trans (hHeld.2))))⟩ (fun hHeld => ?_); clear hK K; refine pure_ (i := 4) (N := some 3) (v := ?_) (a' := ?_) #[true, true, true, true, true] rfl rfl (by kernel_rfl) (fun _ _ _ h => h) (Or.inl ⟨by rfl, ?_⟩) ?_ ?_
    rotate_left
    ·intro w'
     go_simp
     with_reducible rfl
    rotate_left
    ·simp only [Act.put, List.setIfInBounds_toArray, List.set_cons_zero, List.set_cons_succ, i64_w, i32_w]
     rfl
    refine done_ (by kernel_rfl) ?_
    try go_wp2
    refine bodyPost_ret (results_ct rfl _ _ gb213 37 #[.int .i64 x223000_3, .slice Ao12 t218.length co12] (0, 0) _ rfl (by refine bd ?_; refine blk_put (cs := #[.int .i64 x223000_3, .slice none 0 0]) ?_ 1 _ rfl; refine bd ?_; refine blk_put (cs := #[.int .i64 0, .slice none 0 0]) ?_ 0 _ rfl; (with_reducible repeat (first | refine blk_drewN ?_ _ | refine blk_drew ?_ | refine blk_alloc ?_ _)); exact BK213.out) Try.underlying37 rfl (by kernel_rfl)) rfl ?_
    exact ⟨_, by first | rfl | (simp [errW_none, errW_some] <;> rfl) | (simp [*, errW_none, errW_some] <;> rfl), by (with_reducible repeat (first | apply Kd.S_alloc | apply Kd.S_drewN | apply Kd.S_drew)); exact Kd.S_mono (Kd.S_far (p := ⟨gb213, 1, none⟩) (Kd.S_far (p := ⟨gb213, 0, none⟩) (Kd.S_types HO_223001.out BK213.out (by decide)) (fun _ hk => hk.2) (.int .i64 x223000_3)) (fun _ hk => hk.2) (.slice Ao12 t218.length co12)) (fun _ hk => trivial), bs3 HB ⟨IsS102.ge HI216.out⟩ GE213 GE222⟩
   ·replace c18 := Bool.eq_false_iff.mpr c18
    subst c18
    have H1 : ((spec_l1Rd_off.f kj3 t214 t224 0 300).bind fun bt227 => (some (x223000_3, t218, bt227.1))) = some (r1, r2, r3) := by rw [if_neg (show ¬ (false = true) by decide)] at H; exact H
    clear H; have H := H1; clear H1; replace H := Option.bind_eq_some_iff.mp H; obtain ⟨⟨t227, t228⟩, A250, H⟩ := H; replace H : (some (x223000_3, t218, t227)) = some (r1, r2, r3) := H; have A25 := Aside0.mk A250; clear A250
    simp only [Option.some.injEq, Prod.mk.injEq] at H
    obtain ⟨rfl, rfl, rfl⟩ := H
    try go_wp2_with (first | ((with_reducible refine gate_callee (f := 57) rfl ?_); refine goesL_ (some 15) rfl rfl Try.func57 (by kernel_rfl) rfl #[.pointer (some ⟨g216, 0, none⟩), .int .i64 4] rfl ma ?_; (with_reducible refine (spec_l1Rd_once.calls g216 t214 t221 4 false t224 w _ ?side1 ?side2 A17.out).mono ?_); (case side1 => repeat (first | (with_reducible first | exact HI216.out | apply IsS102.alloc | apply IsS102.drewN | apply IsS102.drew | apply IsS102.set_1 | refine IsS102.far ?_ NB216_213.out _ | refine IsS102.far ?_ NB216_222.out _) | exact HI216.out)); (case side2 => repeat (first | (with_reducible first | exact HB.out | apply below_alloc | apply pw_below_drewN | apply below_drew1 | refine below_set ?_ (IsS102.ge HI216.out) | refine below_set ?_ GE213.out | refine below_set ?_ GE222.out) | exact HB.out)); rintro e w26 ⟨rfl, hi, hb, hk⟩; refine ⟨_, rfl, ?_⟩; have n0_ := Aside0.mk (Kd.S_mono (Kd.S_keep (IsS102.apartS (show IsS102 w _ g216 t214 t221 from by repeat (first | (with_reducible first | exact HI216.out | apply IsS102.alloc | apply IsS102.drewN | apply IsS102.drew | apply IsS102.set_1 | refine IsS102.far ?_ NB216_213.out _ | refine IsS102.far ?_ NB216_222.out _) | exact HI216.out)) (sl HO_223001) (by decide)) hk (fun _ h => h.2)) (fun _ h => h.1)); have n1_ := Aside0.mk (KeepBut.blk hk (g' := gb213) (o := .cells #[.int .i64 0, .slice none 0 0] 37 (0, 0)) (bk BK213) NB213_216.out (by simp)); have n2_ := Aside0.mk (KeepBut.blk hk (g' := gb222) (o := .cells #[.int .i64 x223000_3, .slice Ao12 t218.length co12] 37 (0, 0)) (bk BK222) NB222_216.out (by simp)); have n3_ := Aside0.mk (hb); have n4_ := Aside0.mk (hi); clear HO_223001; clear BK213; clear BK222; clear HB; clear HI216; have HO_223001 := n0_; have BK213 := n1_; have BK222 := n2_; have HB := n3_; have HI216 := n4_; clear n0_ n1_ n2_ n3_ n4_; (try clear hb); (try clear hb2); (try clear hk); (try clear hi)))
    have n0_ := Aside0.mk (Kd.S_drew HO_223001.out); have n1_ := Aside0.mk (blk_drew BK213.out); have n2_ := Aside0.mk (blk_drew BK222.out); have n3_ := Aside0.mk (IsS102.drew HI216.out); have n4_ := Aside0.mk (below_drew1 HB.out); clear HO_223001; clear BK213; clear BK222; clear HI216; clear HB; have HO_223001 := n0_; have BK213 := n1_; have BK222 := n2_; have HI216 := n3_; have HB := n4_; clear n0_ n1_ n2_ n3_ n4_; refine start_ (n := 5) (S := fun w' => w'.cell? ⟨gb222, 0, none⟩ = some (.int .i64 x223000_3) ∧ w'.cell? ⟨gb222, 1, none⟩ = some (.slice Ao12 t218.length co12)) (ds := []) (tf 0 5) (by kernel_rfl) rfl rfl ⟨(blk_cell BK222.out 0).trans rfl, (blk_cell BK222.out 1).trans rfl⟩ (fun hHeld => ?_); generalize w26.drew = w27 at HO_223001 BK213 BK222 HI216 HB hHeld ⊢; refine pure_ (i := 1) (N := some 20) (v := ?_) (a' := ?_) #[false, true, false, false, false] rfl rfl (by kernel_rfl) (fun _ _ _ h => h) (Or.inl ⟨by rfl, ?_⟩) ?_ ?_
    rotate_left
    ·intro w'
     go_simp
     with_reducible rfl
    rotate_left
    ·simp only [Act.put, List.setIfInBounds_toArray, List.set_cons_zero, List.set_cons_succ, i64_w, i32_w]
     rfl
    refine take_ (i := 0) (N := some 19) (v := ?_) (a' := ?_) #[true, true, false, false, false] rfl rfl (by kernel_rfl) (fun _ _ _ h => h) (Or.inl ⟨by rfl, ?_⟩) hHeld ?_ ?_
    rotate_left
    ·rintro w' ⟨s0, s1⟩
     go_simp
     with_reducible rfl
    rotate_left
    ·simp only [Act.put, List.setIfInBounds_toArray, List.set_cons_zero, List.set_cons_succ, i64_w, i32_w]
     rfl
    refine one_ (i := 2) (N := some 21) #[true, true, true, false, false] rfl rfl (by kernel_rfl) (by decide) (fun K hK => ?_); refine goes_ Try.func59 (by kernel_rfl) rfl #[.pointer (some ⟨g216, 0, none⟩), .int .i64 0, .int .i64 300] (by rfl) rfl rfl ma ?_; (with_reducible refine (spec_l1Rd_off.calls kj3 g216 t214 t224 0 300 t227 t228 w _ ?side1 ?side2 A25.out).mono ?_)
    (case side1 => repeat (first | (with_reducible first | exact HI216.out | apply IsS102.alloc | apply IsS102.drewN | apply IsS102.drew | apply IsS102.set_1 | refine IsS102.far ?_ NB216_213.out _ | refine IsS102.far ?_ NB216_222.out _) | exact HI216.out)); (case side2 => repeat (first | (with_reducible first | exact HB.out | apply below_alloc | apply pw_below_drewN | apply below_drew1 | refine below_set ?_ (IsS102.ge HI216.out) | refine below_set ?_ GE213.out | refine below_set ?_ GE222.out) | exact HB.out))
    rintro e w28 ⟨rfl, hi, hb, hk⟩; refine ⟨_, rfl, ?_⟩; have n0_ := Aside0.mk (Kd.S_mono (Kd.S_keep (IsS102.apartS (show IsS102 w _ g216 t214 t224 from by repeat (first | (with_reducible first | exact HI216.out | apply IsS102.alloc | apply IsS102.drewN | apply IsS102.drew | apply IsS102.set_1 | refine IsS102.far ?_ NB216_213.out _ | refine IsS102.far ?_ NB216_222.out _) | exact HI216.out)) (sl HO_223001) (by decide)) hk (fun _ h => h.2)) (fun _ h => h.1)); have n1_ := Aside0.mk (KeepBut.blk hk (g' := gb213) (o := .cells #[.int .i64 0, .slice none 0 0] 37 (0, 0)) (bk BK213) NB213_216.out (by simp)); have n2_ := Aside0.mk (KeepBut.blk hk (g' := gb222) (o := .cells #[.int .i64 x223000_3, .slice Ao12 t218.length co12] 37 (0, 0)) (bk BK222) NB222_216.out (by simp)); have n3_ := Aside0.mk (hb); have n4_ := Aside0.mk (hi); clear HO_223001; clear BK213; clear BK222; clear HB; clear HI216; have HO_223001 := n0_; have BK213 := n1_; have BK222 := n2_; have HB := n3_; have HI216 := n4_; clear n0_ n1_ n2_ n3_ n4_; (try clear hb)
    (try clear hb2); (try clear hk)
    (try clear hi); refine hK.out _ _ ⟨(blk_cell BK222.out 0).trans rfl, (blk_cell BK222.out 1).trans rfl⟩ (fun hHeld => ?_); clear hK K; refine nm 21 ?_; refine one_ (i := 3) (N := none) #[true, true, true, true, false] rfl rfl (by kernel_rfl) (by decide) (fun K hK => ?_); have hs29 : w28.cell? ⟨gb213, 0, none⟩ = some (.int .i64 0) := (blk_cell BK213.out 0).trans rfl; have hfs29 := blk_frozen BK213.out 0; have hns29_1 := NB222_213.out; have hms29_1 := NB213_222.out; have hs30 : w28.cell? ⟨gb213, 1, none⟩ = some (.slice none 0 0) := (blk_cell BK213.out 1).trans rfl; have hfs30 := blk_frozen BK213.out 1; have hns30_1 := NB222_213.out; have hms30_1 := NB213_222.out; refine skip_ (w1 := ?_) (by rfl) rfl ?_ ?_
    rotate_left
    ·go_simp
     rfl
    refine hK.out _ _ ⟨((cell_far (p := ⟨gb213, _, none⟩) NB222_213.out _).trans (((cell_far (p := ⟨gb213, _, none⟩) NB222_213.out _).trans (hHeld.1)))), ((cell_far (p := ⟨gb213, _, none⟩) NB222_213.out _).trans (((cell_far (p := ⟨gb213, _, none⟩) NB222_213.out _).trans (hHeld.2))))⟩ (fun hHeld => ?_); clear hK K; refine pure_ (i := 4) (N := some 3) (v := ?_) (a' := ?_) #[true, true, true, true, true] rfl rfl (by kernel_rfl) (fun _ _ _ h => h) (Or.inl ⟨by rfl, ?_⟩) ?_ ?_
    rotate_left
    ·intro w'
     go_simp
     with_reducible rfl
    rotate_left
    ·simp only [Act.put, List.setIfInBounds_toArray, List.set_cons_zero, List.set_cons_succ, i64_w, i32_w]
     rfl
    refine done_ (by kernel_rfl) ?_
    try go_wp2
    refine bodyPost_ret (results_ct rfl _ _ gb213 37 #[.int .i64 x223000_3, .slice Ao12 t218.length co12] (0, 0) _ rfl (by refine bd ?_; refine blk_put (cs := #[.int .i64 x223000_3, .slice none 0 0]) ?_ 1 _ rfl; refine bd ?_; refine blk_put (cs := #[.int .i64 0, .slice none 0 0]) ?_ 0 _ rfl; (with_reducible repeat (first | refine blk_drewN ?_ _ | refine blk_drew ?_ | refine blk_alloc ?_ _)); exact BK213.out) Try.underlying37 rfl (by kernel_rfl)) rfl ?_
    exact ⟨_, by first | rfl | (simp [errW_none, errW_some] <;> rfl) | (simp [*, errW_none, errW_some] <;> rfl), by (with_reducible repeat (first | apply Kd.S_alloc | apply Kd.S_drewN | apply Kd.S_drew)); exact Kd.S_mono (Kd.S_far (p := ⟨gb213, 1, none⟩) (Kd.S_far (p := ⟨gb213, 0, none⟩) (Kd.S_types HO_223001.out BK213.out (by decide)) (fun _ hk => hk.2) (.int .i64 x223000_3)) (fun _ hk => hk.2) (.slice Ao12 t218.length co12)) (fun _ hk => trivial), bs3 HB ⟨IsS102.ge HI216.out⟩ GE213 GE222⟩

end Go.Proofs.Ytpkclocdenagcaa.PFnSettled
