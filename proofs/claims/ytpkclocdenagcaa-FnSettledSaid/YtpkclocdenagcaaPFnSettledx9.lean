-- Written by a program of this session (a turned copy of the kit's printer); Lean checks it.
-- half the depth
import Derived.Test.YtpkclocdenagcaaPFnSettledx0
import Derived.Test.YtpkclocdenagcaaPFnSettledx1
import Derived.Test.YtpkclocdenagcaaPFnSettledx4
import Derived.Test.YtpkclocdenagcaaPFnSettledx5
import Derived.Test.YtpkclocdenagcaaPFnSettledx8
namespace Go.Proofs.Ytpkclocdenagcaa.PFnSettled
open Go.RowKit Go.Proofs.YtpkclocdenagcaaW.PrintWords Go.Proofs.YtpkclocdenagcaaW.PrintLast Go.Proofs.YtpkclocdenagcaaW.PrintMore
attribute [local go_sem] max2_int min2_int max_two min_two max_three min_three max_four min_four   -- for this text's walks alone
set_option linter.unusedVariables false
set_option linter.unusedSimpArgs false

/-! ### laws_FnSettled: function 7 -/
mutual
def laws_FnSettled.j0 : Nat → Int → List Bool → Int → Int → Bool → Int → List (List Int) → Option (Bool)
 | 0, _, _, _, _, _, _, _ => none
 | k + 1, x4, x8, x9, x10, x42, x236000, x236001 => if x42 = true then (some false) else (if x10 = 1 then ((impl_Meets.f k x236000 x236001 x8).bind fun t246 => (if t246 = true then (some (decide (x9 ≤ x4))) else (some false))) else (if x10 = 2 then (laws_FnSettled.j1 k x8 (decide (x236000 > 9)) x236000 x236001) else (laws_FnSettled.j1 k x8 true x236000 x236001)))
def laws_FnSettled.j1 : Nat → List Bool → Bool → Int → List (List Int) → Option (Bool)
 | 0, _, _, _, _ => none
 | k + 1, x8, x59, x236000, x236001 => if x59 = true then (some ((x8.length : Int) == 0)) else (laws_FnSettled.l0 k 0 x236000 x236001)
def laws_FnSettled.l0 : Nat → Int → Int → List (List Int) → Option (Bool)
 | 0, _, _, _ => none
 | k + 1, x11, x236000, x236001 => if 0 ≤ (IntKind.u64.wrap (x236000)) then (if x11 < (shl .i64 1 (IntKind.u64.wrap (x236000))) then (laws_FnSettled.l1 k x11 (([] : List Bool)) 0 x236000 x236001) else (some true)) else (none)
def laws_FnSettled.l1 : Nat → Int → List Bool → Int → Int → List (List Int) → Option (Bool)
 | 0, _, _, _, _, _ => none
 | k + 1, x11, x12, x13, x236000, x236001 => if x13 < x236000 then (if 0 ≤ (IntKind.u64.wrap (x13)) then (if x12.length < 140737488355328 then (laws_FnSettled.l1 k x11 (x12 ++ [((Go.bits .and .i64 (shr .i64 x11 (IntKind.u64.wrap (x13))) 1) == 1)]) (wrap64 (x13 + 1)) x236000 x236001) else (none)) else (none)) else ((impl_Meets.f k x236000 x236001 x12).bind fun t253 => (if t253 = true then (some false) else (laws_FnSettled.l0 k (wrap64 (x11 + 1)) x236000 x236001)))
end
def laws_FnSettled.f (k : Nat) (l0 : List Int) : Option (Bool) := (laws_big.f l0).bind fun t229 => (if t229 = true then (some true) else ((spec_DrawSettle.f k l0).bind fun bt230 => ((spec_Settle.f k bt230.1 bt230.2.1 bt230.2.2).bind fun bt236 => ((impl_Settle.f k bt230.1 bt230.2.1 bt230.2.2).bind fun bt241 => (if bt241.2.2 = bt236.2.2 then (laws_FnSettled.j0 k bt230.2.2 bt241.1 bt241.2.1 bt241.2.2 (bt241.2.1 != bt236.2.1) bt230.1 bt230.2.1) else (laws_FnSettled.j0 k bt230.2.2 bt241.1 bt241.2.1 bt241.2.2 true bt230.1 bt230.2.1))))))
set_option maxHeartbeats 8000000 in
set_option maxRecDepth 100000 in
theorem laws_FnSettled.calls (k : Nat) (A0 : Option Addr) (c0 : Nat) (l0 : List Int) (r : Bool) (w : World) (hr0 : Kd.C (Kd.int .u8) w A0 l0.length l0) (hc0 : l0.length ≤ c0) (h : laws_FnSettled.f k l0 = some r) (hrt : r = true) :
  Calls Try.prog 7 #[.slice A0 l0.length c0] w fun e w' => e = .returned (.bool r) ∧ Below w.heap.size w w' := by
 have hu37 := Try.underlying37; have HR0 := Aside0.mk hr0; have HC0 := Aside0.mk hc0; clear hr0 hc0; have HB := Aside0.mk (Below.refl w.heap.size w); have H : ((laws_big.f l0).bind fun t229 => (if t229 = true then (some true) else ((spec_DrawSettle.f k l0).bind fun bt230 => ((spec_Settle.f k bt230.1 bt230.2.1 bt230.2.2).bind fun bt236 => ((impl_Settle.f k bt230.1 bt230.2.1 bt230.2.2).bind fun bt241 => (if bt241.2.2 = bt236.2.2 then (laws_FnSettled.j0 k bt230.2.2 bt241.1 bt241.2.1 bt241.2.2 (bt241.2.1 != bt236.2.1) bt230.1 bt230.2.1) else (laws_FnSettled.j0 k bt230.2.2 bt241.1 bt241.2.1 bt241.2.2 true bt230.1 bt230.2.1))))))) = some r := h; clear h; replace H := Option.bind_eq_some_iff.mp H; obtain ⟨t229, A20, H⟩ := H; replace H : (if t229 = true then (some true) else ((spec_DrawSettle.f k l0).bind fun bt230 => ((spec_Settle.f k bt230.1 bt230.2.1 bt230.2.2).bind fun bt236 => ((impl_Settle.f k bt230.1 bt230.2.1 bt230.2.2).bind fun bt241 => (if bt241.2.2 = bt236.2.2 then (laws_FnSettled.j0 k bt230.2.2 bt241.1 bt241.2.1 bt241.2.2 (bt241.2.1 != bt236.2.1) bt230.1 bt230.2.1) else (laws_FnSettled.j0 k bt230.2.2 bt241.1 bt241.2.1 bt241.2.2 true bt230.1 bt230.2.1)))))) = some r := H; have A2 := Aside0.mk A20; clear A20
 by_cases c3 : t229 = true
 ·subst c3
  have H1 : (some true) = some r := by rw [if_pos rfl] at H; exact H
  clear H; have H := H1; clear H1; clear hrt; obtain rfl := Option.some.inj H
  go_enter Try.func7, Try.ntmps7
  go_wp2_with (first | ((with_reducible refine gate_callee (f := 23) rfl ?_); refine goesL_ (some 15) rfl rfl Try.func23 (by kernel_rfl) rfl #[.slice A0 l0.length c0] rfl ma ?_; (with_reducible refine (laws_big.calls _ _ l0 true _ ?side1 ?side2 A2.out).mono ?_); (case side1 => repeat (first | exact HR0.out | (with_reducible refine Kd.C_alloc ?_ _) | (with_reducible refine Kd.C_drewN ?_ _) | (with_reducible refine Kd.C_drew ?_))); (case side2 => exact HC0.out); rintro e w' ⟨rfl, ⟨nd, rfl⟩⟩; refine ⟨_, rfl, ?_⟩))
  go_ret
  exact ⟨by first | rfl | (simp [errW_none, errW_some] <;> rfl) | (simp [*, errW_none, errW_some] <;> rfl), bl HB⟩
 ·replace c3 := Bool.eq_false_iff.mpr c3
  subst c3
  have H1 : ((spec_DrawSettle.f k l0).bind fun bt230 => ((spec_Settle.f k bt230.1 bt230.2.1 bt230.2.2).bind fun bt236 => ((impl_Settle.f k bt230.1 bt230.2.1 bt230.2.2).bind fun bt241 => (if bt241.2.2 = bt236.2.2 then (laws_FnSettled.j0 k bt230.2.2 bt241.1 bt241.2.1 bt241.2.2 (bt241.2.1 != bt236.2.1) bt230.1 bt230.2.1) else (laws_FnSettled.j0 k bt230.2.2 bt241.1 bt241.2.1 bt241.2.2 true bt230.1 bt230.2.1))))) = some r := by rw [if_neg (show ¬ (false = true) by decide)] at H; exact H
  clear H; have H := H1; clear H1; replace H := Option.bind_eq_some_iff.mp H; obtain ⟨⟨t230, t231, t234⟩, A40, H⟩ := H; replace H : ((spec_Settle.f k t230 t231 t234).bind fun bt236 => ((impl_Settle.f k t230 t231 t234).bind fun bt241 => (if bt241.2.2 = bt236.2.2 then (laws_FnSettled.j0 k t234 bt241.1 bt241.2.1 bt241.2.2 (bt241.2.1 != bt236.2.1) t230 t231) else (laws_FnSettled.j0 k t234 bt241.1 bt241.2.1 bt241.2.2 true t230 t231)))) = some r := H; have A4 := Aside0.mk A40; clear A40; replace H := Option.bind_eq_some_iff.mp H; obtain ⟨⟨t236, t239, t240⟩, A50, H⟩ := H; replace H : ((impl_Settle.f k t230 t231 t234).bind fun bt241 => (if bt241.2.2 = t240 then (laws_FnSettled.j0 k t234 bt241.1 bt241.2.1 bt241.2.2 (bt241.2.1 != t239) t230 t231) else (laws_FnSettled.j0 k t234 bt241.1 bt241.2.1 bt241.2.2 true t230 t231))) = some r := H; have A5 := Aside0.mk A50; clear A50; replace H := Option.bind_eq_some_iff.mp H; obtain ⟨⟨t241, t244, t245⟩, A60, H⟩ := H; replace H : (if t245 = t240 then (laws_FnSettled.j0 k t234 t241 t244 t245 (t244 != t239) t230 t231) else (laws_FnSettled.j0 k t234 t241 t244 t245 true t230 t231)) = some r := H; have A6 := Aside0.mk A60; clear A60; have HC7 := Aside0.mk H; clear H
  go_enter Try.func7, Try.ntmps7
  go_upto_region 6 with (first | ((with_reducible refine gate_callee (f := 23) rfl ?_); refine goesL_ (some 15) rfl rfl Try.func23 (by kernel_rfl) rfl #[.slice A0 l0.length c0] rfl ma ?_; (with_reducible refine (laws_big.calls _ _ l0 false _ ?side1 ?side2 A2.out).mono ?_); (case side1 => repeat (first | exact HR0.out | (with_reducible refine Kd.C_alloc ?_ _) | (with_reducible refine Kd.C_drewN ?_ _) | (with_reducible refine Kd.C_drew ?_))); (case side2 => exact HC0.out); rintro e w' ⟨rfl, ⟨nd, rfl⟩⟩; refine ⟨_, rfl, ?_⟩) | ((with_reducible refine gate_callee (f := 34) rfl ?_); refine goesL_ (some 18) rfl rfl Try.func34 (by kernel_rfl) rfl #[.slice A0 l0.length c0] rfl ma ?_; (with_reducible refine (spec_DrawSettle.calls k _ _ l0 t230 t231 t234 _ ?side1 ?side2 A4.out).mono ?_); (case side1 => repeat (first | exact HR0.out | (with_reducible refine Kd.C_alloc ?_ _) | (with_reducible refine Kd.C_drewN ?_ _) | (with_reducible refine Kd.C_drew ?_))); (case side2 => exact HC0.out); rintro e w8 ⟨v232, rfl, ho0, hb⟩; refine ⟨_, rfl, ?_⟩; have n0_ := Aside0.mk (Kd.S_lower ho0 (below_size (bl HB))); have n1_ := Aside0.mk (below_step (bl HB) hb); clear HB; have HO233 := n0_; have HB := n1_; clear n0_ n1_; (try clear hb); (try clear hb2); (try clear hk); (try clear hi); (try clear ho0)) | ((with_reducible refine gate_dst (N := 3) rfl ?_); refine be 3 #[.int .i64 0, .slice none 0 0] 37 ?_; intro gb235 hg w9 hbox hb; have n0_ := Aside0.mk (Kd.S_below (sl HO233) hb); have n1_ := Aside0.mk (below_step (bl HB) hb); have n2_ := Aside0.mk (hbox); have n3_ := Aside0.mk (gs HB hg); have n4_ := Aside0.mk (gs HB hg); clear HO233; clear HB; have HO233 := n0_; have HB := n1_; have BK235 := n2_; have GW235 := n3_; have GE235 := n4_; clear n0_ n1_ n2_ n3_ n4_; clear hb hbox hg; have hcz10_0 : w9.cell? ⟨gb235, 0, none⟩ = some (.int .i64 0) := (blk_cell BK235.out 0).trans rfl; have hcz10_1 : w9.cell? ⟨gb235, 1, none⟩ = some (.slice none 0 0) := (blk_cell BK235.out 1).trans rfl; have hfz10_0 := blk_frozen BK235.out 0; have hfz10_1 := blk_frozen BK235.out 1; obtain ⟨Ao11, co11, eo11⟩ := Kd.S_slice HO233.out; subst eo11) | ((with_reducible refine gate_callee (f := 29) rfl ?_); refine goesL_ (some 24) rfl rfl Try.func29 (by kernel_rfl) rfl #[.agg #[.int .i64 t230, .slice Ao11 t231.length co11], .int .i64 t234] rfl ma ?_; (with_reducible refine (spec_Settle.calls k t230 _ _ t231 t234 t236 t239 t240 _ ?side1 ?side2 A5.out).mono ?_); (case side1 => refine (Kd.S_reads' (e := 33) (base := w.heap.size) (ok := fun k_ => True) (n := t231.length) (c := co11) ?_).2.2; exact (by (with_reducible repeat (first | apply Kd.S_alloc | apply Kd.S_drewN | apply Kd.S_drew)); exact (Kd.S_mono (Kd.S_far (p := ⟨gb235, 1, none⟩) (Kd.S_far (p := ⟨gb235, 0, none⟩) (Kd.S_types HO233.out BK235.out (by decide)) (fun _ hk => hk.2) (.int .i64 t230)) (fun _ hk => hk.2) (.slice Ao11 t231.length co11)) (fun _ h_ => h_.1)))); (case side2 => exact (Kd.S_reads' HO233.out).2.1); rintro e w12 ⟨v237, rfl, ho0, hb⟩; refine ⟨_, rfl, ?_⟩; have n0_ := Aside0.mk (Kd.S_below (by (with_reducible repeat (first | apply Kd.S_alloc | apply Kd.S_drewN | apply Kd.S_drew)); exact (Kd.S_mono (Kd.S_far (p := ⟨gb235, 1, none⟩) (Kd.S_far (p := ⟨gb235, 0, none⟩) (Kd.S_types HO233.out BK235.out (by decide)) (fun _ hk => hk.2) (.int .i64 t230)) (fun _ hk => hk.2) (.slice Ao11 t231.length co11)) (fun _ h_ => h_.1))) hb); have n1_ := Aside0.mk (Kd.R_lower ho0 (below_size (bs HB GE235))); have n2_ := Aside0.mk (blk_below (g := gb235) (o := .cells #[.int .i64 t230, .slice Ao11 t231.length co11] 37 (0, 0)) (by refine bd ?_; refine blk_put (cs := #[.int .i64 t230, .slice none 0 0]) ?_ 1 _ rfl; refine bd ?_; refine blk_put (cs := #[.int .i64 0, .slice none 0 0]) ?_ 0 _ rfl; (with_reducible repeat (first | refine blk_drewN ?_ _ | refine blk_drew ?_ | refine blk_alloc ?_ _)); exact BK235.out) hb); have n3_ := Aside0.mk (below_step (bs HB GE235) hb); clear HO233; clear BK235; clear HB; have HO233 := n0_; have HO238 := n1_; have BK235 := n2_; have HB := n3_; clear n0_ n1_ n2_ n3_; (try clear hb); (try clear hb2); (try clear hk); (try clear hi); (try clear ho0); have hcz13_0 : w12.cell? ⟨gb235, 0, none⟩ = some (.int .i64 t230) := (blk_cell BK235.out 0).trans rfl; have hcz13_1 : w12.cell? ⟨gb235, 1, none⟩ = some (.slice Ao11 t231.length co11) := (blk_cell BK235.out 1).trans rfl; have hfz13_0 := blk_frozen BK235.out 0; have hfz13_1 := blk_frozen BK235.out 1) | ((with_reducible refine gate_callee (f := 30) rfl ?_); refine goesL_ (some 31) rfl rfl Try.func30 (by kernel_rfl) rfl #[.agg #[.int .i64 t230, .slice Ao11 t231.length co11], .int .i64 t234] rfl ma ?_; (with_reducible refine (impl_Settle.calls k t230 _ _ t231 t234 t241 t244 t245 _ ?side1 ?side2 A6.out).mono ?_); (case side1 => repeat (first | exact (Kd.S_reads' HO233.out).2.2 | (with_reducible refine Kd.C_alloc ?_ _) | (with_reducible refine Kd.C_drewN ?_ _) | (with_reducible refine Kd.C_drew ?_))); (case side2 => exact (Kd.S_reads' HO233.out).2.1); rintro e w14 ⟨v242, rfl, ho0, hb⟩; refine ⟨_, rfl, ?_⟩; have n0_ := Aside0.mk (Kd.S_below (sl HO233) hb); have n1_ := Aside0.mk (Kd.R_elder' (rl HO238) (Kd.R_base ho0) hb); have n2_ := Aside0.mk (Kd.R_lower (Kd.R_new' ho0 (Kd.R_lt (rl HO238))) (below_size (bs HB GE235))); have n3_ := Aside0.mk (blk_below (g := gb235) (o := .cells #[.int .i64 t230, .slice Ao11 t231.length co11] 37 (0, 0)) (bk BK235) hb); have n4_ := Aside0.mk (below_step (bs HB GE235) hb); clear HO233; clear HO238; clear BK235; clear HB; have HO233 := n0_; have HO238 := n1_; have HO243 := n2_; have BK235 := n3_; have HB := n4_; clear n0_ n1_ n2_ n3_ n4_; (try clear hb); (try clear hb2); (try clear hk); (try clear hi); (try clear ho0)))
  (try simp only [Act.put, List.setIfInBounds_toArray, List.set_cons_zero, List.set_cons_succ])
  go_cut [42] (fun v42 wc => ∃ (kq : Nat) (x42_6 : Bool), v42 = .bool x42_6 ∧ Aside0 (laws_FnSettled.j0 kq t234 t241 t244 t245 x42_6 t230 t231 = some r) ∧ Aside0 (kq ≤ k) ∧ Aside0 (Kd.R Kd.bool 4 wc w.heap.size (fun _ => True) v242 t241) ∧ Aside0 (Kd.S (Kd.slice 2 (Kd.int .i64)) 33 wc w.heap.size (fun _ => True) (.slice Ao11 t231.length co11) t231) ∧ Aside0 (wc.heap[gb235]? = some (.cells #[.int .i64 t230, (.slice Ao11 t231.length co11)] 37 (0, 0))) ∧ Aside0 (Below w.heap.size w wc))
  case first =>
   have H := HC7.out; clear HC7
   by_cases c15 : t245 = t240
   ·rw [if_pos c15] at H
    have c15b0 : (t245 == t240) = true := beq_iff_eq.mpr c15; have c15b1 : (t245 != t240) = false := bne_eq_false_iff_eq.mpr c15; clear c15
    (first | rw [c15b0] | (simp only [i64_w, i32_w]; rw [c15b0]) | skip)
    have H' := Aside0.mk H; clear H
    go_wp2
    go_meet
    case rel => exact ⟨_, ((t244 != t239)), au, H', ⟨by first | omega | exact Nat.le_refl _⟩, ⟨by (with_reducible repeat (first | apply Kd.R_alloc | apply Kd.R_drewN | apply Kd.R_drew)); exact Kd.R_mono HO243.out (fun _ hk => trivial)⟩, ⟨sl HO233⟩, ⟨bk BK235⟩, ⟨bs HB GE235⟩⟩
   ·rw [if_neg c15] at H
    have c15b0 : (t245 == t240) = false := beq_eq_false_iff_ne.mpr c15; have c15b1 : (t245 != t240) = true := bne_iff_ne.mpr c15
    (first | rw [c15b0] | (simp only [i64_w, i32_w]; rw [c15b0]) | skip)
    have H' := Aside0.mk H; clear H
    go_wp2
    go_meet
    case rel => exact ⟨_, (true), au, H', ⟨by first | omega | exact Nat.le_refl _⟩, ⟨by (with_reducible repeat (first | apply Kd.R_alloc | apply Kd.R_drewN | apply Kd.R_drew)); exact Kd.R_mono HO243.out (fun _ hk => trivial)⟩, ⟨sl HO233⟩, ⟨bk BK235⟩, ⟨bs HB GE235⟩⟩
  case rest =>
   clear HC7
   try clear c1
   try clear c2
   try clear p2
   try clear c3
   try clear c7
   try clear c15
   try clear c15b0
   try clear c15b1
   try clear hcz10_0
   try clear hcz10_1
   try clear hcz13_0
   try clear hcz13_1
   try clear hfz10_0
   try clear hfz10_1
   try clear hfz13_0
   try clear hfz13_1
   obtain ⟨kq, x42_6, rfl, HA, HJ6, HO_8, HO_236001, BK235, HB⟩ := hcut
   cases kq with
   | zero => exact absurd HA.out (by simp [laws_FnSettled.j0])
   | succ kj6 =>
    have H := HA.out; clear HA
    simp only [laws_FnSettled.j0] at H
    by_cases c16 : x42_6 = true
    ·subst c16
     have H1 : (some false) = some r := by rw [if_pos rfl] at H; exact H
     clear H; have H := H1; clear H1
     subst hrt
     exact absurd H (by simp)
    ·replace c16 := Bool.eq_false_iff.mpr c16
     subst c16
     have H1 : (if t245 = 1 then ((impl_Meets.f kj6 t230 t231 t241).bind fun t246 => (if t246 = true then (some (decide (t244 ≤ t234))) else (some false))) else (if t245 = 2 then (laws_FnSettled.j1 kj6 t241 (decide (t230 > 9)) t230 t231) else (laws_FnSettled.j1 kj6 t241 true t230 t231))) = some r := by rw [if_neg (show ¬ (false = true) by decide)] at H; exact H
     clear H; have H := H1; clear H1
     by_cases c17 : t245 = 1
     ·rw [if_pos c17] at H
      have c17b0 : (t245 == 1) = true := beq_iff_eq.mpr c17; have c17b1 : (t245 != 1) = false := bne_eq_false_iff_eq.mpr c17; clear c17; replace H := Option.bind_eq_some_iff.mp H; obtain ⟨t246, A180, H⟩ := H; replace H : (if t246 = true then (some (decide (t244 ≤ t234))) else (some false)) = some r := H; have A18 := Aside0.mk A180; clear A180
      by_cases c19 : t246 = true
      ·subst c19
       have H1 : (some (decide (t244 ≤ t234))) = some r := by rw [if_pos rfl] at H; exact H
       clear H; have H := H1; clear H1; clear hrt; obtain rfl := Option.some.inj H; have hcz20_0 : wc.cell? ⟨gb235, 0, none⟩ = some (.int .i64 t230) := (blk_cell BK235.out 0).trans rfl; have hcz20_1 : wc.cell? ⟨gb235, 1, none⟩ = some (.slice Ao11 t231.length co11) := (blk_cell BK235.out 1).trans rfl; have hfz20_0 := blk_frozen BK235.out 0; have hfz20_1 := blk_frozen BK235.out 1; obtain ⟨Ao21, co21, eo21⟩ := Kd.R_slice HO_8.out
       subst eo21
       go_wp2_with (first | ((with_reducible refine gate_callee (f := 27) rfl ?_); refine goesL_ (some 47) rfl rfl Try.func27 (by kernel_rfl) rfl #[.agg #[.int .i64 t230, .slice Ao11 t231.length co11], .slice Ao21 t241.length co21] rfl ma ?_; (with_reducible refine (impl_Meets.calls kj6 t230 _ _ t231 _ _ t241 true _ ?side1 ?side2 ?side3 ?side4 A18.out).mono ?_); (case side1 => repeat (first | exact (Kd.S_reads' HO_236001.out).2.2 | (with_reducible refine Kd.C_alloc ?_ _) | (with_reducible refine Kd.C_drewN ?_ _) | (with_reducible refine Kd.C_drew ?_))); (case side2 => exact (Kd.S_reads' HO_236001.out).2.1); (case side3 => repeat (first | exact (Kd.R_reads' HO_8.out).2.2 | (with_reducible refine Kd.C_alloc ?_ _) | (with_reducible refine Kd.C_drewN ?_ _) | (with_reducible refine Kd.C_drew ?_))); (case side4 => exact (Kd.R_reads' HO_8.out).2.1); rintro e w22 ⟨rfl, hb⟩; refine ⟨_, rfl, ?_⟩; have n0_ := Aside0.mk (Kd.R_below (rl HO_8) hb); have n1_ := Aside0.mk (Kd.S_below (sl HO_236001) hb); have n2_ := Aside0.mk (blk_below (g := gb235) (o := .cells #[.int .i64 t230, .slice Ao11 t231.length co11] 37 (0, 0)) (bk BK235) hb); have n3_ := Aside0.mk (below_step (bs HB GE235) hb); clear HO_8; clear HO_236001; clear BK235; clear HB; have HO_8 := n0_; have HO_236001 := n1_; have BK235 := n2_; have HB := n3_; clear n0_ n1_ n2_ n3_; (try clear hb); (try clear hb2); (try clear hk); (try clear hi)))
       go_ret
       exact ⟨by first | rfl | (simp [errW_none, errW_some] <;> rfl) | (simp [*, errW_none, errW_some] <;> rfl), bs HB GE235⟩
      ·replace c19 := Bool.eq_false_iff.mpr c19
       subst c19
       have H1 : (some false) = some r := by rw [if_neg (show ¬ (false = true) by decide)] at H; exact H
       clear H; have H := H1; clear H1
       subst hrt
       exact absurd H (by simp)
     ·rw [if_neg c17] at H
      have c17b0 : (t245 == 1) = false := beq_eq_false_iff_ne.mpr c17; have c17b1 : (t245 != 1) = true := bne_iff_ne.mpr c17; have HC23 := Aside0.mk H; clear H
      go_upto_region 10 with (fail)
      go_cut [59] (fun v59 wc => ∃ (kq : Nat) (x59_22 : Bool), v59 = .bool x59_22 ∧ Aside0 (laws_FnSettled.j1 kq t241 x59_22 t230 t231 = some r) ∧ Aside0 (kq ≤ kj6) ∧ Aside0 (Kd.R Kd.bool 4 wc w.heap.size (fun _ => True) v242 t241) ∧ Aside0 (Kd.S (Kd.slice 2 (Kd.int .i64)) 33 wc w.heap.size (fun _ => True) (.slice Ao11 t231.length co11) t231) ∧ Aside0 (wc.heap[gb235]? = some (.cells #[.int .i64 t230, (.slice Ao11 t231.length co11)] 37 (0, 0))) ∧ Aside0 (Below w.heap.size w wc))
      case first =>
       have H := HC23.out; clear HC23
       by_cases c24 : t245 = 2
       ·rw [if_pos c24] at H
        have c24b0 : (t245 == 2) = true := beq_iff_eq.mpr c24; have c24b1 : (t245 != 2) = false := bne_eq_false_iff_eq.mpr c24; clear c24
        (first | rw [c24b0] | (simp only [i64_w, i32_w]; rw [c24b0]) | skip)
        have H' := Aside0.mk H; clear H; have hcz25_0 : wc.cell? ⟨gb235, 0, none⟩ = some (.int .i64 t230) := (blk_cell BK235.out 0).trans rfl; have hcz25_1 : wc.cell? ⟨gb235, 1, none⟩ = some (.slice Ao11 t231.length co11) := (blk_cell BK235.out 1).trans rfl; have hfz25_0 := blk_frozen BK235.out 0; have hfz25_1 := blk_frozen BK235.out 1
        go_wp2
        go_meet
        case rel => exact ⟨_, (decide (t230 > 9)), au, H', ⟨by have := HJ6.out; first | omega | exact Nat.le_refl _⟩, ⟨rl HO_8⟩, ⟨sl HO_236001⟩, ⟨bk BK235⟩, ⟨bs HB GE235⟩⟩
       ·rw [if_neg c24] at H
        have c24b0 : (t245 == 2) = false := beq_eq_false_iff_ne.mpr c24; have c24b1 : (t245 != 2) = true := bne_iff_ne.mpr c24
        (first | rw [c24b0] | (simp only [i64_w, i32_w]; rw [c24b0]) | skip)
        have H' := Aside0.mk H; clear H
        go_wp2
        go_meet
        case rel => exact ⟨_, (true), au, H', ⟨by have := HJ6.out; first | omega | exact Nat.le_refl _⟩, ⟨rl HO_8⟩, ⟨sl HO_236001⟩, ⟨bk BK235⟩, ⟨bs HB GE235⟩⟩
      case rest =>
       clear HC23
       try clear c1
       try clear c2
       try clear p2
       try clear c3
       try clear c7
       try clear c15
       try clear c15b0
       try clear c15b1
       try clear c16
       try clear c17
       try clear c17b0
       try clear c17b1
       try clear c19
       try clear c23
       try clear c24
       try clear c24b0
       try clear c24b1
       try clear hcz10_0
       try clear hcz10_1
       try clear hcz13_0
       try clear hcz13_1
       try clear hcz20_0
       try clear hcz20_1
       try clear hcz25_0
       try clear hcz25_1
       try clear hfz10_0
       try clear hfz10_1
       try clear hfz13_0
       try clear hfz13_1
       try clear hfz20_0
       try clear hfz20_1
       try clear hfz25_0
       try clear hfz25_1
       try clear p2
       obtain ⟨kq, x59_22, rfl, HA, HJ22, HO_8, HO_236001, BK235, HB⟩ := hcut
       cases kq with
       | zero => exact absurd HA.out (by simp [laws_FnSettled.j1])
       | succ kj22 =>
        have H := HA.out; clear HA
        simp only [laws_FnSettled.j1] at H
        by_cases c26 : x59_22 = true
        ·subst c26
         have H1 : (some ((t241.length : Int) == 0)) = some r := by rw [if_pos rfl] at H; exact H
         clear H; have H := H1; clear H1; clear hrt; obtain rfl := Option.some.inj H; obtain ⟨Ao27, co27, eo27⟩ := Kd.R_slice HO_8.out
         subst eo27
         go_wp2
         go_ret
         exact ⟨by first | rfl | (simp [errW_none, errW_some] <;> rfl) | (simp [*, errW_none, errW_some] <;> rfl), bs HB GE235⟩
        ·replace c26 := Bool.eq_false_iff.mpr c26
         subst c26
         have H1 : (laws_FnSettled.l0 kj22 0 t230 t231) = some r := by rw [if_neg (show ¬ (false = true) by decide)] at H; exact H
         clear H; have H := H1; clear H1; have H' := Aside0.mk H; clear H
         go_wp2
         go_loopg [11] kj22 (fun kq v11 w' => ∃ (x11_3 : Int), v11 = .int .i64 x11_3 ∧ Aside0 (laws_FnSettled.l0 kq x11_3 t230 t231 = some r) ∧ Aside0 (kq ≤ kj22) ∧ Aside0 (Kd.S (Kd.slice 2 (Kd.int .i64)) 33 w' w.heap.size (fun _ => True) (.slice Ao11 t231.length co11) t231) ∧ Aside0 (w'.heap[gb235]? = some (.cells #[.int .i64 t230, (.slice Ao11 t231.length co11)] 37 (0, 0))) ∧ Aside0 (Below w.heap.size w w'))
         case atStart => exact ⟨(0), au, H', ⟨Nat.le_refl _⟩, ⟨sl HO_236001⟩, ⟨bk BK235⟩, ⟨bs HB GE235⟩⟩
         case round =>
          clear H'
          try clear c1
          try clear c2
          try clear p2
          try clear c3
          try clear c7
          try clear c15
          try clear c15b0
          try clear c15b1
          try clear c16
          try clear c17
          try clear c17b0
          try clear c17b1
          try clear c19
          try clear c23
          try clear c24
          try clear c24b0
          try clear c24b1
          try clear c26
          try clear c27
          try clear hcz10_0
          try clear hcz10_1
          try clear hcz13_0
          try clear hcz13_1
          try clear hcz20_0
          try clear hcz20_1
          try clear hcz25_0
          try clear hcz25_1
          try clear hfz10_0
          try clear hfz10_1
          try clear hfz13_0
          try clear hfz13_1
          try clear hfz20_0
          try clear hfz20_1
          try clear hfz25_0
          try clear hfz25_1
          try clear p2
          obtain ⟨x11_3, rfl, HA, HK3, HO_236001, BK235, HB⟩ := hrel
          cases gk with
          | zero => exact absurd HA.out (by simp [laws_FnSettled.l0])
          | succ k3 =>
           have H := HA.out; clear HA
           simp only [laws_FnSettled.l0] at H
           obtain ⟨ji28, hji28⟩ : ∃ j_ : Int, (IntKind.u64.wrap (t230)) = j_ := ⟨_, rfl⟩
           replace H : (if 0 ≤ (ji28) then (if x11_3 < (shl .i64 1 (ji28)) then (laws_FnSettled.l1 k3 x11_3 (([] : List Bool)) 0 t230 t231) else (some true)) else (none)) = some r := by first | (rw [hji28] at H; exact H) | (simp only [hji28] at H ⊢; exact H)
           by_cases c29 : 0 ≤ (ji28)
           ·rw [if_pos c29] at H
            have c29b0 := eq_true c29; have c29b1 : decide (0 ≤ (ji28)) = true := decide_eq_true c29; clear c29; obtain ⟨ji30, hji30⟩ : ∃ j_ : Int, (shl .i64 1 (ji28)) = j_ := ⟨_, rfl⟩
            replace H : (if x11_3 < (ji30) then (laws_FnSettled.l1 k3 x11_3 (([] : List Bool)) 0 t230 t231) else (some true)) = some r := by first | (rw [hji30] at H; exact H) | (simp only [hji30] at H ⊢; exact H)
            have hji30_ : (IntKind.i64.wrap (1 * 2 ^ min (ji28).toNat 64)) = ji30 := hji30; have hji30z : (ji28) ≤ 64 → (IntKind.i64.wrap (1 * 2 ^ (ji28).toNat)) = ji30 := shl_small hji30
            (try have hji30k := hji30z (by first | omega | (rw [← hji28]; exact Int.le_of_lt (Int.tmod_lt_of_pos _ (by decide)))))
            have hji30u : (IntKind.i64.wrap (2 ^ min (ji28).toNat 64)) = ji30 := by have h_ := hji30_; rw [Int.one_mul] at h_; exact h_
            have hji30v : (ji28) ≤ 64 → (IntKind.i64.wrap (2 ^ (ji28).toNat)) = ji30 := fun hle_ => by have h_ := hji30z hle_; rw [Int.one_mul] at h_; exact h_
            have hji30y : (wrap64 (1 * 2 ^ min (ji28).toNat 64)) = ji30 := (i64_w _).symm.trans hji30_
            have hji30x : (ji28) ≤ 64 → (wrap64 (1 * 2 ^ (ji28).toNat)) = ji30 := fun h_ => (i64_w _).symm.trans (hji30z h_)
            by_cases c31 : x11_3 < (ji30)
            ·rw [if_pos c31] at H
             have c31b0 : decide (x11_3 < (ji30)) = true := decide_eq_true c31; clear c31; obtain ⟨y247, hy247⟩ : ∃ y_ : List Bool, y_ = (([] : List Bool)) := ⟨_, rfl⟩
             replace H : (laws_FnSettled.l1 k3 x11_3 y247 0 t230 t231) = some r := by first | (rw [hy247]; with_reducible exact H) | (have H2_ := (Option.bind_some _ _).symm.trans H; rw [hy247]; with_reducible exact H2_) | (have H2_ := (Option.bind_some _ _).symm.trans H; with_reducible exact H2_) | with_reducible exact H | (rw [hy247]; exact H) | exact H
             have Ny247 := Aside0.mk hy247; clear hy247; have H' := Aside0.mk H; clear H; have hcz32_0 : wr.cell? ⟨gb235, 0, none⟩ = some (.int .i64 t230) := (blk_cell BK235.out 0).trans rfl; have hcz32_1 : wr.cell? ⟨gb235, 1, none⟩ = some (.slice Ao11 t231.length co11) := (blk_cell BK235.out 1).trans rfl; have hfz32_0 := blk_frozen BK235.out 0; have hfz32_1 := blk_frozen BK235.out 1
             go_wp2_with (first | ((with_reducible refine gate_dst (N := 71) rfl ?_); refine Kd.R_lit Kd.bool _ 4 ?hg (N := 71) ?hd (xs := ([] : List Bool)) (inner := []) (ok := fun _ => True) (okp := fun _ => True) ?hr ?hp (fun _ hk => hk) trivial (Below.refl _ _) (Nat.le_refl _) (by simp) ?_; (case hd => rfl); (case hg => rfl); (case hr => first | (go_simp; done) | (go_simp; rfl)); (case hp => exact (Reps.none _ _)); intro v248 w33 ho34 hb hg_ hnew_; clear hg_ hnew_; (first | rw [← Ny247.out] at ho34 | (simp only [Int.reduceToNat] at ho34; rw [← Ny247.out] at ho34)); have n0_ := Aside0.mk (Kd.S_below (sl HO_236001) hb); have n1_ := Aside0.mk (Kd.R_lower ho34 (below_size (bs HB GE235))); have n2_ := Aside0.mk (blk_below (g := gb235) (o := .cells #[.int .i64 t230, .slice Ao11 t231.length co11] 37 (0, 0)) (bk BK235) hb); have n3_ := Aside0.mk (below_step (bs HB GE235) hb); clear HO_236001; clear BK235; clear HB; have HO_236001 := n0_; have HO249 := n1_; have BK235 := n2_; have HB := n3_; clear n0_ n1_ n2_ n3_; clear hb ho34))
             go_loopg [12, 13] k3 (fun kq v12 v13 w' => ∃ (x12_4 : List Bool) (x13_4 : Int), v13 = .int .i64 x13_4 ∧ Aside0 (laws_FnSettled.l1 kq x11_3 x12_4 x13_4 t230 t231 = some r) ∧ Aside0 (kq ≤ k3) ∧ Aside0 (Kd.R Kd.bool 4 w' w.heap.size (fun _ => True) v12 x12_4) ∧ Aside0 (Kd.S (Kd.slice 2 (Kd.int .i64)) 33 w' w.heap.size (fun _ => True) (.slice Ao11 t231.length co11) t231) ∧ Aside0 (w'.heap[gb235]? = some (.cells #[.int .i64 t230, (.slice Ao11 t231.length co11)] 37 (0, 0))) ∧ Aside0 (Below w.heap.size w w'))
             case atStart => exact ⟨(y247), (0), au, H', ⟨Nat.le_refl _⟩, ⟨rl HO249⟩, ⟨sl HO_236001⟩, ⟨bk BK235⟩, ⟨bs HB GE235⟩⟩
             case round =>
              clear H'
              try clear c1
              try clear c2
              try clear p2
              try clear c3
              try clear p6
              try clear c7
              try clear c15
              try clear c15b0
              try clear c15b1
              try clear c16
              try clear c17
              try clear c17b0
              try clear c17b1
              try clear c19
              try clear c23
              try clear c24
              try clear c24b0
              try clear c24b1
              try clear c26
              try clear c27
              try clear c29
              try clear c29b0
              try clear c29b1
              try clear c30
              try clear c31
              try clear c31b0
              try clear c34
              try clear hcz10_0
              try clear hcz10_1
              try clear hcz13_0
              try clear hcz13_1
              try clear hcz20_0
              try clear hcz20_1
              try clear hcz25_0
              try clear hcz25_1
              try clear hcz32_0
              try clear hcz32_1
              try clear hfz10_0
              try clear hfz10_1
              try clear hfz13_0
              try clear hfz13_1
              try clear hfz20_0
              try clear hfz20_1
              try clear hfz25_0
              try clear hfz25_1
              try clear hfz32_0
              try clear hfz32_1
              try clear p2
              obtain ⟨x12_4, x13_4, rfl, HA, HK4, HO_12, HO_236001, BK235, HB⟩ := hrel
              cases gk with
              | zero => exact absurd HA.out (by simp [laws_FnSettled.l1])
              | succ k4 =>
               have H := HA.out; clear HA
               simp only [laws_FnSettled.l1] at H
               by_cases c35 : x13_4 < t230
               ·rw [if_pos c35] at H
                have c35b0 : decide (x13_4 < t230) = true := decide_eq_true c35; clear c35; obtain ⟨ji36, hji36⟩ : ∃ j_ : Int, (IntKind.u64.wrap (x13_4)) = j_ := ⟨_, rfl⟩
                replace H : (if 0 ≤ (ji36) then (if x12_4.length < 140737488355328 then (laws_FnSettled.l1 k4 x11_3 (x12_4 ++ [((Go.bits .and .i64 (shr .i64 x11_3 (ji36)) 1) == 1)]) (wrap64 (x13_4 + 1)) t230 t231) else (none)) else (none)) = some r := by first | (rw [hji36] at H; exact H) | (simp only [hji36] at H ⊢; exact H)
                by_cases c37 : 0 ≤ (ji36)
                ·rw [if_pos c37] at H
                 have c37b0 := eq_true c37; have c37b1 : decide (0 ≤ (ji36)) = true := decide_eq_true c37; clear c37; obtain ⟨ji38, hji38⟩ : ∃ j_ : Int, (shr .i64 x11_3 (ji36)) = j_ := ⟨_, rfl⟩
                 replace H : (if x12_4.length < 140737488355328 then (laws_FnSettled.l1 k4 x11_3 (x12_4 ++ [((Go.bits .and .i64 (ji38) 1) == 1)]) (wrap64 (x13_4 + 1)) t230 t231) else (none)) = some r := by first | (rw [hji38] at H; exact H) | (simp only [hji38] at H ⊢; exact H)
                 have hji38_ : (x11_3 / 2 ^ min (ji36).toNat 64) = ji38 := hji38; have hji38z : (ji36) ≤ 64 → (x11_3 / 2 ^ (ji36).toNat) = ji38 := shr_small hji38
                 (try have hji38k := hji38z (by first | omega | (rw [← hji36]; exact Int.le_of_lt (Int.tmod_lt_of_pos _ (by decide)))))
                 by_cases c39 : x12_4.length < 140737488355328
                 ·rw [if_pos c39] at H
                  have LMc39 := Aside0.mk c39; clear c39; obtain ⟨y250, hy250⟩ : ∃ y_ : List Bool, y_ = (x12_4 ++ [((Go.bits .and .i64 (ji38) 1) == 1)]) := ⟨_, rfl⟩
                  replace H : (laws_FnSettled.l1 k4 x11_3 y250 (wrap64 (x13_4 + 1)) t230 t231) = some r := by first | (rw [hy250]; with_reducible exact H) | (have H2_ := (Option.bind_some _ _).symm.trans H; rw [hy250]; with_reducible exact H2_) | (have H2_ := (Option.bind_some _ _).symm.trans H; with_reducible exact H2_) | with_reducible exact H | (rw [hy250]; exact H) | exact H
                  have Ny250 := Aside0.mk hy250; clear hy250; have H' := Aside0.mk H; clear H; have hcz40_0 : wr.cell? ⟨gb235, 0, none⟩ = some (.int .i64 t230) := (blk_cell BK235.out 0).trans rfl; have hcz40_1 : wr.cell? ⟨gb235, 1, none⟩ = some (.slice Ao11 t231.length co11) := (blk_cell BK235.out 1).trans rfl; have hfz40_0 := blk_frozen BK235.out 0; have hfz40_1 := blk_frozen BK235.out 1
                  go_wp2_with (first | ((with_reducible refine gate_builtin (b := .append) (xs := #[.tmp 78, .tmp 85]) rfl ?_); at_builtin; refine Kd.R_append Kd.bool (w0 := w) w.heap.size rfl (.tmp 78) (.tmp 85) 51 4 (.bool false) 1 rfl Try.underlying51 info4 rfl (by decide) (by omega) u12 x12_4 ((Go.bits .and .i64 (ji38) 1) == 1) [.bool ((Go.bits .and .i64 (ji38) 1) == 1)] (fun _ => True) (fun _ => False) rfl rfl ?aP (fun _ hk => hk.elim) ?aF ?aO ?aB ?aS ?aL ?_; (case aP => exact rfl); (case aB => exact (bs HB GE235)); (case aF => exact (fun _ _ => trivial)); (case aO => exact (rl HO_12)); (case aS => exact (below_size (bs HB GE235))); (case aL => have := LMc39.out; omega); intro v251 w41 ho hb hg hat; rw [← Ny250.out] at ho; have n0_ := Aside0.mk (Kd.S_over' (sl HO_236001) (Kd.R_typed (rl HO_12)) (by decide) hg); have n1_ := Aside0.mk (blk_grown (g := gb235) (o := .cells #[.int .i64 t230, .slice Ao11 t231.length co11] 37 (0, 0)) (bk BK235) hg (Kd.R_ne HO_12.out BK235.out (by decide))); have n2_ := Aside0.mk (hb); have n3_ := Aside0.mk (ho); clear HO_236001; clear BK235; clear HB; clear HO_12; have HO_236001 := n0_; have BK235 := n1_; have HB := n2_; have HO252 := n3_; clear n0_ n1_ n2_ n3_; clear ho hb hg hat))
                  go_roundg k4
                  case measure => have := HJ6.out; have := HJ22.out; have := HK3.out; have := HK4.out; omega
                  case rel => exact ⟨(y250), (wrap64 (x13_4 + 1)), au, H', ⟨by have := HJ6.out; have := HJ22.out; have := HK3.out; have := HK4.out; omega⟩, ⟨rl HO252⟩, ⟨sl HO_236001⟩, ⟨bk BK235⟩, ⟨bs HB GE235⟩⟩
                 ·rw [if_neg c39] at H
                  exact absurd H (by simp)
                ·rw [if_neg c37] at H
                 exact absurd H (by simp)
               ·rw [if_neg c35] at H
                have c35b0 : decide (x13_4 < t230) = false := decide_eq_false c35; clear c35; replace H := Option.bind_eq_some_iff.mp H; obtain ⟨t253, A420, H⟩ := H; replace H : (if t253 = true then (some false) else (laws_FnSettled.l0 k4 (wrap64 (x11_3 + 1)) t230 t231)) = some r := H; have A42 := Aside0.mk A420; clear A420
                by_cases c43 : t253 = true
                ·subst c43
                 have H1 : (some false) = some r := by rw [if_pos rfl] at H; exact H
                 clear H; have H := H1; clear H1
                 subst hrt
                 exact absurd H (by simp)
                ·replace c43 := Bool.eq_false_iff.mpr c43
                 subst c43
                 have H1 : (laws_FnSettled.l0 k4 (wrap64 (x11_3 + 1)) t230 t231) = some r := by rw [if_neg (show ¬ (false = true) by decide)] at H; exact H
                 clear H; have H := H1; clear H1; have H' := Aside0.mk H; clear H; have hcz44_0 : wr.cell? ⟨gb235, 0, none⟩ = some (.int .i64 t230) := (blk_cell BK235.out 0).trans rfl; have hcz44_1 : wr.cell? ⟨gb235, 1, none⟩ = some (.slice Ao11 t231.length co11) := (blk_cell BK235.out 1).trans rfl; have hfz44_0 := blk_frozen BK235.out 0; have hfz44_1 := blk_frozen BK235.out 1; obtain ⟨Ao45, co45, eo45⟩ := Kd.R_slice HO_12.out
                 subst eo45
                 go_wp2_with (first | ((with_reducible refine gate_callee (f := 27) rfl ?_); refine goesL_ (some 89) rfl rfl Try.func27 (by kernel_rfl) rfl #[.agg #[.int .i64 t230, .slice Ao11 t231.length co11], .slice Ao45 x12_4.length co45] rfl ma ?_; (with_reducible refine (impl_Meets.calls k4 t230 _ _ t231 _ _ x12_4 false _ ?side1 ?side2 ?side3 ?side4 A42.out).mono ?_); (case side1 => repeat (first | exact (Kd.S_reads' HO_236001.out).2.2 | (with_reducible refine Kd.C_alloc ?_ _) | (with_reducible refine Kd.C_drewN ?_ _) | (with_reducible refine Kd.C_drew ?_))); (case side2 => exact (Kd.S_reads' HO_236001.out).2.1); (case side3 => repeat (first | exact (Kd.R_reads' HO_12.out).2.2 | (with_reducible refine Kd.C_alloc ?_ _) | (with_reducible refine Kd.C_drewN ?_ _) | (with_reducible refine Kd.C_drew ?_))); (case side4 => exact (Kd.R_reads' HO_12.out).2.1); rintro e w46 ⟨rfl, hb⟩; refine ⟨_, rfl, ?_⟩; have n0_ := Aside0.mk (Kd.R_below (rl HO_12) hb); have n1_ := Aside0.mk (Kd.S_below (sl HO_236001) hb); have n2_ := Aside0.mk (blk_below (g := gb235) (o := .cells #[.int .i64 t230, .slice Ao11 t231.length co11] 37 (0, 0)) (bk BK235) hb); have n3_ := Aside0.mk (below_step (bs HB GE235) hb); clear HO_12; clear HO_236001; clear BK235; clear HB; have HO_12 := n0_; have HO_236001 := n1_; have BK235 := n2_; have HB := n3_; clear n0_ n1_ n2_ n3_; (try clear hb); (try clear hb2); (try clear hk); (try clear hi)))
                 go_roundg k4
                 case measure => have := HJ6.out; have := HJ22.out; have := HK3.out; have := HK4.out; omega
                 case rel => exact ⟨(wrap64 (x11_3 + 1)), au, H', ⟨by have := HJ6.out; have := HJ22.out; have := HK3.out; have := HK4.out; omega⟩, ⟨sl HO_236001⟩, ⟨bk BK235⟩, ⟨bs HB GE235⟩⟩
            ·rw [if_neg c31] at H
             have c31b0 : decide (x11_3 < (ji30)) = false := decide_eq_false c31; clear c31; clear hrt; obtain rfl := Option.some.inj H; have hcz47_0 : wr.cell? ⟨gb235, 0, none⟩ = some (.int .i64 t230) := (blk_cell BK235.out 0).trans rfl; have hcz47_1 : wr.cell? ⟨gb235, 1, none⟩ = some (.slice Ao11 t231.length co11) := (blk_cell BK235.out 1).trans rfl; have hfz47_0 := blk_frozen BK235.out 0; have hfz47_1 := blk_frozen BK235.out 1
             go_wp2
             go_ret
             exact ⟨by first | rfl | (simp [errW_none, errW_some] <;> rfl) | (simp only [← hji28, ← hji30]; first | rfl | (simp [errW_none, errW_some] <;> rfl)) | (simp [*, errW_none, errW_some] <;> rfl), bs HB GE235⟩
           ·rw [if_neg c29] at H
            exact absurd H (by simp)

end Go.Proofs.Ytpkclocdenagcaa.PFnSettled
