-- Written by a program of this session (a turned copy of the kit's printer); Lean checks it.
-- half the depth
import Derived.Test.YtpkclocdenagcaaPFnExactReadBitsx0
import Derived.Test.YtpkclocdenagcaaPFnExactReadBitsx2
import Derived.Test.YtpkclocdenagcaaPFnExactReadBitsx3
namespace Go.Proofs.Ytpkclocdenagcaa.PFnExactReadBits
open Go.RowKit Go.Proofs.YtpkclocdenagcaaW.PrintWords Go.Proofs.YtpkclocdenagcaaW.PrintLast Go.Proofs.YtpkclocdenagcaaW.PrintMore
attribute [local go_sem] max2_int min2_int max_two min_two max_three min_three max_four min_four   -- for this text's walks alone
set_option linter.unusedVariables false
set_option linter.unusedSimpArgs false

/-! ### laws_heldBits: function 12 -/
def laws_heldBits.f (k : Nat) (a0_0 : Int) (l0_1 : List Int) (a1 : Int) : Option (Int) := (laws_heldUint64S.f k l0_1 a1).bind fun t152 => (if t152 < 0 then (some (-1)) else (some t152))
set_option maxHeartbeats 8000000 in
set_option maxRecDepth 100000 in
theorem laws_heldBits.calls (k : Nat) (a0_0 : Int) (A0_1 : Option Addr) (c0_1 : Nat) (l0_1 : List Int) (a1 : Int) (r : Int) (w : World) (hr0_1 : Kd.C (Kd.int .u64) w A0_1 l0_1.length l0_1) (hc0_1 : l0_1.length ≤ c0_1) (h : laws_heldBits.f k a0_0 l0_1 a1 = some r) :
  Calls Try.prog 12 #[.agg #[.int .i64 a0_0, .slice A0_1 l0_1.length c0_1], .int .i64 a1] w fun e w' => e = .returned (.int .i64 r) ∧ Below w.heap.size w w' := by
 have hu24 := Try.underlying24; have HR0_1 := Aside0.mk hr0_1; have HC0_1 := Aside0.mk hc0_1; clear hr0_1 hc0_1; have HB := Aside0.mk (Below.refl w.heap.size w); have H : ((laws_heldUint64S.f k l0_1 a1).bind fun t152 => (if t152 < 0 then (some (-1)) else (some t152))) = some r := h; clear h; replace H := Option.bind_eq_some_iff.mp H; obtain ⟨t152, A30, H⟩ := H; replace H : (if t152 < 0 then (some (-1)) else (some t152)) = some r := H; have A3 := Aside0.mk A30; clear A30
 by_cases c4 : t152 < 0
 ·rw [if_pos c4] at H
  have c4b0 : decide (t152 < 0) = true := decide_eq_true c4; clear c4; obtain rfl := Option.some.inj H
  go_enter Try.func12, Try.ntmps12
  go_wp2_with (first | ((with_reducible refine gate_dst (N := 2) rfl ?_); refine be 2 #[.int .i64 a0_0, .slice A0_1 l0_1.length c0_1] 24 ?_; intro gb151 hg w5 hbox hb; have n0_ := Aside0.mk (below_step (bl HB) hb); have n1_ := Aside0.mk (hbox); have n2_ := Aside0.mk (gs HB hg); have n3_ := Aside0.mk (gs HB hg); clear HB; have HB := n0_; have BK151 := n1_; have GW151 := n2_; have GE151 := n3_; clear n0_ n1_ n2_ n3_; clear hb hbox hg; have hcz6_0 : w5.cell? ⟨gb151, 0, none⟩ = some (.int .i64 a0_0) := (blk_cell BK151.out 0).trans rfl; have hcz6_1 : w5.cell? ⟨gb151, 1, none⟩ = some (.slice A0_1 l0_1.length c0_1) := (blk_cell BK151.out 1).trans rfl; have hfz6_0 := blk_frozen BK151.out 0; have hfz6_1 := blk_frozen BK151.out 1) | ((with_reducible refine gate_callee (f := 42) rfl ?_); refine goesL_ (some 8) rfl rfl Try.func42 (by kernel_rfl) rfl #[.slice A0_1 l0_1.length c0_1, .int .i64 a1] rfl ma ?_; (with_reducible refine (laws_heldUint64S.calls k _ _ l0_1 a1 t152 _ ?side1 ?side2 A3.out).mono ?_); (case side1 => exact rc HR0_1 HB); (case side2 => exact HC0_1.out); rintro e w' ⟨rfl, ⟨nd, rfl⟩⟩; refine ⟨_, rfl, ?_⟩))
  go_ret
  exact ⟨by first | rfl | (simp [errW_none, errW_some] <;> rfl) | (simp [*, errW_none, errW_some] <;> rfl), bs HB GE151⟩
 ·rw [if_neg c4] at H
  have c4b0 : decide (t152 < 0) = false := decide_eq_false c4; clear c4; obtain rfl := Option.some.inj H
  go_enter Try.func12, Try.ntmps12
  go_wp2_with (first | ((with_reducible refine gate_dst (N := 2) rfl ?_); refine be 2 #[.int .i64 a0_0, .slice A0_1 l0_1.length c0_1] 24 ?_; intro gb151 hg w7 hbox hb; have n0_ := Aside0.mk (below_step (bl HB) hb); have n1_ := Aside0.mk (hbox); have n2_ := Aside0.mk (gs HB hg); have n3_ := Aside0.mk (gs HB hg); clear HB; have HB := n0_; have BK151 := n1_; have GW151 := n2_; have GE151 := n3_; clear n0_ n1_ n2_ n3_; clear hb hbox hg; have hcz8_0 : w7.cell? ⟨gb151, 0, none⟩ = some (.int .i64 a0_0) := (blk_cell BK151.out 0).trans rfl; have hcz8_1 : w7.cell? ⟨gb151, 1, none⟩ = some (.slice A0_1 l0_1.length c0_1) := (blk_cell BK151.out 1).trans rfl; have hfz8_0 := blk_frozen BK151.out 0; have hfz8_1 := blk_frozen BK151.out 1) | ((with_reducible refine gate_callee (f := 42) rfl ?_); refine goesL_ (some 8) rfl rfl Try.func42 (by kernel_rfl) rfl #[.slice A0_1 l0_1.length c0_1, .int .i64 a1] rfl ma ?_; (with_reducible refine (laws_heldUint64S.calls k _ _ l0_1 a1 t152 _ ?side1 ?side2 A3.out).mono ?_); (case side1 => exact rc HR0_1 HB); (case side2 => exact HC0_1.out); rintro e w' ⟨rfl, ⟨nd, rfl⟩⟩; refine ⟨_, rfl, ?_⟩))
  go_ret
  exact ⟨by first | rfl | (simp [errW_none, errW_some] <;> rfl) | (simp [*, errW_none, errW_some] <;> rfl), bs HB GE151⟩

/-! ### laws_FnExactReadBits: function 3 -/
mutual
def laws_FnExactReadBits.j0 : Nat → ByteArray → Bool → Bool → Int → List Int → Int → List Int → Option (Bool)
 | 0, _, _, _, _, _, _, _ => none
 | k + 1, x0, x4, x32, x159000, x159001, x165000, x165001 => if x32 = true then (some false) else ((laws_markBits.f k x165000 x165001 1).bind fun bt166 => ((laws_heldBits.f k x165000 bt166.2 1).bind fun t168 => (if t168 < 0 then (some false) else (if t168 = bt166.1 then ((impl_ReadBits.f k x0).bind fun bt169 => ((laws_eqBits.f k bt169.1 bt169.2.1 x159000 x159001).bind fun t175 => (if t175 = true then (laws_FnExactReadBits.j1 k bt166.1 (bt169.2.2 != x4) x165000 bt166.2) else (laws_FnExactReadBits.j1 k bt166.1 true x165000 bt166.2)))) else (some false)))))
def laws_FnExactReadBits.j1 : Nat → Int → Bool → Int → List Int → Option (Bool)
 | 0, _, _, _, _ => none
 | k + 1, x7, x57, x165000, x165001 => if x57 = true then (some false) else ((laws_heldBits.f k x165000 x165001 1).bind fun t176 => (if t176 < 0 then (some false) else (if t176 = x7 then (some true) else (some false))))
end
def laws_FnExactReadBits.f (k : Nat) (a0 : ByteArray) : Option (Bool) := if (a0.size : Int) > 1048576 then (some true) else ((spec_ReadBits.f k a0).bind fun bt153 => ((impl_ReadBits.f k a0).bind fun bt159 => ((laws_eqBits.f k bt159.1 bt159.2.1 bt153.1 bt153.2.1).bind fun t165 => (if t165 = true then (laws_FnExactReadBits.j0 k a0 bt153.2.2 (bt159.2.2 != bt153.2.2) bt153.1 bt153.2.1 bt159.1 bt159.2.1) else (laws_FnExactReadBits.j0 k a0 bt153.2.2 true bt153.1 bt153.2.1 bt159.1 bt159.2.1)))))
set_option maxHeartbeats 8000000 in
set_option maxRecDepth 100000 in
theorem laws_FnExactReadBits.calls (k : Nat) (a0 : ByteArray) (r : Bool) (w : World) (h : laws_FnExactReadBits.f k a0 = some r) (hrt : r = true) :
  Calls Try.prog 3 #[.string a0] w fun e w' => e = .returned (.bool r) ∧ Below w.heap.size w w' := by
 have hu24 := Try.underlying24; have HB := Aside0.mk (Below.refl w.heap.size w); have H : (if (a0.size : Int) > 1048576 then (some true) else ((spec_ReadBits.f k a0).bind fun bt153 => ((impl_ReadBits.f k a0).bind fun bt159 => ((laws_eqBits.f k bt159.1 bt159.2.1 bt153.1 bt153.2.1).bind fun t165 => (if t165 = true then (laws_FnExactReadBits.j0 k a0 bt153.2.2 (bt159.2.2 != bt153.2.2) bt153.1 bt153.2.1 bt159.1 bt159.2.1) else (laws_FnExactReadBits.j0 k a0 bt153.2.2 true bt153.1 bt153.2.1 bt159.1 bt159.2.1)))))) = some r := h; clear h
 by_cases c2 : (a0.size : Int) > 1048576
 ·rw [if_pos c2] at H
  have c2b0 : decide (1048576 < (a0.size : Int)) = true := decide_eq_true c2; have c2b1 : decide (1048576 < a0.size) = true := decide_eq_true (by omega); clear c2; clear hrt; obtain rfl := Option.some.inj H
  go_enter Try.func3, Try.ntmps3
  go_wp2
  go_ret
  exact ⟨by first | rfl | (simp [errW_none, errW_some] <;> rfl) | (simp [*, errW_none, errW_some] <;> rfl), bl HB⟩
 ·rw [if_neg c2] at H
  have c2b0 : decide (1048576 < (a0.size : Int)) = false := decide_eq_false c2; have c2b1 : decide (1048576 < a0.size) = false := decide_eq_false (by omega); clear c2; replace H := Option.bind_eq_some_iff.mp H; obtain ⟨⟨t153, t154, t157⟩, A30, H⟩ := H; replace H : ((impl_ReadBits.f k a0).bind fun bt159 => ((laws_eqBits.f k bt159.1 bt159.2.1 t153 t154).bind fun t165 => (if t165 = true then (laws_FnExactReadBits.j0 k a0 t157 (bt159.2.2 != t157) t153 t154 bt159.1 bt159.2.1) else (laws_FnExactReadBits.j0 k a0 t157 true t153 t154 bt159.1 bt159.2.1)))) = some r := H; have A3 := Aside0.mk A30; clear A30; replace H := Option.bind_eq_some_iff.mp H; obtain ⟨⟨t159, t160, t163⟩, A40, H⟩ := H; replace H : ((laws_eqBits.f k t159 t160 t153 t154).bind fun t165 => (if t165 = true then (laws_FnExactReadBits.j0 k a0 t157 (t163 != t157) t153 t154 t159 t160) else (laws_FnExactReadBits.j0 k a0 t157 true t153 t154 t159 t160))) = some r := H; have A4 := Aside0.mk A40; clear A40; have HC5 := Aside0.mk H; clear H
  go_enter Try.func3, Try.ntmps3
  go_upto_region 5 with (first | ((with_reducible refine gate_callee (f := 8) rfl ?_); refine goesL_ (some 16) rfl rfl Try.func8 (by kernel_rfl) rfl #[.string a0] rfl ma ?_; (with_reducible refine (spec_ReadBits.calls k a0 t153 t154 t157 _ A3.out).mono ?_); rintro e w6 ⟨v155, rfl, ho0, hb⟩; refine ⟨_, rfl, ?_⟩; have n0_ := Aside0.mk (Kd.R_lower ho0 (below_size (bl HB))); have n1_ := Aside0.mk (below_step (bl HB) hb); clear HB; have HO156 := n0_; have HB := n1_; clear n0_ n1_; (try clear hb); (try clear hb2); (try clear hk); (try clear hi); (try clear ho0)) | ((with_reducible refine gate_dst (N := 3) rfl ?_); refine be 3 #[.int .i64 0, .slice none 0 0] 24 ?_; intro gb158 hg w7 hbox hb; have n0_ := Aside0.mk (Kd.R_below (rl HO156) hb); have n1_ := Aside0.mk (below_step (bl HB) hb); have n2_ := Aside0.mk (hbox); have n3_ := Aside0.mk (gs HB hg); have n4_ := Aside0.mk (gs HB hg); clear HO156; clear HB; have HO156 := n0_; have HB := n1_; have BK158 := n2_; have GW158 := n3_; have GE158 := n4_; clear n0_ n1_ n2_ n3_ n4_; clear hb hbox hg; have hcz8_0 : w7.cell? ⟨gb158, 0, none⟩ = some (.int .i64 0) := (blk_cell BK158.out 0).trans rfl; have hcz8_1 : w7.cell? ⟨gb158, 1, none⟩ = some (.slice none 0 0) := (blk_cell BK158.out 1).trans rfl; have hfz8_0 := blk_frozen BK158.out 0; have hfz8_1 := blk_frozen BK158.out 1; obtain ⟨Ao9, co9, eo9⟩ := Kd.R_slice HO156.out; subst eo9) | ((with_reducible refine gate_callee (f := 9) rfl ?_); refine goesL_ (some 21) rfl rfl Try.func9 (by kernel_rfl) rfl #[.string a0] rfl ma ?_; (with_reducible refine (impl_ReadBits.calls k a0 t159 t160 t163 _ A4.out).mono ?_); rintro e w10 ⟨v161, rfl, ho0, hb⟩; refine ⟨_, rfl, ?_⟩; have n0_ := Aside0.mk (Kd.R_elder' (by (with_reducible repeat (first | apply Kd.R_alloc | apply Kd.R_drewN | apply Kd.R_drew)); exact (Kd.R_mono (Kd.R_far (p := ⟨gb158, 1, none⟩) (Kd.R_far (p := ⟨gb158, 0, none⟩) (Kd.R_types HO156.out BK158.out (by decide)) (fun _ hk => hk.2) (.int .i64 t153)) (fun _ hk => hk.2) (.slice Ao9 t154.length co9)) (fun _ h_ => h_.1))) (Kd.R_base ho0) hb); have n1_ := Aside0.mk (Kd.R_lower (Kd.R_new' ho0 (Kd.R_lt (by (with_reducible repeat (first | apply Kd.R_alloc | apply Kd.R_drewN | apply Kd.R_drew)); exact (Kd.R_mono (Kd.R_far (p := ⟨gb158, 1, none⟩) (Kd.R_far (p := ⟨gb158, 0, none⟩) (Kd.R_types HO156.out BK158.out (by decide)) (fun _ hk => hk.2) (.int .i64 t153)) (fun _ hk => hk.2) (.slice Ao9 t154.length co9)) (fun _ h_ => h_.1))))) (below_size (bs HB GE158))); have n2_ := Aside0.mk (blk_below (g := gb158) (o := .cells #[.int .i64 t153, .slice Ao9 t154.length co9] 24 (0, 0)) (by refine bd ?_; refine blk_put (cs := #[.int .i64 t153, .slice none 0 0]) ?_ 1 _ rfl; refine bd ?_; refine blk_put (cs := #[.int .i64 0, .slice none 0 0]) ?_ 0 _ rfl; (with_reducible repeat (first | refine blk_drewN ?_ _ | refine blk_drew ?_ | refine blk_alloc ?_ _)); exact BK158.out) hb); have n3_ := Aside0.mk (below_step (bs HB GE158) hb); clear HO156; clear BK158; clear HB; have HO156 := n0_; have HO162 := n1_; have BK158 := n2_; have HB := n3_; clear n0_ n1_ n2_ n3_; (try clear hb); (try clear hb2); (try clear hk); (try clear hi); (try clear ho0)) | ((with_reducible refine gate_dst (N := 5) rfl ?_); refine be 5 #[.int .i64 0, .slice none 0 0] 24 ?_; intro gb164 hg w11 hbox hb; have n0_ := Aside0.mk (Kd.R_below (rl HO156) hb); have n1_ := Aside0.mk (Kd.R_below (rl HO162) hb); have n2_ := Aside0.mk (blk_below (g := gb158) (o := .cells #[.int .i64 t153, .slice Ao9 t154.length co9] 24 (0, 0)) (bk BK158) hb); have n3_ := Aside0.mk (below_step (bs HB GE158) hb); have n4_ := Aside0.mk (hbox); have n5_ := Aside0.mk ((by rw [hg]; exact (below_size (bs HB GE158)) : w.heap.size ≤ gb164)); have n6_ := Aside0.mk ((by rw [hg]; exact (below_size (bs HB GE158)) : w.heap.size ≤ gb164)); have n7_ := Aside0.mk ((by rw [hg]; exact Nat.ne_of_lt (blk_lt (g := gb158) (o := .cells #[.int .i64 t153, .slice Ao9 t154.length co9] 24 (0, 0)) (bk BK158)) : gb158 ≠ gb164)); have n8_ := Aside0.mk ((by rw [hg]; exact Nat.ne_of_gt (blk_lt (g := gb158) (o := .cells #[.int .i64 t153, .slice Ao9 t154.length co9] 24 (0, 0)) (bk BK158)) : gb164 ≠ gb158)); clear HO156; clear HO162; clear BK158; clear HB; have HO156 := n0_; have HO162 := n1_; have BK158 := n2_; have HB := n3_; have BK164 := n4_; have GW164 := n5_; have GE164 := n6_; have NB158_164 := n7_; have NB164_158 := n8_; clear n0_ n1_ n2_ n3_ n4_ n5_ n6_ n7_ n8_; clear hb hbox hg; have hnb12 := NB164_158.out; have hnc12 := NB158_164.out; have hcz13_0 : w11.cell? ⟨gb164, 0, none⟩ = some (.int .i64 0) := (blk_cell BK164.out 0).trans rfl; have hcz13_1 : w11.cell? ⟨gb164, 1, none⟩ = some (.slice none 0 0) := (blk_cell BK164.out 1).trans rfl; have hfz13_0 := blk_frozen BK164.out 0; have hfz13_1 := blk_frozen BK164.out 1; obtain ⟨Ao14, co14, eo14⟩ := Kd.R_slice HO162.out; subst eo14))
  (try simp only [Act.put, List.setIfInBounds_toArray, List.set_cons_zero, List.set_cons_succ])
  go_cut [32] (fun v32 wc => ∃ (kq : Nat) (x32_4 : Bool), v32 = .bool x32_4 ∧ Aside0 (laws_FnExactReadBits.j0 kq a0 t157 x32_4 t153 t154 t159 t160 = some r) ∧ Aside0 (kq ≤ k) ∧ Aside0 (Kd.R (Kd.int .u64) 66 wc w.heap.size (fun k_ => some k_ ≠ ((.slice Ao14 t160.length co14) : Value).ownBlock) (.slice Ao9 t154.length co9) t154) ∧ Aside0 (Kd.R (Kd.int .u64) 66 wc w.heap.size (fun k_ => some k_ ≠ ((.slice Ao9 t154.length co9) : Value).ownBlock) (.slice Ao14 t160.length co14) t160) ∧ Aside0 (wc.heap[gb158]? = some (.cells #[.int .i64 t153, (.slice Ao9 t154.length co9)] 24 (0, 0))) ∧ Aside0 (wc.heap[gb164]? = some (.cells #[.int .i64 t159, (.slice Ao14 t160.length co14)] 24 (0, 0))) ∧ Aside0 (Below w.heap.size w wc))
  case first =>
   have H := HC5.out; clear HC5; replace H := Option.bind_eq_some_iff.mp H; obtain ⟨t165, A150, H⟩ := H; replace H : (if t165 = true then (laws_FnExactReadBits.j0 k a0 t157 (t163 != t157) t153 t154 t159 t160) else (laws_FnExactReadBits.j0 k a0 t157 true t153 t154 t159 t160)) = some r := H; have A15 := Aside0.mk A150; clear A150
   by_cases c16 : t165 = true
   ·subst c16
    have H1 : (laws_FnExactReadBits.j0 k a0 t157 (t163 != t157) t153 t154 t159 t160) = some r := by rw [if_pos rfl] at H; exact H
    clear H; have H := H1; clear H1; have H' := Aside0.mk H; clear H; have hnb17 := NB164_158.out; have hnc17 := NB158_164.out; have hcz18_0 : w11.cell? ⟨gb164, 0, none⟩ = some (.int .i64 0) := (blk_cell BK164.out 0).trans rfl; have hcz18_1 : w11.cell? ⟨gb164, 1, none⟩ = some (.slice none 0 0) := (blk_cell BK164.out 1).trans rfl; have hfz18_0 := blk_frozen BK164.out 0; have hfz18_1 := blk_frozen BK164.out 1; have hcz19_0 : w11.cell? ⟨gb158, 0, none⟩ = some (.int .i64 t153) := (blk_cell BK158.out 0).trans rfl; have hcz19_1 : w11.cell? ⟨gb158, 1, none⟩ = some (.slice Ao9 t154.length co9) := (blk_cell BK158.out 1).trans rfl; have hfz19_0 := blk_frozen BK158.out 0; have hfz19_1 := blk_frozen BK158.out 1
    go_wp2_with (first | ((with_reducible refine gate_callee (f := 10) rfl ?_); refine goesL_ (some 26) rfl rfl Try.func10 (by kernel_rfl) rfl #[.agg #[.int .i64 t159, .slice Ao14 t160.length co14], .agg #[.int .i64 t153, .slice Ao9 t154.length co9]] rfl ma ?_; (with_reducible refine (laws_eqBits.calls k t159 _ _ t160 t153 _ _ t154 true _ ?side1 ?side2 ?side3 ?side4 A15.out).mono ?_); (case side1 => refine (Kd.R_reads' (e := 66) (base := w.heap.size) (ok := fun k_ => (True ∧ some k_ ≠ (.slice Ao9 t154.length co9 : Value).ownBlock)) (n := t160.length) (c := co14) ?_).2.2; exact (by (with_reducible repeat (first | apply Kd.R_alloc | apply Kd.R_drewN | apply Kd.R_drew)); exact (Kd.R_mono (Kd.R_far (p := ⟨gb164, 1, none⟩) (Kd.R_far (p := ⟨gb164, 0, none⟩) (Kd.R_types HO162.out BK164.out (by decide)) (fun _ hk => hk.2) (.int .i64 t159)) (fun _ hk => hk.2) (.slice Ao14 t160.length co14)) (fun _ h_ => h_.1)))); (case side2 => exact (Kd.R_reads' HO162.out).2.1); (case side3 => refine (Kd.R_reads' (e := 66) (base := w.heap.size) (ok := fun k_ => (True ∧ some k_ ≠ (.slice Ao14 t160.length co14 : Value).ownBlock)) (n := t154.length) (c := co9) ?_).2.2; exact (by (with_reducible repeat (first | apply Kd.R_alloc | apply Kd.R_drewN | apply Kd.R_drew)); exact (Kd.R_mono (Kd.R_far (p := ⟨gb164, 1, none⟩) (Kd.R_far (p := ⟨gb164, 0, none⟩) (Kd.R_types HO156.out BK164.out (by decide)) (fun _ hk => hk.2) (.int .i64 t159)) (fun _ hk => hk.2) (.slice Ao14 t160.length co14)) (fun _ h_ => h_.1)))); (case side4 => exact (Kd.R_reads' HO156.out).2.1); rintro e w20 ⟨rfl, hb⟩; refine ⟨_, rfl, ?_⟩; have n0_ := Aside0.mk (Kd.R_below (by (with_reducible repeat (first | apply Kd.R_alloc | apply Kd.R_drewN | apply Kd.R_drew)); exact (Kd.R_mono (Kd.R_far (p := ⟨gb164, 1, none⟩) (Kd.R_far (p := ⟨gb164, 0, none⟩) (Kd.R_types HO156.out BK164.out (by decide)) (fun _ hk => hk.2) (.int .i64 t159)) (fun _ hk => hk.2) (.slice Ao14 t160.length co14)) (fun _ h_ => h_.1))) hb); have n1_ := Aside0.mk (Kd.R_below (by (with_reducible repeat (first | apply Kd.R_alloc | apply Kd.R_drewN | apply Kd.R_drew)); exact (Kd.R_mono (Kd.R_far (p := ⟨gb164, 1, none⟩) (Kd.R_far (p := ⟨gb164, 0, none⟩) (Kd.R_types HO162.out BK164.out (by decide)) (fun _ hk => hk.2) (.int .i64 t159)) (fun _ hk => hk.2) (.slice Ao14 t160.length co14)) (fun _ h_ => h_.1))) hb); have n2_ := Aside0.mk (blk_below (g := gb158) (o := .cells #[.int .i64 t153, .slice Ao9 t154.length co9] 24 (0, 0)) (by (with_reducible repeat (first | refine blk_drewN ?_ _ | refine blk_drew ?_ | refine blk_alloc ?_ _)); refine blk_far ?_ NB158_164.out _; (with_reducible repeat (first | refine blk_drewN ?_ _ | refine blk_drew ?_ | refine blk_alloc ?_ _)); refine blk_far ?_ NB158_164.out _; (with_reducible repeat (first | refine blk_drewN ?_ _ | refine blk_drew ?_ | refine blk_alloc ?_ _)); exact BK158.out) hb); have n3_ := Aside0.mk (blk_below (g := gb164) (o := .cells #[.int .i64 t159, .slice Ao14 t160.length co14] 24 (0, 0)) (by refine bd ?_; refine blk_put (cs := #[.int .i64 t159, .slice none 0 0]) ?_ 1 _ rfl; refine bd ?_; refine blk_put (cs := #[.int .i64 0, .slice none 0 0]) ?_ 0 _ rfl; (with_reducible repeat (first | refine blk_drewN ?_ _ | refine blk_drew ?_ | refine blk_alloc ?_ _)); exact BK164.out) hb); have n4_ := Aside0.mk (below_step (bs2 HB GE158 GE164) hb); clear HO156; clear HO162; clear BK158; clear BK164; clear HB; have HO156 := n0_; have HO162 := n1_; have BK158 := n2_; have BK164 := n3_; have HB := n4_; clear n0_ n1_ n2_ n3_ n4_; (try clear hb); (try clear hb2); (try clear hk); (try clear hi)))
    go_meet
    case rel => exact ⟨_, ((t163 != t157)), au, H', ⟨by first | omega | exact Nat.le_refl _⟩, ⟨by (with_reducible repeat (first | apply Kd.R_alloc | apply Kd.R_drewN | apply Kd.R_drew)); exact Kd.R_mono HO156.out (fun _ hk => hk.2)⟩, ⟨by (with_reducible repeat (first | apply Kd.R_alloc | apply Kd.R_drewN | apply Kd.R_drew)); exact Kd.R_mono HO162.out (fun _ hk => hk.2)⟩, ⟨bk BK158⟩, ⟨bk BK164⟩, ⟨bs2 HB GE158 GE164⟩⟩
   ·replace c16 := Bool.eq_false_iff.mpr c16
    subst c16
    have H1 : (laws_FnExactReadBits.j0 k a0 t157 true t153 t154 t159 t160) = some r := by rw [if_neg (show ¬ (false = true) by decide)] at H; exact H
    clear H; have H := H1; clear H1; have H' := Aside0.mk H; clear H; have hnb21 := NB164_158.out; have hnc21 := NB158_164.out; have hcz22_0 : w11.cell? ⟨gb164, 0, none⟩ = some (.int .i64 0) := (blk_cell BK164.out 0).trans rfl; have hcz22_1 : w11.cell? ⟨gb164, 1, none⟩ = some (.slice none 0 0) := (blk_cell BK164.out 1).trans rfl; have hfz22_0 := blk_frozen BK164.out 0; have hfz22_1 := blk_frozen BK164.out 1; have hcz23_0 : w11.cell? ⟨gb158, 0, none⟩ = some (.int .i64 t153) := (blk_cell BK158.out 0).trans rfl; have hcz23_1 : w11.cell? ⟨gb158, 1, none⟩ = some (.slice Ao9 t154.length co9) := (blk_cell BK158.out 1).trans rfl; have hfz23_0 := blk_frozen BK158.out 0; have hfz23_1 := blk_frozen BK158.out 1
    go_wp2_with (first | ((with_reducible refine gate_callee (f := 10) rfl ?_); refine goesL_ (some 26) rfl rfl Try.func10 (by kernel_rfl) rfl #[.agg #[.int .i64 t159, .slice Ao14 t160.length co14], .agg #[.int .i64 t153, .slice Ao9 t154.length co9]] rfl ma ?_; (with_reducible refine (laws_eqBits.calls k t159 _ _ t160 t153 _ _ t154 false _ ?side1 ?side2 ?side3 ?side4 A15.out).mono ?_); (case side1 => refine (Kd.R_reads' (e := 66) (base := w.heap.size) (ok := fun k_ => (True ∧ some k_ ≠ (.slice Ao9 t154.length co9 : Value).ownBlock)) (n := t160.length) (c := co14) ?_).2.2; exact (by (with_reducible repeat (first | apply Kd.R_alloc | apply Kd.R_drewN | apply Kd.R_drew)); exact (Kd.R_mono (Kd.R_far (p := ⟨gb164, 1, none⟩) (Kd.R_far (p := ⟨gb164, 0, none⟩) (Kd.R_types HO162.out BK164.out (by decide)) (fun _ hk => hk.2) (.int .i64 t159)) (fun _ hk => hk.2) (.slice Ao14 t160.length co14)) (fun _ h_ => h_.1)))); (case side2 => exact (Kd.R_reads' HO162.out).2.1); (case side3 => refine (Kd.R_reads' (e := 66) (base := w.heap.size) (ok := fun k_ => (True ∧ some k_ ≠ (.slice Ao14 t160.length co14 : Value).ownBlock)) (n := t154.length) (c := co9) ?_).2.2; exact (by (with_reducible repeat (first | apply Kd.R_alloc | apply Kd.R_drewN | apply Kd.R_drew)); exact (Kd.R_mono (Kd.R_far (p := ⟨gb164, 1, none⟩) (Kd.R_far (p := ⟨gb164, 0, none⟩) (Kd.R_types HO156.out BK164.out (by decide)) (fun _ hk => hk.2) (.int .i64 t159)) (fun _ hk => hk.2) (.slice Ao14 t160.length co14)) (fun _ h_ => h_.1)))); (case side4 => exact (Kd.R_reads' HO156.out).2.1); rintro e w24 ⟨rfl, hb⟩; refine ⟨_, rfl, ?_⟩; have n0_ := Aside0.mk (Kd.R_below (by (with_reducible repeat (first | apply Kd.R_alloc | apply Kd.R_drewN | apply Kd.R_drew)); exact (Kd.R_mono (Kd.R_far (p := ⟨gb164, 1, none⟩) (Kd.R_far (p := ⟨gb164, 0, none⟩) (Kd.R_types HO156.out BK164.out (by decide)) (fun _ hk => hk.2) (.int .i64 t159)) (fun _ hk => hk.2) (.slice Ao14 t160.length co14)) (fun _ h_ => h_.1))) hb); have n1_ := Aside0.mk (Kd.R_below (by (with_reducible repeat (first | apply Kd.R_alloc | apply Kd.R_drewN | apply Kd.R_drew)); exact (Kd.R_mono (Kd.R_far (p := ⟨gb164, 1, none⟩) (Kd.R_far (p := ⟨gb164, 0, none⟩) (Kd.R_types HO162.out BK164.out (by decide)) (fun _ hk => hk.2) (.int .i64 t159)) (fun _ hk => hk.2) (.slice Ao14 t160.length co14)) (fun _ h_ => h_.1))) hb); have n2_ := Aside0.mk (blk_below (g := gb158) (o := .cells #[.int .i64 t153, .slice Ao9 t154.length co9] 24 (0, 0)) (by (with_reducible repeat (first | refine blk_drewN ?_ _ | refine blk_drew ?_ | refine blk_alloc ?_ _)); refine blk_far ?_ NB158_164.out _; (with_reducible repeat (first | refine blk_drewN ?_ _ | refine blk_drew ?_ | refine blk_alloc ?_ _)); refine blk_far ?_ NB158_164.out _; (with_reducible repeat (first | refine blk_drewN ?_ _ | refine blk_drew ?_ | refine blk_alloc ?_ _)); exact BK158.out) hb); have n3_ := Aside0.mk (blk_below (g := gb164) (o := .cells #[.int .i64 t159, .slice Ao14 t160.length co14] 24 (0, 0)) (by refine bd ?_; refine blk_put (cs := #[.int .i64 t159, .slice none 0 0]) ?_ 1 _ rfl; refine bd ?_; refine blk_put (cs := #[.int .i64 0, .slice none 0 0]) ?_ 0 _ rfl; (with_reducible repeat (first | refine blk_drewN ?_ _ | refine blk_drew ?_ | refine blk_alloc ?_ _)); exact BK164.out) hb); have n4_ := Aside0.mk (below_step (bs2 HB GE158 GE164) hb); clear HO156; clear HO162; clear BK158; clear BK164; clear HB; have HO156 := n0_; have HO162 := n1_; have BK158 := n2_; have BK164 := n3_; have HB := n4_; clear n0_ n1_ n2_ n3_ n4_; (try clear hb); (try clear hb2); (try clear hk); (try clear hi)))
    go_meet
    case rel => exact ⟨_, (true), au, H', ⟨by first | omega | exact Nat.le_refl _⟩, ⟨by (with_reducible repeat (first | apply Kd.R_alloc | apply Kd.R_drewN | apply Kd.R_drew)); exact Kd.R_mono HO156.out (fun _ hk => hk.2)⟩, ⟨by (with_reducible repeat (first | apply Kd.R_alloc | apply Kd.R_drewN | apply Kd.R_drew)); exact Kd.R_mono HO162.out (fun _ hk => hk.2)⟩, ⟨bk BK158⟩, ⟨bk BK164⟩, ⟨bs2 HB GE158 GE164⟩⟩
  case rest =>
   clear HC5
   try clear c1
   try clear c2
   try clear c2b0
   try clear c2b1
   try clear p2
   try clear c3
   try clear c8
   try clear c9
   try clear c10
   try clear c12
   try clear c16
   try clear c17
   try clear c21
   try clear hcz13_0
   try clear hcz13_1
   try clear hcz18_0
   try clear hcz18_1
   try clear hcz19_0
   try clear hcz19_1
   try clear hcz22_0
   try clear hcz22_1
   try clear hcz23_0
   try clear hcz23_1
   try clear hcz8_0
   try clear hcz8_1
   try clear hfz13_0
   try clear hfz13_1
   try clear hfz18_0
   try clear hfz18_1
   try clear hfz19_0
   try clear hfz19_1
   try clear hfz22_0
   try clear hfz22_1
   try clear hfz23_0
   try clear hfz23_1
   try clear hfz8_0
   try clear hfz8_1
   obtain ⟨kq, x32_4, rfl, HA, HJ4, HO_159001, HO_165001, BK158, BK164, HB⟩ := hcut
   cases kq with
   | zero => exact absurd HA.out (by simp [laws_FnExactReadBits.j0])
   | succ kj4 =>
    have H := HA.out; clear HA
    simp only [laws_FnExactReadBits.j0] at H
    by_cases c25 : x32_4 = true
    ·subst c25
     have H1 : (some false) = some r := by rw [if_pos rfl] at H; exact H
     clear H; have H := H1; clear H1
     subst hrt
     exact absurd H (by simp)
    ·replace c25 := Bool.eq_false_iff.mpr c25
     subst c25
     have H1 : ((laws_markBits.f kj4 t159 t160 1).bind fun bt166 => ((laws_heldBits.f kj4 t159 bt166.2 1).bind fun t168 => (if t168 < 0 then (some false) else (if t168 = bt166.1 then ((impl_ReadBits.f kj4 a0).bind fun bt169 => ((laws_eqBits.f kj4 bt169.1 bt169.2.1 t153 t154).bind fun t175 => (if t175 = true then (laws_FnExactReadBits.j1 kj4 bt166.1 (bt169.2.2 != t157) t159 bt166.2) else (laws_FnExactReadBits.j1 kj4 bt166.1 true t159 bt166.2)))) else (some false))))) = some r := by rw [if_neg (show ¬ (false = true) by decide)] at H; exact H
     clear H; have H := H1; clear H1; replace H := Option.bind_eq_some_iff.mp H; obtain ⟨⟨t166, t167⟩, A260, H⟩ := H; replace H : ((laws_heldBits.f kj4 t159 t167 1).bind fun t168 => (if t168 < 0 then (some false) else (if t168 = t166 then ((impl_ReadBits.f kj4 a0).bind fun bt169 => ((laws_eqBits.f kj4 bt169.1 bt169.2.1 t153 t154).bind fun t175 => (if t175 = true then (laws_FnExactReadBits.j1 kj4 t166 (bt169.2.2 != t157) t159 t167) else (laws_FnExactReadBits.j1 kj4 t166 true t159 t167)))) else (some false)))) = some r := H; have A26 := Aside0.mk A260; clear A260; replace H := Option.bind_eq_some_iff.mp H; obtain ⟨t168, A270, H⟩ := H; replace H : (if t168 < 0 then (some false) else (if t168 = t166 then ((impl_ReadBits.f kj4 a0).bind fun bt169 => ((laws_eqBits.f kj4 bt169.1 bt169.2.1 t153 t154).bind fun t175 => (if t175 = true then (laws_FnExactReadBits.j1 kj4 t166 (bt169.2.2 != t157) t159 t167) else (laws_FnExactReadBits.j1 kj4 t166 true t159 t167)))) else (some false))) = some r := H; have A27 := Aside0.mk A270; clear A270
     by_cases c28 : t168 < 0
     ·rw [if_pos c28] at H
      have c28b0 : decide (t168 < 0) = true := decide_eq_true c28; clear c28
      subst hrt
      exact absurd H (by simp)
     ·rw [if_neg c28] at H
      have c28b0 : decide (t168 < 0) = false := decide_eq_false c28; clear c28
      by_cases c29 : t168 = t166
      ·rw [if_pos c29] at H
       have c29b0 : (t168 == t166) = true := beq_iff_eq.mpr c29; have c29b1 : (t168 != t166) = false := bne_eq_false_iff_eq.mpr c29; clear c29; replace H := Option.bind_eq_some_iff.mp H; obtain ⟨⟨t169, t170, t173⟩, A300, H⟩ := H; replace H : ((laws_eqBits.f kj4 t169 t170 t153 t154).bind fun t175 => (if t175 = true then (laws_FnExactReadBits.j1 kj4 t166 (t173 != t157) t159 t167) else (laws_FnExactReadBits.j1 kj4 t166 true t159 t167))) = some r := H; have A30 := Aside0.mk A300; clear A300; have HC31 := Aside0.mk H; clear H; have hnb32 := NB164_158.out; have hnc32 := NB158_164.out; have hcz33_0 : wc.cell? ⟨gb164, 0, none⟩ = some (.int .i64 t159) := (blk_cell BK164.out 0).trans rfl; have hcz33_1 : wc.cell? ⟨gb164, 1, none⟩ = some (.slice Ao14 t160.length co14) := (blk_cell BK164.out 1).trans rfl; have hfz33_0 := blk_frozen BK164.out 0; have hfz33_1 := blk_frozen BK164.out 1
       go_upto_region 16 with (first | ((with_reducible refine gate_callee (f := 11) rfl ?_); refine goesL_ (some 35) rfl rfl Try.func11 (by kernel_rfl) rfl #[.agg #[.int .i64 t159, .slice Ao14 t160.length co14], .int .i64 1] rfl ma ?_; (with_reducible refine (laws_markBits.calls kj4 t159 (fun k_ => some k_ = (.slice Ao14 t160.length co14 : Value).ownBlock) (.slice Ao14 t160.length co14) t160 1 t166 t167 w _ ?side1 ?side2 A26.out).mono ?_); (case side1 => repeat (first | (with_reducible first | exact HB.out | apply below_alloc | apply pw_below_drewN | apply below_drew1 | refine below_set ?_ GE158.out | refine below_set ?_ GE164.out) | exact HB.out)); (case side2 => exact Kd.R_tight rfl HO_165001.out); rintro e w34 ⟨rfl, hy0, hb, hkp⟩; refine ⟨_, rfl, ?_⟩; have n0_ := Aside0.mk (Kd.R_mono (ok' := fun k_ => some k_ ≠ (.slice Ao14 t160.length co14 : Value).ownBlock) (Kd.R_keptB (HO_159001.out) hkp (fun k_ hk_ hs_ => (hk_) hs_)) (fun k_ hk_ => hk_.1)); have n1_ := Aside0.mk (Kd.R_reok rfl hy0 (fun k_ e_ => HO_165001.out.1 k_ e_)); have n2_ := Aside0.mk (blk_kept (bk BK158) hkp (fun hs_ => (fun e_ => (Kd.R_ne HO_165001.out BK158.out (by decide)) e_) hs_)); have n3_ := Aside0.mk (blk_kept (bk BK164) hkp (fun hs_ => (fun e_ => (Kd.R_ne HO_165001.out BK164.out (by decide)) e_) hs_)); have n4_ := Aside0.mk (hb); clear HO_159001; clear HO_165001; clear BK158; clear BK164; clear HB; have HO_159001 := n0_; have HO_165001 := n1_; have BK158 := n2_; have BK164 := n3_; have HB := n4_; clear n0_ n1_ n2_ n3_ n4_; (try clear hb); (try clear hkp); (try clear hy0); have hcz35_0 : w34.cell? ⟨gb164, 0, none⟩ = some (.int .i64 t159) := (blk_cell BK164.out 0).trans rfl; have hcz35_1 : w34.cell? ⟨gb164, 1, none⟩ = some (.slice Ao14 t160.length co14) := (blk_cell BK164.out 1).trans rfl; have hfz35_0 := blk_frozen BK164.out 0; have hfz35_1 := blk_frozen BK164.out 1) | ((with_reducible refine gate_callee (f := 12) rfl ?_); refine goesL_ (some 38) rfl rfl Try.func12 (by kernel_rfl) rfl #[.agg #[.int .i64 t159, .slice Ao14 t167.length co14], .int .i64 1] rfl (by (try simp only [List.map_toArray, List.map_cons, List.map_nil]); first | done | (rw [show t167.length = t160.length from (Kd.R_reads' HO_165001.out).1.symm] <;> rfl) | rfl | (simp only [List.length_drop, List.length_take]; rfl)) ?_; (with_reducible refine (laws_heldBits.calls kj4 t159 _ _ t167 1 t168 _ ?side1 ?side2 A27.out).mono ?_); (case side1 => repeat (first | exact (Kd.R_reads' HO_165001.out).2.2 | (with_reducible refine Kd.C_alloc ?_ _) | (with_reducible refine Kd.C_drewN ?_ _) | (with_reducible refine Kd.C_drew ?_))); (case side2 => rw [show t167.length = t160.length from (Kd.R_reads' HO_165001.out).1.symm]; exact (Kd.R_reads' HO_165001.out).2.1); rintro e w36 ⟨rfl, hb⟩; refine ⟨_, rfl, ?_⟩; have n0_ := Aside0.mk (Kd.R_below (rl HO_159001) hb); have n1_ := Aside0.mk (Kd.R_below (rl HO_165001) hb); have n2_ := Aside0.mk (blk_below (g := gb158) (o := .cells #[.int .i64 t153, .slice Ao9 t154.length co9] 24 (0, 0)) (bk BK158) hb); have n3_ := Aside0.mk (blk_below (g := gb164) (o := .cells #[.int .i64 t159, .slice Ao14 t160.length co14] 24 (0, 0)) (bk BK164) hb); have n4_ := Aside0.mk (below_step (bs2 HB GE158 GE164) hb); clear HO_159001; clear HO_165001; clear BK158; clear BK164; clear HB; have HO_159001 := n0_; have HO_165001 := n1_; have BK158 := n2_; have BK164 := n3_; have HB := n4_; clear n0_ n1_ n2_ n3_ n4_; (try clear hb); (try clear hb2); (try clear hk); (try clear hi)) | ((with_reducible refine gate_callee (f := 9) rfl ?_); refine goesL_ (some 46) rfl rfl Try.func9 (by kernel_rfl) rfl #[.string a0] rfl ma ?_; (with_reducible refine (impl_ReadBits.calls kj4 a0 t169 t170 t173 _ A30.out).mono ?_); rintro e w37 ⟨v171, rfl, ho0, hb⟩; refine ⟨_, rfl, ?_⟩; have n0_ := Aside0.mk (Kd.R_elder' (rl HO_159001) (Kd.R_base ho0) hb); have n1_ := Aside0.mk (Kd.R_elder' (rl HO_165001) (Kd.R_base ho0) hb); have n2_ := Aside0.mk (Kd.R_lower (Kd.R_new' (Kd.R_new' ho0 (Kd.R_lt (rl HO_159001))) (Kd.R_lt (rl HO_165001))) (below_size (bs2 HB GE158 GE164))); have n3_ := Aside0.mk (blk_below (g := gb158) (o := .cells #[.int .i64 t153, .slice Ao9 t154.length co9] 24 (0, 0)) (bk BK158) hb); have n4_ := Aside0.mk (blk_below (g := gb164) (o := .cells #[.int .i64 t159, .slice Ao14 t160.length co14] 24 (0, 0)) (bk BK164) hb); have n5_ := Aside0.mk (below_step (bs2 HB GE158 GE164) hb); clear HO_159001; clear HO_165001; clear BK158; clear BK164; clear HB; have HO_159001 := n0_; have HO_165001 := n1_; have HO172 := n2_; have BK158 := n3_; have BK164 := n4_; have HB := n5_; clear n0_ n1_ n2_ n3_ n4_ n5_; (try clear hb); (try clear hb2); (try clear hk); (try clear hi); (try clear ho0)) | ((with_reducible refine gate_dst (N := 9) rfl ?_); refine be 9 #[.int .i64 0, .slice none 0 0] 24 ?_; intro gb174 hg w38 hbox hb; have n0_ := Aside0.mk (Kd.R_below (rl HO_159001) hb); have n1_ := Aside0.mk (Kd.R_below (rl HO_165001) hb); have n2_ := Aside0.mk (Kd.R_below (rl HO172) hb); have n3_ := Aside0.mk (blk_below (g := gb158) (o := .cells #[.int .i64 t153, .slice Ao9 t154.length co9] 24 (0, 0)) (bk BK158) hb); have n4_ := Aside0.mk (blk_below (g := gb164) (o := .cells #[.int .i64 t159, .slice Ao14 t160.length co14] 24 (0, 0)) (bk BK164) hb); have n5_ := Aside0.mk (below_step (bs2 HB GE158 GE164) hb); have n6_ := Aside0.mk (hbox); have n7_ := Aside0.mk ((by rw [hg]; exact (below_size (bs2 HB GE158 GE164)) : w.heap.size ≤ gb174)); have n8_ := Aside0.mk ((by rw [hg]; exact (below_size (bs2 HB GE158 GE164)) : w.heap.size ≤ gb174)); have n9_ := Aside0.mk ((by rw [hg]; exact Nat.ne_of_lt (blk_lt (g := gb158) (o := .cells #[.int .i64 t153, .slice Ao9 t154.length co9] 24 (0, 0)) (bk BK158)) : gb158 ≠ gb174)); have n10_ := Aside0.mk ((by rw [hg]; exact Nat.ne_of_gt (blk_lt (g := gb158) (o := .cells #[.int .i64 t153, .slice Ao9 t154.length co9] 24 (0, 0)) (bk BK158)) : gb174 ≠ gb158)); have n11_ := Aside0.mk ((by rw [hg]; exact Nat.ne_of_lt (blk_lt (g := gb164) (o := .cells #[.int .i64 t159, .slice Ao14 t160.length co14] 24 (0, 0)) (bk BK164)) : gb164 ≠ gb174)); have n12_ := Aside0.mk ((by rw [hg]; exact Nat.ne_of_gt (blk_lt (g := gb164) (o := .cells #[.int .i64 t159, .slice Ao14 t160.length co14] 24 (0, 0)) (bk BK164)) : gb174 ≠ gb164)); clear HO_159001; clear HO_165001; clear HO172; clear BK158; clear BK164; clear HB; have HO_159001 := n0_; have HO_165001 := n1_; have HO172 := n2_; have BK158 := n3_; have BK164 := n4_; have HB := n5_; have BK174 := n6_; have GW174 := n7_; have GE174 := n8_; have NB158_174 := n9_; have NB174_158 := n10_; have NB164_174 := n11_; have NB174_164 := n12_; clear n0_ n1_ n2_ n3_ n4_ n5_ n6_ n7_ n8_ n9_ n10_ n11_ n12_; clear hb hbox hg; have hnb39 := NB174_158.out; have hnc39 := NB158_174.out; have hnb40 := NB174_164.out; have hnc40 := NB164_174.out; have hcz41_0 : w38.cell? ⟨gb174, 0, none⟩ = some (.int .i64 0) := (blk_cell BK174.out 0).trans rfl; have hcz41_1 : w38.cell? ⟨gb174, 1, none⟩ = some (.slice none 0 0) := (blk_cell BK174.out 1).trans rfl; have hfz41_0 := blk_frozen BK174.out 0; have hfz41_1 := blk_frozen BK174.out 1; obtain ⟨Ao42, co42, eo42⟩ := Kd.R_slice HO172.out; subst eo42))
       (try simp only [Act.put, List.setIfInBounds_toArray, List.set_cons_zero, List.set_cons_succ])
       go_cut [57] (fun v57 wc => ∃ (kq : Nat) (x57_30 : Bool), v57 = .bool x57_30 ∧ Aside0 (laws_FnExactReadBits.j1 kq t166 x57_30 t159 t167 = some r) ∧ Aside0 (kq ≤ kj4) ∧ Aside0 (Kd.R (Kd.int .u64) 66 wc w.heap.size (fun k_ => some k_ ≠ ((.slice Ao14 t160.length co14) : Value).ownBlock ∧ some k_ ≠ ((.slice Ao42 t170.length co42) : Value).ownBlock) (.slice Ao9 t154.length co9) t154) ∧ Aside0 (Kd.R (Kd.int .u64) 66 wc w.heap.size (fun k_ => some k_ ≠ ((.slice Ao9 t154.length co9) : Value).ownBlock ∧ some k_ ≠ ((.slice Ao42 t170.length co42) : Value).ownBlock) (.slice Ao14 t160.length co14) t167) ∧ Aside0 (Kd.R (Kd.int .u64) 66 wc w.heap.size (fun k_ => some k_ ≠ ((.slice Ao9 t154.length co9) : Value).ownBlock ∧ some k_ ≠ ((.slice Ao14 t160.length co14) : Value).ownBlock) (.slice Ao42 t170.length co42) t170) ∧ Aside0 (wc.heap[gb158]? = some (.cells #[.int .i64 t153, (.slice Ao9 t154.length co9)] 24 (0, 0))) ∧ Aside0 (wc.heap[gb164]? = some (.cells #[.int .i64 t159, (.slice Ao14 t160.length co14)] 24 (0, 0))) ∧ Aside0 (wc.heap[gb174]? = some (.cells #[.int .i64 t169, (.slice Ao42 t170.length co42)] 24 (0, 0))) ∧ Aside0 (Below w.heap.size w wc))
       case first =>
        have H := HC31.out; clear HC31; replace H := Option.bind_eq_some_iff.mp H; obtain ⟨t175, A430, H⟩ := H; replace H : (if t175 = true then (laws_FnExactReadBits.j1 kj4 t166 (t173 != t157) t159 t167) else (laws_FnExactReadBits.j1 kj4 t166 true t159 t167)) = some r := H; have A43 := Aside0.mk A430; clear A430
        by_cases c44 : t175 = true
        ·subst c44
         have H1 : (laws_FnExactReadBits.j1 kj4 t166 (t173 != t157) t159 t167) = some r := by rw [if_pos rfl] at H; exact H
         clear H; have H := H1; clear H1; have H' := Aside0.mk H; clear H; have hnb45 := NB174_158.out; have hnc45 := NB158_174.out; have hnb46 := NB174_164.out; have hnc46 := NB164_174.out; have hcz47_0 : w38.cell? ⟨gb174, 0, none⟩ = some (.int .i64 0) := (blk_cell BK174.out 0).trans rfl; have hcz47_1 : w38.cell? ⟨gb174, 1, none⟩ = some (.slice none 0 0) := (blk_cell BK174.out 1).trans rfl; have hfz47_0 := blk_frozen BK174.out 0; have hfz47_1 := blk_frozen BK174.out 1; have hnb48 := NB158_164.out; have hnc48 := NB164_158.out; have hcz49_0 : w38.cell? ⟨gb158, 0, none⟩ = some (.int .i64 t153) := (blk_cell BK158.out 0).trans rfl; have hcz49_1 : w38.cell? ⟨gb158, 1, none⟩ = some (.slice Ao9 t154.length co9) := (blk_cell BK158.out 1).trans rfl; have hfz49_0 := blk_frozen BK158.out 0; have hfz49_1 := blk_frozen BK158.out 1
         go_wp2_with (first | ((with_reducible refine gate_callee (f := 10) rfl ?_); refine goesL_ (some 51) rfl rfl Try.func10 (by kernel_rfl) rfl #[.agg #[.int .i64 t169, .slice Ao42 t170.length co42], .agg #[.int .i64 t153, .slice Ao9 t154.length co9]] rfl ma ?_; (with_reducible refine (laws_eqBits.calls kj4 t169 _ _ t170 t153 _ _ t154 true _ ?side1 ?side2 ?side3 ?side4 A43.out).mono ?_); (case side1 => refine (Kd.R_reads' (e := 66) (base := w.heap.size) (ok := fun k_ => ((True ∧ some k_ ≠ (.slice Ao9 t154.length co9 : Value).ownBlock) ∧ some k_ ≠ (.slice Ao14 t160.length co14 : Value).ownBlock)) (n := t170.length) (c := co42) ?_).2.2; exact (by (with_reducible repeat (first | apply Kd.R_alloc | apply Kd.R_drewN | apply Kd.R_drew)); exact (Kd.R_mono (Kd.R_far (p := ⟨gb174, 1, none⟩) (Kd.R_far (p := ⟨gb174, 0, none⟩) (Kd.R_types HO172.out BK174.out (by decide)) (fun _ hk => hk.2) (.int .i64 t169)) (fun _ hk => hk.2) (.slice Ao42 t170.length co42)) (fun _ h_ => h_.1)))); (case side2 => exact (Kd.R_reads' HO172.out).2.1); (case side3 => refine (Kd.R_reads' (e := 66) (base := w.heap.size) (ok := fun k_ => (some k_ ≠ (.slice Ao14 t160.length co14 : Value).ownBlock ∧ some k_ ≠ (.slice Ao42 t170.length co42 : Value).ownBlock)) (n := t154.length) (c := co9) ?_).2.2; exact (by (with_reducible repeat (first | apply Kd.R_alloc | apply Kd.R_drewN | apply Kd.R_drew)); exact (Kd.R_mono (Kd.R_far (p := ⟨gb174, 1, none⟩) (Kd.R_far (p := ⟨gb174, 0, none⟩) (Kd.R_types HO_159001.out BK174.out (by decide)) (fun _ hk => hk.2) (.int .i64 t169)) (fun _ hk => hk.2) (.slice Ao42 t170.length co42)) (fun _ h_ => h_.1)))); (case side4 => exact (Kd.R_reads' HO_159001.out).2.1); rintro e w50 ⟨rfl, hb⟩; refine ⟨_, rfl, ?_⟩; have n0_ := Aside0.mk (Kd.R_below (by (with_reducible repeat (first | apply Kd.R_alloc | apply Kd.R_drewN | apply Kd.R_drew)); exact (Kd.R_mono (Kd.R_far (p := ⟨gb174, 1, none⟩) (Kd.R_far (p := ⟨gb174, 0, none⟩) (Kd.R_types HO_159001.out BK174.out (by decide)) (fun _ hk => hk.2) (.int .i64 t169)) (fun _ hk => hk.2) (.slice Ao42 t170.length co42)) (fun _ h_ => h_.1))) hb); have n1_ := Aside0.mk (Kd.R_below (by (with_reducible repeat (first | apply Kd.R_alloc | apply Kd.R_drewN | apply Kd.R_drew)); exact (Kd.R_mono (Kd.R_far (p := ⟨gb174, 1, none⟩) (Kd.R_far (p := ⟨gb174, 0, none⟩) (Kd.R_types HO_165001.out BK174.out (by decide)) (fun _ hk => hk.2) (.int .i64 t169)) (fun _ hk => hk.2) (.slice Ao42 t170.length co42)) (fun _ h_ => h_.1))) hb); have n2_ := Aside0.mk (Kd.R_below (by (with_reducible repeat (first | apply Kd.R_alloc | apply Kd.R_drewN | apply Kd.R_drew)); exact (Kd.R_mono (Kd.R_far (p := ⟨gb174, 1, none⟩) (Kd.R_far (p := ⟨gb174, 0, none⟩) (Kd.R_types HO172.out BK174.out (by decide)) (fun _ hk => hk.2) (.int .i64 t169)) (fun _ hk => hk.2) (.slice Ao42 t170.length co42)) (fun _ h_ => h_.1))) hb); have n3_ := Aside0.mk (blk_below (g := gb158) (o := .cells #[.int .i64 t153, .slice Ao9 t154.length co9] 24 (0, 0)) (by (with_reducible repeat (first | refine blk_drewN ?_ _ | refine blk_drew ?_ | refine blk_alloc ?_ _)); refine blk_far ?_ NB158_174.out _; (with_reducible repeat (first | refine blk_drewN ?_ _ | refine blk_drew ?_ | refine blk_alloc ?_ _)); refine blk_far ?_ NB158_174.out _; (with_reducible repeat (first | refine blk_drewN ?_ _ | refine blk_drew ?_ | refine blk_alloc ?_ _)); exact BK158.out) hb); have n4_ := Aside0.mk (blk_below (g := gb164) (o := .cells #[.int .i64 t159, .slice Ao14 t160.length co14] 24 (0, 0)) (by (with_reducible repeat (first | refine blk_drewN ?_ _ | refine blk_drew ?_ | refine blk_alloc ?_ _)); refine blk_far ?_ NB164_174.out _; (with_reducible repeat (first | refine blk_drewN ?_ _ | refine blk_drew ?_ | refine blk_alloc ?_ _)); refine blk_far ?_ NB164_174.out _; (with_reducible repeat (first | refine blk_drewN ?_ _ | refine blk_drew ?_ | refine blk_alloc ?_ _)); exact BK164.out) hb); have n5_ := Aside0.mk (blk_below (g := gb174) (o := .cells #[.int .i64 t169, .slice Ao42 t170.length co42] 24 (0, 0)) (by refine bd ?_; refine blk_put (cs := #[.int .i64 t169, .slice none 0 0]) ?_ 1 _ rfl; refine bd ?_; refine blk_put (cs := #[.int .i64 0, .slice none 0 0]) ?_ 0 _ rfl; (with_reducible repeat (first | refine blk_drewN ?_ _ | refine blk_drew ?_ | refine blk_alloc ?_ _)); exact BK174.out) hb); have n6_ := Aside0.mk (below_step (bs3 HB GE158 GE164 GE174) hb); clear HO_159001; clear HO_165001; clear HO172; clear BK158; clear BK164; clear BK174; clear HB; have HO_159001 := n0_; have HO_165001 := n1_; have HO172 := n2_; have BK158 := n3_; have BK164 := n4_; have BK174 := n5_; have HB := n6_; clear n0_ n1_ n2_ n3_ n4_ n5_ n6_; (try clear hb); (try clear hb2); (try clear hk); (try clear hi)))
         go_meet
         case rel => exact ⟨_, ((t173 != t157)), au, H', ⟨by have := HJ4.out; first | omega | exact Nat.le_refl _⟩, ⟨rl HO_159001⟩, ⟨rl HO_165001⟩, ⟨by (with_reducible repeat (first | apply Kd.R_alloc | apply Kd.R_drewN | apply Kd.R_drew)); exact Kd.R_mono HO172.out (fun _ hk => ⟨hk.1.2, hk.2⟩)⟩, ⟨bk BK158⟩, ⟨bk BK164⟩, ⟨bk BK174⟩, ⟨bs3 HB GE158 GE164 GE174⟩⟩
        ·replace c44 := Bool.eq_false_iff.mpr c44
         subst c44
         have H1 : (laws_FnExactReadBits.j1 kj4 t166 true t159 t167) = some r := by rw [if_neg (show ¬ (false = true) by decide)] at H; exact H
         clear H; have H := H1; clear H1; have H' := Aside0.mk H; clear H; have hnb51 := NB174_158.out; have hnc51 := NB158_174.out; have hnb52 := NB174_164.out; have hnc52 := NB164_174.out; have hcz53_0 : w38.cell? ⟨gb174, 0, none⟩ = some (.int .i64 0) := (blk_cell BK174.out 0).trans rfl; have hcz53_1 : w38.cell? ⟨gb174, 1, none⟩ = some (.slice none 0 0) := (blk_cell BK174.out 1).trans rfl; have hfz53_0 := blk_frozen BK174.out 0; have hfz53_1 := blk_frozen BK174.out 1; have hnb54 := NB158_164.out; have hnc54 := NB164_158.out; have hcz55_0 : w38.cell? ⟨gb158, 0, none⟩ = some (.int .i64 t153) := (blk_cell BK158.out 0).trans rfl; have hcz55_1 : w38.cell? ⟨gb158, 1, none⟩ = some (.slice Ao9 t154.length co9) := (blk_cell BK158.out 1).trans rfl; have hfz55_0 := blk_frozen BK158.out 0; have hfz55_1 := blk_frozen BK158.out 1
         go_wp2_with (first | ((with_reducible refine gate_callee (f := 10) rfl ?_); refine goesL_ (some 51) rfl rfl Try.func10 (by kernel_rfl) rfl #[.agg #[.int .i64 t169, .slice Ao42 t170.length co42], .agg #[.int .i64 t153, .slice Ao9 t154.length co9]] rfl ma ?_; (with_reducible refine (laws_eqBits.calls kj4 t169 _ _ t170 t153 _ _ t154 false _ ?side1 ?side2 ?side3 ?side4 A43.out).mono ?_); (case side1 => refine (Kd.R_reads' (e := 66) (base := w.heap.size) (ok := fun k_ => ((True ∧ some k_ ≠ (.slice Ao9 t154.length co9 : Value).ownBlock) ∧ some k_ ≠ (.slice Ao14 t160.length co14 : Value).ownBlock)) (n := t170.length) (c := co42) ?_).2.2; exact (by (with_reducible repeat (first | apply Kd.R_alloc | apply Kd.R_drewN | apply Kd.R_drew)); exact (Kd.R_mono (Kd.R_far (p := ⟨gb174, 1, none⟩) (Kd.R_far (p := ⟨gb174, 0, none⟩) (Kd.R_types HO172.out BK174.out (by decide)) (fun _ hk => hk.2) (.int .i64 t169)) (fun _ hk => hk.2) (.slice Ao42 t170.length co42)) (fun _ h_ => h_.1)))); (case side2 => exact (Kd.R_reads' HO172.out).2.1); (case side3 => refine (Kd.R_reads' (e := 66) (base := w.heap.size) (ok := fun k_ => (some k_ ≠ (.slice Ao14 t160.length co14 : Value).ownBlock ∧ some k_ ≠ (.slice Ao42 t170.length co42 : Value).ownBlock)) (n := t154.length) (c := co9) ?_).2.2; exact (by (with_reducible repeat (first | apply Kd.R_alloc | apply Kd.R_drewN | apply Kd.R_drew)); exact (Kd.R_mono (Kd.R_far (p := ⟨gb174, 1, none⟩) (Kd.R_far (p := ⟨gb174, 0, none⟩) (Kd.R_types HO_159001.out BK174.out (by decide)) (fun _ hk => hk.2) (.int .i64 t169)) (fun _ hk => hk.2) (.slice Ao42 t170.length co42)) (fun _ h_ => h_.1)))); (case side4 => exact (Kd.R_reads' HO_159001.out).2.1); rintro e w56 ⟨rfl, hb⟩; refine ⟨_, rfl, ?_⟩; have n0_ := Aside0.mk (Kd.R_below (by (with_reducible repeat (first | apply Kd.R_alloc | apply Kd.R_drewN | apply Kd.R_drew)); exact (Kd.R_mono (Kd.R_far (p := ⟨gb174, 1, none⟩) (Kd.R_far (p := ⟨gb174, 0, none⟩) (Kd.R_types HO_159001.out BK174.out (by decide)) (fun _ hk => hk.2) (.int .i64 t169)) (fun _ hk => hk.2) (.slice Ao42 t170.length co42)) (fun _ h_ => h_.1))) hb); have n1_ := Aside0.mk (Kd.R_below (by (with_reducible repeat (first | apply Kd.R_alloc | apply Kd.R_drewN | apply Kd.R_drew)); exact (Kd.R_mono (Kd.R_far (p := ⟨gb174, 1, none⟩) (Kd.R_far (p := ⟨gb174, 0, none⟩) (Kd.R_types HO_165001.out BK174.out (by decide)) (fun _ hk => hk.2) (.int .i64 t169)) (fun _ hk => hk.2) (.slice Ao42 t170.length co42)) (fun _ h_ => h_.1))) hb); have n2_ := Aside0.mk (Kd.R_below (by (with_reducible repeat (first | apply Kd.R_alloc | apply Kd.R_drewN | apply Kd.R_drew)); exact (Kd.R_mono (Kd.R_far (p := ⟨gb174, 1, none⟩) (Kd.R_far (p := ⟨gb174, 0, none⟩) (Kd.R_types HO172.out BK174.out (by decide)) (fun _ hk => hk.2) (.int .i64 t169)) (fun _ hk => hk.2) (.slice Ao42 t170.length co42)) (fun _ h_ => h_.1))) hb); have n3_ := Aside0.mk (blk_below (g := gb158) (o := .cells #[.int .i64 t153, .slice Ao9 t154.length co9] 24 (0, 0)) (by (with_reducible repeat (first | refine blk_drewN ?_ _ | refine blk_drew ?_ | refine blk_alloc ?_ _)); refine blk_far ?_ NB158_174.out _; (with_reducible repeat (first | refine blk_drewN ?_ _ | refine blk_drew ?_ | refine blk_alloc ?_ _)); refine blk_far ?_ NB158_174.out _; (with_reducible repeat (first | refine blk_drewN ?_ _ | refine blk_drew ?_ | refine blk_alloc ?_ _)); exact BK158.out) hb); have n4_ := Aside0.mk (blk_below (g := gb164) (o := .cells #[.int .i64 t159, .slice Ao14 t160.length co14] 24 (0, 0)) (by (with_reducible repeat (first | refine blk_drewN ?_ _ | refine blk_drew ?_ | refine blk_alloc ?_ _)); refine blk_far ?_ NB164_174.out _; (with_reducible repeat (first | refine blk_drewN ?_ _ | refine blk_drew ?_ | refine blk_alloc ?_ _)); refine blk_far ?_ NB164_174.out _; (with_reducible repeat (first | refine blk_drewN ?_ _ | refine blk_drew ?_ | refine blk_alloc ?_ _)); exact BK164.out) hb); have n5_ := Aside0.mk (blk_below (g := gb174) (o := .cells #[.int .i64 t169, .slice Ao42 t170.length co42] 24 (0, 0)) (by refine bd ?_; refine blk_put (cs := #[.int .i64 t169, .slice none 0 0]) ?_ 1 _ rfl; refine bd ?_; refine blk_put (cs := #[.int .i64 0, .slice none 0 0]) ?_ 0 _ rfl; (with_reducible repeat (first | refine blk_drewN ?_ _ | refine blk_drew ?_ | refine blk_alloc ?_ _)); exact BK174.out) hb); have n6_ := Aside0.mk (below_step (bs3 HB GE158 GE164 GE174) hb); clear HO_159001; clear HO_165001; clear HO172; clear BK158; clear BK164; clear BK174; clear HB; have HO_159001 := n0_; have HO_165001 := n1_; have HO172 := n2_; have BK158 := n3_; have BK164 := n4_; have BK174 := n5_; have HB := n6_; clear n0_ n1_ n2_ n3_ n4_ n5_ n6_; (try clear hb); (try clear hb2); (try clear hk); (try clear hi)))
         go_meet
         case rel => exact ⟨_, (true), au, H', ⟨by have := HJ4.out; first | omega | exact Nat.le_refl _⟩, ⟨rl HO_159001⟩, ⟨rl HO_165001⟩, ⟨by (with_reducible repeat (first | apply Kd.R_alloc | apply Kd.R_drewN | apply Kd.R_drew)); exact Kd.R_mono HO172.out (fun _ hk => ⟨hk.1.2, hk.2⟩)⟩, ⟨bk BK158⟩, ⟨bk BK164⟩, ⟨bk BK174⟩, ⟨bs3 HB GE158 GE164 GE174⟩⟩
       case rest =>
        clear HC31
        try clear c1
        try clear c2
        try clear c2b0
        try clear c2b1
        try clear p2
        try clear c3
        try clear c4
        try clear c5
        try clear c8
        try clear c9
        try clear c10
        try clear c11
        try clear c12
        try clear c16
        try clear c17
        try clear c21
        try clear c25
        try clear c28
        try clear c28b0
        try clear c29
        try clear c29b0
        try clear c29b1
        try clear c32
        try clear c39
        try clear c40
        try clear c44
        try clear c45
        try clear c46
        try clear c48
        try clear c51
        try clear c52
        try clear c54
        try clear hcz13_0
        try clear hcz13_1
        try clear hcz18_0
        try clear hcz18_1
        try clear hcz19_0
        try clear hcz19_1
        try clear hcz22_0
        try clear hcz22_1
        try clear hcz23_0
        try clear hcz23_1
        try clear hcz33_0
        try clear hcz33_1
        try clear hcz35_0
        try clear hcz35_1
        try clear hcz41_0
        try clear hcz41_1
        try clear hcz47_0
        try clear hcz47_1
        try clear hcz49_0
        try clear hcz49_1
        try clear hcz53_0
        try clear hcz53_1
        try clear hcz55_0
        try clear hcz55_1
        try clear hcz8_0
        try clear hcz8_1
        try clear hfz13_0
        try clear hfz13_1
        try clear hfz18_0
        try clear hfz18_1
        try clear hfz19_0
        try clear hfz19_1
        try clear hfz22_0
        try clear hfz22_1
        try clear hfz23_0
        try clear hfz23_1
        try clear hfz33_0
        try clear hfz33_1
        try clear hfz35_0
        try clear hfz35_1
        try clear hfz41_0
        try clear hfz41_1
        try clear hfz47_0
        try clear hfz47_1
        try clear hfz49_0
        try clear hfz49_1
        try clear hfz53_0
        try clear hfz53_1
        try clear hfz55_0
        try clear hfz55_1
        try clear hfz8_0
        try clear hfz8_1
        try clear p2
        obtain ⟨kq, x57_30, rfl, HA, HJ30, HO_159001, HO_165001, HO_175001, BK158, BK164, BK174, HB⟩ := hcut; have hl165001_30 := (Kd.R_reads' HO_165001.out).1; rw [hl165001_30] at HO_165001
        (try simp only [hl165001_30])
        (try simp only [hl165001_30] at BK158)
        (try simp only [hl165001_30] at BK164)
        (try simp only [hl165001_30] at BK174)
        (try simp only [hl165001_30] at HO_159001)
        (try simp only [hl165001_30] at HO_175001)
        cases kq with
        | zero => exact absurd HA.out (by simp [laws_FnExactReadBits.j1])
        | succ kj30 =>
         have H := HA.out; clear HA
         simp only [laws_FnExactReadBits.j1] at H
         by_cases c57 : x57_30 = true
         ·subst c57
          have H1 : (some false) = some r := by rw [if_pos rfl] at H; exact H
          clear H; have H := H1; clear H1
          subst hrt
          exact absurd H (by simp)
         ·replace c57 := Bool.eq_false_iff.mpr c57
          subst c57
          have H1 : ((laws_heldBits.f kj30 t159 t167 1).bind fun t176 => (if t176 < 0 then (some false) else (if t176 = t166 then (some true) else (some false)))) = some r := by rw [if_neg (show ¬ (false = true) by decide)] at H; exact H
          clear H; have H := H1; clear H1; replace H := Option.bind_eq_some_iff.mp H; obtain ⟨t176, A580, H⟩ := H; replace H : (if t176 < 0 then (some false) else (if t176 = t166 then (some true) else (some false))) = some r := H; have A58 := Aside0.mk A580; clear A580
          by_cases c59 : t176 < 0
          ·rw [if_pos c59] at H
           have c59b0 : decide (t176 < 0) = true := decide_eq_true c59; clear c59
           subst hrt
           exact absurd H (by simp)
          ·rw [if_neg c59] at H
           have c59b0 : decide (t176 < 0) = false := decide_eq_false c59; clear c59
           by_cases c60 : t176 = t166
           ·rw [if_pos c60] at H
            have c60b0 : (t176 == t166) = true := beq_iff_eq.mpr c60; have c60b1 : (t176 != t166) = false := bne_eq_false_iff_eq.mpr c60; clear c60; clear hrt; obtain rfl := Option.some.inj H; have hnb61 := NB164_158.out; have hnc61 := NB158_164.out; have hnb62 := NB164_174.out; have hnc62 := NB174_164.out; have hcz63_0 : wc.cell? ⟨gb164, 0, none⟩ = some (.int .i64 t159) := (blk_cell BK164.out 0).trans rfl; have hcz63_1 : wc.cell? ⟨gb164, 1, none⟩ = some (.slice Ao14 t167.length co14) := (blk_cell BK164.out 1).trans rfl; have hfz63_0 := blk_frozen BK164.out 0; have hfz63_1 := blk_frozen BK164.out 1
            go_wp2_with (first | ((with_reducible refine gate_callee (f := 12) rfl ?_); refine goesL_ (some 60) rfl rfl Try.func12 (by kernel_rfl) rfl #[.agg #[.int .i64 t159, .slice Ao14 t167.length co14], .int .i64 1] rfl ma ?_; (with_reducible refine (laws_heldBits.calls kj30 t159 _ _ t167 1 t176 _ ?side1 ?side2 A58.out).mono ?_); (case side1 => repeat (first | exact (Kd.R_reads' HO_165001.out).2.2 | (with_reducible refine Kd.C_alloc ?_ _) | (with_reducible refine Kd.C_drewN ?_ _) | (with_reducible refine Kd.C_drew ?_))); (case side2 => exact (Kd.R_reads' HO_165001.out).2.1); rintro e w64 ⟨rfl, hb⟩; refine ⟨_, rfl, ?_⟩; have n0_ := Aside0.mk (Kd.R_below (rl HO_159001) hb); have n1_ := Aside0.mk (Kd.R_below (rl HO_165001) hb); have n2_ := Aside0.mk (Kd.R_below (rl HO_175001) hb); have n3_ := Aside0.mk (blk_below (g := gb158) (o := .cells #[.int .i64 t153, .slice Ao9 t154.length co9] 24 (0, 0)) (bk BK158) hb); have n4_ := Aside0.mk (blk_below (g := gb164) (o := .cells #[.int .i64 t159, .slice Ao14 t167.length co14] 24 (0, 0)) (bk BK164) hb); have n5_ := Aside0.mk (blk_below (g := gb174) (o := .cells #[.int .i64 t169, .slice Ao42 t170.length co42] 24 (0, 0)) (bk BK174) hb); have n6_ := Aside0.mk (below_step (bs3 HB GE158 GE164 GE174) hb); clear HO_159001; clear HO_165001; clear HO_175001; clear BK158; clear BK164; clear BK174; clear HB; have HO_159001 := n0_; have HO_165001 := n1_; have HO_175001 := n2_; have BK158 := n3_; have BK164 := n4_; have BK174 := n5_; have HB := n6_; clear n0_ n1_ n2_ n3_ n4_ n5_ n6_; (try clear hb); (try clear hb2); (try clear hk); (try clear hi)))
            go_ret
            exact ⟨by first | rfl | (simp [errW_none, errW_some] <;> rfl) | (simp [*, errW_none, errW_some] <;> rfl), bs3 HB GE158 GE164 GE174⟩
           ·rw [if_neg c60] at H
            have c60b0 : (t176 == t166) = false := beq_eq_false_iff_ne.mpr c60; have c60b1 : (t176 != t166) = true := bne_iff_ne.mpr c60
            subst hrt
            exact absurd H (by simp)
      ·rw [if_neg c29] at H
       have c29b0 : (t168 == t166) = false := beq_eq_false_iff_ne.mpr c29; have c29b1 : (t168 != t166) = true := bne_iff_ne.mpr c29
       subst hrt
       exact absurd H (by simp)

end Go.Proofs.Ytpkclocdenagcaa.PFnExactReadBits
