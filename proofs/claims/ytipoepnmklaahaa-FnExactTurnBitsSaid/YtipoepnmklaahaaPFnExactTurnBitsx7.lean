-- Written by a program of this session (a turned copy of the kit's printer); Lean checks it.
import Derived.Test.YtipoepnmklaahaaPFnExactTurnBitsx0
import Derived.Test.YtipoepnmklaahaaPFnExactTurnBitsx1
import Derived.Test.YtipoepnmklaahaaPFnExactTurnBitsx3
import Derived.Test.YtipoepnmklaahaaPFnExactTurnBitsx6
namespace Go.Proofs.Ytipoepnmklaahaa.PFnExactTurnBits
open Go.RowKit Go.Proofs.YtipoepnmklaahaaW.PrintWords Go.Proofs.YtipoepnmklaahaaW.PrintLast Go.Proofs.YtipoepnmklaahaaW.PrintMore
attribute [local go_sem] max2_int min2_int max_two min_two max_three min_three max_four min_four   -- for this text's walks alone
set_option linter.unusedVariables false
set_option linter.unusedSimpArgs false

/-! ### laws_FnExactTurnBits: function 7 -/
mutual
def laws_FnExactTurnBits.j0 : Nat → Int → Bool → Bool → Bool → Int → List Int → Int → List Int → Int → List Int → Int → List Int → Option (Bool)
  | 0, _, _, _, _, _, _, _, _, _, _, _, _ => none
  | k + 1, x1, x7, x10, x44, x236000, x236001, x247000, x247001, x252000, x252001, x258000, x258001 => if x44 = true then (some false) else ((laws_toBits.f k x236000 x236001).bind fun bt259 => ((laws_eqBits.f k x252000 x252001 bt259.1 bt259.2).bind fun t263 => (if t263 = true then ((laws_markBits.f k x252000 x252001 1).bind fun bt264 => (if bt264.1 < 0 then (laws_FnExactTurnBits.j1 k x1 x7 true x236000 x236001 x247000 x247001 x258000 x258001) else ((laws_eqBits.f k x258000 x258001 x247000 x247001).bind fun t266 => (if t266 = true then (laws_FnExactTurnBits.j1 k x1 x7 (x10 != x7) x236000 x236001 x247000 x247001 x258000 x258001) else (laws_FnExactTurnBits.j1 k x1 x7 true x236000 x236001 x247000 x247001 x258000 x258001))))) else (some false))))
def laws_FnExactTurnBits.j1 : Nat → Int → Bool → Bool → Int → List Int → Int → List Int → Int → List Int → Option (Bool)
  | 0, _, _, _, _, _, _, _, _, _ => none
  | k + 1, x1, x7, x65, x236000, x236001, x247000, x247001, x258000, x258001 => if x65 = true then (some false) else ((laws_markBits.f k x258000 x258001 1).bind fun bt267 => ((laws_heldBits.f k x258000 bt267.2 1).bind fun t269 => (if t269 < 0 then (some false) else (if t269 = bt267.1 then ((laws_toBits.f k x236000 x236001).bind fun bt270 => ((impl_TurnBits.f k bt270.1 bt270.2 x1).bind fun bt274 => ((laws_eqBits.f k bt274.1 bt274.2.1 x247000 x247001).bind fun t280 => (if t280 = true then (laws_FnExactTurnBits.j2 k bt267.1 (bt274.2.2 != x7) x258000 bt267.2) else (laws_FnExactTurnBits.j2 k bt267.1 true x258000 bt267.2))))) else (some false)))))
def laws_FnExactTurnBits.j2 : Nat → Int → Bool → Int → List Int → Option (Bool)
  | 0, _, _, _, _ => none
  | k + 1, x12, x92, x258000, x258001 => if x92 = true then (some false) else ((laws_heldBits.f k x258000 x258001 1).bind fun t281 => (if t281 < 0 then (some false) else (if t281 = x12 then (some true) else (some false))))
end
def laws_FnExactTurnBits.f (k : Nat) (a0_0 : Int) (l0_1 : List Int) (a1 : Int) : Option (Bool) := (laws_szBits.f a0_0 l0_1 1048576).bind fun t236 => (if t236 < 0 then (some true) else ((laws_toBits.f k a0_0 l0_1).bind fun bt237 => ((spec_TurnBits.f k bt237.1 bt237.2 a1).bind fun bt241 => ((laws_toBits.f k a0_0 l0_1).bind fun bt247 => ((impl_TurnBits.f k bt247.1 bt247.2 a1).bind fun bt252 => ((laws_eqBits.f k bt252.1 bt252.2.1 bt241.1 bt241.2.1).bind fun t258 => (if t258 = true then (laws_FnExactTurnBits.j0 k a1 bt241.2.2 bt252.2.2 (bt252.2.2 != bt241.2.2) a0_0 l0_1 bt241.1 bt241.2.1 bt247.1 bt247.2 bt252.1 bt252.2.1) else (laws_FnExactTurnBits.j0 k a1 bt241.2.2 bt252.2.2 true a0_0 l0_1 bt241.1 bt241.2.1 bt247.1 bt247.2 bt252.1 bt252.2.1))))))))
theorem laws_FnExactTurnBits.mono_l : ∀ k, (∀ y0 y1 y2 y3 y4 y5 y6 y7 y8 y9 y10 y11, LeO (laws_FnExactTurnBits.j0 k y0 y1 y2 y3 y4 y5 y6 y7 y8 y9 y10 y11) (laws_FnExactTurnBits.j0 (k + 1) y0 y1 y2 y3 y4 y5 y6 y7 y8 y9 y10 y11)) ∧ (∀ y0 y1 y2 y3 y4 y5 y6 y7 y8, LeO (laws_FnExactTurnBits.j1 k y0 y1 y2 y3 y4 y5 y6 y7 y8) (laws_FnExactTurnBits.j1 (k + 1) y0 y1 y2 y3 y4 y5 y6 y7 y8)) ∧ (∀ y0 y1 y2 y3, LeO (laws_FnExactTurnBits.j2 k y0 y1 y2 y3) (laws_FnExactTurnBits.j2 (k + 1) y0 y1 y2 y3))
  | 0 => ⟨fun _ _ _ _ _ _ _ _ _ _ _ _ r h => by simp [laws_FnExactTurnBits.j0] at h, fun _ _ _ _ _ _ _ _ _ r h => by simp [laws_FnExactTurnBits.j1] at h, fun _ _ _ _ r h => by simp [laws_FnExactTurnBits.j2] at h⟩
  | k + 1 => by
    obtain ⟨ih0, ih1, ih2⟩ := laws_FnExactTurnBits.mono_l k
    refine ⟨?_, ?_, ?_⟩
    · intro y0 y1 y2 y3 y4 y5 y6 y7 y8 y9 y10 y11
      unfold laws_FnExactTurnBits.j0
      repeat' first
      | (with_reducible exact ih0 _ _ _ _ _ _ _ _ _ _ _ _)
      | (with_reducible exact ih1 _ _ _ _ _ _ _ _ _)
      | (with_reducible exact ih2 _ _ _ _)
      | (with_reducible exact impl_TurnBits.mono _ _ _ _)
      | (with_reducible exact laws_eqBits.mono _ _ _ _ _)
      | (with_reducible exact laws_heldBits.mono _ _ _ _)
      | (with_reducible exact laws_markBits.mono _ _ _ _)
      | (with_reducible exact laws_toBits.mono _ _ _)
      | (with_reducible exact spec_TurnBits.mono _ _ _ _)
      | (with_reducible exact LeO.refl _)
      | (with_reducible exact LeO.none _)
      | (with_reducible refine LeO.ite ?_ ?_)
      | (with_reducible refine LeO.bind ?_ (fun _ => ?_))
      | exact ih0 _ _ _ _ _ _ _ _ _ _ _ _
      | exact ih1 _ _ _ _ _ _ _ _ _
      | exact ih2 _ _ _ _
      | exact impl_TurnBits.mono _ _ _ _
      | exact laws_eqBits.mono _ _ _ _ _
      | exact laws_heldBits.mono _ _ _ _
      | exact laws_markBits.mono _ _ _ _
      | exact laws_toBits.mono _ _ _
      | exact spec_TurnBits.mono _ _ _ _
      | exact LeO.none _
      | refine LeO.ite ?_ ?_
      | refine LeO.bind ?_ (fun _ => ?_)
    · intro y0 y1 y2 y3 y4 y5 y6 y7 y8
      unfold laws_FnExactTurnBits.j1
      repeat' first
      | (with_reducible exact ih0 _ _ _ _ _ _ _ _ _ _ _ _)
      | (with_reducible exact ih1 _ _ _ _ _ _ _ _ _)
      | (with_reducible exact ih2 _ _ _ _)
      | (with_reducible exact impl_TurnBits.mono _ _ _ _)
      | (with_reducible exact laws_eqBits.mono _ _ _ _ _)
      | (with_reducible exact laws_heldBits.mono _ _ _ _)
      | (with_reducible exact laws_markBits.mono _ _ _ _)
      | (with_reducible exact laws_toBits.mono _ _ _)
      | (with_reducible exact spec_TurnBits.mono _ _ _ _)
      | (with_reducible exact LeO.refl _)
      | (with_reducible exact LeO.none _)
      | (with_reducible refine LeO.ite ?_ ?_)
      | (with_reducible refine LeO.bind ?_ (fun _ => ?_))
      | exact ih0 _ _ _ _ _ _ _ _ _ _ _ _
      | exact ih1 _ _ _ _ _ _ _ _ _
      | exact ih2 _ _ _ _
      | exact impl_TurnBits.mono _ _ _ _
      | exact laws_eqBits.mono _ _ _ _ _
      | exact laws_heldBits.mono _ _ _ _
      | exact laws_markBits.mono _ _ _ _
      | exact laws_toBits.mono _ _ _
      | exact spec_TurnBits.mono _ _ _ _
      | exact LeO.none _
      | refine LeO.ite ?_ ?_
      | refine LeO.bind ?_ (fun _ => ?_)
    · intro y0 y1 y2 y3
      unfold laws_FnExactTurnBits.j2
      repeat' first
      | (with_reducible exact ih0 _ _ _ _ _ _ _ _ _ _ _ _)
      | (with_reducible exact ih1 _ _ _ _ _ _ _ _ _)
      | (with_reducible exact ih2 _ _ _ _)
      | (with_reducible exact impl_TurnBits.mono _ _ _ _)
      | (with_reducible exact laws_eqBits.mono _ _ _ _ _)
      | (with_reducible exact laws_heldBits.mono _ _ _ _)
      | (with_reducible exact laws_markBits.mono _ _ _ _)
      | (with_reducible exact laws_toBits.mono _ _ _)
      | (with_reducible exact spec_TurnBits.mono _ _ _ _)
      | (with_reducible exact LeO.refl _)
      | (with_reducible exact LeO.none _)
      | (with_reducible refine LeO.ite ?_ ?_)
      | (with_reducible refine LeO.bind ?_ (fun _ => ?_))
      | exact ih0 _ _ _ _ _ _ _ _ _ _ _ _
      | exact ih1 _ _ _ _ _ _ _ _ _
      | exact ih2 _ _ _ _
      | exact impl_TurnBits.mono _ _ _ _
      | exact laws_eqBits.mono _ _ _ _ _
      | exact laws_heldBits.mono _ _ _ _
      | exact laws_markBits.mono _ _ _ _
      | exact laws_toBits.mono _ _ _
      | exact spec_TurnBits.mono _ _ _ _
      | exact LeO.none _
      | refine LeO.ite ?_ ?_
      | refine LeO.bind ?_ (fun _ => ?_)
theorem laws_FnExactTurnBits.mono : ∀ a0 a1 a2 k, LeO (laws_FnExactTurnBits.f k a0 a1 a2) (laws_FnExactTurnBits.f (k + 1) a0 a1 a2) := by
  intro a0 a1 a2 k
  obtain ⟨ih0, ih1, ih2⟩ := laws_FnExactTurnBits.mono_l k
  unfold laws_FnExactTurnBits.f
  repeat' first
      | (with_reducible exact ih0 _ _ _ _ _ _ _ _ _ _ _ _)
      | (with_reducible exact ih1 _ _ _ _ _ _ _ _ _)
      | (with_reducible exact ih2 _ _ _ _)
      | (with_reducible exact impl_TurnBits.mono _ _ _ _)
      | (with_reducible exact laws_eqBits.mono _ _ _ _ _)
      | (with_reducible exact laws_heldBits.mono _ _ _ _)
      | (with_reducible exact laws_markBits.mono _ _ _ _)
      | (with_reducible exact laws_toBits.mono _ _ _)
      | (with_reducible exact spec_TurnBits.mono _ _ _ _)
      | (with_reducible exact LeO.refl _)
      | (with_reducible exact LeO.none _)
      | (with_reducible refine LeO.ite ?_ ?_)
      | (with_reducible refine LeO.bind ?_ (fun _ => ?_))
      | exact ih0 _ _ _ _ _ _ _ _ _ _ _ _
      | exact ih1 _ _ _ _ _ _ _ _ _
      | exact ih2 _ _ _ _
      | exact impl_TurnBits.mono _ _ _ _
      | exact laws_eqBits.mono _ _ _ _ _
      | exact laws_heldBits.mono _ _ _ _
      | exact laws_markBits.mono _ _ _ _
      | exact laws_toBits.mono _ _ _
      | exact spec_TurnBits.mono _ _ _ _
      | exact LeO.none _
      | refine LeO.ite ?_ ?_
      | refine LeO.bind ?_ (fun _ => ?_)
set_option maxHeartbeats 8000000 in
set_option maxRecDepth 100000 in
theorem laws_FnExactTurnBits.calls (k : Nat) (a0_0 : Int) (A0_1 : Option Addr) (c0_1 : Nat) (l0_1 : List Int) (a1 : Int) (r : Bool) (w : World) (hr0_1 : Kd.C (Kd.int .u64) w A0_1 l0_1.length l0_1) (hc0_1 : l0_1.length ≤ c0_1) (h : laws_FnExactTurnBits.f k a0_0 l0_1 a1 = some r) (hrt : r = true) :
    Calls Try.prog 7 #[.agg #[.int .i64 a0_0, .slice A0_1 l0_1.length c0_1], .int .i64 a1] w fun e w' => e = .returned (.bool r) ∧ Below w.heap.size w w' := by
  have hu24 := Try.underlying24
  have hu26 := Try.underlying26
  have HR0_1 := Aside0.mk hr0_1
  have HC0_1 := Aside0.mk hc0_1
  clear hr0_1 hc0_1
  have HB := Aside0.mk (Below.refl w.heap.size w)
  have H : ((laws_szBits.f a0_0 l0_1 1048576).bind fun t236 => (if t236 < 0 then (some true) else ((laws_toBits.f k a0_0 l0_1).bind fun bt237 => ((spec_TurnBits.f k bt237.1 bt237.2 a1).bind fun bt241 => ((laws_toBits.f k a0_0 l0_1).bind fun bt247 => ((impl_TurnBits.f k bt247.1 bt247.2 a1).bind fun bt252 => ((laws_eqBits.f k bt252.1 bt252.2.1 bt241.1 bt241.2.1).bind fun t258 => (if t258 = true then (laws_FnExactTurnBits.j0 k a1 bt241.2.2 bt252.2.2 (bt252.2.2 != bt241.2.2) a0_0 l0_1 bt241.1 bt241.2.1 bt247.1 bt247.2 bt252.1 bt252.2.1) else (laws_FnExactTurnBits.j0 k a1 bt241.2.2 bt252.2.2 true a0_0 l0_1 bt241.1 bt241.2.1 bt247.1 bt247.2 bt252.1 bt252.2.1))))))))) = some r := h
  clear h
  replace H := Option.bind_eq_some_iff.mp H
  obtain ⟨t236, A30, H⟩ := H
  replace H : (if t236 < 0 then (some true) else ((laws_toBits.f k a0_0 l0_1).bind fun bt237 => ((spec_TurnBits.f k bt237.1 bt237.2 a1).bind fun bt241 => ((laws_toBits.f k a0_0 l0_1).bind fun bt247 => ((impl_TurnBits.f k bt247.1 bt247.2 a1).bind fun bt252 => ((laws_eqBits.f k bt252.1 bt252.2.1 bt241.1 bt241.2.1).bind fun t258 => (if t258 = true then (laws_FnExactTurnBits.j0 k a1 bt241.2.2 bt252.2.2 (bt252.2.2 != bt241.2.2) a0_0 l0_1 bt241.1 bt241.2.1 bt247.1 bt247.2 bt252.1 bt252.2.1) else (laws_FnExactTurnBits.j0 k a1 bt241.2.2 bt252.2.2 true a0_0 l0_1 bt241.1 bt241.2.1 bt247.1 bt247.2 bt252.1 bt252.2.1)))))))) = some r := H
  have A3 := Aside0.mk A30
  clear A30
  by_cases c4 : t236 < 0
  · rw [if_pos c4] at H
    have c4b0 : decide (t236 < 0) = true := decide_eq_true c4
    clear c4
    clear hrt
    obtain rfl := Option.some.inj H
    go_enter Try.func7, Try.ntmps7
    go_wp2_with (first | ((with_reducible refine gate_dst (N := 2) rfl ?_); refine box_event ?hg (N := 2) ?hd (cs := #[.int .i64 a0_0, .slice A0_1 l0_1.length c0_1]) (t := 24) ?hr ?_; (case hd => rfl); (case hg => rfl); (case hr => first | (go_simp; done) | (go_simp; rfl)); intro gb235 hg w5 hbox hb; have n0_ := Aside0.mk (below_step (by repeat (first | (with_reducible first | exact HB.out | apply below_alloc | apply pw_below_drewN | apply below_drew1) | exact HB.out)) hb); have n1_ := Aside0.mk (hbox); have n2_ := Aside0.mk ((by rw [hg]; exact (below_size (by repeat (first | (with_reducible first | exact HB.out | apply below_alloc | apply pw_below_drewN | apply below_drew1) | exact HB.out))) : w.heap.size ≤ gb235)); have n3_ := Aside0.mk ((by rw [hg]; exact (below_size (by repeat (first | (with_reducible first | exact HB.out | apply below_alloc | apply pw_below_drewN | apply below_drew1) | exact HB.out))) : w.heap.size ≤ gb235)); clear HB; have HB := n0_; have BK235 := n1_; have GW235 := n2_; have GE235 := n3_; clear n0_ n1_ n2_ n3_; clear hb hbox hg; have hcz6_0 : w5.cell? ⟨gb235, 0, none⟩ = some (.int .i64 a0_0) := (blk_cell BK235.out 0).trans rfl; have hcz6_1 : w5.cell? ⟨gb235, 1, none⟩ = some (.slice A0_1 l0_1.length c0_1) := (blk_cell BK235.out 1).trans rfl; have hfz6_0 := blk_frozen BK235.out 0; have hfz6_1 := blk_frozen BK235.out 1) | ((with_reducible refine gate_callee (f := 15) rfl ?_); refine goesL_ (some 18) rfl rfl Try.func15 (by kernel_rfl) rfl #[.agg #[.int .i64 a0_0, .slice A0_1 l0_1.length c0_1], .int .i64 1048576] rfl (by (try simp only [List.map_toArray, List.map_cons, List.map_nil]); first | done | rfl | (simp only [List.length_drop, List.length_take]; rfl)) ?_; (with_reducible refine (laws_szBits.calls a0_0 _ _ l0_1 1048576 t236 _ ?side1 ?side2 A3.out).mono ?_); (case side1 => repeat (first | exact (Kd.C_below HR0_1.out HB.out) | (with_reducible refine Kd.C_alloc ?_ _) | (with_reducible refine Kd.C_drewN ?_ _) | (with_reducible refine Kd.C_drew ?_))); (case side2 => exact HC0_1.out); rintro e w7 ⟨rfl, hb⟩; refine ⟨_, rfl, ?_⟩; have n0_ := Aside0.mk (blk_below (g := gb235) (o := .cells #[.int .i64 a0_0, .slice A0_1 l0_1.length c0_1] 24 (0, 0)) (by (with_reducible repeat (first | refine blk_drewN ?_ _ | refine blk_drew ?_ | refine blk_alloc ?_ _)); exact BK235.out) hb); have n1_ := Aside0.mk (below_step (by repeat (first | (with_reducible first | exact HB.out | apply below_alloc | apply pw_below_drewN | apply below_drew1 | refine below_set ?_ GE235.out) | exact HB.out)) hb); clear BK235; clear HB; have BK235 := n0_; have HB := n1_; clear n0_ n1_; (try clear hb); (try clear hb2); (try clear hk); (try clear hi)))
    go_ret
    exact ⟨by first | rfl | (simp [errW_none, errW_some] <;> rfl) | (simp [*, errW_none, errW_some] <;> rfl), by repeat (first | (with_reducible first | exact HB.out | apply below_alloc | apply pw_below_drewN | apply below_drew1 | refine below_set ?_ GE235.out) | exact HB.out)⟩
  · rw [if_neg c4] at H
    have c4b0 : decide (t236 < 0) = false := decide_eq_false c4
    clear c4
    replace H := Option.bind_eq_some_iff.mp H
    obtain ⟨⟨t237, t238⟩, A80, H⟩ := H
    replace H : ((spec_TurnBits.f k t237 t238 a1).bind fun bt241 => ((laws_toBits.f k a0_0 l0_1).bind fun bt247 => ((impl_TurnBits.f k bt247.1 bt247.2 a1).bind fun bt252 => ((laws_eqBits.f k bt252.1 bt252.2.1 bt241.1 bt241.2.1).bind fun t258 => (if t258 = true then (laws_FnExactTurnBits.j0 k a1 bt241.2.2 bt252.2.2 (bt252.2.2 != bt241.2.2) a0_0 l0_1 bt241.1 bt241.2.1 bt247.1 bt247.2 bt252.1 bt252.2.1) else (laws_FnExactTurnBits.j0 k a1 bt241.2.2 bt252.2.2 true a0_0 l0_1 bt241.1 bt241.2.1 bt247.1 bt247.2 bt252.1 bt252.2.1)))))) = some r := H
    have A8 := Aside0.mk A80
    clear A80
    replace H := Option.bind_eq_some_iff.mp H
    obtain ⟨⟨t241, t242, t245⟩, A90, H⟩ := H
    replace H : ((laws_toBits.f k a0_0 l0_1).bind fun bt247 => ((impl_TurnBits.f k bt247.1 bt247.2 a1).bind fun bt252 => ((laws_eqBits.f k bt252.1 bt252.2.1 t241 t242).bind fun t258 => (if t258 = true then (laws_FnExactTurnBits.j0 k a1 t245 bt252.2.2 (bt252.2.2 != t245) a0_0 l0_1 t241 t242 bt247.1 bt247.2 bt252.1 bt252.2.1) else (laws_FnExactTurnBits.j0 k a1 t245 bt252.2.2 true a0_0 l0_1 t241 t242 bt247.1 bt247.2 bt252.1 bt252.2.1))))) = some r := H
    have A9 := Aside0.mk A90
    clear A90
    replace H := Option.bind_eq_some_iff.mp H
    obtain ⟨⟨t247, t248⟩, A100, H⟩ := H
    replace H : ((impl_TurnBits.f k t247 t248 a1).bind fun bt252 => ((laws_eqBits.f k bt252.1 bt252.2.1 t241 t242).bind fun t258 => (if t258 = true then (laws_FnExactTurnBits.j0 k a1 t245 bt252.2.2 (bt252.2.2 != t245) a0_0 l0_1 t241 t242 t247 t248 bt252.1 bt252.2.1) else (laws_FnExactTurnBits.j0 k a1 t245 bt252.2.2 true a0_0 l0_1 t241 t242 t247 t248 bt252.1 bt252.2.1)))) = some r := H
    have A10 := Aside0.mk A100
    clear A100
    replace H := Option.bind_eq_some_iff.mp H
    obtain ⟨⟨t252, t253, t256⟩, A110, H⟩ := H
    replace H : ((laws_eqBits.f k t252 t253 t241 t242).bind fun t258 => (if t258 = true then (laws_FnExactTurnBits.j0 k a1 t245 t256 (t256 != t245) a0_0 l0_1 t241 t242 t247 t248 t252 t253) else (laws_FnExactTurnBits.j0 k a1 t245 t256 true a0_0 l0_1 t241 t242 t247 t248 t252 t253))) = some r := H
    have A11 := Aside0.mk A110
    clear A110
    have HC12 := Aside0.mk H
    clear H
    go_enter Try.func7, Try.ntmps7
    go_upto_region 8 with (first | ((with_reducible refine gate_dst (N := 2) rfl ?_); refine box_event ?hg (N := 2) ?hd (cs := #[.int .i64 a0_0, .slice A0_1 l0_1.length c0_1]) (t := 24) ?hr ?_; (case hd => rfl); (case hg => rfl); (case hr => first | (go_simp; done) | (go_simp; rfl)); intro gb235 hg w13 hbox hb; have n0_ := Aside0.mk (below_step (by repeat (first | (with_reducible first | exact HB.out | apply below_alloc | apply pw_below_drewN | apply below_drew1) | exact HB.out)) hb); have n1_ := Aside0.mk (hbox); have n2_ := Aside0.mk ((by rw [hg]; exact (below_size (by repeat (first | (with_reducible first | exact HB.out | apply below_alloc | apply pw_below_drewN | apply below_drew1) | exact HB.out))) : w.heap.size ≤ gb235)); have n3_ := Aside0.mk ((by rw [hg]; exact (below_size (by repeat (first | (with_reducible first | exact HB.out | apply below_alloc | apply pw_below_drewN | apply below_drew1) | exact HB.out))) : w.heap.size ≤ gb235)); clear HB; have HB := n0_; have BK235 := n1_; have GW235 := n2_; have GE235 := n3_; clear n0_ n1_ n2_ n3_; clear hb hbox hg; have hcz14_0 : w13.cell? ⟨gb235, 0, none⟩ = some (.int .i64 a0_0) := (blk_cell BK235.out 0).trans rfl; have hcz14_1 : w13.cell? ⟨gb235, 1, none⟩ = some (.slice A0_1 l0_1.length c0_1) := (blk_cell BK235.out 1).trans rfl; have hfz14_0 := blk_frozen BK235.out 0; have hfz14_1 := blk_frozen BK235.out 1) | ((with_reducible refine gate_callee (f := 15) rfl ?_); refine goesL_ (some 18) rfl rfl Try.func15 (by kernel_rfl) rfl #[.agg #[.int .i64 a0_0, .slice A0_1 l0_1.length c0_1], .int .i64 1048576] rfl (by (try simp only [List.map_toArray, List.map_cons, List.map_nil]); first | done | rfl | (simp only [List.length_drop, List.length_take]; rfl)) ?_; (with_reducible refine (laws_szBits.calls a0_0 _ _ l0_1 1048576 t236 _ ?side1 ?side2 A3.out).mono ?_); (case side1 => repeat (first | exact (Kd.C_below HR0_1.out HB.out) | (with_reducible refine Kd.C_alloc ?_ _) | (with_reducible refine Kd.C_drewN ?_ _) | (with_reducible refine Kd.C_drew ?_))); (case side2 => exact HC0_1.out); rintro e w15 ⟨rfl, hb⟩; refine ⟨_, rfl, ?_⟩; have n0_ := Aside0.mk (blk_below (g := gb235) (o := .cells #[.int .i64 a0_0, .slice A0_1 l0_1.length c0_1] 24 (0, 0)) (by (with_reducible repeat (first | refine blk_drewN ?_ _ | refine blk_drew ?_ | refine blk_alloc ?_ _)); exact BK235.out) hb); have n1_ := Aside0.mk (below_step (by repeat (first | (with_reducible first | exact HB.out | apply below_alloc | apply pw_below_drewN | apply below_drew1 | refine below_set ?_ GE235.out) | exact HB.out)) hb); clear BK235; clear HB; have BK235 := n0_; have HB := n1_; clear n0_ n1_; (try clear hb); (try clear hb2); (try clear hk); (try clear hi); have hcz16_0 : w15.cell? ⟨gb235, 0, none⟩ = some (.int .i64 a0_0) := (blk_cell BK235.out 0).trans rfl; have hcz16_1 : w15.cell? ⟨gb235, 1, none⟩ = some (.slice A0_1 l0_1.length c0_1) := (blk_cell BK235.out 1).trans rfl; have hfz16_0 := blk_frozen BK235.out 0; have hfz16_1 := blk_frozen BK235.out 1) | ((with_reducible refine gate_callee (f := 17) rfl ?_); refine goesL_ (some 23) rfl rfl Try.func17 (by kernel_rfl) rfl #[.agg #[.int .i64 a0_0, .slice A0_1 l0_1.length c0_1]] rfl (by (try simp only [List.map_toArray, List.map_cons, List.map_nil]); first | done | rfl | (simp only [List.length_drop, List.length_take]; rfl)) ?_; (with_reducible refine (laws_toBits.calls k a0_0 _ _ l0_1 t237 t238 _ ?side1 ?side2 A8.out).mono ?_); (case side1 => repeat (first | exact (Kd.C_below HR0_1.out HB.out) | (with_reducible refine Kd.C_alloc ?_ _) | (with_reducible refine Kd.C_drewN ?_ _) | (with_reducible refine Kd.C_drew ?_))); (case side2 => exact HC0_1.out); rintro e w17 ⟨v239, rfl, ho0, hb⟩; refine ⟨_, rfl, ?_⟩; have n0_ := Aside0.mk (Kd.R_lower ho0 (below_size (by repeat (first | (with_reducible first | exact HB.out | apply below_alloc | apply pw_below_drewN | apply below_drew1 | refine below_set ?_ GE235.out) | exact HB.out)))); have n1_ := Aside0.mk (blk_below (g := gb235) (o := .cells #[.int .i64 a0_0, .slice A0_1 l0_1.length c0_1] 24 (0, 0)) (by (with_reducible repeat (first | refine blk_drewN ?_ _ | refine blk_drew ?_ | refine blk_alloc ?_ _)); exact BK235.out) hb); have n2_ := Aside0.mk (below_step (by repeat (first | (with_reducible first | exact HB.out | apply below_alloc | apply pw_below_drewN | apply below_drew1 | refine below_set ?_ GE235.out) | exact HB.out)) hb); clear BK235; clear HB; have HO240 := n0_; have BK235 := n1_; have HB := n2_; clear n0_ n1_ n2_; (try clear hb); (try clear hb2); (try clear hk); (try clear hi); (try clear ho0); obtain ⟨Ao18, co18, eo18⟩ := Kd.R_slice HO240.out; subst eo18) | ((with_reducible refine gate_callee (f := 28) rfl ?_); refine goesL_ (some 25) rfl rfl Try.func28 (by kernel_rfl) rfl #[.agg #[.int .i64 t237, .slice Ao18 t238.length co18], .int .i64 a1] rfl (by (try simp only [List.map_toArray, List.map_cons, List.map_nil]); first | done | rfl | (simp only [List.length_drop, List.length_take]; rfl)) ?_; (with_reducible refine (spec_TurnBits.calls k t237 _ _ t238 a1 t241 t242 t245 _ ?side1 ?side2 A9.out).mono ?_); (case side1 => repeat (first | exact (Kd.R_reads' HO240.out).2.2 | (with_reducible refine Kd.C_alloc ?_ _) | (with_reducible refine Kd.C_drewN ?_ _) | (with_reducible refine Kd.C_drew ?_))); (case side2 => exact (Kd.R_reads' HO240.out).2.1); rintro e w19 ⟨v243, rfl, ho0, hb⟩; refine ⟨_, rfl, ?_⟩; have n0_ := Aside0.mk (Kd.R_elder' (by (with_reducible repeat (first | apply Kd.R_alloc | apply Kd.R_drewN | apply Kd.R_drew)); exact HO240.out) (Kd.R_base ho0) hb); have n1_ := Aside0.mk (Kd.R_lower (Kd.R_new' ho0 (Kd.R_lt (by (with_reducible repeat (first | apply Kd.R_alloc | apply Kd.R_drewN | apply Kd.R_drew)); exact HO240.out))) (below_size (by repeat (first | (with_reducible first | exact HB.out | apply below_alloc | apply pw_below_drewN | apply below_drew1 | refine below_set ?_ GE235.out) | exact HB.out)))); have n2_ := Aside0.mk (blk_below (g := gb235) (o := .cells #[.int .i64 a0_0, .slice A0_1 l0_1.length c0_1] 24 (0, 0)) (by (with_reducible repeat (first | refine blk_drewN ?_ _ | refine blk_drew ?_ | refine blk_alloc ?_ _)); exact BK235.out) hb); have n3_ := Aside0.mk (below_step (by repeat (first | (with_reducible first | exact HB.out | apply below_alloc | apply pw_below_drewN | apply below_drew1 | refine below_set ?_ GE235.out) | exact HB.out)) hb); clear HO240; clear BK235; clear HB; have HO240 := n0_; have HO244 := n1_; have BK235 := n2_; have HB := n3_; clear n0_ n1_ n2_ n3_; (try clear hb); (try clear hb2); (try clear hk); (try clear hi); (try clear ho0)) | ((with_reducible refine gate_dst (N := 6) rfl ?_); refine box_event ?hg (N := 6) ?hd (cs := #[.int .i64 0, .slice none 0 0]) (t := 26) ?hr ?_; (case hd => rfl); (case hg => rfl); (case hr => first | (go_simp; done) | (go_simp; rfl)); intro gb246 hg w20 hbox hb; have n0_ := Aside0.mk (Kd.R_below (by (with_reducible repeat (first | apply Kd.R_alloc | apply Kd.R_drewN | apply Kd.R_drew)); exact HO240.out) hb); have n1_ := Aside0.mk (Kd.R_below (by (with_reducible repeat (first | apply Kd.R_alloc | apply Kd.R_drewN | apply Kd.R_drew)); exact HO244.out) hb); have n2_ := Aside0.mk (blk_below (g := gb235) (o := .cells #[.int .i64 a0_0, .slice A0_1 l0_1.length c0_1] 24 (0, 0)) (by (with_reducible repeat (first | refine blk_drewN ?_ _ | refine blk_drew ?_ | refine blk_alloc ?_ _)); exact BK235.out) hb); have n3_ := Aside0.mk (below_step (by repeat (first | (with_reducible first | exact HB.out | apply below_alloc | apply pw_below_drewN | apply below_drew1 | refine below_set ?_ GE235.out) | exact HB.out)) hb); have n4_ := Aside0.mk (hbox); have n5_ := Aside0.mk ((by rw [hg]; exact (below_size (by repeat (first | (with_reducible first | exact HB.out | apply below_alloc | apply pw_below_drewN | apply below_drew1 | refine below_set ?_ GE235.out) | exact HB.out))) : w.heap.size ≤ gb246)); have n6_ := Aside0.mk ((by rw [hg]; exact (below_size (by repeat (first | (with_reducible first | exact HB.out | apply below_alloc | apply pw_below_drewN | apply below_drew1 | refine below_set ?_ GE235.out) | exact HB.out))) : w.heap.size ≤ gb246)); have n7_ := Aside0.mk ((by rw [hg]; exact Nat.ne_of_lt (blk_lt (g := gb235) (o := .cells #[.int .i64 a0_0, .slice A0_1 l0_1.length c0_1] 24 (0, 0)) (by (with_reducible repeat (first | refine blk_drewN ?_ _ | refine blk_drew ?_ | refine blk_alloc ?_ _)); exact BK235.out)) : gb235 ≠ gb246)); have n8_ := Aside0.mk ((by rw [hg]; exact Nat.ne_of_gt (blk_lt (g := gb235) (o := .cells #[.int .i64 a0_0, .slice A0_1 l0_1.length c0_1] 24 (0, 0)) (by (with_reducible repeat (first | refine blk_drewN ?_ _ | refine blk_drew ?_ | refine blk_alloc ?_ _)); exact BK235.out)) : gb246 ≠ gb235)); clear HO240; clear HO244; clear BK235; clear HB; have HO240 := n0_; have HO244 := n1_; have BK235 := n2_; have HB := n3_; have BK246 := n4_; have GW246 := n5_; have GE246 := n6_; have NB235_246 := n7_; have NB246_235 := n8_; clear n0_ n1_ n2_ n3_ n4_ n5_ n6_ n7_ n8_; clear hb hbox hg; have hnb21 := NB246_235.out; have hnc21 := NB235_246.out; have hcz22_0 : w20.cell? ⟨gb246, 0, none⟩ = some (.int .i64 0) := (blk_cell BK246.out 0).trans rfl; have hcz22_1 : w20.cell? ⟨gb246, 1, none⟩ = some (.slice none 0 0) := (blk_cell BK246.out 1).trans rfl; have hfz22_0 := blk_frozen BK246.out 0; have hfz22_1 := blk_frozen BK246.out 1; obtain ⟨Ao23, co23, eo23⟩ := Kd.R_slice HO244.out; subst eo23; have hcz24_0 : w20.cell? ⟨gb235, 0, none⟩ = some (.int .i64 a0_0) := (blk_cell BK235.out 0).trans rfl; have hcz24_1 : w20.cell? ⟨gb235, 1, none⟩ = some (.slice A0_1 l0_1.length c0_1) := (blk_cell BK235.out 1).trans rfl; have hfz24_0 := blk_frozen BK235.out 0; have hfz24_1 := blk_frozen BK235.out 1) | ((with_reducible refine gate_callee (f := 17) rfl ?_); refine goesL_ (some 29) rfl rfl Try.func17 (by kernel_rfl) rfl #[.agg #[.int .i64 a0_0, .slice A0_1 l0_1.length c0_1]] rfl (by (try simp only [List.map_toArray, List.map_cons, List.map_nil]); first | done | rfl | (simp only [List.length_drop, List.length_take]; rfl)) ?_; (with_reducible refine (laws_toBits.calls k a0_0 _ _ l0_1 t247 t248 _ ?side1 ?side2 A10.out).mono ?_); (case side1 => exact Kd.C_below HR0_1.out (by repeat (first | (with_reducible first | exact HB.out | apply below_alloc | apply pw_below_drewN | apply below_drew1 | refine below_set ?_ GE235.out | refine below_set ?_ GE246.out) | exact HB.out))); (case side2 => exact HC0_1.out); rintro e w25 ⟨v249, rfl, ho0, hb⟩; refine ⟨_, rfl, ?_⟩; have n0_ := Aside0.mk (Kd.R_elder' (by (with_reducible repeat (first | apply Kd.R_alloc | apply Kd.R_drewN | apply Kd.R_drew)); exact (Kd.R_mono (Kd.R_far (p := ⟨gb246, 1, none⟩) (Kd.R_far (p := ⟨gb246, 0, none⟩) (Kd.R_types HO240.out BK246.out (by decide)) (fun _ hk => hk.2) (.int .i64 t241)) (fun _ hk => hk.2) (.slice Ao23 t242.length co23)) (fun _ h_ => h_.1))) (Kd.R_base ho0) hb); have n1_ := Aside0.mk (Kd.R_elder' (by (with_reducible repeat (first | apply Kd.R_alloc | apply Kd.R_drewN | apply Kd.R_drew)); exact (Kd.R_mono (Kd.R_far (p := ⟨gb246, 1, none⟩) (Kd.R_far (p := ⟨gb246, 0, none⟩) (Kd.R_types HO244.out BK246.out (by decide)) (fun _ hk => hk.2) (.int .i64 t241)) (fun _ hk => hk.2) (.slice Ao23 t242.length co23)) (fun _ h_ => h_.1))) (Kd.R_base ho0) hb); have n2_ := Aside0.mk (Kd.R_lower (Kd.R_new' (Kd.R_new' ho0 (Kd.R_lt (by (with_reducible repeat (first | apply Kd.R_alloc | apply Kd.R_drewN | apply Kd.R_drew)); exact (Kd.R_mono (Kd.R_far (p := ⟨gb246, 1, none⟩) (Kd.R_far (p := ⟨gb246, 0, none⟩) (Kd.R_types HO240.out BK246.out (by decide)) (fun _ hk => hk.2) (.int .i64 t241)) (fun _ hk => hk.2) (.slice Ao23 t242.length co23)) (fun _ h_ => h_.1))))) (Kd.R_lt (by (with_reducible repeat (first | apply Kd.R_alloc | apply Kd.R_drewN | apply Kd.R_drew)); exact (Kd.R_mono (Kd.R_far (p := ⟨gb246, 1, none⟩) (Kd.R_far (p := ⟨gb246, 0, none⟩) (Kd.R_types HO244.out BK246.out (by decide)) (fun _ hk => hk.2) (.int .i64 t241)) (fun _ hk => hk.2) (.slice Ao23 t242.length co23)) (fun _ h_ => h_.1))))) (below_size (by repeat (first | (with_reducible first | exact HB.out | apply below_alloc | apply pw_below_drewN | apply below_drew1 | refine below_set ?_ GE235.out | refine below_set ?_ GE246.out) | exact HB.out)))); have n3_ := Aside0.mk (blk_below (g := gb235) (o := .cells #[.int .i64 a0_0, .slice A0_1 l0_1.length c0_1] 24 (0, 0)) (by (with_reducible repeat (first | refine blk_drewN ?_ _ | refine blk_drew ?_ | refine blk_alloc ?_ _)); refine blk_far ?_ NB235_246.out _; (with_reducible repeat (first | refine blk_drewN ?_ _ | refine blk_drew ?_ | refine blk_alloc ?_ _)); refine blk_far ?_ NB235_246.out _; (with_reducible repeat (first | refine blk_drewN ?_ _ | refine blk_drew ?_ | refine blk_alloc ?_ _)); exact BK235.out) hb); have n4_ := Aside0.mk (blk_below (g := gb246) (o := .cells #[.int .i64 t241, .slice Ao23 t242.length co23] 26 (0, 0)) (by (with_reducible repeat (first | refine blk_drewN ?_ _ | refine blk_drew ?_ | refine blk_alloc ?_ _)); refine blk_put (cs := #[.int .i64 t241, .slice none 0 0]) ?_ 1 _ rfl; (with_reducible repeat (first | refine blk_drewN ?_ _ | refine blk_drew ?_ | refine blk_alloc ?_ _)); refine blk_put (cs := #[.int .i64 0, .slice none 0 0]) ?_ 0 _ rfl; (with_reducible repeat (first | refine blk_drewN ?_ _ | refine blk_drew ?_ | refine blk_alloc ?_ _)); exact BK246.out) hb); have n5_ := Aside0.mk (below_step (by repeat (first | (with_reducible first | exact HB.out | apply below_alloc | apply pw_below_drewN | apply below_drew1 | refine below_set ?_ GE235.out | refine below_set ?_ GE246.out) | exact HB.out)) hb); clear HO240; clear HO244; clear BK235; clear BK246; clear HB; have HO240 := n0_; have HO244 := n1_; have HO250 := n2_; have BK235 := n3_; have BK246 := n4_; have HB := n5_; clear n0_ n1_ n2_ n3_ n4_ n5_; (try clear hb); (try clear hb2); (try clear hk); (try clear hi); (try clear ho0)) | ((with_reducible refine gate_dst (N := 8) rfl ?_); refine box_event ?hg (N := 8) ?hd (cs := #[.int .i64 0, .slice none 0 0]) (t := 26) ?hr ?_; (case hd => rfl); (case hg => rfl); (case hr => first | (go_simp; done) | (go_simp; rfl)); intro gb251 hg w26 hbox hb; have n0_ := Aside0.mk (Kd.R_below (by (with_reducible repeat (first | apply Kd.R_alloc | apply Kd.R_drewN | apply Kd.R_drew)); exact HO240.out) hb); have n1_ := Aside0.mk (Kd.R_below (by (with_reducible repeat (first | apply Kd.R_alloc | apply Kd.R_drewN | apply Kd.R_drew)); exact HO244.out) hb); have n2_ := Aside0.mk (Kd.R_below (by (with_reducible repeat (first | apply Kd.R_alloc | apply Kd.R_drewN | apply Kd.R_drew)); exact HO250.out) hb); have n3_ := Aside0.mk (blk_below (g := gb235) (o := .cells #[.int .i64 a0_0, .slice A0_1 l0_1.length c0_1] 24 (0, 0)) (by (with_reducible repeat (first | refine blk_drewN ?_ _ | refine blk_drew ?_ | refine blk_alloc ?_ _)); exact BK235.out) hb); have n4_ := Aside0.mk (blk_below (g := gb246) (o := .cells #[.int .i64 t241, .slice Ao23 t242.length co23] 26 (0, 0)) (by (with_reducible repeat (first | refine blk_drewN ?_ _ | refine blk_drew ?_ | refine blk_alloc ?_ _)); exact BK246.out) hb); have n5_ := Aside0.mk (below_step (by repeat (first | (with_reducible first | exact HB.out | apply below_alloc | apply pw_below_drewN | apply below_drew1 | refine below_set ?_ GE235.out | refine below_set ?_ GE246.out) | exact HB.out)) hb); have n6_ := Aside0.mk (hbox); have n7_ := Aside0.mk ((by rw [hg]; exact (below_size (by repeat (first | (with_reducible first | exact HB.out | apply below_alloc | apply pw_below_drewN | apply below_drew1 | refine below_set ?_ GE235.out | refine below_set ?_ GE246.out) | exact HB.out))) : w.heap.size ≤ gb251)); have n8_ := Aside0.mk ((by rw [hg]; exact (below_size (by repeat (first | (with_reducible first | exact HB.out | apply below_alloc | apply pw_below_drewN | apply below_drew1 | refine below_set ?_ GE235.out | refine below_set ?_ GE246.out) | exact HB.out))) : w.heap.size ≤ gb251)); have n9_ := Aside0.mk ((by rw [hg]; exact Nat.ne_of_lt (blk_lt (g := gb235) (o := .cells #[.int .i64 a0_0, .slice A0_1 l0_1.length c0_1] 24 (0, 0)) (by (with_reducible repeat (first | refine blk_drewN ?_ _ | refine blk_drew ?_ | refine blk_alloc ?_ _)); exact BK235.out)) : gb235 ≠ gb251)); have n10_ := Aside0.mk ((by rw [hg]; exact Nat.ne_of_gt (blk_lt (g := gb235) (o := .cells #[.int .i64 a0_0, .slice A0_1 l0_1.length c0_1] 24 (0, 0)) (by (with_reducible repeat (first | refine blk_drewN ?_ _ | refine blk_drew ?_ | refine blk_alloc ?_ _)); exact BK235.out)) : gb251 ≠ gb235)); have n11_ := Aside0.mk ((by rw [hg]; exact Nat.ne_of_lt (blk_lt (g := gb246) (o := .cells #[.int .i64 t241, .slice Ao23 t242.length co23] 26 (0, 0)) (by (with_reducible repeat (first | refine blk_drewN ?_ _ | refine blk_drew ?_ | refine blk_alloc ?_ _)); exact BK246.out)) : gb246 ≠ gb251)); have n12_ := Aside0.mk ((by rw [hg]; exact Nat.ne_of_gt (blk_lt (g := gb246) (o := .cells #[.int .i64 t241, .slice Ao23 t242.length co23] 26 (0, 0)) (by (with_reducible repeat (first | refine blk_drewN ?_ _ | refine blk_drew ?_ | refine blk_alloc ?_ _)); exact BK246.out)) : gb251 ≠ gb246)); clear HO240; clear HO244; clear HO250; clear BK235; clear BK246; clear HB; have HO240 := n0_; have HO244 := n1_; have HO250 := n2_; have BK235 := n3_; have BK246 := n4_; have HB := n5_; have BK251 := n6_; have GW251 := n7_; have GE251 := n8_; have NB235_251 := n9_; have NB251_235 := n10_; have NB246_251 := n11_; have NB251_246 := n12_; clear n0_ n1_ n2_ n3_ n4_ n5_ n6_ n7_ n8_ n9_ n10_ n11_ n12_; clear hb hbox hg; have hnb27 := NB251_235.out; have hnc27 := NB235_251.out; have hnb28 := NB251_246.out; have hnc28 := NB246_251.out; have hcz29_0 : w26.cell? ⟨gb251, 0, none⟩ = some (.int .i64 0) := (blk_cell BK251.out 0).trans rfl; have hcz29_1 : w26.cell? ⟨gb251, 1, none⟩ = some (.slice none 0 0) := (blk_cell BK251.out 1).trans rfl; have hfz29_0 := blk_frozen BK251.out 0; have hfz29_1 := blk_frozen BK251.out 1; obtain ⟨Ao30, co30, eo30⟩ := Kd.R_slice HO250.out; subst eo30) | ((with_reducible refine gate_callee (f := 29) rfl ?_); refine goesL_ (some 33) rfl rfl Try.func29 (by kernel_rfl) rfl #[.agg #[.int .i64 t247, .slice Ao30 t248.length co30], .int .i64 a1] rfl (by (try simp only [List.map_toArray, List.map_cons, List.map_nil]); first | done | rfl | (simp only [List.length_drop, List.length_take]; rfl)) ?_; (with_reducible refine (impl_TurnBits.calls k t247 _ _ t248 a1 t252 t253 t256 _ ?side1 ?side2 A11.out).mono ?_); (case side1 => refine (Kd.R_reads' (e := 87) (base := w.heap.size) (ok := fun k_ => ((True ∧ some k_ ≠ (.slice Ao18 t238.length co18 : Value).ownBlock) ∧ some k_ ≠ (.slice Ao23 t242.length co23 : Value).ownBlock)) (n := t248.length) (c := co30) ?_).2.2; exact (by (with_reducible repeat (first | apply Kd.R_alloc | apply Kd.R_drewN | apply Kd.R_drew)); exact (Kd.R_mono (Kd.R_far (p := ⟨gb251, 1, none⟩) (Kd.R_far (p := ⟨gb251, 0, none⟩) (Kd.R_types HO250.out BK251.out (by decide)) (fun _ hk => hk.2) (.int .i64 t247)) (fun _ hk => hk.2) (.slice Ao30 t248.length co30)) (fun _ h_ => h_.1)))); (case side2 => exact (Kd.R_reads' HO250.out).2.1); rintro e w31 ⟨v254, rfl, ho0, hb⟩; refine ⟨_, rfl, ?_⟩; have n0_ := Aside0.mk (Kd.R_elder' (by (with_reducible repeat (first | apply Kd.R_alloc | apply Kd.R_drewN | apply Kd.R_drew)); exact (Kd.R_mono (Kd.R_far (p := ⟨gb251, 1, none⟩) (Kd.R_far (p := ⟨gb251, 0, none⟩) (Kd.R_types HO240.out BK251.out (by decide)) (fun _ hk => hk.2) (.int .i64 t247)) (fun _ hk => hk.2) (.slice Ao30 t248.length co30)) (fun _ h_ => h_.1))) (Kd.R_base ho0) hb); have n1_ := Aside0.mk (Kd.R_elder' (by (with_reducible repeat (first | apply Kd.R_alloc | apply Kd.R_drewN | apply Kd.R_drew)); exact (Kd.R_mono (Kd.R_far (p := ⟨gb251, 1, none⟩) (Kd.R_far (p := ⟨gb251, 0, none⟩) (Kd.R_types HO244.out BK251.out (by decide)) (fun _ hk => hk.2) (.int .i64 t247)) (fun _ hk => hk.2) (.slice Ao30 t248.length co30)) (fun _ h_ => h_.1))) (Kd.R_base ho0) hb); have n2_ := Aside0.mk (Kd.R_elder' (by (with_reducible repeat (first | apply Kd.R_alloc | apply Kd.R_drewN | apply Kd.R_drew)); exact (Kd.R_mono (Kd.R_far (p := ⟨gb251, 1, none⟩) (Kd.R_far (p := ⟨gb251, 0, none⟩) (Kd.R_types HO250.out BK251.out (by decide)) (fun _ hk => hk.2) (.int .i64 t247)) (fun _ hk => hk.2) (.slice Ao30 t248.length co30)) (fun _ h_ => h_.1))) (Kd.R_base ho0) hb); have n3_ := Aside0.mk (Kd.R_lower (Kd.R_new' (Kd.R_new' (Kd.R_new' ho0 (Kd.R_lt (by (with_reducible repeat (first | apply Kd.R_alloc | apply Kd.R_drewN | apply Kd.R_drew)); exact (Kd.R_mono (Kd.R_far (p := ⟨gb251, 1, none⟩) (Kd.R_far (p := ⟨gb251, 0, none⟩) (Kd.R_types HO240.out BK251.out (by decide)) (fun _ hk => hk.2) (.int .i64 t247)) (fun _ hk => hk.2) (.slice Ao30 t248.length co30)) (fun _ h_ => h_.1))))) (Kd.R_lt (by (with_reducible repeat (first | apply Kd.R_alloc | apply Kd.R_drewN | apply Kd.R_drew)); exact (Kd.R_mono (Kd.R_far (p := ⟨gb251, 1, none⟩) (Kd.R_far (p := ⟨gb251, 0, none⟩) (Kd.R_types HO244.out BK251.out (by decide)) (fun _ hk => hk.2) (.int .i64 t247)) (fun _ hk => hk.2) (.slice Ao30 t248.length co30)) (fun _ h_ => h_.1))))) (Kd.R_lt (by (with_reducible repeat (first | apply Kd.R_alloc | apply Kd.R_drewN | apply Kd.R_drew)); exact (Kd.R_mono (Kd.R_far (p := ⟨gb251, 1, none⟩) (Kd.R_far (p := ⟨gb251, 0, none⟩) (Kd.R_types HO250.out BK251.out (by decide)) (fun _ hk => hk.2) (.int .i64 t247)) (fun _ hk => hk.2) (.slice Ao30 t248.length co30)) (fun _ h_ => h_.1))))) (below_size (by repeat (first | (with_reducible first | exact HB.out | apply below_alloc | apply pw_below_drewN | apply below_drew1 | refine below_set ?_ GE235.out | refine below_set ?_ GE246.out | refine below_set ?_ GE251.out) | exact HB.out)))); have n4_ := Aside0.mk (blk_below (g := gb235) (o := .cells #[.int .i64 a0_0, .slice A0_1 l0_1.length c0_1] 24 (0, 0)) (by (with_reducible repeat (first | refine blk_drewN ?_ _ | refine blk_drew ?_ | refine blk_alloc ?_ _)); refine blk_far ?_ NB235_251.out _; (with_reducible repeat (first | refine blk_drewN ?_ _ | refine blk_drew ?_ | refine blk_alloc ?_ _)); refine blk_far ?_ NB235_251.out _; (with_reducible repeat (first | refine blk_drewN ?_ _ | refine blk_drew ?_ | refine blk_alloc ?_ _)); exact BK235.out) hb); have n5_ := Aside0.mk (blk_below (g := gb246) (o := .cells #[.int .i64 t241, .slice Ao23 t242.length co23] 26 (0, 0)) (by (with_reducible repeat (first | refine blk_drewN ?_ _ | refine blk_drew ?_ | refine blk_alloc ?_ _)); refine blk_far ?_ NB246_251.out _; (with_reducible repeat (first | refine blk_drewN ?_ _ | refine blk_drew ?_ | refine blk_alloc ?_ _)); refine blk_far ?_ NB246_251.out _; (with_reducible repeat (first | refine blk_drewN ?_ _ | refine blk_drew ?_ | refine blk_alloc ?_ _)); exact BK246.out) hb); have n6_ := Aside0.mk (blk_below (g := gb251) (o := .cells #[.int .i64 t247, .slice Ao30 t248.length co30] 26 (0, 0)) (by (with_reducible repeat (first | refine blk_drewN ?_ _ | refine blk_drew ?_ | refine blk_alloc ?_ _)); refine blk_put (cs := #[.int .i64 t247, .slice none 0 0]) ?_ 1 _ rfl; (with_reducible repeat (first | refine blk_drewN ?_ _ | refine blk_drew ?_ | refine blk_alloc ?_ _)); refine blk_put (cs := #[.int .i64 0, .slice none 0 0]) ?_ 0 _ rfl; (with_reducible repeat (first | refine blk_drewN ?_ _ | refine blk_drew ?_ | refine blk_alloc ?_ _)); exact BK251.out) hb); have n7_ := Aside0.mk (below_step (by repeat (first | (with_reducible first | exact HB.out | apply below_alloc | apply pw_below_drewN | apply below_drew1 | refine below_set ?_ GE235.out | refine below_set ?_ GE246.out | refine below_set ?_ GE251.out) | exact HB.out)) hb); clear HO240; clear HO244; clear HO250; clear BK235; clear BK246; clear BK251; clear HB; have HO240 := n0_; have HO244 := n1_; have HO250 := n2_; have HO255 := n3_; have BK235 := n4_; have BK246 := n5_; have BK251 := n6_; have HB := n7_; clear n0_ n1_ n2_ n3_ n4_ n5_ n6_ n7_; (try clear hb); (try clear hb2); (try clear hk); (try clear hi); (try clear ho0)) | ((with_reducible refine gate_dst (N := 9) rfl ?_); refine box_event ?hg (N := 9) ?hd (cs := #[.int .i64 0, .slice none 0 0]) (t := 26) ?hr ?_; (case hd => rfl); (case hg => rfl); (case hr => first | (go_simp; done) | (go_simp; rfl)); intro gb257 hg w32 hbox hb; have n0_ := Aside0.mk (Kd.R_below (by (with_reducible repeat (first | apply Kd.R_alloc | apply Kd.R_drewN | apply Kd.R_drew)); exact HO240.out) hb); have n1_ := Aside0.mk (Kd.R_below (by (with_reducible repeat (first | apply Kd.R_alloc | apply Kd.R_drewN | apply Kd.R_drew)); exact HO244.out) hb); have n2_ := Aside0.mk (Kd.R_below (by (with_reducible repeat (first | apply Kd.R_alloc | apply Kd.R_drewN | apply Kd.R_drew)); exact HO250.out) hb); have n3_ := Aside0.mk (Kd.R_below (by (with_reducible repeat (first | apply Kd.R_alloc | apply Kd.R_drewN | apply Kd.R_drew)); exact HO255.out) hb); have n4_ := Aside0.mk (blk_below (g := gb235) (o := .cells #[.int .i64 a0_0, .slice A0_1 l0_1.length c0_1] 24 (0, 0)) (by (with_reducible repeat (first | refine blk_drewN ?_ _ | refine blk_drew ?_ | refine blk_alloc ?_ _)); exact BK235.out) hb); have n5_ := Aside0.mk (blk_below (g := gb246) (o := .cells #[.int .i64 t241, .slice Ao23 t242.length co23] 26 (0, 0)) (by (with_reducible repeat (first | refine blk_drewN ?_ _ | refine blk_drew ?_ | refine blk_alloc ?_ _)); exact BK246.out) hb); have n6_ := Aside0.mk (blk_below (g := gb251) (o := .cells #[.int .i64 t247, .slice Ao30 t248.length co30] 26 (0, 0)) (by (with_reducible repeat (first | refine blk_drewN ?_ _ | refine blk_drew ?_ | refine blk_alloc ?_ _)); exact BK251.out) hb); have n7_ := Aside0.mk (below_step (by repeat (first | (with_reducible first | exact HB.out | apply below_alloc | apply pw_below_drewN | apply below_drew1 | refine below_set ?_ GE235.out | refine below_set ?_ GE246.out | refine below_set ?_ GE251.out) | exact HB.out)) hb); have n8_ := Aside0.mk (hbox); have n9_ := Aside0.mk ((by rw [hg]; exact (below_size (by repeat (first | (with_reducible first | exact HB.out | apply below_alloc | apply pw_below_drewN | apply below_drew1 | refine below_set ?_ GE235.out | refine below_set ?_ GE246.out | refine below_set ?_ GE251.out) | exact HB.out))) : w.heap.size ≤ gb257)); have n10_ := Aside0.mk ((by rw [hg]; exact (below_size (by repeat (first | (with_reducible first | exact HB.out | apply below_alloc | apply pw_below_drewN | apply below_drew1 | refine below_set ?_ GE235.out | refine below_set ?_ GE246.out | refine below_set ?_ GE251.out) | exact HB.out))) : w.heap.size ≤ gb257)); have n11_ := Aside0.mk ((by rw [hg]; exact Nat.ne_of_lt (blk_lt (g := gb235) (o := .cells #[.int .i64 a0_0, .slice A0_1 l0_1.length c0_1] 24 (0, 0)) (by (with_reducible repeat (first | refine blk_drewN ?_ _ | refine blk_drew ?_ | refine blk_alloc ?_ _)); exact BK235.out)) : gb235 ≠ gb257)); have n12_ := Aside0.mk ((by rw [hg]; exact Nat.ne_of_gt (blk_lt (g := gb235) (o := .cells #[.int .i64 a0_0, .slice A0_1 l0_1.length c0_1] 24 (0, 0)) (by (with_reducible repeat (first | refine blk_drewN ?_ _ | refine blk_drew ?_ | refine blk_alloc ?_ _)); exact BK235.out)) : gb257 ≠ gb235)); have n13_ := Aside0.mk ((by rw [hg]; exact Nat.ne_of_lt (blk_lt (g := gb246) (o := .cells #[.int .i64 t241, .slice Ao23 t242.length co23] 26 (0, 0)) (by (with_reducible repeat (first | refine blk_drewN ?_ _ | refine blk_drew ?_ | refine blk_alloc ?_ _)); exact BK246.out)) : gb246 ≠ gb257)); have n14_ := Aside0.mk ((by rw [hg]; exact Nat.ne_of_gt (blk_lt (g := gb246) (o := .cells #[.int .i64 t241, .slice Ao23 t242.length co23] 26 (0, 0)) (by (with_reducible repeat (first | refine blk_drewN ?_ _ | refine blk_drew ?_ | refine blk_alloc ?_ _)); exact BK246.out)) : gb257 ≠ gb246)); have n15_ := Aside0.mk ((by rw [hg]; exact Nat.ne_of_lt (blk_lt (g := gb251) (o := .cells #[.int .i64 t247, .slice Ao30 t248.length co30] 26 (0, 0)) (by (with_reducible repeat (first | refine blk_drewN ?_ _ | refine blk_drew ?_ | refine blk_alloc ?_ _)); exact BK251.out)) : gb251 ≠ gb257)); have n16_ := Aside0.mk ((by rw [hg]; exact Nat.ne_of_gt (blk_lt (g := gb251) (o := .cells #[.int .i64 t247, .slice Ao30 t248.length co30] 26 (0, 0)) (by (with_reducible repeat (first | refine blk_drewN ?_ _ | refine blk_drew ?_ | refine blk_alloc ?_ _)); exact BK251.out)) : gb257 ≠ gb251)); clear HO240; clear HO244; clear HO250; clear HO255; clear BK235; clear BK246; clear BK251; clear HB; have HO240 := n0_; have HO244 := n1_; have HO250 := n2_; have HO255 := n3_; have BK235 := n4_; have BK246 := n5_; have BK251 := n6_; have HB := n7_; have BK257 := n8_; have GW257 := n9_; have GE257 := n10_; have NB235_257 := n11_; have NB257_235 := n12_; have NB246_257 := n13_; have NB257_246 := n14_; have NB251_257 := n15_; have NB257_251 := n16_; clear n0_ n1_ n2_ n3_ n4_ n5_ n6_ n7_ n8_ n9_ n10_ n11_ n12_ n13_ n14_ n15_ n16_; clear hb hbox hg; have hnb33 := NB257_235.out; have hnc33 := NB235_257.out; have hnb34 := NB257_246.out; have hnc34 := NB246_257.out; have hnb35 := NB257_251.out; have hnc35 := NB251_257.out; have hcz36_0 : w32.cell? ⟨gb257, 0, none⟩ = some (.int .i64 0) := (blk_cell BK257.out 0).trans rfl; have hcz36_1 : w32.cell? ⟨gb257, 1, none⟩ = some (.slice none 0 0) := (blk_cell BK257.out 1).trans rfl; have hfz36_0 := blk_frozen BK257.out 0; have hfz36_1 := blk_frozen BK257.out 1; obtain ⟨Ao37, co37, eo37⟩ := Kd.R_slice HO255.out; subst eo37))
    (try simp only [Act.put, List.setIfInBounds_toArray, List.set_cons_zero, List.set_cons_succ])
    go_cut [44] (fun v44 wc => ∃ (kq : Nat) (x44_11 : Bool), v44 = .bool x44_11 ∧ Aside0 (laws_FnExactTurnBits.j0 kq a1 t245 t256 x44_11 a0_0 l0_1 t241 t242 t247 t248 t252 t253 = some r) ∧ Aside0 (kq ≤ k) ∧ Aside0 (Kd.R (Kd.int .u64) 87 wc w.heap.size (fun k_ => some k_ ≠ ((.slice Ao30 t248.length co30) : Value).ownBlock ∧ some k_ ≠ ((.slice Ao37 t253.length co37) : Value).ownBlock) (.slice Ao23 t242.length co23) t242) ∧ Aside0 (Kd.R (Kd.int .u64) 87 wc w.heap.size (fun k_ => some k_ ≠ ((.slice Ao23 t242.length co23) : Value).ownBlock ∧ some k_ ≠ ((.slice Ao37 t253.length co37) : Value).ownBlock) (.slice Ao30 t248.length co30) t248) ∧ Aside0 (Kd.R (Kd.int .u64) 87 wc w.heap.size (fun k_ => some k_ ≠ ((.slice Ao23 t242.length co23) : Value).ownBlock ∧ some k_ ≠ ((.slice Ao30 t248.length co30) : Value).ownBlock) (.slice Ao37 t253.length co37) t253) ∧ Aside0 (wc.heap[gb235]? = some (.cells #[.int .i64 a0_0, (.slice A0_1 l0_1.length c0_1)] 24 (0, 0))) ∧ Aside0 (wc.heap[gb246]? = some (.cells #[.int .i64 t241, (.slice Ao23 t242.length co23)] 26 (0, 0))) ∧ Aside0 (wc.heap[gb251]? = some (.cells #[.int .i64 t247, (.slice Ao30 t248.length co30)] 26 (0, 0))) ∧ Aside0 (wc.heap[gb257]? = some (.cells #[.int .i64 t252, (.slice Ao37 t253.length co37)] 26 (0, 0))) ∧ Aside0 (Below w.heap.size w wc))
    case first =>
      have H := HC12.out
      clear HC12
      replace H := Option.bind_eq_some_iff.mp H
      obtain ⟨t258, A380, H⟩ := H
      replace H : (if t258 = true then (laws_FnExactTurnBits.j0 k a1 t245 t256 (t256 != t245) a0_0 l0_1 t241 t242 t247 t248 t252 t253) else (laws_FnExactTurnBits.j0 k a1 t245 t256 true a0_0 l0_1 t241 t242 t247 t248 t252 t253)) = some r := H
      have A38 := Aside0.mk A380
      clear A380
      by_cases c39 : t258 = true
      · subst c39
        have H1 : (laws_FnExactTurnBits.j0 k a1 t245 t256 (t256 != t245) a0_0 l0_1 t241 t242 t247 t248 t252 t253) = some r := by rw [if_pos rfl] at H; exact H
        clear H
        have H := H1
        clear H1
        have H' := Aside0.mk H
        clear H
        have hnb40 := NB257_235.out
        have hnc40 := NB235_257.out
        have hnb41 := NB257_246.out
        have hnc41 := NB246_257.out
        have hnb42 := NB257_251.out
        have hnc42 := NB251_257.out
        have hcz43_0 : w32.cell? ⟨gb257, 0, none⟩ = some (.int .i64 0) := (blk_cell BK257.out 0).trans rfl
        have hcz43_1 : w32.cell? ⟨gb257, 1, none⟩ = some (.slice none 0 0) := (blk_cell BK257.out 1).trans rfl
        have hfz43_0 := blk_frozen BK257.out 0
        have hfz43_1 := blk_frozen BK257.out 1
        have hnb44 := NB246_235.out
        have hnc44 := NB235_246.out
        have hnb45 := NB246_251.out
        have hnc45 := NB251_246.out
        have hcz46_0 : w32.cell? ⟨gb246, 0, none⟩ = some (.int .i64 t241) := (blk_cell BK246.out 0).trans rfl
        have hcz46_1 : w32.cell? ⟨gb246, 1, none⟩ = some (.slice Ao23 t242.length co23) := (blk_cell BK246.out 1).trans rfl
        have hfz46_0 := blk_frozen BK246.out 0
        have hfz46_1 := blk_frozen BK246.out 1
        go_wp2_with (first | ((with_reducible refine gate_callee (f := 19) rfl ?_); refine goesL_ (some 38) rfl rfl Try.func19 (by kernel_rfl) rfl #[.agg #[.int .i64 t252, .slice Ao37 t253.length co37], .agg #[.int .i64 t241, .slice Ao23 t242.length co23]] rfl (by (try simp only [List.map_toArray, List.map_cons, List.map_nil]); first | done | rfl | (simp only [List.length_drop, List.length_take]; rfl)) ?_; (with_reducible refine (laws_eqBits.calls k t252 _ _ t253 t241 _ _ t242 true _ ?side1 ?side2 ?side3 ?side4 A38.out).mono ?_); (case side1 => refine (Kd.R_reads' (e := 87) (base := w.heap.size) (ok := fun k_ => (((True ∧ some k_ ≠ (.slice Ao18 t238.length co18 : Value).ownBlock) ∧ some k_ ≠ (.slice Ao23 t242.length co23 : Value).ownBlock) ∧ some k_ ≠ (.slice Ao30 t248.length co30 : Value).ownBlock)) (n := t253.length) (c := co37) ?_).2.2; exact (by (with_reducible repeat (first | apply Kd.R_alloc | apply Kd.R_drewN | apply Kd.R_drew)); exact (Kd.R_mono (Kd.R_far (p := ⟨gb257, 1, none⟩) (Kd.R_far (p := ⟨gb257, 0, none⟩) (Kd.R_types HO255.out BK257.out (by decide)) (fun _ hk => hk.2) (.int .i64 t252)) (fun _ hk => hk.2) (.slice Ao37 t253.length co37)) (fun _ h_ => h_.1)))); (case side2 => exact (Kd.R_reads' HO255.out).2.1); (case side3 => refine (Kd.R_reads' (e := 87) (base := w.heap.size) (ok := fun k_ => (((True ∧ some k_ ≠ (.slice Ao18 t238.length co18 : Value).ownBlock) ∧ some k_ ≠ (.slice Ao30 t248.length co30 : Value).ownBlock) ∧ some k_ ≠ (.slice Ao37 t253.length co37 : Value).ownBlock)) (n := t242.length) (c := co23) ?_).2.2; exact (by (with_reducible repeat (first | apply Kd.R_alloc | apply Kd.R_drewN | apply Kd.R_drew)); exact (Kd.R_mono (Kd.R_far (p := ⟨gb257, 1, none⟩) (Kd.R_far (p := ⟨gb257, 0, none⟩) (Kd.R_types HO244.out BK257.out (by decide)) (fun _ hk => hk.2) (.int .i64 t252)) (fun _ hk => hk.2) (.slice Ao37 t253.length co37)) (fun _ h_ => h_.1)))); (case side4 => exact (Kd.R_reads' HO244.out).2.1); rintro e w47 ⟨rfl, hb⟩; refine ⟨_, rfl, ?_⟩; have n0_ := Aside0.mk (Kd.R_below (by (with_reducible repeat (first | apply Kd.R_alloc | apply Kd.R_drewN | apply Kd.R_drew)); exact (Kd.R_mono (Kd.R_far (p := ⟨gb257, 1, none⟩) (Kd.R_far (p := ⟨gb257, 0, none⟩) (Kd.R_types HO240.out BK257.out (by decide)) (fun _ hk => hk.2) (.int .i64 t252)) (fun _ hk => hk.2) (.slice Ao37 t253.length co37)) (fun _ h_ => h_.1))) hb); have n1_ := Aside0.mk (Kd.R_below (by (with_reducible repeat (first | apply Kd.R_alloc | apply Kd.R_drewN | apply Kd.R_drew)); exact (Kd.R_mono (Kd.R_far (p := ⟨gb257, 1, none⟩) (Kd.R_far (p := ⟨gb257, 0, none⟩) (Kd.R_types HO244.out BK257.out (by decide)) (fun _ hk => hk.2) (.int .i64 t252)) (fun _ hk => hk.2) (.slice Ao37 t253.length co37)) (fun _ h_ => h_.1))) hb); have n2_ := Aside0.mk (Kd.R_below (by (with_reducible repeat (first | apply Kd.R_alloc | apply Kd.R_drewN | apply Kd.R_drew)); exact (Kd.R_mono (Kd.R_far (p := ⟨gb257, 1, none⟩) (Kd.R_far (p := ⟨gb257, 0, none⟩) (Kd.R_types HO250.out BK257.out (by decide)) (fun _ hk => hk.2) (.int .i64 t252)) (fun _ hk => hk.2) (.slice Ao37 t253.length co37)) (fun _ h_ => h_.1))) hb); have n3_ := Aside0.mk (Kd.R_below (by (with_reducible repeat (first | apply Kd.R_alloc | apply Kd.R_drewN | apply Kd.R_drew)); exact (Kd.R_mono (Kd.R_far (p := ⟨gb257, 1, none⟩) (Kd.R_far (p := ⟨gb257, 0, none⟩) (Kd.R_types HO255.out BK257.out (by decide)) (fun _ hk => hk.2) (.int .i64 t252)) (fun _ hk => hk.2) (.slice Ao37 t253.length co37)) (fun _ h_ => h_.1))) hb); have n4_ := Aside0.mk (blk_below (g := gb235) (o := .cells #[.int .i64 a0_0, .slice A0_1 l0_1.length c0_1] 24 (0, 0)) (by (with_reducible repeat (first | refine blk_drewN ?_ _ | refine blk_drew ?_ | refine blk_alloc ?_ _)); refine blk_far ?_ NB235_257.out _; (with_reducible repeat (first | refine blk_drewN ?_ _ | refine blk_drew ?_ | refine blk_alloc ?_ _)); refine blk_far ?_ NB235_257.out _; (with_reducible repeat (first | refine blk_drewN ?_ _ | refine blk_drew ?_ | refine blk_alloc ?_ _)); exact BK235.out) hb); have n5_ := Aside0.mk (blk_below (g := gb246) (o := .cells #[.int .i64 t241, .slice Ao23 t242.length co23] 26 (0, 0)) (by (with_reducible repeat (first | refine blk_drewN ?_ _ | refine blk_drew ?_ | refine blk_alloc ?_ _)); refine blk_far ?_ NB246_257.out _; (with_reducible repeat (first | refine blk_drewN ?_ _ | refine blk_drew ?_ | refine blk_alloc ?_ _)); refine blk_far ?_ NB246_257.out _; (with_reducible repeat (first | refine blk_drewN ?_ _ | refine blk_drew ?_ | refine blk_alloc ?_ _)); exact BK246.out) hb); have n6_ := Aside0.mk (blk_below (g := gb251) (o := .cells #[.int .i64 t247, .slice Ao30 t248.length co30] 26 (0, 0)) (by (with_reducible repeat (first | refine blk_drewN ?_ _ | refine blk_drew ?_ | refine blk_alloc ?_ _)); refine blk_far ?_ NB251_257.out _; (with_reducible repeat (first | refine blk_drewN ?_ _ | refine blk_drew ?_ | refine blk_alloc ?_ _)); refine blk_far ?_ NB251_257.out _; (with_reducible repeat (first | refine blk_drewN ?_ _ | refine blk_drew ?_ | refine blk_alloc ?_ _)); exact BK251.out) hb); have n7_ := Aside0.mk (blk_below (g := gb257) (o := .cells #[.int .i64 t252, .slice Ao37 t253.length co37] 26 (0, 0)) (by (with_reducible repeat (first | refine blk_drewN ?_ _ | refine blk_drew ?_ | refine blk_alloc ?_ _)); refine blk_put (cs := #[.int .i64 t252, .slice none 0 0]) ?_ 1 _ rfl; (with_reducible repeat (first | refine blk_drewN ?_ _ | refine blk_drew ?_ | refine blk_alloc ?_ _)); refine blk_put (cs := #[.int .i64 0, .slice none 0 0]) ?_ 0 _ rfl; (with_reducible repeat (first | refine blk_drewN ?_ _ | refine blk_drew ?_ | refine blk_alloc ?_ _)); exact BK257.out) hb); have n8_ := Aside0.mk (below_step (by repeat (first | (with_reducible first | exact HB.out | apply below_alloc | apply pw_below_drewN | apply below_drew1 | refine below_set ?_ GE235.out | refine below_set ?_ GE246.out | refine below_set ?_ GE251.out | refine below_set ?_ GE257.out) | exact HB.out)) hb); clear HO240; clear HO244; clear HO250; clear HO255; clear BK235; clear BK246; clear BK251; clear BK257; clear HB; have HO240 := n0_; have HO244 := n1_; have HO250 := n2_; have HO255 := n3_; have BK235 := n4_; have BK246 := n5_; have BK251 := n6_; have BK257 := n7_; have HB := n8_; clear n0_ n1_ n2_ n3_ n4_ n5_ n6_ n7_ n8_; (try clear hb); (try clear hb2); (try clear hk); (try clear hi)))
        go_meet
        case rel => exact ⟨_, ((t256 != t245)), (by first | rfl | (simp; done) | (simp [*]; done) | (simp only [bne_nil_]; done) | (simp [bne_nil_]; done)), H', ⟨by first | omega | exact Nat.le_refl _⟩, ⟨by (with_reducible repeat (first | apply Kd.R_alloc | apply Kd.R_drewN | apply Kd.R_drew)); exact Kd.R_mono HO244.out (fun _ hk => ⟨hk.1.2, hk.2⟩)⟩, ⟨by (with_reducible repeat (first | apply Kd.R_alloc | apply Kd.R_drewN | apply Kd.R_drew)); exact Kd.R_mono HO250.out (fun _ hk => ⟨hk.1.2, hk.2⟩)⟩, ⟨by (with_reducible repeat (first | apply Kd.R_alloc | apply Kd.R_drewN | apply Kd.R_drew)); exact Kd.R_mono HO255.out (fun _ hk => ⟨hk.1.2, hk.2⟩)⟩, ⟨by (with_reducible repeat (first | refine blk_drewN ?_ _ | refine blk_drew ?_ | refine blk_alloc ?_ _)); exact BK235.out⟩, ⟨by (with_reducible repeat (first | refine blk_drewN ?_ _ | refine blk_drew ?_ | refine blk_alloc ?_ _)); exact BK246.out⟩, ⟨by (with_reducible repeat (first | refine blk_drewN ?_ _ | refine blk_drew ?_ | refine blk_alloc ?_ _)); exact BK251.out⟩, ⟨by (with_reducible repeat (first | refine blk_drewN ?_ _ | refine blk_drew ?_ | refine blk_alloc ?_ _)); exact BK257.out⟩, ⟨by repeat (first | (with_reducible first | exact HB.out | apply below_alloc | apply pw_below_drewN | apply below_drew1 | refine below_set ?_ GE235.out | refine below_set ?_ GE246.out | refine below_set ?_ GE251.out | refine below_set ?_ GE257.out) | exact HB.out)⟩⟩
      · replace c39 := Bool.eq_false_iff.mpr c39
        subst c39
        have H1 : (laws_FnExactTurnBits.j0 k a1 t245 t256 true a0_0 l0_1 t241 t242 t247 t248 t252 t253) = some r := by rw [if_neg (show ¬ (false = true) by decide)] at H; exact H
        clear H
        have H := H1
        clear H1
        have H' := Aside0.mk H
        clear H
        have hnb48 := NB257_235.out
        have hnc48 := NB235_257.out
        have hnb49 := NB257_246.out
        have hnc49 := NB246_257.out
        have hnb50 := NB257_251.out
        have hnc50 := NB251_257.out
        have hcz51_0 : w32.cell? ⟨gb257, 0, none⟩ = some (.int .i64 0) := (blk_cell BK257.out 0).trans rfl
        have hcz51_1 : w32.cell? ⟨gb257, 1, none⟩ = some (.slice none 0 0) := (blk_cell BK257.out 1).trans rfl
        have hfz51_0 := blk_frozen BK257.out 0
        have hfz51_1 := blk_frozen BK257.out 1
        have hnb52 := NB246_235.out
        have hnc52 := NB235_246.out
        have hnb53 := NB246_251.out
        have hnc53 := NB251_246.out
        have hcz54_0 : w32.cell? ⟨gb246, 0, none⟩ = some (.int .i64 t241) := (blk_cell BK246.out 0).trans rfl
        have hcz54_1 : w32.cell? ⟨gb246, 1, none⟩ = some (.slice Ao23 t242.length co23) := (blk_cell BK246.out 1).trans rfl
        have hfz54_0 := blk_frozen BK246.out 0
        have hfz54_1 := blk_frozen BK246.out 1
        go_wp2_with (first | ((with_reducible refine gate_callee (f := 19) rfl ?_); refine goesL_ (some 38) rfl rfl Try.func19 (by kernel_rfl) rfl #[.agg #[.int .i64 t252, .slice Ao37 t253.length co37], .agg #[.int .i64 t241, .slice Ao23 t242.length co23]] rfl (by (try simp only [List.map_toArray, List.map_cons, List.map_nil]); first | done | rfl | (simp only [List.length_drop, List.length_take]; rfl)) ?_; (with_reducible refine (laws_eqBits.calls k t252 _ _ t253 t241 _ _ t242 false _ ?side1 ?side2 ?side3 ?side4 A38.out).mono ?_); (case side1 => refine (Kd.R_reads' (e := 87) (base := w.heap.size) (ok := fun k_ => (((True ∧ some k_ ≠ (.slice Ao18 t238.length co18 : Value).ownBlock) ∧ some k_ ≠ (.slice Ao23 t242.length co23 : Value).ownBlock) ∧ some k_ ≠ (.slice Ao30 t248.length co30 : Value).ownBlock)) (n := t253.length) (c := co37) ?_).2.2; exact (by (with_reducible repeat (first | apply Kd.R_alloc | apply Kd.R_drewN | apply Kd.R_drew)); exact (Kd.R_mono (Kd.R_far (p := ⟨gb257, 1, none⟩) (Kd.R_far (p := ⟨gb257, 0, none⟩) (Kd.R_types HO255.out BK257.out (by decide)) (fun _ hk => hk.2) (.int .i64 t252)) (fun _ hk => hk.2) (.slice Ao37 t253.length co37)) (fun _ h_ => h_.1)))); (case side2 => exact (Kd.R_reads' HO255.out).2.1); (case side3 => refine (Kd.R_reads' (e := 87) (base := w.heap.size) (ok := fun k_ => (((True ∧ some k_ ≠ (.slice Ao18 t238.length co18 : Value).ownBlock) ∧ some k_ ≠ (.slice Ao30 t248.length co30 : Value).ownBlock) ∧ some k_ ≠ (.slice Ao37 t253.length co37 : Value).ownBlock)) (n := t242.length) (c := co23) ?_).2.2; exact (by (with_reducible repeat (first | apply Kd.R_alloc | apply Kd.R_drewN | apply Kd.R_drew)); exact (Kd.R_mono (Kd.R_far (p := ⟨gb257, 1, none⟩) (Kd.R_far (p := ⟨gb257, 0, none⟩) (Kd.R_types HO244.out BK257.out (by decide)) (fun _ hk => hk.2) (.int .i64 t252)) (fun _ hk => hk.2) (.slice Ao37 t253.length co37)) (fun _ h_ => h_.1)))); (case side4 => exact (Kd.R_reads' HO244.out).2.1); rintro e w55 ⟨rfl, hb⟩; refine ⟨_, rfl, ?_⟩; have n0_ := Aside0.mk (Kd.R_below (by (with_reducible repeat (first | apply Kd.R_alloc | apply Kd.R_drewN | apply Kd.R_drew)); exact (Kd.R_mono (Kd.R_far (p := ⟨gb257, 1, none⟩) (Kd.R_far (p := ⟨gb257, 0, none⟩) (Kd.R_types HO240.out BK257.out (by decide)) (fun _ hk => hk.2) (.int .i64 t252)) (fun _ hk => hk.2) (.slice Ao37 t253.length co37)) (fun _ h_ => h_.1))) hb); have n1_ := Aside0.mk (Kd.R_below (by (with_reducible repeat (first | apply Kd.R_alloc | apply Kd.R_drewN | apply Kd.R_drew)); exact (Kd.R_mono (Kd.R_far (p := ⟨gb257, 1, none⟩) (Kd.R_far (p := ⟨gb257, 0, none⟩) (Kd.R_types HO244.out BK257.out (by decide)) (fun _ hk => hk.2) (.int .i64 t252)) (fun _ hk => hk.2) (.slice Ao37 t253.length co37)) (fun _ h_ => h_.1))) hb); have n2_ := Aside0.mk (Kd.R_below (by (with_reducible repeat (first | apply Kd.R_alloc | apply Kd.R_drewN | apply Kd.R_drew)); exact (Kd.R_mono (Kd.R_far (p := ⟨gb257, 1, none⟩) (Kd.R_far (p := ⟨gb257, 0, none⟩) (Kd.R_types HO250.out BK257.out (by decide)) (fun _ hk => hk.2) (.int .i64 t252)) (fun _ hk => hk.2) (.slice Ao37 t253.length co37)) (fun _ h_ => h_.1))) hb); have n3_ := Aside0.mk (Kd.R_below (by (with_reducible repeat (first | apply Kd.R_alloc | apply Kd.R_drewN | apply Kd.R_drew)); exact (Kd.R_mono (Kd.R_far (p := ⟨gb257, 1, none⟩) (Kd.R_far (p := ⟨gb257, 0, none⟩) (Kd.R_types HO255.out BK257.out (by decide)) (fun _ hk => hk.2) (.int .i64 t252)) (fun _ hk => hk.2) (.slice Ao37 t253.length co37)) (fun _ h_ => h_.1))) hb); have n4_ := Aside0.mk (blk_below (g := gb235) (o := .cells #[.int .i64 a0_0, .slice A0_1 l0_1.length c0_1] 24 (0, 0)) (by (with_reducible repeat (first | refine blk_drewN ?_ _ | refine blk_drew ?_ | refine blk_alloc ?_ _)); refine blk_far ?_ NB235_257.out _; (with_reducible repeat (first | refine blk_drewN ?_ _ | refine blk_drew ?_ | refine blk_alloc ?_ _)); refine blk_far ?_ NB235_257.out _; (with_reducible repeat (first | refine blk_drewN ?_ _ | refine blk_drew ?_ | refine blk_alloc ?_ _)); exact BK235.out) hb); have n5_ := Aside0.mk (blk_below (g := gb246) (o := .cells #[.int .i64 t241, .slice Ao23 t242.length co23] 26 (0, 0)) (by (with_reducible repeat (first | refine blk_drewN ?_ _ | refine blk_drew ?_ | refine blk_alloc ?_ _)); refine blk_far ?_ NB246_257.out _; (with_reducible repeat (first | refine blk_drewN ?_ _ | refine blk_drew ?_ | refine blk_alloc ?_ _)); refine blk_far ?_ NB246_257.out _; (with_reducible repeat (first | refine blk_drewN ?_ _ | refine blk_drew ?_ | refine blk_alloc ?_ _)); exact BK246.out) hb); have n6_ := Aside0.mk (blk_below (g := gb251) (o := .cells #[.int .i64 t247, .slice Ao30 t248.length co30] 26 (0, 0)) (by (with_reducible repeat (first | refine blk_drewN ?_ _ | refine blk_drew ?_ | refine blk_alloc ?_ _)); refine blk_far ?_ NB251_257.out _; (with_reducible repeat (first | refine blk_drewN ?_ _ | refine blk_drew ?_ | refine blk_alloc ?_ _)); refine blk_far ?_ NB251_257.out _; (with_reducible repeat (first | refine blk_drewN ?_ _ | refine blk_drew ?_ | refine blk_alloc ?_ _)); exact BK251.out) hb); have n7_ := Aside0.mk (blk_below (g := gb257) (o := .cells #[.int .i64 t252, .slice Ao37 t253.length co37] 26 (0, 0)) (by (with_reducible repeat (first | refine blk_drewN ?_ _ | refine blk_drew ?_ | refine blk_alloc ?_ _)); refine blk_put (cs := #[.int .i64 t252, .slice none 0 0]) ?_ 1 _ rfl; (with_reducible repeat (first | refine blk_drewN ?_ _ | refine blk_drew ?_ | refine blk_alloc ?_ _)); refine blk_put (cs := #[.int .i64 0, .slice none 0 0]) ?_ 0 _ rfl; (with_reducible repeat (first | refine blk_drewN ?_ _ | refine blk_drew ?_ | refine blk_alloc ?_ _)); exact BK257.out) hb); have n8_ := Aside0.mk (below_step (by repeat (first | (with_reducible first | exact HB.out | apply below_alloc | apply pw_below_drewN | apply below_drew1 | refine below_set ?_ GE235.out | refine below_set ?_ GE246.out | refine below_set ?_ GE251.out | refine below_set ?_ GE257.out) | exact HB.out)) hb); clear HO240; clear HO244; clear HO250; clear HO255; clear BK235; clear BK246; clear BK251; clear BK257; clear HB; have HO240 := n0_; have HO244 := n1_; have HO250 := n2_; have HO255 := n3_; have BK235 := n4_; have BK246 := n5_; have BK251 := n6_; have BK257 := n7_; have HB := n8_; clear n0_ n1_ n2_ n3_ n4_ n5_ n6_ n7_ n8_; (try clear hb); (try clear hb2); (try clear hk); (try clear hi)))
        go_meet
        case rel => exact ⟨_, (true), (by first | rfl | (simp; done) | (simp [*]; done) | (simp only [bne_nil_]; done) | (simp [bne_nil_]; done)), H', ⟨by first | omega | exact Nat.le_refl _⟩, ⟨by (with_reducible repeat (first | apply Kd.R_alloc | apply Kd.R_drewN | apply Kd.R_drew)); exact Kd.R_mono HO244.out (fun _ hk => ⟨hk.1.2, hk.2⟩)⟩, ⟨by (with_reducible repeat (first | apply Kd.R_alloc | apply Kd.R_drewN | apply Kd.R_drew)); exact Kd.R_mono HO250.out (fun _ hk => ⟨hk.1.2, hk.2⟩)⟩, ⟨by (with_reducible repeat (first | apply Kd.R_alloc | apply Kd.R_drewN | apply Kd.R_drew)); exact Kd.R_mono HO255.out (fun _ hk => ⟨hk.1.2, hk.2⟩)⟩, ⟨by (with_reducible repeat (first | refine blk_drewN ?_ _ | refine blk_drew ?_ | refine blk_alloc ?_ _)); exact BK235.out⟩, ⟨by (with_reducible repeat (first | refine blk_drewN ?_ _ | refine blk_drew ?_ | refine blk_alloc ?_ _)); exact BK246.out⟩, ⟨by (with_reducible repeat (first | refine blk_drewN ?_ _ | refine blk_drew ?_ | refine blk_alloc ?_ _)); exact BK251.out⟩, ⟨by (with_reducible repeat (first | refine blk_drewN ?_ _ | refine blk_drew ?_ | refine blk_alloc ?_ _)); exact BK257.out⟩, ⟨by repeat (first | (with_reducible first | exact HB.out | apply below_alloc | apply pw_below_drewN | apply below_drew1 | refine below_set ?_ GE235.out | refine below_set ?_ GE246.out | refine below_set ?_ GE251.out | refine below_set ?_ GE257.out) | exact HB.out)⟩⟩
    case rest =>
      clear HC12
      try clear c1
      try clear c2
      try clear p2
      try clear c3
      try clear c4
      try clear c4b0
      try clear c5
      try clear c7
      try clear c15
      try clear c17
      try clear c19
      try clear c21
      try clear c27
      try clear c28
      try clear c29
      try clear c33
      try clear c34
      try clear c35
      try clear c39
      try clear c40
      try clear c41
      try clear c42
      try clear c44
      try clear c45
      try clear c48
      try clear c49
      try clear c50
      try clear c52
      try clear c53
      try clear hcz14_0
      try clear hcz14_1
      try clear hcz16_0
      try clear hcz16_1
      try clear hcz22_0
      try clear hcz22_1
      try clear hcz24_0
      try clear hcz24_1
      try clear hcz29_0
      try clear hcz29_1
      try clear hcz36_0
      try clear hcz36_1
      try clear hcz43_0
      try clear hcz43_1
      try clear hcz46_0
      try clear hcz46_1
      try clear hcz51_0
      try clear hcz51_1
      try clear hcz54_0
      try clear hcz54_1
      try clear hcz6_0
      try clear hcz6_1
      try clear hfz14_0
      try clear hfz14_1
      try clear hfz16_0
      try clear hfz16_1
      try clear hfz22_0
      try clear hfz22_1
      try clear hfz24_0
      try clear hfz24_1
      try clear hfz29_0
      try clear hfz29_1
      try clear hfz36_0
      try clear hfz36_1
      try clear hfz43_0
      try clear hfz43_1
      try clear hfz46_0
      try clear hfz46_1
      try clear hfz51_0
      try clear hfz51_1
      try clear hfz54_0
      try clear hfz54_1
      try clear hfz6_0
      try clear hfz6_1
      obtain ⟨kq, x44_11, rfl, HA, HJ11, HO_247001, HO_252001, HO_258001, BK235, BK246, BK251, BK257, HB⟩ := hcut
      cases kq with
      | zero => exact absurd HA.out (by simp [laws_FnExactTurnBits.j0])
      | succ kj11 =>
        have H := HA.out
        clear HA
        simp only [laws_FnExactTurnBits.j0] at H
        by_cases c56 : x44_11 = true
        · subst c56
          have H1 : (some false) = some r := by rw [if_pos rfl] at H; exact H
          clear H
          have H := H1
          clear H1
          subst hrt
          exact absurd H (by simp)
        · replace c56 := Bool.eq_false_iff.mpr c56
          subst c56
          have H1 : ((laws_toBits.f kj11 a0_0 l0_1).bind fun bt259 => ((laws_eqBits.f kj11 t247 t248 bt259.1 bt259.2).bind fun t263 => (if t263 = true then ((laws_markBits.f kj11 t247 t248 1).bind fun bt264 => (if bt264.1 < 0 then (laws_FnExactTurnBits.j1 kj11 a1 t245 true a0_0 l0_1 t241 t242 t252 t253) else ((laws_eqBits.f kj11 t252 t253 t241 t242).bind fun t266 => (if t266 = true then (laws_FnExactTurnBits.j1 kj11 a1 t245 (t256 != t245) a0_0 l0_1 t241 t242 t252 t253) else (laws_FnExactTurnBits.j1 kj11 a1 t245 true a0_0 l0_1 t241 t242 t252 t253))))) else (some false)))) = some r := by rw [if_neg (show ¬ (false = true) by decide)] at H; exact H
          clear H
          have H := H1
          clear H1
          replace H := Option.bind_eq_some_iff.mp H
          obtain ⟨⟨t259, t260⟩, A570, H⟩ := H
          replace H : ((laws_eqBits.f kj11 t247 t248 t259 t260).bind fun t263 => (if t263 = true then ((laws_markBits.f kj11 t247 t248 1).bind fun bt264 => (if bt264.1 < 0 then (laws_FnExactTurnBits.j1 kj11 a1 t245 true a0_0 l0_1 t241 t242 t252 t253) else ((laws_eqBits.f kj11 t252 t253 t241 t242).bind fun t266 => (if t266 = true then (laws_FnExactTurnBits.j1 kj11 a1 t245 (t256 != t245) a0_0 l0_1 t241 t242 t252 t253) else (laws_FnExactTurnBits.j1 kj11 a1 t245 true a0_0 l0_1 t241 t242 t252 t253))))) else (some false))) = some r := H
          have A57 := Aside0.mk A570
          clear A570
          replace H := Option.bind_eq_some_iff.mp H
          obtain ⟨t263, A580, H⟩ := H
          replace H : (if t263 = true then ((laws_markBits.f kj11 t247 t248 1).bind fun bt264 => (if bt264.1 < 0 then (laws_FnExactTurnBits.j1 kj11 a1 t245 true a0_0 l0_1 t241 t242 t252 t253) else ((laws_eqBits.f kj11 t252 t253 t241 t242).bind fun t266 => (if t266 = true then (laws_FnExactTurnBits.j1 kj11 a1 t245 (t256 != t245) a0_0 l0_1 t241 t242 t252 t253) else (laws_FnExactTurnBits.j1 kj11 a1 t245 true a0_0 l0_1 t241 t242 t252 t253))))) else (some false)) = some r := H
          have A58 := Aside0.mk A580
          clear A580
          by_cases c59 : t263 = true
          · subst c59
            have H1 : ((laws_markBits.f kj11 t247 t248 1).bind fun bt264 => (if bt264.1 < 0 then (laws_FnExactTurnBits.j1 kj11 a1 t245 true a0_0 l0_1 t241 t242 t252 t253) else ((laws_eqBits.f kj11 t252 t253 t241 t242).bind fun t266 => (if t266 = true then (laws_FnExactTurnBits.j1 kj11 a1 t245 (t256 != t245) a0_0 l0_1 t241 t242 t252 t253) else (laws_FnExactTurnBits.j1 kj11 a1 t245 true a0_0 l0_1 t241 t242 t252 t253))))) = some r := by rw [if_pos rfl] at H; exact H
            clear H
            have H := H1
            clear H1
            replace H := Option.bind_eq_some_iff.mp H
            obtain ⟨⟨t264, t265⟩, A600, H⟩ := H
            replace H : (if t264 < 0 then (laws_FnExactTurnBits.j1 kj11 a1 t245 true a0_0 l0_1 t241 t242 t252 t253) else ((laws_eqBits.f kj11 t252 t253 t241 t242).bind fun t266 => (if t266 = true then (laws_FnExactTurnBits.j1 kj11 a1 t245 (t256 != t245) a0_0 l0_1 t241 t242 t252 t253) else (laws_FnExactTurnBits.j1 kj11 a1 t245 true a0_0 l0_1 t241 t242 t252 t253)))) = some r := H
            have A60 := Aside0.mk A600
            clear A600
            have HC61 := Aside0.mk H
            clear H
            try go_wp2
            have n0_ := Aside0.mk (Kd.R_drew HO_247001.out)
            have n1_ := Aside0.mk (Kd.R_drew HO_252001.out)
            have n2_ := Aside0.mk (Kd.R_drew HO_258001.out)
            have n3_ := Aside0.mk (blk_drew BK235.out)
            have n4_ := Aside0.mk (blk_drew BK246.out)
            have n5_ := Aside0.mk (blk_drew BK251.out)
            have n6_ := Aside0.mk (blk_drew BK257.out)
            have n7_ := Aside0.mk (below_drew1 HB.out)
            clear HO_247001
            clear HO_252001
            clear HO_258001
            clear BK235
            clear BK246
            clear BK251
            clear BK257
            clear HB
            have HO_247001 := n0_
            have HO_252001 := n1_
            have HO_258001 := n2_
            have BK235 := n3_
            have BK246 := n4_
            have BK251 := n5_
            have BK257 := n6_
            have HB := n7_
            clear n0_ n1_ n2_ n3_ n4_ n5_ n6_ n7_
            refine start_ (n := 5) (S := fun w' => w'.cell? ⟨gb251, 0, none⟩ = some (.int .i64 t247) ∧ w'.cell? ⟨gb251, 1, none⟩ = some (.slice Ao30 t248.length co30) ∧ w'.cell? ⟨gb235, 0, none⟩ = some (.int .i64 a0_0) ∧ w'.cell? ⟨gb235, 1, none⟩ = some (.slice A0_1 l0_1.length c0_1)) (ds := []) #[false, false, false, false, false] (by kernel_rfl) rfl rfl ⟨(blk_cell BK251.out 0).trans rfl, (blk_cell BK251.out 1).trans rfl, (blk_cell BK235.out 0).trans rfl, (blk_cell BK235.out 1).trans rfl⟩ (fun hHeld => ?_)
            generalize wc.drew = w62 at HO_247001 HO_252001 HO_258001 BK235 BK246 BK251 BK257 HB hHeld ⊢
            refine take_ (i := 0) (N := some 45) (v := ?_) (a' := ?_) #[true, false, false, false, false] rfl rfl (by kernel_rfl) (fun _ _ _ h => h) (Or.inl ⟨by rfl, ?_⟩) hHeld ?_ ?_
            rotate_left
            · rintro w' ⟨s0, s1, s2, s3⟩
              go_simp
              with_reducible rfl
            rotate_left
            · simp only [Act.put, List.setIfInBounds_toArray, List.set_cons_zero, List.set_cons_succ, i64_w, i32_w]
              rfl
            refine take_ (i := 1) (N := some 46) (v := ?_) (a' := ?_) #[true, true, false, false, false] rfl rfl (by kernel_rfl) (fun _ _ _ h => h) (Or.inl ⟨by rfl, ?_⟩) hHeld ?_ ?_
            rotate_left
            · rintro w' ⟨s0, s1, s2, s3⟩
              go_simp
              with_reducible rfl
            rotate_left
            · simp only [Act.put, List.setIfInBounds_toArray, List.set_cons_zero, List.set_cons_succ, i64_w, i32_w]
              rfl
            refine one_ (i := 2) (N := some 47) #[true, true, true, false, false] rfl rfl (by kernel_rfl) (by decide) (fun K hK => ?_)
            refine goes_ Try.func17 (by kernel_rfl) rfl #[.agg #[.int .i64 a0_0, .slice A0_1 l0_1.length c0_1]] (by rfl) rfl rfl (by (try simp only [List.map_toArray, List.map_cons, List.map_nil]); first | done | rfl | (simp only [List.length_drop, List.length_take]; rfl)) ?_
            with_reducible refine (laws_toBits.calls kj11 a0_0 _ _ l0_1 t259 t260 _ ?side1 ?side2 A57.out).mono ?_
            (case side1 => repeat (first | exact (Kd.C_below HR0_1.out HB.out) | (with_reducible refine Kd.C_alloc ?_ _) | (with_reducible refine Kd.C_drewN ?_ _) | (with_reducible refine Kd.C_drew ?_)))
            (case side2 => exact HC0_1.out)
            rintro e w63 ⟨v261, rfl, ho0, hb⟩
            refine ⟨_, rfl, ?_⟩
            have n0_ := Aside0.mk (Kd.R_elder' (by (with_reducible repeat (first | apply Kd.R_alloc | apply Kd.R_drewN | apply Kd.R_drew)); exact HO_247001.out) (Kd.R_base ho0) hb)
            have n1_ := Aside0.mk (Kd.R_elder' (by (with_reducible repeat (first | apply Kd.R_alloc | apply Kd.R_drewN | apply Kd.R_drew)); exact HO_252001.out) (Kd.R_base ho0) hb)
            have n2_ := Aside0.mk (Kd.R_elder' (by (with_reducible repeat (first | apply Kd.R_alloc | apply Kd.R_drewN | apply Kd.R_drew)); exact HO_258001.out) (Kd.R_base ho0) hb)
            have n3_ := Aside0.mk (Kd.R_lower (Kd.R_new' (Kd.R_new' (Kd.R_new' ho0 (Kd.R_lt (by (with_reducible repeat (first | apply Kd.R_alloc | apply Kd.R_drewN | apply Kd.R_drew)); exact HO_247001.out))) (Kd.R_lt (by (with_reducible repeat (first | apply Kd.R_alloc | apply Kd.R_drewN | apply Kd.R_drew)); exact HO_252001.out))) (Kd.R_lt (by (with_reducible repeat (first | apply Kd.R_alloc | apply Kd.R_drewN | apply Kd.R_drew)); exact HO_258001.out))) (below_size (by repeat (first | (with_reducible first | exact HB.out | apply below_alloc | apply pw_below_drewN | apply below_drew1 | refine below_set ?_ GE235.out | refine below_set ?_ GE246.out | refine below_set ?_ GE251.out | refine below_set ?_ GE257.out) | exact HB.out))))
            have n4_ := Aside0.mk (blk_below (g := gb235) (o := .cells #[.int .i64 a0_0, .slice A0_1 l0_1.length c0_1] 24 (0, 0)) (by (with_reducible repeat (first | refine blk_drewN ?_ _ | refine blk_drew ?_ | refine blk_alloc ?_ _)); exact BK235.out) hb)
            have n5_ := Aside0.mk (blk_below (g := gb246) (o := .cells #[.int .i64 t241, .slice Ao23 t242.length co23] 26 (0, 0)) (by (with_reducible repeat (first | refine blk_drewN ?_ _ | refine blk_drew ?_ | refine blk_alloc ?_ _)); exact BK246.out) hb)
            have n6_ := Aside0.mk (blk_below (g := gb251) (o := .cells #[.int .i64 t247, .slice Ao30 t248.length co30] 26 (0, 0)) (by (with_reducible repeat (first | refine blk_drewN ?_ _ | refine blk_drew ?_ | refine blk_alloc ?_ _)); exact BK251.out) hb)
            have n7_ := Aside0.mk (blk_below (g := gb257) (o := .cells #[.int .i64 t252, .slice Ao37 t253.length co37] 26 (0, 0)) (by (with_reducible repeat (first | refine blk_drewN ?_ _ | refine blk_drew ?_ | refine blk_alloc ?_ _)); exact BK257.out) hb)
            have n8_ := Aside0.mk (below_step (by repeat (first | (with_reducible first | exact HB.out | apply below_alloc | apply pw_below_drewN | apply below_drew1 | refine below_set ?_ GE235.out | refine below_set ?_ GE246.out | refine below_set ?_ GE251.out | refine below_set ?_ GE257.out) | exact HB.out)) hb)
            clear HO_247001
            clear HO_252001
            clear HO_258001
            clear BK235
            clear BK246
            clear BK251
            clear BK257
            clear HB
            have HO_247001 := n0_
            have HO_252001 := n1_
            have HO_258001 := n2_
            have HO262 := n3_
            have BK235 := n4_
            have BK246 := n5_
            have BK251 := n6_
            have BK257 := n7_
            have HB := n8_
            clear n0_ n1_ n2_ n3_ n4_ n5_ n6_ n7_ n8_
            (try clear hb)
            (try clear hb2)
            (try clear hk)
            (try clear hi)
            (try clear ho0)
            obtain ⟨Ao64, co64, eo64⟩ := Kd.R_slice HO262.out
            (first | subst eo64 | (injection eo64 with f1_ f2_ f3_; have f4_ := f1_.symm; have f5_ := f3_.symm; clear f1_ f2_ f3_; subst f4_; subst f5_))
            refine hK.out _ _ ⟨(blk_cell BK251.out 0).trans rfl, (blk_cell BK251.out 1).trans rfl, (blk_cell BK235.out 0).trans rfl, (blk_cell BK235.out 1).trans rfl⟩ (fun hHeld => ?_)
            clear hK K
            refine norm_ (a' := ?_) ?_ ?_
            rotate_left
            · show Act.put _ (some 47) _ = _
              simp only [Act.put, List.setIfInBounds_toArray, List.set_cons_zero, List.set_cons_succ, i64_w, i32_w]
              rfl
            refine one_ (i := 3) (N := some 48) #[true, true, true, true, false] rfl rfl (by kernel_rfl) (by decide) (fun K hK => ?_)
            refine goes_ Try.func19 (by kernel_rfl) rfl #[.agg #[.int .i64 t247, .slice Ao30 t248.length co30], .agg #[.int .i64 t259, .slice Ao64 t260.length co64]] (by rfl) rfl rfl (by (try simp only [List.map_toArray, List.map_cons, List.map_nil]); first | done | rfl | (simp only [List.length_drop, List.length_take]; rfl)) ?_
            with_reducible refine (laws_eqBits.calls kj11 t247 _ _ t248 t259 _ _ t260 true _ ?side1 ?side2 ?side3 ?side4 A58.out).mono ?_
            (case side1 => repeat (first | exact (Kd.R_reads' HO_252001.out).2.2 | (with_reducible refine Kd.C_alloc ?_ _) | (with_reducible refine Kd.C_drewN ?_ _) | (with_reducible refine Kd.C_drew ?_)))
            (case side2 => exact (Kd.R_reads' HO_252001.out).2.1)
            (case side3 => repeat (first | exact (Kd.R_reads' HO262.out).2.2 | (with_reducible refine Kd.C_alloc ?_ _) | (with_reducible refine Kd.C_drewN ?_ _) | (with_reducible refine Kd.C_drew ?_)))
            (case side4 => exact (Kd.R_reads' HO262.out).2.1)
            rintro e w65 ⟨rfl, hb⟩
            refine ⟨_, rfl, ?_⟩
            have n0_ := Aside0.mk (Kd.R_below (by (with_reducible repeat (first | apply Kd.R_alloc | apply Kd.R_drewN | apply Kd.R_drew)); exact HO_247001.out) hb)
            have n1_ := Aside0.mk (Kd.R_below (by (with_reducible repeat (first | apply Kd.R_alloc | apply Kd.R_drewN | apply Kd.R_drew)); exact HO_252001.out) hb)
            have n2_ := Aside0.mk (Kd.R_below (by (with_reducible repeat (first | apply Kd.R_alloc | apply Kd.R_drewN | apply Kd.R_drew)); exact HO_258001.out) hb)
            have n3_ := Aside0.mk (Kd.R_below (by (with_reducible repeat (first | apply Kd.R_alloc | apply Kd.R_drewN | apply Kd.R_drew)); exact HO262.out) hb)
            have n4_ := Aside0.mk (blk_below (g := gb235) (o := .cells #[.int .i64 a0_0, .slice A0_1 l0_1.length c0_1] 24 (0, 0)) (by (with_reducible repeat (first | refine blk_drewN ?_ _ | refine blk_drew ?_ | refine blk_alloc ?_ _)); exact BK235.out) hb)
            have n5_ := Aside0.mk (blk_below (g := gb246) (o := .cells #[.int .i64 t241, .slice Ao23 t242.length co23] 26 (0, 0)) (by (with_reducible repeat (first | refine blk_drewN ?_ _ | refine blk_drew ?_ | refine blk_alloc ?_ _)); exact BK246.out) hb)
            have n6_ := Aside0.mk (blk_below (g := gb251) (o := .cells #[.int .i64 t247, .slice Ao30 t248.length co30] 26 (0, 0)) (by (with_reducible repeat (first | refine blk_drewN ?_ _ | refine blk_drew ?_ | refine blk_alloc ?_ _)); exact BK251.out) hb)
            have n7_ := Aside0.mk (blk_below (g := gb257) (o := .cells #[.int .i64 t252, .slice Ao37 t253.length co37] 26 (0, 0)) (by (with_reducible repeat (first | refine blk_drewN ?_ _ | refine blk_drew ?_ | refine blk_alloc ?_ _)); exact BK257.out) hb)
            have n8_ := Aside0.mk (below_step (by repeat (first | (with_reducible first | exact HB.out | apply below_alloc | apply pw_below_drewN | apply below_drew1 | refine below_set ?_ GE235.out | refine below_set ?_ GE246.out | refine below_set ?_ GE251.out | refine below_set ?_ GE257.out) | exact HB.out)) hb)
            clear HO_247001
            clear HO_252001
            clear HO_258001
            clear HO262
            clear BK235
            clear BK246
            clear BK251
            clear BK257
            clear HB
            have HO_247001 := n0_
            have HO_252001 := n1_
            have HO_258001 := n2_
            have HO262 := n3_
            have BK235 := n4_
            have BK246 := n5_
            have BK251 := n6_
            have BK257 := n7_
            have HB := n8_
            clear n0_ n1_ n2_ n3_ n4_ n5_ n6_ n7_ n8_
            (try clear hb)
            (try clear hb2)
            (try clear hk)
            (try clear hi)
            refine hK.out _ _ ⟨(blk_cell BK251.out 0).trans rfl, (blk_cell BK251.out 1).trans rfl, (blk_cell BK235.out 0).trans rfl, (blk_cell BK235.out 1).trans rfl⟩ (fun hHeld => ?_)
            clear hK K
            refine norm_ (a' := ?_) ?_ ?_
            rotate_left
            · show Act.put _ (some 48) _ = _
              simp only [Act.put, List.setIfInBounds_toArray, List.set_cons_zero, List.set_cons_succ, i64_w, i32_w]
              rfl
            refine pure_ (i := 4) (N := some 49) (v := ?_) (a' := ?_) #[true, true, true, true, true] rfl rfl (by kernel_rfl) (fun _ _ _ h => h) (Or.inl ⟨by rfl, ?_⟩) ?_ ?_
            rotate_left
            · intro w'
              go_simp
              with_reducible rfl
            rotate_left
            · simp only [Act.put, List.setIfInBounds_toArray, List.set_cons_zero, List.set_cons_succ, i64_w, i32_w]
              rfl
            refine done_ (by kernel_rfl) ?_
            have hnb66 := NB251_235.out
            have hnc66 := NB235_251.out
            have hnb67 := NB251_246.out
            have hnc67 := NB246_251.out
            have hnb68 := NB251_257.out
            have hnc68 := NB257_251.out
            have hcz69_0 : w65.cell? ⟨gb251, 0, none⟩ = some (.int .i64 t247) := (blk_cell BK251.out 0).trans rfl
            have hcz69_1 : w65.cell? ⟨gb251, 1, none⟩ = some (.slice Ao30 t248.length co30) := (blk_cell BK251.out 1).trans rfl
            have hfz69_0 := blk_frozen BK251.out 0
            have hfz69_1 := blk_frozen BK251.out 1
            go_upto_region 14 with (first | ((with_reducible refine gate_callee (f := 20) rfl ?_); refine goesL_ (some 52) rfl rfl Try.func20 (by kernel_rfl) rfl #[.agg #[.int .i64 t247, .slice Ao30 t248.length co30], .int .i64 1] rfl (by (try simp only [List.map_toArray, List.map_cons, List.map_nil]); first | done | rfl | (simp only [List.length_drop, List.length_take]; rfl)) ?_; (with_reducible refine (laws_markBits.calls kj11 t247 (fun k_ => some k_ = (.slice Ao30 t248.length co30 : Value).ownBlock) (.slice Ao30 t248.length co30) t248 1 t264 t265 w _ ?side1 ?side2 A60.out).mono ?_); (case side1 => repeat (first | (with_reducible first | exact HB.out | apply below_alloc | apply pw_below_drewN | apply below_drew1 | refine below_set ?_ GE235.out | refine below_set ?_ GE246.out | refine below_set ?_ GE251.out | refine below_set ?_ GE257.out) | exact HB.out)); (case side2 => exact Kd.R_tight rfl HO_252001.out); rintro e w70 ⟨rfl, hy0, hb, hkp⟩; refine ⟨_, rfl, ?_⟩; have n0_ := Aside0.mk (Kd.R_mono (ok' := fun k_ => some k_ ≠ (.slice Ao30 t248.length co30 : Value).ownBlock ∧ some k_ ≠ (.slice Ao37 t253.length co37 : Value).ownBlock ∧ some k_ ≠ (.slice Ao64 t260.length co64 : Value).ownBlock) (Kd.R_keptB (HO_247001.out) hkp (fun k_ hk_ hs_ => (hk_.1.1) hs_)) (fun k_ hk_ => ⟨hk_.1.1.1, hk_.1.1.2, hk_.1.2⟩)); have n1_ := Aside0.mk (Kd.R_reok rfl hy0 (fun k_ e_ => HO_252001.out.1 k_ e_)); have n2_ := Aside0.mk (Kd.R_mono (ok' := fun k_ => some k_ ≠ (.slice Ao23 t242.length co23 : Value).ownBlock ∧ some k_ ≠ (.slice Ao30 t248.length co30 : Value).ownBlock ∧ some k_ ≠ (.slice Ao64 t260.length co64 : Value).ownBlock) (Kd.R_keptB (HO_258001.out) hkp (fun k_ hk_ hs_ => (hk_.1.2) hs_)) (fun k_ hk_ => ⟨hk_.1.1.1, hk_.1.1.2, hk_.1.2⟩)); have n3_ := Aside0.mk (blk_kept (by (with_reducible repeat (first | refine blk_drewN ?_ _ | refine blk_drew ?_ | refine blk_alloc ?_ _)); exact BK235.out) hkp (fun hs_ => (fun e_ => (Kd.R_ne HO_252001.out BK235.out (by decide)) e_) hs_)); have n4_ := Aside0.mk (blk_kept (by (with_reducible repeat (first | refine blk_drewN ?_ _ | refine blk_drew ?_ | refine blk_alloc ?_ _)); exact BK246.out) hkp (fun hs_ => (fun e_ => (Kd.R_ne HO_252001.out BK246.out (by decide)) e_) hs_)); have n5_ := Aside0.mk (blk_kept (by (with_reducible repeat (first | refine blk_drewN ?_ _ | refine blk_drew ?_ | refine blk_alloc ?_ _)); exact BK251.out) hkp (fun hs_ => (fun e_ => (Kd.R_ne HO_252001.out BK251.out (by decide)) e_) hs_)); have n6_ := Aside0.mk (blk_kept (by (with_reducible repeat (first | refine blk_drewN ?_ _ | refine blk_drew ?_ | refine blk_alloc ?_ _)); exact BK257.out) hkp (fun hs_ => (fun e_ => (Kd.R_ne HO_252001.out BK257.out (by decide)) e_) hs_)); have n7_ := Aside0.mk (Kd.R_mono (ok' := fun k_ => some k_ ≠ (.slice Ao23 t242.length co23 : Value).ownBlock ∧ some k_ ≠ (.slice Ao30 t248.length co30 : Value).ownBlock ∧ some k_ ≠ (.slice Ao37 t253.length co37 : Value).ownBlock) (Kd.R_keptB (HO262.out) hkp (fun k_ hk_ hs_ => (hk_.1.2) hs_)) (fun k_ hk_ => ⟨hk_.1.1.1.2, hk_.1.1.2, hk_.1.2⟩)); have n8_ := Aside0.mk (hb); clear HO_247001; clear HO_252001; clear HO_258001; clear BK235; clear BK246; clear BK251; clear BK257; clear HO262; clear HB; have HO_247001 := n0_; have HO_252001 := n1_; have HO_258001 := n2_; have BK235 := n3_; have BK246 := n4_; have BK251 := n5_; have BK257 := n6_; have HO262 := n7_; have HB := n8_; clear n0_ n1_ n2_ n3_ n4_ n5_ n6_ n7_ n8_; (try clear hb); (try clear hkp); (try clear hy0)))
            (try simp only [Act.put, List.setIfInBounds_toArray, List.set_cons_zero, List.set_cons_succ])
            go_cut [65] (fun v65 wc => ∃ (kq : Nat) (x65_60 : Bool), v65 = .bool x65_60 ∧ Aside0 (laws_FnExactTurnBits.j1 kq a1 t245 x65_60 a0_0 l0_1 t241 t242 t252 t253 = some r) ∧ Aside0 (kq ≤ kj11) ∧ Aside0 (Kd.R (Kd.int .u64) 87 wc w.heap.size (fun k_ => some k_ ≠ ((.slice Ao30 t248.length co30) : Value).ownBlock ∧ some k_ ≠ ((.slice Ao37 t253.length co37) : Value).ownBlock) (.slice Ao23 t242.length co23) t242) ∧ Aside0 (Kd.R (Kd.int .u64) 87 wc w.heap.size (fun k_ => some k_ ≠ ((.slice Ao23 t242.length co23) : Value).ownBlock ∧ some k_ ≠ ((.slice Ao37 t253.length co37) : Value).ownBlock) (.slice Ao30 t248.length co30) t265) ∧ Aside0 (Kd.R (Kd.int .u64) 87 wc w.heap.size (fun k_ => some k_ ≠ ((.slice Ao23 t242.length co23) : Value).ownBlock ∧ some k_ ≠ ((.slice Ao30 t248.length co30) : Value).ownBlock) (.slice Ao37 t253.length co37) t253) ∧ Aside0 (wc.heap[gb235]? = some (.cells #[.int .i64 a0_0, (.slice A0_1 l0_1.length c0_1)] 24 (0, 0))) ∧ Aside0 (wc.heap[gb246]? = some (.cells #[.int .i64 t241, (.slice Ao23 t242.length co23)] 26 (0, 0))) ∧ Aside0 (wc.heap[gb251]? = some (.cells #[.int .i64 t247, (.slice Ao30 t248.length co30)] 26 (0, 0))) ∧ Aside0 (wc.heap[gb257]? = some (.cells #[.int .i64 t252, (.slice Ao37 t253.length co37)] 26 (0, 0))) ∧ Aside0 (Below w.heap.size w wc))
            case first =>
              have H := HC61.out
              clear HC61
              by_cases c71 : t264 < 0
              · rw [if_pos c71] at H
                have c71b0 : decide (t264 < 0) = true := decide_eq_true c71
                clear c71
                (first | rw [c71b0] | (simp only [i64_w, i32_w]; rw [c71b0]) | skip)
                have H' := Aside0.mk H
                clear H
                go_wp2
                go_meet
                case rel => exact ⟨_, (true), (by first | rfl | (simp; done) | (simp [*]; done) | (simp only [bne_nil_]; done) | (simp [bne_nil_]; done)), H', ⟨by have := HJ11.out; first | omega | exact Nat.le_refl _⟩, ⟨by (with_reducible repeat (first | apply Kd.R_alloc | apply Kd.R_drewN | apply Kd.R_drew)); exact Kd.R_mono HO_247001.out (fun _ hk => ⟨hk.1, hk.2.1⟩)⟩, ⟨by (with_reducible repeat (first | apply Kd.R_alloc | apply Kd.R_drewN | apply Kd.R_drew)); exact Kd.R_mono HO_252001.out (fun _ hk => ⟨hk.1.1, hk.1.2⟩)⟩, ⟨by (with_reducible repeat (first | apply Kd.R_alloc | apply Kd.R_drewN | apply Kd.R_drew)); exact Kd.R_mono HO_258001.out (fun _ hk => ⟨hk.1, hk.2.1⟩)⟩, ⟨by (with_reducible repeat (first | refine blk_drewN ?_ _ | refine blk_drew ?_ | refine blk_alloc ?_ _)); exact BK235.out⟩, ⟨by (with_reducible repeat (first | refine blk_drewN ?_ _ | refine blk_drew ?_ | refine blk_alloc ?_ _)); exact BK246.out⟩, ⟨by (with_reducible repeat (first | refine blk_drewN ?_ _ | refine blk_drew ?_ | refine blk_alloc ?_ _)); exact BK251.out⟩, ⟨by (with_reducible repeat (first | refine blk_drewN ?_ _ | refine blk_drew ?_ | refine blk_alloc ?_ _)); exact BK257.out⟩, ⟨by repeat (first | (with_reducible first | exact HB.out | apply below_alloc | apply pw_below_drewN | apply below_drew1 | refine below_set ?_ GE235.out | refine below_set ?_ GE246.out | refine below_set ?_ GE251.out | refine below_set ?_ GE257.out) | exact HB.out)⟩⟩
              · rw [if_neg c71] at H
                have c71b0 : decide (t264 < 0) = false := decide_eq_false c71
                clear c71
                (first | rw [c71b0] | (simp only [i64_w, i32_w]; rw [c71b0]) | skip)
                replace H := Option.bind_eq_some_iff.mp H
                obtain ⟨t266, A720, H⟩ := H
                replace H : (if t266 = true then (laws_FnExactTurnBits.j1 kj11 a1 t245 (t256 != t245) a0_0 l0_1 t241 t242 t252 t253) else (laws_FnExactTurnBits.j1 kj11 a1 t245 true a0_0 l0_1 t241 t242 t252 t253)) = some r := H
                have A72 := Aside0.mk A720
                clear A720
                by_cases c73 : t266 = true
                · subst c73
                  have H1 : (laws_FnExactTurnBits.j1 kj11 a1 t245 (t256 != t245) a0_0 l0_1 t241 t242 t252 t253) = some r := by rw [if_pos rfl] at H; exact H
                  clear H
                  have H := H1
                  clear H1
                  have H' := Aside0.mk H
                  clear H
                  have hnb74 := NB257_235.out
                  have hnc74 := NB235_257.out
                  have hnb75 := NB257_246.out
                  have hnc75 := NB246_257.out
                  have hnb76 := NB257_251.out
                  have hnc76 := NB251_257.out
                  have hcz77_0 : w70.cell? ⟨gb257, 0, none⟩ = some (.int .i64 t252) := (blk_cell BK257.out 0).trans rfl
                  have hcz77_1 : w70.cell? ⟨gb257, 1, none⟩ = some (.slice Ao37 t253.length co37) := (blk_cell BK257.out 1).trans rfl
                  have hfz77_0 := blk_frozen BK257.out 0
                  have hfz77_1 := blk_frozen BK257.out 1
                  have hnb78 := NB246_235.out
                  have hnc78 := NB235_246.out
                  have hnb79 := NB246_251.out
                  have hnc79 := NB251_246.out
                  have hcz80_0 : w70.cell? ⟨gb246, 0, none⟩ = some (.int .i64 t241) := (blk_cell BK246.out 0).trans rfl
                  have hcz80_1 : w70.cell? ⟨gb246, 1, none⟩ = some (.slice Ao23 t242.length co23) := (blk_cell BK246.out 1).trans rfl
                  have hfz80_0 := blk_frozen BK246.out 0
                  have hfz80_1 := blk_frozen BK246.out 1
                  go_wp2_with (first | (go_at_call 19; (with_reducible refine (laws_eqBits.calls kj11 t252 _ _ t253 t241 _ _ t242 true _ ?side1 ?side2 ?side3 ?side4 A72.out).mono ?_); (case side1 => repeat (first | exact (Kd.R_reads' HO_258001.out).2.2 | (with_reducible refine Kd.C_alloc ?_ _) | (with_reducible refine Kd.C_drewN ?_ _) | (with_reducible refine Kd.C_drew ?_))); (case side2 => exact (Kd.R_reads' HO_258001.out).2.1); (case side3 => repeat (first | exact (Kd.R_reads' HO_247001.out).2.2 | (with_reducible refine Kd.C_alloc ?_ _) | (with_reducible refine Kd.C_drewN ?_ _) | (with_reducible refine Kd.C_drew ?_))); (case side4 => exact (Kd.R_reads' HO_247001.out).2.1); rintro e w81 ⟨rfl, hb⟩; have n0_ := Aside0.mk (Kd.R_below (by (with_reducible repeat (first | apply Kd.R_alloc | apply Kd.R_drewN | apply Kd.R_drew)); exact HO_247001.out) hb); have n1_ := Aside0.mk (Kd.R_below (by (with_reducible repeat (first | apply Kd.R_alloc | apply Kd.R_drewN | apply Kd.R_drew)); exact HO_252001.out) hb); have n2_ := Aside0.mk (Kd.R_below (by (with_reducible repeat (first | apply Kd.R_alloc | apply Kd.R_drewN | apply Kd.R_drew)); exact HO_258001.out) hb); have n3_ := Aside0.mk (Kd.R_below (by (with_reducible repeat (first | apply Kd.R_alloc | apply Kd.R_drewN | apply Kd.R_drew)); exact HO262.out) hb); have n4_ := Aside0.mk (blk_below (g := gb235) (o := .cells #[.int .i64 a0_0, .slice A0_1 l0_1.length c0_1] 24 (0, 0)) (by (with_reducible repeat (first | refine blk_drewN ?_ _ | refine blk_drew ?_ | refine blk_alloc ?_ _)); exact BK235.out) hb); have n5_ := Aside0.mk (blk_below (g := gb246) (o := .cells #[.int .i64 t241, .slice Ao23 t242.length co23] 26 (0, 0)) (by (with_reducible repeat (first | refine blk_drewN ?_ _ | refine blk_drew ?_ | refine blk_alloc ?_ _)); exact BK246.out) hb); have n6_ := Aside0.mk (blk_below (g := gb251) (o := .cells #[.int .i64 t247, .slice Ao30 t248.length co30] 26 (0, 0)) (by (with_reducible repeat (first | refine blk_drewN ?_ _ | refine blk_drew ?_ | refine blk_alloc ?_ _)); exact BK251.out) hb); have n7_ := Aside0.mk (blk_below (g := gb257) (o := .cells #[.int .i64 t252, .slice Ao37 t253.length co37] 26 (0, 0)) (by (with_reducible repeat (first | refine blk_drewN ?_ _ | refine blk_drew ?_ | refine blk_alloc ?_ _)); exact BK257.out) hb); have n8_ := Aside0.mk (below_step (by repeat (first | (with_reducible first | exact HB.out | apply below_alloc | apply pw_below_drewN | apply below_drew1 | refine below_set ?_ GE235.out | refine below_set ?_ GE246.out | refine below_set ?_ GE251.out | refine below_set ?_ GE257.out) | exact HB.out)) hb); clear HO_247001; clear HO_252001; clear HO_258001; clear HO262; clear BK235; clear BK246; clear BK251; clear BK257; clear HB; have HO_247001 := n0_; have HO_252001 := n1_; have HO_258001 := n2_; have HO262 := n3_; have BK235 := n4_; have BK246 := n5_; have BK251 := n6_; have BK257 := n7_; have HB := n8_; clear n0_ n1_ n2_ n3_ n4_ n5_ n6_ n7_ n8_; (try clear hb); (try clear hb2); (try clear hk); (try clear hi)))
                  go_meet
                  case rel => exact ⟨_, ((t256 != t245)), (by first | rfl | (simp; done) | (simp [*]; done) | (simp only [bne_nil_]; done) | (simp [bne_nil_]; done)), H', ⟨by have := HJ11.out; first | omega | exact Nat.le_refl _⟩, ⟨by (with_reducible repeat (first | apply Kd.R_alloc | apply Kd.R_drewN | apply Kd.R_drew)); exact Kd.R_mono HO_247001.out (fun _ hk => ⟨hk.1, hk.2.1⟩)⟩, ⟨by (with_reducible repeat (first | apply Kd.R_alloc | apply Kd.R_drewN | apply Kd.R_drew)); exact Kd.R_mono HO_252001.out (fun _ hk => ⟨hk.1.1, hk.1.2⟩)⟩, ⟨by (with_reducible repeat (first | apply Kd.R_alloc | apply Kd.R_drewN | apply Kd.R_drew)); exact Kd.R_mono HO_258001.out (fun _ hk => ⟨hk.1, hk.2.1⟩)⟩, ⟨by (with_reducible repeat (first | refine blk_drewN ?_ _ | refine blk_drew ?_ | refine blk_alloc ?_ _)); exact BK235.out⟩, ⟨by (with_reducible repeat (first | refine blk_drewN ?_ _ | refine blk_drew ?_ | refine blk_alloc ?_ _)); exact BK246.out⟩, ⟨by (with_reducible repeat (first | refine blk_drewN ?_ _ | refine blk_drew ?_ | refine blk_alloc ?_ _)); exact BK251.out⟩, ⟨by (with_reducible repeat (first | refine blk_drewN ?_ _ | refine blk_drew ?_ | refine blk_alloc ?_ _)); exact BK257.out⟩, ⟨by repeat (first | (with_reducible first | exact HB.out | apply below_alloc | apply pw_below_drewN | apply below_drew1 | refine below_set ?_ GE235.out | refine below_set ?_ GE246.out | refine below_set ?_ GE251.out | refine below_set ?_ GE257.out) | exact HB.out)⟩⟩
                · replace c73 := Bool.eq_false_iff.mpr c73
                  subst c73
                  have H1 : (laws_FnExactTurnBits.j1 kj11 a1 t245 true a0_0 l0_1 t241 t242 t252 t253) = some r := by rw [if_neg (show ¬ (false = true) by decide)] at H; exact H
                  clear H
                  have H := H1
                  clear H1
                  have H' := Aside0.mk H
                  clear H
                  have hnb82 := NB257_235.out
                  have hnc82 := NB235_257.out
                  have hnb83 := NB257_246.out
                  have hnc83 := NB246_257.out
                  have hnb84 := NB257_251.out
                  have hnc84 := NB251_257.out
                  have hcz85_0 : w70.cell? ⟨gb257, 0, none⟩ = some (.int .i64 t252) := (blk_cell BK257.out 0).trans rfl
                  have hcz85_1 : w70.cell? ⟨gb257, 1, none⟩ = some (.slice Ao37 t253.length co37) := (blk_cell BK257.out 1).trans rfl
                  have hfz85_0 := blk_frozen BK257.out 0
                  have hfz85_1 := blk_frozen BK257.out 1
                  have hnb86 := NB246_235.out
                  have hnc86 := NB235_246.out
                  have hnb87 := NB246_251.out
                  have hnc87 := NB251_246.out
                  have hcz88_0 : w70.cell? ⟨gb246, 0, none⟩ = some (.int .i64 t241) := (blk_cell BK246.out 0).trans rfl
                  have hcz88_1 : w70.cell? ⟨gb246, 1, none⟩ = some (.slice Ao23 t242.length co23) := (blk_cell BK246.out 1).trans rfl
                  have hfz88_0 := blk_frozen BK246.out 0
                  have hfz88_1 := blk_frozen BK246.out 1
                  go_wp2_with (first | (go_at_call 19; (with_reducible refine (laws_eqBits.calls kj11 t252 _ _ t253 t241 _ _ t242 false _ ?side1 ?side2 ?side3 ?side4 A72.out).mono ?_); (case side1 => repeat (first | exact (Kd.R_reads' HO_258001.out).2.2 | (with_reducible refine Kd.C_alloc ?_ _) | (with_reducible refine Kd.C_drewN ?_ _) | (with_reducible refine Kd.C_drew ?_))); (case side2 => exact (Kd.R_reads' HO_258001.out).2.1); (case side3 => repeat (first | exact (Kd.R_reads' HO_247001.out).2.2 | (with_reducible refine Kd.C_alloc ?_ _) | (with_reducible refine Kd.C_drewN ?_ _) | (with_reducible refine Kd.C_drew ?_))); (case side4 => exact (Kd.R_reads' HO_247001.out).2.1); rintro e w89 ⟨rfl, hb⟩; have n0_ := Aside0.mk (Kd.R_below (by (with_reducible repeat (first | apply Kd.R_alloc | apply Kd.R_drewN | apply Kd.R_drew)); exact HO_247001.out) hb); have n1_ := Aside0.mk (Kd.R_below (by (with_reducible repeat (first | apply Kd.R_alloc | apply Kd.R_drewN | apply Kd.R_drew)); exact HO_252001.out) hb); have n2_ := Aside0.mk (Kd.R_below (by (with_reducible repeat (first | apply Kd.R_alloc | apply Kd.R_drewN | apply Kd.R_drew)); exact HO_258001.out) hb); have n3_ := Aside0.mk (Kd.R_below (by (with_reducible repeat (first | apply Kd.R_alloc | apply Kd.R_drewN | apply Kd.R_drew)); exact HO262.out) hb); have n4_ := Aside0.mk (blk_below (g := gb235) (o := .cells #[.int .i64 a0_0, .slice A0_1 l0_1.length c0_1] 24 (0, 0)) (by (with_reducible repeat (first | refine blk_drewN ?_ _ | refine blk_drew ?_ | refine blk_alloc ?_ _)); exact BK235.out) hb); have n5_ := Aside0.mk (blk_below (g := gb246) (o := .cells #[.int .i64 t241, .slice Ao23 t242.length co23] 26 (0, 0)) (by (with_reducible repeat (first | refine blk_drewN ?_ _ | refine blk_drew ?_ | refine blk_alloc ?_ _)); exact BK246.out) hb); have n6_ := Aside0.mk (blk_below (g := gb251) (o := .cells #[.int .i64 t247, .slice Ao30 t248.length co30] 26 (0, 0)) (by (with_reducible repeat (first | refine blk_drewN ?_ _ | refine blk_drew ?_ | refine blk_alloc ?_ _)); exact BK251.out) hb); have n7_ := Aside0.mk (blk_below (g := gb257) (o := .cells #[.int .i64 t252, .slice Ao37 t253.length co37] 26 (0, 0)) (by (with_reducible repeat (first | refine blk_drewN ?_ _ | refine blk_drew ?_ | refine blk_alloc ?_ _)); exact BK257.out) hb); have n8_ := Aside0.mk (below_step (by repeat (first | (with_reducible first | exact HB.out | apply below_alloc | apply pw_below_drewN | apply below_drew1 | refine below_set ?_ GE235.out | refine below_set ?_ GE246.out | refine below_set ?_ GE251.out | refine below_set ?_ GE257.out) | exact HB.out)) hb); clear HO_247001; clear HO_252001; clear HO_258001; clear HO262; clear BK235; clear BK246; clear BK251; clear BK257; clear HB; have HO_247001 := n0_; have HO_252001 := n1_; have HO_258001 := n2_; have HO262 := n3_; have BK235 := n4_; have BK246 := n5_; have BK251 := n6_; have BK257 := n7_; have HB := n8_; clear n0_ n1_ n2_ n3_ n4_ n5_ n6_ n7_ n8_; (try clear hb); (try clear hb2); (try clear hk); (try clear hi)))
                  go_meet
                  case rel => exact ⟨_, (true), (by first | rfl | (simp; done) | (simp [*]; done) | (simp only [bne_nil_]; done) | (simp [bne_nil_]; done)), H', ⟨by have := HJ11.out; first | omega | exact Nat.le_refl _⟩, ⟨by (with_reducible repeat (first | apply Kd.R_alloc | apply Kd.R_drewN | apply Kd.R_drew)); exact Kd.R_mono HO_247001.out (fun _ hk => ⟨hk.1, hk.2.1⟩)⟩, ⟨by (with_reducible repeat (first | apply Kd.R_alloc | apply Kd.R_drewN | apply Kd.R_drew)); exact Kd.R_mono HO_252001.out (fun _ hk => ⟨hk.1.1, hk.1.2⟩)⟩, ⟨by (with_reducible repeat (first | apply Kd.R_alloc | apply Kd.R_drewN | apply Kd.R_drew)); exact Kd.R_mono HO_258001.out (fun _ hk => ⟨hk.1, hk.2.1⟩)⟩, ⟨by (with_reducible repeat (first | refine blk_drewN ?_ _ | refine blk_drew ?_ | refine blk_alloc ?_ _)); exact BK235.out⟩, ⟨by (with_reducible repeat (first | refine blk_drewN ?_ _ | refine blk_drew ?_ | refine blk_alloc ?_ _)); exact BK246.out⟩, ⟨by (with_reducible repeat (first | refine blk_drewN ?_ _ | refine blk_drew ?_ | refine blk_alloc ?_ _)); exact BK251.out⟩, ⟨by (with_reducible repeat (first | refine blk_drewN ?_ _ | refine blk_drew ?_ | refine blk_alloc ?_ _)); exact BK257.out⟩, ⟨by repeat (first | (with_reducible first | exact HB.out | apply below_alloc | apply pw_below_drewN | apply below_drew1 | refine below_set ?_ GE235.out | refine below_set ?_ GE246.out | refine below_set ?_ GE251.out | refine below_set ?_ GE257.out) | exact HB.out)⟩⟩
            case rest =>
              clear HC61
              try clear c1
              try clear c2
              try clear p2
              try clear c3
              try clear c4
              try clear c4b0
              try clear c5
              try clear c6
              try clear c7
              try clear c8
              try clear c15
              try clear c17
              try clear c19
              try clear c20
              try clear c21
              try clear c27
              try clear c28
              try clear c29
              try clear c33
              try clear c34
              try clear c35
              try clear c39
              try clear c40
              try clear c41
              try clear c42
              try clear c44
              try clear c45
              try clear c48
              try clear c49
              try clear c50
              try clear c52
              try clear c53
              try clear c56
              try clear c59
              try clear c66
              try clear c67
              try clear c68
              try clear c71
              try clear c71b0
              try clear c73
              try clear c74
              try clear c75
              try clear c76
              try clear c78
              try clear c79
              try clear c82
              try clear c83
              try clear c84
              try clear c86
              try clear c87
              try clear hcz14_0
              try clear hcz14_1
              try clear hcz16_0
              try clear hcz16_1
              try clear hcz22_0
              try clear hcz22_1
              try clear hcz24_0
              try clear hcz24_1
              try clear hcz29_0
              try clear hcz29_1
              try clear hcz36_0
              try clear hcz36_1
              try clear hcz43_0
              try clear hcz43_1
              try clear hcz46_0
              try clear hcz46_1
              try clear hcz51_0
              try clear hcz51_1
              try clear hcz54_0
              try clear hcz54_1
              try clear hcz69_0
              try clear hcz69_1
              try clear hcz6_0
              try clear hcz6_1
              try clear hcz77_0
              try clear hcz77_1
              try clear hcz80_0
              try clear hcz80_1
              try clear hcz85_0
              try clear hcz85_1
              try clear hcz88_0
              try clear hcz88_1
              try clear hfz14_0
              try clear hfz14_1
              try clear hfz16_0
              try clear hfz16_1
              try clear hfz22_0
              try clear hfz22_1
              try clear hfz24_0
              try clear hfz24_1
              try clear hfz29_0
              try clear hfz29_1
              try clear hfz36_0
              try clear hfz36_1
              try clear hfz43_0
              try clear hfz43_1
              try clear hfz46_0
              try clear hfz46_1
              try clear hfz51_0
              try clear hfz51_1
              try clear hfz54_0
              try clear hfz54_1
              try clear hfz69_0
              try clear hfz69_1
              try clear hfz6_0
              try clear hfz6_1
              try clear hfz77_0
              try clear hfz77_1
              try clear hfz80_0
              try clear hfz80_1
              try clear hfz85_0
              try clear hfz85_1
              try clear hfz88_0
              try clear hfz88_1
              try clear p2
              obtain ⟨kq, x65_60, rfl, HA, HJ60, HO_247001, HO_252001, HO_258001, BK235, BK246, BK251, BK257, HB⟩ := hcut
              have hl252001_60 := (Kd.R_reads' HO_252001.out).1
              rw [hl252001_60] at HO_252001
              (try simp only [hl252001_60])
              (try simp only [hl252001_60] at BK235)
              (try simp only [hl252001_60] at BK246)
              (try simp only [hl252001_60] at BK251)
              (try simp only [hl252001_60] at BK257)
              (try simp only [hl252001_60] at HO_247001)
              (try simp only [hl252001_60] at HO_258001)
              cases kq with
              | zero => exact absurd HA.out (by simp [laws_FnExactTurnBits.j1])
              | succ kj60 =>
                have H := HA.out
                clear HA
                simp only [laws_FnExactTurnBits.j1] at H
                by_cases c90 : x65_60 = true
                · subst c90
                  have H1 : (some false) = some r := by rw [if_pos rfl] at H; exact H
                  clear H
                  have H := H1
                  clear H1
                  subst hrt
                  exact absurd H (by simp)
                · replace c90 := Bool.eq_false_iff.mpr c90
                  subst c90
                  have H1 : ((laws_markBits.f kj60 t252 t253 1).bind fun bt267 => ((laws_heldBits.f kj60 t252 bt267.2 1).bind fun t269 => (if t269 < 0 then (some false) else (if t269 = bt267.1 then ((laws_toBits.f kj60 a0_0 l0_1).bind fun bt270 => ((impl_TurnBits.f kj60 bt270.1 bt270.2 a1).bind fun bt274 => ((laws_eqBits.f kj60 bt274.1 bt274.2.1 t241 t242).bind fun t280 => (if t280 = true then (laws_FnExactTurnBits.j2 kj60 bt267.1 (bt274.2.2 != t245) t252 bt267.2) else (laws_FnExactTurnBits.j2 kj60 bt267.1 true t252 bt267.2))))) else (some false))))) = some r := by rw [if_neg (show ¬ (false = true) by decide)] at H; exact H
                  clear H
                  have H := H1
                  clear H1
                  replace H := Option.bind_eq_some_iff.mp H
                  obtain ⟨⟨t267, t268⟩, A910, H⟩ := H
                  replace H : ((laws_heldBits.f kj60 t252 t268 1).bind fun t269 => (if t269 < 0 then (some false) else (if t269 = t267 then ((laws_toBits.f kj60 a0_0 l0_1).bind fun bt270 => ((impl_TurnBits.f kj60 bt270.1 bt270.2 a1).bind fun bt274 => ((laws_eqBits.f kj60 bt274.1 bt274.2.1 t241 t242).bind fun t280 => (if t280 = true then (laws_FnExactTurnBits.j2 kj60 t267 (bt274.2.2 != t245) t252 t268) else (laws_FnExactTurnBits.j2 kj60 t267 true t252 t268))))) else (some false)))) = some r := H
                  have A91 := Aside0.mk A910
                  clear A910
                  replace H := Option.bind_eq_some_iff.mp H
                  obtain ⟨t269, A920, H⟩ := H
                  replace H : (if t269 < 0 then (some false) else (if t269 = t267 then ((laws_toBits.f kj60 a0_0 l0_1).bind fun bt270 => ((impl_TurnBits.f kj60 bt270.1 bt270.2 a1).bind fun bt274 => ((laws_eqBits.f kj60 bt274.1 bt274.2.1 t241 t242).bind fun t280 => (if t280 = true then (laws_FnExactTurnBits.j2 kj60 t267 (bt274.2.2 != t245) t252 t268) else (laws_FnExactTurnBits.j2 kj60 t267 true t252 t268))))) else (some false))) = some r := H
                  have A92 := Aside0.mk A920
                  clear A920
                  by_cases c93 : t269 < 0
                  · rw [if_pos c93] at H
                    have c93b0 : decide (t269 < 0) = true := decide_eq_true c93
                    clear c93
                    subst hrt
                    exact absurd H (by simp)
                  · rw [if_neg c93] at H
                    have c93b0 : decide (t269 < 0) = false := decide_eq_false c93
                    clear c93
                    by_cases c94 : t269 = t267
                    · rw [if_pos c94] at H
                      have c94b0 : (t269 == t267) = true := beq_iff_eq.mpr c94
                      have c94b1 : (t269 != t267) = false := bne_eq_false_iff_eq.mpr c94
                      clear c94
                      replace H := Option.bind_eq_some_iff.mp H
                      obtain ⟨⟨t270, t271⟩, A950, H⟩ := H
                      replace H : ((impl_TurnBits.f kj60 t270 t271 a1).bind fun bt274 => ((laws_eqBits.f kj60 bt274.1 bt274.2.1 t241 t242).bind fun t280 => (if t280 = true then (laws_FnExactTurnBits.j2 kj60 t267 (bt274.2.2 != t245) t252 t268) else (laws_FnExactTurnBits.j2 kj60 t267 true t252 t268)))) = some r := H
                      have A95 := Aside0.mk A950
                      clear A950
                      replace H := Option.bind_eq_some_iff.mp H
                      obtain ⟨⟨t274, t275, t278⟩, A960, H⟩ := H
                      replace H : ((laws_eqBits.f kj60 t274 t275 t241 t242).bind fun t280 => (if t280 = true then (laws_FnExactTurnBits.j2 kj60 t267 (t278 != t245) t252 t268) else (laws_FnExactTurnBits.j2 kj60 t267 true t252 t268))) = some r := H
                      have A96 := Aside0.mk A960
                      clear A960
                      have HC97 := Aside0.mk H
                      clear H
                      have hnb98 := NB257_235.out
                      have hnc98 := NB235_257.out
                      have hnb99 := NB257_246.out
                      have hnc99 := NB246_257.out
                      have hnb100 := NB257_251.out
                      have hnc100 := NB251_257.out
                      have hcz101_0 : wc.cell? ⟨gb257, 0, none⟩ = some (.int .i64 t252) := (blk_cell BK257.out 0).trans rfl
                      have hcz101_1 : wc.cell? ⟨gb257, 1, none⟩ = some (.slice Ao37 t253.length co37) := (blk_cell BK257.out 1).trans rfl
                      have hfz101_0 := blk_frozen BK257.out 0
                      have hfz101_1 := blk_frozen BK257.out 1
                      go_upto_region 25 with (first | ((with_reducible refine gate_callee (f := 20) rfl ?_); refine goesL_ (some 68) rfl rfl Try.func20 (by kernel_rfl) rfl #[.agg #[.int .i64 t252, .slice Ao37 t253.length co37], .int .i64 1] rfl (by (try simp only [List.map_toArray, List.map_cons, List.map_nil]); first | done | rfl | (simp only [List.length_drop, List.length_take]; rfl)) ?_; (with_reducible refine (laws_markBits.calls kj60 t252 (fun k_ => some k_ = (.slice Ao37 t253.length co37 : Value).ownBlock) (.slice Ao37 t253.length co37) t253 1 t267 t268 w _ ?side1 ?side2 A91.out).mono ?_); (case side1 => repeat (first | (with_reducible first | exact HB.out | apply below_alloc | apply pw_below_drewN | apply below_drew1 | refine below_set ?_ GE235.out | refine below_set ?_ GE246.out | refine below_set ?_ GE251.out | refine below_set ?_ GE257.out) | exact HB.out)); (case side2 => exact Kd.R_tight rfl HO_258001.out); rintro e w102 ⟨rfl, hy0, hb, hkp⟩; refine ⟨_, rfl, ?_⟩; have n0_ := Aside0.mk (Kd.R_mono (ok' := fun k_ => some k_ ≠ (.slice Ao30 t265.length co30 : Value).ownBlock ∧ some k_ ≠ (.slice Ao37 t253.length co37 : Value).ownBlock) (Kd.R_keptB (HO_247001.out) hkp (fun k_ hk_ hs_ => (hk_.2) hs_)) (fun k_ hk_ => ⟨hk_.1.1, hk_.1.2⟩)); have n1_ := Aside0.mk (Kd.R_mono (ok' := fun k_ => some k_ ≠ (.slice Ao23 t242.length co23 : Value).ownBlock ∧ some k_ ≠ (.slice Ao37 t253.length co37 : Value).ownBlock) (Kd.R_keptB (HO_252001.out) hkp (fun k_ hk_ hs_ => (hk_.2) hs_)) (fun k_ hk_ => ⟨hk_.1.1, hk_.1.2⟩)); have n2_ := Aside0.mk (Kd.R_reok rfl hy0 (fun k_ e_ => HO_258001.out.1 k_ e_)); have n3_ := Aside0.mk (blk_kept (by (with_reducible repeat (first | refine blk_drewN ?_ _ | refine blk_drew ?_ | refine blk_alloc ?_ _)); exact BK235.out) hkp (fun hs_ => (fun e_ => (Kd.R_ne HO_258001.out BK235.out (by decide)) e_) hs_)); have n4_ := Aside0.mk (blk_kept (by (with_reducible repeat (first | refine blk_drewN ?_ _ | refine blk_drew ?_ | refine blk_alloc ?_ _)); exact BK246.out) hkp (fun hs_ => (fun e_ => (Kd.R_ne HO_258001.out BK246.out (by decide)) e_) hs_)); have n5_ := Aside0.mk (blk_kept (by (with_reducible repeat (first | refine blk_drewN ?_ _ | refine blk_drew ?_ | refine blk_alloc ?_ _)); exact BK251.out) hkp (fun hs_ => (fun e_ => (Kd.R_ne HO_258001.out BK251.out (by decide)) e_) hs_)); have n6_ := Aside0.mk (blk_kept (by (with_reducible repeat (first | refine blk_drewN ?_ _ | refine blk_drew ?_ | refine blk_alloc ?_ _)); exact BK257.out) hkp (fun hs_ => (fun e_ => (Kd.R_ne HO_258001.out BK257.out (by decide)) e_) hs_)); have n7_ := Aside0.mk (hb); clear HO_247001; clear HO_252001; clear HO_258001; clear BK235; clear BK246; clear BK251; clear BK257; clear HB; have HO_247001 := n0_; have HO_252001 := n1_; have HO_258001 := n2_; have BK235 := n3_; have BK246 := n4_; have BK251 := n5_; have BK257 := n6_; have HB := n7_; clear n0_ n1_ n2_ n3_ n4_ n5_ n6_ n7_; (try clear hb); (try clear hkp); (try clear hy0); have hcz103_0 : w102.cell? ⟨gb257, 0, none⟩ = some (.int .i64 t252) := (blk_cell BK257.out 0).trans rfl; have hcz103_1 : w102.cell? ⟨gb257, 1, none⟩ = some (.slice Ao37 t253.length co37) := (blk_cell BK257.out 1).trans rfl; have hfz103_0 := blk_frozen BK257.out 0; have hfz103_1 := blk_frozen BK257.out 1) | ((with_reducible refine gate_callee (f := 21) rfl ?_); refine goesL_ (some 71) rfl rfl Try.func21 (by kernel_rfl) rfl #[.agg #[.int .i64 t252, .slice Ao37 t268.length co37], .int .i64 1] rfl (by (try simp only [List.map_toArray, List.map_cons, List.map_nil]); first | done | (rw [show t268.length = t253.length from (Kd.R_reads' HO_258001.out).1.symm] <;> rfl) | rfl | (simp only [List.length_drop, List.length_take]; rfl)) ?_; (with_reducible refine (laws_heldBits.calls kj60 t252 _ _ t268 1 t269 _ ?side1 ?side2 A92.out).mono ?_); (case side1 => repeat (first | exact (Kd.R_reads' HO_258001.out).2.2 | (with_reducible refine Kd.C_alloc ?_ _) | (with_reducible refine Kd.C_drewN ?_ _) | (with_reducible refine Kd.C_drew ?_))); (case side2 => rw [show t268.length = t253.length from (Kd.R_reads' HO_258001.out).1.symm]; exact (Kd.R_reads' HO_258001.out).2.1); rintro e w104 ⟨rfl, hb⟩; refine ⟨_, rfl, ?_⟩; have n0_ := Aside0.mk (Kd.R_below (by (with_reducible repeat (first | apply Kd.R_alloc | apply Kd.R_drewN | apply Kd.R_drew)); exact HO_247001.out) hb); have n1_ := Aside0.mk (Kd.R_below (by (with_reducible repeat (first | apply Kd.R_alloc | apply Kd.R_drewN | apply Kd.R_drew)); exact HO_252001.out) hb); have n2_ := Aside0.mk (Kd.R_below (by (with_reducible repeat (first | apply Kd.R_alloc | apply Kd.R_drewN | apply Kd.R_drew)); exact HO_258001.out) hb); have n3_ := Aside0.mk (blk_below (g := gb235) (o := .cells #[.int .i64 a0_0, .slice A0_1 l0_1.length c0_1] 24 (0, 0)) (by (with_reducible repeat (first | refine blk_drewN ?_ _ | refine blk_drew ?_ | refine blk_alloc ?_ _)); exact BK235.out) hb); have n4_ := Aside0.mk (blk_below (g := gb246) (o := .cells #[.int .i64 t241, .slice Ao23 t242.length co23] 26 (0, 0)) (by (with_reducible repeat (first | refine blk_drewN ?_ _ | refine blk_drew ?_ | refine blk_alloc ?_ _)); exact BK246.out) hb); have n5_ := Aside0.mk (blk_below (g := gb251) (o := .cells #[.int .i64 t247, .slice Ao30 t265.length co30] 26 (0, 0)) (by (with_reducible repeat (first | refine blk_drewN ?_ _ | refine blk_drew ?_ | refine blk_alloc ?_ _)); exact BK251.out) hb); have n6_ := Aside0.mk (blk_below (g := gb257) (o := .cells #[.int .i64 t252, .slice Ao37 t253.length co37] 26 (0, 0)) (by (with_reducible repeat (first | refine blk_drewN ?_ _ | refine blk_drew ?_ | refine blk_alloc ?_ _)); exact BK257.out) hb); have n7_ := Aside0.mk (below_step (by repeat (first | (with_reducible first | exact HB.out | apply below_alloc | apply pw_below_drewN | apply below_drew1 | refine below_set ?_ GE235.out | refine below_set ?_ GE246.out | refine below_set ?_ GE251.out | refine below_set ?_ GE257.out) | exact HB.out)) hb); clear HO_247001; clear HO_252001; clear HO_258001; clear BK235; clear BK246; clear BK251; clear BK257; clear HB; have HO_247001 := n0_; have HO_252001 := n1_; have HO_258001 := n2_; have BK235 := n3_; have BK246 := n4_; have BK251 := n5_; have BK257 := n6_; have HB := n7_; clear n0_ n1_ n2_ n3_ n4_ n5_ n6_ n7_; (try clear hb); (try clear hb2); (try clear hk); (try clear hi); have hnb105 := NB235_246.out; have hnc105 := NB246_235.out; have hnb106 := NB235_251.out; have hnc106 := NB251_235.out; have hcz107_0 : w104.cell? ⟨gb235, 0, none⟩ = some (.int .i64 a0_0) := (blk_cell BK235.out 0).trans rfl; have hcz107_1 : w104.cell? ⟨gb235, 1, none⟩ = some (.slice A0_1 l0_1.length c0_1) := (blk_cell BK235.out 1).trans rfl; have hfz107_0 := blk_frozen BK235.out 0; have hfz107_1 := blk_frozen BK235.out 1) | ((with_reducible refine gate_callee (f := 17) rfl ?_); refine goesL_ (some 79) rfl rfl Try.func17 (by kernel_rfl) rfl #[.agg #[.int .i64 a0_0, .slice A0_1 l0_1.length c0_1]] rfl (by (try simp only [List.map_toArray, List.map_cons, List.map_nil]); first | done | rfl | (simp only [List.length_drop, List.length_take]; rfl)) ?_; (with_reducible refine (laws_toBits.calls kj60 a0_0 _ _ l0_1 t270 t271 _ ?side1 ?side2 A95.out).mono ?_); (case side1 => repeat (first | exact (Kd.C_below HR0_1.out HB.out) | (with_reducible refine Kd.C_alloc ?_ _) | (with_reducible refine Kd.C_drewN ?_ _) | (with_reducible refine Kd.C_drew ?_))); (case side2 => exact HC0_1.out); rintro e w108 ⟨v272, rfl, ho0, hb⟩; refine ⟨_, rfl, ?_⟩; have n0_ := Aside0.mk (Kd.R_elder' (by (with_reducible repeat (first | apply Kd.R_alloc | apply Kd.R_drewN | apply Kd.R_drew)); exact HO_247001.out) (Kd.R_base ho0) hb); have n1_ := Aside0.mk (Kd.R_elder' (by (with_reducible repeat (first | apply Kd.R_alloc | apply Kd.R_drewN | apply Kd.R_drew)); exact HO_252001.out) (Kd.R_base ho0) hb); have n2_ := Aside0.mk (Kd.R_elder' (by (with_reducible repeat (first | apply Kd.R_alloc | apply Kd.R_drewN | apply Kd.R_drew)); exact HO_258001.out) (Kd.R_base ho0) hb); have n3_ := Aside0.mk (Kd.R_lower (Kd.R_new' (Kd.R_new' (Kd.R_new' ho0 (Kd.R_lt (by (with_reducible repeat (first | apply Kd.R_alloc | apply Kd.R_drewN | apply Kd.R_drew)); exact HO_247001.out))) (Kd.R_lt (by (with_reducible repeat (first | apply Kd.R_alloc | apply Kd.R_drewN | apply Kd.R_drew)); exact HO_252001.out))) (Kd.R_lt (by (with_reducible repeat (first | apply Kd.R_alloc | apply Kd.R_drewN | apply Kd.R_drew)); exact HO_258001.out))) (below_size (by repeat (first | (with_reducible first | exact HB.out | apply below_alloc | apply pw_below_drewN | apply below_drew1 | refine below_set ?_ GE235.out | refine below_set ?_ GE246.out | refine below_set ?_ GE251.out | refine below_set ?_ GE257.out) | exact HB.out)))); have n4_ := Aside0.mk (blk_below (g := gb235) (o := .cells #[.int .i64 a0_0, .slice A0_1 l0_1.length c0_1] 24 (0, 0)) (by (with_reducible repeat (first | refine blk_drewN ?_ _ | refine blk_drew ?_ | refine blk_alloc ?_ _)); exact BK235.out) hb); have n5_ := Aside0.mk (blk_below (g := gb246) (o := .cells #[.int .i64 t241, .slice Ao23 t242.length co23] 26 (0, 0)) (by (with_reducible repeat (first | refine blk_drewN ?_ _ | refine blk_drew ?_ | refine blk_alloc ?_ _)); exact BK246.out) hb); have n6_ := Aside0.mk (blk_below (g := gb251) (o := .cells #[.int .i64 t247, .slice Ao30 t265.length co30] 26 (0, 0)) (by (with_reducible repeat (first | refine blk_drewN ?_ _ | refine blk_drew ?_ | refine blk_alloc ?_ _)); exact BK251.out) hb); have n7_ := Aside0.mk (blk_below (g := gb257) (o := .cells #[.int .i64 t252, .slice Ao37 t253.length co37] 26 (0, 0)) (by (with_reducible repeat (first | refine blk_drewN ?_ _ | refine blk_drew ?_ | refine blk_alloc ?_ _)); exact BK257.out) hb); have n8_ := Aside0.mk (below_step (by repeat (first | (with_reducible first | exact HB.out | apply below_alloc | apply pw_below_drewN | apply below_drew1 | refine below_set ?_ GE235.out | refine below_set ?_ GE246.out | refine below_set ?_ GE251.out | refine below_set ?_ GE257.out) | exact HB.out)) hb); clear HO_247001; clear HO_252001; clear HO_258001; clear BK235; clear BK246; clear BK251; clear BK257; clear HB; have HO_247001 := n0_; have HO_252001 := n1_; have HO_258001 := n2_; have HO273 := n3_; have BK235 := n4_; have BK246 := n5_; have BK251 := n6_; have BK257 := n7_; have HB := n8_; clear n0_ n1_ n2_ n3_ n4_ n5_ n6_ n7_ n8_; (try clear hb); (try clear hb2); (try clear hk); (try clear hi); (try clear ho0); obtain ⟨Ao109, co109, eo109⟩ := Kd.R_slice HO273.out; subst eo109) | ((with_reducible refine gate_callee (f := 29) rfl ?_); refine goesL_ (some 81) rfl rfl Try.func29 (by kernel_rfl) rfl #[.agg #[.int .i64 t270, .slice Ao109 t271.length co109], .int .i64 a1] rfl (by (try simp only [List.map_toArray, List.map_cons, List.map_nil]); first | done | rfl | (simp only [List.length_drop, List.length_take]; rfl)) ?_; (with_reducible refine (impl_TurnBits.calls kj60 t270 _ _ t271 a1 t274 t275 t278 _ ?side1 ?side2 A96.out).mono ?_); (case side1 => repeat (first | exact (Kd.R_reads' HO273.out).2.2 | (with_reducible refine Kd.C_alloc ?_ _) | (with_reducible refine Kd.C_drewN ?_ _) | (with_reducible refine Kd.C_drew ?_))); (case side2 => exact (Kd.R_reads' HO273.out).2.1); rintro e w110 ⟨v276, rfl, ho0, hb⟩; refine ⟨_, rfl, ?_⟩; have n0_ := Aside0.mk (Kd.R_elder' (by (with_reducible repeat (first | apply Kd.R_alloc | apply Kd.R_drewN | apply Kd.R_drew)); exact HO_247001.out) (Kd.R_base ho0) hb); have n1_ := Aside0.mk (Kd.R_elder' (by (with_reducible repeat (first | apply Kd.R_alloc | apply Kd.R_drewN | apply Kd.R_drew)); exact HO_252001.out) (Kd.R_base ho0) hb); have n2_ := Aside0.mk (Kd.R_elder' (by (with_reducible repeat (first | apply Kd.R_alloc | apply Kd.R_drewN | apply Kd.R_drew)); exact HO_258001.out) (Kd.R_base ho0) hb); have n3_ := Aside0.mk (Kd.R_elder' (by (with_reducible repeat (first | apply Kd.R_alloc | apply Kd.R_drewN | apply Kd.R_drew)); exact HO273.out) (Kd.R_base ho0) hb); have n4_ := Aside0.mk (Kd.R_lower (Kd.R_new' (Kd.R_new' (Kd.R_new' (Kd.R_new' ho0 (Kd.R_lt (by (with_reducible repeat (first | apply Kd.R_alloc | apply Kd.R_drewN | apply Kd.R_drew)); exact HO_247001.out))) (Kd.R_lt (by (with_reducible repeat (first | apply Kd.R_alloc | apply Kd.R_drewN | apply Kd.R_drew)); exact HO_252001.out))) (Kd.R_lt (by (with_reducible repeat (first | apply Kd.R_alloc | apply Kd.R_drewN | apply Kd.R_drew)); exact HO_258001.out))) (Kd.R_lt (by (with_reducible repeat (first | apply Kd.R_alloc | apply Kd.R_drewN | apply Kd.R_drew)); exact HO273.out))) (below_size (by repeat (first | (with_reducible first | exact HB.out | apply below_alloc | apply pw_below_drewN | apply below_drew1 | refine below_set ?_ GE235.out | refine below_set ?_ GE246.out | refine below_set ?_ GE251.out | refine below_set ?_ GE257.out) | exact HB.out)))); have n5_ := Aside0.mk (blk_below (g := gb235) (o := .cells #[.int .i64 a0_0, .slice A0_1 l0_1.length c0_1] 24 (0, 0)) (by (with_reducible repeat (first | refine blk_drewN ?_ _ | refine blk_drew ?_ | refine blk_alloc ?_ _)); exact BK235.out) hb); have n6_ := Aside0.mk (blk_below (g := gb246) (o := .cells #[.int .i64 t241, .slice Ao23 t242.length co23] 26 (0, 0)) (by (with_reducible repeat (first | refine blk_drewN ?_ _ | refine blk_drew ?_ | refine blk_alloc ?_ _)); exact BK246.out) hb); have n7_ := Aside0.mk (blk_below (g := gb251) (o := .cells #[.int .i64 t247, .slice Ao30 t265.length co30] 26 (0, 0)) (by (with_reducible repeat (first | refine blk_drewN ?_ _ | refine blk_drew ?_ | refine blk_alloc ?_ _)); exact BK251.out) hb); have n8_ := Aside0.mk (blk_below (g := gb257) (o := .cells #[.int .i64 t252, .slice Ao37 t253.length co37] 26 (0, 0)) (by (with_reducible repeat (first | refine blk_drewN ?_ _ | refine blk_drew ?_ | refine blk_alloc ?_ _)); exact BK257.out) hb); have n9_ := Aside0.mk (below_step (by repeat (first | (with_reducible first | exact HB.out | apply below_alloc | apply pw_below_drewN | apply below_drew1 | refine below_set ?_ GE235.out | refine below_set ?_ GE246.out | refine below_set ?_ GE251.out | refine below_set ?_ GE257.out) | exact HB.out)) hb); clear HO_247001; clear HO_252001; clear HO_258001; clear HO273; clear BK235; clear BK246; clear BK251; clear BK257; clear HB; have HO_247001 := n0_; have HO_252001 := n1_; have HO_258001 := n2_; have HO273 := n3_; have HO277 := n4_; have BK235 := n5_; have BK246 := n6_; have BK251 := n7_; have BK257 := n8_; have HB := n9_; clear n0_ n1_ n2_ n3_ n4_ n5_ n6_ n7_ n8_ n9_; (try clear hb); (try clear hb2); (try clear hk); (try clear hi); (try clear ho0)) | ((with_reducible refine gate_dst (N := 14) rfl ?_); refine box_event ?hg (N := 14) ?hd (cs := #[.int .i64 0, .slice none 0 0]) (t := 26) ?hr ?_; (case hd => rfl); (case hg => rfl); (case hr => first | (go_simp; done) | (go_simp; rfl)); intro gb279 hg w111 hbox hb; have n0_ := Aside0.mk (Kd.R_below (by (with_reducible repeat (first | apply Kd.R_alloc | apply Kd.R_drewN | apply Kd.R_drew)); exact HO_247001.out) hb); have n1_ := Aside0.mk (Kd.R_below (by (with_reducible repeat (first | apply Kd.R_alloc | apply Kd.R_drewN | apply Kd.R_drew)); exact HO_252001.out) hb); have n2_ := Aside0.mk (Kd.R_below (by (with_reducible repeat (first | apply Kd.R_alloc | apply Kd.R_drewN | apply Kd.R_drew)); exact HO_258001.out) hb); have n3_ := Aside0.mk (Kd.R_below (by (with_reducible repeat (first | apply Kd.R_alloc | apply Kd.R_drewN | apply Kd.R_drew)); exact HO273.out) hb); have n4_ := Aside0.mk (Kd.R_below (by (with_reducible repeat (first | apply Kd.R_alloc | apply Kd.R_drewN | apply Kd.R_drew)); exact HO277.out) hb); have n5_ := Aside0.mk (blk_below (g := gb235) (o := .cells #[.int .i64 a0_0, .slice A0_1 l0_1.length c0_1] 24 (0, 0)) (by (with_reducible repeat (first | refine blk_drewN ?_ _ | refine blk_drew ?_ | refine blk_alloc ?_ _)); exact BK235.out) hb); have n6_ := Aside0.mk (blk_below (g := gb246) (o := .cells #[.int .i64 t241, .slice Ao23 t242.length co23] 26 (0, 0)) (by (with_reducible repeat (first | refine blk_drewN ?_ _ | refine blk_drew ?_ | refine blk_alloc ?_ _)); exact BK246.out) hb); have n7_ := Aside0.mk (blk_below (g := gb251) (o := .cells #[.int .i64 t247, .slice Ao30 t265.length co30] 26 (0, 0)) (by (with_reducible repeat (first | refine blk_drewN ?_ _ | refine blk_drew ?_ | refine blk_alloc ?_ _)); exact BK251.out) hb); have n8_ := Aside0.mk (blk_below (g := gb257) (o := .cells #[.int .i64 t252, .slice Ao37 t253.length co37] 26 (0, 0)) (by (with_reducible repeat (first | refine blk_drewN ?_ _ | refine blk_drew ?_ | refine blk_alloc ?_ _)); exact BK257.out) hb); have n9_ := Aside0.mk (below_step (by repeat (first | (with_reducible first | exact HB.out | apply below_alloc | apply pw_below_drewN | apply below_drew1 | refine below_set ?_ GE235.out | refine below_set ?_ GE246.out | refine below_set ?_ GE251.out | refine below_set ?_ GE257.out) | exact HB.out)) hb); have n10_ := Aside0.mk (hbox); have n11_ := Aside0.mk ((by rw [hg]; exact (below_size (by repeat (first | (with_reducible first | exact HB.out | apply below_alloc | apply pw_below_drewN | apply below_drew1 | refine below_set ?_ GE235.out | refine below_set ?_ GE246.out | refine below_set ?_ GE251.out | refine below_set ?_ GE257.out) | exact HB.out))) : w.heap.size ≤ gb279)); have n12_ := Aside0.mk ((by rw [hg]; exact (below_size (by repeat (first | (with_reducible first | exact HB.out | apply below_alloc | apply pw_below_drewN | apply below_drew1 | refine below_set ?_ GE235.out | refine below_set ?_ GE246.out | refine below_set ?_ GE251.out | refine below_set ?_ GE257.out) | exact HB.out))) : w.heap.size ≤ gb279)); have n13_ := Aside0.mk ((by rw [hg]; exact Nat.ne_of_lt (blk_lt (g := gb235) (o := .cells #[.int .i64 a0_0, .slice A0_1 l0_1.length c0_1] 24 (0, 0)) (by (with_reducible repeat (first | refine blk_drewN ?_ _ | refine blk_drew ?_ | refine blk_alloc ?_ _)); exact BK235.out)) : gb235 ≠ gb279)); have n14_ := Aside0.mk ((by rw [hg]; exact Nat.ne_of_gt (blk_lt (g := gb235) (o := .cells #[.int .i64 a0_0, .slice A0_1 l0_1.length c0_1] 24 (0, 0)) (by (with_reducible repeat (first | refine blk_drewN ?_ _ | refine blk_drew ?_ | refine blk_alloc ?_ _)); exact BK235.out)) : gb279 ≠ gb235)); have n15_ := Aside0.mk ((by rw [hg]; exact Nat.ne_of_lt (blk_lt (g := gb246) (o := .cells #[.int .i64 t241, .slice Ao23 t242.length co23] 26 (0, 0)) (by (with_reducible repeat (first | refine blk_drewN ?_ _ | refine blk_drew ?_ | refine blk_alloc ?_ _)); exact BK246.out)) : gb246 ≠ gb279)); have n16_ := Aside0.mk ((by rw [hg]; exact Nat.ne_of_gt (blk_lt (g := gb246) (o := .cells #[.int .i64 t241, .slice Ao23 t242.length co23] 26 (0, 0)) (by (with_reducible repeat (first | refine blk_drewN ?_ _ | refine blk_drew ?_ | refine blk_alloc ?_ _)); exact BK246.out)) : gb279 ≠ gb246)); have n17_ := Aside0.mk ((by rw [hg]; exact Nat.ne_of_lt (blk_lt (g := gb251) (o := .cells #[.int .i64 t247, .slice Ao30 t265.length co30] 26 (0, 0)) (by (with_reducible repeat (first | refine blk_drewN ?_ _ | refine blk_drew ?_ | refine blk_alloc ?_ _)); exact BK251.out)) : gb251 ≠ gb279)); have n18_ := Aside0.mk ((by rw [hg]; exact Nat.ne_of_gt (blk_lt (g := gb251) (o := .cells #[.int .i64 t247, .slice Ao30 t265.length co30] 26 (0, 0)) (by (with_reducible repeat (first | refine blk_drewN ?_ _ | refine blk_drew ?_ | refine blk_alloc ?_ _)); exact BK251.out)) : gb279 ≠ gb251)); have n19_ := Aside0.mk ((by rw [hg]; exact Nat.ne_of_lt (blk_lt (g := gb257) (o := .cells #[.int .i64 t252, .slice Ao37 t253.length co37] 26 (0, 0)) (by (with_reducible repeat (first | refine blk_drewN ?_ _ | refine blk_drew ?_ | refine blk_alloc ?_ _)); exact BK257.out)) : gb257 ≠ gb279)); have n20_ := Aside0.mk ((by rw [hg]; exact Nat.ne_of_gt (blk_lt (g := gb257) (o := .cells #[.int .i64 t252, .slice Ao37 t253.length co37] 26 (0, 0)) (by (with_reducible repeat (first | refine blk_drewN ?_ _ | refine blk_drew ?_ | refine blk_alloc ?_ _)); exact BK257.out)) : gb279 ≠ gb257)); clear HO_247001; clear HO_252001; clear HO_258001; clear HO273; clear HO277; clear BK235; clear BK246; clear BK251; clear BK257; clear HB; have HO_247001 := n0_; have HO_252001 := n1_; have HO_258001 := n2_; have HO273 := n3_; have HO277 := n4_; have BK235 := n5_; have BK246 := n6_; have BK251 := n7_; have BK257 := n8_; have HB := n9_; have BK279 := n10_; have GW279 := n11_; have GE279 := n12_; have NB235_279 := n13_; have NB279_235 := n14_; have NB246_279 := n15_; have NB279_246 := n16_; have NB251_279 := n17_; have NB279_251 := n18_; have NB257_279 := n19_; have NB279_257 := n20_; clear n0_ n1_ n2_ n3_ n4_ n5_ n6_ n7_ n8_ n9_ n10_ n11_ n12_ n13_ n14_ n15_ n16_ n17_ n18_ n19_ n20_; clear hb hbox hg; have hnb112 := NB279_235.out; have hnc112 := NB235_279.out; have hnb113 := NB279_246.out; have hnc113 := NB246_279.out; have hnb114 := NB279_251.out; have hnc114 := NB251_279.out; have hnb115 := NB279_257.out; have hnc115 := NB257_279.out; have hcz116_0 : w111.cell? ⟨gb279, 0, none⟩ = some (.int .i64 0) := (blk_cell BK279.out 0).trans rfl; have hcz116_1 : w111.cell? ⟨gb279, 1, none⟩ = some (.slice none 0 0) := (blk_cell BK279.out 1).trans rfl; have hfz116_0 := blk_frozen BK279.out 0; have hfz116_1 := blk_frozen BK279.out 1; obtain ⟨Ao117, co117, eo117⟩ := Kd.R_slice HO277.out; subst eo117))
                      (try simp only [Act.put, List.setIfInBounds_toArray, List.set_cons_zero, List.set_cons_succ])
                      go_cut [92] (fun v92 wc => ∃ (kq : Nat) (x92_96 : Bool), v92 = .bool x92_96 ∧ Aside0 (laws_FnExactTurnBits.j2 kq t267 x92_96 t252 t268 = some r) ∧ Aside0 (kq ≤ kj60) ∧ Aside0 (Kd.R (Kd.int .u64) 87 wc w.heap.size (fun k_ => some k_ ≠ ((.slice Ao30 t265.length co30) : Value).ownBlock ∧ some k_ ≠ ((.slice Ao37 t253.length co37) : Value).ownBlock ∧ some k_ ≠ ((.slice Ao117 t275.length co117) : Value).ownBlock) (.slice Ao23 t242.length co23) t242) ∧ Aside0 (Kd.R (Kd.int .u64) 87 wc w.heap.size (fun k_ => some k_ ≠ ((.slice Ao23 t242.length co23) : Value).ownBlock ∧ some k_ ≠ ((.slice Ao37 t253.length co37) : Value).ownBlock ∧ some k_ ≠ ((.slice Ao117 t275.length co117) : Value).ownBlock) (.slice Ao30 t265.length co30) t265) ∧ Aside0 (Kd.R (Kd.int .u64) 87 wc w.heap.size (fun k_ => some k_ ≠ ((.slice Ao23 t242.length co23) : Value).ownBlock ∧ some k_ ≠ ((.slice Ao30 t265.length co30) : Value).ownBlock ∧ some k_ ≠ ((.slice Ao117 t275.length co117) : Value).ownBlock) (.slice Ao37 t253.length co37) t268) ∧ Aside0 (Kd.R (Kd.int .u64) 87 wc w.heap.size (fun k_ => some k_ ≠ ((.slice Ao23 t242.length co23) : Value).ownBlock ∧ some k_ ≠ ((.slice Ao30 t265.length co30) : Value).ownBlock ∧ some k_ ≠ ((.slice Ao37 t253.length co37) : Value).ownBlock) (.slice Ao117 t275.length co117) t275) ∧ Aside0 (wc.heap[gb235]? = some (.cells #[.int .i64 a0_0, (.slice A0_1 l0_1.length c0_1)] 24 (0, 0))) ∧ Aside0 (wc.heap[gb246]? = some (.cells #[.int .i64 t241, (.slice Ao23 t242.length co23)] 26 (0, 0))) ∧ Aside0 (wc.heap[gb251]? = some (.cells #[.int .i64 t247, (.slice Ao30 t265.length co30)] 26 (0, 0))) ∧ Aside0 (wc.heap[gb257]? = some (.cells #[.int .i64 t252, (.slice Ao37 t253.length co37)] 26 (0, 0))) ∧ Aside0 (wc.heap[gb279]? = some (.cells #[.int .i64 t274, (.slice Ao117 t275.length co117)] 26 (0, 0))) ∧ Aside0 (Below w.heap.size w wc))
                      case first =>
                        have H := HC97.out
                        clear HC97
                        replace H := Option.bind_eq_some_iff.mp H
                        obtain ⟨t280, A1180, H⟩ := H
                        replace H : (if t280 = true then (laws_FnExactTurnBits.j2 kj60 t267 (t278 != t245) t252 t268) else (laws_FnExactTurnBits.j2 kj60 t267 true t252 t268)) = some r := H
                        have A118 := Aside0.mk A1180
                        clear A1180
                        by_cases c119 : t280 = true
                        · subst c119
                          have H1 : (laws_FnExactTurnBits.j2 kj60 t267 (t278 != t245) t252 t268) = some r := by rw [if_pos rfl] at H; exact H
                          clear H
                          have H := H1
                          clear H1
                          have H' := Aside0.mk H
                          clear H
                          have hnb120 := NB279_235.out
                          have hnc120 := NB235_279.out
                          have hnb121 := NB279_246.out
                          have hnc121 := NB246_279.out
                          have hnb122 := NB279_251.out
                          have hnc122 := NB251_279.out
                          have hnb123 := NB279_257.out
                          have hnc123 := NB257_279.out
                          have hcz124_0 : w111.cell? ⟨gb279, 0, none⟩ = some (.int .i64 0) := (blk_cell BK279.out 0).trans rfl
                          have hcz124_1 : w111.cell? ⟨gb279, 1, none⟩ = some (.slice none 0 0) := (blk_cell BK279.out 1).trans rfl
                          have hfz124_0 := blk_frozen BK279.out 0
                          have hfz124_1 := blk_frozen BK279.out 1
                          have hnb125 := NB246_235.out
                          have hnc125 := NB235_246.out
                          have hnb126 := NB246_251.out
                          have hnc126 := NB251_246.out
                          have hnb127 := NB246_257.out
                          have hnc127 := NB257_246.out
                          have hcz128_0 : w111.cell? ⟨gb246, 0, none⟩ = some (.int .i64 t241) := (blk_cell BK246.out 0).trans rfl
                          have hcz128_1 : w111.cell? ⟨gb246, 1, none⟩ = some (.slice Ao23 t242.length co23) := (blk_cell BK246.out 1).trans rfl
                          have hfz128_0 := blk_frozen BK246.out 0
                          have hfz128_1 := blk_frozen BK246.out 1
                          go_wp2_with (first | ((with_reducible refine gate_callee (f := 19) rfl ?_); refine goesL_ (some 86) rfl rfl Try.func19 (by kernel_rfl) rfl #[.agg #[.int .i64 t274, .slice Ao117 t275.length co117], .agg #[.int .i64 t241, .slice Ao23 t242.length co23]] rfl (by (try simp only [List.map_toArray, List.map_cons, List.map_nil]); first | done | rfl | (simp only [List.length_drop, List.length_take]; rfl)) ?_; (with_reducible refine (laws_eqBits.calls kj60 t274 _ _ t275 t241 _ _ t242 true _ ?side1 ?side2 ?side3 ?side4 A118.out).mono ?_); (case side1 => refine (Kd.R_reads' (e := 87) (base := w.heap.size) (ok := fun k_ => ((((True ∧ some k_ ≠ (.slice Ao23 t242.length co23 : Value).ownBlock) ∧ some k_ ≠ (.slice Ao30 t265.length co30 : Value).ownBlock) ∧ some k_ ≠ (.slice Ao37 t253.length co37 : Value).ownBlock) ∧ some k_ ≠ (.slice Ao109 t271.length co109 : Value).ownBlock)) (n := t275.length) (c := co117) ?_).2.2; exact (by (with_reducible repeat (first | apply Kd.R_alloc | apply Kd.R_drewN | apply Kd.R_drew)); exact (Kd.R_mono (Kd.R_far (p := ⟨gb279, 1, none⟩) (Kd.R_far (p := ⟨gb279, 0, none⟩) (Kd.R_types HO277.out BK279.out (by decide)) (fun _ hk => hk.2) (.int .i64 t274)) (fun _ hk => hk.2) (.slice Ao117 t275.length co117)) (fun _ h_ => h_.1)))); (case side2 => exact (Kd.R_reads' HO277.out).2.1); (case side3 => refine (Kd.R_reads' (e := 87) (base := w.heap.size) (ok := fun k_ => (((some k_ ≠ (.slice Ao30 t265.length co30 : Value).ownBlock ∧ some k_ ≠ (.slice Ao37 t253.length co37 : Value).ownBlock) ∧ some k_ ≠ (.slice Ao109 t271.length co109 : Value).ownBlock) ∧ some k_ ≠ (.slice Ao117 t275.length co117 : Value).ownBlock)) (n := t242.length) (c := co23) ?_).2.2; exact (by (with_reducible repeat (first | apply Kd.R_alloc | apply Kd.R_drewN | apply Kd.R_drew)); exact (Kd.R_mono (Kd.R_far (p := ⟨gb279, 1, none⟩) (Kd.R_far (p := ⟨gb279, 0, none⟩) (Kd.R_types HO_247001.out BK279.out (by decide)) (fun _ hk => hk.2) (.int .i64 t274)) (fun _ hk => hk.2) (.slice Ao117 t275.length co117)) (fun _ h_ => h_.1)))); (case side4 => exact (Kd.R_reads' HO_247001.out).2.1); rintro e w129 ⟨rfl, hb⟩; refine ⟨_, rfl, ?_⟩; have n0_ := Aside0.mk (Kd.R_below (by (with_reducible repeat (first | apply Kd.R_alloc | apply Kd.R_drewN | apply Kd.R_drew)); exact (Kd.R_mono (Kd.R_far (p := ⟨gb279, 1, none⟩) (Kd.R_far (p := ⟨gb279, 0, none⟩) (Kd.R_types HO_247001.out BK279.out (by decide)) (fun _ hk => hk.2) (.int .i64 t274)) (fun _ hk => hk.2) (.slice Ao117 t275.length co117)) (fun _ h_ => h_.1))) hb); have n1_ := Aside0.mk (Kd.R_below (by (with_reducible repeat (first | apply Kd.R_alloc | apply Kd.R_drewN | apply Kd.R_drew)); exact (Kd.R_mono (Kd.R_far (p := ⟨gb279, 1, none⟩) (Kd.R_far (p := ⟨gb279, 0, none⟩) (Kd.R_types HO_252001.out BK279.out (by decide)) (fun _ hk => hk.2) (.int .i64 t274)) (fun _ hk => hk.2) (.slice Ao117 t275.length co117)) (fun _ h_ => h_.1))) hb); have n2_ := Aside0.mk (Kd.R_below (by (with_reducible repeat (first | apply Kd.R_alloc | apply Kd.R_drewN | apply Kd.R_drew)); exact (Kd.R_mono (Kd.R_far (p := ⟨gb279, 1, none⟩) (Kd.R_far (p := ⟨gb279, 0, none⟩) (Kd.R_types HO_258001.out BK279.out (by decide)) (fun _ hk => hk.2) (.int .i64 t274)) (fun _ hk => hk.2) (.slice Ao117 t275.length co117)) (fun _ h_ => h_.1))) hb); have n3_ := Aside0.mk (Kd.R_below (by (with_reducible repeat (first | apply Kd.R_alloc | apply Kd.R_drewN | apply Kd.R_drew)); exact (Kd.R_mono (Kd.R_far (p := ⟨gb279, 1, none⟩) (Kd.R_far (p := ⟨gb279, 0, none⟩) (Kd.R_types HO273.out BK279.out (by decide)) (fun _ hk => hk.2) (.int .i64 t274)) (fun _ hk => hk.2) (.slice Ao117 t275.length co117)) (fun _ h_ => h_.1))) hb); have n4_ := Aside0.mk (Kd.R_below (by (with_reducible repeat (first | apply Kd.R_alloc | apply Kd.R_drewN | apply Kd.R_drew)); exact (Kd.R_mono (Kd.R_far (p := ⟨gb279, 1, none⟩) (Kd.R_far (p := ⟨gb279, 0, none⟩) (Kd.R_types HO277.out BK279.out (by decide)) (fun _ hk => hk.2) (.int .i64 t274)) (fun _ hk => hk.2) (.slice Ao117 t275.length co117)) (fun _ h_ => h_.1))) hb); have n5_ := Aside0.mk (blk_below (g := gb235) (o := .cells #[.int .i64 a0_0, .slice A0_1 l0_1.length c0_1] 24 (0, 0)) (by (with_reducible repeat (first | refine blk_drewN ?_ _ | refine blk_drew ?_ | refine blk_alloc ?_ _)); refine blk_far ?_ NB235_279.out _; (with_reducible repeat (first | refine blk_drewN ?_ _ | refine blk_drew ?_ | refine blk_alloc ?_ _)); refine blk_far ?_ NB235_279.out _; (with_reducible repeat (first | refine blk_drewN ?_ _ | refine blk_drew ?_ | refine blk_alloc ?_ _)); exact BK235.out) hb); have n6_ := Aside0.mk (blk_below (g := gb246) (o := .cells #[.int .i64 t241, .slice Ao23 t242.length co23] 26 (0, 0)) (by (with_reducible repeat (first | refine blk_drewN ?_ _ | refine blk_drew ?_ | refine blk_alloc ?_ _)); refine blk_far ?_ NB246_279.out _; (with_reducible repeat (first | refine blk_drewN ?_ _ | refine blk_drew ?_ | refine blk_alloc ?_ _)); refine blk_far ?_ NB246_279.out _; (with_reducible repeat (first | refine blk_drewN ?_ _ | refine blk_drew ?_ | refine blk_alloc ?_ _)); exact BK246.out) hb); have n7_ := Aside0.mk (blk_below (g := gb251) (o := .cells #[.int .i64 t247, .slice Ao30 t265.length co30] 26 (0, 0)) (by (with_reducible repeat (first | refine blk_drewN ?_ _ | refine blk_drew ?_ | refine blk_alloc ?_ _)); refine blk_far ?_ NB251_279.out _; (with_reducible repeat (first | refine blk_drewN ?_ _ | refine blk_drew ?_ | refine blk_alloc ?_ _)); refine blk_far ?_ NB251_279.out _; (with_reducible repeat (first | refine blk_drewN ?_ _ | refine blk_drew ?_ | refine blk_alloc ?_ _)); exact BK251.out) hb); have n8_ := Aside0.mk (blk_below (g := gb257) (o := .cells #[.int .i64 t252, .slice Ao37 t253.length co37] 26 (0, 0)) (by (with_reducible repeat (first | refine blk_drewN ?_ _ | refine blk_drew ?_ | refine blk_alloc ?_ _)); refine blk_far ?_ NB257_279.out _; (with_reducible repeat (first | refine blk_drewN ?_ _ | refine blk_drew ?_ | refine blk_alloc ?_ _)); refine blk_far ?_ NB257_279.out _; (with_reducible repeat (first | refine blk_drewN ?_ _ | refine blk_drew ?_ | refine blk_alloc ?_ _)); exact BK257.out) hb); have n9_ := Aside0.mk (blk_below (g := gb279) (o := .cells #[.int .i64 t274, .slice Ao117 t275.length co117] 26 (0, 0)) (by (with_reducible repeat (first | refine blk_drewN ?_ _ | refine blk_drew ?_ | refine blk_alloc ?_ _)); refine blk_put (cs := #[.int .i64 t274, .slice none 0 0]) ?_ 1 _ rfl; (with_reducible repeat (first | refine blk_drewN ?_ _ | refine blk_drew ?_ | refine blk_alloc ?_ _)); refine blk_put (cs := #[.int .i64 0, .slice none 0 0]) ?_ 0 _ rfl; (with_reducible repeat (first | refine blk_drewN ?_ _ | refine blk_drew ?_ | refine blk_alloc ?_ _)); exact BK279.out) hb); have n10_ := Aside0.mk (below_step (by repeat (first | (with_reducible first | exact HB.out | apply below_alloc | apply pw_below_drewN | apply below_drew1 | refine below_set ?_ GE235.out | refine below_set ?_ GE246.out | refine below_set ?_ GE251.out | refine below_set ?_ GE257.out | refine below_set ?_ GE279.out) | exact HB.out)) hb); clear HO_247001; clear HO_252001; clear HO_258001; clear HO273; clear HO277; clear BK235; clear BK246; clear BK251; clear BK257; clear BK279; clear HB; have HO_247001 := n0_; have HO_252001 := n1_; have HO_258001 := n2_; have HO273 := n3_; have HO277 := n4_; have BK235 := n5_; have BK246 := n6_; have BK251 := n7_; have BK257 := n8_; have BK279 := n9_; have HB := n10_; clear n0_ n1_ n2_ n3_ n4_ n5_ n6_ n7_ n8_ n9_ n10_; (try clear hb); (try clear hb2); (try clear hk); (try clear hi)))
                          go_meet
                          case rel => exact ⟨_, ((t278 != t245)), (by first | rfl | (simp; done) | (simp [*]; done) | (simp only [bne_nil_]; done) | (simp [bne_nil_]; done)), H', ⟨by have := HJ11.out; have := HJ60.out; first | omega | exact Nat.le_refl _⟩, ⟨by (try simp only [hl252001_60]); (with_reducible repeat (first | apply Kd.R_alloc | apply Kd.R_drewN | apply Kd.R_drew)); exact Kd.R_mono HO_247001.out (fun _ hk => ⟨hk.1.1.1, ⟨hk.1.1.2, hk.2⟩⟩)⟩, ⟨by (try simp only [hl252001_60]); (with_reducible repeat (first | apply Kd.R_alloc | apply Kd.R_drewN | apply Kd.R_drew)); exact Kd.R_mono HO_252001.out (fun _ hk => ⟨hk.1.1.1, ⟨hk.1.1.2, hk.2⟩⟩)⟩, ⟨by (try simp only [hl252001_60]); (with_reducible repeat (first | apply Kd.R_alloc | apply Kd.R_drewN | apply Kd.R_drew)); exact Kd.R_mono HO_258001.out (fun _ hk => ⟨hk.1.1.1, ⟨hk.1.1.2, hk.2⟩⟩)⟩, ⟨by (try simp only [hl252001_60]); (with_reducible repeat (first | apply Kd.R_alloc | apply Kd.R_drewN | apply Kd.R_drew)); exact Kd.R_mono HO277.out (fun _ hk => ⟨hk.1.1.1.2, ⟨hk.1.1.2, hk.1.2⟩⟩)⟩, ⟨by (try simp only [hl252001_60]); (with_reducible repeat (first | refine blk_drewN ?_ _ | refine blk_drew ?_ | refine blk_alloc ?_ _)); exact BK235.out⟩, ⟨by (try simp only [hl252001_60]); (with_reducible repeat (first | refine blk_drewN ?_ _ | refine blk_drew ?_ | refine blk_alloc ?_ _)); exact BK246.out⟩, ⟨by (try simp only [hl252001_60]); (with_reducible repeat (first | refine blk_drewN ?_ _ | refine blk_drew ?_ | refine blk_alloc ?_ _)); exact BK251.out⟩, ⟨by (try simp only [hl252001_60]); (with_reducible repeat (first | refine blk_drewN ?_ _ | refine blk_drew ?_ | refine blk_alloc ?_ _)); exact BK257.out⟩, ⟨by (try simp only [hl252001_60]); (with_reducible repeat (first | refine blk_drewN ?_ _ | refine blk_drew ?_ | refine blk_alloc ?_ _)); exact BK279.out⟩, ⟨by repeat (first | (with_reducible first | exact HB.out | apply below_alloc | apply pw_below_drewN | apply below_drew1 | refine below_set ?_ GE235.out | refine below_set ?_ GE246.out | refine below_set ?_ GE251.out | refine below_set ?_ GE257.out | refine below_set ?_ GE279.out) | exact HB.out)⟩⟩
                        · replace c119 := Bool.eq_false_iff.mpr c119
                          subst c119
                          have H1 : (laws_FnExactTurnBits.j2 kj60 t267 true t252 t268) = some r := by rw [if_neg (show ¬ (false = true) by decide)] at H; exact H
                          clear H
                          have H := H1
                          clear H1
                          have H' := Aside0.mk H
                          clear H
                          have hnb130 := NB279_235.out
                          have hnc130 := NB235_279.out
                          have hnb131 := NB279_246.out
                          have hnc131 := NB246_279.out
                          have hnb132 := NB279_251.out
                          have hnc132 := NB251_279.out
                          have hnb133 := NB279_257.out
                          have hnc133 := NB257_279.out
                          have hcz134_0 : w111.cell? ⟨gb279, 0, none⟩ = some (.int .i64 0) := (blk_cell BK279.out 0).trans rfl
                          have hcz134_1 : w111.cell? ⟨gb279, 1, none⟩ = some (.slice none 0 0) := (blk_cell BK279.out 1).trans rfl
                          have hfz134_0 := blk_frozen BK279.out 0
                          have hfz134_1 := blk_frozen BK279.out 1
                          have hnb135 := NB246_235.out
                          have hnc135 := NB235_246.out
                          have hnb136 := NB246_251.out
                          have hnc136 := NB251_246.out
                          have hnb137 := NB246_257.out
                          have hnc137 := NB257_246.out
                          have hcz138_0 : w111.cell? ⟨gb246, 0, none⟩ = some (.int .i64 t241) := (blk_cell BK246.out 0).trans rfl
                          have hcz138_1 : w111.cell? ⟨gb246, 1, none⟩ = some (.slice Ao23 t242.length co23) := (blk_cell BK246.out 1).trans rfl
                          have hfz138_0 := blk_frozen BK246.out 0
                          have hfz138_1 := blk_frozen BK246.out 1
                          go_wp2_with (first | ((with_reducible refine gate_callee (f := 19) rfl ?_); refine goesL_ (some 86) rfl rfl Try.func19 (by kernel_rfl) rfl #[.agg #[.int .i64 t274, .slice Ao117 t275.length co117], .agg #[.int .i64 t241, .slice Ao23 t242.length co23]] rfl (by (try simp only [List.map_toArray, List.map_cons, List.map_nil]); first | done | rfl | (simp only [List.length_drop, List.length_take]; rfl)) ?_; (with_reducible refine (laws_eqBits.calls kj60 t274 _ _ t275 t241 _ _ t242 false _ ?side1 ?side2 ?side3 ?side4 A118.out).mono ?_); (case side1 => refine (Kd.R_reads' (e := 87) (base := w.heap.size) (ok := fun k_ => ((((True ∧ some k_ ≠ (.slice Ao23 t242.length co23 : Value).ownBlock) ∧ some k_ ≠ (.slice Ao30 t265.length co30 : Value).ownBlock) ∧ some k_ ≠ (.slice Ao37 t253.length co37 : Value).ownBlock) ∧ some k_ ≠ (.slice Ao109 t271.length co109 : Value).ownBlock)) (n := t275.length) (c := co117) ?_).2.2; exact (by (with_reducible repeat (first | apply Kd.R_alloc | apply Kd.R_drewN | apply Kd.R_drew)); exact (Kd.R_mono (Kd.R_far (p := ⟨gb279, 1, none⟩) (Kd.R_far (p := ⟨gb279, 0, none⟩) (Kd.R_types HO277.out BK279.out (by decide)) (fun _ hk => hk.2) (.int .i64 t274)) (fun _ hk => hk.2) (.slice Ao117 t275.length co117)) (fun _ h_ => h_.1)))); (case side2 => exact (Kd.R_reads' HO277.out).2.1); (case side3 => refine (Kd.R_reads' (e := 87) (base := w.heap.size) (ok := fun k_ => (((some k_ ≠ (.slice Ao30 t265.length co30 : Value).ownBlock ∧ some k_ ≠ (.slice Ao37 t253.length co37 : Value).ownBlock) ∧ some k_ ≠ (.slice Ao109 t271.length co109 : Value).ownBlock) ∧ some k_ ≠ (.slice Ao117 t275.length co117 : Value).ownBlock)) (n := t242.length) (c := co23) ?_).2.2; exact (by (with_reducible repeat (first | apply Kd.R_alloc | apply Kd.R_drewN | apply Kd.R_drew)); exact (Kd.R_mono (Kd.R_far (p := ⟨gb279, 1, none⟩) (Kd.R_far (p := ⟨gb279, 0, none⟩) (Kd.R_types HO_247001.out BK279.out (by decide)) (fun _ hk => hk.2) (.int .i64 t274)) (fun _ hk => hk.2) (.slice Ao117 t275.length co117)) (fun _ h_ => h_.1)))); (case side4 => exact (Kd.R_reads' HO_247001.out).2.1); rintro e w139 ⟨rfl, hb⟩; refine ⟨_, rfl, ?_⟩; have n0_ := Aside0.mk (Kd.R_below (by (with_reducible repeat (first | apply Kd.R_alloc | apply Kd.R_drewN | apply Kd.R_drew)); exact (Kd.R_mono (Kd.R_far (p := ⟨gb279, 1, none⟩) (Kd.R_far (p := ⟨gb279, 0, none⟩) (Kd.R_types HO_247001.out BK279.out (by decide)) (fun _ hk => hk.2) (.int .i64 t274)) (fun _ hk => hk.2) (.slice Ao117 t275.length co117)) (fun _ h_ => h_.1))) hb); have n1_ := Aside0.mk (Kd.R_below (by (with_reducible repeat (first | apply Kd.R_alloc | apply Kd.R_drewN | apply Kd.R_drew)); exact (Kd.R_mono (Kd.R_far (p := ⟨gb279, 1, none⟩) (Kd.R_far (p := ⟨gb279, 0, none⟩) (Kd.R_types HO_252001.out BK279.out (by decide)) (fun _ hk => hk.2) (.int .i64 t274)) (fun _ hk => hk.2) (.slice Ao117 t275.length co117)) (fun _ h_ => h_.1))) hb); have n2_ := Aside0.mk (Kd.R_below (by (with_reducible repeat (first | apply Kd.R_alloc | apply Kd.R_drewN | apply Kd.R_drew)); exact (Kd.R_mono (Kd.R_far (p := ⟨gb279, 1, none⟩) (Kd.R_far (p := ⟨gb279, 0, none⟩) (Kd.R_types HO_258001.out BK279.out (by decide)) (fun _ hk => hk.2) (.int .i64 t274)) (fun _ hk => hk.2) (.slice Ao117 t275.length co117)) (fun _ h_ => h_.1))) hb); have n3_ := Aside0.mk (Kd.R_below (by (with_reducible repeat (first | apply Kd.R_alloc | apply Kd.R_drewN | apply Kd.R_drew)); exact (Kd.R_mono (Kd.R_far (p := ⟨gb279, 1, none⟩) (Kd.R_far (p := ⟨gb279, 0, none⟩) (Kd.R_types HO273.out BK279.out (by decide)) (fun _ hk => hk.2) (.int .i64 t274)) (fun _ hk => hk.2) (.slice Ao117 t275.length co117)) (fun _ h_ => h_.1))) hb); have n4_ := Aside0.mk (Kd.R_below (by (with_reducible repeat (first | apply Kd.R_alloc | apply Kd.R_drewN | apply Kd.R_drew)); exact (Kd.R_mono (Kd.R_far (p := ⟨gb279, 1, none⟩) (Kd.R_far (p := ⟨gb279, 0, none⟩) (Kd.R_types HO277.out BK279.out (by decide)) (fun _ hk => hk.2) (.int .i64 t274)) (fun _ hk => hk.2) (.slice Ao117 t275.length co117)) (fun _ h_ => h_.1))) hb); have n5_ := Aside0.mk (blk_below (g := gb235) (o := .cells #[.int .i64 a0_0, .slice A0_1 l0_1.length c0_1] 24 (0, 0)) (by (with_reducible repeat (first | refine blk_drewN ?_ _ | refine blk_drew ?_ | refine blk_alloc ?_ _)); refine blk_far ?_ NB235_279.out _; (with_reducible repeat (first | refine blk_drewN ?_ _ | refine blk_drew ?_ | refine blk_alloc ?_ _)); refine blk_far ?_ NB235_279.out _; (with_reducible repeat (first | refine blk_drewN ?_ _ | refine blk_drew ?_ | refine blk_alloc ?_ _)); exact BK235.out) hb); have n6_ := Aside0.mk (blk_below (g := gb246) (o := .cells #[.int .i64 t241, .slice Ao23 t242.length co23] 26 (0, 0)) (by (with_reducible repeat (first | refine blk_drewN ?_ _ | refine blk_drew ?_ | refine blk_alloc ?_ _)); refine blk_far ?_ NB246_279.out _; (with_reducible repeat (first | refine blk_drewN ?_ _ | refine blk_drew ?_ | refine blk_alloc ?_ _)); refine blk_far ?_ NB246_279.out _; (with_reducible repeat (first | refine blk_drewN ?_ _ | refine blk_drew ?_ | refine blk_alloc ?_ _)); exact BK246.out) hb); have n7_ := Aside0.mk (blk_below (g := gb251) (o := .cells #[.int .i64 t247, .slice Ao30 t265.length co30] 26 (0, 0)) (by (with_reducible repeat (first | refine blk_drewN ?_ _ | refine blk_drew ?_ | refine blk_alloc ?_ _)); refine blk_far ?_ NB251_279.out _; (with_reducible repeat (first | refine blk_drewN ?_ _ | refine blk_drew ?_ | refine blk_alloc ?_ _)); refine blk_far ?_ NB251_279.out _; (with_reducible repeat (first | refine blk_drewN ?_ _ | refine blk_drew ?_ | refine blk_alloc ?_ _)); exact BK251.out) hb); have n8_ := Aside0.mk (blk_below (g := gb257) (o := .cells #[.int .i64 t252, .slice Ao37 t253.length co37] 26 (0, 0)) (by (with_reducible repeat (first | refine blk_drewN ?_ _ | refine blk_drew ?_ | refine blk_alloc ?_ _)); refine blk_far ?_ NB257_279.out _; (with_reducible repeat (first | refine blk_drewN ?_ _ | refine blk_drew ?_ | refine blk_alloc ?_ _)); refine blk_far ?_ NB257_279.out _; (with_reducible repeat (first | refine blk_drewN ?_ _ | refine blk_drew ?_ | refine blk_alloc ?_ _)); exact BK257.out) hb); have n9_ := Aside0.mk (blk_below (g := gb279) (o := .cells #[.int .i64 t274, .slice Ao117 t275.length co117] 26 (0, 0)) (by (with_reducible repeat (first | refine blk_drewN ?_ _ | refine blk_drew ?_ | refine blk_alloc ?_ _)); refine blk_put (cs := #[.int .i64 t274, .slice none 0 0]) ?_ 1 _ rfl; (with_reducible repeat (first | refine blk_drewN ?_ _ | refine blk_drew ?_ | refine blk_alloc ?_ _)); refine blk_put (cs := #[.int .i64 0, .slice none 0 0]) ?_ 0 _ rfl; (with_reducible repeat (first | refine blk_drewN ?_ _ | refine blk_drew ?_ | refine blk_alloc ?_ _)); exact BK279.out) hb); have n10_ := Aside0.mk (below_step (by repeat (first | (with_reducible first | exact HB.out | apply below_alloc | apply pw_below_drewN | apply below_drew1 | refine below_set ?_ GE235.out | refine below_set ?_ GE246.out | refine below_set ?_ GE251.out | refine below_set ?_ GE257.out | refine below_set ?_ GE279.out) | exact HB.out)) hb); clear HO_247001; clear HO_252001; clear HO_258001; clear HO273; clear HO277; clear BK235; clear BK246; clear BK251; clear BK257; clear BK279; clear HB; have HO_247001 := n0_; have HO_252001 := n1_; have HO_258001 := n2_; have HO273 := n3_; have HO277 := n4_; have BK235 := n5_; have BK246 := n6_; have BK251 := n7_; have BK257 := n8_; have BK279 := n9_; have HB := n10_; clear n0_ n1_ n2_ n3_ n4_ n5_ n6_ n7_ n8_ n9_ n10_; (try clear hb); (try clear hb2); (try clear hk); (try clear hi)))
                          go_meet
                          case rel => exact ⟨_, (true), (by first | rfl | (simp; done) | (simp [*]; done) | (simp only [bne_nil_]; done) | (simp [bne_nil_]; done)), H', ⟨by have := HJ11.out; have := HJ60.out; first | omega | exact Nat.le_refl _⟩, ⟨by (try simp only [hl252001_60]); (with_reducible repeat (first | apply Kd.R_alloc | apply Kd.R_drewN | apply Kd.R_drew)); exact Kd.R_mono HO_247001.out (fun _ hk => ⟨hk.1.1.1, ⟨hk.1.1.2, hk.2⟩⟩)⟩, ⟨by (try simp only [hl252001_60]); (with_reducible repeat (first | apply Kd.R_alloc | apply Kd.R_drewN | apply Kd.R_drew)); exact Kd.R_mono HO_252001.out (fun _ hk => ⟨hk.1.1.1, ⟨hk.1.1.2, hk.2⟩⟩)⟩, ⟨by (try simp only [hl252001_60]); (with_reducible repeat (first | apply Kd.R_alloc | apply Kd.R_drewN | apply Kd.R_drew)); exact Kd.R_mono HO_258001.out (fun _ hk => ⟨hk.1.1.1, ⟨hk.1.1.2, hk.2⟩⟩)⟩, ⟨by (try simp only [hl252001_60]); (with_reducible repeat (first | apply Kd.R_alloc | apply Kd.R_drewN | apply Kd.R_drew)); exact Kd.R_mono HO277.out (fun _ hk => ⟨hk.1.1.1.2, ⟨hk.1.1.2, hk.1.2⟩⟩)⟩, ⟨by (try simp only [hl252001_60]); (with_reducible repeat (first | refine blk_drewN ?_ _ | refine blk_drew ?_ | refine blk_alloc ?_ _)); exact BK235.out⟩, ⟨by (try simp only [hl252001_60]); (with_reducible repeat (first | refine blk_drewN ?_ _ | refine blk_drew ?_ | refine blk_alloc ?_ _)); exact BK246.out⟩, ⟨by (try simp only [hl252001_60]); (with_reducible repeat (first | refine blk_drewN ?_ _ | refine blk_drew ?_ | refine blk_alloc ?_ _)); exact BK251.out⟩, ⟨by (try simp only [hl252001_60]); (with_reducible repeat (first | refine blk_drewN ?_ _ | refine blk_drew ?_ | refine blk_alloc ?_ _)); exact BK257.out⟩, ⟨by (try simp only [hl252001_60]); (with_reducible repeat (first | refine blk_drewN ?_ _ | refine blk_drew ?_ | refine blk_alloc ?_ _)); exact BK279.out⟩, ⟨by repeat (first | (with_reducible first | exact HB.out | apply below_alloc | apply pw_below_drewN | apply below_drew1 | refine below_set ?_ GE235.out | refine below_set ?_ GE246.out | refine below_set ?_ GE251.out | refine below_set ?_ GE257.out | refine below_set ?_ GE279.out) | exact HB.out)⟩⟩
                      case rest =>
                        clear HC97
                        try clear c1
                        try clear c2
                        try clear p2
                        try clear c3
                        try clear c4
                        try clear c4b0
                        try clear c5
                        try clear c6
                        try clear c7
                        try clear c8
                        try clear c9
                        try clear c10
                        try clear c11
                        try clear c12
                        try clear c13
                        try clear c15
                        try clear c17
                        try clear c19
                        try clear c20
                        try clear c21
                        try clear c27
                        try clear c28
                        try clear c29
                        try clear c33
                        try clear c34
                        try clear c35
                        try clear c39
                        try clear c40
                        try clear c41
                        try clear c42
                        try clear c44
                        try clear c45
                        try clear c48
                        try clear c49
                        try clear c50
                        try clear c52
                        try clear c53
                        try clear c56
                        try clear c59
                        try clear c66
                        try clear c67
                        try clear c68
                        try clear c71
                        try clear c71b0
                        try clear c73
                        try clear c74
                        try clear c75
                        try clear c76
                        try clear c78
                        try clear c79
                        try clear c82
                        try clear c83
                        try clear c84
                        try clear c86
                        try clear c87
                        try clear c90
                        try clear c93
                        try clear c93b0
                        try clear c94
                        try clear c94b0
                        try clear c94b1
                        try clear c98
                        try clear c99
                        try clear c100
                        try clear c105
                        try clear c106
                        try clear c112
                        try clear c113
                        try clear c114
                        try clear c115
                        try clear c119
                        try clear c120
                        try clear c121
                        try clear c122
                        try clear c123
                        try clear c125
                        try clear c126
                        try clear c127
                        try clear c130
                        try clear c131
                        try clear c132
                        try clear c133
                        try clear c135
                        try clear c136
                        try clear c137
                        try clear hcz101_0
                        try clear hcz101_1
                        try clear hcz103_0
                        try clear hcz103_1
                        try clear hcz107_0
                        try clear hcz107_1
                        try clear hcz116_0
                        try clear hcz116_1
                        try clear hcz124_0
                        try clear hcz124_1
                        try clear hcz128_0
                        try clear hcz128_1
                        try clear hcz134_0
                        try clear hcz134_1
                        try clear hcz138_0
                        try clear hcz138_1
                        try clear hcz14_0
                        try clear hcz14_1
                        try clear hcz16_0
                        try clear hcz16_1
                        try clear hcz22_0
                        try clear hcz22_1
                        try clear hcz24_0
                        try clear hcz24_1
                        try clear hcz29_0
                        try clear hcz29_1
                        try clear hcz36_0
                        try clear hcz36_1
                        try clear hcz43_0
                        try clear hcz43_1
                        try clear hcz46_0
                        try clear hcz46_1
                        try clear hcz51_0
                        try clear hcz51_1
                        try clear hcz54_0
                        try clear hcz54_1
                        try clear hcz69_0
                        try clear hcz69_1
                        try clear hcz6_0
                        try clear hcz6_1
                        try clear hcz77_0
                        try clear hcz77_1
                        try clear hcz80_0
                        try clear hcz80_1
                        try clear hcz85_0
                        try clear hcz85_1
                        try clear hcz88_0
                        try clear hcz88_1
                        try clear hfz101_0
                        try clear hfz101_1
                        try clear hfz103_0
                        try clear hfz103_1
                        try clear hfz107_0
                        try clear hfz107_1
                        try clear hfz116_0
                        try clear hfz116_1
                        try clear hfz124_0
                        try clear hfz124_1
                        try clear hfz128_0
                        try clear hfz128_1
                        try clear hfz134_0
                        try clear hfz134_1
                        try clear hfz138_0
                        try clear hfz138_1
                        try clear hfz14_0
                        try clear hfz14_1
                        try clear hfz16_0
                        try clear hfz16_1
                        try clear hfz22_0
                        try clear hfz22_1
                        try clear hfz24_0
                        try clear hfz24_1
                        try clear hfz29_0
                        try clear hfz29_1
                        try clear hfz36_0
                        try clear hfz36_1
                        try clear hfz43_0
                        try clear hfz43_1
                        try clear hfz46_0
                        try clear hfz46_1
                        try clear hfz51_0
                        try clear hfz51_1
                        try clear hfz54_0
                        try clear hfz54_1
                        try clear hfz69_0
                        try clear hfz69_1
                        try clear hfz6_0
                        try clear hfz6_1
                        try clear hfz77_0
                        try clear hfz77_1
                        try clear hfz80_0
                        try clear hfz80_1
                        try clear hfz85_0
                        try clear hfz85_1
                        try clear hfz88_0
                        try clear hfz88_1
                        try clear p2
                        obtain ⟨kq, x92_96, rfl, HA, HJ96, HO_247001, HO_252001, HO_258001, HO_280001, BK235, BK246, BK251, BK257, BK279, HB⟩ := hcut
                        have hl258001_96 := (Kd.R_reads' HO_258001.out).1
                        rw [hl258001_96] at HO_258001
                        (try simp only [hl258001_96])
                        (try simp only [hl258001_96] at BK235)
                        (try simp only [hl258001_96] at BK246)
                        (try simp only [hl258001_96] at BK251)
                        (try simp only [hl258001_96] at BK257)
                        (try simp only [hl258001_96] at BK279)
                        (try simp only [hl258001_96] at HO_247001)
                        (try simp only [hl258001_96] at HO_252001)
                        (try simp only [hl258001_96] at HO_280001)
                        cases kq with
                        | zero => exact absurd HA.out (by simp [laws_FnExactTurnBits.j2])
                        | succ kj96 =>
                          have H := HA.out
                          clear HA
                          simp only [laws_FnExactTurnBits.j2] at H
                          by_cases c140 : x92_96 = true
                          · subst c140
                            have H1 : (some false) = some r := by rw [if_pos rfl] at H; exact H
                            clear H
                            have H := H1
                            clear H1
                            subst hrt
                            exact absurd H (by simp)
                          · replace c140 := Bool.eq_false_iff.mpr c140
                            subst c140
                            have H1 : ((laws_heldBits.f kj96 t252 t268 1).bind fun t281 => (if t281 < 0 then (some false) else (if t281 = t267 then (some true) else (some false)))) = some r := by rw [if_neg (show ¬ (false = true) by decide)] at H; exact H
                            clear H
                            have H := H1
                            clear H1
                            replace H := Option.bind_eq_some_iff.mp H
                            obtain ⟨t281, A1410, H⟩ := H
                            replace H : (if t281 < 0 then (some false) else (if t281 = t267 then (some true) else (some false))) = some r := H
                            have A141 := Aside0.mk A1410
                            clear A1410
                            by_cases c142 : t281 < 0
                            · rw [if_pos c142] at H
                              have c142b0 : decide (t281 < 0) = true := decide_eq_true c142
                              clear c142
                              subst hrt
                              exact absurd H (by simp)
                            · rw [if_neg c142] at H
                              have c142b0 : decide (t281 < 0) = false := decide_eq_false c142
                              clear c142
                              by_cases c143 : t281 = t267
                              · rw [if_pos c143] at H
                                have c143b0 : (t281 == t267) = true := beq_iff_eq.mpr c143
                                have c143b1 : (t281 != t267) = false := bne_eq_false_iff_eq.mpr c143
                                clear c143
                                clear hrt
                                obtain rfl := Option.some.inj H
                                have hnb144 := NB257_235.out
                                have hnc144 := NB235_257.out
                                have hnb145 := NB257_246.out
                                have hnc145 := NB246_257.out
                                have hnb146 := NB257_251.out
                                have hnc146 := NB251_257.out
                                have hnb147 := NB257_279.out
                                have hnc147 := NB279_257.out
                                have hcz148_0 : wc.cell? ⟨gb257, 0, none⟩ = some (.int .i64 t252) := (blk_cell BK257.out 0).trans rfl
                                have hcz148_1 : wc.cell? ⟨gb257, 1, none⟩ = some (.slice Ao37 t268.length co37) := (blk_cell BK257.out 1).trans rfl
                                have hfz148_0 := blk_frozen BK257.out 0
                                have hfz148_1 := blk_frozen BK257.out 1
                                go_wp2_with (first | ((with_reducible refine gate_callee (f := 21) rfl ?_); refine goesL_ (some 95) rfl rfl Try.func21 (by kernel_rfl) rfl #[.agg #[.int .i64 t252, .slice Ao37 t268.length co37], .int .i64 1] rfl (by (try simp only [List.map_toArray, List.map_cons, List.map_nil]); first | done | rfl | (simp only [List.length_drop, List.length_take]; rfl)) ?_; (with_reducible refine (laws_heldBits.calls kj96 t252 _ _ t268 1 t281 _ ?side1 ?side2 A141.out).mono ?_); (case side1 => repeat (first | exact (Kd.R_reads' HO_258001.out).2.2 | (with_reducible refine Kd.C_alloc ?_ _) | (with_reducible refine Kd.C_drewN ?_ _) | (with_reducible refine Kd.C_drew ?_))); (case side2 => exact (Kd.R_reads' HO_258001.out).2.1); rintro e w149 ⟨rfl, hb⟩; refine ⟨_, rfl, ?_⟩; have n0_ := Aside0.mk (Kd.R_below (by (with_reducible repeat (first | apply Kd.R_alloc | apply Kd.R_drewN | apply Kd.R_drew)); exact HO_247001.out) hb); have n1_ := Aside0.mk (Kd.R_below (by (with_reducible repeat (first | apply Kd.R_alloc | apply Kd.R_drewN | apply Kd.R_drew)); exact HO_252001.out) hb); have n2_ := Aside0.mk (Kd.R_below (by (with_reducible repeat (first | apply Kd.R_alloc | apply Kd.R_drewN | apply Kd.R_drew)); exact HO_258001.out) hb); have n3_ := Aside0.mk (Kd.R_below (by (with_reducible repeat (first | apply Kd.R_alloc | apply Kd.R_drewN | apply Kd.R_drew)); exact HO_280001.out) hb); have n4_ := Aside0.mk (blk_below (g := gb235) (o := .cells #[.int .i64 a0_0, .slice A0_1 l0_1.length c0_1] 24 (0, 0)) (by (with_reducible repeat (first | refine blk_drewN ?_ _ | refine blk_drew ?_ | refine blk_alloc ?_ _)); exact BK235.out) hb); have n5_ := Aside0.mk (blk_below (g := gb246) (o := .cells #[.int .i64 t241, .slice Ao23 t242.length co23] 26 (0, 0)) (by (with_reducible repeat (first | refine blk_drewN ?_ _ | refine blk_drew ?_ | refine blk_alloc ?_ _)); exact BK246.out) hb); have n6_ := Aside0.mk (blk_below (g := gb251) (o := .cells #[.int .i64 t247, .slice Ao30 t265.length co30] 26 (0, 0)) (by (with_reducible repeat (first | refine blk_drewN ?_ _ | refine blk_drew ?_ | refine blk_alloc ?_ _)); exact BK251.out) hb); have n7_ := Aside0.mk (blk_below (g := gb257) (o := .cells #[.int .i64 t252, .slice Ao37 t268.length co37] 26 (0, 0)) (by (with_reducible repeat (first | refine blk_drewN ?_ _ | refine blk_drew ?_ | refine blk_alloc ?_ _)); exact BK257.out) hb); have n8_ := Aside0.mk (blk_below (g := gb279) (o := .cells #[.int .i64 t274, .slice Ao117 t275.length co117] 26 (0, 0)) (by (with_reducible repeat (first | refine blk_drewN ?_ _ | refine blk_drew ?_ | refine blk_alloc ?_ _)); exact BK279.out) hb); have n9_ := Aside0.mk (below_step (by repeat (first | (with_reducible first | exact HB.out | apply below_alloc | apply pw_below_drewN | apply below_drew1 | refine below_set ?_ GE235.out | refine below_set ?_ GE246.out | refine below_set ?_ GE251.out | refine below_set ?_ GE257.out | refine below_set ?_ GE279.out) | exact HB.out)) hb); clear HO_247001; clear HO_252001; clear HO_258001; clear HO_280001; clear BK235; clear BK246; clear BK251; clear BK257; clear BK279; clear HB; have HO_247001 := n0_; have HO_252001 := n1_; have HO_258001 := n2_; have HO_280001 := n3_; have BK235 := n4_; have BK246 := n5_; have BK251 := n6_; have BK257 := n7_; have BK279 := n8_; have HB := n9_; clear n0_ n1_ n2_ n3_ n4_ n5_ n6_ n7_ n8_ n9_; (try clear hb); (try clear hb2); (try clear hk); (try clear hi)))
                                go_ret
                                exact ⟨by first | rfl | (simp [errW_none, errW_some] <;> rfl) | (simp [*, errW_none, errW_some] <;> rfl), by repeat (first | (with_reducible first | exact HB.out | apply below_alloc | apply pw_below_drewN | apply below_drew1 | refine below_set ?_ GE235.out | refine below_set ?_ GE246.out | refine below_set ?_ GE251.out | refine below_set ?_ GE257.out | refine below_set ?_ GE279.out) | exact HB.out)⟩
                              · rw [if_neg c143] at H
                                have c143b0 : (t281 == t267) = false := beq_eq_false_iff_ne.mpr c143
                                have c143b1 : (t281 != t267) = true := bne_iff_ne.mpr c143
                                subst hrt
                                exact absurd H (by simp)
                    · rw [if_neg c94] at H
                      have c94b0 : (t269 == t267) = false := beq_eq_false_iff_ne.mpr c94
                      have c94b1 : (t269 != t267) = true := bne_iff_ne.mpr c94
                      subst hrt
                      exact absurd H (by simp)
          · replace c59 := Bool.eq_false_iff.mpr c59
            subst c59
            have H1 : (some false) = some r := by rw [if_neg (show ¬ (false = true) by decide)] at H; exact H
            clear H
            have H := H1
            clear H1
            subst hrt
            exact absurd H (by simp)

end Go.Proofs.Ytipoepnmklaahaa.PFnExactTurnBits
