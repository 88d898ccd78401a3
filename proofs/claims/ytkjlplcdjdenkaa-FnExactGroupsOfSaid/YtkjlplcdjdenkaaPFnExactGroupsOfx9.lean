-- Written by a program of this session (lawx3.sh, lawwalk3.py); Lean checks it.
import Derived.Test.YtkjlplcdjdenkaaPFnExactGroupsOfx0
import Derived.Test.YtkjlplcdjdenkaaPFnExactGroupsOfx1
import Derived.Test.YtkjlplcdjdenkaaPFnExactGroupsOfx2
import Derived.Test.YtkjlplcdjdenkaaPFnExactGroupsOfx3
import Derived.Test.YtkjlplcdjdenkaaPFnExactGroupsOfx4
import Derived.Test.YtkjlplcdjdenkaaPFnExactGroupsOfx5
import Derived.Test.YtkjlplcdjdenkaaPFnExactGroupsOfx6
import Derived.Test.YtkjlplcdjdenkaaPFnExactGroupsOfx7
import Derived.Test.YtkjlplcdjdenkaaPFnExactGroupsOfx8
import Derived.Test.YtkjlplcdjdenkaaLaw
namespace Go.Proofs.Ytkjlplcdjdenkaa.PFnExactGroupsOf
open Go.RowKit Go.Proofs.YtkjlplcdjdenkaaW.PrintWords Go.Proofs.YtkjlplcdjdenkaaW.PrintLast Go.Proofs.YtkjlplcdjdenkaaW.PrintMore
attribute [local go_sem] max2_int min2_int max_two min_two max_three min_three max_four min_four   -- for this text's walks alone
set_option linter.unusedVariables false
set_option linter.unusedSimpArgs false

/-! ### laws_markInt64SS: function 37 -/
def laws_markInt64SS.l0 : Nat → List (List Int) → Int → Int → Option (Int × (List (List Int)))
  | 0, _, _, _ => none
  | k + 1, x0, x1, x5 => if x5 < (x0.length : Int) then (if 0 ≤ x5 then ((laws_markInt64S.f k (rd_L3 x0 x5) x1).bind fun t => laws_markInt64SS.l0 k (x0.set (x5 : Int).toNat t.2) t.1 (wrap64 (x5 + 1))) else none) else some (x1, x0)
def laws_markInt64SS.f (k : Nat) (l0 : List (List Int)) (a1 : Int) : Option (Int × (List (List Int))) := laws_markInt64SS.l0 k l0 a1 0
set_option maxHeartbeats 8000000 in
set_option maxRecDepth 100000 in
theorem laws_markInt64SS.calls (k : Nat) (P0_ : Nat → Prop) (u9000_ : Value) (l0 : List (List Int)) (a1 : Int) (r1 : Int) (r2 : List (List Int)) (w0 w : World) (hB : Below w0.heap.size w0 w) (ho0 : Kd.S (Kd.slice 2 (Kd.int .i64)) 55 w w0.heap.size P0_ u9000_ l0) (h : laws_markInt64SS.f k l0 a1 = some (r1, r2)) :
    Calls Try.prog 37 #[u9000_, .int .i64 a1] w fun e w' => e = .returned (.int .i64 r1) ∧ Kd.S (Kd.slice 2 (Kd.int .i64)) 55 w' w0.heap.size (fun k_ => (P0_ k_ ∨ w.heap.size ≤ k_)) u9000_ r2 ∧ Below w0.heap.size w0 w' ∧ Kept w w' (fun k_ => P0_ k_) := by
  have HO0 := Aside0.mk (show Kd.S (Kd.slice 2 (Kd.int .i64)) 55 w w0.heap.size (fun k_ => (P0_ k_ ∨ w.heap.size ≤ k_)) u9000_ l0 from Kd.S_mono ho0 (fun k_ hk => (.inl hk)))
  have HK := Aside0.mk (Kept.refl w (fun k_ => P0_ k_))
  have HB := Aside0.mk hB
  clear hB
  have H : (laws_markInt64SS.l0 k l0 a1 0) = some (r1, r2) := h
  clear h
  have H' := Aside0.mk H
  clear H
  go_enter Try.func37, Try.ntmps37
  go_wp2
  go_loopg [1, 5] k (fun kq v1 v5 w' => ∃ (x0_1 : List (List Int)) (x1_1 : Int) (x5_1 : Int), v1 = .int .i64 x1_1 ∧ v5 = .int .i64 x5_1 ∧ Aside0 (laws_markInt64SS.l0 kq x0_1 x1_1 x5_1 = some (r1, r2)) ∧ Aside0 (kq ≤ k) ∧ Aside0 (Kd.S (Kd.slice 2 (Kd.int .i64)) 55 w' w0.heap.size (fun k_ => (P0_ k_ ∨ w.heap.size ≤ k_)) u9000_ x0_1) ∧ Aside0 (Kept w w' (fun k_ => P0_ k_)) ∧ Aside0 (Below w0.heap.size w0 w'))
  case atStart => exact ⟨l0, a1, 0, (by first | rfl | (simp; done)), (by first | rfl | (simp; done)), H', ⟨Nat.le_refl _⟩, ⟨by (with_reducible repeat (first | apply Kd.S_alloc | apply Kd.S_drewN | apply Kd.S_drew)); exact HO0.out⟩, ⟨by repeat (first | (with_reducible first | exact HK.out | apply Kept.alloc | apply Kept.drewN | apply Kept.drew) | exact HK.out)⟩, ⟨by repeat (first | (with_reducible first | exact HB.out | apply below_alloc | apply pw_below_drewN | apply below_drew1) | exact HB.out)⟩⟩
  case round =>
    clear H' HO0
    obtain ⟨x0_1, x1_1, x5_1, rfl, rfl, HA, HKk, HO_0, HKq, HBq⟩ := hrel
    cases gk with
    | zero => exact absurd HA.out (by simp [laws_markInt64SS.l0])
    | succ k1 =>
      have H := HA.out
      clear HA
      simp only [laws_markInt64SS.l0] at H
      by_cases c3 : x5_1 < (x0_1.length : Int)
      · rw [if_pos c3] at H
        by_cases c5 : 0 ≤ x5_1
        · rw [if_pos c5] at H
          obtain ⟨⟨t1, t2⟩, A40, H⟩ := Option.bind_eq_some_iff.mp H
          replace H : laws_markInt64SS.l0 k1 (x0_1.set (x5_1 : Int).toNat t2) t1 (wrap64 (x5_1 + 1)) = some (r1, r2) := H
          have A4 := Aside0.mk A40
          have H' := Aside0.mk H
          clear A40 H
          obtain ⟨g, cap, rfl, hgb, hgl, cells, hgc⟩ := Kd.S_form HO_0.out (by omega)
          obtain ⟨oki, c, hcl, hM, hcc, hoki, hH⟩ := Kd.S_lend HO_0.out ([] : List Int) x5_1 c5 c3
          obtain ⟨v1, rfl, hR1⟩ := hM
          have hx0 : wr.cell? ⟨g, (x5_1 : Int).toNat, none⟩ = some v1 := by
            have h_ : wr.cell? ⟨g, (x5_1 : Int).toNat * 1 + 0, none⟩ = some v1 := hcc 0 _ rfl
            rwa [Nat.mul_one, Nat.add_zero] at h_
          have HR2 := Aside0.mk hR1
          have HH2 := Aside0.mk hH
          have HI2 := Aside0.mk hoki
          have c3b0 : decide (x5_1 < (x0_1.length : Int)) = true := decide_eq_true c3
          replace c3 := eq_true c3
          replace c5 := eq_true c5
          clear hcl hcc hH hR1 hoki hgb hgl hgc
          go_wp2_with (first | ((with_reducible refine gate_callee (f := 94) rfl ?_); refine goesL_ (some 17) rfl rfl Try.func94 (by kernel_rfl) rfl #[v1, .int .i64 x1_1] rfl (by (try simp only [List.map_toArray, List.map_cons, List.map_nil]); first | done | rfl) ?_; refine (laws_markInt64S.calls k1 oki v1 _ x1_1 t1 t2 w0 _ (by repeat (first | (with_reducible first | exact HBq.out | apply below_alloc | apply pw_below_drewN | apply below_drew1) | exact HBq.out)) (by (with_reducible repeat (first | apply Kd.R_alloc | apply Kd.R_drewN | apply Kd.R_drew)); exact HR2.out) A4.out).mono ?_; rintro e w12 ⟨rfl, hr', hb', hk'⟩; refine ⟨_, rfl, ?_⟩; have HS := Aside0.mk (Kd.H_back (Kd.H_step (Kd.H_widen HH2.out) (fun k _ hn hlt => hk'.2 k hlt (fun h => hn (.inl h)))) ⟨v1, rfl, hr'⟩ (fun k hk => hk.elim .inl (fun h => .inr ⟨.inr (Nat.le_trans HKq.out.1 h), h⟩))); have HK2 := Aside0.mk (Kept.then_ HKq.out hk' (fun k hk => (HI2.out k hk).1)); have HB2 := Aside0.mk hb'; clear hr' hb' hk' HH2 HR2 HI2 hx0))
          go_roundg k1
          case measure => have := HKk.out; omega
          case rel => exact ⟨_, _, _, (by first | rfl | (simp; done)), (by first | rfl | (simp; done)), H', ⟨by have := HKk.out; omega⟩, ⟨HS.out⟩, ⟨HK2.out⟩, ⟨HB2.out⟩⟩
        · rw [if_neg c5] at H
          exact absurd H (by simp)
      · rw [if_neg c3] at H
        have c3b0 : decide (x5_1 < (x0_1.length : Int)) = false := decide_eq_false c3
        clear c3
        simp only [Option.some.injEq, Prod.mk.injEq] at H
        obtain ⟨rfl, rfl⟩ := H
        obtain ⟨Ao14, co14, eo14⟩ := Kd.S_slice HO_0.out
        subst eo14
        go_wp2
        go_ret
        exact ⟨by first | rfl | (simp; done), HO_0.out, HBq.out, HKq.out⟩

/-! ### laws_FnExactGroupsOf: function 7 -/
def laws_FnExactGroupsOf.f (k : Nat) (a0_0 : Int) (l0_1 : List (S180)) : Option (Bool) := (laws_szForest.f a0_0 l0_1 1048576).bind fun t13 => if t13 < 0 then some true else (laws_toForest.f k a0_0 l0_1).bind fun bt17 => (spec_GroupsOf.f k bt17.1 bt17.2).bind fun t18 => (laws_toForest.f k a0_0 l0_1).bind fun bt20 => (impl_GroupsOf.f k bt20.1 bt20.2).bind fun t22 => (laws_eqInt64SS.f k t22 t18).bind fun t25 => if t25 = true then ((laws_toForest.f k a0_0 l0_1).bind fun bt29 => (laws_eqForest.f k bt20.1 bt20.2 bt29.1 bt29.2).bind fun t30 => if t30 = true then ((laws_markForest.f k bt20.1 bt20.2 1).bind fun bt34 => (laws_eqInt64SS.f k t22 t18).bind fun t40 => if bt34.1 < 0 then none else if t40 = true then ((laws_markInt64SS.f k t22 1).bind fun bt45 => (laws_heldInt64SS.f k bt45.2 1).bind fun t48 => if t48 < 0 then none else if t48 = bt45.1 then ((laws_toForest.f k a0_0 l0_1).bind fun bt55 => (impl_GroupsOf.f k bt55.1 bt55.2).bind fun t56 => (laws_eqInt64SS.f k t56 t18).bind fun t59 => if t59 = true then ((laws_heldInt64SS.f k bt45.2 1).bind fun t63 => if t63 < 0 then none else if t63 = bt45.1 then (some true) else none) else none) else none) else none) else none) else none
set_option maxHeartbeats 8000000 in
set_option maxRecDepth 100000 in
theorem laws_FnExactGroupsOf.calls (k : Nat) (a0_0 : Int) (A0_1 : Option Addr) (c0_1 : Nat) (l0_1 : List (S180)) (r : Bool) (w : World) (hr0_1 : Kd.C k180 w A0_1 l0_1.length l0_1) (hc0_1 : l0_1.length ≤ c0_1) (h : laws_FnExactGroupsOf.f k a0_0 l0_1 = some r) :
    Calls Try.prog 7 #[.agg #[.int .i64 a0_0, .slice A0_1 l0_1.length c0_1]] w fun e w' => e = .returned (.bool r) ∧ Below w.heap.size w w' := by
  have hu31 := Try.underlying31
  have hu35 := Try.underlying35
  have HR0_1 := Aside0.mk hr0_1; have HC0_1 := Aside0.mk hc0_1; clear hr0_1 hc0_1
  have H := St.nil w
  unfold laws_FnExactGroupsOf.f at h
  obtain ⟨t13, A13_, h_⟩ := Option.bind_eq_some_iff.mp h; clear h; have h := h_; clear h_
  have A13 := Aside0.mk A13_; clear A13_
  try dsimp only at h
  by_cases c1_ : t13 < 0
  · rw [if_pos c1_] at h
    obtain rfl := Option.some.inj h
    have c1b := decide_eq_true c1_
    clear c1_ h
    go_enter Try.func7, Try.ntmps7
    go_wp2_with (first | ((with_reducible refine gate_dst (N := 1) rfl ?_); go_loud (refine box_event ?hg (N := 1) ?hd (cs := #[.int .i64 a0_0, .slice A0_1 l0_1.length c0_1]) (t := 31) ?hr ?_; (case hd => rfl); (case hg => rfl); (case hr => first | (go_simp; done) | (go_simp; rfl)); intro g1_ hg_ w1 hbox_ hb_; replace H := St.box H hg_ hbox_ hb_; clear hg_ hbox_ hb_; have hczb1_0 : w1.cell? ⟨g1_, 0, none⟩ = some (.int .i64 a0_0) := (blk_cell (St.getB H 0 rfl ⟨0, rfl⟩) 0).trans rfl; have hfzb1_0 : w1.frozen? ⟨g1_, 0, none⟩ = false := blk_frozen (St.getB H 0 rfl ⟨0, rfl⟩) 0; have hczb1_1 : w1.cell? ⟨g1_, 1, none⟩ = some (.slice A0_1 l0_1.length c0_1) := (blk_cell (St.getB H 0 rfl ⟨0, rfl⟩) 1).trans rfl; have hfzb1_1 : w1.frozen? ⟨g1_, 1, none⟩ = false := blk_frozen (St.getB H 0 rfl ⟨0, rfl⟩) 1)) | ((with_reducible refine gate_dst (N := 13) rfl ?_); go_loud (clear hczb1_0 hfzb1_0 hczb1_1 hfzb1_1; refine goesL_ (some 13) rfl rfl Try.func20 (by kernel_rfl) rfl #[.agg #[.int .i64 a0_0, .slice A0_1 l0_1.length c0_1], .int .i64 1048576] rfl (by (try simp only [List.map_toArray, List.map_cons, List.map_nil]); first | done | rfl) ?_; refine (laws_szForest.calls (hr0_1 := Kd.C_below HR0_1.out (St.lift H).below) (hc0_1 := HC0_1.out) (h := A13.out)).mono ?_; rintro e w13 ⟨rfl, hb_⟩; refine ⟨_, rfl, ?_⟩; replace H := St.call H hb_; clear hb_; have hczb1_0 : w13.cell? ⟨g1_, 0, none⟩ = some (.int .i64 a0_0) := (blk_cell (St.getB H 0 rfl ⟨0, rfl⟩) 0).trans rfl; have hfzb1_0 : w13.frozen? ⟨g1_, 0, none⟩ = false := blk_frozen (St.getB H 0 rfl ⟨0, rfl⟩) 0; have hczb1_1 : w13.cell? ⟨g1_, 1, none⟩ = some (.slice A0_1 l0_1.length c0_1) := (blk_cell (St.getB H 0 rfl ⟨0, rfl⟩) 1).trans rfl; have hfzb1_1 : w13.frozen? ⟨g1_, 1, none⟩ = false := blk_frozen (St.getB H 0 rfl ⟨0, rfl⟩) 1)))
    go_ret
    exact ⟨by first | rfl | (simp; done), (St.lift H).below⟩
  rw [if_neg c1_] at h; have c1b := decide_eq_false c1_
  clear c1_
  obtain ⟨⟨t17_1, t17_2⟩, A17_, h_⟩ := Option.bind_eq_some_iff.mp h; clear h; have h := h_; clear h_
  have A17 := Aside0.mk A17_; clear A17_
  try dsimp only at h
  obtain ⟨t18, A18_, h_⟩ := Option.bind_eq_some_iff.mp h; clear h; have h := h_; clear h_
  have A18 := Aside0.mk A18_; clear A18_
  try dsimp only at h
  obtain ⟨⟨t20_1, t20_2⟩, A20_, h_⟩ := Option.bind_eq_some_iff.mp h; clear h; have h := h_; clear h_
  have A20 := Aside0.mk A20_; clear A20_
  try dsimp only at h
  obtain ⟨t22, A22_, h_⟩ := Option.bind_eq_some_iff.mp h; clear h; have h := h_; clear h_
  have A22 := Aside0.mk A22_; clear A22_
  try dsimp only at h
  obtain ⟨t25, A25_, h_⟩ := Option.bind_eq_some_iff.mp h; clear h; have h := h_; clear h_
  have A25 := Aside0.mk A25_; clear A25_
  try dsimp only at h
  obtain ⟨c2_, h_⟩ := iteP_ h; clear h; have h := h_; clear h_; subst c2_
  obtain ⟨⟨t29_1, t29_2⟩, A29_, h_⟩ := Option.bind_eq_some_iff.mp h; clear h; have h := h_; clear h_
  have A29 := Aside0.mk A29_; clear A29_
  try dsimp only at h
  obtain ⟨t30, A30_, h_⟩ := Option.bind_eq_some_iff.mp h; clear h; have h := h_; clear h_
  have A30 := Aside0.mk A30_; clear A30_
  try dsimp only at h
  obtain ⟨c3_, h_⟩ := iteP_ h; clear h; have h := h_; clear h_; subst c3_
  obtain ⟨⟨t34_1, t34_2⟩, A34_, h_⟩ := Option.bind_eq_some_iff.mp h; clear h; have h := h_; clear h_
  have A34 := Aside0.mk A34_; clear A34_
  try dsimp only at h
  obtain ⟨t40, A40_, h_⟩ := Option.bind_eq_some_iff.mp h; clear h; have h := h_; clear h_
  have A40 := Aside0.mk A40_; clear A40_
  try dsimp only at h
  obtain ⟨c4_, h_⟩ := iteN_ h; clear h; have h := h_; clear h_; have c4b := decide_eq_false c4_; clear c4_
  obtain ⟨c5_, h_⟩ := iteP_ h; clear h; have h := h_; clear h_; subst c5_
  obtain ⟨⟨t45_1, t45_2⟩, A45_, h_⟩ := Option.bind_eq_some_iff.mp h; clear h; have h := h_; clear h_
  have A45 := Aside0.mk A45_; clear A45_
  try dsimp only at h
  obtain ⟨t48, A48_, h_⟩ := Option.bind_eq_some_iff.mp h; clear h; have h := h_; clear h_
  have A48 := Aside0.mk A48_; clear A48_
  try dsimp only at h
  obtain ⟨c6_, h_⟩ := iteN_ h; clear h; have h := h_; clear h_; have c6b := decide_eq_false c6_; clear c6_
  obtain ⟨c7_, h_⟩ := iteP_ h; clear h; have h := h_; clear h_; have c7b : (t48 != t45_1) = false := by simpa using c7_
  have c7d : decide (t48 = t45_1) = true := by simpa using c7_
  have c7e : (t48 == t45_1) = true := by simpa using c7_
  clear c7_
  obtain ⟨⟨t55_1, t55_2⟩, A55_, h_⟩ := Option.bind_eq_some_iff.mp h; clear h; have h := h_; clear h_
  have A55 := Aside0.mk A55_; clear A55_
  try dsimp only at h
  obtain ⟨t56, A56_, h_⟩ := Option.bind_eq_some_iff.mp h; clear h; have h := h_; clear h_
  have A56 := Aside0.mk A56_; clear A56_
  try dsimp only at h
  obtain ⟨t59, A59_, h_⟩ := Option.bind_eq_some_iff.mp h; clear h; have h := h_; clear h_
  have A59 := Aside0.mk A59_; clear A59_
  try dsimp only at h
  obtain ⟨c8_, h_⟩ := iteP_ h; clear h; have h := h_; clear h_; subst c8_
  obtain ⟨t63, A63_, h_⟩ := Option.bind_eq_some_iff.mp h; clear h; have h := h_; clear h_
  have A63 := Aside0.mk A63_; clear A63_
  try dsimp only at h
  obtain ⟨c9_, h_⟩ := iteN_ h; clear h; have h := h_; clear h_; have c9b := decide_eq_false c9_; clear c9_
  obtain ⟨c10_, h_⟩ := iteP_ h; clear h; have h := h_; clear h_; have c10b : (t63 != t45_1) = false := by simpa using c10_
  have c10d : decide (t63 = t45_1) = true := by simpa using c10_
  have c10e : (t63 == t45_1) = true := by simpa using c10_
  clear c10_
  obtain rfl := Option.some.inj h; clear h
  go_enter Try.func7, Try.ntmps7
  go_wp2_with (first | ((with_reducible refine gate_dst (N := 1) rfl ?_); go_loud (refine box_event ?hg (N := 1) ?hd (cs := #[.int .i64 a0_0, .slice A0_1 l0_1.length c0_1]) (t := 31) ?hr ?_; (case hd => rfl); (case hg => rfl); (case hr => first | (go_simp; done) | (go_simp; rfl)); intro g1_ hg_ w1 hbox_ hb_; replace H := St.box H hg_ hbox_ hb_; clear hg_ hbox_ hb_; have hczb1_0 : w1.cell? ⟨g1_, 0, none⟩ = some (.int .i64 a0_0) := (blk_cell (St.getB H 0 rfl ⟨0, rfl⟩) 0).trans rfl; have hfzb1_0 : w1.frozen? ⟨g1_, 0, none⟩ = false := blk_frozen (St.getB H 0 rfl ⟨0, rfl⟩) 0; have hczb1_1 : w1.cell? ⟨g1_, 1, none⟩ = some (.slice A0_1 l0_1.length c0_1) := (blk_cell (St.getB H 0 rfl ⟨0, rfl⟩) 1).trans rfl; have hfzb1_1 : w1.frozen? ⟨g1_, 1, none⟩ = false := blk_frozen (St.getB H 0 rfl ⟨0, rfl⟩) 1)) | ((with_reducible refine gate_dst (N := 13) rfl ?_); go_loud (clear hczb1_0 hfzb1_0 hczb1_1 hfzb1_1; refine goesL_ (some 13) rfl rfl Try.func20 (by kernel_rfl) rfl #[.agg #[.int .i64 a0_0, .slice A0_1 l0_1.length c0_1], .int .i64 1048576] rfl (by (try simp only [List.map_toArray, List.map_cons, List.map_nil]); first | done | rfl) ?_; refine (laws_szForest.calls (hr0_1 := Kd.C_below HR0_1.out (St.lift H).below) (hc0_1 := HC0_1.out) (h := A13.out)).mono ?_; rintro e w13 ⟨rfl, hb_⟩; refine ⟨_, rfl, ?_⟩; replace H := St.call H hb_; clear hb_; have hczb1_0 : w13.cell? ⟨g1_, 0, none⟩ = some (.int .i64 a0_0) := (blk_cell (St.getB H 0 rfl ⟨0, rfl⟩) 0).trans rfl; have hfzb1_0 : w13.frozen? ⟨g1_, 0, none⟩ = false := blk_frozen (St.getB H 0 rfl ⟨0, rfl⟩) 0; have hczb1_1 : w13.cell? ⟨g1_, 1, none⟩ = some (.slice A0_1 l0_1.length c0_1) := (blk_cell (St.getB H 0 rfl ⟨0, rfl⟩) 1).trans rfl; have hfzb1_1 : w13.frozen? ⟨g1_, 1, none⟩ = false := blk_frozen (St.getB H 0 rfl ⟨0, rfl⟩) 1)) | ((with_reducible refine gate_dst (N := 17) rfl ?_); go_loud (clear hczb1_0 hfzb1_0 hczb1_1 hfzb1_1; refine goesL_ (some 17) rfl rfl Try.func22 (by kernel_rfl) rfl #[.agg #[.int .i64 a0_0, .slice A0_1 l0_1.length c0_1]] rfl (by (try simp only [List.map_toArray, List.map_cons, List.map_nil]); first | done | rfl) ?_; refine (laws_toForest.calls (hr0_1 := Kd.C_below HR0_1.out (St.lift H).below) (hc0_1 := HC0_1.out) (h := A17.out)).mono ?_; rintro e w17 ⟨v1x17, rfl, ho_, hb_⟩; refine ⟨_, rfl, ?_⟩; obtain ⟨ok17_, a17_, cc17_, rfl, kc17_, H_⟩ := St.callR H hb_ ho_; clear H hb_ ho_; have H := H_; clear H_)) | ((with_reducible refine gate_dst (N := 18) rfl ?_); go_loud (refine goesL_ (some 18) rfl rfl Try.func35 (by kernel_rfl) rfl #[.agg #[.int .i64 t17_1, .slice a17_ t17_2.length cc17_]] rfl (by (try simp only [List.map_toArray, List.map_cons, List.map_nil]); first | done | rfl) ?_; refine (spec_GroupsOf.calls (hr0_1 := (Kd.R_reads' (St.getR H 0 rfl)).2.2) (hc0_1 := kc17_.out) (h := A18.out)).mono ?_; rintro e w18 ⟨v0x18, rfl, ho_, hb_⟩; refine ⟨_, rfl, ?_⟩; obtain ⟨ok18_, a18_, cc18_, rfl, kc18_, H_⟩ := St.callS H hb_ ho_; clear H hb_ ho_; have H := H_; clear H_; replace H := St.drop H 1; (try dsimp only [put, cutAt] at H); have hczb1_0 : w18.cell? ⟨g1_, 0, none⟩ = some (.int .i64 a0_0) := (blk_cell (St.getB H 1 rfl ⟨0, rfl⟩) 0).trans rfl; have hfzb1_0 : w18.frozen? ⟨g1_, 0, none⟩ = false := blk_frozen (St.getB H 1 rfl ⟨0, rfl⟩) 0; have hczb1_1 : w18.cell? ⟨g1_, 1, none⟩ = some (.slice A0_1 l0_1.length c0_1) := (blk_cell (St.getB H 1 rfl ⟨0, rfl⟩) 1).trans rfl; have hfzb1_1 : w18.frozen? ⟨g1_, 1, none⟩ = false := blk_frozen (St.getB H 1 rfl ⟨0, rfl⟩) 1)) | ((with_reducible refine gate_dst (N := 20) rfl ?_); go_loud (clear hczb1_0 hfzb1_0 hczb1_1 hfzb1_1; refine goesL_ (some 20) rfl rfl Try.func22 (by kernel_rfl) rfl #[.agg #[.int .i64 a0_0, .slice A0_1 l0_1.length c0_1]] rfl (by (try simp only [List.map_toArray, List.map_cons, List.map_nil]); first | done | rfl) ?_; refine (laws_toForest.calls (hr0_1 := Kd.C_below HR0_1.out (St.lift H).below) (hc0_1 := HC0_1.out) (h := A20.out)).mono ?_; rintro e w20 ⟨v1x20, rfl, ho_, hb_⟩; refine ⟨_, rfl, ?_⟩; obtain ⟨ok20_, a20_, cc20_, rfl, kc20_, H_⟩ := St.callR H hb_ ho_; clear H hb_ ho_; have H := H_; clear H_)) | ((with_reducible refine gate_dst (N := 5) rfl ?_); go_loud (refine box_event ?hg (N := 5) ?hd (cs := #[.int .i64 0, .slice none 0 0]) (t := 35) ?hr ?_; (case hd => rfl); (case hg => rfl); (case hr => first | (go_simp; done) | (go_simp; rfl)); intro g5_ hg_ w5 hbox_ hb_; replace H := St.box H hg_ hbox_ hb_; clear hg_ hbox_ hb_; have hczb5_0 : w5.cell? ⟨g5_, 0, none⟩ = some (.int .i64 0) := (blk_cell (St.getB H 0 rfl ⟨0, rfl⟩) 0).trans rfl; have hfzb5_0 : w5.frozen? ⟨g5_, 0, none⟩ = false := blk_frozen (St.getB H 0 rfl ⟨0, rfl⟩) 0; have hczb5_1 : w5.cell? ⟨g5_, 1, none⟩ = some (.slice none 0 0) := (blk_cell (St.getB H 0 rfl ⟨0, rfl⟩) 1).trans rfl; have hfzb5_1 : w5.frozen? ⟨g5_, 1, none⟩ = false := blk_frozen (St.getB H 0 rfl ⟨0, rfl⟩) 1)) | ((with_reducible refine gate_dst (N := 22) rfl ?_); go_loud (clear hczb5_0 hfzb5_0 hczb5_1 hfzb5_1; refine St.abs ?_; intro w22p_ hwp_; have hlo_ := St.lowB H 0 rfl; have hkp_ : KeepBut w5 w22p_ g5_ none := (by rw [hwp_]; repeat (first | exact KeepBut.refl _ _ _ | apply keep_drewN | apply KeepBut.set_)); have hbx_ : w22p_.heap[g5_]? = some (.cells #[.int .i64 t20_1, .slice a20_ t20_2.length cc20_] 35 (0, 0)) := (by rw [hwp_]; (with_reducible repeat refine blk_drewN ?_ _); refine blk_put (cs := #[.int .i64 t20_1, .slice none 0 0]) ?_ 1 _ rfl; (with_reducible repeat refine blk_drewN ?_ _); refine blk_put (cs := #[.int .i64 0, .slice none 0 0]) ?_ 0 _ rfl; (with_reducible repeat refine blk_drewN ?_ _); exact St.getB H 0 rfl ⟨0, rfl⟩); have hbl_ : Below w.heap.size w w22p_ := (by rw [hwp_]; repeat (first | exact H.out.below | apply pw_below_drewN | refine below_set ?_ hlo_)); replace H := St.store H 0 rfl hkp_ hbx_ hbl_; (try dsimp only [put, cutAt] at H); clear hkp_ hbx_ hbl_ hlo_ hwp_; refine goesL_ (some 22) rfl rfl Try.func33 (by kernel_rfl) rfl #[.agg #[.int .i64 t20_1, .slice a20_ t20_2.length cc20_]] rfl (by (try simp only [List.map_toArray, List.map_cons, List.map_nil]); first | done | rfl) ?_; refine (impl_GroupsOf.calls (hr0_1 := (Kd.R_reads' (St.getR H 1 rfl)).2.2) (hc0_1 := kc20_.out) (h := A22.out)).mono ?_; rintro e w22 ⟨v0x22, rfl, ho_, hb_⟩; refine ⟨_, rfl, ?_⟩; obtain ⟨ok22_, a22_, cc22_, rfl, kc22_, H_⟩ := St.callS H hb_ ho_; clear H hb_ ho_; have H := H_; clear H_)) | ((with_reducible refine gate_dst (N := 25) rfl ?_); go_loud (refine goesL_ (some 25) rfl rfl Try.func36 (by kernel_rfl) rfl #[.slice a22_ t22.length cc22_, .slice a18_ t18.length cc18_] rfl (by (try simp only [List.map_toArray, List.map_cons, List.map_nil]); first | done | rfl) ?_; refine (laws_eqInt64SS.calls (hr0 := (Kd.S_reads' (St.getS H 0 rfl)).2.2) (hc0 := kc22_.out) (hr1 := (Kd.S_reads' (St.getS H 3 rfl)).2.2) (hc1 := kc18_.out) (h := A25.out)).mono ?_; rintro e w25 ⟨rfl, hb_⟩; replace hb_ := hb_.below; refine ⟨_, rfl, ?_⟩; replace H := St.call H hb_; clear hb_)))
  refine St.start (n := 5) (S := fun w' => w'.cell? ⟨g5_, 0, none⟩ = some (.int .i64 t20_1) ∧ w'.cell? ⟨g5_, 1, none⟩ = some (.slice a20_ t20_2.length cc20_) ∧ w'.cell? ⟨g1_, 0, none⟩ = some (.int .i64 a0_0) ∧ w'.cell? ⟨g1_, 1, none⟩ = some (.slice A0_1 l0_1.length c0_1)) (ds := []) #[false, false, false, false, false] (by kernel_rfl) rfl rfl (fun wr10 hwp_ => ?_)
  replace H := St.call H (show Below w25.heap.size w25 wr10 from (by rw [hwp_]; repeat (first | exact Below.refl _ _ | apply pw_below_drewN | apply below_drew1))) ⟨0, rfl⟩; clear hwp_
  refine ⟨⟨(blk_cell (St.getB H 1 rfl ⟨0, rfl⟩) 0).trans rfl, (blk_cell (St.getB H 1 rfl ⟨0, rfl⟩) 1).trans rfl, (blk_cell (St.getB H 4 rfl ⟨0, rfl⟩) 0).trans rfl, (blk_cell (St.getB H 4 rfl ⟨0, rfl⟩) 1).trans rfl⟩, fun hHeld => ?_⟩
  refine take_ (i := 0) (N := some 27) (v := ?_) (a' := ?_) #[true, false, false, false, false] rfl rfl (by kernel_rfl) (fun _ _ _ h => h) (Or.inl ⟨by rfl, ?_⟩) hHeld ?_ ?_
  rotate_left
  · rintro w' ⟨s0, s1, s2, s3⟩
    go_simp
    with_reducible rfl
  rotate_left
  · simp only [Act.put, List.setIfInBounds_toArray, List.set_cons_zero, List.set_cons_succ, i64_w, i32_w]
    rfl
  refine take_ (i := 1) (N := some 28) (v := ?_) (a' := ?_) #[true, true, false, false, false] rfl rfl (by kernel_rfl) (fun _ _ _ h => h) (Or.inl ⟨by rfl, ?_⟩) hHeld ?_ ?_
  rotate_left
  · rintro w' ⟨s0, s1, s2, s3⟩
    go_simp
    with_reducible rfl
  rotate_left
  · simp only [Act.put, List.setIfInBounds_toArray, List.set_cons_zero, List.set_cons_succ, i64_w, i32_w]
    rfl
  refine one_ (i := 2) (N := some 29) #[true, true, true, false, false] rfl rfl (by kernel_rfl) (by decide) (fun K hK => ?_)
  refine goes_ Try.func22 (by kernel_rfl) rfl #[.agg #[.int .i64 a0_0, .slice A0_1 l0_1.length c0_1]] (by rfl) rfl rfl (by (try simp only [List.map_toArray, List.map_cons, List.map_nil]); first | done | rfl) ?_
  refine (laws_toForest.calls (hr0_1 := Kd.C_below HR0_1.out (St.lift H).below) (hc0_1 := HC0_1.out) (h := A29.out)).mono ?_
  rintro e wq10_1 ⟨v1x29, rfl, ho_, hb_⟩
  refine ⟨_, rfl, ?_⟩
  obtain ⟨ok29_, a29_, cc29_, rfl, kc29_, H_⟩ := St.callR H hb_ ho_; clear H hb_ ho_; have H := H_; clear H_
  refine hK.out _ _ ⟨(blk_cell (St.getB H 2 rfl ⟨0, rfl⟩) 0).trans rfl, (blk_cell (St.getB H 2 rfl ⟨0, rfl⟩) 1).trans rfl, (blk_cell (St.getB H 5 rfl ⟨0, rfl⟩) 0).trans rfl, (blk_cell (St.getB H 5 rfl ⟨0, rfl⟩) 1).trans rfl⟩ (fun hHeld => ?_)
  clear hK K
  refine norm_ (a' := ?_) ?_ ?_
  rotate_left
  · show Act.put _ (some 29) _ = _
    simp only [Act.put, List.setIfInBounds_toArray, List.set_cons_zero, List.set_cons_succ, i64_w, i32_w]
    rfl
  refine one_ (i := 3) (N := some 30) #[true, true, true, true, false] rfl rfl (by kernel_rfl) (by decide) (fun K hK => ?_)
  refine goes_ Try.func24 (by kernel_rfl) rfl #[.agg #[.int .i64 t20_1, .slice a20_ t20_2.length cc20_], .agg #[.int .i64 t29_1, .slice a29_ t29_2.length cc29_]] (by rfl) rfl rfl (by (try simp only [List.map_toArray, List.map_cons, List.map_nil]); first | done | rfl) ?_
  refine (laws_eqForest.calls (hr0_1 := (Kd.R_reads' (St.getR H 3 rfl)).2.2) (hc0_1 := kc20_.out) (hr1_1 := (Kd.R_reads' (St.getR H 0 rfl)).2.2) (hc1_1 := kc29_.out) (h := A30.out)).mono ?_
  rintro e wq10_2 ⟨rfl, hb_⟩
  refine ⟨_, rfl, ?_⟩
  replace H := St.call H hb_; clear hb_
  refine hK.out _ _ ⟨(blk_cell (St.getB H 2 rfl ⟨0, rfl⟩) 0).trans rfl, (blk_cell (St.getB H 2 rfl ⟨0, rfl⟩) 1).trans rfl, (blk_cell (St.getB H 5 rfl ⟨0, rfl⟩) 0).trans rfl, (blk_cell (St.getB H 5 rfl ⟨0, rfl⟩) 1).trans rfl⟩ (fun hHeld => ?_)
  clear hK K
  refine norm_ (a' := ?_) ?_ ?_
  rotate_left
  · show Act.put _ (some 30) _ = _
    simp only [Act.put, List.setIfInBounds_toArray, List.set_cons_zero, List.set_cons_succ, i64_w, i32_w]
    rfl
  refine pure_ (i := 4) (N := some 31) (v := ?_) (a' := ?_) #[true, true, true, true, true] rfl rfl (by kernel_rfl) (fun _ _ _ h => h) (Or.inl ⟨by rfl, ?_⟩) ?_ ?_
  rotate_left
  · intro w'
    go_simp
    with_reducible rfl
  rotate_left
  · simp only [Act.put, List.setIfInBounds_toArray, List.set_cons_zero, List.set_cons_succ, i64_w, i32_w]
    rfl
  refine done_ (by kernel_rfl) ?_
  clear hHeld
  replace H := St.drop H 0
  (try dsimp only [put, cutAt] at H)
  have hczb5_0 : wq10_2.cell? ⟨g5_, 0, none⟩ = some (.int .i64 t20_1) := (blk_cell (St.getB H 1 rfl ⟨0, rfl⟩) 0).trans rfl; have hfzb5_0 : wq10_2.frozen? ⟨g5_, 0, none⟩ = false := blk_frozen (St.getB H 1 rfl ⟨0, rfl⟩) 0
  have hczb5_1 : wq10_2.cell? ⟨g5_, 1, none⟩ = some (.slice a20_ t20_2.length cc20_) := (blk_cell (St.getB H 1 rfl ⟨0, rfl⟩) 1).trans rfl; have hfzb5_1 : wq10_2.frozen? ⟨g5_, 1, none⟩ = false := blk_frozen (St.getB H 1 rfl ⟨0, rfl⟩) 1
  go_wp2_with (first | ((with_reducible refine gate_dst (N := 34) rfl ?_); go_loud (clear hczb5_0 hfzb5_0 hczb5_1 hfzb5_1; refine goesL_ (some 34) rfl rfl Try.func25 (by kernel_rfl) rfl #[.agg #[.int .i64 t20_1, .slice a20_ t20_2.length cc20_], .int .i64 1] rfl (by (try simp only [List.map_toArray, List.map_cons, List.map_nil]); first | done | rfl) ?_; refine (laws_markForest.calls (P0_1_ := ok20_) (u9000_ := .slice a20_ t20_2.length cc20_) (ho0_1 := St.getR H 2 rfl) (hB := (St.lift H).below) (h := A34.out)).mono ?_; rintro e w34 ⟨rfl, hs_, hb_, hk_⟩; refine ⟨_, rfl, ?_⟩; replace H := St.markR H 2 rfl hs_ hb_ hk_; (try dsimp only [put, cutAt] at H); clear hs_ hb_ hk_; replace H := St.drop H 1; replace H := St.drop H 1; (try dsimp only [put, cutAt] at H))) | ((with_reducible refine gate_dst (N := 45) rfl ?_); go_loud (refine goesL_ (some 45) rfl rfl Try.func37 (by kernel_rfl) rfl #[.slice a22_ t22.length cc22_, .int .i64 1] rfl (by (try simp only [List.map_toArray, List.map_cons, List.map_nil]); first | done | rfl) ?_; refine (laws_markInt64SS.calls (P0_ := ok22_) (u9000_ := .slice a22_ t22.length cc22_) (ho0 := St.getS H 0 rfl) (hB := (St.lift H).below) (h := A45.out)).mono ?_; rintro e w45 ⟨rfl, hs_, hb_, hk_⟩; refine ⟨_, rfl, ?_⟩; replace H := St.markS H 0 rfl hs_ hb_ hk_; (try dsimp only [put, cutAt] at H); have e_ := (Kd.S_reads' hs_).1; have kc22_m := Aside0.mk (Kd.S_reads' hs_).2.1; rw [e_] at H kc22_m; obtain ⟨ok22_m, H_⟩ : ∃ ok_, Aside0 (St w w45 [Ob.S w (Kd.slice 2 (Kd.int .i64)) 55 ok_ (.slice a22_ t45_2.length cc22_) t45_2, Ob.S w (Kd.slice 2 (Kd.int .i64)) 55 ok18_ (.slice a18_ t18.length cc18_) t18, Ob.B g1_ (.cells #[.int .i64 a0_0, .slice A0_1 l0_1.length c0_1] 31 (0, 0))]) := ⟨_, H⟩; clear H; have H := H_; clear H_; clear hs_ hb_ hk_; (rw [e_]); clear e_)) | ((with_reducible refine gate_dst (N := 48) rfl ?_); go_loud (refine goesL_ (some 48) rfl rfl Try.func38 (by kernel_rfl) rfl #[.slice a22_ t45_2.length cc22_, .int .i64 1] rfl (by (try simp only [List.map_toArray, List.map_cons, List.map_nil]); first | done | rfl) ?_; refine (laws_heldInt64SS.calls (hr0 := (Kd.S_reads' (St.getS H 0 rfl)).2.2) (hc0 := kc22_m.out) (h := A48.out)).mono ?_; rintro e w48 ⟨rfl, hb_⟩; replace hb_ := hb_.below; refine ⟨_, rfl, ?_⟩; replace H := St.call H hb_; clear hb_; have hczb1_0 : w48.cell? ⟨g1_, 0, none⟩ = some (.int .i64 a0_0) := (blk_cell (St.getB H 2 rfl ⟨0, rfl⟩) 0).trans rfl; have hfzb1_0 : w48.frozen? ⟨g1_, 0, none⟩ = false := blk_frozen (St.getB H 2 rfl ⟨0, rfl⟩) 0; have hczb1_1 : w48.cell? ⟨g1_, 1, none⟩ = some (.slice A0_1 l0_1.length c0_1) := (blk_cell (St.getB H 2 rfl ⟨0, rfl⟩) 1).trans rfl; have hfzb1_1 : w48.frozen? ⟨g1_, 1, none⟩ = false := blk_frozen (St.getB H 2 rfl ⟨0, rfl⟩) 1)) | ((with_reducible refine gate_dst (N := 55) rfl ?_); go_loud (clear hczb1_0 hfzb1_0 hczb1_1 hfzb1_1; refine goesL_ (some 55) rfl rfl Try.func22 (by kernel_rfl) rfl #[.agg #[.int .i64 a0_0, .slice A0_1 l0_1.length c0_1]] rfl (by (try simp only [List.map_toArray, List.map_cons, List.map_nil]); first | done | rfl) ?_; refine (laws_toForest.calls (hr0_1 := Kd.C_below HR0_1.out (St.lift H).below) (hc0_1 := HC0_1.out) (h := A55.out)).mono ?_; rintro e w55 ⟨v1x55, rfl, ho_, hb_⟩; refine ⟨_, rfl, ?_⟩; obtain ⟨ok55_, a55_, cc55_, rfl, kc55_, H_⟩ := St.callR H hb_ ho_; clear H hb_ ho_; have H := H_; clear H_; replace H := St.drop H 3; (try dsimp only [put, cutAt] at H))) | ((with_reducible refine gate_dst (N := 56) rfl ?_); go_loud (refine goesL_ (some 56) rfl rfl Try.func33 (by kernel_rfl) rfl #[.agg #[.int .i64 t55_1, .slice a55_ t55_2.length cc55_]] rfl (by (try simp only [List.map_toArray, List.map_cons, List.map_nil]); first | done | rfl) ?_; refine (impl_GroupsOf.calls (hr0_1 := (Kd.R_reads' (St.getR H 0 rfl)).2.2) (hc0_1 := kc55_.out) (h := A56.out)).mono ?_; rintro e w56 ⟨v0x56, rfl, ho_, hb_⟩; refine ⟨_, rfl, ?_⟩; obtain ⟨ok56_, a56_, cc56_, rfl, kc56_, H_⟩ := St.callS H hb_ ho_; clear H hb_ ho_; have H := H_; clear H_; replace H := St.drop H 1; (try dsimp only [put, cutAt] at H))) | ((with_reducible refine gate_dst (N := 59) rfl ?_); go_loud (refine goesL_ (some 59) rfl rfl Try.func36 (by kernel_rfl) rfl #[.slice a56_ t56.length cc56_, .slice a18_ t18.length cc18_] rfl (by (try simp only [List.map_toArray, List.map_cons, List.map_nil]); first | done | rfl) ?_; refine (laws_eqInt64SS.calls (hr0 := (Kd.S_reads' (St.getS H 0 rfl)).2.2) (hc0 := kc56_.out) (hr1 := (Kd.S_reads' (St.getS H 2 rfl)).2.2) (hc1 := kc18_.out) (h := A59.out)).mono ?_; rintro e w59 ⟨rfl, hb_⟩; replace hb_ := hb_.below; refine ⟨_, rfl, ?_⟩; replace H := St.call H hb_; clear hb_; replace H := St.drop H 0; replace H := St.drop H 1; (try dsimp only [put, cutAt] at H))) | ((with_reducible refine gate_dst (N := 63) rfl ?_); go_loud (refine goesL_ (some 63) rfl rfl Try.func38 (by kernel_rfl) rfl #[.slice a22_ t45_2.length cc22_, .int .i64 1] rfl (by (try simp only [List.map_toArray, List.map_cons, List.map_nil]); first | done | rfl) ?_; refine (laws_heldInt64SS.calls (hr0 := (Kd.S_reads' (St.getS H 0 rfl)).2.2) (hc0 := kc22_m.out) (h := A63.out)).mono ?_; rintro e w63 ⟨rfl, hb_⟩; replace hb_ := hb_.below; refine ⟨_, rfl, ?_⟩; replace H := St.call H hb_; clear hb_; replace H := St.drop H 0; (try dsimp only [put, cutAt] at H))) | (go_at_call 36; go_loud (refine (laws_eqInt64SS.calls (hr0 := (Kd.S_reads' (St.getS H 0 rfl)).2.2) (hc0 := kc22_.out) (hr1 := (Kd.S_reads' (St.getS H 1 rfl)).2.2) (hc1 := kc18_.out) (h := A40.out)).mono ?_; rintro e w40 ⟨rfl, hb_⟩; replace hb_ := hb_.below; replace H := St.call H hb_; clear hb_)))
  go_ret
  exact ⟨by first | rfl | (simp; done), (St.lift H).below⟩

end Go.Proofs.Ytkjlplcdjdenkaa.PFnExactGroupsOf
