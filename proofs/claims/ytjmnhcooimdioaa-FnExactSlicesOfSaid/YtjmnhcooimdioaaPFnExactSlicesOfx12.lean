-- Written by a program of this session (lawx3.sh, lawwalk3.py); Lean checks it.
import Derived.Test.YtjmnhcooimdioaaPFnExactSlicesOfx0
import Derived.Test.YtjmnhcooimdioaaPFnExactSlicesOfx1
import Derived.Test.YtjmnhcooimdioaaPFnExactSlicesOfx2
import Derived.Test.YtjmnhcooimdioaaPFnExactSlicesOfx3
import Derived.Test.YtjmnhcooimdioaaPFnExactSlicesOfx4
import Derived.Test.YtjmnhcooimdioaaPFnExactSlicesOfx5
import Derived.Test.YtjmnhcooimdioaaPFnExactSlicesOfx6
import Derived.Test.YtjmnhcooimdioaaPFnExactSlicesOfx7
import Derived.Test.YtjmnhcooimdioaaPFnExactSlicesOfx8
import Derived.Test.YtjmnhcooimdioaaPFnExactSlicesOfx9
import Derived.Test.YtjmnhcooimdioaaPFnExactSlicesOfx10
import Derived.Test.YtjmnhcooimdioaaPFnExactSlicesOfx11
import Derived.Test.YtjmnhcooimdioaaLaw
namespace Go.Proofs.Ytjmnhcooimdioaa.PFnExactSlicesOf
open Go.RowKit Go.Proofs.YtjmnhcooimdioaaW.PrintWords Go.Proofs.YtjmnhcooimdioaaW.PrintLast Go.Proofs.YtjmnhcooimdioaaW.PrintMore
attribute [local go_sem] max2_int min2_int max_two min_two max_three min_three max_four min_four   -- for this text's walks alone
set_option linter.unusedVariables false
set_option linter.unusedSimpArgs false

/-! ### laws_markInt64SS: function 92 -/
def laws_markInt64SS.l0 : Nat → List (List Int) → Int → Int → Option (Int × (List (List Int)))
  | 0, _, _, _ => none
  | k + 1, x0, x1, x5 => if x5 < (x0.length : Int) then (if 0 ≤ x5 then ((laws_markInt64S.f k (rd_L5 x0 x5) x1).bind fun t => laws_markInt64SS.l0 k (x0.set (x5 : Int).toNat t.2) t.1 (wrap64 (x5 + 1))) else none) else some (x1, x0)
def laws_markInt64SS.f (k : Nat) (l0 : List (List Int)) (a1 : Int) : Option (Int × (List (List Int))) := laws_markInt64SS.l0 k l0 a1 0
set_option maxHeartbeats 8000000 in
set_option maxRecDepth 100000 in
theorem laws_markInt64SS.calls (k : Nat) (P0_ : Nat → Prop) (u9000_ : Value) (l0 : List (List Int)) (a1 : Int) (r1 : Int) (r2 : List (List Int)) (w0 w : World) (hB : Below w0.heap.size w0 w) (ho0 : Kd.S (Kd.slice 2 (Kd.int .i64)) 25 w w0.heap.size P0_ u9000_ l0) (h : laws_markInt64SS.f k l0 a1 = some (r1, r2)) :
    Calls Try.prog 92 #[u9000_, .int .i64 a1] w fun e w' => e = .returned (.int .i64 r1) ∧ Kd.S (Kd.slice 2 (Kd.int .i64)) 25 w' w0.heap.size (fun k_ => (P0_ k_ ∨ w.heap.size ≤ k_)) u9000_ r2 ∧ Below w0.heap.size w0 w' ∧ Kept w w' (fun k_ => P0_ k_) := by
  have HO0 := Aside0.mk (show Kd.S (Kd.slice 2 (Kd.int .i64)) 25 w w0.heap.size (fun k_ => (P0_ k_ ∨ w.heap.size ≤ k_)) u9000_ l0 from Kd.S_mono ho0 (fun k_ hk => (.inl hk)))
  have HK := Aside0.mk (Kept.refl w (fun k_ => P0_ k_))
  have HB := Aside0.mk hB
  clear hB
  have H : (laws_markInt64SS.l0 k l0 a1 0) = some (r1, r2) := h
  clear h
  have H' := Aside0.mk H
  clear H
  go_enter Try.func92, Try.ntmps92
  go_wp2
  go_loopg [1, 5] k (fun kq v1 v5 w' => ∃ (x0_1 : List (List Int)) (x1_1 : Int) (x5_1 : Int), v1 = .int .i64 x1_1 ∧ v5 = .int .i64 x5_1 ∧ Aside0 (laws_markInt64SS.l0 kq x0_1 x1_1 x5_1 = some (r1, r2)) ∧ Aside0 (kq ≤ k) ∧ Aside0 (Kd.S (Kd.slice 2 (Kd.int .i64)) 25 w' w0.heap.size (fun k_ => (P0_ k_ ∨ w.heap.size ≤ k_)) u9000_ x0_1) ∧ Aside0 (Kept w w' (fun k_ => P0_ k_)) ∧ Aside0 (Below w0.heap.size w0 w'))
  case atStart => exact ⟨l0, a1, 0, (by first | rfl | (simp; done)), (by first | rfl | (simp; done)), H', ⟨Nat.le_refl _⟩, ⟨by (with_reducible repeat (first | apply Kd.S_alloc | apply Kd.S_drewN | apply Kd.S_drew)); exact HO0.out⟩, ⟨by repeat (first | (with_reducible first | exact HK.out | apply Kept.alloc | apply Kept.drewN | apply Kept.drew) | exact HK.out)⟩, ⟨by repeat (first | (with_reducible first | exact HB.out | apply below_alloc | apply pw_below_drewN | apply below_drew1) | exact HB.out)⟩⟩
  case round =>
    clear H' HO0
    obtain ⟨x0_1, x1_1, x5_1, rfl, rfl, HA, HKk, HO_0, HKq, HBq⟩ := hrel
    cases gk with
    | zero => exact absurd HA.out (by simp [laws_markInt64SS.l0])
    | succ k1 =>
      have H := HA.out
      clear HA
      simp only [laws_markInt64SS.l0] at H
      by_cases c3 : x5_1 < (x0_1.length : Int)
      · rw [if_pos c3] at H
        by_cases c5 : 0 ≤ x5_1
        · rw [if_pos c5] at H
          obtain ⟨⟨t1, t2⟩, A40, H⟩ := Option.bind_eq_some_iff.mp H
          replace H : laws_markInt64SS.l0 k1 (x0_1.set (x5_1 : Int).toNat t2) t1 (wrap64 (x5_1 + 1)) = some (r1, r2) := H
          have A4 := Aside0.mk A40
          have H' := Aside0.mk H
          clear A40 H
          obtain ⟨g, cap, rfl, hgb, hgl, cells, hgc⟩ := Kd.S_form HO_0.out (by omega)
          obtain ⟨oki, c, hcl, hM, hcc, hoki, hH⟩ := Kd.S_lend HO_0.out ([] : List Int) x5_1 c5 c3
          obtain ⟨v1, rfl, hR1⟩ := hM
          have hx0 : wr.cell? ⟨g, (x5_1 : Int).toNat, none⟩ = some v1 := by
            have h_ : wr.cell? ⟨g, (x5_1 : Int).toNat * 1 + 0, none⟩ = some v1 := hcc 0 _ rfl
            rwa [Nat.mul_one, Nat.add_zero] at h_
          have HR2 := Aside0.mk hR1
          have HH2 := Aside0.mk hH
          have HI2 := Aside0.mk hoki
          have c3b0 : decide (x5_1 < (x0_1.length : Int)) = true := decide_eq_true c3
          replace c3 := eq_true c3
          replace c5 := eq_true c5
          clear hcl hcc hH hR1 hoki hgb hgl hgc
          go_wp2_with (first | ((with_reducible refine gate_callee (f := 23) rfl ?_); refine goesL_ (some 17) rfl rfl Try.func23 (by kernel_rfl) rfl #[v1, .int .i64 x1_1] rfl (by (try simp only [List.map_toArray, List.map_cons, List.map_nil]); first | done | rfl) ?_; refine (laws_markInt64S.calls k1 oki v1 _ x1_1 t1 t2 w0 _ (by repeat (first | (with_reducible first | exact HBq.out | apply below_alloc | apply pw_below_drewN | apply below_drew1) | exact HBq.out)) (by (with_reducible repeat (first | apply Kd.R_alloc | apply Kd.R_drewN | apply Kd.R_drew)); exact HR2.out) A4.out).mono ?_; rintro e w12 ⟨rfl, hr', hb', hk'⟩; refine ⟨_, rfl, ?_⟩; have HS := Aside0.mk (Kd.H_back (Kd.H_step (Kd.H_widen HH2.out) (fun k _ hn hlt => hk'.2 k hlt (fun h => hn (.inl h)))) ⟨v1, rfl, hr'⟩ (fun k hk => hk.elim .inl (fun h => .inr ⟨.inr (Nat.le_trans HKq.out.1 h), h⟩))); have HK2 := Aside0.mk (Kept.then_ HKq.out hk' (fun k hk => (HI2.out k hk).1)); have HB2 := Aside0.mk hb'; clear hr' hb' hk' HH2 HR2 HI2 hx0))
          go_roundg k1
          case measure => have := HKk.out; omega
          case rel => exact ⟨_, _, _, (by first | rfl | (simp; done)), (by first | rfl | (simp; done)), H', ⟨by have := HKk.out; omega⟩, ⟨HS.out⟩, ⟨HK2.out⟩, ⟨HB2.out⟩⟩
        · rw [if_neg c5] at H
          exact absurd H (by simp)
      · rw [if_neg c3] at H
        have c3b0 : decide (x5_1 < (x0_1.length : Int)) = false := decide_eq_false c3
        clear c3
        simp only [Option.some.injEq, Prod.mk.injEq] at H
        obtain ⟨rfl, rfl⟩ := H
        obtain ⟨Ao14, co14, eo14⟩ := Kd.S_slice HO_0.out
        subst eo14
        go_wp2
        go_ret
        exact ⟨by first | rfl | (simp; done), HO_0.out, HBq.out, HKq.out⟩

/-! ### laws_markCuts: function 67 -/
def laws_markCuts.f (k : Nat) (l0_0 : List (List Int)) (a1 : Int) : Option (Int × (List (List Int))) := (laws_markInt64SS.f k l0_0 a1).bind fun bt => (some (bt.1, bt.2))
set_option maxHeartbeats 8000000 in
set_option maxRecDepth 100000 in
theorem laws_markCuts.calls (k : Nat) (P0_0_ : Nat → Prop) (u9000_ : Value) (l0_0 : List (List Int)) (a1 : Int) (r1 : Int) (r2 : List (List Int)) (w0 w : World) (hB : Below w0.heap.size w0 w) (ho0_0 : Kd.S (Kd.slice 2 (Kd.int .i64)) 25 w w0.heap.size P0_0_ u9000_ l0_0) (h : laws_markCuts.f k l0_0 a1 = some (r1, r2)) :
    Calls Try.prog 67 #[.agg #[u9000_], .int .i64 a1] w fun e w' => e = .returned (.int .i64 r1) ∧ Kd.S (Kd.slice 2 (Kd.int .i64)) 25 w' w0.heap.size (fun k_ => (P0_0_ k_ ∨ w.heap.size ≤ k_)) u9000_ r2 ∧ Below w0.heap.size w0 w' ∧ Kept w w' (fun k_ => P0_0_ k_) := by
  have hu90 := Try.underlying90
  have HO := Aside0.mk ho0_0
  have HB := Aside0.mk hB
  obtain ⟨⟨t1_, t2_⟩, h1_, h2_⟩ := Option.bind_eq_some_iff.mp h
  simp only [Option.some.injEq, Prod.mk.injEq] at h2_
  obtain ⟨rfl, rfl⟩ := h2_
  have A := Aside0.mk h1_
  clear h1_
  obtain ⟨Ao, co, rfl⟩ := Kd.S_slice ho0_0
  clear hB ho0_0 h
  go_enter Try.func67, Try.ntmps67
  go_wp2_with (first | ((with_reducible refine gate_dst (N := 2) rfl ?_); refine box_event ?hg (N := 2) ?hd (cs := #[.slice Ao l0_0.length co]) (t := 90) ?hr ?_; (case hd => rfl); (case hg => rfl); (case hr => first | (go_simp; done) | (go_simp; rfl)); intro gb hg w5 hbox hb; have BX := Aside0.mk hbox; have HB1 := Aside0.mk hb; have HG := Aside0.mk hg; have hcz : w5.cell? ⟨gb, 0, none⟩ = some (.slice Ao l0_0.length co) := (blk_cell hbox 0).trans rfl; have hfz := blk_frozen hbox 0; clear hbox hb hg) | ((with_reducible refine gate_dst (N := 8) rfl ?_); refine goesL_ (some 8) rfl rfl Try.func92 (by kernel_rfl) rfl #[.slice Ao l0_0.length co, .int .i64 a1] rfl (by (try simp only [List.map_toArray, List.map_cons, List.map_nil]); first | done | rfl) ?_; refine (laws_markInt64SS.calls k P0_0_ (.slice Ao l0_0.length co) l0_0 a1 t1_ t2_ w0 _ (below_step HB.out (by repeat (first | exact HB1.out | apply pw_below_drewN))) (Kd.S_below HO.out (by repeat (first | exact HB1.out | apply pw_below_drewN))) A.out).mono ?_; rintro e w7 ⟨rfl, hs, hb2, hk⟩; refine ⟨_, rfl, ?_⟩; have HS := Aside0.mk (Kd.S_mono (ok' := fun k_ => P0_0_ k_ ∨ w.heap.size ≤ k_) hs (fun k_ hk_ => hk_.imp id (Nat.le_trans HB1.out.size))); have HB2 := Aside0.mk hb2; have HK := Aside0.mk (Kept.then_ (S := fun k_ => P0_0_ k_) (Kept.of_below HB1.out _) hk (fun k_ h_ => .inl h_)); clear hs hb2 hk hcz hfz))
  go_ret
  exact ⟨by first | rfl | (simp; done), HS.out, HB2.out, HK.out⟩

/-! ### laws_FnExactSlicesOf: function 10 -/
def laws_FnExactSlicesOf.f (k : Nat) (l0 : List (S142)) (l1_0 : List (List Int)) : Option (Bool) := (laws_szDeclS.f k l0 1048576).bind fun t16 => if t16 < 0 then some true else (laws_szCuts.f k l1_0 t16).bind fun t21 => if t21 < 0 then some true else (laws_toDeclS.f k l0).bind fun t25 => (laws_toCuts.f k l1_0).bind fun t27 => (spec_SlicesOf.f k t25 t27).bind fun t28 => (laws_toDeclS.f k l0).bind fun t30 => (laws_toCuts.f k l1_0).bind fun t32 => (impl_SlicesOf.f k t30 t32).bind fun t35 => (laws_eqSliceS.f k t35 t28).bind fun t38 => if t38 = true then ((laws_toDeclS.f k l0).bind fun t42 => (laws_eqDeclS.f k t30 t42).bind fun t43 => if t43 = true then ((laws_toCuts.f k l1_0).bind fun t47 => (laws_eqCuts.f k t32 t47).bind fun t48 => if t48 = true then ((laws_markDeclS.f k t30 1).bind fun bt52 => (laws_markCuts.f k t32 bt52.1).bind fun bt55 => (laws_eqSliceS.f k t35 t28).bind fun t61 => if bt55.1 < 0 then none else if t61 = true then ((laws_markSliceS.f k t35 1).bind fun bt66 => (laws_heldSliceS.f k bt66.2 1).bind fun t69 => if t69 < 0 then none else if t69 = bt66.1 then ((laws_toDeclS.f k l0).bind fun t76 => (laws_toCuts.f k l1_0).bind fun t78 => (impl_SlicesOf.f k t76 t78).bind fun t79 => (laws_eqSliceS.f k t79 t28).bind fun t82 => if t82 = true then ((laws_heldSliceS.f k bt66.2 1).bind fun t86 => if t86 < 0 then none else if t86 = bt66.1 then (some true) else none) else none) else none) else none) else none) else none) else none
set_option maxHeartbeats 8000000 in
set_option maxRecDepth 100000 in
theorem laws_FnExactSlicesOf.calls (k : Nat) (A0 : Option Addr) (c0 : Nat) (l0 : List (S142)) (A1_0 : Option Addr) (c1_0 : Nat) (l1_0 : List (List Int)) (r : Bool) (w : World) (hr0 : Kd.C k142 w A0 l0.length l0) (hc0 : l0.length ≤ c0) (hr1_0 : Kd.C (Kd.slice 2 (Kd.int .i64)) w A1_0 l1_0.length l1_0) (hc1_0 : l1_0.length ≤ c1_0) (h : laws_FnExactSlicesOf.f k l0 l1_0 = some r) :
    Calls Try.prog 10 #[.slice A0 l0.length c0, .agg #[.slice A1_0 l1_0.length c1_0]] w fun e w' => e = .returned (.bool r) ∧ Below w.heap.size w w' := by
  have hu86 := Try.underlying86
  have hu90 := Try.underlying90
  have HR0 := Aside0.mk hr0; have HC0 := Aside0.mk hc0; clear hr0 hc0
  have HR1_0 := Aside0.mk hr1_0; have HC1_0 := Aside0.mk hc1_0; clear hr1_0 hc1_0
  have H := St.nil w
  unfold laws_FnExactSlicesOf.f at h
  obtain ⟨t16, A16_, h_⟩ := Option.bind_eq_some_iff.mp h; clear h; have h := h_; clear h_
  have A16 := Aside0.mk A16_; clear A16_
  try dsimp only at h
  by_cases c1_ : t16 < 0
  · rw [if_pos c1_] at h
    obtain rfl := Option.some.inj h
    have c1b := decide_eq_true c1_
    clear c1_ h
    go_enter Try.func10, Try.ntmps10
    go_wp2_with (first | ((with_reducible refine gate_dst (N := 3) rfl ?_); refine box_event ?hg (N := 3) ?hd (cs := #[.slice A1_0 l1_0.length c1_0]) (t := 86) ?hr ?_; (case hd => rfl); (case hg => rfl); (case hr => first | (go_simp; done) | (go_simp; rfl)); intro g3_ hg_ w3 hbox_ hb_; replace H := St.box H hg_ hbox_ hb_; clear hg_ hbox_ hb_) | ((with_reducible refine gate_dst (N := 16) rfl ?_); refine goesL_ (some 16) rfl rfl Try.func31 (by kernel_rfl) rfl #[.slice A0 l0.length c0, .int .i64 1048576] rfl (by (try simp only [List.map_toArray, List.map_cons, List.map_nil]); first | done | rfl) ?_; refine (laws_szDeclS.calls (hr0 := Kd.C_below HR0.out (St.lift H).below) (hc0 := HC0.out) (h := A16.out)).mono ?_; rintro e w16 ⟨rfl, hb_⟩; refine ⟨_, rfl, ?_⟩; replace H := St.call H hb_; clear hb_; have hczb3_0 : w16.cell? ⟨g3_, 0, none⟩ = some (.slice A1_0 l1_0.length c1_0) := (blk_cell (St.getB H 0 rfl ⟨0, rfl⟩) 0).trans rfl; have hfzb3_0 : w16.frozen? ⟨g3_, 0, none⟩ = false := blk_frozen (St.getB H 0 rfl ⟨0, rfl⟩) 0))
    go_ret
    exact ⟨by first | rfl | (simp; done), (St.lift H).below⟩
  rw [if_neg c1_] at h; have c1b := decide_eq_false c1_
  clear c1_
  obtain ⟨t21, A21_, h_⟩ := Option.bind_eq_some_iff.mp h; clear h; have h := h_; clear h_
  have A21 := Aside0.mk A21_; clear A21_
  try dsimp only at h
  by_cases c2_ : t21 < 0
  · rw [if_pos c2_] at h
    obtain rfl := Option.some.inj h
    have c2b := decide_eq_true c2_
    clear c2_ h
    go_enter Try.func10, Try.ntmps10
    go_wp2_with (first | ((with_reducible refine gate_dst (N := 3) rfl ?_); refine box_event ?hg (N := 3) ?hd (cs := #[.slice A1_0 l1_0.length c1_0]) (t := 86) ?hr ?_; (case hd => rfl); (case hg => rfl); (case hr => first | (go_simp; done) | (go_simp; rfl)); intro g3_ hg_ w3 hbox_ hb_; replace H := St.box H hg_ hbox_ hb_; clear hg_ hbox_ hb_) | ((with_reducible refine gate_dst (N := 16) rfl ?_); refine goesL_ (some 16) rfl rfl Try.func31 (by kernel_rfl) rfl #[.slice A0 l0.length c0, .int .i64 1048576] rfl (by (try simp only [List.map_toArray, List.map_cons, List.map_nil]); first | done | rfl) ?_; refine (laws_szDeclS.calls (hr0 := Kd.C_below HR0.out (St.lift H).below) (hc0 := HC0.out) (h := A16.out)).mono ?_; rintro e w16 ⟨rfl, hb_⟩; refine ⟨_, rfl, ?_⟩; replace H := St.call H hb_; clear hb_; have hczb3_0 : w16.cell? ⟨g3_, 0, none⟩ = some (.slice A1_0 l1_0.length c1_0) := (blk_cell (St.getB H 0 rfl ⟨0, rfl⟩) 0).trans rfl; have hfzb3_0 : w16.frozen? ⟨g3_, 0, none⟩ = false := blk_frozen (St.getB H 0 rfl ⟨0, rfl⟩) 0) | ((with_reducible refine gate_dst (N := 21) rfl ?_); clear hczb3_0 hfzb3_0; refine goesL_ (some 21) rfl rfl Try.func61 (by kernel_rfl) rfl #[.agg #[.slice A1_0 l1_0.length c1_0], .int .i64 t16] rfl (by (try simp only [List.map_toArray, List.map_cons, List.map_nil]); first | done | rfl) ?_; refine (laws_szCuts.calls (hr0_0 := Kd.C_below HR1_0.out (St.lift H).below) (hc0_0 := HC1_0.out) (h := A21.out)).mono ?_; rintro e w21 ⟨rfl, hb_⟩; refine ⟨_, rfl, ?_⟩; replace H := St.call H hb_; clear hb_))
    go_ret
    exact ⟨by first | rfl | (simp; done), (St.lift H).below⟩
  rw [if_neg c2_] at h; have c2b := decide_eq_false c2_
  clear c2_
  obtain ⟨t25, A25_, h_⟩ := Option.bind_eq_some_iff.mp h; clear h; have h := h_; clear h_
  have A25 := Aside0.mk A25_; clear A25_
  try dsimp only at h
  obtain ⟨t27, A27_, h_⟩ := Option.bind_eq_some_iff.mp h; clear h; have h := h_; clear h_
  have A27 := Aside0.mk A27_; clear A27_
  try dsimp only at h
  obtain ⟨t28, A28_, h_⟩ := Option.bind_eq_some_iff.mp h; clear h; have h := h_; clear h_
  have A28 := Aside0.mk A28_; clear A28_
  try dsimp only at h
  obtain ⟨t30, A30_, h_⟩ := Option.bind_eq_some_iff.mp h; clear h; have h := h_; clear h_
  have A30 := Aside0.mk A30_; clear A30_
  try dsimp only at h
  obtain ⟨t32, A32_, h_⟩ := Option.bind_eq_some_iff.mp h; clear h; have h := h_; clear h_
  have A32 := Aside0.mk A32_; clear A32_
  try dsimp only at h
  obtain ⟨t35, A35_, h_⟩ := Option.bind_eq_some_iff.mp h; clear h; have h := h_; clear h_
  have A35 := Aside0.mk A35_; clear A35_
  try dsimp only at h
  obtain ⟨t38, A38_, h_⟩ := Option.bind_eq_some_iff.mp h; clear h; have h := h_; clear h_
  have A38 := Aside0.mk A38_; clear A38_
  try dsimp only at h
  obtain ⟨c3_, h_⟩ := iteP_ h; clear h; have h := h_; clear h_; subst c3_
  obtain ⟨t42, A42_, h_⟩ := Option.bind_eq_some_iff.mp h; clear h; have h := h_; clear h_
  have A42 := Aside0.mk A42_; clear A42_
  try dsimp only at h
  obtain ⟨t43, A43_, h_⟩ := Option.bind_eq_some_iff.mp h; clear h; have h := h_; clear h_
  have A43 := Aside0.mk A43_; clear A43_
  try dsimp only at h
  obtain ⟨c4_, h_⟩ := iteP_ h; clear h; have h := h_; clear h_; subst c4_
  obtain ⟨t47, A47_, h_⟩ := Option.bind_eq_some_iff.mp h; clear h; have h := h_; clear h_
  have A47 := Aside0.mk A47_; clear A47_
  try dsimp only at h
  obtain ⟨t48, A48_, h_⟩ := Option.bind_eq_some_iff.mp h; clear h; have h := h_; clear h_
  have A48 := Aside0.mk A48_; clear A48_
  try dsimp only at h
  obtain ⟨c5_, h_⟩ := iteP_ h; clear h; have h := h_; clear h_; subst c5_
  obtain ⟨⟨t52_1, t52_2⟩, A52_, h_⟩ := Option.bind_eq_some_iff.mp h; clear h; have h := h_; clear h_
  have A52 := Aside0.mk A52_; clear A52_
  try dsimp only at h
  obtain ⟨⟨t55_1, t55_2⟩, A55_, h_⟩ := Option.bind_eq_some_iff.mp h; clear h; have h := h_; clear h_
  have A55 := Aside0.mk A55_; clear A55_
  try dsimp only at h
  obtain ⟨t61, A61_, h_⟩ := Option.bind_eq_some_iff.mp h; clear h; have h := h_; clear h_
  have A61 := Aside0.mk A61_; clear A61_
  try dsimp only at h
  obtain ⟨c6_, h_⟩ := iteN_ h; clear h; have h := h_; clear h_; have c6b := decide_eq_false c6_; clear c6_
  obtain ⟨c7_, h_⟩ := iteP_ h; clear h; have h := h_; clear h_; subst c7_
  obtain ⟨⟨t66_1, t66_2⟩, A66_, h_⟩ := Option.bind_eq_some_iff.mp h; clear h; have h := h_; clear h_
  have A66 := Aside0.mk A66_; clear A66_
  try dsimp only at h
  obtain ⟨t69, A69_, h_⟩ := Option.bind_eq_some_iff.mp h; clear h; have h := h_; clear h_
  have A69 := Aside0.mk A69_; clear A69_
  try dsimp only at h
  obtain ⟨c8_, h_⟩ := iteN_ h; clear h; have h := h_; clear h_; have c8b := decide_eq_false c8_; clear c8_
  obtain ⟨c9_, h_⟩ := iteP_ h; clear h; have h := h_; clear h_; have c9b : (t69 != t66_1) = false := by simpa using c9_
  have c9d : decide (t69 = t66_1) = true := by simpa using c9_
  have c9e : (t69 == t66_1) = true := by simpa using c9_
  clear c9_
  obtain ⟨t76, A76_, h_⟩ := Option.bind_eq_some_iff.mp h; clear h; have h := h_; clear h_
  have A76 := Aside0.mk A76_; clear A76_
  try dsimp only at h
  obtain ⟨t78, A78_, h_⟩ := Option.bind_eq_some_iff.mp h; clear h; have h := h_; clear h_
  have A78 := Aside0.mk A78_; clear A78_
  try dsimp only at h
  obtain ⟨t79, A79_, h_⟩ := Option.bind_eq_some_iff.mp h; clear h; have h := h_; clear h_
  have A79 := Aside0.mk A79_; clear A79_
  try dsimp only at h
  obtain ⟨t82, A82_, h_⟩ := Option.bind_eq_some_iff.mp h; clear h; have h := h_; clear h_
  have A82 := Aside0.mk A82_; clear A82_
  try dsimp only at h
  obtain ⟨c10_, h_⟩ := iteP_ h; clear h; have h := h_; clear h_; subst c10_
  obtain ⟨t86, A86_, h_⟩ := Option.bind_eq_some_iff.mp h; clear h; have h := h_; clear h_
  have A86 := Aside0.mk A86_; clear A86_
  try dsimp only at h
  obtain ⟨c11_, h_⟩ := iteN_ h; clear h; have h := h_; clear h_; have c11b := decide_eq_false c11_; clear c11_
  obtain ⟨c12_, h_⟩ := iteP_ h; clear h; have h := h_; clear h_; have c12b : (t86 != t66_1) = false := by simpa using c12_
  have c12d : decide (t86 = t66_1) = true := by simpa using c12_
  have c12e : (t86 == t66_1) = true := by simpa using c12_
  clear c12_
  obtain rfl := Option.some.inj h; clear h
  go_enter Try.func10, Try.ntmps10
  go_wp2_with (first | ((with_reducible refine gate_dst (N := 3) rfl ?_); refine box_event ?hg (N := 3) ?hd (cs := #[.slice A1_0 l1_0.length c1_0]) (t := 86) ?hr ?_; (case hd => rfl); (case hg => rfl); (case hr => first | (go_simp; done) | (go_simp; rfl)); intro g3_ hg_ w3 hbox_ hb_; replace H := St.box H hg_ hbox_ hb_; clear hg_ hbox_ hb_) | ((with_reducible refine gate_dst (N := 16) rfl ?_); refine goesL_ (some 16) rfl rfl Try.func31 (by kernel_rfl) rfl #[.slice A0 l0.length c0, .int .i64 1048576] rfl (by (try simp only [List.map_toArray, List.map_cons, List.map_nil]); first | done | rfl) ?_; refine (laws_szDeclS.calls (hr0 := Kd.C_below HR0.out (St.lift H).below) (hc0 := HC0.out) (h := A16.out)).mono ?_; rintro e w16 ⟨rfl, hb_⟩; refine ⟨_, rfl, ?_⟩; replace H := St.call H hb_; clear hb_; have hczb3_0 : w16.cell? ⟨g3_, 0, none⟩ = some (.slice A1_0 l1_0.length c1_0) := (blk_cell (St.getB H 0 rfl ⟨0, rfl⟩) 0).trans rfl; have hfzb3_0 : w16.frozen? ⟨g3_, 0, none⟩ = false := blk_frozen (St.getB H 0 rfl ⟨0, rfl⟩) 0) | ((with_reducible refine gate_dst (N := 21) rfl ?_); clear hczb3_0 hfzb3_0; refine goesL_ (some 21) rfl rfl Try.func61 (by kernel_rfl) rfl #[.agg #[.slice A1_0 l1_0.length c1_0], .int .i64 t16] rfl (by (try simp only [List.map_toArray, List.map_cons, List.map_nil]); first | done | rfl) ?_; refine (laws_szCuts.calls (hr0_0 := Kd.C_below HR1_0.out (St.lift H).below) (hc0_0 := HC1_0.out) (h := A21.out)).mono ?_; rintro e w21 ⟨rfl, hb_⟩; refine ⟨_, rfl, ?_⟩; replace H := St.call H hb_; clear hb_))
  refine St.start (n := 6) (S := fun w' => w'.cell? ⟨g3_, 0, none⟩ = some (.slice A1_0 l1_0.length c1_0)) (ds := []) #[false, false, false, false, false, false] (by kernel_rfl) rfl rfl (fun wr8 hwp_ => ?_)
  replace H := St.call H (show Below w21.heap.size w21 wr8 from (by rw [hwp_]; repeat (first | exact Below.refl _ _ | apply pw_below_drewN | apply below_drew1))) ⟨0, rfl⟩; clear hwp_
  refine ⟨(blk_cell (St.getB H 0 rfl ⟨0, rfl⟩) 0).trans rfl, fun hHeld => ?_⟩
  refine pure_ (i := 0) (N := some 24) (v := ?_) (a' := ?_) #[true, false, false, false, false, false] rfl rfl (by kernel_rfl) (fun _ _ _ h => h) (Or.inl ⟨by rfl, ?_⟩) ?_ ?_
  rotate_left
  · intro w'
    go_simp
    with_reducible rfl
  rotate_left
  · simp only [Act.put, List.setIfInBounds_toArray, List.set_cons_zero, List.set_cons_succ, i64_w, i32_w]
    rfl
  refine take_ (i := 2) (N := some 26) (v := ?_) (a' := ?_) #[true, false, true, false, false, false] rfl rfl (by kernel_rfl) (fun _ _ _ h => h) (Or.inl ⟨by rfl, ?_⟩) hHeld ?_ ?_
  rotate_left
  · intro w' s0
    go_simp
    with_reducible rfl
  rotate_left
  · simp only [Act.put, List.setIfInBounds_toArray, List.set_cons_zero, List.set_cons_succ, i64_w, i32_w]
    rfl
  refine one_ (i := 1) (N := some 25) #[true, true, true, false, false, false] rfl rfl (by kernel_rfl) (by decide) (fun K hK => ?_)
  refine goes_ Try.func33 (by kernel_rfl) rfl #[.slice A0 l0.length c0] (by rfl) rfl rfl (by (try simp only [List.map_toArray, List.map_cons, List.map_nil]); first | done | rfl) ?_
  refine (laws_toDeclS.calls (hr0 := Kd.C_below HR0.out (St.lift H).below) (hc0 := HC0.out) (h := A25.out)).mono ?_
  rintro e wq8_1 ⟨v0x25, rfl, ho_, hb_⟩
  refine ⟨_, rfl, ?_⟩
  obtain ⟨ok25_, a25_, cc25_, rfl, kc25_, H_⟩ := St.callR H hb_ ho_; clear H hb_ ho_; have H := H_; clear H_
  refine hK.out _ _ ((blk_cell (St.getB H 1 rfl ⟨0, rfl⟩) 0).trans rfl) (fun hHeld => ?_)
  clear hK K
  refine norm_ (a' := ?_) ?_ ?_
  rotate_left
  · show Act.put _ (some 25) _ = _
    simp only [Act.put, List.setIfInBounds_toArray, List.set_cons_zero, List.set_cons_succ, i64_w, i32_w]
    rfl
  refine one_ (i := 3) (N := some 27) #[true, true, true, true, false, false] rfl rfl (by kernel_rfl) (by decide) (fun K hK => ?_)
  refine goes_ Try.func63 (by kernel_rfl) rfl #[.agg #[.slice A1_0 l1_0.length c1_0]] (by rfl) rfl rfl (by (try simp only [List.map_toArray, List.map_cons, List.map_nil]); first | done | rfl) ?_
  refine (laws_toCuts.calls (hr0_0 := Kd.C_below HR1_0.out (St.lift H).below) (hc0_0 := HC1_0.out) (h := A27.out)).mono ?_
  rintro e wq8_2 ⟨v0x27, rfl, ho_, hb_⟩
  refine ⟨_, rfl, ?_⟩
  obtain ⟨ok27_, a27_, cc27_, rfl, kc27_, H_⟩ := St.callS H hb_ ho_; clear H hb_ ho_; have H := H_; clear H_
  refine hK.out _ _ ((blk_cell (St.getB H 2 rfl ⟨0, rfl⟩) 0).trans rfl) (fun hHeld => ?_)
  clear hK K
  refine norm_ (a' := ?_) ?_ ?_
  rotate_left
  · show Act.put _ (some 27) _ = _
    simp only [Act.put, List.setIfInBounds_toArray, List.set_cons_zero, List.set_cons_succ, i64_w, i32_w]
    rfl
  refine one_ (i := 4) (N := some 28) #[true, true, true, true, true, false] rfl rfl (by kernel_rfl) (by decide) (fun K hK => ?_)
  refine goes_ Try.func62 (by kernel_rfl) rfl #[.slice a25_ t25.length cc25_, .agg #[.slice a27_ t27.length cc27_]] (by rfl) rfl rfl (by (try simp only [List.map_toArray, List.map_cons, List.map_nil]); first | done | rfl) ?_
  refine (spec_SlicesOf.calls (hr0 := (Kd.R_reads' (St.getR H 1 rfl)).2.2) (hc0 := kc25_.out) (hr1_0 := (Kd.S_reads' (St.getS H 0 rfl)).2.2) (hc1_0 := kc27_.out) (h := A28.out)).mono ?_
  rintro e wq8_3 ⟨v0x28, rfl, ho_, hb_⟩
  refine ⟨_, rfl, ?_⟩
  obtain ⟨ok28_, a28_, cc28_, rfl, kc28_, H_⟩ := St.callR H hb_ ho_; clear H hb_ ho_; have H := H_; clear H_
  refine hK.out _ _ ((blk_cell (St.getB H 3 rfl ⟨0, rfl⟩) 0).trans rfl) (fun hHeld => ?_)
  clear hK K
  refine norm_ (a' := ?_) ?_ ?_
  rotate_left
  · show Act.put _ (some 28) _ = _
    simp only [Act.put, List.setIfInBounds_toArray, List.set_cons_zero, List.set_cons_succ, i64_w, i32_w]
    rfl
  refine pure_ (i := 5) (N := some 6) (v := ?_) (a' := ?_) #[true, true, true, true, true, true] rfl rfl (by kernel_rfl) (fun _ _ _ h => h) (Or.inl ⟨by rfl, ?_⟩) ?_ ?_
  rotate_left
  · intro w'
    go_simp
    with_reducible rfl
  rotate_left
  · simp only [Act.put, List.setIfInBounds_toArray, List.set_cons_zero, List.set_cons_succ, i64_w, i32_w]
    rfl
  refine done_ (by kernel_rfl) ?_
  clear hHeld
  replace H := St.drop H 1
  replace H := St.drop H 1
  (try dsimp only [put, cutAt] at H)
  go_wp2_with (first | ((with_reducible refine gate_dst (N := 30) rfl ?_); refine goesL_ (some 30) rfl rfl Try.func33 (by kernel_rfl) rfl #[.slice A0 l0.length c0] rfl (by (try simp only [List.map_toArray, List.map_cons, List.map_nil]); first | done | rfl) ?_; refine (laws_toDeclS.calls (hr0 := Kd.C_below HR0.out (St.lift H).below) (hc0 := HC0.out) (h := A30.out)).mono ?_; rintro e w30 ⟨v0x30, rfl, ho_, hb_⟩; refine ⟨_, rfl, ?_⟩; obtain ⟨ok30_, a30_, cc30_, rfl, kc30_, H_⟩ := St.callR H hb_ ho_; clear H hb_ ho_; have H := H_; clear H_; have hczb3_0 : w30.cell? ⟨g3_, 0, none⟩ = some (.slice A1_0 l1_0.length c1_0) := (blk_cell (St.getB H 2 rfl ⟨0, rfl⟩) 0).trans rfl; have hfzb3_0 : w30.frozen? ⟨g3_, 0, none⟩ = false := blk_frozen (St.getB H 2 rfl ⟨0, rfl⟩) 0) | ((with_reducible refine gate_dst (N := 32) rfl ?_); clear hczb3_0 hfzb3_0; refine goesL_ (some 32) rfl rfl Try.func63 (by kernel_rfl) rfl #[.agg #[.slice A1_0 l1_0.length c1_0]] rfl (by (try simp only [List.map_toArray, List.map_cons, List.map_nil]); first | done | rfl) ?_; refine (laws_toCuts.calls (hr0_0 := Kd.C_below HR1_0.out (St.lift H).below) (hc0_0 := HC1_0.out) (h := A32.out)).mono ?_; rintro e w32 ⟨v0x32, rfl, ho_, hb_⟩; refine ⟨_, rfl, ?_⟩; obtain ⟨ok32_, a32_, cc32_, rfl, kc32_, H_⟩ := St.callS H hb_ ho_; clear H hb_ ho_; have H := H_; clear H_) | ((with_reducible refine gate_dst (N := 8) rfl ?_); refine box_event ?hg (N := 8) ?hd (cs := #[.slice none 0 0]) (t := 90) ?hr ?_; (case hd => rfl); (case hg => rfl); (case hr => first | (go_simp; done) | (go_simp; rfl)); intro g8_ hg_ w8 hbox_ hb_; replace H := St.box H hg_ hbox_ hb_; clear hg_ hbox_ hb_; have hczb8_0 : w8.cell? ⟨g8_, 0, none⟩ = some (.slice none 0 0) := (blk_cell (St.getB H 0 rfl ⟨0, rfl⟩) 0).trans rfl; have hfzb8_0 : w8.frozen? ⟨g8_, 0, none⟩ = false := blk_frozen (St.getB H 0 rfl ⟨0, rfl⟩) 0) | ((with_reducible refine gate_dst (N := 35) rfl ?_); clear hczb8_0 hfzb8_0; refine St.abs ?_; intro w35p_ hwp_; have hlo_ := St.lowB H 0 rfl; have hkp_ : KeepBut w8 w35p_ g8_ none := (by rw [hwp_]; repeat (first | exact KeepBut.refl _ _ _ | apply keep_drewN | apply KeepBut.set_)); have hbx_ : w35p_.heap[g8_]? = some (.cells #[.slice a32_ t32.length cc32_] 90 (0, 0)) := (by rw [hwp_]; (with_reducible repeat refine blk_drewN ?_ _); refine blk_put (cs := #[.slice none 0 0]) ?_ 0 _ rfl; (with_reducible repeat refine blk_drewN ?_ _); exact St.getB H 0 rfl ⟨0, rfl⟩); have hbl_ : Below w.heap.size w w35p_ := (by rw [hwp_]; repeat (first | exact H.out.below | apply pw_below_drewN | refine below_set ?_ hlo_)); replace H := St.store H 0 rfl hkp_ hbx_ hbl_; (try dsimp only [put, cutAt] at H); clear hkp_ hbx_ hbl_ hlo_ hwp_; refine goesL_ (some 35) rfl rfl Try.func64 (by kernel_rfl) rfl #[.slice a30_ t30.length cc30_, .agg #[.slice a32_ t32.length cc32_]] rfl (by (try simp only [List.map_toArray, List.map_cons, List.map_nil]); first | done | rfl) ?_; refine (impl_SlicesOf.calls (hr0 := (Kd.R_reads' (St.getR H 2 rfl)).2.2) (hc0 := kc30_.out) (hr1_0 := (Kd.S_reads' (St.getS H 1 rfl)).2.2) (hc1_0 := kc32_.out) (h := A35.out)).mono ?_; rintro e w35 ⟨v0x35, rfl, ho_, hb_⟩; refine ⟨_, rfl, ?_⟩; obtain ⟨ok35_, a35_, cc35_, rfl, kc35_, H_⟩ := St.callR H hb_ ho_; clear H hb_ ho_; have H := H_; clear H_) | ((with_reducible refine gate_dst (N := 38) rfl ?_); refine goesL_ (some 38) rfl rfl Try.func65 (by kernel_rfl) rfl #[.slice a35_ t35.length cc35_, .slice a28_ t28.length cc28_] rfl (by (try simp only [List.map_toArray, List.map_cons, List.map_nil]); first | done | rfl) ?_; refine (laws_eqSliceS.calls (hr0 := (Kd.R_reads' (St.getR H 0 rfl)).2.2) (hc0 := kc35_.out) (hr1 := (Kd.R_reads' (St.getR H 4 rfl)).2.2) (hc1 := kc28_.out) (h := A38.out)).mono ?_; rintro e w38 ⟨rfl, hb_⟩; refine ⟨_, rfl, ?_⟩; replace H := St.call H hb_; clear hb_) | ((with_reducible refine gate_dst (N := 42) rfl ?_); refine goesL_ (some 42) rfl rfl Try.func33 (by kernel_rfl) rfl #[.slice A0 l0.length c0] rfl (by (try simp only [List.map_toArray, List.map_cons, List.map_nil]); first | done | rfl) ?_; refine (laws_toDeclS.calls (hr0 := Kd.C_below HR0.out (St.lift H).below) (hc0 := HC0.out) (h := A42.out)).mono ?_; rintro e w42 ⟨v0x42, rfl, ho_, hb_⟩; refine ⟨_, rfl, ?_⟩; obtain ⟨ok42_, a42_, cc42_, rfl, kc42_, H_⟩ := St.callR H hb_ ho_; clear H hb_ ho_; have H := H_; clear H_) | ((with_reducible refine gate_dst (N := 43) rfl ?_); refine goesL_ (some 43) rfl rfl Try.func37 (by kernel_rfl) rfl #[.slice a30_ t30.length cc30_, .slice a42_ t42.length cc42_] rfl (by (try simp only [List.map_toArray, List.map_cons, List.map_nil]); first | done | rfl) ?_; refine (laws_eqDeclS.calls (hr0 := (Kd.R_reads' (St.getR H 4 rfl)).2.2) (hc0 := kc30_.out) (hr1 := (Kd.R_reads' (St.getR H 0 rfl)).2.2) (hc1 := kc42_.out) (h := A43.out)).mono ?_; rintro e w43 ⟨rfl, hb_⟩; refine ⟨_, rfl, ?_⟩; replace H := St.call H hb_; clear hb_; replace H := St.drop H 0; (try dsimp only [put, cutAt] at H)))
  refine St.start (n := 5) (S := fun w' => w'.cell? ⟨g8_, 0, none⟩ = some (.slice a32_ t32.length cc32_) ∧ w'.cell? ⟨g3_, 0, none⟩ = some (.slice A1_0 l1_0.length c1_0)) (ds := []) #[false, false, false, false, false] (by kernel_rfl) rfl rfl (fun wr16 hwp_ => ?_)
  replace H := St.call H (show Below w43.heap.size w43 wr16 from (by rw [hwp_]; repeat (first | exact Below.refl _ _ | apply pw_below_drewN | apply below_drew1))) ⟨0, rfl⟩; clear hwp_
  refine ⟨⟨(blk_cell (St.getB H 1 rfl ⟨0, rfl⟩) 0).trans rfl, (blk_cell (St.getB H 5 rfl ⟨0, rfl⟩) 0).trans rfl⟩, fun hHeld => ?_⟩
  refine take_ (i := 0) (N := some 45) (v := ?_) (a' := ?_) #[true, false, false, false, false] rfl rfl (by kernel_rfl) (fun _ _ _ h => h) (Or.inl ⟨by rfl, ?_⟩) hHeld ?_ ?_
  rotate_left
  · rintro w' ⟨s0, s1⟩
    go_simp
    with_reducible rfl
  rotate_left
  · simp only [Act.put, List.setIfInBounds_toArray, List.set_cons_zero, List.set_cons_succ, i64_w, i32_w]
    rfl
  refine take_ (i := 1) (N := some 46) (v := ?_) (a' := ?_) #[true, true, false, false, false] rfl rfl (by kernel_rfl) (fun _ _ _ h => h) (Or.inl ⟨by rfl, ?_⟩) hHeld ?_ ?_
  rotate_left
  · rintro w' ⟨s0, s1⟩
    go_simp
    with_reducible rfl
  rotate_left
  · simp only [Act.put, List.setIfInBounds_toArray, List.set_cons_zero, List.set_cons_succ, i64_w, i32_w]
    rfl
  refine one_ (i := 2) (N := some 47) #[true, true, true, false, false] rfl rfl (by kernel_rfl) (by decide) (fun K hK => ?_)
  refine goes_ Try.func63 (by kernel_rfl) rfl #[.agg #[.slice A1_0 l1_0.length c1_0]] (by rfl) rfl rfl (by (try simp only [List.map_toArray, List.map_cons, List.map_nil]); first | done | rfl) ?_
  refine (laws_toCuts.calls (hr0_0 := Kd.C_below HR1_0.out (St.lift H).below) (hc0_0 := HC1_0.out) (h := A47.out)).mono ?_
  rintro e wq16_1 ⟨v0x47, rfl, ho_, hb_⟩
  refine ⟨_, rfl, ?_⟩
  obtain ⟨ok47_, a47_, cc47_, rfl, kc47_, H_⟩ := St.callS H hb_ ho_; clear H hb_ ho_; have H := H_; clear H_
  refine hK.out _ _ ⟨(blk_cell (St.getB H 2 rfl ⟨0, rfl⟩) 0).trans rfl, (blk_cell (St.getB H 6 rfl ⟨0, rfl⟩) 0).trans rfl⟩ (fun hHeld => ?_)
  clear hK K
  refine norm_ (a' := ?_) ?_ ?_
  rotate_left
  · show Act.put _ (some 47) _ = _
    simp only [Act.put, List.setIfInBounds_toArray, List.set_cons_zero, List.set_cons_succ, i64_w, i32_w]
    rfl
  refine one_ (i := 3) (N := some 48) #[true, true, true, true, false] rfl rfl (by kernel_rfl) (by decide) (fun K hK => ?_)
  refine goes_ Try.func66 (by kernel_rfl) rfl #[.agg #[.slice a32_ t32.length cc32_], .agg #[.slice a47_ t47.length cc47_]] (by rfl) rfl rfl (by (try simp only [List.map_toArray, List.map_cons, List.map_nil]); first | done | rfl) ?_
  refine (laws_eqCuts.calls (hr0_0 := (Kd.S_reads' (St.getS H 3 rfl)).2.2) (hc0_0 := kc32_.out) (hr1_0 := (Kd.S_reads' (St.getS H 0 rfl)).2.2) (hc1_0 := kc47_.out) (h := A48.out)).mono ?_
  rintro e wq16_2 ⟨rfl, hb_⟩
  refine ⟨_, rfl, ?_⟩
  replace H := St.call H hb_; clear hb_
  refine hK.out _ _ ⟨(blk_cell (St.getB H 2 rfl ⟨0, rfl⟩) 0).trans rfl, (blk_cell (St.getB H 6 rfl ⟨0, rfl⟩) 0).trans rfl⟩ (fun hHeld => ?_)
  clear hK K
  refine norm_ (a' := ?_) ?_ ?_
  rotate_left
  · show Act.put _ (some 48) _ = _
    simp only [Act.put, List.setIfInBounds_toArray, List.set_cons_zero, List.set_cons_succ, i64_w, i32_w]
    rfl
  refine pure_ (i := 4) (N := some 49) (v := ?_) (a' := ?_) #[true, true, true, true, true] rfl rfl (by kernel_rfl) (fun _ _ _ h => h) (Or.inl ⟨by rfl, ?_⟩) ?_ ?_
  rotate_left
  · intro w'
    go_simp
    with_reducible rfl
  rotate_left
  · simp only [Act.put, List.setIfInBounds_toArray, List.set_cons_zero, List.set_cons_succ, i64_w, i32_w]
    rfl
  refine done_ (by kernel_rfl) ?_
  clear hHeld
  replace H := St.drop H 0
  (try dsimp only [put, cutAt] at H)
  go_wp2_with (first | ((with_reducible refine gate_dst (N := 52) rfl ?_); refine goesL_ (some 52) rfl rfl Try.func39 (by kernel_rfl) rfl #[.slice a30_ t30.length cc30_, .int .i64 1] rfl (by (try simp only [List.map_toArray, List.map_cons, List.map_nil]); first | done | rfl) ?_; refine (laws_markDeclS.calls (P0_ := ok30_) (u9000_ := .slice a30_ t30.length cc30_) (ho0 := St.getR H 3 rfl) (hB := (St.lift H).below) (h := A52.out)).mono ?_; rintro e w52 ⟨rfl, hs_, hb_, hk_⟩; refine ⟨_, rfl, ?_⟩; replace H := St.markR H 3 rfl hs_ hb_ hk_; (try dsimp only [put, cutAt] at H); clear hs_ hb_ hk_; replace H := St.drop H 3; (try dsimp only [put, cutAt] at H); have hczb8_0 : w52.cell? ⟨g8_, 0, none⟩ = some (.slice a32_ t32.length cc32_) := (blk_cell (St.getB H 1 rfl ⟨0, rfl⟩) 0).trans rfl; have hfzb8_0 : w52.frozen? ⟨g8_, 0, none⟩ = false := blk_frozen (St.getB H 1 rfl ⟨0, rfl⟩) 0) | ((with_reducible refine gate_dst (N := 55) rfl ?_); clear hczb8_0 hfzb8_0; refine goesL_ (some 55) rfl rfl Try.func67 (by kernel_rfl) rfl #[.agg #[.slice a32_ t32.length cc32_], .int .i64 t52_1] rfl (by (try simp only [List.map_toArray, List.map_cons, List.map_nil]); first | done | rfl) ?_; refine (laws_markCuts.calls (P0_0_ := ok32_) (u9000_ := .slice a32_ t32.length cc32_) (ho0_0 := St.getS H 2 rfl) (hB := (St.lift H).below) (h := A55.out)).mono ?_; rintro e w55 ⟨rfl, hs_, hb_, hk_⟩; refine ⟨_, rfl, ?_⟩; replace H := St.markS H 2 rfl hs_ hb_ hk_; (try dsimp only [put, cutAt] at H); clear hs_ hb_ hk_; replace H := St.drop H 1; replace H := St.drop H 1; (try dsimp only [put, cutAt] at H)) | ((with_reducible refine gate_dst (N := 66) rfl ?_); refine goesL_ (some 66) rfl rfl Try.func68 (by kernel_rfl) rfl #[.slice a35_ t35.length cc35_, .int .i64 1] rfl (by (try simp only [List.map_toArray, List.map_cons, List.map_nil]); first | done | rfl) ?_; refine (laws_markSliceS.calls (P0_ := ok35_) (u9000_ := .slice a35_ t35.length cc35_) (ho0 := St.getR H 0 rfl) (hB := (St.lift H).below) (h := A66.out)).mono ?_; rintro e w66 ⟨rfl, hs_, hb_, hk_⟩; refine ⟨_, rfl, ?_⟩; replace H := St.markR H 0 rfl hs_ hb_ hk_; (try dsimp only [put, cutAt] at H); have e_ := (Kd.R_reads' hs_).1; have kc35_m := Aside0.mk (Kd.R_reads' hs_).2.1; rw [e_] at H kc35_m; obtain ⟨ok35_m, H_⟩ : ∃ ok_, Aside0 (St w w66 [Ob.R w k184 184 ok_ (.slice a35_ t66_2.length cc35_) t66_2, Ob.R w k184 184 ok28_ (.slice a28_ t28.length cc28_) t28, Ob.B g3_ (.cells #[.slice A1_0 l1_0.length c1_0] 86 (0, 0))]) := ⟨_, H⟩; clear H; have H := H_; clear H_; clear hs_ hb_ hk_; (rw [e_]); clear e_) | ((with_reducible refine gate_dst (N := 69) rfl ?_); refine goesL_ (some 69) rfl rfl Try.func69 (by kernel_rfl) rfl #[.slice a35_ t66_2.length cc35_, .int .i64 1] rfl (by (try simp only [List.map_toArray, List.map_cons, List.map_nil]); first | done | rfl) ?_; refine (laws_heldSliceS.calls (hr0 := (Kd.R_reads' (St.getR H 0 rfl)).2.2) (hc0 := kc35_m.out) (h := A69.out)).mono ?_; rintro e w69 ⟨rfl, hb_⟩; replace hb_ := hb_.below; refine ⟨_, rfl, ?_⟩; replace H := St.call H hb_; clear hb_) | (go_at_call 65; refine (laws_eqSliceS.calls (hr0 := (Kd.R_reads' (St.getR H 0 rfl)).2.2) (hc0 := kc35_.out) (hr1 := (Kd.R_reads' (St.getR H 1 rfl)).2.2) (hc1 := kc28_.out) (h := A61.out)).mono ?_; rintro e w61 ⟨rfl, hb_⟩; replace H := St.call H hb_; clear hb_))
  refine St.start (n := 6) (S := fun w' => w'.cell? ⟨g3_, 0, none⟩ = some (.slice A1_0 l1_0.length c1_0)) (ds := []) #[false, false, false, false, false, false] (by kernel_rfl) rfl rfl (fun wr31 hwp_ => ?_)
  replace H := St.call H (show Below w69.heap.size w69 wr31 from (by rw [hwp_]; repeat (first | exact Below.refl _ _ | apply pw_below_drewN | apply below_drew1))) ⟨0, rfl⟩; clear hwp_
  refine ⟨(blk_cell (St.getB H 2 rfl ⟨0, rfl⟩) 0).trans rfl, fun hHeld => ?_⟩
  refine pure_ (i := 0) (N := some 75) (v := ?_) (a' := ?_) #[true, false, false, false, false, false] rfl rfl (by kernel_rfl) (fun _ _ _ h => h) (Or.inl ⟨by rfl, ?_⟩) ?_ ?_
  rotate_left
  · intro w'
    go_simp
    with_reducible rfl
  rotate_left
  · simp only [Act.put, List.setIfInBounds_toArray, List.set_cons_zero, List.set_cons_succ, i64_w, i32_w]
    rfl
  refine take_ (i := 2) (N := some 77) (v := ?_) (a' := ?_) #[true, false, true, false, false, false] rfl rfl (by kernel_rfl) (fun _ _ _ h => h) (Or.inl ⟨by rfl, ?_⟩) hHeld ?_ ?_
  rotate_left
  · intro w' s0
    go_simp
    with_reducible rfl
  rotate_left
  · simp only [Act.put, List.setIfInBounds_toArray, List.set_cons_zero, List.set_cons_succ, i64_w, i32_w]
    rfl
  refine one_ (i := 1) (N := some 76) #[true, true, true, false, false, false] rfl rfl (by kernel_rfl) (by decide) (fun K hK => ?_)
  refine goes_ Try.func33 (by kernel_rfl) rfl #[.slice A0 l0.length c0] (by rfl) rfl rfl (by (try simp only [List.map_toArray, List.map_cons, List.map_nil]); first | done | rfl) ?_
  refine (laws_toDeclS.calls (hr0 := Kd.C_below HR0.out (St.lift H).below) (hc0 := HC0.out) (h := A76.out)).mono ?_
  rintro e wq31_1 ⟨v0x76, rfl, ho_, hb_⟩
  refine ⟨_, rfl, ?_⟩
  obtain ⟨ok76_, a76_, cc76_, rfl, kc76_, H_⟩ := St.callR H hb_ ho_; clear H hb_ ho_; have H := H_; clear H_
  refine hK.out _ _ ((blk_cell (St.getB H 3 rfl ⟨0, rfl⟩) 0).trans rfl) (fun hHeld => ?_)
  clear hK K
  refine norm_ (a' := ?_) ?_ ?_
  rotate_left
  · show Act.put _ (some 76) _ = _
    simp only [Act.put, List.setIfInBounds_toArray, List.set_cons_zero, List.set_cons_succ, i64_w, i32_w]
    rfl
  refine one_ (i := 3) (N := some 78) #[true, true, true, true, false, false] rfl rfl (by kernel_rfl) (by decide) (fun K hK => ?_)
  refine goes_ Try.func63 (by kernel_rfl) rfl #[.agg #[.slice A1_0 l1_0.length c1_0]] (by rfl) rfl rfl (by (try simp only [List.map_toArray, List.map_cons, List.map_nil]); first | done | rfl) ?_
  refine (laws_toCuts.calls (hr0_0 := Kd.C_below HR1_0.out (St.lift H).below) (hc0_0 := HC1_0.out) (h := A78.out)).mono ?_
  rintro e wq31_2 ⟨v0x78, rfl, ho_, hb_⟩
  refine ⟨_, rfl, ?_⟩
  obtain ⟨ok78_, a78_, cc78_, rfl, kc78_, H_⟩ := St.callS H hb_ ho_; clear H hb_ ho_; have H := H_; clear H_
  refine hK.out _ _ ((blk_cell (St.getB H 4 rfl ⟨0, rfl⟩) 0).trans rfl) (fun hHeld => ?_)
  clear hK K
  refine norm_ (a' := ?_) ?_ ?_
  rotate_left
  · show Act.put _ (some 78) _ = _
    simp only [Act.put, List.setIfInBounds_toArray, List.set_cons_zero, List.set_cons_succ, i64_w, i32_w]
    rfl
  refine one_ (i := 4) (N := some 79) #[true, true, true, true, true, false] rfl rfl (by kernel_rfl) (by decide) (fun K hK => ?_)
  refine goes_ Try.func64 (by kernel_rfl) rfl #[.slice a76_ t76.length cc76_, .agg #[.slice a78_ t78.length cc78_]] (by rfl) rfl rfl (by (try simp only [List.map_toArray, List.map_cons, List.map_nil]); first | done | rfl) ?_
  refine (impl_SlicesOf.calls (hr0 := (Kd.R_reads' (St.getR H 1 rfl)).2.2) (hc0 := kc76_.out) (hr1_0 := (Kd.S_reads' (St.getS H 0 rfl)).2.2) (hc1_0 := kc78_.out) (h := A79.out)).mono ?_
  rintro e wq31_3 ⟨v0x79, rfl, ho_, hb_⟩
  refine ⟨_, rfl, ?_⟩
  obtain ⟨ok79_, a79_, cc79_, rfl, kc79_, H_⟩ := St.callR H hb_ ho_; clear H hb_ ho_; have H := H_; clear H_
  refine hK.out _ _ ((blk_cell (St.getB H 5 rfl ⟨0, rfl⟩) 0).trans rfl) (fun hHeld => ?_)
  clear hK K
  refine norm_ (a' := ?_) ?_ ?_
  rotate_left
  · show Act.put _ (some 79) _ = _
    simp only [Act.put, List.setIfInBounds_toArray, List.set_cons_zero, List.set_cons_succ, i64_w, i32_w]
    rfl
  refine pure_ (i := 5) (N := some 13) (v := ?_) (a' := ?_) #[true, true, true, true, true, true] rfl rfl (by kernel_rfl) (fun _ _ _ h => h) (Or.inl ⟨by rfl, ?_⟩) ?_ ?_
  rotate_left
  · intro w'
    go_simp
    with_reducible rfl
  rotate_left
  · simp only [Act.put, List.setIfInBounds_toArray, List.set_cons_zero, List.set_cons_succ, i64_w, i32_w]
    rfl
  refine done_ (by kernel_rfl) ?_
  clear hHeld
  replace H := St.drop H 1
  replace H := St.drop H 1
  (try dsimp only [put, cutAt] at H)
  go_wp2_with (first | ((with_reducible refine gate_dst (N := 82) rfl ?_); refine goesL_ (some 82) rfl rfl Try.func65 (by kernel_rfl) rfl #[.slice a79_ t79.length cc79_, .slice a28_ t28.length cc28_] rfl (by (try simp only [List.map_toArray, List.map_cons, List.map_nil]); first | done | rfl) ?_; refine (laws_eqSliceS.calls (hr0 := (Kd.R_reads' (St.getR H 0 rfl)).2.2) (hc0 := kc79_.out) (hr1 := (Kd.R_reads' (St.getR H 2 rfl)).2.2) (hc1 := kc28_.out) (h := A82.out)).mono ?_; rintro e w82 ⟨rfl, hb_⟩; refine ⟨_, rfl, ?_⟩; replace H := St.call H hb_; clear hb_; replace H := St.drop H 0; replace H := St.drop H 1; replace H := St.drop H 1; (try dsimp only [put, cutAt] at H)) | ((with_reducible refine gate_dst (N := 86) rfl ?_); refine goesL_ (some 86) rfl rfl Try.func69 (by kernel_rfl) rfl #[.slice a35_ t66_2.length cc35_, .int .i64 1] rfl (by (try simp only [List.map_toArray, List.map_cons, List.map_nil]); first | done | rfl) ?_; refine (laws_heldSliceS.calls (hr0 := (Kd.R_reads' (St.getR H 0 rfl)).2.2) (hc0 := kc35_m.out) (h := A86.out)).mono ?_; rintro e w86 ⟨rfl, hb_⟩; replace hb_ := hb_.below; refine ⟨_, rfl, ?_⟩; replace H := St.call H hb_; clear hb_; replace H := St.drop H 0; (try dsimp only [put, cutAt] at H)))
  go_ret
  exact ⟨by first | rfl | (simp; done), (St.lift H).below⟩

end Go.Proofs.Ytjmnhcooimdioaa.PFnExactSlicesOf
