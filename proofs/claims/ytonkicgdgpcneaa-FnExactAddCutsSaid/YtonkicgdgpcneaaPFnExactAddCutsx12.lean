-- Written by a program of this session (lawx3.sh, lawwalk3.py); Lean checks it.
import Derived.Test.YtonkicgdgpcneaaPFnExactAddCutsx0
import Derived.Test.YtonkicgdgpcneaaPFnExactAddCutsx1
import Derived.Test.YtonkicgdgpcneaaPFnExactAddCutsx2
import Derived.Test.YtonkicgdgpcneaaPFnExactAddCutsx3
import Derived.Test.YtonkicgdgpcneaaPFnExactAddCutsx4
import Derived.Test.YtonkicgdgpcneaaPFnExactAddCutsx5
import Derived.Test.YtonkicgdgpcneaaPFnExactAddCutsx6
import Derived.Test.YtonkicgdgpcneaaPFnExactAddCutsx7
import Derived.Test.YtonkicgdgpcneaaPFnExactAddCutsx8
import Derived.Test.YtonkicgdgpcneaaPFnExactAddCutsx9
import Derived.Test.YtonkicgdgpcneaaPFnExactAddCutsx10
import Derived.Test.YtonkicgdgpcneaaPFnExactAddCutsx11
import Derived.Test.YtonkicgdgpcneaaLaw
namespace Go.Proofs.Ytonkicgdgpcneaa.PFnExactAddCuts
open Go.RowKit Go.Proofs.YtonkicgdgpcneaaW.PrintWords Go.Proofs.YtonkicgdgpcneaaW.PrintLast Go.Proofs.YtonkicgdgpcneaaW.PrintMore
attribute [local go_sem] max2_int min2_int max_two min_two max_three min_three max_four min_four   -- for this text's walks alone
set_option linter.unusedVariables false
set_option linter.unusedSimpArgs false

/-! ### laws_markInt64SS: function 61 -/
def laws_markInt64SS.l0 : Nat → List (List Int) → Int → Int → Option (Int × (List (List Int)))
  | 0, _, _, _ => none
  | k + 1, x0, x1, x5 => if x5 < (x0.length : Int) then (if 0 ≤ x5 then ((laws_markInt64S.f k (rd_L3 x0 x5) x1).bind fun t => laws_markInt64SS.l0 k (x0.set (x5 : Int).toNat t.2) t.1 (wrap64 (x5 + 1))) else none) else some (x1, x0)
def laws_markInt64SS.f (k : Nat) (l0 : List (List Int)) (a1 : Int) : Option (Int × (List (List Int))) := laws_markInt64SS.l0 k l0 a1 0
set_option maxHeartbeats 8000000 in
set_option maxRecDepth 100000 in
theorem laws_markInt64SS.calls (k : Nat) (P0_ : Nat → Prop) (u9000_ : Value) (l0 : List (List Int)) (a1 : Int) (r1 : Int) (r2 : List (List Int)) (w0 w : World) (hB : Below w0.heap.size w0 w) (ho0 : Kd.S (Kd.slice 2 (Kd.int .i64)) 26 w w0.heap.size P0_ u9000_ l0) (h : laws_markInt64SS.f k l0 a1 = some (r1, r2)) :
    Calls Try.prog 61 #[u9000_, .int .i64 a1] w fun e w' => e = .returned (.int .i64 r1) ∧ Kd.S (Kd.slice 2 (Kd.int .i64)) 26 w' w0.heap.size (fun k_ => (P0_ k_ ∨ w.heap.size ≤ k_)) u9000_ r2 ∧ Below w0.heap.size w0 w' ∧ Kept w w' (fun k_ => P0_ k_) := by
  have HO0 := Aside0.mk (show Kd.S (Kd.slice 2 (Kd.int .i64)) 26 w w0.heap.size (fun k_ => (P0_ k_ ∨ w.heap.size ≤ k_)) u9000_ l0 from Kd.S_mono ho0 (fun k_ hk => (.inl hk)))
  have HK := Aside0.mk (Kept.refl w (fun k_ => P0_ k_))
  have HB := Aside0.mk hB
  clear hB
  have H : (laws_markInt64SS.l0 k l0 a1 0) = some (r1, r2) := h
  clear h
  have H' := Aside0.mk H
  clear H
  go_enter Try.func61, Try.ntmps61
  go_wp2
  go_loopg [1, 5] k (fun kq v1 v5 w' => ∃ (x0_1 : List (List Int)) (x1_1 : Int) (x5_1 : Int), v1 = .int .i64 x1_1 ∧ v5 = .int .i64 x5_1 ∧ Aside0 (laws_markInt64SS.l0 kq x0_1 x1_1 x5_1 = some (r1, r2)) ∧ Aside0 (kq ≤ k) ∧ Aside0 (Kd.S (Kd.slice 2 (Kd.int .i64)) 26 w' w0.heap.size (fun k_ => (P0_ k_ ∨ w.heap.size ≤ k_)) u9000_ x0_1) ∧ Aside0 (Kept w w' (fun k_ => P0_ k_)) ∧ Aside0 (Below w0.heap.size w0 w'))
  case atStart => exact ⟨l0, a1, 0, (by first | rfl | (simp; done)), (by first | rfl | (simp; done)), H', ⟨Nat.le_refl _⟩, ⟨by (with_reducible repeat (first | apply Kd.S_alloc | apply Kd.S_drewN | apply Kd.S_drew)); exact HO0.out⟩, ⟨by repeat (first | (with_reducible first | exact HK.out | apply Kept.alloc | apply Kept.drewN | apply Kept.drew) | exact HK.out)⟩, ⟨by repeat (first | (with_reducible first | exact HB.out | apply below_alloc | apply pw_below_drewN | apply below_drew1) | exact HB.out)⟩⟩
  case round =>
    clear H' HO0
    obtain ⟨x0_1, x1_1, x5_1, rfl, rfl, HA, HKk, HO_0, HKq, HBq⟩ := hrel
    cases gk with
    | zero => exact absurd HA.out (by simp [laws_markInt64SS.l0])
    | succ k1 =>
      have H := HA.out
      clear HA
      simp only [laws_markInt64SS.l0] at H
      by_cases c3 : x5_1 < (x0_1.length : Int)
      · rw [if_pos c3] at H
        by_cases c5 : 0 ≤ x5_1
        · rw [if_pos c5] at H
          obtain ⟨⟨t1, t2⟩, A40, H⟩ := Option.bind_eq_some_iff.mp H
          replace H : laws_markInt64SS.l0 k1 (x0_1.set (x5_1 : Int).toNat t2) t1 (wrap64 (x5_1 + 1)) = some (r1, r2) := H
          have A4 := Aside0.mk A40
          have H' := Aside0.mk H
          clear A40 H
          obtain ⟨g, cap, rfl, hgb, hgl, cells, hgc⟩ := Kd.S_form HO_0.out (by omega)
          obtain ⟨oki, c, hcl, hM, hcc, hoki, hH⟩ := Kd.S_lend HO_0.out ([] : List Int) x5_1 c5 c3
          obtain ⟨v1, rfl, hR1⟩ := hM
          have hx0 : wr.cell? ⟨g, (x5_1 : Int).toNat, none⟩ = some v1 := by
            have h_ : wr.cell? ⟨g, (x5_1 : Int).toNat * 1 + 0, none⟩ = some v1 := hcc 0 _ rfl
            rwa [Nat.mul_one, Nat.add_zero] at h_
          have HR2 := Aside0.mk hR1
          have HH2 := Aside0.mk hH
          have HI2 := Aside0.mk hoki
          have c3b0 : decide (x5_1 < (x0_1.length : Int)) = true := decide_eq_true c3
          replace c3 := eq_true c3
          replace c5 := eq_true c5
          clear hcl hcc hH hR1 hoki hgb hgl hgc
          go_wp2_with (first | ((with_reducible refine gate_callee (f := 14) rfl ?_); refine goesL_ (some 17) rfl rfl Try.func14 (by kernel_rfl) rfl #[v1, .int .i64 x1_1] rfl (by (try simp only [List.map_toArray, List.map_cons, List.map_nil]); first | done | rfl) ?_; refine (laws_markInt64S.calls k1 oki v1 _ x1_1 t1 t2 w0 _ (by repeat (first | (with_reducible first | exact HBq.out | apply below_alloc | apply pw_below_drewN | apply below_drew1) | exact HBq.out)) (by (with_reducible repeat (first | apply Kd.R_alloc | apply Kd.R_drewN | apply Kd.R_drew)); exact HR2.out) A4.out).mono ?_; rintro e w12 ⟨rfl, hr', hb', hk'⟩; refine ⟨_, rfl, ?_⟩; have HS := Aside0.mk (Kd.H_back (Kd.H_step (Kd.H_widen HH2.out) (fun k _ hn hlt => hk'.2 k hlt (fun h => hn (.inl h)))) ⟨v1, rfl, hr'⟩ (fun k hk => hk.elim .inl (fun h => .inr ⟨.inr (Nat.le_trans HKq.out.1 h), h⟩))); have HK2 := Aside0.mk (Kept.then_ HKq.out hk' (fun k hk => (HI2.out k hk).1)); have HB2 := Aside0.mk hb'; clear hr' hb' hk' HH2 HR2 HI2 hx0))
          go_roundg k1
          case measure => have := HKk.out; omega
          case rel => exact ⟨_, _, _, (by first | rfl | (simp; done)), (by first | rfl | (simp; done)), H', ⟨by have := HKk.out; omega⟩, ⟨HS.out⟩, ⟨HK2.out⟩, ⟨HB2.out⟩⟩
        · rw [if_neg c5] at H
          exact absurd H (by simp)
      · rw [if_neg c3] at H
        have c3b0 : decide (x5_1 < (x0_1.length : Int)) = false := decide_eq_false c3
        clear c3
        simp only [Option.some.injEq, Prod.mk.injEq] at H
        obtain ⟨rfl, rfl⟩ := H
        obtain ⟨Ao14, co14, eo14⟩ := Kd.S_slice HO_0.out
        subst eo14
        go_wp2
        go_ret
        exact ⟨by first | rfl | (simp; done), HO_0.out, HBq.out, HKq.out⟩

/-! ### laws_markCuts: function 25 -/
def laws_markCuts.f (k : Nat) (l0_0 : List (List Int)) (a1 : Int) : Option (Int × (List (List Int))) := (laws_markInt64SS.f k l0_0 a1).bind fun bt => (some (bt.1, bt.2))
set_option maxHeartbeats 8000000 in
set_option maxRecDepth 100000 in
theorem laws_markCuts.calls (k : Nat) (P0_0_ : Nat → Prop) (u9000_ : Value) (l0_0 : List (List Int)) (a1 : Int) (r1 : Int) (r2 : List (List Int)) (w0 w : World) (hB : Below w0.heap.size w0 w) (ho0_0 : Kd.S (Kd.slice 2 (Kd.int .i64)) 26 w w0.heap.size P0_0_ u9000_ l0_0) (h : laws_markCuts.f k l0_0 a1 = some (r1, r2)) :
    Calls Try.prog 25 #[.agg #[u9000_], .int .i64 a1] w fun e w' => e = .returned (.int .i64 r1) ∧ Kd.S (Kd.slice 2 (Kd.int .i64)) 26 w' w0.heap.size (fun k_ => (P0_0_ k_ ∨ w.heap.size ≤ k_)) u9000_ r2 ∧ Below w0.heap.size w0 w' ∧ Kept w w' (fun k_ => P0_0_ k_) := by
  have hu44 := Try.underlying44
  have HO := Aside0.mk ho0_0
  have HB := Aside0.mk hB
  obtain ⟨⟨t1_, t2_⟩, h1_, h2_⟩ := Option.bind_eq_some_iff.mp h
  simp only [Option.some.injEq, Prod.mk.injEq] at h2_
  obtain ⟨rfl, rfl⟩ := h2_
  have A := Aside0.mk h1_
  clear h1_
  obtain ⟨Ao, co, rfl⟩ := Kd.S_slice ho0_0
  clear hB ho0_0 h
  go_enter Try.func25, Try.ntmps25
  go_wp2_with (first | ((with_reducible refine gate_dst (N := 2) rfl ?_); refine box_event ?hg (N := 2) ?hd (cs := #[.slice Ao l0_0.length co]) (t := 44) ?hr ?_; (case hd => rfl); (case hg => rfl); (case hr => first | (go_simp; done) | (go_simp; rfl)); intro gb hg w5 hbox hb; have BX := Aside0.mk hbox; have HB1 := Aside0.mk hb; have HG := Aside0.mk hg; have hcz : w5.cell? ⟨gb, 0, none⟩ = some (.slice Ao l0_0.length co) := (blk_cell hbox 0).trans rfl; have hfz := blk_frozen hbox 0; clear hbox hb hg) | ((with_reducible refine gate_dst (N := 8) rfl ?_); refine goesL_ (some 8) rfl rfl Try.func61 (by kernel_rfl) rfl #[.slice Ao l0_0.length co, .int .i64 a1] rfl (by (try simp only [List.map_toArray, List.map_cons, List.map_nil]); first | done | rfl) ?_; refine (laws_markInt64SS.calls k P0_0_ (.slice Ao l0_0.length co) l0_0 a1 t1_ t2_ w0 _ (below_step HB.out (by repeat (first | exact HB1.out | apply pw_below_drewN))) (Kd.S_below HO.out (by repeat (first | exact HB1.out | apply pw_below_drewN))) A.out).mono ?_; rintro e w7 ⟨rfl, hs, hb2, hk⟩; refine ⟨_, rfl, ?_⟩; have HS := Aside0.mk (Kd.S_mono (ok' := fun k_ => P0_0_ k_ ∨ w.heap.size ≤ k_) hs (fun k_ hk_ => hk_.imp id (Nat.le_trans HB1.out.size))); have HB2 := Aside0.mk hb2; have HK := Aside0.mk (Kept.then_ (S := fun k_ => P0_0_ k_) (Kept.of_below HB1.out _) hk (fun k_ h_ => .inl h_)); clear hs hb2 hk hcz hfz))
  go_ret
  exact ⟨by first | rfl | (simp; done), HS.out, HB2.out, HK.out⟩

/-! ### laws_FnExactAddCuts: function 4 -/
def laws_FnExactAddCuts.f (k : Nat) (l0 : List (S85)) (l1_0 : List (List Int)) (l2_0 : List (List Int)) : Option (Bool) := (laws_szDeclS.f k l0 1048576).bind fun t22 => if t22 < 0 then some true else (laws_szCuts.f k l1_0 t22).bind fun t27 => if t27 < 0 then some true else (laws_szCuts.f k l2_0 t27).bind fun t32 => if t32 < 0 then some true else (laws_toDeclS.f k l0).bind fun t37 => (laws_toCuts.f k l1_0).bind fun t39 => (laws_toCuts.f k l2_0).bind fun t41 => (spec_AddCuts.f k t37 t39 t41).bind fun bt42 => (laws_toDeclS.f k l0).bind fun t46 => (laws_toCuts.f k l1_0).bind fun t48 => (laws_toCuts.f k l2_0).bind fun t50 => (impl_AddCuts.f k t46 t48 t50).bind fun bt55 => (laws_eqCuts.f k bt55.1 bt42.1).bind fun t60 => if t60 = true then (if (bt55.2 != bt42.2) = true then none else (laws_toDeclS.f k l0).bind fun t69 => (laws_eqDeclS.f k t46 t69).bind fun t70 => if t70 = true then ((laws_toCuts.f k l1_0).bind fun t74 => (laws_eqCuts.f k t48 t74).bind fun t75 => if t75 = true then ((laws_toCuts.f k l2_0).bind fun t79 => (laws_eqCuts.f k t50 t79).bind fun t80 => if t80 = true then ((laws_markDeclS.f k t46 1).bind fun bt84 => (laws_markCuts.f k t48 bt84.1).bind fun bt87 => (laws_markCuts.f k t50 bt87.1).bind fun bt90 => (laws_eqCuts.f k bt55.1 bt42.1).bind fun t96 => if bt90.1 < 0 then none else if t96 = true then (if (bt55.2 != bt42.2) = true then none else (laws_markCuts.f k bt55.1 1).bind fun bt106 => (laws_heldCuts.f k bt106.2 1).bind fun t109 => if t109 < 0 then none else if t109 = bt106.1 then ((laws_toDeclS.f k l0).bind fun t117 => (laws_toCuts.f k l1_0).bind fun t119 => (laws_toCuts.f k l2_0).bind fun t121 => (impl_AddCuts.f k t117 t119 t121).bind fun bt122 => (laws_eqCuts.f k bt122.1 bt42.1).bind fun t127 => if t127 = true then (if (bt122.2 != bt42.2) = true then none else (laws_heldCuts.f k bt106.2 1).bind fun t136 => if t136 < 0 then none else if t136 = bt106.1 then (some true) else none) else none) else none) else none) else none) else none) else none) else none
set_option maxHeartbeats 8000000 in
set_option maxRecDepth 100000 in
theorem laws_FnExactAddCuts.calls (k : Nat) (A0 : Option Addr) (c0 : Nat) (l0 : List (S85)) (A1_0 : Option Addr) (c1_0 : Nat) (l1_0 : List (List Int)) (A2_0 : Option Addr) (c2_0 : Nat) (l2_0 : List (List Int)) (r : Bool) (w : World) (hr0 : Kd.C k85 w A0 l0.length l0) (hc0 : l0.length ≤ c0) (hr1_0 : Kd.C (Kd.slice 2 (Kd.int .i64)) w A1_0 l1_0.length l1_0) (hc1_0 : l1_0.length ≤ c1_0) (hr2_0 : Kd.C (Kd.slice 2 (Kd.int .i64)) w A2_0 l2_0.length l2_0) (hc2_0 : l2_0.length ≤ c2_0) (h : laws_FnExactAddCuts.f k l0 l1_0 l2_0 = some r) :
    Calls Try.prog 4 #[.slice A0 l0.length c0, .agg #[.slice A1_0 l1_0.length c1_0], .agg #[.slice A2_0 l2_0.length c2_0]] w fun e w' => e = .returned (.bool r) ∧ Below w.heap.size w w' := by
  have hu41 := Try.underlying41
  have hu44 := Try.underlying44
  have HR0 := Aside0.mk hr0; have HC0 := Aside0.mk hc0; clear hr0 hc0
  have HR1_0 := Aside0.mk hr1_0; have HC1_0 := Aside0.mk hc1_0; clear hr1_0 hc1_0
  have HR2_0 := Aside0.mk hr2_0; have HC2_0 := Aside0.mk hc2_0; clear hr2_0 hc2_0
  have H := St.nil w
  unfold laws_FnExactAddCuts.f at h
  obtain ⟨t22, A22_, h_⟩ := Option.bind_eq_some_iff.mp h; clear h; have h := h_; clear h_
  have A22 := Aside0.mk A22_; clear A22_
  try dsimp only at h
  by_cases c1_ : t22 < 0
  · rw [if_pos c1_] at h
    obtain rfl := Option.some.inj h
    have c1b := decide_eq_true c1_
    clear c1_ h
    go_enter Try.func4, Try.ntmps4
    go_wp2_with (first | ((with_reducible refine gate_dst (N := 4) rfl ?_); go_loud (refine box_event ?hg (N := 4) ?hd (cs := #[.slice A1_0 l1_0.length c1_0]) (t := 41) ?hr ?_; (case hd => rfl); (case hg => rfl); (case hr => first | (go_simp; done) | (go_simp; rfl)); intro g4_ hg_ w4 hbox_ hb_; replace H := St.box H hg_ hbox_ hb_; clear hg_ hbox_ hb_)) | ((with_reducible refine gate_dst (N := 5) rfl ?_); go_loud (refine box_event ?hg (N := 5) ?hd (cs := #[.slice A2_0 l2_0.length c2_0]) (t := 41) ?hr ?_; (case hd => rfl); (case hg => rfl); (case hr => first | (go_simp; done) | (go_simp; rfl)); intro g5_ hg_ w5 hbox_ hb_; replace H := St.box H hg_ hbox_ hb_; clear hg_ hbox_ hb_)) | ((with_reducible refine gate_dst (N := 22) rfl ?_); go_loud (refine goesL_ (some 22) rfl rfl Try.func16 (by kernel_rfl) rfl #[.slice A0 l0.length c0, .int .i64 1048576] rfl (by (try simp only [List.map_toArray, List.map_cons, List.map_nil]); first | done | rfl) ?_; refine (laws_szDeclS.calls (hr0 := Kd.C_below HR0.out (St.lift H).below) (hc0 := HC0.out) (h := A22.out)).mono ?_; rintro e w22 ⟨rfl, hb_⟩; refine ⟨_, rfl, ?_⟩; replace H := St.call H hb_; clear hb_; have hczb4_0 : w22.cell? ⟨g4_, 0, none⟩ = some (.slice A1_0 l1_0.length c1_0) := (blk_cell (St.getB H 1 rfl ⟨0, rfl⟩) 0).trans rfl; have hfzb4_0 : w22.frozen? ⟨g4_, 0, none⟩ = false := blk_frozen (St.getB H 1 rfl ⟨0, rfl⟩) 0)))
    go_ret
    exact ⟨by first | rfl | (simp; done), (St.lift H).below⟩
  rw [if_neg c1_] at h; have c1b := decide_eq_false c1_
  clear c1_
  obtain ⟨t27, A27_, h_⟩ := Option.bind_eq_some_iff.mp h; clear h; have h := h_; clear h_
  have A27 := Aside0.mk A27_; clear A27_
  try dsimp only at h
  by_cases c2_ : t27 < 0
  · rw [if_pos c2_] at h
    obtain rfl := Option.some.inj h
    have c2b := decide_eq_true c2_
    clear c2_ h
    go_enter Try.func4, Try.ntmps4
    go_wp2_with (first | ((with_reducible refine gate_dst (N := 4) rfl ?_); go_loud (refine box_event ?hg (N := 4) ?hd (cs := #[.slice A1_0 l1_0.length c1_0]) (t := 41) ?hr ?_; (case hd => rfl); (case hg => rfl); (case hr => first | (go_simp; done) | (go_simp; rfl)); intro g4_ hg_ w4 hbox_ hb_; replace H := St.box H hg_ hbox_ hb_; clear hg_ hbox_ hb_)) | ((with_reducible refine gate_dst (N := 5) rfl ?_); go_loud (refine box_event ?hg (N := 5) ?hd (cs := #[.slice A2_0 l2_0.length c2_0]) (t := 41) ?hr ?_; (case hd => rfl); (case hg => rfl); (case hr => first | (go_simp; done) | (go_simp; rfl)); intro g5_ hg_ w5 hbox_ hb_; replace H := St.box H hg_ hbox_ hb_; clear hg_ hbox_ hb_)) | ((with_reducible refine gate_dst (N := 22) rfl ?_); go_loud (refine goesL_ (some 22) rfl rfl Try.func16 (by kernel_rfl) rfl #[.slice A0 l0.length c0, .int .i64 1048576] rfl (by (try simp only [List.map_toArray, List.map_cons, List.map_nil]); first | done | rfl) ?_; refine (laws_szDeclS.calls (hr0 := Kd.C_below HR0.out (St.lift H).below) (hc0 := HC0.out) (h := A22.out)).mono ?_; rintro e w22 ⟨rfl, hb_⟩; refine ⟨_, rfl, ?_⟩; replace H := St.call H hb_; clear hb_; have hczb4_0 : w22.cell? ⟨g4_, 0, none⟩ = some (.slice A1_0 l1_0.length c1_0) := (blk_cell (St.getB H 1 rfl ⟨0, rfl⟩) 0).trans rfl; have hfzb4_0 : w22.frozen? ⟨g4_, 0, none⟩ = false := blk_frozen (St.getB H 1 rfl ⟨0, rfl⟩) 0)) | ((with_reducible refine gate_dst (N := 27) rfl ?_); go_loud (clear hczb4_0 hfzb4_0; refine goesL_ (some 27) rfl rfl Try.func17 (by kernel_rfl) rfl #[.agg #[.slice A1_0 l1_0.length c1_0], .int .i64 t22] rfl (by (try simp only [List.map_toArray, List.map_cons, List.map_nil]); first | done | rfl) ?_; refine (laws_szCuts.calls (hr0_0 := Kd.C_below HR1_0.out (St.lift H).below) (hc0_0 := HC1_0.out) (h := A27.out)).mono ?_; rintro e w27 ⟨rfl, hb_⟩; refine ⟨_, rfl, ?_⟩; replace H := St.call H hb_; clear hb_; have hczb5_0 : w27.cell? ⟨g5_, 0, none⟩ = some (.slice A2_0 l2_0.length c2_0) := (blk_cell (St.getB H 0 rfl ⟨0, rfl⟩) 0).trans rfl; have hfzb5_0 : w27.frozen? ⟨g5_, 0, none⟩ = false := blk_frozen (St.getB H 0 rfl ⟨0, rfl⟩) 0)))
    go_ret
    exact ⟨by first | rfl | (simp; done), (St.lift H).below⟩
  rw [if_neg c2_] at h; have c2b := decide_eq_false c2_
  clear c2_
  obtain ⟨t32, A32_, h_⟩ := Option.bind_eq_some_iff.mp h; clear h; have h := h_; clear h_
  have A32 := Aside0.mk A32_; clear A32_
  try dsimp only at h
  by_cases c3_ : t32 < 0
  · rw [if_pos c3_] at h
    obtain rfl := Option.some.inj h
    have c3b := decide_eq_true c3_
    clear c3_ h
    go_enter Try.func4, Try.ntmps4
    go_wp2_with (first | ((with_reducible refine gate_dst (N := 4) rfl ?_); go_loud (refine box_event ?hg (N := 4) ?hd (cs := #[.slice A1_0 l1_0.length c1_0]) (t := 41) ?hr ?_; (case hd => rfl); (case hg => rfl); (case hr => first | (go_simp; done) | (go_simp; rfl)); intro g4_ hg_ w4 hbox_ hb_; replace H := St.box H hg_ hbox_ hb_; clear hg_ hbox_ hb_)) | ((with_reducible refine gate_dst (N := 5) rfl ?_); go_loud (refine box_event ?hg (N := 5) ?hd (cs := #[.slice A2_0 l2_0.length c2_0]) (t := 41) ?hr ?_; (case hd => rfl); (case hg => rfl); (case hr => first | (go_simp; done) | (go_simp; rfl)); intro g5_ hg_ w5 hbox_ hb_; replace H := St.box H hg_ hbox_ hb_; clear hg_ hbox_ hb_)) | ((with_reducible refine gate_dst (N := 22) rfl ?_); go_loud (refine goesL_ (some 22) rfl rfl Try.func16 (by kernel_rfl) rfl #[.slice A0 l0.length c0, .int .i64 1048576] rfl (by (try simp only [List.map_toArray, List.map_cons, List.map_nil]); first | done | rfl) ?_; refine (laws_szDeclS.calls (hr0 := Kd.C_below HR0.out (St.lift H).below) (hc0 := HC0.out) (h := A22.out)).mono ?_; rintro e w22 ⟨rfl, hb_⟩; refine ⟨_, rfl, ?_⟩; replace H := St.call H hb_; clear hb_; have hczb4_0 : w22.cell? ⟨g4_, 0, none⟩ = some (.slice A1_0 l1_0.length c1_0) := (blk_cell (St.getB H 1 rfl ⟨0, rfl⟩) 0).trans rfl; have hfzb4_0 : w22.frozen? ⟨g4_, 0, none⟩ = false := blk_frozen (St.getB H 1 rfl ⟨0, rfl⟩) 0)) | ((with_reducible refine gate_dst (N := 27) rfl ?_); go_loud (clear hczb4_0 hfzb4_0; refine goesL_ (some 27) rfl rfl Try.func17 (by kernel_rfl) rfl #[.agg #[.slice A1_0 l1_0.length c1_0], .int .i64 t22] rfl (by (try simp only [List.map_toArray, List.map_cons, List.map_nil]); first | done | rfl) ?_; refine (laws_szCuts.calls (hr0_0 := Kd.C_below HR1_0.out (St.lift H).below) (hc0_0 := HC1_0.out) (h := A27.out)).mono ?_; rintro e w27 ⟨rfl, hb_⟩; refine ⟨_, rfl, ?_⟩; replace H := St.call H hb_; clear hb_; have hczb5_0 : w27.cell? ⟨g5_, 0, none⟩ = some (.slice A2_0 l2_0.length c2_0) := (blk_cell (St.getB H 0 rfl ⟨0, rfl⟩) 0).trans rfl; have hfzb5_0 : w27.frozen? ⟨g5_, 0, none⟩ = false := blk_frozen (St.getB H 0 rfl ⟨0, rfl⟩) 0)) | ((with_reducible refine gate_dst (N := 32) rfl ?_); go_loud (clear hczb5_0 hfzb5_0; refine goesL_ (some 32) rfl rfl Try.func17 (by kernel_rfl) rfl #[.agg #[.slice A2_0 l2_0.length c2_0], .int .i64 t27] rfl (by (try simp only [List.map_toArray, List.map_cons, List.map_nil]); first | done | rfl) ?_; refine (laws_szCuts.calls (hr0_0 := Kd.C_below HR2_0.out (St.lift H).below) (hc0_0 := HC2_0.out) (h := A32.out)).mono ?_; rintro e w32 ⟨rfl, hb_⟩; refine ⟨_, rfl, ?_⟩; replace H := St.call H hb_; clear hb_)))
    go_ret
    exact ⟨by first | rfl | (simp; done), (St.lift H).below⟩
  rw [if_neg c3_] at h; have c3b := decide_eq_false c3_
  clear c3_
  obtain ⟨t37, A37_, h_⟩ := Option.bind_eq_some_iff.mp h; clear h; have h := h_; clear h_
  have A37 := Aside0.mk A37_; clear A37_
  try dsimp only at h
  obtain ⟨t39, A39_, h_⟩ := Option.bind_eq_some_iff.mp h; clear h; have h := h_; clear h_
  have A39 := Aside0.mk A39_; clear A39_
  try dsimp only at h
  obtain ⟨t41, A41_, h_⟩ := Option.bind_eq_some_iff.mp h; clear h; have h := h_; clear h_
  have A41 := Aside0.mk A41_; clear A41_
  try dsimp only at h
  obtain ⟨⟨t42_1, t42_2⟩, A42_, h_⟩ := Option.bind_eq_some_iff.mp h; clear h; have h := h_; clear h_
  have A42 := Aside0.mk A42_; clear A42_
  try dsimp only at h
  obtain ⟨t46, A46_, h_⟩ := Option.bind_eq_some_iff.mp h; clear h; have h := h_; clear h_
  have A46 := Aside0.mk A46_; clear A46_
  try dsimp only at h
  obtain ⟨t48, A48_, h_⟩ := Option.bind_eq_some_iff.mp h; clear h; have h := h_; clear h_
  have A48 := Aside0.mk A48_; clear A48_
  try dsimp only at h
  obtain ⟨t50, A50_, h_⟩ := Option.bind_eq_some_iff.mp h; clear h; have h := h_; clear h_
  have A50 := Aside0.mk A50_; clear A50_
  try dsimp only at h
  obtain ⟨⟨t55_1, t55_2⟩, A55_, h_⟩ := Option.bind_eq_some_iff.mp h; clear h; have h := h_; clear h_
  have A55 := Aside0.mk A55_; clear A55_
  try dsimp only at h
  obtain ⟨t60, A60_, h_⟩ := Option.bind_eq_some_iff.mp h; clear h; have h := h_; clear h_
  have A60 := Aside0.mk A60_; clear A60_
  try dsimp only at h
  obtain ⟨c4_, h_⟩ := iteP_ h; clear h; have h := h_; clear h_; subst c4_
  obtain ⟨c5_, h_⟩ := iteN_ h; clear h; have h := h_; clear h_; have c5b : (t55_2 != t42_2) = false := by simpa using c5_
  have c5d : decide (t55_2 = t42_2) = true := by simpa using c5_
  have c5e : (t55_2 == t42_2) = true := by simpa using c5_
  clear c5_
  obtain ⟨t69, A69_, h_⟩ := Option.bind_eq_some_iff.mp h; clear h; have h := h_; clear h_
  have A69 := Aside0.mk A69_; clear A69_
  try dsimp only at h
  obtain ⟨t70, A70_, h_⟩ := Option.bind_eq_some_iff.mp h; clear h; have h := h_; clear h_
  have A70 := Aside0.mk A70_; clear A70_
  try dsimp only at h
  obtain ⟨c6_, h_⟩ := iteP_ h; clear h; have h := h_; clear h_; subst c6_
  obtain ⟨t74, A74_, h_⟩ := Option.bind_eq_some_iff.mp h; clear h; have h := h_; clear h_
  have A74 := Aside0.mk A74_; clear A74_
  try dsimp only at h
  obtain ⟨t75, A75_, h_⟩ := Option.bind_eq_some_iff.mp h; clear h; have h := h_; clear h_
  have A75 := Aside0.mk A75_; clear A75_
  try dsimp only at h
  obtain ⟨c7_, h_⟩ := iteP_ h; clear h; have h := h_; clear h_; subst c7_
  obtain ⟨t79, A79_, h_⟩ := Option.bind_eq_some_iff.mp h; clear h; have h := h_; clear h_
  have A79 := Aside0.mk A79_; clear A79_
  try dsimp only at h
  obtain ⟨t80, A80_, h_⟩ := Option.bind_eq_some_iff.mp h; clear h; have h := h_; clear h_
  have A80 := Aside0.mk A80_; clear A80_
  try dsimp only at h
  obtain ⟨c8_, h_⟩ := iteP_ h; clear h; have h := h_; clear h_; subst c8_
  obtain ⟨⟨t84_1, t84_2⟩, A84_, h_⟩ := Option.bind_eq_some_iff.mp h; clear h; have h := h_; clear h_
  have A84 := Aside0.mk A84_; clear A84_
  try dsimp only at h
  obtain ⟨⟨t87_1, t87_2⟩, A87_, h_⟩ := Option.bind_eq_some_iff.mp h; clear h; have h := h_; clear h_
  have A87 := Aside0.mk A87_; clear A87_
  try dsimp only at h
  obtain ⟨⟨t90_1, t90_2⟩, A90_, h_⟩ := Option.bind_eq_some_iff.mp h; clear h; have h := h_; clear h_
  have A90 := Aside0.mk A90_; clear A90_
  try dsimp only at h
  obtain ⟨t96, A96_, h_⟩ := Option.bind_eq_some_iff.mp h; clear h; have h := h_; clear h_
  have A96 := Aside0.mk A96_; clear A96_
  try dsimp only at h
  obtain ⟨c9_, h_⟩ := iteN_ h; clear h; have h := h_; clear h_; have c9b := decide_eq_false c9_; clear c9_
  obtain ⟨c10_, h_⟩ := iteP_ h; clear h; have h := h_; clear h_; subst c10_
  obtain ⟨c11_, h_⟩ := iteN_ h; clear h; have h := h_; clear h_; have c11b : (t55_2 != t42_2) = false := by simpa using c11_
  have c11d : decide (t55_2 = t42_2) = true := by simpa using c11_
  have c11e : (t55_2 == t42_2) = true := by simpa using c11_
  clear c11_
  obtain ⟨⟨t106_1, t106_2⟩, A106_, h_⟩ := Option.bind_eq_some_iff.mp h; clear h; have h := h_; clear h_
  have A106 := Aside0.mk A106_; clear A106_
  try dsimp only at h
  obtain ⟨t109, A109_, h_⟩ := Option.bind_eq_some_iff.mp h; clear h; have h := h_; clear h_
  have A109 := Aside0.mk A109_; clear A109_
  try dsimp only at h
  obtain ⟨c12_, h_⟩ := iteN_ h; clear h; have h := h_; clear h_; have c12b := decide_eq_false c12_; clear c12_
  obtain ⟨c13_, h_⟩ := iteP_ h; clear h; have h := h_; clear h_; have c13b : (t109 != t106_1) = false := by simpa using c13_
  have c13d : decide (t109 = t106_1) = true := by simpa using c13_
  have c13e : (t109 == t106_1) = true := by simpa using c13_
  clear c13_
  obtain ⟨t117, A117_, h_⟩ := Option.bind_eq_some_iff.mp h; clear h; have h := h_; clear h_
  have A117 := Aside0.mk A117_; clear A117_
  try dsimp only at h
  obtain ⟨t119, A119_, h_⟩ := Option.bind_eq_some_iff.mp h; clear h; have h := h_; clear h_
  have A119 := Aside0.mk A119_; clear A119_
  try dsimp only at h
  obtain ⟨t121, A121_, h_⟩ := Option.bind_eq_some_iff.mp h; clear h; have h := h_; clear h_
  have A121 := Aside0.mk A121_; clear A121_
  try dsimp only at h
  obtain ⟨⟨t122_1, t122_2⟩, A122_, h_⟩ := Option.bind_eq_some_iff.mp h; clear h; have h := h_; clear h_
  have A122 := Aside0.mk A122_; clear A122_
  try dsimp only at h
  obtain ⟨t127, A127_, h_⟩ := Option.bind_eq_some_iff.mp h; clear h; have h := h_; clear h_
  have A127 := Aside0.mk A127_; clear A127_
  try dsimp only at h
  obtain ⟨c14_, h_⟩ := iteP_ h; clear h; have h := h_; clear h_; subst c14_
  obtain ⟨c15_, h_⟩ := iteN_ h; clear h; have h := h_; clear h_; have c15b : (t122_2 != t42_2) = false := by simpa using c15_
  have c15d : decide (t122_2 = t42_2) = true := by simpa using c15_
  have c15e : (t122_2 == t42_2) = true := by simpa using c15_
  clear c15_
  obtain ⟨t136, A136_, h_⟩ := Option.bind_eq_some_iff.mp h; clear h; have h := h_; clear h_
  have A136 := Aside0.mk A136_; clear A136_
  try dsimp only at h
  obtain ⟨c16_, h_⟩ := iteN_ h; clear h; have h := h_; clear h_; have c16b := decide_eq_false c16_; clear c16_
  obtain ⟨c17_, h_⟩ := iteP_ h; clear h; have h := h_; clear h_; have c17b : (t136 != t106_1) = false := by simpa using c17_
  have c17d : decide (t136 = t106_1) = true := by simpa using c17_
  have c17e : (t136 == t106_1) = true := by simpa using c17_
  clear c17_
  obtain rfl := Option.some.inj h; clear h
  go_enter Try.func4, Try.ntmps4
  go_wp2_with (first | ((with_reducible refine gate_dst (N := 4) rfl ?_); go_loud (refine box_event ?hg (N := 4) ?hd (cs := #[.slice A1_0 l1_0.length c1_0]) (t := 41) ?hr ?_; (case hd => rfl); (case hg => rfl); (case hr => first | (go_simp; done) | (go_simp; rfl)); intro g4_ hg_ w4 hbox_ hb_; replace H := St.box H hg_ hbox_ hb_; clear hg_ hbox_ hb_)) | ((with_reducible refine gate_dst (N := 5) rfl ?_); go_loud (refine box_event ?hg (N := 5) ?hd (cs := #[.slice A2_0 l2_0.length c2_0]) (t := 41) ?hr ?_; (case hd => rfl); (case hg => rfl); (case hr => first | (go_simp; done) | (go_simp; rfl)); intro g5_ hg_ w5 hbox_ hb_; replace H := St.box H hg_ hbox_ hb_; clear hg_ hbox_ hb_)) | ((with_reducible refine gate_dst (N := 22) rfl ?_); go_loud (refine goesL_ (some 22) rfl rfl Try.func16 (by kernel_rfl) rfl #[.slice A0 l0.length c0, .int .i64 1048576] rfl (by (try simp only [List.map_toArray, List.map_cons, List.map_nil]); first | done | rfl) ?_; refine (laws_szDeclS.calls (hr0 := Kd.C_below HR0.out (St.lift H).below) (hc0 := HC0.out) (h := A22.out)).mono ?_; rintro e w22 ⟨rfl, hb_⟩; refine ⟨_, rfl, ?_⟩; replace H := St.call H hb_; clear hb_; have hczb4_0 : w22.cell? ⟨g4_, 0, none⟩ = some (.slice A1_0 l1_0.length c1_0) := (blk_cell (St.getB H 1 rfl ⟨0, rfl⟩) 0).trans rfl; have hfzb4_0 : w22.frozen? ⟨g4_, 0, none⟩ = false := blk_frozen (St.getB H 1 rfl ⟨0, rfl⟩) 0)) | ((with_reducible refine gate_dst (N := 27) rfl ?_); go_loud (clear hczb4_0 hfzb4_0; refine goesL_ (some 27) rfl rfl Try.func17 (by kernel_rfl) rfl #[.agg #[.slice A1_0 l1_0.length c1_0], .int .i64 t22] rfl (by (try simp only [List.map_toArray, List.map_cons, List.map_nil]); first | done | rfl) ?_; refine (laws_szCuts.calls (hr0_0 := Kd.C_below HR1_0.out (St.lift H).below) (hc0_0 := HC1_0.out) (h := A27.out)).mono ?_; rintro e w27 ⟨rfl, hb_⟩; refine ⟨_, rfl, ?_⟩; replace H := St.call H hb_; clear hb_; have hczb5_0 : w27.cell? ⟨g5_, 0, none⟩ = some (.slice A2_0 l2_0.length c2_0) := (blk_cell (St.getB H 0 rfl ⟨0, rfl⟩) 0).trans rfl; have hfzb5_0 : w27.frozen? ⟨g5_, 0, none⟩ = false := blk_frozen (St.getB H 0 rfl ⟨0, rfl⟩) 0)) | ((with_reducible refine gate_dst (N := 32) rfl ?_); go_loud (clear hczb5_0 hfzb5_0; refine goesL_ (some 32) rfl rfl Try.func17 (by kernel_rfl) rfl #[.agg #[.slice A2_0 l2_0.length c2_0], .int .i64 t27] rfl (by (try simp only [List.map_toArray, List.map_cons, List.map_nil]); first | done | rfl) ?_; refine (laws_szCuts.calls (hr0_0 := Kd.C_below HR2_0.out (St.lift H).below) (hc0_0 := HC2_0.out) (h := A32.out)).mono ?_; rintro e w32 ⟨rfl, hb_⟩; refine ⟨_, rfl, ?_⟩; replace H := St.call H hb_; clear hb_)))
  refine St.start (n := 13) (S := fun w' => w'.cell? ⟨g4_, 0, none⟩ = some (.slice A1_0 l1_0.length c1_0) ∧ w'.cell? ⟨g5_, 0, none⟩ = some (.slice A2_0 l2_0.length c2_0)) (ds := []) #[false, false, false, false, false, false, false, false, false, false, false, false, false] (by kernel_rfl) rfl rfl (fun wr11 hwp_ => ?_)
  replace H := St.call H (show Below w32.heap.size w32 wr11 from (by rw [hwp_]; repeat (first | exact Below.refl _ _ | apply pw_below_drewN | apply below_drew1))) ⟨0, rfl⟩; clear hwp_
  refine ⟨⟨(blk_cell (St.getB H 1 rfl ⟨0, rfl⟩) 0).trans rfl, (blk_cell (St.getB H 0 rfl ⟨0, rfl⟩) 0).trans rfl⟩, fun hHeld => ?_⟩
  refine pure_ (i := 0) (N := some 36) (v := ?_) (a' := ?_) #[true, false, false, false, false, false, false, false, false, false, false, false, false] rfl rfl (by kernel_rfl) (fun _ _ _ h => h) (Or.inl ⟨by rfl, ?_⟩) ?_ ?_
  rotate_left
  · intro w'
    go_simp
    with_reducible rfl
  rotate_left
  · simp only [Act.put, List.setIfInBounds_toArray, List.set_cons_zero, List.set_cons_succ, i64_w, i32_w]
    rfl
  refine take_ (i := 2) (N := some 38) (v := ?_) (a' := ?_) #[true, false, true, false, false, false, false, false, false, false, false, false, false] rfl rfl (by kernel_rfl) (fun _ _ _ h => h) (Or.inl ⟨by rfl, ?_⟩) hHeld ?_ ?_
  rotate_left
  · rintro w' ⟨s0, s1⟩
    go_simp
    with_reducible rfl
  rotate_left
  · simp only [Act.put, List.setIfInBounds_toArray, List.set_cons_zero, List.set_cons_succ, i64_w, i32_w]
    rfl
  refine take_ (i := 4) (N := some 40) (v := ?_) (a' := ?_) #[true, false, true, false, true, false, false, false, false, false, false, false, false] rfl rfl (by kernel_rfl) (fun _ _ _ h => h) (Or.inl ⟨by rfl, ?_⟩) hHeld ?_ ?_
  rotate_left
  · rintro w' ⟨s0, s1⟩
    go_simp
    with_reducible rfl
  rotate_left
  · simp only [Act.put, List.setIfInBounds_toArray, List.set_cons_zero, List.set_cons_succ, i64_w, i32_w]
    rfl
  refine join_ (σ := (Nat → Prop) × Option Addr × Nat × (Nat → Prop) × Option Addr × Nat × (Nat → Prop) × Option Addr × Nat × (Nat → Prop) × Option Addr × Nat × Nat) 2 #[true, true, true, true, true, true, true, true, true, true, true, false, false] (fun s_ => [(37, .slice s_.2.1 t37.length s_.2.2.1), (39, .agg #[.slice s_.2.2.2.2.1 t39.length s_.2.2.2.2.2.1]), (41, .agg #[.slice s_.2.2.2.2.2.2.2.1 t41.length s_.2.2.2.2.2.2.2.2.1]), (42, .tuple #[.agg #[.slice s_.2.2.2.2.2.2.2.2.2.2.1 t42_1.length s_.2.2.2.2.2.2.2.2.2.2.2.1], .bool t42_2]), (35, .tuple #[.agg #[.slice s_.2.2.2.2.2.2.2.2.2.2.1 t42_1.length s_.2.2.2.2.2.2.2.2.2.2.2.1], .bool t42_2]), (43, .agg #[.slice s_.2.2.2.2.2.2.2.2.2.2.1 t42_1.length s_.2.2.2.2.2.2.2.2.2.2.2.1]), (44, .bool t42_2), (8, .pointer (some ⟨s_.2.2.2.2.2.2.2.2.2.2.2.2, 0, none⟩))]) (fun s_ w' => Aside0 (St w w' [Ob.B s_.2.2.2.2.2.2.2.2.2.2.2.2 (.cells #[.slice none 0 0] 44 (0, 0)), Ob.S w (Kd.slice 2 (Kd.int .i64)) 26 s_.2.2.2.2.2.2.2.2.2.1 (.slice s_.2.2.2.2.2.2.2.2.2.2.1 t42_1.length s_.2.2.2.2.2.2.2.2.2.2.2.1) t42_1, Ob.S w (Kd.slice 2 (Kd.int .i64)) 26 s_.2.2.2.2.2.2.1 (.slice s_.2.2.2.2.2.2.2.1 t41.length s_.2.2.2.2.2.2.2.2.1) t41, Ob.S w (Kd.slice 2 (Kd.int .i64)) 26 s_.2.2.2.1 (.slice s_.2.2.2.2.1 t39.length s_.2.2.2.2.2.1) t39, Ob.R w k63 63 s_.1 (.slice s_.2.1 t37.length s_.2.2.1) t37, Ob.B g5_ (.cells #[.slice A2_0 l2_0.length c2_0] 41 (0, 0)), Ob.B g4_ (.cells #[.slice A1_0 l1_0.length c1_0] 41 (0, 0))]) ∧ Aside0 (t37.length ≤ s_.2.2.1) ∧ Aside0 (t39.length ≤ s_.2.2.2.2.2.1) ∧ Aside0 (t41.length ≤ s_.2.2.2.2.2.2.2.2.1) ∧ Aside0 (t42_1.length ≤ s_.2.2.2.2.2.2.2.2.2.2.2.1)) ?_ ?_
  rotate_left
  · intro hJ1_3_5_6_10
    refine join_ (σ := (Nat → Prop) × Option Addr × Nat × (Nat → Prop) × Option Addr × Nat × (Nat → Prop) × Option Addr × Nat × (Nat → Prop) × Option Addr × Nat) 3 #[true, true, true, true, true, true, true, true, true, true, false, false, false] (fun s_ => [(37, .slice s_.2.1 t37.length s_.2.2.1), (39, .agg #[.slice s_.2.2.2.2.1 t39.length s_.2.2.2.2.2.1]), (41, .agg #[.slice s_.2.2.2.2.2.2.2.1 t41.length s_.2.2.2.2.2.2.2.2.1]), (42, .tuple #[.agg #[.slice s_.2.2.2.2.2.2.2.2.2.2.1 t42_1.length s_.2.2.2.2.2.2.2.2.2.2.2], .bool t42_2]), (35, .tuple #[.agg #[.slice s_.2.2.2.2.2.2.2.2.2.2.1 t42_1.length s_.2.2.2.2.2.2.2.2.2.2.2], .bool t42_2]), (43, .agg #[.slice s_.2.2.2.2.2.2.2.2.2.2.1 t42_1.length s_.2.2.2.2.2.2.2.2.2.2.2]), (44, .bool t42_2)]) (fun s_ w' => Aside0 (St w w' [Ob.S w (Kd.slice 2 (Kd.int .i64)) 26 s_.2.2.2.2.2.2.2.2.2.1 (.slice s_.2.2.2.2.2.2.2.2.2.2.1 t42_1.length s_.2.2.2.2.2.2.2.2.2.2.2) t42_1, Ob.S w (Kd.slice 2 (Kd.int .i64)) 26 s_.2.2.2.2.2.2.1 (.slice s_.2.2.2.2.2.2.2.1 t41.length s_.2.2.2.2.2.2.2.2.1) t41, Ob.S w (Kd.slice 2 (Kd.int .i64)) 26 s_.2.2.2.1 (.slice s_.2.2.2.2.1 t39.length s_.2.2.2.2.2.1) t39, Ob.R w k63 63 s_.1 (.slice s_.2.1 t37.length s_.2.2.1) t37, Ob.B g5_ (.cells #[.slice A2_0 l2_0.length c2_0] 41 (0, 0)), Ob.B g4_ (.cells #[.slice A1_0 l1_0.length c1_0] 41 (0, 0))]) ∧ Aside0 (t37.length ≤ s_.2.2.1) ∧ Aside0 (t39.length ≤ s_.2.2.2.2.2.1) ∧ Aside0 (t41.length ≤ s_.2.2.2.2.2.2.2.2.1) ∧ Aside0 (t42_1.length ≤ s_.2.2.2.2.2.2.2.2.2.2.2)) ?_ ?_
    rotate_left
    · intro hJ1_3_5_6
      refine join_ (σ := (Nat → Prop) × Option Addr × Nat × (Nat → Prop) × Option Addr × Nat × (Nat → Prop) × Option Addr × Nat × Nat) 6 #[true, true, true, true, true, true, false, false, false, false, true, false, false] (fun s_ => [(37, .slice s_.2.1 t37.length s_.2.2.1), (39, .agg #[.slice s_.2.2.2.2.1 t39.length s_.2.2.2.2.2.1]), (41, .agg #[.slice s_.2.2.2.2.2.2.2.1 t41.length s_.2.2.2.2.2.2.2.2.1]), (8, .pointer (some ⟨s_.2.2.2.2.2.2.2.2.2, 0, none⟩))]) (fun s_ w' => Aside0 (St w w' [Ob.B s_.2.2.2.2.2.2.2.2.2 (.cells #[.slice none 0 0] 44 (0, 0)), Ob.S w (Kd.slice 2 (Kd.int .i64)) 26 s_.2.2.2.2.2.2.1 (.slice s_.2.2.2.2.2.2.2.1 t41.length s_.2.2.2.2.2.2.2.2.1) t41, Ob.S w (Kd.slice 2 (Kd.int .i64)) 26 s_.2.2.2.1 (.slice s_.2.2.2.2.1 t39.length s_.2.2.2.2.2.1) t39, Ob.R w k63 63 s_.1 (.slice s_.2.1 t37.length s_.2.2.1) t37, Ob.B g5_ (.cells #[.slice A2_0 l2_0.length c2_0] 41 (0, 0)), Ob.B g4_ (.cells #[.slice A1_0 l1_0.length c1_0] 41 (0, 0))]) ∧ Aside0 (t37.length ≤ s_.2.2.1) ∧ Aside0 (t39.length ≤ s_.2.2.2.2.2.1) ∧ Aside0 (t41.length ≤ s_.2.2.2.2.2.2.2.2.1)) ?_ ?_
      rotate_left
      · intro hJ1_3_5_10
        refine join_ (σ := (Nat → Prop) × Option Addr × Nat × (Nat → Prop) × Option Addr × Nat × (Nat → Prop) × Option Addr × Nat) 7 #[true, true, true, true, true, true, false, false, false, false, false, false, false] (fun s_ => [(37, .slice s_.2.1 t37.length s_.2.2.1), (39, .agg #[.slice s_.2.2.2.2.1 t39.length s_.2.2.2.2.2.1]), (41, .agg #[.slice s_.2.2.2.2.2.2.2.1 t41.length s_.2.2.2.2.2.2.2.2])]) (fun s_ w' => Aside0 (St w w' [Ob.S w (Kd.slice 2 (Kd.int .i64)) 26 s_.2.2.2.2.2.2.1 (.slice s_.2.2.2.2.2.2.2.1 t41.length s_.2.2.2.2.2.2.2.2) t41, Ob.S w (Kd.slice 2 (Kd.int .i64)) 26 s_.2.2.2.1 (.slice s_.2.2.2.2.1 t39.length s_.2.2.2.2.2.1) t39, Ob.R w k63 63 s_.1 (.slice s_.2.1 t37.length s_.2.2.1) t37, Ob.B g5_ (.cells #[.slice A2_0 l2_0.length c2_0] 41 (0, 0)), Ob.B g4_ (.cells #[.slice A1_0 l1_0.length c1_0] 41 (0, 0))]) ∧ Aside0 (t37.length ≤ s_.2.2.1) ∧ Aside0 (t39.length ≤ s_.2.2.2.2.2.1) ∧ Aside0 (t41.length ≤ s_.2.2.2.2.2.2.2.2)) ?_ ?_
        rotate_left
        · intro hJ1_3_5
          refine join_ (σ := (Nat → Prop) × Option Addr × Nat × (Nat → Prop) × Option Addr × Nat × Nat) 7 #[true, true, true, true, true, false, false, false, false, false, true, false, false] (fun s_ => [(37, .slice s_.2.1 t37.length s_.2.2.1), (39, .agg #[.slice s_.2.2.2.2.1 t39.length s_.2.2.2.2.2.1]), (8, .pointer (some ⟨s_.2.2.2.2.2.2, 0, none⟩))]) (fun s_ w' => Aside0 (St w w' [Ob.B s_.2.2.2.2.2.2 (.cells #[.slice none 0 0] 44 (0, 0)), Ob.S w (Kd.slice 2 (Kd.int .i64)) 26 s_.2.2.2.1 (.slice s_.2.2.2.2.1 t39.length s_.2.2.2.2.2.1) t39, Ob.R w k63 63 s_.1 (.slice s_.2.1 t37.length s_.2.2.1) t37, Ob.B g5_ (.cells #[.slice A2_0 l2_0.length c2_0] 41 (0, 0)), Ob.B g4_ (.cells #[.slice A1_0 l1_0.length c1_0] 41 (0, 0))]) ∧ Aside0 (t37.length ≤ s_.2.2.1) ∧ Aside0 (t39.length ≤ s_.2.2.2.2.2.1)) ?_ ?_
          rotate_left
          · intro hJ1_3_10
            refine join_ (σ := (Nat → Prop) × Option Addr × Nat × (Nat → Prop) × Option Addr × Nat) 8 #[true, true, true, true, true, false, false, false, false, false, false, false, false] (fun s_ => [(37, .slice s_.2.1 t37.length s_.2.2.1), (39, .agg #[.slice s_.2.2.2.2.1 t39.length s_.2.2.2.2.2])]) (fun s_ w' => Aside0 (St w w' [Ob.S w (Kd.slice 2 (Kd.int .i64)) 26 s_.2.2.2.1 (.slice s_.2.2.2.2.1 t39.length s_.2.2.2.2.2) t39, Ob.R w k63 63 s_.1 (.slice s_.2.1 t37.length s_.2.2.1) t37, Ob.B g5_ (.cells #[.slice A2_0 l2_0.length c2_0] 41 (0, 0)), Ob.B g4_ (.cells #[.slice A1_0 l1_0.length c1_0] 41 (0, 0))]) ∧ Aside0 (t37.length ≤ s_.2.2.1) ∧ Aside0 (t39.length ≤ s_.2.2.2.2.2)) ?_ ?_
            rotate_left
            · intro hJ1_3
              refine join_ (σ := (Nat → Prop) × Option Addr × Nat × Nat) 8 #[true, true, true, false, true, false, false, false, false, false, true, false, false] (fun s_ => [(37, .slice s_.2.1 t37.length s_.2.2.1), (8, .pointer (some ⟨s_.2.2.2, 0, none⟩))]) (fun s_ w' => Aside0 (St w w' [Ob.B s_.2.2.2 (.cells #[.slice none 0 0] 44 (0, 0)), Ob.R w k63 63 s_.1 (.slice s_.2.1 t37.length s_.2.2.1) t37, Ob.B g5_ (.cells #[.slice A2_0 l2_0.length c2_0] 41 (0, 0)), Ob.B g4_ (.cells #[.slice A1_0 l1_0.length c1_0] 41 (0, 0))]) ∧ Aside0 (t37.length ≤ s_.2.2.1)) ?_ ?_
              rotate_left
              · intro hJ1_10
                refine join_ (σ := (Nat → Prop) × Option Addr × Nat) 9 #[true, true, true, false, true, false, false, false, false, false, false, false, false] (fun s_ => [(37, .slice s_.2.1 t37.length s_.2.2)]) (fun s_ w' => Aside0 (St w w' [Ob.R w k63 63 s_.1 (.slice s_.2.1 t37.length s_.2.2) t37, Ob.B g5_ (.cells #[.slice A2_0 l2_0.length c2_0] 41 (0, 0)), Ob.B g4_ (.cells #[.slice A1_0 l1_0.length c1_0] 41 (0, 0))]) ∧ Aside0 (t37.length ≤ s_.2.2)) ?_ ?_
                rotate_left
                · intro hJ1
                  refine join_ (σ := Nat) 9 #[true, false, true, false, true, false, false, false, false, false, true, false, false] (fun s_ => [(8, .pointer (some ⟨s_, 0, none⟩))]) (fun s_ w' => Aside0 (St w w' [Ob.B s_ (.cells #[.slice none 0 0] 44 (0, 0)), Ob.B g5_ (.cells #[.slice A2_0 l2_0.length c2_0] 41 (0, 0)), Ob.B g4_ (.cells #[.slice A1_0 l1_0.length c1_0] 41 (0, 0))])) ?_ ?_
                  rotate_left
                  · intro hJ10
                    refine two_ (i := 1) (j := 10) (Ni := some 37) (Nj := some 8) #[true, true, true, false, true, false, false, false, false, false, false, false, false] #[true, false, true, false, true, false, false, false, false, false, true, false, false] rfl rfl rfl rfl (by kernel_rfl) (by decide) (by decide) (fun K hK => ?_) (fun K hK => ?_)
                    · skip
                      refine goes_ Try.func19 (by kernel_rfl) rfl #[.slice A0 l0.length c0] (by rfl) rfl rfl (by (try simp only [List.map_toArray, List.map_cons, List.map_nil]); first | done | rfl) ?_
                      refine (laws_toDeclS.calls (hr0 := Kd.C_below HR0.out (St.lift H).below) (hc0 := HC0.out) (h := A37.out)).mono ?_
                      rintro e wq11_10 ⟨v0x37, rfl, ho_, hb_⟩
                      refine ⟨_, rfl, ?_⟩
                      obtain ⟨ok37_, a37_, cc37_, rfl, kc37_, H_⟩ := St.callR H hb_ ho_; clear H hb_ ho_; have H := H_; clear H_
                      refine hK.out _ _ ⟨(blk_cell (St.getB H 2 rfl ⟨0, rfl⟩) 0).trans rfl, (blk_cell (St.getB H 1 rfl ⟨0, rfl⟩) 0).trans rfl⟩ (fun hHeld => ?_)
                      clear hK K
                      refine norm_ (a' := ?_) ?_ ?_
                      rotate_left
                      · show Act.put _ (some 37) _ = _
                        simp only [Act.put, List.setIfInBounds_toArray, List.set_cons_zero, List.set_cons_succ, i64_w, i32_w]
                        rfl
                      exact norm_ (by first | (simp only [putAll, Act.put, List.setIfInBounds_toArray, List.set_cons_zero, List.set_cons_succ]; done) | (simp only [putAll, Act.put, List.setIfInBounds_toArray, List.set_cons_zero, List.set_cons_succ]; rfl)) (hJ1 ⟨ok37_, a37_, cc37_⟩ _ ⟨H, kc37_⟩)
                    · skip
                      refine box_step ?hg (N := 8) ?hd (cs := #[.slice none 0 0]) (t := 44) ?hr ?_; (case hd => rfl); (case hg => rfl); (case hr => first | (go_simp; done) | (go_simp; rfl))
                      intro g8_ hg_ wq11_11 hbox_ hb_; replace H := St.box H hg_ hbox_ hb_; clear hg_ hbox_ hb_
                      refine hK.out _ _ ⟨(blk_cell (St.getB H 2 rfl ⟨0, rfl⟩) 0).trans rfl, (blk_cell (St.getB H 1 rfl ⟨0, rfl⟩) 0).trans rfl⟩ (fun hHeld => ?_)
                      clear hK K
                      refine norm_ (a' := ?_) ?_ ?_
                      rotate_left
                      · show Act.put _ (some 8) _ = _
                        simp only [Act.put, List.setIfInBounds_toArray, List.set_cons_zero, List.set_cons_succ, i64_w, i32_w]
                        rfl
                      exact norm_ (by first | (simp only [putAll, Act.put, List.setIfInBounds_toArray, List.set_cons_zero, List.set_cons_succ]; done) | (simp only [putAll, Act.put, List.setIfInBounds_toArray, List.set_cons_zero, List.set_cons_succ]; rfl)) (hJ10 g8_ _ H)
                  · skip
                    clear H hHeld
                    rintro g8_ wn11_9 H
                    try dsimp only at H
                    have hHeld : wn11_9.cell? ⟨g4_, 0, none⟩ = some (.slice A1_0 l1_0.length c1_0) ∧ wn11_9.cell? ⟨g5_, 0, none⟩ = some (.slice A2_0 l2_0.length c2_0) := ⟨(blk_cell (St.getB H 2 rfl ⟨0, rfl⟩) 0).trans rfl, (blk_cell (St.getB H 1 rfl ⟨0, rfl⟩) 0).trans rfl⟩
                    refine norm_ (a' := ?_) ?_ ?_
                    rotate_left
                    · simp only [putAll, Act.put, List.setIfInBounds_toArray, List.set_cons_zero, List.set_cons_succ]
                      rfl
                    refine one_ (i := 1) (N := some 37) #[true, true, true, false, true, false, false, false, false, false, true, false, false] rfl rfl (by kernel_rfl) (by decide) (fun K hK => ?_)
                    refine goes_ Try.func19 (by kernel_rfl) rfl #[.slice A0 l0.length c0] (by rfl) rfl rfl (by (try simp only [List.map_toArray, List.map_cons, List.map_nil]); first | done | rfl) ?_
                    refine (laws_toDeclS.calls (hr0 := Kd.C_below HR0.out (St.lift H).below) (hc0 := HC0.out) (h := A37.out)).mono ?_
                    rintro e wq11_12 ⟨v0x37, rfl, ho_, hb_⟩
                    refine ⟨_, rfl, ?_⟩
                    obtain ⟨ok37_, a37_, cc37_, rfl, kc37_, H_⟩ := St.callR H hb_ ho_; clear H hb_ ho_; have H := H_; clear H_
                    replace H := St.perm H (List.Perm.swap _ _ _)
                    refine hK.out _ _ ⟨(blk_cell (St.getB H 3 rfl ⟨0, rfl⟩) 0).trans rfl, (blk_cell (St.getB H 2 rfl ⟨0, rfl⟩) 0).trans rfl⟩ (fun hHeld => ?_)
                    clear hK K
                    refine norm_ (a' := ?_) ?_ ?_
                    rotate_left
                    · show Act.put _ (some 37) _ = _
                      simp only [Act.put, List.setIfInBounds_toArray, List.set_cons_zero, List.set_cons_succ, i64_w, i32_w]
                      rfl
                    exact norm_ (by first | (simp only [putAll, Act.put, List.setIfInBounds_toArray, List.set_cons_zero, List.set_cons_succ]; done) | (simp only [putAll, Act.put, List.setIfInBounds_toArray, List.set_cons_zero, List.set_cons_succ]; rfl)) (hJ1_10 ⟨ok37_, a37_, cc37_, g8_⟩ _ ⟨H, kc37_⟩)
                · skip
                  clear H hHeld
                  rintro ⟨ok37_, a37_, cc37_⟩ wn11_8 ⟨H, kc37_⟩
                  try dsimp only at H kc37_
                  have hHeld : wn11_8.cell? ⟨g4_, 0, none⟩ = some (.slice A1_0 l1_0.length c1_0) ∧ wn11_8.cell? ⟨g5_, 0, none⟩ = some (.slice A2_0 l2_0.length c2_0) := ⟨(blk_cell (St.getB H 2 rfl ⟨0, rfl⟩) 0).trans rfl, (blk_cell (St.getB H 1 rfl ⟨0, rfl⟩) 0).trans rfl⟩
                  refine norm_ (a' := ?_) ?_ ?_
                  rotate_left
                  · simp only [putAll, Act.put, List.setIfInBounds_toArray, List.set_cons_zero, List.set_cons_succ]
                    rfl
                  refine two_ (i := 3) (j := 10) (Ni := some 39) (Nj := some 8) #[true, true, true, true, true, false, false, false, false, false, false, false, false] #[true, true, true, false, true, false, false, false, false, false, true, false, false] rfl rfl rfl rfl (by kernel_rfl) (by decide) (by decide) (fun K hK => ?_) (fun K hK => ?_)
                  · skip
                    refine goes_ Try.func20 (by kernel_rfl) rfl #[.agg #[.slice A1_0 l1_0.length c1_0]] (by rfl) rfl rfl (by (try simp only [List.map_toArray, List.map_cons, List.map_nil]); first | done | rfl) ?_
                    refine (laws_toCuts.calls (hr0_0 := Kd.C_below HR1_0.out (St.lift H).below) (hc0_0 := HC1_0.out) (h := A39.out)).mono ?_
                    rintro e wq11_13 ⟨v0x39, rfl, ho_, hb_⟩
                    refine ⟨_, rfl, ?_⟩
                    obtain ⟨ok39_, a39_, cc39_, rfl, kc39_, H_⟩ := St.callS H hb_ ho_; clear H hb_ ho_; have H := H_; clear H_
                    refine hK.out _ _ ⟨(blk_cell (St.getB H 3 rfl ⟨0, rfl⟩) 0).trans rfl, (blk_cell (St.getB H 2 rfl ⟨0, rfl⟩) 0).trans rfl⟩ (fun hHeld => ?_)
                    clear hK K
                    refine norm_ (a' := ?_) ?_ ?_
                    rotate_left
                    · show Act.put _ (some 39) _ = _
                      simp only [Act.put, List.setIfInBounds_toArray, List.set_cons_zero, List.set_cons_succ, i64_w, i32_w]
                      rfl
                    exact norm_ (by first | (simp only [putAll, Act.put, List.setIfInBounds_toArray, List.set_cons_zero, List.set_cons_succ]; done) | (simp only [putAll, Act.put, List.setIfInBounds_toArray, List.set_cons_zero, List.set_cons_succ]; rfl)) (hJ1_3 ⟨ok37_, a37_, cc37_, ok39_, a39_, cc39_⟩ _ ⟨H, kc37_, kc39_⟩)
                  · skip
                    refine box_step ?hg (N := 8) ?hd (cs := #[.slice none 0 0]) (t := 44) ?hr ?_; (case hd => rfl); (case hg => rfl); (case hr => first | (go_simp; done) | (go_simp; rfl))
                    intro g8_ hg_ wq11_14 hbox_ hb_; replace H := St.box H hg_ hbox_ hb_; clear hg_ hbox_ hb_
                    refine hK.out _ _ ⟨(blk_cell (St.getB H 3 rfl ⟨0, rfl⟩) 0).trans rfl, (blk_cell (St.getB H 2 rfl ⟨0, rfl⟩) 0).trans rfl⟩ (fun hHeld => ?_)
                    clear hK K
                    refine norm_ (a' := ?_) ?_ ?_
                    rotate_left
                    · show Act.put _ (some 8) _ = _
                      simp only [Act.put, List.setIfInBounds_toArray, List.set_cons_zero, List.set_cons_succ, i64_w, i32_w]
                      rfl
                    exact norm_ (by first | (simp only [putAll, Act.put, List.setIfInBounds_toArray, List.set_cons_zero, List.set_cons_succ]; done) | (simp only [putAll, Act.put, List.setIfInBounds_toArray, List.set_cons_zero, List.set_cons_succ]; rfl)) (hJ1_10 ⟨ok37_, a37_, cc37_, g8_⟩ _ ⟨H, kc37_⟩)
              · skip
                clear H hHeld
                rintro ⟨ok37_, a37_, cc37_, g8_⟩ wn11_7 ⟨H, kc37_⟩
                try dsimp only at H kc37_
                have hHeld : wn11_7.cell? ⟨g4_, 0, none⟩ = some (.slice A1_0 l1_0.length c1_0) ∧ wn11_7.cell? ⟨g5_, 0, none⟩ = some (.slice A2_0 l2_0.length c2_0) := ⟨(blk_cell (St.getB H 3 rfl ⟨0, rfl⟩) 0).trans rfl, (blk_cell (St.getB H 2 rfl ⟨0, rfl⟩) 0).trans rfl⟩
                refine norm_ (a' := ?_) ?_ ?_
                rotate_left
                · simp only [putAll, Act.put, List.setIfInBounds_toArray, List.set_cons_zero, List.set_cons_succ]
                  rfl
                refine one_ (i := 3) (N := some 39) #[true, true, true, true, true, false, false, false, false, false, true, false, false] rfl rfl (by kernel_rfl) (by decide) (fun K hK => ?_)
                refine goes_ Try.func20 (by kernel_rfl) rfl #[.agg #[.slice A1_0 l1_0.length c1_0]] (by rfl) rfl rfl (by (try simp only [List.map_toArray, List.map_cons, List.map_nil]); first | done | rfl) ?_
                refine (laws_toCuts.calls (hr0_0 := Kd.C_below HR1_0.out (St.lift H).below) (hc0_0 := HC1_0.out) (h := A39.out)).mono ?_
                rintro e wq11_15 ⟨v0x39, rfl, ho_, hb_⟩
                refine ⟨_, rfl, ?_⟩
                obtain ⟨ok39_, a39_, cc39_, rfl, kc39_, H_⟩ := St.callS H hb_ ho_; clear H hb_ ho_; have H := H_; clear H_
                replace H := St.perm H (List.Perm.swap _ _ _)
                refine hK.out _ _ ⟨(blk_cell (St.getB H 4 rfl ⟨0, rfl⟩) 0).trans rfl, (blk_cell (St.getB H 3 rfl ⟨0, rfl⟩) 0).trans rfl⟩ (fun hHeld => ?_)
                clear hK K
                refine norm_ (a' := ?_) ?_ ?_
                rotate_left
                · show Act.put _ (some 39) _ = _
                  simp only [Act.put, List.setIfInBounds_toArray, List.set_cons_zero, List.set_cons_succ, i64_w, i32_w]
                  rfl
                exact norm_ (by first | (simp only [putAll, Act.put, List.setIfInBounds_toArray, List.set_cons_zero, List.set_cons_succ]; done) | (simp only [putAll, Act.put, List.setIfInBounds_toArray, List.set_cons_zero, List.set_cons_succ]; rfl)) (hJ1_3_10 ⟨ok37_, a37_, cc37_, ok39_, a39_, cc39_, g8_⟩ _ ⟨H, kc37_, kc39_⟩)
            · skip
              clear H hHeld
              rintro ⟨ok37_, a37_, cc37_, ok39_, a39_, cc39_⟩ wn11_6 ⟨H, kc37_, kc39_⟩
              try dsimp only at H kc37_ kc39_
              have hHeld : wn11_6.cell? ⟨g4_, 0, none⟩ = some (.slice A1_0 l1_0.length c1_0) ∧ wn11_6.cell? ⟨g5_, 0, none⟩ = some (.slice A2_0 l2_0.length c2_0) := ⟨(blk_cell (St.getB H 3 rfl ⟨0, rfl⟩) 0).trans rfl, (blk_cell (St.getB H 2 rfl ⟨0, rfl⟩) 0).trans rfl⟩
              refine norm_ (a' := ?_) ?_ ?_
              rotate_left
              · simp only [putAll, Act.put, List.setIfInBounds_toArray, List.set_cons_zero, List.set_cons_succ]
                rfl
              refine two_ (i := 5) (j := 10) (Ni := some 41) (Nj := some 8) #[true, true, true, true, true, true, false, false, false, false, false, false, false] #[true, true, true, true, true, false, false, false, false, false, true, false, false] rfl rfl rfl rfl (by kernel_rfl) (by decide) (by decide) (fun K hK => ?_) (fun K hK => ?_)
              · skip
                refine goes_ Try.func20 (by kernel_rfl) rfl #[.agg #[.slice A2_0 l2_0.length c2_0]] (by rfl) rfl rfl (by (try simp only [List.map_toArray, List.map_cons, List.map_nil]); first | done | rfl) ?_
                refine (laws_toCuts.calls (hr0_0 := Kd.C_below HR2_0.out (St.lift H).below) (hc0_0 := HC2_0.out) (h := A41.out)).mono ?_
                rintro e wq11_16 ⟨v0x41, rfl, ho_, hb_⟩
                refine ⟨_, rfl, ?_⟩
                obtain ⟨ok41_, a41_, cc41_, rfl, kc41_, H_⟩ := St.callS H hb_ ho_; clear H hb_ ho_; have H := H_; clear H_
                refine hK.out _ _ ⟨(blk_cell (St.getB H 4 rfl ⟨0, rfl⟩) 0).trans rfl, (blk_cell (St.getB H 3 rfl ⟨0, rfl⟩) 0).trans rfl⟩ (fun hHeld => ?_)
                clear hK K
                refine norm_ (a' := ?_) ?_ ?_
                rotate_left
                · show Act.put _ (some 41) _ = _
                  simp only [Act.put, List.setIfInBounds_toArray, List.set_cons_zero, List.set_cons_succ, i64_w, i32_w]
                  rfl
                exact norm_ (by first | (simp only [putAll, Act.put, List.setIfInBounds_toArray, List.set_cons_zero, List.set_cons_succ]; done) | (simp only [putAll, Act.put, List.setIfInBounds_toArray, List.set_cons_zero, List.set_cons_succ]; rfl)) (hJ1_3_5 ⟨ok37_, a37_, cc37_, ok39_, a39_, cc39_, ok41_, a41_, cc41_⟩ _ ⟨H, kc37_, kc39_, kc41_⟩)
              · skip
                refine box_step ?hg (N := 8) ?hd (cs := #[.slice none 0 0]) (t := 44) ?hr ?_; (case hd => rfl); (case hg => rfl); (case hr => first | (go_simp; done) | (go_simp; rfl))
                intro g8_ hg_ wq11_17 hbox_ hb_; replace H := St.box H hg_ hbox_ hb_; clear hg_ hbox_ hb_
                refine hK.out _ _ ⟨(blk_cell (St.getB H 4 rfl ⟨0, rfl⟩) 0).trans rfl, (blk_cell (St.getB H 3 rfl ⟨0, rfl⟩) 0).trans rfl⟩ (fun hHeld => ?_)
                clear hK K
                refine norm_ (a' := ?_) ?_ ?_
                rotate_left
                · show Act.put _ (some 8) _ = _
                  simp only [Act.put, List.setIfInBounds_toArray, List.set_cons_zero, List.set_cons_succ, i64_w, i32_w]
                  rfl
                exact norm_ (by first | (simp only [putAll, Act.put, List.setIfInBounds_toArray, List.set_cons_zero, List.set_cons_succ]; done) | (simp only [putAll, Act.put, List.setIfInBounds_toArray, List.set_cons_zero, List.set_cons_succ]; rfl)) (hJ1_3_10 ⟨ok37_, a37_, cc37_, ok39_, a39_, cc39_, g8_⟩ _ ⟨H, kc37_, kc39_⟩)
          · skip
            clear H hHeld
            rintro ⟨ok37_, a37_, cc37_, ok39_, a39_, cc39_, g8_⟩ wn11_5 ⟨H, kc37_, kc39_⟩
            try dsimp only at H kc37_ kc39_
            have hHeld : wn11_5.cell? ⟨g4_, 0, none⟩ = some (.slice A1_0 l1_0.length c1_0) ∧ wn11_5.cell? ⟨g5_, 0, none⟩ = some (.slice A2_0 l2_0.length c2_0) := ⟨(blk_cell (St.getB H 4 rfl ⟨0, rfl⟩) 0).trans rfl, (blk_cell (St.getB H 3 rfl ⟨0, rfl⟩) 0).trans rfl⟩
            refine norm_ (a' := ?_) ?_ ?_
            rotate_left
            · simp only [putAll, Act.put, List.setIfInBounds_toArray, List.set_cons_zero, List.set_cons_succ]
              rfl
            refine one_ (i := 5) (N := some 41) #[true, true, true, true, true, true, false, false, false, false, true, false, false] rfl rfl (by kernel_rfl) (by decide) (fun K hK => ?_)
            refine goes_ Try.func20 (by kernel_rfl) rfl #[.agg #[.slice A2_0 l2_0.length c2_0]] (by rfl) rfl rfl (by (try simp only [List.map_toArray, List.map_cons, List.map_nil]); first | done | rfl) ?_
            refine (laws_toCuts.calls (hr0_0 := Kd.C_below HR2_0.out (St.lift H).below) (hc0_0 := HC2_0.out) (h := A41.out)).mono ?_
            rintro e wq11_18 ⟨v0x41, rfl, ho_, hb_⟩
            refine ⟨_, rfl, ?_⟩
            obtain ⟨ok41_, a41_, cc41_, rfl, kc41_, H_⟩ := St.callS H hb_ ho_; clear H hb_ ho_; have H := H_; clear H_
            replace H := St.perm H (List.Perm.swap _ _ _)
            refine hK.out _ _ ⟨(blk_cell (St.getB H 5 rfl ⟨0, rfl⟩) 0).trans rfl, (blk_cell (St.getB H 4 rfl ⟨0, rfl⟩) 0).trans rfl⟩ (fun hHeld => ?_)
            clear hK K
            refine norm_ (a' := ?_) ?_ ?_
            rotate_left
            · show Act.put _ (some 41) _ = _
              simp only [Act.put, List.setIfInBounds_toArray, List.set_cons_zero, List.set_cons_succ, i64_w, i32_w]
              rfl
            exact norm_ (by first | (simp only [putAll, Act.put, List.setIfInBounds_toArray, List.set_cons_zero, List.set_cons_succ]; done) | (simp only [putAll, Act.put, List.setIfInBounds_toArray, List.set_cons_zero, List.set_cons_succ]; rfl)) (hJ1_3_5_10 ⟨ok37_, a37_, cc37_, ok39_, a39_, cc39_, ok41_, a41_, cc41_, g8_⟩ _ ⟨H, kc37_, kc39_, kc41_⟩)
        · skip
          clear H hHeld
          rintro ⟨ok37_, a37_, cc37_, ok39_, a39_, cc39_, ok41_, a41_, cc41_⟩ wn11_4 ⟨H, kc37_, kc39_, kc41_⟩
          try dsimp only at H kc37_ kc39_ kc41_
          have hHeld : wn11_4.cell? ⟨g4_, 0, none⟩ = some (.slice A1_0 l1_0.length c1_0) ∧ wn11_4.cell? ⟨g5_, 0, none⟩ = some (.slice A2_0 l2_0.length c2_0) := ⟨(blk_cell (St.getB H 4 rfl ⟨0, rfl⟩) 0).trans rfl, (blk_cell (St.getB H 3 rfl ⟨0, rfl⟩) 0).trans rfl⟩
          refine norm_ (a' := ?_) ?_ ?_
          rotate_left
          · simp only [putAll, Act.put, List.setIfInBounds_toArray, List.set_cons_zero, List.set_cons_succ]
            rfl
          refine two_ (i := 6) (j := 10) (Ni := some 42) (Nj := some 8) #[true, true, true, true, true, true, true, false, false, false, false, false, false] #[true, true, true, true, true, true, false, false, false, false, true, false, false] rfl rfl rfl rfl (by kernel_rfl) (by decide) (by decide) (fun K hK => ?_) (fun K hK => ?_)
          · skip
            refine goes_ Try.func18 (by kernel_rfl) rfl #[.slice a37_ t37.length cc37_, .agg #[.slice a39_ t39.length cc39_], .agg #[.slice a41_ t41.length cc41_]] (by rfl) rfl rfl (by (try simp only [List.map_toArray, List.map_cons, List.map_nil]); first | done | rfl) ?_
            refine (spec_AddCuts.calls (hr0 := (Kd.R_reads' (St.getR H 2 rfl)).2.2) (hc0 := kc37_.out) (hr1_0 := (Kd.S_reads' (St.getS H 1 rfl)).2.2) (hc1_0 := kc39_.out) (hr2_0 := (Kd.S_reads' (St.getS H 0 rfl)).2.2) (hc2_0 := kc41_.out) (h := A42.out)).mono ?_
            rintro e wq11_19 ⟨v0x42, rfl, ho_, hb_⟩
            refine ⟨_, rfl, ?_⟩
            obtain ⟨ok42_, a42_, cc42_, rfl, kc42_, H_⟩ := St.callS H hb_ ho_; clear H hb_ ho_; have H := H_; clear H_
            refine hK.out _ _ ⟨(blk_cell (St.getB H 5 rfl ⟨0, rfl⟩) 0).trans rfl, (blk_cell (St.getB H 4 rfl ⟨0, rfl⟩) 0).trans rfl⟩ (fun hHeld => ?_)
            clear hK K
            refine norm_ (a' := ?_) ?_ ?_
            rotate_left
            · show Act.put _ (some 42) _ = _
              simp only [Act.put, List.setIfInBounds_toArray, List.set_cons_zero, List.set_cons_succ, i64_w, i32_w]
              rfl
            refine pure_ (i := 7) (N := some 35) (v := ?_) (a' := ?_) #[true, true, true, true, true, true, true, true, false, false, false, false, false] rfl rfl (by kernel_rfl) (fun _ _ _ h => h) (Or.inl ⟨by rfl, ?_⟩) ?_ ?_
            rotate_left
            · intro w'
              go_simp
              with_reducible rfl
            rotate_left
            · simp only [Act.put, List.setIfInBounds_toArray, List.set_cons_zero, List.set_cons_succ, i64_w, i32_w]
              rfl
            refine pure_ (i := 8) (N := some 43) (v := ?_) (a' := ?_) #[true, true, true, true, true, true, true, true, true, false, false, false, false] rfl rfl (by kernel_rfl) (fun _ _ _ h => h) (Or.inl ⟨by rfl, ?_⟩) ?_ ?_
            rotate_left
            · intro w'
              go_simp
              with_reducible rfl
            rotate_left
            · simp only [Act.put, List.setIfInBounds_toArray, List.set_cons_zero, List.set_cons_succ, i64_w, i32_w]
              rfl
            refine pure_ (i := 9) (N := some 44) (v := ?_) (a' := ?_) #[true, true, true, true, true, true, true, true, true, true, false, false, false] rfl rfl (by kernel_rfl) (fun _ _ _ h => h) (Or.inl ⟨by rfl, ?_⟩) ?_ ?_
            rotate_left
            · intro w'
              go_simp
              with_reducible rfl
            rotate_left
            · simp only [Act.put, List.setIfInBounds_toArray, List.set_cons_zero, List.set_cons_succ, i64_w, i32_w]
              rfl
            exact norm_ (by first | (simp only [putAll, Act.put, List.setIfInBounds_toArray, List.set_cons_zero, List.set_cons_succ]; done) | (simp only [putAll, Act.put, List.setIfInBounds_toArray, List.set_cons_zero, List.set_cons_succ]; rfl)) (hJ1_3_5_6 ⟨ok37_, a37_, cc37_, ok39_, a39_, cc39_, ok41_, a41_, cc41_, ok42_, a42_, cc42_⟩ _ ⟨H, kc37_, kc39_, kc41_, kc42_⟩)
          · skip
            refine box_step ?hg (N := 8) ?hd (cs := #[.slice none 0 0]) (t := 44) ?hr ?_; (case hd => rfl); (case hg => rfl); (case hr => first | (go_simp; done) | (go_simp; rfl))
            intro g8_ hg_ wq11_20 hbox_ hb_; replace H := St.box H hg_ hbox_ hb_; clear hg_ hbox_ hb_
            refine hK.out _ _ ⟨(blk_cell (St.getB H 5 rfl ⟨0, rfl⟩) 0).trans rfl, (blk_cell (St.getB H 4 rfl ⟨0, rfl⟩) 0).trans rfl⟩ (fun hHeld => ?_)
            clear hK K
            refine norm_ (a' := ?_) ?_ ?_
            rotate_left
            · show Act.put _ (some 8) _ = _
              simp only [Act.put, List.setIfInBounds_toArray, List.set_cons_zero, List.set_cons_succ, i64_w, i32_w]
              rfl
            exact norm_ (by first | (simp only [putAll, Act.put, List.setIfInBounds_toArray, List.set_cons_zero, List.set_cons_succ]; done) | (simp only [putAll, Act.put, List.setIfInBounds_toArray, List.set_cons_zero, List.set_cons_succ]; rfl)) (hJ1_3_5_10 ⟨ok37_, a37_, cc37_, ok39_, a39_, cc39_, ok41_, a41_, cc41_, g8_⟩ _ ⟨H, kc37_, kc39_, kc41_⟩)
      · skip
        clear H hHeld
        rintro ⟨ok37_, a37_, cc37_, ok39_, a39_, cc39_, ok41_, a41_, cc41_, g8_⟩ wn11_3 ⟨H, kc37_, kc39_, kc41_⟩
        try dsimp only at H kc37_ kc39_ kc41_
        have hHeld : wn11_3.cell? ⟨g4_, 0, none⟩ = some (.slice A1_0 l1_0.length c1_0) ∧ wn11_3.cell? ⟨g5_, 0, none⟩ = some (.slice A2_0 l2_0.length c2_0) := ⟨(blk_cell (St.getB H 5 rfl ⟨0, rfl⟩) 0).trans rfl, (blk_cell (St.getB H 4 rfl ⟨0, rfl⟩) 0).trans rfl⟩
        refine norm_ (a' := ?_) ?_ ?_
        rotate_left
        · simp only [putAll, Act.put, List.setIfInBounds_toArray, List.set_cons_zero, List.set_cons_succ]
          rfl
        refine one_ (i := 6) (N := some 42) #[true, true, true, true, true, true, true, false, false, false, true, false, false] rfl rfl (by kernel_rfl) (by decide) (fun K hK => ?_)
        refine goes_ Try.func18 (by kernel_rfl) rfl #[.slice a37_ t37.length cc37_, .agg #[.slice a39_ t39.length cc39_], .agg #[.slice a41_ t41.length cc41_]] (by rfl) rfl rfl (by (try simp only [List.map_toArray, List.map_cons, List.map_nil]); first | done | rfl) ?_
        refine (spec_AddCuts.calls (hr0 := (Kd.R_reads' (St.getR H 3 rfl)).2.2) (hc0 := kc37_.out) (hr1_0 := (Kd.S_reads' (St.getS H 2 rfl)).2.2) (hc1_0 := kc39_.out) (hr2_0 := (Kd.S_reads' (St.getS H 1 rfl)).2.2) (hc2_0 := kc41_.out) (h := A42.out)).mono ?_
        rintro e wq11_21 ⟨v0x42, rfl, ho_, hb_⟩
        refine ⟨_, rfl, ?_⟩
        obtain ⟨ok42_, a42_, cc42_, rfl, kc42_, H_⟩ := St.callS H hb_ ho_; clear H hb_ ho_; have H := H_; clear H_
        replace H := St.perm H (List.Perm.swap _ _ _)
        refine hK.out _ _ ⟨(blk_cell (St.getB H 6 rfl ⟨0, rfl⟩) 0).trans rfl, (blk_cell (St.getB H 5 rfl ⟨0, rfl⟩) 0).trans rfl⟩ (fun hHeld => ?_)
        clear hK K
        refine norm_ (a' := ?_) ?_ ?_
        rotate_left
        · show Act.put _ (some 42) _ = _
          simp only [Act.put, List.setIfInBounds_toArray, List.set_cons_zero, List.set_cons_succ, i64_w, i32_w]
          rfl
        refine pure_ (i := 7) (N := some 35) (v := ?_) (a' := ?_) #[true, true, true, true, true, true, true, true, false, false, true, false, false] rfl rfl (by kernel_rfl) (fun _ _ _ h => h) (Or.inl ⟨by rfl, ?_⟩) ?_ ?_
        rotate_left
        · intro w'
          go_simp
          with_reducible rfl
        rotate_left
        · simp only [Act.put, List.setIfInBounds_toArray, List.set_cons_zero, List.set_cons_succ, i64_w, i32_w]
          rfl
        refine pure_ (i := 8) (N := some 43) (v := ?_) (a' := ?_) #[true, true, true, true, true, true, true, true, true, false, true, false, false] rfl rfl (by kernel_rfl) (fun _ _ _ h => h) (Or.inl ⟨by rfl, ?_⟩) ?_ ?_
        rotate_left
        · intro w'
          go_simp
          with_reducible rfl
        rotate_left
        · simp only [Act.put, List.setIfInBounds_toArray, List.set_cons_zero, List.set_cons_succ, i64_w, i32_w]
          rfl
        refine pure_ (i := 9) (N := some 44) (v := ?_) (a' := ?_) #[true, true, true, true, true, true, true, true, true, true, true, false, false] rfl rfl (by kernel_rfl) (fun _ _ _ h => h) (Or.inl ⟨by rfl, ?_⟩) ?_ ?_
        rotate_left
        · intro w'
          go_simp
          with_reducible rfl
        rotate_left
        · simp only [Act.put, List.setIfInBounds_toArray, List.set_cons_zero, List.set_cons_succ, i64_w, i32_w]
          rfl
        exact norm_ (by first | (simp only [putAll, Act.put, List.setIfInBounds_toArray, List.set_cons_zero, List.set_cons_succ]; done) | (simp only [putAll, Act.put, List.setIfInBounds_toArray, List.set_cons_zero, List.set_cons_succ]; rfl)) (hJ1_3_5_6_10 ⟨ok37_, a37_, cc37_, ok39_, a39_, cc39_, ok41_, a41_, cc41_, ok42_, a42_, cc42_, g8_⟩ _ ⟨H, kc37_, kc39_, kc41_, kc42_⟩)
    · skip
      clear H hHeld
      rintro ⟨ok37_, a37_, cc37_, ok39_, a39_, cc39_, ok41_, a41_, cc41_, ok42_, a42_, cc42_⟩ wn11_2 ⟨H, kc37_, kc39_, kc41_, kc42_⟩
      try dsimp only at H kc37_ kc39_ kc41_ kc42_
      have hHeld : wn11_2.cell? ⟨g4_, 0, none⟩ = some (.slice A1_0 l1_0.length c1_0) ∧ wn11_2.cell? ⟨g5_, 0, none⟩ = some (.slice A2_0 l2_0.length c2_0) := ⟨(blk_cell (St.getB H 5 rfl ⟨0, rfl⟩) 0).trans rfl, (blk_cell (St.getB H 4 rfl ⟨0, rfl⟩) 0).trans rfl⟩
      refine norm_ (a' := ?_) ?_ ?_
      rotate_left
      · simp only [putAll, Act.put, List.setIfInBounds_toArray, List.set_cons_zero, List.set_cons_succ]
        rfl
      refine one_ (i := 10) (N := some 8) #[true, true, true, true, true, true, true, true, true, true, true, false, false] rfl rfl (by kernel_rfl) (by decide) (fun K hK => ?_)
      refine box_step ?hg (N := 8) ?hd (cs := #[.slice none 0 0]) (t := 44) ?hr ?_; (case hd => rfl); (case hg => rfl); (case hr => first | (go_simp; done) | (go_simp; rfl))
      intro g8_ hg_ wq11_22 hbox_ hb_; replace H := St.box H hg_ hbox_ hb_; clear hg_ hbox_ hb_
      refine hK.out _ _ ⟨(blk_cell (St.getB H 6 rfl ⟨0, rfl⟩) 0).trans rfl, (blk_cell (St.getB H 5 rfl ⟨0, rfl⟩) 0).trans rfl⟩ (fun hHeld => ?_)
      clear hK K
      refine norm_ (a' := ?_) ?_ ?_
      rotate_left
      · show Act.put _ (some 8) _ = _
        simp only [Act.put, List.setIfInBounds_toArray, List.set_cons_zero, List.set_cons_succ, i64_w, i32_w]
        rfl
      exact norm_ (by first | (simp only [putAll, Act.put, List.setIfInBounds_toArray, List.set_cons_zero, List.set_cons_succ]; done) | (simp only [putAll, Act.put, List.setIfInBounds_toArray, List.set_cons_zero, List.set_cons_succ]; rfl)) (hJ1_3_5_6_10 ⟨ok37_, a37_, cc37_, ok39_, a39_, cc39_, ok41_, a41_, cc41_, ok42_, a42_, cc42_, g8_⟩ _ ⟨H, kc37_, kc39_, kc41_, kc42_⟩)
  clear H hHeld
  rintro ⟨ok37_, a37_, cc37_, ok39_, a39_, cc39_, ok41_, a41_, cc41_, ok42_, a42_, cc42_, g8_⟩ wn11_1 ⟨H, kc37_, kc39_, kc41_, kc42_⟩
  try dsimp only at H kc37_ kc39_ kc41_ kc42_
  have hHeld : wn11_1.cell? ⟨g4_, 0, none⟩ = some (.slice A1_0 l1_0.length c1_0) ∧ wn11_1.cell? ⟨g5_, 0, none⟩ = some (.slice A2_0 l2_0.length c2_0) := ⟨(blk_cell (St.getB H 6 rfl ⟨0, rfl⟩) 0).trans rfl, (blk_cell (St.getB H 5 rfl ⟨0, rfl⟩) 0).trans rfl⟩
  refine norm_ (a' := ?_) ?_ ?_
  rotate_left
  · simp only [putAll, Act.put, List.setIfInBounds_toArray, List.set_cons_zero, List.set_cons_succ]
    rfl
  refine one_ (i := 11) (N := none) #[true, true, true, true, true, true, true, true, true, true, true, true, false] rfl rfl (by kernel_rfl) (by decide) (fun K hK => ?_)
  have hlo_ := St.lowB H 0 rfl
  have hcs0_ : wn11_1.cell? ⟨g8_, 0, none⟩ = some (.slice none 0 0) := (blk_cell (St.getB H 0 rfl ⟨0, rfl⟩) 0).trans rfl; have hfs0_ : wn11_1.frozen? ⟨g8_, 0, none⟩ = false := blk_frozen (St.getB H 0 rfl ⟨0, rfl⟩) 0
  refine skip_ (w1 := (wn11_1.setCell ⟨g8_, 0, none⟩ (.slice a42_ t42_1.length cc42_))) (by rfl) rfl ?_ ?_
  · first | (go_simp; done) | (go_simp; rfl)
  obtain ⟨wq11_23, hwp_⟩ : ∃ W_, W_ = (wn11_1.setCell ⟨g8_, 0, none⟩ (.slice a42_ t42_1.length cc42_)) := ⟨_, rfl⟩; rw [← hwp_]
  have hkp_ : KeepBut wn11_1 wq11_23 g8_ none := by rw [hwp_]; repeat (first | exact KeepBut.refl _ _ _ | apply KeepBut.set_)
  have hbx_ : wq11_23.heap[g8_]? = some (.cells #[.slice a42_ t42_1.length cc42_] 44 (0, 0)) := by rw [hwp_]; refine blk_put (cs := #[.slice none 0 0]) ?_ 0 _ rfl; exact St.getB H 0 rfl ⟨0, rfl⟩
  have hbl_ : Below w.heap.size w wq11_23 := by rw [hwp_]; repeat (first | exact H.out.below | refine below_set ?_ hlo_)
  replace H := St.store H 0 rfl hkp_ hbx_ hbl_; (try dsimp only [put, cutAt] at H); clear hkp_ hbx_ hbl_ hlo_ hwp_ hcs0_ hfs0_
  refine hK.out _ _ ⟨(blk_cell (St.getB H 6 rfl ⟨0, rfl⟩) 0).trans rfl, (blk_cell (St.getB H 5 rfl ⟨0, rfl⟩) 0).trans rfl⟩ (fun hHeld => ?_)
  clear hK K
  refine pure_ (i := 12) (N := some 9) (v := ?_) (a' := ?_) #[true, true, true, true, true, true, true, true, true, true, true, true, true] rfl rfl (by kernel_rfl) (fun _ _ _ h => h) (Or.inl ⟨by rfl, ?_⟩) ?_ ?_
  rotate_left
  · intro w'
    go_simp
    with_reducible rfl
  rotate_left
  · simp only [Act.put, List.setIfInBounds_toArray, List.set_cons_zero, List.set_cons_succ, i64_w, i32_w]
    rfl
  refine done_ (by kernel_rfl) ?_
  clear hHeld
  replace H := St.drop H 2
  replace H := St.drop H 2
  replace H := St.drop H 2
  (try dsimp only [put, cutAt] at H)
  go_wp2_with (first | ((with_reducible refine gate_dst (N := 46) rfl ?_); go_loud (refine goesL_ (some 46) rfl rfl Try.func19 (by kernel_rfl) rfl #[.slice A0 l0.length c0] rfl (by (try simp only [List.map_toArray, List.map_cons, List.map_nil]); first | done | rfl) ?_; refine (laws_toDeclS.calls (hr0 := Kd.C_below HR0.out (St.lift H).below) (hc0 := HC0.out) (h := A46.out)).mono ?_; rintro e w46 ⟨v0x46, rfl, ho_, hb_⟩; refine ⟨_, rfl, ?_⟩; obtain ⟨ok46_, a46_, cc46_, rfl, kc46_, H_⟩ := St.callR H hb_ ho_; clear H hb_ ho_; have H := H_; clear H_; have hczb4_0 : w46.cell? ⟨g4_, 0, none⟩ = some (.slice A1_0 l1_0.length c1_0) := (blk_cell (St.getB H 4 rfl ⟨0, rfl⟩) 0).trans rfl; have hfzb4_0 : w46.frozen? ⟨g4_, 0, none⟩ = false := blk_frozen (St.getB H 4 rfl ⟨0, rfl⟩) 0)) | ((with_reducible refine gate_dst (N := 48) rfl ?_); go_loud (clear hczb4_0 hfzb4_0; refine goesL_ (some 48) rfl rfl Try.func20 (by kernel_rfl) rfl #[.agg #[.slice A1_0 l1_0.length c1_0]] rfl (by (try simp only [List.map_toArray, List.map_cons, List.map_nil]); first | done | rfl) ?_; refine (laws_toCuts.calls (hr0_0 := Kd.C_below HR1_0.out (St.lift H).below) (hc0_0 := HC1_0.out) (h := A48.out)).mono ?_; rintro e w48 ⟨v0x48, rfl, ho_, hb_⟩; refine ⟨_, rfl, ?_⟩; obtain ⟨ok48_, a48_, cc48_, rfl, kc48_, H_⟩ := St.callS H hb_ ho_; clear H hb_ ho_; have H := H_; clear H_)) | ((with_reducible refine gate_dst (N := 11) rfl ?_); go_loud (refine box_event ?hg (N := 11) ?hd (cs := #[.slice none 0 0]) (t := 44) ?hr ?_; (case hd => rfl); (case hg => rfl); (case hr => first | (go_simp; done) | (go_simp; rfl)); intro g11_ hg_ w11 hbox_ hb_; replace H := St.box H hg_ hbox_ hb_; clear hg_ hbox_ hb_; have hczb11_0 : w11.cell? ⟨g11_, 0, none⟩ = some (.slice none 0 0) := (blk_cell (St.getB H 0 rfl ⟨0, rfl⟩) 0).trans rfl; have hfzb11_0 : w11.frozen? ⟨g11_, 0, none⟩ = false := blk_frozen (St.getB H 0 rfl ⟨0, rfl⟩) 0; have hczb5_0 : w11.cell? ⟨g5_, 0, none⟩ = some (.slice A2_0 l2_0.length c2_0) := (blk_cell (St.getB H 5 rfl ⟨0, rfl⟩) 0).trans rfl; have hfzb5_0 : w11.frozen? ⟨g5_, 0, none⟩ = false := blk_frozen (St.getB H 5 rfl ⟨0, rfl⟩) 0; obtain ⟨hneb11_b5, hneb11_b5x⟩ := St.neB H 0 5 rfl rfl (by decide))) | ((with_reducible refine gate_dst (N := 50) rfl ?_); go_loud (clear hczb11_0 hfzb11_0 hczb5_0 hfzb5_0 hneb11_b5 hneb11_b5x; refine St.abs ?_; intro w50p_ hwp_; have hlo_ := St.lowB H 0 rfl; have hkp_ : KeepBut w11 w50p_ g11_ none := (by rw [hwp_]; repeat (first | exact KeepBut.refl _ _ _ | apply keep_drewN | apply KeepBut.set_)); have hbx_ : w50p_.heap[g11_]? = some (.cells #[.slice a48_ t48.length cc48_] 44 (0, 0)) := (by rw [hwp_]; (with_reducible repeat refine blk_drewN ?_ _); refine blk_put (cs := #[.slice none 0 0]) ?_ 0 _ rfl; (with_reducible repeat refine blk_drewN ?_ _); exact St.getB H 0 rfl ⟨0, rfl⟩); have hbl_ : Below w.heap.size w w50p_ := (by rw [hwp_]; repeat (first | exact H.out.below | apply pw_below_drewN | refine below_set ?_ hlo_)); replace H := St.store H 0 rfl hkp_ hbx_ hbl_; (try dsimp only [put, cutAt] at H); clear hkp_ hbx_ hbl_ hlo_ hwp_; refine goesL_ (some 50) rfl rfl Try.func20 (by kernel_rfl) rfl #[.agg #[.slice A2_0 l2_0.length c2_0]] rfl (by (try simp only [List.map_toArray, List.map_cons, List.map_nil]); first | done | rfl) ?_; refine (laws_toCuts.calls (hr0_0 := Kd.C_below HR2_0.out (St.lift H).below) (hc0_0 := HC2_0.out) (h := A50.out)).mono ?_; rintro e w50 ⟨v0x50, rfl, ho_, hb_⟩; refine ⟨_, rfl, ?_⟩; obtain ⟨ok50_, a50_, cc50_, rfl, kc50_, H_⟩ := St.callS H hb_ ho_; clear H hb_ ho_; have H := H_; clear H_)) | ((with_reducible refine gate_dst (N := 12) rfl ?_); go_loud (refine box_event ?hg (N := 12) ?hd (cs := #[.slice none 0 0]) (t := 44) ?hr ?_; (case hd => rfl); (case hg => rfl); (case hr => first | (go_simp; done) | (go_simp; rfl)); intro g12_ hg_ w12 hbox_ hb_; replace H := St.box H hg_ hbox_ hb_; clear hg_ hbox_ hb_; have hczb12_0 : w12.cell? ⟨g12_, 0, none⟩ = some (.slice none 0 0) := (blk_cell (St.getB H 0 rfl ⟨0, rfl⟩) 0).trans rfl; have hfzb12_0 : w12.frozen? ⟨g12_, 0, none⟩ = false := blk_frozen (St.getB H 0 rfl ⟨0, rfl⟩) 0; have hczb11_0 : w12.cell? ⟨g11_, 0, none⟩ = some (.slice a48_ t48.length cc48_) := (blk_cell (St.getB H 2 rfl ⟨0, rfl⟩) 0).trans rfl; have hfzb11_0 : w12.frozen? ⟨g11_, 0, none⟩ = false := blk_frozen (St.getB H 2 rfl ⟨0, rfl⟩) 0; obtain ⟨hneb11_b12, hneb11_b12x⟩ := St.neB H 0 2 rfl rfl (by decide))) | ((with_reducible refine gate_dst (N := 55) rfl ?_); go_loud (clear hczb12_0 hfzb12_0 hczb11_0 hfzb11_0 hneb11_b12 hneb11_b12x; refine St.abs ?_; intro w55p_ hwp_; have hlo_ := St.lowB H 0 rfl; have hkp_ : KeepBut w12 w55p_ g12_ none := (by rw [hwp_]; repeat (first | exact KeepBut.refl _ _ _ | apply keep_drewN | apply KeepBut.set_)); have hbx_ : w55p_.heap[g12_]? = some (.cells #[.slice a50_ t50.length cc50_] 44 (0, 0)) := (by rw [hwp_]; (with_reducible repeat refine blk_drewN ?_ _); refine blk_put (cs := #[.slice none 0 0]) ?_ 0 _ rfl; (with_reducible repeat refine blk_drewN ?_ _); exact St.getB H 0 rfl ⟨0, rfl⟩); have hbl_ : Below w.heap.size w w55p_ := (by rw [hwp_]; repeat (first | exact H.out.below | apply pw_below_drewN | refine below_set ?_ hlo_)); replace H := St.store H 0 rfl hkp_ hbx_ hbl_; (try dsimp only [put, cutAt] at H); clear hkp_ hbx_ hbl_ hlo_ hwp_; refine goesL_ (some 55) rfl rfl Try.func21 (by kernel_rfl) rfl #[.slice a46_ t46.length cc46_, .agg #[.slice a48_ t48.length cc48_], .agg #[.slice a50_ t50.length cc50_]] rfl (by (try simp only [List.map_toArray, List.map_cons, List.map_nil]); first | done | rfl) ?_; refine (impl_AddCuts.calls (hr0 := (Kd.R_reads' (St.getR H 4 rfl)).2.2) (hc0 := kc46_.out) (hr1_0 := (Kd.S_reads' (St.getS H 3 rfl)).2.2) (hc1_0 := kc48_.out) (hr2_0 := (Kd.S_reads' (St.getS H 1 rfl)).2.2) (hc2_0 := kc50_.out) (h := A55.out)).mono ?_; rintro e w55 ⟨v0x55, rfl, ho_, hb_⟩; refine ⟨_, rfl, ?_⟩; obtain ⟨ok55_, a55_, cc55_, rfl, kc55_, H_⟩ := St.callS H hb_ ho_; clear H hb_ ho_; have H := H_; clear H_)) | ((with_reducible refine gate_dst (N := 13) rfl ?_); go_loud (refine box_event ?hg (N := 13) ?hd (cs := #[.slice none 0 0]) (t := 44) ?hr ?_; (case hd => rfl); (case hg => rfl); (case hr => first | (go_simp; done) | (go_simp; rfl)); intro g13_ hg_ w13 hbox_ hb_; replace H := St.box H hg_ hbox_ hb_; clear hg_ hbox_ hb_; have hczb13_0 : w13.cell? ⟨g13_, 0, none⟩ = some (.slice none 0 0) := (blk_cell (St.getB H 0 rfl ⟨0, rfl⟩) 0).trans rfl; have hfzb13_0 : w13.frozen? ⟨g13_, 0, none⟩ = false := blk_frozen (St.getB H 0 rfl ⟨0, rfl⟩) 0; have hczb8_0 : w13.cell? ⟨g8_, 0, none⟩ = some (.slice a42_ t42_1.length cc42_) := (blk_cell (St.getB H 7 rfl ⟨0, rfl⟩) 0).trans rfl; have hfzb8_0 : w13.frozen? ⟨g8_, 0, none⟩ = false := blk_frozen (St.getB H 7 rfl ⟨0, rfl⟩) 0; obtain ⟨hneb13_b8, hneb13_b8x⟩ := St.neB H 0 7 rfl rfl (by decide))) | ((with_reducible refine gate_dst (N := 60) rfl ?_); go_loud (clear hczb13_0 hfzb13_0 hczb8_0 hfzb8_0 hneb13_b8 hneb13_b8x; refine St.abs ?_; intro w60p_ hwp_; have hlo_ := St.lowB H 0 rfl; have hkp_ : KeepBut w13 w60p_ g13_ none := (by rw [hwp_]; repeat (first | exact KeepBut.refl _ _ _ | apply keep_drewN | apply KeepBut.set_)); have hbx_ : w60p_.heap[g13_]? = some (.cells #[.slice a55_ t55_1.length cc55_] 44 (0, 0)) := (by rw [hwp_]; (with_reducible repeat refine blk_drewN ?_ _); refine blk_put (cs := #[.slice none 0 0]) ?_ 0 _ rfl; (with_reducible repeat refine blk_drewN ?_ _); exact St.getB H 0 rfl ⟨0, rfl⟩); have hbl_ : Below w.heap.size w w60p_ := (by rw [hwp_]; repeat (first | exact H.out.below | apply pw_below_drewN | refine below_set ?_ hlo_)); replace H := St.store H 0 rfl hkp_ hbx_ hbl_; (try dsimp only [put, cutAt] at H); clear hkp_ hbx_ hbl_ hlo_ hwp_; refine goesL_ (some 60) rfl rfl Try.func22 (by kernel_rfl) rfl #[.agg #[.slice a55_ t55_1.length cc55_], .agg #[.slice a42_ t42_1.length cc42_]] rfl (by (try simp only [List.map_toArray, List.map_cons, List.map_nil]); first | done | rfl) ?_; refine (laws_eqCuts.calls (hr0_0 := (Kd.S_reads' (St.getS H 1 rfl)).2.2) (hc0_0 := kc55_.out) (hr1_0 := (Kd.S_reads' (St.getS H 8 rfl)).2.2) (hc1_0 := kc42_.out) (h := A60.out)).mono ?_; rintro e w60 ⟨rfl, hb_⟩; refine ⟨_, rfl, ?_⟩; replace H := St.call H hb_; clear hb_)) | ((with_reducible refine gate_dst (N := 69) rfl ?_); go_loud (refine goesL_ (some 69) rfl rfl Try.func19 (by kernel_rfl) rfl #[.slice A0 l0.length c0] rfl (by (try simp only [List.map_toArray, List.map_cons, List.map_nil]); first | done | rfl) ?_; refine (laws_toDeclS.calls (hr0 := Kd.C_below HR0.out (St.lift H).below) (hc0 := HC0.out) (h := A69.out)).mono ?_; rintro e w69 ⟨v0x69, rfl, ho_, hb_⟩; refine ⟨_, rfl, ?_⟩; obtain ⟨ok69_, a69_, cc69_, rfl, kc69_, H_⟩ := St.callR H hb_ ho_; clear H hb_ ho_; have H := H_; clear H_)) | ((with_reducible refine gate_dst (N := 70) rfl ?_); go_loud (refine goesL_ (some 70) rfl rfl Try.func23 (by kernel_rfl) rfl #[.slice a46_ t46.length cc46_, .slice a69_ t69.length cc69_] rfl (by (try simp only [List.map_toArray, List.map_cons, List.map_nil]); first | done | rfl) ?_; refine (laws_eqDeclS.calls (hr0 := (Kd.R_reads' (St.getR H 7 rfl)).2.2) (hc0 := kc46_.out) (hr1 := (Kd.R_reads' (St.getR H 0 rfl)).2.2) (hc1 := kc69_.out) (h := A70.out)).mono ?_; rintro e w70 ⟨rfl, hb_⟩; refine ⟨_, rfl, ?_⟩; replace H := St.call H hb_; clear hb_; replace H := St.drop H 0; (try dsimp only [put, cutAt] at H))))
  refine St.start (n := 5) (S := fun w' => w'.cell? ⟨g11_, 0, none⟩ = some (.slice a48_ t48.length cc48_) ∧ w'.cell? ⟨g4_, 0, none⟩ = some (.slice A1_0 l1_0.length c1_0)) (ds := []) #[false, false, false, false, false] (by kernel_rfl) rfl rfl (fun wr20 hwp_ => ?_)
  replace H := St.call H (show Below w70.heap.size w70 wr20 from (by rw [hwp_]; repeat (first | exact Below.refl _ _ | apply pw_below_drewN | apply below_drew1))) ⟨0, rfl⟩; clear hwp_
  refine ⟨⟨(blk_cell (St.getB H 4 rfl ⟨0, rfl⟩) 0).trans rfl, (blk_cell (St.getB H 10 rfl ⟨0, rfl⟩) 0).trans rfl⟩, fun hHeld => ?_⟩
  refine take_ (i := 0) (N := some 72) (v := ?_) (a' := ?_) #[true, false, false, false, false] rfl rfl (by kernel_rfl) (fun _ _ _ h => h) (Or.inl ⟨by rfl, ?_⟩) hHeld ?_ ?_
  rotate_left
  · rintro w' ⟨s0, s1⟩
    go_simp
    with_reducible rfl
  rotate_left
  · simp only [Act.put, List.setIfInBounds_toArray, List.set_cons_zero, List.set_cons_succ, i64_w, i32_w]
    rfl
  refine take_ (i := 1) (N := some 73) (v := ?_) (a' := ?_) #[true, true, false, false, false] rfl rfl (by kernel_rfl) (fun _ _ _ h => h) (Or.inl ⟨by rfl, ?_⟩) hHeld ?_ ?_
  rotate_left
  · rintro w' ⟨s0, s1⟩
    go_simp
    with_reducible rfl
  rotate_left
  · simp only [Act.put, List.setIfInBounds_toArray, List.set_cons_zero, List.set_cons_succ, i64_w, i32_w]
    rfl
  refine one_ (i := 2) (N := some 74) #[true, true, true, false, false] rfl rfl (by kernel_rfl) (by decide) (fun K hK => ?_)
  refine goes_ Try.func20 (by kernel_rfl) rfl #[.agg #[.slice A1_0 l1_0.length c1_0]] (by rfl) rfl rfl (by (try simp only [List.map_toArray, List.map_cons, List.map_nil]); first | done | rfl) ?_
  refine (laws_toCuts.calls (hr0_0 := Kd.C_below HR1_0.out (St.lift H).below) (hc0_0 := HC1_0.out) (h := A74.out)).mono ?_
  rintro e wq20_1 ⟨v0x74, rfl, ho_, hb_⟩
  refine ⟨_, rfl, ?_⟩
  obtain ⟨ok74_, a74_, cc74_, rfl, kc74_, H_⟩ := St.callS H hb_ ho_; clear H hb_ ho_; have H := H_; clear H_
  refine hK.out _ _ ⟨(blk_cell (St.getB H 5 rfl ⟨0, rfl⟩) 0).trans rfl, (blk_cell (St.getB H 11 rfl ⟨0, rfl⟩) 0).trans rfl⟩ (fun hHeld => ?_)
  clear hK K
  refine norm_ (a' := ?_) ?_ ?_
  rotate_left
  · show Act.put _ (some 74) _ = _
    simp only [Act.put, List.setIfInBounds_toArray, List.set_cons_zero, List.set_cons_succ, i64_w, i32_w]
    rfl
  refine one_ (i := 3) (N := some 75) #[true, true, true, true, false] rfl rfl (by kernel_rfl) (by decide) (fun K hK => ?_)
  refine goes_ Try.func22 (by kernel_rfl) rfl #[.agg #[.slice a48_ t48.length cc48_], .agg #[.slice a74_ t74.length cc74_]] (by rfl) rfl rfl (by (try simp only [List.map_toArray, List.map_cons, List.map_nil]); first | done | rfl) ?_
  refine (laws_eqCuts.calls (hr0_0 := (Kd.S_reads' (St.getS H 6 rfl)).2.2) (hc0_0 := kc48_.out) (hr1_0 := (Kd.S_reads' (St.getS H 0 rfl)).2.2) (hc1_0 := kc74_.out) (h := A75.out)).mono ?_
  rintro e wq20_2 ⟨rfl, hb_⟩
  refine ⟨_, rfl, ?_⟩
  replace H := St.call H hb_; clear hb_
  refine hK.out _ _ ⟨(blk_cell (St.getB H 5 rfl ⟨0, rfl⟩) 0).trans rfl, (blk_cell (St.getB H 11 rfl ⟨0, rfl⟩) 0).trans rfl⟩ (fun hHeld => ?_)
  clear hK K
  refine norm_ (a' := ?_) ?_ ?_
  rotate_left
  · show Act.put _ (some 75) _ = _
    simp only [Act.put, List.setIfInBounds_toArray, List.set_cons_zero, List.set_cons_succ, i64_w, i32_w]
    rfl
  refine pure_ (i := 4) (N := some 76) (v := ?_) (a' := ?_) #[true, true, true, true, true] rfl rfl (by kernel_rfl) (fun _ _ _ h => h) (Or.inl ⟨by rfl, ?_⟩) ?_ ?_
  rotate_left
  · intro w'
    go_simp
    with_reducible rfl
  rotate_left
  · simp only [Act.put, List.setIfInBounds_toArray, List.set_cons_zero, List.set_cons_succ, i64_w, i32_w]
    rfl
  refine done_ (by kernel_rfl) ?_
  clear hHeld
  replace H := St.drop H 0
  (try dsimp only [put, cutAt] at H)
  go_wp2_with (fail)
  refine St.start (n := 5) (S := fun w' => w'.cell? ⟨g12_, 0, none⟩ = some (.slice a50_ t50.length cc50_) ∧ w'.cell? ⟨g5_, 0, none⟩ = some (.slice A2_0 l2_0.length c2_0)) (ds := []) #[false, false, false, false, false] (by kernel_rfl) rfl rfl (fun wr22 hwp_ => ?_)
  replace H := St.call H (show Below wq20_2.heap.size wq20_2 wr22 from (by rw [hwp_]; repeat (first | exact Below.refl _ _ | apply pw_below_drewN | apply below_drew1))) ⟨0, rfl⟩; clear hwp_
  refine ⟨⟨(blk_cell (St.getB H 2 rfl ⟨0, rfl⟩) 0).trans rfl, (blk_cell (St.getB H 9 rfl ⟨0, rfl⟩) 0).trans rfl⟩, fun hHeld => ?_⟩
  refine take_ (i := 0) (N := some 77) (v := ?_) (a' := ?_) #[true, false, false, false, false] rfl rfl (by kernel_rfl) (fun _ _ _ h => h) (Or.inl ⟨by rfl, ?_⟩) hHeld ?_ ?_
  rotate_left
  · rintro w' ⟨s0, s1⟩
    go_simp
    with_reducible rfl
  rotate_left
  · simp only [Act.put, List.setIfInBounds_toArray, List.set_cons_zero, List.set_cons_succ, i64_w, i32_w]
    rfl
  refine take_ (i := 1) (N := some 78) (v := ?_) (a' := ?_) #[true, true, false, false, false] rfl rfl (by kernel_rfl) (fun _ _ _ h => h) (Or.inl ⟨by rfl, ?_⟩) hHeld ?_ ?_
  rotate_left
  · rintro w' ⟨s0, s1⟩
    go_simp
    with_reducible rfl
  rotate_left
  · simp only [Act.put, List.setIfInBounds_toArray, List.set_cons_zero, List.set_cons_succ, i64_w, i32_w]
    rfl
  refine one_ (i := 2) (N := some 79) #[true, true, true, false, false] rfl rfl (by kernel_rfl) (by decide) (fun K hK => ?_)
  refine goes_ Try.func20 (by kernel_rfl) rfl #[.agg #[.slice A2_0 l2_0.length c2_0]] (by rfl) rfl rfl (by (try simp only [List.map_toArray, List.map_cons, List.map_nil]); first | done | rfl) ?_
  refine (laws_toCuts.calls (hr0_0 := Kd.C_below HR2_0.out (St.lift H).below) (hc0_0 := HC2_0.out) (h := A79.out)).mono ?_
  rintro e wq22_1 ⟨v0x79, rfl, ho_, hb_⟩
  refine ⟨_, rfl, ?_⟩
  obtain ⟨ok79_, a79_, cc79_, rfl, kc79_, H_⟩ := St.callS H hb_ ho_; clear H hb_ ho_; have H := H_; clear H_
  refine hK.out _ _ ⟨(blk_cell (St.getB H 3 rfl ⟨0, rfl⟩) 0).trans rfl, (blk_cell (St.getB H 10 rfl ⟨0, rfl⟩) 0).trans rfl⟩ (fun hHeld => ?_)
  clear hK K
  refine norm_ (a' := ?_) ?_ ?_
  rotate_left
  · show Act.put _ (some 79) _ = _
    simp only [Act.put, List.setIfInBounds_toArray, List.set_cons_zero, List.set_cons_succ, i64_w, i32_w]
    rfl
  refine one_ (i := 3) (N := some 80) #[true, true, true, true, false] rfl rfl (by kernel_rfl) (by decide) (fun K hK => ?_)
  refine goes_ Try.func22 (by kernel_rfl) rfl #[.agg #[.slice a50_ t50.length cc50_], .agg #[.slice a79_ t79.length cc79_]] (by rfl) rfl rfl (by (try simp only [List.map_toArray, List.map_cons, List.map_nil]); first | done | rfl) ?_
  refine (laws_eqCuts.calls (hr0_0 := (Kd.S_reads' (St.getS H 4 rfl)).2.2) (hc0_0 := kc50_.out) (hr1_0 := (Kd.S_reads' (St.getS H 0 rfl)).2.2) (hc1_0 := kc79_.out) (h := A80.out)).mono ?_
  rintro e wq22_2 ⟨rfl, hb_⟩
  refine ⟨_, rfl, ?_⟩
  replace H := St.call H hb_; clear hb_
  refine hK.out _ _ ⟨(blk_cell (St.getB H 3 rfl ⟨0, rfl⟩) 0).trans rfl, (blk_cell (St.getB H 10 rfl ⟨0, rfl⟩) 0).trans rfl⟩ (fun hHeld => ?_)
  clear hK K
  refine norm_ (a' := ?_) ?_ ?_
  rotate_left
  · show Act.put _ (some 80) _ = _
    simp only [Act.put, List.setIfInBounds_toArray, List.set_cons_zero, List.set_cons_succ, i64_w, i32_w]
    rfl
  refine pure_ (i := 4) (N := some 81) (v := ?_) (a' := ?_) #[true, true, true, true, true] rfl rfl (by kernel_rfl) (fun _ _ _ h => h) (Or.inl ⟨by rfl, ?_⟩) ?_ ?_
  rotate_left
  · intro w'
    go_simp
    with_reducible rfl
  rotate_left
  · simp only [Act.put, List.setIfInBounds_toArray, List.set_cons_zero, List.set_cons_succ, i64_w, i32_w]
    rfl
  refine done_ (by kernel_rfl) ?_
  clear hHeld
  replace H := St.drop H 0
  (try dsimp only [put, cutAt] at H)
  go_wp2_with (first | ((with_reducible refine gate_dst (N := 84) rfl ?_); go_loud (refine goesL_ (some 84) rfl rfl Try.func24 (by kernel_rfl) rfl #[.slice a46_ t46.length cc46_, .int .i64 1] rfl (by (try simp only [List.map_toArray, List.map_cons, List.map_nil]); first | done | rfl) ?_; refine (laws_markDeclS.calls (P0_ := ok46_) (u9000_ := .slice a46_ t46.length cc46_) (ho0 := St.getR H 6 rfl) (hB := (St.lift H).below) (h := A84.out)).mono ?_; rintro e w84 ⟨rfl, hs_, hb_, hk_⟩; refine ⟨_, rfl, ?_⟩; replace H := St.markR H 6 rfl hs_ hb_ hk_; (try dsimp only [put, cutAt] at H); clear hs_ hb_ hk_; replace H := St.drop H 6; (try dsimp only [put, cutAt] at H); have hczb11_0 : w84.cell? ⟨g11_, 0, none⟩ = some (.slice a48_ t48.length cc48_) := (blk_cell (St.getB H 4 rfl ⟨0, rfl⟩) 0).trans rfl; have hfzb11_0 : w84.frozen? ⟨g11_, 0, none⟩ = false := blk_frozen (St.getB H 4 rfl ⟨0, rfl⟩) 0)) | ((with_reducible refine gate_dst (N := 87) rfl ?_); go_loud (clear hczb11_0 hfzb11_0; refine goesL_ (some 87) rfl rfl Try.func25 (by kernel_rfl) rfl #[.agg #[.slice a48_ t48.length cc48_], .int .i64 t84_1] rfl (by (try simp only [List.map_toArray, List.map_cons, List.map_nil]); first | done | rfl) ?_; refine (laws_markCuts.calls (P0_0_ := ok48_) (u9000_ := .slice a48_ t48.length cc48_) (ho0_0 := St.getS H 5 rfl) (hB := (St.lift H).below) (h := A87.out)).mono ?_; rintro e w87 ⟨rfl, hs_, hb_, hk_⟩; refine ⟨_, rfl, ?_⟩; replace H := St.markS H 5 rfl hs_ hb_ hk_; (try dsimp only [put, cutAt] at H); clear hs_ hb_ hk_; replace H := St.drop H 4; replace H := St.drop H 4; (try dsimp only [put, cutAt] at H); have hczb12_0 : w87.cell? ⟨g12_, 0, none⟩ = some (.slice a50_ t50.length cc50_) := (blk_cell (St.getB H 2 rfl ⟨0, rfl⟩) 0).trans rfl; have hfzb12_0 : w87.frozen? ⟨g12_, 0, none⟩ = false := blk_frozen (St.getB H 2 rfl ⟨0, rfl⟩) 0)) | ((with_reducible refine gate_dst (N := 90) rfl ?_); go_loud (clear hczb12_0 hfzb12_0; refine goesL_ (some 90) rfl rfl Try.func25 (by kernel_rfl) rfl #[.agg #[.slice a50_ t50.length cc50_], .int .i64 t87_1] rfl (by (try simp only [List.map_toArray, List.map_cons, List.map_nil]); first | done | rfl) ?_; refine (laws_markCuts.calls (P0_0_ := ok50_) (u9000_ := .slice a50_ t50.length cc50_) (ho0_0 := St.getS H 3 rfl) (hB := (St.lift H).below) (h := A90.out)).mono ?_; rintro e w90 ⟨rfl, hs_, hb_, hk_⟩; refine ⟨_, rfl, ?_⟩; replace H := St.markS H 3 rfl hs_ hb_ hk_; (try dsimp only [put, cutAt] at H); clear hs_ hb_ hk_; replace H := St.drop H 2; replace H := St.drop H 2; (try dsimp only [put, cutAt] at H); have hczb13_0 : w90.cell? ⟨g13_, 0, none⟩ = some (.slice a55_ t55_1.length cc55_) := (blk_cell (St.getB H 0 rfl ⟨0, rfl⟩) 0).trans rfl; have hfzb13_0 : w90.frozen? ⟨g13_, 0, none⟩ = false := blk_frozen (St.getB H 0 rfl ⟨0, rfl⟩) 0; have hczb8_0 : w90.cell? ⟨g8_, 0, none⟩ = some (.slice a42_ t42_1.length cc42_) := (blk_cell (St.getB H 2 rfl ⟨0, rfl⟩) 0).trans rfl; have hfzb8_0 : w90.frozen? ⟨g8_, 0, none⟩ = false := blk_frozen (St.getB H 2 rfl ⟨0, rfl⟩) 0)) | ((with_reducible refine gate_dst (N := 106) rfl ?_); go_loud (clear hczb13_0 hfzb13_0; refine goesL_ (some 106) rfl rfl Try.func25 (by kernel_rfl) rfl #[.agg #[.slice a55_ t55_1.length cc55_], .int .i64 1] rfl (by (try simp only [List.map_toArray, List.map_cons, List.map_nil]); first | done | rfl) ?_; refine (laws_markCuts.calls (P0_0_ := ok55_) (u9000_ := .slice a55_ t55_1.length cc55_) (ho0_0 := St.getS H 1 rfl) (hB := (St.lift H).below) (h := A106.out)).mono ?_; rintro e w106 ⟨rfl, hs_, hb_, hk_⟩; refine ⟨_, rfl, ?_⟩; replace H := St.markS H 1 rfl hs_ hb_ hk_; (try dsimp only [put, cutAt] at H); have e_ := (Kd.S_reads' hs_).1; have kc55_m := Aside0.mk (Kd.S_reads' hs_).2.1; rw [e_] at H kc55_m; obtain ⟨ok55_m, H_⟩ : ∃ ok_, Aside0 (St w w106 [Ob.B g13_ (.cells #[.slice a55_ t106_2.length cc55_] 44 (0, 0)), Ob.S w (Kd.slice 2 (Kd.int .i64)) 26 ok_ (.slice a55_ t106_2.length cc55_) t106_2, Ob.B g8_ (.cells #[.slice a42_ t42_1.length cc42_] 44 (0, 0)), Ob.S w (Kd.slice 2 (Kd.int .i64)) 26 ok42_ (.slice a42_ t42_1.length cc42_) t42_1, Ob.B g5_ (.cells #[.slice A2_0 l2_0.length c2_0] 41 (0, 0)), Ob.B g4_ (.cells #[.slice A1_0 l1_0.length c1_0] 41 (0, 0))]) := ⟨_, H⟩; clear H; have H := H_; clear H_; clear hs_ hb_ hk_; (rw [e_]); clear e_; have hczb13_0 : w106.cell? ⟨g13_, 0, none⟩ = some (.slice a55_ t106_2.length cc55_) := (blk_cell (St.getB H 0 rfl ⟨0, rfl⟩) 0).trans rfl; have hfzb13_0 : w106.frozen? ⟨g13_, 0, none⟩ = false := blk_frozen (St.getB H 0 rfl ⟨0, rfl⟩) 0)) | ((with_reducible refine gate_dst (N := 109) rfl ?_); go_loud (clear hczb13_0 hfzb13_0; refine goesL_ (some 109) rfl rfl Try.func26 (by kernel_rfl) rfl #[.agg #[.slice a55_ t106_2.length cc55_], .int .i64 1] rfl (by (try simp only [List.map_toArray, List.map_cons, List.map_nil]); first | done | rfl) ?_; refine (laws_heldCuts.calls (hr0_0 := (Kd.S_reads' (St.getS H 1 rfl)).2.2) (hc0_0 := kc55_m.out) (h := A109.out)).mono ?_; rintro e w109 ⟨rfl, hb_⟩; refine ⟨_, rfl, ?_⟩; replace H := St.call H hb_; clear hb_)) | (go_at_call 22; go_loud (clear hczb13_0 hfzb13_0 hczb8_0 hfzb8_0; refine (laws_eqCuts.calls (hr0_0 := (Kd.S_reads' (St.getS H 1 rfl)).2.2) (hc0_0 := kc55_.out) (hr1_0 := (Kd.S_reads' (St.getS H 3 rfl)).2.2) (hc1_0 := kc42_.out) (h := A96.out)).mono ?_; rintro e w96 ⟨rfl, hb_⟩; replace H := St.call H hb_; clear hb_; have hczb13_0 : w96.cell? ⟨g13_, 0, none⟩ = some (.slice a55_ t55_1.length cc55_) := (blk_cell (St.getB H 0 rfl ⟨0, rfl⟩) 0).trans rfl; have hfzb13_0 : w96.frozen? ⟨g13_, 0, none⟩ = false := blk_frozen (St.getB H 0 rfl ⟨0, rfl⟩) 0)))
  refine St.start (n := 13) (S := fun w' => w'.cell? ⟨g4_, 0, none⟩ = some (.slice A1_0 l1_0.length c1_0) ∧ w'.cell? ⟨g5_, 0, none⟩ = some (.slice A2_0 l2_0.length c2_0)) (ds := []) #[false, false, false, false, false, false, false, false, false, false, false, false, false] (by kernel_rfl) rfl rfl (fun wr38 hwp_ => ?_)
  replace H := St.call H (show Below w109.heap.size w109 wr38 from (by rw [hwp_]; repeat (first | exact Below.refl _ _ | apply pw_below_drewN | apply below_drew1))) ⟨0, rfl⟩; clear hwp_
  refine ⟨⟨(blk_cell (St.getB H 5 rfl ⟨0, rfl⟩) 0).trans rfl, (blk_cell (St.getB H 4 rfl ⟨0, rfl⟩) 0).trans rfl⟩, fun hHeld => ?_⟩
  refine pure_ (i := 0) (N := some 116) (v := ?_) (a' := ?_) #[true, false, false, false, false, false, false, false, false, false, false, false, false] rfl rfl (by kernel_rfl) (fun _ _ _ h => h) (Or.inl ⟨by rfl, ?_⟩) ?_ ?_
  rotate_left
  · intro w'
    go_simp
    with_reducible rfl
  rotate_left
  · simp only [Act.put, List.setIfInBounds_toArray, List.set_cons_zero, List.set_cons_succ, i64_w, i32_w]
    rfl
  refine take_ (i := 2) (N := some 118) (v := ?_) (a' := ?_) #[true, false, true, false, false, false, false, false, false, false, false, false, false] rfl rfl (by kernel_rfl) (fun _ _ _ h => h) (Or.inl ⟨by rfl, ?_⟩) hHeld ?_ ?_
  rotate_left
  · rintro w' ⟨s0, s1⟩
    go_simp
    with_reducible rfl
  rotate_left
  · simp only [Act.put, List.setIfInBounds_toArray, List.set_cons_zero, List.set_cons_succ, i64_w, i32_w]
    rfl
  refine take_ (i := 4) (N := some 120) (v := ?_) (a' := ?_) #[true, false, true, false, true, false, false, false, false, false, false, false, false] rfl rfl (by kernel_rfl) (fun _ _ _ h => h) (Or.inl ⟨by rfl, ?_⟩) hHeld ?_ ?_
  rotate_left
  · rintro w' ⟨s0, s1⟩
    go_simp
    with_reducible rfl
  rotate_left
  · simp only [Act.put, List.setIfInBounds_toArray, List.set_cons_zero, List.set_cons_succ, i64_w, i32_w]
    rfl
  refine join_ (σ := (Nat → Prop) × Option Addr × Nat × (Nat → Prop) × Option Addr × Nat × (Nat → Prop) × Option Addr × Nat × (Nat → Prop) × Option Addr × Nat × Nat) 2 #[true, true, true, true, true, true, true, true, true, true, true, false, false] (fun s_ => [(117, .slice s_.2.1 t117.length s_.2.2.1), (119, .agg #[.slice s_.2.2.2.2.1 t119.length s_.2.2.2.2.2.1]), (121, .agg #[.slice s_.2.2.2.2.2.2.2.1 t121.length s_.2.2.2.2.2.2.2.2.1]), (122, .tuple #[.agg #[.slice s_.2.2.2.2.2.2.2.2.2.2.1 t122_1.length s_.2.2.2.2.2.2.2.2.2.2.2.1], .bool t122_2]), (115, .tuple #[.agg #[.slice s_.2.2.2.2.2.2.2.2.2.2.1 t122_1.length s_.2.2.2.2.2.2.2.2.2.2.2.1], .bool t122_2]), (123, .agg #[.slice s_.2.2.2.2.2.2.2.2.2.2.1 t122_1.length s_.2.2.2.2.2.2.2.2.2.2.2.1]), (124, .bool t122_2), (18, .pointer (some ⟨s_.2.2.2.2.2.2.2.2.2.2.2.2, 0, none⟩))]) (fun s_ w' => Aside0 (St w w' [Ob.B s_.2.2.2.2.2.2.2.2.2.2.2.2 (.cells #[.slice none 0 0] 44 (0, 0)), Ob.S w (Kd.slice 2 (Kd.int .i64)) 26 s_.2.2.2.2.2.2.2.2.2.1 (.slice s_.2.2.2.2.2.2.2.2.2.2.1 t122_1.length s_.2.2.2.2.2.2.2.2.2.2.2.1) t122_1, Ob.S w (Kd.slice 2 (Kd.int .i64)) 26 s_.2.2.2.2.2.2.1 (.slice s_.2.2.2.2.2.2.2.1 t121.length s_.2.2.2.2.2.2.2.2.1) t121, Ob.S w (Kd.slice 2 (Kd.int .i64)) 26 s_.2.2.2.1 (.slice s_.2.2.2.2.1 t119.length s_.2.2.2.2.2.1) t119, Ob.R w k63 63 s_.1 (.slice s_.2.1 t117.length s_.2.2.1) t117, Ob.B g13_ (.cells #[.slice a55_ t106_2.length cc55_] 44 (0, 0)), Ob.S w (Kd.slice 2 (Kd.int .i64)) 26 ok55_m (.slice a55_ t106_2.length cc55_) t106_2, Ob.B g8_ (.cells #[.slice a42_ t42_1.length cc42_] 44 (0, 0)), Ob.S w (Kd.slice 2 (Kd.int .i64)) 26 ok42_ (.slice a42_ t42_1.length cc42_) t42_1, Ob.B g5_ (.cells #[.slice A2_0 l2_0.length c2_0] 41 (0, 0)), Ob.B g4_ (.cells #[.slice A1_0 l1_0.length c1_0] 41 (0, 0))]) ∧ Aside0 (t117.length ≤ s_.2.2.1) ∧ Aside0 (t119.length ≤ s_.2.2.2.2.2.1) ∧ Aside0 (t121.length ≤ s_.2.2.2.2.2.2.2.2.1) ∧ Aside0 (t122_1.length ≤ s_.2.2.2.2.2.2.2.2.2.2.2.1)) ?_ ?_
  rotate_left
  · intro hJ1_3_5_6_10
    refine join_ (σ := (Nat → Prop) × Option Addr × Nat × (Nat → Prop) × Option Addr × Nat × (Nat → Prop) × Option Addr × Nat × (Nat → Prop) × Option Addr × Nat) 3 #[true, true, true, true, true, true, true, true, true, true, false, false, false] (fun s_ => [(117, .slice s_.2.1 t117.length s_.2.2.1), (119, .agg #[.slice s_.2.2.2.2.1 t119.length s_.2.2.2.2.2.1]), (121, .agg #[.slice s_.2.2.2.2.2.2.2.1 t121.length s_.2.2.2.2.2.2.2.2.1]), (122, .tuple #[.agg #[.slice s_.2.2.2.2.2.2.2.2.2.2.1 t122_1.length s_.2.2.2.2.2.2.2.2.2.2.2], .bool t122_2]), (115, .tuple #[.agg #[.slice s_.2.2.2.2.2.2.2.2.2.2.1 t122_1.length s_.2.2.2.2.2.2.2.2.2.2.2], .bool t122_2]), (123, .agg #[.slice s_.2.2.2.2.2.2.2.2.2.2.1 t122_1.length s_.2.2.2.2.2.2.2.2.2.2.2]), (124, .bool t122_2)]) (fun s_ w' => Aside0 (St w w' [Ob.S w (Kd.slice 2 (Kd.int .i64)) 26 s_.2.2.2.2.2.2.2.2.2.1 (.slice s_.2.2.2.2.2.2.2.2.2.2.1 t122_1.length s_.2.2.2.2.2.2.2.2.2.2.2) t122_1, Ob.S w (Kd.slice 2 (Kd.int .i64)) 26 s_.2.2.2.2.2.2.1 (.slice s_.2.2.2.2.2.2.2.1 t121.length s_.2.2.2.2.2.2.2.2.1) t121, Ob.S w (Kd.slice 2 (Kd.int .i64)) 26 s_.2.2.2.1 (.slice s_.2.2.2.2.1 t119.length s_.2.2.2.2.2.1) t119, Ob.R w k63 63 s_.1 (.slice s_.2.1 t117.length s_.2.2.1) t117, Ob.B g13_ (.cells #[.slice a55_ t106_2.length cc55_] 44 (0, 0)), Ob.S w (Kd.slice 2 (Kd.int .i64)) 26 ok55_m (.slice a55_ t106_2.length cc55_) t106_2, Ob.B g8_ (.cells #[.slice a42_ t42_1.length cc42_] 44 (0, 0)), Ob.S w (Kd.slice 2 (Kd.int .i64)) 26 ok42_ (.slice a42_ t42_1.length cc42_) t42_1, Ob.B g5_ (.cells #[.slice A2_0 l2_0.length c2_0] 41 (0, 0)), Ob.B g4_ (.cells #[.slice A1_0 l1_0.length c1_0] 41 (0, 0))]) ∧ Aside0 (t117.length ≤ s_.2.2.1) ∧ Aside0 (t119.length ≤ s_.2.2.2.2.2.1) ∧ Aside0 (t121.length ≤ s_.2.2.2.2.2.2.2.2.1) ∧ Aside0 (t122_1.length ≤ s_.2.2.2.2.2.2.2.2.2.2.2)) ?_ ?_
    rotate_left
    · intro hJ1_3_5_6
      refine join_ (σ := (Nat → Prop) × Option Addr × Nat × (Nat → Prop) × Option Addr × Nat × (Nat → Prop) × Option Addr × Nat × Nat) 6 #[true, true, true, true, true, true, false, false, false, false, true, false, false] (fun s_ => [(117, .slice s_.2.1 t117.length s_.2.2.1), (119, .agg #[.slice s_.2.2.2.2.1 t119.length s_.2.2.2.2.2.1]), (121, .agg #[.slice s_.2.2.2.2.2.2.2.1 t121.length s_.2.2.2.2.2.2.2.2.1]), (18, .pointer (some ⟨s_.2.2.2.2.2.2.2.2.2, 0, none⟩))]) (fun s_ w' => Aside0 (St w w' [Ob.B s_.2.2.2.2.2.2.2.2.2 (.cells #[.slice none 0 0] 44 (0, 0)), Ob.S w (Kd.slice 2 (Kd.int .i64)) 26 s_.2.2.2.2.2.2.1 (.slice s_.2.2.2.2.2.2.2.1 t121.length s_.2.2.2.2.2.2.2.2.1) t121, Ob.S w (Kd.slice 2 (Kd.int .i64)) 26 s_.2.2.2.1 (.slice s_.2.2.2.2.1 t119.length s_.2.2.2.2.2.1) t119, Ob.R w k63 63 s_.1 (.slice s_.2.1 t117.length s_.2.2.1) t117, Ob.B g13_ (.cells #[.slice a55_ t106_2.length cc55_] 44 (0, 0)), Ob.S w (Kd.slice 2 (Kd.int .i64)) 26 ok55_m (.slice a55_ t106_2.length cc55_) t106_2, Ob.B g8_ (.cells #[.slice a42_ t42_1.length cc42_] 44 (0, 0)), Ob.S w (Kd.slice 2 (Kd.int .i64)) 26 ok42_ (.slice a42_ t42_1.length cc42_) t42_1, Ob.B g5_ (.cells #[.slice A2_0 l2_0.length c2_0] 41 (0, 0)), Ob.B g4_ (.cells #[.slice A1_0 l1_0.length c1_0] 41 (0, 0))]) ∧ Aside0 (t117.length ≤ s_.2.2.1) ∧ Aside0 (t119.length ≤ s_.2.2.2.2.2.1) ∧ Aside0 (t121.length ≤ s_.2.2.2.2.2.2.2.2.1)) ?_ ?_
      rotate_left
      · intro hJ1_3_5_10
        refine join_ (σ := (Nat → Prop) × Option Addr × Nat × (Nat → Prop) × Option Addr × Nat × (Nat → Prop) × Option Addr × Nat) 7 #[true, true, true, true, true, true, false, false, false, false, false, false, false] (fun s_ => [(117, .slice s_.2.1 t117.length s_.2.2.1), (119, .agg #[.slice s_.2.2.2.2.1 t119.length s_.2.2.2.2.2.1]), (121, .agg #[.slice s_.2.2.2.2.2.2.2.1 t121.length s_.2.2.2.2.2.2.2.2])]) (fun s_ w' => Aside0 (St w w' [Ob.S w (Kd.slice 2 (Kd.int .i64)) 26 s_.2.2.2.2.2.2.1 (.slice s_.2.2.2.2.2.2.2.1 t121.length s_.2.2.2.2.2.2.2.2) t121, Ob.S w (Kd.slice 2 (Kd.int .i64)) 26 s_.2.2.2.1 (.slice s_.2.2.2.2.1 t119.length s_.2.2.2.2.2.1) t119, Ob.R w k63 63 s_.1 (.slice s_.2.1 t117.length s_.2.2.1) t117, Ob.B g13_ (.cells #[.slice a55_ t106_2.length cc55_] 44 (0, 0)), Ob.S w (Kd.slice 2 (Kd.int .i64)) 26 ok55_m (.slice a55_ t106_2.length cc55_) t106_2, Ob.B g8_ (.cells #[.slice a42_ t42_1.length cc42_] 44 (0, 0)), Ob.S w (Kd.slice 2 (Kd.int .i64)) 26 ok42_ (.slice a42_ t42_1.length cc42_) t42_1, Ob.B g5_ (.cells #[.slice A2_0 l2_0.length c2_0] 41 (0, 0)), Ob.B g4_ (.cells #[.slice A1_0 l1_0.length c1_0] 41 (0, 0))]) ∧ Aside0 (t117.length ≤ s_.2.2.1) ∧ Aside0 (t119.length ≤ s_.2.2.2.2.2.1) ∧ Aside0 (t121.length ≤ s_.2.2.2.2.2.2.2.2)) ?_ ?_
        rotate_left
        · intro hJ1_3_5
          refine join_ (σ := (Nat → Prop) × Option Addr × Nat × (Nat → Prop) × Option Addr × Nat × Nat) 7 #[true, true, true, true, true, false, false, false, false, false, true, false, false] (fun s_ => [(117, .slice s_.2.1 t117.length s_.2.2.1), (119, .agg #[.slice s_.2.2.2.2.1 t119.length s_.2.2.2.2.2.1]), (18, .pointer (some ⟨s_.2.2.2.2.2.2, 0, none⟩))]) (fun s_ w' => Aside0 (St w w' [Ob.B s_.2.2.2.2.2.2 (.cells #[.slice none 0 0] 44 (0, 0)), Ob.S w (Kd.slice 2 (Kd.int .i64)) 26 s_.2.2.2.1 (.slice s_.2.2.2.2.1 t119.length s_.2.2.2.2.2.1) t119, Ob.R w k63 63 s_.1 (.slice s_.2.1 t117.length s_.2.2.1) t117, Ob.B g13_ (.cells #[.slice a55_ t106_2.length cc55_] 44 (0, 0)), Ob.S w (Kd.slice 2 (Kd.int .i64)) 26 ok55_m (.slice a55_ t106_2.length cc55_) t106_2, Ob.B g8_ (.cells #[.slice a42_ t42_1.length cc42_] 44 (0, 0)), Ob.S w (Kd.slice 2 (Kd.int .i64)) 26 ok42_ (.slice a42_ t42_1.length cc42_) t42_1, Ob.B g5_ (.cells #[.slice A2_0 l2_0.length c2_0] 41 (0, 0)), Ob.B g4_ (.cells #[.slice A1_0 l1_0.length c1_0] 41 (0, 0))]) ∧ Aside0 (t117.length ≤ s_.2.2.1) ∧ Aside0 (t119.length ≤ s_.2.2.2.2.2.1)) ?_ ?_
          rotate_left
          · intro hJ1_3_10
            refine join_ (σ := (Nat → Prop) × Option Addr × Nat × (Nat → Prop) × Option Addr × Nat) 8 #[true, true, true, true, true, false, false, false, false, false, false, false, false] (fun s_ => [(117, .slice s_.2.1 t117.length s_.2.2.1), (119, .agg #[.slice s_.2.2.2.2.1 t119.length s_.2.2.2.2.2])]) (fun s_ w' => Aside0 (St w w' [Ob.S w (Kd.slice 2 (Kd.int .i64)) 26 s_.2.2.2.1 (.slice s_.2.2.2.2.1 t119.length s_.2.2.2.2.2) t119, Ob.R w k63 63 s_.1 (.slice s_.2.1 t117.length s_.2.2.1) t117, Ob.B g13_ (.cells #[.slice a55_ t106_2.length cc55_] 44 (0, 0)), Ob.S w (Kd.slice 2 (Kd.int .i64)) 26 ok55_m (.slice a55_ t106_2.length cc55_) t106_2, Ob.B g8_ (.cells #[.slice a42_ t42_1.length cc42_] 44 (0, 0)), Ob.S w (Kd.slice 2 (Kd.int .i64)) 26 ok42_ (.slice a42_ t42_1.length cc42_) t42_1, Ob.B g5_ (.cells #[.slice A2_0 l2_0.length c2_0] 41 (0, 0)), Ob.B g4_ (.cells #[.slice A1_0 l1_0.length c1_0] 41 (0, 0))]) ∧ Aside0 (t117.length ≤ s_.2.2.1) ∧ Aside0 (t119.length ≤ s_.2.2.2.2.2)) ?_ ?_
            rotate_left
            · intro hJ1_3
              refine join_ (σ := (Nat → Prop) × Option Addr × Nat × Nat) 8 #[true, true, true, false, true, false, false, false, false, false, true, false, false] (fun s_ => [(117, .slice s_.2.1 t117.length s_.2.2.1), (18, .pointer (some ⟨s_.2.2.2, 0, none⟩))]) (fun s_ w' => Aside0 (St w w' [Ob.B s_.2.2.2 (.cells #[.slice none 0 0] 44 (0, 0)), Ob.R w k63 63 s_.1 (.slice s_.2.1 t117.length s_.2.2.1) t117, Ob.B g13_ (.cells #[.slice a55_ t106_2.length cc55_] 44 (0, 0)), Ob.S w (Kd.slice 2 (Kd.int .i64)) 26 ok55_m (.slice a55_ t106_2.length cc55_) t106_2, Ob.B g8_ (.cells #[.slice a42_ t42_1.length cc42_] 44 (0, 0)), Ob.S w (Kd.slice 2 (Kd.int .i64)) 26 ok42_ (.slice a42_ t42_1.length cc42_) t42_1, Ob.B g5_ (.cells #[.slice A2_0 l2_0.length c2_0] 41 (0, 0)), Ob.B g4_ (.cells #[.slice A1_0 l1_0.length c1_0] 41 (0, 0))]) ∧ Aside0 (t117.length ≤ s_.2.2.1)) ?_ ?_
              rotate_left
              · intro hJ1_10
                refine join_ (σ := (Nat → Prop) × Option Addr × Nat) 9 #[true, true, true, false, true, false, false, false, false, false, false, false, false] (fun s_ => [(117, .slice s_.2.1 t117.length s_.2.2)]) (fun s_ w' => Aside0 (St w w' [Ob.R w k63 63 s_.1 (.slice s_.2.1 t117.length s_.2.2) t117, Ob.B g13_ (.cells #[.slice a55_ t106_2.length cc55_] 44 (0, 0)), Ob.S w (Kd.slice 2 (Kd.int .i64)) 26 ok55_m (.slice a55_ t106_2.length cc55_) t106_2, Ob.B g8_ (.cells #[.slice a42_ t42_1.length cc42_] 44 (0, 0)), Ob.S w (Kd.slice 2 (Kd.int .i64)) 26 ok42_ (.slice a42_ t42_1.length cc42_) t42_1, Ob.B g5_ (.cells #[.slice A2_0 l2_0.length c2_0] 41 (0, 0)), Ob.B g4_ (.cells #[.slice A1_0 l1_0.length c1_0] 41 (0, 0))]) ∧ Aside0 (t117.length ≤ s_.2.2)) ?_ ?_
                rotate_left
                · intro hJ1
                  refine join_ (σ := Nat) 9 #[true, false, true, false, true, false, false, false, false, false, true, false, false] (fun s_ => [(18, .pointer (some ⟨s_, 0, none⟩))]) (fun s_ w' => Aside0 (St w w' [Ob.B s_ (.cells #[.slice none 0 0] 44 (0, 0)), Ob.B g13_ (.cells #[.slice a55_ t106_2.length cc55_] 44 (0, 0)), Ob.S w (Kd.slice 2 (Kd.int .i64)) 26 ok55_m (.slice a55_ t106_2.length cc55_) t106_2, Ob.B g8_ (.cells #[.slice a42_ t42_1.length cc42_] 44 (0, 0)), Ob.S w (Kd.slice 2 (Kd.int .i64)) 26 ok42_ (.slice a42_ t42_1.length cc42_) t42_1, Ob.B g5_ (.cells #[.slice A2_0 l2_0.length c2_0] 41 (0, 0)), Ob.B g4_ (.cells #[.slice A1_0 l1_0.length c1_0] 41 (0, 0))])) ?_ ?_
                  rotate_left
                  · intro hJ10
                    refine two_ (i := 1) (j := 10) (Ni := some 117) (Nj := some 18) #[true, true, true, false, true, false, false, false, false, false, false, false, false] #[true, false, true, false, true, false, false, false, false, false, true, false, false] rfl rfl rfl rfl (by kernel_rfl) (by decide) (by decide) (fun K hK => ?_) (fun K hK => ?_)
                    · skip
                      refine goes_ Try.func19 (by kernel_rfl) rfl #[.slice A0 l0.length c0] (by rfl) rfl rfl (by (try simp only [List.map_toArray, List.map_cons, List.map_nil]); first | done | rfl) ?_
                      refine (laws_toDeclS.calls (hr0 := Kd.C_below HR0.out (St.lift H).below) (hc0 := HC0.out) (h := A117.out)).mono ?_
                      rintro e wq38_10 ⟨v0x117, rfl, ho_, hb_⟩
                      refine ⟨_, rfl, ?_⟩
                      obtain ⟨ok117_, a117_, cc117_, rfl, kc117_, H_⟩ := St.callR H hb_ ho_; clear H hb_ ho_; have H := H_; clear H_
                      refine hK.out _ _ ⟨(blk_cell (St.getB H 6 rfl ⟨0, rfl⟩) 0).trans rfl, (blk_cell (St.getB H 5 rfl ⟨0, rfl⟩) 0).trans rfl⟩ (fun hHeld => ?_)
                      clear hK K
                      refine norm_ (a' := ?_) ?_ ?_
                      rotate_left
                      · show Act.put _ (some 117) _ = _
                        simp only [Act.put, List.setIfInBounds_toArray, List.set_cons_zero, List.set_cons_succ, i64_w, i32_w]
                        rfl
                      exact norm_ (by first | (simp only [putAll, Act.put, List.setIfInBounds_toArray, List.set_cons_zero, List.set_cons_succ]; done) | (simp only [putAll, Act.put, List.setIfInBounds_toArray, List.set_cons_zero, List.set_cons_succ]; rfl)) (hJ1 ⟨ok117_, a117_, cc117_⟩ _ ⟨H, kc117_⟩)
                    · skip
                      refine box_step ?hg (N := 18) ?hd (cs := #[.slice none 0 0]) (t := 44) ?hr ?_; (case hd => rfl); (case hg => rfl); (case hr => first | (go_simp; done) | (go_simp; rfl))
                      intro g18_ hg_ wq38_11 hbox_ hb_; replace H := St.box H hg_ hbox_ hb_; clear hg_ hbox_ hb_
                      refine hK.out _ _ ⟨(blk_cell (St.getB H 6 rfl ⟨0, rfl⟩) 0).trans rfl, (blk_cell (St.getB H 5 rfl ⟨0, rfl⟩) 0).trans rfl⟩ (fun hHeld => ?_)
                      clear hK K
                      refine norm_ (a' := ?_) ?_ ?_
                      rotate_left
                      · show Act.put _ (some 18) _ = _
                        simp only [Act.put, List.setIfInBounds_toArray, List.set_cons_zero, List.set_cons_succ, i64_w, i32_w]
                        rfl
                      exact norm_ (by first | (simp only [putAll, Act.put, List.setIfInBounds_toArray, List.set_cons_zero, List.set_cons_succ]; done) | (simp only [putAll, Act.put, List.setIfInBounds_toArray, List.set_cons_zero, List.set_cons_succ]; rfl)) (hJ10 g18_ _ H)
                  · skip
                    clear H hHeld
                    rintro g18_ wn38_9 H
                    try dsimp only at H
                    have hHeld : wn38_9.cell? ⟨g4_, 0, none⟩ = some (.slice A1_0 l1_0.length c1_0) ∧ wn38_9.cell? ⟨g5_, 0, none⟩ = some (.slice A2_0 l2_0.length c2_0) := ⟨(blk_cell (St.getB H 6 rfl ⟨0, rfl⟩) 0).trans rfl, (blk_cell (St.getB H 5 rfl ⟨0, rfl⟩) 0).trans rfl⟩
                    refine norm_ (a' := ?_) ?_ ?_
                    rotate_left
                    · simp only [putAll, Act.put, List.setIfInBounds_toArray, List.set_cons_zero, List.set_cons_succ]
                      rfl
                    refine one_ (i := 1) (N := some 117) #[true, true, true, false, true, false, false, false, false, false, true, false, false] rfl rfl (by kernel_rfl) (by decide) (fun K hK => ?_)
                    refine goes_ Try.func19 (by kernel_rfl) rfl #[.slice A0 l0.length c0] (by rfl) rfl rfl (by (try simp only [List.map_toArray, List.map_cons, List.map_nil]); first | done | rfl) ?_
                    refine (laws_toDeclS.calls (hr0 := Kd.C_below HR0.out (St.lift H).below) (hc0 := HC0.out) (h := A117.out)).mono ?_
                    rintro e wq38_12 ⟨v0x117, rfl, ho_, hb_⟩
                    refine ⟨_, rfl, ?_⟩
                    obtain ⟨ok117_, a117_, cc117_, rfl, kc117_, H_⟩ := St.callR H hb_ ho_; clear H hb_ ho_; have H := H_; clear H_
                    replace H := St.perm H (List.Perm.swap _ _ _)
                    refine hK.out _ _ ⟨(blk_cell (St.getB H 7 rfl ⟨0, rfl⟩) 0).trans rfl, (blk_cell (St.getB H 6 rfl ⟨0, rfl⟩) 0).trans rfl⟩ (fun hHeld => ?_)
                    clear hK K
                    refine norm_ (a' := ?_) ?_ ?_
                    rotate_left
                    · show Act.put _ (some 117) _ = _
                      simp only [Act.put, List.setIfInBounds_toArray, List.set_cons_zero, List.set_cons_succ, i64_w, i32_w]
                      rfl
                    exact norm_ (by first | (simp only [putAll, Act.put, List.setIfInBounds_toArray, List.set_cons_zero, List.set_cons_succ]; done) | (simp only [putAll, Act.put, List.setIfInBounds_toArray, List.set_cons_zero, List.set_cons_succ]; rfl)) (hJ1_10 ⟨ok117_, a117_, cc117_, g18_⟩ _ ⟨H, kc117_⟩)
                · skip
                  clear H hHeld
                  rintro ⟨ok117_, a117_, cc117_⟩ wn38_8 ⟨H, kc117_⟩
                  try dsimp only at H kc117_
                  have hHeld : wn38_8.cell? ⟨g4_, 0, none⟩ = some (.slice A1_0 l1_0.length c1_0) ∧ wn38_8.cell? ⟨g5_, 0, none⟩ = some (.slice A2_0 l2_0.length c2_0) := ⟨(blk_cell (St.getB H 6 rfl ⟨0, rfl⟩) 0).trans rfl, (blk_cell (St.getB H 5 rfl ⟨0, rfl⟩) 0).trans rfl⟩
                  refine norm_ (a' := ?_) ?_ ?_
                  rotate_left
                  · simp only [putAll, Act.put, List.setIfInBounds_toArray, List.set_cons_zero, List.set_cons_succ]
                    rfl
                  refine two_ (i := 3) (j := 10) (Ni := some 119) (Nj := some 18) #[true, true, true, true, true, false, false, false, false, false, false, false, false] #[true, true, true, false, true, false, false, false, false, false, true, false, false] rfl rfl rfl rfl (by kernel_rfl) (by decide) (by decide) (fun K hK => ?_) (fun K hK => ?_)
                  · skip
                    refine goes_ Try.func20 (by kernel_rfl) rfl #[.agg #[.slice A1_0 l1_0.length c1_0]] (by rfl) rfl rfl (by (try simp only [List.map_toArray, List.map_cons, List.map_nil]); first | done | rfl) ?_
                    refine (laws_toCuts.calls (hr0_0 := Kd.C_below HR1_0.out (St.lift H).below) (hc0_0 := HC1_0.out) (h := A119.out)).mono ?_
                    rintro e wq38_13 ⟨v0x119, rfl, ho_, hb_⟩
                    refine ⟨_, rfl, ?_⟩
                    obtain ⟨ok119_, a119_, cc119_, rfl, kc119_, H_⟩ := St.callS H hb_ ho_; clear H hb_ ho_; have H := H_; clear H_
                    refine hK.out _ _ ⟨(blk_cell (St.getB H 7 rfl ⟨0, rfl⟩) 0).trans rfl, (blk_cell (St.getB H 6 rfl ⟨0, rfl⟩) 0).trans rfl⟩ (fun hHeld => ?_)
                    clear hK K
                    refine norm_ (a' := ?_) ?_ ?_
                    rotate_left
                    · show Act.put _ (some 119) _ = _
                      simp only [Act.put, List.setIfInBounds_toArray, List.set_cons_zero, List.set_cons_succ, i64_w, i32_w]
                      rfl
                    exact norm_ (by first | (simp only [putAll, Act.put, List.setIfInBounds_toArray, List.set_cons_zero, List.set_cons_succ]; done) | (simp only [putAll, Act.put, List.setIfInBounds_toArray, List.set_cons_zero, List.set_cons_succ]; rfl)) (hJ1_3 ⟨ok117_, a117_, cc117_, ok119_, a119_, cc119_⟩ _ ⟨H, kc117_, kc119_⟩)
                  · skip
                    refine box_step ?hg (N := 18) ?hd (cs := #[.slice none 0 0]) (t := 44) ?hr ?_; (case hd => rfl); (case hg => rfl); (case hr => first | (go_simp; done) | (go_simp; rfl))
                    intro g18_ hg_ wq38_14 hbox_ hb_; replace H := St.box H hg_ hbox_ hb_; clear hg_ hbox_ hb_
                    refine hK.out _ _ ⟨(blk_cell (St.getB H 7 rfl ⟨0, rfl⟩) 0).trans rfl, (blk_cell (St.getB H 6 rfl ⟨0, rfl⟩) 0).trans rfl⟩ (fun hHeld => ?_)
                    clear hK K
                    refine norm_ (a' := ?_) ?_ ?_
                    rotate_left
                    · show Act.put _ (some 18) _ = _
                      simp only [Act.put, List.setIfInBounds_toArray, List.set_cons_zero, List.set_cons_succ, i64_w, i32_w]
                      rfl
                    exact norm_ (by first | (simp only [putAll, Act.put, List.setIfInBounds_toArray, List.set_cons_zero, List.set_cons_succ]; done) | (simp only [putAll, Act.put, List.setIfInBounds_toArray, List.set_cons_zero, List.set_cons_succ]; rfl)) (hJ1_10 ⟨ok117_, a117_, cc117_, g18_⟩ _ ⟨H, kc117_⟩)
              · skip
                clear H hHeld
                rintro ⟨ok117_, a117_, cc117_, g18_⟩ wn38_7 ⟨H, kc117_⟩
                try dsimp only at H kc117_
                have hHeld : wn38_7.cell? ⟨g4_, 0, none⟩ = some (.slice A1_0 l1_0.length c1_0) ∧ wn38_7.cell? ⟨g5_, 0, none⟩ = some (.slice A2_0 l2_0.length c2_0) := ⟨(blk_cell (St.getB H 7 rfl ⟨0, rfl⟩) 0).trans rfl, (blk_cell (St.getB H 6 rfl ⟨0, rfl⟩) 0).trans rfl⟩
                refine norm_ (a' := ?_) ?_ ?_
                rotate_left
                · simp only [putAll, Act.put, List.setIfInBounds_toArray, List.set_cons_zero, List.set_cons_succ]
                  rfl
                refine one_ (i := 3) (N := some 119) #[true, true, true, true, true, false, false, false, false, false, true, false, false] rfl rfl (by kernel_rfl) (by decide) (fun K hK => ?_)
                refine goes_ Try.func20 (by kernel_rfl) rfl #[.agg #[.slice A1_0 l1_0.length c1_0]] (by rfl) rfl rfl (by (try simp only [List.map_toArray, List.map_cons, List.map_nil]); first | done | rfl) ?_
                refine (laws_toCuts.calls (hr0_0 := Kd.C_below HR1_0.out (St.lift H).below) (hc0_0 := HC1_0.out) (h := A119.out)).mono ?_
                rintro e wq38_15 ⟨v0x119, rfl, ho_, hb_⟩
                refine ⟨_, rfl, ?_⟩
                obtain ⟨ok119_, a119_, cc119_, rfl, kc119_, H_⟩ := St.callS H hb_ ho_; clear H hb_ ho_; have H := H_; clear H_
                replace H := St.perm H (List.Perm.swap _ _ _)
                refine hK.out _ _ ⟨(blk_cell (St.getB H 8 rfl ⟨0, rfl⟩) 0).trans rfl, (blk_cell (St.getB H 7 rfl ⟨0, rfl⟩) 0).trans rfl⟩ (fun hHeld => ?_)
                clear hK K
                refine norm_ (a' := ?_) ?_ ?_
                rotate_left
                · show Act.put _ (some 119) _ = _
                  simp only [Act.put, List.setIfInBounds_toArray, List.set_cons_zero, List.set_cons_succ, i64_w, i32_w]
                  rfl
                exact norm_ (by first | (simp only [putAll, Act.put, List.setIfInBounds_toArray, List.set_cons_zero, List.set_cons_succ]; done) | (simp only [putAll, Act.put, List.setIfInBounds_toArray, List.set_cons_zero, List.set_cons_succ]; rfl)) (hJ1_3_10 ⟨ok117_, a117_, cc117_, ok119_, a119_, cc119_, g18_⟩ _ ⟨H, kc117_, kc119_⟩)
            · skip
              clear H hHeld
              rintro ⟨ok117_, a117_, cc117_, ok119_, a119_, cc119_⟩ wn38_6 ⟨H, kc117_, kc119_⟩
              try dsimp only at H kc117_ kc119_
              have hHeld : wn38_6.cell? ⟨g4_, 0, none⟩ = some (.slice A1_0 l1_0.length c1_0) ∧ wn38_6.cell? ⟨g5_, 0, none⟩ = some (.slice A2_0 l2_0.length c2_0) := ⟨(blk_cell (St.getB H 7 rfl ⟨0, rfl⟩) 0).trans rfl, (blk_cell (St.getB H 6 rfl ⟨0, rfl⟩) 0).trans rfl⟩
              refine norm_ (a' := ?_) ?_ ?_
              rotate_left
              · simp only [putAll, Act.put, List.setIfInBounds_toArray, List.set_cons_zero, List.set_cons_succ]
                rfl
              refine two_ (i := 5) (j := 10) (Ni := some 121) (Nj := some 18) #[true, true, true, true, true, true, false, false, false, false, false, false, false] #[true, true, true, true, true, false, false, false, false, false, true, false, false] rfl rfl rfl rfl (by kernel_rfl) (by decide) (by decide) (fun K hK => ?_) (fun K hK => ?_)
              · skip
                refine goes_ Try.func20 (by kernel_rfl) rfl #[.agg #[.slice A2_0 l2_0.length c2_0]] (by rfl) rfl rfl (by (try simp only [List.map_toArray, List.map_cons, List.map_nil]); first | done | rfl) ?_
                refine (laws_toCuts.calls (hr0_0 := Kd.C_below HR2_0.out (St.lift H).below) (hc0_0 := HC2_0.out) (h := A121.out)).mono ?_
                rintro e wq38_16 ⟨v0x121, rfl, ho_, hb_⟩
                refine ⟨_, rfl, ?_⟩
                obtain ⟨ok121_, a121_, cc121_, rfl, kc121_, H_⟩ := St.callS H hb_ ho_; clear H hb_ ho_; have H := H_; clear H_
                refine hK.out _ _ ⟨(blk_cell (St.getB H 8 rfl ⟨0, rfl⟩) 0).trans rfl, (blk_cell (St.getB H 7 rfl ⟨0, rfl⟩) 0).trans rfl⟩ (fun hHeld => ?_)
                clear hK K
                refine norm_ (a' := ?_) ?_ ?_
                rotate_left
                · show Act.put _ (some 121) _ = _
                  simp only [Act.put, List.setIfInBounds_toArray, List.set_cons_zero, List.set_cons_succ, i64_w, i32_w]
                  rfl
                exact norm_ (by first | (simp only [putAll, Act.put, List.setIfInBounds_toArray, List.set_cons_zero, List.set_cons_succ]; done) | (simp only [putAll, Act.put, List.setIfInBounds_toArray, List.set_cons_zero, List.set_cons_succ]; rfl)) (hJ1_3_5 ⟨ok117_, a117_, cc117_, ok119_, a119_, cc119_, ok121_, a121_, cc121_⟩ _ ⟨H, kc117_, kc119_, kc121_⟩)
              · skip
                refine box_step ?hg (N := 18) ?hd (cs := #[.slice none 0 0]) (t := 44) ?hr ?_; (case hd => rfl); (case hg => rfl); (case hr => first | (go_simp; done) | (go_simp; rfl))
                intro g18_ hg_ wq38_17 hbox_ hb_; replace H := St.box H hg_ hbox_ hb_; clear hg_ hbox_ hb_
                refine hK.out _ _ ⟨(blk_cell (St.getB H 8 rfl ⟨0, rfl⟩) 0).trans rfl, (blk_cell (St.getB H 7 rfl ⟨0, rfl⟩) 0).trans rfl⟩ (fun hHeld => ?_)
                clear hK K
                refine norm_ (a' := ?_) ?_ ?_
                rotate_left
                · show Act.put _ (some 18) _ = _
                  simp only [Act.put, List.setIfInBounds_toArray, List.set_cons_zero, List.set_cons_succ, i64_w, i32_w]
                  rfl
                exact norm_ (by first | (simp only [putAll, Act.put, List.setIfInBounds_toArray, List.set_cons_zero, List.set_cons_succ]; done) | (simp only [putAll, Act.put, List.setIfInBounds_toArray, List.set_cons_zero, List.set_cons_succ]; rfl)) (hJ1_3_10 ⟨ok117_, a117_, cc117_, ok119_, a119_, cc119_, g18_⟩ _ ⟨H, kc117_, kc119_⟩)
          · skip
            clear H hHeld
            rintro ⟨ok117_, a117_, cc117_, ok119_, a119_, cc119_, g18_⟩ wn38_5 ⟨H, kc117_, kc119_⟩
            try dsimp only at H kc117_ kc119_
            have hHeld : wn38_5.cell? ⟨g4_, 0, none⟩ = some (.slice A1_0 l1_0.length c1_0) ∧ wn38_5.cell? ⟨g5_, 0, none⟩ = some (.slice A2_0 l2_0.length c2_0) := ⟨(blk_cell (St.getB H 8 rfl ⟨0, rfl⟩) 0).trans rfl, (blk_cell (St.getB H 7 rfl ⟨0, rfl⟩) 0).trans rfl⟩
            refine norm_ (a' := ?_) ?_ ?_
            rotate_left
            · simp only [putAll, Act.put, List.setIfInBounds_toArray, List.set_cons_zero, List.set_cons_succ]
              rfl
            refine one_ (i := 5) (N := some 121) #[true, true, true, true, true, true, false, false, false, false, true, false, false] rfl rfl (by kernel_rfl) (by decide) (fun K hK => ?_)
            refine goes_ Try.func20 (by kernel_rfl) rfl #[.agg #[.slice A2_0 l2_0.length c2_0]] (by rfl) rfl rfl (by (try simp only [List.map_toArray, List.map_cons, List.map_nil]); first | done | rfl) ?_
            refine (laws_toCuts.calls (hr0_0 := Kd.C_below HR2_0.out (St.lift H).below) (hc0_0 := HC2_0.out) (h := A121.out)).mono ?_
            rintro e wq38_18 ⟨v0x121, rfl, ho_, hb_⟩
            refine ⟨_, rfl, ?_⟩
            obtain ⟨ok121_, a121_, cc121_, rfl, kc121_, H_⟩ := St.callS H hb_ ho_; clear H hb_ ho_; have H := H_; clear H_
            replace H := St.perm H (List.Perm.swap _ _ _)
            refine hK.out _ _ ⟨(blk_cell (St.getB H 9 rfl ⟨0, rfl⟩) 0).trans rfl, (blk_cell (St.getB H 8 rfl ⟨0, rfl⟩) 0).trans rfl⟩ (fun hHeld => ?_)
            clear hK K
            refine norm_ (a' := ?_) ?_ ?_
            rotate_left
            · show Act.put _ (some 121) _ = _
              simp only [Act.put, List.setIfInBounds_toArray, List.set_cons_zero, List.set_cons_succ, i64_w, i32_w]
              rfl
            exact norm_ (by first | (simp only [putAll, Act.put, List.setIfInBounds_toArray, List.set_cons_zero, List.set_cons_succ]; done) | (simp only [putAll, Act.put, List.setIfInBounds_toArray, List.set_cons_zero, List.set_cons_succ]; rfl)) (hJ1_3_5_10 ⟨ok117_, a117_, cc117_, ok119_, a119_, cc119_, ok121_, a121_, cc121_, g18_⟩ _ ⟨H, kc117_, kc119_, kc121_⟩)
        · skip
          clear H hHeld
          rintro ⟨ok117_, a117_, cc117_, ok119_, a119_, cc119_, ok121_, a121_, cc121_⟩ wn38_4 ⟨H, kc117_, kc119_, kc121_⟩
          try dsimp only at H kc117_ kc119_ kc121_
          have hHeld : wn38_4.cell? ⟨g4_, 0, none⟩ = some (.slice A1_0 l1_0.length c1_0) ∧ wn38_4.cell? ⟨g5_, 0, none⟩ = some (.slice A2_0 l2_0.length c2_0) := ⟨(blk_cell (St.getB H 8 rfl ⟨0, rfl⟩) 0).trans rfl, (blk_cell (St.getB H 7 rfl ⟨0, rfl⟩) 0).trans rfl⟩
          refine norm_ (a' := ?_) ?_ ?_
          rotate_left
          · simp only [putAll, Act.put, List.setIfInBounds_toArray, List.set_cons_zero, List.set_cons_succ]
            rfl
          refine two_ (i := 6) (j := 10) (Ni := some 122) (Nj := some 18) #[true, true, true, true, true, true, true, false, false, false, false, false, false] #[true, true, true, true, true, true, false, false, false, false, true, false, false] rfl rfl rfl rfl (by kernel_rfl) (by decide) (by decide) (fun K hK => ?_) (fun K hK => ?_)
          · skip
            refine goes_ Try.func21 (by kernel_rfl) rfl #[.slice a117_ t117.length cc117_, .agg #[.slice a119_ t119.length cc119_], .agg #[.slice a121_ t121.length cc121_]] (by rfl) rfl rfl (by (try simp only [List.map_toArray, List.map_cons, List.map_nil]); first | done | rfl) ?_
            refine (impl_AddCuts.calls (hr0 := (Kd.R_reads' (St.getR H 2 rfl)).2.2) (hc0 := kc117_.out) (hr1_0 := (Kd.S_reads' (St.getS H 1 rfl)).2.2) (hc1_0 := kc119_.out) (hr2_0 := (Kd.S_reads' (St.getS H 0 rfl)).2.2) (hc2_0 := kc121_.out) (h := A122.out)).mono ?_
            rintro e wq38_19 ⟨v0x122, rfl, ho_, hb_⟩
            refine ⟨_, rfl, ?_⟩
            obtain ⟨ok122_, a122_, cc122_, rfl, kc122_, H_⟩ := St.callS H hb_ ho_; clear H hb_ ho_; have H := H_; clear H_
            refine hK.out _ _ ⟨(blk_cell (St.getB H 9 rfl ⟨0, rfl⟩) 0).trans rfl, (blk_cell (St.getB H 8 rfl ⟨0, rfl⟩) 0).trans rfl⟩ (fun hHeld => ?_)
            clear hK K
            refine norm_ (a' := ?_) ?_ ?_
            rotate_left
            · show Act.put _ (some 122) _ = _
              simp only [Act.put, List.setIfInBounds_toArray, List.set_cons_zero, List.set_cons_succ, i64_w, i32_w]
              rfl
            refine pure_ (i := 7) (N := some 115) (v := ?_) (a' := ?_) #[true, true, true, true, true, true, true, true, false, false, false, false, false] rfl rfl (by kernel_rfl) (fun _ _ _ h => h) (Or.inl ⟨by rfl, ?_⟩) ?_ ?_
            rotate_left
            · intro w'
              go_simp
              with_reducible rfl
            rotate_left
            · simp only [Act.put, List.setIfInBounds_toArray, List.set_cons_zero, List.set_cons_succ, i64_w, i32_w]
              rfl
            refine pure_ (i := 8) (N := some 123) (v := ?_) (a' := ?_) #[true, true, true, true, true, true, true, true, true, false, false, false, false] rfl rfl (by kernel_rfl) (fun _ _ _ h => h) (Or.inl ⟨by rfl, ?_⟩) ?_ ?_
            rotate_left
            · intro w'
              go_simp
              with_reducible rfl
            rotate_left
            · simp only [Act.put, List.setIfInBounds_toArray, List.set_cons_zero, List.set_cons_succ, i64_w, i32_w]
              rfl
            refine pure_ (i := 9) (N := some 124) (v := ?_) (a' := ?_) #[true, true, true, true, true, true, true, true, true, true, false, false, false] rfl rfl (by kernel_rfl) (fun _ _ _ h => h) (Or.inl ⟨by rfl, ?_⟩) ?_ ?_
            rotate_left
            · intro w'
              go_simp
              with_reducible rfl
            rotate_left
            · simp only [Act.put, List.setIfInBounds_toArray, List.set_cons_zero, List.set_cons_succ, i64_w, i32_w]
              rfl
            exact norm_ (by first | (simp only [putAll, Act.put, List.setIfInBounds_toArray, List.set_cons_zero, List.set_cons_succ]; done) | (simp only [putAll, Act.put, List.setIfInBounds_toArray, List.set_cons_zero, List.set_cons_succ]; rfl)) (hJ1_3_5_6 ⟨ok117_, a117_, cc117_, ok119_, a119_, cc119_, ok121_, a121_, cc121_, ok122_, a122_, cc122_⟩ _ ⟨H, kc117_, kc119_, kc121_, kc122_⟩)
          · skip
            refine box_step ?hg (N := 18) ?hd (cs := #[.slice none 0 0]) (t := 44) ?hr ?_; (case hd => rfl); (case hg => rfl); (case hr => first | (go_simp; done) | (go_simp; rfl))
            intro g18_ hg_ wq38_20 hbox_ hb_; replace H := St.box H hg_ hbox_ hb_; clear hg_ hbox_ hb_
            refine hK.out _ _ ⟨(blk_cell (St.getB H 9 rfl ⟨0, rfl⟩) 0).trans rfl, (blk_cell (St.getB H 8 rfl ⟨0, rfl⟩) 0).trans rfl⟩ (fun hHeld => ?_)
            clear hK K
            refine norm_ (a' := ?_) ?_ ?_
            rotate_left
            · show Act.put _ (some 18) _ = _
              simp only [Act.put, List.setIfInBounds_toArray, List.set_cons_zero, List.set_cons_succ, i64_w, i32_w]
              rfl
            exact norm_ (by first | (simp only [putAll, Act.put, List.setIfInBounds_toArray, List.set_cons_zero, List.set_cons_succ]; done) | (simp only [putAll, Act.put, List.setIfInBounds_toArray, List.set_cons_zero, List.set_cons_succ]; rfl)) (hJ1_3_5_10 ⟨ok117_, a117_, cc117_, ok119_, a119_, cc119_, ok121_, a121_, cc121_, g18_⟩ _ ⟨H, kc117_, kc119_, kc121_⟩)
      · skip
        clear H hHeld
        rintro ⟨ok117_, a117_, cc117_, ok119_, a119_, cc119_, ok121_, a121_, cc121_, g18_⟩ wn38_3 ⟨H, kc117_, kc119_, kc121_⟩
        try dsimp only at H kc117_ kc119_ kc121_
        have hHeld : wn38_3.cell? ⟨g4_, 0, none⟩ = some (.slice A1_0 l1_0.length c1_0) ∧ wn38_3.cell? ⟨g5_, 0, none⟩ = some (.slice A2_0 l2_0.length c2_0) := ⟨(blk_cell (St.getB H 9 rfl ⟨0, rfl⟩) 0).trans rfl, (blk_cell (St.getB H 8 rfl ⟨0, rfl⟩) 0).trans rfl⟩
        refine norm_ (a' := ?_) ?_ ?_
        rotate_left
        · simp only [putAll, Act.put, List.setIfInBounds_toArray, List.set_cons_zero, List.set_cons_succ]
          rfl
        refine one_ (i := 6) (N := some 122) #[true, true, true, true, true, true, true, false, false, false, true, false, false] rfl rfl (by kernel_rfl) (by decide) (fun K hK => ?_)
        refine goes_ Try.func21 (by kernel_rfl) rfl #[.slice a117_ t117.length cc117_, .agg #[.slice a119_ t119.length cc119_], .agg #[.slice a121_ t121.length cc121_]] (by rfl) rfl rfl (by (try simp only [List.map_toArray, List.map_cons, List.map_nil]); first | done | rfl) ?_
        refine (impl_AddCuts.calls (hr0 := (Kd.R_reads' (St.getR H 3 rfl)).2.2) (hc0 := kc117_.out) (hr1_0 := (Kd.S_reads' (St.getS H 2 rfl)).2.2) (hc1_0 := kc119_.out) (hr2_0 := (Kd.S_reads' (St.getS H 1 rfl)).2.2) (hc2_0 := kc121_.out) (h := A122.out)).mono ?_
        rintro e wq38_21 ⟨v0x122, rfl, ho_, hb_⟩
        refine ⟨_, rfl, ?_⟩
        obtain ⟨ok122_, a122_, cc122_, rfl, kc122_, H_⟩ := St.callS H hb_ ho_; clear H hb_ ho_; have H := H_; clear H_
        replace H := St.perm H (List.Perm.swap _ _ _)
        refine hK.out _ _ ⟨(blk_cell (St.getB H 10 rfl ⟨0, rfl⟩) 0).trans rfl, (blk_cell (St.getB H 9 rfl ⟨0, rfl⟩) 0).trans rfl⟩ (fun hHeld => ?_)
        clear hK K
        refine norm_ (a' := ?_) ?_ ?_
        rotate_left
        · show Act.put _ (some 122) _ = _
          simp only [Act.put, List.setIfInBounds_toArray, List.set_cons_zero, List.set_cons_succ, i64_w, i32_w]
          rfl
        refine pure_ (i := 7) (N := some 115) (v := ?_) (a' := ?_) #[true, true, true, true, true, true, true, true, false, false, true, false, false] rfl rfl (by kernel_rfl) (fun _ _ _ h => h) (Or.inl ⟨by rfl, ?_⟩) ?_ ?_
        rotate_left
        · intro w'
          go_simp
          with_reducible rfl
        rotate_left
        · simp only [Act.put, List.setIfInBounds_toArray, List.set_cons_zero, List.set_cons_succ, i64_w, i32_w]
          rfl
        refine pure_ (i := 8) (N := some 123) (v := ?_) (a' := ?_) #[true, true, true, true, true, true, true, true, true, false, true, false, false] rfl rfl (by kernel_rfl) (fun _ _ _ h => h) (Or.inl ⟨by rfl, ?_⟩) ?_ ?_
        rotate_left
        · intro w'
          go_simp
          with_reducible rfl
        rotate_left
        · simp only [Act.put, List.setIfInBounds_toArray, List.set_cons_zero, List.set_cons_succ, i64_w, i32_w]
          rfl
        refine pure_ (i := 9) (N := some 124) (v := ?_) (a' := ?_) #[true, true, true, true, true, true, true, true, true, true, true, false, false] rfl rfl (by kernel_rfl) (fun _ _ _ h => h) (Or.inl ⟨by rfl, ?_⟩) ?_ ?_
        rotate_left
        · intro w'
          go_simp
          with_reducible rfl
        rotate_left
        · simp only [Act.put, List.setIfInBounds_toArray, List.set_cons_zero, List.set_cons_succ, i64_w, i32_w]
          rfl
        exact norm_ (by first | (simp only [putAll, Act.put, List.setIfInBounds_toArray, List.set_cons_zero, List.set_cons_succ]; done) | (simp only [putAll, Act.put, List.setIfInBounds_toArray, List.set_cons_zero, List.set_cons_succ]; rfl)) (hJ1_3_5_6_10 ⟨ok117_, a117_, cc117_, ok119_, a119_, cc119_, ok121_, a121_, cc121_, ok122_, a122_, cc122_, g18_⟩ _ ⟨H, kc117_, kc119_, kc121_, kc122_⟩)
    · skip
      clear H hHeld
      rintro ⟨ok117_, a117_, cc117_, ok119_, a119_, cc119_, ok121_, a121_, cc121_, ok122_, a122_, cc122_⟩ wn38_2 ⟨H, kc117_, kc119_, kc121_, kc122_⟩
      try dsimp only at H kc117_ kc119_ kc121_ kc122_
      have hHeld : wn38_2.cell? ⟨g4_, 0, none⟩ = some (.slice A1_0 l1_0.length c1_0) ∧ wn38_2.cell? ⟨g5_, 0, none⟩ = some (.slice A2_0 l2_0.length c2_0) := ⟨(blk_cell (St.getB H 9 rfl ⟨0, rfl⟩) 0).trans rfl, (blk_cell (St.getB H 8 rfl ⟨0, rfl⟩) 0).trans rfl⟩
      refine norm_ (a' := ?_) ?_ ?_
      rotate_left
      · simp only [putAll, Act.put, List.setIfInBounds_toArray, List.set_cons_zero, List.set_cons_succ]
        rfl
      refine one_ (i := 10) (N := some 18) #[true, true, true, true, true, true, true, true, true, true, true, false, false] rfl rfl (by kernel_rfl) (by decide) (fun K hK => ?_)
      refine box_step ?hg (N := 18) ?hd (cs := #[.slice none 0 0]) (t := 44) ?hr ?_; (case hd => rfl); (case hg => rfl); (case hr => first | (go_simp; done) | (go_simp; rfl))
      intro g18_ hg_ wq38_22 hbox_ hb_; replace H := St.box H hg_ hbox_ hb_; clear hg_ hbox_ hb_
      refine hK.out _ _ ⟨(blk_cell (St.getB H 10 rfl ⟨0, rfl⟩) 0).trans rfl, (blk_cell (St.getB H 9 rfl ⟨0, rfl⟩) 0).trans rfl⟩ (fun hHeld => ?_)
      clear hK K
      refine norm_ (a' := ?_) ?_ ?_
      rotate_left
      · show Act.put _ (some 18) _ = _
        simp only [Act.put, List.setIfInBounds_toArray, List.set_cons_zero, List.set_cons_succ, i64_w, i32_w]
        rfl
      exact norm_ (by first | (simp only [putAll, Act.put, List.setIfInBounds_toArray, List.set_cons_zero, List.set_cons_succ]; done) | (simp only [putAll, Act.put, List.setIfInBounds_toArray, List.set_cons_zero, List.set_cons_succ]; rfl)) (hJ1_3_5_6_10 ⟨ok117_, a117_, cc117_, ok119_, a119_, cc119_, ok121_, a121_, cc121_, ok122_, a122_, cc122_, g18_⟩ _ ⟨H, kc117_, kc119_, kc121_, kc122_⟩)
  clear H hHeld
  rintro ⟨ok117_, a117_, cc117_, ok119_, a119_, cc119_, ok121_, a121_, cc121_, ok122_, a122_, cc122_, g18_⟩ wn38_1 ⟨H, kc117_, kc119_, kc121_, kc122_⟩
  try dsimp only at H kc117_ kc119_ kc121_ kc122_
  have hHeld : wn38_1.cell? ⟨g4_, 0, none⟩ = some (.slice A1_0 l1_0.length c1_0) ∧ wn38_1.cell? ⟨g5_, 0, none⟩ = some (.slice A2_0 l2_0.length c2_0) := ⟨(blk_cell (St.getB H 10 rfl ⟨0, rfl⟩) 0).trans rfl, (blk_cell (St.getB H 9 rfl ⟨0, rfl⟩) 0).trans rfl⟩
  refine norm_ (a' := ?_) ?_ ?_
  rotate_left
  · simp only [putAll, Act.put, List.setIfInBounds_toArray, List.set_cons_zero, List.set_cons_succ]
    rfl
  refine one_ (i := 11) (N := none) #[true, true, true, true, true, true, true, true, true, true, true, true, false] rfl rfl (by kernel_rfl) (by decide) (fun K hK => ?_)
  have hlo_ := St.lowB H 0 rfl
  have hcs0_ : wn38_1.cell? ⟨g18_, 0, none⟩ = some (.slice none 0 0) := (blk_cell (St.getB H 0 rfl ⟨0, rfl⟩) 0).trans rfl; have hfs0_ : wn38_1.frozen? ⟨g18_, 0, none⟩ = false := blk_frozen (St.getB H 0 rfl ⟨0, rfl⟩) 0
  refine skip_ (w1 := (wn38_1.setCell ⟨g18_, 0, none⟩ (.slice a122_ t122_1.length cc122_))) (by rfl) rfl ?_ ?_
  · first | (go_simp; done) | (go_simp; rfl)
  obtain ⟨wq38_23, hwp_⟩ : ∃ W_, W_ = (wn38_1.setCell ⟨g18_, 0, none⟩ (.slice a122_ t122_1.length cc122_)) := ⟨_, rfl⟩; rw [← hwp_]
  have hkp_ : KeepBut wn38_1 wq38_23 g18_ none := by rw [hwp_]; repeat (first | exact KeepBut.refl _ _ _ | apply KeepBut.set_)
  have hbx_ : wq38_23.heap[g18_]? = some (.cells #[.slice a122_ t122_1.length cc122_] 44 (0, 0)) := by rw [hwp_]; refine blk_put (cs := #[.slice none 0 0]) ?_ 0 _ rfl; exact St.getB H 0 rfl ⟨0, rfl⟩
  have hbl_ : Below w.heap.size w wq38_23 := by rw [hwp_]; repeat (first | exact H.out.below | refine below_set ?_ hlo_)
  replace H := St.store H 0 rfl hkp_ hbx_ hbl_; (try dsimp only [put, cutAt] at H); clear hkp_ hbx_ hbl_ hlo_ hwp_ hcs0_ hfs0_
  refine hK.out _ _ ⟨(blk_cell (St.getB H 10 rfl ⟨0, rfl⟩) 0).trans rfl, (blk_cell (St.getB H 9 rfl ⟨0, rfl⟩) 0).trans rfl⟩ (fun hHeld => ?_)
  clear hK K
  refine pure_ (i := 12) (N := some 19) (v := ?_) (a' := ?_) #[true, true, true, true, true, true, true, true, true, true, true, true, true] rfl rfl (by kernel_rfl) (fun _ _ _ h => h) (Or.inl ⟨by rfl, ?_⟩) ?_ ?_
  rotate_left
  · intro w'
    go_simp
    with_reducible rfl
  rotate_left
  · simp only [Act.put, List.setIfInBounds_toArray, List.set_cons_zero, List.set_cons_succ, i64_w, i32_w]
    rfl
  refine done_ (by kernel_rfl) ?_
  clear hHeld
  replace H := St.drop H 2
  replace H := St.drop H 2
  replace H := St.drop H 2
  (try dsimp only [put, cutAt] at H)
  have hczb18_0 : wq38_23.cell? ⟨g18_, 0, none⟩ = some (.slice a122_ t122_1.length cc122_) := (blk_cell (St.getB H 0 rfl ⟨0, rfl⟩) 0).trans rfl; have hfzb18_0 : wq38_23.frozen? ⟨g18_, 0, none⟩ = false := blk_frozen (St.getB H 0 rfl ⟨0, rfl⟩) 0
  have hczb8_0 : wq38_23.cell? ⟨g8_, 0, none⟩ = some (.slice a42_ t42_1.length cc42_) := (blk_cell (St.getB H 4 rfl ⟨0, rfl⟩) 0).trans rfl; have hfzb8_0 : wq38_23.frozen? ⟨g8_, 0, none⟩ = false := blk_frozen (St.getB H 4 rfl ⟨0, rfl⟩) 0
  go_wp2_with (first | ((with_reducible refine gate_dst (N := 127) rfl ?_); go_loud (clear hczb18_0 hfzb18_0 hczb8_0 hfzb8_0; refine goesL_ (some 127) rfl rfl Try.func22 (by kernel_rfl) rfl #[.agg #[.slice a122_ t122_1.length cc122_], .agg #[.slice a42_ t42_1.length cc42_]] rfl (by (try simp only [List.map_toArray, List.map_cons, List.map_nil]); first | done | rfl) ?_; refine (laws_eqCuts.calls (hr0_0 := (Kd.S_reads' (St.getS H 1 rfl)).2.2) (hc0_0 := kc122_.out) (hr1_0 := (Kd.S_reads' (St.getS H 5 rfl)).2.2) (hc1_0 := kc42_.out) (h := A127.out)).mono ?_; rintro e w127 ⟨rfl, hb_⟩; refine ⟨_, rfl, ?_⟩; replace H := St.call H hb_; clear hb_; replace H := St.drop H 0; replace H := St.drop H 0; replace H := St.drop H 2; replace H := St.drop H 2; replace H := St.drop H 2; replace H := St.drop H 2; (try dsimp only [put, cutAt] at H); have hczb13_0 : w127.cell? ⟨g13_, 0, none⟩ = some (.slice a55_ t106_2.length cc55_) := (blk_cell (St.getB H 0 rfl ⟨0, rfl⟩) 0).trans rfl; have hfzb13_0 : w127.frozen? ⟨g13_, 0, none⟩ = false := blk_frozen (St.getB H 0 rfl ⟨0, rfl⟩) 0)) | ((with_reducible refine gate_dst (N := 136) rfl ?_); go_loud (clear hczb13_0 hfzb13_0; refine goesL_ (some 136) rfl rfl Try.func26 (by kernel_rfl) rfl #[.agg #[.slice a55_ t106_2.length cc55_], .int .i64 1] rfl (by (try simp only [List.map_toArray, List.map_cons, List.map_nil]); first | done | rfl) ?_; refine (laws_heldCuts.calls (hr0_0 := (Kd.S_reads' (St.getS H 1 rfl)).2.2) (hc0_0 := kc55_m.out) (h := A136.out)).mono ?_; rintro e w136 ⟨rfl, hb_⟩; refine ⟨_, rfl, ?_⟩; replace H := St.call H hb_; clear hb_; replace H := St.drop H 0; replace H := St.drop H 0; (try dsimp only [put, cutAt] at H))))
  go_ret
  exact ⟨by first | rfl | (simp; done), (St.lift H).below⟩

end Go.Proofs.Ytonkicgdgpcneaa.PFnExactAddCuts
