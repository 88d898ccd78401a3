-- Written by a program of this session (lawx3.sh, lawwalk3.py); Lean checks it.
import Derived.Test.YtpkclocdenagcaaPFnExactSettlex0
import Derived.Test.YtpkclocdenagcaaPFnExactSettlex1
import Derived.Test.YtpkclocdenagcaaPFnExactSettlex2
import Derived.Test.YtpkclocdenagcaaPFnExactSettlex3
import Derived.Test.YtpkclocdenagcaaPFnExactSettlex4
import Derived.Test.YtpkclocdenagcaaPFnExactSettlex5
import Derived.Test.YtpkclocdenagcaaPFnExactSettlex6
import Derived.Test.YtpkclocdenagcaaPFnExactSettlex7
import Derived.Test.YtpkclocdenagcaaLaw
namespace Go.Proofs.Ytpkclocdenagcaa.PFnExactSettle
open Go.RowKit Go.Proofs.YtpkclocdenagcaaW.PrintWords Go.Proofs.YtpkclocdenagcaaW.PrintLast Go.Proofs.YtpkclocdenagcaaW.PrintMore
attribute [local go_sem] max2_int min2_int max_two min_two max_three min_three max_four min_four   -- for this text's walks alone
set_option linter.unusedVariables false
set_option linter.unusedSimpArgs false

/-! ### laws_markInt64SS: function 54 -/
def laws_markInt64SS.l0 : Nat → List (List Int) → Int → Int → Option (Int × (List (List Int)))
  | 0, _, _, _ => none
  | k + 1, x0, x1, x5 => if x5 < (x0.length : Int) then (if 0 ≤ x5 then ((laws_markInt64S.f k (rd_L1 x0 x5) x1).bind fun t => laws_markInt64SS.l0 k (x0.set (x5 : Int).toNat t.2) t.1 (wrap64 (x5 + 1))) else none) else some (x1, x0)
def laws_markInt64SS.f (k : Nat) (l0 : List (List Int)) (a1 : Int) : Option (Int × (List (List Int))) := laws_markInt64SS.l0 k l0 a1 0
set_option maxHeartbeats 8000000 in
set_option maxRecDepth 100000 in
theorem laws_markInt64SS.calls (k : Nat) (P0_ : Nat → Prop) (u9000_ : Value) (l0 : List (List Int)) (a1 : Int) (r1 : Int) (r2 : List (List Int)) (w0 w : World) (hB : Below w0.heap.size w0 w) (ho0 : Kd.S (Kd.slice 2 (Kd.int .i64)) 33 w w0.heap.size P0_ u9000_ l0) (h : laws_markInt64SS.f k l0 a1 = some (r1, r2)) :
    Calls Try.prog 54 #[u9000_, .int .i64 a1] w fun e w' => e = .returned (.int .i64 r1) ∧ Kd.S (Kd.slice 2 (Kd.int .i64)) 33 w' w0.heap.size (fun k_ => (P0_ k_ ∨ w.heap.size ≤ k_)) u9000_ r2 ∧ Below w0.heap.size w0 w' ∧ Kept w w' (fun k_ => P0_ k_) := by
  have HO0 := Aside0.mk (show Kd.S (Kd.slice 2 (Kd.int .i64)) 33 w w0.heap.size (fun k_ => (P0_ k_ ∨ w.heap.size ≤ k_)) u9000_ l0 from Kd.S_mono ho0 (fun k_ hk => (.inl hk)))
  have HK := Aside0.mk (Kept.refl w (fun k_ => P0_ k_))
  have HB := Aside0.mk hB
  clear hB
  have H : (laws_markInt64SS.l0 k l0 a1 0) = some (r1, r2) := h
  clear h
  have H' := Aside0.mk H
  clear H
  go_enter Try.func54, Try.ntmps54
  go_wp2
  go_loopg [1, 5] k (fun kq v1 v5 w' => ∃ (x0_1 : List (List Int)) (x1_1 : Int) (x5_1 : Int), v1 = .int .i64 x1_1 ∧ v5 = .int .i64 x5_1 ∧ Aside0 (laws_markInt64SS.l0 kq x0_1 x1_1 x5_1 = some (r1, r2)) ∧ Aside0 (kq ≤ k) ∧ Aside0 (Kd.S (Kd.slice 2 (Kd.int .i64)) 33 w' w0.heap.size (fun k_ => (P0_ k_ ∨ w.heap.size ≤ k_)) u9000_ x0_1) ∧ Aside0 (Kept w w' (fun k_ => P0_ k_)) ∧ Aside0 (Below w0.heap.size w0 w'))
  case atStart => exact ⟨l0, a1, 0, (by first | rfl | (simp; done)), (by first | rfl | (simp; done)), H', ⟨Nat.le_refl _⟩, ⟨by (with_reducible repeat (first | apply Kd.S_alloc | apply Kd.S_drewN | apply Kd.S_drew)); exact HO0.out⟩, ⟨by repeat (first | (with_reducible first | exact HK.out | apply Kept.alloc | apply Kept.drewN | apply Kept.drew) | exact HK.out)⟩, ⟨by repeat (first | (with_reducible first | exact HB.out | apply below_alloc | apply pw_below_drewN | apply below_drew1) | exact HB.out)⟩⟩
  case round =>
    clear H' HO0
    obtain ⟨x0_1, x1_1, x5_1, rfl, rfl, HA, HKk, HO_0, HKq, HBq⟩ := hrel
    cases gk with
    | zero => exact absurd HA.out (by simp [laws_markInt64SS.l0])
    | succ k1 =>
      have H := HA.out
      clear HA
      simp only [laws_markInt64SS.l0] at H
      by_cases c3 : x5_1 < (x0_1.length : Int)
      · rw [if_pos c3] at H
        by_cases c5 : 0 ≤ x5_1
        · rw [if_pos c5] at H
          obtain ⟨⟨t1, t2⟩, A40, H⟩ := Option.bind_eq_some_iff.mp H
          replace H : laws_markInt64SS.l0 k1 (x0_1.set (x5_1 : Int).toNat t2) t1 (wrap64 (x5_1 + 1)) = some (r1, r2) := H
          have A4 := Aside0.mk A40
          have H' := Aside0.mk H
          clear A40 H
          obtain ⟨g, cap, rfl, hgb, hgl, cells, hgc⟩ := Kd.S_form HO_0.out (by omega)
          obtain ⟨oki, c, hcl, hM, hcc, hoki, hH⟩ := Kd.S_lend HO_0.out ([] : List Int) x5_1 c5 c3
          obtain ⟨v1, rfl, hR1⟩ := hM
          have hx0 : wr.cell? ⟨g, (x5_1 : Int).toNat, none⟩ = some v1 := by
            have h_ : wr.cell? ⟨g, (x5_1 : Int).toNat * 1 + 0, none⟩ = some v1 := hcc 0 _ rfl
            rwa [Nat.mul_one, Nat.add_zero] at h_
          have HR2 := Aside0.mk hR1
          have HH2 := Aside0.mk hH
          have HI2 := Aside0.mk hoki
          have c3b0 : decide (x5_1 < (x0_1.length : Int)) = true := decide_eq_true c3
          replace c3 := eq_true c3
          replace c5 := eq_true c5
          clear hcl hcc hH hR1 hoki hgb hgl hgc
          go_wp2_with (first | ((with_reducible refine gate_callee (f := 21) rfl ?_); refine goesL_ (some 17) rfl rfl Try.func21 (by kernel_rfl) rfl #[v1, .int .i64 x1_1] rfl (by (try simp only [List.map_toArray, List.map_cons, List.map_nil]); first | done | rfl) ?_; refine (laws_markInt64S.calls k1 oki v1 _ x1_1 t1 t2 w0 _ (by repeat (first | (with_reducible first | exact HBq.out | apply below_alloc | apply pw_below_drewN | apply below_drew1) | exact HBq.out)) (by (with_reducible repeat (first | apply Kd.R_alloc | apply Kd.R_drewN | apply Kd.R_drew)); exact HR2.out) A4.out).mono ?_; rintro e w12 ⟨rfl, hr', hb', hk'⟩; refine ⟨_, rfl, ?_⟩; have HS := Aside0.mk (Kd.H_back (Kd.H_step (Kd.H_widen HH2.out) (fun k _ hn hlt => hk'.2 k hlt (fun h => hn (.inl h)))) ⟨v1, rfl, hr'⟩ (fun k hk => hk.elim .inl (fun h => .inr ⟨.inr (Nat.le_trans HKq.out.1 h), h⟩))); have HK2 := Aside0.mk (Kept.then_ HKq.out hk' (fun k hk => (HI2.out k hk).1)); have HB2 := Aside0.mk hb'; clear hr' hb' hk' HH2 HR2 HI2 hx0))
          go_roundg k1
          case measure => have := HKk.out; omega
          case rel => exact ⟨_, _, _, (by first | rfl | (simp; done)), (by first | rfl | (simp; done)), H', ⟨by have := HKk.out; omega⟩, ⟨HS.out⟩, ⟨HK2.out⟩, ⟨HB2.out⟩⟩
        · rw [if_neg c5] at H
          exact absurd H (by simp)
      · rw [if_neg c3] at H
        have c3b0 : decide (x5_1 < (x0_1.length : Int)) = false := decide_eq_false c3
        clear c3
        simp only [Option.some.injEq, Prod.mk.injEq] at H
        obtain ⟨rfl, rfl⟩ := H
        obtain ⟨Ao14, co14, eo14⟩ := Kd.S_slice HO_0.out
        subst eo14
        go_wp2
        go_ret
        exact ⟨by first | rfl | (simp; done), HO_0.out, HBq.out, HKq.out⟩

/-! ### laws_markCnf: function 20 -/
def laws_markCnf.f (k : Nat) (a0_0 : Int) (l0_1 : List (List Int)) (a1 : Int) : Option (Int × (List (List Int))) := (laws_markInt64SS.f k l0_1 a1).bind fun bt => (some (bt.1, bt.2))
set_option maxHeartbeats 8000000 in
set_option maxRecDepth 100000 in
theorem laws_markCnf.calls (k : Nat) (a0_0 : Int) (P0_1_ : Nat → Prop) (u9000_ : Value) (l0_1 : List (List Int)) (a1 : Int) (r1 : Int) (r2 : List (List Int)) (w0 w : World) (hB : Below w0.heap.size w0 w) (ho0_1 : Kd.S (Kd.slice 2 (Kd.int .i64)) 33 w w0.heap.size P0_1_ u9000_ l0_1) (h : laws_markCnf.f k a0_0 l0_1 a1 = some (r1, r2)) :
    Calls Try.prog 20 #[.agg #[.int .i64 a0_0, u9000_], .int .i64 a1] w fun e w' => e = .returned (.int .i64 r1) ∧ Kd.S (Kd.slice 2 (Kd.int .i64)) 33 w' w0.heap.size (fun k_ => (P0_1_ k_ ∨ w.heap.size ≤ k_)) u9000_ r2 ∧ Below w0.heap.size w0 w' ∧ Kept w w' (fun k_ => P0_1_ k_) := by
  have hu37 := Try.underlying37
  have HO := Aside0.mk ho0_1
  have HB := Aside0.mk hB
  obtain ⟨⟨t1_, t2_⟩, h1_, h2_⟩ := Option.bind_eq_some_iff.mp h
  simp only [Option.some.injEq, Prod.mk.injEq] at h2_
  obtain ⟨rfl, rfl⟩ := h2_
  have A := Aside0.mk h1_
  clear h1_
  obtain ⟨Ao, co, rfl⟩ := Kd.S_slice ho0_1
  clear hB ho0_1 h
  go_enter Try.func20, Try.ntmps20
  go_wp2_with (first | ((with_reducible refine gate_dst (N := 2) rfl ?_); refine box_event ?hg (N := 2) ?hd (cs := #[.int .i64 a0_0, .slice Ao l0_1.length co]) (t := 37) ?hr ?_; (case hd => rfl); (case hg => rfl); (case hr => first | (go_simp; done) | (go_simp; rfl)); intro gb hg w5 hbox hb; have BX := Aside0.mk hbox; have HB1 := Aside0.mk hb; have HG := Aside0.mk hg; have hcz : w5.cell? ⟨gb, 1, none⟩ = some (.slice Ao l0_1.length co) := (blk_cell hbox 1).trans rfl; have hfz := blk_frozen hbox 1; clear hbox hb hg) | ((with_reducible refine gate_dst (N := 8) rfl ?_); refine goesL_ (some 8) rfl rfl Try.func54 (by kernel_rfl) rfl #[.slice Ao l0_1.length co, .int .i64 a1] rfl (by (try simp only [List.map_toArray, List.map_cons, List.map_nil]); first | done | rfl) ?_; refine (laws_markInt64SS.calls k P0_1_ (.slice Ao l0_1.length co) l0_1 a1 t1_ t2_ w0 _ (below_step HB.out (by repeat (first | exact HB1.out | apply pw_below_drewN))) (Kd.S_below HO.out (by repeat (first | exact HB1.out | apply pw_below_drewN))) A.out).mono ?_; rintro e w7 ⟨rfl, hs, hb2, hk⟩; refine ⟨_, rfl, ?_⟩; have HS := Aside0.mk (Kd.S_mono (ok' := fun k_ => P0_1_ k_ ∨ w.heap.size ≤ k_) hs (fun k_ hk_ => hk_.imp id (Nat.le_trans HB1.out.size))); have HB2 := Aside0.mk hb2; have HK := Aside0.mk (Kept.then_ (S := fun k_ => P0_1_ k_) (Kept.of_below HB1.out _) hk (fun k_ h_ => .inl h_)); clear hs hb2 hk hcz hfz))
  go_ret
  exact ⟨by first | rfl | (simp; done), HS.out, HB2.out, HK.out⟩

/-! ### laws_FnExactSettle: function 6 -/
def laws_FnExactSettle.f (k : Nat) (a0_0 : Int) (l0_1 : List (List Int)) (a1 : Int) : Option (Bool) := (laws_szCnf.f k a0_0 l0_1 1048576).bind fun t21 => if t21 < 0 then some true else (laws_toCnf.f k a0_0 l0_1).bind fun bt26 => (spec_Settle.f k bt26.1 bt26.2 a1).bind fun bt28 => (laws_toCnf.f k a0_0 l0_1).bind fun bt33 => (impl_Settle.f k bt33.1 bt33.2 a1).bind fun bt37 => (laws_eqBoolS.f k bt37.1 bt28.1).bind fun t43 => if t43 = true then (if bt37.2.1 = bt28.2.1 then (if bt37.2.2 = bt28.2.2 then ((laws_toCnf.f k a0_0 l0_1).bind fun bt57 => (laws_eqCnf.f k bt33.1 bt33.2 bt57.1 bt57.2).bind fun t58 => if t58 = true then ((laws_markCnf.f k bt33.1 bt33.2 1).bind fun bt62 => (laws_eqBoolS.f k bt37.1 bt28.1).bind fun t68 => if bt62.1 < 0 then none else if t68 = true then (if bt37.2.1 = bt28.2.1 then (if bt37.2.2 = bt28.2.2 then ((laws_markBoolS.f k bt37.1 1).bind fun bt83 => (laws_heldBoolS.f k bt83.2 1).bind fun t86 => if t86 < 0 then none else if t86 = bt83.1 then ((laws_toCnf.f k a0_0 l0_1).bind fun bt94 => (impl_Settle.f k bt94.1 bt94.2 a1).bind fun bt96 => (laws_eqBoolS.f k bt96.1 bt28.1).bind fun t102 => if t102 = true then (if bt96.2.1 = bt28.2.1 then (if bt96.2.2 = bt28.2.2 then ((laws_heldBoolS.f k bt83.2 1).bind fun t116 => if t116 < 0 then none else if t116 = bt83.1 then (some true) else none) else none) else none) else none) else none) else none) else none) else none) else none) else none) else none) else none
set_option maxHeartbeats 8000000 in
set_option maxRecDepth 100000 in
theorem laws_FnExactSettle.calls (k : Nat) (a0_0 : Int) (A0_1 : Option Addr) (c0_1 : Nat) (l0_1 : List (List Int)) (a1 : Int) (r : Bool) (w : World) (hr0_1 : Kd.C (Kd.slice 2 (Kd.int .i64)) w A0_1 l0_1.length l0_1) (hc0_1 : l0_1.length ≤ c0_1) (h : laws_FnExactSettle.f k a0_0 l0_1 a1 = some r) :
    Calls Try.prog 6 #[.agg #[.int .i64 a0_0, .slice A0_1 l0_1.length c0_1], .int .i64 a1] w fun e w' => e = .returned (.bool r) ∧ Below w.heap.size w w' := by
  have hu32 := Try.underlying32
  have hu37 := Try.underlying37
  have HR0_1 := Aside0.mk hr0_1; have HC0_1 := Aside0.mk hc0_1; clear hr0_1 hc0_1
  have H := St.nil w
  unfold laws_FnExactSettle.f at h
  obtain ⟨t21, A21_, h_⟩ := Option.bind_eq_some_iff.mp h; clear h; have h := h_; clear h_
  have A21 := Aside0.mk A21_; clear A21_
  try dsimp only at h
  by_cases c1_ : t21 < 0
  · rw [if_pos c1_] at h
    obtain rfl := Option.some.inj h
    have c1b := decide_eq_true c1_
    clear c1_ h
    go_enter Try.func6, Try.ntmps6
    go_wp2_with (first | ((with_reducible refine gate_dst (N := 2) rfl ?_); go_loud (refine box_event ?hg (N := 2) ?hd (cs := #[.int .i64 a0_0, .slice A0_1 l0_1.length c0_1]) (t := 32) ?hr ?_; (case hd => rfl); (case hg => rfl); (case hr => first | (go_simp; done) | (go_simp; rfl)); intro g2_ hg_ w2 hbox_ hb_; replace H := St.box H hg_ hbox_ hb_; clear hg_ hbox_ hb_; have hczb2_0 : w2.cell? ⟨g2_, 0, none⟩ = some (.int .i64 a0_0) := (blk_cell (St.getB H 0 rfl ⟨0, rfl⟩) 0).trans rfl; have hfzb2_0 : w2.frozen? ⟨g2_, 0, none⟩ = false := blk_frozen (St.getB H 0 rfl ⟨0, rfl⟩) 0; have hczb2_1 : w2.cell? ⟨g2_, 1, none⟩ = some (.slice A0_1 l0_1.length c0_1) := (blk_cell (St.getB H 0 rfl ⟨0, rfl⟩) 1).trans rfl; have hfzb2_1 : w2.frozen? ⟨g2_, 1, none⟩ = false := blk_frozen (St.getB H 0 rfl ⟨0, rfl⟩) 1)) | ((with_reducible refine gate_dst (N := 21) rfl ?_); go_loud (clear hczb2_0 hfzb2_0 hczb2_1 hfzb2_1; refine goesL_ (some 21) rfl rfl Try.func13 (by kernel_rfl) rfl #[.agg #[.int .i64 a0_0, .slice A0_1 l0_1.length c0_1], .int .i64 1048576] rfl (by (try simp only [List.map_toArray, List.map_cons, List.map_nil]); first | done | rfl) ?_; refine (laws_szCnf.calls (hr0_1 := Kd.C_below HR0_1.out (St.lift H).below) (hc0_1 := HC0_1.out) (h := A21.out)).mono ?_; rintro e w21 ⟨rfl, hb_⟩; refine ⟨_, rfl, ?_⟩; replace H := St.call H hb_; clear hb_; have hczb2_0 : w21.cell? ⟨g2_, 0, none⟩ = some (.int .i64 a0_0) := (blk_cell (St.getB H 0 rfl ⟨0, rfl⟩) 0).trans rfl; have hfzb2_0 : w21.frozen? ⟨g2_, 0, none⟩ = false := blk_frozen (St.getB H 0 rfl ⟨0, rfl⟩) 0; have hczb2_1 : w21.cell? ⟨g2_, 1, none⟩ = some (.slice A0_1 l0_1.length c0_1) := (blk_cell (St.getB H 0 rfl ⟨0, rfl⟩) 1).trans rfl; have hfzb2_1 : w21.frozen? ⟨g2_, 1, none⟩ = false := blk_frozen (St.getB H 0 rfl ⟨0, rfl⟩) 1)))
    go_ret
    exact ⟨by first | rfl | (simp; done), (St.lift H).below⟩
  rw [if_neg c1_] at h; have c1b := decide_eq_false c1_
  clear c1_
  obtain ⟨⟨t26_1, t26_2⟩, A26_, h_⟩ := Option.bind_eq_some_iff.mp h; clear h; have h := h_; clear h_
  have A26 := Aside0.mk A26_; clear A26_
  try dsimp only at h
  obtain ⟨⟨t28_1, t28_2, t28_3⟩, A28_, h_⟩ := Option.bind_eq_some_iff.mp h; clear h; have h := h_; clear h_
  have A28 := Aside0.mk A28_; clear A28_
  try dsimp only at h
  obtain ⟨⟨t33_1, t33_2⟩, A33_, h_⟩ := Option.bind_eq_some_iff.mp h; clear h; have h := h_; clear h_
  have A33 := Aside0.mk A33_; clear A33_
  try dsimp only at h
  obtain ⟨⟨t37_1, t37_2, t37_3⟩, A37_, h_⟩ := Option.bind_eq_some_iff.mp h; clear h; have h := h_; clear h_
  have A37 := Aside0.mk A37_; clear A37_
  try dsimp only at h
  obtain ⟨t43, A43_, h_⟩ := Option.bind_eq_some_iff.mp h; clear h; have h := h_; clear h_
  have A43 := Aside0.mk A43_; clear A43_
  try dsimp only at h
  obtain ⟨c2_, h_⟩ := iteP_ h; clear h; have h := h_; clear h_; subst c2_
  obtain ⟨c3_, h_⟩ := iteP_ h; clear h; have h := h_; clear h_; have c3b : (t37_2 != t28_2) = false := by simpa using c3_
  have c3d : decide (t37_2 = t28_2) = true := by simpa using c3_
  have c3e : (t37_2 == t28_2) = true := by simpa using c3_
  clear c3_
  obtain ⟨c4_, h_⟩ := iteP_ h; clear h; have h := h_; clear h_; have c4b : (t37_3 != t28_3) = false := by simpa using c4_
  have c4d : decide (t37_3 = t28_3) = true := by simpa using c4_
  have c4e : (t37_3 == t28_3) = true := by simpa using c4_
  clear c4_
  obtain ⟨⟨t57_1, t57_2⟩, A57_, h_⟩ := Option.bind_eq_some_iff.mp h; clear h; have h := h_; clear h_
  have A57 := Aside0.mk A57_; clear A57_
  try dsimp only at h
  obtain ⟨t58, A58_, h_⟩ := Option.bind_eq_some_iff.mp h; clear h; have h := h_; clear h_
  have A58 := Aside0.mk A58_; clear A58_
  try dsimp only at h
  obtain ⟨c5_, h_⟩ := iteP_ h; clear h; have h := h_; clear h_; subst c5_
  obtain ⟨⟨t62_1, t62_2⟩, A62_, h_⟩ := Option.bind_eq_some_iff.mp h; clear h; have h := h_; clear h_
  have A62 := Aside0.mk A62_; clear A62_
  try dsimp only at h
  obtain ⟨t68, A68_, h_⟩ := Option.bind_eq_some_iff.mp h; clear h; have h := h_; clear h_
  have A68 := Aside0.mk A68_; clear A68_
  try dsimp only at h
  obtain ⟨c6_, h_⟩ := iteN_ h; clear h; have h := h_; clear h_; have c6b := decide_eq_false c6_; clear c6_
  obtain ⟨c7_, h_⟩ := iteP_ h; clear h; have h := h_; clear h_; subst c7_
  obtain ⟨c8_, h_⟩ := iteP_ h; clear h; have h := h_; clear h_; have c8b : (t37_2 != t28_2) = false := by simpa using c8_
  have c8d : decide (t37_2 = t28_2) = true := by simpa using c8_
  have c8e : (t37_2 == t28_2) = true := by simpa using c8_
  clear c8_
  obtain ⟨c9_, h_⟩ := iteP_ h; clear h; have h := h_; clear h_; have c9b : (t37_3 != t28_3) = false := by simpa using c9_
  have c9d : decide (t37_3 = t28_3) = true := by simpa using c9_
  have c9e : (t37_3 == t28_3) = true := by simpa using c9_
  clear c9_
  obtain ⟨⟨t83_1, t83_2⟩, A83_, h_⟩ := Option.bind_eq_some_iff.mp h; clear h; have h := h_; clear h_
  have A83 := Aside0.mk A83_; clear A83_
  try dsimp only at h
  obtain ⟨t86, A86_, h_⟩ := Option.bind_eq_some_iff.mp h; clear h; have h := h_; clear h_
  have A86 := Aside0.mk A86_; clear A86_
  try dsimp only at h
  obtain ⟨c10_, h_⟩ := iteN_ h; clear h; have h := h_; clear h_; have c10b := decide_eq_false c10_; clear c10_
  obtain ⟨c11_, h_⟩ := iteP_ h; clear h; have h := h_; clear h_; have c11b : (t86 != t83_1) = false := by simpa using c11_
  have c11d : decide (t86 = t83_1) = true := by simpa using c11_
  have c11e : (t86 == t83_1) = true := by simpa using c11_
  clear c11_
  obtain ⟨⟨t94_1, t94_2⟩, A94_, h_⟩ := Option.bind_eq_some_iff.mp h; clear h; have h := h_; clear h_
  have A94 := Aside0.mk A94_; clear A94_
  try dsimp only at h
  obtain ⟨⟨t96_1, t96_2, t96_3⟩, A96_, h_⟩ := Option.bind_eq_some_iff.mp h; clear h; have h := h_; clear h_
  have A96 := Aside0.mk A96_; clear A96_
  try dsimp only at h
  obtain ⟨t102, A102_, h_⟩ := Option.bind_eq_some_iff.mp h; clear h; have h := h_; clear h_
  have A102 := Aside0.mk A102_; clear A102_
  try dsimp only at h
  obtain ⟨c12_, h_⟩ := iteP_ h; clear h; have h := h_; clear h_; subst c12_
  obtain ⟨c13_, h_⟩ := iteP_ h; clear h; have h := h_; clear h_; have c13b : (t96_2 != t28_2) = false := by simpa using c13_
  have c13d : decide (t96_2 = t28_2) = true := by simpa using c13_
  have c13e : (t96_2 == t28_2) = true := by simpa using c13_
  clear c13_
  obtain ⟨c14_, h_⟩ := iteP_ h; clear h; have h := h_; clear h_; have c14b : (t96_3 != t28_3) = false := by simpa using c14_
  have c14d : decide (t96_3 = t28_3) = true := by simpa using c14_
  have c14e : (t96_3 == t28_3) = true := by simpa using c14_
  clear c14_
  obtain ⟨t116, A116_, h_⟩ := Option.bind_eq_some_iff.mp h; clear h; have h := h_; clear h_
  have A116 := Aside0.mk A116_; clear A116_
  try dsimp only at h
  obtain ⟨c15_, h_⟩ := iteN_ h; clear h; have h := h_; clear h_; have c15b := decide_eq_false c15_; clear c15_
  obtain ⟨c16_, h_⟩ := iteP_ h; clear h; have h := h_; clear h_; have c16b : (t116 != t83_1) = false := by simpa using c16_
  have c16d : decide (t116 = t83_1) = true := by simpa using c16_
  have c16e : (t116 == t83_1) = true := by simpa using c16_
  clear c16_
  obtain rfl := Option.some.inj h; clear h
  go_enter Try.func6, Try.ntmps6
  go_wp2_with (first | ((with_reducible refine gate_dst (N := 2) rfl ?_); go_loud (refine box_event ?hg (N := 2) ?hd (cs := #[.int .i64 a0_0, .slice A0_1 l0_1.length c0_1]) (t := 32) ?hr ?_; (case hd => rfl); (case hg => rfl); (case hr => first | (go_simp; done) | (go_simp; rfl)); intro g2_ hg_ w2 hbox_ hb_; replace H := St.box H hg_ hbox_ hb_; clear hg_ hbox_ hb_; have hczb2_0 : w2.cell? ⟨g2_, 0, none⟩ = some (.int .i64 a0_0) := (blk_cell (St.getB H 0 rfl ⟨0, rfl⟩) 0).trans rfl; have hfzb2_0 : w2.frozen? ⟨g2_, 0, none⟩ = false := blk_frozen (St.getB H 0 rfl ⟨0, rfl⟩) 0; have hczb2_1 : w2.cell? ⟨g2_, 1, none⟩ = some (.slice A0_1 l0_1.length c0_1) := (blk_cell (St.getB H 0 rfl ⟨0, rfl⟩) 1).trans rfl; have hfzb2_1 : w2.frozen? ⟨g2_, 1, none⟩ = false := blk_frozen (St.getB H 0 rfl ⟨0, rfl⟩) 1)) | ((with_reducible refine gate_dst (N := 21) rfl ?_); go_loud (clear hczb2_0 hfzb2_0 hczb2_1 hfzb2_1; refine goesL_ (some 21) rfl rfl Try.func13 (by kernel_rfl) rfl #[.agg #[.int .i64 a0_0, .slice A0_1 l0_1.length c0_1], .int .i64 1048576] rfl (by (try simp only [List.map_toArray, List.map_cons, List.map_nil]); first | done | rfl) ?_; refine (laws_szCnf.calls (hr0_1 := Kd.C_below HR0_1.out (St.lift H).below) (hc0_1 := HC0_1.out) (h := A21.out)).mono ?_; rintro e w21 ⟨rfl, hb_⟩; refine ⟨_, rfl, ?_⟩; replace H := St.call H hb_; clear hb_; have hczb2_0 : w21.cell? ⟨g2_, 0, none⟩ = some (.int .i64 a0_0) := (blk_cell (St.getB H 0 rfl ⟨0, rfl⟩) 0).trans rfl; have hfzb2_0 : w21.frozen? ⟨g2_, 0, none⟩ = false := blk_frozen (St.getB H 0 rfl ⟨0, rfl⟩) 0; have hczb2_1 : w21.cell? ⟨g2_, 1, none⟩ = some (.slice A0_1 l0_1.length c0_1) := (blk_cell (St.getB H 0 rfl ⟨0, rfl⟩) 1).trans rfl; have hfzb2_1 : w21.frozen? ⟨g2_, 1, none⟩ = false := blk_frozen (St.getB H 0 rfl ⟨0, rfl⟩) 1)) | ((with_reducible refine gate_dst (N := 26) rfl ?_); go_loud (clear hczb2_0 hfzb2_0 hczb2_1 hfzb2_1; refine goesL_ (some 26) rfl rfl Try.func15 (by kernel_rfl) rfl #[.agg #[.int .i64 a0_0, .slice A0_1 l0_1.length c0_1]] rfl (by (try simp only [List.map_toArray, List.map_cons, List.map_nil]); first | done | rfl) ?_; refine (laws_toCnf.calls (hr0_1 := Kd.C_below HR0_1.out (St.lift H).below) (hc0_1 := HC0_1.out) (h := A26.out)).mono ?_; rintro e w26 ⟨v1x26, rfl, ho_, hb_⟩; refine ⟨_, rfl, ?_⟩; obtain ⟨ok26_, a26_, cc26_, rfl, kc26_, H_⟩ := St.callS H hb_ ho_; clear H hb_ ho_; have H := H_; clear H_)) | ((with_reducible refine gate_dst (N := 28) rfl ?_); go_loud (refine goesL_ (some 28) rfl rfl Try.func29 (by kernel_rfl) rfl #[.agg #[.int .i64 t26_1, .slice a26_ t26_2.length cc26_], .int .i64 a1] rfl (by (try simp only [List.map_toArray, List.map_cons, List.map_nil]); first | done | rfl) ?_; refine (spec_Settle.calls (hr0_1 := (Kd.S_reads' (St.getS H 0 rfl)).2.2) (hc0_1 := kc26_.out) (h := A28.out)).mono ?_; rintro e w28 ⟨v0x28, rfl, ho_, hb_⟩; refine ⟨_, rfl, ?_⟩; obtain ⟨ok28_, a28_, cc28_, rfl, kc28_, H_⟩ := St.callR H hb_ ho_; clear H hb_ ho_; have H := H_; clear H_; replace H := St.drop H 1; (try dsimp only [put, cutAt] at H); have hczb2_0 : w28.cell? ⟨g2_, 0, none⟩ = some (.int .i64 a0_0) := (blk_cell (St.getB H 1 rfl ⟨0, rfl⟩) 0).trans rfl; have hfzb2_0 : w28.frozen? ⟨g2_, 0, none⟩ = false := blk_frozen (St.getB H 1 rfl ⟨0, rfl⟩) 0; have hczb2_1 : w28.cell? ⟨g2_, 1, none⟩ = some (.slice A0_1 l0_1.length c0_1) := (blk_cell (St.getB H 1 rfl ⟨0, rfl⟩) 1).trans rfl; have hfzb2_1 : w28.frozen? ⟨g2_, 1, none⟩ = false := blk_frozen (St.getB H 1 rfl ⟨0, rfl⟩) 1)) | ((with_reducible refine gate_dst (N := 33) rfl ?_); go_loud (clear hczb2_0 hfzb2_0 hczb2_1 hfzb2_1; refine goesL_ (some 33) rfl rfl Try.func15 (by kernel_rfl) rfl #[.agg #[.int .i64 a0_0, .slice A0_1 l0_1.length c0_1]] rfl (by (try simp only [List.map_toArray, List.map_cons, List.map_nil]); first | done | rfl) ?_; refine (laws_toCnf.calls (hr0_1 := Kd.C_below HR0_1.out (St.lift H).below) (hc0_1 := HC0_1.out) (h := A33.out)).mono ?_; rintro e w33 ⟨v1x33, rfl, ho_, hb_⟩; refine ⟨_, rfl, ?_⟩; obtain ⟨ok33_, a33_, cc33_, rfl, kc33_, H_⟩ := St.callS H hb_ ho_; clear H hb_ ho_; have H := H_; clear H_)) | ((with_reducible refine gate_dst (N := 9) rfl ?_); go_loud (refine box_event ?hg (N := 9) ?hd (cs := #[.int .i64 0, .slice none 0 0]) (t := 37) ?hr ?_; (case hd => rfl); (case hg => rfl); (case hr => first | (go_simp; done) | (go_simp; rfl)); intro g9_ hg_ w9 hbox_ hb_; replace H := St.box H hg_ hbox_ hb_; clear hg_ hbox_ hb_; have hczb9_0 : w9.cell? ⟨g9_, 0, none⟩ = some (.int .i64 0) := (blk_cell (St.getB H 0 rfl ⟨0, rfl⟩) 0).trans rfl; have hfzb9_0 : w9.frozen? ⟨g9_, 0, none⟩ = false := blk_frozen (St.getB H 0 rfl ⟨0, rfl⟩) 0; have hczb9_1 : w9.cell? ⟨g9_, 1, none⟩ = some (.slice none 0 0) := (blk_cell (St.getB H 0 rfl ⟨0, rfl⟩) 1).trans rfl; have hfzb9_1 : w9.frozen? ⟨g9_, 1, none⟩ = false := blk_frozen (St.getB H 0 rfl ⟨0, rfl⟩) 1)) | ((with_reducible refine gate_dst (N := 37) rfl ?_); go_loud (clear hczb9_0 hfzb9_0 hczb9_1 hfzb9_1; refine St.abs ?_; intro w37p_ hwp_; have hlo_ := St.lowB H 0 rfl; have hkp_ : KeepBut w9 w37p_ g9_ none := (by rw [hwp_]; repeat (first | exact KeepBut.refl _ _ _ | apply keep_drewN | apply KeepBut.set_)); have hbx_ : w37p_.heap[g9_]? = some (.cells #[.int .i64 t33_1, .slice a33_ t33_2.length cc33_] 37 (0, 0)) := (by rw [hwp_]; (with_reducible repeat refine blk_drewN ?_ _); refine blk_put (cs := #[.int .i64 t33_1, .slice none 0 0]) ?_ 1 _ rfl; (with_reducible repeat refine blk_drewN ?_ _); refine blk_put (cs := #[.int .i64 0, .slice none 0 0]) ?_ 0 _ rfl; (with_reducible repeat refine blk_drewN ?_ _); exact St.getB H 0 rfl ⟨0, rfl⟩); have hbl_ : Below w.heap.size w w37p_ := (by rw [hwp_]; repeat (first | exact H.out.below | apply pw_below_drewN | refine below_set ?_ hlo_)); replace H := St.store H 0 rfl hkp_ hbx_ hbl_; (try dsimp only [put, cutAt] at H); clear hkp_ hbx_ hbl_ hlo_ hwp_; refine goesL_ (some 37) rfl rfl Try.func30 (by kernel_rfl) rfl #[.agg #[.int .i64 t33_1, .slice a33_ t33_2.length cc33_], .int .i64 a1] rfl (by (try simp only [List.map_toArray, List.map_cons, List.map_nil]); first | done | rfl) ?_; refine (impl_Settle.calls (hr0_1 := (Kd.S_reads' (St.getS H 1 rfl)).2.2) (hc0_1 := kc33_.out) (h := A37.out)).mono ?_; rintro e w37 ⟨v0x37, rfl, ho_, hb_⟩; refine ⟨_, rfl, ?_⟩; obtain ⟨ok37_, a37_, cc37_, rfl, kc37_, H_⟩ := St.callR H hb_ ho_; clear H hb_ ho_; have H := H_; clear H_)) | ((with_reducible refine gate_dst (N := 43) rfl ?_); go_loud (refine goesL_ (some 43) rfl rfl Try.func31 (by kernel_rfl) rfl #[.slice a37_ t37_1.length cc37_, .slice a28_ t28_1.length cc28_] rfl (by (try simp only [List.map_toArray, List.map_cons, List.map_nil]); first | done | rfl) ?_; refine (laws_eqBoolS.calls (hr0 := (Kd.R_reads' (St.getR H 0 rfl)).2.2) (hc0 := kc37_.out) (hr1 := (Kd.R_reads' (St.getR H 3 rfl)).2.2) (hc1 := kc28_.out) (h := A43.out)).mono ?_; rintro e w43 ⟨rfl, hb_⟩; replace hb_ := hb_.below; refine ⟨_, rfl, ?_⟩; replace H := St.call H hb_; clear hb_)))
  refine St.start (n := 5) (S := fun w' => w'.cell? ⟨g9_, 0, none⟩ = some (.int .i64 t33_1) ∧ w'.cell? ⟨g9_, 1, none⟩ = some (.slice a33_ t33_2.length cc33_) ∧ w'.cell? ⟨g2_, 0, none⟩ = some (.int .i64 a0_0) ∧ w'.cell? ⟨g2_, 1, none⟩ = some (.slice A0_1 l0_1.length c0_1)) (ds := []) #[false, false, false, false, false] (by kernel_rfl) rfl rfl (fun wr10 hwp_ => ?_)
  replace H := St.call H (show Below w43.heap.size w43 wr10 from (by rw [hwp_]; repeat (first | exact Below.refl _ _ | apply pw_below_drewN | apply below_drew1))) ⟨0, rfl⟩; clear hwp_
  refine ⟨⟨(blk_cell (St.getB H 1 rfl ⟨0, rfl⟩) 0).trans rfl, (blk_cell (St.getB H 1 rfl ⟨0, rfl⟩) 1).trans rfl, (blk_cell (St.getB H 4 rfl ⟨0, rfl⟩) 0).trans rfl, (blk_cell (St.getB H 4 rfl ⟨0, rfl⟩) 1).trans rfl⟩, fun hHeld => ?_⟩
  refine take_ (i := 0) (N := some 55) (v := ?_) (a' := ?_) #[true, false, false, false, false] rfl rfl (by kernel_rfl) (fun _ _ _ h => h) (Or.inl ⟨by rfl, ?_⟩) hHeld ?_ ?_
  rotate_left
  · rintro w' ⟨s0, s1, s2, s3⟩
    go_simp
    with_reducible rfl
  rotate_left
  · simp only [Act.put, List.setIfInBounds_toArray, List.set_cons_zero, List.set_cons_succ, i64_w, i32_w]
    rfl
  refine take_ (i := 1) (N := some 56) (v := ?_) (a' := ?_) #[true, true, false, false, false] rfl rfl (by kernel_rfl) (fun _ _ _ h => h) (Or.inl ⟨by rfl, ?_⟩) hHeld ?_ ?_
  rotate_left
  · rintro w' ⟨s0, s1, s2, s3⟩
    go_simp
    with_reducible rfl
  rotate_left
  · simp only [Act.put, List.setIfInBounds_toArray, List.set_cons_zero, List.set_cons_succ, i64_w, i32_w]
    rfl
  refine one_ (i := 2) (N := some 57) #[true, true, true, false, false] rfl rfl (by kernel_rfl) (by decide) (fun K hK => ?_)
  refine goes_ Try.func15 (by kernel_rfl) rfl #[.agg #[.int .i64 a0_0, .slice A0_1 l0_1.length c0_1]] (by rfl) rfl rfl (by (try simp only [List.map_toArray, List.map_cons, List.map_nil]); first | done | rfl) ?_
  refine (laws_toCnf.calls (hr0_1 := Kd.C_below HR0_1.out (St.lift H).below) (hc0_1 := HC0_1.out) (h := A57.out)).mono ?_
  rintro e wq10_1 ⟨v1x57, rfl, ho_, hb_⟩
  refine ⟨_, rfl, ?_⟩
  obtain ⟨ok57_, a57_, cc57_, rfl, kc57_, H_⟩ := St.callS H hb_ ho_; clear H hb_ ho_; have H := H_; clear H_
  refine hK.out _ _ ⟨(blk_cell (St.getB H 2 rfl ⟨0, rfl⟩) 0).trans rfl, (blk_cell (St.getB H 2 rfl ⟨0, rfl⟩) 1).trans rfl, (blk_cell (St.getB H 5 rfl ⟨0, rfl⟩) 0).trans rfl, (blk_cell (St.getB H 5 rfl ⟨0, rfl⟩) 1).trans rfl⟩ (fun hHeld => ?_)
  clear hK K
  refine norm_ (a' := ?_) ?_ ?_
  rotate_left
  · show Act.put _ (some 57) _ = _
    simp only [Act.put, List.setIfInBounds_toArray, List.set_cons_zero, List.set_cons_succ, i64_w, i32_w]
    rfl
  refine one_ (i := 3) (N := some 58) #[true, true, true, true, false] rfl rfl (by kernel_rfl) (by decide) (fun K hK => ?_)
  refine goes_ Try.func19 (by kernel_rfl) rfl #[.agg #[.int .i64 t33_1, .slice a33_ t33_2.length cc33_], .agg #[.int .i64 t57_1, .slice a57_ t57_2.length cc57_]] (by rfl) rfl rfl (by (try simp only [List.map_toArray, List.map_cons, List.map_nil]); first | done | rfl) ?_
  refine (laws_eqCnf.calls (hr0_1 := (Kd.S_reads' (St.getS H 3 rfl)).2.2) (hc0_1 := kc33_.out) (hr1_1 := (Kd.S_reads' (St.getS H 0 rfl)).2.2) (hc1_1 := kc57_.out) (h := A58.out)).mono ?_
  rintro e wq10_2 ⟨rfl, hb_⟩
  refine ⟨_, rfl, ?_⟩
  replace H := St.call H hb_; clear hb_
  refine hK.out _ _ ⟨(blk_cell (St.getB H 2 rfl ⟨0, rfl⟩) 0).trans rfl, (blk_cell (St.getB H 2 rfl ⟨0, rfl⟩) 1).trans rfl, (blk_cell (St.getB H 5 rfl ⟨0, rfl⟩) 0).trans rfl, (blk_cell (St.getB H 5 rfl ⟨0, rfl⟩) 1).trans rfl⟩ (fun hHeld => ?_)
  clear hK K
  refine norm_ (a' := ?_) ?_ ?_
  rotate_left
  · show Act.put _ (some 58) _ = _
    simp only [Act.put, List.setIfInBounds_toArray, List.set_cons_zero, List.set_cons_succ, i64_w, i32_w]
    rfl
  refine pure_ (i := 4) (N := some 59) (v := ?_) (a' := ?_) #[true, true, true, true, true] rfl rfl (by kernel_rfl) (fun _ _ _ h => h) (Or.inl ⟨by rfl, ?_⟩) ?_ ?_
  rotate_left
  · intro w'
    go_simp
    with_reducible rfl
  rotate_left
  · simp only [Act.put, List.setIfInBounds_toArray, List.set_cons_zero, List.set_cons_succ, i64_w, i32_w]
    rfl
  refine done_ (by kernel_rfl) ?_
  clear hHeld
  replace H := St.drop H 0
  (try dsimp only [put, cutAt] at H)
  have hczb9_0 : wq10_2.cell? ⟨g9_, 0, none⟩ = some (.int .i64 t33_1) := (blk_cell (St.getB H 1 rfl ⟨0, rfl⟩) 0).trans rfl; have hfzb9_0 : wq10_2.frozen? ⟨g9_, 0, none⟩ = false := blk_frozen (St.getB H 1 rfl ⟨0, rfl⟩) 0
  have hczb9_1 : wq10_2.cell? ⟨g9_, 1, none⟩ = some (.slice a33_ t33_2.length cc33_) := (blk_cell (St.getB H 1 rfl ⟨0, rfl⟩) 1).trans rfl; have hfzb9_1 : wq10_2.frozen? ⟨g9_, 1, none⟩ = false := blk_frozen (St.getB H 1 rfl ⟨0, rfl⟩) 1
  go_wp2_with (first | ((with_reducible refine gate_dst (N := 62) rfl ?_); go_loud (clear hczb9_0 hfzb9_0 hczb9_1 hfzb9_1; refine goesL_ (some 62) rfl rfl Try.func20 (by kernel_rfl) rfl #[.agg #[.int .i64 t33_1, .slice a33_ t33_2.length cc33_], .int .i64 1] rfl (by (try simp only [List.map_toArray, List.map_cons, List.map_nil]); first | done | rfl) ?_; refine (laws_markCnf.calls (P0_1_ := ok33_) (u9000_ := .slice a33_ t33_2.length cc33_) (ho0_1 := St.getS H 2 rfl) (hB := (St.lift H).below) (h := A62.out)).mono ?_; rintro e w62 ⟨rfl, hs_, hb_, hk_⟩; refine ⟨_, rfl, ?_⟩; replace H := St.markS H 2 rfl hs_ hb_ hk_; (try dsimp only [put, cutAt] at H); clear hs_ hb_ hk_; replace H := St.drop H 1; replace H := St.drop H 1; (try dsimp only [put, cutAt] at H))) | ((with_reducible refine gate_dst (N := 83) rfl ?_); go_loud (refine goesL_ (some 83) rfl rfl Try.func32 (by kernel_rfl) rfl #[.slice a37_ t37_1.length cc37_, .int .i64 1] rfl (by (try simp only [List.map_toArray, List.map_cons, List.map_nil]); first | done | rfl) ?_; refine (laws_markBoolS.calls (P0_ := ok37_) (u9000_ := .slice a37_ t37_1.length cc37_) (ho0 := St.getR H 0 rfl) (hB := (St.lift H).below) (h := A83.out)).mono ?_; rintro e w83 ⟨rfl, hs_, hb_, hk_⟩; refine ⟨_, rfl, ?_⟩; replace H := St.markR H 0 rfl hs_ hb_ hk_; (try dsimp only [put, cutAt] at H); have e_ := (Kd.R_reads' hs_).1; have kc37_m := Aside0.mk (Kd.R_reads' hs_).2.1; rw [e_] at H kc37_m; obtain ⟨ok37_m, H_⟩ : ∃ ok_, Aside0 (St w w83 [Ob.R w Kd.bool 4 ok_ (.slice a37_ t83_2.length cc37_) t83_2, Ob.R w Kd.bool 4 ok28_ (.slice a28_ t28_1.length cc28_) t28_1, Ob.B g2_ (.cells #[.int .i64 a0_0, .slice A0_1 l0_1.length c0_1] 32 (0, 0))]) := ⟨_, H⟩; clear H; have H := H_; clear H_; clear hs_ hb_ hk_; (rw [e_]); clear e_)) | ((with_reducible refine gate_dst (N := 86) rfl ?_); go_loud (refine goesL_ (some 86) rfl rfl Try.func33 (by kernel_rfl) rfl #[.slice a37_ t83_2.length cc37_, .int .i64 1] rfl (by (try simp only [List.map_toArray, List.map_cons, List.map_nil]); first | done | rfl) ?_; refine (laws_heldBoolS.calls (hr0 := (Kd.R_reads' (St.getR H 0 rfl)).2.2) (hc0 := kc37_m.out) (h := A86.out)).mono ?_; rintro e w86 ⟨rfl, hb_⟩; replace hb_ := hb_.below; refine ⟨_, rfl, ?_⟩; replace H := St.call H hb_; clear hb_; have hczb2_0 : w86.cell? ⟨g2_, 0, none⟩ = some (.int .i64 a0_0) := (blk_cell (St.getB H 2 rfl ⟨0, rfl⟩) 0).trans rfl; have hfzb2_0 : w86.frozen? ⟨g2_, 0, none⟩ = false := blk_frozen (St.getB H 2 rfl ⟨0, rfl⟩) 0; have hczb2_1 : w86.cell? ⟨g2_, 1, none⟩ = some (.slice A0_1 l0_1.length c0_1) := (blk_cell (St.getB H 2 rfl ⟨0, rfl⟩) 1).trans rfl; have hfzb2_1 : w86.frozen? ⟨g2_, 1, none⟩ = false := blk_frozen (St.getB H 2 rfl ⟨0, rfl⟩) 1)) | ((with_reducible refine gate_dst (N := 94) rfl ?_); go_loud (clear hczb2_0 hfzb2_0 hczb2_1 hfzb2_1; refine goesL_ (some 94) rfl rfl Try.func15 (by kernel_rfl) rfl #[.agg #[.int .i64 a0_0, .slice A0_1 l0_1.length c0_1]] rfl (by (try simp only [List.map_toArray, List.map_cons, List.map_nil]); first | done | rfl) ?_; refine (laws_toCnf.calls (hr0_1 := Kd.C_below HR0_1.out (St.lift H).below) (hc0_1 := HC0_1.out) (h := A94.out)).mono ?_; rintro e w94 ⟨v1x94, rfl, ho_, hb_⟩; refine ⟨_, rfl, ?_⟩; obtain ⟨ok94_, a94_, cc94_, rfl, kc94_, H_⟩ := St.callS H hb_ ho_; clear H hb_ ho_; have H := H_; clear H_; replace H := St.drop H 3; (try dsimp only [put, cutAt] at H))) | ((with_reducible refine gate_dst (N := 96) rfl ?_); go_loud (refine goesL_ (some 96) rfl rfl Try.func30 (by kernel_rfl) rfl #[.agg #[.int .i64 t94_1, .slice a94_ t94_2.length cc94_], .int .i64 a1] rfl (by (try simp only [List.map_toArray, List.map_cons, List.map_nil]); first | done | rfl) ?_; refine (impl_Settle.calls (hr0_1 := (Kd.S_reads' (St.getS H 0 rfl)).2.2) (hc0_1 := kc94_.out) (h := A96.out)).mono ?_; rintro e w96 ⟨v0x96, rfl, ho_, hb_⟩; refine ⟨_, rfl, ?_⟩; obtain ⟨ok96_, a96_, cc96_, rfl, kc96_, H_⟩ := St.callR H hb_ ho_; clear H hb_ ho_; have H := H_; clear H_; replace H := St.drop H 1; (try dsimp only [put, cutAt] at H))) | ((with_reducible refine gate_dst (N := 102) rfl ?_); go_loud (refine goesL_ (some 102) rfl rfl Try.func31 (by kernel_rfl) rfl #[.slice a96_ t96_1.length cc96_, .slice a28_ t28_1.length cc28_] rfl (by (try simp only [List.map_toArray, List.map_cons, List.map_nil]); first | done | rfl) ?_; refine (laws_eqBoolS.calls (hr0 := (Kd.R_reads' (St.getR H 0 rfl)).2.2) (hc0 := kc96_.out) (hr1 := (Kd.R_reads' (St.getR H 2 rfl)).2.2) (hc1 := kc28_.out) (h := A102.out)).mono ?_; rintro e w102 ⟨rfl, hb_⟩; replace hb_ := hb_.below; refine ⟨_, rfl, ?_⟩; replace H := St.call H hb_; clear hb_; replace H := St.drop H 0; replace H := St.drop H 1; (try dsimp only [put, cutAt] at H))) | ((with_reducible refine gate_dst (N := 116) rfl ?_); go_loud (refine goesL_ (some 116) rfl rfl Try.func33 (by kernel_rfl) rfl #[.slice a37_ t83_2.length cc37_, .int .i64 1] rfl (by (try simp only [List.map_toArray, List.map_cons, List.map_nil]); first | done | rfl) ?_; refine (laws_heldBoolS.calls (hr0 := (Kd.R_reads' (St.getR H 0 rfl)).2.2) (hc0 := kc37_m.out) (h := A116.out)).mono ?_; rintro e w116 ⟨rfl, hb_⟩; replace hb_ := hb_.below; refine ⟨_, rfl, ?_⟩; replace H := St.call H hb_; clear hb_; replace H := St.drop H 0; (try dsimp only [put, cutAt] at H))) | (go_at_call 31; go_loud (refine (laws_eqBoolS.calls (hr0 := (Kd.R_reads' (St.getR H 0 rfl)).2.2) (hc0 := kc37_.out) (hr1 := (Kd.R_reads' (St.getR H 1 rfl)).2.2) (hc1 := kc28_.out) (h := A68.out)).mono ?_; rintro e w68 ⟨rfl, hb_⟩; replace hb_ := hb_.below; replace H := St.call H hb_; clear hb_)))
  go_ret
  exact ⟨by first | rfl | (simp; done), (St.lift H).below⟩

end Go.Proofs.Ytpkclocdenagcaa.PFnExactSettle
