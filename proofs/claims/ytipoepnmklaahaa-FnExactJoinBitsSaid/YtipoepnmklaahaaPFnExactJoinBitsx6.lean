-- Written by a program of this session (lawx3.sh, lawwalk3.py); Lean checks it.
import Derived.Test.YtipoepnmklaahaaPFnExactJoinBitsx0
import Derived.Test.YtipoepnmklaahaaPFnExactJoinBitsx1
import Derived.Test.YtipoepnmklaahaaPFnExactJoinBitsx2
import Derived.Test.YtipoepnmklaahaaPFnExactJoinBitsx3
import Derived.Test.YtipoepnmklaahaaPFnExactJoinBitsx4
import Derived.Test.YtipoepnmklaahaaPFnExactJoinBitsx5
import Derived.Test.YtipoepnmklaahaaLaw
namespace Go.Proofs.Ytipoepnmklaahaa.PFnExactJoinBits
open Go.RowKit Go.Proofs.YtipoepnmklaahaaW.PrintWords Go.Proofs.YtipoepnmklaahaaW.PrintLast Go.Proofs.YtipoepnmklaahaaW.PrintMore
attribute [local go_sem] max2_int min2_int max_two min_two max_three min_three max_four min_four   -- for this text's walks alone
set_option linter.unusedVariables false
set_option linter.unusedSimpArgs false

/-! ### laws_FnExactJoinBits: function 4 -/
def laws_FnExactJoinBits.f (k : Nat) (a0_0 : Int) (l0_1 : List Int) (a1_0 : Int) (l1_1 : List Int) : Option (Bool) := (laws_szBits.f a0_0 l0_1 1048576).bind fun t19 => if t19 < 0 then some true else (laws_szBits.f a1_0 l1_1 t19).bind fun t24 => if t24 < 0 then some true else (laws_toBits.f k a0_0 l0_1).bind fun bt29 => (laws_toBits.f k a1_0 l1_1).bind fun bt31 => (spec_JoinBits.f k bt29.1 bt29.2 bt31.1 bt31.2).bind fun bt32 => (laws_toBits.f k a0_0 l0_1).bind fun bt36 => (laws_toBits.f k a1_0 l1_1).bind fun bt38 => (impl_JoinBits.f k bt36.1 bt36.2 bt38.1 bt38.2).bind fun bt42 => (laws_eqBits.f k bt42.1 bt42.2.1 bt32.1 bt32.2.1).bind fun t47 => if t47 = true then (if (bt42.2.2 != bt32.2.2) = true then none else (laws_toBits.f k a0_0 l0_1).bind fun bt56 => (laws_eqBits.f k bt36.1 bt36.2 bt56.1 bt56.2).bind fun t57 => if t57 = true then ((laws_toBits.f k a1_0 l1_1).bind fun bt61 => (laws_eqBits.f k bt38.1 bt38.2 bt61.1 bt61.2).bind fun t62 => if t62 = true then ((laws_markBits.f k bt36.1 bt36.2 1).bind fun bt66 => (laws_markBits.f k bt38.1 bt38.2 bt66.1).bind fun bt69 => (laws_eqBits.f k bt42.1 bt42.2.1 bt32.1 bt32.2.1).bind fun t75 => if bt69.1 < 0 then none else if t75 = true then (if (bt42.2.2 != bt32.2.2) = true then none else (laws_markBits.f k bt42.1 bt42.2.1 1).bind fun bt85 => (laws_heldBits.f k bt42.1 bt85.2 1).bind fun t88 => if t88 < 0 then none else if t88 = bt85.1 then ((laws_toBits.f k a0_0 l0_1).bind fun bt96 => (laws_toBits.f k a1_0 l1_1).bind fun bt98 => (impl_JoinBits.f k bt96.1 bt96.2 bt98.1 bt98.2).bind fun bt99 => (laws_eqBits.f k bt99.1 bt99.2.1 bt32.1 bt32.2.1).bind fun t104 => if t104 = true then (if (bt99.2.2 != bt32.2.2) = true then none else (laws_heldBits.f k bt42.1 bt85.2 1).bind fun t113 => if t113 < 0 then none else if t113 = bt85.1 then (some true) else none) else none) else none) else none) else none) else none) else none
set_option maxHeartbeats 8000000 in
set_option maxRecDepth 100000 in
theorem laws_FnExactJoinBits.calls (k : Nat) (a0_0 : Int) (A0_1 : Option Addr) (c0_1 : Nat) (l0_1 : List Int) (a1_0 : Int) (A1_1 : Option Addr) (c1_1 : Nat) (l1_1 : List Int) (r : Bool) (w : World) (hr0_1 : Kd.C (Kd.int .u64) w A0_1 l0_1.length l0_1) (hc0_1 : l0_1.length ≤ c0_1) (hr1_1 : Kd.C (Kd.int .u64) w A1_1 l1_1.length l1_1) (hc1_1 : l1_1.length ≤ c1_1) (h : laws_FnExactJoinBits.f k a0_0 l0_1 a1_0 l1_1 = some r) :
    Calls Try.prog 4 #[.agg #[.int .i64 a0_0, .slice A0_1 l0_1.length c0_1], .agg #[.int .i64 a1_0, .slice A1_1 l1_1.length c1_1]] w fun e w' => e = .returned (.bool r) ∧ Below w.heap.size w w' := by
  have hu24 := Try.underlying24
  have hu26 := Try.underlying26
  have HR0_1 := Aside0.mk hr0_1; have HC0_1 := Aside0.mk hc0_1; clear hr0_1 hc0_1
  have HR1_1 := Aside0.mk hr1_1; have HC1_1 := Aside0.mk hc1_1; clear hr1_1 hc1_1
  have H := St.nil w
  unfold laws_FnExactJoinBits.f at h
  obtain ⟨t19, A19_, h_⟩ := Option.bind_eq_some_iff.mp h; clear h; have h := h_; clear h_
  have A19 := Aside0.mk A19_; clear A19_
  try dsimp only at h
  by_cases c1_ : t19 < 0
  · rw [if_pos c1_] at h
    obtain rfl := Option.some.inj h
    have c1b := decide_eq_true c1_
    clear c1_ h
    go_enter Try.func4, Try.ntmps4
    go_wp2_with (first | ((with_reducible refine gate_dst (N := 2) rfl ?_); refine box_event ?hg (N := 2) ?hd (cs := #[.int .i64 a0_0, .slice A0_1 l0_1.length c0_1]) (t := 24) ?hr ?_; (case hd => rfl); (case hg => rfl); (case hr => first | (go_simp; done) | (go_simp; rfl)); intro g2_ hg_ w2 hbox_ hb_; replace H := St.box H hg_ hbox_ hb_; clear hg_ hbox_ hb_) | ((with_reducible refine gate_dst (N := 3) rfl ?_); refine box_event ?hg (N := 3) ?hd (cs := #[.int .i64 a1_0, .slice A1_1 l1_1.length c1_1]) (t := 24) ?hr ?_; (case hd => rfl); (case hg => rfl); (case hr => first | (go_simp; done) | (go_simp; rfl)); intro g3_ hg_ w3 hbox_ hb_; replace H := St.box H hg_ hbox_ hb_; clear hg_ hbox_ hb_; have hczb2_0 : w3.cell? ⟨g2_, 0, none⟩ = some (.int .i64 a0_0) := (blk_cell (St.getB H 1 rfl ⟨0, rfl⟩) 0).trans rfl; have hfzb2_0 : w3.frozen? ⟨g2_, 0, none⟩ = false := blk_frozen (St.getB H 1 rfl ⟨0, rfl⟩) 0; have hczb2_1 : w3.cell? ⟨g2_, 1, none⟩ = some (.slice A0_1 l0_1.length c0_1) := (blk_cell (St.getB H 1 rfl ⟨0, rfl⟩) 1).trans rfl; have hfzb2_1 : w3.frozen? ⟨g2_, 1, none⟩ = false := blk_frozen (St.getB H 1 rfl ⟨0, rfl⟩) 1) | ((with_reducible refine gate_dst (N := 19) rfl ?_); clear hczb2_0 hfzb2_0 hczb2_1 hfzb2_1; refine goesL_ (some 19) rfl rfl Try.func15 (by kernel_rfl) rfl #[.agg #[.int .i64 a0_0, .slice A0_1 l0_1.length c0_1], .int .i64 1048576] rfl (by (try simp only [List.map_toArray, List.map_cons, List.map_nil]); first | done | rfl) ?_; refine (laws_szBits.calls (hr0_1 := Kd.C_below HR0_1.out (St.lift H).below) (hc0_1 := HC0_1.out) (h := A19.out)).mono ?_; rintro e w19 ⟨rfl, hb_⟩; refine ⟨_, rfl, ?_⟩; replace H := St.call H hb_; clear hb_; have hczb3_0 : w19.cell? ⟨g3_, 0, none⟩ = some (.int .i64 a1_0) := (blk_cell (St.getB H 0 rfl ⟨0, rfl⟩) 0).trans rfl; have hfzb3_0 : w19.frozen? ⟨g3_, 0, none⟩ = false := blk_frozen (St.getB H 0 rfl ⟨0, rfl⟩) 0; have hczb3_1 : w19.cell? ⟨g3_, 1, none⟩ = some (.slice A1_1 l1_1.length c1_1) := (blk_cell (St.getB H 0 rfl ⟨0, rfl⟩) 1).trans rfl; have hfzb3_1 : w19.frozen? ⟨g3_, 1, none⟩ = false := blk_frozen (St.getB H 0 rfl ⟨0, rfl⟩) 1))
    go_ret
    exact ⟨by first | rfl | (simp; done), (St.lift H).below⟩
  rw [if_neg c1_] at h; have c1b := decide_eq_false c1_
  clear c1_
  obtain ⟨t24, A24_, h_⟩ := Option.bind_eq_some_iff.mp h; clear h; have h := h_; clear h_
  have A24 := Aside0.mk A24_; clear A24_
  try dsimp only at h
  by_cases c2_ : t24 < 0
  · rw [if_pos c2_] at h
    obtain rfl := Option.some.inj h
    have c2b := decide_eq_true c2_
    clear c2_ h
    go_enter Try.func4, Try.ntmps4
    go_wp2_with (first | ((with_reducible refine gate_dst (N := 2) rfl ?_); refine box_event ?hg (N := 2) ?hd (cs := #[.int .i64 a0_0, .slice A0_1 l0_1.length c0_1]) (t := 24) ?hr ?_; (case hd => rfl); (case hg => rfl); (case hr => first | (go_simp; done) | (go_simp; rfl)); intro g2_ hg_ w2 hbox_ hb_; replace H := St.box H hg_ hbox_ hb_; clear hg_ hbox_ hb_) | ((with_reducible refine gate_dst (N := 3) rfl ?_); refine box_event ?hg (N := 3) ?hd (cs := #[.int .i64 a1_0, .slice A1_1 l1_1.length c1_1]) (t := 24) ?hr ?_; (case hd => rfl); (case hg => rfl); (case hr => first | (go_simp; done) | (go_simp; rfl)); intro g3_ hg_ w3 hbox_ hb_; replace H := St.box H hg_ hbox_ hb_; clear hg_ hbox_ hb_; have hczb2_0 : w3.cell? ⟨g2_, 0, none⟩ = some (.int .i64 a0_0) := (blk_cell (St.getB H 1 rfl ⟨0, rfl⟩) 0).trans rfl; have hfzb2_0 : w3.frozen? ⟨g2_, 0, none⟩ = false := blk_frozen (St.getB H 1 rfl ⟨0, rfl⟩) 0; have hczb2_1 : w3.cell? ⟨g2_, 1, none⟩ = some (.slice A0_1 l0_1.length c0_1) := (blk_cell (St.getB H 1 rfl ⟨0, rfl⟩) 1).trans rfl; have hfzb2_1 : w3.frozen? ⟨g2_, 1, none⟩ = false := blk_frozen (St.getB H 1 rfl ⟨0, rfl⟩) 1) | ((with_reducible refine gate_dst (N := 19) rfl ?_); clear hczb2_0 hfzb2_0 hczb2_1 hfzb2_1; refine goesL_ (some 19) rfl rfl Try.func15 (by kernel_rfl) rfl #[.agg #[.int .i64 a0_0, .slice A0_1 l0_1.length c0_1], .int .i64 1048576] rfl (by (try simp only [List.map_toArray, List.map_cons, List.map_nil]); first | done | rfl) ?_; refine (laws_szBits.calls (hr0_1 := Kd.C_below HR0_1.out (St.lift H).below) (hc0_1 := HC0_1.out) (h := A19.out)).mono ?_; rintro e w19 ⟨rfl, hb_⟩; refine ⟨_, rfl, ?_⟩; replace H := St.call H hb_; clear hb_; have hczb3_0 : w19.cell? ⟨g3_, 0, none⟩ = some (.int .i64 a1_0) := (blk_cell (St.getB H 0 rfl ⟨0, rfl⟩) 0).trans rfl; have hfzb3_0 : w19.frozen? ⟨g3_, 0, none⟩ = false := blk_frozen (St.getB H 0 rfl ⟨0, rfl⟩) 0; have hczb3_1 : w19.cell? ⟨g3_, 1, none⟩ = some (.slice A1_1 l1_1.length c1_1) := (blk_cell (St.getB H 0 rfl ⟨0, rfl⟩) 1).trans rfl; have hfzb3_1 : w19.frozen? ⟨g3_, 1, none⟩ = false := blk_frozen (St.getB H 0 rfl ⟨0, rfl⟩) 1) | ((with_reducible refine gate_dst (N := 24) rfl ?_); clear hczb3_0 hfzb3_0 hczb3_1 hfzb3_1; refine goesL_ (some 24) rfl rfl Try.func15 (by kernel_rfl) rfl #[.agg #[.int .i64 a1_0, .slice A1_1 l1_1.length c1_1], .int .i64 t19] rfl (by (try simp only [List.map_toArray, List.map_cons, List.map_nil]); first | done | rfl) ?_; refine (laws_szBits.calls (hr0_1 := Kd.C_below HR1_1.out (St.lift H).below) (hc0_1 := HC1_1.out) (h := A24.out)).mono ?_; rintro e w24 ⟨rfl, hb_⟩; refine ⟨_, rfl, ?_⟩; replace H := St.call H hb_; clear hb_))
    go_ret
    exact ⟨by first | rfl | (simp; done), (St.lift H).below⟩
  rw [if_neg c2_] at h; have c2b := decide_eq_false c2_
  clear c2_
  obtain ⟨⟨t29_1, t29_2⟩, A29_, h_⟩ := Option.bind_eq_some_iff.mp h; clear h; have h := h_; clear h_
  have A29 := Aside0.mk A29_; clear A29_
  try dsimp only at h
  obtain ⟨⟨t31_1, t31_2⟩, A31_, h_⟩ := Option.bind_eq_some_iff.mp h; clear h; have h := h_; clear h_
  have A31 := Aside0.mk A31_; clear A31_
  try dsimp only at h
  obtain ⟨⟨t32_1, t32_2, t32_3⟩, A32_, h_⟩ := Option.bind_eq_some_iff.mp h; clear h; have h := h_; clear h_
  have A32 := Aside0.mk A32_; clear A32_
  try dsimp only at h
  obtain ⟨⟨t36_1, t36_2⟩, A36_, h_⟩ := Option.bind_eq_some_iff.mp h; clear h; have h := h_; clear h_
  have A36 := Aside0.mk A36_; clear A36_
  try dsimp only at h
  obtain ⟨⟨t38_1, t38_2⟩, A38_, h_⟩ := Option.bind_eq_some_iff.mp h; clear h; have h := h_; clear h_
  have A38 := Aside0.mk A38_; clear A38_
  try dsimp only at h
  obtain ⟨⟨t42_1, t42_2, t42_3⟩, A42_, h_⟩ := Option.bind_eq_some_iff.mp h; clear h; have h := h_; clear h_
  have A42 := Aside0.mk A42_; clear A42_
  try dsimp only at h
  obtain ⟨t47, A47_, h_⟩ := Option.bind_eq_some_iff.mp h; clear h; have h := h_; clear h_
  have A47 := Aside0.mk A47_; clear A47_
  try dsimp only at h
  obtain ⟨c3_, h_⟩ := iteP_ h; clear h; have h := h_; clear h_; subst c3_
  obtain ⟨c4_, h_⟩ := iteN_ h; clear h; have h := h_; clear h_; have c4b : (t42_3 != t32_3) = false := by simpa using c4_
  have c4d : decide (t42_3 = t32_3) = true := by simpa using c4_
  have c4e : (t42_3 == t32_3) = true := by simpa using c4_
  clear c4_
  obtain ⟨⟨t56_1, t56_2⟩, A56_, h_⟩ := Option.bind_eq_some_iff.mp h; clear h; have h := h_; clear h_
  have A56 := Aside0.mk A56_; clear A56_
  try dsimp only at h
  obtain ⟨t57, A57_, h_⟩ := Option.bind_eq_some_iff.mp h; clear h; have h := h_; clear h_
  have A57 := Aside0.mk A57_; clear A57_
  try dsimp only at h
  obtain ⟨c5_, h_⟩ := iteP_ h; clear h; have h := h_; clear h_; subst c5_
  obtain ⟨⟨t61_1, t61_2⟩, A61_, h_⟩ := Option.bind_eq_some_iff.mp h; clear h; have h := h_; clear h_
  have A61 := Aside0.mk A61_; clear A61_
  try dsimp only at h
  obtain ⟨t62, A62_, h_⟩ := Option.bind_eq_some_iff.mp h; clear h; have h := h_; clear h_
  have A62 := Aside0.mk A62_; clear A62_
  try dsimp only at h
  obtain ⟨c6_, h_⟩ := iteP_ h; clear h; have h := h_; clear h_; subst c6_
  obtain ⟨⟨t66_1, t66_2⟩, A66_, h_⟩ := Option.bind_eq_some_iff.mp h; clear h; have h := h_; clear h_
  have A66 := Aside0.mk A66_; clear A66_
  try dsimp only at h
  obtain ⟨⟨t69_1, t69_2⟩, A69_, h_⟩ := Option.bind_eq_some_iff.mp h; clear h; have h := h_; clear h_
  have A69 := Aside0.mk A69_; clear A69_
  try dsimp only at h
  obtain ⟨t75, A75_, h_⟩ := Option.bind_eq_some_iff.mp h; clear h; have h := h_; clear h_
  have A75 := Aside0.mk A75_; clear A75_
  try dsimp only at h
  obtain ⟨c7_, h_⟩ := iteN_ h; clear h; have h := h_; clear h_; have c7b := decide_eq_false c7_; clear c7_
  obtain ⟨c8_, h_⟩ := iteP_ h; clear h; have h := h_; clear h_; subst c8_
  obtain ⟨c9_, h_⟩ := iteN_ h; clear h; have h := h_; clear h_; have c9b : (t42_3 != t32_3) = false := by simpa using c9_
  have c9d : decide (t42_3 = t32_3) = true := by simpa using c9_
  have c9e : (t42_3 == t32_3) = true := by simpa using c9_
  clear c9_
  obtain ⟨⟨t85_1, t85_2⟩, A85_, h_⟩ := Option.bind_eq_some_iff.mp h; clear h; have h := h_; clear h_
  have A85 := Aside0.mk A85_; clear A85_
  try dsimp only at h
  obtain ⟨t88, A88_, h_⟩ := Option.bind_eq_some_iff.mp h; clear h; have h := h_; clear h_
  have A88 := Aside0.mk A88_; clear A88_
  try dsimp only at h
  obtain ⟨c10_, h_⟩ := iteN_ h; clear h; have h := h_; clear h_; have c10b := decide_eq_false c10_; clear c10_
  obtain ⟨c11_, h_⟩ := iteP_ h; clear h; have h := h_; clear h_; have c11b : (t88 != t85_1) = false := by simpa using c11_
  have c11d : decide (t88 = t85_1) = true := by simpa using c11_
  have c11e : (t88 == t85_1) = true := by simpa using c11_
  clear c11_
  obtain ⟨⟨t96_1, t96_2⟩, A96_, h_⟩ := Option.bind_eq_some_iff.mp h; clear h; have h := h_; clear h_
  have A96 := Aside0.mk A96_; clear A96_
  try dsimp only at h
  obtain ⟨⟨t98_1, t98_2⟩, A98_, h_⟩ := Option.bind_eq_some_iff.mp h; clear h; have h := h_; clear h_
  have A98 := Aside0.mk A98_; clear A98_
  try dsimp only at h
  obtain ⟨⟨t99_1, t99_2, t99_3⟩, A99_, h_⟩ := Option.bind_eq_some_iff.mp h; clear h; have h := h_; clear h_
  have A99 := Aside0.mk A99_; clear A99_
  try dsimp only at h
  obtain ⟨t104, A104_, h_⟩ := Option.bind_eq_some_iff.mp h; clear h; have h := h_; clear h_
  have A104 := Aside0.mk A104_; clear A104_
  try dsimp only at h
  obtain ⟨c12_, h_⟩ := iteP_ h; clear h; have h := h_; clear h_; subst c12_
  obtain ⟨c13_, h_⟩ := iteN_ h; clear h; have h := h_; clear h_; have c13b : (t99_3 != t32_3) = false := by simpa using c13_
  have c13d : decide (t99_3 = t32_3) = true := by simpa using c13_
  have c13e : (t99_3 == t32_3) = true := by simpa using c13_
  clear c13_
  obtain ⟨t113, A113_, h_⟩ := Option.bind_eq_some_iff.mp h; clear h; have h := h_; clear h_
  have A113 := Aside0.mk A113_; clear A113_
  try dsimp only at h
  obtain ⟨c14_, h_⟩ := iteN_ h; clear h; have h := h_; clear h_; have c14b := decide_eq_false c14_; clear c14_
  obtain ⟨c15_, h_⟩ := iteP_ h; clear h; have h := h_; clear h_; have c15b : (t113 != t85_1) = false := by simpa using c15_
  have c15d : decide (t113 = t85_1) = true := by simpa using c15_
  have c15e : (t113 == t85_1) = true := by simpa using c15_
  clear c15_
  obtain rfl := Option.some.inj h; clear h
  go_enter Try.func4, Try.ntmps4
  go_wp2_with (first | ((with_reducible refine gate_dst (N := 2) rfl ?_); refine box_event ?hg (N := 2) ?hd (cs := #[.int .i64 a0_0, .slice A0_1 l0_1.length c0_1]) (t := 24) ?hr ?_; (case hd => rfl); (case hg => rfl); (case hr => first | (go_simp; done) | (go_simp; rfl)); intro g2_ hg_ w2 hbox_ hb_; replace H := St.box H hg_ hbox_ hb_; clear hg_ hbox_ hb_) | ((with_reducible refine gate_dst (N := 3) rfl ?_); refine box_event ?hg (N := 3) ?hd (cs := #[.int .i64 a1_0, .slice A1_1 l1_1.length c1_1]) (t := 24) ?hr ?_; (case hd => rfl); (case hg => rfl); (case hr => first | (go_simp; done) | (go_simp; rfl)); intro g3_ hg_ w3 hbox_ hb_; replace H := St.box H hg_ hbox_ hb_; clear hg_ hbox_ hb_; have hczb2_0 : w3.cell? ⟨g2_, 0, none⟩ = some (.int .i64 a0_0) := (blk_cell (St.getB H 1 rfl ⟨0, rfl⟩) 0).trans rfl; have hfzb2_0 : w3.frozen? ⟨g2_, 0, none⟩ = false := blk_frozen (St.getB H 1 rfl ⟨0, rfl⟩) 0; have hczb2_1 : w3.cell? ⟨g2_, 1, none⟩ = some (.slice A0_1 l0_1.length c0_1) := (blk_cell (St.getB H 1 rfl ⟨0, rfl⟩) 1).trans rfl; have hfzb2_1 : w3.frozen? ⟨g2_, 1, none⟩ = false := blk_frozen (St.getB H 1 rfl ⟨0, rfl⟩) 1) | ((with_reducible refine gate_dst (N := 19) rfl ?_); clear hczb2_0 hfzb2_0 hczb2_1 hfzb2_1; refine goesL_ (some 19) rfl rfl Try.func15 (by kernel_rfl) rfl #[.agg #[.int .i64 a0_0, .slice A0_1 l0_1.length c0_1], .int .i64 1048576] rfl (by (try simp only [List.map_toArray, List.map_cons, List.map_nil]); first | done | rfl) ?_; refine (laws_szBits.calls (hr0_1 := Kd.C_below HR0_1.out (St.lift H).below) (hc0_1 := HC0_1.out) (h := A19.out)).mono ?_; rintro e w19 ⟨rfl, hb_⟩; refine ⟨_, rfl, ?_⟩; replace H := St.call H hb_; clear hb_; have hczb3_0 : w19.cell? ⟨g3_, 0, none⟩ = some (.int .i64 a1_0) := (blk_cell (St.getB H 0 rfl ⟨0, rfl⟩) 0).trans rfl; have hfzb3_0 : w19.frozen? ⟨g3_, 0, none⟩ = false := blk_frozen (St.getB H 0 rfl ⟨0, rfl⟩) 0; have hczb3_1 : w19.cell? ⟨g3_, 1, none⟩ = some (.slice A1_1 l1_1.length c1_1) := (blk_cell (St.getB H 0 rfl ⟨0, rfl⟩) 1).trans rfl; have hfzb3_1 : w19.frozen? ⟨g3_, 1, none⟩ = false := blk_frozen (St.getB H 0 rfl ⟨0, rfl⟩) 1) | ((with_reducible refine gate_dst (N := 24) rfl ?_); clear hczb3_0 hfzb3_0 hczb3_1 hfzb3_1; refine goesL_ (some 24) rfl rfl Try.func15 (by kernel_rfl) rfl #[.agg #[.int .i64 a1_0, .slice A1_1 l1_1.length c1_1], .int .i64 t19] rfl (by (try simp only [List.map_toArray, List.map_cons, List.map_nil]); first | done | rfl) ?_; refine (laws_szBits.calls (hr0_1 := Kd.C_below HR1_1.out (St.lift H).below) (hc0_1 := HC1_1.out) (h := A24.out)).mono ?_; rintro e w24 ⟨rfl, hb_⟩; refine ⟨_, rfl, ?_⟩; replace H := St.call H hb_; clear hb_))
  refine St.start (n := 11) (S := fun w' => w'.cell? ⟨g2_, 0, none⟩ = some (.int .i64 a0_0) ∧ w'.cell? ⟨g2_, 1, none⟩ = some (.slice A0_1 l0_1.length c0_1) ∧ w'.cell? ⟨g3_, 0, none⟩ = some (.int .i64 a1_0) ∧ w'.cell? ⟨g3_, 1, none⟩ = some (.slice A1_1 l1_1.length c1_1)) (ds := []) #[false, false, false, false, false, false, false, false, false, false, false] (by kernel_rfl) rfl rfl (fun wr8 hwp_ => ?_)
  replace H := St.call H (show Below w24.heap.size w24 wr8 from (by rw [hwp_]; repeat (first | exact Below.refl _ _ | apply pw_below_drewN | apply below_drew1))) ⟨0, rfl⟩; clear hwp_
  refine ⟨⟨(blk_cell (St.getB H 1 rfl ⟨0, rfl⟩) 0).trans rfl, (blk_cell (St.getB H 1 rfl ⟨0, rfl⟩) 1).trans rfl, (blk_cell (St.getB H 0 rfl ⟨0, rfl⟩) 0).trans rfl, (blk_cell (St.getB H 0 rfl ⟨0, rfl⟩) 1).trans rfl⟩, fun hHeld => ?_⟩
  refine take_ (i := 0) (N := some 28) (v := ?_) (a' := ?_) #[true, false, false, false, false, false, false, false, false, false, false] rfl rfl (by kernel_rfl) (fun _ _ _ h => h) (Or.inl ⟨by rfl, ?_⟩) hHeld ?_ ?_
  rotate_left
  · rintro w' ⟨s0, s1, s2, s3⟩
    go_simp
    with_reducible rfl
  rotate_left
  · simp only [Act.put, List.setIfInBounds_toArray, List.set_cons_zero, List.set_cons_succ, i64_w, i32_w]
    rfl
  refine take_ (i := 2) (N := some 30) (v := ?_) (a' := ?_) #[true, false, true, false, false, false, false, false, false, false, false] rfl rfl (by kernel_rfl) (fun _ _ _ h => h) (Or.inl ⟨by rfl, ?_⟩) hHeld ?_ ?_
  rotate_left
  · rintro w' ⟨s0, s1, s2, s3⟩
    go_simp
    with_reducible rfl
  rotate_left
  · simp only [Act.put, List.setIfInBounds_toArray, List.set_cons_zero, List.set_cons_succ, i64_w, i32_w]
    rfl
  refine join_ (σ := (Nat → Prop) × Option Addr × Nat × (Nat → Prop) × Option Addr × Nat × (Nat → Prop) × Option Addr × Nat × Nat) 2 #[true, true, true, true, true, true, true, true, true, false, false] (fun s_ => [(29, .agg #[.int .i64 t29_1, .slice s_.2.1 t29_2.length s_.2.2.1]), (31, .agg #[.int .i64 t31_1, .slice s_.2.2.2.2.1 t31_2.length s_.2.2.2.2.2.1]), (32, .tuple #[.agg #[.int .i64 t32_1, .slice s_.2.2.2.2.2.2.2.1 t32_2.length s_.2.2.2.2.2.2.2.2.1], .bool t32_3]), (27, .tuple #[.agg #[.int .i64 t32_1, .slice s_.2.2.2.2.2.2.2.1 t32_2.length s_.2.2.2.2.2.2.2.2.1], .bool t32_3]), (33, .agg #[.int .i64 t32_1, .slice s_.2.2.2.2.2.2.2.1 t32_2.length s_.2.2.2.2.2.2.2.2.1]), (34, .bool t32_3), (6, .pointer (some ⟨s_.2.2.2.2.2.2.2.2.2, 0, none⟩))]) (fun s_ w' => Aside0 (St w w' [Ob.B s_.2.2.2.2.2.2.2.2.2 (.cells #[.int .i64 0, .slice none 0 0] 26 (0, 0)), Ob.R w (Kd.int .u64) 87 s_.2.2.2.2.2.2.1 (.slice s_.2.2.2.2.2.2.2.1 t32_2.length s_.2.2.2.2.2.2.2.2.1) t32_2, Ob.R w (Kd.int .u64) 87 s_.2.2.2.1 (.slice s_.2.2.2.2.1 t31_2.length s_.2.2.2.2.2.1) t31_2, Ob.R w (Kd.int .u64) 87 s_.1 (.slice s_.2.1 t29_2.length s_.2.2.1) t29_2, Ob.B g3_ (.cells #[.int .i64 a1_0, .slice A1_1 l1_1.length c1_1] 24 (0, 0)), Ob.B g2_ (.cells #[.int .i64 a0_0, .slice A0_1 l0_1.length c0_1] 24 (0, 0))]) ∧ Aside0 (t29_2.length ≤ s_.2.2.1) ∧ Aside0 (t31_2.length ≤ s_.2.2.2.2.2.1) ∧ Aside0 (t32_2.length ≤ s_.2.2.2.2.2.2.2.2.1)) ?_ ?_
  rotate_left
  · intro hJ1_3_4_8
    refine join_ (σ := (Nat → Prop) × Option Addr × Nat × (Nat → Prop) × Option Addr × Nat × (Nat → Prop) × Option Addr × Nat) 3 #[true, true, true, true, true, true, true, true, false, false, false] (fun s_ => [(29, .agg #[.int .i64 t29_1, .slice s_.2.1 t29_2.length s_.2.2.1]), (31, .agg #[.int .i64 t31_1, .slice s_.2.2.2.2.1 t31_2.length s_.2.2.2.2.2.1]), (32, .tuple #[.agg #[.int .i64 t32_1, .slice s_.2.2.2.2.2.2.2.1 t32_2.length s_.2.2.2.2.2.2.2.2], .bool t32_3]), (27, .tuple #[.agg #[.int .i64 t32_1, .slice s_.2.2.2.2.2.2.2.1 t32_2.length s_.2.2.2.2.2.2.2.2], .bool t32_3]), (33, .agg #[.int .i64 t32_1, .slice s_.2.2.2.2.2.2.2.1 t32_2.length s_.2.2.2.2.2.2.2.2]), (34, .bool t32_3)]) (fun s_ w' => Aside0 (St w w' [Ob.R w (Kd.int .u64) 87 s_.2.2.2.2.2.2.1 (.slice s_.2.2.2.2.2.2.2.1 t32_2.length s_.2.2.2.2.2.2.2.2) t32_2, Ob.R w (Kd.int .u64) 87 s_.2.2.2.1 (.slice s_.2.2.2.2.1 t31_2.length s_.2.2.2.2.2.1) t31_2, Ob.R w (Kd.int .u64) 87 s_.1 (.slice s_.2.1 t29_2.length s_.2.2.1) t29_2, Ob.B g3_ (.cells #[.int .i64 a1_0, .slice A1_1 l1_1.length c1_1] 24 (0, 0)), Ob.B g2_ (.cells #[.int .i64 a0_0, .slice A0_1 l0_1.length c0_1] 24 (0, 0))]) ∧ Aside0 (t29_2.length ≤ s_.2.2.1) ∧ Aside0 (t31_2.length ≤ s_.2.2.2.2.2.1) ∧ Aside0 (t32_2.length ≤ s_.2.2.2.2.2.2.2.2)) ?_ ?_
    rotate_left
    · intro hJ1_3_4
      refine join_ (σ := (Nat → Prop) × Option Addr × Nat × (Nat → Prop) × Option Addr × Nat × Nat) 6 #[true, true, true, true, false, false, false, false, true, false, false] (fun s_ => [(29, .agg #[.int .i64 t29_1, .slice s_.2.1 t29_2.length s_.2.2.1]), (31, .agg #[.int .i64 t31_1, .slice s_.2.2.2.2.1 t31_2.length s_.2.2.2.2.2.1]), (6, .pointer (some ⟨s_.2.2.2.2.2.2, 0, none⟩))]) (fun s_ w' => Aside0 (St w w' [Ob.B s_.2.2.2.2.2.2 (.cells #[.int .i64 0, .slice none 0 0] 26 (0, 0)), Ob.R w (Kd.int .u64) 87 s_.2.2.2.1 (.slice s_.2.2.2.2.1 t31_2.length s_.2.2.2.2.2.1) t31_2, Ob.R w (Kd.int .u64) 87 s_.1 (.slice s_.2.1 t29_2.length s_.2.2.1) t29_2, Ob.B g3_ (.cells #[.int .i64 a1_0, .slice A1_1 l1_1.length c1_1] 24 (0, 0)), Ob.B g2_ (.cells #[.int .i64 a0_0, .slice A0_1 l0_1.length c0_1] 24 (0, 0))]) ∧ Aside0 (t29_2.length ≤ s_.2.2.1) ∧ Aside0 (t31_2.length ≤ s_.2.2.2.2.2.1)) ?_ ?_
      rotate_left
      · intro hJ1_3_8
        refine join_ (σ := (Nat → Prop) × Option Addr × Nat × (Nat → Prop) × Option Addr × Nat) 7 #[true, true, true, true, false, false, false, false, false, false, false] (fun s_ => [(29, .agg #[.int .i64 t29_1, .slice s_.2.1 t29_2.length s_.2.2.1]), (31, .agg #[.int .i64 t31_1, .slice s_.2.2.2.2.1 t31_2.length s_.2.2.2.2.2])]) (fun s_ w' => Aside0 (St w w' [Ob.R w (Kd.int .u64) 87 s_.2.2.2.1 (.slice s_.2.2.2.2.1 t31_2.length s_.2.2.2.2.2) t31_2, Ob.R w (Kd.int .u64) 87 s_.1 (.slice s_.2.1 t29_2.length s_.2.2.1) t29_2, Ob.B g3_ (.cells #[.int .i64 a1_0, .slice A1_1 l1_1.length c1_1] 24 (0, 0)), Ob.B g2_ (.cells #[.int .i64 a0_0, .slice A0_1 l0_1.length c0_1] 24 (0, 0))]) ∧ Aside0 (t29_2.length ≤ s_.2.2.1) ∧ Aside0 (t31_2.length ≤ s_.2.2.2.2.2)) ?_ ?_
        rotate_left
        · intro hJ1_3
          refine join_ (σ := (Nat → Prop) × Option Addr × Nat × Nat) 7 #[true, true, true, false, false, false, false, false, true, false, false] (fun s_ => [(29, .agg #[.int .i64 t29_1, .slice s_.2.1 t29_2.length s_.2.2.1]), (6, .pointer (some ⟨s_.2.2.2, 0, none⟩))]) (fun s_ w' => Aside0 (St w w' [Ob.B s_.2.2.2 (.cells #[.int .i64 0, .slice none 0 0] 26 (0, 0)), Ob.R w (Kd.int .u64) 87 s_.1 (.slice s_.2.1 t29_2.length s_.2.2.1) t29_2, Ob.B g3_ (.cells #[.int .i64 a1_0, .slice A1_1 l1_1.length c1_1] 24 (0, 0)), Ob.B g2_ (.cells #[.int .i64 a0_0, .slice A0_1 l0_1.length c0_1] 24 (0, 0))]) ∧ Aside0 (t29_2.length ≤ s_.2.2.1)) ?_ ?_
          rotate_left
          · intro hJ1_8
            refine join_ (σ := (Nat → Prop) × Option Addr × Nat) 8 #[true, true, true, false, false, false, false, false, false, false, false] (fun s_ => [(29, .agg #[.int .i64 t29_1, .slice s_.2.1 t29_2.length s_.2.2])]) (fun s_ w' => Aside0 (St w w' [Ob.R w (Kd.int .u64) 87 s_.1 (.slice s_.2.1 t29_2.length s_.2.2) t29_2, Ob.B g3_ (.cells #[.int .i64 a1_0, .slice A1_1 l1_1.length c1_1] 24 (0, 0)), Ob.B g2_ (.cells #[.int .i64 a0_0, .slice A0_1 l0_1.length c0_1] 24 (0, 0))]) ∧ Aside0 (t29_2.length ≤ s_.2.2)) ?_ ?_
            rotate_left
            · intro hJ1
              refine join_ (σ := Nat) 8 #[true, false, true, false, false, false, false, false, true, false, false] (fun s_ => [(6, .pointer (some ⟨s_, 0, none⟩))]) (fun s_ w' => Aside0 (St w w' [Ob.B s_ (.cells #[.int .i64 0, .slice none 0 0] 26 (0, 0)), Ob.B g3_ (.cells #[.int .i64 a1_0, .slice A1_1 l1_1.length c1_1] 24 (0, 0)), Ob.B g2_ (.cells #[.int .i64 a0_0, .slice A0_1 l0_1.length c0_1] 24 (0, 0))])) ?_ ?_
              rotate_left
              · intro hJ8
                refine two_ (i := 1) (j := 8) (Ni := some 29) (Nj := some 6) #[true, true, true, false, false, false, false, false, false, false, false] #[true, false, true, false, false, false, false, false, true, false, false] rfl rfl rfl rfl (by kernel_rfl) (by decide) (by decide) (fun K hK => ?_) (fun K hK => ?_)
                · skip
                  refine goes_ Try.func17 (by kernel_rfl) rfl #[.agg #[.int .i64 a0_0, .slice A0_1 l0_1.length c0_1]] (by rfl) rfl rfl (by (try simp only [List.map_toArray, List.map_cons, List.map_nil]); first | done | rfl) ?_
                  refine (laws_toBits.calls (hr0_1 := Kd.C_below HR0_1.out (St.lift H).below) (hc0_1 := HC0_1.out) (h := A29.out)).mono ?_
                  rintro e wq8_8 ⟨v1x29, rfl, ho_, hb_⟩
                  refine ⟨_, rfl, ?_⟩
                  obtain ⟨ok29_, a29_, cc29_, rfl, kc29_, H_⟩ := St.callR H hb_ ho_; clear H hb_ ho_; have H := H_; clear H_
                  refine hK.out _ _ ⟨(blk_cell (St.getB H 2 rfl ⟨0, rfl⟩) 0).trans rfl, (blk_cell (St.getB H 2 rfl ⟨0, rfl⟩) 1).trans rfl, (blk_cell (St.getB H 1 rfl ⟨0, rfl⟩) 0).trans rfl, (blk_cell (St.getB H 1 rfl ⟨0, rfl⟩) 1).trans rfl⟩ (fun hHeld => ?_)
                  clear hK K
                  refine norm_ (a' := ?_) ?_ ?_
                  rotate_left
                  · show Act.put _ (some 29) _ = _
                    simp only [Act.put, List.setIfInBounds_toArray, List.set_cons_zero, List.set_cons_succ, i64_w, i32_w]
                    rfl
                  exact norm_ (by first | (simp only [putAll, Act.put, List.setIfInBounds_toArray, List.set_cons_zero, List.set_cons_succ]; done) | (simp only [putAll, Act.put, List.setIfInBounds_toArray, List.set_cons_zero, List.set_cons_succ]; rfl)) (hJ1 ⟨ok29_, a29_, cc29_⟩ _ ⟨H, kc29_⟩)
                · skip
                  refine box_step ?hg (N := 6) ?hd (cs := #[.int .i64 0, .slice none 0 0]) (t := 26) ?hr ?_; (case hd => rfl); (case hg => rfl); (case hr => first | (go_simp; done) | (go_simp; rfl))
                  intro g6_ hg_ wq8_9 hbox_ hb_; replace H := St.box H hg_ hbox_ hb_; clear hg_ hbox_ hb_
                  refine hK.out _ _ ⟨(blk_cell (St.getB H 2 rfl ⟨0, rfl⟩) 0).trans rfl, (blk_cell (St.getB H 2 rfl ⟨0, rfl⟩) 1).trans rfl, (blk_cell (St.getB H 1 rfl ⟨0, rfl⟩) 0).trans rfl, (blk_cell (St.getB H 1 rfl ⟨0, rfl⟩) 1).trans rfl⟩ (fun hHeld => ?_)
                  clear hK K
                  refine norm_ (a' := ?_) ?_ ?_
                  rotate_left
                  · show Act.put _ (some 6) _ = _
                    simp only [Act.put, List.setIfInBounds_toArray, List.set_cons_zero, List.set_cons_succ, i64_w, i32_w]
                    rfl
                  exact norm_ (by first | (simp only [putAll, Act.put, List.setIfInBounds_toArray, List.set_cons_zero, List.set_cons_succ]; done) | (simp only [putAll, Act.put, List.setIfInBounds_toArray, List.set_cons_zero, List.set_cons_succ]; rfl)) (hJ8 g6_ _ H)
              · skip
                clear H hHeld
                rintro g6_ wn8_7 H
                try dsimp only at H
                have hHeld : wn8_7.cell? ⟨g2_, 0, none⟩ = some (.int .i64 a0_0) ∧ wn8_7.cell? ⟨g2_, 1, none⟩ = some (.slice A0_1 l0_1.length c0_1) ∧ wn8_7.cell? ⟨g3_, 0, none⟩ = some (.int .i64 a1_0) ∧ wn8_7.cell? ⟨g3_, 1, none⟩ = some (.slice A1_1 l1_1.length c1_1) := ⟨(blk_cell (St.getB H 2 rfl ⟨0, rfl⟩) 0).trans rfl, (blk_cell (St.getB H 2 rfl ⟨0, rfl⟩) 1).trans rfl, (blk_cell (St.getB H 1 rfl ⟨0, rfl⟩) 0).trans rfl, (blk_cell (St.getB H 1 rfl ⟨0, rfl⟩) 1).trans rfl⟩
                refine norm_ (a' := ?_) ?_ ?_
                rotate_left
                · simp only [putAll, Act.put, List.setIfInBounds_toArray, List.set_cons_zero, List.set_cons_succ]
                  rfl
                refine one_ (i := 1) (N := some 29) #[true, true, true, false, false, false, false, false, true, false, false] rfl rfl (by kernel_rfl) (by decide) (fun K hK => ?_)
                refine goes_ Try.func17 (by kernel_rfl) rfl #[.agg #[.int .i64 a0_0, .slice A0_1 l0_1.length c0_1]] (by rfl) rfl rfl (by (try simp only [List.map_toArray, List.map_cons, List.map_nil]); first | done | rfl) ?_
                refine (laws_toBits.calls (hr0_1 := Kd.C_below HR0_1.out (St.lift H).below) (hc0_1 := HC0_1.out) (h := A29.out)).mono ?_
                rintro e wq8_10 ⟨v1x29, rfl, ho_, hb_⟩
                refine ⟨_, rfl, ?_⟩
                obtain ⟨ok29_, a29_, cc29_, rfl, kc29_, H_⟩ := St.callR H hb_ ho_; clear H hb_ ho_; have H := H_; clear H_
                replace H := St.perm H (List.Perm.swap _ _ _)
                refine hK.out _ _ ⟨(blk_cell (St.getB H 3 rfl ⟨0, rfl⟩) 0).trans rfl, (blk_cell (St.getB H 3 rfl ⟨0, rfl⟩) 1).trans rfl, (blk_cell (St.getB H 2 rfl ⟨0, rfl⟩) 0).trans rfl, (blk_cell (St.getB H 2 rfl ⟨0, rfl⟩) 1).trans rfl⟩ (fun hHeld => ?_)
                clear hK K
                refine norm_ (a' := ?_) ?_ ?_
                rotate_left
                · show Act.put _ (some 29) _ = _
                  simp only [Act.put, List.setIfInBounds_toArray, List.set_cons_zero, List.set_cons_succ, i64_w, i32_w]
                  rfl
                exact norm_ (by first | (simp only [putAll, Act.put, List.setIfInBounds_toArray, List.set_cons_zero, List.set_cons_succ]; done) | (simp only [putAll, Act.put, List.setIfInBounds_toArray, List.set_cons_zero, List.set_cons_succ]; rfl)) (hJ1_8 ⟨ok29_, a29_, cc29_, g6_⟩ _ ⟨H, kc29_⟩)
            · skip
              clear H hHeld
              rintro ⟨ok29_, a29_, cc29_⟩ wn8_6 ⟨H, kc29_⟩
              try dsimp only at H kc29_
              have hHeld : wn8_6.cell? ⟨g2_, 0, none⟩ = some (.int .i64 a0_0) ∧ wn8_6.cell? ⟨g2_, 1, none⟩ = some (.slice A0_1 l0_1.length c0_1) ∧ wn8_6.cell? ⟨g3_, 0, none⟩ = some (.int .i64 a1_0) ∧ wn8_6.cell? ⟨g3_, 1, none⟩ = some (.slice A1_1 l1_1.length c1_1) := ⟨(blk_cell (St.getB H 2 rfl ⟨0, rfl⟩) 0).trans rfl, (blk_cell (St.getB H 2 rfl ⟨0, rfl⟩) 1).trans rfl, (blk_cell (St.getB H 1 rfl ⟨0, rfl⟩) 0).trans rfl, (blk_cell (St.getB H 1 rfl ⟨0, rfl⟩) 1).trans rfl⟩
              refine norm_ (a' := ?_) ?_ ?_
              rotate_left
              · simp only [putAll, Act.put, List.setIfInBounds_toArray, List.set_cons_zero, List.set_cons_succ]
                rfl
              refine two_ (i := 3) (j := 8) (Ni := some 31) (Nj := some 6) #[true, true, true, true, false, false, false, false, false, false, false] #[true, true, true, false, false, false, false, false, true, false, false] rfl rfl rfl rfl (by kernel_rfl) (by decide) (by decide) (fun K hK => ?_) (fun K hK => ?_)
              · skip
                refine goes_ Try.func17 (by kernel_rfl) rfl #[.agg #[.int .i64 a1_0, .slice A1_1 l1_1.length c1_1]] (by rfl) rfl rfl (by (try simp only [List.map_toArray, List.map_cons, List.map_nil]); first | done | rfl) ?_
                refine (laws_toBits.calls (hr0_1 := Kd.C_below HR1_1.out (St.lift H).below) (hc0_1 := HC1_1.out) (h := A31.out)).mono ?_
                rintro e wq8_11 ⟨v1x31, rfl, ho_, hb_⟩
                refine ⟨_, rfl, ?_⟩
                obtain ⟨ok31_, a31_, cc31_, rfl, kc31_, H_⟩ := St.callR H hb_ ho_; clear H hb_ ho_; have H := H_; clear H_
                refine hK.out _ _ ⟨(blk_cell (St.getB H 3 rfl ⟨0, rfl⟩) 0).trans rfl, (blk_cell (St.getB H 3 rfl ⟨0, rfl⟩) 1).trans rfl, (blk_cell (St.getB H 2 rfl ⟨0, rfl⟩) 0).trans rfl, (blk_cell (St.getB H 2 rfl ⟨0, rfl⟩) 1).trans rfl⟩ (fun hHeld => ?_)
                clear hK K
                refine norm_ (a' := ?_) ?_ ?_
                rotate_left
                · show Act.put _ (some 31) _ = _
                  simp only [Act.put, List.setIfInBounds_toArray, List.set_cons_zero, List.set_cons_succ, i64_w, i32_w]
                  rfl
                exact norm_ (by first | (simp only [putAll, Act.put, List.setIfInBounds_toArray, List.set_cons_zero, List.set_cons_succ]; done) | (simp only [putAll, Act.put, List.setIfInBounds_toArray, List.set_cons_zero, List.set_cons_succ]; rfl)) (hJ1_3 ⟨ok29_, a29_, cc29_, ok31_, a31_, cc31_⟩ _ ⟨H, kc29_, kc31_⟩)
              · skip
                refine box_step ?hg (N := 6) ?hd (cs := #[.int .i64 0, .slice none 0 0]) (t := 26) ?hr ?_; (case hd => rfl); (case hg => rfl); (case hr => first | (go_simp; done) | (go_simp; rfl))
                intro g6_ hg_ wq8_12 hbox_ hb_; replace H := St.box H hg_ hbox_ hb_; clear hg_ hbox_ hb_
                refine hK.out _ _ ⟨(blk_cell (St.getB H 3 rfl ⟨0, rfl⟩) 0).trans rfl, (blk_cell (St.getB H 3 rfl ⟨0, rfl⟩) 1).trans rfl, (blk_cell (St.getB H 2 rfl ⟨0, rfl⟩) 0).trans rfl, (blk_cell (St.getB H 2 rfl ⟨0, rfl⟩) 1).trans rfl⟩ (fun hHeld => ?_)
                clear hK K
                refine norm_ (a' := ?_) ?_ ?_
                rotate_left
                · show Act.put _ (some 6) _ = _
                  simp only [Act.put, List.setIfInBounds_toArray, List.set_cons_zero, List.set_cons_succ, i64_w, i32_w]
                  rfl
                exact norm_ (by first | (simp only [putAll, Act.put, List.setIfInBounds_toArray, List.set_cons_zero, List.set_cons_succ]; done) | (simp only [putAll, Act.put, List.setIfInBounds_toArray, List.set_cons_zero, List.set_cons_succ]; rfl)) (hJ1_8 ⟨ok29_, a29_, cc29_, g6_⟩ _ ⟨H, kc29_⟩)
          · skip
            clear H hHeld
            rintro ⟨ok29_, a29_, cc29_, g6_⟩ wn8_5 ⟨H, kc29_⟩
            try dsimp only at H kc29_
            have hHeld : wn8_5.cell? ⟨g2_, 0, none⟩ = some (.int .i64 a0_0) ∧ wn8_5.cell? ⟨g2_, 1, none⟩ = some (.slice A0_1 l0_1.length c0_1) ∧ wn8_5.cell? ⟨g3_, 0, none⟩ = some (.int .i64 a1_0) ∧ wn8_5.cell? ⟨g3_, 1, none⟩ = some (.slice A1_1 l1_1.length c1_1) := ⟨(blk_cell (St.getB H 3 rfl ⟨0, rfl⟩) 0).trans rfl, (blk_cell (St.getB H 3 rfl ⟨0, rfl⟩) 1).trans rfl, (blk_cell (St.getB H 2 rfl ⟨0, rfl⟩) 0).trans rfl, (blk_cell (St.getB H 2 rfl ⟨0, rfl⟩) 1).trans rfl⟩
            refine norm_ (a' := ?_) ?_ ?_
            rotate_left
            · simp only [putAll, Act.put, List.setIfInBounds_toArray, List.set_cons_zero, List.set_cons_succ]
              rfl
            refine one_ (i := 3) (N := some 31) #[true, true, true, true, false, false, false, false, true, false, false] rfl rfl (by kernel_rfl) (by decide) (fun K hK => ?_)
            refine goes_ Try.func17 (by kernel_rfl) rfl #[.agg #[.int .i64 a1_0, .slice A1_1 l1_1.length c1_1]] (by rfl) rfl rfl (by (try simp only [List.map_toArray, List.map_cons, List.map_nil]); first | done | rfl) ?_
            refine (laws_toBits.calls (hr0_1 := Kd.C_below HR1_1.out (St.lift H).below) (hc0_1 := HC1_1.out) (h := A31.out)).mono ?_
            rintro e wq8_13 ⟨v1x31, rfl, ho_, hb_⟩
            refine ⟨_, rfl, ?_⟩
            obtain ⟨ok31_, a31_, cc31_, rfl, kc31_, H_⟩ := St.callR H hb_ ho_; clear H hb_ ho_; have H := H_; clear H_
            replace H := St.perm H (List.Perm.swap _ _ _)
            refine hK.out _ _ ⟨(blk_cell (St.getB H 4 rfl ⟨0, rfl⟩) 0).trans rfl, (blk_cell (St.getB H 4 rfl ⟨0, rfl⟩) 1).trans rfl, (blk_cell (St.getB H 3 rfl ⟨0, rfl⟩) 0).trans rfl, (blk_cell (St.getB H 3 rfl ⟨0, rfl⟩) 1).trans rfl⟩ (fun hHeld => ?_)
            clear hK K
            refine norm_ (a' := ?_) ?_ ?_
            rotate_left
            · show Act.put _ (some 31) _ = _
              simp only [Act.put, List.setIfInBounds_toArray, List.set_cons_zero, List.set_cons_succ, i64_w, i32_w]
              rfl
            exact norm_ (by first | (simp only [putAll, Act.put, List.setIfInBounds_toArray, List.set_cons_zero, List.set_cons_succ]; done) | (simp only [putAll, Act.put, List.setIfInBounds_toArray, List.set_cons_zero, List.set_cons_succ]; rfl)) (hJ1_3_8 ⟨ok29_, a29_, cc29_, ok31_, a31_, cc31_, g6_⟩ _ ⟨H, kc29_, kc31_⟩)
        · skip
          clear H hHeld
          rintro ⟨ok29_, a29_, cc29_, ok31_, a31_, cc31_⟩ wn8_4 ⟨H, kc29_, kc31_⟩
          try dsimp only at H kc29_ kc31_
          have hHeld : wn8_4.cell? ⟨g2_, 0, none⟩ = some (.int .i64 a0_0) ∧ wn8_4.cell? ⟨g2_, 1, none⟩ = some (.slice A0_1 l0_1.length c0_1) ∧ wn8_4.cell? ⟨g3_, 0, none⟩ = some (.int .i64 a1_0) ∧ wn8_4.cell? ⟨g3_, 1, none⟩ = some (.slice A1_1 l1_1.length c1_1) := ⟨(blk_cell (St.getB H 3 rfl ⟨0, rfl⟩) 0).trans rfl, (blk_cell (St.getB H 3 rfl ⟨0, rfl⟩) 1).trans rfl, (blk_cell (St.getB H 2 rfl ⟨0, rfl⟩) 0).trans rfl, (blk_cell (St.getB H 2 rfl ⟨0, rfl⟩) 1).trans rfl⟩
          refine norm_ (a' := ?_) ?_ ?_
          rotate_left
          · simp only [putAll, Act.put, List.setIfInBounds_toArray, List.set_cons_zero, List.set_cons_succ]
            rfl
          refine two_ (i := 4) (j := 8) (Ni := some 32) (Nj := some 6) #[true, true, true, true, true, false, false, false, false, false, false] #[true, true, true, true, false, false, false, false, true, false, false] rfl rfl rfl rfl (by kernel_rfl) (by decide) (by decide) (fun K hK => ?_) (fun K hK => ?_)
          · skip
            refine goes_ Try.func22 (by kernel_rfl) rfl #[.agg #[.int .i64 t29_1, .slice a29_ t29_2.length cc29_], .agg #[.int .i64 t31_1, .slice a31_ t31_2.length cc31_]] (by rfl) rfl rfl (by (try simp only [List.map_toArray, List.map_cons, List.map_nil]); first | done | rfl) ?_
            refine (spec_JoinBits.calls (hr0_1 := (Kd.R_reads' (St.getR H 1 rfl)).2.2) (hc0_1 := kc29_.out) (hr1_1 := (Kd.R_reads' (St.getR H 0 rfl)).2.2) (hc1_1 := kc31_.out) (h := A32.out)).mono ?_
            rintro e wq8_14 ⟨v1x32, rfl, ho_, hb_⟩
            refine ⟨_, rfl, ?_⟩
            obtain ⟨ok32_, a32_, cc32_, rfl, kc32_, H_⟩ := St.callR H hb_ ho_; clear H hb_ ho_; have H := H_; clear H_
            refine hK.out _ _ ⟨(blk_cell (St.getB H 4 rfl ⟨0, rfl⟩) 0).trans rfl, (blk_cell (St.getB H 4 rfl ⟨0, rfl⟩) 1).trans rfl, (blk_cell (St.getB H 3 rfl ⟨0, rfl⟩) 0).trans rfl, (blk_cell (St.getB H 3 rfl ⟨0, rfl⟩) 1).trans rfl⟩ (fun hHeld => ?_)
            clear hK K
            refine norm_ (a' := ?_) ?_ ?_
            rotate_left
            · show Act.put _ (some 32) _ = _
              simp only [Act.put, List.setIfInBounds_toArray, List.set_cons_zero, List.set_cons_succ, i64_w, i32_w]
              rfl
            refine pure_ (i := 5) (N := some 27) (v := ?_) (a' := ?_) #[true, true, true, true, true, true, false, false, false, false, false] rfl rfl (by kernel_rfl) (fun _ _ _ h => h) (Or.inl ⟨by rfl, ?_⟩) ?_ ?_
            rotate_left
            · intro w'
              go_simp
              with_reducible rfl
            rotate_left
            · simp only [Act.put, List.setIfInBounds_toArray, List.set_cons_zero, List.set_cons_succ, i64_w, i32_w]
              rfl
            refine pure_ (i := 6) (N := some 33) (v := ?_) (a' := ?_) #[true, true, true, true, true, true, true, false, false, false, false] rfl rfl (by kernel_rfl) (fun _ _ _ h => h) (Or.inl ⟨by rfl, ?_⟩) ?_ ?_
            rotate_left
            · intro w'
              go_simp
              with_reducible rfl
            rotate_left
            · simp only [Act.put, List.setIfInBounds_toArray, List.set_cons_zero, List.set_cons_succ, i64_w, i32_w]
              rfl
            refine pure_ (i := 7) (N := some 34) (v := ?_) (a' := ?_) #[true, true, true, true, true, true, true, true, false, false, false] rfl rfl (by kernel_rfl) (fun _ _ _ h => h) (Or.inl ⟨by rfl, ?_⟩) ?_ ?_
            rotate_left
            · intro w'
              go_simp
              with_reducible rfl
            rotate_left
            · simp only [Act.put, List.setIfInBounds_toArray, List.set_cons_zero, List.set_cons_succ, i64_w, i32_w]
              rfl
            exact norm_ (by first | (simp only [putAll, Act.put, List.setIfInBounds_toArray, List.set_cons_zero, List.set_cons_succ]; done) | (simp only [putAll, Act.put, List.setIfInBounds_toArray, List.set_cons_zero, List.set_cons_succ]; rfl)) (hJ1_3_4 ⟨ok29_, a29_, cc29_, ok31_, a31_, cc31_, ok32_, a32_, cc32_⟩ _ ⟨H, kc29_, kc31_, kc32_⟩)
          · skip
            refine box_step ?hg (N := 6) ?hd (cs := #[.int .i64 0, .slice none 0 0]) (t := 26) ?hr ?_; (case hd => rfl); (case hg => rfl); (case hr => first | (go_simp; done) | (go_simp; rfl))
            intro g6_ hg_ wq8_15 hbox_ hb_; replace H := St.box H hg_ hbox_ hb_; clear hg_ hbox_ hb_
            refine hK.out _ _ ⟨(blk_cell (St.getB H 4 rfl ⟨0, rfl⟩) 0).trans rfl, (blk_cell (St.getB H 4 rfl ⟨0, rfl⟩) 1).trans rfl, (blk_cell (St.getB H 3 rfl ⟨0, rfl⟩) 0).trans rfl, (blk_cell (St.getB H 3 rfl ⟨0, rfl⟩) 1).trans rfl⟩ (fun hHeld => ?_)
            clear hK K
            refine norm_ (a' := ?_) ?_ ?_
            rotate_left
            · show Act.put _ (some 6) _ = _
              simp only [Act.put, List.setIfInBounds_toArray, List.set_cons_zero, List.set_cons_succ, i64_w, i32_w]
              rfl
            exact norm_ (by first | (simp only [putAll, Act.put, List.setIfInBounds_toArray, List.set_cons_zero, List.set_cons_succ]; done) | (simp only [putAll, Act.put, List.setIfInBounds_toArray, List.set_cons_zero, List.set_cons_succ]; rfl)) (hJ1_3_8 ⟨ok29_, a29_, cc29_, ok31_, a31_, cc31_, g6_⟩ _ ⟨H, kc29_, kc31_⟩)
      · skip
        clear H hHeld
        rintro ⟨ok29_, a29_, cc29_, ok31_, a31_, cc31_, g6_⟩ wn8_3 ⟨H, kc29_, kc31_⟩
        try dsimp only at H kc29_ kc31_
        have hHeld : wn8_3.cell? ⟨g2_, 0, none⟩ = some (.int .i64 a0_0) ∧ wn8_3.cell? ⟨g2_, 1, none⟩ = some (.slice A0_1 l0_1.length c0_1) ∧ wn8_3.cell? ⟨g3_, 0, none⟩ = some (.int .i64 a1_0) ∧ wn8_3.cell? ⟨g3_, 1, none⟩ = some (.slice A1_1 l1_1.length c1_1) := ⟨(blk_cell (St.getB H 4 rfl ⟨0, rfl⟩) 0).trans rfl, (blk_cell (St.getB H 4 rfl ⟨0, rfl⟩) 1).trans rfl, (blk_cell (St.getB H 3 rfl ⟨0, rfl⟩) 0).trans rfl, (blk_cell (St.getB H 3 rfl ⟨0, rfl⟩) 1).trans rfl⟩
        refine norm_ (a' := ?_) ?_ ?_
        rotate_left
        · simp only [putAll, Act.put, List.setIfInBounds_toArray, List.set_cons_zero, List.set_cons_succ]
          rfl
        refine one_ (i := 4) (N := some 32) #[true, true, true, true, true, false, false, false, true, false, false] rfl rfl (by kernel_rfl) (by decide) (fun K hK => ?_)
        refine goes_ Try.func22 (by kernel_rfl) rfl #[.agg #[.int .i64 t29_1, .slice a29_ t29_2.length cc29_], .agg #[.int .i64 t31_1, .slice a31_ t31_2.length cc31_]] (by rfl) rfl rfl (by (try simp only [List.map_toArray, List.map_cons, List.map_nil]); first | done | rfl) ?_
        refine (spec_JoinBits.calls (hr0_1 := (Kd.R_reads' (St.getR H 2 rfl)).2.2) (hc0_1 := kc29_.out) (hr1_1 := (Kd.R_reads' (St.getR H 1 rfl)).2.2) (hc1_1 := kc31_.out) (h := A32.out)).mono ?_
        rintro e wq8_16 ⟨v1x32, rfl, ho_, hb_⟩
        refine ⟨_, rfl, ?_⟩
        obtain ⟨ok32_, a32_, cc32_, rfl, kc32_, H_⟩ := St.callR H hb_ ho_; clear H hb_ ho_; have H := H_; clear H_
        replace H := St.perm H (List.Perm.swap _ _ _)
        refine hK.out _ _ ⟨(blk_cell (St.getB H 5 rfl ⟨0, rfl⟩) 0).trans rfl, (blk_cell (St.getB H 5 rfl ⟨0, rfl⟩) 1).trans rfl, (blk_cell (St.getB H 4 rfl ⟨0, rfl⟩) 0).trans rfl, (blk_cell (St.getB H 4 rfl ⟨0, rfl⟩) 1).trans rfl⟩ (fun hHeld => ?_)
        clear hK K
        refine norm_ (a' := ?_) ?_ ?_
        rotate_left
        · show Act.put _ (some 32) _ = _
          simp only [Act.put, List.setIfInBounds_toArray, List.set_cons_zero, List.set_cons_succ, i64_w, i32_w]
          rfl
        refine pure_ (i := 5) (N := some 27) (v := ?_) (a' := ?_) #[true, true, true, true, true, true, false, false, true, false, false] rfl rfl (by kernel_rfl) (fun _ _ _ h => h) (Or.inl ⟨by rfl, ?_⟩) ?_ ?_
        rotate_left
        · intro w'
          go_simp
          with_reducible rfl
        rotate_left
        · simp only [Act.put, List.setIfInBounds_toArray, List.set_cons_zero, List.set_cons_succ, i64_w, i32_w]
          rfl
        refine pure_ (i := 6) (N := some 33) (v := ?_) (a' := ?_) #[true, true, true, true, true, true, true, false, true, false, false] rfl rfl (by kernel_rfl) (fun _ _ _ h => h) (Or.inl ⟨by rfl, ?_⟩) ?_ ?_
        rotate_left
        · intro w'
          go_simp
          with_reducible rfl
        rotate_left
        · simp only [Act.put, List.setIfInBounds_toArray, List.set_cons_zero, List.set_cons_succ, i64_w, i32_w]
          rfl
        refine pure_ (i := 7) (N := some 34) (v := ?_) (a' := ?_) #[true, true, true, true, true, true, true, true, true, false, false] rfl rfl (by kernel_rfl) (fun _ _ _ h => h) (Or.inl ⟨by rfl, ?_⟩) ?_ ?_
        rotate_left
        · intro w'
          go_simp
          with_reducible rfl
        rotate_left
        · simp only [Act.put, List.setIfInBounds_toArray, List.set_cons_zero, List.set_cons_succ, i64_w, i32_w]
          rfl
        exact norm_ (by first | (simp only [putAll, Act.put, List.setIfInBounds_toArray, List.set_cons_zero, List.set_cons_succ]; done) | (simp only [putAll, Act.put, List.setIfInBounds_toArray, List.set_cons_zero, List.set_cons_succ]; rfl)) (hJ1_3_4_8 ⟨ok29_, a29_, cc29_, ok31_, a31_, cc31_, ok32_, a32_, cc32_, g6_⟩ _ ⟨H, kc29_, kc31_, kc32_⟩)
    · skip
      clear H hHeld
      rintro ⟨ok29_, a29_, cc29_, ok31_, a31_, cc31_, ok32_, a32_, cc32_⟩ wn8_2 ⟨H, kc29_, kc31_, kc32_⟩
      try dsimp only at H kc29_ kc31_ kc32_
      have hHeld : wn8_2.cell? ⟨g2_, 0, none⟩ = some (.int .i64 a0_0) ∧ wn8_2.cell? ⟨g2_, 1, none⟩ = some (.slice A0_1 l0_1.length c0_1) ∧ wn8_2.cell? ⟨g3_, 0, none⟩ = some (.int .i64 a1_0) ∧ wn8_2.cell? ⟨g3_, 1, none⟩ = some (.slice A1_1 l1_1.length c1_1) := ⟨(blk_cell (St.getB H 4 rfl ⟨0, rfl⟩) 0).trans rfl, (blk_cell (St.getB H 4 rfl ⟨0, rfl⟩) 1).trans rfl, (blk_cell (St.getB H 3 rfl ⟨0, rfl⟩) 0).trans rfl, (blk_cell (St.getB H 3 rfl ⟨0, rfl⟩) 1).trans rfl⟩
      refine norm_ (a' := ?_) ?_ ?_
      rotate_left
      · simp only [putAll, Act.put, List.setIfInBounds_toArray, List.set_cons_zero, List.set_cons_succ]
        rfl
      refine one_ (i := 8) (N := some 6) #[true, true, true, true, true, true, true, true, true, false, false] rfl rfl (by kernel_rfl) (by decide) (fun K hK => ?_)
      refine box_step ?hg (N := 6) ?hd (cs := #[.int .i64 0, .slice none 0 0]) (t := 26) ?hr ?_; (case hd => rfl); (case hg => rfl); (case hr => first | (go_simp; done) | (go_simp; rfl))
      intro g6_ hg_ wq8_17 hbox_ hb_; replace H := St.box H hg_ hbox_ hb_; clear hg_ hbox_ hb_
      refine hK.out _ _ ⟨(blk_cell (St.getB H 5 rfl ⟨0, rfl⟩) 0).trans rfl, (blk_cell (St.getB H 5 rfl ⟨0, rfl⟩) 1).trans rfl, (blk_cell (St.getB H 4 rfl ⟨0, rfl⟩) 0).trans rfl, (blk_cell (St.getB H 4 rfl ⟨0, rfl⟩) 1).trans rfl⟩ (fun hHeld => ?_)
      clear hK K
      refine norm_ (a' := ?_) ?_ ?_
      rotate_left
      · show Act.put _ (some 6) _ = _
        simp only [Act.put, List.setIfInBounds_toArray, List.set_cons_zero, List.set_cons_succ, i64_w, i32_w]
        rfl
      exact norm_ (by first | (simp only [putAll, Act.put, List.setIfInBounds_toArray, List.set_cons_zero, List.set_cons_succ]; done) | (simp only [putAll, Act.put, List.setIfInBounds_toArray, List.set_cons_zero, List.set_cons_succ]; rfl)) (hJ1_3_4_8 ⟨ok29_, a29_, cc29_, ok31_, a31_, cc31_, ok32_, a32_, cc32_, g6_⟩ _ ⟨H, kc29_, kc31_, kc32_⟩)
  clear H hHeld
  rintro ⟨ok29_, a29_, cc29_, ok31_, a31_, cc31_, ok32_, a32_, cc32_, g6_⟩ wn8_1 ⟨H, kc29_, kc31_, kc32_⟩
  try dsimp only at H kc29_ kc31_ kc32_
  have hHeld : wn8_1.cell? ⟨g2_, 0, none⟩ = some (.int .i64 a0_0) ∧ wn8_1.cell? ⟨g2_, 1, none⟩ = some (.slice A0_1 l0_1.length c0_1) ∧ wn8_1.cell? ⟨g3_, 0, none⟩ = some (.int .i64 a1_0) ∧ wn8_1.cell? ⟨g3_, 1, none⟩ = some (.slice A1_1 l1_1.length c1_1) := ⟨(blk_cell (St.getB H 5 rfl ⟨0, rfl⟩) 0).trans rfl, (blk_cell (St.getB H 5 rfl ⟨0, rfl⟩) 1).trans rfl, (blk_cell (St.getB H 4 rfl ⟨0, rfl⟩) 0).trans rfl, (blk_cell (St.getB H 4 rfl ⟨0, rfl⟩) 1).trans rfl⟩
  refine norm_ (a' := ?_) ?_ ?_
  rotate_left
  · simp only [putAll, Act.put, List.setIfInBounds_toArray, List.set_cons_zero, List.set_cons_succ]
    rfl
  refine one_ (i := 9) (N := none) #[true, true, true, true, true, true, true, true, true, true, false] rfl rfl (by kernel_rfl) (by decide) (fun K hK => ?_)
  have hlo_ := St.lowB H 0 rfl
  have hcs0_ : wn8_1.cell? ⟨g6_, 0, none⟩ = some (.int .i64 0) := (blk_cell (St.getB H 0 rfl ⟨0, rfl⟩) 0).trans rfl; have hfs0_ : wn8_1.frozen? ⟨g6_, 0, none⟩ = false := blk_frozen (St.getB H 0 rfl ⟨0, rfl⟩) 0
  have hcs1_ : wn8_1.cell? ⟨g6_, 1, none⟩ = some (.slice none 0 0) := (blk_cell (St.getB H 0 rfl ⟨0, rfl⟩) 1).trans rfl; have hfs1_ : wn8_1.frozen? ⟨g6_, 1, none⟩ = false := blk_frozen (St.getB H 0 rfl ⟨0, rfl⟩) 1
  refine skip_ (w1 := ((wn8_1.setCell ⟨g6_, 0, none⟩ (.int .i64 t32_1)).setCell ⟨g6_, 1, none⟩ (.slice a32_ t32_2.length cc32_))) (by rfl) rfl ?_ ?_
  · first | (go_simp; done) | (go_simp; rfl)
  obtain ⟨wq8_18, hwp_⟩ : ∃ W_, W_ = ((wn8_1.setCell ⟨g6_, 0, none⟩ (.int .i64 t32_1)).setCell ⟨g6_, 1, none⟩ (.slice a32_ t32_2.length cc32_)) := ⟨_, rfl⟩; rw [← hwp_]
  have hkp_ : KeepBut wn8_1 wq8_18 g6_ none := by rw [hwp_]; repeat (first | exact KeepBut.refl _ _ _ | apply KeepBut.set_)
  have hbx_ : wq8_18.heap[g6_]? = some (.cells #[.int .i64 t32_1, .slice a32_ t32_2.length cc32_] 26 (0, 0)) := by rw [hwp_]; refine blk_put (cs := #[.int .i64 t32_1, .slice none 0 0]) ?_ 1 _ rfl; refine blk_put (cs := #[.int .i64 0, .slice none 0 0]) ?_ 0 _ rfl; exact St.getB H 0 rfl ⟨0, rfl⟩
  have hbl_ : Below w.heap.size w wq8_18 := by rw [hwp_]; repeat (first | exact H.out.below | refine below_set ?_ hlo_)
  replace H := St.store H 0 rfl hkp_ hbx_ hbl_; (try dsimp only [put, cutAt] at H); clear hkp_ hbx_ hbl_ hlo_ hwp_ hcs0_ hfs0_ hcs1_ hfs1_
  refine hK.out _ _ ⟨(blk_cell (St.getB H 5 rfl ⟨0, rfl⟩) 0).trans rfl, (blk_cell (St.getB H 5 rfl ⟨0, rfl⟩) 1).trans rfl, (blk_cell (St.getB H 4 rfl ⟨0, rfl⟩) 0).trans rfl, (blk_cell (St.getB H 4 rfl ⟨0, rfl⟩) 1).trans rfl⟩ (fun hHeld => ?_)
  clear hK K
  refine pure_ (i := 10) (N := some 7) (v := ?_) (a' := ?_) #[true, true, true, true, true, true, true, true, true, true, true] rfl rfl (by kernel_rfl) (fun _ _ _ h => h) (Or.inl ⟨by rfl, ?_⟩) ?_ ?_
  rotate_left
  · intro w'
    go_simp
    with_reducible rfl
  rotate_left
  · simp only [Act.put, List.setIfInBounds_toArray, List.set_cons_zero, List.set_cons_succ, i64_w, i32_w]
    rfl
  refine done_ (by kernel_rfl) ?_
  clear hHeld
  replace H := St.drop H 2
  replace H := St.drop H 2
  (try dsimp only [put, cutAt] at H)
  have hczb2_0 : wq8_18.cell? ⟨g2_, 0, none⟩ = some (.int .i64 a0_0) := (blk_cell (St.getB H 3 rfl ⟨0, rfl⟩) 0).trans rfl; have hfzb2_0 : wq8_18.frozen? ⟨g2_, 0, none⟩ = false := blk_frozen (St.getB H 3 rfl ⟨0, rfl⟩) 0
  have hczb2_1 : wq8_18.cell? ⟨g2_, 1, none⟩ = some (.slice A0_1 l0_1.length c0_1) := (blk_cell (St.getB H 3 rfl ⟨0, rfl⟩) 1).trans rfl; have hfzb2_1 : wq8_18.frozen? ⟨g2_, 1, none⟩ = false := blk_frozen (St.getB H 3 rfl ⟨0, rfl⟩) 1
  go_wp2_with (first | ((with_reducible refine gate_dst (N := 36) rfl ?_); clear hczb2_0 hfzb2_0 hczb2_1 hfzb2_1; refine goesL_ (some 36) rfl rfl Try.func17 (by kernel_rfl) rfl #[.agg #[.int .i64 a0_0, .slice A0_1 l0_1.length c0_1]] rfl (by (try simp only [List.map_toArray, List.map_cons, List.map_nil]); first | done | rfl) ?_; refine (laws_toBits.calls (hr0_1 := Kd.C_below HR0_1.out (St.lift H).below) (hc0_1 := HC0_1.out) (h := A36.out)).mono ?_; rintro e w36 ⟨v1x36, rfl, ho_, hb_⟩; refine ⟨_, rfl, ?_⟩; obtain ⟨ok36_, a36_, cc36_, rfl, kc36_, H_⟩ := St.callR H hb_ ho_; clear H hb_ ho_; have H := H_; clear H_) | ((with_reducible refine gate_dst (N := 8) rfl ?_); refine box_event ?hg (N := 8) ?hd (cs := #[.int .i64 0, .slice none 0 0]) (t := 26) ?hr ?_; (case hd => rfl); (case hg => rfl); (case hr => first | (go_simp; done) | (go_simp; rfl)); intro g8_ hg_ w8 hbox_ hb_; replace H := St.box H hg_ hbox_ hb_; clear hg_ hbox_ hb_; have hczb8_0 : w8.cell? ⟨g8_, 0, none⟩ = some (.int .i64 0) := (blk_cell (St.getB H 0 rfl ⟨0, rfl⟩) 0).trans rfl; have hfzb8_0 : w8.frozen? ⟨g8_, 0, none⟩ = false := blk_frozen (St.getB H 0 rfl ⟨0, rfl⟩) 0; have hczb8_1 : w8.cell? ⟨g8_, 1, none⟩ = some (.slice none 0 0) := (blk_cell (St.getB H 0 rfl ⟨0, rfl⟩) 1).trans rfl; have hfzb8_1 : w8.frozen? ⟨g8_, 1, none⟩ = false := blk_frozen (St.getB H 0 rfl ⟨0, rfl⟩) 1; have hczb3_0 : w8.cell? ⟨g3_, 0, none⟩ = some (.int .i64 a1_0) := (blk_cell (St.getB H 4 rfl ⟨0, rfl⟩) 0).trans rfl; have hfzb3_0 : w8.frozen? ⟨g3_, 0, none⟩ = false := blk_frozen (St.getB H 4 rfl ⟨0, rfl⟩) 0; have hczb3_1 : w8.cell? ⟨g3_, 1, none⟩ = some (.slice A1_1 l1_1.length c1_1) := (blk_cell (St.getB H 4 rfl ⟨0, rfl⟩) 1).trans rfl; have hfzb3_1 : w8.frozen? ⟨g3_, 1, none⟩ = false := blk_frozen (St.getB H 4 rfl ⟨0, rfl⟩) 1; obtain ⟨hneb3_b8, hneb3_b8x⟩ := St.neB H 0 4 rfl rfl (by decide)) | ((with_reducible refine gate_dst (N := 38) rfl ?_); clear hczb8_0 hfzb8_0 hczb8_1 hfzb8_1 hczb3_0 hfzb3_0 hczb3_1 hfzb3_1 hneb3_b8 hneb3_b8x; refine St.abs ?_; intro w38p_ hwp_; have hlo_ := St.lowB H 0 rfl; have hkp_ : KeepBut w8 w38p_ g8_ none := (by rw [hwp_]; repeat (first | exact KeepBut.refl _ _ _ | apply keep_drewN | apply KeepBut.set_)); have hbx_ : w38p_.heap[g8_]? = some (.cells #[.int .i64 t36_1, .slice a36_ t36_2.length cc36_] 26 (0, 0)) := (by rw [hwp_]; (with_reducible repeat refine blk_drewN ?_ _); refine blk_put (cs := #[.int .i64 t36_1, .slice none 0 0]) ?_ 1 _ rfl; (with_reducible repeat refine blk_drewN ?_ _); refine blk_put (cs := #[.int .i64 0, .slice none 0 0]) ?_ 0 _ rfl; (with_reducible repeat refine blk_drewN ?_ _); exact St.getB H 0 rfl ⟨0, rfl⟩); have hbl_ : Below w.heap.size w w38p_ := (by rw [hwp_]; repeat (first | exact H.out.below | apply pw_below_drewN | refine below_set ?_ hlo_)); replace H := St.store H 0 rfl hkp_ hbx_ hbl_; (try dsimp only [put, cutAt] at H); clear hkp_ hbx_ hbl_ hlo_ hwp_; refine goesL_ (some 38) rfl rfl Try.func17 (by kernel_rfl) rfl #[.agg #[.int .i64 a1_0, .slice A1_1 l1_1.length c1_1]] rfl (by (try simp only [List.map_toArray, List.map_cons, List.map_nil]); first | done | rfl) ?_; refine (laws_toBits.calls (hr0_1 := Kd.C_below HR1_1.out (St.lift H).below) (hc0_1 := HC1_1.out) (h := A38.out)).mono ?_; rintro e w38 ⟨v1x38, rfl, ho_, hb_⟩; refine ⟨_, rfl, ?_⟩; obtain ⟨ok38_, a38_, cc38_, rfl, kc38_, H_⟩ := St.callR H hb_ ho_; clear H hb_ ho_; have H := H_; clear H_) | ((with_reducible refine gate_dst (N := 9) rfl ?_); refine box_event ?hg (N := 9) ?hd (cs := #[.int .i64 0, .slice none 0 0]) (t := 26) ?hr ?_; (case hd => rfl); (case hg => rfl); (case hr => first | (go_simp; done) | (go_simp; rfl)); intro g9_ hg_ w9 hbox_ hb_; replace H := St.box H hg_ hbox_ hb_; clear hg_ hbox_ hb_; have hczb9_0 : w9.cell? ⟨g9_, 0, none⟩ = some (.int .i64 0) := (blk_cell (St.getB H 0 rfl ⟨0, rfl⟩) 0).trans rfl; have hfzb9_0 : w9.frozen? ⟨g9_, 0, none⟩ = false := blk_frozen (St.getB H 0 rfl ⟨0, rfl⟩) 0; have hczb9_1 : w9.cell? ⟨g9_, 1, none⟩ = some (.slice none 0 0) := (blk_cell (St.getB H 0 rfl ⟨0, rfl⟩) 1).trans rfl; have hfzb9_1 : w9.frozen? ⟨g9_, 1, none⟩ = false := blk_frozen (St.getB H 0 rfl ⟨0, rfl⟩) 1; have hczb8_0 : w9.cell? ⟨g8_, 0, none⟩ = some (.int .i64 t36_1) := (blk_cell (St.getB H 2 rfl ⟨0, rfl⟩) 0).trans rfl; have hfzb8_0 : w9.frozen? ⟨g8_, 0, none⟩ = false := blk_frozen (St.getB H 2 rfl ⟨0, rfl⟩) 0; have hczb8_1 : w9.cell? ⟨g8_, 1, none⟩ = some (.slice a36_ t36_2.length cc36_) := (blk_cell (St.getB H 2 rfl ⟨0, rfl⟩) 1).trans rfl; have hfzb8_1 : w9.frozen? ⟨g8_, 1, none⟩ = false := blk_frozen (St.getB H 2 rfl ⟨0, rfl⟩) 1; obtain ⟨hneb8_b9, hneb8_b9x⟩ := St.neB H 0 2 rfl rfl (by decide)) | ((with_reducible refine gate_dst (N := 42) rfl ?_); clear hczb9_0 hfzb9_0 hczb9_1 hfzb9_1 hczb8_0 hfzb8_0 hczb8_1 hfzb8_1 hneb8_b9 hneb8_b9x; refine St.abs ?_; intro w42p_ hwp_; have hlo_ := St.lowB H 0 rfl; have hkp_ : KeepBut w9 w42p_ g9_ none := (by rw [hwp_]; repeat (first | exact KeepBut.refl _ _ _ | apply keep_drewN | apply KeepBut.set_)); have hbx_ : w42p_.heap[g9_]? = some (.cells #[.int .i64 t38_1, .slice a38_ t38_2.length cc38_] 26 (0, 0)) := (by rw [hwp_]; (with_reducible repeat refine blk_drewN ?_ _); refine blk_put (cs := #[.int .i64 t38_1, .slice none 0 0]) ?_ 1 _ rfl; (with_reducible repeat refine blk_drewN ?_ _); refine blk_put (cs := #[.int .i64 0, .slice none 0 0]) ?_ 0 _ rfl; (with_reducible repeat refine blk_drewN ?_ _); exact St.getB H 0 rfl ⟨0, rfl⟩); have hbl_ : Below w.heap.size w w42p_ := (by rw [hwp_]; repeat (first | exact H.out.below | apply pw_below_drewN | refine below_set ?_ hlo_)); replace H := St.store H 0 rfl hkp_ hbx_ hbl_; (try dsimp only [put, cutAt] at H); clear hkp_ hbx_ hbl_ hlo_ hwp_; refine goesL_ (some 42) rfl rfl Try.func23 (by kernel_rfl) rfl #[.agg #[.int .i64 t36_1, .slice a36_ t36_2.length cc36_], .agg #[.int .i64 t38_1, .slice a38_ t38_2.length cc38_]] rfl (by (try simp only [List.map_toArray, List.map_cons, List.map_nil]); first | done | rfl) ?_; refine (impl_JoinBits.calls (hr0_1 := (Kd.R_reads' (St.getR H 3 rfl)).2.2) (hc0_1 := kc36_.out) (hr1_1 := (Kd.R_reads' (St.getR H 1 rfl)).2.2) (hc1_1 := kc38_.out) (h := A42.out)).mono ?_; rintro e w42 ⟨v1x42, rfl, ho_, hb_⟩; refine ⟨_, rfl, ?_⟩; obtain ⟨ok42_, a42_, cc42_, rfl, kc42_, H_⟩ := St.callR H hb_ ho_; clear H hb_ ho_; have H := H_; clear H_) | ((with_reducible refine gate_dst (N := 10) rfl ?_); refine box_event ?hg (N := 10) ?hd (cs := #[.int .i64 0, .slice none 0 0]) (t := 26) ?hr ?_; (case hd => rfl); (case hg => rfl); (case hr => first | (go_simp; done) | (go_simp; rfl)); intro g10_ hg_ w10 hbox_ hb_; replace H := St.box H hg_ hbox_ hb_; clear hg_ hbox_ hb_; have hczb10_0 : w10.cell? ⟨g10_, 0, none⟩ = some (.int .i64 0) := (blk_cell (St.getB H 0 rfl ⟨0, rfl⟩) 0).trans rfl; have hfzb10_0 : w10.frozen? ⟨g10_, 0, none⟩ = false := blk_frozen (St.getB H 0 rfl ⟨0, rfl⟩) 0; have hczb10_1 : w10.cell? ⟨g10_, 1, none⟩ = some (.slice none 0 0) := (blk_cell (St.getB H 0 rfl ⟨0, rfl⟩) 1).trans rfl; have hfzb10_1 : w10.frozen? ⟨g10_, 1, none⟩ = false := blk_frozen (St.getB H 0 rfl ⟨0, rfl⟩) 1; have hczb6_0 : w10.cell? ⟨g6_, 0, none⟩ = some (.int .i64 t32_1) := (blk_cell (St.getB H 6 rfl ⟨0, rfl⟩) 0).trans rfl; have hfzb6_0 : w10.frozen? ⟨g6_, 0, none⟩ = false := blk_frozen (St.getB H 6 rfl ⟨0, rfl⟩) 0; have hczb6_1 : w10.cell? ⟨g6_, 1, none⟩ = some (.slice a32_ t32_2.length cc32_) := (blk_cell (St.getB H 6 rfl ⟨0, rfl⟩) 1).trans rfl; have hfzb6_1 : w10.frozen? ⟨g6_, 1, none⟩ = false := blk_frozen (St.getB H 6 rfl ⟨0, rfl⟩) 1; obtain ⟨hneb10_b6, hneb10_b6x⟩ := St.neB H 0 6 rfl rfl (by decide)) | ((with_reducible refine gate_dst (N := 47) rfl ?_); clear hczb10_0 hfzb10_0 hczb10_1 hfzb10_1 hczb6_0 hfzb6_0 hczb6_1 hfzb6_1 hneb10_b6 hneb10_b6x; refine St.abs ?_; intro w47p_ hwp_; have hlo_ := St.lowB H 0 rfl; have hkp_ : KeepBut w10 w47p_ g10_ none := (by rw [hwp_]; repeat (first | exact KeepBut.refl _ _ _ | apply keep_drewN | apply KeepBut.set_)); have hbx_ : w47p_.heap[g10_]? = some (.cells #[.int .i64 t42_1, .slice a42_ t42_2.length cc42_] 26 (0, 0)) := (by rw [hwp_]; (with_reducible repeat refine blk_drewN ?_ _); refine blk_put (cs := #[.int .i64 t42_1, .slice none 0 0]) ?_ 1 _ rfl; (with_reducible repeat refine blk_drewN ?_ _); refine blk_put (cs := #[.int .i64 0, .slice none 0 0]) ?_ 0 _ rfl; (with_reducible repeat refine blk_drewN ?_ _); exact St.getB H 0 rfl ⟨0, rfl⟩); have hbl_ : Below w.heap.size w w47p_ := (by rw [hwp_]; repeat (first | exact H.out.below | apply pw_below_drewN | refine below_set ?_ hlo_)); replace H := St.store H 0 rfl hkp_ hbx_ hbl_; (try dsimp only [put, cutAt] at H); clear hkp_ hbx_ hbl_ hlo_ hwp_; refine goesL_ (some 47) rfl rfl Try.func19 (by kernel_rfl) rfl #[.agg #[.int .i64 t42_1, .slice a42_ t42_2.length cc42_], .agg #[.int .i64 t32_1, .slice a32_ t32_2.length cc32_]] rfl (by (try simp only [List.map_toArray, List.map_cons, List.map_nil]); first | done | rfl) ?_; refine (laws_eqBits.calls (hr0_1 := (Kd.R_reads' (St.getR H 1 rfl)).2.2) (hc0_1 := kc42_.out) (hr1_1 := (Kd.R_reads' (St.getR H 7 rfl)).2.2) (hc1_1 := kc32_.out) (h := A47.out)).mono ?_; rintro e w47 ⟨rfl, hb_⟩; refine ⟨_, rfl, ?_⟩; replace H := St.call H hb_; clear hb_))
  refine St.start (n := 5) (S := fun w' => w'.cell? ⟨g8_, 0, none⟩ = some (.int .i64 t36_1) ∧ w'.cell? ⟨g8_, 1, none⟩ = some (.slice a36_ t36_2.length cc36_) ∧ w'.cell? ⟨g2_, 0, none⟩ = some (.int .i64 a0_0) ∧ w'.cell? ⟨g2_, 1, none⟩ = some (.slice A0_1 l0_1.length c0_1)) (ds := []) #[false, false, false, false, false] (by kernel_rfl) rfl rfl (fun wr14 hwp_ => ?_)
  replace H := St.call H (show Below w47.heap.size w47 wr14 from (by rw [hwp_]; repeat (first | exact Below.refl _ _ | apply pw_below_drewN | apply below_drew1))) ⟨0, rfl⟩; clear hwp_
  refine ⟨⟨(blk_cell (St.getB H 4 rfl ⟨0, rfl⟩) 0).trans rfl, (blk_cell (St.getB H 4 rfl ⟨0, rfl⟩) 1).trans rfl, (blk_cell (St.getB H 9 rfl ⟨0, rfl⟩) 0).trans rfl, (blk_cell (St.getB H 9 rfl ⟨0, rfl⟩) 1).trans rfl⟩, fun hHeld => ?_⟩
  refine take_ (i := 0) (N := some 54) (v := ?_) (a' := ?_) #[true, false, false, false, false] rfl rfl (by kernel_rfl) (fun _ _ _ h => h) (Or.inl ⟨by rfl, ?_⟩) hHeld ?_ ?_
  rotate_left
  · rintro w' ⟨s0, s1, s2, s3⟩
    go_simp
    with_reducible rfl
  rotate_left
  · simp only [Act.put, List.setIfInBounds_toArray, List.set_cons_zero, List.set_cons_succ, i64_w, i32_w]
    rfl
  refine take_ (i := 1) (N := some 55) (v := ?_) (a' := ?_) #[true, true, false, false, false] rfl rfl (by kernel_rfl) (fun _ _ _ h => h) (Or.inl ⟨by rfl, ?_⟩) hHeld ?_ ?_
  rotate_left
  · rintro w' ⟨s0, s1, s2, s3⟩
    go_simp
    with_reducible rfl
  rotate_left
  · simp only [Act.put, List.setIfInBounds_toArray, List.set_cons_zero, List.set_cons_succ, i64_w, i32_w]
    rfl
  refine one_ (i := 2) (N := some 56) #[true, true, true, false, false] rfl rfl (by kernel_rfl) (by decide) (fun K hK => ?_)
  refine goes_ Try.func17 (by kernel_rfl) rfl #[.agg #[.int .i64 a0_0, .slice A0_1 l0_1.length c0_1]] (by rfl) rfl rfl (by (try simp only [List.map_toArray, List.map_cons, List.map_nil]); first | done | rfl) ?_
  refine (laws_toBits.calls (hr0_1 := Kd.C_below HR0_1.out (St.lift H).below) (hc0_1 := HC0_1.out) (h := A56.out)).mono ?_
  rintro e wq14_1 ⟨v1x56, rfl, ho_, hb_⟩
  refine ⟨_, rfl, ?_⟩
  obtain ⟨ok56_, a56_, cc56_, rfl, kc56_, H_⟩ := St.callR H hb_ ho_; clear H hb_ ho_; have H := H_; clear H_
  refine hK.out _ _ ⟨(blk_cell (St.getB H 5 rfl ⟨0, rfl⟩) 0).trans rfl, (blk_cell (St.getB H 5 rfl ⟨0, rfl⟩) 1).trans rfl, (blk_cell (St.getB H 10 rfl ⟨0, rfl⟩) 0).trans rfl, (blk_cell (St.getB H 10 rfl ⟨0, rfl⟩) 1).trans rfl⟩ (fun hHeld => ?_)
  clear hK K
  refine norm_ (a' := ?_) ?_ ?_
  rotate_left
  · show Act.put _ (some 56) _ = _
    simp only [Act.put, List.setIfInBounds_toArray, List.set_cons_zero, List.set_cons_succ, i64_w, i32_w]
    rfl
  refine one_ (i := 3) (N := some 57) #[true, true, true, true, false] rfl rfl (by kernel_rfl) (by decide) (fun K hK => ?_)
  refine goes_ Try.func19 (by kernel_rfl) rfl #[.agg #[.int .i64 t36_1, .slice a36_ t36_2.length cc36_], .agg #[.int .i64 t56_1, .slice a56_ t56_2.length cc56_]] (by rfl) rfl rfl (by (try simp only [List.map_toArray, List.map_cons, List.map_nil]); first | done | rfl) ?_
  refine (laws_eqBits.calls (hr0_1 := (Kd.R_reads' (St.getR H 6 rfl)).2.2) (hc0_1 := kc36_.out) (hr1_1 := (Kd.R_reads' (St.getR H 0 rfl)).2.2) (hc1_1 := kc56_.out) (h := A57.out)).mono ?_
  rintro e wq14_2 ⟨rfl, hb_⟩
  refine ⟨_, rfl, ?_⟩
  replace H := St.call H hb_; clear hb_
  refine hK.out _ _ ⟨(blk_cell (St.getB H 5 rfl ⟨0, rfl⟩) 0).trans rfl, (blk_cell (St.getB H 5 rfl ⟨0, rfl⟩) 1).trans rfl, (blk_cell (St.getB H 10 rfl ⟨0, rfl⟩) 0).trans rfl, (blk_cell (St.getB H 10 rfl ⟨0, rfl⟩) 1).trans rfl⟩ (fun hHeld => ?_)
  clear hK K
  refine norm_ (a' := ?_) ?_ ?_
  rotate_left
  · show Act.put _ (some 57) _ = _
    simp only [Act.put, List.setIfInBounds_toArray, List.set_cons_zero, List.set_cons_succ, i64_w, i32_w]
    rfl
  refine pure_ (i := 4) (N := some 58) (v := ?_) (a' := ?_) #[true, true, true, true, true] rfl rfl (by kernel_rfl) (fun _ _ _ h => h) (Or.inl ⟨by rfl, ?_⟩) ?_ ?_
  rotate_left
  · intro w'
    go_simp
    with_reducible rfl
  rotate_left
  · simp only [Act.put, List.setIfInBounds_toArray, List.set_cons_zero, List.set_cons_succ, i64_w, i32_w]
    rfl
  refine done_ (by kernel_rfl) ?_
  clear hHeld
  replace H := St.drop H 0
  (try dsimp only [put, cutAt] at H)
  go_wp2_with (fail)
  refine St.start (n := 5) (S := fun w' => w'.cell? ⟨g9_, 0, none⟩ = some (.int .i64 t38_1) ∧ w'.cell? ⟨g9_, 1, none⟩ = some (.slice a38_ t38_2.length cc38_) ∧ w'.cell? ⟨g3_, 0, none⟩ = some (.int .i64 a1_0) ∧ w'.cell? ⟨g3_, 1, none⟩ = some (.slice A1_1 l1_1.length c1_1)) (ds := []) #[false, false, false, false, false] (by kernel_rfl) rfl rfl (fun wr16 hwp_ => ?_)
  replace H := St.call H (show Below wq14_2.heap.size wq14_2 wr16 from (by rw [hwp_]; repeat (first | exact Below.refl _ _ | apply pw_below_drewN | apply below_drew1))) ⟨0, rfl⟩; clear hwp_
  refine ⟨⟨(blk_cell (St.getB H 2 rfl ⟨0, rfl⟩) 0).trans rfl, (blk_cell (St.getB H 2 rfl ⟨0, rfl⟩) 1).trans rfl, (blk_cell (St.getB H 8 rfl ⟨0, rfl⟩) 0).trans rfl, (blk_cell (St.getB H 8 rfl ⟨0, rfl⟩) 1).trans rfl⟩, fun hHeld => ?_⟩
  refine take_ (i := 0) (N := some 59) (v := ?_) (a' := ?_) #[true, false, false, false, false] rfl rfl (by kernel_rfl) (fun _ _ _ h => h) (Or.inl ⟨by rfl, ?_⟩) hHeld ?_ ?_
  rotate_left
  · rintro w' ⟨s0, s1, s2, s3⟩
    go_simp
    with_reducible rfl
  rotate_left
  · simp only [Act.put, List.setIfInBounds_toArray, List.set_cons_zero, List.set_cons_succ, i64_w, i32_w]
    rfl
  refine take_ (i := 1) (N := some 60) (v := ?_) (a' := ?_) #[true, true, false, false, false] rfl rfl (by kernel_rfl) (fun _ _ _ h => h) (Or.inl ⟨by rfl, ?_⟩) hHeld ?_ ?_
  rotate_left
  · rintro w' ⟨s0, s1, s2, s3⟩
    go_simp
    with_reducible rfl
  rotate_left
  · simp only [Act.put, List.setIfInBounds_toArray, List.set_cons_zero, List.set_cons_succ, i64_w, i32_w]
    rfl
  refine one_ (i := 2) (N := some 61) #[true, true, true, false, false] rfl rfl (by kernel_rfl) (by decide) (fun K hK => ?_)
  refine goes_ Try.func17 (by kernel_rfl) rfl #[.agg #[.int .i64 a1_0, .slice A1_1 l1_1.length c1_1]] (by rfl) rfl rfl (by (try simp only [List.map_toArray, List.map_cons, List.map_nil]); first | done | rfl) ?_
  refine (laws_toBits.calls (hr0_1 := Kd.C_below HR1_1.out (St.lift H).below) (hc0_1 := HC1_1.out) (h := A61.out)).mono ?_
  rintro e wq16_1 ⟨v1x61, rfl, ho_, hb_⟩
  refine ⟨_, rfl, ?_⟩
  obtain ⟨ok61_, a61_, cc61_, rfl, kc61_, H_⟩ := St.callR H hb_ ho_; clear H hb_ ho_; have H := H_; clear H_
  refine hK.out _ _ ⟨(blk_cell (St.getB H 3 rfl ⟨0, rfl⟩) 0).trans rfl, (blk_cell (St.getB H 3 rfl ⟨0, rfl⟩) 1).trans rfl, (blk_cell (St.getB H 9 rfl ⟨0, rfl⟩) 0).trans rfl, (blk_cell (St.getB H 9 rfl ⟨0, rfl⟩) 1).trans rfl⟩ (fun hHeld => ?_)
  clear hK K
  refine norm_ (a' := ?_) ?_ ?_
  rotate_left
  · show Act.put _ (some 61) _ = _
    simp only [Act.put, List.setIfInBounds_toArray, List.set_cons_zero, List.set_cons_succ, i64_w, i32_w]
    rfl
  refine one_ (i := 3) (N := some 62) #[true, true, true, true, false] rfl rfl (by kernel_rfl) (by decide) (fun K hK => ?_)
  refine goes_ Try.func19 (by kernel_rfl) rfl #[.agg #[.int .i64 t38_1, .slice a38_ t38_2.length cc38_], .agg #[.int .i64 t61_1, .slice a61_ t61_2.length cc61_]] (by rfl) rfl rfl (by (try simp only [List.map_toArray, List.map_cons, List.map_nil]); first | done | rfl) ?_
  refine (laws_eqBits.calls (hr0_1 := (Kd.R_reads' (St.getR H 4 rfl)).2.2) (hc0_1 := kc38_.out) (hr1_1 := (Kd.R_reads' (St.getR H 0 rfl)).2.2) (hc1_1 := kc61_.out) (h := A62.out)).mono ?_
  rintro e wq16_2 ⟨rfl, hb_⟩
  refine ⟨_, rfl, ?_⟩
  replace H := St.call H hb_; clear hb_
  refine hK.out _ _ ⟨(blk_cell (St.getB H 3 rfl ⟨0, rfl⟩) 0).trans rfl, (blk_cell (St.getB H 3 rfl ⟨0, rfl⟩) 1).trans rfl, (blk_cell (St.getB H 9 rfl ⟨0, rfl⟩) 0).trans rfl, (blk_cell (St.getB H 9 rfl ⟨0, rfl⟩) 1).trans rfl⟩ (fun hHeld => ?_)
  clear hK K
  refine norm_ (a' := ?_) ?_ ?_
  rotate_left
  · show Act.put _ (some 62) _ = _
    simp only [Act.put, List.setIfInBounds_toArray, List.set_cons_zero, List.set_cons_succ, i64_w, i32_w]
    rfl
  refine pure_ (i := 4) (N := some 63) (v := ?_) (a' := ?_) #[true, true, true, true, true] rfl rfl (by kernel_rfl) (fun _ _ _ h => h) (Or.inl ⟨by rfl, ?_⟩) ?_ ?_
  rotate_left
  · intro w'
    go_simp
    with_reducible rfl
  rotate_left
  · simp only [Act.put, List.setIfInBounds_toArray, List.set_cons_zero, List.set_cons_succ, i64_w, i32_w]
    rfl
  refine done_ (by kernel_rfl) ?_
  clear hHeld
  replace H := St.drop H 0
  (try dsimp only [put, cutAt] at H)
  have hczb8_0 : wq16_2.cell? ⟨g8_, 0, none⟩ = some (.int .i64 t36_1) := (blk_cell (St.getB H 4 rfl ⟨0, rfl⟩) 0).trans rfl; have hfzb8_0 : wq16_2.frozen? ⟨g8_, 0, none⟩ = false := blk_frozen (St.getB H 4 rfl ⟨0, rfl⟩) 0
  have hczb8_1 : wq16_2.cell? ⟨g8_, 1, none⟩ = some (.slice a36_ t36_2.length cc36_) := (blk_cell (St.getB H 4 rfl ⟨0, rfl⟩) 1).trans rfl; have hfzb8_1 : wq16_2.frozen? ⟨g8_, 1, none⟩ = false := blk_frozen (St.getB H 4 rfl ⟨0, rfl⟩) 1
  go_wp2_with (first | ((with_reducible refine gate_dst (N := 66) rfl ?_); clear hczb8_0 hfzb8_0 hczb8_1 hfzb8_1; refine goesL_ (some 66) rfl rfl Try.func20 (by kernel_rfl) rfl #[.agg #[.int .i64 t36_1, .slice a36_ t36_2.length cc36_], .int .i64 1] rfl (by (try simp only [List.map_toArray, List.map_cons, List.map_nil]); first | done | rfl) ?_; refine (laws_markBits.calls (P0_1_ := ok36_) (u9000_ := .slice a36_ t36_2.length cc36_) (ho0_1 := St.getR H 5 rfl) (hB := (St.lift H).below) (h := A66.out)).mono ?_; rintro e w66 ⟨rfl, hs_, hb_, hk_⟩; refine ⟨_, rfl, ?_⟩; replace H := St.markR H 5 rfl hs_ hb_ hk_; (try dsimp only [put, cutAt] at H); clear hs_ hb_ hk_; replace H := St.drop H 4; replace H := St.drop H 4; (try dsimp only [put, cutAt] at H); have hczb9_0 : w66.cell? ⟨g9_, 0, none⟩ = some (.int .i64 t38_1) := (blk_cell (St.getB H 2 rfl ⟨0, rfl⟩) 0).trans rfl; have hfzb9_0 : w66.frozen? ⟨g9_, 0, none⟩ = false := blk_frozen (St.getB H 2 rfl ⟨0, rfl⟩) 0; have hczb9_1 : w66.cell? ⟨g9_, 1, none⟩ = some (.slice a38_ t38_2.length cc38_) := (blk_cell (St.getB H 2 rfl ⟨0, rfl⟩) 1).trans rfl; have hfzb9_1 : w66.frozen? ⟨g9_, 1, none⟩ = false := blk_frozen (St.getB H 2 rfl ⟨0, rfl⟩) 1) | ((with_reducible refine gate_dst (N := 69) rfl ?_); clear hczb9_0 hfzb9_0 hczb9_1 hfzb9_1; refine goesL_ (some 69) rfl rfl Try.func20 (by kernel_rfl) rfl #[.agg #[.int .i64 t38_1, .slice a38_ t38_2.length cc38_], .int .i64 t66_1] rfl (by (try simp only [List.map_toArray, List.map_cons, List.map_nil]); first | done | rfl) ?_; refine (laws_markBits.calls (P0_1_ := ok38_) (u9000_ := .slice a38_ t38_2.length cc38_) (ho0_1 := St.getR H 3 rfl) (hB := (St.lift H).below) (h := A69.out)).mono ?_; rintro e w69 ⟨rfl, hs_, hb_, hk_⟩; refine ⟨_, rfl, ?_⟩; replace H := St.markR H 3 rfl hs_ hb_ hk_; (try dsimp only [put, cutAt] at H); clear hs_ hb_ hk_; replace H := St.drop H 2; replace H := St.drop H 2; (try dsimp only [put, cutAt] at H); have hczb10_0 : w69.cell? ⟨g10_, 0, none⟩ = some (.int .i64 t42_1) := (blk_cell (St.getB H 0 rfl ⟨0, rfl⟩) 0).trans rfl; have hfzb10_0 : w69.frozen? ⟨g10_, 0, none⟩ = false := blk_frozen (St.getB H 0 rfl ⟨0, rfl⟩) 0; have hczb10_1 : w69.cell? ⟨g10_, 1, none⟩ = some (.slice a42_ t42_2.length cc42_) := (blk_cell (St.getB H 0 rfl ⟨0, rfl⟩) 1).trans rfl; have hfzb10_1 : w69.frozen? ⟨g10_, 1, none⟩ = false := blk_frozen (St.getB H 0 rfl ⟨0, rfl⟩) 1; have hczb6_0 : w69.cell? ⟨g6_, 0, none⟩ = some (.int .i64 t32_1) := (blk_cell (St.getB H 2 rfl ⟨0, rfl⟩) 0).trans rfl; have hfzb6_0 : w69.frozen? ⟨g6_, 0, none⟩ = false := blk_frozen (St.getB H 2 rfl ⟨0, rfl⟩) 0; have hczb6_1 : w69.cell? ⟨g6_, 1, none⟩ = some (.slice a32_ t32_2.length cc32_) := (blk_cell (St.getB H 2 rfl ⟨0, rfl⟩) 1).trans rfl; have hfzb6_1 : w69.frozen? ⟨g6_, 1, none⟩ = false := blk_frozen (St.getB H 2 rfl ⟨0, rfl⟩) 1) | ((with_reducible refine gate_dst (N := 85) rfl ?_); clear hczb10_0 hfzb10_0 hczb10_1 hfzb10_1; refine goesL_ (some 85) rfl rfl Try.func20 (by kernel_rfl) rfl #[.agg #[.int .i64 t42_1, .slice a42_ t42_2.length cc42_], .int .i64 1] rfl (by (try simp only [List.map_toArray, List.map_cons, List.map_nil]); first | done | rfl) ?_; refine (laws_markBits.calls (P0_1_ := ok42_) (u9000_ := .slice a42_ t42_2.length cc42_) (ho0_1 := St.getR H 1 rfl) (hB := (St.lift H).below) (h := A85.out)).mono ?_; rintro e w85 ⟨rfl, hs_, hb_, hk_⟩; refine ⟨_, rfl, ?_⟩; replace H := St.markR H 1 rfl hs_ hb_ hk_; (try dsimp only [put, cutAt] at H); have e_ := (Kd.R_reads' hs_).1; have kc42_m := Aside0.mk (Kd.R_reads' hs_).2.1; rw [e_] at H kc42_m; obtain ⟨ok42_m, H_⟩ : ∃ ok_, Aside0 (St w w85 [Ob.B g10_ (.cells #[.int .i64 t42_1, .slice a42_ t85_2.length cc42_] 26 (0, 0)), Ob.R w (Kd.int .u64) 87 ok_ (.slice a42_ t85_2.length cc42_) t85_2, Ob.B g6_ (.cells #[.int .i64 t32_1, .slice a32_ t32_2.length cc32_] 26 (0, 0)), Ob.R w (Kd.int .u64) 87 ok32_ (.slice a32_ t32_2.length cc32_) t32_2, Ob.B g3_ (.cells #[.int .i64 a1_0, .slice A1_1 l1_1.length c1_1] 24 (0, 0)), Ob.B g2_ (.cells #[.int .i64 a0_0, .slice A0_1 l0_1.length c0_1] 24 (0, 0))]) := ⟨_, H⟩; clear H; have H := H_; clear H_; clear hs_ hb_ hk_; (rw [e_]); clear e_; have hczb10_0 : w85.cell? ⟨g10_, 0, none⟩ = some (.int .i64 t42_1) := (blk_cell (St.getB H 0 rfl ⟨0, rfl⟩) 0).trans rfl; have hfzb10_0 : w85.frozen? ⟨g10_, 0, none⟩ = false := blk_frozen (St.getB H 0 rfl ⟨0, rfl⟩) 0; have hczb10_1 : w85.cell? ⟨g10_, 1, none⟩ = some (.slice a42_ t85_2.length cc42_) := (blk_cell (St.getB H 0 rfl ⟨0, rfl⟩) 1).trans rfl; have hfzb10_1 : w85.frozen? ⟨g10_, 1, none⟩ = false := blk_frozen (St.getB H 0 rfl ⟨0, rfl⟩) 1) | ((with_reducible refine gate_dst (N := 88) rfl ?_); clear hczb10_0 hfzb10_0 hczb10_1 hfzb10_1; refine goesL_ (some 88) rfl rfl Try.func21 (by kernel_rfl) rfl #[.agg #[.int .i64 t42_1, .slice a42_ t85_2.length cc42_], .int .i64 1] rfl (by (try simp only [List.map_toArray, List.map_cons, List.map_nil]); first | done | rfl) ?_; refine (laws_heldBits.calls (hr0_1 := (Kd.R_reads' (St.getR H 1 rfl)).2.2) (hc0_1 := kc42_m.out) (h := A88.out)).mono ?_; rintro e w88 ⟨rfl, hb_⟩; refine ⟨_, rfl, ?_⟩; replace H := St.call H hb_; clear hb_) | (go_at_call 19; clear hczb10_0 hfzb10_0 hczb10_1 hfzb10_1 hczb6_0 hfzb6_0 hczb6_1 hfzb6_1; refine (laws_eqBits.calls (hr0_1 := (Kd.R_reads' (St.getR H 1 rfl)).2.2) (hc0_1 := kc42_.out) (hr1_1 := (Kd.R_reads' (St.getR H 3 rfl)).2.2) (hc1_1 := kc32_.out) (h := A75.out)).mono ?_; rintro e w75 ⟨rfl, hb_⟩; replace H := St.call H hb_; clear hb_; have hczb10_0 : w75.cell? ⟨g10_, 0, none⟩ = some (.int .i64 t42_1) := (blk_cell (St.getB H 0 rfl ⟨0, rfl⟩) 0).trans rfl; have hfzb10_0 : w75.frozen? ⟨g10_, 0, none⟩ = false := blk_frozen (St.getB H 0 rfl ⟨0, rfl⟩) 0; have hczb10_1 : w75.cell? ⟨g10_, 1, none⟩ = some (.slice a42_ t42_2.length cc42_) := (blk_cell (St.getB H 0 rfl ⟨0, rfl⟩) 1).trans rfl; have hfzb10_1 : w75.frozen? ⟨g10_, 1, none⟩ = false := blk_frozen (St.getB H 0 rfl ⟨0, rfl⟩) 1))
  refine St.start (n := 11) (S := fun w' => w'.cell? ⟨g2_, 0, none⟩ = some (.int .i64 a0_0) ∧ w'.cell? ⟨g2_, 1, none⟩ = some (.slice A0_1 l0_1.length c0_1) ∧ w'.cell? ⟨g3_, 0, none⟩ = some (.int .i64 a1_0) ∧ w'.cell? ⟨g3_, 1, none⟩ = some (.slice A1_1 l1_1.length c1_1)) (ds := []) #[false, false, false, false, false, false, false, false, false, false, false] (by kernel_rfl) rfl rfl (fun wr31 hwp_ => ?_)
  replace H := St.call H (show Below w88.heap.size w88 wr31 from (by rw [hwp_]; repeat (first | exact Below.refl _ _ | apply pw_below_drewN | apply below_drew1))) ⟨0, rfl⟩; clear hwp_
  refine ⟨⟨(blk_cell (St.getB H 5 rfl ⟨0, rfl⟩) 0).trans rfl, (blk_cell (St.getB H 5 rfl ⟨0, rfl⟩) 1).trans rfl, (blk_cell (St.getB H 4 rfl ⟨0, rfl⟩) 0).trans rfl, (blk_cell (St.getB H 4 rfl ⟨0, rfl⟩) 1).trans rfl⟩, fun hHeld => ?_⟩
  refine take_ (i := 0) (N := some 95) (v := ?_) (a' := ?_) #[true, false, false, false, false, false, false, false, false, false, false] rfl rfl (by kernel_rfl) (fun _ _ _ h => h) (Or.inl ⟨by rfl, ?_⟩) hHeld ?_ ?_
  rotate_left
  · rintro w' ⟨s0, s1, s2, s3⟩
    go_simp
    with_reducible rfl
  rotate_left
  · simp only [Act.put, List.setIfInBounds_toArray, List.set_cons_zero, List.set_cons_succ, i64_w, i32_w]
    rfl
  refine take_ (i := 2) (N := some 97) (v := ?_) (a' := ?_) #[true, false, true, false, false, false, false, false, false, false, false] rfl rfl (by kernel_rfl) (fun _ _ _ h => h) (Or.inl ⟨by rfl, ?_⟩) hHeld ?_ ?_
  rotate_left
  · rintro w' ⟨s0, s1, s2, s3⟩
    go_simp
    with_reducible rfl
  rotate_left
  · simp only [Act.put, List.setIfInBounds_toArray, List.set_cons_zero, List.set_cons_succ, i64_w, i32_w]
    rfl
  refine join_ (σ := (Nat → Prop) × Option Addr × Nat × (Nat → Prop) × Option Addr × Nat × (Nat → Prop) × Option Addr × Nat × Nat) 2 #[true, true, true, true, true, true, true, true, true, false, false] (fun s_ => [(96, .agg #[.int .i64 t96_1, .slice s_.2.1 t96_2.length s_.2.2.1]), (98, .agg #[.int .i64 t98_1, .slice s_.2.2.2.2.1 t98_2.length s_.2.2.2.2.2.1]), (99, .tuple #[.agg #[.int .i64 t99_1, .slice s_.2.2.2.2.2.2.2.1 t99_2.length s_.2.2.2.2.2.2.2.2.1], .bool t99_3]), (94, .tuple #[.agg #[.int .i64 t99_1, .slice s_.2.2.2.2.2.2.2.1 t99_2.length s_.2.2.2.2.2.2.2.2.1], .bool t99_3]), (100, .agg #[.int .i64 t99_1, .slice s_.2.2.2.2.2.2.2.1 t99_2.length s_.2.2.2.2.2.2.2.2.1]), (101, .bool t99_3), (15, .pointer (some ⟨s_.2.2.2.2.2.2.2.2.2, 0, none⟩))]) (fun s_ w' => Aside0 (St w w' [Ob.B s_.2.2.2.2.2.2.2.2.2 (.cells #[.int .i64 0, .slice none 0 0] 26 (0, 0)), Ob.R w (Kd.int .u64) 87 s_.2.2.2.2.2.2.1 (.slice s_.2.2.2.2.2.2.2.1 t99_2.length s_.2.2.2.2.2.2.2.2.1) t99_2, Ob.R w (Kd.int .u64) 87 s_.2.2.2.1 (.slice s_.2.2.2.2.1 t98_2.length s_.2.2.2.2.2.1) t98_2, Ob.R w (Kd.int .u64) 87 s_.1 (.slice s_.2.1 t96_2.length s_.2.2.1) t96_2, Ob.B g10_ (.cells #[.int .i64 t42_1, .slice a42_ t85_2.length cc42_] 26 (0, 0)), Ob.R w (Kd.int .u64) 87 ok42_m (.slice a42_ t85_2.length cc42_) t85_2, Ob.B g6_ (.cells #[.int .i64 t32_1, .slice a32_ t32_2.length cc32_] 26 (0, 0)), Ob.R w (Kd.int .u64) 87 ok32_ (.slice a32_ t32_2.length cc32_) t32_2, Ob.B g3_ (.cells #[.int .i64 a1_0, .slice A1_1 l1_1.length c1_1] 24 (0, 0)), Ob.B g2_ (.cells #[.int .i64 a0_0, .slice A0_1 l0_1.length c0_1] 24 (0, 0))]) ∧ Aside0 (t96_2.length ≤ s_.2.2.1) ∧ Aside0 (t98_2.length ≤ s_.2.2.2.2.2.1) ∧ Aside0 (t99_2.length ≤ s_.2.2.2.2.2.2.2.2.1)) ?_ ?_
  rotate_left
  · intro hJ1_3_4_8
    refine join_ (σ := (Nat → Prop) × Option Addr × Nat × (Nat → Prop) × Option Addr × Nat × (Nat → Prop) × Option Addr × Nat) 3 #[true, true, true, true, true, true, true, true, false, false, false] (fun s_ => [(96, .agg #[.int .i64 t96_1, .slice s_.2.1 t96_2.length s_.2.2.1]), (98, .agg #[.int .i64 t98_1, .slice s_.2.2.2.2.1 t98_2.length s_.2.2.2.2.2.1]), (99, .tuple #[.agg #[.int .i64 t99_1, .slice s_.2.2.2.2.2.2.2.1 t99_2.length s_.2.2.2.2.2.2.2.2], .bool t99_3]), (94, .tuple #[.agg #[.int .i64 t99_1, .slice s_.2.2.2.2.2.2.2.1 t99_2.length s_.2.2.2.2.2.2.2.2], .bool t99_3]), (100, .agg #[.int .i64 t99_1, .slice s_.2.2.2.2.2.2.2.1 t99_2.length s_.2.2.2.2.2.2.2.2]), (101, .bool t99_3)]) (fun s_ w' => Aside0 (St w w' [Ob.R w (Kd.int .u64) 87 s_.2.2.2.2.2.2.1 (.slice s_.2.2.2.2.2.2.2.1 t99_2.length s_.2.2.2.2.2.2.2.2) t99_2, Ob.R w (Kd.int .u64) 87 s_.2.2.2.1 (.slice s_.2.2.2.2.1 t98_2.length s_.2.2.2.2.2.1) t98_2, Ob.R w (Kd.int .u64) 87 s_.1 (.slice s_.2.1 t96_2.length s_.2.2.1) t96_2, Ob.B g10_ (.cells #[.int .i64 t42_1, .slice a42_ t85_2.length cc42_] 26 (0, 0)), Ob.R w (Kd.int .u64) 87 ok42_m (.slice a42_ t85_2.length cc42_) t85_2, Ob.B g6_ (.cells #[.int .i64 t32_1, .slice a32_ t32_2.length cc32_] 26 (0, 0)), Ob.R w (Kd.int .u64) 87 ok32_ (.slice a32_ t32_2.length cc32_) t32_2, Ob.B g3_ (.cells #[.int .i64 a1_0, .slice A1_1 l1_1.length c1_1] 24 (0, 0)), Ob.B g2_ (.cells #[.int .i64 a0_0, .slice A0_1 l0_1.length c0_1] 24 (0, 0))]) ∧ Aside0 (t96_2.length ≤ s_.2.2.1) ∧ Aside0 (t98_2.length ≤ s_.2.2.2.2.2.1) ∧ Aside0 (t99_2.length ≤ s_.2.2.2.2.2.2.2.2)) ?_ ?_
    rotate_left
    · intro hJ1_3_4
      refine join_ (σ := (Nat → Prop) × Option Addr × Nat × (Nat → Prop) × Option Addr × Nat × Nat) 6 #[true, true, true, true, false, false, false, false, true, false, false] (fun s_ => [(96, .agg #[.int .i64 t96_1, .slice s_.2.1 t96_2.length s_.2.2.1]), (98, .agg #[.int .i64 t98_1, .slice s_.2.2.2.2.1 t98_2.length s_.2.2.2.2.2.1]), (15, .pointer (some ⟨s_.2.2.2.2.2.2, 0, none⟩))]) (fun s_ w' => Aside0 (St w w' [Ob.B s_.2.2.2.2.2.2 (.cells #[.int .i64 0, .slice none 0 0] 26 (0, 0)), Ob.R w (Kd.int .u64) 87 s_.2.2.2.1 (.slice s_.2.2.2.2.1 t98_2.length s_.2.2.2.2.2.1) t98_2, Ob.R w (Kd.int .u64) 87 s_.1 (.slice s_.2.1 t96_2.length s_.2.2.1) t96_2, Ob.B g10_ (.cells #[.int .i64 t42_1, .slice a42_ t85_2.length cc42_] 26 (0, 0)), Ob.R w (Kd.int .u64) 87 ok42_m (.slice a42_ t85_2.length cc42_) t85_2, Ob.B g6_ (.cells #[.int .i64 t32_1, .slice a32_ t32_2.length cc32_] 26 (0, 0)), Ob.R w (Kd.int .u64) 87 ok32_ (.slice a32_ t32_2.length cc32_) t32_2, Ob.B g3_ (.cells #[.int .i64 a1_0, .slice A1_1 l1_1.length c1_1] 24 (0, 0)), Ob.B g2_ (.cells #[.int .i64 a0_0, .slice A0_1 l0_1.length c0_1] 24 (0, 0))]) ∧ Aside0 (t96_2.length ≤ s_.2.2.1) ∧ Aside0 (t98_2.length ≤ s_.2.2.2.2.2.1)) ?_ ?_
      rotate_left
      · intro hJ1_3_8
        refine join_ (σ := (Nat → Prop) × Option Addr × Nat × (Nat → Prop) × Option Addr × Nat) 7 #[true, true, true, true, false, false, false, false, false, false, false] (fun s_ => [(96, .agg #[.int .i64 t96_1, .slice s_.2.1 t96_2.length s_.2.2.1]), (98, .agg #[.int .i64 t98_1, .slice s_.2.2.2.2.1 t98_2.length s_.2.2.2.2.2])]) (fun s_ w' => Aside0 (St w w' [Ob.R w (Kd.int .u64) 87 s_.2.2.2.1 (.slice s_.2.2.2.2.1 t98_2.length s_.2.2.2.2.2) t98_2, Ob.R w (Kd.int .u64) 87 s_.1 (.slice s_.2.1 t96_2.length s_.2.2.1) t96_2, Ob.B g10_ (.cells #[.int .i64 t42_1, .slice a42_ t85_2.length cc42_] 26 (0, 0)), Ob.R w (Kd.int .u64) 87 ok42_m (.slice a42_ t85_2.length cc42_) t85_2, Ob.B g6_ (.cells #[.int .i64 t32_1, .slice a32_ t32_2.length cc32_] 26 (0, 0)), Ob.R w (Kd.int .u64) 87 ok32_ (.slice a32_ t32_2.length cc32_) t32_2, Ob.B g3_ (.cells #[.int .i64 a1_0, .slice A1_1 l1_1.length c1_1] 24 (0, 0)), Ob.B g2_ (.cells #[.int .i64 a0_0, .slice A0_1 l0_1.length c0_1] 24 (0, 0))]) ∧ Aside0 (t96_2.length ≤ s_.2.2.1) ∧ Aside0 (t98_2.length ≤ s_.2.2.2.2.2)) ?_ ?_
        rotate_left
        · intro hJ1_3
          refine join_ (σ := (Nat → Prop) × Option Addr × Nat × Nat) 7 #[true, true, true, false, false, false, false, false, true, false, false] (fun s_ => [(96, .agg #[.int .i64 t96_1, .slice s_.2.1 t96_2.length s_.2.2.1]), (15, .pointer (some ⟨s_.2.2.2, 0, none⟩))]) (fun s_ w' => Aside0 (St w w' [Ob.B s_.2.2.2 (.cells #[.int .i64 0, .slice none 0 0] 26 (0, 0)), Ob.R w (Kd.int .u64) 87 s_.1 (.slice s_.2.1 t96_2.length s_.2.2.1) t96_2, Ob.B g10_ (.cells #[.int .i64 t42_1, .slice a42_ t85_2.length cc42_] 26 (0, 0)), Ob.R w (Kd.int .u64) 87 ok42_m (.slice a42_ t85_2.length cc42_) t85_2, Ob.B g6_ (.cells #[.int .i64 t32_1, .slice a32_ t32_2.length cc32_] 26 (0, 0)), Ob.R w (Kd.int .u64) 87 ok32_ (.slice a32_ t32_2.length cc32_) t32_2, Ob.B g3_ (.cells #[.int .i64 a1_0, .slice A1_1 l1_1.length c1_1] 24 (0, 0)), Ob.B g2_ (.cells #[.int .i64 a0_0, .slice A0_1 l0_1.length c0_1] 24 (0, 0))]) ∧ Aside0 (t96_2.length ≤ s_.2.2.1)) ?_ ?_
          rotate_left
          · intro hJ1_8
            refine join_ (σ := (Nat → Prop) × Option Addr × Nat) 8 #[true, true, true, false, false, false, false, false, false, false, false] (fun s_ => [(96, .agg #[.int .i64 t96_1, .slice s_.2.1 t96_2.length s_.2.2])]) (fun s_ w' => Aside0 (St w w' [Ob.R w (Kd.int .u64) 87 s_.1 (.slice s_.2.1 t96_2.length s_.2.2) t96_2, Ob.B g10_ (.cells #[.int .i64 t42_1, .slice a42_ t85_2.length cc42_] 26 (0, 0)), Ob.R w (Kd.int .u64) 87 ok42_m (.slice a42_ t85_2.length cc42_) t85_2, Ob.B g6_ (.cells #[.int .i64 t32_1, .slice a32_ t32_2.length cc32_] 26 (0, 0)), Ob.R w (Kd.int .u64) 87 ok32_ (.slice a32_ t32_2.length cc32_) t32_2, Ob.B g3_ (.cells #[.int .i64 a1_0, .slice A1_1 l1_1.length c1_1] 24 (0, 0)), Ob.B g2_ (.cells #[.int .i64 a0_0, .slice A0_1 l0_1.length c0_1] 24 (0, 0))]) ∧ Aside0 (t96_2.length ≤ s_.2.2)) ?_ ?_
            rotate_left
            · intro hJ1
              refine join_ (σ := Nat) 8 #[true, false, true, false, false, false, false, false, true, false, false] (fun s_ => [(15, .pointer (some ⟨s_, 0, none⟩))]) (fun s_ w' => Aside0 (St w w' [Ob.B s_ (.cells #[.int .i64 0, .slice none 0 0] 26 (0, 0)), Ob.B g10_ (.cells #[.int .i64 t42_1, .slice a42_ t85_2.length cc42_] 26 (0, 0)), Ob.R w (Kd.int .u64) 87 ok42_m (.slice a42_ t85_2.length cc42_) t85_2, Ob.B g6_ (.cells #[.int .i64 t32_1, .slice a32_ t32_2.length cc32_] 26 (0, 0)), Ob.R w (Kd.int .u64) 87 ok32_ (.slice a32_ t32_2.length cc32_) t32_2, Ob.B g3_ (.cells #[.int .i64 a1_0, .slice A1_1 l1_1.length c1_1] 24 (0, 0)), Ob.B g2_ (.cells #[.int .i64 a0_0, .slice A0_1 l0_1.length c0_1] 24 (0, 0))])) ?_ ?_
              rotate_left
              · intro hJ8
                refine two_ (i := 1) (j := 8) (Ni := some 96) (Nj := some 15) #[true, true, true, false, false, false, false, false, false, false, false] #[true, false, true, false, false, false, false, false, true, false, false] rfl rfl rfl rfl (by kernel_rfl) (by decide) (by decide) (fun K hK => ?_) (fun K hK => ?_)
                · skip
                  refine goes_ Try.func17 (by kernel_rfl) rfl #[.agg #[.int .i64 a0_0, .slice A0_1 l0_1.length c0_1]] (by rfl) rfl rfl (by (try simp only [List.map_toArray, List.map_cons, List.map_nil]); first | done | rfl) ?_
                  refine (laws_toBits.calls (hr0_1 := Kd.C_below HR0_1.out (St.lift H).below) (hc0_1 := HC0_1.out) (h := A96.out)).mono ?_
                  rintro e wq31_8 ⟨v1x96, rfl, ho_, hb_⟩
                  refine ⟨_, rfl, ?_⟩
                  obtain ⟨ok96_, a96_, cc96_, rfl, kc96_, H_⟩ := St.callR H hb_ ho_; clear H hb_ ho_; have H := H_; clear H_
                  refine hK.out _ _ ⟨(blk_cell (St.getB H 6 rfl ⟨0, rfl⟩) 0).trans rfl, (blk_cell (St.getB H 6 rfl ⟨0, rfl⟩) 1).trans rfl, (blk_cell (St.getB H 5 rfl ⟨0, rfl⟩) 0).trans rfl, (blk_cell (St.getB H 5 rfl ⟨0, rfl⟩) 1).trans rfl⟩ (fun hHeld => ?_)
                  clear hK K
                  refine norm_ (a' := ?_) ?_ ?_
                  rotate_left
                  · show Act.put _ (some 96) _ = _
                    simp only [Act.put, List.setIfInBounds_toArray, List.set_cons_zero, List.set_cons_succ, i64_w, i32_w]
                    rfl
                  exact norm_ (by first | (simp only [putAll, Act.put, List.setIfInBounds_toArray, List.set_cons_zero, List.set_cons_succ]; done) | (simp only [putAll, Act.put, List.setIfInBounds_toArray, List.set_cons_zero, List.set_cons_succ]; rfl)) (hJ1 ⟨ok96_, a96_, cc96_⟩ _ ⟨H, kc96_⟩)
                · skip
                  refine box_step ?hg (N := 15) ?hd (cs := #[.int .i64 0, .slice none 0 0]) (t := 26) ?hr ?_; (case hd => rfl); (case hg => rfl); (case hr => first | (go_simp; done) | (go_simp; rfl))
                  intro g15_ hg_ wq31_9 hbox_ hb_; replace H := St.box H hg_ hbox_ hb_; clear hg_ hbox_ hb_
                  refine hK.out _ _ ⟨(blk_cell (St.getB H 6 rfl ⟨0, rfl⟩) 0).trans rfl, (blk_cell (St.getB H 6 rfl ⟨0, rfl⟩) 1).trans rfl, (blk_cell (St.getB H 5 rfl ⟨0, rfl⟩) 0).trans rfl, (blk_cell (St.getB H 5 rfl ⟨0, rfl⟩) 1).trans rfl⟩ (fun hHeld => ?_)
                  clear hK K
                  refine norm_ (a' := ?_) ?_ ?_
                  rotate_left
                  · show Act.put _ (some 15) _ = _
                    simp only [Act.put, List.setIfInBounds_toArray, List.set_cons_zero, List.set_cons_succ, i64_w, i32_w]
                    rfl
                  exact norm_ (by first | (simp only [putAll, Act.put, List.setIfInBounds_toArray, List.set_cons_zero, List.set_cons_succ]; done) | (simp only [putAll, Act.put, List.setIfInBounds_toArray, List.set_cons_zero, List.set_cons_succ]; rfl)) (hJ8 g15_ _ H)
              · skip
                clear H hHeld
                rintro g15_ wn31_7 H
                try dsimp only at H
                have hHeld : wn31_7.cell? ⟨g2_, 0, none⟩ = some (.int .i64 a0_0) ∧ wn31_7.cell? ⟨g2_, 1, none⟩ = some (.slice A0_1 l0_1.length c0_1) ∧ wn31_7.cell? ⟨g3_, 0, none⟩ = some (.int .i64 a1_0) ∧ wn31_7.cell? ⟨g3_, 1, none⟩ = some (.slice A1_1 l1_1.length c1_1) := ⟨(blk_cell (St.getB H 6 rfl ⟨0, rfl⟩) 0).trans rfl, (blk_cell (St.getB H 6 rfl ⟨0, rfl⟩) 1).trans rfl, (blk_cell (St.getB H 5 rfl ⟨0, rfl⟩) 0).trans rfl, (blk_cell (St.getB H 5 rfl ⟨0, rfl⟩) 1).trans rfl⟩
                refine norm_ (a' := ?_) ?_ ?_
                rotate_left
                · simp only [putAll, Act.put, List.setIfInBounds_toArray, List.set_cons_zero, List.set_cons_succ]
                  rfl
                refine one_ (i := 1) (N := some 96) #[true, true, true, false, false, false, false, false, true, false, false] rfl rfl (by kernel_rfl) (by decide) (fun K hK => ?_)
                refine goes_ Try.func17 (by kernel_rfl) rfl #[.agg #[.int .i64 a0_0, .slice A0_1 l0_1.length c0_1]] (by rfl) rfl rfl (by (try simp only [List.map_toArray, List.map_cons, List.map_nil]); first | done | rfl) ?_
                refine (laws_toBits.calls (hr0_1 := Kd.C_below HR0_1.out (St.lift H).below) (hc0_1 := HC0_1.out) (h := A96.out)).mono ?_
                rintro e wq31_10 ⟨v1x96, rfl, ho_, hb_⟩
                refine ⟨_, rfl, ?_⟩
                obtain ⟨ok96_, a96_, cc96_, rfl, kc96_, H_⟩ := St.callR H hb_ ho_; clear H hb_ ho_; have H := H_; clear H_
                replace H := St.perm H (List.Perm.swap _ _ _)
                refine hK.out _ _ ⟨(blk_cell (St.getB H 7 rfl ⟨0, rfl⟩) 0).trans rfl, (blk_cell (St.getB H 7 rfl ⟨0, rfl⟩) 1).trans rfl, (blk_cell (St.getB H 6 rfl ⟨0, rfl⟩) 0).trans rfl, (blk_cell (St.getB H 6 rfl ⟨0, rfl⟩) 1).trans rfl⟩ (fun hHeld => ?_)
                clear hK K
                refine norm_ (a' := ?_) ?_ ?_
                rotate_left
                · show Act.put _ (some 96) _ = _
                  simp only [Act.put, List.setIfInBounds_toArray, List.set_cons_zero, List.set_cons_succ, i64_w, i32_w]
                  rfl
                exact norm_ (by first | (simp only [putAll, Act.put, List.setIfInBounds_toArray, List.set_cons_zero, List.set_cons_succ]; done) | (simp only [putAll, Act.put, List.setIfInBounds_toArray, List.set_cons_zero, List.set_cons_succ]; rfl)) (hJ1_8 ⟨ok96_, a96_, cc96_, g15_⟩ _ ⟨H, kc96_⟩)
            · skip
              clear H hHeld
              rintro ⟨ok96_, a96_, cc96_⟩ wn31_6 ⟨H, kc96_⟩
              try dsimp only at H kc96_
              have hHeld : wn31_6.cell? ⟨g2_, 0, none⟩ = some (.int .i64 a0_0) ∧ wn31_6.cell? ⟨g2_, 1, none⟩ = some (.slice A0_1 l0_1.length c0_1) ∧ wn31_6.cell? ⟨g3_, 0, none⟩ = some (.int .i64 a1_0) ∧ wn31_6.cell? ⟨g3_, 1, none⟩ = some (.slice A1_1 l1_1.length c1_1) := ⟨(blk_cell (St.getB H 6 rfl ⟨0, rfl⟩) 0).trans rfl, (blk_cell (St.getB H 6 rfl ⟨0, rfl⟩) 1).trans rfl, (blk_cell (St.getB H 5 rfl ⟨0, rfl⟩) 0).trans rfl, (blk_cell (St.getB H 5 rfl ⟨0, rfl⟩) 1).trans rfl⟩
              refine norm_ (a' := ?_) ?_ ?_
              rotate_left
              · simp only [putAll, Act.put, List.setIfInBounds_toArray, List.set_cons_zero, List.set_cons_succ]
                rfl
              refine two_ (i := 3) (j := 8) (Ni := some 98) (Nj := some 15) #[true, true, true, true, false, false, false, false, false, false, false] #[true, true, true, false, false, false, false, false, true, false, false] rfl rfl rfl rfl (by kernel_rfl) (by decide) (by decide) (fun K hK => ?_) (fun K hK => ?_)
              · skip
                refine goes_ Try.func17 (by kernel_rfl) rfl #[.agg #[.int .i64 a1_0, .slice A1_1 l1_1.length c1_1]] (by rfl) rfl rfl (by (try simp only [List.map_toArray, List.map_cons, List.map_nil]); first | done | rfl) ?_
                refine (laws_toBits.calls (hr0_1 := Kd.C_below HR1_1.out (St.lift H).below) (hc0_1 := HC1_1.out) (h := A98.out)).mono ?_
                rintro e wq31_11 ⟨v1x98, rfl, ho_, hb_⟩
                refine ⟨_, rfl, ?_⟩
                obtain ⟨ok98_, a98_, cc98_, rfl, kc98_, H_⟩ := St.callR H hb_ ho_; clear H hb_ ho_; have H := H_; clear H_
                refine hK.out _ _ ⟨(blk_cell (St.getB H 7 rfl ⟨0, rfl⟩) 0).trans rfl, (blk_cell (St.getB H 7 rfl ⟨0, rfl⟩) 1).trans rfl, (blk_cell (St.getB H 6 rfl ⟨0, rfl⟩) 0).trans rfl, (blk_cell (St.getB H 6 rfl ⟨0, rfl⟩) 1).trans rfl⟩ (fun hHeld => ?_)
                clear hK K
                refine norm_ (a' := ?_) ?_ ?_
                rotate_left
                · show Act.put _ (some 98) _ = _
                  simp only [Act.put, List.setIfInBounds_toArray, List.set_cons_zero, List.set_cons_succ, i64_w, i32_w]
                  rfl
                exact norm_ (by first | (simp only [putAll, Act.put, List.setIfInBounds_toArray, List.set_cons_zero, List.set_cons_succ]; done) | (simp only [putAll, Act.put, List.setIfInBounds_toArray, List.set_cons_zero, List.set_cons_succ]; rfl)) (hJ1_3 ⟨ok96_, a96_, cc96_, ok98_, a98_, cc98_⟩ _ ⟨H, kc96_, kc98_⟩)
              · skip
                refine box_step ?hg (N := 15) ?hd (cs := #[.int .i64 0, .slice none 0 0]) (t := 26) ?hr ?_; (case hd => rfl); (case hg => rfl); (case hr => first | (go_simp; done) | (go_simp; rfl))
                intro g15_ hg_ wq31_12 hbox_ hb_; replace H := St.box H hg_ hbox_ hb_; clear hg_ hbox_ hb_
                refine hK.out _ _ ⟨(blk_cell (St.getB H 7 rfl ⟨0, rfl⟩) 0).trans rfl, (blk_cell (St.getB H 7 rfl ⟨0, rfl⟩) 1).trans rfl, (blk_cell (St.getB H 6 rfl ⟨0, rfl⟩) 0).trans rfl, (blk_cell (St.getB H 6 rfl ⟨0, rfl⟩) 1).trans rfl⟩ (fun hHeld => ?_)
                clear hK K
                refine norm_ (a' := ?_) ?_ ?_
                rotate_left
                · show Act.put _ (some 15) _ = _
                  simp only [Act.put, List.setIfInBounds_toArray, List.set_cons_zero, List.set_cons_succ, i64_w, i32_w]
                  rfl
                exact norm_ (by first | (simp only [putAll, Act.put, List.setIfInBounds_toArray, List.set_cons_zero, List.set_cons_succ]; done) | (simp only [putAll, Act.put, List.setIfInBounds_toArray, List.set_cons_zero, List.set_cons_succ]; rfl)) (hJ1_8 ⟨ok96_, a96_, cc96_, g15_⟩ _ ⟨H, kc96_⟩)
          · skip
            clear H hHeld
            rintro ⟨ok96_, a96_, cc96_, g15_⟩ wn31_5 ⟨H, kc96_⟩
            try dsimp only at H kc96_
            have hHeld : wn31_5.cell? ⟨g2_, 0, none⟩ = some (.int .i64 a0_0) ∧ wn31_5.cell? ⟨g2_, 1, none⟩ = some (.slice A0_1 l0_1.length c0_1) ∧ wn31_5.cell? ⟨g3_, 0, none⟩ = some (.int .i64 a1_0) ∧ wn31_5.cell? ⟨g3_, 1, none⟩ = some (.slice A1_1 l1_1.length c1_1) := ⟨(blk_cell (St.getB H 7 rfl ⟨0, rfl⟩) 0).trans rfl, (blk_cell (St.getB H 7 rfl ⟨0, rfl⟩) 1).trans rfl, (blk_cell (St.getB H 6 rfl ⟨0, rfl⟩) 0).trans rfl, (blk_cell (St.getB H 6 rfl ⟨0, rfl⟩) 1).trans rfl⟩
            refine norm_ (a' := ?_) ?_ ?_
            rotate_left
            · simp only [putAll, Act.put, List.setIfInBounds_toArray, List.set_cons_zero, List.set_cons_succ]
              rfl
            refine one_ (i := 3) (N := some 98) #[true, true, true, true, false, false, false, false, true, false, false] rfl rfl (by kernel_rfl) (by decide) (fun K hK => ?_)
            refine goes_ Try.func17 (by kernel_rfl) rfl #[.agg #[.int .i64 a1_0, .slice A1_1 l1_1.length c1_1]] (by rfl) rfl rfl (by (try simp only [List.map_toArray, List.map_cons, List.map_nil]); first | done | rfl) ?_
            refine (laws_toBits.calls (hr0_1 := Kd.C_below HR1_1.out (St.lift H).below) (hc0_1 := HC1_1.out) (h := A98.out)).mono ?_
            rintro e wq31_13 ⟨v1x98, rfl, ho_, hb_⟩
            refine ⟨_, rfl, ?_⟩
            obtain ⟨ok98_, a98_, cc98_, rfl, kc98_, H_⟩ := St.callR H hb_ ho_; clear H hb_ ho_; have H := H_; clear H_
            replace H := St.perm H (List.Perm.swap _ _ _)
            refine hK.out _ _ ⟨(blk_cell (St.getB H 8 rfl ⟨0, rfl⟩) 0).trans rfl, (blk_cell (St.getB H 8 rfl ⟨0, rfl⟩) 1).trans rfl, (blk_cell (St.getB H 7 rfl ⟨0, rfl⟩) 0).trans rfl, (blk_cell (St.getB H 7 rfl ⟨0, rfl⟩) 1).trans rfl⟩ (fun hHeld => ?_)
            clear hK K
            refine norm_ (a' := ?_) ?_ ?_
            rotate_left
            · show Act.put _ (some 98) _ = _
              simp only [Act.put, List.setIfInBounds_toArray, List.set_cons_zero, List.set_cons_succ, i64_w, i32_w]
              rfl
            exact norm_ (by first | (simp only [putAll, Act.put, List.setIfInBounds_toArray, List.set_cons_zero, List.set_cons_succ]; done) | (simp only [putAll, Act.put, List.setIfInBounds_toArray, List.set_cons_zero, List.set_cons_succ]; rfl)) (hJ1_3_8 ⟨ok96_, a96_, cc96_, ok98_, a98_, cc98_, g15_⟩ _ ⟨H, kc96_, kc98_⟩)
        · skip
          clear H hHeld
          rintro ⟨ok96_, a96_, cc96_, ok98_, a98_, cc98_⟩ wn31_4 ⟨H, kc96_, kc98_⟩
          try dsimp only at H kc96_ kc98_
          have hHeld : wn31_4.cell? ⟨g2_, 0, none⟩ = some (.int .i64 a0_0) ∧ wn31_4.cell? ⟨g2_, 1, none⟩ = some (.slice A0_1 l0_1.length c0_1) ∧ wn31_4.cell? ⟨g3_, 0, none⟩ = some (.int .i64 a1_0) ∧ wn31_4.cell? ⟨g3_, 1, none⟩ = some (.slice A1_1 l1_1.length c1_1) := ⟨(blk_cell (St.getB H 7 rfl ⟨0, rfl⟩) 0).trans rfl, (blk_cell (St.getB H 7 rfl ⟨0, rfl⟩) 1).trans rfl, (blk_cell (St.getB H 6 rfl ⟨0, rfl⟩) 0).trans rfl, (blk_cell (St.getB H 6 rfl ⟨0, rfl⟩) 1).trans rfl⟩
          refine norm_ (a' := ?_) ?_ ?_
          rotate_left
          · simp only [putAll, Act.put, List.setIfInBounds_toArray, List.set_cons_zero, List.set_cons_succ]
            rfl
          refine two_ (i := 4) (j := 8) (Ni := some 99) (Nj := some 15) #[true, true, true, true, true, false, false, false, false, false, false] #[true, true, true, true, false, false, false, false, true, false, false] rfl rfl rfl rfl (by kernel_rfl) (by decide) (by decide) (fun K hK => ?_) (fun K hK => ?_)
          · skip
            refine goes_ Try.func23 (by kernel_rfl) rfl #[.agg #[.int .i64 t96_1, .slice a96_ t96_2.length cc96_], .agg #[.int .i64 t98_1, .slice a98_ t98_2.length cc98_]] (by rfl) rfl rfl (by (try simp only [List.map_toArray, List.map_cons, List.map_nil]); first | done | rfl) ?_
            refine (impl_JoinBits.calls (hr0_1 := (Kd.R_reads' (St.getR H 1 rfl)).2.2) (hc0_1 := kc96_.out) (hr1_1 := (Kd.R_reads' (St.getR H 0 rfl)).2.2) (hc1_1 := kc98_.out) (h := A99.out)).mono ?_
            rintro e wq31_14 ⟨v1x99, rfl, ho_, hb_⟩
            refine ⟨_, rfl, ?_⟩
            obtain ⟨ok99_, a99_, cc99_, rfl, kc99_, H_⟩ := St.callR H hb_ ho_; clear H hb_ ho_; have H := H_; clear H_
            refine hK.out _ _ ⟨(blk_cell (St.getB H 8 rfl ⟨0, rfl⟩) 0).trans rfl, (blk_cell (St.getB H 8 rfl ⟨0, rfl⟩) 1).trans rfl, (blk_cell (St.getB H 7 rfl ⟨0, rfl⟩) 0).trans rfl, (blk_cell (St.getB H 7 rfl ⟨0, rfl⟩) 1).trans rfl⟩ (fun hHeld => ?_)
            clear hK K
            refine norm_ (a' := ?_) ?_ ?_
            rotate_left
            · show Act.put _ (some 99) _ = _
              simp only [Act.put, List.setIfInBounds_toArray, List.set_cons_zero, List.set_cons_succ, i64_w, i32_w]
              rfl
            refine pure_ (i := 5) (N := some 94) (v := ?_) (a' := ?_) #[true, true, true, true, true, true, false, false, false, false, false] rfl rfl (by kernel_rfl) (fun _ _ _ h => h) (Or.inl ⟨by rfl, ?_⟩) ?_ ?_
            rotate_left
            · intro w'
              go_simp
              with_reducible rfl
            rotate_left
            · simp only [Act.put, List.setIfInBounds_toArray, List.set_cons_zero, List.set_cons_succ, i64_w, i32_w]
              rfl
            refine pure_ (i := 6) (N := some 100) (v := ?_) (a' := ?_) #[true, true, true, true, true, true, true, false, false, false, false] rfl rfl (by kernel_rfl) (fun _ _ _ h => h) (Or.inl ⟨by rfl, ?_⟩) ?_ ?_
            rotate_left
            · intro w'
              go_simp
              with_reducible rfl
            rotate_left
            · simp only [Act.put, List.setIfInBounds_toArray, List.set_cons_zero, List.set_cons_succ, i64_w, i32_w]
              rfl
            refine pure_ (i := 7) (N := some 101) (v := ?_) (a' := ?_) #[true, true, true, true, true, true, true, true, false, false, false] rfl rfl (by kernel_rfl) (fun _ _ _ h => h) (Or.inl ⟨by rfl, ?_⟩) ?_ ?_
            rotate_left
            · intro w'
              go_simp
              with_reducible rfl
            rotate_left
            · simp only [Act.put, List.setIfInBounds_toArray, List.set_cons_zero, List.set_cons_succ, i64_w, i32_w]
              rfl
            exact norm_ (by first | (simp only [putAll, Act.put, List.setIfInBounds_toArray, List.set_cons_zero, List.set_cons_succ]; done) | (simp only [putAll, Act.put, List.setIfInBounds_toArray, List.set_cons_zero, List.set_cons_succ]; rfl)) (hJ1_3_4 ⟨ok96_, a96_, cc96_, ok98_, a98_, cc98_, ok99_, a99_, cc99_⟩ _ ⟨H, kc96_, kc98_, kc99_⟩)
          · skip
            refine box_step ?hg (N := 15) ?hd (cs := #[.int .i64 0, .slice none 0 0]) (t := 26) ?hr ?_; (case hd => rfl); (case hg => rfl); (case hr => first | (go_simp; done) | (go_simp; rfl))
            intro g15_ hg_ wq31_15 hbox_ hb_; replace H := St.box H hg_ hbox_ hb_; clear hg_ hbox_ hb_
            refine hK.out _ _ ⟨(blk_cell (St.getB H 8 rfl ⟨0, rfl⟩) 0).trans rfl, (blk_cell (St.getB H 8 rfl ⟨0, rfl⟩) 1).trans rfl, (blk_cell (St.getB H 7 rfl ⟨0, rfl⟩) 0).trans rfl, (blk_cell (St.getB H 7 rfl ⟨0, rfl⟩) 1).trans rfl⟩ (fun hHeld => ?_)
            clear hK K
            refine norm_ (a' := ?_) ?_ ?_
            rotate_left
            · show Act.put _ (some 15) _ = _
              simp only [Act.put, List.setIfInBounds_toArray, List.set_cons_zero, List.set_cons_succ, i64_w, i32_w]
              rfl
            exact norm_ (by first | (simp only [putAll, Act.put, List.setIfInBounds_toArray, List.set_cons_zero, List.set_cons_succ]; done) | (simp only [putAll, Act.put, List.setIfInBounds_toArray, List.set_cons_zero, List.set_cons_succ]; rfl)) (hJ1_3_8 ⟨ok96_, a96_, cc96_, ok98_, a98_, cc98_, g15_⟩ _ ⟨H, kc96_, kc98_⟩)
      · skip
        clear H hHeld
        rintro ⟨ok96_, a96_, cc96_, ok98_, a98_, cc98_, g15_⟩ wn31_3 ⟨H, kc96_, kc98_⟩
        try dsimp only at H kc96_ kc98_
        have hHeld : wn31_3.cell? ⟨g2_, 0, none⟩ = some (.int .i64 a0_0) ∧ wn31_3.cell? ⟨g2_, 1, none⟩ = some (.slice A0_1 l0_1.length c0_1) ∧ wn31_3.cell? ⟨g3_, 0, none⟩ = some (.int .i64 a1_0) ∧ wn31_3.cell? ⟨g3_, 1, none⟩ = some (.slice A1_1 l1_1.length c1_1) := ⟨(blk_cell (St.getB H 8 rfl ⟨0, rfl⟩) 0).trans rfl, (blk_cell (St.getB H 8 rfl ⟨0, rfl⟩) 1).trans rfl, (blk_cell (St.getB H 7 rfl ⟨0, rfl⟩) 0).trans rfl, (blk_cell (St.getB H 7 rfl ⟨0, rfl⟩) 1).trans rfl⟩
        refine norm_ (a' := ?_) ?_ ?_
        rotate_left
        · simp only [putAll, Act.put, List.setIfInBounds_toArray, List.set_cons_zero, List.set_cons_succ]
          rfl
        refine one_ (i := 4) (N := some 99) #[true, true, true, true, true, false, false, false, true, false, false] rfl rfl (by kernel_rfl) (by decide) (fun K hK => ?_)
        refine goes_ Try.func23 (by kernel_rfl) rfl #[.agg #[.int .i64 t96_1, .slice a96_ t96_2.length cc96_], .agg #[.int .i64 t98_1, .slice a98_ t98_2.length cc98_]] (by rfl) rfl rfl (by (try simp only [List.map_toArray, List.map_cons, List.map_nil]); first | done | rfl) ?_
        refine (impl_JoinBits.calls (hr0_1 := (Kd.R_reads' (St.getR H 2 rfl)).2.2) (hc0_1 := kc96_.out) (hr1_1 := (Kd.R_reads' (St.getR H 1 rfl)).2.2) (hc1_1 := kc98_.out) (h := A99.out)).mono ?_
        rintro e wq31_16 ⟨v1x99, rfl, ho_, hb_⟩
        refine ⟨_, rfl, ?_⟩
        obtain ⟨ok99_, a99_, cc99_, rfl, kc99_, H_⟩ := St.callR H hb_ ho_; clear H hb_ ho_; have H := H_; clear H_
        replace H := St.perm H (List.Perm.swap _ _ _)
        refine hK.out _ _ ⟨(blk_cell (St.getB H 9 rfl ⟨0, rfl⟩) 0).trans rfl, (blk_cell (St.getB H 9 rfl ⟨0, rfl⟩) 1).trans rfl, (blk_cell (St.getB H 8 rfl ⟨0, rfl⟩) 0).trans rfl, (blk_cell (St.getB H 8 rfl ⟨0, rfl⟩) 1).trans rfl⟩ (fun hHeld => ?_)
        clear hK K
        refine norm_ (a' := ?_) ?_ ?_
        rotate_left
        · show Act.put _ (some 99) _ = _
          simp only [Act.put, List.setIfInBounds_toArray, List.set_cons_zero, List.set_cons_succ, i64_w, i32_w]
          rfl
        refine pure_ (i := 5) (N := some 94) (v := ?_) (a' := ?_) #[true, true, true, true, true, true, false, false, true, false, false] rfl rfl (by kernel_rfl) (fun _ _ _ h => h) (Or.inl ⟨by rfl, ?_⟩) ?_ ?_
        rotate_left
        · intro w'
          go_simp
          with_reducible rfl
        rotate_left
        · simp only [Act.put, List.setIfInBounds_toArray, List.set_cons_zero, List.set_cons_succ, i64_w, i32_w]
          rfl
        refine pure_ (i := 6) (N := some 100) (v := ?_) (a' := ?_) #[true, true, true, true, true, true, true, false, true, false, false] rfl rfl (by kernel_rfl) (fun _ _ _ h => h) (Or.inl ⟨by rfl, ?_⟩) ?_ ?_
        rotate_left
        · intro w'
          go_simp
          with_reducible rfl
        rotate_left
        · simp only [Act.put, List.setIfInBounds_toArray, List.set_cons_zero, List.set_cons_succ, i64_w, i32_w]
          rfl
        refine pure_ (i := 7) (N := some 101) (v := ?_) (a' := ?_) #[true, true, true, true, true, true, true, true, true, false, false] rfl rfl (by kernel_rfl) (fun _ _ _ h => h) (Or.inl ⟨by rfl, ?_⟩) ?_ ?_
        rotate_left
        · intro w'
          go_simp
          with_reducible rfl
        rotate_left
        · simp only [Act.put, List.setIfInBounds_toArray, List.set_cons_zero, List.set_cons_succ, i64_w, i32_w]
          rfl
        exact norm_ (by first | (simp only [putAll, Act.put, List.setIfInBounds_toArray, List.set_cons_zero, List.set_cons_succ]; done) | (simp only [putAll, Act.put, List.setIfInBounds_toArray, List.set_cons_zero, List.set_cons_succ]; rfl)) (hJ1_3_4_8 ⟨ok96_, a96_, cc96_, ok98_, a98_, cc98_, ok99_, a99_, cc99_, g15_⟩ _ ⟨H, kc96_, kc98_, kc99_⟩)
    · skip
      clear H hHeld
      rintro ⟨ok96_, a96_, cc96_, ok98_, a98_, cc98_, ok99_, a99_, cc99_⟩ wn31_2 ⟨H, kc96_, kc98_, kc99_⟩
      try dsimp only at H kc96_ kc98_ kc99_
      have hHeld : wn31_2.cell? ⟨g2_, 0, none⟩ = some (.int .i64 a0_0) ∧ wn31_2.cell? ⟨g2_, 1, none⟩ = some (.slice A0_1 l0_1.length c0_1) ∧ wn31_2.cell? ⟨g3_, 0, none⟩ = some (.int .i64 a1_0) ∧ wn31_2.cell? ⟨g3_, 1, none⟩ = some (.slice A1_1 l1_1.length c1_1) := ⟨(blk_cell (St.getB H 8 rfl ⟨0, rfl⟩) 0).trans rfl, (blk_cell (St.getB H 8 rfl ⟨0, rfl⟩) 1).trans rfl, (blk_cell (St.getB H 7 rfl ⟨0, rfl⟩) 0).trans rfl, (blk_cell (St.getB H 7 rfl ⟨0, rfl⟩) 1).trans rfl⟩
      refine norm_ (a' := ?_) ?_ ?_
      rotate_left
      · simp only [putAll, Act.put, List.setIfInBounds_toArray, List.set_cons_zero, List.set_cons_succ]
        rfl
      refine one_ (i := 8) (N := some 15) #[true, true, true, true, true, true, true, true, true, false, false] rfl rfl (by kernel_rfl) (by decide) (fun K hK => ?_)
      refine box_step ?hg (N := 15) ?hd (cs := #[.int .i64 0, .slice none 0 0]) (t := 26) ?hr ?_; (case hd => rfl); (case hg => rfl); (case hr => first | (go_simp; done) | (go_simp; rfl))
      intro g15_ hg_ wq31_17 hbox_ hb_; replace H := St.box H hg_ hbox_ hb_; clear hg_ hbox_ hb_
      refine hK.out _ _ ⟨(blk_cell (St.getB H 9 rfl ⟨0, rfl⟩) 0).trans rfl, (blk_cell (St.getB H 9 rfl ⟨0, rfl⟩) 1).trans rfl, (blk_cell (St.getB H 8 rfl ⟨0, rfl⟩) 0).trans rfl, (blk_cell (St.getB H 8 rfl ⟨0, rfl⟩) 1).trans rfl⟩ (fun hHeld => ?_)
      clear hK K
      refine norm_ (a' := ?_) ?_ ?_
      rotate_left
      · show Act.put _ (some 15) _ = _
        simp only [Act.put, List.setIfInBounds_toArray, List.set_cons_zero, List.set_cons_succ, i64_w, i32_w]
        rfl
      exact norm_ (by first | (simp only [putAll, Act.put, List.setIfInBounds_toArray, List.set_cons_zero, List.set_cons_succ]; done) | (simp only [putAll, Act.put, List.setIfInBounds_toArray, List.set_cons_zero, List.set_cons_succ]; rfl)) (hJ1_3_4_8 ⟨ok96_, a96_, cc96_, ok98_, a98_, cc98_, ok99_, a99_, cc99_, g15_⟩ _ ⟨H, kc96_, kc98_, kc99_⟩)
  clear H hHeld
  rintro ⟨ok96_, a96_, cc96_, ok98_, a98_, cc98_, ok99_, a99_, cc99_, g15_⟩ wn31_1 ⟨H, kc96_, kc98_, kc99_⟩
  try dsimp only at H kc96_ kc98_ kc99_
  have hHeld : wn31_1.cell? ⟨g2_, 0, none⟩ = some (.int .i64 a0_0) ∧ wn31_1.cell? ⟨g2_, 1, none⟩ = some (.slice A0_1 l0_1.length c0_1) ∧ wn31_1.cell? ⟨g3_, 0, none⟩ = some (.int .i64 a1_0) ∧ wn31_1.cell? ⟨g3_, 1, none⟩ = some (.slice A1_1 l1_1.length c1_1) := ⟨(blk_cell (St.getB H 9 rfl ⟨0, rfl⟩) 0).trans rfl, (blk_cell (St.getB H 9 rfl ⟨0, rfl⟩) 1).trans rfl, (blk_cell (St.getB H 8 rfl ⟨0, rfl⟩) 0).trans rfl, (blk_cell (St.getB H 8 rfl ⟨0, rfl⟩) 1).trans rfl⟩
  refine norm_ (a' := ?_) ?_ ?_
  rotate_left
  · simp only [putAll, Act.put, List.setIfInBounds_toArray, List.set_cons_zero, List.set_cons_succ]
    rfl
  refine one_ (i := 9) (N := none) #[true, true, true, true, true, true, true, true, true, true, false] rfl rfl (by kernel_rfl) (by decide) (fun K hK => ?_)
  have hlo_ := St.lowB H 0 rfl
  have hcs0_ : wn31_1.cell? ⟨g15_, 0, none⟩ = some (.int .i64 0) := (blk_cell (St.getB H 0 rfl ⟨0, rfl⟩) 0).trans rfl; have hfs0_ : wn31_1.frozen? ⟨g15_, 0, none⟩ = false := blk_frozen (St.getB H 0 rfl ⟨0, rfl⟩) 0
  have hcs1_ : wn31_1.cell? ⟨g15_, 1, none⟩ = some (.slice none 0 0) := (blk_cell (St.getB H 0 rfl ⟨0, rfl⟩) 1).trans rfl; have hfs1_ : wn31_1.frozen? ⟨g15_, 1, none⟩ = false := blk_frozen (St.getB H 0 rfl ⟨0, rfl⟩) 1
  refine skip_ (w1 := ((wn31_1.setCell ⟨g15_, 0, none⟩ (.int .i64 t99_1)).setCell ⟨g15_, 1, none⟩ (.slice a99_ t99_2.length cc99_))) (by rfl) rfl ?_ ?_
  · first | (go_simp; done) | (go_simp; rfl)
  obtain ⟨wq31_18, hwp_⟩ : ∃ W_, W_ = ((wn31_1.setCell ⟨g15_, 0, none⟩ (.int .i64 t99_1)).setCell ⟨g15_, 1, none⟩ (.slice a99_ t99_2.length cc99_)) := ⟨_, rfl⟩; rw [← hwp_]
  have hkp_ : KeepBut wn31_1 wq31_18 g15_ none := by rw [hwp_]; repeat (first | exact KeepBut.refl _ _ _ | apply KeepBut.set_)
  have hbx_ : wq31_18.heap[g15_]? = some (.cells #[.int .i64 t99_1, .slice a99_ t99_2.length cc99_] 26 (0, 0)) := by rw [hwp_]; refine blk_put (cs := #[.int .i64 t99_1, .slice none 0 0]) ?_ 1 _ rfl; refine blk_put (cs := #[.int .i64 0, .slice none 0 0]) ?_ 0 _ rfl; exact St.getB H 0 rfl ⟨0, rfl⟩
  have hbl_ : Below w.heap.size w wq31_18 := by rw [hwp_]; repeat (first | exact H.out.below | refine below_set ?_ hlo_)
  replace H := St.store H 0 rfl hkp_ hbx_ hbl_; (try dsimp only [put, cutAt] at H); clear hkp_ hbx_ hbl_ hlo_ hwp_ hcs0_ hfs0_ hcs1_ hfs1_
  refine hK.out _ _ ⟨(blk_cell (St.getB H 9 rfl ⟨0, rfl⟩) 0).trans rfl, (blk_cell (St.getB H 9 rfl ⟨0, rfl⟩) 1).trans rfl, (blk_cell (St.getB H 8 rfl ⟨0, rfl⟩) 0).trans rfl, (blk_cell (St.getB H 8 rfl ⟨0, rfl⟩) 1).trans rfl⟩ (fun hHeld => ?_)
  clear hK K
  refine pure_ (i := 10) (N := some 16) (v := ?_) (a' := ?_) #[true, true, true, true, true, true, true, true, true, true, true] rfl rfl (by kernel_rfl) (fun _ _ _ h => h) (Or.inl ⟨by rfl, ?_⟩) ?_ ?_
  rotate_left
  · intro w'
    go_simp
    with_reducible rfl
  rotate_left
  · simp only [Act.put, List.setIfInBounds_toArray, List.set_cons_zero, List.set_cons_succ, i64_w, i32_w]
    rfl
  refine done_ (by kernel_rfl) ?_
  clear hHeld
  replace H := St.drop H 2
  replace H := St.drop H 2
  (try dsimp only [put, cutAt] at H)
  have hczb15_0 : wq31_18.cell? ⟨g15_, 0, none⟩ = some (.int .i64 t99_1) := (blk_cell (St.getB H 0 rfl ⟨0, rfl⟩) 0).trans rfl; have hfzb15_0 : wq31_18.frozen? ⟨g15_, 0, none⟩ = false := blk_frozen (St.getB H 0 rfl ⟨0, rfl⟩) 0
  have hczb15_1 : wq31_18.cell? ⟨g15_, 1, none⟩ = some (.slice a99_ t99_2.length cc99_) := (blk_cell (St.getB H 0 rfl ⟨0, rfl⟩) 1).trans rfl; have hfzb15_1 : wq31_18.frozen? ⟨g15_, 1, none⟩ = false := blk_frozen (St.getB H 0 rfl ⟨0, rfl⟩) 1
  have hczb6_0 : wq31_18.cell? ⟨g6_, 0, none⟩ = some (.int .i64 t32_1) := (blk_cell (St.getB H 4 rfl ⟨0, rfl⟩) 0).trans rfl; have hfzb6_0 : wq31_18.frozen? ⟨g6_, 0, none⟩ = false := blk_frozen (St.getB H 4 rfl ⟨0, rfl⟩) 0
  have hczb6_1 : wq31_18.cell? ⟨g6_, 1, none⟩ = some (.slice a32_ t32_2.length cc32_) := (blk_cell (St.getB H 4 rfl ⟨0, rfl⟩) 1).trans rfl; have hfzb6_1 : wq31_18.frozen? ⟨g6_, 1, none⟩ = false := blk_frozen (St.getB H 4 rfl ⟨0, rfl⟩) 1
  go_wp2_with (first | ((with_reducible refine gate_dst (N := 104) rfl ?_); clear hczb15_0 hfzb15_0 hczb15_1 hfzb15_1 hczb6_0 hfzb6_0 hczb6_1 hfzb6_1; refine goesL_ (some 104) rfl rfl Try.func19 (by kernel_rfl) rfl #[.agg #[.int .i64 t99_1, .slice a99_ t99_2.length cc99_], .agg #[.int .i64 t32_1, .slice a32_ t32_2.length cc32_]] rfl (by (try simp only [List.map_toArray, List.map_cons, List.map_nil]); first | done | rfl) ?_; refine (laws_eqBits.calls (hr0_1 := (Kd.R_reads' (St.getR H 1 rfl)).2.2) (hc0_1 := kc99_.out) (hr1_1 := (Kd.R_reads' (St.getR H 5 rfl)).2.2) (hc1_1 := kc32_.out) (h := A104.out)).mono ?_; rintro e w104 ⟨rfl, hb_⟩; refine ⟨_, rfl, ?_⟩; replace H := St.call H hb_; clear hb_; replace H := St.drop H 0; replace H := St.drop H 0; replace H := St.drop H 2; replace H := St.drop H 2; replace H := St.drop H 2; replace H := St.drop H 2; (try dsimp only [put, cutAt] at H); have hczb10_0 : w104.cell? ⟨g10_, 0, none⟩ = some (.int .i64 t42_1) := (blk_cell (St.getB H 0 rfl ⟨0, rfl⟩) 0).trans rfl; have hfzb10_0 : w104.frozen? ⟨g10_, 0, none⟩ = false := blk_frozen (St.getB H 0 rfl ⟨0, rfl⟩) 0; have hczb10_1 : w104.cell? ⟨g10_, 1, none⟩ = some (.slice a42_ t85_2.length cc42_) := (blk_cell (St.getB H 0 rfl ⟨0, rfl⟩) 1).trans rfl; have hfzb10_1 : w104.frozen? ⟨g10_, 1, none⟩ = false := blk_frozen (St.getB H 0 rfl ⟨0, rfl⟩) 1) | ((with_reducible refine gate_dst (N := 113) rfl ?_); clear hczb10_0 hfzb10_0 hczb10_1 hfzb10_1; refine goesL_ (some 113) rfl rfl Try.func21 (by kernel_rfl) rfl #[.agg #[.int .i64 t42_1, .slice a42_ t85_2.length cc42_], .int .i64 1] rfl (by (try simp only [List.map_toArray, List.map_cons, List.map_nil]); first | done | rfl) ?_; refine (laws_heldBits.calls (hr0_1 := (Kd.R_reads' (St.getR H 1 rfl)).2.2) (hc0_1 := kc42_m.out) (h := A113.out)).mono ?_; rintro e w113 ⟨rfl, hb_⟩; refine ⟨_, rfl, ?_⟩; replace H := St.call H hb_; clear hb_; replace H := St.drop H 0; replace H := St.drop H 0; (try dsimp only [put, cutAt] at H)))
  go_ret
  exact ⟨by first | rfl | (simp; done), (St.lift H).below⟩

end Go.Proofs.Ytipoepnmklaahaa.PFnExactJoinBits
