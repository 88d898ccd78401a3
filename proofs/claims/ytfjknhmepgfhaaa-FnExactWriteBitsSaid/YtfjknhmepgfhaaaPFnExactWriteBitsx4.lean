-- Written by a program of this session (lawx3.sh, lawwalk3.py); Lean checks it.
import Derived.Test.YtfjknhmepgfhaaaPFnExactWriteBitsx0
import Derived.Test.YtfjknhmepgfhaaaPFnExactWriteBitsx1
import Derived.Test.YtfjknhmepgfhaaaPFnExactWriteBitsx2
import Derived.Test.YtfjknhmepgfhaaaPFnExactWriteBitsx3
import Derived.Test.YtfjknhmepgfhaaaLaw
namespace Go.Proofs.Ytfjknhmepgfhaaa.PFnExactWriteBits
open Go.RowKit Go.Proofs.YtfjknhmepgfhaaaW.PrintWords Go.Proofs.YtfjknhmepgfhaaaW.PrintLast Go.Proofs.YtfjknhmepgfhaaaW.PrintMore
attribute [local go_sem] max2_int min2_int max_two min_two max_three min_three max_four min_four   -- for this text's walks alone
set_option linter.unusedVariables false
set_option linter.unusedSimpArgs false

/-! ### laws_FnExactWriteBits: function 7 -/
def laws_FnExactWriteBits.f (k : Nat) (a0_0 : Int) (l0_1 : List Int) : Option (Bool) := (laws_szBits.f a0_0 l0_1 1048576).bind fun t9 => if t9 < 0 then some true else (laws_toBits.f k a0_0 l0_1).bind fun bt13 => (spec_WriteBits.f k bt13.1 bt13.2).bind fun t14 => (laws_toBits.f k a0_0 l0_1).bind fun bt16 => (impl_WriteBits.f k bt16.1 bt16.2).bind fun t18 => if t18 = t14 then ((laws_toBits.f k a0_0 l0_1).bind fun bt24 => (laws_eqBits.f k bt16.1 bt16.2 bt24.1 bt24.2).bind fun t25 => if t25 = true then (some true) else none) else none
set_option maxHeartbeats 8000000 in
set_option maxRecDepth 100000 in
theorem laws_FnExactWriteBits.calls (k : Nat) (a0_0 : Int) (A0_1 : Option Addr) (c0_1 : Nat) (l0_1 : List Int) (r : Bool) (w : World) (hr0_1 : Kd.C (Kd.int .u64) w A0_1 l0_1.length l0_1) (hc0_1 : l0_1.length ≤ c0_1) (h : laws_FnExactWriteBits.f k a0_0 l0_1 = some r) :
    Calls Try.prog 7 #[.agg #[.int .i64 a0_0, .slice A0_1 l0_1.length c0_1]] w fun e w' => e = .returned (.bool r) ∧ Below w.heap.size w w' := by
  have hu25 := Try.underlying25
  have hu28 := Try.underlying28
  have HR0_1 := Aside0.mk hr0_1; have HC0_1 := Aside0.mk hc0_1; clear hr0_1 hc0_1
  have H := St.nil w
  unfold laws_FnExactWriteBits.f at h
  obtain ⟨t9, A9_, h_⟩ := Option.bind_eq_some_iff.mp h; clear h; have h := h_; clear h_
  have A9 := Aside0.mk A9_; clear A9_
  try dsimp only at h
  by_cases c1_ : t9 < 0
  · rw [if_pos c1_] at h
    obtain rfl := Option.some.inj h
    have c1b := decide_eq_true c1_
    clear c1_ h
    go_enter Try.func7, Try.ntmps7
    go_wp2_with (first | ((with_reducible refine gate_dst (N := 1) rfl ?_); go_loud (refine box_event ?hg (N := 1) ?hd (cs := #[.int .i64 a0_0, .slice A0_1 l0_1.length c0_1]) (t := 25) ?hr ?_; (case hd => rfl); (case hg => rfl); (case hr => first | (go_simp; done) | (go_simp; rfl)); intro g1_ hg_ w1 hbox_ hb_; replace H := St.box H hg_ hbox_ hb_; clear hg_ hbox_ hb_; have hczb1_0 : w1.cell? ⟨g1_, 0, none⟩ = some (.int .i64 a0_0) := (blk_cell (St.getB H 0 rfl ⟨0, rfl⟩) 0).trans rfl; have hfzb1_0 : w1.frozen? ⟨g1_, 0, none⟩ = false := blk_frozen (St.getB H 0 rfl ⟨0, rfl⟩) 0; have hczb1_1 : w1.cell? ⟨g1_, 1, none⟩ = some (.slice A0_1 l0_1.length c0_1) := (blk_cell (St.getB H 0 rfl ⟨0, rfl⟩) 1).trans rfl; have hfzb1_1 : w1.frozen? ⟨g1_, 1, none⟩ = false := blk_frozen (St.getB H 0 rfl ⟨0, rfl⟩) 1)) | ((with_reducible refine gate_dst (N := 9) rfl ?_); go_loud (clear hczb1_0 hfzb1_0 hczb1_1 hfzb1_1; refine goesL_ (some 9) rfl rfl Try.func14 (by kernel_rfl) rfl #[.agg #[.int .i64 a0_0, .slice A0_1 l0_1.length c0_1], .int .i64 1048576] rfl (by (try simp only [List.map_toArray, List.map_cons, List.map_nil]); first | done | rfl) ?_; refine (laws_szBits.calls (hr0_1 := Kd.C_below HR0_1.out (St.lift H).below) (hc0_1 := HC0_1.out) (h := A9.out)).mono ?_; rintro e w9 ⟨rfl, hb_⟩; refine ⟨_, rfl, ?_⟩; replace H := St.call H hb_; clear hb_; have hczb1_0 : w9.cell? ⟨g1_, 0, none⟩ = some (.int .i64 a0_0) := (blk_cell (St.getB H 0 rfl ⟨0, rfl⟩) 0).trans rfl; have hfzb1_0 : w9.frozen? ⟨g1_, 0, none⟩ = false := blk_frozen (St.getB H 0 rfl ⟨0, rfl⟩) 0; have hczb1_1 : w9.cell? ⟨g1_, 1, none⟩ = some (.slice A0_1 l0_1.length c0_1) := (blk_cell (St.getB H 0 rfl ⟨0, rfl⟩) 1).trans rfl; have hfzb1_1 : w9.frozen? ⟨g1_, 1, none⟩ = false := blk_frozen (St.getB H 0 rfl ⟨0, rfl⟩) 1)))
    go_ret
    exact ⟨by first | rfl | (simp; done), (St.lift H).below⟩
  rw [if_neg c1_] at h; have c1b := decide_eq_false c1_
  clear c1_
  obtain ⟨⟨t13_1, t13_2⟩, A13_, h_⟩ := Option.bind_eq_some_iff.mp h; clear h; have h := h_; clear h_
  have A13 := Aside0.mk A13_; clear A13_
  try dsimp only at h
  obtain ⟨t14, A14_, h_⟩ := Option.bind_eq_some_iff.mp h; clear h; have h := h_; clear h_
  have A14 := Aside0.mk A14_; clear A14_
  try dsimp only at h
  obtain ⟨⟨t16_1, t16_2⟩, A16_, h_⟩ := Option.bind_eq_some_iff.mp h; clear h; have h := h_; clear h_
  have A16 := Aside0.mk A16_; clear A16_
  try dsimp only at h
  obtain ⟨t18, A18_, h_⟩ := Option.bind_eq_some_iff.mp h; clear h; have h := h_; clear h_
  have A18 := Aside0.mk A18_; clear A18_
  try dsimp only at h
  obtain ⟨c2_, h_⟩ := iteP_ h; clear h; have h := h_; clear h_; subst c2_
  obtain ⟨⟨t24_1, t24_2⟩, A24_, h_⟩ := Option.bind_eq_some_iff.mp h; clear h; have h := h_; clear h_
  have A24 := Aside0.mk A24_; clear A24_
  try dsimp only at h
  obtain ⟨t25, A25_, h_⟩ := Option.bind_eq_some_iff.mp h; clear h; have h := h_; clear h_
  have A25 := Aside0.mk A25_; clear A25_
  try dsimp only at h
  obtain ⟨c3_, h_⟩ := iteP_ h; clear h; have h := h_; clear h_; subst c3_
  obtain rfl := Option.some.inj h; clear h
  go_enter Try.func7, Try.ntmps7
  go_wp2_with (first | ((with_reducible refine gate_dst (N := 1) rfl ?_); go_loud (refine box_event ?hg (N := 1) ?hd (cs := #[.int .i64 a0_0, .slice A0_1 l0_1.length c0_1]) (t := 25) ?hr ?_; (case hd => rfl); (case hg => rfl); (case hr => first | (go_simp; done) | (go_simp; rfl)); intro g1_ hg_ w1 hbox_ hb_; replace H := St.box H hg_ hbox_ hb_; clear hg_ hbox_ hb_; have hczb1_0 : w1.cell? ⟨g1_, 0, none⟩ = some (.int .i64 a0_0) := (blk_cell (St.getB H 0 rfl ⟨0, rfl⟩) 0).trans rfl; have hfzb1_0 : w1.frozen? ⟨g1_, 0, none⟩ = false := blk_frozen (St.getB H 0 rfl ⟨0, rfl⟩) 0; have hczb1_1 : w1.cell? ⟨g1_, 1, none⟩ = some (.slice A0_1 l0_1.length c0_1) := (blk_cell (St.getB H 0 rfl ⟨0, rfl⟩) 1).trans rfl; have hfzb1_1 : w1.frozen? ⟨g1_, 1, none⟩ = false := blk_frozen (St.getB H 0 rfl ⟨0, rfl⟩) 1)) | ((with_reducible refine gate_dst (N := 9) rfl ?_); go_loud (clear hczb1_0 hfzb1_0 hczb1_1 hfzb1_1; refine goesL_ (some 9) rfl rfl Try.func14 (by kernel_rfl) rfl #[.agg #[.int .i64 a0_0, .slice A0_1 l0_1.length c0_1], .int .i64 1048576] rfl (by (try simp only [List.map_toArray, List.map_cons, List.map_nil]); first | done | rfl) ?_; refine (laws_szBits.calls (hr0_1 := Kd.C_below HR0_1.out (St.lift H).below) (hc0_1 := HC0_1.out) (h := A9.out)).mono ?_; rintro e w9 ⟨rfl, hb_⟩; refine ⟨_, rfl, ?_⟩; replace H := St.call H hb_; clear hb_; have hczb1_0 : w9.cell? ⟨g1_, 0, none⟩ = some (.int .i64 a0_0) := (blk_cell (St.getB H 0 rfl ⟨0, rfl⟩) 0).trans rfl; have hfzb1_0 : w9.frozen? ⟨g1_, 0, none⟩ = false := blk_frozen (St.getB H 0 rfl ⟨0, rfl⟩) 0; have hczb1_1 : w9.cell? ⟨g1_, 1, none⟩ = some (.slice A0_1 l0_1.length c0_1) := (blk_cell (St.getB H 0 rfl ⟨0, rfl⟩) 1).trans rfl; have hfzb1_1 : w9.frozen? ⟨g1_, 1, none⟩ = false := blk_frozen (St.getB H 0 rfl ⟨0, rfl⟩) 1)) | ((with_reducible refine gate_dst (N := 13) rfl ?_); go_loud (clear hczb1_0 hfzb1_0 hczb1_1 hfzb1_1; refine goesL_ (some 13) rfl rfl Try.func16 (by kernel_rfl) rfl #[.agg #[.int .i64 a0_0, .slice A0_1 l0_1.length c0_1]] rfl (by (try simp only [List.map_toArray, List.map_cons, List.map_nil]); first | done | rfl) ?_; refine (laws_toBits.calls (hr0_1 := Kd.C_below HR0_1.out (St.lift H).below) (hc0_1 := HC0_1.out) (h := A13.out)).mono ?_; rintro e w13 ⟨v1x13, rfl, ho_, hb_⟩; refine ⟨_, rfl, ?_⟩; obtain ⟨ok13_, a13_, cc13_, rfl, kc13_, H_⟩ := St.callR H hb_ ho_; clear H hb_ ho_; have H := H_; clear H_)) | ((with_reducible refine gate_dst (N := 14) rfl ?_); go_loud (refine goesL_ (some 14) rfl rfl Try.func25 (by kernel_rfl) rfl #[.agg #[.int .i64 t13_1, .slice a13_ t13_2.length cc13_]] rfl (by (try simp only [List.map_toArray, List.map_cons, List.map_nil]); first | done | rfl) ?_; refine (spec_WriteBits.calls (hr0_1 := (Kd.R_reads' (St.getR H 0 rfl)).2.2) (hc0_1 := kc13_.out) (h := A14.out)).mono ?_; rintro e w14 ⟨rfl, hb_⟩; refine ⟨_, rfl, ?_⟩; replace H := St.call H hb_; clear hb_; replace H := St.drop H 0; (try dsimp only [put, cutAt] at H); have hczb1_0 : w14.cell? ⟨g1_, 0, none⟩ = some (.int .i64 a0_0) := (blk_cell (St.getB H 0 rfl ⟨0, rfl⟩) 0).trans rfl; have hfzb1_0 : w14.frozen? ⟨g1_, 0, none⟩ = false := blk_frozen (St.getB H 0 rfl ⟨0, rfl⟩) 0; have hczb1_1 : w14.cell? ⟨g1_, 1, none⟩ = some (.slice A0_1 l0_1.length c0_1) := (blk_cell (St.getB H 0 rfl ⟨0, rfl⟩) 1).trans rfl; have hfzb1_1 : w14.frozen? ⟨g1_, 1, none⟩ = false := blk_frozen (St.getB H 0 rfl ⟨0, rfl⟩) 1)) | ((with_reducible refine gate_dst (N := 16) rfl ?_); go_loud (clear hczb1_0 hfzb1_0 hczb1_1 hfzb1_1; refine goesL_ (some 16) rfl rfl Try.func16 (by kernel_rfl) rfl #[.agg #[.int .i64 a0_0, .slice A0_1 l0_1.length c0_1]] rfl (by (try simp only [List.map_toArray, List.map_cons, List.map_nil]); first | done | rfl) ?_; refine (laws_toBits.calls (hr0_1 := Kd.C_below HR0_1.out (St.lift H).below) (hc0_1 := HC0_1.out) (h := A16.out)).mono ?_; rintro e w16 ⟨v1x16, rfl, ho_, hb_⟩; refine ⟨_, rfl, ?_⟩; obtain ⟨ok16_, a16_, cc16_, rfl, kc16_, H_⟩ := St.callR H hb_ ho_; clear H hb_ ho_; have H := H_; clear H_)) | ((with_reducible refine gate_dst (N := 5) rfl ?_); go_loud (refine box_event ?hg (N := 5) ?hd (cs := #[.int .i64 0, .slice none 0 0]) (t := 28) ?hr ?_; (case hd => rfl); (case hg => rfl); (case hr => first | (go_simp; done) | (go_simp; rfl)); intro g5_ hg_ w5 hbox_ hb_; replace H := St.box H hg_ hbox_ hb_; clear hg_ hbox_ hb_; have hczb5_0 : w5.cell? ⟨g5_, 0, none⟩ = some (.int .i64 0) := (blk_cell (St.getB H 0 rfl ⟨0, rfl⟩) 0).trans rfl; have hfzb5_0 : w5.frozen? ⟨g5_, 0, none⟩ = false := blk_frozen (St.getB H 0 rfl ⟨0, rfl⟩) 0; have hczb5_1 : w5.cell? ⟨g5_, 1, none⟩ = some (.slice none 0 0) := (blk_cell (St.getB H 0 rfl ⟨0, rfl⟩) 1).trans rfl; have hfzb5_1 : w5.frozen? ⟨g5_, 1, none⟩ = false := blk_frozen (St.getB H 0 rfl ⟨0, rfl⟩) 1)) | ((with_reducible refine gate_dst (N := 18) rfl ?_); go_loud (clear hczb5_0 hfzb5_0 hczb5_1 hfzb5_1; refine St.abs ?_; intro w18p_ hwp_; have hlo_ := St.lowB H 0 rfl; have hkp_ : KeepBut w5 w18p_ g5_ none := (by rw [hwp_]; repeat (first | exact KeepBut.refl _ _ _ | apply keep_drewN | apply KeepBut.set_)); have hbx_ : w18p_.heap[g5_]? = some (.cells #[.int .i64 t16_1, .slice a16_ t16_2.length cc16_] 28 (0, 0)) := (by rw [hwp_]; (with_reducible repeat refine blk_drewN ?_ _); refine blk_put (cs := #[.int .i64 t16_1, .slice none 0 0]) ?_ 1 _ rfl; (with_reducible repeat refine blk_drewN ?_ _); refine blk_put (cs := #[.int .i64 0, .slice none 0 0]) ?_ 0 _ rfl; (with_reducible repeat refine blk_drewN ?_ _); exact St.getB H 0 rfl ⟨0, rfl⟩); have hbl_ : Below w.heap.size w w18p_ := (by rw [hwp_]; repeat (first | exact H.out.below | apply pw_below_drewN | refine below_set ?_ hlo_)); replace H := St.store H 0 rfl hkp_ hbx_ hbl_; (try dsimp only [put, cutAt] at H); clear hkp_ hbx_ hbl_ hlo_ hwp_; refine goesL_ (some 18) rfl rfl Try.func26 (by kernel_rfl) rfl #[.agg #[.int .i64 t16_1, .slice a16_ t16_2.length cc16_]] rfl (by (try simp only [List.map_toArray, List.map_cons, List.map_nil]); first | done | rfl) ?_; refine (impl_WriteBits.calls (hr0_1 := (Kd.R_reads' (St.getR H 1 rfl)).2.2) (hc0_1 := kc16_.out) (h := A18.out)).mono ?_; rintro e w18 ⟨rfl, hb_⟩; refine ⟨_, rfl, ?_⟩; replace H := St.call H hb_; clear hb_)))
  refine St.start (n := 5) (S := fun w' => w'.cell? ⟨g5_, 0, none⟩ = some (.int .i64 t16_1) ∧ w'.cell? ⟨g5_, 1, none⟩ = some (.slice a16_ t16_2.length cc16_) ∧ w'.cell? ⟨g1_, 0, none⟩ = some (.int .i64 a0_0) ∧ w'.cell? ⟨g1_, 1, none⟩ = some (.slice A0_1 l0_1.length c0_1)) (ds := []) #[false, false, false, false, false] (by kernel_rfl) rfl rfl (fun wr10 hwp_ => ?_)
  replace H := St.call H (show Below w18.heap.size w18 wr10 from (by rw [hwp_]; repeat (first | exact Below.refl _ _ | apply pw_below_drewN | apply below_drew1))) ⟨0, rfl⟩; clear hwp_
  refine ⟨⟨(blk_cell (St.getB H 0 rfl ⟨0, rfl⟩) 0).trans rfl, (blk_cell (St.getB H 0 rfl ⟨0, rfl⟩) 1).trans rfl, (blk_cell (St.getB H 2 rfl ⟨0, rfl⟩) 0).trans rfl, (blk_cell (St.getB H 2 rfl ⟨0, rfl⟩) 1).trans rfl⟩, fun hHeld => ?_⟩
  refine take_ (i := 0) (N := some 22) (v := ?_) (a' := ?_) #[true, false, false, false, false] rfl rfl (by kernel_rfl) (fun _ _ _ h => h) (Or.inl ⟨by rfl, ?_⟩) hHeld ?_ ?_
  rotate_left
  · rintro w' ⟨s0, s1, s2, s3⟩
    go_simp
    with_reducible rfl
  rotate_left
  · simp only [Act.put, List.setIfInBounds_toArray, List.set_cons_zero, List.set_cons_succ, i64_w, i32_w]
    rfl
  refine take_ (i := 1) (N := some 23) (v := ?_) (a' := ?_) #[true, true, false, false, false] rfl rfl (by kernel_rfl) (fun _ _ _ h => h) (Or.inl ⟨by rfl, ?_⟩) hHeld ?_ ?_
  rotate_left
  · rintro w' ⟨s0, s1, s2, s3⟩
    go_simp
    with_reducible rfl
  rotate_left
  · simp only [Act.put, List.setIfInBounds_toArray, List.set_cons_zero, List.set_cons_succ, i64_w, i32_w]
    rfl
  refine one_ (i := 2) (N := some 24) #[true, true, true, false, false] rfl rfl (by kernel_rfl) (by decide) (fun K hK => ?_)
  refine goes_ Try.func16 (by kernel_rfl) rfl #[.agg #[.int .i64 a0_0, .slice A0_1 l0_1.length c0_1]] (by rfl) rfl rfl (by (try simp only [List.map_toArray, List.map_cons, List.map_nil]); first | done | rfl) ?_
  refine (laws_toBits.calls (hr0_1 := Kd.C_below HR0_1.out (St.lift H).below) (hc0_1 := HC0_1.out) (h := A24.out)).mono ?_
  rintro e wq10_1 ⟨v1x24, rfl, ho_, hb_⟩
  refine ⟨_, rfl, ?_⟩
  obtain ⟨ok24_, a24_, cc24_, rfl, kc24_, H_⟩ := St.callR H hb_ ho_; clear H hb_ ho_; have H := H_; clear H_
  refine hK.out _ _ ⟨(blk_cell (St.getB H 1 rfl ⟨0, rfl⟩) 0).trans rfl, (blk_cell (St.getB H 1 rfl ⟨0, rfl⟩) 1).trans rfl, (blk_cell (St.getB H 3 rfl ⟨0, rfl⟩) 0).trans rfl, (blk_cell (St.getB H 3 rfl ⟨0, rfl⟩) 1).trans rfl⟩ (fun hHeld => ?_)
  clear hK K
  refine norm_ (a' := ?_) ?_ ?_
  rotate_left
  · show Act.put _ (some 24) _ = _
    simp only [Act.put, List.setIfInBounds_toArray, List.set_cons_zero, List.set_cons_succ, i64_w, i32_w]
    rfl
  refine one_ (i := 3) (N := some 25) #[true, true, true, true, false] rfl rfl (by kernel_rfl) (by decide) (fun K hK => ?_)
  refine goes_ Try.func18 (by kernel_rfl) rfl #[.agg #[.int .i64 t16_1, .slice a16_ t16_2.length cc16_], .agg #[.int .i64 t24_1, .slice a24_ t24_2.length cc24_]] (by rfl) rfl rfl (by (try simp only [List.map_toArray, List.map_cons, List.map_nil]); first | done | rfl) ?_
  refine (laws_eqBits.calls (hr0_1 := (Kd.R_reads' (St.getR H 2 rfl)).2.2) (hc0_1 := kc16_.out) (hr1_1 := (Kd.R_reads' (St.getR H 0 rfl)).2.2) (hc1_1 := kc24_.out) (h := A25.out)).mono ?_
  rintro e wq10_2 ⟨rfl, hb_⟩
  refine ⟨_, rfl, ?_⟩
  replace H := St.call H hb_; clear hb_
  refine hK.out _ _ ⟨(blk_cell (St.getB H 1 rfl ⟨0, rfl⟩) 0).trans rfl, (blk_cell (St.getB H 1 rfl ⟨0, rfl⟩) 1).trans rfl, (blk_cell (St.getB H 3 rfl ⟨0, rfl⟩) 0).trans rfl, (blk_cell (St.getB H 3 rfl ⟨0, rfl⟩) 1).trans rfl⟩ (fun hHeld => ?_)
  clear hK K
  refine norm_ (a' := ?_) ?_ ?_
  rotate_left
  · show Act.put _ (some 25) _ = _
    simp only [Act.put, List.setIfInBounds_toArray, List.set_cons_zero, List.set_cons_succ, i64_w, i32_w]
    rfl
  refine pure_ (i := 4) (N := some 26) (v := ?_) (a' := ?_) #[true, true, true, true, true] rfl rfl (by kernel_rfl) (fun _ _ _ h => h) (Or.inl ⟨by rfl, ?_⟩) ?_ ?_
  rotate_left
  · intro w'
    go_simp
    with_reducible rfl
  rotate_left
  · simp only [Act.put, List.setIfInBounds_toArray, List.set_cons_zero, List.set_cons_succ, i64_w, i32_w]
    rfl
  refine done_ (by kernel_rfl) ?_
  clear hHeld
  replace H := St.drop H 0
  replace H := St.drop H 1
  (try dsimp only [put, cutAt] at H)
  go_wp2
  go_ret
  exact ⟨by first | rfl | (simp; done), (St.lift H).below⟩

end Go.Proofs.Ytfjknhmepgfhaaa.PFnExactWriteBits
