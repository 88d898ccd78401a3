-- Written by a program of this session (lawx3.sh, lawwalk3.py); Lean checks it.
import Derived.Test.YtjjlcmfjmdfedaaPFnExactReadTreex0
import Derived.Test.YtjjlcmfjmdfedaaPFnExactReadTreex1
import Derived.Test.YtjjlcmfjmdfedaaPFnExactReadTreex2
import Derived.Test.YtjjlcmfjmdfedaaPFnExactReadTreex3
import Derived.Test.YtjjlcmfjmdfedaaPFnExactReadTreex4
import Derived.Test.YtjjlcmfjmdfedaaPFnExactReadTreex5
import Derived.Test.YtjjlcmfjmdfedaaLaw
namespace Go.Proofs.Ytjjlcmfjmdfedaa.PFnExactReadTree
open Go.RowKit Go.Proofs.YtjjlcmfjmdfedaaW.PrintWords Go.Proofs.YtjjlcmfjmdfedaaW.PrintLast Go.Proofs.YtjjlcmfjmdfedaaW.PrintMore
attribute [local go_sem] max2_int min2_int max_two min_two max_three min_three max_four min_four   -- for this text's walks alone
set_option linter.unusedVariables false
set_option linter.unusedSimpArgs false

/-! ### laws_markNodeS: function 32 -/
def laws_markNodeS.l0 : Nat → List (S66) → Int → Int → Option (Int × (List (S66)))
  | 0, _, _, _ => none
  | k + 1, x0, x1, x5 => if x5 < (x0.length : Int) then (if 0 ≤ x5 then ((laws_markText.f k x1).bind fun t => (laws_markInt64S.f k (rd_T66 x0 x5).f1 (wrap64 (x1 + 1))).bind fun u => laws_markNodeS.l0 k (x0.set (x5 : Int).toNat (⟨t, u.2⟩ : S66)) u.1 (wrap64 (x5 + 1))) else none) else some (x1, x0)
def laws_markNodeS.f (k : Nat) (l0 : List (S66)) (a1 : Int) : Option (Int × (List (S66))) := laws_markNodeS.l0 k l0 a1 0
set_option maxHeartbeats 8000000 in
set_option maxRecDepth 100000 in
theorem laws_markNodeS.calls (k : Nat) (P0_ : Nat → Prop) (u9000_ : Value) (l0 : List (S66)) (a1 : Int) (r1 : Int) (r2 : List (S66)) (w0 w : World) (hB : Below w0.heap.size w0 w) (ho0 : Kd.S k66 66 w w0.heap.size P0_ u9000_ l0) (h : laws_markNodeS.f k l0 a1 = some (r1, r2)) :
    Calls Try.prog 32 #[u9000_, .int .i64 a1] w fun e w' => e = .returned (.int .i64 r1) ∧ Kd.S k66 66 w' w0.heap.size (fun k_ => (P0_ k_ ∨ w.heap.size ≤ k_)) u9000_ r2 ∧ Below w0.heap.size w0 w' ∧ Kept w w' (fun k_ => P0_ k_) := by
  have hu66 := Try.underlying66
  have HO0 := Aside0.mk (show Kd.S k66 66 w w0.heap.size (fun k_ => (P0_ k_ ∨ w.heap.size ≤ k_)) u9000_ l0 from Kd.S_mono ho0 (fun k_ hk => (.inl hk)))
  have HK := Aside0.mk (Kept.refl w (fun k_ => P0_ k_))
  have HW0 := Aside0.mk hB.size
  have HB := Aside0.mk hB
  clear hB
  have H : (laws_markNodeS.l0 k l0 a1 0) = some (r1, r2) := h
  clear h
  have H' := Aside0.mk H
  clear H
  go_enter Try.func32, Try.ntmps32
  go_wp2
  go_loopg [1, 5] k (fun kq v1 v5 w' => ∃ (x0_1 : List (S66)) (x1_1 : Int) (x5_1 : Int), v1 = .int .i64 x1_1 ∧ v5 = .int .i64 x5_1 ∧ Aside0 (laws_markNodeS.l0 kq x0_1 x1_1 x5_1 = some (r1, r2)) ∧ Aside0 (kq ≤ k) ∧ Aside0 (Kd.S k66 66 w' w0.heap.size (fun k_ => (P0_ k_ ∨ w.heap.size ≤ k_)) u9000_ x0_1) ∧ Aside0 (Kept w w' (fun k_ => P0_ k_)) ∧ Aside0 (Below w0.heap.size w0 w'))
  case atStart => exact ⟨l0, a1, 0, (by first | rfl | (simp; done)), (by first | rfl | (simp; done)), H', ⟨Nat.le_refl _⟩, ⟨by (with_reducible repeat (first | apply Kd.S_alloc | apply Kd.S_drewN | apply Kd.S_drew)); exact HO0.out⟩, ⟨by repeat (first | (with_reducible first | exact HK.out | apply Kept.alloc | apply Kept.drewN | apply Kept.drew) | exact HK.out)⟩, ⟨by repeat (first | (with_reducible first | exact HB.out | apply below_alloc | apply pw_below_drewN | apply below_drew1) | exact HB.out)⟩⟩
  case round =>
    clear H' HO0
    obtain ⟨x0_1, x1_1, x5_1, rfl, rfl, HA, HKk, HO_0, HKq, HBq⟩ := hrel
    cases gk with
    | zero => exact absurd HA.out (by simp [laws_markNodeS.l0])
    | succ k1 =>
      have H := HA.out
      clear HA
      simp only [laws_markNodeS.l0] at H
      by_cases c3 : x5_1 < (x0_1.length : Int)
      · rw [if_pos c3] at H
        by_cases c5 : 0 ≤ x5_1
        · rw [if_pos c5] at H
          obtain ⟨t0, A00, H⟩ := Option.bind_eq_some_iff.mp H
          obtain ⟨⟨t1, t2⟩, A40, H⟩ := Option.bind_eq_some_iff.mp H
          replace H : laws_markNodeS.l0 k1 (x0_1.set (x5_1 : Int).toNat (⟨t0, t2⟩ : S66)) t1 (wrap64 (x5_1 + 1)) = some (r1, r2) := H
          have A0 := Aside0.mk A00
          have A4 := Aside0.mk A40
          have H' := Aside0.mk H
          clear A00 A40 H
          obtain ⟨g, cap, rfl, hgb, hgl, cells, hgc⟩ := Kd.S_form HO_0.out (by omega)
          have c3b0 : decide (x5_1 < (x0_1.length : Int)) = true := decide_eq_true c3
          have C3 := Aside0.mk c3
          have C5 := Aside0.mk c5
          replace c3 := eq_true c3
          replace c5 := eq_true c5
          have HG := Aside0.mk hgb
          clear hgb hgl hgc
          go_wp2_with (first | ((with_reducible refine gate_callee (f := 52) rfl ?_); refine goesL_ (some 15) rfl rfl Try.func52 (by kernel_rfl) rfl #[.int .i64 x1_1] rfl (by (try simp only [List.map_toArray, List.map_cons, List.map_nil]); first | done | rfl) ?_; refine (laws_markText.calls k1 x1_1 t0 _ A0.out).mono ?_; rintro e w10 ⟨rfl, hbt⟩; refine ⟨_, rfl, ?_⟩; have HOt := Aside0.mk (Kd.S_below HO_0.out hbt); have HBt := Aside0.mk (below_step HBq.out hbt); have HKt := Aside0.mk (Kept.below HKq.out hbt); obtain ⟨oki, c, hcl, hM, hcc, hfr, hoki, hH⟩ := Kd.S_elem HOt.out z66 x5_1 C5.out C3.out; obtain ⟨v1, rfl, hR1⟩ := k66_openM hM; have hx0 : w10.cell? ⟨g, (x5_1 : Int).toNat * 2, none⟩ = some (.string (rd_T66 x0_1 x5_1).f0) := hcc 0 _ rfl; have hf0 : w10.frozen? ⟨g, (x5_1 : Int).toNat * 2, none⟩ = false := hfr 0; have HP := Kd.S_seg (okg := fun _ => False) (Kd.H_mono hH (fun k hk => ⟨hk, fun h => h⟩)) C5.out C3.out (seg := [.string t0]) (j := 0) (show 0 + 1 ≤ 2 from by decide) (x' := (⟨t0, (rd_T66 x0_1 x5_1).f1⟩ : S66)) (k66_mkM _ _ _ (⟨t0, (rd_T66 x0_1 x5_1).f1⟩ : S66) hR1) (fun _ hk => .inl hk) (fun _ hk => hk.elim); clear hcl hM hcc hfr hH hR1 hoki hbt) | ((with_reducible refine gate_store (t := 9) (p := 17) rfl ?_); refine store_event (t := 9) (p := 17) (v := ?vo_w11) (w1 := (w10.setCell ⟨g, (x5_1 : Int).toNat * 2, none⟩ (.string t0))) ?hg ?ho ?hn ?hr ?_; (case ho => rfl); (case hg => rfl); (case hn => rfl); (case hr => first | (go_simp; done) | (go_simp; rfl)); intro w11 hw; have hg : w10.grownBy w11 (some g) := (by rw [hw]; exact HP.2); have HO1 : Kd.S k66 66 w11 w0.heap.size (fun k_ => (P0_ k_ ∨ w.heap.size ≤ k_)) (.slice (some ⟨g, 0, none⟩) x0_1.length cap) (x0_1.set x5_1.toNat (⟨t0, (rd_T66 x0_1 x5_1).f1⟩ : S66)) := (by rw [hw]; exact HP.1); clear HP; have HB1 := Aside0.mk ((by rw [hw]; exact below_set (HBt.out) HG.out : Below w0.heap.size w0 w11)); have HK1 := Aside0.mk (Kept.of_grown (S := (fun k_ => P0_ k_)) hg HKt.out (fun k_ e_ => ((Kd.S_R HOt.out).1 k_ e_))); obtain ⟨oki2, c2, hcl2, hM2, hcc2, hoki2, hH2⟩ := Kd.S_lend HO1 z66 x5_1 C5.out C3.out; replace hM2 := (show ((x0_1.set x5_1.toNat (⟨t0, (rd_T66 x0_1 x5_1).f1⟩ : S66)).getD x5_1.toNat z66) = (⟨t0, (rd_T66 x0_1 x5_1).f1⟩ : S66) from (by rw [List.getD_eq_getElem?_getD, List.getElem?_set_self (by have h3_ := C3.out; have h5_ := C5.out; omega)]; rfl)) ▸ hM2; obtain ⟨v2, rfl, hR2⟩ := k66_openM hM2; have hx2 : w11.cell? ⟨g, (x5_1 : Int).toNat * 2 + 1, none⟩ = some v2 := hcc2 1 _ rfl; have HR2 := Aside0.mk hR2; have HH2 := Aside0.mk hH2; have HI2 := Aside0.mk hoki2; clear hR2 hH2 hoki2 hcl2 hM2 hcc2 HO1 hg hw hx0 hf0) | ((with_reducible refine gate_callee (f := 53) rfl ?_); refine goesL_ (some 26) rfl rfl Try.func53 (by kernel_rfl) rfl #[v2, .int .i64 (wrap64 (x1_1 + 1))] rfl (by (try simp only [List.map_toArray, List.map_cons, List.map_nil]); first | done | rfl | (simp only [List.length_drop, List.length_take]; rfl)) ?_; refine (laws_markInt64S.calls k1 oki2 v2 _ (wrap64 (x1_1 + 1)) t1 t2 w0 _ (by repeat (first | (with_reducible first | exact HB1.out | apply below_alloc | apply pw_below_drewN | apply below_drew1) | exact HB1.out)) (by (with_reducible repeat (first | apply Kd.R_alloc | apply Kd.R_drewN | apply Kd.R_drew)); exact HR2.out) A4.out).mono ?_; rintro e w12 ⟨rfl, hr', hb', hk'⟩; refine ⟨_, rfl, ?_⟩; have HS := Aside0.mk (Kd.H_back (Kd.H_step (Kd.H_widen HH2.out) (fun k _ hn hlt => hk'.2 k hlt (fun h => hn (.inl h)))) (k66_mkM _ _ _ (⟨t0, t2⟩ : S66) hr') (fun k hk => hk.elim .inl (fun h => .inr ⟨.inr (Nat.le_trans HK1.out.1 h), h⟩))); have HK2 := Aside0.mk (Kept.then_ HK1.out hk' (fun k hk => (HI2.out k hk).1)); have HB2 := Aside0.mk hb'; clear hr' hb' hk' HH2 HR2 HI2 hx2))
          go_roundg k1
          case measure => have := HKk.out; omega
          case rel => exact ⟨_, _, _, (by first | rfl | (simp; done)), (by first | rfl | (simp; done)), H', ⟨by have := HKk.out; omega⟩, ⟨by first | exact HS.out | (have := HS.out; rw [List.set_set] at this; exact this)⟩, ⟨HK2.out⟩, ⟨HB2.out⟩⟩
        · rw [if_neg c5] at H
          exact absurd H (by simp)
      · rw [if_neg c3] at H
        have c3b0 : decide (x5_1 < (x0_1.length : Int)) = false := decide_eq_false c3
        clear c3
        simp only [Option.some.injEq, Prod.mk.injEq] at H
        obtain ⟨rfl, rfl⟩ := H
        obtain ⟨Ao14, co14, eo14⟩ := Kd.S_slice HO_0.out
        subst eo14
        go_wp2
        go_ret
        exact ⟨by first | rfl | (simp; done), HO_0.out, HBq.out, HKq.out⟩


/-! ### laws_markTree: function 13 -/
def laws_markTree.f (k : Nat) (l0_0 : List (S66)) (a1 : Int) : Option (Int × (List (S66))) := (laws_markNodeS.f k l0_0 a1).bind fun bt => (some (bt.1, bt.2))
set_option maxHeartbeats 8000000 in
set_option maxRecDepth 100000 in
theorem laws_markTree.calls (k : Nat) (P0_0_ : Nat → Prop) (u9000_ : Value) (l0_0 : List (S66)) (a1 : Int) (r1 : Int) (r2 : List (S66)) (w0 w : World) (hB : Below w0.heap.size w0 w) (ho0_0 : Kd.S k66 66 w w0.heap.size P0_0_ u9000_ l0_0) (h : laws_markTree.f k l0_0 a1 = some (r1, r2)) :
    Calls Try.prog 13 #[.agg #[u9000_], .int .i64 a1] w fun e w' => e = .returned (.int .i64 r1) ∧ Kd.S k66 66 w' w0.heap.size (fun k_ => (P0_0_ k_ ∨ w.heap.size ≤ k_)) u9000_ r2 ∧ Below w0.heap.size w0 w' ∧ Kept w w' (fun k_ => P0_0_ k_) := by
  have hu29 := Try.underlying29
  have HO := Aside0.mk ho0_0
  have HB := Aside0.mk hB
  obtain ⟨⟨t1_, t2_⟩, h1_, h2_⟩ := Option.bind_eq_some_iff.mp h
  simp only [Option.some.injEq, Prod.mk.injEq] at h2_
  obtain ⟨rfl, rfl⟩ := h2_
  have A := Aside0.mk h1_
  clear h1_
  obtain ⟨Ao, co, rfl⟩ := Kd.S_slice ho0_0
  clear hB ho0_0 h
  go_enter Try.func13, Try.ntmps13
  go_wp2_with (first | ((with_reducible refine gate_dst (N := 2) rfl ?_); refine box_event ?hg (N := 2) ?hd (cs := #[.slice Ao l0_0.length co]) (t := 29) ?hr ?_; (case hd => rfl); (case hg => rfl); (case hr => first | (go_simp; done) | (go_simp; rfl)); intro gb hg w5 hbox hb; have BX := Aside0.mk hbox; have HB1 := Aside0.mk hb; have HG := Aside0.mk hg; have hcz : w5.cell? ⟨gb, 0, none⟩ = some (.slice Ao l0_0.length co) := (blk_cell hbox 0).trans rfl; have hfz := blk_frozen hbox 0; clear hbox hb hg) | ((with_reducible refine gate_dst (N := 8) rfl ?_); refine goesL_ (some 8) rfl rfl Try.func32 (by kernel_rfl) rfl #[.slice Ao l0_0.length co, .int .i64 a1] rfl (by (try simp only [List.map_toArray, List.map_cons, List.map_nil]); first | done | rfl) ?_; refine (laws_markNodeS.calls k P0_0_ (.slice Ao l0_0.length co) l0_0 a1 t1_ t2_ w0 _ (below_step HB.out (by repeat (first | exact HB1.out | apply pw_below_drewN))) (Kd.S_below HO.out (by repeat (first | exact HB1.out | apply pw_below_drewN))) A.out).mono ?_; rintro e w7 ⟨rfl, hs, hb2, hk⟩; refine ⟨_, rfl, ?_⟩; have HS := Aside0.mk (Kd.S_mono (ok' := fun k_ => P0_0_ k_ ∨ w.heap.size ≤ k_) hs (fun k_ hk_ => hk_.imp id (Nat.le_trans HB1.out.size))); have HB2 := Aside0.mk hb2; have HK := Aside0.mk (Kept.then_ (S := fun k_ => P0_0_ k_) (Kept.of_below HB1.out _) hk (fun k_ h_ => .inl h_)); clear hs hb2 hk hcz hfz))
  go_ret
  exact ⟨by first | rfl | (simp; done), HS.out, HB2.out, HK.out⟩

/-! ### laws_FnExactReadTree: function 4 -/
def laws_FnExactReadTree.f (k : Nat) (a0 : ByteArray) : Option (Bool) := if (a0.size : Int) > 1048576 then some true else (spec_ReadTree.f k a0).bind fun bt19 => (impl_ReadTree.f k a0).bind fun bt25 => (laws_eqTree.f k bt25.1 bt19.1).bind fun t31 => if t31 = true then (if bt25.2.1 = bt19.2.1 then (if bt25.2.2 = bt19.2.2 then ((laws_markTree.f k bt25.1 1).bind fun bt45 => (laws_heldTree.f k bt45.2 1).bind fun t48 => if t48 < 0 then none else if t48 = bt45.1 then ((impl_ReadTree.f k a0).bind fun bt56 => (laws_eqTree.f k bt56.1 bt19.1).bind fun t62 => if t62 = true then (if bt56.2.1 = bt19.2.1 then (if bt56.2.2 = bt19.2.2 then ((laws_heldTree.f k bt45.2 1).bind fun t76 => if t76 < 0 then none else if t76 = bt45.1 then (some true) else none) else none) else none) else none) else none) else none) else none) else none
set_option maxHeartbeats 8000000 in
set_option maxRecDepth 100000 in
theorem laws_FnExactReadTree.calls (k : Nat) (a0 : ByteArray) (r : Bool) (w : World)  (h : laws_FnExactReadTree.f k a0 = some r) :
    Calls Try.prog 4 #[.string a0] w fun e w' => e = .returned (.bool r) ∧ Below w.heap.size w w' := by
  have hu29 := Try.underlying29
  have H := St.nil w
  unfold laws_FnExactReadTree.f at h
  by_cases c1_ : (a0.size : Int) > 1048576
  · rw [if_pos c1_] at h
    obtain rfl := Option.some.inj h
    have c1b := decide_eq_true c1_
    have c1x : decide (1048576 < (a0.size : Int)) = true := decide_eq_true c1_
    clear c1_ h
    go_enter Try.func4, Try.ntmps4
    go_wp2
    go_ret
    exact ⟨by first | rfl | (simp; done), (St.lift H).below⟩
  rw [if_neg c1_] at h; have c1b := decide_eq_false c1_
  have c1x : decide (1048576 < (a0.size : Int)) = false := decide_eq_false c1_
  clear c1_
  obtain ⟨⟨t19_1, t19_2, t19_3⟩, A19_, h_⟩ := Option.bind_eq_some_iff.mp h; clear h; have h := h_; clear h_
  have A19 := Aside0.mk A19_; clear A19_
  try dsimp only at h
  obtain ⟨⟨t25_1, t25_2, t25_3⟩, A25_, h_⟩ := Option.bind_eq_some_iff.mp h; clear h; have h := h_; clear h_
  have A25 := Aside0.mk A25_; clear A25_
  try dsimp only at h
  obtain ⟨t31, A31_, h_⟩ := Option.bind_eq_some_iff.mp h; clear h; have h := h_; clear h_
  have A31 := Aside0.mk A31_; clear A31_
  try dsimp only at h
  obtain ⟨c2_, h_⟩ := iteP_ h; clear h; have h := h_; clear h_; subst c2_
  obtain ⟨c3_, h_⟩ := iteP_ h; clear h; have h := h_; clear h_; have c3b : (t25_2 != t19_2) = false := by simpa using c3_
  have c3d : decide (t25_2 = t19_2) = true := by simpa using c3_
  have c3e : (t25_2 == t19_2) = true := by simpa using c3_
  clear c3_
  obtain ⟨c4_, h_⟩ := iteP_ h; clear h; have h := h_; clear h_; have c4b : (t25_3 != t19_3) = false := by simpa using c4_
  have c4d : decide (t25_3 = t19_3) = true := by simpa using c4_
  have c4e : (t25_3 == t19_3) = true := by simpa using c4_
  clear c4_
  obtain ⟨⟨t45_1, t45_2⟩, A45_, h_⟩ := Option.bind_eq_some_iff.mp h; clear h; have h := h_; clear h_
  have A45 := Aside0.mk A45_; clear A45_
  try dsimp only at h
  obtain ⟨t48, A48_, h_⟩ := Option.bind_eq_some_iff.mp h; clear h; have h := h_; clear h_
  have A48 := Aside0.mk A48_; clear A48_
  try dsimp only at h
  obtain ⟨c5_, h_⟩ := iteN_ h; clear h; have h := h_; clear h_; have c5b := decide_eq_false c5_; clear c5_
  obtain ⟨c6_, h_⟩ := iteP_ h; clear h; have h := h_; clear h_; have c6b : (t48 != t45_1) = false := by simpa using c6_
  have c6d : decide (t48 = t45_1) = true := by simpa using c6_
  have c6e : (t48 == t45_1) = true := by simpa using c6_
  clear c6_
  obtain ⟨⟨t56_1, t56_2, t56_3⟩, A56_, h_⟩ := Option.bind_eq_some_iff.mp h; clear h; have h := h_; clear h_
  have A56 := Aside0.mk A56_; clear A56_
  try dsimp only at h
  obtain ⟨t62, A62_, h_⟩ := Option.bind_eq_some_iff.mp h; clear h; have h := h_; clear h_
  have A62 := Aside0.mk A62_; clear A62_
  try dsimp only at h
  obtain ⟨c7_, h_⟩ := iteP_ h; clear h; have h := h_; clear h_; subst c7_
  obtain ⟨c8_, h_⟩ := iteP_ h; clear h; have h := h_; clear h_; have c8b : (t56_2 != t19_2) = false := by simpa using c8_
  have c8d : decide (t56_2 = t19_2) = true := by simpa using c8_
  have c8e : (t56_2 == t19_2) = true := by simpa using c8_
  clear c8_
  obtain ⟨c9_, h_⟩ := iteP_ h; clear h; have h := h_; clear h_; have c9b : (t56_3 != t19_3) = false := by simpa using c9_
  have c9d : decide (t56_3 = t19_3) = true := by simpa using c9_
  have c9e : (t56_3 == t19_3) = true := by simpa using c9_
  clear c9_
  obtain ⟨t76, A76_, h_⟩ := Option.bind_eq_some_iff.mp h; clear h; have h := h_; clear h_
  have A76 := Aside0.mk A76_; clear A76_
  try dsimp only at h
  obtain ⟨c10_, h_⟩ := iteN_ h; clear h; have h := h_; clear h_; have c10b := decide_eq_false c10_; clear c10_
  obtain ⟨c11_, h_⟩ := iteP_ h; clear h; have h := h_; clear h_; have c11b : (t76 != t45_1) = false := by simpa using c11_
  have c11d : decide (t76 = t45_1) = true := by simpa using c11_
  have c11e : (t76 == t45_1) = true := by simpa using c11_
  clear c11_
  obtain rfl := Option.some.inj h; clear h
  go_enter Try.func4, Try.ntmps4
  go_wp2_with (first | ((with_reducible refine gate_dst (N := 19) rfl ?_); go_loud (refine goesL_ (some 19) rfl rfl Try.func11 (by kernel_rfl) rfl #[.string a0] rfl (by (try simp only [List.map_toArray, List.map_cons, List.map_nil]); first | done | rfl) ?_; refine (spec_ReadTree.calls (w := _) (h := A19.out)).mono ?_; rintro e w19 ⟨v0x19, rfl, ho_, hb_⟩; refine ⟨_, rfl, ?_⟩; obtain ⟨ok19_, a19_, cc19_, rfl, kc19_, H_⟩ := St.callS H hb_ ho_; clear H hb_ ho_; have H := H_; clear H_)) | ((with_reducible refine gate_dst (N := 3) rfl ?_); go_loud (refine box_event ?hg (N := 3) ?hd (cs := #[.slice none 0 0]) (t := 29) ?hr ?_; (case hd => rfl); (case hg => rfl); (case hr => first | (go_simp; done) | (go_simp; rfl)); intro g3_ hg_ w3 hbox_ hb_; replace H := St.box H hg_ hbox_ hb_; clear hg_ hbox_ hb_; have hczb3_0 : w3.cell? ⟨g3_, 0, none⟩ = some (.slice none 0 0) := (blk_cell (St.getB H 0 rfl ⟨0, rfl⟩) 0).trans rfl; have hfzb3_0 : w3.frozen? ⟨g3_, 0, none⟩ = false := blk_frozen (St.getB H 0 rfl ⟨0, rfl⟩) 0)) | ((with_reducible refine gate_dst (N := 25) rfl ?_); go_loud (clear hczb3_0 hfzb3_0; refine St.abs ?_; intro w25p_ hwp_; have hlo_ := St.lowB H 0 rfl; have hkp_ : KeepBut w3 w25p_ g3_ none := (by rw [hwp_]; repeat (first | exact KeepBut.refl _ _ _ | apply keep_drewN | apply KeepBut.set_)); have hbx_ : w25p_.heap[g3_]? = some (.cells #[.slice a19_ t19_1.length cc19_] 29 (0, 0)) := (by rw [hwp_]; (with_reducible repeat refine blk_drewN ?_ _); refine blk_put (cs := #[.slice none 0 0]) ?_ 0 _ rfl; (with_reducible repeat refine blk_drewN ?_ _); exact St.getB H 0 rfl ⟨0, rfl⟩); have hbl_ : Below w.heap.size w w25p_ := (by rw [hwp_]; repeat (first | exact H.out.below | apply pw_below_drewN | refine below_set ?_ hlo_)); replace H := St.store H 0 rfl hkp_ hbx_ hbl_; (try dsimp only [put, cutAt] at H); clear hkp_ hbx_ hbl_ hlo_ hwp_; refine goesL_ (some 25) rfl rfl Try.func12 (by kernel_rfl) rfl #[.string a0] rfl (by (try simp only [List.map_toArray, List.map_cons, List.map_nil]); first | done | rfl) ?_; refine (impl_ReadTree.calls (w := _) (h := A25.out)).mono ?_; rintro e w25 ⟨v0x25, rfl, ho_, hb_⟩; refine ⟨_, rfl, ?_⟩; obtain ⟨ok25_, a25_, cc25_, rfl, kc25_, H_⟩ := St.callS H hb_ ho_; clear H hb_ ho_; have H := H_; clear H_)) | ((with_reducible refine gate_dst (N := 6) rfl ?_); go_loud (refine box_event ?hg (N := 6) ?hd (cs := #[.slice none 0 0]) (t := 29) ?hr ?_; (case hd => rfl); (case hg => rfl); (case hr => first | (go_simp; done) | (go_simp; rfl)); intro g6_ hg_ w6 hbox_ hb_; replace H := St.box H hg_ hbox_ hb_; clear hg_ hbox_ hb_; have hczb6_0 : w6.cell? ⟨g6_, 0, none⟩ = some (.slice none 0 0) := (blk_cell (St.getB H 0 rfl ⟨0, rfl⟩) 0).trans rfl; have hfzb6_0 : w6.frozen? ⟨g6_, 0, none⟩ = false := blk_frozen (St.getB H 0 rfl ⟨0, rfl⟩) 0; have hczb3_0 : w6.cell? ⟨g3_, 0, none⟩ = some (.slice a19_ t19_1.length cc19_) := (blk_cell (St.getB H 2 rfl ⟨0, rfl⟩) 0).trans rfl; have hfzb3_0 : w6.frozen? ⟨g3_, 0, none⟩ = false := blk_frozen (St.getB H 2 rfl ⟨0, rfl⟩) 0; obtain ⟨hneb3_b6, hneb3_b6x⟩ := St.neB H 0 2 rfl rfl (by decide))) | ((with_reducible refine gate_dst (N := 31) rfl ?_); go_loud (clear hczb6_0 hfzb6_0 hczb3_0 hfzb3_0 hneb3_b6 hneb3_b6x; refine St.abs ?_; intro w31p_ hwp_; have hlo_ := St.lowB H 0 rfl; have hkp_ : KeepBut w6 w31p_ g6_ none := (by rw [hwp_]; repeat (first | exact KeepBut.refl _ _ _ | apply keep_drewN | apply KeepBut.set_)); have hbx_ : w31p_.heap[g6_]? = some (.cells #[.slice a25_ t25_1.length cc25_] 29 (0, 0)) := (by rw [hwp_]; (with_reducible repeat refine blk_drewN ?_ _); refine blk_put (cs := #[.slice none 0 0]) ?_ 0 _ rfl; (with_reducible repeat refine blk_drewN ?_ _); exact St.getB H 0 rfl ⟨0, rfl⟩); have hbl_ : Below w.heap.size w w31p_ := (by rw [hwp_]; repeat (first | exact H.out.below | apply pw_below_drewN | refine below_set ?_ hlo_)); replace H := St.store H 0 rfl hkp_ hbx_ hbl_; (try dsimp only [put, cutAt] at H); clear hkp_ hbx_ hbl_ hlo_ hwp_; refine goesL_ (some 31) rfl rfl Try.func10 (by kernel_rfl) rfl #[.agg #[.slice a25_ t25_1.length cc25_], .agg #[.slice a19_ t19_1.length cc19_]] rfl (by (try simp only [List.map_toArray, List.map_cons, List.map_nil]); first | done | rfl) ?_; refine (laws_eqTree.calls (hr0_0 := (Kd.S_reads' (St.getS H 1 rfl)).2.2) (hc0_0 := kc25_.out) (hr1_0 := (Kd.S_reads' (St.getS H 3 rfl)).2.2) (hc1_0 := kc19_.out) (h := A31.out)).mono ?_; rintro e w31 ⟨rfl, hb_⟩; refine ⟨_, rfl, ?_⟩; replace H := St.call H hb_; clear hb_; have hczb6_0 : w31.cell? ⟨g6_, 0, none⟩ = some (.slice a25_ t25_1.length cc25_) := (blk_cell (St.getB H 0 rfl ⟨0, rfl⟩) 0).trans rfl; have hfzb6_0 : w31.frozen? ⟨g6_, 0, none⟩ = false := blk_frozen (St.getB H 0 rfl ⟨0, rfl⟩) 0)) | ((with_reducible refine gate_dst (N := 45) rfl ?_); go_loud (clear hczb6_0 hfzb6_0; refine goesL_ (some 45) rfl rfl Try.func13 (by kernel_rfl) rfl #[.agg #[.slice a25_ t25_1.length cc25_], .int .i64 1] rfl (by (try simp only [List.map_toArray, List.map_cons, List.map_nil]); first | done | rfl) ?_; refine (laws_markTree.calls (P0_0_ := ok25_) (u9000_ := .slice a25_ t25_1.length cc25_) (ho0_0 := St.getS H 1 rfl) (hB := (St.lift H).below) (h := A45.out)).mono ?_; rintro e w45 ⟨rfl, hs_, hb_, hk_⟩; refine ⟨_, rfl, ?_⟩; replace H := St.markS H 1 rfl hs_ hb_ hk_; (try dsimp only [put, cutAt] at H); have e_ := (Kd.S_reads' hs_).1; have kc25_m := Aside0.mk (Kd.S_reads' hs_).2.1; rw [e_] at H kc25_m; obtain ⟨ok25_m, H_⟩ : ∃ ok_, Aside0 (St w w45 [Ob.B g6_ (.cells #[.slice a25_ t45_2.length cc25_] 29 (0, 0)), Ob.S w k66 66 ok_ (.slice a25_ t45_2.length cc25_) t45_2, Ob.B g3_ (.cells #[.slice a19_ t19_1.length cc19_] 29 (0, 0)), Ob.S w k66 66 ok19_ (.slice a19_ t19_1.length cc19_) t19_1]) := ⟨_, H⟩; clear H; have H := H_; clear H_; clear hs_ hb_ hk_; (rw [e_]); clear e_; have hczb6_0 : w45.cell? ⟨g6_, 0, none⟩ = some (.slice a25_ t45_2.length cc25_) := (blk_cell (St.getB H 0 rfl ⟨0, rfl⟩) 0).trans rfl; have hfzb6_0 : w45.frozen? ⟨g6_, 0, none⟩ = false := blk_frozen (St.getB H 0 rfl ⟨0, rfl⟩) 0)) | ((with_reducible refine gate_dst (N := 48) rfl ?_); go_loud (clear hczb6_0 hfzb6_0; refine goesL_ (some 48) rfl rfl Try.func14 (by kernel_rfl) rfl #[.agg #[.slice a25_ t45_2.length cc25_], .int .i64 1] rfl (by (try simp only [List.map_toArray, List.map_cons, List.map_nil]); first | done | rfl) ?_; refine (laws_heldTree.calls (hr0_0 := (Kd.S_reads' (St.getS H 1 rfl)).2.2) (hc0_0 := kc25_m.out) (h := A48.out)).mono ?_; rintro e w48 ⟨rfl, hb_⟩; refine ⟨_, rfl, ?_⟩; replace H := St.call H hb_; clear hb_)) | ((with_reducible refine gate_dst (N := 56) rfl ?_); go_loud (refine goesL_ (some 56) rfl rfl Try.func12 (by kernel_rfl) rfl #[.string a0] rfl (by (try simp only [List.map_toArray, List.map_cons, List.map_nil]); first | done | rfl) ?_; refine (impl_ReadTree.calls (w := _) (h := A56.out)).mono ?_; rintro e w56 ⟨v0x56, rfl, ho_, hb_⟩; refine ⟨_, rfl, ?_⟩; obtain ⟨ok56_, a56_, cc56_, rfl, kc56_, H_⟩ := St.callS H hb_ ho_; clear H hb_ ho_; have H := H_; clear H_)) | ((with_reducible refine gate_dst (N := 11) rfl ?_); go_loud (refine box_event ?hg (N := 11) ?hd (cs := #[.slice none 0 0]) (t := 29) ?hr ?_; (case hd => rfl); (case hg => rfl); (case hr => first | (go_simp; done) | (go_simp; rfl)); intro g11_ hg_ w11 hbox_ hb_; replace H := St.box H hg_ hbox_ hb_; clear hg_ hbox_ hb_; have hczb11_0 : w11.cell? ⟨g11_, 0, none⟩ = some (.slice none 0 0) := (blk_cell (St.getB H 0 rfl ⟨0, rfl⟩) 0).trans rfl; have hfzb11_0 : w11.frozen? ⟨g11_, 0, none⟩ = false := blk_frozen (St.getB H 0 rfl ⟨0, rfl⟩) 0; have hczb3_0 : w11.cell? ⟨g3_, 0, none⟩ = some (.slice a19_ t19_1.length cc19_) := (blk_cell (St.getB H 4 rfl ⟨0, rfl⟩) 0).trans rfl; have hfzb3_0 : w11.frozen? ⟨g3_, 0, none⟩ = false := blk_frozen (St.getB H 4 rfl ⟨0, rfl⟩) 0; obtain ⟨hneb11_b3, hneb11_b3x⟩ := St.neB H 0 4 rfl rfl (by decide))) | ((with_reducible refine gate_dst (N := 62) rfl ?_); go_loud (clear hczb11_0 hfzb11_0 hczb3_0 hfzb3_0 hneb11_b3 hneb11_b3x; refine St.abs ?_; intro w62p_ hwp_; have hlo_ := St.lowB H 0 rfl; have hkp_ : KeepBut w11 w62p_ g11_ none := (by rw [hwp_]; repeat (first | exact KeepBut.refl _ _ _ | apply keep_drewN | apply KeepBut.set_)); have hbx_ : w62p_.heap[g11_]? = some (.cells #[.slice a56_ t56_1.length cc56_] 29 (0, 0)) := (by rw [hwp_]; (with_reducible repeat refine blk_drewN ?_ _); refine blk_put (cs := #[.slice none 0 0]) ?_ 0 _ rfl; (with_reducible repeat refine blk_drewN ?_ _); exact St.getB H 0 rfl ⟨0, rfl⟩); have hbl_ : Below w.heap.size w w62p_ := (by rw [hwp_]; repeat (first | exact H.out.below | apply pw_below_drewN | refine below_set ?_ hlo_)); replace H := St.store H 0 rfl hkp_ hbx_ hbl_; (try dsimp only [put, cutAt] at H); clear hkp_ hbx_ hbl_ hlo_ hwp_; refine goesL_ (some 62) rfl rfl Try.func10 (by kernel_rfl) rfl #[.agg #[.slice a56_ t56_1.length cc56_], .agg #[.slice a19_ t19_1.length cc19_]] rfl (by (try simp only [List.map_toArray, List.map_cons, List.map_nil]); first | done | rfl) ?_; refine (laws_eqTree.calls (hr0_0 := (Kd.S_reads' (St.getS H 1 rfl)).2.2) (hc0_0 := kc56_.out) (hr1_0 := (Kd.S_reads' (St.getS H 5 rfl)).2.2) (hc1_0 := kc19_.out) (h := A62.out)).mono ?_; rintro e w62 ⟨rfl, hb_⟩; refine ⟨_, rfl, ?_⟩; replace H := St.call H hb_; clear hb_; replace H := St.drop H 0; replace H := St.drop H 0; replace H := St.drop H 2; replace H := St.drop H 2; (try dsimp only [put, cutAt] at H); have hczb6_0 : w62.cell? ⟨g6_, 0, none⟩ = some (.slice a25_ t45_2.length cc25_) := (blk_cell (St.getB H 0 rfl ⟨0, rfl⟩) 0).trans rfl; have hfzb6_0 : w62.frozen? ⟨g6_, 0, none⟩ = false := blk_frozen (St.getB H 0 rfl ⟨0, rfl⟩) 0)) | ((with_reducible refine gate_dst (N := 76) rfl ?_); go_loud (clear hczb6_0 hfzb6_0; refine goesL_ (some 76) rfl rfl Try.func14 (by kernel_rfl) rfl #[.agg #[.slice a25_ t45_2.length cc25_], .int .i64 1] rfl (by (try simp only [List.map_toArray, List.map_cons, List.map_nil]); first | done | rfl) ?_; refine (laws_heldTree.calls (hr0_0 := (Kd.S_reads' (St.getS H 1 rfl)).2.2) (hc0_0 := kc25_m.out) (h := A76.out)).mono ?_; rintro e w76 ⟨rfl, hb_⟩; refine ⟨_, rfl, ?_⟩; replace H := St.call H hb_; clear hb_; replace H := St.drop H 0; replace H := St.drop H 0; (try dsimp only [put, cutAt] at H))))
  go_ret
  exact ⟨by first | rfl | (simp; done), (St.lift H).below⟩

end Go.Proofs.Ytjjlcmfjmdfedaa.PFnExactReadTree
