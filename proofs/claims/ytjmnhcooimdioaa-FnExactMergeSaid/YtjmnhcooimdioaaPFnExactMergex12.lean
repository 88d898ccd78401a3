-- Written by a program of this session (lawx3.sh, lawwalk3.py); Lean checks it.
import Derived.Test.YtjmnhcooimdioaaPFnExactMergex0
import Derived.Test.YtjmnhcooimdioaaPFnExactMergex1
import Derived.Test.YtjmnhcooimdioaaPFnExactMergex2
import Derived.Test.YtjmnhcooimdioaaPFnExactMergex3
import Derived.Test.YtjmnhcooimdioaaPFnExactMergex4
import Derived.Test.YtjmnhcooimdioaaPFnExactMergex5
import Derived.Test.YtjmnhcooimdioaaPFnExactMergex6
import Derived.Test.YtjmnhcooimdioaaPFnExactMergex7
import Derived.Test.YtjmnhcooimdioaaPFnExactMergex8
import Derived.Test.YtjmnhcooimdioaaPFnExactMergex9
import Derived.Test.YtjmnhcooimdioaaPFnExactMergex10
import Derived.Test.YtjmnhcooimdioaaPFnExactMergex11
import Derived.Test.YtjmnhcooimdioaaLaw
namespace Go.Proofs.Ytjmnhcooimdioaa.PFnExactMerge
open Go.RowKit Go.Proofs.YtjmnhcooimdioaaW.PrintWords Go.Proofs.YtjmnhcooimdioaaW.PrintLast Go.Proofs.YtjmnhcooimdioaaW.PrintMore
attribute [local go_sem] max2_int min2_int max_two min_two max_three min_three max_four min_four   -- for this text's walks alone
set_option linter.unusedVariables false
set_option linter.unusedSimpArgs false

/-! ### laws_markBitsS: function 41 -/
def laws_markBitsS.l0 : Nat → List (S149) → Int → Int → Option (Int × (List (S149)))
  | 0, _, _, _ => none
  | k + 1, x0, x1, x5 => if x5 < (x0.length : Int) then (if 0 ≤ x5 then ((laws_markUint64S.f k (rd_T149 x0 x5).f1 (wrap64 (x1 + 1))).bind fun t => laws_markBitsS.l0 k (x0.set (x5 : Int).toNat (⟨x1, t.2⟩ : S149)) t.1 (wrap64 (x5 + 1))) else none) else some (x1, x0)
def laws_markBitsS.f (k : Nat) (l0 : List (S149)) (a1 : Int) : Option (Int × (List (S149))) := laws_markBitsS.l0 k l0 a1 0
set_option maxHeartbeats 8000000 in
set_option maxRecDepth 100000 in
theorem laws_markBitsS.calls (k : Nat) (P0_ : Nat → Prop) (u9000_ : Value) (l0 : List (S149)) (a1 : Int) (r1 : Int) (r2 : List (S149)) (w0 w : World) (hB : Below w0.heap.size w0 w) (ho0 : Kd.S k149 149 w w0.heap.size P0_ u9000_ l0) (h : laws_markBitsS.f k l0 a1 = some (r1, r2)) :
    Calls Try.prog 41 #[u9000_, .int .i64 a1] w fun e w' => e = .returned (.int .i64 r1) ∧ Kd.S k149 149 w' w0.heap.size (fun k_ => (P0_ k_ ∨ w.heap.size ≤ k_)) u9000_ r2 ∧ Below w0.heap.size w0 w' ∧ Kept w w' (fun k_ => P0_ k_) := by
  have hu149 := Try.underlying149
  have HO0 := Aside0.mk (show Kd.S k149 149 w w0.heap.size (fun k_ => (P0_ k_ ∨ w.heap.size ≤ k_)) u9000_ l0 from Kd.S_mono ho0 (fun k_ hk => (.inl hk)))
  have HK := Aside0.mk (Kept.refl w (fun k_ => P0_ k_))
  have HW0 := Aside0.mk hB.size
  have HB := Aside0.mk hB
  clear hB
  have H : (laws_markBitsS.l0 k l0 a1 0) = some (r1, r2) := h
  clear h
  have H' := Aside0.mk H
  clear H
  go_enter Try.func41, Try.ntmps41
  go_wp2
  go_loopg [1, 5] k (fun kq v1 v5 w' => ∃ (x0_1 : List (S149)) (x1_1 : Int) (x5_1 : Int), v1 = .int .i64 x1_1 ∧ v5 = .int .i64 x5_1 ∧ Aside0 (laws_markBitsS.l0 kq x0_1 x1_1 x5_1 = some (r1, r2)) ∧ Aside0 (kq ≤ k) ∧ Aside0 (Kd.S k149 149 w' w0.heap.size (fun k_ => (P0_ k_ ∨ w.heap.size ≤ k_)) u9000_ x0_1) ∧ Aside0 (Kept w w' (fun k_ => P0_ k_)) ∧ Aside0 (Below w0.heap.size w0 w'))
  case atStart => exact ⟨l0, a1, 0, (by first | rfl | (simp; done)), (by first | rfl | (simp; done)), H', ⟨Nat.le_refl _⟩, ⟨by (with_reducible repeat (first | apply Kd.S_alloc | apply Kd.S_drewN | apply Kd.S_drew)); exact HO0.out⟩, ⟨by repeat (first | (with_reducible first | exact HK.out | apply Kept.alloc | apply Kept.drewN | apply Kept.drew) | exact HK.out)⟩, ⟨by repeat (first | (with_reducible first | exact HB.out | apply below_alloc | apply pw_below_drewN | apply below_drew1) | exact HB.out)⟩⟩
  case round =>
    clear H' HO0
    obtain ⟨x0_1, x1_1, x5_1, rfl, rfl, HA, HKk, HO_0, HKq, HBq⟩ := hrel
    cases gk with
    | zero => exact absurd HA.out (by simp [laws_markBitsS.l0])
    | succ k1 =>
      have H := HA.out
      clear HA
      simp only [laws_markBitsS.l0] at H
      by_cases c3 : x5_1 < (x0_1.length : Int)
      · rw [if_pos c3] at H
        by_cases c5 : 0 ≤ x5_1
        · rw [if_pos c5] at H
          obtain ⟨⟨t1, t2⟩, A40, H⟩ := Option.bind_eq_some_iff.mp H
          replace H : laws_markBitsS.l0 k1 (x0_1.set (x5_1 : Int).toNat (⟨x1_1, t2⟩ : S149)) t1 (wrap64 (x5_1 + 1)) = some (r1, r2) := H
          have A4 := Aside0.mk A40
          have H' := Aside0.mk H
          clear A40 H
          obtain ⟨g, cap, rfl, hgb, hgl, cells, hgc⟩ := Kd.S_form HO_0.out (by omega)
          have GC := Aside0.mk hgc
          obtain ⟨oki, c, hcl, hM, hcc, hfr, hoki, hH⟩ := Kd.S_elem HO_0.out ⟨0, []⟩ x5_1 c5 c3
          obtain ⟨v1, rfl, hR1⟩ := k149_openM hM
          have hx0 : wr.cell? ⟨g, (x5_1 : Int).toNat * 2, none⟩ = some (.int .i64 (rd_T149 x0_1 x5_1).f0) := hcc 0 _ rfl
          have hx1 : wr.cell? ⟨g, (x5_1 : Int).toNat * 2 + 1, none⟩ = some v1 := hcc 1 _ rfl
          have hf0 : wr.frozen? ⟨g, (x5_1 : Int).toNat * 2, none⟩ = false := hfr 0
          have hf1 : wr.frozen? ⟨g, (x5_1 : Int).toNat * 2 + 1, none⟩ = false := hfr 1
          have HP := Kd.S_seg (okg := fun _ => False) (Kd.H_mono hH (fun k hk => ⟨hk, fun h => h⟩)) c5 c3 (seg := [.int .i64 x1_1]) (j := 0) (show 0 + 1 ≤ 2 from by decide) (x' := (⟨x1_1, (rd_T149 x0_1 x5_1).f1⟩ : S149)) (k149_mkM _ _ _ (⟨x1_1, (rd_T149 x0_1 x5_1).f1⟩ : S149) hR1) (fun _ hk => .inl hk) (fun _ hk => hk.elim)
          have c3b0 : decide (x5_1 < (x0_1.length : Int)) = true := decide_eq_true c3
          have C3 := Aside0.mk c3
          have C5 := Aside0.mk c5
          replace c3 := eq_true c3
          replace c5 := eq_true c5
          clear hcl hM hcc hfr hH hR1 hoki hx1 hf1
          have HG := Aside0.mk hgb
          clear hgb hgc
          go_wp2_with (first | ((with_reducible refine gate_store (t := 2) (p := 16) rfl ?_); refine store_event (t := 2) (p := 16) (v := ?vo_w11) (w1 := (wr.setCell ⟨g, (x5_1 : Int).toNat * 2, none⟩ (.int .i64 x1_1))) ?hg ?ho ?hn ?hr ?_; (case ho => rfl); (case hg => rfl); (case hn => rfl); (case hr => first | (go_simp; done) | (go_simp; rfl)); intro w11 hw; have hg : wr.grownBy w11 (some g) := (by rw [hw]; exact HP.2); have HO1 : Kd.S k149 149 w11 w0.heap.size (fun k_ => (P0_ k_ ∨ w.heap.size ≤ k_)) (.slice (some ⟨g, 0, none⟩) x0_1.length cap) (x0_1.set x5_1.toNat (⟨x1_1, (rd_T149 x0_1 x5_1).f1⟩ : S149)) := (by rw [hw]; exact HP.1); clear HP; have HB1 := Aside0.mk ((by rw [hw]; exact below_set (HBq.out) HG.out : Below w0.heap.size w0 w11)); have HK1 := Aside0.mk (Kept.of_grown (S := (fun k_ => P0_ k_)) hg HKq.out (fun k_ e_ => ((Kd.S_R HO_0.out).1 k_ e_))); obtain ⟨oki2, c2, hcl2, hM2, hcc2, hoki2, hH2⟩ := Kd.S_lend HO1 ⟨0, []⟩ x5_1 C5.out C3.out; replace hM2 := (show ((x0_1.set x5_1.toNat (⟨x1_1, (rd_T149 x0_1 x5_1).f1⟩ : S149)).getD x5_1.toNat ⟨0, []⟩) = (⟨x1_1, (rd_T149 x0_1 x5_1).f1⟩ : S149) from (by rw [List.getD_eq_getElem?_getD, List.getElem?_set_self (by have h3_ := C3.out; have h5_ := C5.out; omega)]; rfl)) ▸ hM2; obtain ⟨v2, rfl, hR2⟩ := k149_openM hM2; have hx2 : w11.cell? ⟨g, (x5_1 : Int).toNat * 2 + 1, none⟩ = some v2 := hcc2 1 _ rfl; have HR2 := Aside0.mk hR2; have HH2 := Aside0.mk hH2; have HI2 := Aside0.mk hoki2; clear hR2 hH2 hoki2 hcl2 hM2 hcc2 HO1 hg hw hx0 hf0) | ((with_reducible refine gate_callee (f := 115) rfl ?_); refine goesL_ (some 25) rfl rfl Try.func115 (by kernel_rfl) rfl #[v2, .int .i64 (wrap64 (x1_1 + 1))] rfl (by (try simp only [List.map_toArray, List.map_cons, List.map_nil]); first | done | rfl | (simp only [List.length_drop, List.length_take]; rfl)) ?_; refine (laws_markUint64S.calls k1 oki2 v2 _ (wrap64 (x1_1 + 1)) t1 t2 w0 _ (by repeat (first | (with_reducible first | exact HB1.out | apply below_alloc | apply pw_below_drewN | apply below_drew1) | exact HB1.out)) (by (with_reducible repeat (first | apply Kd.R_alloc | apply Kd.R_drewN | apply Kd.R_drew)); exact HR2.out) A4.out).mono ?_; rintro e w12 ⟨rfl, hr', hb', hk'⟩; refine ⟨_, rfl, ?_⟩; have HS := Aside0.mk (Kd.H_back (Kd.H_step (Kd.H_widen HH2.out) (fun k _ hn hlt => hk'.2 k hlt (fun h => hn (.inl h)))) (k149_mkM _ _ _ (⟨x1_1, t2⟩ : S149) hr') (fun k hk => hk.elim .inl (fun h => .inr ⟨.inr (Nat.le_trans HK1.out.1 h), h⟩))); have HK2 := Aside0.mk (Kept.then_ HK1.out hk' (fun k hk => (HI2.out k hk).1)); have HB2 := Aside0.mk hb'; clear hr' hb' hk' HH2 HR2 HI2 hx2))
          go_roundg k1
          case measure => have := HKk.out; omega
          case rel => exact ⟨_, _, _, (by first | rfl | (simp; done)), (by first | rfl | (simp; done)), H', ⟨by have := HKk.out; omega⟩, ⟨by first | exact HS.out | (have := HS.out; rw [List.set_set] at this; exact this)⟩, ⟨HK2.out⟩, ⟨HB2.out⟩⟩
        · rw [if_neg c5] at H
          exact absurd H (by simp)
      · rw [if_neg c3] at H
        have c3b0 : decide (x5_1 < (x0_1.length : Int)) = false := decide_eq_false c3
        clear c3
        simp only [Option.some.injEq, Prod.mk.injEq] at H
        obtain ⟨rfl, rfl⟩ := H
        obtain ⟨Ao14, co14, eo14⟩ := Kd.S_slice HO_0.out
        subst eo14
        go_wp2
        go_ret
        exact ⟨by first | rfl | (simp; done), HO_0.out, HBq.out, HKq.out⟩


/-! ### laws_FnExactMerge: function 12 -/
def laws_FnExactMerge.f (k : Nat) (l0 : List (S142)) (l1 : List (S160)) (l2 : List (S160)) (l3 : List Int) : Option (Bool) := if (l3.length : Int) > 1048576 then some true else (laws_szDeclS.f k l0 1048576).bind fun t28 => if t28 < 0 then some true else (laws_szBitsS.f k l1 t28).bind fun t33 => if t33 < 0 then some true else (laws_szBitsS.f k l2 t33).bind fun t38 => if t38 < 0 then some true else (laws_toDeclS.f k l0).bind fun t43 => (laws_toBitsS.f k l1).bind fun t45 => (laws_toBitsS.f k l2).bind fun t47 => (laws_toInt64S.f k l3).bind fun t49 => (spec_Merge.f k t43 t45 t47 t49).bind fun bt50 => (laws_toDeclS.f k l0).bind fun t54 => (laws_toBitsS.f k l1).bind fun t56 => (laws_toBitsS.f k l2).bind fun t58 => (laws_toInt64S.f k l3).bind fun t60 => (impl_Merge.f k t54 t56 t58 t60).bind fun bt66 => (laws_eqBitsS.f k bt66.1 bt50.1).bind fun t71 => if t71 = true then (if (bt66.2 != bt50.2) = true then none else (laws_toDeclS.f k l0).bind fun t80 => (laws_eqDeclS.f k t54 t80).bind fun t81 => if t81 = true then ((laws_toBitsS.f k l1).bind fun t85 => (laws_eqBitsS.f k t56 t85).bind fun t86 => if t86 = true then ((laws_toBitsS.f k l2).bind fun t90 => (laws_eqBitsS.f k t58 t90).bind fun t91 => if t91 = true then ((laws_toInt64S.f k l3).bind fun t95 => (laws_eqInt64S.f k t60 t95).bind fun t96 => if t96 = true then ((laws_markDeclS.f k t54 1).bind fun bt100 => (laws_markBitsS.f k t56 bt100.1).bind fun bt103 => (laws_markBitsS.f k t58 bt103.1).bind fun bt106 => (laws_markInt64S.f k t60 bt106.1).bind fun bt109 => (laws_eqBitsS.f k bt66.1 bt50.1).bind fun t115 => if bt109.1 < 0 then none else if t115 = true then (if (bt66.2 != bt50.2) = true then none else (laws_markBitsS.f k bt66.1 1).bind fun bt125 => (laws_heldBitsS.f k bt125.2 1).bind fun t128 => if t128 < 0 then none else if t128 = bt125.1 then ((laws_toDeclS.f k l0).bind fun t136 => (laws_toBitsS.f k l1).bind fun t138 => (laws_toBitsS.f k l2).bind fun t140 => (laws_toInt64S.f k l3).bind fun t142 => (impl_Merge.f k t136 t138 t140 t142).bind fun bt143 => (laws_eqBitsS.f k bt143.1 bt50.1).bind fun t148 => if t148 = true then (if (bt143.2 != bt50.2) = true then none else (laws_heldBitsS.f k bt125.2 1).bind fun t157 => if t157 < 0 then none else if t157 = bt125.1 then (some true) else none) else none) else none) else none) else none) else none) else none) else none) else none
set_option maxHeartbeats 8000000 in
set_option maxRecDepth 100000 in
theorem laws_FnExactMerge.calls (k : Nat) (A0 : Option Addr) (c0 : Nat) (l0 : List (S142)) (A1 : Option Addr) (c1 : Nat) (l1 : List (S160)) (A2 : Option Addr) (c2 : Nat) (l2 : List (S160)) (A3 : Option Addr) (c3 : Nat) (l3 : List Int) (r : Bool) (w : World) (hr0 : Kd.C k142 w A0 l0.length l0) (hc0 : l0.length ≤ c0) (hr1 : Kd.C k160 w A1 l1.length l1) (hc1 : l1.length ≤ c1) (hr2 : Kd.C k160 w A2 l2.length l2) (hc2 : l2.length ≤ c2) (hr3 : Kd.C (Kd.int .i64) w A3 l3.length l3) (hc3 : l3.length ≤ c3) (h : laws_FnExactMerge.f k l0 l1 l2 l3 = some r) :
    Calls Try.prog 12 #[.slice A0 l0.length c0, .slice A1 l1.length c1, .slice A2 l2.length c2, .slice A3 l3.length c3] w fun e w' => e = .returned (.bool r) ∧ Below w.heap.size w w' := by
  have HR0 := Aside0.mk hr0; have HC0 := Aside0.mk hc0; clear hr0 hc0
  have HR1 := Aside0.mk hr1; have HC1 := Aside0.mk hc1; clear hr1 hc1
  have HR2 := Aside0.mk hr2; have HC2 := Aside0.mk hc2; clear hr2 hc2
  have HR3 := Aside0.mk hr3; have HC3 := Aside0.mk hc3; clear hr3 hc3
  have H := St.nil w
  unfold laws_FnExactMerge.f at h
  by_cases c1_ : (l3.length : Int) > 1048576
  · rw [if_pos c1_] at h
    obtain rfl := Option.some.inj h
    have c1b := decide_eq_true c1_
    have c1x : decide (1048576 < (l3.length : Int)) = true := decide_eq_true c1_
    clear c1_ h
    go_enter Try.func12, Try.ntmps12
    go_wp2
    go_ret
    exact ⟨by first | rfl | (simp; done), (St.lift H).below⟩
  rw [if_neg c1_] at h; have c1b := decide_eq_false c1_
  have c1x : decide (1048576 < (l3.length : Int)) = false := decide_eq_false c1_
  clear c1_
  obtain ⟨t28, A28_, h_⟩ := Option.bind_eq_some_iff.mp h; clear h; have h := h_; clear h_
  have A28 := Aside0.mk A28_; clear A28_
  try dsimp only at h
  by_cases c2_ : t28 < 0
  · rw [if_pos c2_] at h
    obtain rfl := Option.some.inj h
    have c2b := decide_eq_true c2_
    clear c2_ h
    go_enter Try.func12, Try.ntmps12
    go_wp2_with (first | ((with_reducible refine gate_dst (N := 28) rfl ?_); refine goesL_ (some 28) rfl rfl Try.func31 (by kernel_rfl) rfl #[.slice A0 l0.length c0, .int .i64 1048576] rfl (by (try simp only [List.map_toArray, List.map_cons, List.map_nil]); first | done | rfl) ?_; refine (laws_szDeclS.calls (hr0 := Kd.C_below HR0.out (St.lift H).below) (hc0 := HC0.out) (h := A28.out)).mono ?_; rintro e w28 ⟨rfl, hb_⟩; refine ⟨_, rfl, ?_⟩; replace H := St.call H hb_; clear hb_))
    go_ret
    exact ⟨by first | rfl | (simp; done), (St.lift H).below⟩
  rw [if_neg c2_] at h; have c2b := decide_eq_false c2_
  clear c2_
  obtain ⟨t33, A33_, h_⟩ := Option.bind_eq_some_iff.mp h; clear h; have h := h_; clear h_
  have A33 := Aside0.mk A33_; clear A33_
  try dsimp only at h
  by_cases c3_ : t33 < 0
  · rw [if_pos c3_] at h
    obtain rfl := Option.some.inj h
    have c3b := decide_eq_true c3_
    clear c3_ h
    go_enter Try.func12, Try.ntmps12
    go_wp2_with (first | ((with_reducible refine gate_dst (N := 28) rfl ?_); refine goesL_ (some 28) rfl rfl Try.func31 (by kernel_rfl) rfl #[.slice A0 l0.length c0, .int .i64 1048576] rfl (by (try simp only [List.map_toArray, List.map_cons, List.map_nil]); first | done | rfl) ?_; refine (laws_szDeclS.calls (hr0 := Kd.C_below HR0.out (St.lift H).below) (hc0 := HC0.out) (h := A28.out)).mono ?_; rintro e w28 ⟨rfl, hb_⟩; refine ⟨_, rfl, ?_⟩; replace H := St.call H hb_; clear hb_) | ((with_reducible refine gate_dst (N := 33) rfl ?_); refine goesL_ (some 33) rfl rfl Try.func48 (by kernel_rfl) rfl #[.slice A1 l1.length c1, .int .i64 t28] rfl (by (try simp only [List.map_toArray, List.map_cons, List.map_nil]); first | done | rfl) ?_; refine (laws_szBitsS.calls (hr0 := Kd.C_below HR1.out (St.lift H).below) (hc0 := HC1.out) (h := A33.out)).mono ?_; rintro e w33 ⟨rfl, hb_⟩; refine ⟨_, rfl, ?_⟩; replace H := St.call H hb_; clear hb_))
    go_ret
    exact ⟨by first | rfl | (simp; done), (St.lift H).below⟩
  rw [if_neg c3_] at h; have c3b := decide_eq_false c3_
  clear c3_
  obtain ⟨t38, A38_, h_⟩ := Option.bind_eq_some_iff.mp h; clear h; have h := h_; clear h_
  have A38 := Aside0.mk A38_; clear A38_
  try dsimp only at h
  by_cases c4_ : t38 < 0
  · rw [if_pos c4_] at h
    obtain rfl := Option.some.inj h
    have c4b := decide_eq_true c4_
    clear c4_ h
    go_enter Try.func12, Try.ntmps12
    go_wp2_with (first | ((with_reducible refine gate_dst (N := 28) rfl ?_); refine goesL_ (some 28) rfl rfl Try.func31 (by kernel_rfl) rfl #[.slice A0 l0.length c0, .int .i64 1048576] rfl (by (try simp only [List.map_toArray, List.map_cons, List.map_nil]); first | done | rfl) ?_; refine (laws_szDeclS.calls (hr0 := Kd.C_below HR0.out (St.lift H).below) (hc0 := HC0.out) (h := A28.out)).mono ?_; rintro e w28 ⟨rfl, hb_⟩; refine ⟨_, rfl, ?_⟩; replace H := St.call H hb_; clear hb_) | ((with_reducible refine gate_dst (N := 33) rfl ?_); refine goesL_ (some 33) rfl rfl Try.func48 (by kernel_rfl) rfl #[.slice A1 l1.length c1, .int .i64 t28] rfl (by (try simp only [List.map_toArray, List.map_cons, List.map_nil]); first | done | rfl) ?_; refine (laws_szBitsS.calls (hr0 := Kd.C_below HR1.out (St.lift H).below) (hc0 := HC1.out) (h := A33.out)).mono ?_; rintro e w33 ⟨rfl, hb_⟩; refine ⟨_, rfl, ?_⟩; replace H := St.call H hb_; clear hb_) | ((with_reducible refine gate_dst (N := 38) rfl ?_); refine goesL_ (some 38) rfl rfl Try.func48 (by kernel_rfl) rfl #[.slice A2 l2.length c2, .int .i64 t33] rfl (by (try simp only [List.map_toArray, List.map_cons, List.map_nil]); first | done | rfl) ?_; refine (laws_szBitsS.calls (hr0 := Kd.C_below HR2.out (St.lift H).below) (hc0 := HC2.out) (h := A38.out)).mono ?_; rintro e w38 ⟨rfl, hb_⟩; refine ⟨_, rfl, ?_⟩; replace H := St.call H hb_; clear hb_))
    go_ret
    exact ⟨by first | rfl | (simp; done), (St.lift H).below⟩
  rw [if_neg c4_] at h; have c4b := decide_eq_false c4_
  clear c4_
  obtain ⟨t43, A43_, h_⟩ := Option.bind_eq_some_iff.mp h; clear h; have h := h_; clear h_
  have A43 := Aside0.mk A43_; clear A43_
  try dsimp only at h
  obtain ⟨t45, A45_, h_⟩ := Option.bind_eq_some_iff.mp h; clear h; have h := h_; clear h_
  have A45 := Aside0.mk A45_; clear A45_
  try dsimp only at h
  obtain ⟨t47, A47_, h_⟩ := Option.bind_eq_some_iff.mp h; clear h; have h := h_; clear h_
  have A47 := Aside0.mk A47_; clear A47_
  try dsimp only at h
  obtain ⟨t49, A49_, h_⟩ := Option.bind_eq_some_iff.mp h; clear h; have h := h_; clear h_
  have A49 := Aside0.mk A49_; clear A49_
  try dsimp only at h
  obtain ⟨⟨t50_1, t50_2⟩, A50_, h_⟩ := Option.bind_eq_some_iff.mp h; clear h; have h := h_; clear h_
  have A50 := Aside0.mk A50_; clear A50_
  try dsimp only at h
  obtain ⟨t54, A54_, h_⟩ := Option.bind_eq_some_iff.mp h; clear h; have h := h_; clear h_
  have A54 := Aside0.mk A54_; clear A54_
  try dsimp only at h
  obtain ⟨t56, A56_, h_⟩ := Option.bind_eq_some_iff.mp h; clear h; have h := h_; clear h_
  have A56 := Aside0.mk A56_; clear A56_
  try dsimp only at h
  obtain ⟨t58, A58_, h_⟩ := Option.bind_eq_some_iff.mp h; clear h; have h := h_; clear h_
  have A58 := Aside0.mk A58_; clear A58_
  try dsimp only at h
  obtain ⟨t60, A60_, h_⟩ := Option.bind_eq_some_iff.mp h; clear h; have h := h_; clear h_
  have A60 := Aside0.mk A60_; clear A60_
  try dsimp only at h
  obtain ⟨⟨t66_1, t66_2⟩, A66_, h_⟩ := Option.bind_eq_some_iff.mp h; clear h; have h := h_; clear h_
  have A66 := Aside0.mk A66_; clear A66_
  try dsimp only at h
  obtain ⟨t71, A71_, h_⟩ := Option.bind_eq_some_iff.mp h; clear h; have h := h_; clear h_
  have A71 := Aside0.mk A71_; clear A71_
  try dsimp only at h
  obtain ⟨c5_, h_⟩ := iteP_ h; clear h; have h := h_; clear h_; subst c5_
  obtain ⟨c6_, h_⟩ := iteN_ h; clear h; have h := h_; clear h_; have c6b : (t66_2 != t50_2) = false := by simpa using c6_
  have c6d : decide (t66_2 = t50_2) = true := by simpa using c6_
  have c6e : (t66_2 == t50_2) = true := by simpa using c6_
  clear c6_
  obtain ⟨t80, A80_, h_⟩ := Option.bind_eq_some_iff.mp h; clear h; have h := h_; clear h_
  have A80 := Aside0.mk A80_; clear A80_
  try dsimp only at h
  obtain ⟨t81, A81_, h_⟩ := Option.bind_eq_some_iff.mp h; clear h; have h := h_; clear h_
  have A81 := Aside0.mk A81_; clear A81_
  try dsimp only at h
  obtain ⟨c7_, h_⟩ := iteP_ h; clear h; have h := h_; clear h_; subst c7_
  obtain ⟨t85, A85_, h_⟩ := Option.bind_eq_some_iff.mp h; clear h; have h := h_; clear h_
  have A85 := Aside0.mk A85_; clear A85_
  try dsimp only at h
  obtain ⟨t86, A86_, h_⟩ := Option.bind_eq_some_iff.mp h; clear h; have h := h_; clear h_
  have A86 := Aside0.mk A86_; clear A86_
  try dsimp only at h
  obtain ⟨c8_, h_⟩ := iteP_ h; clear h; have h := h_; clear h_; subst c8_
  obtain ⟨t90, A90_, h_⟩ := Option.bind_eq_some_iff.mp h; clear h; have h := h_; clear h_
  have A90 := Aside0.mk A90_; clear A90_
  try dsimp only at h
  obtain ⟨t91, A91_, h_⟩ := Option.bind_eq_some_iff.mp h; clear h; have h := h_; clear h_
  have A91 := Aside0.mk A91_; clear A91_
  try dsimp only at h
  obtain ⟨c9_, h_⟩ := iteP_ h; clear h; have h := h_; clear h_; subst c9_
  obtain ⟨t95, A95_, h_⟩ := Option.bind_eq_some_iff.mp h; clear h; have h := h_; clear h_
  have A95 := Aside0.mk A95_; clear A95_
  try dsimp only at h
  obtain ⟨t96, A96_, h_⟩ := Option.bind_eq_some_iff.mp h; clear h; have h := h_; clear h_
  have A96 := Aside0.mk A96_; clear A96_
  try dsimp only at h
  obtain ⟨c10_, h_⟩ := iteP_ h; clear h; have h := h_; clear h_; subst c10_
  obtain ⟨⟨t100_1, t100_2⟩, A100_, h_⟩ := Option.bind_eq_some_iff.mp h; clear h; have h := h_; clear h_
  have A100 := Aside0.mk A100_; clear A100_
  try dsimp only at h
  obtain ⟨⟨t103_1, t103_2⟩, A103_, h_⟩ := Option.bind_eq_some_iff.mp h; clear h; have h := h_; clear h_
  have A103 := Aside0.mk A103_; clear A103_
  try dsimp only at h
  obtain ⟨⟨t106_1, t106_2⟩, A106_, h_⟩ := Option.bind_eq_some_iff.mp h; clear h; have h := h_; clear h_
  have A106 := Aside0.mk A106_; clear A106_
  try dsimp only at h
  obtain ⟨⟨t109_1, t109_2⟩, A109_, h_⟩ := Option.bind_eq_some_iff.mp h; clear h; have h := h_; clear h_
  have A109 := Aside0.mk A109_; clear A109_
  try dsimp only at h
  obtain ⟨t115, A115_, h_⟩ := Option.bind_eq_some_iff.mp h; clear h; have h := h_; clear h_
  have A115 := Aside0.mk A115_; clear A115_
  try dsimp only at h
  obtain ⟨c11_, h_⟩ := iteN_ h; clear h; have h := h_; clear h_; have c11b := decide_eq_false c11_; clear c11_
  obtain ⟨c12_, h_⟩ := iteP_ h; clear h; have h := h_; clear h_; subst c12_
  obtain ⟨c13_, h_⟩ := iteN_ h; clear h; have h := h_; clear h_; have c13b : (t66_2 != t50_2) = false := by simpa using c13_
  have c13d : decide (t66_2 = t50_2) = true := by simpa using c13_
  have c13e : (t66_2 == t50_2) = true := by simpa using c13_
  clear c13_
  obtain ⟨⟨t125_1, t125_2⟩, A125_, h_⟩ := Option.bind_eq_some_iff.mp h; clear h; have h := h_; clear h_
  have A125 := Aside0.mk A125_; clear A125_
  try dsimp only at h
  obtain ⟨t128, A128_, h_⟩ := Option.bind_eq_some_iff.mp h; clear h; have h := h_; clear h_
  have A128 := Aside0.mk A128_; clear A128_
  try dsimp only at h
  obtain ⟨c14_, h_⟩ := iteN_ h; clear h; have h := h_; clear h_; have c14b := decide_eq_false c14_; clear c14_
  obtain ⟨c15_, h_⟩ := iteP_ h; clear h; have h := h_; clear h_; have c15b : (t128 != t125_1) = false := by simpa using c15_
  have c15d : decide (t128 = t125_1) = true := by simpa using c15_
  have c15e : (t128 == t125_1) = true := by simpa using c15_
  clear c15_
  obtain ⟨t136, A136_, h_⟩ := Option.bind_eq_some_iff.mp h; clear h; have h := h_; clear h_
  have A136 := Aside0.mk A136_; clear A136_
  try dsimp only at h
  obtain ⟨t138, A138_, h_⟩ := Option.bind_eq_some_iff.mp h; clear h; have h := h_; clear h_
  have A138 := Aside0.mk A138_; clear A138_
  try dsimp only at h
  obtain ⟨t140, A140_, h_⟩ := Option.bind_eq_some_iff.mp h; clear h; have h := h_; clear h_
  have A140 := Aside0.mk A140_; clear A140_
  try dsimp only at h
  obtain ⟨t142, A142_, h_⟩ := Option.bind_eq_some_iff.mp h; clear h; have h := h_; clear h_
  have A142 := Aside0.mk A142_; clear A142_
  try dsimp only at h
  obtain ⟨⟨t143_1, t143_2⟩, A143_, h_⟩ := Option.bind_eq_some_iff.mp h; clear h; have h := h_; clear h_
  have A143 := Aside0.mk A143_; clear A143_
  try dsimp only at h
  obtain ⟨t148, A148_, h_⟩ := Option.bind_eq_some_iff.mp h; clear h; have h := h_; clear h_
  have A148 := Aside0.mk A148_; clear A148_
  try dsimp only at h
  obtain ⟨c16_, h_⟩ := iteP_ h; clear h; have h := h_; clear h_; subst c16_
  obtain ⟨c17_, h_⟩ := iteN_ h; clear h; have h := h_; clear h_; have c17b : (t143_2 != t50_2) = false := by simpa using c17_
  have c17d : decide (t143_2 = t50_2) = true := by simpa using c17_
  have c17e : (t143_2 == t50_2) = true := by simpa using c17_
  clear c17_
  obtain ⟨t157, A157_, h_⟩ := Option.bind_eq_some_iff.mp h; clear h; have h := h_; clear h_
  have A157 := Aside0.mk A157_; clear A157_
  try dsimp only at h
  obtain ⟨c18_, h_⟩ := iteN_ h; clear h; have h := h_; clear h_; have c18b := decide_eq_false c18_; clear c18_
  obtain ⟨c19_, h_⟩ := iteP_ h; clear h; have h := h_; clear h_; have c19b : (t157 != t125_1) = false := by simpa using c19_
  have c19d : decide (t157 = t125_1) = true := by simpa using c19_
  have c19e : (t157 == t125_1) = true := by simpa using c19_
  clear c19_
  obtain rfl := Option.some.inj h; clear h
  go_enter Try.func12, Try.ntmps12
  go_wp2_with (first | ((with_reducible refine gate_dst (N := 28) rfl ?_); refine goesL_ (some 28) rfl rfl Try.func31 (by kernel_rfl) rfl #[.slice A0 l0.length c0, .int .i64 1048576] rfl (by (try simp only [List.map_toArray, List.map_cons, List.map_nil]); first | done | rfl) ?_; refine (laws_szDeclS.calls (hr0 := Kd.C_below HR0.out (St.lift H).below) (hc0 := HC0.out) (h := A28.out)).mono ?_; rintro e w28 ⟨rfl, hb_⟩; refine ⟨_, rfl, ?_⟩; replace H := St.call H hb_; clear hb_) | ((with_reducible refine gate_dst (N := 33) rfl ?_); refine goesL_ (some 33) rfl rfl Try.func48 (by kernel_rfl) rfl #[.slice A1 l1.length c1, .int .i64 t28] rfl (by (try simp only [List.map_toArray, List.map_cons, List.map_nil]); first | done | rfl) ?_; refine (laws_szBitsS.calls (hr0 := Kd.C_below HR1.out (St.lift H).below) (hc0 := HC1.out) (h := A33.out)).mono ?_; rintro e w33 ⟨rfl, hb_⟩; refine ⟨_, rfl, ?_⟩; replace H := St.call H hb_; clear hb_) | ((with_reducible refine gate_dst (N := 38) rfl ?_); refine goesL_ (some 38) rfl rfl Try.func48 (by kernel_rfl) rfl #[.slice A2 l2.length c2, .int .i64 t33] rfl (by (try simp only [List.map_toArray, List.map_cons, List.map_nil]); first | done | rfl) ?_; refine (laws_szBitsS.calls (hr0 := Kd.C_below HR2.out (St.lift H).below) (hc0 := HC2.out) (h := A38.out)).mono ?_; rintro e w38 ⟨rfl, hb_⟩; refine ⟨_, rfl, ?_⟩; replace H := St.call H hb_; clear hb_) | ((with_reducible refine gate_dst (N := 43) rfl ?_); refine goesL_ (some 43) rfl rfl Try.func33 (by kernel_rfl) rfl #[.slice A0 l0.length c0] rfl (by (try simp only [List.map_toArray, List.map_cons, List.map_nil]); first | done | rfl) ?_; refine (laws_toDeclS.calls (hr0 := Kd.C_below HR0.out (St.lift H).below) (hc0 := HC0.out) (h := A43.out)).mono ?_; rintro e w43 ⟨v0x43, rfl, ho_, hb_⟩; refine ⟨_, rfl, ?_⟩; obtain ⟨ok43_, a43_, cc43_, rfl, kc43_, H_⟩ := St.callR H hb_ ho_; clear H hb_ ho_; have H := H_; clear H_) | ((with_reducible refine gate_dst (N := 45) rfl ?_); refine goesL_ (some 45) rfl rfl Try.func50 (by kernel_rfl) rfl #[.slice A1 l1.length c1] rfl (by (try simp only [List.map_toArray, List.map_cons, List.map_nil]); first | done | rfl) ?_; refine (laws_toBitsS.calls (hr0 := Kd.C_below HR1.out (St.lift H).below) (hc0 := HC1.out) (h := A45.out)).mono ?_; rintro e w45 ⟨v0x45, rfl, ho_, hb_⟩; refine ⟨_, rfl, ?_⟩; obtain ⟨ok45_, a45_, cc45_, rfl, kc45_, H_⟩ := St.callS H hb_ ho_; clear H hb_ ho_; have H := H_; clear H_) | ((with_reducible refine gate_dst (N := 47) rfl ?_); refine goesL_ (some 47) rfl rfl Try.func50 (by kernel_rfl) rfl #[.slice A2 l2.length c2] rfl (by (try simp only [List.map_toArray, List.map_cons, List.map_nil]); first | done | rfl) ?_; refine (laws_toBitsS.calls (hr0 := Kd.C_below HR2.out (St.lift H).below) (hc0 := HC2.out) (h := A47.out)).mono ?_; rintro e w47 ⟨v0x47, rfl, ho_, hb_⟩; refine ⟨_, rfl, ?_⟩; obtain ⟨ok47_, a47_, cc47_, rfl, kc47_, H_⟩ := St.callS H hb_ ho_; clear H hb_ ho_; have H := H_; clear H_) | ((with_reducible refine gate_dst (N := 49) rfl ?_); refine goesL_ (some 49) rfl rfl Try.func18 (by kernel_rfl) rfl #[.slice A3 l3.length c3] rfl (by (try simp only [List.map_toArray, List.map_cons, List.map_nil]); first | done | rfl) ?_; refine (laws_toInt64S.calls (hr0 := Kd.C_below HR3.out (St.lift H).below) (hc0 := HC3.out) (h := A49.out)).mono ?_; rintro e w49 ⟨v0x49, rfl, ho_, hb_⟩; refine ⟨_, rfl, ?_⟩; obtain ⟨ok49_, a49_, cc49_, rfl, kc49_, H_⟩ := St.callR H hb_ ho_; clear H hb_ ho_; have H := H_; clear H_) | ((with_reducible refine gate_dst (N := 50) rfl ?_); refine goesL_ (some 50) rfl rfl Try.func70 (by kernel_rfl) rfl #[.slice a43_ t43.length cc43_, .slice a45_ t45.length cc45_, .slice a47_ t47.length cc47_, .slice a49_ t49.length cc49_] rfl (by (try simp only [List.map_toArray, List.map_cons, List.map_nil]); first | done | rfl) ?_; refine (spec_Merge.calls (hr0 := (Kd.R_reads' (St.getR H 3 rfl)).2.2) (hc0 := kc43_.out) (hr1 := (Kd.S_reads' (St.getS H 2 rfl)).2.2) (hc1 := kc45_.out) (hr2 := (Kd.S_reads' (St.getS H 1 rfl)).2.2) (hc2 := kc47_.out) (hr3 := (Kd.R_reads' (St.getR H 0 rfl)).2.2) (hc3 := kc49_.out) (h := A50.out)).mono ?_; rintro e w50 ⟨v0x50, rfl, ho_, hb_⟩; refine ⟨_, rfl, ?_⟩; obtain ⟨ok50_, a50_, cc50_, rfl, kc50_, H_⟩ := St.callS H hb_ ho_; clear H hb_ ho_; have H := H_; clear H_; replace H := St.drop H 1; replace H := St.drop H 1; replace H := St.drop H 1; replace H := St.drop H 1; (try dsimp only [put, cutAt] at H)) | ((with_reducible refine gate_dst (N := 54) rfl ?_); refine goesL_ (some 54) rfl rfl Try.func33 (by kernel_rfl) rfl #[.slice A0 l0.length c0] rfl (by (try simp only [List.map_toArray, List.map_cons, List.map_nil]); first | done | rfl) ?_; refine (laws_toDeclS.calls (hr0 := Kd.C_below HR0.out (St.lift H).below) (hc0 := HC0.out) (h := A54.out)).mono ?_; rintro e w54 ⟨v0x54, rfl, ho_, hb_⟩; refine ⟨_, rfl, ?_⟩; obtain ⟨ok54_, a54_, cc54_, rfl, kc54_, H_⟩ := St.callR H hb_ ho_; clear H hb_ ho_; have H := H_; clear H_) | ((with_reducible refine gate_dst (N := 56) rfl ?_); refine goesL_ (some 56) rfl rfl Try.func50 (by kernel_rfl) rfl #[.slice A1 l1.length c1] rfl (by (try simp only [List.map_toArray, List.map_cons, List.map_nil]); first | done | rfl) ?_; refine (laws_toBitsS.calls (hr0 := Kd.C_below HR1.out (St.lift H).below) (hc0 := HC1.out) (h := A56.out)).mono ?_; rintro e w56 ⟨v0x56, rfl, ho_, hb_⟩; refine ⟨_, rfl, ?_⟩; obtain ⟨ok56_, a56_, cc56_, rfl, kc56_, H_⟩ := St.callS H hb_ ho_; clear H hb_ ho_; have H := H_; clear H_) | ((with_reducible refine gate_dst (N := 58) rfl ?_); refine goesL_ (some 58) rfl rfl Try.func50 (by kernel_rfl) rfl #[.slice A2 l2.length c2] rfl (by (try simp only [List.map_toArray, List.map_cons, List.map_nil]); first | done | rfl) ?_; refine (laws_toBitsS.calls (hr0 := Kd.C_below HR2.out (St.lift H).below) (hc0 := HC2.out) (h := A58.out)).mono ?_; rintro e w58 ⟨v0x58, rfl, ho_, hb_⟩; refine ⟨_, rfl, ?_⟩; obtain ⟨ok58_, a58_, cc58_, rfl, kc58_, H_⟩ := St.callS H hb_ ho_; clear H hb_ ho_; have H := H_; clear H_) | ((with_reducible refine gate_dst (N := 60) rfl ?_); refine goesL_ (some 60) rfl rfl Try.func18 (by kernel_rfl) rfl #[.slice A3 l3.length c3] rfl (by (try simp only [List.map_toArray, List.map_cons, List.map_nil]); first | done | rfl) ?_; refine (laws_toInt64S.calls (hr0 := Kd.C_below HR3.out (St.lift H).below) (hc0 := HC3.out) (h := A60.out)).mono ?_; rintro e w60 ⟨v0x60, rfl, ho_, hb_⟩; refine ⟨_, rfl, ?_⟩; obtain ⟨ok60_, a60_, cc60_, rfl, kc60_, H_⟩ := St.callR H hb_ ho_; clear H hb_ ho_; have H := H_; clear H_) | ((with_reducible refine gate_dst (N := 66) rfl ?_); refine goesL_ (some 66) rfl rfl Try.func71 (by kernel_rfl) rfl #[.slice a54_ t54.length cc54_, .slice a56_ t56.length cc56_, .slice a58_ t58.length cc58_, .slice a60_ t60.length cc60_] rfl (by (try simp only [List.map_toArray, List.map_cons, List.map_nil]); first | done | rfl) ?_; refine (impl_Merge.calls (hr0 := (Kd.R_reads' (St.getR H 3 rfl)).2.2) (hc0 := kc54_.out) (hr1 := (Kd.S_reads' (St.getS H 2 rfl)).2.2) (hc1 := kc56_.out) (hr2 := (Kd.S_reads' (St.getS H 1 rfl)).2.2) (hc2 := kc58_.out) (hr3 := (Kd.R_reads' (St.getR H 0 rfl)).2.2) (hc3 := kc60_.out) (h := A66.out)).mono ?_; rintro e w66 ⟨v0x66, rfl, ho_, hb_⟩; refine ⟨_, rfl, ?_⟩; obtain ⟨ok66_, a66_, cc66_, rfl, kc66_, H_⟩ := St.callS H hb_ ho_; clear H hb_ ho_; have H := H_; clear H_) | ((with_reducible refine gate_dst (N := 71) rfl ?_); refine goesL_ (some 71) rfl rfl Try.func36 (by kernel_rfl) rfl #[.slice a66_ t66_1.length cc66_, .slice a50_ t50_1.length cc50_] rfl (by (try simp only [List.map_toArray, List.map_cons, List.map_nil]); first | done | rfl) ?_; refine (laws_eqBitsS.calls (hr0 := (Kd.S_reads' (St.getS H 0 rfl)).2.2) (hc0 := kc66_.out) (hr1 := (Kd.S_reads' (St.getS H 5 rfl)).2.2) (hc1 := kc50_.out) (h := A71.out)).mono ?_; rintro e w71 ⟨rfl, hb_⟩; refine ⟨_, rfl, ?_⟩; replace H := St.call H hb_; clear hb_) | ((with_reducible refine gate_dst (N := 80) rfl ?_); refine goesL_ (some 80) rfl rfl Try.func33 (by kernel_rfl) rfl #[.slice A0 l0.length c0] rfl (by (try simp only [List.map_toArray, List.map_cons, List.map_nil]); first | done | rfl) ?_; refine (laws_toDeclS.calls (hr0 := Kd.C_below HR0.out (St.lift H).below) (hc0 := HC0.out) (h := A80.out)).mono ?_; rintro e w80 ⟨v0x80, rfl, ho_, hb_⟩; refine ⟨_, rfl, ?_⟩; obtain ⟨ok80_, a80_, cc80_, rfl, kc80_, H_⟩ := St.callR H hb_ ho_; clear H hb_ ho_; have H := H_; clear H_) | ((with_reducible refine gate_dst (N := 81) rfl ?_); refine goesL_ (some 81) rfl rfl Try.func37 (by kernel_rfl) rfl #[.slice a54_ t54.length cc54_, .slice a80_ t80.length cc80_] rfl (by (try simp only [List.map_toArray, List.map_cons, List.map_nil]); first | done | rfl) ?_; refine (laws_eqDeclS.calls (hr0 := (Kd.R_reads' (St.getR H 5 rfl)).2.2) (hc0 := kc54_.out) (hr1 := (Kd.R_reads' (St.getR H 0 rfl)).2.2) (hc1 := kc80_.out) (h := A81.out)).mono ?_; rintro e w81 ⟨rfl, hb_⟩; refine ⟨_, rfl, ?_⟩; replace H := St.call H hb_; clear hb_; replace H := St.drop H 0; (try dsimp only [put, cutAt] at H)) | ((with_reducible refine gate_dst (N := 85) rfl ?_); refine goesL_ (some 85) rfl rfl Try.func50 (by kernel_rfl) rfl #[.slice A1 l1.length c1] rfl (by (try simp only [List.map_toArray, List.map_cons, List.map_nil]); first | done | rfl) ?_; refine (laws_toBitsS.calls (hr0 := Kd.C_below HR1.out (St.lift H).below) (hc0 := HC1.out) (h := A85.out)).mono ?_; rintro e w85 ⟨v0x85, rfl, ho_, hb_⟩; refine ⟨_, rfl, ?_⟩; obtain ⟨ok85_, a85_, cc85_, rfl, kc85_, H_⟩ := St.callS H hb_ ho_; clear H hb_ ho_; have H := H_; clear H_) | ((with_reducible refine gate_dst (N := 86) rfl ?_); refine goesL_ (some 86) rfl rfl Try.func36 (by kernel_rfl) rfl #[.slice a56_ t56.length cc56_, .slice a85_ t85.length cc85_] rfl (by (try simp only [List.map_toArray, List.map_cons, List.map_nil]); first | done | rfl) ?_; refine (laws_eqBitsS.calls (hr0 := (Kd.S_reads' (St.getS H 4 rfl)).2.2) (hc0 := kc56_.out) (hr1 := (Kd.S_reads' (St.getS H 0 rfl)).2.2) (hc1 := kc85_.out) (h := A86.out)).mono ?_; rintro e w86 ⟨rfl, hb_⟩; refine ⟨_, rfl, ?_⟩; replace H := St.call H hb_; clear hb_; replace H := St.drop H 0; (try dsimp only [put, cutAt] at H)) | ((with_reducible refine gate_dst (N := 90) rfl ?_); refine goesL_ (some 90) rfl rfl Try.func50 (by kernel_rfl) rfl #[.slice A2 l2.length c2] rfl (by (try simp only [List.map_toArray, List.map_cons, List.map_nil]); first | done | rfl) ?_; refine (laws_toBitsS.calls (hr0 := Kd.C_below HR2.out (St.lift H).below) (hc0 := HC2.out) (h := A90.out)).mono ?_; rintro e w90 ⟨v0x90, rfl, ho_, hb_⟩; refine ⟨_, rfl, ?_⟩; obtain ⟨ok90_, a90_, cc90_, rfl, kc90_, H_⟩ := St.callS H hb_ ho_; clear H hb_ ho_; have H := H_; clear H_) | ((with_reducible refine gate_dst (N := 91) rfl ?_); refine goesL_ (some 91) rfl rfl Try.func36 (by kernel_rfl) rfl #[.slice a58_ t58.length cc58_, .slice a90_ t90.length cc90_] rfl (by (try simp only [List.map_toArray, List.map_cons, List.map_nil]); first | done | rfl) ?_; refine (laws_eqBitsS.calls (hr0 := (Kd.S_reads' (St.getS H 3 rfl)).2.2) (hc0 := kc58_.out) (hr1 := (Kd.S_reads' (St.getS H 0 rfl)).2.2) (hc1 := kc90_.out) (h := A91.out)).mono ?_; rintro e w91 ⟨rfl, hb_⟩; refine ⟨_, rfl, ?_⟩; replace H := St.call H hb_; clear hb_; replace H := St.drop H 0; (try dsimp only [put, cutAt] at H)) | ((with_reducible refine gate_dst (N := 95) rfl ?_); refine goesL_ (some 95) rfl rfl Try.func18 (by kernel_rfl) rfl #[.slice A3 l3.length c3] rfl (by (try simp only [List.map_toArray, List.map_cons, List.map_nil]); first | done | rfl) ?_; refine (laws_toInt64S.calls (hr0 := Kd.C_below HR3.out (St.lift H).below) (hc0 := HC3.out) (h := A95.out)).mono ?_; rintro e w95 ⟨v0x95, rfl, ho_, hb_⟩; refine ⟨_, rfl, ?_⟩; obtain ⟨ok95_, a95_, cc95_, rfl, kc95_, H_⟩ := St.callR H hb_ ho_; clear H hb_ ho_; have H := H_; clear H_) | ((with_reducible refine gate_dst (N := 96) rfl ?_); refine goesL_ (some 96) rfl rfl Try.func20 (by kernel_rfl) rfl #[.slice a60_ t60.length cc60_, .slice a95_ t95.length cc95_] rfl (by (try simp only [List.map_toArray, List.map_cons, List.map_nil]); first | done | rfl) ?_; refine (laws_eqInt64S.calls (hr0 := (Kd.R_reads' (St.getR H 2 rfl)).2.2) (hc0 := kc60_.out) (hr1 := (Kd.R_reads' (St.getR H 0 rfl)).2.2) (hc1 := kc95_.out) (h := A96.out)).mono ?_; rintro e w96 ⟨rfl, hb_⟩; replace hb_ := hb_.below; refine ⟨_, rfl, ?_⟩; replace H := St.call H hb_; clear hb_; replace H := St.drop H 0; (try dsimp only [put, cutAt] at H)) | ((with_reducible refine gate_dst (N := 100) rfl ?_); refine goesL_ (some 100) rfl rfl Try.func39 (by kernel_rfl) rfl #[.slice a54_ t54.length cc54_, .int .i64 1] rfl (by (try simp only [List.map_toArray, List.map_cons, List.map_nil]); first | done | rfl) ?_; refine (laws_markDeclS.calls (P0_ := ok54_) (u9000_ := .slice a54_ t54.length cc54_) (ho0 := St.getR H 4 rfl) (hB := (St.lift H).below) (h := A100.out)).mono ?_; rintro e w100 ⟨rfl, hs_, hb_, hk_⟩; refine ⟨_, rfl, ?_⟩; replace H := St.markR H 4 rfl hs_ hb_ hk_; (try dsimp only [put, cutAt] at H); clear hs_ hb_ hk_; replace H := St.drop H 4; (try dsimp only [put, cutAt] at H)) | ((with_reducible refine gate_dst (N := 103) rfl ?_); refine goesL_ (some 103) rfl rfl Try.func41 (by kernel_rfl) rfl #[.slice a56_ t56.length cc56_, .int .i64 t100_1] rfl (by (try simp only [List.map_toArray, List.map_cons, List.map_nil]); first | done | rfl) ?_; refine (laws_markBitsS.calls (P0_ := ok56_) (u9000_ := .slice a56_ t56.length cc56_) (ho0 := St.getS H 3 rfl) (hB := (St.lift H).below) (h := A103.out)).mono ?_; rintro e w103 ⟨rfl, hs_, hb_, hk_⟩; refine ⟨_, rfl, ?_⟩; replace H := St.markS H 3 rfl hs_ hb_ hk_; (try dsimp only [put, cutAt] at H); clear hs_ hb_ hk_; replace H := St.drop H 3; (try dsimp only [put, cutAt] at H)) | ((with_reducible refine gate_dst (N := 106) rfl ?_); refine goesL_ (some 106) rfl rfl Try.func41 (by kernel_rfl) rfl #[.slice a58_ t58.length cc58_, .int .i64 t103_1] rfl (by (try simp only [List.map_toArray, List.map_cons, List.map_nil]); first | done | rfl) ?_; refine (laws_markBitsS.calls (P0_ := ok58_) (u9000_ := .slice a58_ t58.length cc58_) (ho0 := St.getS H 2 rfl) (hB := (St.lift H).below) (h := A106.out)).mono ?_; rintro e w106 ⟨rfl, hs_, hb_, hk_⟩; refine ⟨_, rfl, ?_⟩; replace H := St.markS H 2 rfl hs_ hb_ hk_; (try dsimp only [put, cutAt] at H); clear hs_ hb_ hk_; replace H := St.drop H 2; (try dsimp only [put, cutAt] at H)) | ((with_reducible refine gate_dst (N := 109) rfl ?_); refine goesL_ (some 109) rfl rfl Try.func23 (by kernel_rfl) rfl #[.slice a60_ t60.length cc60_, .int .i64 t106_1] rfl (by (try simp only [List.map_toArray, List.map_cons, List.map_nil]); first | done | rfl) ?_; refine (laws_markInt64S.calls (P0_ := ok60_) (u9000_ := .slice a60_ t60.length cc60_) (ho0 := St.getR H 1 rfl) (hB := (St.lift H).below) (h := A109.out)).mono ?_; rintro e w109 ⟨rfl, hs_, hb_, hk_⟩; refine ⟨_, rfl, ?_⟩; replace H := St.markR H 1 rfl hs_ hb_ hk_; (try dsimp only [put, cutAt] at H); clear hs_ hb_ hk_; replace H := St.drop H 1; (try dsimp only [put, cutAt] at H)) | ((with_reducible refine gate_dst (N := 125) rfl ?_); refine goesL_ (some 125) rfl rfl Try.func41 (by kernel_rfl) rfl #[.slice a66_ t66_1.length cc66_, .int .i64 1] rfl (by (try simp only [List.map_toArray, List.map_cons, List.map_nil]); first | done | rfl) ?_; refine (laws_markBitsS.calls (P0_ := ok66_) (u9000_ := .slice a66_ t66_1.length cc66_) (ho0 := St.getS H 0 rfl) (hB := (St.lift H).below) (h := A125.out)).mono ?_; rintro e w125 ⟨rfl, hs_, hb_, hk_⟩; refine ⟨_, rfl, ?_⟩; replace H := St.markS H 0 rfl hs_ hb_ hk_; (try dsimp only [put, cutAt] at H); have e_ := (Kd.S_reads' hs_).1; have kc66_m := Aside0.mk (Kd.S_reads' hs_).2.1; rw [e_] at H kc66_m; obtain ⟨ok66_m, H_⟩ : ∃ ok_, Aside0 (St w w125 [Ob.S w k149 149 ok_ (.slice a66_ t125_2.length cc66_) t125_2, Ob.S w k149 149 ok50_ (.slice a50_ t50_1.length cc50_) t50_1]) := ⟨_, H⟩; clear H; have H := H_; clear H_; clear hs_ hb_ hk_; (rw [e_]); clear e_) | ((with_reducible refine gate_dst (N := 128) rfl ?_); refine goesL_ (some 128) rfl rfl Try.func42 (by kernel_rfl) rfl #[.slice a66_ t125_2.length cc66_, .int .i64 1] rfl (by (try simp only [List.map_toArray, List.map_cons, List.map_nil]); first | done | rfl) ?_; refine (laws_heldBitsS.calls (hr0 := (Kd.S_reads' (St.getS H 0 rfl)).2.2) (hc0 := kc66_m.out) (h := A128.out)).mono ?_; rintro e w128 ⟨rfl, hb_⟩; replace hb_ := hb_.below; refine ⟨_, rfl, ?_⟩; replace H := St.call H hb_; clear hb_) | ((with_reducible refine gate_dst (N := 136) rfl ?_); refine goesL_ (some 136) rfl rfl Try.func33 (by kernel_rfl) rfl #[.slice A0 l0.length c0] rfl (by (try simp only [List.map_toArray, List.map_cons, List.map_nil]); first | done | rfl) ?_; refine (laws_toDeclS.calls (hr0 := Kd.C_below HR0.out (St.lift H).below) (hc0 := HC0.out) (h := A136.out)).mono ?_; rintro e w136 ⟨v0x136, rfl, ho_, hb_⟩; refine ⟨_, rfl, ?_⟩; obtain ⟨ok136_, a136_, cc136_, rfl, kc136_, H_⟩ := St.callR H hb_ ho_; clear H hb_ ho_; have H := H_; clear H_) | ((with_reducible refine gate_dst (N := 138) rfl ?_); refine goesL_ (some 138) rfl rfl Try.func50 (by kernel_rfl) rfl #[.slice A1 l1.length c1] rfl (by (try simp only [List.map_toArray, List.map_cons, List.map_nil]); first | done | rfl) ?_; refine (laws_toBitsS.calls (hr0 := Kd.C_below HR1.out (St.lift H).below) (hc0 := HC1.out) (h := A138.out)).mono ?_; rintro e w138 ⟨v0x138, rfl, ho_, hb_⟩; refine ⟨_, rfl, ?_⟩; obtain ⟨ok138_, a138_, cc138_, rfl, kc138_, H_⟩ := St.callS H hb_ ho_; clear H hb_ ho_; have H := H_; clear H_) | ((with_reducible refine gate_dst (N := 140) rfl ?_); refine goesL_ (some 140) rfl rfl Try.func50 (by kernel_rfl) rfl #[.slice A2 l2.length c2] rfl (by (try simp only [List.map_toArray, List.map_cons, List.map_nil]); first | done | rfl) ?_; refine (laws_toBitsS.calls (hr0 := Kd.C_below HR2.out (St.lift H).below) (hc0 := HC2.out) (h := A140.out)).mono ?_; rintro e w140 ⟨v0x140, rfl, ho_, hb_⟩; refine ⟨_, rfl, ?_⟩; obtain ⟨ok140_, a140_, cc140_, rfl, kc140_, H_⟩ := St.callS H hb_ ho_; clear H hb_ ho_; have H := H_; clear H_) | ((with_reducible refine gate_dst (N := 142) rfl ?_); refine goesL_ (some 142) rfl rfl Try.func18 (by kernel_rfl) rfl #[.slice A3 l3.length c3] rfl (by (try simp only [List.map_toArray, List.map_cons, List.map_nil]); first | done | rfl) ?_; refine (laws_toInt64S.calls (hr0 := Kd.C_below HR3.out (St.lift H).below) (hc0 := HC3.out) (h := A142.out)).mono ?_; rintro e w142 ⟨v0x142, rfl, ho_, hb_⟩; refine ⟨_, rfl, ?_⟩; obtain ⟨ok142_, a142_, cc142_, rfl, kc142_, H_⟩ := St.callR H hb_ ho_; clear H hb_ ho_; have H := H_; clear H_) | ((with_reducible refine gate_dst (N := 143) rfl ?_); refine goesL_ (some 143) rfl rfl Try.func71 (by kernel_rfl) rfl #[.slice a136_ t136.length cc136_, .slice a138_ t138.length cc138_, .slice a140_ t140.length cc140_, .slice a142_ t142.length cc142_] rfl (by (try simp only [List.map_toArray, List.map_cons, List.map_nil]); first | done | rfl) ?_; refine (impl_Merge.calls (hr0 := (Kd.R_reads' (St.getR H 3 rfl)).2.2) (hc0 := kc136_.out) (hr1 := (Kd.S_reads' (St.getS H 2 rfl)).2.2) (hc1 := kc138_.out) (hr2 := (Kd.S_reads' (St.getS H 1 rfl)).2.2) (hc2 := kc140_.out) (hr3 := (Kd.R_reads' (St.getR H 0 rfl)).2.2) (hc3 := kc142_.out) (h := A143.out)).mono ?_; rintro e w143 ⟨v0x143, rfl, ho_, hb_⟩; refine ⟨_, rfl, ?_⟩; obtain ⟨ok143_, a143_, cc143_, rfl, kc143_, H_⟩ := St.callS H hb_ ho_; clear H hb_ ho_; have H := H_; clear H_; replace H := St.drop H 1; replace H := St.drop H 1; replace H := St.drop H 1; replace H := St.drop H 1; (try dsimp only [put, cutAt] at H)) | ((with_reducible refine gate_dst (N := 148) rfl ?_); refine goesL_ (some 148) rfl rfl Try.func36 (by kernel_rfl) rfl #[.slice a143_ t143_1.length cc143_, .slice a50_ t50_1.length cc50_] rfl (by (try simp only [List.map_toArray, List.map_cons, List.map_nil]); first | done | rfl) ?_; refine (laws_eqBitsS.calls (hr0 := (Kd.S_reads' (St.getS H 0 rfl)).2.2) (hc0 := kc143_.out) (hr1 := (Kd.S_reads' (St.getS H 2 rfl)).2.2) (hc1 := kc50_.out) (h := A148.out)).mono ?_; rintro e w148 ⟨rfl, hb_⟩; refine ⟨_, rfl, ?_⟩; replace H := St.call H hb_; clear hb_; replace H := St.drop H 0; replace H := St.drop H 1; (try dsimp only [put, cutAt] at H)) | ((with_reducible refine gate_dst (N := 157) rfl ?_); refine goesL_ (some 157) rfl rfl Try.func42 (by kernel_rfl) rfl #[.slice a66_ t125_2.length cc66_, .int .i64 1] rfl (by (try simp only [List.map_toArray, List.map_cons, List.map_nil]); first | done | rfl) ?_; refine (laws_heldBitsS.calls (hr0 := (Kd.S_reads' (St.getS H 0 rfl)).2.2) (hc0 := kc66_m.out) (h := A157.out)).mono ?_; rintro e w157 ⟨rfl, hb_⟩; replace hb_ := hb_.below; refine ⟨_, rfl, ?_⟩; replace H := St.call H hb_; clear hb_; replace H := St.drop H 0; (try dsimp only [put, cutAt] at H)) | (go_at_call 36; refine (laws_eqBitsS.calls (hr0 := (Kd.S_reads' (St.getS H 0 rfl)).2.2) (hc0 := kc66_.out) (hr1 := (Kd.S_reads' (St.getS H 1 rfl)).2.2) (hc1 := kc50_.out) (h := A115.out)).mono ?_; rintro e w115 ⟨rfl, hb_⟩; replace H := St.call H hb_; clear hb_))
  go_ret
  exact ⟨by first | rfl | (simp; done), (St.lift H).below⟩

end Go.Proofs.Ytjmnhcooimdioaa.PFnExactMerge
