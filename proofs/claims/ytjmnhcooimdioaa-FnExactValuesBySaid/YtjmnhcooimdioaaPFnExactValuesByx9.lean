-- Written by a program of this session (lawx3.sh, lawwalk3.py); Lean checks it.
import Derived.Test.YtjmnhcooimdioaaPFnExactValuesByx0
import Derived.Test.YtjmnhcooimdioaaPFnExactValuesByx1
import Derived.Test.YtjmnhcooimdioaaPFnExactValuesByx2
import Derived.Test.YtjmnhcooimdioaaPFnExactValuesByx3
import Derived.Test.YtjmnhcooimdioaaPFnExactValuesByx4
import Derived.Test.YtjmnhcooimdioaaPFnExactValuesByx5
import Derived.Test.YtjmnhcooimdioaaPFnExactValuesByx6
import Derived.Test.YtjmnhcooimdioaaPFnExactValuesByx7
import Derived.Test.YtjmnhcooimdioaaPFnExactValuesByx8
import Derived.Test.YtjmnhcooimdioaaLaw
namespace Go.Proofs.Ytjmnhcooimdioaa.PFnExactValuesBy
open Go.RowKit Go.Proofs.YtjmnhcooimdioaaW.PrintWords Go.Proofs.YtjmnhcooimdioaaW.PrintLast Go.Proofs.YtjmnhcooimdioaaW.PrintMore
attribute [local go_sem] max2_int min2_int max_two min_two max_three min_three max_four min_four   -- for this text's walks alone
set_option linter.unusedVariables false
set_option linter.unusedSimpArgs false

/-! ### laws_markBitsS: function 41 -/
def laws_markBitsS.l0 : Nat → List (S149) → Int → Int → Option (Int × (List (S149)))
  | 0, _, _, _ => none
  | k + 1, x0, x1, x5 => if x5 < (x0.length : Int) then (if 0 ≤ x5 then ((laws_markUint64S.f k (rd_T149 x0 x5).f1 (wrap64 (x1 + 1))).bind fun t => laws_markBitsS.l0 k (x0.set (x5 : Int).toNat (⟨x1, t.2⟩ : S149)) t.1 (wrap64 (x5 + 1))) else none) else some (x1, x0)
def laws_markBitsS.f (k : Nat) (l0 : List (S149)) (a1 : Int) : Option (Int × (List (S149))) := laws_markBitsS.l0 k l0 a1 0
set_option maxHeartbeats 8000000 in
set_option maxRecDepth 100000 in
theorem laws_markBitsS.calls (k : Nat) (P0_ : Nat → Prop) (u9000_ : Value) (l0 : List (S149)) (a1 : Int) (r1 : Int) (r2 : List (S149)) (w0 w : World) (hB : Below w0.heap.size w0 w) (ho0 : Kd.S k149 149 w w0.heap.size P0_ u9000_ l0) (h : laws_markBitsS.f k l0 a1 = some (r1, r2)) :
    Calls Try.prog 41 #[u9000_, .int .i64 a1] w fun e w' => e = .returned (.int .i64 r1) ∧ Kd.S k149 149 w' w0.heap.size (fun k_ => (P0_ k_ ∨ w.heap.size ≤ k_)) u9000_ r2 ∧ Below w0.heap.size w0 w' ∧ Kept w w' (fun k_ => P0_ k_) := by
  have hu149 := Try.underlying149
  have HO0 := Aside0.mk (show Kd.S k149 149 w w0.heap.size (fun k_ => (P0_ k_ ∨ w.heap.size ≤ k_)) u9000_ l0 from Kd.S_mono ho0 (fun k_ hk => (.inl hk)))
  have HK := Aside0.mk (Kept.refl w (fun k_ => P0_ k_))
  have HW0 := Aside0.mk hB.size
  have HB := Aside0.mk hB
  clear hB
  have H : (laws_markBitsS.l0 k l0 a1 0) = some (r1, r2) := h
  clear h
  have H' := Aside0.mk H
  clear H
  go_enter Try.func41, Try.ntmps41
  go_wp2
  go_loopg [1, 5] k (fun kq v1 v5 w' => ∃ (x0_1 : List (S149)) (x1_1 : Int) (x5_1 : Int), v1 = .int .i64 x1_1 ∧ v5 = .int .i64 x5_1 ∧ Aside0 (laws_markBitsS.l0 kq x0_1 x1_1 x5_1 = some (r1, r2)) ∧ Aside0 (kq ≤ k) ∧ Aside0 (Kd.S k149 149 w' w0.heap.size (fun k_ => (P0_ k_ ∨ w.heap.size ≤ k_)) u9000_ x0_1) ∧ Aside0 (Kept w w' (fun k_ => P0_ k_)) ∧ Aside0 (Below w0.heap.size w0 w'))
  case atStart => exact ⟨l0, a1, 0, (by first | rfl | (simp; done)), (by first | rfl | (simp; done)), H', ⟨Nat.le_refl _⟩, ⟨by (with_reducible repeat (first | apply Kd.S_alloc | apply Kd.S_drewN | apply Kd.S_drew)); exact HO0.out⟩, ⟨by repeat (first | (with_reducible first | exact HK.out | apply Kept.alloc | apply Kept.drewN | apply Kept.drew) | exact HK.out)⟩, ⟨by repeat (first | (with_reducible first | exact HB.out | apply below_alloc | apply pw_below_drewN | apply below_drew1) | exact HB.out)⟩⟩
  case round =>
    clear H' HO0
    obtain ⟨x0_1, x1_1, x5_1, rfl, rfl, HA, HKk, HO_0, HKq, HBq⟩ := hrel
    cases gk with
    | zero => exact absurd HA.out (by simp [laws_markBitsS.l0])
    | succ k1 =>
      have H := HA.out
      clear HA
      simp only [laws_markBitsS.l0] at H
      by_cases c3 : x5_1 < (x0_1.length : Int)
      · rw [if_pos c3] at H
        by_cases c5 : 0 ≤ x5_1
        · rw [if_pos c5] at H
          obtain ⟨⟨t1, t2⟩, A40, H⟩ := Option.bind_eq_some_iff.mp H
          replace H : laws_markBitsS.l0 k1 (x0_1.set (x5_1 : Int).toNat (⟨x1_1, t2⟩ : S149)) t1 (wrap64 (x5_1 + 1)) = some (r1, r2) := H
          have A4 := Aside0.mk A40
          have H' := Aside0.mk H
          clear A40 H
          obtain ⟨g, cap, rfl, hgb, hgl, cells, hgc⟩ := Kd.S_form HO_0.out (by omega)
          have GC := Aside0.mk hgc
          obtain ⟨oki, c, hcl, hM, hcc, hfr, hoki, hH⟩ := Kd.S_elem HO_0.out ⟨0, []⟩ x5_1 c5 c3
          obtain ⟨v1, rfl, hR1⟩ := k149_openM hM
          have hx0 : wr.cell? ⟨g, (x5_1 : Int).toNat * 2, none⟩ = some (.int .i64 (rd_T149 x0_1 x5_1).f0) := hcc 0 _ rfl
          have hx1 : wr.cell? ⟨g, (x5_1 : Int).toNat * 2 + 1, none⟩ = some v1 := hcc 1 _ rfl
          have hf0 : wr.frozen? ⟨g, (x5_1 : Int).toNat * 2, none⟩ = false := hfr 0
          have hf1 : wr.frozen? ⟨g, (x5_1 : Int).toNat * 2 + 1, none⟩ = false := hfr 1
          have HP := Kd.S_seg (okg := fun _ => False) (Kd.H_mono hH (fun k hk => ⟨hk, fun h => h⟩)) c5 c3 (seg := [.int .i64 x1_1]) (j := 0) (show 0 + 1 ≤ 2 from by decide) (x' := (⟨x1_1, (rd_T149 x0_1 x5_1).f1⟩ : S149)) (k149_mkM _ _ _ (⟨x1_1, (rd_T149 x0_1 x5_1).f1⟩ : S149) hR1) (fun _ hk => .inl hk) (fun _ hk => hk.elim)
          have c3b0 : decide (x5_1 < (x0_1.length : Int)) = true := decide_eq_true c3
          have C3 := Aside0.mk c3
          have C5 := Aside0.mk c5
          replace c3 := eq_true c3
          replace c5 := eq_true c5
          clear hcl hM hcc hfr hH hR1 hoki hx1 hf1
          have HG := Aside0.mk hgb
          clear hgb hgc
          go_wp2_with (first | ((with_reducible refine gate_store (t := 2) (p := 16) rfl ?_); refine store_event (t := 2) (p := 16) (v := ?vo_w11) (w1 := (wr.setCell ⟨g, (x5_1 : Int).toNat * 2, none⟩ (.int .i64 x1_1))) ?hg ?ho ?hn ?hr ?_; (case ho => rfl); (case hg => rfl); (case hn => rfl); (case hr => first | (go_simp; done) | (go_simp; rfl)); intro w11 hw; have hg : wr.grownBy w11 (some g) := (by rw [hw]; exact HP.2); have HO1 : Kd.S k149 149 w11 w0.heap.size (fun k_ => (P0_ k_ ∨ w.heap.size ≤ k_)) (.slice (some ⟨g, 0, none⟩) x0_1.length cap) (x0_1.set x5_1.toNat (⟨x1_1, (rd_T149 x0_1 x5_1).f1⟩ : S149)) := (by rw [hw]; exact HP.1); clear HP; have HB1 := Aside0.mk ((by rw [hw]; exact below_set (HBq.out) HG.out : Below w0.heap.size w0 w11)); have HK1 := Aside0.mk (Kept.of_grown (S := (fun k_ => P0_ k_)) hg HKq.out (fun k_ e_ => ((Kd.S_R HO_0.out).1 k_ e_))); obtain ⟨oki2, c2, hcl2, hM2, hcc2, hoki2, hH2⟩ := Kd.S_lend HO1 ⟨0, []⟩ x5_1 C5.out C3.out; replace hM2 := (show ((x0_1.set x5_1.toNat (⟨x1_1, (rd_T149 x0_1 x5_1).f1⟩ : S149)).getD x5_1.toNat ⟨0, []⟩) = (⟨x1_1, (rd_T149 x0_1 x5_1).f1⟩ : S149) from (by rw [List.getD_eq_getElem?_getD, List.getElem?_set_self (by have h3_ := C3.out; have h5_ := C5.out; omega)]; rfl)) ▸ hM2; obtain ⟨v2, rfl, hR2⟩ := k149_openM hM2; have hx2 : w11.cell? ⟨g, (x5_1 : Int).toNat * 2 + 1, none⟩ = some v2 := hcc2 1 _ rfl; have HR2 := Aside0.mk hR2; have HH2 := Aside0.mk hH2; have HI2 := Aside0.mk hoki2; clear hR2 hH2 hoki2 hcl2 hM2 hcc2 HO1 hg hw hx0 hf0) | ((with_reducible refine gate_callee (f := 115) rfl ?_); refine goesL_ (some 25) rfl rfl Try.func115 (by kernel_rfl) rfl #[v2, .int .i64 (wrap64 (x1_1 + 1))] rfl (by (try simp only [List.map_toArray, List.map_cons, List.map_nil]); first | done | rfl | (simp only [List.length_drop, List.length_take]; rfl)) ?_; refine (laws_markUint64S.calls k1 oki2 v2 _ (wrap64 (x1_1 + 1)) t1 t2 w0 _ (by repeat (first | (with_reducible first | exact HB1.out | apply below_alloc | apply pw_below_drewN | apply below_drew1) | exact HB1.out)) (by (with_reducible repeat (first | apply Kd.R_alloc | apply Kd.R_drewN | apply Kd.R_drew)); exact HR2.out) A4.out).mono ?_; rintro e w12 ⟨rfl, hr', hb', hk'⟩; refine ⟨_, rfl, ?_⟩; have HS := Aside0.mk (Kd.H_back (Kd.H_step (Kd.H_widen HH2.out) (fun k _ hn hlt => hk'.2 k hlt (fun h => hn (.inl h)))) (k149_mkM _ _ _ (⟨x1_1, t2⟩ : S149) hr') (fun k hk => hk.elim .inl (fun h => .inr ⟨.inr (Nat.le_trans HK1.out.1 h), h⟩))); have HK2 := Aside0.mk (Kept.then_ HK1.out hk' (fun k hk => (HI2.out k hk).1)); have HB2 := Aside0.mk hb'; clear hr' hb' hk' HH2 HR2 HI2 hx2))
          go_roundg k1
          case measure => have := HKk.out; omega
          case rel => exact ⟨_, _, _, (by first | rfl | (simp; done)), (by first | rfl | (simp; done)), H', ⟨by have := HKk.out; omega⟩, ⟨by first | exact HS.out | (have := HS.out; rw [List.set_set] at this; exact this)⟩, ⟨HK2.out⟩, ⟨HB2.out⟩⟩
        · rw [if_neg c5] at H
          exact absurd H (by simp)
      · rw [if_neg c3] at H
        have c3b0 : decide (x5_1 < (x0_1.length : Int)) = false := decide_eq_false c3
        clear c3
        simp only [Option.some.injEq, Prod.mk.injEq] at H
        obtain ⟨rfl, rfl⟩ := H
        obtain ⟨Ao14, co14, eo14⟩ := Kd.S_slice HO_0.out
        subst eo14
        go_wp2
        go_ret
        exact ⟨by first | rfl | (simp; done), HO_0.out, HBq.out, HKq.out⟩


/-! ### laws_FnExactValuesBy: function 5 -/
def laws_FnExactValuesBy.f (k : Nat) (l0 : List (S142)) (l1 : List Bool) : Option (Bool) := if (l1.length : Int) > 1048576 then some true else (laws_szDeclS.f k l0 1048576).bind fun t22 => if t22 < 0 then some true else (laws_toDeclS.f k l0).bind fun t27 => (laws_toBoolS.f k l1).bind fun t29 => (spec_ValuesBy.f k t27 t29).bind fun bt30 => (laws_toDeclS.f k l0).bind fun t34 => (laws_toBoolS.f k l1).bind fun t36 => (impl_ValuesBy.f k t34 t36).bind fun bt40 => (laws_eqBitsS.f k bt40.1 bt30.1).bind fun t45 => if t45 = true then (if (bt40.2 != bt30.2) = true then none else (laws_toDeclS.f k l0).bind fun t54 => (laws_eqDeclS.f k t34 t54).bind fun t55 => if t55 = true then ((laws_toBoolS.f k l1).bind fun t59 => (laws_eqBoolS.f k t36 t59).bind fun t60 => if t60 = true then ((laws_markDeclS.f k t34 1).bind fun bt64 => (laws_markBoolS.f k t36 bt64.1).bind fun bt67 => (laws_eqBitsS.f k bt40.1 bt30.1).bind fun t73 => if bt67.1 < 0 then none else if t73 = true then (if (bt40.2 != bt30.2) = true then none else (laws_markBitsS.f k bt40.1 1).bind fun bt83 => (laws_heldBitsS.f k bt83.2 1).bind fun t86 => if t86 < 0 then none else if t86 = bt83.1 then ((laws_toDeclS.f k l0).bind fun t94 => (laws_toBoolS.f k l1).bind fun t96 => (impl_ValuesBy.f k t94 t96).bind fun bt97 => (laws_eqBitsS.f k bt97.1 bt30.1).bind fun t102 => if t102 = true then (if (bt97.2 != bt30.2) = true then none else (laws_heldBitsS.f k bt83.2 1).bind fun t111 => if t111 < 0 then none else if t111 = bt83.1 then (some true) else none) else none) else none) else none) else none) else none) else none
set_option maxHeartbeats 8000000 in
set_option maxRecDepth 100000 in
theorem laws_FnExactValuesBy.calls (k : Nat) (A0 : Option Addr) (c0 : Nat) (l0 : List (S142)) (A1 : Option Addr) (c1 : Nat) (l1 : List Bool) (r : Bool) (w : World) (hr0 : Kd.C k142 w A0 l0.length l0) (hc0 : l0.length ≤ c0) (hr1 : Kd.C Kd.bool w A1 l1.length l1) (hc1 : l1.length ≤ c1) (h : laws_FnExactValuesBy.f k l0 l1 = some r) :
    Calls Try.prog 5 #[.slice A0 l0.length c0, .slice A1 l1.length c1] w fun e w' => e = .returned (.bool r) ∧ Below w.heap.size w w' := by
  have HR0 := Aside0.mk hr0; have HC0 := Aside0.mk hc0; clear hr0 hc0
  have HR1 := Aside0.mk hr1; have HC1 := Aside0.mk hc1; clear hr1 hc1
  have H := St.nil w
  unfold laws_FnExactValuesBy.f at h
  by_cases c1_ : (l1.length : Int) > 1048576
  · rw [if_pos c1_] at h
    obtain rfl := Option.some.inj h
    have c1b := decide_eq_true c1_
    have c1x : decide (1048576 < (l1.length : Int)) = true := decide_eq_true c1_
    clear c1_ h
    go_enter Try.func5, Try.ntmps5
    go_wp2
    go_ret
    exact ⟨by first | rfl | (simp; done), (St.lift H).below⟩
  rw [if_neg c1_] at h; have c1b := decide_eq_false c1_
  have c1x : decide (1048576 < (l1.length : Int)) = false := decide_eq_false c1_
  clear c1_
  obtain ⟨t22, A22_, h_⟩ := Option.bind_eq_some_iff.mp h; clear h; have h := h_; clear h_
  have A22 := Aside0.mk A22_; clear A22_
  try dsimp only at h
  by_cases c2_ : t22 < 0
  · rw [if_pos c2_] at h
    obtain rfl := Option.some.inj h
    have c2b := decide_eq_true c2_
    clear c2_ h
    go_enter Try.func5, Try.ntmps5
    go_wp2_with (first | ((with_reducible refine gate_dst (N := 22) rfl ?_); go_loud (refine goesL_ (some 22) rfl rfl Try.func31 (by kernel_rfl) rfl #[.slice A0 l0.length c0, .int .i64 1048576] rfl (by (try simp only [List.map_toArray, List.map_cons, List.map_nil]); first | done | rfl) ?_; refine (laws_szDeclS.calls (hr0 := Kd.C_below HR0.out (St.lift H).below) (hc0 := HC0.out) (h := A22.out)).mono ?_; rintro e w22 ⟨rfl, hb_⟩; refine ⟨_, rfl, ?_⟩; replace H := St.call H hb_; clear hb_)))
    go_ret
    exact ⟨by first | rfl | (simp; done), (St.lift H).below⟩
  rw [if_neg c2_] at h; have c2b := decide_eq_false c2_
  clear c2_
  obtain ⟨t27, A27_, h_⟩ := Option.bind_eq_some_iff.mp h; clear h; have h := h_; clear h_
  have A27 := Aside0.mk A27_; clear A27_
  try dsimp only at h
  obtain ⟨t29, A29_, h_⟩ := Option.bind_eq_some_iff.mp h; clear h; have h := h_; clear h_
  have A29 := Aside0.mk A29_; clear A29_
  try dsimp only at h
  obtain ⟨⟨t30_1, t30_2⟩, A30_, h_⟩ := Option.bind_eq_some_iff.mp h; clear h; have h := h_; clear h_
  have A30 := Aside0.mk A30_; clear A30_
  try dsimp only at h
  obtain ⟨t34, A34_, h_⟩ := Option.bind_eq_some_iff.mp h; clear h; have h := h_; clear h_
  have A34 := Aside0.mk A34_; clear A34_
  try dsimp only at h
  obtain ⟨t36, A36_, h_⟩ := Option.bind_eq_some_iff.mp h; clear h; have h := h_; clear h_
  have A36 := Aside0.mk A36_; clear A36_
  try dsimp only at h
  obtain ⟨⟨t40_1, t40_2⟩, A40_, h_⟩ := Option.bind_eq_some_iff.mp h; clear h; have h := h_; clear h_
  have A40 := Aside0.mk A40_; clear A40_
  try dsimp only at h
  obtain ⟨t45, A45_, h_⟩ := Option.bind_eq_some_iff.mp h; clear h; have h := h_; clear h_
  have A45 := Aside0.mk A45_; clear A45_
  try dsimp only at h
  obtain ⟨c3_, h_⟩ := iteP_ h; clear h; have h := h_; clear h_; subst c3_
  obtain ⟨c4_, h_⟩ := iteN_ h; clear h; have h := h_; clear h_; have c4b : (t40_2 != t30_2) = false := by simpa using c4_
  have c4d : decide (t40_2 = t30_2) = true := by simpa using c4_
  have c4e : (t40_2 == t30_2) = true := by simpa using c4_
  clear c4_
  obtain ⟨t54, A54_, h_⟩ := Option.bind_eq_some_iff.mp h; clear h; have h := h_; clear h_
  have A54 := Aside0.mk A54_; clear A54_
  try dsimp only at h
  obtain ⟨t55, A55_, h_⟩ := Option.bind_eq_some_iff.mp h; clear h; have h := h_; clear h_
  have A55 := Aside0.mk A55_; clear A55_
  try dsimp only at h
  obtain ⟨c5_, h_⟩ := iteP_ h; clear h; have h := h_; clear h_; subst c5_
  obtain ⟨t59, A59_, h_⟩ := Option.bind_eq_some_iff.mp h; clear h; have h := h_; clear h_
  have A59 := Aside0.mk A59_; clear A59_
  try dsimp only at h
  obtain ⟨t60, A60_, h_⟩ := Option.bind_eq_some_iff.mp h; clear h; have h := h_; clear h_
  have A60 := Aside0.mk A60_; clear A60_
  try dsimp only at h
  obtain ⟨c6_, h_⟩ := iteP_ h; clear h; have h := h_; clear h_; subst c6_
  obtain ⟨⟨t64_1, t64_2⟩, A64_, h_⟩ := Option.bind_eq_some_iff.mp h; clear h; have h := h_; clear h_
  have A64 := Aside0.mk A64_; clear A64_
  try dsimp only at h
  obtain ⟨⟨t67_1, t67_2⟩, A67_, h_⟩ := Option.bind_eq_some_iff.mp h; clear h; have h := h_; clear h_
  have A67 := Aside0.mk A67_; clear A67_
  try dsimp only at h
  obtain ⟨t73, A73_, h_⟩ := Option.bind_eq_some_iff.mp h; clear h; have h := h_; clear h_
  have A73 := Aside0.mk A73_; clear A73_
  try dsimp only at h
  obtain ⟨c7_, h_⟩ := iteN_ h; clear h; have h := h_; clear h_; have c7b := decide_eq_false c7_; clear c7_
  obtain ⟨c8_, h_⟩ := iteP_ h; clear h; have h := h_; clear h_; subst c8_
  obtain ⟨c9_, h_⟩ := iteN_ h; clear h; have h := h_; clear h_; have c9b : (t40_2 != t30_2) = false := by simpa using c9_
  have c9d : decide (t40_2 = t30_2) = true := by simpa using c9_
  have c9e : (t40_2 == t30_2) = true := by simpa using c9_
  clear c9_
  obtain ⟨⟨t83_1, t83_2⟩, A83_, h_⟩ := Option.bind_eq_some_iff.mp h; clear h; have h := h_; clear h_
  have A83 := Aside0.mk A83_; clear A83_
  try dsimp only at h
  obtain ⟨t86, A86_, h_⟩ := Option.bind_eq_some_iff.mp h; clear h; have h := h_; clear h_
  have A86 := Aside0.mk A86_; clear A86_
  try dsimp only at h
  obtain ⟨c10_, h_⟩ := iteN_ h; clear h; have h := h_; clear h_; have c10b := decide_eq_false c10_; clear c10_
  obtain ⟨c11_, h_⟩ := iteP_ h; clear h; have h := h_; clear h_; have c11b : (t86 != t83_1) = false := by simpa using c11_
  have c11d : decide (t86 = t83_1) = true := by simpa using c11_
  have c11e : (t86 == t83_1) = true := by simpa using c11_
  clear c11_
  obtain ⟨t94, A94_, h_⟩ := Option.bind_eq_some_iff.mp h; clear h; have h := h_; clear h_
  have A94 := Aside0.mk A94_; clear A94_
  try dsimp only at h
  obtain ⟨t96, A96_, h_⟩ := Option.bind_eq_some_iff.mp h; clear h; have h := h_; clear h_
  have A96 := Aside0.mk A96_; clear A96_
  try dsimp only at h
  obtain ⟨⟨t97_1, t97_2⟩, A97_, h_⟩ := Option.bind_eq_some_iff.mp h; clear h; have h := h_; clear h_
  have A97 := Aside0.mk A97_; clear A97_
  try dsimp only at h
  obtain ⟨t102, A102_, h_⟩ := Option.bind_eq_some_iff.mp h; clear h; have h := h_; clear h_
  have A102 := Aside0.mk A102_; clear A102_
  try dsimp only at h
  obtain ⟨c12_, h_⟩ := iteP_ h; clear h; have h := h_; clear h_; subst c12_
  obtain ⟨c13_, h_⟩ := iteN_ h; clear h; have h := h_; clear h_; have c13b : (t97_2 != t30_2) = false := by simpa using c13_
  have c13d : decide (t97_2 = t30_2) = true := by simpa using c13_
  have c13e : (t97_2 == t30_2) = true := by simpa using c13_
  clear c13_
  obtain ⟨t111, A111_, h_⟩ := Option.bind_eq_some_iff.mp h; clear h; have h := h_; clear h_
  have A111 := Aside0.mk A111_; clear A111_
  try dsimp only at h
  obtain ⟨c14_, h_⟩ := iteN_ h; clear h; have h := h_; clear h_; have c14b := decide_eq_false c14_; clear c14_
  obtain ⟨c15_, h_⟩ := iteP_ h; clear h; have h := h_; clear h_; have c15b : (t111 != t83_1) = false := by simpa using c15_
  have c15d : decide (t111 = t83_1) = true := by simpa using c15_
  have c15e : (t111 == t83_1) = true := by simpa using c15_
  clear c15_
  obtain rfl := Option.some.inj h; clear h
  go_enter Try.func5, Try.ntmps5
  go_wp2_with (first | ((with_reducible refine gate_dst (N := 22) rfl ?_); go_loud (refine goesL_ (some 22) rfl rfl Try.func31 (by kernel_rfl) rfl #[.slice A0 l0.length c0, .int .i64 1048576] rfl (by (try simp only [List.map_toArray, List.map_cons, List.map_nil]); first | done | rfl) ?_; refine (laws_szDeclS.calls (hr0 := Kd.C_below HR0.out (St.lift H).below) (hc0 := HC0.out) (h := A22.out)).mono ?_; rintro e w22 ⟨rfl, hb_⟩; refine ⟨_, rfl, ?_⟩; replace H := St.call H hb_; clear hb_)) | ((with_reducible refine gate_dst (N := 27) rfl ?_); go_loud (refine goesL_ (some 27) rfl rfl Try.func33 (by kernel_rfl) rfl #[.slice A0 l0.length c0] rfl (by (try simp only [List.map_toArray, List.map_cons, List.map_nil]); first | done | rfl) ?_; refine (laws_toDeclS.calls (hr0 := Kd.C_below HR0.out (St.lift H).below) (hc0 := HC0.out) (h := A27.out)).mono ?_; rintro e w27 ⟨v0x27, rfl, ho_, hb_⟩; refine ⟨_, rfl, ?_⟩; obtain ⟨ok27_, a27_, cc27_, rfl, kc27_, H_⟩ := St.callR H hb_ ho_; clear H hb_ ho_; have H := H_; clear H_)) | ((with_reducible refine gate_dst (N := 29) rfl ?_); go_loud (refine goesL_ (some 29) rfl rfl Try.func34 (by kernel_rfl) rfl #[.slice A1 l1.length c1] rfl (by (try simp only [List.map_toArray, List.map_cons, List.map_nil]); first | done | rfl) ?_; refine (laws_toBoolS.calls (hr0 := Kd.C_below HR1.out (St.lift H).below) (hc0 := HC1.out) (h := A29.out)).mono ?_; rintro e w29 ⟨v0x29, rfl, ho_, hb_⟩; refine ⟨_, rfl, ?_⟩; obtain ⟨ok29_, a29_, cc29_, rfl, kc29_, H_⟩ := St.callR H hb_ ho_; clear H hb_ ho_; have H := H_; clear H_)) | ((with_reducible refine gate_dst (N := 30) rfl ?_); go_loud (refine goesL_ (some 30) rfl rfl Try.func32 (by kernel_rfl) rfl #[.slice a27_ t27.length cc27_, .slice a29_ t29.length cc29_] rfl (by (try simp only [List.map_toArray, List.map_cons, List.map_nil]); first | done | rfl) ?_; refine (spec_ValuesBy.calls (hr0 := (Kd.R_reads' (St.getR H 1 rfl)).2.2) (hc0 := kc27_.out) (hr1 := (Kd.R_reads' (St.getR H 0 rfl)).2.2) (hc1 := kc29_.out) (h := A30.out)).mono ?_; rintro e w30 ⟨v0x30, rfl, ho_, hb_⟩; refine ⟨_, rfl, ?_⟩; obtain ⟨ok30_, a30_, cc30_, rfl, kc30_, H_⟩ := St.callS H hb_ ho_; clear H hb_ ho_; have H := H_; clear H_; replace H := St.drop H 1; replace H := St.drop H 1; (try dsimp only [put, cutAt] at H))) | ((with_reducible refine gate_dst (N := 34) rfl ?_); go_loud (refine goesL_ (some 34) rfl rfl Try.func33 (by kernel_rfl) rfl #[.slice A0 l0.length c0] rfl (by (try simp only [List.map_toArray, List.map_cons, List.map_nil]); first | done | rfl) ?_; refine (laws_toDeclS.calls (hr0 := Kd.C_below HR0.out (St.lift H).below) (hc0 := HC0.out) (h := A34.out)).mono ?_; rintro e w34 ⟨v0x34, rfl, ho_, hb_⟩; refine ⟨_, rfl, ?_⟩; obtain ⟨ok34_, a34_, cc34_, rfl, kc34_, H_⟩ := St.callR H hb_ ho_; clear H hb_ ho_; have H := H_; clear H_)) | ((with_reducible refine gate_dst (N := 36) rfl ?_); go_loud (refine goesL_ (some 36) rfl rfl Try.func34 (by kernel_rfl) rfl #[.slice A1 l1.length c1] rfl (by (try simp only [List.map_toArray, List.map_cons, List.map_nil]); first | done | rfl) ?_; refine (laws_toBoolS.calls (hr0 := Kd.C_below HR1.out (St.lift H).below) (hc0 := HC1.out) (h := A36.out)).mono ?_; rintro e w36 ⟨v0x36, rfl, ho_, hb_⟩; refine ⟨_, rfl, ?_⟩; obtain ⟨ok36_, a36_, cc36_, rfl, kc36_, H_⟩ := St.callR H hb_ ho_; clear H hb_ ho_; have H := H_; clear H_)) | ((with_reducible refine gate_dst (N := 40) rfl ?_); go_loud (refine goesL_ (some 40) rfl rfl Try.func35 (by kernel_rfl) rfl #[.slice a34_ t34.length cc34_, .slice a36_ t36.length cc36_] rfl (by (try simp only [List.map_toArray, List.map_cons, List.map_nil]); first | done | rfl) ?_; refine (impl_ValuesBy.calls (hr0 := (Kd.R_reads' (St.getR H 1 rfl)).2.2) (hc0 := kc34_.out) (hr1 := (Kd.R_reads' (St.getR H 0 rfl)).2.2) (hc1 := kc36_.out) (h := A40.out)).mono ?_; rintro e w40 ⟨v0x40, rfl, ho_, hb_⟩; refine ⟨_, rfl, ?_⟩; obtain ⟨ok40_, a40_, cc40_, rfl, kc40_, H_⟩ := St.callS H hb_ ho_; clear H hb_ ho_; have H := H_; clear H_)) | ((with_reducible refine gate_dst (N := 45) rfl ?_); go_loud (refine goesL_ (some 45) rfl rfl Try.func36 (by kernel_rfl) rfl #[.slice a40_ t40_1.length cc40_, .slice a30_ t30_1.length cc30_] rfl (by (try simp only [List.map_toArray, List.map_cons, List.map_nil]); first | done | rfl) ?_; refine (laws_eqBitsS.calls (hr0 := (Kd.S_reads' (St.getS H 0 rfl)).2.2) (hc0 := kc40_.out) (hr1 := (Kd.S_reads' (St.getS H 3 rfl)).2.2) (hc1 := kc30_.out) (h := A45.out)).mono ?_; rintro e w45 ⟨rfl, hb_⟩; refine ⟨_, rfl, ?_⟩; replace H := St.call H hb_; clear hb_)) | ((with_reducible refine gate_dst (N := 54) rfl ?_); go_loud (refine goesL_ (some 54) rfl rfl Try.func33 (by kernel_rfl) rfl #[.slice A0 l0.length c0] rfl (by (try simp only [List.map_toArray, List.map_cons, List.map_nil]); first | done | rfl) ?_; refine (laws_toDeclS.calls (hr0 := Kd.C_below HR0.out (St.lift H).below) (hc0 := HC0.out) (h := A54.out)).mono ?_; rintro e w54 ⟨v0x54, rfl, ho_, hb_⟩; refine ⟨_, rfl, ?_⟩; obtain ⟨ok54_, a54_, cc54_, rfl, kc54_, H_⟩ := St.callR H hb_ ho_; clear H hb_ ho_; have H := H_; clear H_)) | ((with_reducible refine gate_dst (N := 55) rfl ?_); go_loud (refine goesL_ (some 55) rfl rfl Try.func37 (by kernel_rfl) rfl #[.slice a34_ t34.length cc34_, .slice a54_ t54.length cc54_] rfl (by (try simp only [List.map_toArray, List.map_cons, List.map_nil]); first | done | rfl) ?_; refine (laws_eqDeclS.calls (hr0 := (Kd.R_reads' (St.getR H 3 rfl)).2.2) (hc0 := kc34_.out) (hr1 := (Kd.R_reads' (St.getR H 0 rfl)).2.2) (hc1 := kc54_.out) (h := A55.out)).mono ?_; rintro e w55 ⟨rfl, hb_⟩; refine ⟨_, rfl, ?_⟩; replace H := St.call H hb_; clear hb_; replace H := St.drop H 0; (try dsimp only [put, cutAt] at H))) | ((with_reducible refine gate_dst (N := 59) rfl ?_); go_loud (refine goesL_ (some 59) rfl rfl Try.func34 (by kernel_rfl) rfl #[.slice A1 l1.length c1] rfl (by (try simp only [List.map_toArray, List.map_cons, List.map_nil]); first | done | rfl) ?_; refine (laws_toBoolS.calls (hr0 := Kd.C_below HR1.out (St.lift H).below) (hc0 := HC1.out) (h := A59.out)).mono ?_; rintro e w59 ⟨v0x59, rfl, ho_, hb_⟩; refine ⟨_, rfl, ?_⟩; obtain ⟨ok59_, a59_, cc59_, rfl, kc59_, H_⟩ := St.callR H hb_ ho_; clear H hb_ ho_; have H := H_; clear H_)) | ((with_reducible refine gate_dst (N := 60) rfl ?_); go_loud (refine goesL_ (some 60) rfl rfl Try.func38 (by kernel_rfl) rfl #[.slice a36_ t36.length cc36_, .slice a59_ t59.length cc59_] rfl (by (try simp only [List.map_toArray, List.map_cons, List.map_nil]); first | done | rfl) ?_; refine (laws_eqBoolS.calls (hr0 := (Kd.R_reads' (St.getR H 2 rfl)).2.2) (hc0 := kc36_.out) (hr1 := (Kd.R_reads' (St.getR H 0 rfl)).2.2) (hc1 := kc59_.out) (h := A60.out)).mono ?_; rintro e w60 ⟨rfl, hb_⟩; replace hb_ := hb_.below; refine ⟨_, rfl, ?_⟩; replace H := St.call H hb_; clear hb_; replace H := St.drop H 0; (try dsimp only [put, cutAt] at H))) | ((with_reducible refine gate_dst (N := 64) rfl ?_); go_loud (refine goesL_ (some 64) rfl rfl Try.func39 (by kernel_rfl) rfl #[.slice a34_ t34.length cc34_, .int .i64 1] rfl (by (try simp only [List.map_toArray, List.map_cons, List.map_nil]); first | done | rfl) ?_; refine (laws_markDeclS.calls (P0_ := ok34_) (u9000_ := .slice a34_ t34.length cc34_) (ho0 := St.getR H 2 rfl) (hB := (St.lift H).below) (h := A64.out)).mono ?_; rintro e w64 ⟨rfl, hs_, hb_, hk_⟩; refine ⟨_, rfl, ?_⟩; replace H := St.markR H 2 rfl hs_ hb_ hk_; (try dsimp only [put, cutAt] at H); clear hs_ hb_ hk_; replace H := St.drop H 2; (try dsimp only [put, cutAt] at H))) | ((with_reducible refine gate_dst (N := 67) rfl ?_); go_loud (refine goesL_ (some 67) rfl rfl Try.func40 (by kernel_rfl) rfl #[.slice a36_ t36.length cc36_, .int .i64 t64_1] rfl (by (try simp only [List.map_toArray, List.map_cons, List.map_nil]); first | done | rfl) ?_; refine (laws_markBoolS.calls (P0_ := ok36_) (u9000_ := .slice a36_ t36.length cc36_) (ho0 := St.getR H 1 rfl) (hB := (St.lift H).below) (h := A67.out)).mono ?_; rintro e w67 ⟨rfl, hs_, hb_, hk_⟩; refine ⟨_, rfl, ?_⟩; replace H := St.markR H 1 rfl hs_ hb_ hk_; (try dsimp only [put, cutAt] at H); clear hs_ hb_ hk_; replace H := St.drop H 1; (try dsimp only [put, cutAt] at H))) | ((with_reducible refine gate_dst (N := 83) rfl ?_); go_loud (refine goesL_ (some 83) rfl rfl Try.func41 (by kernel_rfl) rfl #[.slice a40_ t40_1.length cc40_, .int .i64 1] rfl (by (try simp only [List.map_toArray, List.map_cons, List.map_nil]); first | done | rfl) ?_; refine (laws_markBitsS.calls (P0_ := ok40_) (u9000_ := .slice a40_ t40_1.length cc40_) (ho0 := St.getS H 0 rfl) (hB := (St.lift H).below) (h := A83.out)).mono ?_; rintro e w83 ⟨rfl, hs_, hb_, hk_⟩; refine ⟨_, rfl, ?_⟩; replace H := St.markS H 0 rfl hs_ hb_ hk_; (try dsimp only [put, cutAt] at H); have e_ := (Kd.S_reads' hs_).1; have kc40_m := Aside0.mk (Kd.S_reads' hs_).2.1; rw [e_] at H kc40_m; obtain ⟨ok40_m, H_⟩ : ∃ ok_, Aside0 (St w w83 [Ob.S w k149 149 ok_ (.slice a40_ t83_2.length cc40_) t83_2, Ob.S w k149 149 ok30_ (.slice a30_ t30_1.length cc30_) t30_1]) := ⟨_, H⟩; clear H; have H := H_; clear H_; clear hs_ hb_ hk_; (rw [e_]); clear e_)) | ((with_reducible refine gate_dst (N := 86) rfl ?_); go_loud (refine goesL_ (some 86) rfl rfl Try.func42 (by kernel_rfl) rfl #[.slice a40_ t83_2.length cc40_, .int .i64 1] rfl (by (try simp only [List.map_toArray, List.map_cons, List.map_nil]); first | done | rfl) ?_; refine (laws_heldBitsS.calls (hr0 := (Kd.S_reads' (St.getS H 0 rfl)).2.2) (hc0 := kc40_m.out) (h := A86.out)).mono ?_; rintro e w86 ⟨rfl, hb_⟩; replace hb_ := hb_.below; refine ⟨_, rfl, ?_⟩; replace H := St.call H hb_; clear hb_)) | ((with_reducible refine gate_dst (N := 94) rfl ?_); go_loud (refine goesL_ (some 94) rfl rfl Try.func33 (by kernel_rfl) rfl #[.slice A0 l0.length c0] rfl (by (try simp only [List.map_toArray, List.map_cons, List.map_nil]); first | done | rfl) ?_; refine (laws_toDeclS.calls (hr0 := Kd.C_below HR0.out (St.lift H).below) (hc0 := HC0.out) (h := A94.out)).mono ?_; rintro e w94 ⟨v0x94, rfl, ho_, hb_⟩; refine ⟨_, rfl, ?_⟩; obtain ⟨ok94_, a94_, cc94_, rfl, kc94_, H_⟩ := St.callR H hb_ ho_; clear H hb_ ho_; have H := H_; clear H_)) | ((with_reducible refine gate_dst (N := 96) rfl ?_); go_loud (refine goesL_ (some 96) rfl rfl Try.func34 (by kernel_rfl) rfl #[.slice A1 l1.length c1] rfl (by (try simp only [List.map_toArray, List.map_cons, List.map_nil]); first | done | rfl) ?_; refine (laws_toBoolS.calls (hr0 := Kd.C_below HR1.out (St.lift H).below) (hc0 := HC1.out) (h := A96.out)).mono ?_; rintro e w96 ⟨v0x96, rfl, ho_, hb_⟩; refine ⟨_, rfl, ?_⟩; obtain ⟨ok96_, a96_, cc96_, rfl, kc96_, H_⟩ := St.callR H hb_ ho_; clear H hb_ ho_; have H := H_; clear H_)) | ((with_reducible refine gate_dst (N := 97) rfl ?_); go_loud (refine goesL_ (some 97) rfl rfl Try.func35 (by kernel_rfl) rfl #[.slice a94_ t94.length cc94_, .slice a96_ t96.length cc96_] rfl (by (try simp only [List.map_toArray, List.map_cons, List.map_nil]); first | done | rfl) ?_; refine (impl_ValuesBy.calls (hr0 := (Kd.R_reads' (St.getR H 1 rfl)).2.2) (hc0 := kc94_.out) (hr1 := (Kd.R_reads' (St.getR H 0 rfl)).2.2) (hc1 := kc96_.out) (h := A97.out)).mono ?_; rintro e w97 ⟨v0x97, rfl, ho_, hb_⟩; refine ⟨_, rfl, ?_⟩; obtain ⟨ok97_, a97_, cc97_, rfl, kc97_, H_⟩ := St.callS H hb_ ho_; clear H hb_ ho_; have H := H_; clear H_; replace H := St.drop H 1; replace H := St.drop H 1; (try dsimp only [put, cutAt] at H))) | ((with_reducible refine gate_dst (N := 102) rfl ?_); go_loud (refine goesL_ (some 102) rfl rfl Try.func36 (by kernel_rfl) rfl #[.slice a97_ t97_1.length cc97_, .slice a30_ t30_1.length cc30_] rfl (by (try simp only [List.map_toArray, List.map_cons, List.map_nil]); first | done | rfl) ?_; refine (laws_eqBitsS.calls (hr0 := (Kd.S_reads' (St.getS H 0 rfl)).2.2) (hc0 := kc97_.out) (hr1 := (Kd.S_reads' (St.getS H 2 rfl)).2.2) (hc1 := kc30_.out) (h := A102.out)).mono ?_; rintro e w102 ⟨rfl, hb_⟩; refine ⟨_, rfl, ?_⟩; replace H := St.call H hb_; clear hb_; replace H := St.drop H 0; replace H := St.drop H 1; (try dsimp only [put, cutAt] at H))) | ((with_reducible refine gate_dst (N := 111) rfl ?_); go_loud (refine goesL_ (some 111) rfl rfl Try.func42 (by kernel_rfl) rfl #[.slice a40_ t83_2.length cc40_, .int .i64 1] rfl (by (try simp only [List.map_toArray, List.map_cons, List.map_nil]); first | done | rfl) ?_; refine (laws_heldBitsS.calls (hr0 := (Kd.S_reads' (St.getS H 0 rfl)).2.2) (hc0 := kc40_m.out) (h := A111.out)).mono ?_; rintro e w111 ⟨rfl, hb_⟩; replace hb_ := hb_.below; refine ⟨_, rfl, ?_⟩; replace H := St.call H hb_; clear hb_; replace H := St.drop H 0; (try dsimp only [put, cutAt] at H))) | (go_at_call 36; go_loud (refine (laws_eqBitsS.calls (hr0 := (Kd.S_reads' (St.getS H 0 rfl)).2.2) (hc0 := kc40_.out) (hr1 := (Kd.S_reads' (St.getS H 1 rfl)).2.2) (hc1 := kc30_.out) (h := A73.out)).mono ?_; rintro e w73 ⟨rfl, hb_⟩; replace H := St.call H hb_; clear hb_)))
  go_ret
  exact ⟨by first | rfl | (simp; done), (St.lift H).below⟩

end Go.Proofs.Ytjmnhcooimdioaa.PFnExactValuesBy
