-- Written by a program of this session (lawx3.sh, lawwalk3.py); Lean checks it.
import Derived.Test.YtjnmenadlnajeaaPFnExactFlatPartx0
import Derived.Test.YtjnmenadlnajeaaPFnExactFlatPartx1
import Derived.Test.YtjnmenadlnajeaaPFnExactFlatPartx2
import Derived.Test.YtjnmenadlnajeaaPFnExactFlatPartx3
import Derived.Test.YtjnmenadlnajeaaPFnExactFlatPartx4
import Derived.Test.YtjnmenadlnajeaaPFnExactFlatPartx5
import Derived.Test.YtjnmenadlnajeaaPFnExactFlatPartx6
import Derived.Test.YtjnmenadlnajeaaPFnExactFlatPartx7
import Derived.Test.YtjnmenadlnajeaaPFnExactFlatPartx8
import Derived.Test.YtjnmenadlnajeaaPFnExactFlatPartx9
import Derived.Test.YtjnmenadlnajeaaPFnExactFlatPartx10
import Derived.Test.YtjnmenadlnajeaaPFnExactFlatPartx11
import Derived.Test.YtjnmenadlnajeaaPFnExactFlatPartx12
import Derived.Test.YtjnmenadlnajeaaPFnExactFlatPartx13
import Derived.Test.YtjnmenadlnajeaaPFnExactFlatPartx14
import Derived.Test.YtjnmenadlnajeaaPFnExactFlatPartx15
import Derived.Test.YtjnmenadlnajeaaPFnExactFlatPartx16
import Derived.Test.YtjnmenadlnajeaaPFnExactFlatPartx17
import Derived.Test.YtjnmenadlnajeaaPFnExactFlatPartx18
import Derived.Test.YtjnmenadlnajeaaLaw
namespace Go.Proofs.Ytjnmenadlnajeaa.PFnExactFlatPart
open Go.RowKit Go.Proofs.YtjnmenadlnajeaaW.PrintWords Go.Proofs.YtjnmenadlnajeaaW.PrintLast Go.Proofs.YtjnmenadlnajeaaW.PrintMore
attribute [local go_sem] max2_int min2_int max_two min_two max_three min_three max_four min_four   -- for this text's walks alone
set_option linter.unusedVariables false
set_option linter.unusedSimpArgs false

/-! ### laws_markSegS: function 15 -/
def laws_markSegS.l0 : Nat → List (S67) → Int → Int → Option (Int × (List (S67)))
  | 0, _, _, _ => none
  | k + 1, x0, x1, x5 => if x5 < (x0.length : Int) then (if 0 ≤ x5 then ((laws_markUint64S.f k (rd_T67 x0 x5).f3.f1 (wrap64 ((wrap64 ((wrap64 ((wrap64 (x1 + 1)) + 1)) + 1)) + 1))).bind fun t => laws_markSegS.l0 k (x0.set (x5 : Int).toNat (⟨x1, (wrap64 (x1 + 1)), (wrap64 ((wrap64 (x1 + 1)) + 1)), ⟨(wrap64 ((wrap64 ((wrap64 (x1 + 1)) + 1)) + 1)), t.2⟩⟩ : S67)) t.1 (wrap64 (x5 + 1))) else none) else some (x1, x0)
def laws_markSegS.f (k : Nat) (l0 : List (S67)) (a1 : Int) : Option (Int × (List (S67))) := laws_markSegS.l0 k l0 a1 0
set_option maxHeartbeats 8000000 in
set_option maxRecDepth 100000 in
theorem laws_markSegS.calls (k : Nat) (P0_ : Nat → Prop) (u9000_ : Value) (l0 : List (S67)) (a1 : Int) (r1 : Int) (r2 : List (S67)) (w0 w : World) (hB : Below w0.heap.size w0 w) (ho0 : Kd.S k67 67 w w0.heap.size P0_ u9000_ l0) (h : laws_markSegS.f k l0 a1 = some (r1, r2)) :
    Calls Try.prog 15 #[u9000_, .int .i64 a1] w fun e w' => e = .returned (.int .i64 r1) ∧ Kd.S k67 67 w' w0.heap.size (fun k_ => (P0_ k_ ∨ w.heap.size ≤ k_)) u9000_ r2 ∧ Below w0.heap.size w0 w' ∧ Kept w w' (fun k_ => P0_ k_) := by
  have hu67 := Try.underlying67
  have HO0 := Aside0.mk (show Kd.S k67 67 w w0.heap.size (fun k_ => (P0_ k_ ∨ w.heap.size ≤ k_)) u9000_ l0 from Kd.S_mono ho0 (fun k_ hk => (.inl hk)))
  have HK := Aside0.mk (Kept.refl w (fun k_ => P0_ k_))
  have HW0 := Aside0.mk hB.size
  have HB := Aside0.mk hB
  clear hB
  have H : (laws_markSegS.l0 k l0 a1 0) = some (r1, r2) := h
  clear h
  have H' := Aside0.mk H
  clear H
  go_enter Try.func15, Try.ntmps15
  go_wp2
  go_loopg [1, 5] k (fun kq v1 v5 w' => ∃ (x0_1 : List (S67)) (x1_1 : Int) (x5_1 : Int), v1 = .int .i64 x1_1 ∧ v5 = .int .i64 x5_1 ∧ Aside0 (laws_markSegS.l0 kq x0_1 x1_1 x5_1 = some (r1, r2)) ∧ Aside0 (kq ≤ k) ∧ Aside0 (Kd.S k67 67 w' w0.heap.size (fun k_ => (P0_ k_ ∨ w.heap.size ≤ k_)) u9000_ x0_1) ∧ Aside0 (Kept w w' (fun k_ => P0_ k_)) ∧ Aside0 (Below w0.heap.size w0 w'))
  case atStart => exact ⟨l0, a1, 0, (by first | rfl | (simp; done)), (by first | rfl | (simp; done)), H', ⟨Nat.le_refl _⟩, ⟨by (with_reducible repeat (first | apply Kd.S_alloc | apply Kd.S_drewN | apply Kd.S_drew)); exact HO0.out⟩, ⟨by repeat (first | (with_reducible first | exact HK.out | apply Kept.alloc | apply Kept.drewN | apply Kept.drew) | exact HK.out)⟩, ⟨by repeat (first | (with_reducible first | exact HB.out | apply below_alloc | apply pw_below_drewN | apply below_drew1) | exact HB.out)⟩⟩
  case round =>
    clear H' HO0
    obtain ⟨x0_1, x1_1, x5_1, rfl, rfl, HA, HKk, HO_0, HKq, HBq⟩ := hrel
    cases gk with
    | zero => exact absurd HA.out (by simp [laws_markSegS.l0])
    | succ k1 =>
      have H := HA.out
      clear HA
      simp only [laws_markSegS.l0] at H
      by_cases c3 : x5_1 < (x0_1.length : Int)
      · rw [if_pos c3] at H
        by_cases c5 : 0 ≤ x5_1
        · rw [if_pos c5] at H
          obtain ⟨⟨t1, t2⟩, A40, H⟩ := Option.bind_eq_some_iff.mp H
          replace H : laws_markSegS.l0 k1 (x0_1.set (x5_1 : Int).toNat (⟨x1_1, (wrap64 (x1_1 + 1)), (wrap64 ((wrap64 (x1_1 + 1)) + 1)), ⟨(wrap64 ((wrap64 ((wrap64 (x1_1 + 1)) + 1)) + 1)), t2⟩⟩ : S67)) t1 (wrap64 (x5_1 + 1)) = some (r1, r2) := H
          have A4 := Aside0.mk A40
          have H' := Aside0.mk H
          clear A40 H
          obtain ⟨g, cap, rfl, hgb, hgl, cells, hgc⟩ := Kd.S_form HO_0.out (by omega)
          have HG := Aside0.mk hgb
          clear hgb hgc
          obtain ⟨oki, c, hcl, hM, hcc, hfr, hoki, hH⟩ := Kd.S_elem HO_0.out z67 x5_1 c5 c3
          replace hM : k67.M wr w0.heap.size oki (⟨(rd_T67 x0_1 x5_1).f0, (rd_T67 x0_1 x5_1).f1, (rd_T67 x0_1 x5_1).f2, ⟨(rd_T67 x0_1 x5_1).f3.f0, (rd_T67 x0_1 x5_1).f3.f1⟩⟩ : S67) c := hM
          obtain ⟨v1, rfl, hR1⟩ := k67_openM hM
          have hx : wr.cell? ⟨g, (x5_1 : Int).toNat * 5, none⟩ = some (.int .i64 (rd_T67 x0_1 x5_1).f0) := hcc 0 _ rfl
          have hf : wr.frozen? ⟨g, (x5_1 : Int).toNat * 5, none⟩ = false := hfr 0
          have HP := Kd.S_seg (okg := fun _ => False) (Kd.H_mono hH (fun k hk => ⟨hk, fun h => h⟩)) c5 c3 (seg := [.int .i64 x1_1]) (j := 0) (show 0 + 1 ≤ 5 from by decide) (x' := (⟨x1_1, (rd_T67 x0_1 x5_1).f1, (rd_T67 x0_1 x5_1).f2, ⟨(rd_T67 x0_1 x5_1).f3.f0, (rd_T67 x0_1 x5_1).f3.f1⟩⟩ : S67)) (k67_mkM _ _ _ (⟨x1_1, (rd_T67 x0_1 x5_1).f1, (rd_T67 x0_1 x5_1).f2, ⟨(rd_T67 x0_1 x5_1).f3.f0, (rd_T67 x0_1 x5_1).f3.f1⟩⟩ : S67) hR1) (fun _ hk => .inl hk) (fun _ hk => hk.elim)
          have c3b0 : decide (x5_1 < (x0_1.length : Int)) = true := decide_eq_true c3
          have C3 := Aside0.mk c3
          have C5 := Aside0.mk c5
          replace c3 := eq_true c3
          replace c5 := eq_true c5
          clear hcl hM hcc hfr hH hR1 hoki
          go_wp2_with (first | ((with_reducible refine gate_store (t := 2) (p := 16) rfl ?_); refine store_event (t := 2) (p := 16) (v := ?vo_wm1) (w1 := (wr.setCell ⟨g, (x5_1 : Int).toNat * 5, none⟩ (.int .i64 x1_1))) ?hg ?ho ?hn ?hr ?_; (case ho => rfl); (case hg => rfl); (case hn => rfl); (case hr => first | (go_simp; done) | (go_simp; rfl)); intro wm1 hw; have hg : wr.grownBy wm1 (some g) := (by rw [hw]; exact HP.2); have HOa : Kd.S k67 67 wm1 w0.heap.size (fun k_ => (P0_ k_ ∨ w.heap.size ≤ k_)) (.slice (some ⟨g, 0, none⟩) x0_1.length cap) (x0_1.set x5_1.toNat (⟨x1_1, (rd_T67 x0_1 x5_1).f1, (rd_T67 x0_1 x5_1).f2, ⟨(rd_T67 x0_1 x5_1).f3.f0, (rd_T67 x0_1 x5_1).f3.f1⟩⟩ : S67)) := (by rw [hw]; exact HP.1); clear HP; have HB1 := Aside0.mk ((by rw [hw]; exact below_set (HBq.out) HG.out : Below w0.heap.size w0 wm1)); have HK1 := Aside0.mk (Kept.of_grown (S := (fun k_ => P0_ k_)) hg HKq.out (fun k_ e_ => ((Kd.S_R HO_0.out).1 k_ e_))); clear hx hf hg hw; obtain ⟨oki, c, hcl, hM, hcc, hfr, hoki, hH⟩ := Kd.S_elem HOa z67 x5_1 C5.out C3.out; replace hM := (show ((x0_1.set x5_1.toNat (⟨x1_1, (rd_T67 x0_1 x5_1).f1, (rd_T67 x0_1 x5_1).f2, ⟨(rd_T67 x0_1 x5_1).f3.f0, (rd_T67 x0_1 x5_1).f3.f1⟩⟩ : S67)).getD x5_1.toNat z67) = (⟨x1_1, (rd_T67 x0_1 x5_1).f1, (rd_T67 x0_1 x5_1).f2, ⟨(rd_T67 x0_1 x5_1).f3.f0, (rd_T67 x0_1 x5_1).f3.f1⟩⟩ : S67) from (by rw [List.getD_eq_getElem?_getD, List.getElem?_set_self (by have h3_ := C3.out; have h5_ := C5.out; omega)]; rfl)) ▸ hM; obtain ⟨v2, rfl, hR⟩ := k67_openM hM; have hx : wm1.cell? ⟨g, (x5_1 : Int).toNat * 5 + 1, none⟩ = some (.int .i64 (rd_T67 x0_1 x5_1).f1) := hcc 1 _ rfl; have hf : wm1.frozen? ⟨g, (x5_1 : Int).toNat * 5 + 1, none⟩ = false := hfr 1; have HP := Kd.S_seg (okg := fun _ => False) (Kd.H_mono hH (fun k hk => ⟨hk, fun h => h⟩)) C5.out C3.out (seg := [.int .i64 (wrap64 (x1_1 + 1))]) (j := 1) (show 1 + 1 ≤ 5 from by decide) (x' := (⟨x1_1, (wrap64 (x1_1 + 1)), (rd_T67 x0_1 x5_1).f2, ⟨(rd_T67 x0_1 x5_1).f3.f0, (rd_T67 x0_1 x5_1).f3.f1⟩⟩ : S67)) (k67_mkM _ _ _ (⟨x1_1, (wrap64 (x1_1 + 1)), (rd_T67 x0_1 x5_1).f2, ⟨(rd_T67 x0_1 x5_1).f3.f0, (rd_T67 x0_1 x5_1).f3.f1⟩⟩ : S67) hR) (fun _ hk => .inl hk) (fun _ hk => hk.elim); have HO1 := Aside0.mk HOa; clear HOa hcl hM hcc hfr hH hR hoki) | ((with_reducible refine gate_store (t := 2) (p := 23) rfl ?_); refine store_event (t := 2) (p := 23) (v := ?vo_wm2) (w1 := (wm1.setCell ⟨g, (x5_1 : Int).toNat * 5 + 1, none⟩ (.int .i64 (wrap64 (x1_1 + 1))))) ?hg ?ho ?hn ?hr ?_; (case ho => rfl); (case hg => rfl); (case hn => rfl); (case hr => first | (go_simp; done) | (go_simp; rfl)); intro wm2 hw; have hg : wm1.grownBy wm2 (some g) := (by rw [hw]; exact HP.2); have HOa : Kd.S k67 67 wm2 w0.heap.size (fun k_ => (P0_ k_ ∨ w.heap.size ≤ k_)) (.slice (some ⟨g, 0, none⟩) x0_1.length cap) ((x0_1.set x5_1.toNat (⟨x1_1, (rd_T67 x0_1 x5_1).f1, (rd_T67 x0_1 x5_1).f2, ⟨(rd_T67 x0_1 x5_1).f3.f0, (rd_T67 x0_1 x5_1).f3.f1⟩⟩ : S67)).set x5_1.toNat (⟨x1_1, (wrap64 (x1_1 + 1)), (rd_T67 x0_1 x5_1).f2, ⟨(rd_T67 x0_1 x5_1).f3.f0, (rd_T67 x0_1 x5_1).f3.f1⟩⟩ : S67)) := (by rw [hw]; exact HP.1); clear HP; rw [List.set_set] at HOa; have HB2 := Aside0.mk ((by rw [hw]; exact below_set (HB1.out) HG.out : Below w0.heap.size w0 wm2)); have HK2 := Aside0.mk (Kept.of_grown (S := (fun k_ => P0_ k_)) hg HK1.out (fun k_ e_ => ((Kd.S_R HO1.out).1 k_ e_))); clear hx hf hg hw; obtain ⟨oki, c, hcl, hM, hcc, hfr, hoki, hH⟩ := Kd.S_elem HOa z67 x5_1 C5.out C3.out; replace hM := (show ((x0_1.set x5_1.toNat (⟨x1_1, (wrap64 (x1_1 + 1)), (rd_T67 x0_1 x5_1).f2, ⟨(rd_T67 x0_1 x5_1).f3.f0, (rd_T67 x0_1 x5_1).f3.f1⟩⟩ : S67)).getD x5_1.toNat z67) = (⟨x1_1, (wrap64 (x1_1 + 1)), (rd_T67 x0_1 x5_1).f2, ⟨(rd_T67 x0_1 x5_1).f3.f0, (rd_T67 x0_1 x5_1).f3.f1⟩⟩ : S67) from (by rw [List.getD_eq_getElem?_getD, List.getElem?_set_self (by have h3_ := C3.out; have h5_ := C5.out; omega)]; rfl)) ▸ hM; obtain ⟨v3, rfl, hR⟩ := k67_openM hM; have hx : wm2.cell? ⟨g, (x5_1 : Int).toNat * 5 + 2, none⟩ = some (.int .i64 (rd_T67 x0_1 x5_1).f2) := hcc 2 _ rfl; have hf : wm2.frozen? ⟨g, (x5_1 : Int).toNat * 5 + 2, none⟩ = false := hfr 2; have HP := Kd.S_seg (okg := fun _ => False) (Kd.H_mono hH (fun k hk => ⟨hk, fun h => h⟩)) C5.out C3.out (seg := [.int .i64 (wrap64 ((wrap64 (x1_1 + 1)) + 1))]) (j := 2) (show 2 + 1 ≤ 5 from by decide) (x' := (⟨x1_1, (wrap64 (x1_1 + 1)), (wrap64 ((wrap64 (x1_1 + 1)) + 1)), ⟨(rd_T67 x0_1 x5_1).f3.f0, (rd_T67 x0_1 x5_1).f3.f1⟩⟩ : S67)) (k67_mkM _ _ _ (⟨x1_1, (wrap64 (x1_1 + 1)), (wrap64 ((wrap64 (x1_1 + 1)) + 1)), ⟨(rd_T67 x0_1 x5_1).f3.f0, (rd_T67 x0_1 x5_1).f3.f1⟩⟩ : S67) hR) (fun _ hk => .inl hk) (fun _ hk => hk.elim); have HO2 := Aside0.mk HOa; clear HOa hcl hM hcc hfr hH hR hoki) | ((with_reducible refine gate_store (t := 2) (p := 30) rfl ?_); refine store_event (t := 2) (p := 30) (v := ?vo_wm3) (w1 := (wm2.setCell ⟨g, (x5_1 : Int).toNat * 5 + 2, none⟩ (.int .i64 (wrap64 ((wrap64 (x1_1 + 1)) + 1))))) ?hg ?ho ?hn ?hr ?_; (case ho => rfl); (case hg => rfl); (case hn => rfl); (case hr => first | (go_simp; done) | (go_simp; rfl)); intro wm3 hw; have hg : wm2.grownBy wm3 (some g) := (by rw [hw]; exact HP.2); have HOa : Kd.S k67 67 wm3 w0.heap.size (fun k_ => (P0_ k_ ∨ w.heap.size ≤ k_)) (.slice (some ⟨g, 0, none⟩) x0_1.length cap) ((x0_1.set x5_1.toNat (⟨x1_1, (wrap64 (x1_1 + 1)), (rd_T67 x0_1 x5_1).f2, ⟨(rd_T67 x0_1 x5_1).f3.f0, (rd_T67 x0_1 x5_1).f3.f1⟩⟩ : S67)).set x5_1.toNat (⟨x1_1, (wrap64 (x1_1 + 1)), (wrap64 ((wrap64 (x1_1 + 1)) + 1)), ⟨(rd_T67 x0_1 x5_1).f3.f0, (rd_T67 x0_1 x5_1).f3.f1⟩⟩ : S67)) := (by rw [hw]; exact HP.1); clear HP; rw [List.set_set] at HOa; have HB3 := Aside0.mk ((by rw [hw]; exact below_set (HB2.out) HG.out : Below w0.heap.size w0 wm3)); have HK3 := Aside0.mk (Kept.of_grown (S := (fun k_ => P0_ k_)) hg HK2.out (fun k_ e_ => ((Kd.S_R HO2.out).1 k_ e_))); clear hx hf hg hw; obtain ⟨oki, c, hcl, hM, hcc, hfr, hoki, hH⟩ := Kd.S_elem HOa z67 x5_1 C5.out C3.out; replace hM := (show ((x0_1.set x5_1.toNat (⟨x1_1, (wrap64 (x1_1 + 1)), (wrap64 ((wrap64 (x1_1 + 1)) + 1)), ⟨(rd_T67 x0_1 x5_1).f3.f0, (rd_T67 x0_1 x5_1).f3.f1⟩⟩ : S67)).getD x5_1.toNat z67) = (⟨x1_1, (wrap64 (x1_1 + 1)), (wrap64 ((wrap64 (x1_1 + 1)) + 1)), ⟨(rd_T67 x0_1 x5_1).f3.f0, (rd_T67 x0_1 x5_1).f3.f1⟩⟩ : S67) from (by rw [List.getD_eq_getElem?_getD, List.getElem?_set_self (by have h3_ := C3.out; have h5_ := C5.out; omega)]; rfl)) ▸ hM; obtain ⟨v4, rfl, hR⟩ := k67_openM hM; have hx : wm3.cell? ⟨g, (x5_1 : Int).toNat * 5 + 3, none⟩ = some (.int .i64 (rd_T67 x0_1 x5_1).f3.f0) := hcc 3 _ rfl; have hf : wm3.frozen? ⟨g, (x5_1 : Int).toNat * 5 + 3, none⟩ = false := hfr 3; have HP := Kd.S_seg (okg := fun _ => False) (Kd.H_mono hH (fun k hk => ⟨hk, fun h => h⟩)) C5.out C3.out (seg := [.int .i64 (wrap64 ((wrap64 ((wrap64 (x1_1 + 1)) + 1)) + 1))]) (j := 3) (show 3 + 1 ≤ 5 from by decide) (x' := (⟨x1_1, (wrap64 (x1_1 + 1)), (wrap64 ((wrap64 (x1_1 + 1)) + 1)), ⟨(wrap64 ((wrap64 ((wrap64 (x1_1 + 1)) + 1)) + 1)), (rd_T67 x0_1 x5_1).f3.f1⟩⟩ : S67)) (k67_mkM _ _ _ (⟨x1_1, (wrap64 (x1_1 + 1)), (wrap64 ((wrap64 (x1_1 + 1)) + 1)), ⟨(wrap64 ((wrap64 ((wrap64 (x1_1 + 1)) + 1)) + 1)), (rd_T67 x0_1 x5_1).f3.f1⟩⟩ : S67) hR) (fun _ hk => .inl hk) (fun _ hk => hk.elim); have HO3 := Aside0.mk HOa; clear HOa hcl hM hcc hfr hH hR hoki) | ((with_reducible refine gate_store (t := 2) (p := 38) rfl ?_); refine store_event (t := 2) (p := 38) (v := ?vo_wm4) (w1 := (wm3.setCell ⟨g, (x5_1 : Int).toNat * 5 + 3, none⟩ (.int .i64 (wrap64 ((wrap64 ((wrap64 (x1_1 + 1)) + 1)) + 1))))) ?hg ?ho ?hn ?hr ?_; (case ho => rfl); (case hg => rfl); (case hn => rfl); (case hr => first | (go_simp; done) | (go_simp; rfl)); intro wm4 hw; have hg : wm3.grownBy wm4 (some g) := (by rw [hw]; exact HP.2); have HOa : Kd.S k67 67 wm4 w0.heap.size (fun k_ => (P0_ k_ ∨ w.heap.size ≤ k_)) (.slice (some ⟨g, 0, none⟩) x0_1.length cap) ((x0_1.set x5_1.toNat (⟨x1_1, (wrap64 (x1_1 + 1)), (wrap64 ((wrap64 (x1_1 + 1)) + 1)), ⟨(rd_T67 x0_1 x5_1).f3.f0, (rd_T67 x0_1 x5_1).f3.f1⟩⟩ : S67)).set x5_1.toNat (⟨x1_1, (wrap64 (x1_1 + 1)), (wrap64 ((wrap64 (x1_1 + 1)) + 1)), ⟨(wrap64 ((wrap64 ((wrap64 (x1_1 + 1)) + 1)) + 1)), (rd_T67 x0_1 x5_1).f3.f1⟩⟩ : S67)) := (by rw [hw]; exact HP.1); clear HP; rw [List.set_set] at HOa; have HB4 := Aside0.mk ((by rw [hw]; exact below_set (HB3.out) HG.out : Below w0.heap.size w0 wm4)); have HK4 := Aside0.mk (Kept.of_grown (S := (fun k_ => P0_ k_)) hg HK3.out (fun k_ e_ => ((Kd.S_R HO3.out).1 k_ e_))); clear hx hf hg hw; obtain ⟨oki2, c2, hcl2, hM2, hcc2, hoki2, hH2⟩ := Kd.S_lend HOa z67 x5_1 C5.out C3.out; replace hM2 := (show ((x0_1.set x5_1.toNat (⟨x1_1, (wrap64 (x1_1 + 1)), (wrap64 ((wrap64 (x1_1 + 1)) + 1)), ⟨(wrap64 ((wrap64 ((wrap64 (x1_1 + 1)) + 1)) + 1)), (rd_T67 x0_1 x5_1).f3.f1⟩⟩ : S67)).getD x5_1.toNat z67) = (⟨x1_1, (wrap64 (x1_1 + 1)), (wrap64 ((wrap64 (x1_1 + 1)) + 1)), ⟨(wrap64 ((wrap64 ((wrap64 (x1_1 + 1)) + 1)) + 1)), (rd_T67 x0_1 x5_1).f3.f1⟩⟩ : S67) from (by rw [List.getD_eq_getElem?_getD, List.getElem?_set_self (by have h3_ := C3.out; have h5_ := C5.out; omega)]; rfl)) ▸ hM2; obtain ⟨v5, rfl, hR2⟩ := k67_openM hM2; have hx2 : wm4.cell? ⟨g, (x5_1 : Int).toNat * 5 + 4, none⟩ = some v5 := hcc2 4 _ rfl; have HR2 := Aside0.mk hR2; have HH2 := Aside0.mk hH2; have HI2 := Aside0.mk hoki2; clear hR2 hH2 hoki2 hcl2 hM2 hcc2 HOa) | ((with_reducible refine gate_callee (f := 43) rfl ?_); refine goesL_ (some 48) rfl rfl Try.func43 (by kernel_rfl) rfl #[v5, .int .i64 (wrap64 ((wrap64 ((wrap64 ((wrap64 (x1_1 + 1)) + 1)) + 1)) + 1))] rfl (by (try simp only [List.map_toArray, List.map_cons, List.map_nil]); first | done | rfl | (simp only [List.length_drop, List.length_take]; rfl)) ?_; refine (laws_markUint64S.calls k1 oki2 v5 _ (wrap64 ((wrap64 ((wrap64 ((wrap64 (x1_1 + 1)) + 1)) + 1)) + 1)) t1 t2 w0 _ (by repeat (first | (with_reducible first | exact HB4.out | apply below_alloc | apply pw_below_drewN | apply below_drew1) | exact HB4.out)) (by (with_reducible repeat (first | apply Kd.R_alloc | apply Kd.R_drewN | apply Kd.R_drew)); exact HR2.out) A4.out).mono ?_; rintro e w12 ⟨rfl, hr', hb', hk'⟩; refine ⟨_, rfl, ?_⟩; have HS := Aside0.mk (Kd.H_back (Kd.H_step (Kd.H_widen HH2.out) (fun k _ hn hlt => hk'.2 k hlt (fun h => hn (.inl h)))) (k67_mkM _ _ _ (⟨x1_1, (wrap64 (x1_1 + 1)), (wrap64 ((wrap64 (x1_1 + 1)) + 1)), ⟨(wrap64 ((wrap64 ((wrap64 (x1_1 + 1)) + 1)) + 1)), t2⟩⟩ : S67) hr') (fun k hk => hk.elim .inl (fun h => .inr ⟨.inr (Nat.le_trans HK4.out.1 h), h⟩))); have HK5 := Aside0.mk (Kept.then_ HK4.out hk' (fun k hk => (HI2.out k hk).1)); have HB5 := Aside0.mk hb'; clear hr' hb' hk' HH2 HR2 HI2 hx2))
          go_roundg k1
          case measure => have := HKk.out; omega
          case rel => exact ⟨_, _, _, (by first | rfl | (simp; done)), (by first | rfl | (simp; done)), H', ⟨by have := HKk.out; omega⟩, ⟨by first | exact HS.out | (have := HS.out; rw [List.set_set] at this; exact this)⟩, ⟨HK5.out⟩, ⟨HB5.out⟩⟩
        · rw [if_neg c5] at H
          exact absurd H (by simp)
      · rw [if_neg c3] at H
        have c3b0 : decide (x5_1 < (x0_1.length : Int)) = false := decide_eq_false c3
        clear c3
        simp only [Option.some.injEq, Prod.mk.injEq] at H
        obtain ⟨rfl, rfl⟩ := H
        obtain ⟨Ao14, co14, eo14⟩ := Kd.S_slice HO_0.out
        subst eo14
        go_wp2
        go_ret
        exact ⟨by first | rfl | (simp; done), HO_0.out, HBq.out, HKq.out⟩

/-! ### laws_FnExactFlatPart: function 5 -/
def laws_FnExactFlatPart.f (k : Nat) (l0 : List (S55)) (l1 : List (S59)) (a2 : Int) (a3 : Int) : Option (Bool) := (laws_szDeclS.f k l0 1048576).bind fun t23 => if t23 < 0 then some true else (laws_szSegS.f k l1 t23).bind fun t28 => if t28 < 0 then some true else (laws_toDeclS.f k l0).bind fun t33 => (laws_toSegS.f k l1).bind fun t35 => (spec_FlatPart.f k t33 t35 a2 a3).bind fun bt38 => (laws_toDeclS.f k l0).bind fun t42 => (laws_toSegS.f k l1).bind fun t44 => (impl_FlatPart.f k t42 t44 a2 a3).bind fun bt50 => (laws_eqSegS.f k bt50.1 bt38.1).bind fun t55 => if t55 = true then (if (bt50.2 != bt38.2) = true then none else (laws_toDeclS.f k l0).bind fun t64 => (laws_eqDeclS.f k t42 t64).bind fun t65 => if t65 = true then ((laws_toSegS.f k l1).bind fun t69 => (laws_eqSegS.f k t44 t69).bind fun t70 => if t70 = true then ((laws_markDeclS.f k t42 1).bind fun bt74 => (laws_markSegS.f k t44 bt74.1).bind fun bt77 => (laws_eqSegS.f k bt50.1 bt38.1).bind fun t83 => if bt77.1 < 0 then none else if t83 = true then (if (bt50.2 != bt38.2) = true then none else (laws_markSegS.f k bt50.1 1).bind fun bt93 => (laws_heldSegS.f k bt93.2 1).bind fun t96 => if t96 < 0 then none else if t96 = bt93.1 then ((laws_toDeclS.f k l0).bind fun t104 => (laws_toSegS.f k l1).bind fun t106 => (impl_FlatPart.f k t104 t106 a2 a3).bind fun bt109 => (laws_eqSegS.f k bt109.1 bt38.1).bind fun t114 => if t114 = true then (if (bt109.2 != bt38.2) = true then none else (laws_heldSegS.f k bt93.2 1).bind fun t123 => if t123 < 0 then none else if t123 = bt93.1 then (some true) else none) else none) else none) else none) else none) else none) else none
set_option maxHeartbeats 8000000 in
set_option maxRecDepth 100000 in
theorem laws_FnExactFlatPart.calls (k : Nat) (A0 : Option Addr) (c0 : Nat) (l0 : List (S55)) (A1 : Option Addr) (c1 : Nat) (l1 : List (S59)) (a2 : Int) (a3 : Int) (r : Bool) (w : World) (hr0 : Kd.C k55 w A0 l0.length l0) (hc0 : l0.length ≤ c0) (hr1 : Kd.C k59 w A1 l1.length l1) (hc1 : l1.length ≤ c1) (h : laws_FnExactFlatPart.f k l0 l1 a2 a3 = some r) :
    Calls Try.prog 5 #[.slice A0 l0.length c0, .slice A1 l1.length c1, .int .i64 a2, .int .i64 a3] w fun e w' => e = .returned (.bool r) ∧ Below w.heap.size w w' := by
  have HR0 := Aside0.mk hr0; have HC0 := Aside0.mk hc0; clear hr0 hc0
  have HR1 := Aside0.mk hr1; have HC1 := Aside0.mk hc1; clear hr1 hc1
  have H := St.nil w
  unfold laws_FnExactFlatPart.f at h
  obtain ⟨t23, A23_, h_⟩ := Option.bind_eq_some_iff.mp h; clear h; have h := h_; clear h_
  have A23 := Aside0.mk A23_; clear A23_
  try dsimp only at h
  by_cases c1_ : t23 < 0
  · rw [if_pos c1_] at h
    obtain rfl := Option.some.inj h
    have c1b := decide_eq_true c1_
    clear c1_ h
    go_enter Try.func5, Try.ntmps5
    go_wp2_with (first | ((with_reducible refine gate_dst (N := 23) rfl ?_); go_loud (refine goesL_ (some 23) rfl rfl Try.func6 (by kernel_rfl) rfl #[.slice A0 l0.length c0, .int .i64 1048576] rfl (by (try simp only [List.map_toArray, List.map_cons, List.map_nil]); first | done | rfl) ?_; refine (laws_szDeclS.calls (hr0 := Kd.C_below HR0.out (St.lift H).below) (hc0 := HC0.out) (h := A23.out)).mono ?_; rintro e w23 ⟨rfl, hb_⟩; refine ⟨_, rfl, ?_⟩; replace H := St.call H hb_; clear hb_)))
    go_ret
    exact ⟨by first | rfl | (simp; done), (St.lift H).below⟩
  rw [if_neg c1_] at h; have c1b := decide_eq_false c1_
  clear c1_
  obtain ⟨t28, A28_, h_⟩ := Option.bind_eq_some_iff.mp h; clear h; have h := h_; clear h_
  have A28 := Aside0.mk A28_; clear A28_
  try dsimp only at h
  by_cases c2_ : t28 < 0
  · rw [if_pos c2_] at h
    obtain rfl := Option.some.inj h
    have c2b := decide_eq_true c2_
    clear c2_ h
    go_enter Try.func5, Try.ntmps5
    go_wp2_with (first | ((with_reducible refine gate_dst (N := 23) rfl ?_); go_loud (refine goesL_ (some 23) rfl rfl Try.func6 (by kernel_rfl) rfl #[.slice A0 l0.length c0, .int .i64 1048576] rfl (by (try simp only [List.map_toArray, List.map_cons, List.map_nil]); first | done | rfl) ?_; refine (laws_szDeclS.calls (hr0 := Kd.C_below HR0.out (St.lift H).below) (hc0 := HC0.out) (h := A23.out)).mono ?_; rintro e w23 ⟨rfl, hb_⟩; refine ⟨_, rfl, ?_⟩; replace H := St.call H hb_; clear hb_)) | ((with_reducible refine gate_dst (N := 28) rfl ?_); go_loud (refine goesL_ (some 28) rfl rfl Try.func7 (by kernel_rfl) rfl #[.slice A1 l1.length c1, .int .i64 t23] rfl (by (try simp only [List.map_toArray, List.map_cons, List.map_nil]); first | done | rfl) ?_; refine (laws_szSegS.calls (hr0 := Kd.C_below HR1.out (St.lift H).below) (hc0 := HC1.out) (h := A28.out)).mono ?_; rintro e w28 ⟨rfl, hb_⟩; refine ⟨_, rfl, ?_⟩; replace H := St.call H hb_; clear hb_)))
    go_ret
    exact ⟨by first | rfl | (simp; done), (St.lift H).below⟩
  rw [if_neg c2_] at h; have c2b := decide_eq_false c2_
  clear c2_
  obtain ⟨t33, A33_, h_⟩ := Option.bind_eq_some_iff.mp h; clear h; have h := h_; clear h_
  have A33 := Aside0.mk A33_; clear A33_
  try dsimp only at h
  obtain ⟨t35, A35_, h_⟩ := Option.bind_eq_some_iff.mp h; clear h; have h := h_; clear h_
  have A35 := Aside0.mk A35_; clear A35_
  try dsimp only at h
  obtain ⟨⟨t38_1, t38_2⟩, A38_, h_⟩ := Option.bind_eq_some_iff.mp h; clear h; have h := h_; clear h_
  have A38 := Aside0.mk A38_; clear A38_
  try dsimp only at h
  obtain ⟨t42, A42_, h_⟩ := Option.bind_eq_some_iff.mp h; clear h; have h := h_; clear h_
  have A42 := Aside0.mk A42_; clear A42_
  try dsimp only at h
  obtain ⟨t44, A44_, h_⟩ := Option.bind_eq_some_iff.mp h; clear h; have h := h_; clear h_
  have A44 := Aside0.mk A44_; clear A44_
  try dsimp only at h
  obtain ⟨⟨t50_1, t50_2⟩, A50_, h_⟩ := Option.bind_eq_some_iff.mp h; clear h; have h := h_; clear h_
  have A50 := Aside0.mk A50_; clear A50_
  try dsimp only at h
  obtain ⟨t55, A55_, h_⟩ := Option.bind_eq_some_iff.mp h; clear h; have h := h_; clear h_
  have A55 := Aside0.mk A55_; clear A55_
  try dsimp only at h
  obtain ⟨c3_, h_⟩ := iteP_ h; clear h; have h := h_; clear h_; subst c3_
  obtain ⟨c4_, h_⟩ := iteN_ h; clear h; have h := h_; clear h_; have c4b : (t50_2 != t38_2) = false := by simpa using c4_
  have c4d : decide (t50_2 = t38_2) = true := by simpa using c4_
  have c4e : (t50_2 == t38_2) = true := by simpa using c4_
  clear c4_
  obtain ⟨t64, A64_, h_⟩ := Option.bind_eq_some_iff.mp h; clear h; have h := h_; clear h_
  have A64 := Aside0.mk A64_; clear A64_
  try dsimp only at h
  obtain ⟨t65, A65_, h_⟩ := Option.bind_eq_some_iff.mp h; clear h; have h := h_; clear h_
  have A65 := Aside0.mk A65_; clear A65_
  try dsimp only at h
  obtain ⟨c5_, h_⟩ := iteP_ h; clear h; have h := h_; clear h_; subst c5_
  obtain ⟨t69, A69_, h_⟩ := Option.bind_eq_some_iff.mp h; clear h; have h := h_; clear h_
  have A69 := Aside0.mk A69_; clear A69_
  try dsimp only at h
  obtain ⟨t70, A70_, h_⟩ := Option.bind_eq_some_iff.mp h; clear h; have h := h_; clear h_
  have A70 := Aside0.mk A70_; clear A70_
  try dsimp only at h
  obtain ⟨c6_, h_⟩ := iteP_ h; clear h; have h := h_; clear h_; subst c6_
  obtain ⟨⟨t74_1, t74_2⟩, A74_, h_⟩ := Option.bind_eq_some_iff.mp h; clear h; have h := h_; clear h_
  have A74 := Aside0.mk A74_; clear A74_
  try dsimp only at h
  obtain ⟨⟨t77_1, t77_2⟩, A77_, h_⟩ := Option.bind_eq_some_iff.mp h; clear h; have h := h_; clear h_
  have A77 := Aside0.mk A77_; clear A77_
  try dsimp only at h
  obtain ⟨t83, A83_, h_⟩ := Option.bind_eq_some_iff.mp h; clear h; have h := h_; clear h_
  have A83 := Aside0.mk A83_; clear A83_
  try dsimp only at h
  obtain ⟨c7_, h_⟩ := iteN_ h; clear h; have h := h_; clear h_; have c7b := decide_eq_false c7_; clear c7_
  obtain ⟨c8_, h_⟩ := iteP_ h; clear h; have h := h_; clear h_; subst c8_
  obtain ⟨c9_, h_⟩ := iteN_ h; clear h; have h := h_; clear h_; have c9b : (t50_2 != t38_2) = false := by simpa using c9_
  have c9d : decide (t50_2 = t38_2) = true := by simpa using c9_
  have c9e : (t50_2 == t38_2) = true := by simpa using c9_
  clear c9_
  obtain ⟨⟨t93_1, t93_2⟩, A93_, h_⟩ := Option.bind_eq_some_iff.mp h; clear h; have h := h_; clear h_
  have A93 := Aside0.mk A93_; clear A93_
  try dsimp only at h
  obtain ⟨t96, A96_, h_⟩ := Option.bind_eq_some_iff.mp h; clear h; have h := h_; clear h_
  have A96 := Aside0.mk A96_; clear A96_
  try dsimp only at h
  obtain ⟨c10_, h_⟩ := iteN_ h; clear h; have h := h_; clear h_; have c10b := decide_eq_false c10_; clear c10_
  obtain ⟨c11_, h_⟩ := iteP_ h; clear h; have h := h_; clear h_; have c11b : (t96 != t93_1) = false := by simpa using c11_
  have c11d : decide (t96 = t93_1) = true := by simpa using c11_
  have c11e : (t96 == t93_1) = true := by simpa using c11_
  clear c11_
  obtain ⟨t104, A104_, h_⟩ := Option.bind_eq_some_iff.mp h; clear h; have h := h_; clear h_
  have A104 := Aside0.mk A104_; clear A104_
  try dsimp only at h
  obtain ⟨t106, A106_, h_⟩ := Option.bind_eq_some_iff.mp h; clear h; have h := h_; clear h_
  have A106 := Aside0.mk A106_; clear A106_
  try dsimp only at h
  obtain ⟨⟨t109_1, t109_2⟩, A109_, h_⟩ := Option.bind_eq_some_iff.mp h; clear h; have h := h_; clear h_
  have A109 := Aside0.mk A109_; clear A109_
  try dsimp only at h
  obtain ⟨t114, A114_, h_⟩ := Option.bind_eq_some_iff.mp h; clear h; have h := h_; clear h_
  have A114 := Aside0.mk A114_; clear A114_
  try dsimp only at h
  obtain ⟨c12_, h_⟩ := iteP_ h; clear h; have h := h_; clear h_; subst c12_
  obtain ⟨c13_, h_⟩ := iteN_ h; clear h; have h := h_; clear h_; have c13b : (t109_2 != t38_2) = false := by simpa using c13_
  have c13d : decide (t109_2 = t38_2) = true := by simpa using c13_
  have c13e : (t109_2 == t38_2) = true := by simpa using c13_
  clear c13_
  obtain ⟨t123, A123_, h_⟩ := Option.bind_eq_some_iff.mp h; clear h; have h := h_; clear h_
  have A123 := Aside0.mk A123_; clear A123_
  try dsimp only at h
  obtain ⟨c14_, h_⟩ := iteN_ h; clear h; have h := h_; clear h_; have c14b := decide_eq_false c14_; clear c14_
  obtain ⟨c15_, h_⟩ := iteP_ h; clear h; have h := h_; clear h_; have c15b : (t123 != t93_1) = false := by simpa using c15_
  have c15d : decide (t123 = t93_1) = true := by simpa using c15_
  have c15e : (t123 == t93_1) = true := by simpa using c15_
  clear c15_
  obtain rfl := Option.some.inj h; clear h
  go_enter Try.func5, Try.ntmps5
  go_wp2_with (first | ((with_reducible refine gate_dst (N := 23) rfl ?_); go_loud (refine goesL_ (some 23) rfl rfl Try.func6 (by kernel_rfl) rfl #[.slice A0 l0.length c0, .int .i64 1048576] rfl (by (try simp only [List.map_toArray, List.map_cons, List.map_nil]); first | done | rfl) ?_; refine (laws_szDeclS.calls (hr0 := Kd.C_below HR0.out (St.lift H).below) (hc0 := HC0.out) (h := A23.out)).mono ?_; rintro e w23 ⟨rfl, hb_⟩; refine ⟨_, rfl, ?_⟩; replace H := St.call H hb_; clear hb_)) | ((with_reducible refine gate_dst (N := 28) rfl ?_); go_loud (refine goesL_ (some 28) rfl rfl Try.func7 (by kernel_rfl) rfl #[.slice A1 l1.length c1, .int .i64 t23] rfl (by (try simp only [List.map_toArray, List.map_cons, List.map_nil]); first | done | rfl) ?_; refine (laws_szSegS.calls (hr0 := Kd.C_below HR1.out (St.lift H).below) (hc0 := HC1.out) (h := A28.out)).mono ?_; rintro e w28 ⟨rfl, hb_⟩; refine ⟨_, rfl, ?_⟩; replace H := St.call H hb_; clear hb_)) | ((with_reducible refine gate_dst (N := 33) rfl ?_); go_loud (refine goesL_ (some 33) rfl rfl Try.func9 (by kernel_rfl) rfl #[.slice A0 l0.length c0] rfl (by (try simp only [List.map_toArray, List.map_cons, List.map_nil]); first | done | rfl) ?_; refine (laws_toDeclS.calls (hr0 := Kd.C_below HR0.out (St.lift H).below) (hc0 := HC0.out) (h := A33.out)).mono ?_; rintro e w33 ⟨v0x33, rfl, ho_, hb_⟩; refine ⟨_, rfl, ?_⟩; obtain ⟨ok33_, a33_, cc33_, rfl, kc33_, H_⟩ := St.callR H hb_ ho_; clear H hb_ ho_; have H := H_; clear H_)) | ((with_reducible refine gate_dst (N := 35) rfl ?_); go_loud (refine goesL_ (some 35) rfl rfl Try.func10 (by kernel_rfl) rfl #[.slice A1 l1.length c1] rfl (by (try simp only [List.map_toArray, List.map_cons, List.map_nil]); first | done | rfl) ?_; refine (laws_toSegS.calls (hr0 := Kd.C_below HR1.out (St.lift H).below) (hc0 := HC1.out) (h := A35.out)).mono ?_; rintro e w35 ⟨v0x35, rfl, ho_, hb_⟩; refine ⟨_, rfl, ?_⟩; obtain ⟨ok35_, a35_, cc35_, rfl, kc35_, H_⟩ := St.callS H hb_ ho_; clear H hb_ ho_; have H := H_; clear H_)) | ((with_reducible refine gate_dst (N := 38) rfl ?_); go_loud (refine goesL_ (some 38) rfl rfl Try.func26 (by kernel_rfl) rfl #[.slice a33_ t33.length cc33_, .slice a35_ t35.length cc35_, .int .i64 a2, .int .i64 a3] rfl (by (try simp only [List.map_toArray, List.map_cons, List.map_nil]); first | done | rfl) ?_; refine (spec_FlatPart.calls (hr0 := (Kd.R_reads' (St.getR H 1 rfl)).2.2) (hc0 := kc33_.out) (hr1 := (Kd.S_reads' (St.getS H 0 rfl)).2.2) (hc1 := kc35_.out) (h := A38.out)).mono ?_; rintro e w38 ⟨v0x38, rfl, ho_, hb_⟩; refine ⟨_, rfl, ?_⟩; obtain ⟨ok38_, a38_, cc38_, rfl, kc38_, H_⟩ := St.callS H hb_ ho_; clear H hb_ ho_; have H := H_; clear H_; replace H := St.drop H 1; replace H := St.drop H 1; (try dsimp only [put, cutAt] at H))) | ((with_reducible refine gate_dst (N := 42) rfl ?_); go_loud (refine goesL_ (some 42) rfl rfl Try.func9 (by kernel_rfl) rfl #[.slice A0 l0.length c0] rfl (by (try simp only [List.map_toArray, List.map_cons, List.map_nil]); first | done | rfl) ?_; refine (laws_toDeclS.calls (hr0 := Kd.C_below HR0.out (St.lift H).below) (hc0 := HC0.out) (h := A42.out)).mono ?_; rintro e w42 ⟨v0x42, rfl, ho_, hb_⟩; refine ⟨_, rfl, ?_⟩; obtain ⟨ok42_, a42_, cc42_, rfl, kc42_, H_⟩ := St.callR H hb_ ho_; clear H hb_ ho_; have H := H_; clear H_)) | ((with_reducible refine gate_dst (N := 44) rfl ?_); go_loud (refine goesL_ (some 44) rfl rfl Try.func10 (by kernel_rfl) rfl #[.slice A1 l1.length c1] rfl (by (try simp only [List.map_toArray, List.map_cons, List.map_nil]); first | done | rfl) ?_; refine (laws_toSegS.calls (hr0 := Kd.C_below HR1.out (St.lift H).below) (hc0 := HC1.out) (h := A44.out)).mono ?_; rintro e w44 ⟨v0x44, rfl, ho_, hb_⟩; refine ⟨_, rfl, ?_⟩; obtain ⟨ok44_, a44_, cc44_, rfl, kc44_, H_⟩ := St.callS H hb_ ho_; clear H hb_ ho_; have H := H_; clear H_)) | ((with_reducible refine gate_dst (N := 50) rfl ?_); go_loud (refine goesL_ (some 50) rfl rfl Try.func27 (by kernel_rfl) rfl #[.slice a42_ t42.length cc42_, .slice a44_ t44.length cc44_, .int .i64 a2, .int .i64 a3] rfl (by (try simp only [List.map_toArray, List.map_cons, List.map_nil]); first | done | rfl) ?_; refine (impl_FlatPart.calls (hr0 := (Kd.R_reads' (St.getR H 1 rfl)).2.2) (hc0 := kc42_.out) (hr1 := (Kd.S_reads' (St.getS H 0 rfl)).2.2) (hc1 := kc44_.out) (h := A50.out)).mono ?_; rintro e w50 ⟨v0x50, rfl, ho_, hb_⟩; refine ⟨_, rfl, ?_⟩; obtain ⟨ok50_, a50_, cc50_, rfl, kc50_, H_⟩ := St.callS H hb_ ho_; clear H hb_ ho_; have H := H_; clear H_)) | ((with_reducible refine gate_dst (N := 55) rfl ?_); go_loud (refine goesL_ (some 55) rfl rfl Try.func12 (by kernel_rfl) rfl #[.slice a50_ t50_1.length cc50_, .slice a38_ t38_1.length cc38_] rfl (by (try simp only [List.map_toArray, List.map_cons, List.map_nil]); first | done | rfl) ?_; refine (laws_eqSegS.calls (hr0 := (Kd.S_reads' (St.getS H 0 rfl)).2.2) (hc0 := kc50_.out) (hr1 := (Kd.S_reads' (St.getS H 3 rfl)).2.2) (hc1 := kc38_.out) (h := A55.out)).mono ?_; rintro e w55 ⟨rfl, hb_⟩; refine ⟨_, rfl, ?_⟩; replace H := St.call H hb_; clear hb_)) | ((with_reducible refine gate_dst (N := 64) rfl ?_); go_loud (refine goesL_ (some 64) rfl rfl Try.func9 (by kernel_rfl) rfl #[.slice A0 l0.length c0] rfl (by (try simp only [List.map_toArray, List.map_cons, List.map_nil]); first | done | rfl) ?_; refine (laws_toDeclS.calls (hr0 := Kd.C_below HR0.out (St.lift H).below) (hc0 := HC0.out) (h := A64.out)).mono ?_; rintro e w64 ⟨v0x64, rfl, ho_, hb_⟩; refine ⟨_, rfl, ?_⟩; obtain ⟨ok64_, a64_, cc64_, rfl, kc64_, H_⟩ := St.callR H hb_ ho_; clear H hb_ ho_; have H := H_; clear H_)) | ((with_reducible refine gate_dst (N := 65) rfl ?_); go_loud (refine goesL_ (some 65) rfl rfl Try.func13 (by kernel_rfl) rfl #[.slice a42_ t42.length cc42_, .slice a64_ t64.length cc64_] rfl (by (try simp only [List.map_toArray, List.map_cons, List.map_nil]); first | done | rfl) ?_; refine (laws_eqDeclS.calls (hr0 := (Kd.R_reads' (St.getR H 3 rfl)).2.2) (hc0 := kc42_.out) (hr1 := (Kd.R_reads' (St.getR H 0 rfl)).2.2) (hc1 := kc64_.out) (h := A65.out)).mono ?_; rintro e w65 ⟨rfl, hb_⟩; refine ⟨_, rfl, ?_⟩; replace H := St.call H hb_; clear hb_; replace H := St.drop H 0; (try dsimp only [put, cutAt] at H))) | ((with_reducible refine gate_dst (N := 69) rfl ?_); go_loud (refine goesL_ (some 69) rfl rfl Try.func10 (by kernel_rfl) rfl #[.slice A1 l1.length c1] rfl (by (try simp only [List.map_toArray, List.map_cons, List.map_nil]); first | done | rfl) ?_; refine (laws_toSegS.calls (hr0 := Kd.C_below HR1.out (St.lift H).below) (hc0 := HC1.out) (h := A69.out)).mono ?_; rintro e w69 ⟨v0x69, rfl, ho_, hb_⟩; refine ⟨_, rfl, ?_⟩; obtain ⟨ok69_, a69_, cc69_, rfl, kc69_, H_⟩ := St.callS H hb_ ho_; clear H hb_ ho_; have H := H_; clear H_)) | ((with_reducible refine gate_dst (N := 70) rfl ?_); go_loud (refine goesL_ (some 70) rfl rfl Try.func12 (by kernel_rfl) rfl #[.slice a44_ t44.length cc44_, .slice a69_ t69.length cc69_] rfl (by (try simp only [List.map_toArray, List.map_cons, List.map_nil]); first | done | rfl) ?_; refine (laws_eqSegS.calls (hr0 := (Kd.S_reads' (St.getS H 2 rfl)).2.2) (hc0 := kc44_.out) (hr1 := (Kd.S_reads' (St.getS H 0 rfl)).2.2) (hc1 := kc69_.out) (h := A70.out)).mono ?_; rintro e w70 ⟨rfl, hb_⟩; refine ⟨_, rfl, ?_⟩; replace H := St.call H hb_; clear hb_; replace H := St.drop H 0; (try dsimp only [put, cutAt] at H))) | ((with_reducible refine gate_dst (N := 74) rfl ?_); go_loud (refine goesL_ (some 74) rfl rfl Try.func14 (by kernel_rfl) rfl #[.slice a42_ t42.length cc42_, .int .i64 1] rfl (by (try simp only [List.map_toArray, List.map_cons, List.map_nil]); first | done | rfl) ?_; refine (laws_markDeclS.calls (P0_ := ok42_) (u9000_ := .slice a42_ t42.length cc42_) (ho0 := St.getR H 2 rfl) (hB := (St.lift H).below) (h := A74.out)).mono ?_; rintro e w74 ⟨rfl, hs_, hb_, hk_⟩; refine ⟨_, rfl, ?_⟩; replace H := St.markR H 2 rfl hs_ hb_ hk_; (try dsimp only [put, cutAt] at H); clear hs_ hb_ hk_; replace H := St.drop H 2; (try dsimp only [put, cutAt] at H))) | ((with_reducible refine gate_dst (N := 77) rfl ?_); go_loud (refine goesL_ (some 77) rfl rfl Try.func15 (by kernel_rfl) rfl #[.slice a44_ t44.length cc44_, .int .i64 t74_1] rfl (by (try simp only [List.map_toArray, List.map_cons, List.map_nil]); first | done | rfl) ?_; refine (laws_markSegS.calls (P0_ := ok44_) (u9000_ := .slice a44_ t44.length cc44_) (ho0 := St.getS H 1 rfl) (hB := (St.lift H).below) (h := A77.out)).mono ?_; rintro e w77 ⟨rfl, hs_, hb_, hk_⟩; refine ⟨_, rfl, ?_⟩; replace H := St.markS H 1 rfl hs_ hb_ hk_; (try dsimp only [put, cutAt] at H); clear hs_ hb_ hk_; replace H := St.drop H 1; (try dsimp only [put, cutAt] at H))) | ((with_reducible refine gate_dst (N := 93) rfl ?_); go_loud (refine goesL_ (some 93) rfl rfl Try.func15 (by kernel_rfl) rfl #[.slice a50_ t50_1.length cc50_, .int .i64 1] rfl (by (try simp only [List.map_toArray, List.map_cons, List.map_nil]); first | done | rfl) ?_; refine (laws_markSegS.calls (P0_ := ok50_) (u9000_ := .slice a50_ t50_1.length cc50_) (ho0 := St.getS H 0 rfl) (hB := (St.lift H).below) (h := A93.out)).mono ?_; rintro e w93 ⟨rfl, hs_, hb_, hk_⟩; refine ⟨_, rfl, ?_⟩; replace H := St.markS H 0 rfl hs_ hb_ hk_; (try dsimp only [put, cutAt] at H); have e_ := (Kd.S_reads' hs_).1; have kc50_m := Aside0.mk (Kd.S_reads' hs_).2.1; rw [e_] at H kc50_m; obtain ⟨ok50_m, H_⟩ : ∃ ok_, Aside0 (St w w93 [Ob.S w k67 67 ok_ (.slice a50_ t93_2.length cc50_) t93_2, Ob.S w k67 67 ok38_ (.slice a38_ t38_1.length cc38_) t38_1]) := ⟨_, H⟩; clear H; have H := H_; clear H_; clear hs_ hb_ hk_; (rw [e_]); clear e_)) | ((with_reducible refine gate_dst (N := 96) rfl ?_); go_loud (refine goesL_ (some 96) rfl rfl Try.func16 (by kernel_rfl) rfl #[.slice a50_ t93_2.length cc50_, .int .i64 1] rfl (by (try simp only [List.map_toArray, List.map_cons, List.map_nil]); first | done | rfl) ?_; refine (laws_heldSegS.calls (hr0 := (Kd.S_reads' (St.getS H 0 rfl)).2.2) (hc0 := kc50_m.out) (h := A96.out)).mono ?_; rintro e w96 ⟨rfl, hb_⟩; replace hb_ := hb_.below; refine ⟨_, rfl, ?_⟩; replace H := St.call H hb_; clear hb_)) | ((with_reducible refine gate_dst (N := 104) rfl ?_); go_loud (refine goesL_ (some 104) rfl rfl Try.func9 (by kernel_rfl) rfl #[.slice A0 l0.length c0] rfl (by (try simp only [List.map_toArray, List.map_cons, List.map_nil]); first | done | rfl) ?_; refine (laws_toDeclS.calls (hr0 := Kd.C_below HR0.out (St.lift H).below) (hc0 := HC0.out) (h := A104.out)).mono ?_; rintro e w104 ⟨v0x104, rfl, ho_, hb_⟩; refine ⟨_, rfl, ?_⟩; obtain ⟨ok104_, a104_, cc104_, rfl, kc104_, H_⟩ := St.callR H hb_ ho_; clear H hb_ ho_; have H := H_; clear H_)) | ((with_reducible refine gate_dst (N := 106) rfl ?_); go_loud (refine goesL_ (some 106) rfl rfl Try.func10 (by kernel_rfl) rfl #[.slice A1 l1.length c1] rfl (by (try simp only [List.map_toArray, List.map_cons, List.map_nil]); first | done | rfl) ?_; refine (laws_toSegS.calls (hr0 := Kd.C_below HR1.out (St.lift H).below) (hc0 := HC1.out) (h := A106.out)).mono ?_; rintro e w106 ⟨v0x106, rfl, ho_, hb_⟩; refine ⟨_, rfl, ?_⟩; obtain ⟨ok106_, a106_, cc106_, rfl, kc106_, H_⟩ := St.callS H hb_ ho_; clear H hb_ ho_; have H := H_; clear H_)) | ((with_reducible refine gate_dst (N := 109) rfl ?_); go_loud (refine goesL_ (some 109) rfl rfl Try.func27 (by kernel_rfl) rfl #[.slice a104_ t104.length cc104_, .slice a106_ t106.length cc106_, .int .i64 a2, .int .i64 a3] rfl (by (try simp only [List.map_toArray, List.map_cons, List.map_nil]); first | done | rfl) ?_; refine (impl_FlatPart.calls (hr0 := (Kd.R_reads' (St.getR H 1 rfl)).2.2) (hc0 := kc104_.out) (hr1 := (Kd.S_reads' (St.getS H 0 rfl)).2.2) (hc1 := kc106_.out) (h := A109.out)).mono ?_; rintro e w109 ⟨v0x109, rfl, ho_, hb_⟩; refine ⟨_, rfl, ?_⟩; obtain ⟨ok109_, a109_, cc109_, rfl, kc109_, H_⟩ := St.callS H hb_ ho_; clear H hb_ ho_; have H := H_; clear H_; replace H := St.drop H 1; replace H := St.drop H 1; (try dsimp only [put, cutAt] at H))) | ((with_reducible refine gate_dst (N := 114) rfl ?_); go_loud (refine goesL_ (some 114) rfl rfl Try.func12 (by kernel_rfl) rfl #[.slice a109_ t109_1.length cc109_, .slice a38_ t38_1.length cc38_] rfl (by (try simp only [List.map_toArray, List.map_cons, List.map_nil]); first | done | rfl) ?_; refine (laws_eqSegS.calls (hr0 := (Kd.S_reads' (St.getS H 0 rfl)).2.2) (hc0 := kc109_.out) (hr1 := (Kd.S_reads' (St.getS H 2 rfl)).2.2) (hc1 := kc38_.out) (h := A114.out)).mono ?_; rintro e w114 ⟨rfl, hb_⟩; refine ⟨_, rfl, ?_⟩; replace H := St.call H hb_; clear hb_; replace H := St.drop H 0; replace H := St.drop H 1; (try dsimp only [put, cutAt] at H))) | ((with_reducible refine gate_dst (N := 123) rfl ?_); go_loud (refine goesL_ (some 123) rfl rfl Try.func16 (by kernel_rfl) rfl #[.slice a50_ t93_2.length cc50_, .int .i64 1] rfl (by (try simp only [List.map_toArray, List.map_cons, List.map_nil]); first | done | rfl) ?_; refine (laws_heldSegS.calls (hr0 := (Kd.S_reads' (St.getS H 0 rfl)).2.2) (hc0 := kc50_m.out) (h := A123.out)).mono ?_; rintro e w123 ⟨rfl, hb_⟩; replace hb_ := hb_.below; refine ⟨_, rfl, ?_⟩; replace H := St.call H hb_; clear hb_; replace H := St.drop H 0; (try dsimp only [put, cutAt] at H))) | (go_at_call 12; go_loud (refine (laws_eqSegS.calls (hr0 := (Kd.S_reads' (St.getS H 0 rfl)).2.2) (hc0 := kc50_.out) (hr1 := (Kd.S_reads' (St.getS H 1 rfl)).2.2) (hc1 := kc38_.out) (h := A83.out)).mono ?_; rintro e w83 ⟨rfl, hb_⟩; replace H := St.call H hb_; clear hb_)))
  go_ret
  exact ⟨by first | rfl | (simp; done), (St.lift H).below⟩

end Go.Proofs.Ytjnmenadlnajeaa.PFnExactFlatPart
