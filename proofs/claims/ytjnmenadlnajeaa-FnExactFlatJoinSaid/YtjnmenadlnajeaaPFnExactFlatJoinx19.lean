-- Written by a program of this session (lawx3.sh, lawwalk3.py); Lean checks it.
import Derived.Test.YtjnmenadlnajeaaPFnExactFlatJoinx0
import Derived.Test.YtjnmenadlnajeaaPFnExactFlatJoinx1
import Derived.Test.YtjnmenadlnajeaaPFnExactFlatJoinx2
import Derived.Test.YtjnmenadlnajeaaPFnExactFlatJoinx3
import Derived.Test.YtjnmenadlnajeaaPFnExactFlatJoinx4
import Derived.Test.YtjnmenadlnajeaaPFnExactFlatJoinx5
import Derived.Test.YtjnmenadlnajeaaPFnExactFlatJoinx6
import Derived.Test.YtjnmenadlnajeaaPFnExactFlatJoinx7
import Derived.Test.YtjnmenadlnajeaaPFnExactFlatJoinx8
import Derived.Test.YtjnmenadlnajeaaPFnExactFlatJoinx9
import Derived.Test.YtjnmenadlnajeaaPFnExactFlatJoinx10
import Derived.Test.YtjnmenadlnajeaaPFnExactFlatJoinx11
import Derived.Test.YtjnmenadlnajeaaPFnExactFlatJoinx12
import Derived.Test.YtjnmenadlnajeaaPFnExactFlatJoinx13
import Derived.Test.YtjnmenadlnajeaaPFnExactFlatJoinx14
import Derived.Test.YtjnmenadlnajeaaPFnExactFlatJoinx15
import Derived.Test.YtjnmenadlnajeaaPFnExactFlatJoinx16
import Derived.Test.YtjnmenadlnajeaaPFnExactFlatJoinx17
import Derived.Test.YtjnmenadlnajeaaPFnExactFlatJoinx18
import Derived.Test.YtjnmenadlnajeaaLaw
namespace Go.Proofs.Ytjnmenadlnajeaa.PFnExactFlatJoin
open Go.RowKit Go.Proofs.YtjnmenadlnajeaaW.PrintWords Go.Proofs.YtjnmenadlnajeaaW.PrintLast Go.Proofs.YtjnmenadlnajeaaW.PrintMore
attribute [local go_sem] max2_int min2_int max_two min_two max_three min_three max_four min_four   -- for this text's walks alone
set_option linter.unusedVariables false
set_option linter.unusedSimpArgs false

/-! ### laws_markSegS: function 15 -/
def laws_markSegS.l0 : Nat → List (S67) → Int → Int → Option (Int × (List (S67)))
  | 0, _, _, _ => none
  | k + 1, x0, x1, x5 => if x5 < (x0.length : Int) then (if 0 ≤ x5 then ((laws_markUint64S.f k (rd_T67 x0 x5).f3.f1 (wrap64 ((wrap64 ((wrap64 ((wrap64 (x1 + 1)) + 1)) + 1)) + 1))).bind fun t => laws_markSegS.l0 k (x0.set (x5 : Int).toNat (⟨x1, (wrap64 (x1 + 1)), (wrap64 ((wrap64 (x1 + 1)) + 1)), ⟨(wrap64 ((wrap64 ((wrap64 (x1 + 1)) + 1)) + 1)), t.2⟩⟩ : S67)) t.1 (wrap64 (x5 + 1))) else none) else some (x1, x0)
def laws_markSegS.f (k : Nat) (l0 : List (S67)) (a1 : Int) : Option (Int × (List (S67))) := laws_markSegS.l0 k l0 a1 0
set_option maxHeartbeats 8000000 in
set_option maxRecDepth 100000 in
theorem laws_markSegS.calls (k : Nat) (P0_ : Nat → Prop) (u9000_ : Value) (l0 : List (S67)) (a1 : Int) (r1 : Int) (r2 : List (S67)) (w0 w : World) (hB : Below w0.heap.size w0 w) (ho0 : Kd.S k67 67 w w0.heap.size P0_ u9000_ l0) (h : laws_markSegS.f k l0 a1 = some (r1, r2)) :
    Calls Try.prog 15 #[u9000_, .int .i64 a1] w fun e w' => e = .returned (.int .i64 r1) ∧ Kd.S k67 67 w' w0.heap.size (fun k_ => (P0_ k_ ∨ w.heap.size ≤ k_)) u9000_ r2 ∧ Below w0.heap.size w0 w' ∧ Kept w w' (fun k_ => P0_ k_) := by
  have hu67 := Try.underlying67
  have HO0 := Aside0.mk (show Kd.S k67 67 w w0.heap.size (fun k_ => (P0_ k_ ∨ w.heap.size ≤ k_)) u9000_ l0 from Kd.S_mono ho0 (fun k_ hk => (.inl hk)))
  have HK := Aside0.mk (Kept.refl w (fun k_ => P0_ k_))
  have HW0 := Aside0.mk hB.size
  have HB := Aside0.mk hB
  clear hB
  have H : (laws_markSegS.l0 k l0 a1 0) = some (r1, r2) := h
  clear h
  have H' := Aside0.mk H
  clear H
  go_enter Try.func15, Try.ntmps15
  go_wp2
  go_loopg [1, 5] k (fun kq v1 v5 w' => ∃ (x0_1 : List (S67)) (x1_1 : Int) (x5_1 : Int), v1 = .int .i64 x1_1 ∧ v5 = .int .i64 x5_1 ∧ Aside0 (laws_markSegS.l0 kq x0_1 x1_1 x5_1 = some (r1, r2)) ∧ Aside0 (kq ≤ k) ∧ Aside0 (Kd.S k67 67 w' w0.heap.size (fun k_ => (P0_ k_ ∨ w.heap.size ≤ k_)) u9000_ x0_1) ∧ Aside0 (Kept w w' (fun k_ => P0_ k_)) ∧ Aside0 (Below w0.heap.size w0 w'))
  case atStart => exact ⟨l0, a1, 0, (by first | rfl | (simp; done)), (by first | rfl | (simp; done)), H', ⟨Nat.le_refl _⟩, ⟨by (with_reducible repeat (first | apply Kd.S_alloc | apply Kd.S_drewN | apply Kd.S_drew)); exact HO0.out⟩, ⟨by repeat (first | (with_reducible first | exact HK.out | apply Kept.alloc | apply Kept.drewN | apply Kept.drew) | exact HK.out)⟩, ⟨by repeat (first | (with_reducible first | exact HB.out | apply below_alloc | apply pw_below_drewN | apply below_drew1) | exact HB.out)⟩⟩
  case round =>
    clear H' HO0
    obtain ⟨x0_1, x1_1, x5_1, rfl, rfl, HA, HKk, HO_0, HKq, HBq⟩ := hrel
    cases gk with
    | zero => exact absurd HA.out (by simp [laws_markSegS.l0])
    | succ k1 =>
      have H := HA.out
      clear HA
      simp only [laws_markSegS.l0] at H
      by_cases c3 : x5_1 < (x0_1.length : Int)
      · rw [if_pos c3] at H
        by_cases c5 : 0 ≤ x5_1
        · rw [if_pos c5] at H
          obtain ⟨⟨t1, t2⟩, A40, H⟩ := Option.bind_eq_some_iff.mp H
          replace H : laws_markSegS.l0 k1 (x0_1.set (x5_1 : Int).toNat (⟨x1_1, (wrap64 (x1_1 + 1)), (wrap64 ((wrap64 (x1_1 + 1)) + 1)), ⟨(wrap64 ((wrap64 ((wrap64 (x1_1 + 1)) + 1)) + 1)), t2⟩⟩ : S67)) t1 (wrap64 (x5_1 + 1)) = some (r1, r2) := H
          have A4 := Aside0.mk A40
          have H' := Aside0.mk H
          clear A40 H
          obtain ⟨g, cap, rfl, hgb, hgl, cells, hgc⟩ := Kd.S_form HO_0.out (by omega)
          have HG := Aside0.mk hgb
          clear hgb hgc
          obtain ⟨oki, c, hcl, hM, hcc, hfr, hoki, hH⟩ := Kd.S_elem HO_0.out z67 x5_1 c5 c3
          replace hM : k67.M wr w0.heap.size oki (⟨(rd_T67 x0_1 x5_1).f0, (rd_T67 x0_1 x5_1).f1, (rd_T67 x0_1 x5_1).f2, ⟨(rd_T67 x0_1 x5_1).f3.f0, (rd_T67 x0_1 x5_1).f3.f1⟩⟩ : S67) c := hM
          obtain ⟨v1, rfl, hR1⟩ := k67_openM hM
          have hx : wr.cell? ⟨g, (x5_1 : Int).toNat * 5, none⟩ = some (.int .i64 (rd_T67 x0_1 x5_1).f0) := hcc 0 _ rfl
          have hf : wr.frozen? ⟨g, (x5_1 : Int).toNat * 5, none⟩ = false := hfr 0
          have HP := Kd.S_seg (okg := fun _ => False) (Kd.H_mono hH (fun k hk => ⟨hk, fun h => h⟩)) c5 c3 (seg := [.int .i64 x1_1]) (j := 0) (show 0 + 1 ≤ 5 from by decide) (x' := (⟨x1_1, (rd_T67 x0_1 x5_1).f1, (rd_T67 x0_1 x5_1).f2, ⟨(rd_T67 x0_1 x5_1).f3.f0, (rd_T67 x0_1 x5_1).f3.f1⟩⟩ : S67)) (k67_mkM _ _ _ (⟨x1_1, (rd_T67 x0_1 x5_1).f1, (rd_T67 x0_1 x5_1).f2, ⟨(rd_T67 x0_1 x5_1).f3.f0, (rd_T67 x0_1 x5_1).f3.f1⟩⟩ : S67) hR1) (fun _ hk => .inl hk) (fun _ hk => hk.elim)
          have c3b0 : decide (x5_1 < (x0_1.length : Int)) = true := decide_eq_true c3
          have C3 := Aside0.mk c3
          have C5 := Aside0.mk c5
          replace c3 := eq_true c3
          replace c5 := eq_true c5
          clear hcl hM hcc hfr hH hR1 hoki
          go_wp2_with (first | ((with_reducible refine gate_store (t := 2) (p := 16) rfl ?_); refine store_event (t := 2) (p := 16) (v := ?vo_wm1) (w1 := (wr.setCell ⟨g, (x5_1 : Int).toNat * 5, none⟩ (.int .i64 x1_1))) ?hg ?ho ?hn ?hr ?_; (case ho => rfl); (case hg => rfl); (case hn => rfl); (case hr => first | (go_simp; done) | (go_simp; rfl)); intro wm1 hw; have hg : wr.grownBy wm1 (some g) := (by rw [hw]; exact HP.2); have HOa : Kd.S k67 67 wm1 w0.heap.size (fun k_ => (P0_ k_ ∨ w.heap.size ≤ k_)) (.slice (some ⟨g, 0, none⟩) x0_1.length cap) (x0_1.set x5_1.toNat (⟨x1_1, (rd_T67 x0_1 x5_1).f1, (rd_T67 x0_1 x5_1).f2, ⟨(rd_T67 x0_1 x5_1).f3.f0, (rd_T67 x0_1 x5_1).f3.f1⟩⟩ : S67)) := (by rw [hw]; exact HP.1); clear HP; have HB1 := Aside0.mk ((by rw [hw]; exact below_set (HBq.out) HG.out : Below w0.heap.size w0 wm1)); have HK1 := Aside0.mk (Kept.of_grown (S := (fun k_ => P0_ k_)) hg HKq.out (fun k_ e_ => ((Kd.S_R HO_0.out).1 k_ e_))); clear hx hf hg hw; obtain ⟨oki, c, hcl, hM, hcc, hfr, hoki, hH⟩ := Kd.S_elem HOa z67 x5_1 C5.out C3.out; replace hM := (show ((x0_1.set x5_1.toNat (⟨x1_1, (rd_T67 x0_1 x5_1).f1, (rd_T67 x0_1 x5_1).f2, ⟨(rd_T67 x0_1 x5_1).f3.f0, (rd_T67 x0_1 x5_1).f3.f1⟩⟩ : S67)).getD x5_1.toNat z67) = (⟨x1_1, (rd_T67 x0_1 x5_1).f1, (rd_T67 x0_1 x5_1).f2, ⟨(rd_T67 x0_1 x5_1).f3.f0, (rd_T67 x0_1 x5_1).f3.f1⟩⟩ : S67) from (by rw [List.getD_eq_getElem?_getD, List.getElem?_set_self (by have h3_ := C3.out; have h5_ := C5.out; omega)]; rfl)) ▸ hM; obtain ⟨v2, rfl, hR⟩ := k67_openM hM; have hx : wm1.cell? ⟨g, (x5_1 : Int).toNat * 5 + 1, none⟩ = some (.int .i64 (rd_T67 x0_1 x5_1).f1) := hcc 1 _ rfl; have hf : wm1.frozen? ⟨g, (x5_1 : Int).toNat * 5 + 1, none⟩ = false := hfr 1; have HP := Kd.S_seg (okg := fun _ => False) (Kd.H_mono hH (fun k hk => ⟨hk, fun h => h⟩)) C5.out C3.out (seg := [.int .i64 (wrap64 (x1_1 + 1))]) (j := 1) (show 1 + 1 ≤ 5 from by decide) (x' := (⟨x1_1, (wrap64 (x1_1 + 1)), (rd_T67 x0_1 x5_1).f2, ⟨(rd_T67 x0_1 x5_1).f3.f0, (rd_T67 x0_1 x5_1).f3.f1⟩⟩ : S67)) (k67_mkM _ _ _ (⟨x1_1, (wrap64 (x1_1 + 1)), (rd_T67 x0_1 x5_1).f2, ⟨(rd_T67 x0_1 x5_1).f3.f0, (rd_T67 x0_1 x5_1).f3.f1⟩⟩ : S67) hR) (fun _ hk => .inl hk) (fun _ hk => hk.elim); have HO1 := Aside0.mk HOa; clear HOa hcl hM hcc hfr hH hR hoki) | ((with_reducible refine gate_store (t := 2) (p := 23) rfl ?_); refine store_event (t := 2) (p := 23) (v := ?vo_wm2) (w1 := (wm1.setCell ⟨g, (x5_1 : Int).toNat * 5 + 1, none⟩ (.int .i64 (wrap64 (x1_1 + 1))))) ?hg ?ho ?hn ?hr ?_; (case ho => rfl); (case hg => rfl); (case hn => rfl); (case hr => first | (go_simp; done) | (go_simp; rfl)); intro wm2 hw; have hg : wm1.grownBy wm2 (some g) := (by rw [hw]; exact HP.2); have HOa : Kd.S k67 67 wm2 w0.heap.size (fun k_ => (P0_ k_ ∨ w.heap.size ≤ k_)) (.slice (some ⟨g, 0, none⟩) x0_1.length cap) ((x0_1.set x5_1.toNat (⟨x1_1, (rd_T67 x0_1 x5_1).f1, (rd_T67 x0_1 x5_1).f2, ⟨(rd_T67 x0_1 x5_1).f3.f0, (rd_T67 x0_1 x5_1).f3.f1⟩⟩ : S67)).set x5_1.toNat (⟨x1_1, (wrap64 (x1_1 + 1)), (rd_T67 x0_1 x5_1).f2, ⟨(rd_T67 x0_1 x5_1).f3.f0, (rd_T67 x0_1 x5_1).f3.f1⟩⟩ : S67)) := (by rw [hw]; exact HP.1); clear HP; rw [List.set_set] at HOa; have HB2 := Aside0.mk ((by rw [hw]; exact below_set (HB1.out) HG.out : Below w0.heap.size w0 wm2)); have HK2 := Aside0.mk (Kept.of_grown (S := (fun k_ => P0_ k_)) hg HK1.out (fun k_ e_ => ((Kd.S_R HO1.out).1 k_ e_))); clear hx hf hg hw; obtain ⟨oki, c, hcl, hM, hcc, hfr, hoki, hH⟩ := Kd.S_elem HOa z67 x5_1 C5.out C3.out; replace hM := (show ((x0_1.set x5_1.toNat (⟨x1_1, (wrap64 (x1_1 + 1)), (rd_T67 x0_1 x5_1).f2, ⟨(rd_T67 x0_1 x5_1).f3.f0, (rd_T67 x0_1 x5_1).f3.f1⟩⟩ : S67)).getD x5_1.toNat z67) = (⟨x1_1, (wrap64 (x1_1 + 1)), (rd_T67 x0_1 x5_1).f2, ⟨(rd_T67 x0_1 x5_1).f3.f0, (rd_T67 x0_1 x5_1).f3.f1⟩⟩ : S67) from (by rw [List.getD_eq_getElem?_getD, List.getElem?_set_self (by have h3_ := C3.out; have h5_ := C5.out; omega)]; rfl)) ▸ hM; obtain ⟨v3, rfl, hR⟩ := k67_openM hM; have hx : wm2.cell? ⟨g, (x5_1 : Int).toNat * 5 + 2, none⟩ = some (.int .i64 (rd_T67 x0_1 x5_1).f2) := hcc 2 _ rfl; have hf : wm2.frozen? ⟨g, (x5_1 : Int).toNat * 5 + 2, none⟩ = false := hfr 2; have HP := Kd.S_seg (okg := fun _ => False) (Kd.H_mono hH (fun k hk => ⟨hk, fun h => h⟩)) C5.out C3.out (seg := [.int .i64 (wrap64 ((wrap64 (x1_1 + 1)) + 1))]) (j := 2) (show 2 + 1 ≤ 5 from by decide) (x' := (⟨x1_1, (wrap64 (x1_1 + 1)), (wrap64 ((wrap64 (x1_1 + 1)) + 1)), ⟨(rd_T67 x0_1 x5_1).f3.f0, (rd_T67 x0_1 x5_1).f3.f1⟩⟩ : S67)) (k67_mkM _ _ _ (⟨x1_1, (wrap64 (x1_1 + 1)), (wrap64 ((wrap64 (x1_1 + 1)) + 1)), ⟨(rd_T67 x0_1 x5_1).f3.f0, (rd_T67 x0_1 x5_1).f3.f1⟩⟩ : S67) hR) (fun _ hk => .inl hk) (fun _ hk => hk.elim); have HO2 := Aside0.mk HOa; clear HOa hcl hM hcc hfr hH hR hoki) | ((with_reducible refine gate_store (t := 2) (p := 30) rfl ?_); refine store_event (t := 2) (p := 30) (v := ?vo_wm3) (w1 := (wm2.setCell ⟨g, (x5_1 : Int).toNat * 5 + 2, none⟩ (.int .i64 (wrap64 ((wrap64 (x1_1 + 1)) + 1))))) ?hg ?ho ?hn ?hr ?_; (case ho => rfl); (case hg => rfl); (case hn => rfl); (case hr => first | (go_simp; done) | (go_simp; rfl)); intro wm3 hw; have hg : wm2.grownBy wm3 (some g) := (by rw [hw]; exact HP.2); have HOa : Kd.S k67 67 wm3 w0.heap.size (fun k_ => (P0_ k_ ∨ w.heap.size ≤ k_)) (.slice (some ⟨g, 0, none⟩) x0_1.length cap) ((x0_1.set x5_1.toNat (⟨x1_1, (wrap64 (x1_1 + 1)), (rd_T67 x0_1 x5_1).f2, ⟨(rd_T67 x0_1 x5_1).f3.f0, (rd_T67 x0_1 x5_1).f3.f1⟩⟩ : S67)).set x5_1.toNat (⟨x1_1, (wrap64 (x1_1 + 1)), (wrap64 ((wrap64 (x1_1 + 1)) + 1)), ⟨(rd_T67 x0_1 x5_1).f3.f0, (rd_T67 x0_1 x5_1).f3.f1⟩⟩ : S67)) := (by rw [hw]; exact HP.1); clear HP; rw [List.set_set] at HOa; have HB3 := Aside0.mk ((by rw [hw]; exact below_set (HB2.out) HG.out : Below w0.heap.size w0 wm3)); have HK3 := Aside0.mk (Kept.of_grown (S := (fun k_ => P0_ k_)) hg HK2.out (fun k_ e_ => ((Kd.S_R HO2.out).1 k_ e_))); clear hx hf hg hw; obtain ⟨oki, c, hcl, hM, hcc, hfr, hoki, hH⟩ := Kd.S_elem HOa z67 x5_1 C5.out C3.out; replace hM := (show ((x0_1.set x5_1.toNat (⟨x1_1, (wrap64 (x1_1 + 1)), (wrap64 ((wrap64 (x1_1 + 1)) + 1)), ⟨(rd_T67 x0_1 x5_1).f3.f0, (rd_T67 x0_1 x5_1).f3.f1⟩⟩ : S67)).getD x5_1.toNat z67) = (⟨x1_1, (wrap64 (x1_1 + 1)), (wrap64 ((wrap64 (x1_1 + 1)) + 1)), ⟨(rd_T67 x0_1 x5_1).f3.f0, (rd_T67 x0_1 x5_1).f3.f1⟩⟩ : S67) from (by rw [List.getD_eq_getElem?_getD, List.getElem?_set_self (by have h3_ := C3.out; have h5_ := C5.out; omega)]; rfl)) ▸ hM; obtain ⟨v4, rfl, hR⟩ := k67_openM hM; have hx : wm3.cell? ⟨g, (x5_1 : Int).toNat * 5 + 3, none⟩ = some (.int .i64 (rd_T67 x0_1 x5_1).f3.f0) := hcc 3 _ rfl; have hf : wm3.frozen? ⟨g, (x5_1 : Int).toNat * 5 + 3, none⟩ = false := hfr 3; have HP := Kd.S_seg (okg := fun _ => False) (Kd.H_mono hH (fun k hk => ⟨hk, fun h => h⟩)) C5.out C3.out (seg := [.int .i64 (wrap64 ((wrap64 ((wrap64 (x1_1 + 1)) + 1)) + 1))]) (j := 3) (show 3 + 1 ≤ 5 from by decide) (x' := (⟨x1_1, (wrap64 (x1_1 + 1)), (wrap64 ((wrap64 (x1_1 + 1)) + 1)), ⟨(wrap64 ((wrap64 ((wrap64 (x1_1 + 1)) + 1)) + 1)), (rd_T67 x0_1 x5_1).f3.f1⟩⟩ : S67)) (k67_mkM _ _ _ (⟨x1_1, (wrap64 (x1_1 + 1)), (wrap64 ((wrap64 (x1_1 + 1)) + 1)), ⟨(wrap64 ((wrap64 ((wrap64 (x1_1 + 1)) + 1)) + 1)), (rd_T67 x0_1 x5_1).f3.f1⟩⟩ : S67) hR) (fun _ hk => .inl hk) (fun _ hk => hk.elim); have HO3 := Aside0.mk HOa; clear HOa hcl hM hcc hfr hH hR hoki) | ((with_reducible refine gate_store (t := 2) (p := 38) rfl ?_); refine store_event (t := 2) (p := 38) (v := ?vo_wm4) (w1 := (wm3.setCell ⟨g, (x5_1 : Int).toNat * 5 + 3, none⟩ (.int .i64 (wrap64 ((wrap64 ((wrap64 (x1_1 + 1)) + 1)) + 1))))) ?hg ?ho ?hn ?hr ?_; (case ho => rfl); (case hg => rfl); (case hn => rfl); (case hr => first | (go_simp; done) | (go_simp; rfl)); intro wm4 hw; have hg : wm3.grownBy wm4 (some g) := (by rw [hw]; exact HP.2); have HOa : Kd.S k67 67 wm4 w0.heap.size (fun k_ => (P0_ k_ ∨ w.heap.size ≤ k_)) (.slice (some ⟨g, 0, none⟩) x0_1.length cap) ((x0_1.set x5_1.toNat (⟨x1_1, (wrap64 (x1_1 + 1)), (wrap64 ((wrap64 (x1_1 + 1)) + 1)), ⟨(rd_T67 x0_1 x5_1).f3.f0, (rd_T67 x0_1 x5_1).f3.f1⟩⟩ : S67)).set x5_1.toNat (⟨x1_1, (wrap64 (x1_1 + 1)), (wrap64 ((wrap64 (x1_1 + 1)) + 1)), ⟨(wrap64 ((wrap64 ((wrap64 (x1_1 + 1)) + 1)) + 1)), (rd_T67 x0_1 x5_1).f3.f1⟩⟩ : S67)) := (by rw [hw]; exact HP.1); clear HP; rw [List.set_set] at HOa; have HB4 := Aside0.mk ((by rw [hw]; exact below_set (HB3.out) HG.out : Below w0.heap.size w0 wm4)); have HK4 := Aside0.mk (Kept.of_grown (S := (fun k_ => P0_ k_)) hg HK3.out (fun k_ e_ => ((Kd.S_R HO3.out).1 k_ e_))); clear hx hf hg hw; obtain ⟨oki2, c2, hcl2, hM2, hcc2, hoki2, hH2⟩ := Kd.S_lend HOa z67 x5_1 C5.out C3.out; replace hM2 := (show ((x0_1.set x5_1.toNat (⟨x1_1, (wrap64 (x1_1 + 1)), (wrap64 ((wrap64 (x1_1 + 1)) + 1)), ⟨(wrap64 ((wrap64 ((wrap64 (x1_1 + 1)) + 1)) + 1)), (rd_T67 x0_1 x5_1).f3.f1⟩⟩ : S67)).getD x5_1.toNat z67) = (⟨x1_1, (wrap64 (x1_1 + 1)), (wrap64 ((wrap64 (x1_1 + 1)) + 1)), ⟨(wrap64 ((wrap64 ((wrap64 (x1_1 + 1)) + 1)) + 1)), (rd_T67 x0_1 x5_1).f3.f1⟩⟩ : S67) from (by rw [List.getD_eq_getElem?_getD, List.getElem?_set_self (by have h3_ := C3.out; have h5_ := C5.out; omega)]; rfl)) ▸ hM2; obtain ⟨v5, rfl, hR2⟩ := k67_openM hM2; have hx2 : wm4.cell? ⟨g, (x5_1 : Int).toNat * 5 + 4, none⟩ = some v5 := hcc2 4 _ rfl; have HR2 := Aside0.mk hR2; have HH2 := Aside0.mk hH2; have HI2 := Aside0.mk hoki2; clear hR2 hH2 hoki2 hcl2 hM2 hcc2 HOa) | ((with_reducible refine gate_callee (f := 43) rfl ?_); refine goesL_ (some 48) rfl rfl Try.func43 (by kernel_rfl) rfl #[v5, .int .i64 (wrap64 ((wrap64 ((wrap64 ((wrap64 (x1_1 + 1)) + 1)) + 1)) + 1))] rfl (by (try simp only [List.map_toArray, List.map_cons, List.map_nil]); first | done | rfl | (simp only [List.length_drop, List.length_take]; rfl)) ?_; refine (laws_markUint64S.calls k1 oki2 v5 _ (wrap64 ((wrap64 ((wrap64 ((wrap64 (x1_1 + 1)) + 1)) + 1)) + 1)) t1 t2 w0 _ (by repeat (first | (with_reducible first | exact HB4.out | apply below_alloc | apply pw_below_drewN | apply below_drew1) | exact HB4.out)) (by (with_reducible repeat (first | apply Kd.R_alloc | apply Kd.R_drewN | apply Kd.R_drew)); exact HR2.out) A4.out).mono ?_; rintro e w12 ⟨rfl, hr', hb', hk'⟩; refine ⟨_, rfl, ?_⟩; have HS := Aside0.mk (Kd.H_back (Kd.H_step (Kd.H_widen HH2.out) (fun k _ hn hlt => hk'.2 k hlt (fun h => hn (.inl h)))) (k67_mkM _ _ _ (⟨x1_1, (wrap64 (x1_1 + 1)), (wrap64 ((wrap64 (x1_1 + 1)) + 1)), ⟨(wrap64 ((wrap64 ((wrap64 (x1_1 + 1)) + 1)) + 1)), t2⟩⟩ : S67) hr') (fun k hk => hk.elim .inl (fun h => .inr ⟨.inr (Nat.le_trans HK4.out.1 h), h⟩))); have HK5 := Aside0.mk (Kept.then_ HK4.out hk' (fun k hk => (HI2.out k hk).1)); have HB5 := Aside0.mk hb'; clear hr' hb' hk' HH2 HR2 HI2 hx2))
          go_roundg k1
          case measure => have := HKk.out; omega
          case rel => exact ⟨_, _, _, (by first | rfl | (simp; done)), (by first | rfl | (simp; done)), H', ⟨by have := HKk.out; omega⟩, ⟨by first | exact HS.out | (have := HS.out; rw [List.set_set] at this; exact this)⟩, ⟨HK5.out⟩, ⟨HB5.out⟩⟩
        · rw [if_neg c5] at H
          exact absurd H (by simp)
      · rw [if_neg c3] at H
        have c3b0 : decide (x5_1 < (x0_1.length : Int)) = false := decide_eq_false c3
        clear c3
        simp only [Option.some.injEq, Prod.mk.injEq] at H
        obtain ⟨rfl, rfl⟩ := H
        obtain ⟨Ao14, co14, eo14⟩ := Kd.S_slice HO_0.out
        subst eo14
        go_wp2
        go_ret
        exact ⟨by first | rfl | (simp; done), HO_0.out, HBq.out, HKq.out⟩

/-! ### laws_FnExactFlatJoin: function 3 -/
def laws_FnExactFlatJoin.f (k : Nat) (l0 : List (S55)) (l1 : List (S59)) (l2 : List (S59)) : Option (Bool) := (laws_szDeclS.f k l0 1048576).bind fun t22 => if t22 < 0 then some true else (laws_szSegS.f k l1 t22).bind fun t27 => if t27 < 0 then some true else (laws_szSegS.f k l2 t27).bind fun t32 => if t32 < 0 then some true else (laws_toDeclS.f k l0).bind fun t37 => (laws_toSegS.f k l1).bind fun t39 => (laws_toSegS.f k l2).bind fun t41 => (spec_FlatJoin.f k t37 t39 t41).bind fun bt42 => (laws_toDeclS.f k l0).bind fun t46 => (laws_toSegS.f k l1).bind fun t48 => (laws_toSegS.f k l2).bind fun t50 => (impl_FlatJoin.f k t46 t48 t50).bind fun bt55 => (laws_eqSegS.f k bt55.1 bt42.1).bind fun t60 => if t60 = true then (if (bt55.2 != bt42.2) = true then none else (laws_toDeclS.f k l0).bind fun t69 => (laws_eqDeclS.f k t46 t69).bind fun t70 => if t70 = true then ((laws_toSegS.f k l1).bind fun t74 => (laws_eqSegS.f k t48 t74).bind fun t75 => if t75 = true then ((laws_toSegS.f k l2).bind fun t79 => (laws_eqSegS.f k t50 t79).bind fun t80 => if t80 = true then ((laws_markDeclS.f k t46 1).bind fun bt84 => (laws_markSegS.f k t48 bt84.1).bind fun bt87 => (laws_markSegS.f k t50 bt87.1).bind fun bt90 => (laws_eqSegS.f k bt55.1 bt42.1).bind fun t96 => if bt90.1 < 0 then none else if t96 = true then (if (bt55.2 != bt42.2) = true then none else (laws_markSegS.f k bt55.1 1).bind fun bt106 => (laws_heldSegS.f k bt106.2 1).bind fun t109 => if t109 < 0 then none else if t109 = bt106.1 then ((laws_toDeclS.f k l0).bind fun t117 => (laws_toSegS.f k l1).bind fun t119 => (laws_toSegS.f k l2).bind fun t121 => (impl_FlatJoin.f k t117 t119 t121).bind fun bt122 => (laws_eqSegS.f k bt122.1 bt42.1).bind fun t127 => if t127 = true then (if (bt122.2 != bt42.2) = true then none else (laws_heldSegS.f k bt106.2 1).bind fun t136 => if t136 < 0 then none else if t136 = bt106.1 then (some true) else none) else none) else none) else none) else none) else none) else none) else none
set_option maxHeartbeats 8000000 in
set_option maxRecDepth 100000 in
theorem laws_FnExactFlatJoin.calls (k : Nat) (A0 : Option Addr) (c0 : Nat) (l0 : List (S55)) (A1 : Option Addr) (c1 : Nat) (l1 : List (S59)) (A2 : Option Addr) (c2 : Nat) (l2 : List (S59)) (r : Bool) (w : World) (hr0 : Kd.C k55 w A0 l0.length l0) (hc0 : l0.length ≤ c0) (hr1 : Kd.C k59 w A1 l1.length l1) (hc1 : l1.length ≤ c1) (hr2 : Kd.C k59 w A2 l2.length l2) (hc2 : l2.length ≤ c2) (h : laws_FnExactFlatJoin.f k l0 l1 l2 = some r) :
    Calls Try.prog 3 #[.slice A0 l0.length c0, .slice A1 l1.length c1, .slice A2 l2.length c2] w fun e w' => e = .returned (.bool r) ∧ Below w.heap.size w w' := by
  have HR0 := Aside0.mk hr0; have HC0 := Aside0.mk hc0; clear hr0 hc0
  have HR1 := Aside0.mk hr1; have HC1 := Aside0.mk hc1; clear hr1 hc1
  have HR2 := Aside0.mk hr2; have HC2 := Aside0.mk hc2; clear hr2 hc2
  have H := St.nil w
  unfold laws_FnExactFlatJoin.f at h
  obtain ⟨t22, A22_, h_⟩ := Option.bind_eq_some_iff.mp h; clear h; have h := h_; clear h_
  have A22 := Aside0.mk A22_; clear A22_
  try dsimp only at h
  by_cases c1_ : t22 < 0
  · rw [if_pos c1_] at h
    obtain rfl := Option.some.inj h
    have c1b := decide_eq_true c1_
    clear c1_ h
    go_enter Try.func3, Try.ntmps3
    go_wp2_with (first | ((with_reducible refine gate_dst (N := 22) rfl ?_); go_loud (refine goesL_ (some 22) rfl rfl Try.func6 (by kernel_rfl) rfl #[.slice A0 l0.length c0, .int .i64 1048576] rfl (by (try simp only [List.map_toArray, List.map_cons, List.map_nil]); first | done | rfl) ?_; refine (laws_szDeclS.calls (hr0 := Kd.C_below HR0.out (St.lift H).below) (hc0 := HC0.out) (h := A22.out)).mono ?_; rintro e w22 ⟨rfl, hb_⟩; refine ⟨_, rfl, ?_⟩; replace H := St.call H hb_; clear hb_)))
    go_ret
    exact ⟨by first | rfl | (simp; done), (St.lift H).below⟩
  rw [if_neg c1_] at h; have c1b := decide_eq_false c1_
  clear c1_
  obtain ⟨t27, A27_, h_⟩ := Option.bind_eq_some_iff.mp h; clear h; have h := h_; clear h_
  have A27 := Aside0.mk A27_; clear A27_
  try dsimp only at h
  by_cases c2_ : t27 < 0
  · rw [if_pos c2_] at h
    obtain rfl := Option.some.inj h
    have c2b := decide_eq_true c2_
    clear c2_ h
    go_enter Try.func3, Try.ntmps3
    go_wp2_with (first | ((with_reducible refine gate_dst (N := 22) rfl ?_); go_loud (refine goesL_ (some 22) rfl rfl Try.func6 (by kernel_rfl) rfl #[.slice A0 l0.length c0, .int .i64 1048576] rfl (by (try simp only [List.map_toArray, List.map_cons, List.map_nil]); first | done | rfl) ?_; refine (laws_szDeclS.calls (hr0 := Kd.C_below HR0.out (St.lift H).below) (hc0 := HC0.out) (h := A22.out)).mono ?_; rintro e w22 ⟨rfl, hb_⟩; refine ⟨_, rfl, ?_⟩; replace H := St.call H hb_; clear hb_)) | ((with_reducible refine gate_dst (N := 27) rfl ?_); go_loud (refine goesL_ (some 27) rfl rfl Try.func7 (by kernel_rfl) rfl #[.slice A1 l1.length c1, .int .i64 t22] rfl (by (try simp only [List.map_toArray, List.map_cons, List.map_nil]); first | done | rfl) ?_; refine (laws_szSegS.calls (hr0 := Kd.C_below HR1.out (St.lift H).below) (hc0 := HC1.out) (h := A27.out)).mono ?_; rintro e w27 ⟨rfl, hb_⟩; refine ⟨_, rfl, ?_⟩; replace H := St.call H hb_; clear hb_)))
    go_ret
    exact ⟨by first | rfl | (simp; done), (St.lift H).below⟩
  rw [if_neg c2_] at h; have c2b := decide_eq_false c2_
  clear c2_
  obtain ⟨t32, A32_, h_⟩ := Option.bind_eq_some_iff.mp h; clear h; have h := h_; clear h_
  have A32 := Aside0.mk A32_; clear A32_
  try dsimp only at h
  by_cases c3_ : t32 < 0
  · rw [if_pos c3_] at h
    obtain rfl := Option.some.inj h
    have c3b := decide_eq_true c3_
    clear c3_ h
    go_enter Try.func3, Try.ntmps3
    go_wp2_with (first | ((with_reducible refine gate_dst (N := 22) rfl ?_); go_loud (refine goesL_ (some 22) rfl rfl Try.func6 (by kernel_rfl) rfl #[.slice A0 l0.length c0, .int .i64 1048576] rfl (by (try simp only [List.map_toArray, List.map_cons, List.map_nil]); first | done | rfl) ?_; refine (laws_szDeclS.calls (hr0 := Kd.C_below HR0.out (St.lift H).below) (hc0 := HC0.out) (h := A22.out)).mono ?_; rintro e w22 ⟨rfl, hb_⟩; refine ⟨_, rfl, ?_⟩; replace H := St.call H hb_; clear hb_)) | ((with_reducible refine gate_dst (N := 27) rfl ?_); go_loud (refine goesL_ (some 27) rfl rfl Try.func7 (by kernel_rfl) rfl #[.slice A1 l1.length c1, .int .i64 t22] rfl (by (try simp only [List.map_toArray, List.map_cons, List.map_nil]); first | done | rfl) ?_; refine (laws_szSegS.calls (hr0 := Kd.C_below HR1.out (St.lift H).below) (hc0 := HC1.out) (h := A27.out)).mono ?_; rintro e w27 ⟨rfl, hb_⟩; refine ⟨_, rfl, ?_⟩; replace H := St.call H hb_; clear hb_)) | ((with_reducible refine gate_dst (N := 32) rfl ?_); go_loud (refine goesL_ (some 32) rfl rfl Try.func7 (by kernel_rfl) rfl #[.slice A2 l2.length c2, .int .i64 t27] rfl (by (try simp only [List.map_toArray, List.map_cons, List.map_nil]); first | done | rfl) ?_; refine (laws_szSegS.calls (hr0 := Kd.C_below HR2.out (St.lift H).below) (hc0 := HC2.out) (h := A32.out)).mono ?_; rintro e w32 ⟨rfl, hb_⟩; refine ⟨_, rfl, ?_⟩; replace H := St.call H hb_; clear hb_)))
    go_ret
    exact ⟨by first | rfl | (simp; done), (St.lift H).below⟩
  rw [if_neg c3_] at h; have c3b := decide_eq_false c3_
  clear c3_
  obtain ⟨t37, A37_, h_⟩ := Option.bind_eq_some_iff.mp h; clear h; have h := h_; clear h_
  have A37 := Aside0.mk A37_; clear A37_
  try dsimp only at h
  obtain ⟨t39, A39_, h_⟩ := Option.bind_eq_some_iff.mp h; clear h; have h := h_; clear h_
  have A39 := Aside0.mk A39_; clear A39_
  try dsimp only at h
  obtain ⟨t41, A41_, h_⟩ := Option.bind_eq_some_iff.mp h; clear h; have h := h_; clear h_
  have A41 := Aside0.mk A41_; clear A41_
  try dsimp only at h
  obtain ⟨⟨t42_1, t42_2⟩, A42_, h_⟩ := Option.bind_eq_some_iff.mp h; clear h; have h := h_; clear h_
  have A42 := Aside0.mk A42_; clear A42_
  try dsimp only at h
  obtain ⟨t46, A46_, h_⟩ := Option.bind_eq_some_iff.mp h; clear h; have h := h_; clear h_
  have A46 := Aside0.mk A46_; clear A46_
  try dsimp only at h
  obtain ⟨t48, A48_, h_⟩ := Option.bind_eq_some_iff.mp h; clear h; have h := h_; clear h_
  have A48 := Aside0.mk A48_; clear A48_
  try dsimp only at h
  obtain ⟨t50, A50_, h_⟩ := Option.bind_eq_some_iff.mp h; clear h; have h := h_; clear h_
  have A50 := Aside0.mk A50_; clear A50_
  try dsimp only at h
  obtain ⟨⟨t55_1, t55_2⟩, A55_, h_⟩ := Option.bind_eq_some_iff.mp h; clear h; have h := h_; clear h_
  have A55 := Aside0.mk A55_; clear A55_
  try dsimp only at h
  obtain ⟨t60, A60_, h_⟩ := Option.bind_eq_some_iff.mp h; clear h; have h := h_; clear h_
  have A60 := Aside0.mk A60_; clear A60_
  try dsimp only at h
  obtain ⟨c4_, h_⟩ := iteP_ h; clear h; have h := h_; clear h_; subst c4_
  obtain ⟨c5_, h_⟩ := iteN_ h; clear h; have h := h_; clear h_; have c5b : (t55_2 != t42_2) = false := by simpa using c5_
  have c5d : decide (t55_2 = t42_2) = true := by simpa using c5_
  have c5e : (t55_2 == t42_2) = true := by simpa using c5_
  clear c5_
  obtain ⟨t69, A69_, h_⟩ := Option.bind_eq_some_iff.mp h; clear h; have h := h_; clear h_
  have A69 := Aside0.mk A69_; clear A69_
  try dsimp only at h
  obtain ⟨t70, A70_, h_⟩ := Option.bind_eq_some_iff.mp h; clear h; have h := h_; clear h_
  have A70 := Aside0.mk A70_; clear A70_
  try dsimp only at h
  obtain ⟨c6_, h_⟩ := iteP_ h; clear h; have h := h_; clear h_; subst c6_
  obtain ⟨t74, A74_, h_⟩ := Option.bind_eq_some_iff.mp h; clear h; have h := h_; clear h_
  have A74 := Aside0.mk A74_; clear A74_
  try dsimp only at h
  obtain ⟨t75, A75_, h_⟩ := Option.bind_eq_some_iff.mp h; clear h; have h := h_; clear h_
  have A75 := Aside0.mk A75_; clear A75_
  try dsimp only at h
  obtain ⟨c7_, h_⟩ := iteP_ h; clear h; have h := h_; clear h_; subst c7_
  obtain ⟨t79, A79_, h_⟩ := Option.bind_eq_some_iff.mp h; clear h; have h := h_; clear h_
  have A79 := Aside0.mk A79_; clear A79_
  try dsimp only at h
  obtain ⟨t80, A80_, h_⟩ := Option.bind_eq_some_iff.mp h; clear h; have h := h_; clear h_
  have A80 := Aside0.mk A80_; clear A80_
  try dsimp only at h
  obtain ⟨c8_, h_⟩ := iteP_ h; clear h; have h := h_; clear h_; subst c8_
  obtain ⟨⟨t84_1, t84_2⟩, A84_, h_⟩ := Option.bind_eq_some_iff.mp h; clear h; have h := h_; clear h_
  have A84 := Aside0.mk A84_; clear A84_
  try dsimp only at h
  obtain ⟨⟨t87_1, t87_2⟩, A87_, h_⟩ := Option.bind_eq_some_iff.mp h; clear h; have h := h_; clear h_
  have A87 := Aside0.mk A87_; clear A87_
  try dsimp only at h
  obtain ⟨⟨t90_1, t90_2⟩, A90_, h_⟩ := Option.bind_eq_some_iff.mp h; clear h; have h := h_; clear h_
  have A90 := Aside0.mk A90_; clear A90_
  try dsimp only at h
  obtain ⟨t96, A96_, h_⟩ := Option.bind_eq_some_iff.mp h; clear h; have h := h_; clear h_
  have A96 := Aside0.mk A96_; clear A96_
  try dsimp only at h
  obtain ⟨c9_, h_⟩ := iteN_ h; clear h; have h := h_; clear h_; have c9b := decide_eq_false c9_; clear c9_
  obtain ⟨c10_, h_⟩ := iteP_ h; clear h; have h := h_; clear h_; subst c10_
  obtain ⟨c11_, h_⟩ := iteN_ h; clear h; have h := h_; clear h_; have c11b : (t55_2 != t42_2) = false := by simpa using c11_
  have c11d : decide (t55_2 = t42_2) = true := by simpa using c11_
  have c11e : (t55_2 == t42_2) = true := by simpa using c11_
  clear c11_
  obtain ⟨⟨t106_1, t106_2⟩, A106_, h_⟩ := Option.bind_eq_some_iff.mp h; clear h; have h := h_; clear h_
  have A106 := Aside0.mk A106_; clear A106_
  try dsimp only at h
  obtain ⟨t109, A109_, h_⟩ := Option.bind_eq_some_iff.mp h; clear h; have h := h_; clear h_
  have A109 := Aside0.mk A109_; clear A109_
  try dsimp only at h
  obtain ⟨c12_, h_⟩ := iteN_ h; clear h; have h := h_; clear h_; have c12b := decide_eq_false c12_; clear c12_
  obtain ⟨c13_, h_⟩ := iteP_ h; clear h; have h := h_; clear h_; have c13b : (t109 != t106_1) = false := by simpa using c13_
  have c13d : decide (t109 = t106_1) = true := by simpa using c13_
  have c13e : (t109 == t106_1) = true := by simpa using c13_
  clear c13_
  obtain ⟨t117, A117_, h_⟩ := Option.bind_eq_some_iff.mp h; clear h; have h := h_; clear h_
  have A117 := Aside0.mk A117_; clear A117_
  try dsimp only at h
  obtain ⟨t119, A119_, h_⟩ := Option.bind_eq_some_iff.mp h; clear h; have h := h_; clear h_
  have A119 := Aside0.mk A119_; clear A119_
  try dsimp only at h
  obtain ⟨t121, A121_, h_⟩ := Option.bind_eq_some_iff.mp h; clear h; have h := h_; clear h_
  have A121 := Aside0.mk A121_; clear A121_
  try dsimp only at h
  obtain ⟨⟨t122_1, t122_2⟩, A122_, h_⟩ := Option.bind_eq_some_iff.mp h; clear h; have h := h_; clear h_
  have A122 := Aside0.mk A122_; clear A122_
  try dsimp only at h
  obtain ⟨t127, A127_, h_⟩ := Option.bind_eq_some_iff.mp h; clear h; have h := h_; clear h_
  have A127 := Aside0.mk A127_; clear A127_
  try dsimp only at h
  obtain ⟨c14_, h_⟩ := iteP_ h; clear h; have h := h_; clear h_; subst c14_
  obtain ⟨c15_, h_⟩ := iteN_ h; clear h; have h := h_; clear h_; have c15b : (t122_2 != t42_2) = false := by simpa using c15_
  have c15d : decide (t122_2 = t42_2) = true := by simpa using c15_
  have c15e : (t122_2 == t42_2) = true := by simpa using c15_
  clear c15_
  obtain ⟨t136, A136_, h_⟩ := Option.bind_eq_some_iff.mp h; clear h; have h := h_; clear h_
  have A136 := Aside0.mk A136_; clear A136_
  try dsimp only at h
  obtain ⟨c16_, h_⟩ := iteN_ h; clear h; have h := h_; clear h_; have c16b := decide_eq_false c16_; clear c16_
  obtain ⟨c17_, h_⟩ := iteP_ h; clear h; have h := h_; clear h_; have c17b : (t136 != t106_1) = false := by simpa using c17_
  have c17d : decide (t136 = t106_1) = true := by simpa using c17_
  have c17e : (t136 == t106_1) = true := by simpa using c17_
  clear c17_
  obtain rfl := Option.some.inj h; clear h
  go_enter Try.func3, Try.ntmps3
  go_wp2_with (first | ((with_reducible refine gate_dst (N := 22) rfl ?_); go_loud (refine goesL_ (some 22) rfl rfl Try.func6 (by kernel_rfl) rfl #[.slice A0 l0.length c0, .int .i64 1048576] rfl (by (try simp only [List.map_toArray, List.map_cons, List.map_nil]); first | done | rfl) ?_; refine (laws_szDeclS.calls (hr0 := Kd.C_below HR0.out (St.lift H).below) (hc0 := HC0.out) (h := A22.out)).mono ?_; rintro e w22 ⟨rfl, hb_⟩; refine ⟨_, rfl, ?_⟩; replace H := St.call H hb_; clear hb_)) | ((with_reducible refine gate_dst (N := 27) rfl ?_); go_loud (refine goesL_ (some 27) rfl rfl Try.func7 (by kernel_rfl) rfl #[.slice A1 l1.length c1, .int .i64 t22] rfl (by (try simp only [List.map_toArray, List.map_cons, List.map_nil]); first | done | rfl) ?_; refine (laws_szSegS.calls (hr0 := Kd.C_below HR1.out (St.lift H).below) (hc0 := HC1.out) (h := A27.out)).mono ?_; rintro e w27 ⟨rfl, hb_⟩; refine ⟨_, rfl, ?_⟩; replace H := St.call H hb_; clear hb_)) | ((with_reducible refine gate_dst (N := 32) rfl ?_); go_loud (refine goesL_ (some 32) rfl rfl Try.func7 (by kernel_rfl) rfl #[.slice A2 l2.length c2, .int .i64 t27] rfl (by (try simp only [List.map_toArray, List.map_cons, List.map_nil]); first | done | rfl) ?_; refine (laws_szSegS.calls (hr0 := Kd.C_below HR2.out (St.lift H).below) (hc0 := HC2.out) (h := A32.out)).mono ?_; rintro e w32 ⟨rfl, hb_⟩; refine ⟨_, rfl, ?_⟩; replace H := St.call H hb_; clear hb_)) | ((with_reducible refine gate_dst (N := 37) rfl ?_); go_loud (refine goesL_ (some 37) rfl rfl Try.func9 (by kernel_rfl) rfl #[.slice A0 l0.length c0] rfl (by (try simp only [List.map_toArray, List.map_cons, List.map_nil]); first | done | rfl) ?_; refine (laws_toDeclS.calls (hr0 := Kd.C_below HR0.out (St.lift H).below) (hc0 := HC0.out) (h := A37.out)).mono ?_; rintro e w37 ⟨v0x37, rfl, ho_, hb_⟩; refine ⟨_, rfl, ?_⟩; obtain ⟨ok37_, a37_, cc37_, rfl, kc37_, H_⟩ := St.callR H hb_ ho_; clear H hb_ ho_; have H := H_; clear H_)) | ((with_reducible refine gate_dst (N := 39) rfl ?_); go_loud (refine goesL_ (some 39) rfl rfl Try.func10 (by kernel_rfl) rfl #[.slice A1 l1.length c1] rfl (by (try simp only [List.map_toArray, List.map_cons, List.map_nil]); first | done | rfl) ?_; refine (laws_toSegS.calls (hr0 := Kd.C_below HR1.out (St.lift H).below) (hc0 := HC1.out) (h := A39.out)).mono ?_; rintro e w39 ⟨v0x39, rfl, ho_, hb_⟩; refine ⟨_, rfl, ?_⟩; obtain ⟨ok39_, a39_, cc39_, rfl, kc39_, H_⟩ := St.callS H hb_ ho_; clear H hb_ ho_; have H := H_; clear H_)) | ((with_reducible refine gate_dst (N := 41) rfl ?_); go_loud (refine goesL_ (some 41) rfl rfl Try.func10 (by kernel_rfl) rfl #[.slice A2 l2.length c2] rfl (by (try simp only [List.map_toArray, List.map_cons, List.map_nil]); first | done | rfl) ?_; refine (laws_toSegS.calls (hr0 := Kd.C_below HR2.out (St.lift H).below) (hc0 := HC2.out) (h := A41.out)).mono ?_; rintro e w41 ⟨v0x41, rfl, ho_, hb_⟩; refine ⟨_, rfl, ?_⟩; obtain ⟨ok41_, a41_, cc41_, rfl, kc41_, H_⟩ := St.callS H hb_ ho_; clear H hb_ ho_; have H := H_; clear H_)) | ((with_reducible refine gate_dst (N := 42) rfl ?_); go_loud (refine goesL_ (some 42) rfl rfl Try.func8 (by kernel_rfl) rfl #[.slice a37_ t37.length cc37_, .slice a39_ t39.length cc39_, .slice a41_ t41.length cc41_] rfl (by (try simp only [List.map_toArray, List.map_cons, List.map_nil]); first | done | rfl) ?_; refine (spec_FlatJoin.calls (hr0 := (Kd.R_reads' (St.getR H 2 rfl)).2.2) (hc0 := kc37_.out) (hr1 := (Kd.S_reads' (St.getS H 1 rfl)).2.2) (hc1 := kc39_.out) (hr2 := (Kd.S_reads' (St.getS H 0 rfl)).2.2) (hc2 := kc41_.out) (h := A42.out)).mono ?_; rintro e w42 ⟨v0x42, rfl, ho_, hb_⟩; refine ⟨_, rfl, ?_⟩; obtain ⟨ok42_, a42_, cc42_, rfl, kc42_, H_⟩ := St.callS H hb_ ho_; clear H hb_ ho_; have H := H_; clear H_; replace H := St.drop H 1; replace H := St.drop H 1; replace H := St.drop H 1; (try dsimp only [put, cutAt] at H))) | ((with_reducible refine gate_dst (N := 46) rfl ?_); go_loud (refine goesL_ (some 46) rfl rfl Try.func9 (by kernel_rfl) rfl #[.slice A0 l0.length c0] rfl (by (try simp only [List.map_toArray, List.map_cons, List.map_nil]); first | done | rfl) ?_; refine (laws_toDeclS.calls (hr0 := Kd.C_below HR0.out (St.lift H).below) (hc0 := HC0.out) (h := A46.out)).mono ?_; rintro e w46 ⟨v0x46, rfl, ho_, hb_⟩; refine ⟨_, rfl, ?_⟩; obtain ⟨ok46_, a46_, cc46_, rfl, kc46_, H_⟩ := St.callR H hb_ ho_; clear H hb_ ho_; have H := H_; clear H_)) | ((with_reducible refine gate_dst (N := 48) rfl ?_); go_loud (refine goesL_ (some 48) rfl rfl Try.func10 (by kernel_rfl) rfl #[.slice A1 l1.length c1] rfl (by (try simp only [List.map_toArray, List.map_cons, List.map_nil]); first | done | rfl) ?_; refine (laws_toSegS.calls (hr0 := Kd.C_below HR1.out (St.lift H).below) (hc0 := HC1.out) (h := A48.out)).mono ?_; rintro e w48 ⟨v0x48, rfl, ho_, hb_⟩; refine ⟨_, rfl, ?_⟩; obtain ⟨ok48_, a48_, cc48_, rfl, kc48_, H_⟩ := St.callS H hb_ ho_; clear H hb_ ho_; have H := H_; clear H_)) | ((with_reducible refine gate_dst (N := 50) rfl ?_); go_loud (refine goesL_ (some 50) rfl rfl Try.func10 (by kernel_rfl) rfl #[.slice A2 l2.length c2] rfl (by (try simp only [List.map_toArray, List.map_cons, List.map_nil]); first | done | rfl) ?_; refine (laws_toSegS.calls (hr0 := Kd.C_below HR2.out (St.lift H).below) (hc0 := HC2.out) (h := A50.out)).mono ?_; rintro e w50 ⟨v0x50, rfl, ho_, hb_⟩; refine ⟨_, rfl, ?_⟩; obtain ⟨ok50_, a50_, cc50_, rfl, kc50_, H_⟩ := St.callS H hb_ ho_; clear H hb_ ho_; have H := H_; clear H_)) | ((with_reducible refine gate_dst (N := 55) rfl ?_); go_loud (refine goesL_ (some 55) rfl rfl Try.func11 (by kernel_rfl) rfl #[.slice a46_ t46.length cc46_, .slice a48_ t48.length cc48_, .slice a50_ t50.length cc50_] rfl (by (try simp only [List.map_toArray, List.map_cons, List.map_nil]); first | done | rfl) ?_; refine (impl_FlatJoin.calls (hr0 := (Kd.R_reads' (St.getR H 2 rfl)).2.2) (hc0 := kc46_.out) (hr1 := (Kd.S_reads' (St.getS H 1 rfl)).2.2) (hc1 := kc48_.out) (hr2 := (Kd.S_reads' (St.getS H 0 rfl)).2.2) (hc2 := kc50_.out) (h := A55.out)).mono ?_; rintro e w55 ⟨v0x55, rfl, ho_, hb_⟩; refine ⟨_, rfl, ?_⟩; obtain ⟨ok55_, a55_, cc55_, rfl, kc55_, H_⟩ := St.callS H hb_ ho_; clear H hb_ ho_; have H := H_; clear H_)) | ((with_reducible refine gate_dst (N := 60) rfl ?_); go_loud (refine goesL_ (some 60) rfl rfl Try.func12 (by kernel_rfl) rfl #[.slice a55_ t55_1.length cc55_, .slice a42_ t42_1.length cc42_] rfl (by (try simp only [List.map_toArray, List.map_cons, List.map_nil]); first | done | rfl) ?_; refine (laws_eqSegS.calls (hr0 := (Kd.S_reads' (St.getS H 0 rfl)).2.2) (hc0 := kc55_.out) (hr1 := (Kd.S_reads' (St.getS H 4 rfl)).2.2) (hc1 := kc42_.out) (h := A60.out)).mono ?_; rintro e w60 ⟨rfl, hb_⟩; refine ⟨_, rfl, ?_⟩; replace H := St.call H hb_; clear hb_)) | ((with_reducible refine gate_dst (N := 69) rfl ?_); go_loud (refine goesL_ (some 69) rfl rfl Try.func9 (by kernel_rfl) rfl #[.slice A0 l0.length c0] rfl (by (try simp only [List.map_toArray, List.map_cons, List.map_nil]); first | done | rfl) ?_; refine (laws_toDeclS.calls (hr0 := Kd.C_below HR0.out (St.lift H).below) (hc0 := HC0.out) (h := A69.out)).mono ?_; rintro e w69 ⟨v0x69, rfl, ho_, hb_⟩; refine ⟨_, rfl, ?_⟩; obtain ⟨ok69_, a69_, cc69_, rfl, kc69_, H_⟩ := St.callR H hb_ ho_; clear H hb_ ho_; have H := H_; clear H_)) | ((with_reducible refine gate_dst (N := 70) rfl ?_); go_loud (refine goesL_ (some 70) rfl rfl Try.func13 (by kernel_rfl) rfl #[.slice a46_ t46.length cc46_, .slice a69_ t69.length cc69_] rfl (by (try simp only [List.map_toArray, List.map_cons, List.map_nil]); first | done | rfl) ?_; refine (laws_eqDeclS.calls (hr0 := (Kd.R_reads' (St.getR H 4 rfl)).2.2) (hc0 := kc46_.out) (hr1 := (Kd.R_reads' (St.getR H 0 rfl)).2.2) (hc1 := kc69_.out) (h := A70.out)).mono ?_; rintro e w70 ⟨rfl, hb_⟩; refine ⟨_, rfl, ?_⟩; replace H := St.call H hb_; clear hb_; replace H := St.drop H 0; (try dsimp only [put, cutAt] at H))) | ((with_reducible refine gate_dst (N := 74) rfl ?_); go_loud (refine goesL_ (some 74) rfl rfl Try.func10 (by kernel_rfl) rfl #[.slice A1 l1.length c1] rfl (by (try simp only [List.map_toArray, List.map_cons, List.map_nil]); first | done | rfl) ?_; refine (laws_toSegS.calls (hr0 := Kd.C_below HR1.out (St.lift H).below) (hc0 := HC1.out) (h := A74.out)).mono ?_; rintro e w74 ⟨v0x74, rfl, ho_, hb_⟩; refine ⟨_, rfl, ?_⟩; obtain ⟨ok74_, a74_, cc74_, rfl, kc74_, H_⟩ := St.callS H hb_ ho_; clear H hb_ ho_; have H := H_; clear H_)) | ((with_reducible refine gate_dst (N := 75) rfl ?_); go_loud (refine goesL_ (some 75) rfl rfl Try.func12 (by kernel_rfl) rfl #[.slice a48_ t48.length cc48_, .slice a74_ t74.length cc74_] rfl (by (try simp only [List.map_toArray, List.map_cons, List.map_nil]); first | done | rfl) ?_; refine (laws_eqSegS.calls (hr0 := (Kd.S_reads' (St.getS H 3 rfl)).2.2) (hc0 := kc48_.out) (hr1 := (Kd.S_reads' (St.getS H 0 rfl)).2.2) (hc1 := kc74_.out) (h := A75.out)).mono ?_; rintro e w75 ⟨rfl, hb_⟩; refine ⟨_, rfl, ?_⟩; replace H := St.call H hb_; clear hb_; replace H := St.drop H 0; (try dsimp only [put, cutAt] at H))) | ((with_reducible refine gate_dst (N := 79) rfl ?_); go_loud (refine goesL_ (some 79) rfl rfl Try.func10 (by kernel_rfl) rfl #[.slice A2 l2.length c2] rfl (by (try simp only [List.map_toArray, List.map_cons, List.map_nil]); first | done | rfl) ?_; refine (laws_toSegS.calls (hr0 := Kd.C_below HR2.out (St.lift H).below) (hc0 := HC2.out) (h := A79.out)).mono ?_; rintro e w79 ⟨v0x79, rfl, ho_, hb_⟩; refine ⟨_, rfl, ?_⟩; obtain ⟨ok79_, a79_, cc79_, rfl, kc79_, H_⟩ := St.callS H hb_ ho_; clear H hb_ ho_; have H := H_; clear H_)) | ((with_reducible refine gate_dst (N := 80) rfl ?_); go_loud (refine goesL_ (some 80) rfl rfl Try.func12 (by kernel_rfl) rfl #[.slice a50_ t50.length cc50_, .slice a79_ t79.length cc79_] rfl (by (try simp only [List.map_toArray, List.map_cons, List.map_nil]); first | done | rfl) ?_; refine (laws_eqSegS.calls (hr0 := (Kd.S_reads' (St.getS H 2 rfl)).2.2) (hc0 := kc50_.out) (hr1 := (Kd.S_reads' (St.getS H 0 rfl)).2.2) (hc1 := kc79_.out) (h := A80.out)).mono ?_; rintro e w80 ⟨rfl, hb_⟩; refine ⟨_, rfl, ?_⟩; replace H := St.call H hb_; clear hb_; replace H := St.drop H 0; (try dsimp only [put, cutAt] at H))) | ((with_reducible refine gate_dst (N := 84) rfl ?_); go_loud (refine goesL_ (some 84) rfl rfl Try.func14 (by kernel_rfl) rfl #[.slice a46_ t46.length cc46_, .int .i64 1] rfl (by (try simp only [List.map_toArray, List.map_cons, List.map_nil]); first | done | rfl) ?_; refine (laws_markDeclS.calls (P0_ := ok46_) (u9000_ := .slice a46_ t46.length cc46_) (ho0 := St.getR H 3 rfl) (hB := (St.lift H).below) (h := A84.out)).mono ?_; rintro e w84 ⟨rfl, hs_, hb_, hk_⟩; refine ⟨_, rfl, ?_⟩; replace H := St.markR H 3 rfl hs_ hb_ hk_; (try dsimp only [put, cutAt] at H); clear hs_ hb_ hk_; replace H := St.drop H 3; (try dsimp only [put, cutAt] at H))) | ((with_reducible refine gate_dst (N := 87) rfl ?_); go_loud (refine goesL_ (some 87) rfl rfl Try.func15 (by kernel_rfl) rfl #[.slice a48_ t48.length cc48_, .int .i64 t84_1] rfl (by (try simp only [List.map_toArray, List.map_cons, List.map_nil]); first | done | rfl) ?_; refine (laws_markSegS.calls (P0_ := ok48_) (u9000_ := .slice a48_ t48.length cc48_) (ho0 := St.getS H 2 rfl) (hB := (St.lift H).below) (h := A87.out)).mono ?_; rintro e w87 ⟨rfl, hs_, hb_, hk_⟩; refine ⟨_, rfl, ?_⟩; replace H := St.markS H 2 rfl hs_ hb_ hk_; (try dsimp only [put, cutAt] at H); clear hs_ hb_ hk_; replace H := St.drop H 2; (try dsimp only [put, cutAt] at H))) | ((with_reducible refine gate_dst (N := 90) rfl ?_); go_loud (refine goesL_ (some 90) rfl rfl Try.func15 (by kernel_rfl) rfl #[.slice a50_ t50.length cc50_, .int .i64 t87_1] rfl (by (try simp only [List.map_toArray, List.map_cons, List.map_nil]); first | done | rfl) ?_; refine (laws_markSegS.calls (P0_ := ok50_) (u9000_ := .slice a50_ t50.length cc50_) (ho0 := St.getS H 1 rfl) (hB := (St.lift H).below) (h := A90.out)).mono ?_; rintro e w90 ⟨rfl, hs_, hb_, hk_⟩; refine ⟨_, rfl, ?_⟩; replace H := St.markS H 1 rfl hs_ hb_ hk_; (try dsimp only [put, cutAt] at H); clear hs_ hb_ hk_; replace H := St.drop H 1; (try dsimp only [put, cutAt] at H))) | ((with_reducible refine gate_dst (N := 106) rfl ?_); go_loud (refine goesL_ (some 106) rfl rfl Try.func15 (by kernel_rfl) rfl #[.slice a55_ t55_1.length cc55_, .int .i64 1] rfl (by (try simp only [List.map_toArray, List.map_cons, List.map_nil]); first | done | rfl) ?_; refine (laws_markSegS.calls (P0_ := ok55_) (u9000_ := .slice a55_ t55_1.length cc55_) (ho0 := St.getS H 0 rfl) (hB := (St.lift H).below) (h := A106.out)).mono ?_; rintro e w106 ⟨rfl, hs_, hb_, hk_⟩; refine ⟨_, rfl, ?_⟩; replace H := St.markS H 0 rfl hs_ hb_ hk_; (try dsimp only [put, cutAt] at H); have e_ := (Kd.S_reads' hs_).1; have kc55_m := Aside0.mk (Kd.S_reads' hs_).2.1; rw [e_] at H kc55_m; obtain ⟨ok55_m, H_⟩ : ∃ ok_, Aside0 (St w w106 [Ob.S w k67 67 ok_ (.slice a55_ t106_2.length cc55_) t106_2, Ob.S w k67 67 ok42_ (.slice a42_ t42_1.length cc42_) t42_1]) := ⟨_, H⟩; clear H; have H := H_; clear H_; clear hs_ hb_ hk_; (rw [e_]); clear e_)) | ((with_reducible refine gate_dst (N := 109) rfl ?_); go_loud (refine goesL_ (some 109) rfl rfl Try.func16 (by kernel_rfl) rfl #[.slice a55_ t106_2.length cc55_, .int .i64 1] rfl (by (try simp only [List.map_toArray, List.map_cons, List.map_nil]); first | done | rfl) ?_; refine (laws_heldSegS.calls (hr0 := (Kd.S_reads' (St.getS H 0 rfl)).2.2) (hc0 := kc55_m.out) (h := A109.out)).mono ?_; rintro e w109 ⟨rfl, hb_⟩; replace hb_ := hb_.below; refine ⟨_, rfl, ?_⟩; replace H := St.call H hb_; clear hb_)) | ((with_reducible refine gate_dst (N := 117) rfl ?_); go_loud (refine goesL_ (some 117) rfl rfl Try.func9 (by kernel_rfl) rfl #[.slice A0 l0.length c0] rfl (by (try simp only [List.map_toArray, List.map_cons, List.map_nil]); first | done | rfl) ?_; refine (laws_toDeclS.calls (hr0 := Kd.C_below HR0.out (St.lift H).below) (hc0 := HC0.out) (h := A117.out)).mono ?_; rintro e w117 ⟨v0x117, rfl, ho_, hb_⟩; refine ⟨_, rfl, ?_⟩; obtain ⟨ok117_, a117_, cc117_, rfl, kc117_, H_⟩ := St.callR H hb_ ho_; clear H hb_ ho_; have H := H_; clear H_)) | ((with_reducible refine gate_dst (N := 119) rfl ?_); go_loud (refine goesL_ (some 119) rfl rfl Try.func10 (by kernel_rfl) rfl #[.slice A1 l1.length c1] rfl (by (try simp only [List.map_toArray, List.map_cons, List.map_nil]); first | done | rfl) ?_; refine (laws_toSegS.calls (hr0 := Kd.C_below HR1.out (St.lift H).below) (hc0 := HC1.out) (h := A119.out)).mono ?_; rintro e w119 ⟨v0x119, rfl, ho_, hb_⟩; refine ⟨_, rfl, ?_⟩; obtain ⟨ok119_, a119_, cc119_, rfl, kc119_, H_⟩ := St.callS H hb_ ho_; clear H hb_ ho_; have H := H_; clear H_)) | ((with_reducible refine gate_dst (N := 121) rfl ?_); go_loud (refine goesL_ (some 121) rfl rfl Try.func10 (by kernel_rfl) rfl #[.slice A2 l2.length c2] rfl (by (try simp only [List.map_toArray, List.map_cons, List.map_nil]); first | done | rfl) ?_; refine (laws_toSegS.calls (hr0 := Kd.C_below HR2.out (St.lift H).below) (hc0 := HC2.out) (h := A121.out)).mono ?_; rintro e w121 ⟨v0x121, rfl, ho_, hb_⟩; refine ⟨_, rfl, ?_⟩; obtain ⟨ok121_, a121_, cc121_, rfl, kc121_, H_⟩ := St.callS H hb_ ho_; clear H hb_ ho_; have H := H_; clear H_)) | ((with_reducible refine gate_dst (N := 122) rfl ?_); go_loud (refine goesL_ (some 122) rfl rfl Try.func11 (by kernel_rfl) rfl #[.slice a117_ t117.length cc117_, .slice a119_ t119.length cc119_, .slice a121_ t121.length cc121_] rfl (by (try simp only [List.map_toArray, List.map_cons, List.map_nil]); first | done | rfl) ?_; refine (impl_FlatJoin.calls (hr0 := (Kd.R_reads' (St.getR H 2 rfl)).2.2) (hc0 := kc117_.out) (hr1 := (Kd.S_reads' (St.getS H 1 rfl)).2.2) (hc1 := kc119_.out) (hr2 := (Kd.S_reads' (St.getS H 0 rfl)).2.2) (hc2 := kc121_.out) (h := A122.out)).mono ?_; rintro e w122 ⟨v0x122, rfl, ho_, hb_⟩; refine ⟨_, rfl, ?_⟩; obtain ⟨ok122_, a122_, cc122_, rfl, kc122_, H_⟩ := St.callS H hb_ ho_; clear H hb_ ho_; have H := H_; clear H_; replace H := St.drop H 1; replace H := St.drop H 1; replace H := St.drop H 1; (try dsimp only [put, cutAt] at H))) | ((with_reducible refine gate_dst (N := 127) rfl ?_); go_loud (refine goesL_ (some 127) rfl rfl Try.func12 (by kernel_rfl) rfl #[.slice a122_ t122_1.length cc122_, .slice a42_ t42_1.length cc42_] rfl (by (try simp only [List.map_toArray, List.map_cons, List.map_nil]); first | done | rfl) ?_; refine (laws_eqSegS.calls (hr0 := (Kd.S_reads' (St.getS H 0 rfl)).2.2) (hc0 := kc122_.out) (hr1 := (Kd.S_reads' (St.getS H 2 rfl)).2.2) (hc1 := kc42_.out) (h := A127.out)).mono ?_; rintro e w127 ⟨rfl, hb_⟩; refine ⟨_, rfl, ?_⟩; replace H := St.call H hb_; clear hb_; replace H := St.drop H 0; replace H := St.drop H 1; (try dsimp only [put, cutAt] at H))) | ((with_reducible refine gate_dst (N := 136) rfl ?_); go_loud (refine goesL_ (some 136) rfl rfl Try.func16 (by kernel_rfl) rfl #[.slice a55_ t106_2.length cc55_, .int .i64 1] rfl (by (try simp only [List.map_toArray, List.map_cons, List.map_nil]); first | done | rfl) ?_; refine (laws_heldSegS.calls (hr0 := (Kd.S_reads' (St.getS H 0 rfl)).2.2) (hc0 := kc55_m.out) (h := A136.out)).mono ?_; rintro e w136 ⟨rfl, hb_⟩; replace hb_ := hb_.below; refine ⟨_, rfl, ?_⟩; replace H := St.call H hb_; clear hb_; replace H := St.drop H 0; (try dsimp only [put, cutAt] at H))) | (go_at_call 12; go_loud (refine (laws_eqSegS.calls (hr0 := (Kd.S_reads' (St.getS H 0 rfl)).2.2) (hc0 := kc55_.out) (hr1 := (Kd.S_reads' (St.getS H 1 rfl)).2.2) (hc1 := kc42_.out) (h := A96.out)).mono ?_; rintro e w96 ⟨rfl, hb_⟩; replace H := St.call H hb_; clear hb_)))
  go_ret
  exact ⟨by first | rfl | (simp; done), (St.lift H).below⟩

end Go.Proofs.Ytjnmenadlnajeaa.PFnExactFlatJoin
