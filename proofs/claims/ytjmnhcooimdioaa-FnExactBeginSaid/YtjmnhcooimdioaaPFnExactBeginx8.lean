-- Written by a program of this session (lawx3.sh, lawwalk3.py); Lean checks it.
import Derived.Test.YtjmnhcooimdioaaPFnExactBeginx0
import Derived.Test.YtjmnhcooimdioaaPFnExactBeginx1
import Derived.Test.YtjmnhcooimdioaaPFnExactBeginx2
import Derived.Test.YtjmnhcooimdioaaPFnExactBeginx3
import Derived.Test.YtjmnhcooimdioaaPFnExactBeginx4
import Derived.Test.YtjmnhcooimdioaaPFnExactBeginx5
import Derived.Test.YtjmnhcooimdioaaPFnExactBeginx6
import Derived.Test.YtjmnhcooimdioaaPFnExactBeginx7
import Derived.Test.YtjmnhcooimdioaaLaw
namespace Go.Proofs.Ytjmnhcooimdioaa.PFnExactBegin
open Go.RowKit Go.Proofs.YtjmnhcooimdioaaW.PrintWords Go.Proofs.YtjmnhcooimdioaaW.PrintLast Go.Proofs.YtjmnhcooimdioaaW.PrintMore
attribute [local go_sem] max2_int min2_int max_two min_two max_three min_three max_four min_four   -- for this text's walks alone
set_option linter.unusedVariables false
set_option linter.unusedSimpArgs false

def spec_Begin2.f : Option (List (S176) × Int) := some (([(⟨0, ([] : List (S238))⟩ : S176)] : List (S176)), 1)
set_option maxHeartbeats 8000000 in
set_option maxRecDepth 100000 in
theorem spec_Begin2.calls (r1 : List (S176)) (r2 : Int) (w : World) (h : spec_Begin2.f = some (r1, r2)) :
  Calls Try.prog 53 #[] w fun e w' => ∃ v1_ : Value, e = .returned (.agg #[.slice none 0 0, v1_, .int .i64 r2]) ∧ Kd.S k176 176 w' w.heap.size (fun _ => True) v1_ r1 ∧ Below w.heap.size w w' := by
 have hu76 := Try.underlying76
 have hu176 := Try.underlying176
 have HB := Aside0.mk (Below.refl w.heap.size w)
 obtain ⟨y102, hy_⟩ : ∃ y_ : List (S176), y_ = (([(⟨0, ([] : List (S238))⟩ : S176)] : List (S176))) := ⟨_, rfl⟩
 have H : (some (y102, 1) : Option (List (S176) × Int)) = some (r1, r2) := by rw [hy_]; exact h
 clear h
 have Ny102 := Aside0.mk hy_
 clear hy_
 simp only [Option.some.injEq, Prod.mk.injEq] at H
 obtain ⟨rfl, rfl⟩ := H
 go_enter Try.func53, Try.ntmps53
 go_wp2_with (first | ((with_reducible refine gate_dst (N := 0) rfl ?_); refine box_event ?hg (N := 0) ?hd (cs := #[.slice none 0 0, .slice none 0 0, .int .i64 0]) (t := 76) ?hr ?_; (case hd => rfl); (case hg => rfl); (case hr => first | (go_simp; done) | (go_simp; rfl)); intro gb101 hg w1 hbox hb; have n0_ := Aside0.mk (below_step (by repeat (first | (with_reducible first | exact HB.out | apply below_alloc | apply pw_below_drewN | apply below_drew1) | exact HB.out)) hb); have n1_ := Aside0.mk (hbox); have n2_ := Aside0.mk ((by rw [hg]; exact (below_size (by repeat (first | (with_reducible first | exact HB.out | apply below_alloc | apply pw_below_drewN | apply below_drew1) | exact HB.out))) : w.heap.size ≤ gb101)); have n3_ := Aside0.mk ((by rw [hg]; exact (below_size (by repeat (first | (with_reducible first | exact HB.out | apply below_alloc | apply pw_below_drewN | apply below_drew1) | exact HB.out))) : w.heap.size ≤ gb101)); clear HB; have HB := n0_; have BK101 := n1_; have GW101 := n2_; have GE101 := n3_; clear n0_ n1_ n2_ n3_; clear hb hbox hg) | ((with_reducible refine gate_dst (N := 2) rfl ?_); refine Kd.S_lit k176 _ 176 ?hg (N := 2) ?hd (xs := ([(⟨0, ([] : List (S238))⟩ : S176)] : List (S176))) (inner := [.int .i64 0, .slice none 0 0]) (ok := fun _ => True) (okp := fun _ => True) ?hr ?hp (fun _ hk => hk) trivial (Below.refl _ _) (Nat.le_refl _) (by simp) ?_; (case hd => rfl); (case hg => rfl); (case hr => first | (go_simp; done) | (go_simp; rfl)); (case hp => exact (Reps.c2 (show Kd.M k176 _ _ _ (⟨0, ([] : List (S238))⟩ : S176) [.int .i64 0, .slice none 0 0] from (k176_mkM _ _ _ (⟨0, ([] : List (S238))⟩ : S176) (Kd.R_nil _ _ _ _ _))) (Reps.none _ _))); intro v103 w2 ho3 hb hg_ hnew_; clear hg_ hnew_; (first | rw [← Ny102.out] at ho3 | (simp only [Int.reduceToNat] at ho3; rw [← Ny102.out] at ho3)); have n0_ := Aside0.mk (Kd.S_lower ho3 (below_size (by repeat (first | (with_reducible first | exact HB.out | apply below_alloc | apply pw_below_drewN | apply below_drew1 | refine below_set ?_ GE101.out) | exact HB.out)))); have n1_ := Aside0.mk (blk_below (g := gb101) (o := .cells #[.slice none 0 0, .slice none 0 0, .int .i64 0] 76 (0, 0)) (by (with_reducible repeat (first | refine blk_drewN ?_ _ | refine blk_drew ?_ | refine blk_alloc ?_ _)); exact BK101.out) hb); have n2_ := Aside0.mk (below_step (by repeat (first | (with_reducible first | exact HB.out | apply below_alloc | apply pw_below_drewN | apply below_drew1 | refine below_set ?_ GE101.out) | exact HB.out)) hb); clear BK101; clear HB; have HO104 := n0_; have BK101 := n1_; have HB := n2_; clear n0_ n1_ n2_; clear hb ho3; obtain ⟨Ao4, co4, eo4⟩ := Kd.S_slice HO104.out; subst eo4; have hcz5_0 : w2.cell? ⟨gb101, 0, none⟩ = some (.slice none 0 0) := (blk_cell BK101.out 0).trans rfl; have hcz5_1 : w2.cell? ⟨gb101, 1, none⟩ = some (.slice none 0 0) := (blk_cell BK101.out 1).trans rfl; have hcz5_2 : w2.cell? ⟨gb101, 2, none⟩ = some (.int .i64 0) := (blk_cell BK101.out 2).trans rfl; have hfz5_0 := blk_frozen BK101.out 0; have hfz5_1 := blk_frozen BK101.out 1; have hfz5_2 := blk_frozen BK101.out 2))
 refine bodyPost_ret (results_cell_row rfl _ _ gb101 76 #[.slice none 0 0, .slice Ao4 y102.length co4, .int .i64 1] (0, 0) _ rfl (by (with_reducible repeat (first | refine blk_drewN ?_ _ | refine blk_drew ?_ | refine blk_alloc ?_ _)); refine blk_put (cs := #[.slice none 0 0, .slice Ao4 y102.length co4, .int .i64 0]) ?_ 2 _ rfl; (with_reducible repeat (first | refine blk_drewN ?_ _ | refine blk_drew ?_ | refine blk_alloc ?_ _)); refine blk_put (cs := #[.slice none 0 0, .slice none 0 0, .int .i64 0]) ?_ 1 _ rfl; (with_reducible repeat (first | refine blk_drewN ?_ _ | refine blk_drew ?_ | refine blk_alloc ?_ _)); refine blk_put (cs := #[.slice none 0 0, .slice none 0 0, .int .i64 0]) ?_ 0 _ rfl; (with_reducible repeat (first | refine blk_drewN ?_ _ | refine blk_drew ?_ | refine blk_alloc ?_ _)); exact BK101.out) Try.underlying76 rfl (by kernel_rfl)) rfl ?_
 exact ⟨_, by first | rfl | (simp [errW_none, errW_some] <;> rfl) | (simp [*, errW_none, errW_some] <;> rfl), by (with_reducible repeat (first | apply Kd.S_alloc | apply Kd.S_drewN | apply Kd.S_drew)); exact Kd.S_mono (Kd.S_far (p := ⟨gb101, 2, none⟩) (Kd.S_far (p := ⟨gb101, 1, none⟩) (Kd.S_far (p := ⟨gb101, 0, none⟩) (Kd.S_types HO104.out BK101.out (by decide)) (fun _ hk => hk.2) (.slice none 0 0)) (fun _ hk => hk.2) (.slice Ao4 y102.length co4)) (fun _ hk => hk.2) (.int .i64 1)) (fun _ hk => trivial), by repeat (first | (with_reducible first | exact HB.out | apply below_alloc | apply pw_below_drewN | apply below_drew1 | refine below_set ?_ GE101.out) | exact HB.out)⟩


def impl_Begin2.f : Option (List (S176) × Int) := some (([(⟨0, ([] : List (S238))⟩ : S176)] : List (S176)), 1)
set_option maxHeartbeats 8000000 in
set_option maxRecDepth 100000 in
theorem impl_Begin2.calls (r1 : List (S176)) (r2 : Int) (w : World) (h : impl_Begin2.f = some (r1, r2)) :
  Calls Try.prog 54 #[] w fun e w' => ∃ v1_ : Value, e = .returned (.agg #[.slice none 0 0, v1_, .int .i64 r2]) ∧ Kd.S k176 176 w' w.heap.size (fun _ => True) v1_ r1 ∧ Below w.heap.size w w' := by
 have hu76 := Try.underlying76
 have hu176 := Try.underlying176
 have HB := Aside0.mk (Below.refl w.heap.size w)
 obtain ⟨y106, hy_⟩ : ∃ y_ : List (S176), y_ = (([(⟨0, ([] : List (S238))⟩ : S176)] : List (S176))) := ⟨_, rfl⟩
 have H : (some (y106, 1) : Option (List (S176) × Int)) = some (r1, r2) := by rw [hy_]; exact h
 clear h
 have Ny106 := Aside0.mk hy_
 clear hy_
 simp only [Option.some.injEq, Prod.mk.injEq] at H
 obtain ⟨rfl, rfl⟩ := H
 go_enter Try.func54, Try.ntmps54
 go_wp2_with (first | ((with_reducible refine gate_dst (N := 0) rfl ?_); refine box_event ?hg (N := 0) ?hd (cs := #[.slice none 0 0, .slice none 0 0, .int .i64 0]) (t := 76) ?hr ?_; (case hd => rfl); (case hg => rfl); (case hr => first | (go_simp; done) | (go_simp; rfl)); intro gb105 hg w1 hbox hb; have n0_ := Aside0.mk (below_step (by repeat (first | (with_reducible first | exact HB.out | apply below_alloc | apply pw_below_drewN | apply below_drew1) | exact HB.out)) hb); have n1_ := Aside0.mk (hbox); have n2_ := Aside0.mk ((by rw [hg]; exact (below_size (by repeat (first | (with_reducible first | exact HB.out | apply below_alloc | apply pw_below_drewN | apply below_drew1) | exact HB.out))) : w.heap.size ≤ gb105)); have n3_ := Aside0.mk ((by rw [hg]; exact (below_size (by repeat (first | (with_reducible first | exact HB.out | apply below_alloc | apply pw_below_drewN | apply below_drew1) | exact HB.out))) : w.heap.size ≤ gb105)); clear HB; have HB := n0_; have BK105 := n1_; have GW105 := n2_; have GE105 := n3_; clear n0_ n1_ n2_ n3_; clear hb hbox hg) | ((with_reducible refine gate_dst (N := 2) rfl ?_); refine Kd.S_lit k176 _ 176 ?hg (N := 2) ?hd (xs := ([(⟨0, ([] : List (S238))⟩ : S176)] : List (S176))) (inner := [.int .i64 0, .slice none 0 0]) (ok := fun _ => True) (okp := fun _ => True) ?hr ?hp (fun _ hk => hk) trivial (Below.refl _ _) (Nat.le_refl _) (by simp) ?_; (case hd => rfl); (case hg => rfl); (case hr => first | (go_simp; done) | (go_simp; rfl)); (case hp => exact (Reps.c2 (show Kd.M k176 _ _ _ (⟨0, ([] : List (S238))⟩ : S176) [.int .i64 0, .slice none 0 0] from (k176_mkM _ _ _ (⟨0, ([] : List (S238))⟩ : S176) (Kd.R_nil _ _ _ _ _))) (Reps.none _ _))); intro v107 w2 ho3 hb hg_ hnew_; clear hg_ hnew_; (first | rw [← Ny106.out] at ho3 | (simp only [Int.reduceToNat] at ho3; rw [← Ny106.out] at ho3)); have n0_ := Aside0.mk (Kd.S_lower ho3 (below_size (by repeat (first | (with_reducible first | exact HB.out | apply below_alloc | apply pw_below_drewN | apply below_drew1 | refine below_set ?_ GE105.out) | exact HB.out)))); have n1_ := Aside0.mk (blk_below (g := gb105) (o := .cells #[.slice none 0 0, .slice none 0 0, .int .i64 0] 76 (0, 0)) (by (with_reducible repeat (first | refine blk_drewN ?_ _ | refine blk_drew ?_ | refine blk_alloc ?_ _)); exact BK105.out) hb); have n2_ := Aside0.mk (below_step (by repeat (first | (with_reducible first | exact HB.out | apply below_alloc | apply pw_below_drewN | apply below_drew1 | refine below_set ?_ GE105.out) | exact HB.out)) hb); clear BK105; clear HB; have HO108 := n0_; have BK105 := n1_; have HB := n2_; clear n0_ n1_ n2_; clear hb ho3; obtain ⟨Ao4, co4, eo4⟩ := Kd.S_slice HO108.out; subst eo4; have hcz5_0 : w2.cell? ⟨gb105, 0, none⟩ = some (.slice none 0 0) := (blk_cell BK105.out 0).trans rfl; have hcz5_1 : w2.cell? ⟨gb105, 1, none⟩ = some (.slice none 0 0) := (blk_cell BK105.out 1).trans rfl; have hcz5_2 : w2.cell? ⟨gb105, 2, none⟩ = some (.int .i64 0) := (blk_cell BK105.out 2).trans rfl; have hfz5_0 := blk_frozen BK105.out 0; have hfz5_1 := blk_frozen BK105.out 1; have hfz5_2 := blk_frozen BK105.out 2))
 refine bodyPost_ret (results_cell_row rfl _ _ gb105 76 #[.slice none 0 0, .slice Ao4 y106.length co4, .int .i64 1] (0, 0) _ rfl (by (with_reducible repeat (first | refine blk_drewN ?_ _ | refine blk_drew ?_ | refine blk_alloc ?_ _)); refine blk_put (cs := #[.slice none 0 0, .slice Ao4 y106.length co4, .int .i64 0]) ?_ 2 _ rfl; (with_reducible repeat (first | refine blk_drewN ?_ _ | refine blk_drew ?_ | refine blk_alloc ?_ _)); refine blk_put (cs := #[.slice none 0 0, .slice none 0 0, .int .i64 0]) ?_ 1 _ rfl; (with_reducible repeat (first | refine blk_drewN ?_ _ | refine blk_drew ?_ | refine blk_alloc ?_ _)); refine blk_put (cs := #[.slice none 0 0, .slice none 0 0, .int .i64 0]) ?_ 0 _ rfl; (with_reducible repeat (first | refine blk_drewN ?_ _ | refine blk_drew ?_ | refine blk_alloc ?_ _)); exact BK105.out) Try.underlying76 rfl (by kernel_rfl)) rfl ?_
 exact ⟨_, by first | rfl | (simp [errW_none, errW_some] <;> rfl) | (simp [*, errW_none, errW_some] <;> rfl), by (with_reducible repeat (first | apply Kd.S_alloc | apply Kd.S_drewN | apply Kd.S_drew)); exact Kd.S_mono (Kd.S_far (p := ⟨gb105, 2, none⟩) (Kd.S_far (p := ⟨gb105, 1, none⟩) (Kd.S_far (p := ⟨gb105, 0, none⟩) (Kd.S_types HO108.out BK105.out (by decide)) (fun _ hk => hk.2) (.slice none 0 0)) (fun _ hk => hk.2) (.slice Ao4 y106.length co4)) (fun _ hk => hk.2) (.int .i64 1)) (fun _ hk => trivial), by repeat (first | (with_reducible first | exact HB.out | apply below_alloc | apply pw_below_drewN | apply below_drew1 | refine below_set ?_ GE105.out) | exact HB.out)⟩


def laws_markLiteralS.f (k : Nat) (l0 : List (S238)) (a1 : Int) : Option (Int × (List (S238))) := if l0.length = 0 then some (a1, l0) else none
set_option maxHeartbeats 8000000 in
set_option maxRecDepth 100000 in
theorem laws_markLiteralS.calls (k : Nat) (P0_ : Nat → Prop) (u9000_ : Value) (l0 : List (S238)) (a1 : Int) (r1 : Int) (r2 : List (S238)) (w0 w : World) (hB : Below w0.heap.size w0 w) (ho0 : Kd.R k238 238 w w0.heap.size P0_ u9000_ l0) (h : laws_markLiteralS.f k l0 a1 = some (r1, r2)) :
    Calls Try.prog 175 #[u9000_, .int .i64 a1] w fun e w' => e = .returned (.int .i64 r1) ∧ Kd.R k238 238 w' w0.heap.size (fun k_ => (P0_ k_ ∨ w.heap.size ≤ k_)) u9000_ r2 ∧ Below w0.heap.size w0 w' ∧ Kept w w' (fun k_ => P0_ k_) := by
  have HO := Aside0.mk (show Kd.R k238 238 w w0.heap.size (fun k_ => (P0_ k_ ∨ w.heap.size ≤ k_)) u9000_ l0 from Kd.R_mono ho0 (fun k_ hk => (.inl hk)))
  have HB := Aside0.mk hB
  unfold laws_markLiteralS.f at h
  by_cases c : l0.length = 0
  · rw [if_pos c] at h
    simp only [Option.some.injEq, Prod.mk.injEq] at h
    obtain ⟨rfl, rfl⟩ := h
    obtain rfl := List.eq_nil_of_length_eq_zero c
    obtain ⟨A, cc, rfl⟩ := Kd.R_slice ho0
    clear hB ho0 c
    go_enter Try.func175, Try.ntmps175
    go_wp2
    go_loopg [1, 5] 1 (fun kq v1 v5 w' => v1 = .int .i64 a1 ∧ v5 = .int .i64 0 ∧ Aside0 (∃ n, w' = w.drewN n))
    case atStart => exact ⟨rfl, rfl, ⟨by first | exact ⟨_, rfl⟩ | exact ⟨0, rfl⟩⟩⟩
    case round =>
      obtain ⟨rfl, rfl, hw⟩ := hrel
      obtain ⟨n, rfl⟩ := hw.out
      clear hw
      go_wp2
      go_ret
      exact ⟨by first | rfl | (simp; done), by (with_reducible repeat (first | apply Kd.R_drewN)); exact HO.out, by repeat (first | exact HB.out | apply pw_below_drewN), by repeat (first | exact Kept.refl _ _ | apply Kept.drewN)⟩
  · rw [if_neg c] at h
    cases h
/-! ### laws_markScopeS: function 129 -/
def laws_markScopeS.l0 : Nat → List (S176) → Int → Int → Option (Int × (List (S176)))
  | 0, _, _, _ => none
  | k + 1, x0, x1, x5 => if x5 < (x0.length : Int) then (if 0 ≤ x5 then ((laws_markLiteralS.f k (rd_T176 x0 x5).f1 (wrap64 (x1 + 1))).bind fun t => laws_markScopeS.l0 k (x0.set (x5 : Int).toNat (⟨x1, t.2⟩ : S176)) t.1 (wrap64 (x5 + 1))) else none) else some (x1, x0)
def laws_markScopeS.f (k : Nat) (l0 : List (S176)) (a1 : Int) : Option (Int × (List (S176))) := laws_markScopeS.l0 k l0 a1 0
set_option maxHeartbeats 8000000 in
set_option maxRecDepth 100000 in
theorem laws_markScopeS.calls (k : Nat) (P0_ : Nat → Prop) (u9000_ : Value) (l0 : List (S176)) (a1 : Int) (r1 : Int) (r2 : List (S176)) (w0 w : World) (hB : Below w0.heap.size w0 w) (ho0 : Kd.S k176 176 w w0.heap.size P0_ u9000_ l0) (h : laws_markScopeS.f k l0 a1 = some (r1, r2)) :
    Calls Try.prog 129 #[u9000_, .int .i64 a1] w fun e w' => e = .returned (.int .i64 r1) ∧ Kd.S k176 176 w' w0.heap.size (fun k_ => (P0_ k_ ∨ w.heap.size ≤ k_)) u9000_ r2 ∧ Below w0.heap.size w0 w' ∧ Kept w w' (fun k_ => P0_ k_) := by
  have hu176 := Try.underlying176
  have HO0 := Aside0.mk (show Kd.S k176 176 w w0.heap.size (fun k_ => (P0_ k_ ∨ w.heap.size ≤ k_)) u9000_ l0 from Kd.S_mono ho0 (fun k_ hk => (.inl hk)))
  have HK := Aside0.mk (Kept.refl w (fun k_ => P0_ k_))
  have HW0 := Aside0.mk hB.size
  have HB := Aside0.mk hB
  clear hB
  have H : (laws_markScopeS.l0 k l0 a1 0) = some (r1, r2) := h
  clear h
  have H' := Aside0.mk H
  clear H
  go_enter Try.func129, Try.ntmps129
  go_wp2
  go_loopg [1, 5] k (fun kq v1 v5 w' => ∃ (x0_1 : List (S176)) (x1_1 : Int) (x5_1 : Int), v1 = .int .i64 x1_1 ∧ v5 = .int .i64 x5_1 ∧ Aside0 (laws_markScopeS.l0 kq x0_1 x1_1 x5_1 = some (r1, r2)) ∧ Aside0 (kq ≤ k) ∧ Aside0 (Kd.S k176 176 w' w0.heap.size (fun k_ => (P0_ k_ ∨ w.heap.size ≤ k_)) u9000_ x0_1) ∧ Aside0 (Kept w w' (fun k_ => P0_ k_)) ∧ Aside0 (Below w0.heap.size w0 w'))
  case atStart => exact ⟨l0, a1, 0, (by first | rfl | (simp; done)), (by first | rfl | (simp; done)), H', ⟨Nat.le_refl _⟩, ⟨by (with_reducible repeat (first | apply Kd.S_alloc | apply Kd.S_drewN | apply Kd.S_drew)); exact HO0.out⟩, ⟨by repeat (first | (with_reducible first | exact HK.out | apply Kept.alloc | apply Kept.drewN | apply Kept.drew) | exact HK.out)⟩, ⟨by repeat (first | (with_reducible first | exact HB.out | apply below_alloc | apply pw_below_drewN | apply below_drew1) | exact HB.out)⟩⟩
  case round =>
    clear H' HO0
    obtain ⟨x0_1, x1_1, x5_1, rfl, rfl, HA, HKk, HO_0, HKq, HBq⟩ := hrel
    cases gk with
    | zero => exact absurd HA.out (by simp [laws_markScopeS.l0])
    | succ k1 =>
      have H := HA.out
      clear HA
      simp only [laws_markScopeS.l0] at H
      by_cases c3 : x5_1 < (x0_1.length : Int)
      · rw [if_pos c3] at H
        by_cases c5 : 0 ≤ x5_1
        · rw [if_pos c5] at H
          obtain ⟨⟨t1, t2⟩, A40, H⟩ := Option.bind_eq_some_iff.mp H
          replace H : laws_markScopeS.l0 k1 (x0_1.set (x5_1 : Int).toNat (⟨x1_1, t2⟩ : S176)) t1 (wrap64 (x5_1 + 1)) = some (r1, r2) := H
          have A4 := Aside0.mk A40
          have H' := Aside0.mk H
          clear A40 H
          obtain ⟨g, cap, rfl, hgb, hgl, cells, hgc⟩ := Kd.S_form HO_0.out (by omega)
          have GC := Aside0.mk hgc
          obtain ⟨oki, c, hcl, hM, hcc, hfr, hoki, hH⟩ := Kd.S_elem HO_0.out ⟨0, []⟩ x5_1 c5 c3
          obtain ⟨v1, rfl, hR1⟩ := k176_openM hM
          have hx0 : wr.cell? ⟨g, (x5_1 : Int).toNat * 2, none⟩ = some (.int .i64 (rd_T176 x0_1 x5_1).f0) := hcc 0 _ rfl
          have hx1 : wr.cell? ⟨g, (x5_1 : Int).toNat * 2 + 1, none⟩ = some v1 := hcc 1 _ rfl
          have hf0 : wr.frozen? ⟨g, (x5_1 : Int).toNat * 2, none⟩ = false := hfr 0
          have hf1 : wr.frozen? ⟨g, (x5_1 : Int).toNat * 2 + 1, none⟩ = false := hfr 1
          have HP := Kd.S_seg (okg := fun _ => False) (Kd.H_mono hH (fun k hk => ⟨hk, fun h => h⟩)) c5 c3 (seg := [.int .i64 x1_1]) (j := 0) (show 0 + 1 ≤ 2 from by decide) (x' := (⟨x1_1, (rd_T176 x0_1 x5_1).f1⟩ : S176)) (k176_mkM _ _ _ (⟨x1_1, (rd_T176 x0_1 x5_1).f1⟩ : S176) hR1) (fun _ hk => .inl hk) (fun _ hk => hk.elim)
          have c3b0 : decide (x5_1 < (x0_1.length : Int)) = true := decide_eq_true c3
          have C3 := Aside0.mk c3
          have C5 := Aside0.mk c5
          replace c3 := eq_true c3
          replace c5 := eq_true c5
          clear hcl hM hcc hfr hH hR1 hoki hx1 hf1
          have HG := Aside0.mk hgb
          clear hgb hgc
          go_wp2_with (first | ((with_reducible refine gate_store (t := 2) (p := 16) rfl ?_); refine store_event (t := 2) (p := 16) (v := ?vo_w11) (w1 := (wr.setCell ⟨g, (x5_1 : Int).toNat * 2, none⟩ (.int .i64 x1_1))) ?hg ?ho ?hn ?hr ?_; (case ho => rfl); (case hg => rfl); (case hn => rfl); (case hr => first | (go_simp; done) | (go_simp; rfl)); intro w11 hw; have hg : wr.grownBy w11 (some g) := (by rw [hw]; exact HP.2); have HO1 : Kd.S k176 176 w11 w0.heap.size (fun k_ => (P0_ k_ ∨ w.heap.size ≤ k_)) (.slice (some ⟨g, 0, none⟩) x0_1.length cap) (x0_1.set x5_1.toNat (⟨x1_1, (rd_T176 x0_1 x5_1).f1⟩ : S176)) := (by rw [hw]; exact HP.1); clear HP; have HB1 := Aside0.mk ((by rw [hw]; exact below_set (HBq.out) HG.out : Below w0.heap.size w0 w11)); have HK1 := Aside0.mk (Kept.of_grown (S := (fun k_ => P0_ k_)) hg HKq.out (fun k_ e_ => ((Kd.S_R HO_0.out).1 k_ e_))); obtain ⟨oki2, c2, hcl2, hM2, hcc2, hoki2, hH2⟩ := Kd.S_lend HO1 ⟨0, []⟩ x5_1 C5.out C3.out; replace hM2 := (show ((x0_1.set x5_1.toNat (⟨x1_1, (rd_T176 x0_1 x5_1).f1⟩ : S176)).getD x5_1.toNat ⟨0, []⟩) = (⟨x1_1, (rd_T176 x0_1 x5_1).f1⟩ : S176) from (by rw [List.getD_eq_getElem?_getD, List.getElem?_set_self (by have h3_ := C3.out; have h5_ := C5.out; omega)]; rfl)) ▸ hM2; obtain ⟨v2, rfl, hR2⟩ := k176_openM hM2; have hx2 : w11.cell? ⟨g, (x5_1 : Int).toNat * 2 + 1, none⟩ = some v2 := hcc2 1 _ rfl; have HR2 := Aside0.mk hR2; have HH2 := Aside0.mk hH2; have HI2 := Aside0.mk hoki2; clear hR2 hH2 hoki2 hcl2 hM2 hcc2 HO1 hg hw hx0 hf0) | ((with_reducible refine gate_callee (f := 175) rfl ?_); refine goesL_ (some 25) rfl rfl Try.func175 (by kernel_rfl) rfl #[v2, .int .i64 (wrap64 (x1_1 + 1))] rfl (by (try simp only [List.map_toArray, List.map_cons, List.map_nil]); first | done | rfl | (simp only [List.length_drop, List.length_take]; rfl)) ?_; refine (laws_markLiteralS.calls k1 oki2 v2 _ (wrap64 (x1_1 + 1)) t1 t2 w0 _ (by repeat (first | (with_reducible first | exact HB1.out | apply below_alloc | apply pw_below_drewN | apply below_drew1) | exact HB1.out)) (by (with_reducible repeat (first | apply Kd.R_alloc | apply Kd.R_drewN | apply Kd.R_drew)); exact HR2.out) A4.out).mono ?_; rintro e w12 ⟨rfl, hr', hb', hk'⟩; refine ⟨_, rfl, ?_⟩; have HS := Aside0.mk (Kd.H_back (Kd.H_step (Kd.H_widen HH2.out) (fun k _ hn hlt => hk'.2 k hlt (fun h => hn (.inl h)))) (k176_mkM _ _ _ (⟨x1_1, t2⟩ : S176) hr') (fun k hk => hk.elim .inl (fun h => .inr ⟨.inr (Nat.le_trans HK1.out.1 h), h⟩))); have HK2 := Aside0.mk (Kept.then_ HK1.out hk' (fun k hk => (HI2.out k hk).1)); have HB2 := Aside0.mk hb'; clear hr' hb' hk' HH2 HR2 HI2 hx2))
          go_roundg k1
          case measure => have := HKk.out; omega
          case rel => exact ⟨_, _, _, (by first | rfl | (simp; done)), (by first | rfl | (simp; done)), H', ⟨by have := HKk.out; omega⟩, ⟨by first | exact HS.out | (have := HS.out; rw [List.set_set] at this; exact this)⟩, ⟨HK2.out⟩, ⟨HB2.out⟩⟩
        · rw [if_neg c5] at H
          exact absurd H (by simp)
      · rw [if_neg c3] at H
        have c3b0 : decide (x5_1 < (x0_1.length : Int)) = false := decide_eq_false c3
        clear c3
        simp only [Option.some.injEq, Prod.mk.injEq] at H
        obtain ⟨rfl, rfl⟩ := H
        obtain ⟨Ao14, co14, eo14⟩ := Kd.S_slice HO_0.out
        subst eo14
        go_wp2
        go_ret
        exact ⟨by first | rfl | (simp; done), HO_0.out, HBq.out, HKq.out⟩


def laws_markSession.f (k : Nat) (l0_0 : List (S146)) (l0_1 : List (S176)) (a0_2 : Int) (a1 : Int) : Option (Int × (List (S176))) := if l0_0.length = 0 then ((laws_markDeclS.f k l0_0 a1).bind fun b => (laws_markScopeS.f k l0_1 b.1).bind fun t => some (t.1, t.2)) else none
set_option maxHeartbeats 8000000 in
set_option maxRecDepth 100000 in
theorem laws_markSession.calls (k : Nat) (A0_0 : Option Addr) (c0_0 : Nat) (l0_0 : List (S146)) (P0_1_ : Nat → Prop) (u9000_ : Value) (l0_1 : List (S176)) (a0_2 : Int) (a1 : Int) (r1 : Int) (r2 : List (S176)) (w0 w : World) (hr0_0 : Kd.C k146 w A0_0 l0_0.length l0_0) (hc0_0 : l0_0.length ≤ c0_0) (hA : A0_0 = none ∧ c0_0 = 0) (hB : Below w0.heap.size w0 w) (ho0_1 : Kd.S k176 176 w w0.heap.size P0_1_ u9000_ l0_1) (h : laws_markSession.f k l0_0 l0_1 a0_2 a1 = some (r1, r2)) :
    Calls Try.prog 56 #[.agg #[.slice A0_0 l0_0.length c0_0, u9000_, .int .i64 a0_2], .int .i64 a1] w fun e w' => e = .returned (.int .i64 r1) ∧ Kd.S k176 176 w' w0.heap.size (fun k_ => (P0_1_ k_ ∨ w.heap.size ≤ k_)) u9000_ r2 ∧ Below w0.heap.size w0 w' ∧ Kept w w' (fun k_ => P0_1_ k_) := by
  have hu := Try.underlying76
  have HO := Aside0.mk ho0_1
  have HB := Aside0.mk hB
  obtain ⟨rfl, rfl⟩ := hA
  unfold laws_markSession.f at h
  by_cases c : l0_0.length = 0
  · rw [if_pos c] at h
    obtain ⟨⟨b1, b2⟩, e1, h⟩ := Option.bind_eq_some_iff.mp h
    obtain ⟨⟨t1, t2⟩, e2, h⟩ := Option.bind_eq_some_iff.mp h
    simp only [Option.some.injEq, Prod.mk.injEq] at h
    obtain ⟨rfl, rfl⟩ := h
    obtain rfl := List.eq_nil_of_length_eq_zero c
    have A1 := Aside0.mk e1
    have A2 := Aside0.mk (show laws_markScopeS.f k l0_1 b1 = some (t1, t2) from e2)
    obtain ⟨Ao, co, rfl⟩ := Kd.S_slice ho0_1
    clear hB ho0_1 hr0_0 hc0_0 c e1 e2
    go_enter Try.func56, Try.ntmps56
    go_wp2_with (first | ((with_reducible refine gate_dst (N := 2) rfl ?_); refine box_event ?hg (N := 2) ?hd (cs := #[.slice none 0 0, .slice Ao l0_1.length co, .int .i64 a0_2]) (t := 76) ?hr ?_; (case hd => rfl); (case hg => rfl); (case hr => first | (go_simp; done) | (go_simp; rfl)); intro gb hg w5 hbox hb; have BX := Aside0.mk hbox; have HB1 := Aside0.mk hb; have HG := Aside0.mk hg; have hcz0 : w5.cell? ⟨gb, 0, none⟩ = some (.slice none 0 0) := (blk_cell hbox 0).trans rfl; have hcz1 : w5.cell? ⟨gb, 1, none⟩ = some (.slice Ao l0_1.length co) := (blk_cell hbox 1).trans rfl; clear hbox hb hg) | ((with_reducible refine gate_dst (N := 8) rfl ?_); refine goesL_ (some 8) rfl rfl Try.func39 (by kernel_rfl) rfl #[.slice none 0 0, .int .i64 a1] rfl (by (try simp only [List.map_toArray, List.map_cons, List.map_nil]); first | done | rfl) ?_; refine (laws_markDeclS.calls k (fun _ => False) (.slice none 0 0) [] a1 b1 b2 w0 _ (below_step HB.out (by repeat (first | exact HB1.out | apply pw_below_drewN))) (Kd.R_nil _ _ _ _ _) A1.out).mono ?_; rintro e w7 ⟨rfl, hs, hb2, hk⟩; refine ⟨_, rfl, ?_⟩; have HB2 := Aside0.mk hb2; have HK2 := Aside0.mk hk; have BX2 := Aside0.mk (blk_kept (by first | exact BX.out | exact blk_drewN BX.out _) hk (fun h => h)); have hcy1 : w7.cell? ⟨gb, 1, none⟩ = some (.slice Ao l0_1.length co) := (blk_cell BX2.out 1).trans rfl; have HO2 := Aside0.mk (Kd.S_kept (Kd.S_below HO.out (by repeat (first | exact HB1.out | apply pw_below_drewN))) hk (fun _ _ h => h)); clear hs hb2 hk hcz0 hcz1) | ((with_reducible refine gate_dst (N := 12) rfl ?_); refine goesL_ (some 12) rfl rfl Try.func129 (by kernel_rfl) rfl #[.slice Ao l0_1.length co, .int .i64 b1] rfl (by (try simp only [List.map_toArray, List.map_cons, List.map_nil]); first | done | rfl) ?_; refine (laws_markScopeS.calls k P0_1_ (.slice Ao l0_1.length co) l0_1 b1 t1 t2 w0 _ (by repeat (first | exact HB2.out | apply pw_below_drewN)) (by (with_reducible repeat (first | apply Kd.S_drewN)); exact HO2.out) A2.out).mono ?_; rintro e w9 ⟨rfl, hs, hb2, hk⟩; refine ⟨_, rfl, ?_⟩; have HB3 := Aside0.mk hb2; have HS := Aside0.mk (Kd.S_mono (ok' := fun k_ => P0_1_ k_ ∨ w.heap.size ≤ k_) hs (fun k_ hk_ => hk_.imp id (Nat.le_trans (Nat.le_trans HB1.out.size HK2.out.1)))); have HK3 := Aside0.mk (Kept.then_ (S := fun k_ => P0_1_ k_) (Kept.then_ (S := fun k_ => P0_1_ k_) (Kept.of_below HB1.out _) HK2.out (fun k_ h_ => h_.elim)) hk (fun k_ h_ => .inl h_)); clear hs hb2 hk hcy1))
    go_ret
    exact ⟨by first | rfl | (simp; done), HS.out, HB3.out, HK3.out⟩
  · rw [if_neg c] at h
    cases h
/-! ### laws_FnExactBegin: function 8 -/
def laws_FnExactBegin.f (k : Nat) : Option (Bool) := (spec_Begin2.f ).bind fun bt6 => (impl_Begin2.f ).bind fun bt7 => (laws_eqSession.f k ([] : List (S146)) bt7.1 bt7.2 ([] : List (S146)) bt6.1 bt6.2).bind fun t10 => if t10 = true then ((laws_markSession.f k ([] : List (S146)) bt7.1 bt7.2 1).bind fun bt14 => (laws_heldSession.f k ([] : List (S146)) bt14.2 bt7.2 1).bind fun t17 => if t17 < 0 then none else if t17 = bt14.1 then ((impl_Begin2.f ).bind fun bt23 => (laws_eqSession.f k ([] : List (S146)) bt23.1 bt23.2 ([] : List (S146)) bt6.1 bt6.2).bind fun t26 => if t26 = true then ((laws_heldSession.f k ([] : List (S146)) bt14.2 bt7.2 1).bind fun t30 => if t30 < 0 then none else if t30 = bt14.1 then (some true) else none) else none) else none) else none
set_option maxHeartbeats 8000000 in
set_option maxRecDepth 100000 in
theorem laws_FnExactBegin.calls (k : Nat)  (r : Bool) (w : World)  (h : laws_FnExactBegin.f k  = some r) :
    Calls Try.prog 8 #[] w fun e w' => e = .returned (.bool r) ∧ Below w.heap.size w w' := by
  have hu76 := Try.underlying76
  have H := St.nil w
  unfold laws_FnExactBegin.f at h
  obtain ⟨⟨t6_1, t6_2⟩, A6_, h_⟩ := Option.bind_eq_some_iff.mp h; clear h; have h := h_; clear h_
  have A6 := Aside0.mk A6_; clear A6_
  try dsimp only at h
  obtain ⟨⟨t7_1, t7_2⟩, A7_, h_⟩ := Option.bind_eq_some_iff.mp h; clear h; have h := h_; clear h_
  have A7 := Aside0.mk A7_; clear A7_
  try dsimp only at h
  obtain ⟨t10, A10_, h_⟩ := Option.bind_eq_some_iff.mp h; clear h; have h := h_; clear h_
  have A10 := Aside0.mk A10_; clear A10_
  try dsimp only at h
  obtain ⟨c1_, h_⟩ := iteP_ h; clear h; have h := h_; clear h_; subst c1_
  obtain ⟨⟨t14_1, t14_2⟩, A14_, h_⟩ := Option.bind_eq_some_iff.mp h; clear h; have h := h_; clear h_
  have A14 := Aside0.mk A14_; clear A14_
  try dsimp only at h
  obtain ⟨t17, A17_, h_⟩ := Option.bind_eq_some_iff.mp h; clear h; have h := h_; clear h_
  have A17 := Aside0.mk A17_; clear A17_
  try dsimp only at h
  obtain ⟨c2_, h_⟩ := iteN_ h; clear h; have h := h_; clear h_; have c2b := decide_eq_false c2_; clear c2_
  obtain ⟨c3_, h_⟩ := iteP_ h; clear h; have h := h_; clear h_; have c3b : (t17 != t14_1) = false := by simpa using c3_
  have c3d : decide (t17 = t14_1) = true := by simpa using c3_
  have c3e : (t17 == t14_1) = true := by simpa using c3_
  clear c3_
  obtain ⟨⟨t23_1, t23_2⟩, A23_, h_⟩ := Option.bind_eq_some_iff.mp h; clear h; have h := h_; clear h_
  have A23 := Aside0.mk A23_; clear A23_
  try dsimp only at h
  obtain ⟨t26, A26_, h_⟩ := Option.bind_eq_some_iff.mp h; clear h; have h := h_; clear h_
  have A26 := Aside0.mk A26_; clear A26_
  try dsimp only at h
  obtain ⟨c4_, h_⟩ := iteP_ h; clear h; have h := h_; clear h_; subst c4_
  obtain ⟨t30, A30_, h_⟩ := Option.bind_eq_some_iff.mp h; clear h; have h := h_; clear h_
  have A30 := Aside0.mk A30_; clear A30_
  try dsimp only at h
  obtain ⟨c5_, h_⟩ := iteN_ h; clear h; have h := h_; clear h_; have c5b := decide_eq_false c5_; clear c5_
  obtain ⟨c6_, h_⟩ := iteP_ h; clear h; have h := h_; clear h_; have c6b : (t30 != t14_1) = false := by simpa using c6_
  have c6d : decide (t30 = t14_1) = true := by simpa using c6_
  have c6e : (t30 == t14_1) = true := by simpa using c6_
  clear c6_
  obtain rfl := Option.some.inj h; clear h
  go_enter Try.func8, Try.ntmps8
  go_wp2_with (first | ((with_reducible refine gate_dst (N := 6) rfl ?_); refine goesL_ (some 6) rfl rfl Try.func53 (by kernel_rfl) rfl #[] rfl (by (try simp only [List.map_toArray, List.map_cons, List.map_nil]); first | done | rfl) ?_; refine (spec_Begin2.calls (w := _) (h := A6.out)).mono ?_; rintro e w6 ⟨v1x6, rfl, ho_, hb_⟩; refine ⟨_, rfl, ?_⟩; obtain ⟨ok6_, a6_, cc6_, rfl, kc6_, H_⟩ := St.callS H hb_ ho_; clear H hb_ ho_; have H := H_; clear H_) | ((with_reducible refine gate_dst (N := 1) rfl ?_); refine box_event ?hg (N := 1) ?hd (cs := #[.slice none 0 0, .slice none 0 0, .int .i64 0]) (t := 76) ?hr ?_; (case hd => rfl); (case hg => rfl); (case hr => first | (go_simp; done) | (go_simp; rfl)); intro g1_ hg_ w1 hbox_ hb_; replace H := St.box H hg_ hbox_ hb_; clear hg_ hbox_ hb_; have hczb1_0 : w1.cell? ⟨g1_, 0, none⟩ = some (.slice none 0 0) := (blk_cell (St.getB H 0 rfl ⟨0, rfl⟩) 0).trans rfl; have hfzb1_0 : w1.frozen? ⟨g1_, 0, none⟩ = false := blk_frozen (St.getB H 0 rfl ⟨0, rfl⟩) 0; have hczb1_1 : w1.cell? ⟨g1_, 1, none⟩ = some (.slice none 0 0) := (blk_cell (St.getB H 0 rfl ⟨0, rfl⟩) 1).trans rfl; have hfzb1_1 : w1.frozen? ⟨g1_, 1, none⟩ = false := blk_frozen (St.getB H 0 rfl ⟨0, rfl⟩) 1; have hczb1_2 : w1.cell? ⟨g1_, 2, none⟩ = some (.int .i64 0) := (blk_cell (St.getB H 0 rfl ⟨0, rfl⟩) 2).trans rfl; have hfzb1_2 : w1.frozen? ⟨g1_, 2, none⟩ = false := blk_frozen (St.getB H 0 rfl ⟨0, rfl⟩) 2) | ((with_reducible refine gate_dst (N := 7) rfl ?_); clear hczb1_0 hfzb1_0 hczb1_1 hfzb1_1 hczb1_2 hfzb1_2; refine St.abs ?_; intro w7p_ hwp_; have hlo_ := St.lowB H 0 rfl; have hkp_ : KeepBut w1 w7p_ g1_ none := (by rw [hwp_]; repeat (first | exact KeepBut.refl _ _ _ | apply keep_drewN | apply KeepBut.set_)); have hbx_ : w7p_.heap[g1_]? = some (.cells #[.slice none 0 0, .slice a6_ t6_1.length cc6_, .int .i64 t6_2] 76 (0, 0)) := (by rw [hwp_]; (with_reducible repeat refine blk_drewN ?_ _); refine blk_put (cs := #[.slice none 0 0, .slice a6_ t6_1.length cc6_, .int .i64 0]) ?_ 2 _ rfl; (with_reducible repeat refine blk_drewN ?_ _); refine blk_put (cs := #[.slice none 0 0, .slice none 0 0, .int .i64 0]) ?_ 1 _ rfl; (with_reducible repeat refine blk_drewN ?_ _); refine blk_put (cs := #[.slice none 0 0, .slice none 0 0, .int .i64 0]) ?_ 0 _ rfl; (with_reducible repeat refine blk_drewN ?_ _); exact St.getB H 0 rfl ⟨0, rfl⟩); have hbl_ : Below w.heap.size w w7p_ := (by rw [hwp_]; repeat (first | exact H.out.below | apply pw_below_drewN | refine below_set ?_ hlo_)); replace H := St.store H 0 rfl hkp_ hbx_ hbl_; (try dsimp only [put, cutAt] at H); clear hkp_ hbx_ hbl_ hlo_ hwp_; refine goesL_ (some 7) rfl rfl Try.func54 (by kernel_rfl) rfl #[] rfl (by (try simp only [List.map_toArray, List.map_cons, List.map_nil]); first | done | rfl) ?_; refine (impl_Begin2.calls (w := _) (h := A7.out)).mono ?_; rintro e w7 ⟨v1x7, rfl, ho_, hb_⟩; refine ⟨_, rfl, ?_⟩; obtain ⟨ok7_, a7_, cc7_, rfl, kc7_, H_⟩ := St.callS H hb_ ho_; clear H hb_ ho_; have H := H_; clear H_) | ((with_reducible refine gate_dst (N := 2) rfl ?_); refine box_event ?hg (N := 2) ?hd (cs := #[.slice none 0 0, .slice none 0 0, .int .i64 0]) (t := 76) ?hr ?_; (case hd => rfl); (case hg => rfl); (case hr => first | (go_simp; done) | (go_simp; rfl)); intro g2_ hg_ w2 hbox_ hb_; replace H := St.box H hg_ hbox_ hb_; clear hg_ hbox_ hb_; have hczb2_0 : w2.cell? ⟨g2_, 0, none⟩ = some (.slice none 0 0) := (blk_cell (St.getB H 0 rfl ⟨0, rfl⟩) 0).trans rfl; have hfzb2_0 : w2.frozen? ⟨g2_, 0, none⟩ = false := blk_frozen (St.getB H 0 rfl ⟨0, rfl⟩) 0; have hczb2_1 : w2.cell? ⟨g2_, 1, none⟩ = some (.slice none 0 0) := (blk_cell (St.getB H 0 rfl ⟨0, rfl⟩) 1).trans rfl; have hfzb2_1 : w2.frozen? ⟨g2_, 1, none⟩ = false := blk_frozen (St.getB H 0 rfl ⟨0, rfl⟩) 1; have hczb2_2 : w2.cell? ⟨g2_, 2, none⟩ = some (.int .i64 0) := (blk_cell (St.getB H 0 rfl ⟨0, rfl⟩) 2).trans rfl; have hfzb2_2 : w2.frozen? ⟨g2_, 2, none⟩ = false := blk_frozen (St.getB H 0 rfl ⟨0, rfl⟩) 2; have hczb1_0 : w2.cell? ⟨g1_, 0, none⟩ = some (.slice none 0 0) := (blk_cell (St.getB H 2 rfl ⟨0, rfl⟩) 0).trans rfl; have hfzb1_0 : w2.frozen? ⟨g1_, 0, none⟩ = false := blk_frozen (St.getB H 2 rfl ⟨0, rfl⟩) 0; have hczb1_1 : w2.cell? ⟨g1_, 1, none⟩ = some (.slice a6_ t6_1.length cc6_) := (blk_cell (St.getB H 2 rfl ⟨0, rfl⟩) 1).trans rfl; have hfzb1_1 : w2.frozen? ⟨g1_, 1, none⟩ = false := blk_frozen (St.getB H 2 rfl ⟨0, rfl⟩) 1; have hczb1_2 : w2.cell? ⟨g1_, 2, none⟩ = some (.int .i64 t6_2) := (blk_cell (St.getB H 2 rfl ⟨0, rfl⟩) 2).trans rfl; have hfzb1_2 : w2.frozen? ⟨g1_, 2, none⟩ = false := blk_frozen (St.getB H 2 rfl ⟨0, rfl⟩) 2; obtain ⟨hneb1_b2, hneb1_b2x⟩ := St.neB H 0 2 rfl rfl (by decide)) | ((with_reducible refine gate_dst (N := 10) rfl ?_); clear hczb2_0 hfzb2_0 hczb2_1 hfzb2_1 hczb2_2 hfzb2_2 hczb1_0 hfzb1_0 hczb1_1 hfzb1_1 hczb1_2 hfzb1_2 hneb1_b2 hneb1_b2x; refine St.abs ?_; intro w10p_ hwp_; have hlo_ := St.lowB H 0 rfl; have hkp_ : KeepBut w2 w10p_ g2_ none := (by rw [hwp_]; repeat (first | exact KeepBut.refl _ _ _ | apply keep_drewN | apply KeepBut.set_)); have hbx_ : w10p_.heap[g2_]? = some (.cells #[.slice none 0 0, .slice a7_ t7_1.length cc7_, .int .i64 t7_2] 76 (0, 0)) := (by rw [hwp_]; (with_reducible repeat refine blk_drewN ?_ _); refine blk_put (cs := #[.slice none 0 0, .slice a7_ t7_1.length cc7_, .int .i64 0]) ?_ 2 _ rfl; (with_reducible repeat refine blk_drewN ?_ _); refine blk_put (cs := #[.slice none 0 0, .slice none 0 0, .int .i64 0]) ?_ 1 _ rfl; (with_reducible repeat refine blk_drewN ?_ _); refine blk_put (cs := #[.slice none 0 0, .slice none 0 0, .int .i64 0]) ?_ 0 _ rfl; (with_reducible repeat refine blk_drewN ?_ _); exact St.getB H 0 rfl ⟨0, rfl⟩); have hbl_ : Below w.heap.size w w10p_ := (by rw [hwp_]; repeat (first | exact H.out.below | apply pw_below_drewN | refine below_set ?_ hlo_)); replace H := St.store H 0 rfl hkp_ hbx_ hbl_; (try dsimp only [put, cutAt] at H); clear hkp_ hbx_ hbl_ hlo_ hwp_; refine goesL_ (some 10) rfl rfl Try.func55 (by kernel_rfl) rfl #[.agg #[.slice none 0 0, .slice a7_ t7_1.length cc7_, .int .i64 t7_2], .agg #[.slice none 0 0, .slice a6_ t6_1.length cc6_, .int .i64 t6_2]] rfl (by (try simp only [List.map_toArray, List.map_cons, List.map_nil]); first | done | rfl) ?_; refine (laws_eqSession.calls (A0_0 := none) (c0_0 := 0) (hr0_0 := Kd.C_nil _ _) (hc0_0 := Nat.le_refl 0) (hr0_1 := (Kd.S_reads' (St.getS H 1 rfl)).2.2) (hc0_1 := kc7_.out) (A1_0 := none) (c1_0 := 0) (hr1_0 := Kd.C_nil _ _) (hc1_0 := Nat.le_refl 0) (hr1_1 := (Kd.S_reads' (St.getS H 3 rfl)).2.2) (hc1_1 := kc6_.out) (h := A10.out)).mono ?_; rintro e w10 ⟨rfl, hb_⟩; refine ⟨_, rfl, ?_⟩; replace H := St.call H hb_; clear hb_; have hczb2_0 : w10.cell? ⟨g2_, 0, none⟩ = some (.slice none 0 0) := (blk_cell (St.getB H 0 rfl ⟨0, rfl⟩) 0).trans rfl; have hfzb2_0 : w10.frozen? ⟨g2_, 0, none⟩ = false := blk_frozen (St.getB H 0 rfl ⟨0, rfl⟩) 0; have hczb2_1 : w10.cell? ⟨g2_, 1, none⟩ = some (.slice a7_ t7_1.length cc7_) := (blk_cell (St.getB H 0 rfl ⟨0, rfl⟩) 1).trans rfl; have hfzb2_1 : w10.frozen? ⟨g2_, 1, none⟩ = false := blk_frozen (St.getB H 0 rfl ⟨0, rfl⟩) 1; have hczb2_2 : w10.cell? ⟨g2_, 2, none⟩ = some (.int .i64 t7_2) := (blk_cell (St.getB H 0 rfl ⟨0, rfl⟩) 2).trans rfl; have hfzb2_2 : w10.frozen? ⟨g2_, 2, none⟩ = false := blk_frozen (St.getB H 0 rfl ⟨0, rfl⟩) 2) | ((with_reducible refine gate_dst (N := 14) rfl ?_); clear hczb2_0 hfzb2_0 hczb2_1 hfzb2_1 hczb2_2 hfzb2_2; refine goesL_ (some 14) rfl rfl Try.func56 (by kernel_rfl) rfl #[.agg #[.slice none 0 0, .slice a7_ t7_1.length cc7_, .int .i64 t7_2], .int .i64 1] rfl (by (try simp only [List.map_toArray, List.map_cons, List.map_nil]); first | done | rfl) ?_; refine (laws_markSession.calls (A0_0 := none) (c0_0 := 0) (hr0_0 := Kd.C_nil _ _) (hc0_0 := Nat.le_refl 0) (hA := ⟨rfl, rfl⟩) (P0_1_ := ok7_) (u9000_ := .slice a7_ t7_1.length cc7_) (ho0_1 := St.getS H 1 rfl) (hB := (St.lift H).below) (h := A14.out)).mono ?_; rintro e w14 ⟨rfl, hs_, hb_, hk_⟩; refine ⟨_, rfl, ?_⟩; replace H := St.markS H 1 rfl hs_ hb_ hk_; (try dsimp only [put, cutAt] at H); have e_ := (Kd.S_reads' hs_).1; have kc7_m := Aside0.mk (Kd.S_reads' hs_).2.1; rw [e_] at H kc7_m; obtain ⟨ok7_m, H_⟩ : ∃ ok_, Aside0 (St w w14 [Ob.B g2_ (.cells #[.slice none 0 0, .slice a7_ t14_2.length cc7_, .int .i64 t7_2] 76 (0, 0)), Ob.S w k176 176 ok_ (.slice a7_ t14_2.length cc7_) t14_2, Ob.B g1_ (.cells #[.slice none 0 0, .slice a6_ t6_1.length cc6_, .int .i64 t6_2] 76 (0, 0)), Ob.S w k176 176 ok6_ (.slice a6_ t6_1.length cc6_) t6_1]) := ⟨_, H⟩; clear H; have H := H_; clear H_; clear hs_ hb_ hk_; (rw [e_]); clear e_; have hczb2_0 : w14.cell? ⟨g2_, 0, none⟩ = some (.slice none 0 0) := (blk_cell (St.getB H 0 rfl ⟨0, rfl⟩) 0).trans rfl; have hfzb2_0 : w14.frozen? ⟨g2_, 0, none⟩ = false := blk_frozen (St.getB H 0 rfl ⟨0, rfl⟩) 0; have hczb2_1 : w14.cell? ⟨g2_, 1, none⟩ = some (.slice a7_ t14_2.length cc7_) := (blk_cell (St.getB H 0 rfl ⟨0, rfl⟩) 1).trans rfl; have hfzb2_1 : w14.frozen? ⟨g2_, 1, none⟩ = false := blk_frozen (St.getB H 0 rfl ⟨0, rfl⟩) 1; have hczb2_2 : w14.cell? ⟨g2_, 2, none⟩ = some (.int .i64 t7_2) := (blk_cell (St.getB H 0 rfl ⟨0, rfl⟩) 2).trans rfl; have hfzb2_2 : w14.frozen? ⟨g2_, 2, none⟩ = false := blk_frozen (St.getB H 0 rfl ⟨0, rfl⟩) 2) | ((with_reducible refine gate_dst (N := 17) rfl ?_); clear hczb2_0 hfzb2_0 hczb2_1 hfzb2_1 hczb2_2 hfzb2_2; refine goesL_ (some 17) rfl rfl Try.func57 (by kernel_rfl) rfl #[.agg #[.slice none 0 0, .slice a7_ t14_2.length cc7_, .int .i64 t7_2], .int .i64 1] rfl (by (try simp only [List.map_toArray, List.map_cons, List.map_nil]); first | done | rfl) ?_; refine (laws_heldSession.calls (A0_0 := none) (c0_0 := 0) (hr0_0 := Kd.C_nil _ _) (hc0_0 := Nat.le_refl 0) (hr0_1 := (Kd.S_reads' (St.getS H 1 rfl)).2.2) (hc0_1 := kc7_m.out) (h := A17.out)).mono ?_; rintro e w17 ⟨rfl, hb_⟩; refine ⟨_, rfl, ?_⟩; replace H := St.call H hb_; clear hb_) | ((with_reducible refine gate_dst (N := 23) rfl ?_); refine goesL_ (some 23) rfl rfl Try.func54 (by kernel_rfl) rfl #[] rfl (by (try simp only [List.map_toArray, List.map_cons, List.map_nil]); first | done | rfl) ?_; refine (impl_Begin2.calls (w := _) (h := A23.out)).mono ?_; rintro e w23 ⟨v1x23, rfl, ho_, hb_⟩; refine ⟨_, rfl, ?_⟩; obtain ⟨ok23_, a23_, cc23_, rfl, kc23_, H_⟩ := St.callS H hb_ ho_; clear H hb_ ho_; have H := H_; clear H_) | ((with_reducible refine gate_dst (N := 5) rfl ?_); refine box_event ?hg (N := 5) ?hd (cs := #[.slice none 0 0, .slice none 0 0, .int .i64 0]) (t := 76) ?hr ?_; (case hd => rfl); (case hg => rfl); (case hr => first | (go_simp; done) | (go_simp; rfl)); intro g5_ hg_ w5 hbox_ hb_; replace H := St.box H hg_ hbox_ hb_; clear hg_ hbox_ hb_; have hczb5_0 : w5.cell? ⟨g5_, 0, none⟩ = some (.slice none 0 0) := (blk_cell (St.getB H 0 rfl ⟨0, rfl⟩) 0).trans rfl; have hfzb5_0 : w5.frozen? ⟨g5_, 0, none⟩ = false := blk_frozen (St.getB H 0 rfl ⟨0, rfl⟩) 0; have hczb5_1 : w5.cell? ⟨g5_, 1, none⟩ = some (.slice none 0 0) := (blk_cell (St.getB H 0 rfl ⟨0, rfl⟩) 1).trans rfl; have hfzb5_1 : w5.frozen? ⟨g5_, 1, none⟩ = false := blk_frozen (St.getB H 0 rfl ⟨0, rfl⟩) 1; have hczb5_2 : w5.cell? ⟨g5_, 2, none⟩ = some (.int .i64 0) := (blk_cell (St.getB H 0 rfl ⟨0, rfl⟩) 2).trans rfl; have hfzb5_2 : w5.frozen? ⟨g5_, 2, none⟩ = false := blk_frozen (St.getB H 0 rfl ⟨0, rfl⟩) 2; have hczb1_0 : w5.cell? ⟨g1_, 0, none⟩ = some (.slice none 0 0) := (blk_cell (St.getB H 4 rfl ⟨0, rfl⟩) 0).trans rfl; have hfzb1_0 : w5.frozen? ⟨g1_, 0, none⟩ = false := blk_frozen (St.getB H 4 rfl ⟨0, rfl⟩) 0; have hczb1_1 : w5.cell? ⟨g1_, 1, none⟩ = some (.slice a6_ t6_1.length cc6_) := (blk_cell (St.getB H 4 rfl ⟨0, rfl⟩) 1).trans rfl; have hfzb1_1 : w5.frozen? ⟨g1_, 1, none⟩ = false := blk_frozen (St.getB H 4 rfl ⟨0, rfl⟩) 1; have hczb1_2 : w5.cell? ⟨g1_, 2, none⟩ = some (.int .i64 t6_2) := (blk_cell (St.getB H 4 rfl ⟨0, rfl⟩) 2).trans rfl; have hfzb1_2 : w5.frozen? ⟨g1_, 2, none⟩ = false := blk_frozen (St.getB H 4 rfl ⟨0, rfl⟩) 2; obtain ⟨hneb1_b5, hneb1_b5x⟩ := St.neB H 0 4 rfl rfl (by decide)) | ((with_reducible refine gate_dst (N := 26) rfl ?_); clear hczb5_0 hfzb5_0 hczb5_1 hfzb5_1 hczb5_2 hfzb5_2 hczb1_0 hfzb1_0 hczb1_1 hfzb1_1 hczb1_2 hfzb1_2 hneb1_b5 hneb1_b5x; refine St.abs ?_; intro w26p_ hwp_; have hlo_ := St.lowB H 0 rfl; have hkp_ : KeepBut w5 w26p_ g5_ none := (by rw [hwp_]; repeat (first | exact KeepBut.refl _ _ _ | apply keep_drewN | apply KeepBut.set_)); have hbx_ : w26p_.heap[g5_]? = some (.cells #[.slice none 0 0, .slice a23_ t23_1.length cc23_, .int .i64 t23_2] 76 (0, 0)) := (by rw [hwp_]; (with_reducible repeat refine blk_drewN ?_ _); refine blk_put (cs := #[.slice none 0 0, .slice a23_ t23_1.length cc23_, .int .i64 0]) ?_ 2 _ rfl; (with_reducible repeat refine blk_drewN ?_ _); refine blk_put (cs := #[.slice none 0 0, .slice none 0 0, .int .i64 0]) ?_ 1 _ rfl; (with_reducible repeat refine blk_drewN ?_ _); refine blk_put (cs := #[.slice none 0 0, .slice none 0 0, .int .i64 0]) ?_ 0 _ rfl; (with_reducible repeat refine blk_drewN ?_ _); exact St.getB H 0 rfl ⟨0, rfl⟩); have hbl_ : Below w.heap.size w w26p_ := (by rw [hwp_]; repeat (first | exact H.out.below | apply pw_below_drewN | refine below_set ?_ hlo_)); replace H := St.store H 0 rfl hkp_ hbx_ hbl_; (try dsimp only [put, cutAt] at H); clear hkp_ hbx_ hbl_ hlo_ hwp_; refine goesL_ (some 26) rfl rfl Try.func55 (by kernel_rfl) rfl #[.agg #[.slice none 0 0, .slice a23_ t23_1.length cc23_, .int .i64 t23_2], .agg #[.slice none 0 0, .slice a6_ t6_1.length cc6_, .int .i64 t6_2]] rfl (by (try simp only [List.map_toArray, List.map_cons, List.map_nil]); first | done | rfl) ?_; refine (laws_eqSession.calls (A0_0 := none) (c0_0 := 0) (hr0_0 := Kd.C_nil _ _) (hc0_0 := Nat.le_refl 0) (hr0_1 := (Kd.S_reads' (St.getS H 1 rfl)).2.2) (hc0_1 := kc23_.out) (A1_0 := none) (c1_0 := 0) (hr1_0 := Kd.C_nil _ _) (hc1_0 := Nat.le_refl 0) (hr1_1 := (Kd.S_reads' (St.getS H 5 rfl)).2.2) (hc1_1 := kc6_.out) (h := A26.out)).mono ?_; rintro e w26 ⟨rfl, hb_⟩; refine ⟨_, rfl, ?_⟩; replace H := St.call H hb_; clear hb_; replace H := St.drop H 0; replace H := St.drop H 0; replace H := St.drop H 2; replace H := St.drop H 2; (try dsimp only [put, cutAt] at H); have hczb2_0 : w26.cell? ⟨g2_, 0, none⟩ = some (.slice none 0 0) := (blk_cell (St.getB H 0 rfl ⟨0, rfl⟩) 0).trans rfl; have hfzb2_0 : w26.frozen? ⟨g2_, 0, none⟩ = false := blk_frozen (St.getB H 0 rfl ⟨0, rfl⟩) 0; have hczb2_1 : w26.cell? ⟨g2_, 1, none⟩ = some (.slice a7_ t14_2.length cc7_) := (blk_cell (St.getB H 0 rfl ⟨0, rfl⟩) 1).trans rfl; have hfzb2_1 : w26.frozen? ⟨g2_, 1, none⟩ = false := blk_frozen (St.getB H 0 rfl ⟨0, rfl⟩) 1; have hczb2_2 : w26.cell? ⟨g2_, 2, none⟩ = some (.int .i64 t7_2) := (blk_cell (St.getB H 0 rfl ⟨0, rfl⟩) 2).trans rfl; have hfzb2_2 : w26.frozen? ⟨g2_, 2, none⟩ = false := blk_frozen (St.getB H 0 rfl ⟨0, rfl⟩) 2) | ((with_reducible refine gate_dst (N := 30) rfl ?_); clear hczb2_0 hfzb2_0 hczb2_1 hfzb2_1 hczb2_2 hfzb2_2; refine goesL_ (some 30) rfl rfl Try.func57 (by kernel_rfl) rfl #[.agg #[.slice none 0 0, .slice a7_ t14_2.length cc7_, .int .i64 t7_2], .int .i64 1] rfl (by (try simp only [List.map_toArray, List.map_cons, List.map_nil]); first | done | rfl) ?_; refine (laws_heldSession.calls (A0_0 := none) (c0_0 := 0) (hr0_0 := Kd.C_nil _ _) (hc0_0 := Nat.le_refl 0) (hr0_1 := (Kd.S_reads' (St.getS H 1 rfl)).2.2) (hc0_1 := kc7_m.out) (h := A30.out)).mono ?_; rintro e w30 ⟨rfl, hb_⟩; refine ⟨_, rfl, ?_⟩; replace H := St.call H hb_; clear hb_; replace H := St.drop H 0; replace H := St.drop H 0; (try dsimp only [put, cutAt] at H)))
  go_ret
  exact ⟨by first | rfl | (simp; done), (St.lift H).below⟩

end Go.Proofs.Ytjmnhcooimdioaa.PFnExactBegin
