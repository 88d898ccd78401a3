-- Written by a program of this session (a turned copy of the kit's printer); Lean checks it.
-- half the depth
import Derived.Test.YtjnmenadlnajeaaPFnExactFlatEvalx0
import Derived.Test.YtjnmenadlnajeaaPFnExactFlatEvalx15
namespace Go.Proofs.Ytjnmenadlnajeaa.PFnExactFlatEval
open Go.RowKit Go.Proofs.YtjnmenadlnajeaaW.PrintWords Go.Proofs.YtjnmenadlnajeaaW.PrintLast Go.Proofs.YtjnmenadlnajeaaW.PrintMore
attribute [local go_sem] max2_int min2_int max_two min_two max_three min_three max_four min_four   -- for this text's walks alone
set_option linter.unusedVariables false
set_option linter.unusedSimpArgs false

/-! ### impl_Bits_cut: function 53 -/
def impl_Bits_cut.l0 : Nat → Int → Int → Int → Int → Int → List Int → Int → List Int → Option (Int × List Int)
 | 0, _, _, _, _, _, _, _, _ => none
 | k + 1, x1, x2, x15, x16, x315000, x315001, x321000, x321001 => if x16 < x15 then (if 0 ≤ (wrap64 (Int.tdiv (wrap64 (x1 + (wrap64 (64 * x16)))) 64)) then (if (wrap64 (Int.tdiv (wrap64 (x1 + (wrap64 (64 * x16)))) 64)) < (x315001.length : Int) then (if 0 ≤ (Int.tmod (wrap64 (x1 + (wrap64 (64 * x16)))) 64) then (if 0 ≤ x16 then (if x16 < (x321001.length : Int) then ((some (x321001.set (x16 : Int).toNat (shr .u64 (rd x315001 (wrap64 (Int.tdiv (wrap64 (x1 + (wrap64 (64 * x16)))) 64))) (Int.tmod (wrap64 (x1 + (wrap64 (64 * x16)))) 64)) : List Int)).bind fun y322 => (if (Int.tmod (wrap64 (x1 + (wrap64 (64 * x16)))) 64) = 0 then (impl_Bits_cut.l0 k x1 x2 x15 (wrap64 (x16 + 1)) x315000 x315001 x321000 y322) else (if (wrap64 ((wrap64 (Int.tdiv (wrap64 (x1 + (wrap64 (64 * x16)))) 64)) + 1)) < (x315001.length : Int) then (if 0 ≤ (wrap64 ((wrap64 (Int.tdiv (wrap64 (x1 + (wrap64 (64 * x16)))) 64)) + 1)) then (if 0 ≤ (wrap64 (64 - (Int.tmod (wrap64 (x1 + (wrap64 (64 * x16)))) 64))) then (impl_Bits_cut.l0 k x1 x2 x15 (wrap64 (x16 + 1)) x315000 x315001 x321000 (y322.set (x16 : Int).toNat (Go.bits .or .u64 (rd y322 x16) (shl .u64 (rd x315001 (wrap64 ((wrap64 (Int.tdiv (wrap64 (x1 + (wrap64 (64 * x16)))) 64)) + 1))) (wrap64 (64 - (Int.tmod (wrap64 (x1 + (wrap64 (64 * x16)))) 64))))))) else (none)) else (none)) else (impl_Bits_cut.l0 k x1 x2 x15 (wrap64 (x16 + 1)) x315000 x315001 x321000 y322)))) else (none)) else (none)) else (none)) else (none)) else (none)) else (if (Int.tmod x2 64) = 0 then (some (x321000, x321001)) else (if 0 ≤ (wrap64 ((x321001.length : Int) - 1)) then (if (wrap64 ((x321001.length : Int) - 1)) < (x321001.length : Int) then (if 0 ≤ (Int.tmod x2 64) then (some (x321000, (x321001.set ((wrap64 ((x321001.length : Int) - 1)) : Int).toNat (Go.bits .and .u64 (rd x321001 (wrap64 ((x321001.length : Int) - 1))) (IntKind.u64.wrap ((shl .u64 1 (Int.tmod x2 64)) - 1)))))) else (none)) else (none)) else (none)))
def impl_Bits_cut.f (k : Nat) (a0_0 : Int) (l0_1 : List Int) (a1 : Int) (a2 : Int) : Option (Int × List Int) := (impl_zeroBits.f a2).bind fun bt316 => (impl_Bits_cut.l0 k a1 a2 (bt316.2.length : Int) 0 a0_0 l0_1 bt316.1 bt316.2)
def impl_Bits_cut.T6 : Bool × List (List Nat × List Nat) := (true, [([], []), ([0], [0]), ([], []), ([], []), ([3], [3]), ([], []), ([5], [5]), ([4, 6], [4, 6]), ([7], [7]), ([], []), ([9], [9]), ([8, 10], [8, 10]), ([1, 2, 0, 1, 2, 3, 4, 5, 6, 7, 8, 9, 10, 11], [1, 2]), ([12, 11, 0, 1, 2, 3, 4, 5, 6, 7, 8, 9, 10, 11], [11, 12])])
def impl_Bits_cut.B6 : List Nat := [0, 1, 0, 0, 8, 0, 32, 120, 248, 0, 512, 2040, 4095, 8191]
theorem impl_Bits_cut.tab6 : rtab .any (opsOf Try.f53 6) = impl_Bits_cut.T6 := by kernel_rfl
theorem impl_Bits_cut.bits6 : waitsOk impl_Bits_cut.T6.2 impl_Bits_cut.B6 = true := by kernel_rfl
def impl_Bits_cut.T8 : Bool × List (List Nat × List Nat) := (true, [([], []), ([0], [0]), ([], []), ([1, 2], [1, 2]), ([3], [3]), ([], []), ([5], [5]), ([], []), ([7], [7]), ([8], [8]), ([6, 9], [6, 9]), ([10], [10]), ([], []), ([12], [12]), ([13], [13]), ([11, 14], [11, 14]), ([4, 15], [4, 15]), ([1, 2, 0, 1, 2, 3, 4, 5, 6, 7, 8, 9, 10, 11, 12, 13, 14, 15, 16], [1, 2]), ([17, 16, 0, 1, 2, 3, 4, 5, 6, 7, 8, 9, 10, 11, 12, 13, 14, 15, 16], [16, 17])])
def impl_Bits_cut.B8 : List Nat := [0, 1, 0, 7, 15, 0, 32, 0, 128, 384, 992, 2016, 0, 4096, 12288, 32736, 65535, 131071, 262143]
theorem impl_Bits_cut.tab8 : rtab .any (opsOf Try.f53 8) = impl_Bits_cut.T8 := by kernel_rfl
theorem impl_Bits_cut.bits8 : waitsOk impl_Bits_cut.T8.2 impl_Bits_cut.B8 = true := by kernel_rfl
def impl_Bits_cut.T12 : Bool × List (List Nat × List Nat) := (true, [([], []), ([0], [0]), ([], []), ([2], [2]), ([3], [3]), ([4], [4]), ([1, 5], [1, 5]), ([6], [6]), ([], []), ([8], [8]), ([9], [9]), ([7, 10], [7, 10]), ([1, 5, 0, 1, 2, 3, 4, 5, 6, 7, 8, 9, 10, 11], [1, 5]), ([12, 11, 0, 1, 2, 3, 4, 5, 6, 7, 8, 9, 10, 11], [11, 12])])
def impl_Bits_cut.B12 : List Nat := [0, 1, 0, 4, 12, 28, 63, 127, 0, 256, 768, 2047, 4095, 8191]
theorem impl_Bits_cut.tab12 : rtab .any (opsOf Try.f53 12) = impl_Bits_cut.T12 := by kernel_rfl
theorem impl_Bits_cut.bits12 : waitsOk impl_Bits_cut.T12.2 impl_Bits_cut.B12 = true := by kernel_rfl
set_option maxHeartbeats 8000000 in
set_option maxRecDepth 100000 in
theorem impl_Bits_cut.calls (k : Nat) (a0_0 : Int) (A0_1 : Option Addr) (c0_1 : Nat) (l0_1 : List Int) (a1 : Int) (a2 : Int) (r1 : Int) (r2 : List Int) (w : World) (hr0_1 : Kd.C (Kd.int .u64) w A0_1 l0_1.length l0_1) (hc0_1 : l0_1.length ≤ c0_1) (h : impl_Bits_cut.f k a0_0 l0_1 a1 a2 = some (r1, r2)) :
  Calls Try.prog 53 #[.agg #[.int .i64 a0_0, .slice A0_1 l0_1.length c0_1], .int .i64 a1, .int .i64 a2] w fun e w' => ∃ v1_ : Value, e = .returned (.agg #[.int .i64 r1, v1_]) ∧ Kd.R (Kd.int .u64) 93 w' w.heap.size (fun _ => True) v1_ r2 ∧ Below w.heap.size w w' := by
 have hu41 := Try.underlying41; have HR0_1 := Aside0.mk hr0_1; have HC0_1 := Aside0.mk hc0_1; clear hr0_1 hc0_1; have HB := Aside0.mk (Below.refl w.heap.size w); have H : ((impl_zeroBits.f a2).bind fun bt316 => (impl_Bits_cut.l0 k a1 a2 (bt316.2.length : Int) 0 a0_0 l0_1 bt316.1 bt316.2)) = some (r1, r2) := h; clear h; replace H := Option.bind_eq_some_iff.mp H; obtain ⟨⟨t316, t317⟩, A40, H⟩ := H; replace H : (impl_Bits_cut.l0 k a1 a2 (t317.length : Int) 0 a0_0 l0_1 t316 t317) = some (r1, r2) := H; have A4 := Aside0.mk A40; clear A40; have H' := Aside0.mk H; clear H
 go_enter Try.func53, Try.ntmps53
 go_wp2_with (first | ((with_reducible refine gate_dst (N := 3) rfl ?_); (try (refine gate_guard (by rfl) ?_; dsimp only)); refine box_event ?hg (N := 3) ?hd (cs := #[.int .i64 a0_0, .slice A0_1 l0_1.length c0_1]) (t := 41) ?hr ?_; (case hd => rfl); (case hg => rfl); (case hr => first | (go_simp; done) | (go_simp; rfl)); intro gb314 hg w5 hbox hb; have n0_ := Aside0.mk (below_step (bl HB) hb); have n1_ := Aside0.mk (hbox); have n2_ := Aside0.mk ((by rw [hg]; exact (below_size (bl HB)) : w.heap.size ≤ gb314)); have n3_ := Aside0.mk ((by rw [hg]; exact (below_size (bl HB)) : w.heap.size ≤ gb314)); clear HB; have HB := n0_; have BK314 := n1_; have GW314 := n2_; have GE314 := n3_; clear n0_ n1_ n2_ n3_; clear hb hbox hg) | ((with_reducible refine gate_dst (N := 6) rfl ?_); (try (refine gate_guard (by rfl) ?_; dsimp only)); refine box_event ?hg (N := 6) ?hd (cs := #[.int .i64 0, .slice none 0 0]) (t := 41) ?hr ?_; (case hd => rfl); (case hg => rfl); (case hr => first | (go_simp; done) | (go_simp; rfl)); intro gb315 hg w6 hbox hb; have n0_ := Aside0.mk (blk_below (g := gb314) (o := .cells #[.int .i64 a0_0, .slice A0_1 l0_1.length c0_1] 41 (0, 0)) (bk BK314) hb); have n1_ := Aside0.mk (below_step (bs HB GE314) hb); have n2_ := Aside0.mk (hbox); have n3_ := Aside0.mk ((by rw [hg]; exact (below_size (bs HB GE314)) : w.heap.size ≤ gb315)); have n4_ := Aside0.mk ((by rw [hg]; exact (below_size (bs HB GE314)) : w.heap.size ≤ gb315)); have n5_ := Aside0.mk ((by rw [hg]; exact Nat.ne_of_lt (blk_lt (g := gb314) (o := .cells #[.int .i64 a0_0, .slice A0_1 l0_1.length c0_1] 41 (0, 0)) (bk BK314)) : gb314 ≠ gb315)); have n6_ := Aside0.mk ((by rw [hg]; exact Nat.ne_of_gt (blk_lt (g := gb314) (o := .cells #[.int .i64 a0_0, .slice A0_1 l0_1.length c0_1] 41 (0, 0)) (bk BK314)) : gb315 ≠ gb314)); clear BK314; clear HB; have BK314 := n0_; have HB := n1_; have BK315 := n2_; have GW315 := n3_; have GE315 := n4_; have NB314_315 := n5_; have NB315_314 := n6_; clear n0_ n1_ n2_ n3_ n4_ n5_ n6_; clear hb hbox hg) | ((with_reducible refine gate_callee (f := 51) rfl ?_); refine goesL_ (some 12) rfl rfl Try.func51 (by kernel_rfl) rfl #[.int .i64 a2] rfl ma ?_; (with_reducible refine (impl_zeroBits.calls a2 t316 t317 _ A4.out).mono ?_); rintro e w7 ⟨v318, rfl, ho0, hb⟩; refine ⟨_, rfl, ?_⟩; have n0_ := Aside0.mk (Kd.R_lower ho0 (below_size (bs2 HB GE314 GE315))); have n1_ := Aside0.mk (blk_below (g := gb314) (o := .cells #[.int .i64 a0_0, .slice A0_1 l0_1.length c0_1] 41 (0, 0)) (bk BK314) hb); have n2_ := Aside0.mk (blk_below (g := gb315) (o := .cells #[.int .i64 0, .slice none 0 0] 41 (0, 0)) (bk BK315) hb); have n3_ := Aside0.mk (below_step (bs2 HB GE314 GE315) hb); clear BK314; clear BK315; clear HB; have HO319 := n0_; have BK314 := n1_; have BK315 := n2_; have HB := n3_; clear n0_ n1_ n2_ n3_; (try clear hb); (try clear hb2); (try clear hk); (try clear hi); (try clear ho0)) | ((with_reducible refine gate_dst (N := 7) rfl ?_); (try (refine gate_guard (by rfl) ?_; dsimp only)); refine box_event ?hg (N := 7) ?hd (cs := #[.int .i64 0, .slice none 0 0]) (t := 41) ?hr ?_; (case hd => rfl); (case hg => rfl); (case hr => first | (go_simp; done) | (go_simp; rfl)); intro gb320 hg w8 hbox hb; have n0_ := Aside0.mk (Kd.R_below (rl HO319) hb); have n1_ := Aside0.mk (blk_below (g := gb314) (o := .cells #[.int .i64 a0_0, .slice A0_1 l0_1.length c0_1] 41 (0, 0)) (bk BK314) hb); have n2_ := Aside0.mk (blk_below (g := gb315) (o := .cells #[.int .i64 0, .slice none 0 0] 41 (0, 0)) (bk BK315) hb); have n3_ := Aside0.mk (below_step (bs2 HB GE314 GE315) hb); have n4_ := Aside0.mk (hbox); have n5_ := Aside0.mk ((by rw [hg]; exact (below_size (bs2 HB GE314 GE315)) : w.heap.size ≤ gb320)); have n6_ := Aside0.mk ((by rw [hg]; exact (below_size (bs2 HB GE314 GE315)) : w.heap.size ≤ gb320)); have n7_ := Aside0.mk ((by rw [hg]; exact Nat.ne_of_lt (blk_lt (g := gb314) (o := .cells #[.int .i64 a0_0, .slice A0_1 l0_1.length c0_1] 41 (0, 0)) (bk BK314)) : gb314 ≠ gb320)); have n8_ := Aside0.mk ((by rw [hg]; exact Nat.ne_of_gt (blk_lt (g := gb314) (o := .cells #[.int .i64 a0_0, .slice A0_1 l0_1.length c0_1] 41 (0, 0)) (bk BK314)) : gb320 ≠ gb314)); have n9_ := Aside0.mk ((by rw [hg]; exact Nat.ne_of_lt (blk_lt (g := gb315) (o := .cells #[.int .i64 0, .slice none 0 0] 41 (0, 0)) (bk BK315)) : gb315 ≠ gb320)); have n10_ := Aside0.mk ((by rw [hg]; exact Nat.ne_of_gt (blk_lt (g := gb315) (o := .cells #[.int .i64 0, .slice none 0 0] 41 (0, 0)) (bk BK315)) : gb320 ≠ gb315)); clear HO319; clear BK314; clear BK315; clear HB; have HO319 := n0_; have BK314 := n1_; have BK315 := n2_; have HB := n3_; have BK320 := n4_; have GW320 := n5_; have GE320 := n6_; have NB314_320 := n7_; have NB320_314 := n8_; have NB315_320 := n9_; have NB320_315 := n10_; clear n0_ n1_ n2_ n3_ n4_ n5_ n6_ n7_ n8_ n9_ n10_; clear hb hbox hg; have hnb9 := NB320_314.out; have hnc9 := NB314_320.out; have hnb10 := NB320_315.out; have hnc10 := NB315_320.out; have hcz11_0 : w8.cell? ⟨gb320, 0, none⟩ = some (.int .i64 0) := (blk_cell BK320.out 0).trans rfl; have hcz11_1 : w8.cell? ⟨gb320, 1, none⟩ = some (.slice none 0 0) := (blk_cell BK320.out 1).trans rfl; have hfz11_0 := blk_frozen BK320.out 0; have hfz11_1 := blk_frozen BK320.out 1; obtain ⟨Ao12, co12, eo12⟩ := Kd.R_slice HO319.out; subst eo12))
 go_loopg [16] k (fun kq v16 w' => ∃ (x16_1 : Int) (x321001_1 : List Int) (u321001 : Value), v16 = .int .i64 x16_1 ∧ Aside0 (impl_Bits_cut.l0 kq a1 a2 (t317.length : Int) x16_1 a0_0 l0_1 t316 x321001_1 = some (r1, r2)) ∧ Aside0 (kq ≤ k) ∧ Aside0 (Kd.R (Kd.int .u64) 93 w' w.heap.size (fun _ => True) u321001 x321001_1) ∧ Aside0 (w'.heap[gb314]? = some (.cells #[.int .i64 a0_0, (.slice A0_1 l0_1.length c0_1)] 41 (0, 0))) ∧ Aside0 (w'.heap[gb315]? = some (.cells #[.int .i64 0, (.slice none 0 0)] 41 (0, 0))) ∧ Aside0 (w'.heap[gb320]? = some (.cells #[.int .i64 t316, u321001] 41 (0, 0))) ∧ Aside0 (Below w.heap.size w w'))
 case atStart => exact ⟨(0), (t317), (.slice Ao12 t317.length co12), au, H', ⟨Nat.le_refl _⟩, ⟨by (with_reducible repeat (first | apply Kd.R_alloc | apply Kd.R_drewN | apply Kd.R_drew)); exact Kd.R_mono (Kd.R_far (p := ⟨gb320, 1, none⟩) (Kd.R_far (p := ⟨gb320, 0, none⟩) (Kd.R_types HO319.out BK320.out (by decide)) (fun _ hk => hk.2) (.int .i64 t316)) (fun _ hk => hk.2) (.slice Ao12 t317.length co12)) (fun _ hk => trivial)⟩, ⟨by (with_reducible repeat (first | refine blk_drewN ?_ _ | refine blk_drew ?_ | refine blk_alloc ?_ _)); refine blk_far ?_ NB314_320.out _; (with_reducible repeat (first | refine blk_drewN ?_ _ | refine blk_drew ?_ | refine blk_alloc ?_ _)); refine blk_far ?_ NB314_320.out _; (with_reducible repeat (first | refine blk_drewN ?_ _ | refine blk_drew ?_ | refine blk_alloc ?_ _)); exact BK314.out⟩, ⟨by (with_reducible repeat (first | refine blk_drewN ?_ _ | refine blk_drew ?_ | refine blk_alloc ?_ _)); refine blk_far ?_ NB315_320.out _; (with_reducible repeat (first | refine blk_drewN ?_ _ | refine blk_drew ?_ | refine blk_alloc ?_ _)); refine blk_far ?_ NB315_320.out _; (with_reducible repeat (first | refine blk_drewN ?_ _ | refine blk_drew ?_ | refine blk_alloc ?_ _)); exact BK315.out⟩, ⟨by (with_reducible repeat (first | refine blk_drewN ?_ _ | refine blk_drew ?_ | refine blk_alloc ?_ _)); refine blk_put (cs := #[.int .i64 t316, .slice none 0 0]) ?_ 1 _ rfl; (with_reducible repeat (first | refine blk_drewN ?_ _ | refine blk_drew ?_ | refine blk_alloc ?_ _)); refine blk_put (cs := #[.int .i64 0, .slice none 0 0]) ?_ 0 _ rfl; (with_reducible repeat (first | refine blk_drewN ?_ _ | refine blk_drew ?_ | refine blk_alloc ?_ _)); exact BK320.out⟩, ⟨bs3 HB GE314 GE315 GE320⟩⟩
 case round =>
  clear H'
  try clear c1
  try clear p2
  try clear c5
  try clear c9
  try clear c10
  try clear hcz11_0
  try clear hcz11_1
  try clear hfz11_0
  try clear hfz11_1
  obtain ⟨x16_1, x321001_1, u321001, rfl, HA, HK1, HO_321001, BK314, BK315, BK320, HB⟩ := hrel
  cases gk with
  | zero => exact absurd HA.out (by simp [impl_Bits_cut.l0])
  | succ k1 =>
   have H := HA.out; clear HA
   simp only [impl_Bits_cut.l0] at H
   by_cases c13 : x16_1 < (t317.length : Int)
   ·rw [if_pos c13] at H
    have c13b0 : decide (x16_1 < (t317.length : Int)) = true := decide_eq_true c13; clear c13; obtain ⟨ji14, hji14⟩ : ∃ j_ : Int, (wrap64 (Int.tdiv (wrap64 (a1 + (wrap64 (64 * x16_1)))) 64)) = j_ := ⟨_, rfl⟩
    replace H : (if 0 ≤ (ji14) then (if (ji14) < (l0_1.length : Int) then (if 0 ≤ (Int.tmod (wrap64 (a1 + (wrap64 (64 * x16_1)))) 64) then (if 0 ≤ x16_1 then (if x16_1 < (x321001_1.length : Int) then ((some (x321001_1.set (x16_1 : Int).toNat (shr .u64 (rd l0_1 (ji14)) (Int.tmod (wrap64 (a1 + (wrap64 (64 * x16_1)))) 64)) : List Int)).bind fun y322 => (if (Int.tmod (wrap64 (a1 + (wrap64 (64 * x16_1)))) 64) = 0 then (impl_Bits_cut.l0 k1 a1 a2 (t317.length : Int) (wrap64 (x16_1 + 1)) a0_0 l0_1 t316 y322) else (if (wrap64 ((ji14) + 1)) < (l0_1.length : Int) then (if 0 ≤ (wrap64 ((ji14) + 1)) then (if 0 ≤ (wrap64 (64 - (Int.tmod (wrap64 (a1 + (wrap64 (64 * x16_1)))) 64))) then (impl_Bits_cut.l0 k1 a1 a2 (t317.length : Int) (wrap64 (x16_1 + 1)) a0_0 l0_1 t316 (y322.set (x16_1 : Int).toNat (Go.bits .or .u64 (rd y322 x16_1) (shl .u64 (rd l0_1 (wrap64 ((ji14) + 1))) (wrap64 (64 - (Int.tmod (wrap64 (a1 + (wrap64 (64 * x16_1)))) 64))))))) else (none)) else (none)) else (impl_Bits_cut.l0 k1 a1 a2 (t317.length : Int) (wrap64 (x16_1 + 1)) a0_0 l0_1 t316 y322)))) else (none)) else (none)) else (none)) else (none)) else (none)) = some (r1, r2) := by first | (rw [hji14] at H; exact H) | (simp only [hji14] at H ⊢; exact H)
    have hji14w : (IntKind.i64.wrap (Int.tdiv (wrap64 (a1 + (wrap64 (64 * x16_1)))) 64)) = ji14 := (i64_w _).trans hji14
    by_cases c15 : 0 ≤ (ji14)
    ·rw [if_pos c15] at H
     have c15b0 : decide (0 ≤ (ji14)) = true := decide_eq_true c15; clear c15
     by_cases c16 : (ji14) < (l0_1.length : Int)
     ·rw [if_pos c16] at H
      have c16b0 : decide ((ji14) < (l0_1.length : Int)) = true := decide_eq_true c16; clear c16; obtain ⟨ji17, hji17⟩ : ∃ j_ : Int, (Int.tmod (wrap64 (a1 + (wrap64 (64 * x16_1)))) 64) = j_ := ⟨_, rfl⟩
      replace H : (if 0 ≤ (ji17) then (if 0 ≤ x16_1 then (if x16_1 < (x321001_1.length : Int) then ((some (x321001_1.set (x16_1 : Int).toNat (shr .u64 (rd l0_1 (ji14)) (ji17)) : List Int)).bind fun y322 => (if (ji17) = 0 then (impl_Bits_cut.l0 k1 a1 a2 (t317.length : Int) (wrap64 (x16_1 + 1)) a0_0 l0_1 t316 y322) else (if (wrap64 ((ji14) + 1)) < (l0_1.length : Int) then (if 0 ≤ (wrap64 ((ji14) + 1)) then (if 0 ≤ (wrap64 (64 - (ji17))) then (impl_Bits_cut.l0 k1 a1 a2 (t317.length : Int) (wrap64 (x16_1 + 1)) a0_0 l0_1 t316 (y322.set (x16_1 : Int).toNat (Go.bits .or .u64 (rd y322 x16_1) (shl .u64 (rd l0_1 (wrap64 ((ji14) + 1))) (wrap64 (64 - (ji17))))))) else (none)) else (none)) else (impl_Bits_cut.l0 k1 a1 a2 (t317.length : Int) (wrap64 (x16_1 + 1)) a0_0 l0_1 t316 y322)))) else (none)) else (none)) else (none)) = some (r1, r2) := by first | (rw [hji17] at H; exact H) | (simp only [hji17] at H ⊢; exact H)
      by_cases c18 : 0 ≤ (ji17)
      ·rw [if_pos c18] at H
       have c18b0 := eq_true c18; have c18b1 : decide (0 ≤ (ji17)) = true := decide_eq_true c18; clear c18; obtain ⟨ji19, hji19⟩ : ∃ j_ : Int, (shr .u64 (rd l0_1 (ji14)) (ji17)) = j_ := ⟨_, rfl⟩
       replace H : (if 0 ≤ x16_1 then (if x16_1 < (x321001_1.length : Int) then ((some (x321001_1.set (x16_1 : Int).toNat (ji19) : List Int)).bind fun y322 => (if (ji17) = 0 then (impl_Bits_cut.l0 k1 a1 a2 (t317.length : Int) (wrap64 (x16_1 + 1)) a0_0 l0_1 t316 y322) else (if (wrap64 ((ji14) + 1)) < (l0_1.length : Int) then (if 0 ≤ (wrap64 ((ji14) + 1)) then (if 0 ≤ (wrap64 (64 - (ji17))) then (impl_Bits_cut.l0 k1 a1 a2 (t317.length : Int) (wrap64 (x16_1 + 1)) a0_0 l0_1 t316 (y322.set (x16_1 : Int).toNat (Go.bits .or .u64 (rd y322 x16_1) (shl .u64 (rd l0_1 (wrap64 ((ji14) + 1))) (wrap64 (64 - (ji17))))))) else (none)) else (none)) else (impl_Bits_cut.l0 k1 a1 a2 (t317.length : Int) (wrap64 (x16_1 + 1)) a0_0 l0_1 t316 y322)))) else (none)) else (none)) = some (r1, r2) := by first | (rw [hji19] at H; exact H) | (simp only [hji19] at H ⊢; exact H)
       have hji19_ : ((rd l0_1 (ji14)) / 2 ^ min (ji17).toNat 64) = ji19 := hji19; have hji19z : (ji17) ≤ 64 → ((rd l0_1 (ji14)) / 2 ^ (ji17).toNat) = ji19 := shr_small hji19
       (try have hji19k := hji19z (by first | omega | (rw [← hji17]; exact Int.le_of_lt (Int.tmod_lt_of_pos _ (by decide)))))
       by_cases c20 : 0 ≤ x16_1
       ·rw [if_pos c20] at H
        have c20b0 : decide (0 ≤ x16_1) = true := decide_eq_true c20; clear c20
        by_cases c21 : x16_1 < (x321001_1.length : Int)
        ·rw [if_pos c21] at H
         have c21b0 : decide (x16_1 < (x321001_1.length : Int)) = true := decide_eq_true c21; clear c21; obtain ⟨y322, hy322⟩ : ∃ y_ : List Int, y_ = (x321001_1.set (x16_1 : Int).toNat (ji19)) := ⟨_, rfl⟩
         replace H : (if (ji17) = 0 then (impl_Bits_cut.l0 k1 a1 a2 (t317.length : Int) (wrap64 (x16_1 + 1)) a0_0 l0_1 t316 y322) else (if (wrap64 ((ji14) + 1)) < (l0_1.length : Int) then (if 0 ≤ (wrap64 ((ji14) + 1)) then (if 0 ≤ (wrap64 (64 - (ji17))) then (impl_Bits_cut.l0 k1 a1 a2 (t317.length : Int) (wrap64 (x16_1 + 1)) a0_0 l0_1 t316 (y322.set (x16_1 : Int).toNat (Go.bits .or .u64 (rd y322 x16_1) (shl .u64 (rd l0_1 (wrap64 ((ji14) + 1))) (wrap64 (64 - (ji17))))))) else (none)) else (none)) else (impl_Bits_cut.l0 k1 a1 a2 (t317.length : Int) (wrap64 (x16_1 + 1)) a0_0 l0_1 t316 y322))) = some (r1, r2) := by first | (rw [hy322]; with_reducible exact H) | (have H2_ := (Option.bind_some _ _).symm.trans H; rw [hy322]; with_reducible exact H2_) | (have H2_ := (Option.bind_some _ _).symm.trans H; with_reducible exact H2_) | with_reducible exact H | (rw [hy322]; exact H) | exact H
         have Ny322 := Aside0.mk hy322; clear hy322
         by_cases c23 : (ji17) = 0
         ·rw [if_pos c23] at H
          have c23b0 : ((ji17) == 0) = true := beq_iff_eq.mpr c23; have c23b1 : ((ji17) != 0) = false := bne_eq_false_iff_eq.mpr c23; clear c23; have H' := Aside0.mk H; clear H
          try go_wp2
          have n0_ := Aside0.mk (Kd.R_drew HO_321001.out); have n1_ := Aside0.mk (blk_drew BK314.out); have n2_ := Aside0.mk (blk_drew BK315.out); have n3_ := Aside0.mk (blk_drew BK320.out); have n4_ := Aside0.mk (below_drew1 HB.out); clear HO_321001; clear BK314; clear BK315; clear BK320; clear HB; have HO_321001 := n0_; have BK314 := n1_; have BK315 := n2_; have BK320 := n3_; have HB := n4_; clear n0_ n1_ n2_ n3_ n4_; have p321 : 0 ≤ ((ji14) : Int) := ode; have q321 : (ji14) < (l0_1.length : Int) := ode; obtain ⟨ad321, e321, hx321_0⟩ := Kd.at_int HR0_1.out (ji14) p321 q321; have hw321_0 := hx321_0
          cases e321
          replace hx321_0 := cl HB hx321_0; replace p321 := eq_true p321; replace q321 := eq_true q321; have p22 : 0 ≤ (x16_1 : Int) := ode; have q22 : (x16_1 : Int) < ((x321001_1.length : Int) : Int) := ode; obtain ⟨go22, co22, eo22, gb22, gl22, cl22, HG22⟩ := Kd.R_form HO_321001.out (by omega)
          (first | cases eo22 | (injection eo22 with ea_ en_ ec_; (first | subst ea_ | (injection ea_ with ea_; subst ea_)); subst ec_; clear en_))
          have GB22 := Aside0.mk gb22; have GG22 := Aside0.mk HG22; clear gb22 gl22 HG22; obtain ⟨hx22_0, hf22_0⟩ := Kd.R_celln 0 HO_321001.out (x16_1 : Int) p22 q22; replace p22 := eq_true p22; replace q22 := eq_true q22; have HP25 := Kd.R_putn HO_321001.out (x16_1 : Int) ji19; rw [← Ny322.out] at HP25; have HQ25 := Aside0.mk HP25; clear HP25; refine start_ (n := 14) (S := fun w' => w'.cell? ⟨gb320, 0, none⟩ = some (.int .i64 t316) ∧ w'.cell? ⟨gb320, 1, none⟩ = some (.slice (some ⟨go22, 0, none⟩) x321001_1.length co22) ∧ w'.cell? ⟨gb314, 0, none⟩ = some (.int .i64 a0_0) ∧ w'.cell? ⟨gb314, 1, none⟩ = some (.slice (some ad321) l0_1.length c0_1) ∧ w'.cell? (ad321.add ((ji14)).toNat) = some (.int .u64 (rd l0_1 (ji14)))) (ds := [13]) #[false, false, false, false, false, false, false, false, false, false, false, false, false, false] (by kernel_rfl) rfl rfl ⟨(blk_cell BK320.out 0).trans rfl, (blk_cell BK320.out 1).trans rfl, (blk_cell BK314.out 0).trans rfl, (blk_cell BK314.out 1).trans rfl, ((HB.out.cell (World.block_lt_of_cell? w _ hw321_0)).trans hw321_0)⟩ (fun hHeld => ?_); refine with_tabW impl_Bits_cut.tab6 impl_Bits_cut.bits6 (fun HT_ HW_ => ?_); generalize wr.drew = w24 at HO_321001 BK314 BK315 BK320 HB GG22 HQ25 hf22_0 hx22_0 hx321_0 hHeld ⊢; refine pu HT_ 0 23 13 ?_; refine pure_ (i := 2) (N := some 25) (v := ?_) (a' := ?_) #[true, false, true, false, false, false, false, false, false, false, false, false, false, false] rfl rfl (any_of HT_.out (by kernel_rfl)) (fun _ _ _ h => h) (Or.inl ⟨by rfl, ?_⟩) ?_ ?_
          rotate_left
          ·intro w'
           go_simp
           with_reducible rfl
          rotate_left
          ·simp only [Act.put, List.setIfInBounds_toArray, List.set_cons_zero, List.set_cons_succ, i64_w, i32_w]
           rfl
          refine pure_ (i := 3) (N := some 26) (v := ?_) (a' := ?_) #[true, false, true, true, false, false, false, false, false, false, false, false, false, false] rfl rfl (any_of HT_.out (by kernel_rfl)) (fun _ _ _ h => h) (Or.inl ⟨by rfl, ?_⟩) ?_ ?_
          rotate_left
          ·intro w'
           go_simp
           with_reducible rfl
          rotate_left
          ·simp only [Act.put, List.setIfInBounds_toArray, List.set_cons_zero, List.set_cons_succ, i64_w, i32_w]
           rfl
          refine pure_ (i := 5) (N := some 28) (v := ?_) (a' := ?_) #[true, false, true, true, false, true, false, false, false, false, false, false, false, false] rfl rfl (any_of HT_.out (by kernel_rfl)) (fun _ _ _ h => h) (Or.inl ⟨by rfl, ?_⟩) ?_ ?_
          rotate_left
          ·intro w'
           go_simp
           with_reducible rfl
          rotate_left
          ·simp only [Act.put, List.setIfInBounds_toArray, List.set_cons_zero, List.set_cons_succ, i64_w, i32_w]
           rfl
          refine pure_ (i := 6) (N := some 29) (v := ?_) (a' := ?_) #[true, false, true, true, false, true, true, false, false, false, false, false, false, false] rfl rfl (any_of HT_.out (by kernel_rfl)) (fun _ _ _ h => h) (Or.inl ⟨by rfl, ?_⟩) ?_ ?_
          rotate_left
          ·intro w'
           go_simp
           with_reducible rfl
          rotate_left
          ·simp only [Act.put, List.setIfInBounds_toArray, List.set_cons_zero, List.set_cons_succ, i64_w, i32_w]
           rfl
          refine pure_ (i := 9) (N := some 32) (v := ?_) (a' := ?_) #[true, false, true, true, false, true, true, false, false, true, false, false, false, false] rfl rfl (any_of HT_.out (by kernel_rfl)) (fun _ _ _ h => h) (Or.inl ⟨by rfl, ?_⟩) ?_ ?_
          rotate_left
          ·intro w'
           go_simp
           with_reducible rfl
          rotate_left
          ·simp only [Act.put, List.setIfInBounds_toArray, List.set_cons_zero, List.set_cons_succ, i64_w, i32_w]
           rfl
          refine pure_ (i := 10) (N := some 33) (v := ?_) (a' := ?_) #[true, false, true, true, false, true, true, false, false, true, true, false, false, false] rfl rfl (any_of HT_.out (by kernel_rfl)) (fun _ _ _ h => h) (Or.inl ⟨by rfl, ?_⟩) ?_ ?_
          rotate_left
          ·intro w'
           go_simp
           with_reducible rfl
          rotate_left
          ·simp only [Act.put, List.setIfInBounds_toArray, List.set_cons_zero, List.set_cons_succ, i64_w, i32_w]
           rfl
          refine take_ (i := 1) (N := some 24) (v := ?_) (a' := ?_) #[true, true, true, true, false, true, true, false, false, true, true, false, false, false] rfl rfl (take_ofW HT_.out HW_.out (by kernel_rfl)) (fun _ _ _ h => h) (Or.inl ⟨by rfl, ?_⟩) hHeld ?_ ?_
          rotate_left
          ·rintro w' ⟨s0, s1, s2, s3, s4⟩
           go_simp
           with_reducible rfl
          rotate_left
          ·simp only [Act.put, List.setIfInBounds_toArray, List.set_cons_zero, List.set_cons_succ, i64_w, i32_w]
           rfl
          refine take_ (i := 4) (N := some 27) (v := ?_) (a' := ?_) #[true, true, true, true, true, true, true, false, false, true, true, false, false, false] rfl rfl (take_ofW HT_.out HW_.out (by kernel_rfl)) (fun _ _ _ h => h) (Or.inl ⟨by rfl, ?_⟩) hHeld ?_ ?_
          rotate_left
          ·rintro w' ⟨s0, s1, s2, s3, s4⟩
           go_simp
           with_reducible rfl
          rotate_left
          ·simp only [Act.put, List.setIfInBounds_toArray, List.set_cons_zero, List.set_cons_succ, i64_w, i32_w]
           rfl
          refine pure_ (i := 7) (N := some 30) (v := ?_) (a' := ?_) #[true, true, true, true, true, true, true, true, false, true, true, false, false, false] rfl rfl (any_of HT_.out (by kernel_rfl)) (fun _ _ _ h => h) (Or.inl ⟨by rfl, ?_⟩) ?_ ?_
          rotate_left
          ·intro w'
           go_simp
           with_reducible rfl
          rotate_left
          ·simp only [Act.put, List.setIfInBounds_toArray, List.set_cons_zero, List.set_cons_succ, i64_w, i32_w]
           rfl
          refine take_ (i := 8) (N := some 31) (v := ?_) (a' := ?_) #[true, true, true, true, true, true, true, true, true, true, true, false, false, false] rfl rfl (take_ofW HT_.out HW_.out (by kernel_rfl)) (fun _ _ _ h => h) (Or.inl ⟨by rfl, ?_⟩) hHeld ?_ ?_
          rotate_left
          ·rintro w' ⟨s0, s1, s2, s3, s4⟩
           go_simp
           with_reducible rfl
          rotate_left
          ·simp only [Act.put, List.setIfInBounds_toArray, List.set_cons_zero, List.set_cons_succ, i64_w, i32_w]
           rfl
          refine pu HT_ 11 34 2 ?_; refine pu HT_ 12 35 1 ?_; refine last_ (i := 13) (N := none) #[true, true, true, true, true, true, true, true, true, true, true, true, true, true] rfl rfl (one_of HT_.out (by kernel_rfl)) (by decide) (fun K hK => ?_); refine skip_ (w1 := ?_) (by rfl) rfl ?_ ?_
          rotate_left
          ·go_simp
           rfl
          refine hK.out _ _ ?_; clear hK K; refine done_ (done_of HT_.out (by kernel_rfl)) ?_
          try go_wp2
          go_roundg k1
          case measure => have := HK1.out; omega
          case rel => exact ⟨(wrap64 (x16_1 + 1)), (y322), (.slice (some ⟨go22, 0, none⟩) x321001_1.length co22), au, H', ⟨by have := HK1.out; omega⟩, ⟨rl HQ25⟩, ⟨by (with_reducible repeat (first | refine blk_drewN ?_ _ | refine blk_drew ?_ | refine blk_alloc ?_ _)); refine blk_far ?_ (by have h_ := Kd.R_ne HO_321001.out BK314.out (by decide); intro e_; exact h_ (by rw [e_]; rfl)) _; (with_reducible repeat (first | refine blk_drewN ?_ _ | refine blk_drew ?_ | refine blk_alloc ?_ _)); exact BK314.out⟩, ⟨by (with_reducible repeat (first | refine blk_drewN ?_ _ | refine blk_drew ?_ | refine blk_alloc ?_ _)); refine blk_far ?_ (by have h_ := Kd.R_ne HO_321001.out BK315.out (by decide); intro e_; exact h_ (by rw [e_]; rfl)) _; (with_reducible repeat (first | refine blk_drewN ?_ _ | refine blk_drew ?_ | refine blk_alloc ?_ _)); exact BK315.out⟩, ⟨by (with_reducible repeat (first | refine blk_drewN ?_ _ | refine blk_drew ?_ | refine blk_alloc ?_ _)); refine blk_far ?_ (by have h_ := Kd.R_ne HO_321001.out BK320.out (by decide); intro e_; exact h_ (by rw [e_]; rfl)) _; (with_reducible repeat (first | refine blk_drewN ?_ _ | refine blk_drew ?_ | refine blk_alloc ?_ _)); exact BK320.out⟩, ⟨by repeat (first | (with_reducible first | exact HB.out | apply below_alloc | apply pw_below_drewN | apply below_drew1 | refine below_set ?_ GB22.out | refine below_set ?_ GE314.out | refine below_set ?_ GE315.out | refine below_set ?_ GE320.out) | exact HB.out)⟩⟩
         ·rw [if_neg c23] at H
          have c23b0 : ((ji17) == 0) = false := beq_eq_false_iff_ne.mpr c23; have c23b1 : ((ji17) != 0) = true := bne_iff_ne.mpr c23
          by_cases c26 : (wrap64 ((ji14) + 1)) < (l0_1.length : Int)
          ·rw [if_pos c26] at H
           have c26b0 : decide ((wrap64 ((ji14) + 1)) < (l0_1.length : Int)) = true := decide_eq_true c26; clear c26; obtain ⟨ji27, hji27⟩ : ∃ j_ : Int, (wrap64 ((ji14) + 1)) = j_ := ⟨_, rfl⟩
           replace H : (if 0 ≤ (ji27) then (if 0 ≤ (wrap64 (64 - (ji17))) then (impl_Bits_cut.l0 k1 a1 a2 (t317.length : Int) (wrap64 (x16_1 + 1)) a0_0 l0_1 t316 (y322.set (x16_1 : Int).toNat (Go.bits .or .u64 (rd y322 x16_1) (shl .u64 (rd l0_1 (ji27)) (wrap64 (64 - (ji17))))))) else (none)) else (none)) = some (r1, r2) := by first | (rw [hji27] at H; exact H) | (simp only [hji27] at H ⊢; exact H)
           (try rw [hji27] at c26b0)
           have hji27w : (IntKind.i64.wrap ((ji14) + 1)) = ji27 := (i64_w _).trans hji27
           by_cases c28 : 0 ≤ (ji27)
           ·rw [if_pos c28] at H
            have c28b0 : decide (0 ≤ (ji27)) = true := decide_eq_true c28; clear c28; obtain ⟨ji29, hji29⟩ : ∃ j_ : Int, (wrap64 (64 - (ji17))) = j_ := ⟨_, rfl⟩
            replace H : (if 0 ≤ (ji29) then (impl_Bits_cut.l0 k1 a1 a2 (t317.length : Int) (wrap64 (x16_1 + 1)) a0_0 l0_1 t316 (y322.set (x16_1 : Int).toNat (Go.bits .or .u64 (rd y322 x16_1) (shl .u64 (rd l0_1 (ji27)) (ji29))))) else (none)) = some (r1, r2) := by first | (rw [hji29] at H; exact H) | (simp only [hji29] at H ⊢; exact H)
            have hji29w : (IntKind.i64.wrap (64 - (ji17))) = ji29 := (i64_w _).trans hji29
            by_cases c30 : 0 ≤ (ji29)
            ·rw [if_pos c30] at H
             have c30b0 := eq_true c30; have c30b1 : decide (0 ≤ (ji29)) = true := decide_eq_true c30; clear c30; obtain ⟨ji31, hji31⟩ : ∃ j_ : Int, (shl .u64 (rd l0_1 (ji27)) (ji29)) = j_ := ⟨_, rfl⟩
             replace H : (impl_Bits_cut.l0 k1 a1 a2 (t317.length : Int) (wrap64 (x16_1 + 1)) a0_0 l0_1 t316 (y322.set (x16_1 : Int).toNat (Go.bits .or .u64 (rd y322 x16_1) (ji31)))) = some (r1, r2) := by first | (rw [hji31] at H; exact H) | (simp only [hji31] at H ⊢; exact H)
             have hji31_ : (IntKind.u64.wrap ((rd l0_1 (ji27)) * 2 ^ min (ji29).toNat 64)) = ji31 := hji31; have hji31z : (ji29) ≤ 64 → (IntKind.u64.wrap ((rd l0_1 (ji27)) * 2 ^ (ji29).toNat)) = ji31 := shl_small hji31
             (try have hji31k := hji31z (by first | omega | (rw [← hji29]; exact Int.le_of_lt (Int.tmod_lt_of_pos _ (by decide))) | (rw [← hji29]; unfold wrap64; have e_ : 0 ≤ (ji17) := of_decide_eq_true (by assumption); have f_ : (ji17) ≤ 64 := (by rw [← hji17]; exact Int.le_of_lt (Int.tmod_lt_of_pos _ (by decide))); omega)))
             obtain ⟨y325, hy325⟩ : ∃ y_ : List Int, y_ = (y322.set (x16_1 : Int).toNat (Go.bits .or .u64 (rd y322 x16_1) (ji31))) := ⟨_, rfl⟩
             replace H : (impl_Bits_cut.l0 k1 a1 a2 (t317.length : Int) (wrap64 (x16_1 + 1)) a0_0 l0_1 t316 y325) = some (r1, r2) := by first | (rw [hy325]; with_reducible exact H) | (have H2_ := (Option.bind_some _ _).symm.trans H; rw [hy325]; with_reducible exact H2_) | (have H2_ := (Option.bind_some _ _).symm.trans H; with_reducible exact H2_) | with_reducible exact H | (rw [hy325]; exact H) | exact H
             have Ny325 := Aside0.mk hy325; clear hy325; have H' := Aside0.mk H; clear H
             try go_wp2
             have n0_ := Aside0.mk (Kd.R_drew HO_321001.out); have n1_ := Aside0.mk (blk_drew BK314.out); have n2_ := Aside0.mk (blk_drew BK315.out); have n3_ := Aside0.mk (blk_drew BK320.out); have n4_ := Aside0.mk (below_drew1 HB.out); clear HO_321001; clear BK314; clear BK315; clear BK320; clear HB; have HO_321001 := n0_; have BK314 := n1_; have BK315 := n2_; have BK320 := n3_; have HB := n4_; clear n0_ n1_ n2_ n3_ n4_; have p321 : 0 ≤ ((ji14) : Int) := ode; have q321 : (ji14) < (l0_1.length : Int) := ode; obtain ⟨ad321, e321, hx321_0⟩ := Kd.at_int HR0_1.out (ji14) p321 q321; have hw321_0 := hx321_0
             cases e321
             replace hx321_0 := cl HB hx321_0; replace p321 := eq_true p321; replace q321 := eq_true q321; have p22 : 0 ≤ (x16_1 : Int) := ode; have q22 : (x16_1 : Int) < ((x321001_1.length : Int) : Int) := ode; obtain ⟨go22, co22, eo22, gb22, gl22, cl22, HG22⟩ := Kd.R_form HO_321001.out (by omega)
             (first | cases eo22 | (injection eo22 with ea_ en_ ec_; (first | subst ea_ | (injection ea_ with ea_; subst ea_)); subst ec_; clear en_))
             have GB22 := Aside0.mk gb22; have GG22 := Aside0.mk HG22; clear gb22 gl22 HG22; obtain ⟨hx22_0, hf22_0⟩ := Kd.R_celln 0 HO_321001.out (x16_1 : Int) p22 q22; replace p22 := eq_true p22; replace q22 := eq_true q22; have HP34 := Kd.R_putn HO_321001.out (x16_1 : Int) ji19; rw [← Ny322.out] at HP34; have HQ34 := Aside0.mk HP34; clear HP34; refine start_ (n := 14) (S := fun w' => w'.cell? ⟨gb320, 0, none⟩ = some (.int .i64 t316) ∧ w'.cell? ⟨gb320, 1, none⟩ = some (.slice (some ⟨go22, 0, none⟩) x321001_1.length co22) ∧ w'.cell? ⟨gb314, 0, none⟩ = some (.int .i64 a0_0) ∧ w'.cell? ⟨gb314, 1, none⟩ = some (.slice (some ad321) l0_1.length c0_1) ∧ w'.cell? (ad321.add ((ji14)).toNat) = some (.int .u64 (rd l0_1 (ji14)))) (ds := [13]) #[false, false, false, false, false, false, false, false, false, false, false, false, false, false] (by kernel_rfl) rfl rfl ⟨(blk_cell BK320.out 0).trans rfl, (blk_cell BK320.out 1).trans rfl, (blk_cell BK314.out 0).trans rfl, (blk_cell BK314.out 1).trans rfl, ((HB.out.cell (World.block_lt_of_cell? w _ hw321_0)).trans hw321_0)⟩ (fun hHeld => ?_); refine with_tabW impl_Bits_cut.tab6 impl_Bits_cut.bits6 (fun HT_ HW_ => ?_); generalize wr.drew = w33 at HO_321001 BK314 BK315 BK320 HB GG22 HQ34 hf22_0 hx22_0 hx321_0 hHeld ⊢; refine pu HT_ 0 23 13 ?_; refine pure_ (i := 2) (N := some 25) (v := ?_) (a' := ?_) #[true, false, true, false, false, false, false, false, false, false, false, false, false, false] rfl rfl (any_of HT_.out (by kernel_rfl)) (fun _ _ _ h => h) (Or.inl ⟨by rfl, ?_⟩) ?_ ?_
             rotate_left
             ·intro w'
              go_simp
              with_reducible rfl
             rotate_left
             ·simp only [Act.put, List.setIfInBounds_toArray, List.set_cons_zero, List.set_cons_succ, i64_w, i32_w]
              rfl
             refine pure_ (i := 3) (N := some 26) (v := ?_) (a' := ?_) #[true, false, true, true, false, false, false, false, false, false, false, false, false, false] rfl rfl (any_of HT_.out (by kernel_rfl)) (fun _ _ _ h => h) (Or.inl ⟨by rfl, ?_⟩) ?_ ?_
             rotate_left
             ·intro w'
              go_simp
              with_reducible rfl
             rotate_left
             ·simp only [Act.put, List.setIfInBounds_toArray, List.set_cons_zero, List.set_cons_succ, i64_w, i32_w]
              rfl
             refine pure_ (i := 5) (N := some 28) (v := ?_) (a' := ?_) #[true, false, true, true, false, true, false, false, false, false, false, false, false, false] rfl rfl (any_of HT_.out (by kernel_rfl)) (fun _ _ _ h => h) (Or.inl ⟨by rfl, ?_⟩) ?_ ?_
             rotate_left
             ·intro w'
              go_simp
              with_reducible rfl
             rotate_left
             ·simp only [Act.put, List.setIfInBounds_toArray, List.set_cons_zero, List.set_cons_succ, i64_w, i32_w]
              rfl
             refine pure_ (i := 6) (N := some 29) (v := ?_) (a' := ?_) #[true, false, true, true, false, true, true, false, false, false, false, false, false, false] rfl rfl (any_of HT_.out (by kernel_rfl)) (fun _ _ _ h => h) (Or.inl ⟨by rfl, ?_⟩) ?_ ?_
             rotate_left
             ·intro w'
              go_simp
              with_reducible rfl
             rotate_left
             ·simp only [Act.put, List.setIfInBounds_toArray, List.set_cons_zero, List.set_cons_succ, i64_w, i32_w]
              rfl
             refine pure_ (i := 9) (N := some 32) (v := ?_) (a' := ?_) #[true, false, true, true, false, true, true, false, false, true, false, false, false, false] rfl rfl (any_of HT_.out (by kernel_rfl)) (fun _ _ _ h => h) (Or.inl ⟨by rfl, ?_⟩) ?_ ?_
             rotate_left
             ·intro w'
              go_simp
              with_reducible rfl
             rotate_left
             ·simp only [Act.put, List.setIfInBounds_toArray, List.set_cons_zero, List.set_cons_succ, i64_w, i32_w]
              rfl
             refine pure_ (i := 10) (N := some 33) (v := ?_) (a' := ?_) #[true, false, true, true, false, true, true, false, false, true, true, false, false, false] rfl rfl (any_of HT_.out (by kernel_rfl)) (fun _ _ _ h => h) (Or.inl ⟨by rfl, ?_⟩) ?_ ?_
             rotate_left
             ·intro w'
              go_simp
              with_reducible rfl
             rotate_left
             ·simp only [Act.put, List.setIfInBounds_toArray, List.set_cons_zero, List.set_cons_succ, i64_w, i32_w]
              rfl
             refine take_ (i := 1) (N := some 24) (v := ?_) (a' := ?_) #[true, true, true, true, false, true, true, false, false, true, true, false, false, false] rfl rfl (take_ofW HT_.out HW_.out (by kernel_rfl)) (fun _ _ _ h => h) (Or.inl ⟨by rfl, ?_⟩) hHeld ?_ ?_
             rotate_left
             ·rintro w' ⟨s0, s1, s2, s3, s4⟩
              go_simp
              with_reducible rfl
             rotate_left
             ·simp only [Act.put, List.setIfInBounds_toArray, List.set_cons_zero, List.set_cons_succ, i64_w, i32_w]
              rfl
             refine take_ (i := 4) (N := some 27) (v := ?_) (a' := ?_) #[true, true, true, true, true, true, true, false, false, true, true, false, false, false] rfl rfl (take_ofW HT_.out HW_.out (by kernel_rfl)) (fun _ _ _ h => h) (Or.inl ⟨by rfl, ?_⟩) hHeld ?_ ?_
             rotate_left
             ·rintro w' ⟨s0, s1, s2, s3, s4⟩
              go_simp
              with_reducible rfl
             rotate_left
             ·simp only [Act.put, List.setIfInBounds_toArray, List.set_cons_zero, List.set_cons_succ, i64_w, i32_w]
              rfl
             refine pure_ (i := 7) (N := some 30) (v := ?_) (a' := ?_) #[true, true, true, true, true, true, true, true, false, true, true, false, false, false] rfl rfl (any_of HT_.out (by kernel_rfl)) (fun _ _ _ h => h) (Or.inl ⟨by rfl, ?_⟩) ?_ ?_
             rotate_left
             ·intro w'
              go_simp
              with_reducible rfl
             rotate_left
             ·simp only [Act.put, List.setIfInBounds_toArray, List.set_cons_zero, List.set_cons_succ, i64_w, i32_w]
              rfl
             refine take_ (i := 8) (N := some 31) (v := ?_) (a' := ?_) #[true, true, true, true, true, true, true, true, true, true, true, false, false, false] rfl rfl (take_ofW HT_.out HW_.out (by kernel_rfl)) (fun _ _ _ h => h) (Or.inl ⟨by rfl, ?_⟩) hHeld ?_ ?_
             rotate_left
             ·rintro w' ⟨s0, s1, s2, s3, s4⟩
              go_simp
              with_reducible rfl
             rotate_left
             ·simp only [Act.put, List.setIfInBounds_toArray, List.set_cons_zero, List.set_cons_succ, i64_w, i32_w]
              rfl
             refine pu HT_ 11 34 2 ?_; refine pu HT_ 12 35 1 ?_; refine last_ (i := 13) (N := none) #[true, true, true, true, true, true, true, true, true, true, true, true, true, true] rfl rfl (one_of HT_.out (by kernel_rfl)) (by decide) (fun K hK => ?_); refine skip_ (w1 := ?_) (by rfl) rfl ?_ ?_
             rotate_left
             ·go_simp
              rfl
             refine hK.out _ _ ?_; clear hK K; refine done_ (done_of HT_.out (by kernel_rfl)) ?_; have hnb35 := NB314_315.out; have hnc35 := NB315_314.out; have hnb36 := NB314_320.out; have hnc36 := NB320_314.out
             (try have hnr37 : go22 ≠ gb314 := (by have h_ := Kd.R_ne HO_321001.out BK314.out (by decide); intro e_; exact h_ (by rw [e_]; rfl)))
             (try have hns37 : gb314 ≠ go22 := Ne.symm hnr37)
             have hcz38_0 : w33.cell? ⟨gb314, 0, none⟩ = some (.int .i64 a0_0) := (blk_cell BK314.out 0).trans rfl; have hcz38_1 : w33.cell? ⟨gb314, 1, none⟩ = some (.slice (some ad321) l0_1.length c0_1) := (blk_cell BK314.out 1).trans rfl; have hfz38_0 := blk_frozen BK314.out 0; have hfz38_1 := blk_frozen BK314.out 1
             try go_wp2
             have n0_ : Aside0 (Kd.R (Kd.int .u64) 93 (w33.setCell ⟨go22, (x16_1 : Int).toNat, none⟩ (.int .u64 ji19)) w.heap.size (fun _ => True) (.slice (some ⟨go22, 0, none⟩) x321001_1.length co22) y322) := ⟨rl HQ34⟩; have n1_ : Aside0 ((w33.setCell ⟨go22, (x16_1 : Int).toNat, none⟩ (.int .u64 ji19)).heap[gb314]? = some (.cells #[.int .i64 a0_0, .slice (some ad321) l0_1.length c0_1] 41 (0, 0))) := ⟨by (with_reducible repeat (first | refine blk_drewN ?_ _ | refine blk_drew ?_ | refine blk_alloc ?_ _)); refine blk_far ?_ (by have h_ := Kd.R_ne HO_321001.out BK314.out (by decide); intro e_; exact h_ (by rw [e_]; rfl)) _; (with_reducible repeat (first | refine blk_drewN ?_ _ | refine blk_drew ?_ | refine blk_alloc ?_ _)); exact BK314.out⟩; have n2_ : Aside0 ((w33.setCell ⟨go22, (x16_1 : Int).toNat, none⟩ (.int .u64 ji19)).heap[gb315]? = some (.cells #[.int .i64 0, .slice none 0 0] 41 (0, 0))) := ⟨by (with_reducible repeat (first | refine blk_drewN ?_ _ | refine blk_drew ?_ | refine blk_alloc ?_ _)); refine blk_far ?_ (by have h_ := Kd.R_ne HO_321001.out BK315.out (by decide); intro e_; exact h_ (by rw [e_]; rfl)) _; (with_reducible repeat (first | refine blk_drewN ?_ _ | refine blk_drew ?_ | refine blk_alloc ?_ _)); exact BK315.out⟩; have n3_ : Aside0 ((w33.setCell ⟨go22, (x16_1 : Int).toNat, none⟩ (.int .u64 ji19)).heap[gb320]? = some (.cells #[.int .i64 t316, .slice (some ⟨go22, 0, none⟩) x321001_1.length co22] 41 (0, 0))) := ⟨by (with_reducible repeat (first | refine blk_drewN ?_ _ | refine blk_drew ?_ | refine blk_alloc ?_ _)); refine blk_far ?_ (by have h_ := Kd.R_ne HO_321001.out BK320.out (by decide); intro e_; exact h_ (by rw [e_]; rfl)) _; (with_reducible repeat (first | refine blk_drewN ?_ _ | refine blk_drew ?_ | refine blk_alloc ?_ _)); exact BK320.out⟩
             have n4_ : Aside0 (Below w.heap.size w (w33.setCell ⟨go22, (x16_1 : Int).toNat, none⟩ (.int .u64 ji19))) := ⟨by repeat (first | (with_reducible first | exact HB.out | apply below_alloc | apply pw_below_drewN | apply below_drew1 | refine below_set ?_ GB22.out | refine below_set ?_ GE314.out | refine below_set ?_ GE315.out | refine below_set ?_ GE320.out) | exact HB.out)⟩; (try clear HO_321001)
             (try clear BK314); (try clear BK315)
             (try clear BK320); (try clear HB)
             generalize (w33.setCell ⟨go22, (x16_1 : Int).toNat, none⟩ (.int .u64 ji19)) = w39 at n0_ n1_ n2_ n3_ n4_ ⊢; have HO_321001 := n0_; have BK314 := n1_; have BK315 := n2_; have BK320 := n3_; have HB := n4_; clear n0_ n1_ n2_ n3_ n4_; have n0_ := Aside0.mk (Kd.R_drew HO_321001.out); have n1_ := Aside0.mk (blk_drew BK314.out); have n2_ := Aside0.mk (blk_drew BK315.out); have n3_ := Aside0.mk (blk_drew BK320.out); have n4_ := Aside0.mk (below_drew1 HB.out); clear HO_321001; clear BK314; clear BK315; clear BK320; clear HB; have HO_321001 := n0_; have BK314 := n1_; have BK315 := n2_; have BK320 := n3_; have HB := n4_; clear n0_ n1_ n2_ n3_ n4_; have p323 : 0 ≤ (x16_1 : Int) := ode; have q323 : x16_1 < (y322.length : Int) := (by have h_ : (x16_1 : Int) < ((x321001_1.length : Int) : Int) := ode; first | (have e_ := (Kd.R_reads' HO_321001.out).1; omega) | simpa only [Ny322.out, List.length_set] using h_)
             have ql323 : ((x16_1 : Int) < ((x321001_1.length : Int) : Int)) = True := eq_true (ode); obtain ⟨ad323, e323, hx323_0⟩ := Kd.at_int (Kd.R_reads' HO_321001.out).2.2 x16_1 p323 q323; obtain rfl : (⟨go22, 0, none⟩ : Addr) = ad323 := (by injection e323)
             (first | simp only [add_plain] at hx323_0 | simp only [add_at] at hx323_0 | simp only [Addr.add, Nat.zero_add] at hx323_0 | skip)
             replace p323 := eq_true p323; replace q323 := eq_true q323; have p324 : 0 ≤ ((ji27) : Int) := ode; have q324 : (ji27) < (l0_1.length : Int) := ode; obtain ⟨ad324, e324, hx324_0⟩ := Kd.at_int HR0_1.out (ji27) p324 q324; have hw324_0 := hx324_0; obtain rfl : ad321 = ad324 := (by injection e324); replace hx324_0 := cl HB hx324_0; replace p324 := eq_true p324; replace q324 := eq_true q324; have p32 : 0 ≤ (x16_1 : Int) := ode; have q32 : (x16_1 : Int) < ((x321001_1.length : Int) : Int) := ode; obtain ⟨hx32_0, hf32_0⟩ := Kd.R_celln 0 HO_321001.out (x16_1 : Int) p32 q32; replace p32 := eq_true p32; replace q32 := eq_true q32; have HP41 := Kd.R_putn HO_321001.out (x16_1 : Int) (Go.bits .or .u64 (rd y322 x16_1) (ji31)); rw [← Ny325.out] at HP41; have HQ41 := Aside0.mk HP41; clear HP41; refine start_ (n := 19) (S := fun w' => w'.cell? ⟨gb320, 0, none⟩ = some (.int .i64 t316) ∧ w'.cell? ⟨gb320, 1, none⟩ = some (.slice (some ⟨go22, 0, none⟩) x321001_1.length co22) ∧ w'.cell? ⟨gb314, 0, none⟩ = some (.int .i64 a0_0) ∧ w'.cell? ⟨gb314, 1, none⟩ = some (.slice (some ad321) l0_1.length c0_1) ∧ w'.cell? ⟨go22, (x16_1).toNat, none⟩ = some (.int .u64 (rd y322 x16_1)) ∧ w'.cell? (ad321.add ((ji27)).toNat) = some (.int .u64 (rd l0_1 (ji27)))) (ds := [18]) #[false, false, false, false, false, false, false, false, false, false, false, false, false, false, false, false, false, false, false] (by kernel_rfl) rfl rfl ⟨(blk_cell BK320.out 0).trans rfl, (blk_cell BK320.out 1).trans rfl, (blk_cell BK314.out 0).trans rfl, (blk_cell BK314.out 1).trans rfl, hx323_0, ((HB.out.cell (World.block_lt_of_cell? w _ hw324_0)).trans hw324_0)⟩ (fun hHeld => ?_); refine with_tabW impl_Bits_cut.tab8 impl_Bits_cut.bits8 (fun HT_ HW_ => ?_); generalize w39.drew = w40 at HO_321001 BK314 BK315 BK320 HB HQ34 HQ41 hf32_0 hx323_0 hx324_0 hx32_0 hHeld ⊢; refine pu HT_ 0 48 18 ?_; refine pure_ (i := 2) (N := some 50) (v := ?_) (a' := ?_) #[true, false, true, false, false, false, false, false, false, false, false, false, false, false, false, false, false, false, false] rfl rfl (any_of HT_.out (by kernel_rfl)) (fun _ _ _ h => h) (Or.inl ⟨by rfl, ?_⟩) ?_ ?_
             rotate_left
             ·intro w'
              go_simp
              with_reducible rfl
             rotate_left
             ·simp only [Act.put, List.setIfInBounds_toArray, List.set_cons_zero, List.set_cons_succ, i64_w, i32_w]
              rfl
             refine pure_ (i := 5) (N := some 53) (v := ?_) (a' := ?_) #[true, false, true, false, false, true, false, false, false, false, false, false, false, false, false, false, false, false, false] rfl rfl (any_of HT_.out (by kernel_rfl)) (fun _ _ _ h => h) (Or.inl ⟨by rfl, ?_⟩) ?_ ?_
             rotate_left
             ·intro w'
              go_simp
              with_reducible rfl
             rotate_left
             ·simp only [Act.put, List.setIfInBounds_toArray, List.set_cons_zero, List.set_cons_succ, i64_w, i32_w]
              rfl
             refine pure_ (i := 7) (N := some 55) (v := ?_) (a' := ?_) #[true, false, true, false, false, true, false, true, false, false, false, false, false, false, false, false, false, false, false] rfl rfl (any_of HT_.out (by kernel_rfl)) (fun _ _ _ h => h) (Or.inl ⟨by rfl, ?_⟩) ?_ ?_
             rotate_left
             ·intro w'
              go_simp
              with_reducible rfl
             rotate_left
             ·simp only [Act.put, List.setIfInBounds_toArray, List.set_cons_zero, List.set_cons_succ, i64_w, i32_w]
              rfl
             refine pure_ (i := 8) (N := some 56) (v := ?_) (a' := ?_) #[true, false, true, false, false, true, false, true, true, false, false, false, false, false, false, false, false, false, false] rfl rfl (any_of HT_.out (by kernel_rfl)) (fun _ _ _ h => h) (Or.inl ⟨by rfl, ?_⟩) ?_ ?_
             rotate_left
             ·intro w'
              go_simp
              with_reducible rfl
             rotate_left
             ·simp only [Act.put, List.setIfInBounds_toArray, List.set_cons_zero, List.set_cons_succ, i64_w, i32_w]
              rfl
             refine pure_ (i := 9) (N := some 57) (v := ?_) (a' := ?_) #[true, false, true, false, false, true, false, true, true, true, false, false, false, false, false, false, false, false, false] rfl rfl (any_of HT_.out (by kernel_rfl)) (fun _ _ _ h => h) (Or.inl ⟨by rfl, ?_⟩) ?_ ?_
             rotate_left
             ·intro w'
              go_simp
              with_reducible rfl
             rotate_left
             ·simp only [Act.put, List.setIfInBounds_toArray, List.set_cons_zero, List.set_cons_succ, i64_w, i32_w]
              rfl
             refine pure_ (i := 12) (N := some 60) (v := ?_) (a' := ?_) #[true, false, true, false, false, true, false, true, true, true, false, false, true, false, false, false, false, false, false] rfl rfl (any_of HT_.out (by kernel_rfl)) (fun _ _ _ h => h) (Or.inl ⟨by rfl, ?_⟩) ?_ ?_
             rotate_left
             ·intro w'
              go_simp
              with_reducible rfl
             rotate_left
             ·simp only [Act.put, List.setIfInBounds_toArray, List.set_cons_zero, List.set_cons_succ, i64_w, i32_w]
              rfl
             refine pure_ (i := 13) (N := some 61) (v := ?_) (a' := ?_) #[true, false, true, false, false, true, false, true, true, true, false, false, true, true, false, false, false, false, false] rfl rfl (any_of HT_.out (by kernel_rfl)) (fun _ _ _ h => h) (Or.inl ⟨by rfl, ?_⟩) ?_ ?_
             rotate_left
             ·intro w'
              go_simp
              with_reducible rfl
             rotate_left
             ·simp only [Act.put, List.setIfInBounds_toArray, List.set_cons_zero, List.set_cons_succ, i64_w, i32_w]
              rfl
             refine pure_ (i := 14) (N := some 62) (v := ?_) (a' := ?_) #[true, false, true, false, false, true, false, true, true, true, false, false, true, true, true, false, false, false, false] rfl rfl (any_of HT_.out (by kernel_rfl)) (fun _ _ _ h => h) (Or.inl ⟨by rfl, ?_⟩) ?_ ?_
             rotate_left
             ·intro w'
              go_simp
              with_reducible rfl
             rotate_left
             ·simp only [Act.put, List.setIfInBounds_toArray, List.set_cons_zero, List.set_cons_succ, i64_w, i32_w]
              rfl
             refine take_ (i := 1) (N := some 49) (v := ?_) (a' := ?_) #[true, true, true, false, false, true, false, true, true, true, false, false, true, true, true, false, false, false, false] rfl rfl (take_ofW HT_.out HW_.out (by kernel_rfl)) (fun _ _ _ h => h) (Or.inl ⟨by rfl, ?_⟩) hHeld ?_ ?_
             rotate_left
             ·rintro w' ⟨s0, s1, s2, s3, s4, s5⟩
              go_simp
              with_reducible rfl
             rotate_left
             ·simp only [Act.put, List.setIfInBounds_toArray, List.set_cons_zero, List.set_cons_succ, i64_w, i32_w]
              rfl
             refine pure_ (i := 3) (N := some 51) (v := ?_) (a' := ?_) #[true, true, true, true, false, true, false, true, true, true, false, false, true, true, true, false, false, false, false] rfl rfl (any_of HT_.out (by kernel_rfl)) (fun _ _ _ h => h) (Or.inl ⟨by rfl, ?_⟩) ?_ ?_
             rotate_left
             ·intro w'
              go_simp
              with_reducible rfl
             rotate_left
             ·simp only [Act.put, List.setIfInBounds_toArray, List.set_cons_zero, List.set_cons_succ, i64_w, i32_w]
              rfl
             refine take_ (i := 4) (N := some 52) (v := ?_) (a' := ?_) #[true, true, true, true, true, true, false, true, true, true, false, false, true, true, true, false, false, false, false] rfl rfl (take_ofW HT_.out HW_.out (by kernel_rfl)) (fun _ _ _ h => h) (Or.inl ⟨by rfl, ?_⟩) hHeld ?_ ?_
             rotate_left
             ·rintro w' ⟨s0, s1, s2, s3, s4, s5⟩
              go_simp
              with_reducible rfl
             rotate_left
             ·simp only [Act.put, List.setIfInBounds_toArray, List.set_cons_zero, List.set_cons_succ, i64_w, i32_w]
              rfl
             refine take_ (i := 6) (N := some 54) (v := ?_) (a' := ?_) #[true, true, true, true, true, true, true, true, true, true, false, false, true, true, true, false, false, false, false] rfl rfl (take_ofW HT_.out HW_.out (by kernel_rfl)) (fun _ _ _ h => h) (Or.inl ⟨by rfl, ?_⟩) hHeld ?_ ?_
             rotate_left
             ·rintro w' ⟨s0, s1, s2, s3, s4, s5⟩
              go_simp
              with_reducible rfl
             rotate_left
             ·simp only [Act.put, List.setIfInBounds_toArray, List.set_cons_zero, List.set_cons_succ, i64_w, i32_w]
              rfl
             refine pure_ (i := 10) (N := some 58) (v := ?_) (a' := ?_) #[true, true, true, true, true, true, true, true, true, true, true, false, true, true, true, false, false, false, false] rfl rfl (any_of HT_.out (by kernel_rfl)) (fun _ _ _ h => h) (Or.inl ⟨by rfl, ?_⟩) ?_ ?_
             rotate_left
             ·intro w'
              go_simp
              with_reducible rfl
             rotate_left
             ·simp only [Act.put, List.setIfInBounds_toArray, List.set_cons_zero, List.set_cons_succ, i64_w, i32_w]
              rfl
             refine take_ (i := 11) (N := some 59) (v := ?_) (a' := ?_) #[true, true, true, true, true, true, true, true, true, true, true, true, true, true, true, false, false, false, false] rfl rfl (take_ofW HT_.out HW_.out (by kernel_rfl)) (fun _ _ _ h => h) (Or.inl ⟨by rfl, ?_⟩) hHeld ?_ ?_
             rotate_left
             ·rintro w' ⟨s0, s1, s2, s3, s4, s5⟩
              go_simp
              with_reducible rfl
             rotate_left
             ·simp only [Act.put, List.setIfInBounds_toArray, List.set_cons_zero, List.set_cons_succ, i64_w, i32_w]
              rfl
             refine pu HT_ 15 63 3 ?_; refine pu HT_ 16 64 2 ?_; refine pu HT_ 17 65 1 ?_; refine last_ (i := 18) (N := none) #[true, true, true, true, true, true, true, true, true, true, true, true, true, true, true, true, true, true, true] rfl rfl (one_of HT_.out (by kernel_rfl)) (by decide) (fun K hK => ?_); refine skip_ (w1 := ?_) (by rfl) rfl ?_ ?_
             rotate_left
             ·go_simp
              rfl
             refine hK.out _ _ ?_; clear hK K; refine done_ (done_of HT_.out (by kernel_rfl)) ?_
             try go_wp2
             go_roundg k1
             case measure => have := HK1.out; omega
             case rel => exact ⟨(wrap64 (x16_1 + 1)), (y325), (.slice (some ⟨go22, 0, none⟩) x321001_1.length co22), au, H', ⟨by have := HK1.out; omega⟩, ⟨rl HQ41⟩, ⟨by (with_reducible repeat (first | refine blk_drewN ?_ _ | refine blk_drew ?_ | refine blk_alloc ?_ _)); refine blk_far ?_ (by have h_ := Kd.R_ne HO_321001.out BK314.out (by decide); intro e_; exact h_ (by rw [e_]; rfl)) _; (with_reducible repeat (first | refine blk_drewN ?_ _ | refine blk_drew ?_ | refine blk_alloc ?_ _)); exact BK314.out⟩, ⟨by (with_reducible repeat (first | refine blk_drewN ?_ _ | refine blk_drew ?_ | refine blk_alloc ?_ _)); refine blk_far ?_ (by have h_ := Kd.R_ne HO_321001.out BK315.out (by decide); intro e_; exact h_ (by rw [e_]; rfl)) _; (with_reducible repeat (first | refine blk_drewN ?_ _ | refine blk_drew ?_ | refine blk_alloc ?_ _)); exact BK315.out⟩, ⟨by (with_reducible repeat (first | refine blk_drewN ?_ _ | refine blk_drew ?_ | refine blk_alloc ?_ _)); refine blk_far ?_ (by have h_ := Kd.R_ne HO_321001.out BK320.out (by decide); intro e_; exact h_ (by rw [e_]; rfl)) _; (with_reducible repeat (first | refine blk_drewN ?_ _ | refine blk_drew ?_ | refine blk_alloc ?_ _)); exact BK320.out⟩, ⟨by repeat (first | (with_reducible first | exact HB.out | apply below_alloc | apply pw_below_drewN | apply below_drew1 | refine below_set ?_ GB22.out | refine below_set ?_ GE314.out | refine below_set ?_ GE315.out | refine below_set ?_ GE320.out) | exact HB.out)⟩⟩
            ·rw [if_neg c30] at H
             exact absurd H (by simp)
           ·rw [if_neg c28] at H
            exact absurd H (by simp)
          ·rw [if_neg c26] at H
           have c26b0 : decide ((wrap64 ((ji14) + 1)) < (l0_1.length : Int)) = false := decide_eq_false c26; clear c26; have H' := Aside0.mk H; clear H
           try go_wp2
           have n0_ := Aside0.mk (Kd.R_drew HO_321001.out); have n1_ := Aside0.mk (blk_drew BK314.out); have n2_ := Aside0.mk (blk_drew BK315.out); have n3_ := Aside0.mk (blk_drew BK320.out); have n4_ := Aside0.mk (below_drew1 HB.out); clear HO_321001; clear BK314; clear BK315; clear BK320; clear HB; have HO_321001 := n0_; have BK314 := n1_; have BK315 := n2_; have BK320 := n3_; have HB := n4_; clear n0_ n1_ n2_ n3_ n4_; have p321 : 0 ≤ ((ji14) : Int) := ode; have q321 : (ji14) < (l0_1.length : Int) := ode; obtain ⟨ad321, e321, hx321_0⟩ := Kd.at_int HR0_1.out (ji14) p321 q321; have hw321_0 := hx321_0
           cases e321
           replace hx321_0 := cl HB hx321_0; replace p321 := eq_true p321; replace q321 := eq_true q321; have p22 : 0 ≤ (x16_1 : Int) := ode; have q22 : (x16_1 : Int) < ((x321001_1.length : Int) : Int) := ode; obtain ⟨go22, co22, eo22, gb22, gl22, cl22, HG22⟩ := Kd.R_form HO_321001.out (by omega)
           (first | cases eo22 | (injection eo22 with ea_ en_ ec_; (first | subst ea_ | (injection ea_ with ea_; subst ea_)); subst ec_; clear en_))
           have GB22 := Aside0.mk gb22; have GG22 := Aside0.mk HG22; clear gb22 gl22 HG22; obtain ⟨hx22_0, hf22_0⟩ := Kd.R_celln 0 HO_321001.out (x16_1 : Int) p22 q22; replace p22 := eq_true p22; replace q22 := eq_true q22; have HP43 := Kd.R_putn HO_321001.out (x16_1 : Int) ji19; rw [← Ny322.out] at HP43; have HQ43 := Aside0.mk HP43; clear HP43; refine start_ (n := 14) (S := fun w' => w'.cell? ⟨gb320, 0, none⟩ = some (.int .i64 t316) ∧ w'.cell? ⟨gb320, 1, none⟩ = some (.slice (some ⟨go22, 0, none⟩) x321001_1.length co22) ∧ w'.cell? ⟨gb314, 0, none⟩ = some (.int .i64 a0_0) ∧ w'.cell? ⟨gb314, 1, none⟩ = some (.slice (some ad321) l0_1.length c0_1) ∧ w'.cell? (ad321.add ((ji14)).toNat) = some (.int .u64 (rd l0_1 (ji14)))) (ds := [13]) #[false, false, false, false, false, false, false, false, false, false, false, false, false, false] (by kernel_rfl) rfl rfl ⟨(blk_cell BK320.out 0).trans rfl, (blk_cell BK320.out 1).trans rfl, (blk_cell BK314.out 0).trans rfl, (blk_cell BK314.out 1).trans rfl, ((HB.out.cell (World.block_lt_of_cell? w _ hw321_0)).trans hw321_0)⟩ (fun hHeld => ?_); refine with_tabW impl_Bits_cut.tab6 impl_Bits_cut.bits6 (fun HT_ HW_ => ?_); generalize wr.drew = w42 at HO_321001 BK314 BK315 BK320 HB GG22 HQ43 hf22_0 hx22_0 hx321_0 hHeld ⊢; refine pu HT_ 0 23 13 ?_; refine pure_ (i := 2) (N := some 25) (v := ?_) (a' := ?_) #[true, false, true, false, false, false, false, false, false, false, false, false, false, false] rfl rfl (any_of HT_.out (by kernel_rfl)) (fun _ _ _ h => h) (Or.inl ⟨by rfl, ?_⟩) ?_ ?_
           rotate_left
           ·intro w'
            go_simp
            with_reducible rfl
           rotate_left
           ·simp only [Act.put, List.setIfInBounds_toArray, List.set_cons_zero, List.set_cons_succ, i64_w, i32_w]
            rfl
           refine pure_ (i := 3) (N := some 26) (v := ?_) (a' := ?_) #[true, false, true, true, false, false, false, false, false, false, false, false, false, false] rfl rfl (any_of HT_.out (by kernel_rfl)) (fun _ _ _ h => h) (Or.inl ⟨by rfl, ?_⟩) ?_ ?_
           rotate_left
           ·intro w'
            go_simp
            with_reducible rfl
           rotate_left
           ·simp only [Act.put, List.setIfInBounds_toArray, List.set_cons_zero, List.set_cons_succ, i64_w, i32_w]
            rfl
           refine pure_ (i := 5) (N := some 28) (v := ?_) (a' := ?_) #[true, false, true, true, false, true, false, false, false, false, false, false, false, false] rfl rfl (any_of HT_.out (by kernel_rfl)) (fun _ _ _ h => h) (Or.inl ⟨by rfl, ?_⟩) ?_ ?_
           rotate_left
           ·intro w'
            go_simp
            with_reducible rfl
           rotate_left
           ·simp only [Act.put, List.setIfInBounds_toArray, List.set_cons_zero, List.set_cons_succ, i64_w, i32_w]
            rfl
           refine pure_ (i := 6) (N := some 29) (v := ?_) (a' := ?_) #[true, false, true, true, false, true, true, false, false, false, false, false, false, false] rfl rfl (any_of HT_.out (by kernel_rfl)) (fun _ _ _ h => h) (Or.inl ⟨by rfl, ?_⟩) ?_ ?_
           rotate_left
           ·intro w'
            go_simp
            with_reducible rfl
           rotate_left
           ·simp only [Act.put, List.setIfInBounds_toArray, List.set_cons_zero, List.set_cons_succ, i64_w, i32_w]
            rfl
           refine pure_ (i := 9) (N := some 32) (v := ?_) (a' := ?_) #[true, false, true, true, false, true, true, false, false, true, false, false, false, false] rfl rfl (any_of HT_.out (by kernel_rfl)) (fun _ _ _ h => h) (Or.inl ⟨by rfl, ?_⟩) ?_ ?_
           rotate_left
           ·intro w'
            go_simp
            with_reducible rfl
           rotate_left
           ·simp only [Act.put, List.setIfInBounds_toArray, List.set_cons_zero, List.set_cons_succ, i64_w, i32_w]
            rfl
           refine pure_ (i := 10) (N := some 33) (v := ?_) (a' := ?_) #[true, false, true, true, false, true, true, false, false, true, true, false, false, false] rfl rfl (any_of HT_.out (by kernel_rfl)) (fun _ _ _ h => h) (Or.inl ⟨by rfl, ?_⟩) ?_ ?_
           rotate_left
           ·intro w'
            go_simp
            with_reducible rfl
           rotate_left
           ·simp only [Act.put, List.setIfInBounds_toArray, List.set_cons_zero, List.set_cons_succ, i64_w, i32_w]
            rfl
           refine take_ (i := 1) (N := some 24) (v := ?_) (a' := ?_) #[true, true, true, true, false, true, true, false, false, true, true, false, false, false] rfl rfl (take_ofW HT_.out HW_.out (by kernel_rfl)) (fun _ _ _ h => h) (Or.inl ⟨by rfl, ?_⟩) hHeld ?_ ?_
           rotate_left
           ·rintro w' ⟨s0, s1, s2, s3, s4⟩
            go_simp
            with_reducible rfl
           rotate_left
           ·simp only [Act.put, List.setIfInBounds_toArray, List.set_cons_zero, List.set_cons_succ, i64_w, i32_w]
            rfl
           refine take_ (i := 4) (N := some 27) (v := ?_) (a' := ?_) #[true, true, true, true, true, true, true, false, false, true, true, false, false, false] rfl rfl (take_ofW HT_.out HW_.out (by kernel_rfl)) (fun _ _ _ h => h) (Or.inl ⟨by rfl, ?_⟩) hHeld ?_ ?_
           rotate_left
           ·rintro w' ⟨s0, s1, s2, s3, s4⟩
            go_simp
            with_reducible rfl
           rotate_left
           ·simp only [Act.put, List.setIfInBounds_toArray, List.set_cons_zero, List.set_cons_succ, i64_w, i32_w]
            rfl
           refine pure_ (i := 7) (N := some 30) (v := ?_) (a' := ?_) #[true, true, true, true, true, true, true, true, false, true, true, false, false, false] rfl rfl (any_of HT_.out (by kernel_rfl)) (fun _ _ _ h => h) (Or.inl ⟨by rfl, ?_⟩) ?_ ?_
           rotate_left
           ·intro w'
            go_simp
            with_reducible rfl
           rotate_left
           ·simp only [Act.put, List.setIfInBounds_toArray, List.set_cons_zero, List.set_cons_succ, i64_w, i32_w]
            rfl
           refine take_ (i := 8) (N := some 31) (v := ?_) (a' := ?_) #[true, true, true, true, true, true, true, true, true, true, true, false, false, false] rfl rfl (take_ofW HT_.out HW_.out (by kernel_rfl)) (fun _ _ _ h => h) (Or.inl ⟨by rfl, ?_⟩) hHeld ?_ ?_
           rotate_left
           ·rintro w' ⟨s0, s1, s2, s3, s4⟩
            go_simp
            with_reducible rfl
           rotate_left
           ·simp only [Act.put, List.setIfInBounds_toArray, List.set_cons_zero, List.set_cons_succ, i64_w, i32_w]
            rfl
           refine pu HT_ 11 34 2 ?_; refine pu HT_ 12 35 1 ?_; refine last_ (i := 13) (N := none) #[true, true, true, true, true, true, true, true, true, true, true, true, true, true] rfl rfl (one_of HT_.out (by kernel_rfl)) (by decide) (fun K hK => ?_); refine skip_ (w1 := ?_) (by rfl) rfl ?_ ?_
           rotate_left
           ·go_simp
            rfl
           refine hK.out _ _ ?_; clear hK K; refine done_ (done_of HT_.out (by kernel_rfl)) ?_; have hnb44 := NB314_315.out; have hnc44 := NB315_314.out; have hnb45 := NB314_320.out; have hnc45 := NB320_314.out
           (try have hnr46 : go22 ≠ gb314 := (by have h_ := Kd.R_ne HO_321001.out BK314.out (by decide); intro e_; exact h_ (by rw [e_]; rfl)))
           (try have hns46 : gb314 ≠ go22 := Ne.symm hnr46)
           have hcz47_0 : w42.cell? ⟨gb314, 0, none⟩ = some (.int .i64 a0_0) := (blk_cell BK314.out 0).trans rfl; have hcz47_1 : w42.cell? ⟨gb314, 1, none⟩ = some (.slice (some ad321) l0_1.length c0_1) := (blk_cell BK314.out 1).trans rfl; have hfz47_0 := blk_frozen BK314.out 0; have hfz47_1 := blk_frozen BK314.out 1
           try go_wp2
           go_roundg k1
           case measure => have := HK1.out; omega
           case rel => exact ⟨(wrap64 (x16_1 + 1)), (y322), (.slice (some ⟨go22, 0, none⟩) x321001_1.length co22), au, H', ⟨by have := HK1.out; omega⟩, ⟨rl HQ43⟩, ⟨by (with_reducible repeat (first | refine blk_drewN ?_ _ | refine blk_drew ?_ | refine blk_alloc ?_ _)); refine blk_far ?_ (by have h_ := Kd.R_ne HO_321001.out BK314.out (by decide); intro e_; exact h_ (by rw [e_]; rfl)) _; (with_reducible repeat (first | refine blk_drewN ?_ _ | refine blk_drew ?_ | refine blk_alloc ?_ _)); exact BK314.out⟩, ⟨by (with_reducible repeat (first | refine blk_drewN ?_ _ | refine blk_drew ?_ | refine blk_alloc ?_ _)); refine blk_far ?_ (by have h_ := Kd.R_ne HO_321001.out BK315.out (by decide); intro e_; exact h_ (by rw [e_]; rfl)) _; (with_reducible repeat (first | refine blk_drewN ?_ _ | refine blk_drew ?_ | refine blk_alloc ?_ _)); exact BK315.out⟩, ⟨by (with_reducible repeat (first | refine blk_drewN ?_ _ | refine blk_drew ?_ | refine blk_alloc ?_ _)); refine blk_far ?_ (by have h_ := Kd.R_ne HO_321001.out BK320.out (by decide); intro e_; exact h_ (by rw [e_]; rfl)) _; (with_reducible repeat (first | refine blk_drewN ?_ _ | refine blk_drew ?_ | refine blk_alloc ?_ _)); exact BK320.out⟩, ⟨by repeat (first | (with_reducible first | exact HB.out | apply below_alloc | apply pw_below_drewN | apply below_drew1 | refine below_set ?_ GB22.out | refine below_set ?_ GE314.out | refine below_set ?_ GE315.out | refine below_set ?_ GE320.out) | exact HB.out)⟩⟩
        ·rw [if_neg c21] at H
         exact absurd H (by simp)
       ·rw [if_neg c20] at H
        exact absurd H (by simp)
      ·rw [if_neg c18] at H
       exact absurd H (by simp)
     ·rw [if_neg c16] at H
      exact absurd H (by simp)
    ·rw [if_neg c15] at H
     exact absurd H (by simp)
   ·rw [if_neg c13] at H
    have c13b0 : decide (x16_1 < (t317.length : Int)) = false := decide_eq_false c13; clear c13
    by_cases c48 : (Int.tmod a2 64) = 0
    ·rw [if_pos c48] at H
     have c48b0 : ((Int.tmod a2 64) == 0) = true := beq_iff_eq.mpr c48; have c48b1 : ((Int.tmod a2 64) != 0) = false := bne_eq_false_iff_eq.mpr c48; clear c48
     simp only [Option.some.injEq, Prod.mk.injEq] at H
     obtain ⟨rfl, rfl⟩ := H; have hnb49 := NB320_314.out; have hnc49 := NB314_320.out; have hnb50 := NB320_315.out; have hnc50 := NB315_320.out; have hcz51_0 : wr.cell? ⟨gb320, 0, none⟩ = some (.int .i64 t316) := (blk_cell BK320.out 0).trans rfl; have hcz51_1 : wr.cell? ⟨gb320, 1, none⟩ = some (u321001) := (blk_cell BK320.out 1).trans rfl; have hfz51_0 := blk_frozen BK320.out 0; have hfz51_1 := blk_frozen BK320.out 1; have hnb52 := NB315_314.out; have hnc52 := NB314_315.out; have hcz53_0 : wr.cell? ⟨gb315, 0, none⟩ = some (.int .i64 0) := (blk_cell BK315.out 0).trans rfl; have hcz53_1 : wr.cell? ⟨gb315, 1, none⟩ = some (.slice none 0 0) := (blk_cell BK315.out 1).trans rfl; have hfz53_0 := blk_frozen BK315.out 0; have hfz53_1 := blk_frozen BK315.out 1; obtain ⟨Ao54, co54, eo54⟩ := Kd.R_slice HO_321001.out
     subst eo54
     go_wp2
     refine bodyPost_ret (results_cell_row rfl _ _ gb315 41 #[.int .i64 t316, .slice Ao54 x321001_1.length co54] (0, 0) _ rfl (by (with_reducible repeat (first | refine blk_drewN ?_ _ | refine blk_drew ?_ | refine blk_alloc ?_ _)); refine blk_put (cs := #[.int .i64 t316, .slice none 0 0]) ?_ 1 _ rfl; (with_reducible repeat (first | refine blk_drewN ?_ _ | refine blk_drew ?_ | refine blk_alloc ?_ _)); refine blk_put (cs := #[.int .i64 0, .slice none 0 0]) ?_ 0 _ rfl; (with_reducible repeat (first | refine blk_drewN ?_ _ | refine blk_drew ?_ | refine blk_alloc ?_ _)); exact BK315.out) Try.underlying41 rfl (by kernel_rfl)) rfl ?_
     exact ⟨_, by first | rfl | (simp [errW_none, errW_some] <;> rfl) | (simp [*, errW_none, errW_some] <;> rfl), by (with_reducible repeat (first | apply Kd.R_alloc | apply Kd.R_drewN | apply Kd.R_drew)); exact Kd.R_mono (Kd.R_far (p := ⟨gb315, 1, none⟩) (Kd.R_far (p := ⟨gb315, 0, none⟩) (Kd.R_types HO_321001.out BK315.out (by decide)) (fun _ hk => hk.2) (.int .i64 t316)) (fun _ hk => hk.2) (.slice Ao54 x321001_1.length co54)) (fun _ hk => trivial), bs3 HB GE314 GE315 GE320⟩
    ·rw [if_neg c48] at H
     have c48b0 : ((Int.tmod a2 64) == 0) = false := beq_eq_false_iff_ne.mpr c48; have c48b1 : ((Int.tmod a2 64) != 0) = true := bne_iff_ne.mpr c48; obtain ⟨ji55, hji55⟩ : ∃ j_ : Int, (wrap64 ((x321001_1.length : Int) - 1)) = j_ := ⟨_, rfl⟩
     replace H : (if 0 ≤ (ji55) then (if (ji55) < (x321001_1.length : Int) then (if 0 ≤ (Int.tmod a2 64) then (some (t316, (x321001_1.set ((ji55) : Int).toNat (Go.bits .and .u64 (rd x321001_1 (ji55)) (IntKind.u64.wrap ((shl .u64 1 (Int.tmod a2 64)) - 1)))))) else (none)) else (none)) else (none)) = some (r1, r2) := by first | (rw [hji55] at H; exact H) | (simp only [hji55] at H ⊢; exact H)
     have hji55w : (IntKind.i64.wrap ((x321001_1.length : Int) - 1)) = ji55 := (i64_w _).trans hji55
     by_cases c56 : 0 ≤ (ji55)
     ·rw [if_pos c56] at H
      have c56b0 : decide (0 ≤ (ji55)) = true := decide_eq_true c56; clear c56
      by_cases c57 : (ji55) < (x321001_1.length : Int)
      ·rw [if_pos c57] at H
       have c57b0 : decide ((ji55) < (x321001_1.length : Int)) = true := decide_eq_true c57; clear c57; obtain ⟨ji58, hji58⟩ : ∃ j_ : Int, (Int.tmod a2 64) = j_ := ⟨_, rfl⟩
       replace H : (if 0 ≤ (ji58) then (some (t316, (x321001_1.set ((ji55) : Int).toNat (Go.bits .and .u64 (rd x321001_1 (ji55)) (IntKind.u64.wrap ((shl .u64 1 (ji58)) - 1)))))) else (none)) = some (r1, r2) := by first | (rw [hji58] at H; exact H) | (simp only [hji58] at H ⊢; exact H)
       (try rw [hji58] at c48b0)
       (try rw [hji58] at c48b1)
       by_cases c59 : 0 ≤ (ji58)
       ·rw [if_pos c59] at H
        have c59b0 := eq_true c59; have c59b1 : decide (0 ≤ (ji58)) = true := decide_eq_true c59; clear c59; obtain ⟨ji60, hji60⟩ : ∃ j_ : Int, (shl .u64 1 (ji58)) = j_ := ⟨_, rfl⟩
        replace H : (some (t316, (x321001_1.set ((ji55) : Int).toNat (Go.bits .and .u64 (rd x321001_1 (ji55)) (IntKind.u64.wrap ((ji60) - 1)))))) = some (r1, r2) := by first | (rw [hji60] at H; exact H) | (simp only [hji60] at H ⊢; exact H)
        have hji60_ : (IntKind.u64.wrap (1 * 2 ^ min (ji58).toNat 64)) = ji60 := hji60; have hji60z : (ji58) ≤ 64 → (IntKind.u64.wrap (1 * 2 ^ (ji58).toNat)) = ji60 := shl_small hji60
        (try have hji60k := hji60z (by first | omega | (rw [← hji58]; exact Int.le_of_lt (Int.tmod_lt_of_pos _ (by decide)))))
        have hji60u : (IntKind.u64.wrap (2 ^ min (ji58).toNat 64)) = ji60 := by have h_ := hji60_; rw [Int.one_mul] at h_; exact h_
        have hji60v : (ji58) ≤ 64 → (IntKind.u64.wrap (2 ^ (ji58).toNat)) = ji60 := fun hle_ => by have h_ := hji60z hle_; rw [Int.one_mul] at h_; exact h_
        obtain ⟨y327, hy327⟩ : ∃ y_ : List Int, y_ = (x321001_1.set ((ji55) : Int).toNat (Go.bits .and .u64 (rd x321001_1 (ji55)) (IntKind.u64.wrap ((ji60) - 1)))) := ⟨_, rfl⟩
        replace H : (some (t316, y327)) = some (r1, r2) := by first | (rw [hy327]; with_reducible exact H) | (have H2_ := (Option.bind_some _ _).symm.trans H; rw [hy327]; with_reducible exact H2_) | (have H2_ := (Option.bind_some _ _).symm.trans H; with_reducible exact H2_) | with_reducible exact H | (rw [hy327]; exact H) | exact H
        have Ny327 := Aside0.mk hy327; clear hy327
        simp only [Option.some.injEq, Prod.mk.injEq] at H
        obtain ⟨rfl, rfl⟩ := H
        try go_wp2
        have n0_ := Aside0.mk (Kd.R_drew HO_321001.out); have n1_ := Aside0.mk (blk_drew BK314.out); have n2_ := Aside0.mk (blk_drew BK315.out); have n3_ := Aside0.mk (blk_drew BK320.out); have n4_ := Aside0.mk (below_drew1 HB.out); clear HO_321001; clear BK314; clear BK315; clear BK320; clear HB; have HO_321001 := n0_; have BK314 := n1_; have BK315 := n2_; have BK320 := n3_; have HB := n4_; clear n0_ n1_ n2_ n3_ n4_; obtain ⟨Ao63, co63, eo63⟩ := Kd.R_slice HO_321001.out
        (first | subst eo63 | (injection eo63 with f1_ f2_ f3_; have f4_ := f1_.symm; have f5_ := f3_.symm; clear f1_ f2_ f3_; subst f4_; subst f5_))
        have p326 : 0 ≤ ((ji55) : Int) := ode; have q326 : (ji55) < (x321001_1.length : Int) := ode; obtain ⟨ad326, e326, hx326_0⟩ := Kd.at_int (Kd.R_reads' HO_321001.out).2.2 (ji55) p326 q326
        cases e326
        replace p326 := eq_true p326; replace q326 := eq_true q326; have p61 : 0 ≤ ((ji55) : Int) := ode; have q61 : ((ji55) : Int) < ((x321001_1.length : Int) : Int) := ode; obtain ⟨go61, co61, eo61, gb61, gl61, cl61, HG61⟩ := Kd.R_form HO_321001.out (by omega)
        (first | cases eo61 | (injection eo61 with ea_ en_ ec_; (first | subst ea_ | (injection ea_ with ea_; subst ea_)); subst ec_; clear en_))
        have GB61 := Aside0.mk gb61; have GG61 := Aside0.mk HG61; clear gb61 gl61 HG61
        (first | simp only [add_plain] at hx326_0 | skip)
        obtain ⟨hx61_0, hf61_0⟩ := Kd.R_celln 0 HO_321001.out ((ji55) : Int) p61 q61; replace p61 := eq_true p61; replace q61 := eq_true q61; have HP64 := Kd.R_putn HO_321001.out ((ji55) : Int) (Go.bits .and .u64 (rd x321001_1 (ji55)) (IntKind.u64.wrap ((ji60) - 1))); rw [← Ny327.out] at HP64; have HQ64 := Aside0.mk HP64; clear HP64; refine start_ (n := 14) (S := fun w' => w'.cell? ⟨gb320, 0, none⟩ = some (.int .i64 t316) ∧ w'.cell? ⟨gb320, 1, none⟩ = some (.slice (some ⟨go61, 0, none⟩) x321001_1.length co63) ∧ w'.cell? ⟨go61, ((ji55)).toNat, none⟩ = some (.int .u64 (rd x321001_1 (ji55)))) (ds := [13]) #[false, false, false, false, false, false, false, false, false, false, false, false, false, false] (by kernel_rfl) rfl rfl ⟨(blk_cell BK320.out 0).trans rfl, (blk_cell BK320.out 1).trans rfl, hx326_0⟩ (fun hHeld => ?_); refine with_tabW impl_Bits_cut.tab12 impl_Bits_cut.bits12 (fun HT_ HW_ => ?_); generalize wr.drew = w62 at HO_321001 BK314 BK315 BK320 HB GG61 HQ64 hf61_0 hx326_0 hx61_0 hHeld ⊢; refine pu HT_ 0 71 13 ?_; refine pure_ (i := 2) (N := some 73) (v := ?_) (a' := ?_) #[true, false, true, false, false, false, false, false, false, false, false, false, false, false] rfl rfl (any_of HT_.out (by kernel_rfl)) (fun _ _ _ h => h) (Or.inl ⟨by rfl, ?_⟩) ?_ ?_
        rotate_left
        ·intro w'
         go_simp
         with_reducible rfl
        rotate_left
        ·simp only [Act.put, List.setIfInBounds_toArray, List.set_cons_zero, List.set_cons_succ, i64_w, i32_w]
         rfl
        refine pure_ (i := 8) (N := some 79) (v := ?_) (a' := ?_) #[true, false, true, false, false, false, false, false, true, false, false, false, false, false] rfl rfl (any_of HT_.out (by kernel_rfl)) (fun _ _ _ h => h) (Or.inl ⟨by rfl, ?_⟩) ?_ ?_
        rotate_left
        ·intro w'
         go_simp
         with_reducible rfl
        rotate_left
        ·simp only [Act.put, List.setIfInBounds_toArray, List.set_cons_zero, List.set_cons_succ, i64_w, i32_w]
         rfl
        refine pure_ (i := 9) (N := some 80) (v := ?_) (a' := ?_) #[true, false, true, false, false, false, false, false, true, true, false, false, false, false] rfl rfl (any_of HT_.out (by kernel_rfl)) (fun _ _ _ h => h) (Or.inl ⟨by rfl, ?_⟩) ?_ ?_
        rotate_left
        ·intro w'
         go_simp
         with_reducible rfl
        rotate_left
        ·simp only [Act.put, List.setIfInBounds_toArray, List.set_cons_zero, List.set_cons_succ, i64_w, i32_w]
         rfl
        refine pure_ (i := 10) (N := some 81) (v := ?_) (a' := ?_) #[true, false, true, false, false, false, false, false, true, true, true, false, false, false] rfl rfl (any_of HT_.out (by kernel_rfl)) (fun _ _ _ h => h) (Or.inl ⟨by rfl, ?_⟩) ?_ ?_
        rotate_left
        ·intro w'
         go_simp
         with_reducible rfl
        rotate_left
        ·simp only [Act.put, List.setIfInBounds_toArray, List.set_cons_zero, List.set_cons_succ, i64_w, i32_w]
         rfl
        refine take_ (i := 1) (N := some 72) (v := ?_) (a' := ?_) #[true, true, true, false, false, false, false, false, true, true, true, false, false, false] rfl rfl (take_ofW HT_.out HW_.out (by kernel_rfl)) (fun _ _ _ h => h) (Or.inl ⟨by rfl, ?_⟩) hHeld ?_ ?_
        rotate_left
        ·rintro w' ⟨s0, s1, s2⟩
         go_simp
         with_reducible rfl
        rotate_left
        ·simp only [Act.put, List.setIfInBounds_toArray, List.set_cons_zero, List.set_cons_succ, i64_w, i32_w]
         rfl
        refine take_ (i := 3) (N := some 74) (v := ?_) (a' := ?_) #[true, true, true, true, false, false, false, false, true, true, true, false, false, false] rfl rfl (take_ofW HT_.out HW_.out (by kernel_rfl)) (fun _ _ _ h => h) (Or.inl ⟨by rfl, ?_⟩) hHeld ?_ ?_
        rotate_left
        ·rintro w' ⟨s0, s1, s2⟩
         go_simp
         with_reducible rfl
        rotate_left
        ·simp only [Act.put, List.setIfInBounds_toArray, List.set_cons_zero, List.set_cons_succ, i64_w, i32_w]
         rfl
        refine pure_ (i := 4) (N := some 75) (v := ?_) (a' := ?_) #[true, true, true, true, true, false, false, false, true, true, true, false, false, false] rfl rfl (any_of HT_.out (by kernel_rfl)) (fun _ _ _ h => h) (Or.inl ⟨by rfl, ?_⟩) ?_ ?_
        rotate_left
        ·intro w'
         go_simp
         with_reducible rfl
        rotate_left
        ·simp only [Act.put, List.setIfInBounds_toArray, List.set_cons_zero, List.set_cons_succ, i64_w, i32_w]
         rfl
        refine pure_ (i := 5) (N := some 76) (v := ?_) (a' := ?_) #[true, true, true, true, true, true, false, false, true, true, true, false, false, false] rfl rfl (any_of HT_.out (by kernel_rfl)) (fun _ _ _ h => h) (Or.inl ⟨by rfl, ?_⟩) ?_ ?_
        rotate_left
        ·intro w'
         go_simp
         with_reducible rfl
        rotate_left
        ·simp only [Act.put, List.setIfInBounds_toArray, List.set_cons_zero, List.set_cons_succ, i64_w, i32_w]
         rfl
        refine pure_ (i := 6) (N := some 77) (v := ?_) (a' := ?_) #[true, true, true, true, true, true, true, false, true, true, true, false, false, false] rfl rfl (any_of HT_.out (by kernel_rfl)) (fun _ _ _ h => h) (Or.inl ⟨by rfl, ?_⟩) ?_ ?_
        rotate_left
        ·intro w'
         go_simp
         with_reducible rfl
        rotate_left
        ·simp only [Act.put, List.setIfInBounds_toArray, List.set_cons_zero, List.set_cons_succ, i64_w, i32_w]
         rfl
        refine take_ (i := 7) (N := some 78) (v := ?_) (a' := ?_) #[true, true, true, true, true, true, true, true, true, true, true, false, false, false] rfl rfl (take_ofW HT_.out HW_.out (by kernel_rfl)) (fun _ _ _ h => h) (Or.inl ⟨by rfl, ?_⟩) hHeld ?_ ?_
        rotate_left
        ·rintro w' ⟨s0, s1, s2⟩
         go_simp
         with_reducible rfl
        rotate_left
        ·simp only [Act.put, List.setIfInBounds_toArray, List.set_cons_zero, List.set_cons_succ, i64_w, i32_w]
         rfl
        refine pu HT_ 11 82 2 ?_; refine pu HT_ 12 83 1 ?_; refine last_ (i := 13) (N := none) #[true, true, true, true, true, true, true, true, true, true, true, true, true, true] rfl rfl (one_of HT_.out (by kernel_rfl)) (by decide) (fun K hK => ?_); refine skip_ (w1 := ?_) (by rfl) rfl ?_ ?_
        rotate_left
        ·go_simp
         rfl
        refine hK.out _ _ ?_; clear hK K; refine done_ (done_of HT_.out (by kernel_rfl)) ?_; have n0_ : Aside0 (Kd.R (Kd.int .u64) 93 (w62.setCell ⟨go61, ((ji55) : Int).toNat, none⟩ (.int .u64 (Go.bits .and .u64 (rd x321001_1 (ji55)) (IntKind.u64.wrap ((ji60) - 1))))) w.heap.size (fun _ => True) (.slice (some ⟨go61, 0, none⟩) x321001_1.length co63) y327) := ⟨rl HQ64⟩; have n1_ : Aside0 ((w62.setCell ⟨go61, ((ji55) : Int).toNat, none⟩ (.int .u64 (Go.bits .and .u64 (rd x321001_1 (ji55)) (IntKind.u64.wrap ((ji60) - 1))))).heap[gb314]? = some (.cells #[.int .i64 a0_0, .slice A0_1 l0_1.length c0_1] 41 (0, 0))) := ⟨by (with_reducible repeat (first | refine blk_drewN ?_ _ | refine blk_drew ?_ | refine blk_alloc ?_ _)); refine blk_far ?_ (by have h_ := Kd.R_ne HO_321001.out BK314.out (by decide); intro e_; exact h_ (by rw [e_]; rfl)) _; (with_reducible repeat (first | refine blk_drewN ?_ _ | refine blk_drew ?_ | refine blk_alloc ?_ _)); exact BK314.out⟩; have n2_ : Aside0 ((w62.setCell ⟨go61, ((ji55) : Int).toNat, none⟩ (.int .u64 (Go.bits .and .u64 (rd x321001_1 (ji55)) (IntKind.u64.wrap ((ji60) - 1))))).heap[gb315]? = some (.cells #[.int .i64 0, .slice none 0 0] 41 (0, 0))) := ⟨by (with_reducible repeat (first | refine blk_drewN ?_ _ | refine blk_drew ?_ | refine blk_alloc ?_ _)); refine blk_far ?_ (by have h_ := Kd.R_ne HO_321001.out BK315.out (by decide); intro e_; exact h_ (by rw [e_]; rfl)) _; (with_reducible repeat (first | refine blk_drewN ?_ _ | refine blk_drew ?_ | refine blk_alloc ?_ _)); exact BK315.out⟩; have n3_ : Aside0 ((w62.setCell ⟨go61, ((ji55) : Int).toNat, none⟩ (.int .u64 (Go.bits .and .u64 (rd x321001_1 (ji55)) (IntKind.u64.wrap ((ji60) - 1))))).heap[gb320]? = some (.cells #[.int .i64 t316, .slice (some ⟨go61, 0, none⟩) x321001_1.length co63] 41 (0, 0))) := ⟨by (with_reducible repeat (first | refine blk_drewN ?_ _ | refine blk_drew ?_ | refine blk_alloc ?_ _)); refine blk_far ?_ (by have h_ := Kd.R_ne HO_321001.out BK320.out (by decide); intro e_; exact h_ (by rw [e_]; rfl)) _; (with_reducible repeat (first | refine blk_drewN ?_ _ | refine blk_drew ?_ | refine blk_alloc ?_ _)); exact BK320.out⟩
        have n4_ : Aside0 (Below w.heap.size w (w62.setCell ⟨go61, ((ji55) : Int).toNat, none⟩ (.int .u64 (Go.bits .and .u64 (rd x321001_1 (ji55)) (IntKind.u64.wrap ((ji60) - 1)))))) := ⟨by repeat (first | (with_reducible first | exact HB.out | apply below_alloc | apply pw_below_drewN | apply below_drew1 | refine below_set ?_ GB61.out | refine below_set ?_ GE314.out | refine below_set ?_ GE315.out | refine below_set ?_ GE320.out) | exact HB.out)⟩; (try clear HO_321001)
        (try clear BK314); (try clear BK315)
        (try clear BK320); (try clear HB)
        generalize (w62.setCell ⟨go61, ((ji55) : Int).toNat, none⟩ (.int .u64 (Go.bits .and .u64 (rd x321001_1 (ji55)) (IntKind.u64.wrap ((ji60) - 1))))) = w65 at n0_ n1_ n2_ n3_ n4_ ⊢; have HO_321001 := n0_; have BK314 := n1_; have BK315 := n2_; have BK320 := n3_; have HB := n4_; clear n0_ n1_ n2_ n3_ n4_; have hnb66 := NB320_314.out; have hnc66 := NB314_320.out; have hnb67 := NB320_315.out; have hnc67 := NB315_320.out
        (try have hnr68 : go61 ≠ gb320 := (by have h_ := Kd.R_ne HO_321001.out BK320.out (by decide); intro e_; exact h_ (by rw [e_]; rfl)))
        (try have hns68 : gb320 ≠ go61 := Ne.symm hnr68)
        have hcz69_0 : w65.cell? ⟨gb320, 0, none⟩ = some (.int .i64 t316) := (blk_cell BK320.out 0).trans rfl; have hcz69_1 : w65.cell? ⟨gb320, 1, none⟩ = some (.slice (some ⟨go61, 0, none⟩) x321001_1.length co63) := (blk_cell BK320.out 1).trans rfl; have hfz69_0 := blk_frozen BK320.out 0; have hfz69_1 := blk_frozen BK320.out 1; have hnb70 := NB315_314.out; have hnc70 := NB314_315.out
        (try have hnr71 : go61 ≠ gb315 := (by have h_ := Kd.R_ne HO_321001.out BK315.out (by decide); intro e_; exact h_ (by rw [e_]; rfl)))
        (try have hns71 : gb315 ≠ go61 := Ne.symm hnr71)
        have hcz72_0 : w65.cell? ⟨gb315, 0, none⟩ = some (.int .i64 0) := (blk_cell BK315.out 0).trans rfl; have hcz72_1 : w65.cell? ⟨gb315, 1, none⟩ = some (.slice none 0 0) := (blk_cell BK315.out 1).trans rfl; have hfz72_0 := blk_frozen BK315.out 0; have hfz72_1 := blk_frozen BK315.out 1
        try go_wp2
        refine bodyPost_ret (results_cell_row rfl _ _ gb315 41 #[.int .i64 t316, .slice (some ⟨go61, 0, none⟩) x321001_1.length co63] (0, 0) _ rfl (by (with_reducible repeat (first | refine blk_drewN ?_ _ | refine blk_drew ?_ | refine blk_alloc ?_ _)); refine blk_put (cs := #[.int .i64 t316, .slice none 0 0]) ?_ 1 _ rfl; (with_reducible repeat (first | refine blk_drewN ?_ _ | refine blk_drew ?_ | refine blk_alloc ?_ _)); refine blk_put (cs := #[.int .i64 0, .slice none 0 0]) ?_ 0 _ rfl; (with_reducible repeat (first | refine blk_drewN ?_ _ | refine blk_drew ?_ | refine blk_alloc ?_ _)); exact BK315.out) Try.underlying41 rfl (by kernel_rfl)) rfl ?_
        exact ⟨_, by first | rfl | (simp [errW_none, errW_some] <;> rfl) | (simp only [← hji55, ← hji58, ← hji60]; first | rfl | (simp [errW_none, errW_some] <;> rfl)) | (simp [*, errW_none, errW_some] <;> rfl), by (with_reducible repeat (first | apply Kd.R_alloc | apply Kd.R_drewN | apply Kd.R_drew)); exact Kd.R_mono (Kd.R_far (p := ⟨gb315, 1, none⟩) (Kd.R_far (p := ⟨gb315, 0, none⟩) (Kd.R_types HO_321001.out BK315.out (by decide)) (fun _ hk => hk.2) (.int .i64 t316)) (fun _ hk => hk.2) (.slice (some ⟨go61, 0, none⟩) x321001_1.length co63)) (fun _ hk => trivial), bs3 HB GE314 GE315 GE320⟩
       ·rw [if_neg c59] at H
        exact absurd H (by simp)
      ·rw [if_neg c57] at H
       exact absurd H (by simp)
     ·rw [if_neg c56] at H
      exact absurd H (by simp)

end Go.Proofs.Ytjnmenadlnajeaa.PFnExactFlatEval
