-- Written by a program of this session (a turned copy of the kit's printer); Lean checks it.
-- half the depth
import Derived.Test.YtjnmenadlnajeaaPFnExactFlatJoinx0
namespace Go.Proofs.Ytjnmenadlnajeaa.PFnExactFlatJoin
open Go.RowKit Go.Proofs.YtjnmenadlnajeaaW.PrintWords Go.Proofs.YtjnmenadlnajeaaW.PrintLast Go.Proofs.YtjnmenadlnajeaaW.PrintMore
attribute [local go_sem] max2_int min2_int max_two min_two max_three min_three max_four min_four   -- for this text's walks alone
set_option linter.unusedVariables false
set_option linter.unusedSimpArgs false

/-! ### impl_Bits_put: function 52 -/
def impl_Bits_put.l0 : Nat → Int → List Int → Int → Int → Int → List Int → Option (List Int)
 | 0, _, _, _, _, _, _ => none
 | k + 1, x1, x10, x11, x12, x313000, x313001 => if x12 < x11 then (if 0 ≤ x12 then (if x12 < (x10.length : Int) then (if 0 ≤ (wrap64 (Int.tdiv (wrap64 (x1 + (wrap64 (64 * x12)))) 64)) then (if (wrap64 (Int.tdiv (wrap64 (x1 + (wrap64 (64 * x12)))) 64)) < (x313001.length : Int) then (if 0 ≤ (Int.tmod (wrap64 (x1 + (wrap64 (64 * x12)))) 64) then ((some (x313001.set ((wrap64 (Int.tdiv (wrap64 (x1 + (wrap64 (64 * x12)))) 64)) : Int).toNat (Go.bits .or .u64 (rd x313001 (wrap64 (Int.tdiv (wrap64 (x1 + (wrap64 (64 * x12)))) 64))) (shl .u64 (rd x10 x12) (Int.tmod (wrap64 (x1 + (wrap64 (64 * x12)))) 64))) : List Int)).bind fun y316 => (if (Int.tmod (wrap64 (x1 + (wrap64 (64 * x12)))) 64) = 0 then (impl_Bits_put.l0 k x1 x10 x11 (wrap64 (x12 + 1)) x313000 y316) else (if (wrap64 ((wrap64 (Int.tdiv (wrap64 (x1 + (wrap64 (64 * x12)))) 64)) + 1)) < (x313001.length : Int) then (if 0 ≤ (wrap64 ((wrap64 (Int.tdiv (wrap64 (x1 + (wrap64 (64 * x12)))) 64)) + 1)) then (if 0 ≤ (wrap64 (64 - (Int.tmod (wrap64 (x1 + (wrap64 (64 * x12)))) 64))) then (impl_Bits_put.l0 k x1 x10 x11 (wrap64 (x12 + 1)) x313000 (y316.set ((wrap64 ((wrap64 (Int.tdiv (wrap64 (x1 + (wrap64 (64 * x12)))) 64)) + 1)) : Int).toNat (Go.bits .or .u64 (rd y316 (wrap64 ((wrap64 (Int.tdiv (wrap64 (x1 + (wrap64 (64 * x12)))) 64)) + 1))) (shr .u64 (rd x10 x12) (wrap64 (64 - (Int.tmod (wrap64 (x1 + (wrap64 (64 * x12)))) 64))))))) else (none)) else (none)) else (impl_Bits_put.l0 k x1 x10 x11 (wrap64 (x12 + 1)) x313000 y316)))) else (none)) else (none)) else (none)) else (none)) else (none)) else (some x313001)
def impl_Bits_put.f (k : Nat) (a0_0 : Int) (l0_1 : List Int) (a1 : Int) (a2_0 : Int) (l2_1 : List Int) : Option (List Int) := impl_Bits_put.l0 k a1 l2_1 (l2_1.length : Int) 0 a0_0 l0_1
def impl_Bits_put.T5 : Bool × List (List Nat × List Nat) := (true, [([], []), ([0], [0]), ([], []), ([2], [2]), ([1, 3], [1, 3]), ([4], [4]), ([], []), ([], []), ([7], [7]), ([6, 8], [6, 8]), ([5, 9], [5, 9]), ([1, 3, 0, 1, 2, 3, 4, 5, 6, 7, 8, 9, 10], [1, 3]), ([11, 10, 0, 1, 2, 3, 4, 5, 6, 7, 8, 9, 10], [10, 11])])
def impl_Bits_put.B5 : List Nat := [0, 1, 0, 4, 15, 31, 0, 0, 128, 448, 1023, 2047, 4095]
theorem impl_Bits_put.tab5 : rtab .any (opsOf Try.f52 5) = impl_Bits_put.T5 := by kernel_rfl
theorem impl_Bits_put.bits5 : waitsOk impl_Bits_put.T5.2 impl_Bits_put.B5 = true := by kernel_rfl
def impl_Bits_put.T7 : Bool × List (List Nat × List Nat) := (true, [([], []), ([0], [0]), ([], []), ([2], [2]), ([3], [3]), ([1, 4], [1, 4]), ([5], [5]), ([], []), ([], []), ([8], [8]), ([9], [9]), ([7, 10], [7, 10]), ([6, 11], [6, 11]), ([1, 4, 0, 1, 2, 3, 4, 5, 6, 7, 8, 9, 10, 11, 12], [1, 4]), ([13, 12, 0, 1, 2, 3, 4, 5, 6, 7, 8, 9, 10, 11, 12], [12, 13])])
def impl_Bits_put.B7 : List Nat := [0, 1, 0, 4, 12, 31, 63, 0, 0, 256, 768, 1920, 4095, 8191, 16383]
theorem impl_Bits_put.tab7 : rtab .any (opsOf Try.f52 7) = impl_Bits_put.T7 := by kernel_rfl
theorem impl_Bits_put.bits7 : waitsOk impl_Bits_put.T7.2 impl_Bits_put.B7 = true := by kernel_rfl
set_option maxHeartbeats 8000000 in
set_option maxRecDepth 100000 in
theorem impl_Bits_put.calls (k : Nat) (a0_0 : Int) (P0_1_ : Nat → Prop) (u9000_ : Value) (l0_1 : List Int) (a1 : Int) (a2_0 : Int) (A2_1 : Option Addr) (c2_1 : Nat) (l2_1 : List Int) (r : List Int) (w0 w : World) (hB : Below w0.heap.size w0 w) (ho0_1 : Kd.R (Kd.int .u64) 93 w w0.heap.size P0_1_ u9000_ l0_1) (hr2_1 : ∀ W_, Kept w W_ (fun k_ => P0_1_ k_) → Kd.C (Kd.int .u64) W_ A2_1 l2_1.length l2_1) (hc2_1 : l2_1.length ≤ c2_1) (h : impl_Bits_put.f k a0_0 l0_1 a1 a2_0 l2_1 = some r) :
  Calls Try.prog 52 #[.agg #[.int .i64 a0_0, u9000_], .int .i64 a1, .agg #[.int .i64 a2_0, .slice A2_1 l2_1.length c2_1]] w fun e w' => e = .returned (.tuple #[]) ∧ Kd.R (Kd.int .u64) 93 w' w0.heap.size (fun k_ => (P0_1_ k_ ∨ w.heap.size ≤ k_)) u9000_ r ∧ Below w0.heap.size w0 w' ∧ Kept w w' (fun k_ => P0_1_ k_) := by
 have hu41 := Try.underlying41; have HO0_1 := Aside0.mk (show Kd.R (Kd.int .u64) 93 w w0.heap.size (fun k_ => (P0_1_ k_ ∨ w.heap.size ≤ k_)) u9000_ l0_1 from Kd.R_mono ho0_1 (fun k_ hk => (.inl hk))); have HR2_1 := Aside0.mk hr2_1; have HC2_1 := Aside0.mk hc2_1; clear hr2_1 hc2_1; have HK := Aside0.mk (Kept.refl w (fun k_ => P0_1_ k_)); have HW0 := Aside0.mk hB.size; have HB := Aside0.mk hB; clear hB; have H : (impl_Bits_put.l0 k a1 l2_1 (l2_1.length : Int) 0 a0_0 l0_1) = some r := h; clear h; have H' := Aside0.mk H; clear H; obtain ⟨Ao4, co4, eo4⟩ := Kd.R_slice HO0_1.out
 subst eo4
 go_enter Try.func52, Try.ntmps52
 go_wp2_with (first | ((with_reducible refine gate_dst (N := 3) rfl ?_); (try (refine gate_guard (by rfl) ?_; dsimp only)); refine box_event ?hg (N := 3) ?hd (cs := #[.int .i64 a0_0, .slice Ao4 l0_1.length co4]) (t := 41) ?hr ?_; (case hd => rfl); (case hg => rfl); (case hr => first | (go_simp; done) | (go_simp; rfl)); intro gb312 hg w5 hbox hb; have n0_ := Aside0.mk (Kd.R_below (rl HO0_1) hb); have n1_ := Aside0.mk (Kept.below (S := (fun k_ => P0_1_ k_)) (by repeat (first | (with_reducible first | exact HK.out | apply Kept.alloc | apply Kept.drewN | apply Kept.drew) | exact HK.out)) hb); have n2_ := Aside0.mk (below_step (bl HB) hb); have n3_ := Aside0.mk (hbox); have n4_ := Aside0.mk ((by rw [hg]; exact (by first | exact HK.out.1 | exact (show Kept w _ (fun k_ => P0_1_ k_) from by repeat (first | (with_reducible first | exact HK.out | apply Kept.alloc | apply Kept.drewN | apply Kept.drew) | exact HK.out)).1) : w.heap.size ≤ gb312)); have n5_ := Aside0.mk ((by rw [hg]; exact (below_size (bl HB)) : w0.heap.size ≤ gb312)); clear HO0_1; clear HK; clear HB; have HO0_1 := n0_; have HK := n1_; have HB := n2_; have BK312 := n3_; have GW312 := n4_; have GE312 := n5_; clear n0_ n1_ n2_ n3_ n4_ n5_; clear hb hbox hg) | ((with_reducible refine gate_dst (N := 5) rfl ?_); (try (refine gate_guard (by rfl) ?_; dsimp only)); refine box_event ?hg (N := 5) ?hd (cs := #[.int .i64 a2_0, .slice A2_1 l2_1.length c2_1]) (t := 41) ?hr ?_; (case hd => rfl); (case hg => rfl); (case hr => first | (go_simp; done) | (go_simp; rfl)); intro gb313 hg w6 hbox hb; have n0_ := Aside0.mk (Kd.R_below (rl HO0_1) hb); have n1_ := Aside0.mk (blk_below (g := gb312) (o := .cells #[.int .i64 a0_0, .slice Ao4 l0_1.length co4] 41 (0, 0)) (bk BK312) hb); have n2_ := Aside0.mk (Kept.below (S := (fun k_ => P0_1_ k_)) (by repeat (first | (with_reducible first | exact HK.out | apply Kept.alloc | apply Kept.drewN | apply Kept.drew | refine Kept.setCell ?_ (.inr GW312.out) _) | exact HK.out)) hb); have n3_ := Aside0.mk (below_step (bs HB GE312) hb); have n4_ := Aside0.mk (hbox); have n5_ := Aside0.mk ((by rw [hg]; exact (by first | exact HK.out.1 | exact (show Kept w _ (fun k_ => P0_1_ k_) from by repeat (first | (with_reducible first | exact HK.out | apply Kept.alloc | apply Kept.drewN | apply Kept.drew | refine Kept.setCell ?_ (.inr GW312.out) _) | exact HK.out)).1) : w.heap.size ≤ gb313)); have n6_ := Aside0.mk ((by rw [hg]; exact (below_size (bs HB GE312)) : w0.heap.size ≤ gb313)); have n7_ := Aside0.mk ((by rw [hg]; exact Nat.ne_of_lt (blk_lt (g := gb312) (o := .cells #[.int .i64 a0_0, .slice Ao4 l0_1.length co4] 41 (0, 0)) (bk BK312)) : gb312 ≠ gb313)); have n8_ := Aside0.mk ((by rw [hg]; exact Nat.ne_of_gt (blk_lt (g := gb312) (o := .cells #[.int .i64 a0_0, .slice Ao4 l0_1.length co4] 41 (0, 0)) (bk BK312)) : gb313 ≠ gb312)); clear HO0_1; clear BK312; clear HK; clear HB; have HO0_1 := n0_; have BK312 := n1_; have HK := n2_; have HB := n3_; have BK313 := n4_; have GW313 := n5_; have GE313 := n6_; have NB312_313 := n7_; have NB313_312 := n8_; clear n0_ n1_ n2_ n3_ n4_ n5_ n6_ n7_ n8_; clear hb hbox hg; have hnb7 := NB313_312.out; have hnc7 := NB312_313.out; have hcz8_0 : w6.cell? ⟨gb313, 0, none⟩ = some (.int .i64 a2_0) := (blk_cell BK313.out 0).trans rfl; have hcz8_1 : w6.cell? ⟨gb313, 1, none⟩ = some (.slice A2_1 l2_1.length c2_1) := (blk_cell BK313.out 1).trans rfl; have hfz8_0 := blk_frozen BK313.out 0; have hfz8_1 := blk_frozen BK313.out 1))
 go_loopg [12] k (fun kq v12 w' => ∃ (x12_1 : Int) (x313001_1 : List Int), v12 = .int .i64 x12_1 ∧ Aside0 (impl_Bits_put.l0 kq a1 l2_1 (l2_1.length : Int) x12_1 a0_0 x313001_1 = some r) ∧ Aside0 (kq ≤ k) ∧ Aside0 (Kd.R (Kd.int .u64) 93 w' w0.heap.size (fun k_ => (P0_1_ k_ ∨ w.heap.size ≤ k_)) (.slice Ao4 l0_1.length co4) x313001_1) ∧ Aside0 (w'.heap[gb312]? = some (.cells #[.int .i64 a0_0, (.slice Ao4 l0_1.length co4)] 41 (0, 0))) ∧ Aside0 (w'.heap[gb313]? = some (.cells #[.int .i64 a2_0, (.slice A2_1 l2_1.length c2_1)] 41 (0, 0))) ∧ Aside0 (Kept w w' (fun k_ => P0_1_ k_)) ∧ Aside0 (Below w0.heap.size w0 w'))
 case atStart => exact ⟨(0), (l0_1), au, H', ⟨Nat.le_refl _⟩, ⟨rl HO0_1⟩, ⟨bk BK312⟩, ⟨bk BK313⟩, ⟨by repeat (first | (with_reducible first | exact HK.out | apply Kept.alloc | apply Kept.drewN | apply Kept.drew | refine Kept.setCell ?_ (.inr GW312.out) _ | refine Kept.setCell ?_ (.inr GW313.out) _) | exact HK.out)⟩, ⟨bs2 HB GE312 GE313⟩⟩
 case round =>
  clear H'
  try clear c2
  try clear p2
  try clear c5
  try clear c7
  try clear hcz8_0
  try clear hcz8_1
  try clear hfz8_0
  try clear hfz8_1
  obtain ⟨x12_1, x313001_1, rfl, HA, HK1, HO_313001, BK312, BK313, HK, HB⟩ := hrel; have hl313001_1 := (Kd.R_reads' HO_313001.out).1; rw [hl313001_1] at HO_313001
  (try simp only [hl313001_1])
  (try simp only [hl313001_1] at BK312)
  (try simp only [hl313001_1] at BK313)
  cases gk with
  | zero => exact absurd HA.out (by simp [impl_Bits_put.l0])
  | succ k1 =>
   have H := HA.out; clear HA
   simp only [impl_Bits_put.l0] at H
   by_cases c9 : x12_1 < (l2_1.length : Int)
   ·rw [if_pos c9] at H
    have c9b0 : decide (x12_1 < (l2_1.length : Int)) = true := decide_eq_true c9; clear c9
    by_cases c10 : 0 ≤ x12_1
    ·rw [if_pos c10] at H
     have c10b0 : decide (0 ≤ x12_1) = true := decide_eq_true c10; clear c10
     by_cases c11 : x12_1 < (l2_1.length : Int)
     ·rw [if_pos c11] at H
      have c11b0 : decide (x12_1 < (l2_1.length : Int)) = true := decide_eq_true c11; clear c11; obtain ⟨ji12, hji12⟩ : ∃ j_ : Int, (wrap64 (Int.tdiv (wrap64 (a1 + (wrap64 (64 * x12_1)))) 64)) = j_ := ⟨_, rfl⟩
      replace H : (if 0 ≤ (ji12) then (if (ji12) < (x313001_1.length : Int) then (if 0 ≤ (Int.tmod (wrap64 (a1 + (wrap64 (64 * x12_1)))) 64) then ((some (x313001_1.set ((ji12) : Int).toNat (Go.bits .or .u64 (rd x313001_1 (ji12)) (shl .u64 (rd l2_1 x12_1) (Int.tmod (wrap64 (a1 + (wrap64 (64 * x12_1)))) 64))) : List Int)).bind fun y316 => (if (Int.tmod (wrap64 (a1 + (wrap64 (64 * x12_1)))) 64) = 0 then (impl_Bits_put.l0 k1 a1 l2_1 (l2_1.length : Int) (wrap64 (x12_1 + 1)) a0_0 y316) else (if (wrap64 ((ji12) + 1)) < (x313001_1.length : Int) then (if 0 ≤ (wrap64 ((ji12) + 1)) then (if 0 ≤ (wrap64 (64 - (Int.tmod (wrap64 (a1 + (wrap64 (64 * x12_1)))) 64))) then (impl_Bits_put.l0 k1 a1 l2_1 (l2_1.length : Int) (wrap64 (x12_1 + 1)) a0_0 (y316.set ((wrap64 ((ji12) + 1)) : Int).toNat (Go.bits .or .u64 (rd y316 (wrap64 ((ji12) + 1))) (shr .u64 (rd l2_1 x12_1) (wrap64 (64 - (Int.tmod (wrap64 (a1 + (wrap64 (64 * x12_1)))) 64))))))) else (none)) else (none)) else (impl_Bits_put.l0 k1 a1 l2_1 (l2_1.length : Int) (wrap64 (x12_1 + 1)) a0_0 y316)))) else (none)) else (none)) else (none)) = some r := by first | (rw [hji12] at H; exact H) | (simp only [hji12] at H ⊢; exact H)
      have hji12w : (IntKind.i64.wrap (Int.tdiv (wrap64 (a1 + (wrap64 (64 * x12_1)))) 64)) = ji12 := (i64_w _).trans hji12
      by_cases c13 : 0 ≤ (ji12)
      ·rw [if_pos c13] at H
       have c13b0 : decide (0 ≤ (ji12)) = true := decide_eq_true c13; clear c13
       by_cases c14 : (ji12) < (x313001_1.length : Int)
       ·rw [if_pos c14] at H
        have c14b0 : decide ((ji12) < (x313001_1.length : Int)) = true := decide_eq_true c14; clear c14; obtain ⟨ji15, hji15⟩ : ∃ j_ : Int, (Int.tmod (wrap64 (a1 + (wrap64 (64 * x12_1)))) 64) = j_ := ⟨_, rfl⟩
        replace H : (if 0 ≤ (ji15) then ((some (x313001_1.set ((ji12) : Int).toNat (Go.bits .or .u64 (rd x313001_1 (ji12)) (shl .u64 (rd l2_1 x12_1) (ji15))) : List Int)).bind fun y316 => (if (ji15) = 0 then (impl_Bits_put.l0 k1 a1 l2_1 (l2_1.length : Int) (wrap64 (x12_1 + 1)) a0_0 y316) else (if (wrap64 ((ji12) + 1)) < (x313001_1.length : Int) then (if 0 ≤ (wrap64 ((ji12) + 1)) then (if 0 ≤ (wrap64 (64 - (ji15))) then (impl_Bits_put.l0 k1 a1 l2_1 (l2_1.length : Int) (wrap64 (x12_1 + 1)) a0_0 (y316.set ((wrap64 ((ji12) + 1)) : Int).toNat (Go.bits .or .u64 (rd y316 (wrap64 ((ji12) + 1))) (shr .u64 (rd l2_1 x12_1) (wrap64 (64 - (ji15))))))) else (none)) else (none)) else (impl_Bits_put.l0 k1 a1 l2_1 (l2_1.length : Int) (wrap64 (x12_1 + 1)) a0_0 y316)))) else (none)) = some r := by first | (rw [hji15] at H; exact H) | (simp only [hji15] at H ⊢; exact H)
        by_cases c16 : 0 ≤ (ji15)
        ·rw [if_pos c16] at H
         have c16b0 := eq_true c16; have c16b1 : decide (0 ≤ (ji15)) = true := decide_eq_true c16; clear c16; obtain ⟨ji17, hji17⟩ : ∃ j_ : Int, (shl .u64 (rd l2_1 x12_1) (ji15)) = j_ := ⟨_, rfl⟩
         replace H : ((some (x313001_1.set ((ji12) : Int).toNat (Go.bits .or .u64 (rd x313001_1 (ji12)) (ji17)) : List Int)).bind fun y316 => (if (ji15) = 0 then (impl_Bits_put.l0 k1 a1 l2_1 (l2_1.length : Int) (wrap64 (x12_1 + 1)) a0_0 y316) else (if (wrap64 ((ji12) + 1)) < (x313001_1.length : Int) then (if 0 ≤ (wrap64 ((ji12) + 1)) then (if 0 ≤ (wrap64 (64 - (ji15))) then (impl_Bits_put.l0 k1 a1 l2_1 (l2_1.length : Int) (wrap64 (x12_1 + 1)) a0_0 (y316.set ((wrap64 ((ji12) + 1)) : Int).toNat (Go.bits .or .u64 (rd y316 (wrap64 ((ji12) + 1))) (shr .u64 (rd l2_1 x12_1) (wrap64 (64 - (ji15))))))) else (none)) else (none)) else (impl_Bits_put.l0 k1 a1 l2_1 (l2_1.length : Int) (wrap64 (x12_1 + 1)) a0_0 y316)))) = some r := by first | (rw [hji17] at H; exact H) | (simp only [hji17] at H ⊢; exact H)
         have hji17_ : (IntKind.u64.wrap ((rd l2_1 x12_1) * 2 ^ min (ji15).toNat 64)) = ji17 := hji17; have hji17z : (ji15) ≤ 64 → (IntKind.u64.wrap ((rd l2_1 x12_1) * 2 ^ (ji15).toNat)) = ji17 := shl_small hji17
         (try have hji17k := hji17z (by first | omega | (rw [← hji15]; exact Int.le_of_lt (Int.tmod_lt_of_pos _ (by decide)))))
         obtain ⟨y316, hy316⟩ : ∃ y_ : List Int, y_ = (x313001_1.set ((ji12) : Int).toNat (Go.bits .or .u64 (rd x313001_1 (ji12)) (ji17))) := ⟨_, rfl⟩
         replace H : (if (ji15) = 0 then (impl_Bits_put.l0 k1 a1 l2_1 (l2_1.length : Int) (wrap64 (x12_1 + 1)) a0_0 y316) else (if (wrap64 ((ji12) + 1)) < (x313001_1.length : Int) then (if 0 ≤ (wrap64 ((ji12) + 1)) then (if 0 ≤ (wrap64 (64 - (ji15))) then (impl_Bits_put.l0 k1 a1 l2_1 (l2_1.length : Int) (wrap64 (x12_1 + 1)) a0_0 (y316.set ((wrap64 ((ji12) + 1)) : Int).toNat (Go.bits .or .u64 (rd y316 (wrap64 ((ji12) + 1))) (shr .u64 (rd l2_1 x12_1) (wrap64 (64 - (ji15))))))) else (none)) else (none)) else (impl_Bits_put.l0 k1 a1 l2_1 (l2_1.length : Int) (wrap64 (x12_1 + 1)) a0_0 y316))) = some r := by first | (rw [hy316]; with_reducible exact H) | (have H2_ := (Option.bind_some _ _).symm.trans H; rw [hy316]; with_reducible exact H2_) | (have H2_ := (Option.bind_some _ _).symm.trans H; with_reducible exact H2_) | with_reducible exact H | (rw [hy316]; exact H) | exact H
         have Ny316 := Aside0.mk hy316; clear hy316
         by_cases c19 : (ji15) = 0
         ·rw [if_pos c19] at H
          have c19b0 : ((ji15) == 0) = true := beq_iff_eq.mpr c19; have c19b1 : ((ji15) != 0) = false := bne_eq_false_iff_eq.mpr c19; clear c19; have H' := Aside0.mk H; clear H; have p314 : 0 ≤ (x12_1 : Int) := ode; have q314 : x12_1 < (l2_1.length : Int) := ode; obtain ⟨ad314, e314, hx314_0⟩ := Kd.at_int (Kd.C_kept_now HR2_1.out HK.out) x12_1 p314 q314
          cases e314
          replace p314 := eq_true p314; replace q314 := eq_true q314
          try go_wp2
          have n0_ := Aside0.mk (Kd.R_drew HO_313001.out); have n1_ := Aside0.mk (blk_drew BK312.out); have n2_ := Aside0.mk (blk_drew BK313.out); have n3_ := Aside0.mk (Kept.drew HK.out); have n4_ := Aside0.mk (below_drew1 HB.out); clear HO_313001; clear BK312; clear BK313; clear HK; clear HB; have HO_313001 := n0_; have BK312 := n1_; have BK313 := n2_; have HK := n3_; have HB := n4_; clear n0_ n1_ n2_ n3_ n4_; have p315 : 0 ≤ ((ji12) : Int) := ode; have q315 : (ji12) < (x313001_1.length : Int) := ode; obtain ⟨ad315, e315, hx315_0⟩ := Kd.at_int (Kd.R_reads' HO_313001.out).2.2 (ji12) p315 q315
          cases e315
          replace p315 := eq_true p315; replace q315 := eq_true q315; have p18 : 0 ≤ ((ji12) : Int) := ode; have q18 : ((ji12) : Int) < ((x313001_1.length : Int) : Int) := ode; obtain ⟨go18, co18, eo18, gb18, gl18, cl18, HG18⟩ := Kd.R_form HO_313001.out (by omega)
          (first | cases eo18 | (injection eo18 with ea_ en_ ec_; (first | subst ea_ | (injection ea_ with ea_; subst ea_)); subst ec_; clear en_))
          have GB18 := Aside0.mk gb18; have GG18 := Aside0.mk HG18; clear gb18 gl18 HG18; have HMgo18 := Aside0.mk (show (P0_1_ go18 ∨ w.heap.size ≤ go18) from (HO_313001.out.1 _ rfl))
          (first | simp only [add_plain] at hx315_0 | skip)
          obtain ⟨hx18_0, hf18_0⟩ := Kd.R_celln 0 HO_313001.out ((ji12) : Int) p18 q18; replace p18 := eq_true p18; replace q18 := eq_true q18; have HP21 := Kd.R_putn HO_313001.out ((ji12) : Int) (Go.bits .or .u64 (rd x313001_1 (ji12)) (ji17)); rw [← Ny316.out] at HP21; have HQ21 := Aside0.mk HP21; clear HP21; refine start_ (n := 13) (S := fun w' => w'.cell? ⟨gb312, 0, none⟩ = some (.int .i64 a0_0) ∧ w'.cell? ⟨gb312, 1, none⟩ = some (.slice (some ⟨go18, 0, none⟩) x313001_1.length co4) ∧ w'.cell? ⟨go18, ((ji12)).toNat, none⟩ = some (.int .u64 (rd x313001_1 (ji12)))) (ds := [12]) #[false, false, false, false, false, false, false, false, false, false, false, false, false] (by kernel_rfl) rfl rfl ⟨(blk_cell BK312.out 0).trans rfl, (blk_cell BK312.out 1).trans rfl, hx315_0⟩ (fun hHeld => ?_); refine with_tabW impl_Bits_put.tab5 impl_Bits_put.bits5 (fun HT_ HW_ => ?_); generalize wr.drew = w20 at HO_313001 BK312 BK313 HK HB GG18 HQ21 hf18_0 hx18_0 hx315_0 hHeld ⊢; refine pu HT_ 0 21 12 ?_; refine pure_ (i := 2) (N := some 23) (v := ?_) (a' := ?_) #[true, false, true, false, false, false, false, false, false, false, false, false, false] rfl rfl (any_of HT_.out (by kernel_rfl)) (fun _ _ _ h => h) (Or.inl ⟨by rfl, ?_⟩) ?_ ?_
          rotate_left
          ·intro w'
           go_simp
           with_reducible rfl
          rotate_left
          ·simp only [Act.put, List.setIfInBounds_toArray, List.set_cons_zero, List.set_cons_succ, i64_w, i32_w]
           rfl
          refine pure_ (i := 3) (N := some 24) (v := ?_) (a' := ?_) #[true, false, true, true, false, false, false, false, false, false, false, false, false] rfl rfl (any_of HT_.out (by kernel_rfl)) (fun _ _ _ h => h) (Or.inl ⟨by rfl, ?_⟩) ?_ ?_
          rotate_left
          ·intro w'
           go_simp
           with_reducible rfl
          rotate_left
          ·simp only [Act.put, List.setIfInBounds_toArray, List.set_cons_zero, List.set_cons_succ, i64_w, i32_w]
           rfl
          refine pure_ (i := 6) (N := some 27) (v := ?_) (a' := ?_) #[true, false, true, true, false, false, true, false, false, false, false, false, false] rfl rfl (any_of HT_.out (by kernel_rfl)) (fun _ _ _ h => h) (Or.inl ⟨by rfl, ?_⟩) ?_ ?_
          rotate_left
          ·intro w'
           go_simp
           with_reducible rfl
          rotate_left
          ·simp only [Act.put, List.setIfInBounds_toArray, List.set_cons_zero, List.set_cons_succ, i64_w, i32_w]
           rfl
          refine pure_ (i := 7) (N := some 28) (v := ?_) (a' := ?_) #[true, false, true, true, false, false, true, true, false, false, false, false, false] rfl rfl (any_of HT_.out (by kernel_rfl)) (fun _ _ _ h => h) (Or.inl ⟨by rfl, ?_⟩) ?_ ?_
          rotate_left
          ·intro w'
           go_simp
           with_reducible rfl
          rotate_left
          ·simp only [Act.put, List.setIfInBounds_toArray, List.set_cons_zero, List.set_cons_succ, i64_w, i32_w]
           rfl
          refine pure_ (i := 8) (N := some 29) (v := ?_) (a' := ?_) #[true, false, true, true, false, false, true, true, true, false, false, false, false] rfl rfl (any_of HT_.out (by kernel_rfl)) (fun _ _ _ h => h) (Or.inl ⟨by rfl, ?_⟩) ?_ ?_
          rotate_left
          ·intro w'
           go_simp
           with_reducible rfl
          rotate_left
          ·simp only [Act.put, List.setIfInBounds_toArray, List.set_cons_zero, List.set_cons_succ, i64_w, i32_w]
           rfl
          refine pure_ (i := 9) (N := some 30) (v := ?_) (a' := ?_) #[true, false, true, true, false, false, true, true, true, true, false, false, false] rfl rfl (any_of HT_.out (by kernel_rfl)) (fun _ _ _ h => h) (Or.inl ⟨by rfl, ?_⟩) ?_ ?_
          rotate_left
          ·intro w'
           go_simp
           with_reducible rfl
          rotate_left
          ·simp only [Act.put, List.setIfInBounds_toArray, List.set_cons_zero, List.set_cons_succ, i64_w, i32_w]
           rfl
          refine take_ (i := 1) (N := some 22) (v := ?_) (a' := ?_) #[true, true, true, true, false, false, true, true, true, true, false, false, false] rfl rfl (take_ofW HT_.out HW_.out (by kernel_rfl)) (fun _ _ _ h => h) (Or.inl ⟨by rfl, ?_⟩) hHeld ?_ ?_
          rotate_left
          ·rintro w' ⟨s0, s1, s2⟩
           go_simp
           with_reducible rfl
          rotate_left
          ·simp only [Act.put, List.setIfInBounds_toArray, List.set_cons_zero, List.set_cons_succ, i64_w, i32_w]
           rfl
          refine pure_ (i := 4) (N := some 25) (v := ?_) (a' := ?_) #[true, true, true, true, true, false, true, true, true, true, false, false, false] rfl rfl (any_of HT_.out (by kernel_rfl)) (fun _ _ _ h => h) (Or.inl ⟨by rfl, ?_⟩) ?_ ?_
          rotate_left
          ·intro w'
           go_simp
           with_reducible rfl
          rotate_left
          ·simp only [Act.put, List.setIfInBounds_toArray, List.set_cons_zero, List.set_cons_succ, i64_w, i32_w]
           rfl
          refine take_ (i := 5) (N := some 26) (v := ?_) (a' := ?_) #[true, true, true, true, true, true, true, true, true, true, false, false, false] rfl rfl (take_ofW HT_.out HW_.out (by kernel_rfl)) (fun _ _ _ h => h) (Or.inl ⟨by rfl, ?_⟩) hHeld ?_ ?_
          rotate_left
          ·rintro w' ⟨s0, s1, s2⟩
           go_simp
           with_reducible rfl
          rotate_left
          ·simp only [Act.put, List.setIfInBounds_toArray, List.set_cons_zero, List.set_cons_succ, i64_w, i32_w]
           rfl
          refine pu HT_ 10 31 2 ?_; refine pu HT_ 11 32 1 ?_; refine last_ (i := 12) (N := none) #[true, true, true, true, true, true, true, true, true, true, true, true, true] rfl rfl (one_of HT_.out (by kernel_rfl)) (by decide) (fun K hK => ?_); refine skip_ (w1 := ?_) (by rfl) rfl ?_ ?_
          rotate_left
          ·go_simp
           rfl
          refine hK.out _ _ ?_; clear hK K; refine done_ (done_of HT_.out (by kernel_rfl)) ?_
          try go_wp2
          (try simp only [← hl313001_1])
          go_roundg k1
          case measure => have := HK1.out; omega
          case rel => exact ⟨(wrap64 (x12_1 + 1)), (y316), au, H', ⟨by have := HK1.out; omega⟩, ⟨by (try simp only [hl313001_1]); (with_reducible repeat (first | apply Kd.R_alloc | apply Kd.R_drewN | apply Kd.R_drew)); exact HQ21.out⟩, ⟨by (try simp only [hl313001_1]); (with_reducible repeat (first | refine blk_drewN ?_ _ | refine blk_drew ?_ | refine blk_alloc ?_ _)); refine blk_far ?_ (by have h_ := Kd.R_ne HO_313001.out BK312.out (by decide); intro e_; exact h_ (by rw [e_]; rfl)) _; (with_reducible repeat (first | refine blk_drewN ?_ _ | refine blk_drew ?_ | refine blk_alloc ?_ _)); exact BK312.out⟩, ⟨by (try simp only [hl313001_1]); (with_reducible repeat (first | refine blk_drewN ?_ _ | refine blk_drew ?_ | refine blk_alloc ?_ _)); refine blk_far ?_ (by have h_ := Kd.R_ne HO_313001.out BK313.out (by decide); intro e_; exact h_ (by rw [e_]; rfl)) _; (with_reducible repeat (first | refine blk_drewN ?_ _ | refine blk_drew ?_ | refine blk_alloc ?_ _)); exact BK313.out⟩, ⟨by repeat (first | (with_reducible first | exact HK.out | apply Kept.alloc | apply Kept.drewN | apply Kept.drew | refine Kept.setCell ?_ HMgo18.out _ | refine Kept.setCell ?_ (.inr GW312.out) _ | refine Kept.setCell ?_ (.inr GW313.out) _) | exact HK.out)⟩, ⟨bs3 HB GB18 GE312 GE313⟩⟩
         ·rw [if_neg c19] at H
          have c19b0 : ((ji15) == 0) = false := beq_eq_false_iff_ne.mpr c19; have c19b1 : ((ji15) != 0) = true := bne_iff_ne.mpr c19
          by_cases c22 : (wrap64 ((ji12) + 1)) < (x313001_1.length : Int)
          ·rw [if_pos c22] at H
           have c22b0 : decide ((wrap64 ((ji12) + 1)) < (x313001_1.length : Int)) = true := decide_eq_true c22; clear c22; obtain ⟨ji23, hji23⟩ : ∃ j_ : Int, (wrap64 ((ji12) + 1)) = j_ := ⟨_, rfl⟩
           replace H : (if 0 ≤ (ji23) then (if 0 ≤ (wrap64 (64 - (ji15))) then (impl_Bits_put.l0 k1 a1 l2_1 (l2_1.length : Int) (wrap64 (x12_1 + 1)) a0_0 (y316.set ((ji23) : Int).toNat (Go.bits .or .u64 (rd y316 (ji23)) (shr .u64 (rd l2_1 x12_1) (wrap64 (64 - (ji15))))))) else (none)) else (none)) = some r := by first | (rw [hji23] at H; exact H) | (simp only [hji23] at H ⊢; exact H)
           (try rw [hji23] at c22b0)
           have hji23w : (IntKind.i64.wrap ((ji12) + 1)) = ji23 := (i64_w _).trans hji23
           by_cases c24 : 0 ≤ (ji23)
           ·rw [if_pos c24] at H
            have c24b0 : decide (0 ≤ (ji23)) = true := decide_eq_true c24; clear c24; obtain ⟨ji25, hji25⟩ : ∃ j_ : Int, (wrap64 (64 - (ji15))) = j_ := ⟨_, rfl⟩
            replace H : (if 0 ≤ (ji25) then (impl_Bits_put.l0 k1 a1 l2_1 (l2_1.length : Int) (wrap64 (x12_1 + 1)) a0_0 (y316.set ((ji23) : Int).toNat (Go.bits .or .u64 (rd y316 (ji23)) (shr .u64 (rd l2_1 x12_1) (ji25))))) else (none)) = some r := by first | (rw [hji25] at H; exact H) | (simp only [hji25] at H ⊢; exact H)
            have hji25w : (IntKind.i64.wrap (64 - (ji15))) = ji25 := (i64_w _).trans hji25
            by_cases c26 : 0 ≤ (ji25)
            ·rw [if_pos c26] at H
             have c26b0 := eq_true c26; have c26b1 : decide (0 ≤ (ji25)) = true := decide_eq_true c26; clear c26; obtain ⟨ji27, hji27⟩ : ∃ j_ : Int, (shr .u64 (rd l2_1 x12_1) (ji25)) = j_ := ⟨_, rfl⟩
             replace H : (impl_Bits_put.l0 k1 a1 l2_1 (l2_1.length : Int) (wrap64 (x12_1 + 1)) a0_0 (y316.set ((ji23) : Int).toNat (Go.bits .or .u64 (rd y316 (ji23)) (ji27)))) = some r := by first | (rw [hji27] at H; exact H) | (simp only [hji27] at H ⊢; exact H)
             have hji27_ : ((rd l2_1 x12_1) / 2 ^ min (ji25).toNat 64) = ji27 := hji27; have hji27z : (ji25) ≤ 64 → ((rd l2_1 x12_1) / 2 ^ (ji25).toNat) = ji27 := shr_small hji27
             (try have hji27k := hji27z (by first | omega | (rw [← hji25]; exact Int.le_of_lt (Int.tmod_lt_of_pos _ (by decide))) | (rw [← hji25]; unfold wrap64; have e_ : 0 ≤ (ji15) := of_decide_eq_true (by assumption); have f_ : (ji15) ≤ 64 := (by rw [← hji15]; exact Int.le_of_lt (Int.tmod_lt_of_pos _ (by decide))); omega)))
             obtain ⟨y318, hy318⟩ : ∃ y_ : List Int, y_ = (y316.set ((ji23) : Int).toNat (Go.bits .or .u64 (rd y316 (ji23)) (ji27))) := ⟨_, rfl⟩
             replace H : (impl_Bits_put.l0 k1 a1 l2_1 (l2_1.length : Int) (wrap64 (x12_1 + 1)) a0_0 y318) = some r := by first | (rw [hy318]; with_reducible exact H) | (have H2_ := (Option.bind_some _ _).symm.trans H; rw [hy318]; with_reducible exact H2_) | (have H2_ := (Option.bind_some _ _).symm.trans H; with_reducible exact H2_) | with_reducible exact H | (rw [hy318]; exact H) | exact H
             have Ny318 := Aside0.mk hy318; clear hy318; have H' := Aside0.mk H; clear H; have p314 : 0 ≤ (x12_1 : Int) := ode; have q314 : x12_1 < (l2_1.length : Int) := ode; obtain ⟨ad314, e314, hx314_0⟩ := Kd.at_int (Kd.C_kept_now HR2_1.out HK.out) x12_1 p314 q314
             cases e314
             replace p314 := eq_true p314; replace q314 := eq_true q314
             try go_wp2
             have n0_ := Aside0.mk (Kd.R_drew HO_313001.out); have n1_ := Aside0.mk (blk_drew BK312.out); have n2_ := Aside0.mk (blk_drew BK313.out); have n3_ := Aside0.mk (Kept.drew HK.out); have n4_ := Aside0.mk (below_drew1 HB.out); clear HO_313001; clear BK312; clear BK313; clear HK; clear HB; have HO_313001 := n0_; have BK312 := n1_; have BK313 := n2_; have HK := n3_; have HB := n4_; clear n0_ n1_ n2_ n3_ n4_; have p315 : 0 ≤ ((ji12) : Int) := ode; have q315 : (ji12) < (x313001_1.length : Int) := ode; obtain ⟨ad315, e315, hx315_0⟩ := Kd.at_int (Kd.R_reads' HO_313001.out).2.2 (ji12) p315 q315
             cases e315
             replace p315 := eq_true p315; replace q315 := eq_true q315; have p18 : 0 ≤ ((ji12) : Int) := ode; have q18 : ((ji12) : Int) < ((x313001_1.length : Int) : Int) := ode; obtain ⟨go18, co18, eo18, gb18, gl18, cl18, HG18⟩ := Kd.R_form HO_313001.out (by omega)
             (first | cases eo18 | (injection eo18 with ea_ en_ ec_; (first | subst ea_ | (injection ea_ with ea_; subst ea_)); subst ec_; clear en_))
             have GB18 := Aside0.mk gb18; have GG18 := Aside0.mk HG18; clear gb18 gl18 HG18; have HMgo18 := Aside0.mk (show (P0_1_ go18 ∨ w.heap.size ≤ go18) from (HO_313001.out.1 _ rfl))
             (first | simp only [add_plain] at hx315_0 | skip)
             obtain ⟨hx18_0, hf18_0⟩ := Kd.R_celln 0 HO_313001.out ((ji12) : Int) p18 q18; replace p18 := eq_true p18; replace q18 := eq_true q18; have HP30 := Kd.R_putn HO_313001.out ((ji12) : Int) (Go.bits .or .u64 (rd x313001_1 (ji12)) (ji17)); rw [← Ny316.out] at HP30; have HQ30 := Aside0.mk HP30; clear HP30; refine start_ (n := 13) (S := fun w' => w'.cell? ⟨gb312, 0, none⟩ = some (.int .i64 a0_0) ∧ w'.cell? ⟨gb312, 1, none⟩ = some (.slice (some ⟨go18, 0, none⟩) x313001_1.length co4) ∧ w'.cell? ⟨go18, ((ji12)).toNat, none⟩ = some (.int .u64 (rd x313001_1 (ji12)))) (ds := [12]) #[false, false, false, false, false, false, false, false, false, false, false, false, false] (by kernel_rfl) rfl rfl ⟨(blk_cell BK312.out 0).trans rfl, (blk_cell BK312.out 1).trans rfl, hx315_0⟩ (fun hHeld => ?_); refine with_tabW impl_Bits_put.tab5 impl_Bits_put.bits5 (fun HT_ HW_ => ?_); generalize wr.drew = w29 at HO_313001 BK312 BK313 HK HB GG18 HQ30 hf18_0 hx18_0 hx315_0 hHeld ⊢; refine pu HT_ 0 21 12 ?_; refine pure_ (i := 2) (N := some 23) (v := ?_) (a' := ?_) #[true, false, true, false, false, false, false, false, false, false, false, false, false] rfl rfl (any_of HT_.out (by kernel_rfl)) (fun _ _ _ h => h) (Or.inl ⟨by rfl, ?_⟩) ?_ ?_
             rotate_left
             ·intro w'
              go_simp
              with_reducible rfl
             rotate_left
             ·simp only [Act.put, List.setIfInBounds_toArray, List.set_cons_zero, List.set_cons_succ, i64_w, i32_w]
              rfl
             refine pure_ (i := 3) (N := some 24) (v := ?_) (a' := ?_) #[true, false, true, true, false, false, false, false, false, false, false, false, false] rfl rfl (any_of HT_.out (by kernel_rfl)) (fun _ _ _ h => h) (Or.inl ⟨by rfl, ?_⟩) ?_ ?_
             rotate_left
             ·intro w'
              go_simp
              with_reducible rfl
             rotate_left
             ·simp only [Act.put, List.setIfInBounds_toArray, List.set_cons_zero, List.set_cons_succ, i64_w, i32_w]
              rfl
             refine pure_ (i := 6) (N := some 27) (v := ?_) (a' := ?_) #[true, false, true, true, false, false, true, false, false, false, false, false, false] rfl rfl (any_of HT_.out (by kernel_rfl)) (fun _ _ _ h => h) (Or.inl ⟨by rfl, ?_⟩) ?_ ?_
             rotate_left
             ·intro w'
              go_simp
              with_reducible rfl
             rotate_left
             ·simp only [Act.put, List.setIfInBounds_toArray, List.set_cons_zero, List.set_cons_succ, i64_w, i32_w]
              rfl
             refine pure_ (i := 7) (N := some 28) (v := ?_) (a' := ?_) #[true, false, true, true, false, false, true, true, false, false, false, false, false] rfl rfl (any_of HT_.out (by kernel_rfl)) (fun _ _ _ h => h) (Or.inl ⟨by rfl, ?_⟩) ?_ ?_
             rotate_left
             ·intro w'
              go_simp
              with_reducible rfl
             rotate_left
             ·simp only [Act.put, List.setIfInBounds_toArray, List.set_cons_zero, List.set_cons_succ, i64_w, i32_w]
              rfl
             refine pure_ (i := 8) (N := some 29) (v := ?_) (a' := ?_) #[true, false, true, true, false, false, true, true, true, false, false, false, false] rfl rfl (any_of HT_.out (by kernel_rfl)) (fun _ _ _ h => h) (Or.inl ⟨by rfl, ?_⟩) ?_ ?_
             rotate_left
             ·intro w'
              go_simp
              with_reducible rfl
             rotate_left
             ·simp only [Act.put, List.setIfInBounds_toArray, List.set_cons_zero, List.set_cons_succ, i64_w, i32_w]
              rfl
             refine pure_ (i := 9) (N := some 30) (v := ?_) (a' := ?_) #[true, false, true, true, false, false, true, true, true, true, false, false, false] rfl rfl (any_of HT_.out (by kernel_rfl)) (fun _ _ _ h => h) (Or.inl ⟨by rfl, ?_⟩) ?_ ?_
             rotate_left
             ·intro w'
              go_simp
              with_reducible rfl
             rotate_left
             ·simp only [Act.put, List.setIfInBounds_toArray, List.set_cons_zero, List.set_cons_succ, i64_w, i32_w]
              rfl
             refine take_ (i := 1) (N := some 22) (v := ?_) (a' := ?_) #[true, true, true, true, false, false, true, true, true, true, false, false, false] rfl rfl (take_ofW HT_.out HW_.out (by kernel_rfl)) (fun _ _ _ h => h) (Or.inl ⟨by rfl, ?_⟩) hHeld ?_ ?_
             rotate_left
             ·rintro w' ⟨s0, s1, s2⟩
              go_simp
              with_reducible rfl
             rotate_left
             ·simp only [Act.put, List.setIfInBounds_toArray, List.set_cons_zero, List.set_cons_succ, i64_w, i32_w]
              rfl
             refine pure_ (i := 4) (N := some 25) (v := ?_) (a' := ?_) #[true, true, true, true, true, false, true, true, true, true, false, false, false] rfl rfl (any_of HT_.out (by kernel_rfl)) (fun _ _ _ h => h) (Or.inl ⟨by rfl, ?_⟩) ?_ ?_
             rotate_left
             ·intro w'
              go_simp
              with_reducible rfl
             rotate_left
             ·simp only [Act.put, List.setIfInBounds_toArray, List.set_cons_zero, List.set_cons_succ, i64_w, i32_w]
              rfl
             refine take_ (i := 5) (N := some 26) (v := ?_) (a' := ?_) #[true, true, true, true, true, true, true, true, true, true, false, false, false] rfl rfl (take_ofW HT_.out HW_.out (by kernel_rfl)) (fun _ _ _ h => h) (Or.inl ⟨by rfl, ?_⟩) hHeld ?_ ?_
             rotate_left
             ·rintro w' ⟨s0, s1, s2⟩
              go_simp
              with_reducible rfl
             rotate_left
             ·simp only [Act.put, List.setIfInBounds_toArray, List.set_cons_zero, List.set_cons_succ, i64_w, i32_w]
              rfl
             refine pu HT_ 10 31 2 ?_; refine pu HT_ 11 32 1 ?_; refine last_ (i := 12) (N := none) #[true, true, true, true, true, true, true, true, true, true, true, true, true] rfl rfl (one_of HT_.out (by kernel_rfl)) (by decide) (fun K hK => ?_); refine skip_ (w1 := ?_) (by rfl) rfl ?_ ?_
             rotate_left
             ·go_simp
              rfl
             refine hK.out _ _ ?_; clear hK K; refine done_ (done_of HT_.out (by kernel_rfl)) ?_; have hnb31 := NB312_313.out; have hnc31 := NB313_312.out
             (try have hnr32 : go18 ≠ gb312 := (by have h_ := Kd.R_ne HO_313001.out BK312.out (by decide); intro e_; exact h_ (by rw [e_]; rfl)))
             (try have hns32 : gb312 ≠ go18 := Ne.symm hnr32)
             have hcz33_0 : w29.cell? ⟨gb312, 0, none⟩ = some (.int .i64 a0_0) := (blk_cell BK312.out 0).trans rfl; have hcz33_1 : w29.cell? ⟨gb312, 1, none⟩ = some (.slice (some ⟨go18, 0, none⟩) x313001_1.length co4) := (blk_cell BK312.out 1).trans rfl; have hfz33_0 := blk_frozen BK312.out 0; have hfz33_1 := blk_frozen BK312.out 1
             try go_wp2
             have n0_ : Aside0 (Kd.R (Kd.int .u64) 93 (w29.setCell ⟨go18, ((ji12) : Int).toNat, none⟩ (.int .u64 (Go.bits .or .u64 (rd x313001_1 (ji12)) (ji17)))) w0.heap.size (fun k_ => (P0_1_ k_ ∨ w.heap.size ≤ k_)) (.slice (some ⟨go18, 0, none⟩) x313001_1.length co4) y316) := ⟨rl HQ30⟩; have n1_ : Aside0 ((w29.setCell ⟨go18, ((ji12) : Int).toNat, none⟩ (.int .u64 (Go.bits .or .u64 (rd x313001_1 (ji12)) (ji17)))).heap[gb312]? = some (.cells #[.int .i64 a0_0, .slice (some ⟨go18, 0, none⟩) x313001_1.length co4] 41 (0, 0))) := ⟨by (with_reducible repeat (first | refine blk_drewN ?_ _ | refine blk_drew ?_ | refine blk_alloc ?_ _)); refine blk_far ?_ (by have h_ := Kd.R_ne HO_313001.out BK312.out (by decide); intro e_; exact h_ (by rw [e_]; rfl)) _; (with_reducible repeat (first | refine blk_drewN ?_ _ | refine blk_drew ?_ | refine blk_alloc ?_ _)); exact BK312.out⟩; have n2_ : Aside0 ((w29.setCell ⟨go18, ((ji12) : Int).toNat, none⟩ (.int .u64 (Go.bits .or .u64 (rd x313001_1 (ji12)) (ji17)))).heap[gb313]? = some (.cells #[.int .i64 a2_0, .slice (some ad314) l2_1.length c2_1] 41 (0, 0))) := ⟨by (with_reducible repeat (first | refine blk_drewN ?_ _ | refine blk_drew ?_ | refine blk_alloc ?_ _)); refine blk_far ?_ (by have h_ := Kd.R_ne HO_313001.out BK313.out (by decide); intro e_; exact h_ (by rw [e_]; rfl)) _; (with_reducible repeat (first | refine blk_drewN ?_ _ | refine blk_drew ?_ | refine blk_alloc ?_ _)); exact BK313.out⟩
             have n3_ : Aside0 (Kept w (w29.setCell ⟨go18, ((ji12) : Int).toNat, none⟩ (.int .u64 (Go.bits .or .u64 (rd x313001_1 (ji12)) (ji17)))) (fun k_ => P0_1_ k_)) := ⟨by repeat (first | (with_reducible first | exact HK.out | apply Kept.alloc | apply Kept.drewN | apply Kept.drew | refine Kept.setCell ?_ HMgo18.out _ | refine Kept.setCell ?_ (.inr GW312.out) _ | refine Kept.setCell ?_ (.inr GW313.out) _) | exact HK.out)⟩; have n4_ : Aside0 (Below w0.heap.size w0 (w29.setCell ⟨go18, ((ji12) : Int).toNat, none⟩ (.int .u64 (Go.bits .or .u64 (rd x313001_1 (ji12)) (ji17))))) := ⟨bs3 HB GB18 GE312 GE313⟩; (try clear HO_313001)
             (try clear BK312); (try clear BK313)
             (try clear HK); (try clear HB)
             generalize (w29.setCell ⟨go18, ((ji12) : Int).toNat, none⟩ (.int .u64 (Go.bits .or .u64 (rd x313001_1 (ji12)) (ji17)))) = w34 at n0_ n1_ n2_ n3_ n4_ ⊢; have HO_313001 := n0_; have BK312 := n1_; have BK313 := n2_; have HK := n3_; have HB := n4_; clear n0_ n1_ n2_ n3_ n4_; have n0_ := Aside0.mk (Kd.R_drew HO_313001.out); have n1_ := Aside0.mk (blk_drew BK312.out); have n2_ := Aside0.mk (blk_drew BK313.out); have n3_ := Aside0.mk (Kept.drew HK.out); have n4_ := Aside0.mk (below_drew1 HB.out); clear HO_313001; clear BK312; clear BK313; clear HK; clear HB; have HO_313001 := n0_; have BK312 := n1_; have BK313 := n2_; have HK := n3_; have HB := n4_; clear n0_ n1_ n2_ n3_ n4_; have p317 : 0 ≤ ((ji23) : Int) := ode; have q317 : (ji23) < (y316.length : Int) := (by have h_ : ((ji23) : Int) < ((x313001_1.length : Int) : Int) := ode; first | (have e_ := (Kd.R_reads' HO_313001.out).1; omega) | simpa only [Ny316.out, List.length_set] using h_)
             have ql317 : (((ji23) : Int) < ((x313001_1.length : Int) : Int)) = True := eq_true (ode); obtain ⟨ad317, e317, hx317_0⟩ := Kd.at_int (Kd.R_reads' HO_313001.out).2.2 (ji23) p317 q317; obtain rfl : (⟨go18, 0, none⟩ : Addr) = ad317 := (by injection e317)
             (first | simp only [add_plain] at hx317_0 | simp only [add_at] at hx317_0 | simp only [Addr.add, Nat.zero_add] at hx317_0 | skip)
             replace p317 := eq_true p317; replace q317 := eq_true q317; have p28 : 0 ≤ ((ji23) : Int) := ode; have q28 : ((ji23) : Int) < ((x313001_1.length : Int) : Int) := ode; obtain ⟨hx28_0, hf28_0⟩ := Kd.R_celln 0 HO_313001.out ((ji23) : Int) p28 q28; replace p28 := eq_true p28; replace q28 := eq_true q28; have HP36 := Kd.R_putn HO_313001.out ((ji23) : Int) (Go.bits .or .u64 (rd y316 (ji23)) (ji27)); rw [← Ny318.out] at HP36; have HQ36 := Aside0.mk HP36; clear HP36; refine start_ (n := 15) (S := fun w' => w'.cell? ⟨gb312, 0, none⟩ = some (.int .i64 a0_0) ∧ w'.cell? ⟨gb312, 1, none⟩ = some (.slice (some ⟨go18, 0, none⟩) x313001_1.length co4) ∧ w'.cell? ⟨go18, ((ji23)).toNat, none⟩ = some (.int .u64 (rd y316 (ji23)))) (ds := [14]) #[false, false, false, false, false, false, false, false, false, false, false, false, false, false, false] (by kernel_rfl) rfl rfl ⟨(blk_cell BK312.out 0).trans rfl, (blk_cell BK312.out 1).trans rfl, hx317_0⟩ (fun hHeld => ?_); refine with_tabW impl_Bits_put.tab7 impl_Bits_put.bits7 (fun HT_ HW_ => ?_); generalize w34.drew = w35 at HO_313001 BK312 BK313 HK HB HQ30 HQ36 hf28_0 hx28_0 hx317_0 hHeld ⊢; refine pu HT_ 0 45 14 ?_; refine pure_ (i := 2) (N := some 47) (v := ?_) (a' := ?_) #[true, false, true, false, false, false, false, false, false, false, false, false, false, false, false] rfl rfl (any_of HT_.out (by kernel_rfl)) (fun _ _ _ h => h) (Or.inl ⟨by rfl, ?_⟩) ?_ ?_
             rotate_left
             ·intro w'
              go_simp
              with_reducible rfl
             rotate_left
             ·simp only [Act.put, List.setIfInBounds_toArray, List.set_cons_zero, List.set_cons_succ, i64_w, i32_w]
              rfl
             refine pure_ (i := 3) (N := some 48) (v := ?_) (a' := ?_) #[true, false, true, true, false, false, false, false, false, false, false, false, false, false, false] rfl rfl (any_of HT_.out (by kernel_rfl)) (fun _ _ _ h => h) (Or.inl ⟨by rfl, ?_⟩) ?_ ?_
             rotate_left
             ·intro w'
              go_simp
              with_reducible rfl
             rotate_left
             ·simp only [Act.put, List.setIfInBounds_toArray, List.set_cons_zero, List.set_cons_succ, i64_w, i32_w]
              rfl
             refine pure_ (i := 4) (N := some 49) (v := ?_) (a' := ?_) #[true, false, true, true, true, false, false, false, false, false, false, false, false, false, false] rfl rfl (any_of HT_.out (by kernel_rfl)) (fun _ _ _ h => h) (Or.inl ⟨by rfl, ?_⟩) ?_ ?_
             rotate_left
             ·intro w'
              go_simp
              with_reducible rfl
             rotate_left
             ·simp only [Act.put, List.setIfInBounds_toArray, List.set_cons_zero, List.set_cons_succ, i64_w, i32_w]
              rfl
             refine pure_ (i := 7) (N := some 52) (v := ?_) (a' := ?_) #[true, false, true, true, true, false, false, true, false, false, false, false, false, false, false] rfl rfl (any_of HT_.out (by kernel_rfl)) (fun _ _ _ h => h) (Or.inl ⟨by rfl, ?_⟩) ?_ ?_
             rotate_left
             ·intro w'
              go_simp
              with_reducible rfl
             rotate_left
             ·simp only [Act.put, List.setIfInBounds_toArray, List.set_cons_zero, List.set_cons_succ, i64_w, i32_w]
              rfl
             refine pure_ (i := 8) (N := some 53) (v := ?_) (a' := ?_) #[true, false, true, true, true, false, false, true, true, false, false, false, false, false, false] rfl rfl (any_of HT_.out (by kernel_rfl)) (fun _ _ _ h => h) (Or.inl ⟨by rfl, ?_⟩) ?_ ?_
             rotate_left
             ·intro w'
              go_simp
              with_reducible rfl
             rotate_left
             ·simp only [Act.put, List.setIfInBounds_toArray, List.set_cons_zero, List.set_cons_succ, i64_w, i32_w]
              rfl
             refine pure_ (i := 9) (N := some 54) (v := ?_) (a' := ?_) #[true, false, true, true, true, false, false, true, true, true, false, false, false, false, false] rfl rfl (any_of HT_.out (by kernel_rfl)) (fun _ _ _ h => h) (Or.inl ⟨by rfl, ?_⟩) ?_ ?_
             rotate_left
             ·intro w'
              go_simp
              with_reducible rfl
             rotate_left
             ·simp only [Act.put, List.setIfInBounds_toArray, List.set_cons_zero, List.set_cons_succ, i64_w, i32_w]
              rfl
             refine pure_ (i := 10) (N := some 55) (v := ?_) (a' := ?_) #[true, false, true, true, true, false, false, true, true, true, true, false, false, false, false] rfl rfl (any_of HT_.out (by kernel_rfl)) (fun _ _ _ h => h) (Or.inl ⟨by rfl, ?_⟩) ?_ ?_
             rotate_left
             ·intro w'
              go_simp
              with_reducible rfl
             rotate_left
             ·simp only [Act.put, List.setIfInBounds_toArray, List.set_cons_zero, List.set_cons_succ, i64_w, i32_w]
              rfl
             refine pure_ (i := 11) (N := some 56) (v := ?_) (a' := ?_) #[true, false, true, true, true, false, false, true, true, true, true, true, false, false, false] rfl rfl (any_of HT_.out (by kernel_rfl)) (fun _ _ _ h => h) (Or.inl ⟨by rfl, ?_⟩) ?_ ?_
             rotate_left
             ·intro w'
              go_simp
              with_reducible rfl
             rotate_left
             ·simp only [Act.put, List.setIfInBounds_toArray, List.set_cons_zero, List.set_cons_succ, i64_w, i32_w]
              rfl
             refine take_ (i := 1) (N := some 46) (v := ?_) (a' := ?_) #[true, true, true, true, true, false, false, true, true, true, true, true, false, false, false] rfl rfl (take_ofW HT_.out HW_.out (by kernel_rfl)) (fun _ _ _ h => h) (Or.inl ⟨by rfl, ?_⟩) hHeld ?_ ?_
             rotate_left
             ·rintro w' ⟨s0, s1, s2⟩
              go_simp
              with_reducible rfl
             rotate_left
             ·simp only [Act.put, List.setIfInBounds_toArray, List.set_cons_zero, List.set_cons_succ, i64_w, i32_w]
              rfl
             refine pure_ (i := 5) (N := some 50) (v := ?_) (a' := ?_) #[true, true, true, true, true, true, false, true, true, true, true, true, false, false, false] rfl rfl (any_of HT_.out (by kernel_rfl)) (fun _ _ _ h => h) (Or.inl ⟨by rfl, ?_⟩) ?_ ?_
             rotate_left
             ·intro w'
              go_simp
              with_reducible rfl
             rotate_left
             ·simp only [Act.put, List.setIfInBounds_toArray, List.set_cons_zero, List.set_cons_succ, i64_w, i32_w]
              rfl
             refine take_ (i := 6) (N := some 51) (v := ?_) (a' := ?_) #[true, true, true, true, true, true, true, true, true, true, true, true, false, false, false] rfl rfl (take_ofW HT_.out HW_.out (by kernel_rfl)) (fun _ _ _ h => h) (Or.inl ⟨by rfl, ?_⟩) hHeld ?_ ?_
             rotate_left
             ·rintro w' ⟨s0, s1, s2⟩
              go_simp
              with_reducible rfl
             rotate_left
             ·simp only [Act.put, List.setIfInBounds_toArray, List.set_cons_zero, List.set_cons_succ, i64_w, i32_w]
              rfl
             refine pu HT_ 12 57 2 ?_; refine pu HT_ 13 58 1 ?_; refine last_ (i := 14) (N := none) #[true, true, true, true, true, true, true, true, true, true, true, true, true, true, true] rfl rfl (one_of HT_.out (by kernel_rfl)) (by decide) (fun K hK => ?_); refine skip_ (w1 := ?_) (by rfl) rfl ?_ ?_
             rotate_left
             ·go_simp
              rfl
             refine hK.out _ _ ?_; clear hK K; refine done_ (done_of HT_.out (by kernel_rfl)) ?_
             try go_wp2
             (try simp only [← hl313001_1])
             go_roundg k1
             case measure => have := HK1.out; omega
             case rel => exact ⟨(wrap64 (x12_1 + 1)), (y318), au, H', ⟨by have := HK1.out; omega⟩, ⟨by (try simp only [hl313001_1]); (with_reducible repeat (first | apply Kd.R_alloc | apply Kd.R_drewN | apply Kd.R_drew)); exact HQ36.out⟩, ⟨by (try simp only [hl313001_1]); (with_reducible repeat (first | refine blk_drewN ?_ _ | refine blk_drew ?_ | refine blk_alloc ?_ _)); refine blk_far ?_ (by have h_ := Kd.R_ne HO_313001.out BK312.out (by decide); intro e_; exact h_ (by rw [e_]; rfl)) _; (with_reducible repeat (first | refine blk_drewN ?_ _ | refine blk_drew ?_ | refine blk_alloc ?_ _)); exact BK312.out⟩, ⟨by (try simp only [hl313001_1]); (with_reducible repeat (first | refine blk_drewN ?_ _ | refine blk_drew ?_ | refine blk_alloc ?_ _)); refine blk_far ?_ (by have h_ := Kd.R_ne HO_313001.out BK313.out (by decide); intro e_; exact h_ (by rw [e_]; rfl)) _; (with_reducible repeat (first | refine blk_drewN ?_ _ | refine blk_drew ?_ | refine blk_alloc ?_ _)); exact BK313.out⟩, ⟨by repeat (first | (with_reducible first | exact HK.out | apply Kept.alloc | apply Kept.drewN | apply Kept.drew | refine Kept.setCell ?_ HMgo18.out _ | refine Kept.setCell ?_ (.inr GW312.out) _ | refine Kept.setCell ?_ (.inr GW313.out) _) | exact HK.out)⟩, ⟨bs3 HB GB18 GE312 GE313⟩⟩
            ·rw [if_neg c26] at H
             exact absurd H (by simp)
           ·rw [if_neg c24] at H
            exact absurd H (by simp)
          ·rw [if_neg c22] at H
           have c22b0 : decide ((wrap64 ((ji12) + 1)) < (x313001_1.length : Int)) = false := decide_eq_false c22; clear c22; have H' := Aside0.mk H; clear H; have p314 : 0 ≤ (x12_1 : Int) := ode; have q314 : x12_1 < (l2_1.length : Int) := ode; obtain ⟨ad314, e314, hx314_0⟩ := Kd.at_int (Kd.C_kept_now HR2_1.out HK.out) x12_1 p314 q314
           cases e314
           replace p314 := eq_true p314; replace q314 := eq_true q314
           try go_wp2
           have n0_ := Aside0.mk (Kd.R_drew HO_313001.out); have n1_ := Aside0.mk (blk_drew BK312.out); have n2_ := Aside0.mk (blk_drew BK313.out); have n3_ := Aside0.mk (Kept.drew HK.out); have n4_ := Aside0.mk (below_drew1 HB.out); clear HO_313001; clear BK312; clear BK313; clear HK; clear HB; have HO_313001 := n0_; have BK312 := n1_; have BK313 := n2_; have HK := n3_; have HB := n4_; clear n0_ n1_ n2_ n3_ n4_; have p315 : 0 ≤ ((ji12) : Int) := ode; have q315 : (ji12) < (x313001_1.length : Int) := ode; obtain ⟨ad315, e315, hx315_0⟩ := Kd.at_int (Kd.R_reads' HO_313001.out).2.2 (ji12) p315 q315
           cases e315
           replace p315 := eq_true p315; replace q315 := eq_true q315; have p18 : 0 ≤ ((ji12) : Int) := ode; have q18 : ((ji12) : Int) < ((x313001_1.length : Int) : Int) := ode; obtain ⟨go18, co18, eo18, gb18, gl18, cl18, HG18⟩ := Kd.R_form HO_313001.out (by omega)
           (first | cases eo18 | (injection eo18 with ea_ en_ ec_; (first | subst ea_ | (injection ea_ with ea_; subst ea_)); subst ec_; clear en_))
           have GB18 := Aside0.mk gb18; have GG18 := Aside0.mk HG18; clear gb18 gl18 HG18; have HMgo18 := Aside0.mk (show (P0_1_ go18 ∨ w.heap.size ≤ go18) from (HO_313001.out.1 _ rfl))
           (first | simp only [add_plain] at hx315_0 | skip)
           obtain ⟨hx18_0, hf18_0⟩ := Kd.R_celln 0 HO_313001.out ((ji12) : Int) p18 q18; replace p18 := eq_true p18; replace q18 := eq_true q18; have HP38 := Kd.R_putn HO_313001.out ((ji12) : Int) (Go.bits .or .u64 (rd x313001_1 (ji12)) (ji17)); rw [← Ny316.out] at HP38; have HQ38 := Aside0.mk HP38; clear HP38; refine start_ (n := 13) (S := fun w' => w'.cell? ⟨gb312, 0, none⟩ = some (.int .i64 a0_0) ∧ w'.cell? ⟨gb312, 1, none⟩ = some (.slice (some ⟨go18, 0, none⟩) x313001_1.length co4) ∧ w'.cell? ⟨go18, ((ji12)).toNat, none⟩ = some (.int .u64 (rd x313001_1 (ji12)))) (ds := [12]) #[false, false, false, false, false, false, false, false, false, false, false, false, false] (by kernel_rfl) rfl rfl ⟨(blk_cell BK312.out 0).trans rfl, (blk_cell BK312.out 1).trans rfl, hx315_0⟩ (fun hHeld => ?_); refine with_tabW impl_Bits_put.tab5 impl_Bits_put.bits5 (fun HT_ HW_ => ?_); generalize wr.drew = w37 at HO_313001 BK312 BK313 HK HB GG18 HQ38 hf18_0 hx18_0 hx315_0 hHeld ⊢; refine pu HT_ 0 21 12 ?_; refine pure_ (i := 2) (N := some 23) (v := ?_) (a' := ?_) #[true, false, true, false, false, false, false, false, false, false, false, false, false] rfl rfl (any_of HT_.out (by kernel_rfl)) (fun _ _ _ h => h) (Or.inl ⟨by rfl, ?_⟩) ?_ ?_
           rotate_left
           ·intro w'
            go_simp
            with_reducible rfl
           rotate_left
           ·simp only [Act.put, List.setIfInBounds_toArray, List.set_cons_zero, List.set_cons_succ, i64_w, i32_w]
            rfl
           refine pure_ (i := 3) (N := some 24) (v := ?_) (a' := ?_) #[true, false, true, true, false, false, false, false, false, false, false, false, false] rfl rfl (any_of HT_.out (by kernel_rfl)) (fun _ _ _ h => h) (Or.inl ⟨by rfl, ?_⟩) ?_ ?_
           rotate_left
           ·intro w'
            go_simp
            with_reducible rfl
           rotate_left
           ·simp only [Act.put, List.setIfInBounds_toArray, List.set_cons_zero, List.set_cons_succ, i64_w, i32_w]
            rfl
           refine pure_ (i := 6) (N := some 27) (v := ?_) (a' := ?_) #[true, false, true, true, false, false, true, false, false, false, false, false, false] rfl rfl (any_of HT_.out (by kernel_rfl)) (fun _ _ _ h => h) (Or.inl ⟨by rfl, ?_⟩) ?_ ?_
           rotate_left
           ·intro w'
            go_simp
            with_reducible rfl
           rotate_left
           ·simp only [Act.put, List.setIfInBounds_toArray, List.set_cons_zero, List.set_cons_succ, i64_w, i32_w]
            rfl
           refine pure_ (i := 7) (N := some 28) (v := ?_) (a' := ?_) #[true, false, true, true, false, false, true, true, false, false, false, false, false] rfl rfl (any_of HT_.out (by kernel_rfl)) (fun _ _ _ h => h) (Or.inl ⟨by rfl, ?_⟩) ?_ ?_
           rotate_left
           ·intro w'
            go_simp
            with_reducible rfl
           rotate_left
           ·simp only [Act.put, List.setIfInBounds_toArray, List.set_cons_zero, List.set_cons_succ, i64_w, i32_w]
            rfl
           refine pure_ (i := 8) (N := some 29) (v := ?_) (a' := ?_) #[true, false, true, true, false, false, true, true, true, false, false, false, false] rfl rfl (any_of HT_.out (by kernel_rfl)) (fun _ _ _ h => h) (Or.inl ⟨by rfl, ?_⟩) ?_ ?_
           rotate_left
           ·intro w'
            go_simp
            with_reducible rfl
           rotate_left
           ·simp only [Act.put, List.setIfInBounds_toArray, List.set_cons_zero, List.set_cons_succ, i64_w, i32_w]
            rfl
           refine pure_ (i := 9) (N := some 30) (v := ?_) (a' := ?_) #[true, false, true, true, false, false, true, true, true, true, false, false, false] rfl rfl (any_of HT_.out (by kernel_rfl)) (fun _ _ _ h => h) (Or.inl ⟨by rfl, ?_⟩) ?_ ?_
           rotate_left
           ·intro w'
            go_simp
            with_reducible rfl
           rotate_left
           ·simp only [Act.put, List.setIfInBounds_toArray, List.set_cons_zero, List.set_cons_succ, i64_w, i32_w]
            rfl
           refine take_ (i := 1) (N := some 22) (v := ?_) (a' := ?_) #[true, true, true, true, false, false, true, true, true, true, false, false, false] rfl rfl (take_ofW HT_.out HW_.out (by kernel_rfl)) (fun _ _ _ h => h) (Or.inl ⟨by rfl, ?_⟩) hHeld ?_ ?_
           rotate_left
           ·rintro w' ⟨s0, s1, s2⟩
            go_simp
            with_reducible rfl
           rotate_left
           ·simp only [Act.put, List.setIfInBounds_toArray, List.set_cons_zero, List.set_cons_succ, i64_w, i32_w]
            rfl
           refine pure_ (i := 4) (N := some 25) (v := ?_) (a' := ?_) #[true, true, true, true, true, false, true, true, true, true, false, false, false] rfl rfl (any_of HT_.out (by kernel_rfl)) (fun _ _ _ h => h) (Or.inl ⟨by rfl, ?_⟩) ?_ ?_
           rotate_left
           ·intro w'
            go_simp
            with_reducible rfl
           rotate_left
           ·simp only [Act.put, List.setIfInBounds_toArray, List.set_cons_zero, List.set_cons_succ, i64_w, i32_w]
            rfl
           refine take_ (i := 5) (N := some 26) (v := ?_) (a' := ?_) #[true, true, true, true, true, true, true, true, true, true, false, false, false] rfl rfl (take_ofW HT_.out HW_.out (by kernel_rfl)) (fun _ _ _ h => h) (Or.inl ⟨by rfl, ?_⟩) hHeld ?_ ?_
           rotate_left
           ·rintro w' ⟨s0, s1, s2⟩
            go_simp
            with_reducible rfl
           rotate_left
           ·simp only [Act.put, List.setIfInBounds_toArray, List.set_cons_zero, List.set_cons_succ, i64_w, i32_w]
            rfl
           refine pu HT_ 10 31 2 ?_; refine pu HT_ 11 32 1 ?_; refine last_ (i := 12) (N := none) #[true, true, true, true, true, true, true, true, true, true, true, true, true] rfl rfl (one_of HT_.out (by kernel_rfl)) (by decide) (fun K hK => ?_); refine skip_ (w1 := ?_) (by rfl) rfl ?_ ?_
           rotate_left
           ·go_simp
            rfl
           refine hK.out _ _ ?_; clear hK K; refine done_ (done_of HT_.out (by kernel_rfl)) ?_; have hnb39 := NB312_313.out; have hnc39 := NB313_312.out
           (try have hnr40 : go18 ≠ gb312 := (by have h_ := Kd.R_ne HO_313001.out BK312.out (by decide); intro e_; exact h_ (by rw [e_]; rfl)))
           (try have hns40 : gb312 ≠ go18 := Ne.symm hnr40)
           have hcz41_0 : w37.cell? ⟨gb312, 0, none⟩ = some (.int .i64 a0_0) := (blk_cell BK312.out 0).trans rfl; have hcz41_1 : w37.cell? ⟨gb312, 1, none⟩ = some (.slice (some ⟨go18, 0, none⟩) x313001_1.length co4) := (blk_cell BK312.out 1).trans rfl; have hfz41_0 := blk_frozen BK312.out 0; have hfz41_1 := blk_frozen BK312.out 1
           try go_wp2
           (try simp only [← hl313001_1])
           go_roundg k1
           case measure => have := HK1.out; omega
           case rel => exact ⟨(wrap64 (x12_1 + 1)), (y316), au, H', ⟨by have := HK1.out; omega⟩, ⟨by (try simp only [hl313001_1]); (with_reducible repeat (first | apply Kd.R_alloc | apply Kd.R_drewN | apply Kd.R_drew)); exact HQ38.out⟩, ⟨by (try simp only [hl313001_1]); (with_reducible repeat (first | refine blk_drewN ?_ _ | refine blk_drew ?_ | refine blk_alloc ?_ _)); refine blk_far ?_ (by have h_ := Kd.R_ne HO_313001.out BK312.out (by decide); intro e_; exact h_ (by rw [e_]; rfl)) _; (with_reducible repeat (first | refine blk_drewN ?_ _ | refine blk_drew ?_ | refine blk_alloc ?_ _)); exact BK312.out⟩, ⟨by (try simp only [hl313001_1]); (with_reducible repeat (first | refine blk_drewN ?_ _ | refine blk_drew ?_ | refine blk_alloc ?_ _)); refine blk_far ?_ (by have h_ := Kd.R_ne HO_313001.out BK313.out (by decide); intro e_; exact h_ (by rw [e_]; rfl)) _; (with_reducible repeat (first | refine blk_drewN ?_ _ | refine blk_drew ?_ | refine blk_alloc ?_ _)); exact BK313.out⟩, ⟨by repeat (first | (with_reducible first | exact HK.out | apply Kept.alloc | apply Kept.drewN | apply Kept.drew | refine Kept.setCell ?_ HMgo18.out _ | refine Kept.setCell ?_ (.inr GW312.out) _ | refine Kept.setCell ?_ (.inr GW313.out) _) | exact HK.out)⟩, ⟨bs3 HB GB18 GE312 GE313⟩⟩
        ·rw [if_neg c16] at H
         exact absurd H (by simp)
       ·rw [if_neg c14] at H
        exact absurd H (by simp)
      ·rw [if_neg c13] at H
       exact absurd H (by simp)
     ·rw [if_neg c11] at H
      exact absurd H (by simp)
    ·rw [if_neg c10] at H
     exact absurd H (by simp)
   ·rw [if_neg c9] at H
    have c9b0 : decide (x12_1 < (l2_1.length : Int)) = false := decide_eq_false c9; clear c9; obtain rfl := Option.some.inj H
    go_wp2
    first | go_end0 | ((try simp only [Exit.inBlock, Exit.then]); refine bodyPost_ret (results_none rfl _ _ _) rfl ?_)
    exact ⟨by first | rfl | (simp [errW_none, errW_some] <;> rfl) | (simp [*, errW_none, errW_some] <;> rfl), (by first | exact (rl HO_313001) | (simp only [hl313001_1]; exact (rl HO_313001))), bs2 HB GE312 GE313, by repeat (first | (with_reducible first | exact HK.out | apply Kept.alloc | apply Kept.drewN | apply Kept.drew | refine Kept.setCell ?_ (.inr GW312.out) _ | refine Kept.setCell ?_ (.inr GW313.out) _) | exact HK.out)⟩

end Go.Proofs.Ytjnmenadlnajeaa.PFnExactFlatJoin
