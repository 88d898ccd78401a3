-- Written by a program of this session (a turned copy of the kit's printer); Lean checks it.
-- half the depth
import Derived.Test.YtonkicgdgpcneaaPFnSlicesx0
import Derived.Test.YtonkicgdgpcneaaPFnSlicesx2
import Derived.Test.YtonkicgdgpcneaaPFnSlicesx3
namespace Go.Proofs.Ytonkicgdgpcneaa.PFnSlices
open Go.RowKit Go.Proofs.YtonkicgdgpcneaaW.PrintWords Go.Proofs.YtonkicgdgpcneaaW.PrintLast Go.Proofs.YtonkicgdgpcneaaW.PrintMore
attribute [local go_sem] max2_int min2_int max_two min_two max_three min_three max_four min_four   -- for this text's walks alone
set_option linter.unusedVariables false
set_option linter.unusedSimpArgs false

/-! ### impl_DeclsOk: function 77 -/
def impl_DeclsOk.l0 : Nat → List (S63) → Int → List (S63) → Int → Int → Option (Bool)
 | 0, _, _, _, _, _ => none
 | k + 1, x0, x3, x9, x10, x11 => if x11 < x10 then (if 0 ≤ x11 then (if x11 < (x9.length : Int) then ((impl_nameOk.f k ((rd_T63 x9 x11).f0)).bind fun t184 => (if t184 = true then ((impl_inside.f ((rd_T63 x9 x11).f1) 1 4096).bind fun t185 => (if t185 = true then (if x11 ≤ (x0.length : Int) then ((impl_declared.f (x0.take (x11 : Int).toNat) ((rd_T63 x9 x11).f0)).bind fun t190 => (if t190 ≥ 0 then (some false) else (impl_DeclsOk.l0 k x0 (wrap64 (x3 + ((rd_T63 x9 x11).f1))) x9 x10 (wrap64 (x11 + 1))))) else (none)) else (some false))) else (some false))) else (none)) else (none)) else (some (decide (x3 ≤ 20000)))
def impl_DeclsOk.f (k : Nat) (l0 : List (S63)) : Option (Bool) := if (l0.length : Int) > 60 then (some false) else (impl_DeclsOk.l0 k l0 0 l0 (l0.length : Int) 0)
def impl_DeclsOk.T7 : Bool × List (List Nat × List Nat) := (true, [([], []), ([0], [0]), ([1], [1]), ([2], [2]), ([3, 2], [3]), ([4], [4]), ([5, 4], [4, 5]), ([6, 4, 4], [4, 6]), ([7, 4], [4, 7]), ([4, 8], [4, 8]), ([9, 7], [9]), ([10], [10]), ([10], [10]), ([11, 12, 10], [10, 11, 12]), ([10], [10]), ([14, 10], [10, 14]), ([13, 15, 10, 10], [10, 13, 15]), ([16, 10], [10, 16]), ([10, 17], [10, 17])])
def impl_DeclsOk.B7 : List Nat := [0, 1, 3, 7, 15, 31, 63, 127, 255, 511, 1023, 2047, 2047, 8191, 2047, 18431, 65535, 131071, 262143]
theorem impl_DeclsOk.tab7 : rtab .any (opsOf Try.f77 7) = impl_DeclsOk.T7 := by kernel_rfl
theorem impl_DeclsOk.bits7 : waitsOk impl_DeclsOk.T7.2 impl_DeclsOk.B7 = true := by kernel_rfl
set_option maxHeartbeats 8000000 in
set_option maxRecDepth 100000 in
theorem impl_DeclsOk.calls (k : Nat) (A0 : Option Addr) (c0 : Nat) (l0 : List (S63)) (r : Bool) (w : World) (hr0 : Kd.C k63 w A0 l0.length l0) (hc0 : l0.length ≤ c0) (h : impl_DeclsOk.f k l0 = some r) :
  Calls Try.prog 77 #[.slice A0 l0.length c0] w fun e w' => e = .returned (.bool r) ∧ Below w.heap.size w w' := by
 have hu63 := Try.underlying63; have HR0 := Aside0.mk hr0; have HC0 := Aside0.mk hc0; clear hr0 hc0; have HB := Aside0.mk (Below.refl w.heap.size w); have H : (if (l0.length : Int) > 60 then (some false) else (impl_DeclsOk.l0 k l0 0 l0 (l0.length : Int) 0)) = some r := h; clear h
 by_cases c2 : (l0.length : Int) > 60
 ·rw [if_pos c2] at H
  have c2b0 : decide (60 < (l0.length : Int)) = true := decide_eq_true c2; have c2b1 : decide (60 < l0.length) = true := decide_eq_true (by omega); clear c2; obtain rfl := Option.some.inj H
  go_enter Try.func77, Try.ntmps77
  go_wp2
  go_ret
  exact ⟨by first | rfl | (simp [errW_none, errW_some] <;> rfl) | (simp [*, errW_none, errW_some] <;> rfl), bl HB⟩
 ·rw [if_neg c2] at H
  have c2b0 : decide (60 < (l0.length : Int)) = false := decide_eq_false c2; have c2b1 : decide (60 < l0.length) = false := decide_eq_false (by omega); clear c2; have H' := Aside0.mk H; clear H
  go_enter Try.func77, Try.ntmps77
  go_wp2
  go_loopg [3, 11] k (fun kq v3 v11 w' => ∃ (x3_1 : Int) (x11_1 : Int), v3 = .int .i64 x3_1 ∧ v11 = .int .i64 x11_1 ∧ Aside0 (impl_DeclsOk.l0 kq l0 x3_1 l0 (l0.length : Int) x11_1 = some r) ∧ Aside0 (kq ≤ k) ∧ Aside0 (Below w.heap.size w w'))
  case atStart => exact ⟨(0), (0), au, au, H', ⟨Nat.le_refl _⟩, ⟨bl HB⟩⟩
  case round =>
   clear H'
   try clear c2
   try clear c2b0
   try clear c2b1
   try clear p2
   obtain ⟨x3_1, x11_1, rfl, rfl, HA, HK1, HB⟩ := hrel
   cases gk with
   | zero => exact absurd HA.out (by simp [impl_DeclsOk.l0])
   | succ k1 =>
    have H := HA.out; clear HA
    simp only [impl_DeclsOk.l0] at H
    by_cases c3 : x11_1 < (l0.length : Int)
    ·rw [if_pos c3] at H
     have c3b0 : decide (x11_1 < (l0.length : Int)) = true := decide_eq_true c3; clear c3
     by_cases c4 : 0 ≤ x11_1
     ·rw [if_pos c4] at H
      have c4b0 : decide (0 ≤ x11_1) = true := decide_eq_true c4; clear c4
      by_cases c5 : x11_1 < (l0.length : Int)
      ·rw [if_pos c5] at H
       have c5b0 : decide (x11_1 < (l0.length : Int)) = true := decide_eq_true c5; clear c5; replace H := Option.bind_eq_some_iff.mp H; obtain ⟨t184, A60, H⟩ := H; replace H : (if t184 = true then ((impl_inside.f ((rd_T63 l0 x11_1).f1) 1 4096).bind fun t185 => (if t185 = true then (if x11_1 ≤ (l0.length : Int) then ((impl_declared.f (l0.take (x11_1 : Int).toNat) ((rd_T63 l0 x11_1).f0)).bind fun t190 => (if t190 ≥ 0 then (some false) else (impl_DeclsOk.l0 k1 l0 (wrap64 (x3_1 + ((rd_T63 l0 x11_1).f1))) l0 (l0.length : Int) (wrap64 (x11_1 + 1))))) else (none)) else (some false))) else (some false)) = some r := H; have A6 := Aside0.mk A60; clear A60
       by_cases c7 : t184 = true
       ·subst c7
        have H1 : ((impl_inside.f ((rd_T63 l0 x11_1).f1) 1 4096).bind fun t185 => (if t185 = true then (if x11_1 ≤ (l0.length : Int) then ((impl_declared.f (l0.take (x11_1 : Int).toNat) ((rd_T63 l0 x11_1).f0)).bind fun t190 => (if t190 ≥ 0 then (some false) else (impl_DeclsOk.l0 k1 l0 (wrap64 (x3_1 + ((rd_T63 l0 x11_1).f1))) l0 (l0.length : Int) (wrap64 (x11_1 + 1))))) else (none)) else (some false))) = some r := by rw [if_pos rfl] at H; exact H
        clear H; have H := H1; clear H1; replace H := Option.bind_eq_some_iff.mp H; obtain ⟨t185, A80, H⟩ := H; replace H : (if t185 = true then (if x11_1 ≤ (l0.length : Int) then ((impl_declared.f (l0.take (x11_1 : Int).toNat) ((rd_T63 l0 x11_1).f0)).bind fun t190 => (if t190 ≥ 0 then (some false) else (impl_DeclsOk.l0 k1 l0 (wrap64 (x3_1 + ((rd_T63 l0 x11_1).f1))) l0 (l0.length : Int) (wrap64 (x11_1 + 1))))) else (none)) else (some false)) = some r := H; have A8 := Aside0.mk A80; clear A80
        by_cases c9 : t185 = true
        ·subst c9
         have H1 : (if x11_1 ≤ (l0.length : Int) then ((impl_declared.f (l0.take (x11_1 : Int).toNat) ((rd_T63 l0 x11_1).f0)).bind fun t190 => (if t190 ≥ 0 then (some false) else (impl_DeclsOk.l0 k1 l0 (wrap64 (x3_1 + ((rd_T63 l0 x11_1).f1))) l0 (l0.length : Int) (wrap64 (x11_1 + 1))))) else (none)) = some r := by rw [if_pos rfl] at H; exact H
         clear H; have H := H1; clear H1; have c10b0 := eq_true (ode : 0 ≤ x11_1)
         by_cases c11 : x11_1 ≤ (l0.length : Int)
         ·rw [if_pos c11] at H
          have c11b0 := eq_true c11; have c11b1 : decide (x11_1 ≤ (l0.length : Int)) = true := decide_eq_true c11; clear c11; obtain ⟨y186, hy186⟩ : ∃ y_ : List (S63), y_ = (l0.take (x11_1 : Int).toNat) := ⟨_, rfl⟩
          replace H : ((impl_declared.f y186 ((rd_T63 l0 x11_1).f0)).bind fun t190 => (if t190 ≥ 0 then (some false) else (impl_DeclsOk.l0 k1 l0 (wrap64 (x3_1 + ((rd_T63 l0 x11_1).f1))) l0 (l0.length : Int) (wrap64 (x11_1 + 1))))) = some r := by first | (rw [hy186]; with_reducible exact H) | (have H2_ := (Option.bind_some _ _).symm.trans H; rw [hy186]; with_reducible exact H2_) | (have H2_ := (Option.bind_some _ _).symm.trans H; with_reducible exact H2_) | with_reducible exact H | (rw [hy186]; exact H) | exact H
          have Ny186 := Aside0.mk hy186; clear hy186; replace H := Option.bind_eq_some_iff.mp H; obtain ⟨t190, A120, H⟩ := H; replace H : (if t190 ≥ 0 then (some false) else (impl_DeclsOk.l0 k1 l0 (wrap64 (x3_1 + ((rd_T63 l0 x11_1).f1))) l0 (l0.length : Int) (wrap64 (x11_1 + 1)))) = some r := H; have A12 := Aside0.mk A120; clear A120
          by_cases c13 : t190 ≥ 0
          ·rw [if_pos c13] at H
           have c13b0 : decide (0 ≤ t190) = true := decide_eq_true c13; clear c13; obtain rfl := Option.some.inj H; have p182 : 0 ≤ (x11_1 : Int) := ode; have q182 : x11_1 < (l0.length : Int) := ode; obtain ⟨ad182, e182, hx182_0, hx182_1⟩ := at_T63 HR0.out x11_1 p182 q182
           cases e182
           replace hx182_0 := cl HB hx182_0; replace hx182_1 := cl HB hx182_1; replace p182 := eq_true p182; replace q182 := eq_true q182
           try go_wp2_with (first | ((with_reducible refine gate_dst (N := 5) rfl ?_); refine be 5 #[.string (⟨#[]⟩ : ByteArray), .int .i64 0] 63 ?_; intro gb183 hg w14 hbox hb; have n0_ := Aside0.mk (below_step (bl HB) hb); have n1_ := Aside0.mk (hbox); have n2_ := Aside0.mk (gs HB hg); have n3_ := Aside0.mk (gs HB hg); clear HB; have HB := n0_; have BK183 := n1_; have GW183 := n2_; have GE183 := n3_; clear n0_ n1_ n2_ n3_; clear hb hbox hg; have hcz15_0 : w14.cell? ⟨gb183, 0, none⟩ = some (.string (⟨#[]⟩ : ByteArray)) := (blk_cell BK183.out 0).trans rfl; have hcz15_1 : w14.cell? ⟨gb183, 1, none⟩ = some (.int .i64 0) := (blk_cell BK183.out 1).trans rfl; have hfz15_0 := blk_frozen BK183.out 0; have hfz15_1 := blk_frozen BK183.out 1))
           have n0_ : Aside0 (((w14.setCell ⟨gb183, 0, none⟩ (.string ((rd_T63 l0 x11_1).f0))).setCell ⟨gb183, 1, none⟩ (.int .i64 ((rd_T63 l0 x11_1).f1))).heap[gb183]? = some (.cells #[.string ((rd_T63 l0 x11_1).f0), .int .i64 ((rd_T63 l0 x11_1).f1)] 63 (0, 0))) := ⟨by refine bd ?_; refine blk_put (cs := #[.string ((rd_T63 l0 x11_1).f0), .int .i64 0]) ?_ 1 _ rfl; refine bd ?_; refine blk_put (cs := #[.string (⟨#[]⟩ : ByteArray), .int .i64 0]) ?_ 0 _ rfl; (with_reducible repeat (first | refine blk_drewN ?_ _ | refine blk_drew ?_ | refine blk_alloc ?_ _)); exact BK183.out⟩
           have n1_ : Aside0 (Below w.heap.size w ((w14.setCell ⟨gb183, 0, none⟩ (.string ((rd_T63 l0 x11_1).f0))).setCell ⟨gb183, 1, none⟩ (.int .i64 ((rd_T63 l0 x11_1).f1)))) := ⟨bs HB GE183⟩; (try clear BK183)
           (try clear HB); generalize ((w14.setCell ⟨gb183, 0, none⟩ (.string ((rd_T63 l0 x11_1).f0))).setCell ⟨gb183, 1, none⟩ (.int .i64 ((rd_T63 l0 x11_1).f1))) = w16 at n0_ n1_ ⊢; have BK183 := n0_; have HB := n1_; clear n0_ n1_; have n0_ := Aside0.mk (blk_drew BK183.out); have n1_ := Aside0.mk (below_drew1 HB.out); clear BK183; clear HB; have BK183 := n0_; have HB := n1_; clear n0_ n1_; refine start_ (n := 19) (S := fun w' => w'.cell? ⟨gb183, 0, none⟩ = some (.string ((rd_T63 l0 x11_1).f0)) ∧ w'.cell? ⟨gb183, 1, none⟩ = some (.int .i64 ((rd_T63 l0 x11_1).f1))) (ds := []) (tf 0 19) (by kernel_rfl) rfl rfl ⟨(blk_cell BK183.out 0).trans rfl, (blk_cell BK183.out 1).trans rfl⟩ (fun hHeld => ?_); refine with_tabW impl_DeclsOk.tab7 impl_DeclsOk.bits7 (fun HT_ HW_ => ?_); generalize w16.drew = w17 at BK183 HB hHeld ⊢; refine pu HT_ 0 16 18 ?_; refine ta HT_ HW_ hHeld 1 17 17 ?_; refine on HT_ 2 18 16 (fun K hK => ?_); refine goes_ Try.func89 (by kernel_rfl) rfl #[.string ((rd_T63 l0 x11_1).f0)] (by rfl) rfl rfl ma ?_; (with_reducible refine (impl_nameOk.calls k1 ((rd_T63 l0 x11_1).f0) true _ A6.out).mono ?_)
           rintro e w' ⟨rfl, ⟨nd, rfl⟩⟩; refine ⟨_, rfl, ?_⟩; refine hK.out _ _ ⟨(blk_cell BK183.out 0).trans rfl, (blk_cell BK183.out 1).trans rfl⟩ (fun hHeld => ?_); clear hK K; refine nm 18 ?_; refine pu HT_ 3 19 15 ?_; refine pu HT_ 4 20 14 ?_; refine pu HT_ 5 21 13 ?_; refine ta HT_ HW_ hHeld 6 22 12 ?_; refine on HT_ 7 23 11 (fun K hK => ?_); refine goes_ Try.func42 (by kernel_rfl) rfl #[.int .i64 ((rd_T63 l0 x11_1).f1), .int .i64 1, .int .i64 4096] (by rfl) rfl rfl ma ?_; (with_reducible refine (impl_inside.calls ((rd_T63 l0 x11_1).f1) 1 4096 true _ A8.out).mono ?_)
           rintro e w' ⟨rfl, ⟨nd, rfl⟩⟩; refine ⟨_, rfl, ?_⟩; have q18 : (x11_1 : Int) ≤ ((l0.length : Int) : Int) := ode; obtain ⟨i018, hi018, _, hsz18, _⟩ := info_parts info63; have hroom18 : l0.length ≤ c0 := HC0.out; have hC18 : Kd.C k63 _ (some ad182) l0.length l0 := HR0.out; have hcut18 := cut_to (P := Try.prog) 47 63 .i64 Try.underlying47 hi018 (some ad182) l0.length c0 x11_1 (ode) q18 hroom18; have hr18 := Kd.C_take (m := (x11_1 : Int).toNat) hC18 (by omega); have hy18 : y186.length = (x11_1 : Int).toNat := (by rw [Ny186.out, List.length_take]; omega)
           rw [← Ny186.out] at hr18; rw [← hy18] at hcut18; have HR189 := Aside0.mk hr18; have HC189 := Aside0.mk (show y186.length ≤ c0 from by omega); clear hr18 hC18 hroom18 hi018 hsz18; have KY18 := Aside0.mk hy18; clear hy18; replace q18 := eq_true q18; refine hK.out _ _ ⟨(blk_cell BK183.out 0).trans rfl, (blk_cell BK183.out 1).trans rfl⟩ (fun hHeld => ?_); clear hK K; refine nm 23 ?_; refine pu HT_ 8 24 10 ?_; refine pu HT_ 9 25 9 ?_; refine pu HT_ 10 26 8 ?_; refine pu HT_ 11 27 7 ?_; refine pu HT_ 12 28 6 ?_; refine pu HT_ 13 29 5 ?_; refine pu HT_ 14 30 4 ?_; refine ta HT_ HW_ hHeld 15 31 3 ?_; refine on HT_ 16 32 2 (fun K hK => ?_); refine goes_ Try.func90 (by kernel_rfl) rfl #[.slice (some ad182) y186.length c0, .string ((rd_T63 l0 x11_1).f0)] (by rfl) rfl rfl ma ?_; (with_reducible refine (impl_declared.calls _ _ y186 ((rd_T63 l0 x11_1).f0) t190 _ ?side1 ?side2 A12.out).mono ?_)
           (case side1 => repeat (first | exact (Kd.C_below HR189.out (bs HB GE183)) | (with_reducible refine Kd.C_alloc ?_ _) | (with_reducible refine Kd.C_drewN ?_ _) | (with_reducible refine Kd.C_drew ?_))); (case side2 => exact HC189.out)
           rintro e w19 ⟨rfl, hb⟩; refine ⟨_, rfl, ?_⟩; have n0_ := Aside0.mk (blk_below (g := gb183) (o := .cells #[.string ((rd_T63 l0 x11_1).f0), .int .i64 ((rd_T63 l0 x11_1).f1)] 63 (0, 0)) (bk BK183) hb); have n1_ := Aside0.mk (below_step (bs HB GE183) hb); clear BK183; clear HB; have BK183 := n0_; have HB := n1_; clear n0_ n1_; (try clear hb)
           (try clear hb2); (try clear hk)
           (try clear hi); refine hK.out _ _ ⟨(blk_cell BK183.out 0).trans rfl, (blk_cell BK183.out 1).trans rfl⟩ (fun hHeld => ?_); clear hK K; refine nm 32 ?_; refine pu HT_ 17 33 1 ?_; refine pu HT_ 18 34 0 ?_; refine done_ (done_of HT_.out (by kernel_rfl)) ?_
           try go_wp2
           go_ret
           exact ⟨by first | rfl | (simp [errW_none, errW_some] <;> rfl) | (simp [*, errW_none, errW_some] <;> rfl), bs HB GE183⟩
          ·rw [if_neg c13] at H
           have c13b0 : decide (0 ≤ t190) = false := decide_eq_false c13; clear c13; have H' := Aside0.mk H; clear H; have p182 : 0 ≤ (x11_1 : Int) := ode; have q182 : x11_1 < (l0.length : Int) := ode; obtain ⟨ad182, e182, hx182_0, hx182_1⟩ := at_T63 HR0.out x11_1 p182 q182
           cases e182
           replace hx182_0 := cl HB hx182_0; replace hx182_1 := cl HB hx182_1; replace p182 := eq_true p182; replace q182 := eq_true q182
           try go_wp2_with (first | ((with_reducible refine gate_dst (N := 5) rfl ?_); refine be 5 #[.string (⟨#[]⟩ : ByteArray), .int .i64 0] 63 ?_; intro gb183 hg w20 hbox hb; have n0_ := Aside0.mk (below_step (bl HB) hb); have n1_ := Aside0.mk (hbox); have n2_ := Aside0.mk (gs HB hg); have n3_ := Aside0.mk (gs HB hg); clear HB; have HB := n0_; have BK183 := n1_; have GW183 := n2_; have GE183 := n3_; clear n0_ n1_ n2_ n3_; clear hb hbox hg; have hcz21_0 : w20.cell? ⟨gb183, 0, none⟩ = some (.string (⟨#[]⟩ : ByteArray)) := (blk_cell BK183.out 0).trans rfl; have hcz21_1 : w20.cell? ⟨gb183, 1, none⟩ = some (.int .i64 0) := (blk_cell BK183.out 1).trans rfl; have hfz21_0 := blk_frozen BK183.out 0; have hfz21_1 := blk_frozen BK183.out 1))
           have n0_ : Aside0 (((w20.setCell ⟨gb183, 0, none⟩ (.string ((rd_T63 l0 x11_1).f0))).setCell ⟨gb183, 1, none⟩ (.int .i64 ((rd_T63 l0 x11_1).f1))).heap[gb183]? = some (.cells #[.string ((rd_T63 l0 x11_1).f0), .int .i64 ((rd_T63 l0 x11_1).f1)] 63 (0, 0))) := ⟨by refine bd ?_; refine blk_put (cs := #[.string ((rd_T63 l0 x11_1).f0), .int .i64 0]) ?_ 1 _ rfl; refine bd ?_; refine blk_put (cs := #[.string (⟨#[]⟩ : ByteArray), .int .i64 0]) ?_ 0 _ rfl; (with_reducible repeat (first | refine blk_drewN ?_ _ | refine blk_drew ?_ | refine blk_alloc ?_ _)); exact BK183.out⟩
           have n1_ : Aside0 (Below w.heap.size w ((w20.setCell ⟨gb183, 0, none⟩ (.string ((rd_T63 l0 x11_1).f0))).setCell ⟨gb183, 1, none⟩ (.int .i64 ((rd_T63 l0 x11_1).f1)))) := ⟨bs HB GE183⟩; (try clear BK183)
           (try clear HB); generalize ((w20.setCell ⟨gb183, 0, none⟩ (.string ((rd_T63 l0 x11_1).f0))).setCell ⟨gb183, 1, none⟩ (.int .i64 ((rd_T63 l0 x11_1).f1))) = w22 at n0_ n1_ ⊢; have BK183 := n0_; have HB := n1_; clear n0_ n1_; have n0_ := Aside0.mk (blk_drew BK183.out); have n1_ := Aside0.mk (below_drew1 HB.out); clear BK183; clear HB; have BK183 := n0_; have HB := n1_; clear n0_ n1_; refine start_ (n := 19) (S := fun w' => w'.cell? ⟨gb183, 0, none⟩ = some (.string ((rd_T63 l0 x11_1).f0)) ∧ w'.cell? ⟨gb183, 1, none⟩ = some (.int .i64 ((rd_T63 l0 x11_1).f1))) (ds := []) (tf 0 19) (by kernel_rfl) rfl rfl ⟨(blk_cell BK183.out 0).trans rfl, (blk_cell BK183.out 1).trans rfl⟩ (fun hHeld => ?_); refine with_tabW impl_DeclsOk.tab7 impl_DeclsOk.bits7 (fun HT_ HW_ => ?_); generalize w22.drew = w23 at BK183 HB hHeld ⊢; refine pu HT_ 0 16 18 ?_; refine ta HT_ HW_ hHeld 1 17 17 ?_; refine on HT_ 2 18 16 (fun K hK => ?_); refine goes_ Try.func89 (by kernel_rfl) rfl #[.string ((rd_T63 l0 x11_1).f0)] (by rfl) rfl rfl ma ?_; (with_reducible refine (impl_nameOk.calls k1 ((rd_T63 l0 x11_1).f0) true _ A6.out).mono ?_)
           rintro e w' ⟨rfl, ⟨nd, rfl⟩⟩; refine ⟨_, rfl, ?_⟩; refine hK.out _ _ ⟨(blk_cell BK183.out 0).trans rfl, (blk_cell BK183.out 1).trans rfl⟩ (fun hHeld => ?_); clear hK K; refine nm 18 ?_; refine pu HT_ 3 19 15 ?_; refine pu HT_ 4 20 14 ?_; refine pu HT_ 5 21 13 ?_; refine ta HT_ HW_ hHeld 6 22 12 ?_; refine on HT_ 7 23 11 (fun K hK => ?_); refine goes_ Try.func42 (by kernel_rfl) rfl #[.int .i64 ((rd_T63 l0 x11_1).f1), .int .i64 1, .int .i64 4096] (by rfl) rfl rfl ma ?_; (with_reducible refine (impl_inside.calls ((rd_T63 l0 x11_1).f1) 1 4096 true _ A8.out).mono ?_)
           rintro e w' ⟨rfl, ⟨nd, rfl⟩⟩; refine ⟨_, rfl, ?_⟩; have q24 : (x11_1 : Int) ≤ ((l0.length : Int) : Int) := ode; obtain ⟨i024, hi024, _, hsz24, _⟩ := info_parts info63; have hroom24 : l0.length ≤ c0 := HC0.out; have hC24 : Kd.C k63 _ (some ad182) l0.length l0 := HR0.out; have hcut24 := cut_to (P := Try.prog) 47 63 .i64 Try.underlying47 hi024 (some ad182) l0.length c0 x11_1 (ode) q24 hroom24; have hr24 := Kd.C_take (m := (x11_1 : Int).toNat) hC24 (by omega); have hy24 : y186.length = (x11_1 : Int).toNat := (by rw [Ny186.out, List.length_take]; omega)
           rw [← Ny186.out] at hr24; rw [← hy24] at hcut24; have HR189 := Aside0.mk hr24; have HC189 := Aside0.mk (show y186.length ≤ c0 from by omega); clear hr24 hC24 hroom24 hi024 hsz24; have KY24 := Aside0.mk hy24; clear hy24; replace q24 := eq_true q24; refine hK.out _ _ ⟨(blk_cell BK183.out 0).trans rfl, (blk_cell BK183.out 1).trans rfl⟩ (fun hHeld => ?_); clear hK K; refine nm 23 ?_; refine pu HT_ 8 24 10 ?_; refine pu HT_ 9 25 9 ?_; refine pu HT_ 10 26 8 ?_; refine pu HT_ 11 27 7 ?_; refine pu HT_ 12 28 6 ?_; refine pu HT_ 13 29 5 ?_; refine pu HT_ 14 30 4 ?_; refine ta HT_ HW_ hHeld 15 31 3 ?_; refine on HT_ 16 32 2 (fun K hK => ?_); refine goes_ Try.func90 (by kernel_rfl) rfl #[.slice (some ad182) y186.length c0, .string ((rd_T63 l0 x11_1).f0)] (by rfl) rfl rfl ma ?_; (with_reducible refine (impl_declared.calls _ _ y186 ((rd_T63 l0 x11_1).f0) t190 _ ?side1 ?side2 A12.out).mono ?_)
           (case side1 => repeat (first | exact (Kd.C_below HR189.out (bs HB GE183)) | (with_reducible refine Kd.C_alloc ?_ _) | (with_reducible refine Kd.C_drewN ?_ _) | (with_reducible refine Kd.C_drew ?_))); (case side2 => exact HC189.out)
           rintro e w25 ⟨rfl, hb⟩; refine ⟨_, rfl, ?_⟩; have n0_ := Aside0.mk (blk_below (g := gb183) (o := .cells #[.string ((rd_T63 l0 x11_1).f0), .int .i64 ((rd_T63 l0 x11_1).f1)] 63 (0, 0)) (bk BK183) hb); have n1_ := Aside0.mk (below_step (bs HB GE183) hb); clear BK183; clear HB; have BK183 := n0_; have HB := n1_; clear n0_ n1_; (try clear hb)
           (try clear hb2); (try clear hk)
           (try clear hi); refine hK.out _ _ ⟨(blk_cell BK183.out 0).trans rfl, (blk_cell BK183.out 1).trans rfl⟩ (fun hHeld => ?_); clear hK K; refine nm 32 ?_; refine pu HT_ 17 33 1 ?_; refine pu HT_ 18 34 0 ?_; refine done_ (done_of HT_.out (by kernel_rfl)) ?_; have hcz26_0 : w25.cell? ⟨gb183, 0, none⟩ = some (.string ((rd_T63 l0 x11_1).f0)) := (blk_cell BK183.out 0).trans rfl; have hcz26_1 : w25.cell? ⟨gb183, 1, none⟩ = some (.int .i64 ((rd_T63 l0 x11_1).f1)) := (blk_cell BK183.out 1).trans rfl; have hfz26_0 := blk_frozen BK183.out 0; have hfz26_1 := blk_frozen BK183.out 1
           try go_wp2
           go_roundg k1
           case measure => have := HK1.out; omega
           case rel => exact ⟨(wrap64 (x3_1 + ((rd_T63 l0 x11_1).f1))), (wrap64 (x11_1 + 1)), au, au, H', ⟨by have := HK1.out; omega⟩, ⟨bs HB GE183⟩⟩
         ·rw [if_neg c11] at H
          exact absurd H (by simp)
        ·replace c9 := Bool.eq_false_iff.mpr c9
         subst c9
         have H1 : (some false) = some r := by rw [if_neg (show ¬ (false = true) by decide)] at H; exact H
         clear H; have H := H1; clear H1; obtain rfl := Option.some.inj H; have p182 : 0 ≤ (x11_1 : Int) := ode; have q182 : x11_1 < (l0.length : Int) := ode; obtain ⟨ad182, e182, hx182_0, hx182_1⟩ := at_T63 HR0.out x11_1 p182 q182
         cases e182
         replace hx182_0 := cl HB hx182_0; replace hx182_1 := cl HB hx182_1; replace p182 := eq_true p182; replace q182 := eq_true q182
         try go_wp2_with (first | ((with_reducible refine gate_dst (N := 5) rfl ?_); refine be 5 #[.string (⟨#[]⟩ : ByteArray), .int .i64 0] 63 ?_; intro gb183 hg w27 hbox hb; have n0_ := Aside0.mk (below_step (bl HB) hb); have n1_ := Aside0.mk (hbox); have n2_ := Aside0.mk (gs HB hg); have n3_ := Aside0.mk (gs HB hg); clear HB; have HB := n0_; have BK183 := n1_; have GW183 := n2_; have GE183 := n3_; clear n0_ n1_ n2_ n3_; clear hb hbox hg; have hcz28_0 : w27.cell? ⟨gb183, 0, none⟩ = some (.string (⟨#[]⟩ : ByteArray)) := (blk_cell BK183.out 0).trans rfl; have hcz28_1 : w27.cell? ⟨gb183, 1, none⟩ = some (.int .i64 0) := (blk_cell BK183.out 1).trans rfl; have hfz28_0 := blk_frozen BK183.out 0; have hfz28_1 := blk_frozen BK183.out 1))
         have n0_ : Aside0 (((w27.setCell ⟨gb183, 0, none⟩ (.string ((rd_T63 l0 x11_1).f0))).setCell ⟨gb183, 1, none⟩ (.int .i64 ((rd_T63 l0 x11_1).f1))).heap[gb183]? = some (.cells #[.string ((rd_T63 l0 x11_1).f0), .int .i64 ((rd_T63 l0 x11_1).f1)] 63 (0, 0))) := ⟨by refine bd ?_; refine blk_put (cs := #[.string ((rd_T63 l0 x11_1).f0), .int .i64 0]) ?_ 1 _ rfl; refine bd ?_; refine blk_put (cs := #[.string (⟨#[]⟩ : ByteArray), .int .i64 0]) ?_ 0 _ rfl; (with_reducible repeat (first | refine blk_drewN ?_ _ | refine blk_drew ?_ | refine blk_alloc ?_ _)); exact BK183.out⟩
         have n1_ : Aside0 (Below w.heap.size w ((w27.setCell ⟨gb183, 0, none⟩ (.string ((rd_T63 l0 x11_1).f0))).setCell ⟨gb183, 1, none⟩ (.int .i64 ((rd_T63 l0 x11_1).f1)))) := ⟨bs HB GE183⟩; (try clear BK183)
         (try clear HB); generalize ((w27.setCell ⟨gb183, 0, none⟩ (.string ((rd_T63 l0 x11_1).f0))).setCell ⟨gb183, 1, none⟩ (.int .i64 ((rd_T63 l0 x11_1).f1))) = w29 at n0_ n1_ ⊢; have BK183 := n0_; have HB := n1_; clear n0_ n1_; obtain ⟨s0_, s1_⟩ : w29.cell? ⟨gb183, 0, none⟩ = some (.string ((rd_T63 l0 x11_1).f0)) ∧ w29.cell? ⟨gb183, 1, none⟩ = some (.int .i64 ((rd_T63 l0 x11_1).f1)) := ⟨(blk_cell BK183.out 0).trans rfl, (blk_cell BK183.out 1).trans rfl⟩
         (try clear hcz28_0); (try clear hcz28_1); (try clear hx182_0); (try clear hx182_1)
         go_quiet ((first | (go_at_call 89; (with_reducible refine Calls.quiet_of ((impl_nameOk.calls k1 ((rd_T63 l0 x11_1).f0) true _ A6.out).mono fun _ _ h_ => ⟨h_.1, h_.2.out⟩))) | (go_at_call 42; (with_reducible refine Calls.quiet_of ((impl_inside.calls ((rd_T63 l0 x11_1).f1) 1 4096 false _ A8.out).mono fun _ _ h_ => ⟨h_.1, h_.2.out⟩)))))
         clear s0_ s1_; have n0_ := Aside0.mk (blk_drewN BK183.out nq); have n1_ := Aside0.mk (pw_below_drewN HB.out nq); clear BK183; clear HB; have BK183 := n0_; have HB := n1_; clear n0_ n1_; generalize w29.drewN nq = w30 at BK183 HB ⊢
         try go_wp2
         go_ret
         exact ⟨by first | rfl | (simp [errW_none, errW_some] <;> rfl) | (simp [*, errW_none, errW_some] <;> rfl), bs HB GE183⟩
       ·replace c7 := Bool.eq_false_iff.mpr c7
        subst c7
        have H1 : (some false) = some r := by rw [if_neg (show ¬ (false = true) by decide)] at H; exact H
        clear H; have H := H1; clear H1; obtain rfl := Option.some.inj H; have p182 : 0 ≤ (x11_1 : Int) := ode; have q182 : x11_1 < (l0.length : Int) := ode; obtain ⟨ad182, e182, hx182_0, hx182_1⟩ := at_T63 HR0.out x11_1 p182 q182
        cases e182
        replace hx182_0 := cl HB hx182_0; replace hx182_1 := cl HB hx182_1; replace p182 := eq_true p182; replace q182 := eq_true q182
        try go_wp2_with (first | ((with_reducible refine gate_dst (N := 5) rfl ?_); refine be 5 #[.string (⟨#[]⟩ : ByteArray), .int .i64 0] 63 ?_; intro gb183 hg w31 hbox hb; have n0_ := Aside0.mk (below_step (bl HB) hb); have n1_ := Aside0.mk (hbox); have n2_ := Aside0.mk (gs HB hg); have n3_ := Aside0.mk (gs HB hg); clear HB; have HB := n0_; have BK183 := n1_; have GW183 := n2_; have GE183 := n3_; clear n0_ n1_ n2_ n3_; clear hb hbox hg; have hcz32_0 : w31.cell? ⟨gb183, 0, none⟩ = some (.string (⟨#[]⟩ : ByteArray)) := (blk_cell BK183.out 0).trans rfl; have hcz32_1 : w31.cell? ⟨gb183, 1, none⟩ = some (.int .i64 0) := (blk_cell BK183.out 1).trans rfl; have hfz32_0 := blk_frozen BK183.out 0; have hfz32_1 := blk_frozen BK183.out 1))
        have n0_ : Aside0 (((w31.setCell ⟨gb183, 0, none⟩ (.string ((rd_T63 l0 x11_1).f0))).setCell ⟨gb183, 1, none⟩ (.int .i64 ((rd_T63 l0 x11_1).f1))).heap[gb183]? = some (.cells #[.string ((rd_T63 l0 x11_1).f0), .int .i64 ((rd_T63 l0 x11_1).f1)] 63 (0, 0))) := ⟨by refine bd ?_; refine blk_put (cs := #[.string ((rd_T63 l0 x11_1).f0), .int .i64 0]) ?_ 1 _ rfl; refine bd ?_; refine blk_put (cs := #[.string (⟨#[]⟩ : ByteArray), .int .i64 0]) ?_ 0 _ rfl; (with_reducible repeat (first | refine blk_drewN ?_ _ | refine blk_drew ?_ | refine blk_alloc ?_ _)); exact BK183.out⟩
        have n1_ : Aside0 (Below w.heap.size w ((w31.setCell ⟨gb183, 0, none⟩ (.string ((rd_T63 l0 x11_1).f0))).setCell ⟨gb183, 1, none⟩ (.int .i64 ((rd_T63 l0 x11_1).f1)))) := ⟨bs HB GE183⟩; (try clear BK183)
        (try clear HB); generalize ((w31.setCell ⟨gb183, 0, none⟩ (.string ((rd_T63 l0 x11_1).f0))).setCell ⟨gb183, 1, none⟩ (.int .i64 ((rd_T63 l0 x11_1).f1))) = w33 at n0_ n1_ ⊢; have BK183 := n0_; have HB := n1_; clear n0_ n1_; obtain ⟨s0_, s1_⟩ : w33.cell? ⟨gb183, 0, none⟩ = some (.string ((rd_T63 l0 x11_1).f0)) ∧ w33.cell? ⟨gb183, 1, none⟩ = some (.int .i64 ((rd_T63 l0 x11_1).f1)) := ⟨(blk_cell BK183.out 0).trans rfl, (blk_cell BK183.out 1).trans rfl⟩
        (try clear hcz32_0); (try clear hcz32_1); (try clear hx182_0); (try clear hx182_1)
        go_quiet (((go_at_call 89; (with_reducible refine Calls.quiet_of ((impl_nameOk.calls k1 ((rd_T63 l0 x11_1).f0) false _ A6.out).mono fun _ _ h_ => ⟨h_.1, h_.2.out⟩)))))
        clear s0_ s1_; have n0_ := Aside0.mk (blk_drewN BK183.out nq); have n1_ := Aside0.mk (pw_below_drewN HB.out nq); clear BK183; clear HB; have BK183 := n0_; have HB := n1_; clear n0_ n1_; generalize w33.drewN nq = w34 at BK183 HB ⊢
        try go_wp2
        go_ret
        exact ⟨by first | rfl | (simp [errW_none, errW_some] <;> rfl) | (simp [*, errW_none, errW_some] <;> rfl), bs HB GE183⟩
      ·rw [if_neg c5] at H
       exact absurd H (by simp)
     ·rw [if_neg c4] at H
      exact absurd H (by simp)
    ·rw [if_neg c3] at H
     have c3b0 : decide (x11_1 < (l0.length : Int)) = false := decide_eq_false c3; clear c3; obtain rfl := Option.some.inj H
     go_wp2
     go_ret
     exact ⟨by first | rfl | (simp [errW_none, errW_some] <;> rfl) | (simp [*, errW_none, errW_some] <;> rfl), bl HB⟩

end Go.Proofs.Ytonkicgdgpcneaa.PFnSlices
