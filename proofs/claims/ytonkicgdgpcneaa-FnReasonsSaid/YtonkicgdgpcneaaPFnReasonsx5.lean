-- Written by a program of this session (a turned copy of the kit's printer); Lean checks it.
-- half the depth
import Derived.Test.YtonkicgdgpcneaaPFnReasonsx0
import Derived.Test.YtonkicgdgpcneaaPFnReasonsx4
namespace Go.Proofs.Ytonkicgdgpcneaa.PFnReasons
open Go.RowKit Go.Proofs.YtonkicgdgpcneaaW.PrintWords Go.Proofs.YtonkicgdgpcneaaW.PrintLast Go.Proofs.YtonkicgdgpcneaaW.PrintMore
attribute [local go_sem] max2_int min2_int max_two min_two max_three min_three max_four min_four   -- for this text's walks alone
set_option linter.unusedVariables false
set_option linter.unusedSimpArgs false

/-! ### impl_roots: function 41 -/
mutual
def impl_roots.j0 : Nat → Bool → Int → List (S70) → Option (List Int × Bool)
 | 0, _, _, _ => none
 | k + 1, x23, x195000, x195001 => if x23 = true then (some (([] : List Int), false)) else (if 0 ≤ x195000 then (if (x195000 : Int).toNat ≤ 35184372088832 then ((some (List.replicate (x195000 : Int).toNat 0 : List Int)).bind fun y196 => (impl_roots.l0 k y196 (y196.length : Int) 0 x195000 x195001)) else (none)) else (none))
def impl_roots.l0 : Nat → List Int → Int → Int → Int → List (S70) → Option (List Int × Bool)
 | 0, _, _, _, _, _ => none
 | k + 1, x4, x28, x29, x195000, x195001 => if x29 < x28 then (if 0 ≤ x29 then (if x29 < (x4.length : Int) then (impl_roots.l0 k (x4.set (x29 : Int).toNat x29) x28 (wrap64 (x29 + 1)) x195000 x195001) else (none)) else (none)) else (impl_roots.l1 k x4 x195001 (x195001.length : Int) 0 x195000 x195001)
def impl_roots.l1 : Nat → List Int → List (S70) → Int → Int → Int → List (S70) → Option (List Int × Bool)
 | 0, _, _, _, _, _, _ => none
 | k + 1, x4, x38, x39, x40, x195000, x195001 => if x40 < x39 then (if 0 ≤ x40 then (if x40 < (x38.length : Int) then ((impl_inside.f ((rd_T70 x38 x40).f0) 0 (wrap64 (x195000 - 1))).bind fun t202 => (if t202 = true then ((impl_inside.f ((rd_T70 x38 x40).f1) 0 (wrap64 (x195000 - 1))).bind fun t203 => (if t203 = true then ((impl_inside.f ((rd_T70 x38 x40).f2) 0 1000000).bind fun t204 => (if t204 = true then (if 0 ≤ ((rd_T70 x38 x40).f0) then (if ((rd_T70 x38 x40).f0) < (x4.length : Int) then (if 0 ≤ ((rd_T70 x38 x40).f1) then (if ((rd_T70 x38 x40).f1) < (x4.length : Int) then (impl_roots.j3 k x4 x38 x39 x40 ((rd x4 ((rd_T70 x38 x40).f0)) == (rd x4 ((rd_T70 x38 x40).f1))) x195000 x195001 ((rd_T70 x38 x40).f0) ((rd_T70 x38 x40).f1) ((rd_T70 x38 x40).f2)) else (none)) else (none)) else (none)) else (none)) else (impl_roots.j3 k x4 x38 x39 x40 true x195000 x195001 ((rd_T70 x38 x40).f0) ((rd_T70 x38 x40).f1) ((rd_T70 x38 x40).f2)))) else (impl_roots.j3 k x4 x38 x39 x40 true x195000 x195001 ((rd_T70 x38 x40).f0) ((rd_T70 x38 x40).f1) ((rd_T70 x38 x40).f2)))) else (impl_roots.j3 k x4 x38 x39 x40 true x195000 x195001 ((rd_T70 x38 x40).f0) ((rd_T70 x38 x40).f1) ((rd_T70 x38 x40).f2)))) else (none)) else (none)) else (some (x4, true))
def impl_roots.j3 : Nat → List Int → List (S70) → Int → Int → Bool → Int → List (S70) → Int → Int → Int → Option (List Int × Bool)
 | 0, _, _, _, _, _, _, _, _, _, _ => none
 | k + 1, x4, x38, x39, x40, x78, x195000, x195001, x202000, x202001, x202002 => if x78 = true then (some (([] : List Int), false)) else (if 0 ≤ x202000 then (if x202000 < (x4.length : Int) then (if 0 ≤ x202001 then (if x202001 < (x4.length : Int) then (impl_roots.l2 k x4 (mn (rd x4 x202000) (rd x4 x202001)) (mx (rd x4 x202000) (rd x4 x202001)) x38 x39 x40 (x4.length : Int) 0 x195000 x195001) else (none)) else (none)) else (none)) else (none))
def impl_roots.l2 : Nat → List Int → Int → Int → List (S70) → Int → Int → Int → Int → Int → List (S70) → Option (List Int × Bool)
 | 0, _, _, _, _, _, _, _, _, _, _ => none
 | k + 1, x4, x8, x9, x38, x39, x40, x102, x103, x195000, x195001 => if x103 < x102 then (if 0 ≤ x103 then (if x103 < (x4.length : Int) then (if (rd x4 x103) = x9 then (impl_roots.l2 k (x4.set (x103 : Int).toNat x8) x8 x9 x38 x39 x40 x102 (wrap64 (x103 + 1)) x195000 x195001) else (impl_roots.l2 k x4 x8 x9 x38 x39 x40 x102 (wrap64 (x103 + 1)) x195000 x195001)) else (none)) else (none)) else (impl_roots.l1 k x4 x38 x39 (wrap64 (x40 + 1)) x195000 x195001)
end
def impl_roots.f (k : Nat) (a0_0 : Int) (l0_1 : List (S70)) : Option (List Int × Bool) := (impl_inside.f a0_0 0 1000).bind fun t195 => (if t195 = true then (impl_roots.j0 k (decide ((l0_1.length : Int) > a0_0)) a0_0 l0_1) else (impl_roots.j0 k true a0_0 l0_1))
set_option maxHeartbeats 8000000 in
set_option maxRecDepth 100000 in
theorem impl_roots.calls (k : Nat) (a0_0 : Int) (A0_1 : Option Addr) (c0_1 : Nat) (l0_1 : List (S70)) (r1 : List Int) (r2 : Bool) (w : World) (hr0_1 : Kd.C k70 w A0_1 l0_1.length l0_1) (hc0_1 : l0_1.length ≤ c0_1) (h : impl_roots.f k a0_0 l0_1 = some (r1, r2)) :
  Calls Try.prog 41 #[.agg #[.int .i64 a0_0, .slice A0_1 l0_1.length c0_1]] w fun e w' => ∃ v0_ : Value, e = .returned (.tuple #[v0_, .bool r2]) ∧ Kd.R (Kd.int .i64) 2 w' w.heap.size (fun _ => True) v0_ r1 ∧ Below w.heap.size w w' := by
 have hu31 := Try.underlying31; have hu70 := Try.underlying70; have HR0_1 := Aside0.mk hr0_1; have HC0_1 := Aside0.mk hc0_1; clear hr0_1 hc0_1; have HB := Aside0.mk (Below.refl w.heap.size w); have H : ((impl_inside.f a0_0 0 1000).bind fun t195 => (if t195 = true then (impl_roots.j0 k (decide ((l0_1.length : Int) > a0_0)) a0_0 l0_1) else (impl_roots.j0 k true a0_0 l0_1))) = some (r1, r2) := h; clear h; have HC2 := Aside0.mk H; clear H
 go_enter Try.func41, Try.ntmps41
 go_upto_region 1 with (first | ((with_reducible refine gate_dst (N := 1) rfl ?_); (try (refine gate_guard (by rfl) ?_; dsimp only)); refine be 1 #[.int .i64 a0_0, .slice A0_1 l0_1.length c0_1] 31 ?_; intro gb194 hg w3 hbox hb; have n0_ := Aside0.mk (below_step (bl HB) hb); have n1_ := Aside0.mk (hbox); have n2_ := Aside0.mk (gs HB hg); have n3_ := Aside0.mk (gs HB hg); clear HB; have HB := n0_; have BK194 := n1_; have GW194 := n2_; have GE194 := n3_; clear n0_ n1_ n2_ n3_; clear hb hbox hg))
 (try simp only [Act.put, List.setIfInBounds_toArray, List.set_cons_zero, List.set_cons_succ])
 go_cut [23] (fun v23 wc => ∃ (kq : Nat) (x23_1 : Bool), v23 = .bool x23_1 ∧ Aside0 (impl_roots.j0 kq x23_1 a0_0 l0_1 = some (r1, r2)) ∧ Aside0 (kq ≤ k) ∧ Aside0 (wc.heap[gb194]? = some (.cells #[.int .i64 a0_0, (.slice A0_1 l0_1.length c0_1)] 31 (0, 0))) ∧ Aside0 (Below w.heap.size w wc))
 case first =>
  have H := HC2.out; clear HC2; replace H := Option.bind_eq_some_iff.mp H; obtain ⟨t195, A40, H⟩ := H; replace H : (if t195 = true then (impl_roots.j0 k (decide ((l0_1.length : Int) > a0_0)) a0_0 l0_1) else (impl_roots.j0 k true a0_0 l0_1)) = some (r1, r2) := H; have A4 := Aside0.mk A40; clear A40
  by_cases c5 : t195 = true
  ·subst c5
   have H1 : (impl_roots.j0 k (decide ((l0_1.length : Int) > a0_0)) a0_0 l0_1) = some (r1, r2) := by rw [if_pos rfl] at H; exact H
   clear H; have H := H1; clear H1; have H' := Aside0.mk H; clear H; have hcz6_0 : w3.cell? ⟨gb194, 0, none⟩ = some (.int .i64 a0_0) := (blk_cell BK194.out 0).trans rfl; have hcz6_1 : w3.cell? ⟨gb194, 1, none⟩ = some (.slice A0_1 l0_1.length c0_1) := (blk_cell BK194.out 1).trans rfl; have hfz6_0 := blk_frozen BK194.out 0; have hfz6_1 := blk_frozen BK194.out 1
   go_wp2_with (first | ((with_reducible refine gate_callee (f := 42) rfl ?_); refine goesL_ (some 14) rfl rfl Try.func42 (by kernel_rfl) rfl #[.int .i64 a0_0, .int .i64 0, .int .i64 1000] rfl ma ?_; (with_reducible refine (impl_inside.calls a0_0 0 1000 true _ A4.out).mono ?_); rintro e w' ⟨rfl, ⟨nd, rfl⟩⟩; refine ⟨_, rfl, ?_⟩))
   go_meet
   case rel => exact ⟨_, (decide ((l0_1.length : Int) > a0_0)), au, H', ⟨by first | omega | exact Nat.le_refl _⟩, ⟨bk BK194⟩, ⟨bs HB GE194⟩⟩
  ·replace c5 := Bool.eq_false_iff.mpr c5
   subst c5
   have H1 : (impl_roots.j0 k true a0_0 l0_1) = some (r1, r2) := by rw [if_neg (show ¬ (false = true) by decide)] at H; exact H
   clear H; have H := H1; clear H1; have H' := Aside0.mk H; clear H; have hcz7_0 : w3.cell? ⟨gb194, 0, none⟩ = some (.int .i64 a0_0) := (blk_cell BK194.out 0).trans rfl; have hcz7_1 : w3.cell? ⟨gb194, 1, none⟩ = some (.slice A0_1 l0_1.length c0_1) := (blk_cell BK194.out 1).trans rfl; have hfz7_0 := blk_frozen BK194.out 0; have hfz7_1 := blk_frozen BK194.out 1
   go_wp2_with (first | ((with_reducible refine gate_callee (f := 42) rfl ?_); refine goesL_ (some 14) rfl rfl Try.func42 (by kernel_rfl) rfl #[.int .i64 a0_0, .int .i64 0, .int .i64 1000] rfl ma ?_; (with_reducible refine (impl_inside.calls a0_0 0 1000 false _ A4.out).mono ?_); rintro e w' ⟨rfl, ⟨nd, rfl⟩⟩; refine ⟨_, rfl, ?_⟩))
   go_meet
   case rel => exact ⟨_, (true), au, H', ⟨by first | omega | exact Nat.le_refl _⟩, ⟨bk BK194⟩, ⟨bs HB GE194⟩⟩
 case rest =>
  clear HC2
  try clear p2
  try clear c4
  try clear c5
  try clear hcz6_0
  try clear hcz6_1
  try clear hcz7_0
  try clear hcz7_1
  try clear hfz6_0
  try clear hfz6_1
  try clear hfz7_0
  try clear hfz7_1
  obtain ⟨kq, x23_1, rfl, HA, HJ1, BK194, HB⟩ := hcut
  cases kq with
  | zero => exact absurd HA.out (by simp [impl_roots.j0])
  | succ kj1 =>
   have H := HA.out; clear HA
   simp only [impl_roots.j0] at H
   by_cases c8 : x23_1 = true
   ·subst c8
    have H1 : (some (([] : List Int), false)) = some (r1, r2) := by rw [if_pos rfl] at H; exact H
    clear H; have H := H1; clear H1
    simp only [Option.some.injEq, Prod.mk.injEq] at H
    obtain ⟨rfl, rfl⟩ := H
    go_wp2
    go_ret2
    exact ⟨_, by first | rfl | (simp [errW_none, errW_some] <;> rfl) | (simp [*, errW_none, errW_some] <;> rfl), by first | exact Kd.R_nil _ _ _ _ _ | exact Kd.N_nil _ _ _ _ _ | exact Kd.V_nil _ _ _ _ _ | exact Kd.Q_nil _ _ _ _ _ | exact Kd.S_nil _ _ _ _ _, bs HB GE194⟩
   ·replace c8 := Bool.eq_false_iff.mpr c8
    subst c8
    have H1 : (if 0 ≤ a0_0 then (if (a0_0 : Int).toNat ≤ 35184372088832 then ((some (List.replicate (a0_0 : Int).toNat 0 : List Int)).bind fun y196 => (impl_roots.l0 kj1 y196 (y196.length : Int) 0 a0_0 l0_1)) else (none)) else (none)) = some (r1, r2) := by rw [if_neg (show ¬ (false = true) by decide)] at H; exact H
    clear H; have H := H1; clear H1
    by_cases c9 : 0 ≤ a0_0
    ·rw [if_pos c9] at H
     have c9b0 := eq_true c9; have c9b1 : decide (0 ≤ a0_0) = true := decide_eq_true c9; clear c9
     by_cases c10 : (a0_0 : Int).toNat ≤ 35184372088832
     ·rw [if_pos c10] at H
      have c10b0 := eq_true c10; have c10b1 : decide ((a0_0 : Int).toNat ≤ 35184372088832) = true := decide_eq_true c10; clear c10; obtain ⟨y196, hy196⟩ : ∃ y_ : List Int, y_ = (List.replicate (a0_0 : Int).toNat 0) := ⟨_, rfl⟩
      replace H : (impl_roots.l0 kj1 y196 (y196.length : Int) 0 a0_0 l0_1) = some (r1, r2) := by first | (rw [hy196]; with_reducible exact H) | (have H2_ := (Option.bind_some _ _).symm.trans H; rw [hy196]; with_reducible exact H2_) | (have H2_ := (Option.bind_some _ _).symm.trans H; with_reducible exact H2_) | with_reducible exact H | (rw [hy196]; exact H) | exact H
      have Ny196 := Aside0.mk hy196; clear hy196; have H' := Aside0.mk H; clear H; have hcz11_0 : wc.cell? ⟨gb194, 0, none⟩ = some (.int .i64 a0_0) := (blk_cell BK194.out 0).trans rfl; have hcz11_1 : wc.cell? ⟨gb194, 1, none⟩ = some (.slice A0_1 l0_1.length c0_1) := (blk_cell BK194.out 1).trans rfl; have hfz11_0 := blk_frozen BK194.out 0; have hfz11_1 := blk_frozen BK194.out 1
      go_wp2_with (first | ((with_reducible refine gate_dst (N := 26) rfl ?_); (try (refine gate_guard (by rfl) ?_; dsimp only)); refine Kd.R_make (Kd.int .i64) _ 2 rfl (N := 26) rfl 26 _ _ rfl a0_0 rfl rfl Try.underlying26 (.int .i64 0) 8 info2 rfl (by decide) (by omega) 0 (ok := fun _ => True) (okp := fun _ => True) rfl (fun _ hk => hk) trivial (ode) (Nat.le_trans (Nat.mul_le_mul_right _ (ode : a0_0.toNat ≤ 35184372088832)) (by omega)) (Below.refl _ _) (Nat.le_refl _) ?_; intro v197 w12 ho13 hb hg_ hnew_; clear hg_ hnew_; (first | rw [← Ny196.out] at ho13 | (simp only [Int.reduceToNat] at ho13; rw [← Ny196.out] at ho13)); have n0_ := Aside0.mk (Kd.R_lower ho13 (below_size (bs HB GE194))); have n1_ := Aside0.mk (blk_below (g := gb194) (o := .cells #[.int .i64 a0_0, .slice A0_1 l0_1.length c0_1] 31 (0, 0)) (bk BK194) hb); have n2_ := Aside0.mk (below_step (bs HB GE194) hb); clear BK194; clear HB; have HO198 := n0_; have BK194 := n1_; have HB := n2_; clear n0_ n1_ n2_; clear hb ho13; obtain ⟨Ao14, co14, eo14⟩ := Kd.R_slice HO198.out; subst eo14))
      go_loopg [29] kj1 (fun kq v29 w' => ∃ (x4_2 : List Int) (x29_2 : Int), v29 = .int .i64 x29_2 ∧ Aside0 (impl_roots.l0 kq x4_2 (y196.length : Int) x29_2 a0_0 l0_1 = some (r1, r2)) ∧ Aside0 (kq ≤ kj1) ∧ Aside0 (Kd.R (Kd.int .i64) 2 w' w.heap.size (fun _ => True) (.slice Ao14 y196.length co14) x4_2) ∧ Aside0 (w'.heap[gb194]? = some (.cells #[.int .i64 a0_0, (.slice A0_1 l0_1.length c0_1)] 31 (0, 0))) ∧ Aside0 (Below w.heap.size w w'))
      case atStart => exact ⟨(y196), (0), au, H', ⟨Nat.le_refl _⟩, ⟨rl HO198⟩, ⟨bk BK194⟩, ⟨bs HB GE194⟩⟩
      case round =>
       clear H'
       try clear c1
       try clear p2
       try clear c4
       try clear c5
       try clear c8
       try clear c9
       try clear c9b0
       try clear c9b1
       try clear c10
       try clear c10b0
       try clear c10b1
       try clear hcz11_0
       try clear hcz11_1
       try clear hcz6_0
       try clear hcz6_1
       try clear hcz7_0
       try clear hcz7_1
       try clear hfz11_0
       try clear hfz11_1
       try clear hfz6_0
       try clear hfz6_1
       try clear hfz7_0
       try clear hfz7_1
       try clear p2
       obtain ⟨x4_2, x29_2, rfl, HA, HK2, HO_4, BK194, HB⟩ := hrel; have hl4_2 := (Kd.R_reads' HO_4.out).1; rw [hl4_2] at HO_4
       (try simp only [hl4_2])
       (try simp only [hl4_2] at BK194)
       cases gk with
       | zero => exact absurd HA.out (by simp [impl_roots.l0])
       | succ k2 =>
        have H := HA.out; clear HA
        simp only [impl_roots.l0] at H
        by_cases c15 : x29_2 < (y196.length : Int)
        ·rw [if_pos c15] at H
         have c15b0 : decide (x29_2 < (y196.length : Int)) = true := decide_eq_true c15
         (try simp only [hl4_2] at c15b0)
         clear c15
         by_cases c16 : 0 ≤ x29_2
         ·rw [if_pos c16] at H
          have c16b0 : decide (0 ≤ x29_2) = true := decide_eq_true c16; clear c16
          by_cases c17 : x29_2 < (x4_2.length : Int)
          ·rw [if_pos c17] at H
           have c17b0 : decide (x29_2 < (x4_2.length : Int)) = true := decide_eq_true c17
           (try simp only [hl4_2] at c17b0)
           clear c17; obtain ⟨y199, hy199⟩ : ∃ y_ : List Int, y_ = (x4_2.set (x29_2 : Int).toNat x29_2) := ⟨_, rfl⟩
           replace H : (impl_roots.l0 k2 y199 (y196.length : Int) (wrap64 (x29_2 + 1)) a0_0 l0_1) = some (r1, r2) := by first | (rw [hy199]; with_reducible exact H) | (have H2_ := (Option.bind_some _ _).symm.trans H; rw [hy199]; with_reducible exact H2_) | (have H2_ := (Option.bind_some _ _).symm.trans H; with_reducible exact H2_) | with_reducible exact H | (rw [hy199]; exact H) | exact H
           have Ny199 := Aside0.mk hy199; clear hy199; have H' := Aside0.mk H; clear H; have p18 : 0 ≤ (x29_2 : Int) := ode; have q18 : (x29_2 : Int) < ((x4_2.length : Int) : Int) := ode; obtain ⟨go18, co18, eo18, gb18, gl18, cl18, HG18⟩ := Kd.R_form HO_4.out (by omega)
           (first | cases eo18 | (injection eo18 with ea_ en_ ec_; (first | subst ea_ | (injection ea_ with ea_; subst ea_)); subst ec_; clear en_))
           have GB18 := Aside0.mk gb18; have GG18 := Aside0.mk HG18; clear gb18 gl18 HG18; obtain ⟨hx18_0, hf18_0⟩ := Kd.R_celln 0 HO_4.out (x29_2 : Int) p18 q18; replace p18 := eq_true p18; replace q18 := eq_true q18; have HP19 := Kd.R_putg HO_4.out (x29_2 : Int) x29_2
           go_wp2_with (first | ((with_reducible refine gate_store (t := 2) (p := 35) rfl ?_); refine store_event (t := 2) (p := 35) (v := ?vo_w20) (w1 := (wr.setCell ⟨go18, (x29_2 : Int).toNat, none⟩ (.int .i64 x29_2))) ?hg ?ho ?hn ?hr ?_; (case ho => rfl); (case hg => rfl); (case hn => rfl); (case hr => first | (go_simp; done) | (go_simp; rfl) | ((try (obtain ⟨_, _, e_⟩ := Kd.R_slice HO_4.out; subst e_)); first | (go_simp; done) | (go_simp; rfl))); intro w20 hw; have hg : wr.grownBy w20 (some go18) := (by rw [hw]; exact HP19.2); have hp_ : Kd.R (Kd.int .i64) 2 w20 w.heap.size (fun _ => True) (.slice (some ⟨go18, 0, none⟩) x4_2.length co14) y199 := (by rw [hw, Ny199.out]; exact HP19.1); clear HP19; have n0_ := Aside0.mk (hp_); have n1_ := Aside0.mk (blk_grown (g := gb194) (o := .cells #[.int .i64 a0_0, .slice A0_1 l0_1.length c0_1] 31 (0, 0)) (bk BK194) hg (Kd.R_ne HO_4.out BK194.out (by decide))); have n2_ := Aside0.mk ((by rw [hw]; exact below_set (HB.out) GB18.out : Below w.heap.size w w20)); clear HO_4; clear BK194; clear HB; have HO_4 := n0_; have BK194 := n1_; have HB := n2_; clear n0_ n1_ n2_; clear hg hw hp_))
           (try simp only [← hl4_2])
           (try simp only [add_plain] at *)
           go_roundg k2
           case measure => have := HJ1.out; have := HK2.out; omega
           case rel => exact ⟨(y199), (wrap64 (x29_2 + 1)), au, H', ⟨by have := HJ1.out; have := HK2.out; omega⟩, ⟨by (try simp only [hl4_2]); (with_reducible repeat (first | apply Kd.R_alloc | apply Kd.R_drewN | apply Kd.R_drew)); exact HO_4.out⟩, ⟨by (try simp only [hl4_2]); (with_reducible repeat (first | refine blk_drewN ?_ _ | refine blk_drew ?_ | refine blk_alloc ?_ _)); exact BK194.out⟩, ⟨bs HB GE194⟩⟩
          ·rw [if_neg c17] at H
           exact absurd H (by simp)
         ·rw [if_neg c16] at H
          exact absurd H (by simp)
        ·rw [if_neg c15] at H
         have c15b0 : decide (x29_2 < (y196.length : Int)) = false := decide_eq_false c15
         (try simp only [hl4_2] at c15b0)
         clear c15; have H' := Aside0.mk H; clear H; have hcz21_0 : wr.cell? ⟨gb194, 0, none⟩ = some (.int .i64 a0_0) := (blk_cell BK194.out 0).trans rfl; have hcz21_1 : wr.cell? ⟨gb194, 1, none⟩ = some (.slice A0_1 l0_1.length c0_1) := (blk_cell BK194.out 1).trans rfl; have hfz21_0 := blk_frozen BK194.out 0; have hfz21_1 := blk_frozen BK194.out 1
         go_wp2
         go_loopg [40] k2 (fun kq v40 w' => ∃ (x4_3 : List Int) (x40_3 : Int), v40 = .int .i64 x40_3 ∧ Aside0 (impl_roots.l1 kq x4_3 l0_1 (l0_1.length : Int) x40_3 a0_0 l0_1 = some (r1, r2)) ∧ Aside0 (kq ≤ k2) ∧ Aside0 (Kd.R (Kd.int .i64) 2 w' w.heap.size (fun _ => True) (.slice Ao14 x4_2.length co14) x4_3) ∧ Aside0 (w'.heap[gb194]? = some (.cells #[.int .i64 a0_0, (.slice A0_1 l0_1.length c0_1)] 31 (0, 0))) ∧ Aside0 (Below w.heap.size w w'))
         case atStart => exact ⟨(x4_2), (0), au, H', ⟨Nat.le_refl _⟩, ⟨by (try simp only [hl4_2]); (with_reducible repeat (first | apply Kd.R_alloc | apply Kd.R_drewN | apply Kd.R_drew)); exact HO_4.out⟩, ⟨by (try simp only [hl4_2]); (with_reducible repeat (first | refine blk_drewN ?_ _ | refine blk_drew ?_ | refine blk_alloc ?_ _)); exact BK194.out⟩, ⟨bs HB GE194⟩⟩
         case round =>
          clear H'
          try clear c1
          try clear p1
          try clear q1
          try clear hx1
          try clear hf1
          try clear p2
          try clear c4
          try clear c5
          try clear p6
          try clear c8
          try clear c9
          try clear c9b0
          try clear c9b1
          try clear c10
          try clear c10b0
          try clear c10b1
          try clear c15
          try clear c15b0
          try clear c16
          try clear c16b0
          try clear c17
          try clear c17b0
          try clear p18
          try clear q18
          try clear hx18
          try clear hf18
          try clear hcz11_0
          try clear hcz11_1
          try clear hcz21_0
          try clear hcz21_1
          try clear hcz6_0
          try clear hcz6_1
          try clear hcz7_0
          try clear hcz7_1
          try clear hfz11_0
          try clear hfz11_1
          try clear hfz21_0
          try clear hfz21_1
          try clear hfz6_0
          try clear hfz6_1
          try clear hfz7_0
          try clear hfz7_1
          try clear hx18_0
          try clear p18
          try clear p2
          try clear q18
          obtain ⟨x4_3, x40_3, rfl, HA, HK3, HO_4, BK194, HB⟩ := hrel; have hl4_3 := (Kd.R_reads' HO_4.out).1; rw [hl4_3] at HO_4
          (try simp only [hl4_3])
          (try simp only [hl4_3] at BK194)
          cases gk with
          | zero => exact absurd HA.out (by simp [impl_roots.l1])
          | succ k3 =>
           have H := HA.out; clear HA
           simp only [impl_roots.l1] at H
           by_cases c22 : x40_3 < (l0_1.length : Int)
           ·rw [if_pos c22] at H
            have c22b0 : decide (x40_3 < (l0_1.length : Int)) = true := decide_eq_true c22
            (try simp only [hl4_2] at c22b0)
            (try simp only [hl4_3] at c22b0)
            clear c22
            by_cases c23 : 0 ≤ x40_3
            ·rw [if_pos c23] at H
             have c23b0 : decide (0 ≤ x40_3) = true := decide_eq_true c23; clear c23
             by_cases c24 : x40_3 < (l0_1.length : Int)
             ·rw [if_pos c24] at H
              have c24b0 : decide (x40_3 < (l0_1.length : Int)) = true := decide_eq_true c24
              (try simp only [hl4_2] at c24b0)
              (try simp only [hl4_3] at c24b0)
              clear c24; have HC25 := Aside0.mk H; clear H; have p200 : 0 ≤ (x40_3 : Int) := ode; have q200 : x40_3 < (l0_1.length : Int) := ode; obtain ⟨ad200, e200, hx200_0, hx200_1, hx200_2⟩ := at_T70 HR0_1.out x40_3 p200 q200
              cases e200
              replace hx200_0 := cl HB hx200_0; replace hx200_1 := cl HB hx200_1; replace hx200_2 := cl HB hx200_2; replace p200 := eq_true p200; replace q200 := eq_true q200
              go_upto_region 12 with (first | ((with_reducible refine gate_dst (N := 7) rfl ?_); (try (refine gate_guard (by rfl) ?_; dsimp only)); refine be 7 #[.int .i64 0, .int .i64 0, .int .i64 0] 70 ?_; intro gb201 hg w26 hbox hb; have n0_ := Aside0.mk (Kd.R_below (rl HO_4) hb); have n1_ := Aside0.mk (blk_below (g := gb194) (o := .cells #[.int .i64 a0_0, .slice (some ad200) l0_1.length c0_1] 31 (0, 0)) (bk BK194) hb); have n2_ := Aside0.mk (below_step (bs HB GE194) hb); have n3_ := Aside0.mk (hbox); have n4_ := Aside0.mk ((by rw [hg]; exact (below_size (bs HB GE194)) : w.heap.size ≤ gb201)); have n5_ := Aside0.mk ((by rw [hg]; exact (below_size (bs HB GE194)) : w.heap.size ≤ gb201)); have n6_ := Aside0.mk ((by rw [hg]; exact Nat.ne_of_lt (blk_lt (g := gb194) (o := .cells #[.int .i64 a0_0, .slice (some ad200) l0_1.length c0_1] 31 (0, 0)) (bk BK194)) : gb194 ≠ gb201)); have n7_ := Aside0.mk ((by rw [hg]; exact Nat.ne_of_gt (blk_lt (g := gb194) (o := .cells #[.int .i64 a0_0, .slice (some ad200) l0_1.length c0_1] 31 (0, 0)) (bk BK194)) : gb201 ≠ gb194)); clear HO_4; clear BK194; clear HB; have HO_4 := n0_; have BK194 := n1_; have HB := n2_; have BK201 := n3_; have GW201 := n4_; have GE201 := n5_; have NB194_201 := n6_; have NB201_194 := n7_; clear n0_ n1_ n2_ n3_ n4_ n5_ n6_ n7_; clear hb hbox hg; have hnb27 := NB201_194.out; have hnc27 := NB194_201.out; have hcz28_0 : w26.cell? ⟨gb201, 0, none⟩ = some (.int .i64 0) := (blk_cell BK201.out 0).trans rfl; have hcz28_1 : w26.cell? ⟨gb201, 1, none⟩ = some (.int .i64 0) := (blk_cell BK201.out 1).trans rfl; have hcz28_2 : w26.cell? ⟨gb201, 2, none⟩ = some (.int .i64 0) := (blk_cell BK201.out 2).trans rfl; have hfz28_0 := blk_frozen BK201.out 0; have hfz28_1 := blk_frozen BK201.out 1; have hfz28_2 := blk_frozen BK201.out 2))
              (try simp only [Act.put, List.setIfInBounds_toArray, List.set_cons_zero, List.set_cons_succ])
              go_cut [78] (fun v78 wc => ∃ (kq : Nat) (x78_24 : Bool), v78 = .bool x78_24 ∧ Aside0 (impl_roots.j3 kq x4_3 l0_1 (l0_1.length : Int) x40_3 x78_24 a0_0 l0_1 ((rd_T70 l0_1 x40_3).f0) ((rd_T70 l0_1 x40_3).f1) ((rd_T70 l0_1 x40_3).f2) = some (r1, r2)) ∧ Aside0 (kq ≤ k3) ∧ Aside0 (Kd.R (Kd.int .i64) 2 wc w.heap.size (fun _ => True) (.slice Ao14 x4_3.length co14) x4_3) ∧ Aside0 (wc.heap[gb194]? = some (.cells #[.int .i64 a0_0, (.slice (some ad200) l0_1.length c0_1)] 31 (0, 0))) ∧ Aside0 (wc.heap[gb201]? = some (.cells #[.int .i64 ((rd_T70 l0_1 x40_3).f0), .int .i64 ((rd_T70 l0_1 x40_3).f1), .int .i64 ((rd_T70 l0_1 x40_3).f2)] 70 (0, 0))) ∧ Aside0 (Below w.heap.size w wc))
              case first =>
               have H := HC25.out; clear HC25; replace H := Option.bind_eq_some_iff.mp H; obtain ⟨t202, A290, H⟩ := H; replace H : (if t202 = true then ((impl_inside.f ((rd_T70 l0_1 x40_3).f1) 0 (wrap64 (a0_0 - 1))).bind fun t203 => (if t203 = true then ((impl_inside.f ((rd_T70 l0_1 x40_3).f2) 0 1000000).bind fun t204 => (if t204 = true then (if 0 ≤ ((rd_T70 l0_1 x40_3).f0) then (if ((rd_T70 l0_1 x40_3).f0) < (x4_3.length : Int) then (if 0 ≤ ((rd_T70 l0_1 x40_3).f1) then (if ((rd_T70 l0_1 x40_3).f1) < (x4_3.length : Int) then (impl_roots.j3 k3 x4_3 l0_1 (l0_1.length : Int) x40_3 ((rd x4_3 ((rd_T70 l0_1 x40_3).f0)) == (rd x4_3 ((rd_T70 l0_1 x40_3).f1))) a0_0 l0_1 ((rd_T70 l0_1 x40_3).f0) ((rd_T70 l0_1 x40_3).f1) ((rd_T70 l0_1 x40_3).f2)) else (none)) else (none)) else (none)) else (none)) else (impl_roots.j3 k3 x4_3 l0_1 (l0_1.length : Int) x40_3 true a0_0 l0_1 ((rd_T70 l0_1 x40_3).f0) ((rd_T70 l0_1 x40_3).f1) ((rd_T70 l0_1 x40_3).f2)))) else (impl_roots.j3 k3 x4_3 l0_1 (l0_1.length : Int) x40_3 true a0_0 l0_1 ((rd_T70 l0_1 x40_3).f0) ((rd_T70 l0_1 x40_3).f1) ((rd_T70 l0_1 x40_3).f2)))) else (impl_roots.j3 k3 x4_3 l0_1 (l0_1.length : Int) x40_3 true a0_0 l0_1 ((rd_T70 l0_1 x40_3).f0) ((rd_T70 l0_1 x40_3).f1) ((rd_T70 l0_1 x40_3).f2))) = some (r1, r2) := H; have A29 := Aside0.mk A290; clear A290
               by_cases c30 : t202 = true
               ·subst c30
                have H1 : ((impl_inside.f ((rd_T70 l0_1 x40_3).f1) 0 (wrap64 (a0_0 - 1))).bind fun t203 => (if t203 = true then ((impl_inside.f ((rd_T70 l0_1 x40_3).f2) 0 1000000).bind fun t204 => (if t204 = true then (if 0 ≤ ((rd_T70 l0_1 x40_3).f0) then (if ((rd_T70 l0_1 x40_3).f0) < (x4_3.length : Int) then (if 0 ≤ ((rd_T70 l0_1 x40_3).f1) then (if ((rd_T70 l0_1 x40_3).f1) < (x4_3.length : Int) then (impl_roots.j3 k3 x4_3 l0_1 (l0_1.length : Int) x40_3 ((rd x4_3 ((rd_T70 l0_1 x40_3).f0)) == (rd x4_3 ((rd_T70 l0_1 x40_3).f1))) a0_0 l0_1 ((rd_T70 l0_1 x40_3).f0) ((rd_T70 l0_1 x40_3).f1) ((rd_T70 l0_1 x40_3).f2)) else (none)) else (none)) else (none)) else (none)) else (impl_roots.j3 k3 x4_3 l0_1 (l0_1.length : Int) x40_3 true a0_0 l0_1 ((rd_T70 l0_1 x40_3).f0) ((rd_T70 l0_1 x40_3).f1) ((rd_T70 l0_1 x40_3).f2)))) else (impl_roots.j3 k3 x4_3 l0_1 (l0_1.length : Int) x40_3 true a0_0 l0_1 ((rd_T70 l0_1 x40_3).f0) ((rd_T70 l0_1 x40_3).f1) ((rd_T70 l0_1 x40_3).f2)))) = some (r1, r2) := by rw [if_pos rfl] at H; exact H
                clear H; have H := H1; clear H1; replace H := Option.bind_eq_some_iff.mp H; obtain ⟨t203, A310, H⟩ := H; replace H : (if t203 = true then ((impl_inside.f ((rd_T70 l0_1 x40_3).f2) 0 1000000).bind fun t204 => (if t204 = true then (if 0 ≤ ((rd_T70 l0_1 x40_3).f0) then (if ((rd_T70 l0_1 x40_3).f0) < (x4_3.length : Int) then (if 0 ≤ ((rd_T70 l0_1 x40_3).f1) then (if ((rd_T70 l0_1 x40_3).f1) < (x4_3.length : Int) then (impl_roots.j3 k3 x4_3 l0_1 (l0_1.length : Int) x40_3 ((rd x4_3 ((rd_T70 l0_1 x40_3).f0)) == (rd x4_3 ((rd_T70 l0_1 x40_3).f1))) a0_0 l0_1 ((rd_T70 l0_1 x40_3).f0) ((rd_T70 l0_1 x40_3).f1) ((rd_T70 l0_1 x40_3).f2)) else (none)) else (none)) else (none)) else (none)) else (impl_roots.j3 k3 x4_3 l0_1 (l0_1.length : Int) x40_3 true a0_0 l0_1 ((rd_T70 l0_1 x40_3).f0) ((rd_T70 l0_1 x40_3).f1) ((rd_T70 l0_1 x40_3).f2)))) else (impl_roots.j3 k3 x4_3 l0_1 (l0_1.length : Int) x40_3 true a0_0 l0_1 ((rd_T70 l0_1 x40_3).f0) ((rd_T70 l0_1 x40_3).f1) ((rd_T70 l0_1 x40_3).f2))) = some (r1, r2) := H; have A31 := Aside0.mk A310; clear A310
                by_cases c32 : t203 = true
                ·subst c32
                 have H1 : ((impl_inside.f ((rd_T70 l0_1 x40_3).f2) 0 1000000).bind fun t204 => (if t204 = true then (if 0 ≤ ((rd_T70 l0_1 x40_3).f0) then (if ((rd_T70 l0_1 x40_3).f0) < (x4_3.length : Int) then (if 0 ≤ ((rd_T70 l0_1 x40_3).f1) then (if ((rd_T70 l0_1 x40_3).f1) < (x4_3.length : Int) then (impl_roots.j3 k3 x4_3 l0_1 (l0_1.length : Int) x40_3 ((rd x4_3 ((rd_T70 l0_1 x40_3).f0)) == (rd x4_3 ((rd_T70 l0_1 x40_3).f1))) a0_0 l0_1 ((rd_T70 l0_1 x40_3).f0) ((rd_T70 l0_1 x40_3).f1) ((rd_T70 l0_1 x40_3).f2)) else (none)) else (none)) else (none)) else (none)) else (impl_roots.j3 k3 x4_3 l0_1 (l0_1.length : Int) x40_3 true a0_0 l0_1 ((rd_T70 l0_1 x40_3).f0) ((rd_T70 l0_1 x40_3).f1) ((rd_T70 l0_1 x40_3).f2)))) = some (r1, r2) := by rw [if_pos rfl] at H; exact H
                 clear H; have H := H1; clear H1; replace H := Option.bind_eq_some_iff.mp H; obtain ⟨t204, A330, H⟩ := H; replace H : (if t204 = true then (if 0 ≤ ((rd_T70 l0_1 x40_3).f0) then (if ((rd_T70 l0_1 x40_3).f0) < (x4_3.length : Int) then (if 0 ≤ ((rd_T70 l0_1 x40_3).f1) then (if ((rd_T70 l0_1 x40_3).f1) < (x4_3.length : Int) then (impl_roots.j3 k3 x4_3 l0_1 (l0_1.length : Int) x40_3 ((rd x4_3 ((rd_T70 l0_1 x40_3).f0)) == (rd x4_3 ((rd_T70 l0_1 x40_3).f1))) a0_0 l0_1 ((rd_T70 l0_1 x40_3).f0) ((rd_T70 l0_1 x40_3).f1) ((rd_T70 l0_1 x40_3).f2)) else (none)) else (none)) else (none)) else (none)) else (impl_roots.j3 k3 x4_3 l0_1 (l0_1.length : Int) x40_3 true a0_0 l0_1 ((rd_T70 l0_1 x40_3).f0) ((rd_T70 l0_1 x40_3).f1) ((rd_T70 l0_1 x40_3).f2))) = some (r1, r2) := H; have A33 := Aside0.mk A330; clear A330
                 by_cases c34 : t204 = true
                 ·subst c34
                  have H1 : (if 0 ≤ ((rd_T70 l0_1 x40_3).f0) then (if ((rd_T70 l0_1 x40_3).f0) < (x4_3.length : Int) then (if 0 ≤ ((rd_T70 l0_1 x40_3).f1) then (if ((rd_T70 l0_1 x40_3).f1) < (x4_3.length : Int) then (impl_roots.j3 k3 x4_3 l0_1 (l0_1.length : Int) x40_3 ((rd x4_3 ((rd_T70 l0_1 x40_3).f0)) == (rd x4_3 ((rd_T70 l0_1 x40_3).f1))) a0_0 l0_1 ((rd_T70 l0_1 x40_3).f0) ((rd_T70 l0_1 x40_3).f1) ((rd_T70 l0_1 x40_3).f2)) else (none)) else (none)) else (none)) else (none)) = some (r1, r2) := by rw [if_pos rfl] at H; exact H
                  clear H; have H := H1; clear H1
                  by_cases c35 : 0 ≤ ((rd_T70 l0_1 x40_3).f0)
                  ·rw [if_pos c35] at H
                   have c35b0 : decide (0 ≤ ((rd_T70 l0_1 x40_3).f0)) = true := decide_eq_true c35; clear c35
                   (first | rw [c35b0] | (simp only [i64_w, i32_w]; rw [c35b0]) | skip)
                   by_cases c36 : ((rd_T70 l0_1 x40_3).f0) < (x4_3.length : Int)
                   ·rw [if_pos c36] at H
                    have c36b0 : decide (((rd_T70 l0_1 x40_3).f0) < (x4_3.length : Int)) = true := decide_eq_true c36
                    (try simp only [hl4_2] at c36b0)
                    (try simp only [hl4_3] at c36b0)
                    clear c36
                    by_cases c37 : 0 ≤ ((rd_T70 l0_1 x40_3).f1)
                    ·rw [if_pos c37] at H
                     have c37b0 : decide (0 ≤ ((rd_T70 l0_1 x40_3).f1)) = true := decide_eq_true c37; clear c37
                     by_cases c38 : ((rd_T70 l0_1 x40_3).f1) < (x4_3.length : Int)
                     ·rw [if_pos c38] at H
                      have c38b0 : decide (((rd_T70 l0_1 x40_3).f1) < (x4_3.length : Int)) = true := decide_eq_true c38
                      (try simp only [hl4_2] at c38b0)
                      (try simp only [hl4_3] at c38b0)
                      clear c38; have H' := Aside0.mk H; clear H
                      try go_wp2
                      have n0_ : Aside0 (Kd.R (Kd.int .i64) 2 (((w26.setCell ⟨gb201, 0, none⟩ (.int .i64 ((rd_T70 l0_1 x40_3).f0))).setCell ⟨gb201, 1, none⟩ (.int .i64 ((rd_T70 l0_1 x40_3).f1))).setCell ⟨gb201, 2, none⟩ (.int .i64 ((rd_T70 l0_1 x40_3).f2))) w.heap.size (fun _ => True) (.slice Ao14 x4_3.length co14) x4_3) := ⟨by (with_reducible repeat (first | apply Kd.R_alloc | apply Kd.R_drewN | apply Kd.R_drew)); exact Kd.R_mono (Kd.R_far (p := ⟨gb201, 2, none⟩) (Kd.R_far (p := ⟨gb201, 1, none⟩) (Kd.R_far (p := ⟨gb201, 0, none⟩) (Kd.R_types HO_4.out BK201.out (by decide)) (fun _ hk => hk.2) (.int .i64 ((rd_T70 l0_1 x40_3).f0))) (fun _ hk => hk.2) (.int .i64 ((rd_T70 l0_1 x40_3).f1))) (fun _ hk => hk.2) (.int .i64 ((rd_T70 l0_1 x40_3).f2))) (fun _ hk => trivial)⟩; have n1_ : Aside0 ((((w26.setCell ⟨gb201, 0, none⟩ (.int .i64 ((rd_T70 l0_1 x40_3).f0))).setCell ⟨gb201, 1, none⟩ (.int .i64 ((rd_T70 l0_1 x40_3).f1))).setCell ⟨gb201, 2, none⟩ (.int .i64 ((rd_T70 l0_1 x40_3).f2))).heap[gb194]? = some (.cells #[.int .i64 a0_0, .slice (some ad200) l0_1.length c0_1] 31 (0, 0))) := ⟨by (with_reducible repeat (first | refine blk_drewN ?_ _ | refine blk_drew ?_ | refine blk_alloc ?_ _)); refine blk_far ?_ NB194_201.out _; (with_reducible repeat (first | refine blk_drewN ?_ _ | refine blk_drew ?_ | refine blk_alloc ?_ _)); refine blk_far ?_ NB194_201.out _; (with_reducible repeat (first | refine blk_drewN ?_ _ | refine blk_drew ?_ | refine blk_alloc ?_ _)); refine blk_far ?_ NB194_201.out _; (with_reducible repeat (first | refine blk_drewN ?_ _ | refine blk_drew ?_ | refine blk_alloc ?_ _)); exact BK194.out⟩; have n2_ : Aside0 ((((w26.setCell ⟨gb201, 0, none⟩ (.int .i64 ((rd_T70 l0_1 x40_3).f0))).setCell ⟨gb201, 1, none⟩ (.int .i64 ((rd_T70 l0_1 x40_3).f1))).setCell ⟨gb201, 2, none⟩ (.int .i64 ((rd_T70 l0_1 x40_3).f2))).heap[gb201]? = some (.cells #[.int .i64 ((rd_T70 l0_1 x40_3).f0), .int .i64 ((rd_T70 l0_1 x40_3).f1), .int .i64 ((rd_T70 l0_1 x40_3).f2)] 70 (0, 0))) := ⟨by refine bd ?_; refine blk_put (cs := #[.int .i64 ((rd_T70 l0_1 x40_3).f0), .int .i64 ((rd_T70 l0_1 x40_3).f1), .int .i64 0]) ?_ 2 _ rfl; refine bd ?_; refine blk_put (cs := #[.int .i64 ((rd_T70 l0_1 x40_3).f0), .int .i64 0, .int .i64 0]) ?_ 1 _ rfl; refine bd ?_; refine blk_put (cs := #[.int .i64 0, .int .i64 0, .int .i64 0]) ?_ 0 _ rfl; (with_reducible repeat (first | refine blk_drewN ?_ _ | refine blk_drew ?_ | refine blk_alloc ?_ _)); exact BK201.out⟩
                      have n3_ : Aside0 (Below w.heap.size w (((w26.setCell ⟨gb201, 0, none⟩ (.int .i64 ((rd_T70 l0_1 x40_3).f0))).setCell ⟨gb201, 1, none⟩ (.int .i64 ((rd_T70 l0_1 x40_3).f1))).setCell ⟨gb201, 2, none⟩ (.int .i64 ((rd_T70 l0_1 x40_3).f2)))) := ⟨bs2 HB GE194 GE201⟩; (try clear HO_4)
                      (try clear BK194); (try clear BK201)
                      (try clear HB); generalize (((w26.setCell ⟨gb201, 0, none⟩ (.int .i64 ((rd_T70 l0_1 x40_3).f0))).setCell ⟨gb201, 1, none⟩ (.int .i64 ((rd_T70 l0_1 x40_3).f1))).setCell ⟨gb201, 2, none⟩ (.int .i64 ((rd_T70 l0_1 x40_3).f2))) = w39 at n0_ n1_ n2_ n3_ ⊢; have HO_4 := n0_; have BK194 := n1_; have BK201 := n2_; have HB := n3_; clear n0_ n1_ n2_ n3_; have p205 : 0 ≤ (((rd_T70 l0_1 x40_3).f0) : Int) := ode; have q205 : ((rd_T70 l0_1 x40_3).f0) < (x4_3.length : Int) := ode; obtain ⟨ad205, e205, hx205_0⟩ := Kd.at_int (Kd.R_reads' HO_4.out).2.2 ((rd_T70 l0_1 x40_3).f0) p205 q205
                      cases e205
                      replace p205 := eq_true p205; replace q205 := eq_true q205; have p206 : 0 ≤ (((rd_T70 l0_1 x40_3).f1) : Int) := ode; have q206 : ((rd_T70 l0_1 x40_3).f1) < (x4_3.length : Int) := ode; obtain ⟨ad206, e206, hx206_0⟩ := Kd.at_int (Kd.R_reads' HO_4.out).2.2 ((rd_T70 l0_1 x40_3).f1) p206 q206; obtain rfl : ad205 = ad206 := (by injection e206); replace p206 := eq_true p206; replace q206 := eq_true q206; obtain ⟨s0_, s1_, s2_, s3_, s4_, s5_, s6_⟩ : w39.cell? ⟨gb201, 0, none⟩ = some (.int .i64 ((rd_T70 l0_1 x40_3).f0)) ∧ w39.cell? ⟨gb201, 1, none⟩ = some (.int .i64 ((rd_T70 l0_1 x40_3).f1)) ∧ w39.cell? ⟨gb201, 2, none⟩ = some (.int .i64 ((rd_T70 l0_1 x40_3).f2)) ∧ w39.cell? ⟨gb194, 0, none⟩ = some (.int .i64 a0_0) ∧ w39.cell? ⟨gb194, 1, none⟩ = some (.slice (some ad200) l0_1.length c0_1) ∧ w39.cell? (ad205.add (((rd_T70 l0_1 x40_3).f0)).toNat) = some (.int .i64 (rd x4_3 ((rd_T70 l0_1 x40_3).f0))) ∧ w39.cell? (ad205.add (((rd_T70 l0_1 x40_3).f1)).toNat) = some (.int .i64 (rd x4_3 ((rd_T70 l0_1 x40_3).f1))) := ⟨(blk_cell BK201.out 0).trans rfl, (blk_cell BK201.out 1).trans rfl, (blk_cell BK201.out 2).trans rfl, (blk_cell BK194.out 0).trans rfl, (blk_cell BK194.out 1).trans rfl, hx205_0, hx206_0⟩
                      (try clear hcz11_0); (try clear hcz11_1); (try clear hcz21_0); (try clear hcz21_1); (try clear hcz28_0); (try clear hcz28_1); (try clear hcz28_2); (try clear hcz6_0); (try clear hcz6_1); (try clear hcz7_0); (try clear hcz7_1); (try clear hx18_0); (try clear hx200_0); (try clear hx200_1); (try clear hx200_2); (try clear hx205_0); (try clear hx206_0)
                      go_quiet ((first | (go_at_call 42; (with_reducible refine Calls.quiet_of ((impl_inside.calls ((rd_T70 l0_1 x40_3).f0) 0 (wrap64 (a0_0 - 1)) true _ A29.out).mono fun _ _ h_ => ⟨h_.1, h_.2.out⟩))) | (go_at_call 42; (with_reducible refine Calls.quiet_of ((impl_inside.calls ((rd_T70 l0_1 x40_3).f1) 0 (wrap64 (a0_0 - 1)) true _ A31.out).mono fun _ _ h_ => ⟨h_.1, h_.2.out⟩))) | (go_at_call 42; (with_reducible refine Calls.quiet_of ((impl_inside.calls ((rd_T70 l0_1 x40_3).f2) 0 1000000 true _ A33.out).mono fun _ _ h_ => ⟨h_.1, h_.2.out⟩)))))
                      clear s0_ s1_ s2_ s3_ s4_ s5_ s6_; have n0_ := Aside0.mk (Kd.R_drewN HO_4.out nq); have n1_ := Aside0.mk (blk_drewN BK194.out nq); have n2_ := Aside0.mk (blk_drewN BK201.out nq); have n3_ := Aside0.mk (pw_below_drewN HB.out nq); clear HO_4; clear BK194; clear BK201; clear HB; have HO_4 := n0_; have BK194 := n1_; have BK201 := n2_; have HB := n3_; clear n0_ n1_ n2_ n3_; generalize w39.drewN nq = w40 at BK194 BK201 HB HO_4 ⊢
                      try go_wp2
                      go_meet
                      case rel => exact ⟨_, (((rd x4_3 ((rd_T70 l0_1 x40_3).f0)) == (rd x4_3 ((rd_T70 l0_1 x40_3).f1)))), au, H', ⟨by have := HJ1.out; have := HK2.out; have := HK3.out; first | omega | exact Nat.le_refl _⟩, ⟨by (try simp only [hl4_2]); (try simp only [hl4_3]); (with_reducible repeat (first | apply Kd.R_alloc | apply Kd.R_drewN | apply Kd.R_drew)); exact HO_4.out⟩, ⟨by (try simp only [hl4_2]); (try simp only [hl4_3]); (with_reducible repeat (first | refine blk_drewN ?_ _ | refine blk_drew ?_ | refine blk_alloc ?_ _)); exact BK194.out⟩, ⟨by (try simp only [hl4_2]); (try simp only [hl4_3]); (with_reducible repeat (first | refine blk_drewN ?_ _ | refine blk_drew ?_ | refine blk_alloc ?_ _)); exact BK201.out⟩, ⟨bs2 HB GE194 GE201⟩⟩
                     ·rw [if_neg c38] at H
                      exact absurd H (by simp)
                    ·rw [if_neg c37] at H
                     exact absurd H (by simp)
                   ·rw [if_neg c36] at H
                    exact absurd H (by simp)
                  ·rw [if_neg c35] at H
                   exact absurd H (by simp)
                 ·replace c34 := Bool.eq_false_iff.mpr c34
                  subst c34
                  have H1 : (impl_roots.j3 k3 x4_3 l0_1 (l0_1.length : Int) x40_3 true a0_0 l0_1 ((rd_T70 l0_1 x40_3).f0) ((rd_T70 l0_1 x40_3).f1) ((rd_T70 l0_1 x40_3).f2)) = some (r1, r2) := by rw [if_neg (show ¬ (false = true) by decide)] at H; exact H
                  clear H; have H := H1; clear H1; have H' := Aside0.mk H; clear H
                  try go_wp2
                  have n0_ : Aside0 (Kd.R (Kd.int .i64) 2 (((w26.setCell ⟨gb201, 0, none⟩ (.int .i64 ((rd_T70 l0_1 x40_3).f0))).setCell ⟨gb201, 1, none⟩ (.int .i64 ((rd_T70 l0_1 x40_3).f1))).setCell ⟨gb201, 2, none⟩ (.int .i64 ((rd_T70 l0_1 x40_3).f2))) w.heap.size (fun _ => True) (.slice Ao14 x4_3.length co14) x4_3) := ⟨by (with_reducible repeat (first | apply Kd.R_alloc | apply Kd.R_drewN | apply Kd.R_drew)); exact Kd.R_mono (Kd.R_far (p := ⟨gb201, 2, none⟩) (Kd.R_far (p := ⟨gb201, 1, none⟩) (Kd.R_far (p := ⟨gb201, 0, none⟩) (Kd.R_types HO_4.out BK201.out (by decide)) (fun _ hk => hk.2) (.int .i64 ((rd_T70 l0_1 x40_3).f0))) (fun _ hk => hk.2) (.int .i64 ((rd_T70 l0_1 x40_3).f1))) (fun _ hk => hk.2) (.int .i64 ((rd_T70 l0_1 x40_3).f2))) (fun _ hk => trivial)⟩; have n1_ : Aside0 ((((w26.setCell ⟨gb201, 0, none⟩ (.int .i64 ((rd_T70 l0_1 x40_3).f0))).setCell ⟨gb201, 1, none⟩ (.int .i64 ((rd_T70 l0_1 x40_3).f1))).setCell ⟨gb201, 2, none⟩ (.int .i64 ((rd_T70 l0_1 x40_3).f2))).heap[gb194]? = some (.cells #[.int .i64 a0_0, .slice (some ad200) l0_1.length c0_1] 31 (0, 0))) := ⟨by (with_reducible repeat (first | refine blk_drewN ?_ _ | refine blk_drew ?_ | refine blk_alloc ?_ _)); refine blk_far ?_ NB194_201.out _; (with_reducible repeat (first | refine blk_drewN ?_ _ | refine blk_drew ?_ | refine blk_alloc ?_ _)); refine blk_far ?_ NB194_201.out _; (with_reducible repeat (first | refine blk_drewN ?_ _ | refine blk_drew ?_ | refine blk_alloc ?_ _)); refine blk_far ?_ NB194_201.out _; (with_reducible repeat (first | refine blk_drewN ?_ _ | refine blk_drew ?_ | refine blk_alloc ?_ _)); exact BK194.out⟩; have n2_ : Aside0 ((((w26.setCell ⟨gb201, 0, none⟩ (.int .i64 ((rd_T70 l0_1 x40_3).f0))).setCell ⟨gb201, 1, none⟩ (.int .i64 ((rd_T70 l0_1 x40_3).f1))).setCell ⟨gb201, 2, none⟩ (.int .i64 ((rd_T70 l0_1 x40_3).f2))).heap[gb201]? = some (.cells #[.int .i64 ((rd_T70 l0_1 x40_3).f0), .int .i64 ((rd_T70 l0_1 x40_3).f1), .int .i64 ((rd_T70 l0_1 x40_3).f2)] 70 (0, 0))) := ⟨by refine bd ?_; refine blk_put (cs := #[.int .i64 ((rd_T70 l0_1 x40_3).f0), .int .i64 ((rd_T70 l0_1 x40_3).f1), .int .i64 0]) ?_ 2 _ rfl; refine bd ?_; refine blk_put (cs := #[.int .i64 ((rd_T70 l0_1 x40_3).f0), .int .i64 0, .int .i64 0]) ?_ 1 _ rfl; refine bd ?_; refine blk_put (cs := #[.int .i64 0, .int .i64 0, .int .i64 0]) ?_ 0 _ rfl; (with_reducible repeat (first | refine blk_drewN ?_ _ | refine blk_drew ?_ | refine blk_alloc ?_ _)); exact BK201.out⟩
                  have n3_ : Aside0 (Below w.heap.size w (((w26.setCell ⟨gb201, 0, none⟩ (.int .i64 ((rd_T70 l0_1 x40_3).f0))).setCell ⟨gb201, 1, none⟩ (.int .i64 ((rd_T70 l0_1 x40_3).f1))).setCell ⟨gb201, 2, none⟩ (.int .i64 ((rd_T70 l0_1 x40_3).f2)))) := ⟨bs2 HB GE194 GE201⟩; (try clear HO_4)
                  (try clear BK194); (try clear BK201)
                  (try clear HB); generalize (((w26.setCell ⟨gb201, 0, none⟩ (.int .i64 ((rd_T70 l0_1 x40_3).f0))).setCell ⟨gb201, 1, none⟩ (.int .i64 ((rd_T70 l0_1 x40_3).f1))).setCell ⟨gb201, 2, none⟩ (.int .i64 ((rd_T70 l0_1 x40_3).f2))) = w41 at n0_ n1_ n2_ n3_ ⊢; have HO_4 := n0_; have BK194 := n1_; have BK201 := n2_; have HB := n3_; clear n0_ n1_ n2_ n3_; obtain ⟨s0_, s1_, s2_, s3_, s4_⟩ : w41.cell? ⟨gb201, 0, none⟩ = some (.int .i64 ((rd_T70 l0_1 x40_3).f0)) ∧ w41.cell? ⟨gb201, 1, none⟩ = some (.int .i64 ((rd_T70 l0_1 x40_3).f1)) ∧ w41.cell? ⟨gb201, 2, none⟩ = some (.int .i64 ((rd_T70 l0_1 x40_3).f2)) ∧ w41.cell? ⟨gb194, 0, none⟩ = some (.int .i64 a0_0) ∧ w41.cell? ⟨gb194, 1, none⟩ = some (.slice (some ad200) l0_1.length c0_1) := ⟨(blk_cell BK201.out 0).trans rfl, (blk_cell BK201.out 1).trans rfl, (blk_cell BK201.out 2).trans rfl, (blk_cell BK194.out 0).trans rfl, (blk_cell BK194.out 1).trans rfl⟩
                  (try clear hcz11_0); (try clear hcz11_1); (try clear hcz21_0); (try clear hcz21_1); (try clear hcz28_0); (try clear hcz28_1); (try clear hcz28_2); (try clear hcz6_0); (try clear hcz6_1); (try clear hcz7_0); (try clear hcz7_1); (try clear hx18_0); (try clear hx200_0); (try clear hx200_1); (try clear hx200_2)
                  go_quiet ((first | (go_at_call 42; (with_reducible refine Calls.quiet_of ((impl_inside.calls ((rd_T70 l0_1 x40_3).f0) 0 (wrap64 (a0_0 - 1)) true _ A29.out).mono fun _ _ h_ => ⟨h_.1, h_.2.out⟩))) | (go_at_call 42; (with_reducible refine Calls.quiet_of ((impl_inside.calls ((rd_T70 l0_1 x40_3).f1) 0 (wrap64 (a0_0 - 1)) true _ A31.out).mono fun _ _ h_ => ⟨h_.1, h_.2.out⟩))) | (go_at_call 42; (with_reducible refine Calls.quiet_of ((impl_inside.calls ((rd_T70 l0_1 x40_3).f2) 0 1000000 false _ A33.out).mono fun _ _ h_ => ⟨h_.1, h_.2.out⟩)))))
                  clear s0_ s1_ s2_ s3_ s4_; have n0_ := Aside0.mk (Kd.R_drewN HO_4.out nq); have n1_ := Aside0.mk (blk_drewN BK194.out nq); have n2_ := Aside0.mk (blk_drewN BK201.out nq); have n3_ := Aside0.mk (pw_below_drewN HB.out nq); clear HO_4; clear BK194; clear BK201; clear HB; have HO_4 := n0_; have BK194 := n1_; have BK201 := n2_; have HB := n3_; clear n0_ n1_ n2_ n3_; generalize w41.drewN nq = w42 at BK194 BK201 HB HO_4 ⊢
                  try go_wp2
                  go_meet
                  case rel => exact ⟨_, (true), au, H', ⟨by have := HJ1.out; have := HK2.out; have := HK3.out; first | omega | exact Nat.le_refl _⟩, ⟨by (try simp only [hl4_2]); (try simp only [hl4_3]); (with_reducible repeat (first | apply Kd.R_alloc | apply Kd.R_drewN | apply Kd.R_drew)); exact HO_4.out⟩, ⟨by (try simp only [hl4_2]); (try simp only [hl4_3]); (with_reducible repeat (first | refine blk_drewN ?_ _ | refine blk_drew ?_ | refine blk_alloc ?_ _)); exact BK194.out⟩, ⟨by (try simp only [hl4_2]); (try simp only [hl4_3]); (with_reducible repeat (first | refine blk_drewN ?_ _ | refine blk_drew ?_ | refine blk_alloc ?_ _)); exact BK201.out⟩, ⟨bs2 HB GE194 GE201⟩⟩
                ·replace c32 := Bool.eq_false_iff.mpr c32
                 subst c32
                 have H1 : (impl_roots.j3 k3 x4_3 l0_1 (l0_1.length : Int) x40_3 true a0_0 l0_1 ((rd_T70 l0_1 x40_3).f0) ((rd_T70 l0_1 x40_3).f1) ((rd_T70 l0_1 x40_3).f2)) = some (r1, r2) := by rw [if_neg (show ¬ (false = true) by decide)] at H; exact H
                 clear H; have H := H1; clear H1; have H' := Aside0.mk H; clear H
                 try go_wp2
                 have n0_ : Aside0 (Kd.R (Kd.int .i64) 2 (((w26.setCell ⟨gb201, 0, none⟩ (.int .i64 ((rd_T70 l0_1 x40_3).f0))).setCell ⟨gb201, 1, none⟩ (.int .i64 ((rd_T70 l0_1 x40_3).f1))).setCell ⟨gb201, 2, none⟩ (.int .i64 ((rd_T70 l0_1 x40_3).f2))) w.heap.size (fun _ => True) (.slice Ao14 x4_3.length co14) x4_3) := ⟨by (with_reducible repeat (first | apply Kd.R_alloc | apply Kd.R_drewN | apply Kd.R_drew)); exact Kd.R_mono (Kd.R_far (p := ⟨gb201, 2, none⟩) (Kd.R_far (p := ⟨gb201, 1, none⟩) (Kd.R_far (p := ⟨gb201, 0, none⟩) (Kd.R_types HO_4.out BK201.out (by decide)) (fun _ hk => hk.2) (.int .i64 ((rd_T70 l0_1 x40_3).f0))) (fun _ hk => hk.2) (.int .i64 ((rd_T70 l0_1 x40_3).f1))) (fun _ hk => hk.2) (.int .i64 ((rd_T70 l0_1 x40_3).f2))) (fun _ hk => trivial)⟩; have n1_ : Aside0 ((((w26.setCell ⟨gb201, 0, none⟩ (.int .i64 ((rd_T70 l0_1 x40_3).f0))).setCell ⟨gb201, 1, none⟩ (.int .i64 ((rd_T70 l0_1 x40_3).f1))).setCell ⟨gb201, 2, none⟩ (.int .i64 ((rd_T70 l0_1 x40_3).f2))).heap[gb194]? = some (.cells #[.int .i64 a0_0, .slice (some ad200) l0_1.length c0_1] 31 (0, 0))) := ⟨by (with_reducible repeat (first | refine blk_drewN ?_ _ | refine blk_drew ?_ | refine blk_alloc ?_ _)); refine blk_far ?_ NB194_201.out _; (with_reducible repeat (first | refine blk_drewN ?_ _ | refine blk_drew ?_ | refine blk_alloc ?_ _)); refine blk_far ?_ NB194_201.out _; (with_reducible repeat (first | refine blk_drewN ?_ _ | refine blk_drew ?_ | refine blk_alloc ?_ _)); refine blk_far ?_ NB194_201.out _; (with_reducible repeat (first | refine blk_drewN ?_ _ | refine blk_drew ?_ | refine blk_alloc ?_ _)); exact BK194.out⟩; have n2_ : Aside0 ((((w26.setCell ⟨gb201, 0, none⟩ (.int .i64 ((rd_T70 l0_1 x40_3).f0))).setCell ⟨gb201, 1, none⟩ (.int .i64 ((rd_T70 l0_1 x40_3).f1))).setCell ⟨gb201, 2, none⟩ (.int .i64 ((rd_T70 l0_1 x40_3).f2))).heap[gb201]? = some (.cells #[.int .i64 ((rd_T70 l0_1 x40_3).f0), .int .i64 ((rd_T70 l0_1 x40_3).f1), .int .i64 ((rd_T70 l0_1 x40_3).f2)] 70 (0, 0))) := ⟨by refine bd ?_; refine blk_put (cs := #[.int .i64 ((rd_T70 l0_1 x40_3).f0), .int .i64 ((rd_T70 l0_1 x40_3).f1), .int .i64 0]) ?_ 2 _ rfl; refine bd ?_; refine blk_put (cs := #[.int .i64 ((rd_T70 l0_1 x40_3).f0), .int .i64 0, .int .i64 0]) ?_ 1 _ rfl; refine bd ?_; refine blk_put (cs := #[.int .i64 0, .int .i64 0, .int .i64 0]) ?_ 0 _ rfl; (with_reducible repeat (first | refine blk_drewN ?_ _ | refine blk_drew ?_ | refine blk_alloc ?_ _)); exact BK201.out⟩
                 have n3_ : Aside0 (Below w.heap.size w (((w26.setCell ⟨gb201, 0, none⟩ (.int .i64 ((rd_T70 l0_1 x40_3).f0))).setCell ⟨gb201, 1, none⟩ (.int .i64 ((rd_T70 l0_1 x40_3).f1))).setCell ⟨gb201, 2, none⟩ (.int .i64 ((rd_T70 l0_1 x40_3).f2)))) := ⟨bs2 HB GE194 GE201⟩; (try clear HO_4)
                 (try clear BK194); (try clear BK201)
                 (try clear HB); generalize (((w26.setCell ⟨gb201, 0, none⟩ (.int .i64 ((rd_T70 l0_1 x40_3).f0))).setCell ⟨gb201, 1, none⟩ (.int .i64 ((rd_T70 l0_1 x40_3).f1))).setCell ⟨gb201, 2, none⟩ (.int .i64 ((rd_T70 l0_1 x40_3).f2))) = w43 at n0_ n1_ n2_ n3_ ⊢; have HO_4 := n0_; have BK194 := n1_; have BK201 := n2_; have HB := n3_; clear n0_ n1_ n2_ n3_; obtain ⟨s0_, s1_, s2_, s3_, s4_⟩ : w43.cell? ⟨gb201, 0, none⟩ = some (.int .i64 ((rd_T70 l0_1 x40_3).f0)) ∧ w43.cell? ⟨gb201, 1, none⟩ = some (.int .i64 ((rd_T70 l0_1 x40_3).f1)) ∧ w43.cell? ⟨gb201, 2, none⟩ = some (.int .i64 ((rd_T70 l0_1 x40_3).f2)) ∧ w43.cell? ⟨gb194, 0, none⟩ = some (.int .i64 a0_0) ∧ w43.cell? ⟨gb194, 1, none⟩ = some (.slice (some ad200) l0_1.length c0_1) := ⟨(blk_cell BK201.out 0).trans rfl, (blk_cell BK201.out 1).trans rfl, (blk_cell BK201.out 2).trans rfl, (blk_cell BK194.out 0).trans rfl, (blk_cell BK194.out 1).trans rfl⟩
                 (try clear hcz11_0); (try clear hcz11_1); (try clear hcz21_0); (try clear hcz21_1); (try clear hcz28_0); (try clear hcz28_1); (try clear hcz28_2); (try clear hcz6_0); (try clear hcz6_1); (try clear hcz7_0); (try clear hcz7_1); (try clear hx18_0); (try clear hx200_0); (try clear hx200_1); (try clear hx200_2)
                 go_quiet ((first | (go_at_call 42; (with_reducible refine Calls.quiet_of ((impl_inside.calls ((rd_T70 l0_1 x40_3).f0) 0 (wrap64 (a0_0 - 1)) true _ A29.out).mono fun _ _ h_ => ⟨h_.1, h_.2.out⟩))) | (go_at_call 42; (with_reducible refine Calls.quiet_of ((impl_inside.calls ((rd_T70 l0_1 x40_3).f1) 0 (wrap64 (a0_0 - 1)) false _ A31.out).mono fun _ _ h_ => ⟨h_.1, h_.2.out⟩)))))
                 clear s0_ s1_ s2_ s3_ s4_; have n0_ := Aside0.mk (Kd.R_drewN HO_4.out nq); have n1_ := Aside0.mk (blk_drewN BK194.out nq); have n2_ := Aside0.mk (blk_drewN BK201.out nq); have n3_ := Aside0.mk (pw_below_drewN HB.out nq); clear HO_4; clear BK194; clear BK201; clear HB; have HO_4 := n0_; have BK194 := n1_; have BK201 := n2_; have HB := n3_; clear n0_ n1_ n2_ n3_; generalize w43.drewN nq = w44 at BK194 BK201 HB HO_4 ⊢
                 try go_wp2
                 go_meet
                 case rel => exact ⟨_, (true), au, H', ⟨by have := HJ1.out; have := HK2.out; have := HK3.out; first | omega | exact Nat.le_refl _⟩, ⟨by (try simp only [hl4_2]); (try simp only [hl4_3]); (with_reducible repeat (first | apply Kd.R_alloc | apply Kd.R_drewN | apply Kd.R_drew)); exact HO_4.out⟩, ⟨by (try simp only [hl4_2]); (try simp only [hl4_3]); (with_reducible repeat (first | refine blk_drewN ?_ _ | refine blk_drew ?_ | refine blk_alloc ?_ _)); exact BK194.out⟩, ⟨by (try simp only [hl4_2]); (try simp only [hl4_3]); (with_reducible repeat (first | refine blk_drewN ?_ _ | refine blk_drew ?_ | refine blk_alloc ?_ _)); exact BK201.out⟩, ⟨bs2 HB GE194 GE201⟩⟩
               ·replace c30 := Bool.eq_false_iff.mpr c30
                subst c30
                have H1 : (impl_roots.j3 k3 x4_3 l0_1 (l0_1.length : Int) x40_3 true a0_0 l0_1 ((rd_T70 l0_1 x40_3).f0) ((rd_T70 l0_1 x40_3).f1) ((rd_T70 l0_1 x40_3).f2)) = some (r1, r2) := by rw [if_neg (show ¬ (false = true) by decide)] at H; exact H
                clear H; have H := H1; clear H1; have H' := Aside0.mk H; clear H
                try go_wp2
                have n0_ : Aside0 (Kd.R (Kd.int .i64) 2 (((w26.setCell ⟨gb201, 0, none⟩ (.int .i64 ((rd_T70 l0_1 x40_3).f0))).setCell ⟨gb201, 1, none⟩ (.int .i64 ((rd_T70 l0_1 x40_3).f1))).setCell ⟨gb201, 2, none⟩ (.int .i64 ((rd_T70 l0_1 x40_3).f2))) w.heap.size (fun _ => True) (.slice Ao14 x4_3.length co14) x4_3) := ⟨by (with_reducible repeat (first | apply Kd.R_alloc | apply Kd.R_drewN | apply Kd.R_drew)); exact Kd.R_mono (Kd.R_far (p := ⟨gb201, 2, none⟩) (Kd.R_far (p := ⟨gb201, 1, none⟩) (Kd.R_far (p := ⟨gb201, 0, none⟩) (Kd.R_types HO_4.out BK201.out (by decide)) (fun _ hk => hk.2) (.int .i64 ((rd_T70 l0_1 x40_3).f0))) (fun _ hk => hk.2) (.int .i64 ((rd_T70 l0_1 x40_3).f1))) (fun _ hk => hk.2) (.int .i64 ((rd_T70 l0_1 x40_3).f2))) (fun _ hk => trivial)⟩; have n1_ : Aside0 ((((w26.setCell ⟨gb201, 0, none⟩ (.int .i64 ((rd_T70 l0_1 x40_3).f0))).setCell ⟨gb201, 1, none⟩ (.int .i64 ((rd_T70 l0_1 x40_3).f1))).setCell ⟨gb201, 2, none⟩ (.int .i64 ((rd_T70 l0_1 x40_3).f2))).heap[gb194]? = some (.cells #[.int .i64 a0_0, .slice (some ad200) l0_1.length c0_1] 31 (0, 0))) := ⟨by (with_reducible repeat (first | refine blk_drewN ?_ _ | refine blk_drew ?_ | refine blk_alloc ?_ _)); refine blk_far ?_ NB194_201.out _; (with_reducible repeat (first | refine blk_drewN ?_ _ | refine blk_drew ?_ | refine blk_alloc ?_ _)); refine blk_far ?_ NB194_201.out _; (with_reducible repeat (first | refine blk_drewN ?_ _ | refine blk_drew ?_ | refine blk_alloc ?_ _)); refine blk_far ?_ NB194_201.out _; (with_reducible repeat (first | refine blk_drewN ?_ _ | refine blk_drew ?_ | refine blk_alloc ?_ _)); exact BK194.out⟩; have n2_ : Aside0 ((((w26.setCell ⟨gb201, 0, none⟩ (.int .i64 ((rd_T70 l0_1 x40_3).f0))).setCell ⟨gb201, 1, none⟩ (.int .i64 ((rd_T70 l0_1 x40_3).f1))).setCell ⟨gb201, 2, none⟩ (.int .i64 ((rd_T70 l0_1 x40_3).f2))).heap[gb201]? = some (.cells #[.int .i64 ((rd_T70 l0_1 x40_3).f0), .int .i64 ((rd_T70 l0_1 x40_3).f1), .int .i64 ((rd_T70 l0_1 x40_3).f2)] 70 (0, 0))) := ⟨by refine bd ?_; refine blk_put (cs := #[.int .i64 ((rd_T70 l0_1 x40_3).f0), .int .i64 ((rd_T70 l0_1 x40_3).f1), .int .i64 0]) ?_ 2 _ rfl; refine bd ?_; refine blk_put (cs := #[.int .i64 ((rd_T70 l0_1 x40_3).f0), .int .i64 0, .int .i64 0]) ?_ 1 _ rfl; refine bd ?_; refine blk_put (cs := #[.int .i64 0, .int .i64 0, .int .i64 0]) ?_ 0 _ rfl; (with_reducible repeat (first | refine blk_drewN ?_ _ | refine blk_drew ?_ | refine blk_alloc ?_ _)); exact BK201.out⟩
                have n3_ : Aside0 (Below w.heap.size w (((w26.setCell ⟨gb201, 0, none⟩ (.int .i64 ((rd_T70 l0_1 x40_3).f0))).setCell ⟨gb201, 1, none⟩ (.int .i64 ((rd_T70 l0_1 x40_3).f1))).setCell ⟨gb201, 2, none⟩ (.int .i64 ((rd_T70 l0_1 x40_3).f2)))) := ⟨bs2 HB GE194 GE201⟩; (try clear HO_4)
                (try clear BK194); (try clear BK201)
                (try clear HB); generalize (((w26.setCell ⟨gb201, 0, none⟩ (.int .i64 ((rd_T70 l0_1 x40_3).f0))).setCell ⟨gb201, 1, none⟩ (.int .i64 ((rd_T70 l0_1 x40_3).f1))).setCell ⟨gb201, 2, none⟩ (.int .i64 ((rd_T70 l0_1 x40_3).f2))) = w45 at n0_ n1_ n2_ n3_ ⊢; have HO_4 := n0_; have BK194 := n1_; have BK201 := n2_; have HB := n3_; clear n0_ n1_ n2_ n3_; obtain ⟨s0_, s1_, s2_, s3_, s4_⟩ : w45.cell? ⟨gb201, 0, none⟩ = some (.int .i64 ((rd_T70 l0_1 x40_3).f0)) ∧ w45.cell? ⟨gb201, 1, none⟩ = some (.int .i64 ((rd_T70 l0_1 x40_3).f1)) ∧ w45.cell? ⟨gb201, 2, none⟩ = some (.int .i64 ((rd_T70 l0_1 x40_3).f2)) ∧ w45.cell? ⟨gb194, 0, none⟩ = some (.int .i64 a0_0) ∧ w45.cell? ⟨gb194, 1, none⟩ = some (.slice (some ad200) l0_1.length c0_1) := ⟨(blk_cell BK201.out 0).trans rfl, (blk_cell BK201.out 1).trans rfl, (blk_cell BK201.out 2).trans rfl, (blk_cell BK194.out 0).trans rfl, (blk_cell BK194.out 1).trans rfl⟩
                (try clear hcz11_0); (try clear hcz11_1); (try clear hcz21_0); (try clear hcz21_1); (try clear hcz28_0); (try clear hcz28_1); (try clear hcz28_2); (try clear hcz6_0); (try clear hcz6_1); (try clear hcz7_0); (try clear hcz7_1); (try clear hx18_0); (try clear hx200_0); (try clear hx200_1); (try clear hx200_2)
                go_quiet (((go_at_call 42; (with_reducible refine Calls.quiet_of ((impl_inside.calls ((rd_T70 l0_1 x40_3).f0) 0 (wrap64 (a0_0 - 1)) false _ A29.out).mono fun _ _ h_ => ⟨h_.1, h_.2.out⟩)))))
                clear s0_ s1_ s2_ s3_ s4_; have n0_ := Aside0.mk (Kd.R_drewN HO_4.out nq); have n1_ := Aside0.mk (blk_drewN BK194.out nq); have n2_ := Aside0.mk (blk_drewN BK201.out nq); have n3_ := Aside0.mk (pw_below_drewN HB.out nq); clear HO_4; clear BK194; clear BK201; clear HB; have HO_4 := n0_; have BK194 := n1_; have BK201 := n2_; have HB := n3_; clear n0_ n1_ n2_ n3_; generalize w45.drewN nq = w46 at BK194 BK201 HB HO_4 ⊢
                try go_wp2
                go_meet
                case rel => exact ⟨_, (true), au, H', ⟨by have := HJ1.out; have := HK2.out; have := HK3.out; first | omega | exact Nat.le_refl _⟩, ⟨by (try simp only [hl4_2]); (try simp only [hl4_3]); (with_reducible repeat (first | apply Kd.R_alloc | apply Kd.R_drewN | apply Kd.R_drew)); exact HO_4.out⟩, ⟨by (try simp only [hl4_2]); (try simp only [hl4_3]); (with_reducible repeat (first | refine blk_drewN ?_ _ | refine blk_drew ?_ | refine blk_alloc ?_ _)); exact BK194.out⟩, ⟨by (try simp only [hl4_2]); (try simp only [hl4_3]); (with_reducible repeat (first | refine blk_drewN ?_ _ | refine blk_drew ?_ | refine blk_alloc ?_ _)); exact BK201.out⟩, ⟨bs2 HB GE194 GE201⟩⟩
              case rest =>
               clear HC25
               try clear p2
               try clear c3
               try clear c4
               try clear p6
               try clear c30
               try clear c32
               try clear c42
               obtain ⟨kq, x78_24, rfl, HA, HJ24, HO_4, BK194, BK201, HB⟩ := hcut
               cases kq with
               | zero => exact absurd HA.out (by simp [impl_roots.j3])
               | succ kj24 =>
                have H := HA.out; clear HA
                simp only [impl_roots.j3] at H
                by_cases c47 : x78_24 = true
                ·subst c47
                 have H1 : (some (([] : List Int), false)) = some (r1, r2) := by rw [if_pos rfl] at H; exact H
                 clear H; have H := H1; clear H1
                 simp only [Option.some.injEq, Prod.mk.injEq] at H
                 obtain ⟨rfl, rfl⟩ := H
                 go_wp2
                 go_ret2
                 exact ⟨_, by first | rfl | (simp [errW_none, errW_some] <;> rfl) | (simp [*, errW_none, errW_some] <;> rfl), by first | exact Kd.R_nil _ _ _ _ _ | exact Kd.N_nil _ _ _ _ _ | exact Kd.V_nil _ _ _ _ _ | exact Kd.Q_nil _ _ _ _ _ | exact Kd.S_nil _ _ _ _ _, bs2 HB GE194 GE201⟩
                ·replace c47 := Bool.eq_false_iff.mpr c47
                 subst c47
                 have H1 : (if 0 ≤ ((rd_T70 l0_1 x40_3).f0) then (if ((rd_T70 l0_1 x40_3).f0) < (x4_3.length : Int) then (if 0 ≤ ((rd_T70 l0_1 x40_3).f1) then (if ((rd_T70 l0_1 x40_3).f1) < (x4_3.length : Int) then (impl_roots.l2 kj24 x4_3 (mn (rd x4_3 ((rd_T70 l0_1 x40_3).f0)) (rd x4_3 ((rd_T70 l0_1 x40_3).f1))) (mx (rd x4_3 ((rd_T70 l0_1 x40_3).f0)) (rd x4_3 ((rd_T70 l0_1 x40_3).f1))) l0_1 (l0_1.length : Int) x40_3 (x4_3.length : Int) 0 a0_0 l0_1) else (none)) else (none)) else (none)) else (none)) = some (r1, r2) := by rw [if_neg (show ¬ (false = true) by decide)] at H; exact H
                 clear H; have H := H1; clear H1
                 by_cases c48 : 0 ≤ ((rd_T70 l0_1 x40_3).f0)
                 ·rw [if_pos c48] at H
                  have c48b0 : decide (0 ≤ ((rd_T70 l0_1 x40_3).f0)) = true := decide_eq_true c48; clear c48
                  by_cases c49 : ((rd_T70 l0_1 x40_3).f0) < (x4_3.length : Int)
                  ·rw [if_pos c49] at H
                   have c49b0 : decide (((rd_T70 l0_1 x40_3).f0) < (x4_3.length : Int)) = true := decide_eq_true c49
                   (try simp only [hl4_2] at c49b0)
                   (try simp only [hl4_3] at c49b0)
                   clear c49
                   by_cases c50 : 0 ≤ ((rd_T70 l0_1 x40_3).f1)
                   ·rw [if_pos c50] at H
                    have c50b0 : decide (0 ≤ ((rd_T70 l0_1 x40_3).f1)) = true := decide_eq_true c50; clear c50
                    by_cases c51 : ((rd_T70 l0_1 x40_3).f1) < (x4_3.length : Int)
                    ·rw [if_pos c51] at H
                     have c51b0 : decide (((rd_T70 l0_1 x40_3).f1) < (x4_3.length : Int)) = true := decide_eq_true c51
                     (try simp only [hl4_2] at c51b0)
                     (try simp only [hl4_3] at c51b0)
                     clear c51; obtain ⟨ji52, hji52⟩ : ∃ j_ : Int, (mn (rd x4_3 ((rd_T70 l0_1 x40_3).f0)) (rd x4_3 ((rd_T70 l0_1 x40_3).f1))) = j_ := ⟨_, rfl⟩
                     replace H : (impl_roots.l2 kj24 x4_3 ji52 (mx (rd x4_3 ((rd_T70 l0_1 x40_3).f0)) (rd x4_3 ((rd_T70 l0_1 x40_3).f1))) l0_1 (l0_1.length : Int) x40_3 (x4_3.length : Int) 0 a0_0 l0_1) = some (r1, r2) := by first | (rw [hji52] at H; exact H) | (simp only [hji52] at H ⊢; exact H)
                     have hji52_ : (if (rd x4_3 ((rd_T70 l0_1 x40_3).f1)) < (rd x4_3 ((rd_T70 l0_1 x40_3).f0)) then (rd x4_3 ((rd_T70 l0_1 x40_3).f1)) else (rd x4_3 ((rd_T70 l0_1 x40_3).f0))) = ji52 := hji52; obtain ⟨ji53, hji53⟩ : ∃ j_ : Int, (mx (rd x4_3 ((rd_T70 l0_1 x40_3).f0)) (rd x4_3 ((rd_T70 l0_1 x40_3).f1))) = j_ := ⟨_, rfl⟩
                     replace H : (impl_roots.l2 kj24 x4_3 ji52 ji53 l0_1 (l0_1.length : Int) x40_3 (x4_3.length : Int) 0 a0_0 l0_1) = some (r1, r2) := by first | (rw [hji53] at H; exact H) | (simp only [hji53] at H ⊢; exact H)
                     have hji53_ : (if (rd x4_3 ((rd_T70 l0_1 x40_3).f0)) < (rd x4_3 ((rd_T70 l0_1 x40_3).f1)) then (rd x4_3 ((rd_T70 l0_1 x40_3).f1)) else (rd x4_3 ((rd_T70 l0_1 x40_3).f0))) = ji53 := hji53; have H' := Aside0.mk H; clear H
                     try go_wp2
                     have p207 : 0 ≤ (((rd_T70 l0_1 x40_3).f0) : Int) := ode; have q207 : ((rd_T70 l0_1 x40_3).f0) < (x4_3.length : Int) := ode; obtain ⟨ad207, e207, hx207_0⟩ := Kd.at_int (Kd.R_reads' HO_4.out).2.2 ((rd_T70 l0_1 x40_3).f0) p207 q207
                     cases e207
                     replace p207 := eq_true p207; replace q207 := eq_true q207; have p208 : 0 ≤ (((rd_T70 l0_1 x40_3).f1) : Int) := ode; have q208 : ((rd_T70 l0_1 x40_3).f1) < (x4_3.length : Int) := ode; obtain ⟨ad208, e208, hx208_0⟩ := Kd.at_int (Kd.R_reads' HO_4.out).2.2 ((rd_T70 l0_1 x40_3).f1) p208 q208; obtain rfl : ad207 = ad208 := (by injection e208); replace p208 := eq_true p208; replace q208 := eq_true q208; have p209 : 0 ≤ (((rd_T70 l0_1 x40_3).f0) : Int) := ode; have q209 : ((rd_T70 l0_1 x40_3).f0) < (x4_3.length : Int) := ode; obtain ⟨ad209, e209, hx209_0⟩ := Kd.at_int (Kd.R_reads' HO_4.out).2.2 ((rd_T70 l0_1 x40_3).f0) p209 q209; obtain rfl : ad207 = ad209 := (by injection e209); replace p209 := eq_true p209; replace q209 := eq_true q209; have p210 : 0 ≤ (((rd_T70 l0_1 x40_3).f1) : Int) := ode; have q210 : ((rd_T70 l0_1 x40_3).f1) < (x4_3.length : Int) := ode; obtain ⟨ad210, e210, hx210_0⟩ := Kd.at_int (Kd.R_reads' HO_4.out).2.2 ((rd_T70 l0_1 x40_3).f1) p210 q210; obtain rfl : ad207 = ad210 := (by injection e210); replace p210 := eq_true p210; replace q210 := eq_true q210; obtain ⟨s0_, s1_, s2_, s3_, s4_, s5_, s6_⟩ : wc.cell? ⟨gb201, 0, none⟩ = some (.int .i64 ((rd_T70 l0_1 x40_3).f0)) ∧ wc.cell? ⟨gb201, 1, none⟩ = some (.int .i64 ((rd_T70 l0_1 x40_3).f1)) ∧ wc.cell? ⟨gb201, 2, none⟩ = some (.int .i64 ((rd_T70 l0_1 x40_3).f2)) ∧ wc.cell? (ad207.add (((rd_T70 l0_1 x40_3).f0)).toNat) = some (.int .i64 (rd x4_3 ((rd_T70 l0_1 x40_3).f0))) ∧ wc.cell? (ad207.add (((rd_T70 l0_1 x40_3).f1)).toNat) = some (.int .i64 (rd x4_3 ((rd_T70 l0_1 x40_3).f1))) ∧ wc.cell? (ad207.add (((rd_T70 l0_1 x40_3).f0)).toNat) = some (.int .i64 (rd x4_3 ((rd_T70 l0_1 x40_3).f0))) ∧ wc.cell? (ad207.add (((rd_T70 l0_1 x40_3).f1)).toNat) = some (.int .i64 (rd x4_3 ((rd_T70 l0_1 x40_3).f1))) := ⟨(blk_cell BK201.out 0).trans rfl, (blk_cell BK201.out 1).trans rfl, (blk_cell BK201.out 2).trans rfl, hx207_0, hx208_0, hx209_0, hx210_0⟩
                     (try clear hcz11_0); (try clear hcz11_1); (try clear hcz21_0); (try clear hcz21_1); (try clear hcz28_0); (try clear hcz28_1); (try clear hcz28_2); (try clear hcz6_0); (try clear hcz6_1); (try clear hcz7_0); (try clear hcz7_1); (try clear hx18_0); (try clear hx200_0); (try clear hx200_1); (try clear hx200_2); (try clear hx207_0); (try clear hx208_0); (try clear hx209_0); (try clear hx210_0)
                     go_quiet ((fail))
                     clear s0_ s1_ s2_ s3_ s4_ s5_ s6_; have n0_ := Aside0.mk (Kd.R_drewN HO_4.out nq); have n1_ := Aside0.mk (blk_drewN BK194.out nq); have n2_ := Aside0.mk (blk_drewN BK201.out nq); have n3_ := Aside0.mk (pw_below_drewN HB.out nq); clear HO_4; clear BK194; clear BK201; clear HB; have HO_4 := n0_; have BK194 := n1_; have BK201 := n2_; have HB := n3_; clear n0_ n1_ n2_ n3_; generalize wc.drewN nq = w54 at BK194 BK201 HB HO_4 ⊢
                     try go_wp2
                     go_loopg [103] kj24 (fun kq v103 w' => ∃ (x4_5 : List Int) (x103_5 : Int), v103 = .int .i64 x103_5 ∧ Aside0 (impl_roots.l2 kq x4_5 ji52 ji53 l0_1 (l0_1.length : Int) x40_3 (x4_3.length : Int) x103_5 a0_0 l0_1 = some (r1, r2)) ∧ Aside0 (kq ≤ kj24) ∧ Aside0 (Kd.R (Kd.int .i64) 2 w' w.heap.size (fun _ => True) (.slice (some ad207) x4_3.length co14) x4_5) ∧ Aside0 (w'.heap[gb194]? = some (.cells #[.int .i64 a0_0, (.slice (some ad200) l0_1.length c0_1)] 31 (0, 0))) ∧ Aside0 (w'.heap[gb201]? = some (.cells #[.int .i64 ((rd_T70 l0_1 x40_3).f0), .int .i64 ((rd_T70 l0_1 x40_3).f1), .int .i64 ((rd_T70 l0_1 x40_3).f2)] 70 (0, 0))) ∧ Aside0 (Below w.heap.size w w'))
                     case atStart => exact ⟨(x4_3), (0), au, H', ⟨Nat.le_refl _⟩, ⟨by (try simp only [hl4_2]); (try simp only [hl4_3]); (with_reducible repeat (first | apply Kd.R_alloc | apply Kd.R_drewN | apply Kd.R_drew)); exact HO_4.out⟩, ⟨by (try simp only [hl4_2]); (try simp only [hl4_3]); (with_reducible repeat (first | refine blk_drewN ?_ _ | refine blk_drew ?_ | refine blk_alloc ?_ _)); exact BK194.out⟩, ⟨by (try simp only [hl4_2]); (try simp only [hl4_3]); (with_reducible repeat (first | refine blk_drewN ?_ _ | refine blk_drew ?_ | refine blk_alloc ?_ _)); exact BK201.out⟩, ⟨bs2 HB GE194 GE201⟩⟩
                     case round =>
                      clear H'
                      try clear p2
                      try clear q2
                      try clear hx2
                      try clear c3
                      try clear c4
                      try clear c5
                      try clear p6
                      try clear p20
                      try clear q20
                      try clear hx20
                      try clear p21
                      try clear q21
                      try clear hx21
                      try clear c30
                      try clear c32
                      try clear c42
                      try clear c47
                      try clear c48
                      try clear c48b0
                      try clear c49
                      try clear c49b0
                      try clear c50
                      try clear c50b0
                      try clear c51
                      try clear c51b0
                      try clear hx207_0
                      try clear hx208_0
                      try clear hx209_0
                      try clear hx210_0
                      try clear p2
                      try clear p207
                      try clear p208
                      try clear p209
                      try clear p210
                      try clear p6
                      try clear q207
                      try clear q208
                      try clear q209
                      try clear q210
                      obtain ⟨x4_5, x103_5, rfl, HA, HK5, HO_4, BK194, BK201, HB⟩ := hrel; have hl4_5 := (Kd.R_reads' HO_4.out).1; rw [hl4_5] at HO_4
                      (try simp only [hl4_5])
                      (try simp only [hl4_5] at BK194)
                      (try simp only [hl4_5] at BK201)
                      cases gk with
                      | zero => exact absurd HA.out (by simp [impl_roots.l2])
                      | succ k5 =>
                       have H := HA.out; clear HA
                       simp only [impl_roots.l2] at H
                       by_cases c55 : x103_5 < (x4_3.length : Int)
                       ·rw [if_pos c55] at H
                        have c55b0 : decide (x103_5 < (x4_3.length : Int)) = true := decide_eq_true c55
                        (try simp only [hl4_2] at c55b0)
                        (try simp only [hl4_3] at c55b0)
                        (try simp only [hl4_5] at c55b0)
                        clear c55
                        by_cases c56 : 0 ≤ x103_5
                        ·rw [if_pos c56] at H
                         have c56b0 : decide (0 ≤ x103_5) = true := decide_eq_true c56; clear c56
                         by_cases c57 : x103_5 < (x4_5.length : Int)
                         ·rw [if_pos c57] at H
                          have c57b0 : decide (x103_5 < (x4_5.length : Int)) = true := decide_eq_true c57
                          (try simp only [hl4_2] at c57b0)
                          (try simp only [hl4_3] at c57b0)
                          (try simp only [hl4_5] at c57b0)
                          clear c57
                          by_cases c58 : (rd x4_5 x103_5) = ji53
                          ·rw [if_pos c58] at H
                           have c58b0 : ((rd x4_5 x103_5) == ji53) = true := beq_iff_eq.mpr c58; have c58b1 : ((rd x4_5 x103_5) != ji53) = false := bne_eq_false_iff_eq.mpr c58; clear c58; obtain ⟨y212, hy212⟩ : ∃ y_ : List Int, y_ = (x4_5.set (x103_5 : Int).toNat ji52) := ⟨_, rfl⟩
                           replace H : (impl_roots.l2 k5 y212 ji52 ji53 l0_1 (l0_1.length : Int) x40_3 (x4_3.length : Int) (wrap64 (x103_5 + 1)) a0_0 l0_1) = some (r1, r2) := by first | (rw [hy212]; with_reducible exact H) | (have H2_ := (Option.bind_some _ _).symm.trans H; rw [hy212]; with_reducible exact H2_) | (have H2_ := (Option.bind_some _ _).symm.trans H; with_reducible exact H2_) | with_reducible exact H | (rw [hy212]; exact H) | exact H
                           have Ny212 := Aside0.mk hy212; clear hy212; have H' := Aside0.mk H; clear H; have p211 : 0 ≤ (x103_5 : Int) := ode; have q211 : x103_5 < (x4_5.length : Int) := ode; obtain ⟨ad211, e211, hx211_0⟩ := Kd.at_int (Kd.R_reads' HO_4.out).2.2 x103_5 p211 q211; obtain rfl : ad207 = ad211 := (by injection e211); replace p211 := eq_true p211; replace q211 := eq_true q211; have p59 : 0 ≤ (x103_5 : Int) := ode; have q59 : (x103_5 : Int) < ((x4_5.length : Int) : Int) := ode; obtain ⟨go59, co59, eo59, gb59, gl59, cl59, HG59⟩ := Kd.R_form HO_4.out (by omega)
                           (first | cases eo59 | (injection eo59 with ea_ en_ ec_; (first | subst ea_ | (injection ea_ with ea_; subst ea_)); subst ec_; clear en_))
                           have GB59 := Aside0.mk gb59; have GG59 := Aside0.mk HG59; clear gb59 gl59 HG59
                           (first | simp only [add_plain] at hx207_0 | skip)
                           (first | simp only [add_plain] at hx208_0 | skip)
                           (first | simp only [add_plain] at hx209_0 | skip)
                           (first | simp only [add_plain] at hx210_0 | skip)
                           (first | simp only [add_plain] at hx211_0 | skip)
                           obtain ⟨hx59_0, hf59_0⟩ := Kd.R_celln 0 HO_4.out (x103_5 : Int) p59 q59; replace p59 := eq_true p59; replace q59 := eq_true q59; have HP60 := Kd.R_putg HO_4.out (x103_5 : Int) ji52
                           go_wp2_with (first | ((with_reducible refine gate_store (t := 2) (p := 114) rfl ?_); refine store_event (t := 2) (p := 114) (v := ?vo_w61) (w1 := (wr.setCell ⟨go59, (x103_5 : Int).toNat, none⟩ (.int .i64 ji52))) ?hg ?ho ?hn ?hr ?_; (case ho => rfl); (case hg => rfl); (case hn => rfl); (case hr => first | (go_simp; done) | (go_simp; rfl) | ((try (obtain ⟨_, _, e_⟩ := Kd.R_slice HO_4.out; subst e_)); first | (go_simp; done) | (go_simp; rfl))); intro w61 hw; have hg : wr.grownBy w61 (some go59) := (by rw [hw]; exact HP60.2); have hp_ : Kd.R (Kd.int .i64) 2 w61 w.heap.size (fun _ => True) (.slice (some ⟨go59, 0, none⟩) x4_5.length co14) y212 := (by rw [hw, Ny212.out]; exact HP60.1); clear HP60; have n0_ := Aside0.mk (hp_); have n1_ := Aside0.mk (blk_grown (g := gb194) (o := .cells #[.int .i64 a0_0, .slice (some ad200) l0_1.length c0_1] 31 (0, 0)) (bk BK194) hg (Kd.R_ne HO_4.out BK194.out (by decide))); have n2_ := Aside0.mk (blk_grown (g := gb201) (o := .cells #[.int .i64 ((rd_T70 l0_1 x40_3).f0), .int .i64 ((rd_T70 l0_1 x40_3).f1), .int .i64 ((rd_T70 l0_1 x40_3).f2)] 70 (0, 0)) (bk BK201) hg (Kd.R_ne HO_4.out BK201.out (by decide))); have n3_ := Aside0.mk ((by rw [hw]; exact below_set (HB.out) GB59.out : Below w.heap.size w w61)); clear HO_4; clear BK194; clear BK201; clear HB; have HO_4 := n0_; have BK194 := n1_; have BK201 := n2_; have HB := n3_; clear n0_ n1_ n2_ n3_; clear hg hw hp_))
                           (try simp only [← hl4_5])
                           (try simp only [add_plain] at *)
                           go_roundg k5
                           case measure => have := HJ1.out; have := HK2.out; have := HK3.out; have := HJ24.out; have := HK5.out; omega
                           case rel => exact ⟨(y212), (wrap64 (x103_5 + 1)), au, H', ⟨by have := HJ1.out; have := HK2.out; have := HK3.out; have := HJ24.out; have := HK5.out; omega⟩, ⟨by (try simp only [hl4_2]); (try simp only [hl4_3]); (try simp only [hl4_5]); (with_reducible repeat (first | apply Kd.R_alloc | apply Kd.R_drewN | apply Kd.R_drew)); exact HO_4.out⟩, ⟨by (try simp only [hl4_2]); (try simp only [hl4_3]); (try simp only [hl4_5]); (with_reducible repeat (first | refine blk_drewN ?_ _ | refine blk_drew ?_ | refine blk_alloc ?_ _)); exact BK194.out⟩, ⟨by (try simp only [hl4_2]); (try simp only [hl4_3]); (try simp only [hl4_5]); (with_reducible repeat (first | refine blk_drewN ?_ _ | refine blk_drew ?_ | refine blk_alloc ?_ _)); exact BK201.out⟩, ⟨bs2 HB GE194 GE201⟩⟩
                          ·rw [if_neg c58] at H
                           have c58b0 : ((rd x4_5 x103_5) == ji53) = false := beq_eq_false_iff_ne.mpr c58; have c58b1 : ((rd x4_5 x103_5) != ji53) = true := bne_iff_ne.mpr c58; have H' := Aside0.mk H; clear H; have p211 : 0 ≤ (x103_5 : Int) := ode; have q211 : x103_5 < (x4_5.length : Int) := ode; obtain ⟨ad211, e211, hx211_0⟩ := Kd.at_int (Kd.R_reads' HO_4.out).2.2 x103_5 p211 q211; obtain rfl : ad207 = ad211 := (by injection e211); replace p211 := eq_true p211; replace q211 := eq_true q211
                           go_wp2
                           (try simp only [← hl4_5])
                           (try simp only [add_plain] at *)
                           go_roundg k5
                           case measure => have := HJ1.out; have := HK2.out; have := HK3.out; have := HJ24.out; have := HK5.out; omega
                           case rel => exact ⟨(x4_5), (wrap64 (x103_5 + 1)), au, H', ⟨by have := HJ1.out; have := HK2.out; have := HK3.out; have := HJ24.out; have := HK5.out; omega⟩, ⟨by (try simp only [hl4_2]); (try simp only [hl4_3]); (try simp only [hl4_5]); (with_reducible repeat (first | apply Kd.R_alloc | apply Kd.R_drewN | apply Kd.R_drew)); exact HO_4.out⟩, ⟨by (try simp only [hl4_2]); (try simp only [hl4_3]); (try simp only [hl4_5]); (with_reducible repeat (first | refine blk_drewN ?_ _ | refine blk_drew ?_ | refine blk_alloc ?_ _)); exact BK194.out⟩, ⟨by (try simp only [hl4_2]); (try simp only [hl4_3]); (try simp only [hl4_5]); (with_reducible repeat (first | refine blk_drewN ?_ _ | refine blk_drew ?_ | refine blk_alloc ?_ _)); exact BK201.out⟩, ⟨bs2 HB GE194 GE201⟩⟩
                         ·rw [if_neg c57] at H
                          exact absurd H (by simp)
                        ·rw [if_neg c56] at H
                         exact absurd H (by simp)
                       ·rw [if_neg c55] at H
                        have c55b0 : decide (x103_5 < (x4_3.length : Int)) = false := decide_eq_false c55
                        (try simp only [hl4_2] at c55b0)
                        (try simp only [hl4_3] at c55b0)
                        (try simp only [hl4_5] at c55b0)
                        clear c55; have H' := Aside0.mk H; clear H
                        go_wp2
                        (try simp only [← hl4_3, ← hl4_5])
                        (try simp only [add_plain] at *)
                        go_roundg k5
                        case measure => have := HJ1.out; have := HK2.out; have := HK3.out; have := HJ24.out; have := HK5.out; omega
                        case rel => exact ⟨(x4_5), (wrap64 (x40_3 + 1)), au, H', ⟨by have := HJ1.out; have := HK2.out; have := HK3.out; have := HJ24.out; have := HK5.out; omega⟩, ⟨by (try simp only [hl4_2]); (try simp only [hl4_3]); (try simp only [hl4_5]); (with_reducible repeat (first | apply Kd.R_alloc | apply Kd.R_drewN | apply Kd.R_drew)); exact HO_4.out⟩, ⟨by (try simp only [hl4_2]); (try simp only [hl4_3]); (try simp only [hl4_5]); (with_reducible repeat (first | refine blk_drewN ?_ _ | refine blk_drew ?_ | refine blk_alloc ?_ _)); exact BK194.out⟩, ⟨bs2 HB GE194 GE201⟩⟩
                    ·rw [if_neg c51] at H
                     exact absurd H (by simp)
                   ·rw [if_neg c50] at H
                    exact absurd H (by simp)
                  ·rw [if_neg c49] at H
                   exact absurd H (by simp)
                 ·rw [if_neg c48] at H
                  exact absurd H (by simp)
             ·rw [if_neg c24] at H
              exact absurd H (by simp)
            ·rw [if_neg c23] at H
             exact absurd H (by simp)
           ·rw [if_neg c22] at H
            have c22b0 : decide (x40_3 < (l0_1.length : Int)) = false := decide_eq_false c22
            (try simp only [hl4_2] at c22b0)
            (try simp only [hl4_3] at c22b0)
            clear c22
            simp only [Option.some.injEq, Prod.mk.injEq] at H
            obtain ⟨rfl, rfl⟩ := H
            go_wp2
            go_ret2
            exact ⟨_, by first | rfl | (simp [errW_none, errW_some] <;> rfl) | (simp [*, errW_none, errW_some] <;> rfl), by (with_reducible repeat (first | apply Kd.R_alloc | apply Kd.R_drewN | apply Kd.R_drew)); exact HO_4.out, bs HB GE194⟩
     ·rw [if_neg c10] at H
      exact absurd H (by simp)
    ·rw [if_neg c9] at H
     exact absurd H (by simp)

end Go.Proofs.Ytonkicgdgpcneaa.PFnReasons
