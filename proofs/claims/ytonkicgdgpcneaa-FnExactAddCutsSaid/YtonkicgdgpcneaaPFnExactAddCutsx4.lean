-- Written by a program of this session (a turned copy of the kit's printer); Lean checks it.
-- half the depth
import Derived.Test.YtonkicgdgpcneaaPFnExactAddCutsx0
namespace Go.Proofs.Ytonkicgdgpcneaa.PFnExactAddCuts
open Go.RowKit Go.Proofs.YtonkicgdgpcneaaW.PrintWords Go.Proofs.YtonkicgdgpcneaaW.PrintLast Go.Proofs.YtonkicgdgpcneaaW.PrintMore
attribute [local go_sem] max2_int min2_int max_two min_two max_three min_three max_four min_four   -- for this text's walks alone
set_option linter.unusedVariables false
set_option linter.unusedSimpArgs false

/-! ### spec_l6Marks: function 49 -/
mutual
def spec_l6Marks.l0 : Nat → List (S63) → List (List Bool) → Int → List (List Int) → Option ((List (List Bool)))
 | 0, _, _, _, _ => none
 | k + 1, x0, x5, x6, x129000 => if x6 < (x0.length : Int) then (if 0 ≤ x6 then (if 0 ≤ (wrap64 (((rd_T63 x0 x6).f1) + 1)) then (if (wrap64 (((rd_T63 x0 x6).f1) + 1) : Int).toNat ≤ 281474976710656 then (spec_l6Marks.l1 k x0 x5 x6 (List.replicate (wrap64 (((rd_T63 x0 x6).f1) + 1) : Int).toNat false) 0 x129000) else (none)) else (none)) else (none)) else (some x5)
def spec_l6Marks.l1 : Nat → List (S63) → List (List Bool) → Int → List Bool → Int → List (List Int) → Option ((List (List Bool)))
 | 0, _, _, _, _, _, _ => none
 | k + 1, x0, x5, x6, x7, x8, x129000 => if 0 ≤ x6 then (if x6 < (x129000.length : Int) then (if x8 < ((rd_L3 x129000 x6).length : Int) then (if 0 ≤ x8 then (if 0 ≤ (rd (rd_L3 x129000 x6) x8) then (if (rd (rd_L3 x129000 x6) x8) < (x7.length : Int) then (spec_l6Marks.l1 k x0 x5 x6 (x7.set ((rd (rd_L3 x129000 x6) x8) : Int).toNat true) (wrap64 (x8 + 1)) x129000) else (none)) else (none)) else (none)) else (if x5.length < 5864062014805 then (spec_l6Marks.l0 k x0 (x5 ++ [x7]) (wrap64 (x6 + 1)) x129000) else (none))) else (none)) else (none)
end
def spec_l6Marks.f (k : Nat) (l0 : List (S63)) (l1_0 : List (List Int)) : Option ((List (List Bool))) := spec_l6Marks.l0 k l0 (([] : List (List Bool))) 0 l1_0
set_option maxHeartbeats 8000000 in
set_option maxRecDepth 100000 in
theorem spec_l6Marks.calls (k : Nat) (A0 : Option Addr) (c0 : Nat) (l0 : List (S63)) (A1_0 : Option Addr) (c1_0 : Nat) (l1_0 : List (List Int)) (r : List (List Bool)) (w : World) (hr0 : Kd.C k63 w A0 l0.length l0) (hc0 : l0.length ≤ c0) (hr1_0 : Kd.C (Kd.slice 2 (Kd.int .i64)) w A1_0 l1_0.length l1_0) (hc1_0 : l1_0.length ≤ c1_0) (h : spec_l6Marks.f k l0 l1_0 = some r) :
  Calls Try.prog 49 #[.slice A0 l0.length c0, .agg #[.slice A1_0 l1_0.length c1_0]] w fun e w' => ∃ v0_ : Value, e = .returned (v0_) ∧ Kd.S (Kd.slice 4 Kd.bool) 76 w' w.heap.size (fun _ => True) v0_ r ∧ Below w.heap.size w w' := by
 have hu44 := Try.underlying44; have HR0 := Aside0.mk hr0; have HC0 := Aside0.mk hc0; clear hr0 hc0; have HR1_0 := Aside0.mk hr1_0; have HC1_0 := Aside0.mk hc1_0; clear hr1_0 hc1_0; have HB := Aside0.mk (Below.refl w.heap.size w); have H : (spec_l6Marks.l0 k l0 (([] : List (List Bool))) 0 l1_0) = some r := h; clear h; obtain ⟨y129, hy129⟩ : ∃ y_ : List (List Bool), y_ = (([] : List (List Bool))) := ⟨_, rfl⟩
 replace H : (spec_l6Marks.l0 k l0 y129 0 l1_0) = some r := by first | (rw [hy129]; with_reducible exact H) | (have H2_ := (Option.bind_some _ _).symm.trans H; rw [hy129]; with_reducible exact H2_) | (have H2_ := (Option.bind_some _ _).symm.trans H; with_reducible exact H2_) | with_reducible exact H | (rw [hy129]; exact H) | exact H
 have Ny129 := Aside0.mk hy129; clear hy129; have H' := Aside0.mk H; clear H
 go_enter Try.func49, Try.ntmps49
 go_wp2_with (first | ((with_reducible refine gate_dst (N := 3) rfl ?_); refine be 3 #[.slice A1_0 l1_0.length c1_0] 44 ?_; intro gb128 hg w3 hbox hb; have n0_ := Aside0.mk (below_step (bl HB) hb); have n1_ := Aside0.mk (hbox); have n2_ := Aside0.mk (gs HB hg); have n3_ := Aside0.mk (gs HB hg); clear HB; have HB := n0_; have BK128 := n1_; have GW128 := n2_; have GE128 := n3_; clear n0_ n1_ n2_ n3_; clear hb hbox hg) | ((with_reducible refine gate_dst (N := 9) rfl ?_); refine Kd.S_lit (Kd.slice 4 Kd.bool) _ 76 ?hg (N := 9) ?hd (xs := ([] : List (List Bool))) (inner := []) (ok := fun _ => True) (okp := fun _ => True) ?hr ?hp (fun _ hk => hk) trivial (Below.refl _ _) (Nat.le_refl _) (by simp) ?_; (case hd => rfl); (case hg => rfl); (case hr => first | (go_simp; done) | (go_simp; rfl)); (case hp => exact (Reps.none _ _)); intro v130 w4 ho5 hb hg_ hnew_; clear hg_ hnew_; (first | rw [← Ny129.out] at ho5 | (simp only [Int.reduceToNat] at ho5; rw [← Ny129.out] at ho5)); have n0_ := Aside0.mk (Kd.S_lower ho5 (below_size (bs HB GE128))); have n1_ := Aside0.mk (blk_below (g := gb128) (o := .cells #[.slice A1_0 l1_0.length c1_0] 44 (0, 0)) (bk BK128) hb); have n2_ := Aside0.mk (below_step (bs HB GE128) hb); clear BK128; clear HB; have HO131 := n0_; have BK128 := n1_; have HB := n2_; clear n0_ n1_ n2_; clear hb ho5))
 go_loopg [5, 6] k (fun kq v5 v6 w' => ∃ (x5_1 : List (List Bool)) (x6_1 : Int), v6 = .int .i64 x6_1 ∧ Aside0 (spec_l6Marks.l0 kq l0 x5_1 x6_1 l1_0 = some r) ∧ Aside0 (kq ≤ k) ∧ Aside0 (Kd.S (Kd.slice 4 Kd.bool) 76 w' w.heap.size (fun _ => True) v5 x5_1) ∧ Aside0 (w'.heap[gb128]? = some (.cells #[(.slice A1_0 l1_0.length c1_0)] 44 (0, 0))) ∧ Aside0 (Below w.heap.size w w'))
 case atStart => exact ⟨(y129), (0), au, H', ⟨Nat.le_refl _⟩, ⟨sl HO131⟩, ⟨bk BK128⟩, ⟨bs HB GE128⟩⟩
 case round =>
  clear H'
  try clear c1
  try clear p2
  try clear c4
  obtain ⟨x5_1, x6_1, rfl, HA, HK1, HO_5, BK128, HB⟩ := hrel
  cases gk with
  | zero => exact absurd HA.out (by simp [spec_l6Marks.l0])
  | succ k1 =>
   have H := HA.out; clear HA
   simp only [spec_l6Marks.l0] at H
   by_cases c6 : x6_1 < (l0.length : Int)
   ·rw [if_pos c6] at H
    have c6b0 : decide (x6_1 < (l0.length : Int)) = true := decide_eq_true c6; clear c6
    by_cases c7 : 0 ≤ x6_1
    ·rw [if_pos c7] at H
     have c7b0 : decide (0 ≤ x6_1) = true := decide_eq_true c7; clear c7; obtain ⟨ji8, hji8⟩ : ∃ j_ : Int, (wrap64 (((rd_T63 l0 x6_1).f1) + 1)) = j_ := ⟨_, rfl⟩
     replace H : (if 0 ≤ (ji8) then (if (ji8 : Int).toNat ≤ 281474976710656 then (spec_l6Marks.l1 k1 l0 x5_1 x6_1 (List.replicate (ji8 : Int).toNat false) 0 l1_0) else (none)) else (none)) = some r := by first | (rw [hji8] at H; exact H) | (simp only [hji8] at H ⊢; exact H)
     have hji8w : (IntKind.i64.wrap (((rd_T63 l0 x6_1).f1) + 1)) = ji8 := (i64_w _).trans hji8
     by_cases c9 : 0 ≤ (ji8)
     ·rw [if_pos c9] at H
      have c9b0 := eq_true c9; have c9b1 : decide (0 ≤ (ji8)) = true := decide_eq_true c9; clear c9
      by_cases c10 : (ji8 : Int).toNat ≤ 281474976710656
      ·rw [if_pos c10] at H
       have c10b0 := eq_true c10; have c10b1 : decide ((ji8 : Int).toNat ≤ 281474976710656) = true := decide_eq_true c10; clear c10; obtain ⟨y133, hy133⟩ : ∃ y_ : List Bool, y_ = (List.replicate (ji8 : Int).toNat false) := ⟨_, rfl⟩
       replace H : (spec_l6Marks.l1 k1 l0 x5_1 x6_1 y133 0 l1_0) = some r := by first | (rw [hy133]; with_reducible exact H) | (have H2_ := (Option.bind_some _ _).symm.trans H; rw [hy133]; with_reducible exact H2_) | (have H2_ := (Option.bind_some _ _).symm.trans H; with_reducible exact H2_) | with_reducible exact H | (rw [hy133]; exact H) | exact H
       have Ny133 := Aside0.mk hy133; clear hy133; have H' := Aside0.mk H; clear H; have p132 : 0 ≤ (x6_1 : Int) := ode; have q132 : x6_1 < (l0.length : Int) := ode; obtain ⟨ad132, e132, hx132_0, hx132_1⟩ := at_T63 HR0.out x6_1 p132 q132
       cases e132
       replace hx132_0 := cl HB hx132_0; replace hx132_1 := cl HB hx132_1; replace p132 := eq_true p132; replace q132 := eq_true q132
       go_wp2_with (first | ((with_reducible refine gate_dst (N := 22) rfl ?_); refine Kd.R_make Kd.bool _ 4 rfl (N := 22) rfl 76 _ _ rfl ji8 rfl rfl Try.underlying76 (.bool false) 1 info4 rfl (by decide) (by omega) false (ok := fun _ => True) (okp := fun _ => True) rfl (fun _ hk => hk) trivial (ode) (Nat.le_trans (Nat.mul_le_mul_right _ (ode : ji8.toNat ≤ 281474976710656)) (by omega)) (Below.refl _ _) (Nat.le_refl _) ?_; intro v134 w11 ho12 hb hg_ hnew_; clear hg_ hnew_; (first | rw [← Ny133.out] at ho12 | (simp only [Int.reduceToNat] at ho12; rw [← Ny133.out] at ho12)); have n0_ := Aside0.mk (Kd.S_elder' (sl HO_5) (Kd.R_base ho12) hb); have n1_ := Aside0.mk (Kd.R_lower ho12 (below_size (bs HB GE128))); have n2_ := Aside0.mk (blk_below (g := gb128) (o := .cells #[.slice A1_0 l1_0.length c1_0] 44 (0, 0)) (bk BK128) hb); have n3_ := Aside0.mk (below_step (bs HB GE128) hb); clear HO_5; clear BK128; clear HB; have HO_5 := n0_; have HO135 := n1_; have BK128 := n2_; have HB := n3_; clear n0_ n1_ n2_ n3_; clear hb ho12))
       go_loopg [8] k1 (fun kq v8 w' => ∃ (x7_2 : List Bool) (x8_2 : Int), v8 = .int .i64 x8_2 ∧ Aside0 (spec_l6Marks.l1 kq l0 x5_1 x6_1 x7_2 x8_2 l1_0 = some r) ∧ Aside0 (kq ≤ k1) ∧ Aside0 (Kd.S (Kd.slice 4 Kd.bool) 76 w' w.heap.size (fun k_ => some k_ ≠ (v134 : Value).ownBlock) u5 x5_1) ∧ Aside0 (Kd.R Kd.bool 4 w' w.heap.size (fun _ => True) v134 x7_2) ∧ Aside0 (w'.heap[gb128]? = some (.cells #[(.slice A1_0 l1_0.length c1_0)] 44 (0, 0))) ∧ Aside0 (Below w.heap.size w w'))
       case atStart => exact ⟨(y133), (0), au, H', ⟨Nat.le_refl _⟩, ⟨by (with_reducible repeat (first | apply Kd.S_alloc | apply Kd.S_drewN | apply Kd.S_drew)); exact Kd.S_mono HO_5.out (fun _ hk => hk.2)⟩, ⟨rl HO135⟩, ⟨bk BK128⟩, ⟨bs HB GE128⟩⟩
       case round =>
        clear H'
        try clear c1
        try clear p1
        try clear q1
        try clear hx1
        try clear p2
        try clear c4
        try clear c6
        try clear c6b0
        try clear p6
        try clear c7
        try clear c7b0
        try clear c9
        try clear c9b0
        try clear c9b1
        try clear c10
        try clear c10b0
        try clear c10b1
        try clear hx132_0
        try clear hx132_1
        try clear p132
        try clear p2
        try clear q132
        obtain ⟨x7_2, x8_2, rfl, HA, HK2, HO_5, HO_7, BK128, HB⟩ := hrel
        cases gk with
        | zero => exact absurd HA.out (by simp [spec_l6Marks.l1])
        | succ k2 =>
         have H := HA.out; clear HA
         simp only [spec_l6Marks.l1] at H
         by_cases c13 : 0 ≤ x6_1
         ·rw [if_pos c13] at H
          have c13b0 : decide (0 ≤ x6_1) = true := decide_eq_true c13; clear c13
          by_cases c14 : x6_1 < (l1_0.length : Int)
          ·rw [if_pos c14] at H
           have c14b0 : decide (x6_1 < (l1_0.length : Int)) = true := decide_eq_true c14; clear c14
           by_cases c15 : x8_2 < ((rd_L3 l1_0 x6_1).length : Int)
           ·rw [if_pos c15] at H
            have c15b0 : decide (x8_2 < ((rd_L3 l1_0 x6_1).length : Int)) = true := decide_eq_true c15; clear c15
            by_cases c16 : 0 ≤ x8_2
            ·rw [if_pos c16] at H
             have c16b0 : decide (0 ≤ x8_2) = true := decide_eq_true c16; clear c16
             by_cases c17 : 0 ≤ (rd (rd_L3 l1_0 x6_1) x8_2)
             ·rw [if_pos c17] at H
              have c17b0 : decide (0 ≤ (rd (rd_L3 l1_0 x6_1) x8_2)) = true := decide_eq_true c17; clear c17
              by_cases c18 : (rd (rd_L3 l1_0 x6_1) x8_2) < (x7_2.length : Int)
              ·rw [if_pos c18] at H
               have c18b0 : decide ((rd (rd_L3 l1_0 x6_1) x8_2) < (x7_2.length : Int)) = true := decide_eq_true c18; clear c18; obtain ⟨y139, hy139⟩ : ∃ y_ : List Bool, y_ = (x7_2.set ((rd (rd_L3 l1_0 x6_1) x8_2) : Int).toNat true) := ⟨_, rfl⟩
               replace H : (spec_l6Marks.l1 k2 l0 x5_1 x6_1 y139 (wrap64 (x8_2 + 1)) l1_0) = some r := by first | (rw [hy139]; with_reducible exact H) | (have H2_ := (Option.bind_some _ _).symm.trans H; rw [hy139]; with_reducible exact H2_) | (have H2_ := (Option.bind_some _ _).symm.trans H; with_reducible exact H2_) | with_reducible exact H | (rw [hy139]; exact H) | exact H
               have Ny139 := Aside0.mk hy139; clear hy139; have H' := Aside0.mk H; clear H; have hcz20_0 : wr.cell? ⟨gb128, 0, none⟩ = some (.slice A1_0 l1_0.length c1_0) := (blk_cell BK128.out 0).trans rfl; have hfz20_0 := blk_frozen BK128.out 0; have p136 : 0 ≤ (x6_1 : Int) := ode; have q136 : x6_1 < (l1_0.length : Int) := ode; obtain ⟨ad136, A136_0, c136_0, e136, hx136_0, hl136_0, hi136_0⟩ := at_L3 HR1_0.out x6_1 p136 q136
               cases e136
               replace hx136_0 := cl HB hx136_0; have HR136_0 := Aside0.mk hi136_0; have HC136_0 := Aside0.mk hl136_0; clear hi136_0 hl136_0; replace p136 := eq_true p136; replace q136 := eq_true q136; have p137 : 0 ≤ (x6_1 : Int) := ode; have q137 : x6_1 < (l1_0.length : Int) := ode; obtain ⟨ad137, A137_0, c137_0, e137, hx137_0, hl137_0, hi137_0⟩ := at_L3 HR1_0.out x6_1 p137 q137; obtain rfl : ad136 = ad137 := (by injection e137); replace hx137_0 := cl HB hx137_0; have HR137_0 := Aside0.mk hi137_0; have HC137_0 := Aside0.mk hl137_0; clear hi137_0 hl137_0; replace p137 := eq_true p137; replace q137 := eq_true q137; have ea_ := Option.some.inj (hx136_0.symm.trans hx137_0)
               injection ea_ with ea_ en_ ec_
               subst ea_
               subst ec_
               clear en_; have p138 : 0 ≤ (x8_2 : Int) := ode; have q138 : x8_2 < ((rd_L3 l1_0 x6_1).length : Int) := ode; obtain ⟨ad138, e138, hx138_0⟩ := Kd.at_int HR137_0.out x8_2 p138 q138
               cases e138
               replace hx138_0 := cl HB hx138_0; replace p138 := eq_true p138; replace q138 := eq_true q138; have p19 : 0 ≤ ((rd (rd_L3 l1_0 x6_1) x8_2) : Int) := ode; have q19 : ((rd (rd_L3 l1_0 x6_1) x8_2) : Int) < ((x7_2.length : Int) : Int) := ode; obtain ⟨go19, co19, eo19, gb19, gl19, cl19, HG19⟩ := Kd.R_form HO_7.out (by omega)
               (first | cases eo19 | (injection eo19 with ea_ en_ ec_; (first | subst ea_ | (injection ea_ with ea_; subst ea_)); subst ec_; clear en_))
               have GB19 := Aside0.mk gb19; have GG19 := Aside0.mk HG19; clear gb19 gl19 HG19; obtain ⟨hx19_0, hf19_0⟩ := Kd.R_celln false HO_7.out ((rd (rd_L3 l1_0 x6_1) x8_2) : Int) p19 q19; replace p19 := eq_true p19; replace q19 := eq_true q19; have HP21 := Kd.R_putg HO_7.out ((rd (rd_L3 l1_0 x6_1) x8_2) : Int) true
               go_wp2_with (first | ((with_reducible refine gate_store (t := 4) (p := 42) rfl ?_); refine store_event (t := 4) (p := 42) (v := ?vo_w22) (w1 := (wr.setCell ⟨go19, ((rd (rd_L3 l1_0 x6_1) x8_2) : Int).toNat, none⟩ (.bool true))) ?hg ?ho ?hn ?hr ?_; (case ho => rfl); (case hg => rfl); (case hn => rfl); (case hr => first | (go_simp; done) | (go_simp; rfl) | ((try (obtain ⟨_, _, e_⟩ := Kd.S_slice HO_5.out; subst e_)); (try (obtain ⟨_, _, e_⟩ := Kd.R_slice HO_7.out; subst e_)); first | (go_simp; done) | (go_simp; rfl))); intro w22 hw; have hg : wr.grownBy w22 (some go19) := (by rw [hw]; exact HP21.2); have hp_ : Kd.R Kd.bool 4 w22 w.heap.size (fun _ => True) (.slice (some ⟨go19, 0, none⟩) x7_2.length co19) y139 := (by rw [hw, Ny139.out]; exact HP21.1); clear HP21; have n0_ := Aside0.mk (Kd.S_after (v := (.slice (some ⟨go19, 0, none⟩) x7_2.length co19)) (v1 := (.slice (some ⟨go19, 0, none⟩) x7_2.length co19)) (ok := (fun _ => True)) (by (with_reducible repeat (first | apply Kd.S_alloc | apply Kd.S_drewN | apply Kd.S_drew)); exact Kd.S_mono HO_5.out (fun _ hk => ⟨trivial, hk⟩)) hg (.inl rfl)); have n1_ := Aside0.mk (hp_); have n2_ := Aside0.mk (blk_grown (g := gb128) (o := .cells #[.slice (some ad136) l1_0.length c1_0] 44 (0, 0)) (bk BK128) hg (Kd.R_ne HO_7.out BK128.out (by decide))); have n3_ := Aside0.mk ((by rw [hw]; exact below_set (HB.out) GB19.out : Below w.heap.size w w22)); clear HO_5; clear HO_7; clear BK128; clear HB; have HO_5 := n0_; have HO_7 := n1_; have BK128 := n2_; have HB := n3_; clear n0_ n1_ n2_ n3_; clear hg hw hp_))
               go_roundg k2
               case measure => have := HK1.out; have := HK2.out; omega
               case rel => exact ⟨(y139), (wrap64 (x8_2 + 1)), au, H', ⟨by have := HK1.out; have := HK2.out; omega⟩, ⟨by (with_reducible repeat (first | apply Kd.S_alloc | apply Kd.S_drewN | apply Kd.S_drew)); exact Kd.S_mono HO_5.out (fun _ hk => hk.2)⟩, ⟨rl HO_7⟩, ⟨bk BK128⟩, ⟨bs HB GE128⟩⟩
              ·rw [if_neg c18] at H
               exact absurd H (by simp)
             ·rw [if_neg c17] at H
              exact absurd H (by simp)
            ·rw [if_neg c16] at H
             exact absurd H (by simp)
           ·rw [if_neg c15] at H
            have c15b0 : decide (x8_2 < ((rd_L3 l1_0 x6_1).length : Int)) = false := decide_eq_false c15; clear c15
            by_cases c23 : x5_1.length < 5864062014805
            ·rw [if_pos c23] at H
             have LMc23 := Aside0.mk c23; clear c23; obtain ⟨y140, hy140⟩ : ∃ y_ : List (List Bool), y_ = (x5_1 ++ [x7_2]) := ⟨_, rfl⟩
             replace H : (spec_l6Marks.l0 k2 l0 y140 (wrap64 (x6_1 + 1)) l1_0) = some r := by first | (rw [hy140]; with_reducible exact H) | (have H2_ := (Option.bind_some _ _).symm.trans H; rw [hy140]; with_reducible exact H2_) | (have H2_ := (Option.bind_some _ _).symm.trans H; with_reducible exact H2_) | with_reducible exact H | (rw [hy140]; exact H) | exact H
             have Ny140 := Aside0.mk hy140; clear hy140; have H' := Aside0.mk H; clear H; have hcz24_0 : wr.cell? ⟨gb128, 0, none⟩ = some (.slice A1_0 l1_0.length c1_0) := (blk_cell BK128.out 0).trans rfl; have hfz24_0 := blk_frozen BK128.out 0; have p136 : 0 ≤ (x6_1 : Int) := ode; have q136 : x6_1 < (l1_0.length : Int) := ode; obtain ⟨ad136, A136_0, c136_0, e136, hx136_0, hl136_0, hi136_0⟩ := at_L3 HR1_0.out x6_1 p136 q136
             cases e136
             replace hx136_0 := cl HB hx136_0; have HR136_0 := Aside0.mk hi136_0; have HC136_0 := Aside0.mk hl136_0; clear hi136_0 hl136_0; replace p136 := eq_true p136; replace q136 := eq_true q136; obtain ⟨Ao26, co26, eo26⟩ := Kd.R_slice HO_7.out
             subst eo26
             go_wp2_with (first | ((with_reducible refine gate_builtin (b := .append) (xs := #[.tmp 43, .tmp 45]) rfl ?_); at_builtin; refine Kd.S_append (Kd.slice 4 Kd.bool) (w0 := w) w.heap.size rfl (.tmp 43) (.tmp 45) 88 76 (.slice none 0 0) 24 rfl Try.underlying88 info76 rfl (by decide) (by omega) u5 x5_1 x7_2 [.slice Ao26 x7_2.length co26] (fun _ => True) (fun k_ => some k_ = (.slice Ao26 x7_2.length co26 : Value).ownBlock) rfl rfl ?aP (fun k_ hk_ => ((Kd.R_mono (ok' := fun k_ => ((fun _ => True)) k_ ∧ some k_ ≠ (u5 : Value).ownBlock) (Kd.R_apart' (HO_7.out) (Kd.S_typed HO_5.out) (by decide)) (fun k_ hk => ⟨trivial, hk.2⟩))).1 k_ hk_.symm) ?aF ?aO ?aB ?aS ?aL ?_; (case aP => exact Kd.M_row (Kd.R_mono (Kd.R_tight rfl (Kd.R_mono (ok' := fun k_ => ((fun _ => True)) k_ ∧ some k_ ≠ (u5 : Value).ownBlock) (Kd.R_apart' (HO_7.out) (Kd.S_typed HO_5.out) (by decide)) (fun k_ hk => ⟨trivial, hk.2⟩))) (fun _ h_ => h_))); (case aB => exact (bs HB GE128)); (case aF => exact (fun _ _ => trivial)); (case aO => exact (by (with_reducible repeat (first | apply Kd.S_alloc | apply Kd.S_drewN | apply Kd.S_drew)); exact Kd.S_mono HO_5.out (fun k_ hk => ⟨trivial, fun e_ => hk e_⟩))); (case aS => exact (below_size (bs HB GE128))); (case aL => have := LMc23.out; omega); intro v141 w25 ho hb hg hat; rw [← Ny140.out] at ho; have n0_ := Aside0.mk (blk_grown (g := gb128) (o := .cells #[.slice (some ad136) l1_0.length c1_0] 44 (0, 0)) (bk BK128) hg (Kd.S_ne HO_5.out BK128.out (by decide))); have n1_ := Aside0.mk (hb); have n2_ := Aside0.mk (ho); clear BK128; clear HB; clear HO_5; clear HO_7; have BK128 := n0_; have HB := n1_; have HO142 := n2_; clear n0_ n1_ n2_; clear ho hb hg hat))
             go_roundg k2
             case measure => have := HK1.out; have := HK2.out; omega
             case rel => exact ⟨(y140), (wrap64 (x6_1 + 1)), au, H', ⟨by have := HK1.out; have := HK2.out; omega⟩, ⟨sl HO142⟩, ⟨bk BK128⟩, ⟨bs HB GE128⟩⟩
            ·rw [if_neg c23] at H
             exact absurd H (by simp)
          ·rw [if_neg c14] at H
           exact absurd H (by simp)
         ·rw [if_neg c13] at H
          exact absurd H (by simp)
      ·rw [if_neg c10] at H
       exact absurd H (by simp)
     ·rw [if_neg c9] at H
      exact absurd H (by simp)
    ·rw [if_neg c7] at H
     exact absurd H (by simp)
   ·rw [if_neg c6] at H
    have c6b0 : decide (x6_1 < (l0.length : Int)) = false := decide_eq_false c6; clear c6; obtain rfl := Option.some.inj H
    go_wp2
    go_ret
    exact ⟨_, by first | rfl | (simp [errW_none, errW_some] <;> rfl) | (simp [*, errW_none, errW_some] <;> rfl), by (with_reducible repeat (first | apply Kd.S_alloc | apply Kd.S_drewN | apply Kd.S_drew)); exact HO_5.out, bs HB GE128⟩

/-! ### spec_l6Cuts: function 50 -/
mutual
def spec_l6Cuts.l0 : Nat → List (List Bool) → Int → List (List Int) → Option ((List (List Int)))
 | 0, _, _, _ => none
 | k + 1, x0, x4, x145000 => if x4 < (x0.length : Int) then (spec_l6Cuts.l1 k x0 x4 (([] : List Int)) 1 x145000) else (some x145000)
def spec_l6Cuts.l1 : Nat → List (List Bool) → Int → List Int → Int → List (List Int) → Option ((List (List Int)))
 | 0, _, _, _, _, _ => none
 | k + 1, x0, x4, x5, x6, x145000 => if 0 ≤ x4 then (if x4 < (x0.length : Int) then (if (wrap64 (x6 + 1)) < ((rd_L6 x0 x4).length : Int) then (if 0 ≤ x6 then (if x6 < ((rd_L6 x0 x4).length : Int) then (if rdOf false (rd_L6 x0 x4) x6 = true then (if x5.length < 17592186044416 then (spec_l6Cuts.l1 k x0 x4 (x5 ++ [x6]) (wrap64 (x6 + 1)) x145000) else (none)) else (spec_l6Cuts.l1 k x0 x4 x5 (wrap64 (x6 + 1)) x145000)) else (none)) else (none)) else (if x145000.length < 5864062014805 then (spec_l6Cuts.l0 k x0 (wrap64 (x4 + 1)) (x145000 ++ [x5])) else (none))) else (none)) else (none)
end
def spec_l6Cuts.f (k : Nat) (l0 : List (List Bool)) : Option ((List (List Int))) := spec_l6Cuts.l0 k l0 0 ([] : List (List Int))
set_option maxHeartbeats 8000000 in
set_option maxRecDepth 100000 in
theorem spec_l6Cuts.calls (k : Nat) (A0 : Option Addr) (c0 : Nat) (l0 : List (List Bool)) (r : List (List Int)) (w : World) (hr0 : Kd.C (Kd.slice 4 Kd.bool) w A0 l0.length l0) (hc0 : l0.length ≤ c0) (h : spec_l6Cuts.f k l0 = some r) :
  Calls Try.prog 50 #[.slice A0 l0.length c0] w fun e w' => ∃ v0_ : Value, e = .returned (.agg #[v0_]) ∧ Kd.S (Kd.slice 2 (Kd.int .i64)) 26 w' w.heap.size (fun _ => True) v0_ r ∧ Below w.heap.size w w' := by
 have hu44 := Try.underlying44; have HR0 := Aside0.mk hr0; have HC0 := Aside0.mk hc0; clear hr0 hc0; have HB := Aside0.mk (Below.refl w.heap.size w); have H : (spec_l6Cuts.l0 k l0 0 ([] : List (List Int))) = some r := h; clear h; have H' := Aside0.mk H; clear H
 go_enter Try.func50, Try.ntmps50
 go_wp2_with (first | ((with_reducible refine gate_dst (N := 2) rfl ?_); refine be 2 #[.slice none 0 0] 44 ?_; intro gb143 hg w2 hbox hb; have n0_ := Aside0.mk (below_step (bl HB) hb); have n1_ := Aside0.mk (hbox); have n2_ := Aside0.mk (gs HB hg); have n3_ := Aside0.mk (gs HB hg); clear HB; have HB := n0_; have BK143 := n1_; have GW143 := n2_; have GE143 := n3_; clear n0_ n1_ n2_ n3_; clear hb hbox hg) | ((with_reducible refine gate_dst (N := 3) rfl ?_); refine be 3 #[.slice none 0 0] 44 ?_; intro gb144 hg w3 hbox hb; have n0_ := Aside0.mk (blk_below (g := gb143) (o := .cells #[.slice none 0 0] 44 (0, 0)) (bk BK143) hb); have n1_ := Aside0.mk (below_step (bs HB GE143) hb); have n2_ := Aside0.mk (hbox); have n3_ := Aside0.mk ((by rw [hg]; exact (below_size (bs HB GE143)) : w.heap.size ≤ gb144)); have n4_ := Aside0.mk ((by rw [hg]; exact (below_size (bs HB GE143)) : w.heap.size ≤ gb144)); have n5_ := Aside0.mk ((by rw [hg]; exact Nat.ne_of_lt (blk_lt (g := gb143) (o := .cells #[.slice none 0 0] 44 (0, 0)) (bk BK143)) : gb143 ≠ gb144)); have n6_ := Aside0.mk ((by rw [hg]; exact Nat.ne_of_gt (blk_lt (g := gb143) (o := .cells #[.slice none 0 0] 44 (0, 0)) (bk BK143)) : gb144 ≠ gb143)); clear BK143; clear HB; have BK143 := n0_; have HB := n1_; have BK144 := n2_; have GW144 := n3_; have GE144 := n4_; have NB143_144 := n5_; have NB144_143 := n6_; clear n0_ n1_ n2_ n3_ n4_ n5_ n6_; clear hb hbox hg; have hnb4 := NB144_143.out; have hnc4 := NB143_144.out; have hcz5_0 : w3.cell? ⟨gb144, 0, none⟩ = some (.slice none 0 0) := (blk_cell BK144.out 0).trans rfl; have hfz5_0 := blk_frozen BK144.out 0))
 go_loopg [4] k (fun kq v4 w' => ∃ (x4_1 : Int) (x145000_1 : List (List Int)) (u145000 : Value), v4 = .int .i64 x4_1 ∧ Aside0 (spec_l6Cuts.l0 kq l0 x4_1 x145000_1 = some r) ∧ Aside0 (kq ≤ k) ∧ Aside0 (Kd.S (Kd.slice 2 (Kd.int .i64)) 26 w' w.heap.size (fun _ => True) u145000 x145000_1) ∧ Aside0 (w'.heap[gb143]? = some (.cells #[(.slice none 0 0)] 44 (0, 0))) ∧ Aside0 (w'.heap[gb144]? = some (.cells #[u145000] 44 (0, 0))) ∧ Aside0 (Below w.heap.size w w'))
 case atStart => exact ⟨(0), (([] : List (List Int))), (.slice none 0 0), au, H', ⟨Nat.le_refl _⟩, ⟨by first | exact Kd.S_nil _ _ _ _ _ | exact Kd.N_nil _ _ _ _ _ | exact Kd.V_nil _ _ _ _ _ | exact Kd.Q_nil _ _ _ _ _ | exact Kd.R_nil _ _ _ _ _⟩, ⟨by (with_reducible repeat (first | refine blk_drewN ?_ _ | refine blk_drew ?_ | refine blk_alloc ?_ _)); refine blk_far ?_ NB143_144.out _; (with_reducible repeat (first | refine blk_drewN ?_ _ | refine blk_drew ?_ | refine blk_alloc ?_ _)); exact BK143.out⟩, ⟨by refine bd ?_; refine blk_put (cs := #[.slice none 0 0]) ?_ 0 _ rfl; (with_reducible repeat (first | refine blk_drewN ?_ _ | refine blk_drew ?_ | refine blk_alloc ?_ _)); exact BK144.out⟩, ⟨bs2 HB GE143 GE144⟩⟩
 case round =>
  clear H'
  try clear p2
  try clear c4
  try clear c5
  try clear hcz5_0
  try clear hfz5_0
  obtain ⟨x4_1, x145000_1, u145000, rfl, HA, HK1, HO_145000, BK143, BK144, HB⟩ := hrel
  cases gk with
  | zero => exact absurd HA.out (by simp [spec_l6Cuts.l0])
  | succ k1 =>
   have H := HA.out; clear HA
   simp only [spec_l6Cuts.l0] at H
   by_cases c6 : x4_1 < (l0.length : Int)
   ·rw [if_pos c6] at H
    have c6b0 : decide (x4_1 < (l0.length : Int)) = true := decide_eq_true c6; clear c6; obtain ⟨y145, hy145⟩ : ∃ y_ : List Int, y_ = (([] : List Int)) := ⟨_, rfl⟩
    replace H : (spec_l6Cuts.l1 k1 l0 x4_1 y145 1 x145000_1) = some r := by first | (rw [hy145]; with_reducible exact H) | (have H2_ := (Option.bind_some _ _).symm.trans H; rw [hy145]; with_reducible exact H2_) | (have H2_ := (Option.bind_some _ _).symm.trans H; with_reducible exact H2_) | with_reducible exact H | (rw [hy145]; exact H) | exact H
    have Ny145 := Aside0.mk hy145; clear hy145; have H' := Aside0.mk H; clear H
    go_wp2_with (first | ((with_reducible refine gate_dst (N := 14) rfl ?_); refine Kd.R_lit (Kd.int .i64) _ 2 ?hg (N := 14) ?hd (xs := ([] : List Int)) (inner := []) (ok := fun _ => True) (okp := fun _ => True) ?hr ?hp (fun _ hk => hk) trivial (Below.refl _ _) (Nat.le_refl _) (by simp) ?_; (case hd => rfl); (case hg => rfl); (case hr => first | (go_simp; done) | (go_simp; rfl)); (case hp => exact (Reps.none _ _)); intro v146 w7 ho8 hb hg_ hnew_; clear hg_ hnew_; (first | rw [← Ny145.out] at ho8 | (simp only [Int.reduceToNat] at ho8; rw [← Ny145.out] at ho8)); have n0_ := Aside0.mk (Kd.S_elder' (sl HO_145000) (Kd.R_base ho8) hb); have n1_ := Aside0.mk (Kd.R_lower ho8 (below_size (bs2 HB GE143 GE144))); have n2_ := Aside0.mk (blk_below (g := gb143) (o := .cells #[.slice none 0 0] 44 (0, 0)) (bk BK143) hb); have n3_ := Aside0.mk (blk_below (g := gb144) (o := .cells #[u145000] 44 (0, 0)) (bk BK144) hb); have n4_ := Aside0.mk (below_step (bs2 HB GE143 GE144) hb); clear HO_145000; clear BK143; clear BK144; clear HB; have HO_145000 := n0_; have HO147 := n1_; have BK143 := n2_; have BK144 := n3_; have HB := n4_; clear n0_ n1_ n2_ n3_ n4_; clear hb ho8))
    go_loopg [5, 6] k1 (fun kq v5 v6 w' => ∃ (x5_2 : List Int) (x6_2 : Int), v6 = .int .i64 x6_2 ∧ Aside0 (spec_l6Cuts.l1 kq l0 x4_1 x5_2 x6_2 x145000_1 = some r) ∧ Aside0 (kq ≤ k1) ∧ Aside0 (Kd.R (Kd.int .i64) 2 w' w.heap.size (fun _ => True) v5 x5_2) ∧ Aside0 (Kd.S (Kd.slice 2 (Kd.int .i64)) 26 w' w.heap.size (fun k_ => some k_ ≠ (v5 : Value).ownBlock) u145000 x145000_1) ∧ Aside0 (w'.heap[gb143]? = some (.cells #[(.slice none 0 0)] 44 (0, 0))) ∧ Aside0 (w'.heap[gb144]? = some (.cells #[u145000] 44 (0, 0))) ∧ Aside0 (Below w.heap.size w w'))
    case atStart => exact ⟨(y145), (1), au, H', ⟨Nat.le_refl _⟩, ⟨rl HO147⟩, ⟨by (with_reducible repeat (first | apply Kd.S_alloc | apply Kd.S_drewN | apply Kd.S_drew)); exact Kd.S_mono HO_145000.out (fun _ hk => hk.2)⟩, ⟨bk BK143⟩, ⟨bk BK144⟩, ⟨bs2 HB GE143 GE144⟩⟩
    case round =>
     clear H'
     try clear p2
     try clear c4
     try clear c5
     try clear c6
     try clear c6b0
     try clear hcz5_0
     try clear hfz5_0
     try clear p2
     obtain ⟨x5_2, x6_2, rfl, HA, HK2, HO_5, HO_145000, BK143, BK144, HB⟩ := hrel
     cases gk with
     | zero => exact absurd HA.out (by simp [spec_l6Cuts.l1])
     | succ k2 =>
      have H := HA.out; clear HA
      simp only [spec_l6Cuts.l1] at H
      by_cases c9 : 0 ≤ x4_1
      ·rw [if_pos c9] at H
       have c9b0 : decide (0 ≤ x4_1) = true := decide_eq_true c9; clear c9
       by_cases c10 : x4_1 < (l0.length : Int)
       ·rw [if_pos c10] at H
        have c10b0 : decide (x4_1 < (l0.length : Int)) = true := decide_eq_true c10; clear c10
        by_cases c11 : (wrap64 (x6_2 + 1)) < ((rd_L6 l0 x4_1).length : Int)
        ·rw [if_pos c11] at H
         have c11b0 : decide ((wrap64 (x6_2 + 1)) < ((rd_L6 l0 x4_1).length : Int)) = true := decide_eq_true c11; clear c11
         by_cases c12 : 0 ≤ x6_2
         ·rw [if_pos c12] at H
          have c12b0 : decide (0 ≤ x6_2) = true := decide_eq_true c12; clear c12
          by_cases c13 : x6_2 < ((rd_L6 l0 x4_1).length : Int)
          ·rw [if_pos c13] at H
           have c13b0 : decide (x6_2 < ((rd_L6 l0 x4_1).length : Int)) = true := decide_eq_true c13; clear c13; obtain ⟨bq14, hbq14⟩ : ∃ b_ : Bool, b_ = (rdOf false (rd_L6 l0 x4_1) x6_2) := ⟨_, rfl⟩
           replace H : (if bq14 = true then (if x5_2.length < 17592186044416 then (spec_l6Cuts.l1 k2 l0 x4_1 (x5_2 ++ [x6_2]) (wrap64 (x6_2 + 1)) x145000_1) else (none)) else (spec_l6Cuts.l1 k2 l0 x4_1 x5_2 (wrap64 (x6_2 + 1)) x145000_1)) = some r := by rw [← hbq14] at H; exact H
           have Nbq14 := Aside0.mk hbq14; clear hbq14
           by_cases c15 : bq14 = true
           ·subst c15
            have H1 : (if x5_2.length < 17592186044416 then (spec_l6Cuts.l1 k2 l0 x4_1 (x5_2 ++ [x6_2]) (wrap64 (x6_2 + 1)) x145000_1) else (none)) = some r := by rw [if_pos rfl] at H; exact H
            clear H; have H := H1; clear H1
            by_cases c16 : x5_2.length < 17592186044416
            ·rw [if_pos c16] at H
             have LMc16 := Aside0.mk c16; clear c16; obtain ⟨y151, hy151⟩ : ∃ y_ : List Int, y_ = (x5_2 ++ [x6_2]) := ⟨_, rfl⟩
             replace H : (spec_l6Cuts.l1 k2 l0 x4_1 y151 (wrap64 (x6_2 + 1)) x145000_1) = some r := by first | (rw [hy151]; with_reducible exact H) | (have H2_ := (Option.bind_some _ _).symm.trans H; rw [hy151]; with_reducible exact H2_) | (have H2_ := (Option.bind_some _ _).symm.trans H; with_reducible exact H2_) | with_reducible exact H | (rw [hy151]; exact H) | exact H
             have Ny151 := Aside0.mk hy151; clear hy151; have H' := Aside0.mk H; clear H; have p148 : 0 ≤ (x4_1 : Int) := ode; have q148 : x4_1 < (l0.length : Int) := ode; obtain ⟨ad148, A148_0, c148_0, e148, hx148_0, hl148_0, hi148_0⟩ := at_L6 HR0.out x4_1 p148 q148
             cases e148
             replace hx148_0 := cl HB hx148_0; have HR148_0 := Aside0.mk hi148_0; have HC148_0 := Aside0.mk hl148_0; clear hi148_0 hl148_0; replace p148 := eq_true p148; replace q148 := eq_true q148; have p149 : 0 ≤ (x4_1 : Int) := ode; have q149 : x4_1 < (l0.length : Int) := ode; obtain ⟨ad149, A149_0, c149_0, e149, hx149_0, hl149_0, hi149_0⟩ := at_L6 HR0.out x4_1 p149 q149; obtain rfl : ad148 = ad149 := (by injection e149); replace hx149_0 := cl HB hx149_0; have HR149_0 := Aside0.mk hi149_0; have HC149_0 := Aside0.mk hl149_0; clear hi149_0 hl149_0; replace p149 := eq_true p149; replace q149 := eq_true q149; have ea_ := Option.some.inj (hx148_0.symm.trans hx149_0)
             injection ea_ with ea_ en_ ec_
             subst ea_
             subst ec_
             clear en_; have p150 : 0 ≤ (x6_2 : Int) := ode; have q150 : x6_2 < ((rd_L6 l0 x4_1).length : Int) := ode; obtain ⟨ad150, e150, hx150_0⟩ := Kd.at_bool HR149_0.out x6_2 p150 q150
             (try rw [← Nbq14.out] at hx150_0)
             cases e150
             replace hx150_0 := cl HB hx150_0; replace p150 := eq_true p150; replace q150 := eq_true q150
             go_wp2_with (first | ((with_reducible refine gate_builtin (b := .append) (xs := #[.tmp 32, .tmp 34]) rfl ?_); at_builtin; refine Kd.R_append (Kd.int .i64) (w0 := w) w.heap.size rfl (.tmp 32) (.tmp 34) 26 2 (.int .i64 0) 8 rfl Try.underlying26 info2 rfl (by decide) (by omega) u5 x5_2 x6_2 [.int .i64 x6_2] (fun _ => True) (fun _ => False) rfl rfl ?aP (fun _ hk => hk.elim) ?aF ?aO ?aB ?aS ?aL ?_; (case aP => exact rfl); (case aB => exact (bs2 HB GE143 GE144)); (case aF => exact (fun _ _ => trivial)); (case aO => exact (rl HO_5)); (case aS => exact (below_size (bs2 HB GE143 GE144))); (case aL => have := LMc16.out; omega); intro v152 w17 ho hb hg hat; rw [← Ny151.out] at ho; have n0_ := Aside0.mk (Kd.S_after (ok := (fun _ => True)) (by (with_reducible repeat (first | apply Kd.S_alloc | apply Kd.S_drewN | apply Kd.S_drew)); exact Kd.S_mono HO_145000.out (fun _ hk => ⟨trivial, hk⟩)) hg hat); have n1_ := Aside0.mk (blk_grown (g := gb143) (o := .cells #[.slice none 0 0] 44 (0, 0)) (bk BK143) hg (Kd.R_ne HO_5.out BK143.out (by decide))); have n2_ := Aside0.mk (blk_grown (g := gb144) (o := .cells #[u145000] 44 (0, 0)) (bk BK144) hg (Kd.R_ne HO_5.out BK144.out (by decide))); have n3_ := Aside0.mk (hb); have n4_ := Aside0.mk (ho); clear HO_145000; clear BK143; clear BK144; clear HB; clear HO_5; have HO_145000 := n0_; have BK143 := n1_; have BK144 := n2_; have HB := n3_; have HO153 := n4_; clear n0_ n1_ n2_ n3_ n4_; clear ho hb hg hat))
             go_roundg k2
             case measure => have := HK1.out; have := HK2.out; omega
             case rel => exact ⟨(y151), (wrap64 (x6_2 + 1)), au, H', ⟨by have := HK1.out; have := HK2.out; omega⟩, ⟨rl HO153⟩, ⟨by (with_reducible repeat (first | apply Kd.S_alloc | apply Kd.S_drewN | apply Kd.S_drew)); exact Kd.S_mono HO_145000.out (fun _ hk => hk.2)⟩, ⟨bk BK143⟩, ⟨bk BK144⟩, ⟨bs2 HB GE143 GE144⟩⟩
            ·rw [if_neg c16] at H
             exact absurd H (by simp)
           ·replace c15 := Bool.eq_false_iff.mpr c15
            subst c15
            have H1 : (spec_l6Cuts.l1 k2 l0 x4_1 x5_2 (wrap64 (x6_2 + 1)) x145000_1) = some r := by rw [if_neg (show ¬ (false = true) by decide)] at H; exact H
            clear H; have H := H1; clear H1; have H' := Aside0.mk H; clear H; have p148 : 0 ≤ (x4_1 : Int) := ode; have q148 : x4_1 < (l0.length : Int) := ode; obtain ⟨ad148, A148_0, c148_0, e148, hx148_0, hl148_0, hi148_0⟩ := at_L6 HR0.out x4_1 p148 q148
            cases e148
            replace hx148_0 := cl HB hx148_0; have HR148_0 := Aside0.mk hi148_0; have HC148_0 := Aside0.mk hl148_0; clear hi148_0 hl148_0; replace p148 := eq_true p148; replace q148 := eq_true q148; have p149 : 0 ≤ (x4_1 : Int) := ode; have q149 : x4_1 < (l0.length : Int) := ode; obtain ⟨ad149, A149_0, c149_0, e149, hx149_0, hl149_0, hi149_0⟩ := at_L6 HR0.out x4_1 p149 q149; obtain rfl : ad148 = ad149 := (by injection e149); replace hx149_0 := cl HB hx149_0; have HR149_0 := Aside0.mk hi149_0; have HC149_0 := Aside0.mk hl149_0; clear hi149_0 hl149_0; replace p149 := eq_true p149; replace q149 := eq_true q149; have ea_ := Option.some.inj (hx148_0.symm.trans hx149_0)
            injection ea_ with ea_ en_ ec_
            subst ea_
            subst ec_
            clear en_; have p150 : 0 ≤ (x6_2 : Int) := ode; have q150 : x6_2 < ((rd_L6 l0 x4_1).length : Int) := ode; obtain ⟨ad150, e150, hx150_0⟩ := Kd.at_bool HR149_0.out x6_2 p150 q150
            (try rw [← Nbq14.out] at hx150_0)
            cases e150
            replace hx150_0 := cl HB hx150_0; replace p150 := eq_true p150; replace q150 := eq_true q150
            go_wp2
            go_roundg k2
            case measure => have := HK1.out; have := HK2.out; omega
            case rel => exact ⟨(x5_2), (wrap64 (x6_2 + 1)), au, H', ⟨by have := HK1.out; have := HK2.out; omega⟩, ⟨rl HO_5⟩, ⟨sl HO_145000⟩, ⟨bk BK143⟩, ⟨bk BK144⟩, ⟨bs2 HB GE143 GE144⟩⟩
          ·rw [if_neg c13] at H
           exact absurd H (by simp)
         ·rw [if_neg c12] at H
          exact absurd H (by simp)
        ·rw [if_neg c11] at H
         have c11b0 : decide ((wrap64 (x6_2 + 1)) < ((rd_L6 l0 x4_1).length : Int)) = false := decide_eq_false c11; clear c11
         by_cases c18 : x145000_1.length < 5864062014805
         ·rw [if_pos c18] at H
          have LMc18 := Aside0.mk c18; clear c18; obtain ⟨y154, hy154⟩ : ∃ y_ : List (List Int), y_ = (x145000_1 ++ [x5_2]) := ⟨_, rfl⟩
          replace H : (spec_l6Cuts.l0 k2 l0 (wrap64 (x4_1 + 1)) y154) = some r := by first | (rw [hy154]; with_reducible exact H) | (have H2_ := (Option.bind_some _ _).symm.trans H; rw [hy154]; with_reducible exact H2_) | (have H2_ := (Option.bind_some _ _).symm.trans H; with_reducible exact H2_) | with_reducible exact H | (rw [hy154]; exact H) | exact H
          have Ny154 := Aside0.mk hy154; clear hy154; have H' := Aside0.mk H; clear H; have p148 : 0 ≤ (x4_1 : Int) := ode; have q148 : x4_1 < (l0.length : Int) := ode; obtain ⟨ad148, A148_0, c148_0, e148, hx148_0, hl148_0, hi148_0⟩ := at_L6 HR0.out x4_1 p148 q148
          cases e148
          replace hx148_0 := cl HB hx148_0; have HR148_0 := Aside0.mk hi148_0; have HC148_0 := Aside0.mk hl148_0; clear hi148_0 hl148_0; replace p148 := eq_true p148; replace q148 := eq_true q148; have hnb19 := NB144_143.out; have hnc19 := NB143_144.out; have hcz20_0 : wr.cell? ⟨gb144, 0, none⟩ = some (u145000) := (blk_cell BK144.out 0).trans rfl; have hfz20_0 := blk_frozen BK144.out 0; obtain ⟨Ao22, co22, eo22⟩ := Kd.R_slice HO_5.out
          subst eo22
          go_wp2_with (first | ((with_reducible refine gate_builtin (b := .append) (xs := #[.tmp 37, .tmp 39]) rfl ?_); at_builtin; refine Kd.S_append (Kd.slice 2 (Kd.int .i64)) (w0 := w) w.heap.size rfl (.tmp 37) (.tmp 39) 39 26 (.slice none 0 0) 24 rfl Try.underlying39 info26 rfl (by decide) (by omega) u145000 x145000_1 x5_2 [.slice Ao22 x5_2.length co22] (fun _ => True) (fun k_ => some k_ = (.slice Ao22 x5_2.length co22 : Value).ownBlock) rfl rfl ?aP (fun k_ hk_ => ((Kd.R_mono (ok' := fun k_ => ((fun _ => True)) k_ ∧ some k_ ≠ (u145000 : Value).ownBlock) (Kd.R_apart' (HO_5.out) (Kd.S_typed HO_145000.out) (by decide)) (fun k_ hk => ⟨trivial, hk.2⟩))).1 k_ hk_.symm) ?aF ?aO ?aB ?aS ?aL ?_; (case aP => exact Kd.M_row (Kd.R_mono (Kd.R_tight rfl (Kd.R_mono (ok' := fun k_ => ((fun _ => True)) k_ ∧ some k_ ≠ (u145000 : Value).ownBlock) (Kd.R_apart' (HO_5.out) (Kd.S_typed HO_145000.out) (by decide)) (fun k_ hk => ⟨trivial, hk.2⟩))) (fun _ h_ => h_))); (case aB => exact (bs2 HB GE143 GE144)); (case aF => exact (fun _ _ => trivial)); (case aO => exact (by (with_reducible repeat (first | apply Kd.S_alloc | apply Kd.S_drewN | apply Kd.S_drew)); exact Kd.S_mono HO_145000.out (fun k_ hk => ⟨trivial, fun e_ => hk e_⟩))); (case aS => exact (below_size (bs2 HB GE143 GE144))); (case aL => have := LMc18.out; omega); intro v155 w21 ho hb hg hat; rw [← Ny154.out] at ho; have n0_ := Aside0.mk (blk_grown (g := gb143) (o := .cells #[.slice none 0 0] 44 (0, 0)) (bk BK143) hg (Kd.S_ne HO_145000.out BK143.out (by decide))); have n1_ := Aside0.mk (blk_grown (g := gb144) (o := .cells #[u145000] 44 (0, 0)) (bk BK144) hg (Kd.S_ne HO_145000.out BK144.out (by decide))); have n2_ := Aside0.mk (hb); have n3_ := Aside0.mk (ho); clear BK143; clear BK144; clear HB; clear HO_145000; clear HO_5; have BK143 := n0_; have BK144 := n1_; have HB := n2_; have HO156 := n3_; clear n0_ n1_ n2_ n3_; clear ho hb hg hat; obtain ⟨Ao23, co23, eo23⟩ := Kd.S_slice HO156.out; subst eo23; have hcz24_0 : w21.cell? ⟨gb144, 0, none⟩ = some (u145000) := (blk_cell BK144.out 0).trans rfl; have hfz24_0 := blk_frozen BK144.out 0))
          go_roundg k2
          case measure => have := HK1.out; have := HK2.out; omega
          case rel => exact ⟨(wrap64 (x4_1 + 1)), (y154), (.slice Ao23 y154.length co23), au, H', ⟨by have := HK1.out; have := HK2.out; omega⟩, ⟨by (with_reducible repeat (first | apply Kd.S_alloc | apply Kd.S_drewN | apply Kd.S_drew)); exact Kd.S_mono (Kd.S_far (p := ⟨gb144, 0, none⟩) (Kd.S_types HO156.out BK144.out (by decide)) (fun _ hk => hk.2) (.slice Ao23 y154.length co23)) (fun _ hk => trivial)⟩, ⟨by (with_reducible repeat (first | refine blk_drewN ?_ _ | refine blk_drew ?_ | refine blk_alloc ?_ _)); refine blk_far ?_ NB143_144.out _; (with_reducible repeat (first | refine blk_drewN ?_ _ | refine blk_drew ?_ | refine blk_alloc ?_ _)); exact BK143.out⟩, ⟨by refine bd ?_; refine blk_put (cs := #[u145000]) ?_ 0 _ rfl; (with_reducible repeat (first | refine blk_drewN ?_ _ | refine blk_drew ?_ | refine blk_alloc ?_ _)); exact BK144.out⟩, ⟨bs2 HB GE143 GE144⟩⟩
         ·rw [if_neg c18] at H
          exact absurd H (by simp)
       ·rw [if_neg c10] at H
        exact absurd H (by simp)
      ·rw [if_neg c9] at H
       exact absurd H (by simp)
   ·rw [if_neg c6] at H
    have c6b0 : decide (x4_1 < (l0.length : Int)) = false := decide_eq_false c6; clear c6; obtain rfl := Option.some.inj H; have hnb25 := NB144_143.out; have hnc25 := NB143_144.out; have hcz26_0 : wr.cell? ⟨gb144, 0, none⟩ = some (u145000) := (blk_cell BK144.out 0).trans rfl; have hfz26_0 := blk_frozen BK144.out 0; obtain ⟨Ao27, co27, eo27⟩ := Kd.S_slice HO_145000.out
    subst eo27
    have hcz28_0 : wr.cell? ⟨gb143, 0, none⟩ = some (.slice none 0 0) := (blk_cell BK143.out 0).trans rfl; have hfz28_0 := blk_frozen BK143.out 0
    go_wp2
    refine bodyPost_ret (results_cell_row rfl _ _ gb143 44 #[.slice Ao27 x145000_1.length co27] (0, 0) _ rfl (by refine bd ?_; refine blk_put (cs := #[.slice none 0 0]) ?_ 0 _ rfl; (with_reducible repeat (first | refine blk_drewN ?_ _ | refine blk_drew ?_ | refine blk_alloc ?_ _)); exact BK143.out) Try.underlying44 rfl (by kernel_rfl)) rfl ?_
    exact ⟨_, by first | rfl | (simp [errW_none, errW_some] <;> rfl) | (simp [*, errW_none, errW_some] <;> rfl), by (with_reducible repeat (first | apply Kd.S_alloc | apply Kd.S_drewN | apply Kd.S_drew)); exact Kd.S_mono (Kd.S_far (p := ⟨gb143, 0, none⟩) (Kd.S_types HO_145000.out BK143.out (by decide)) (fun _ hk => hk.2) (.slice Ao27 x145000_1.length co27)) (fun _ hk => trivial), bs2 HB GE143 GE144⟩

end Go.Proofs.Ytonkicgdgpcneaa.PFnExactAddCuts
