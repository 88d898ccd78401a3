-- Written by a program of this session (a turned copy of the kit's printer); Lean checks it.
-- half the depth
import Derived.Test.YtonkicgdgpcneaaPFnSlicesx0
import Derived.Test.YtonkicgdgpcneaaPFnSlicesx5
import Derived.Test.YtonkicgdgpcneaaPFnSlicesx7
namespace Go.Proofs.Ytonkicgdgpcneaa.PFnSlices
open Go.RowKit Go.Proofs.YtonkicgdgpcneaaW.PrintWords Go.Proofs.YtonkicgdgpcneaaW.PrintLast Go.Proofs.YtonkicgdgpcneaaW.PrintMore
attribute [local go_sem] max2_int min2_int max_two min_two max_three min_three max_four min_four   -- for this text's walks alone
set_option linter.unusedVariables false
set_option linter.unusedSimpArgs false

/-! ### spec_Gauge: function 30 -/
def spec_Gauge.l0 : Nat → Int → Int → List (List Int) → Option (Int)
 | 0, _, _, _ => none
 | k + 1, x5, x6, x218000 => if x6 < (x218000.length : Int) then (if 0 ≤ x6 then (spec_Gauge.l0 k (wrap64 (x5 + ((rd_L4 x218000 x6).length : Int))) (wrap64 (x6 + 1)) x218000) else (none)) else (some x5)
def spec_Gauge.f (k : Nat) (l0 : List (S63)) (l1_0 : List (List Int)) : Option (Int) := (spec_CutsOk.f k l0 l1_0).bind fun t218 => (if t218 = true then (spec_Gauge.l0 k (l0.length : Int) 0 l1_0) else (some (-1)))
set_option maxHeartbeats 8000000 in
set_option maxRecDepth 100000 in
theorem spec_Gauge.calls (k : Nat) (A0 : Option Addr) (c0 : Nat) (l0 : List (S63)) (A1_0 : Option Addr) (c1_0 : Nat) (l1_0 : List (List Int)) (r : Int) (w : World) (hr0 : Kd.C k63 w A0 l0.length l0) (hc0 : l0.length ≤ c0) (hr1_0 : Kd.C (Kd.slice 2 (Kd.int .i64)) w A1_0 l1_0.length l1_0) (hc1_0 : l1_0.length ≤ c1_0) (h : spec_Gauge.f k l0 l1_0 = some r) :
  Calls Try.prog 30 #[.slice A0 l0.length c0, .agg #[.slice A1_0 l1_0.length c1_0]] w fun e w' => e = .returned (.int .i64 r) ∧ Below w.heap.size w w' := by
 have hu44 := Try.underlying44; have HR0 := Aside0.mk hr0; have HC0 := Aside0.mk hc0; clear hr0 hc0; have HR1_0 := Aside0.mk hr1_0; have HC1_0 := Aside0.mk hc1_0; clear hr1_0 hc1_0; have HB := Aside0.mk (Below.refl w.heap.size w); have H : ((spec_CutsOk.f k l0 l1_0).bind fun t218 => (if t218 = true then (spec_Gauge.l0 k (l0.length : Int) 0 l1_0) else (some (-1)))) = some r := h; clear h; replace H := Option.bind_eq_some_iff.mp H; obtain ⟨t218, A30, H⟩ := H; replace H : (if t218 = true then (spec_Gauge.l0 k (l0.length : Int) 0 l1_0) else (some (-1))) = some r := H; have A3 := Aside0.mk A30; clear A30
 by_cases c4 : t218 = true
 ·subst c4
  have H1 : (spec_Gauge.l0 k (l0.length : Int) 0 l1_0) = some r := by rw [if_pos rfl] at H; exact H
  clear H; have H := H1; clear H1; have H' := Aside0.mk H; clear H
  go_enter Try.func30, Try.ntmps30
  go_wp2_with (first | ((with_reducible refine gate_dst (N := 3) rfl ?_); refine be 3 #[.slice A1_0 l1_0.length c1_0] 44 ?_; intro gb217 hg w5 hbox hb; have n0_ := Aside0.mk (below_step (bl HB) hb); have n1_ := Aside0.mk (hbox); have n2_ := Aside0.mk (gs HB hg); have n3_ := Aside0.mk (gs HB hg); clear HB; have HB := n0_; have BK217 := n1_; have GW217 := n2_; have GE217 := n3_; clear n0_ n1_ n2_ n3_; clear hb hbox hg; have hcz6_0 : w5.cell? ⟨gb217, 0, none⟩ = some (.slice A1_0 l1_0.length c1_0) := (blk_cell BK217.out 0).trans rfl; have hfz6_0 := blk_frozen BK217.out 0) | ((with_reducible refine gate_callee (f := 48) rfl ?_); refine goesL_ (some 9) rfl rfl Try.func48 (by kernel_rfl) rfl #[.slice A0 l0.length c0, .agg #[.slice A1_0 l1_0.length c1_0]] rfl ma ?_; (with_reducible refine (spec_CutsOk.calls k _ _ l0 _ _ l1_0 true _ ?side1 ?side2 ?side3 ?side4 A3.out).mono ?_); (case side1 => exact rc HR0 HB); (case side2 => exact HC0.out); (case side3 => exact rc HR1_0 HB); (case side4 => exact HC1_0.out); rintro e w7 ⟨rfl, hb⟩; refine ⟨_, rfl, ?_⟩; have n0_ := Aside0.mk (blk_below (g := gb217) (o := .cells #[.slice A1_0 l1_0.length c1_0] 44 (0, 0)) (bk BK217) hb); have n1_ := Aside0.mk (below_step (bs HB GE217) hb); clear BK217; clear HB; have BK217 := n0_; have HB := n1_; clear n0_ n1_; (try clear hb); (try clear hb2); (try clear hk); (try clear hi)))
  go_loopg [5, 6] k (fun kq v5 v6 w' => ∃ (x5_1 : Int) (x6_1 : Int), v5 = .int .i64 x5_1 ∧ v6 = .int .i64 x6_1 ∧ Aside0 (spec_Gauge.l0 kq x5_1 x6_1 l1_0 = some r) ∧ Aside0 (kq ≤ k) ∧ Aside0 (w'.heap[gb217]? = some (.cells #[(.slice A1_0 l1_0.length c1_0)] 44 (0, 0))) ∧ Aside0 (Below w.heap.size w w'))
  case atStart => exact ⟨((l0.length : Int)), (0), au, au, H', ⟨Nat.le_refl _⟩, ⟨bk BK217⟩, ⟨bs HB GE217⟩⟩
  case round =>
   clear H'
   try clear c1
   try clear p2
   try clear c3
   try clear c4
   try clear hcz6_0
   try clear hfz6_0
   obtain ⟨x5_1, x6_1, rfl, rfl, HA, HK1, BK217, HB⟩ := hrel
   cases gk with
   | zero => exact absurd HA.out (by simp [spec_Gauge.l0])
   | succ k1 =>
    have H := HA.out; clear HA
    simp only [spec_Gauge.l0] at H
    by_cases c8 : x6_1 < (l1_0.length : Int)
    ·rw [if_pos c8] at H
     have c8b0 : decide (x6_1 < (l1_0.length : Int)) = true := decide_eq_true c8; clear c8
     by_cases c9 : 0 ≤ x6_1
     ·rw [if_pos c9] at H
      have c9b0 : decide (0 ≤ x6_1) = true := decide_eq_true c9; clear c9; have H' := Aside0.mk H; clear H; have hcz10_0 : wr.cell? ⟨gb217, 0, none⟩ = some (.slice A1_0 l1_0.length c1_0) := (blk_cell BK217.out 0).trans rfl; have hfz10_0 := blk_frozen BK217.out 0; have p219 : 0 ≤ (x6_1 : Int) := ode; have q219 : x6_1 < (l1_0.length : Int) := ode; obtain ⟨ad219, A219_0, c219_0, e219, hx219_0, hl219_0, hi219_0⟩ := at_L4 HR1_0.out x6_1 p219 q219
      cases e219
      replace hx219_0 := cl HB hx219_0; have HR219_0 := Aside0.mk hi219_0; have HC219_0 := Aside0.mk hl219_0; clear hi219_0 hl219_0; replace p219 := eq_true p219; replace q219 := eq_true q219
      go_wp2
      go_roundg k1
      case measure => have := HK1.out; omega
      case rel => exact ⟨(wrap64 (x5_1 + ((rd_L4 l1_0 x6_1).length : Int))), (wrap64 (x6_1 + 1)), au, au, H', ⟨by have := HK1.out; omega⟩, ⟨bk BK217⟩, ⟨bs HB GE217⟩⟩
     ·rw [if_neg c9] at H
      exact absurd H (by simp)
    ·rw [if_neg c8] at H
     have c8b0 : decide (x6_1 < (l1_0.length : Int)) = false := decide_eq_false c8; clear c8; obtain rfl := Option.some.inj H; have hcz11_0 : wr.cell? ⟨gb217, 0, none⟩ = some (.slice A1_0 l1_0.length c1_0) := (blk_cell BK217.out 0).trans rfl; have hfz11_0 := blk_frozen BK217.out 0
     go_wp2
     go_ret
     exact ⟨by first | rfl | (simp [errW_none, errW_some] <;> rfl) | (simp [*, errW_none, errW_some] <;> rfl), bs HB GE217⟩
 ·replace c4 := Bool.eq_false_iff.mpr c4
  subst c4
  have H1 : (some (-1)) = some r := by rw [if_neg (show ¬ (false = true) by decide)] at H; exact H
  clear H; have H := H1; clear H1; obtain rfl := Option.some.inj H
  go_enter Try.func30, Try.ntmps30
  go_wp2_with (first | ((with_reducible refine gate_dst (N := 3) rfl ?_); refine be 3 #[.slice A1_0 l1_0.length c1_0] 44 ?_; intro gb217 hg w12 hbox hb; have n0_ := Aside0.mk (below_step (bl HB) hb); have n1_ := Aside0.mk (hbox); have n2_ := Aside0.mk (gs HB hg); have n3_ := Aside0.mk (gs HB hg); clear HB; have HB := n0_; have BK217 := n1_; have GW217 := n2_; have GE217 := n3_; clear n0_ n1_ n2_ n3_; clear hb hbox hg; have hcz13_0 : w12.cell? ⟨gb217, 0, none⟩ = some (.slice A1_0 l1_0.length c1_0) := (blk_cell BK217.out 0).trans rfl; have hfz13_0 := blk_frozen BK217.out 0) | ((with_reducible refine gate_callee (f := 48) rfl ?_); refine goesL_ (some 9) rfl rfl Try.func48 (by kernel_rfl) rfl #[.slice A0 l0.length c0, .agg #[.slice A1_0 l1_0.length c1_0]] rfl ma ?_; (with_reducible refine (spec_CutsOk.calls k _ _ l0 _ _ l1_0 false _ ?side1 ?side2 ?side3 ?side4 A3.out).mono ?_); (case side1 => exact rc HR0 HB); (case side2 => exact HC0.out); (case side3 => exact rc HR1_0 HB); (case side4 => exact HC1_0.out); rintro e w14 ⟨rfl, hb⟩; refine ⟨_, rfl, ?_⟩; have n0_ := Aside0.mk (blk_below (g := gb217) (o := .cells #[.slice A1_0 l1_0.length c1_0] 44 (0, 0)) (bk BK217) hb); have n1_ := Aside0.mk (below_step (bs HB GE217) hb); clear BK217; clear HB; have BK217 := n0_; have HB := n1_; clear n0_ n1_; (try clear hb); (try clear hb2); (try clear hk); (try clear hi)))
  go_ret
  exact ⟨by first | rfl | (simp [errW_none, errW_some] <;> rfl) | (simp [*, errW_none, errW_some] <;> rfl), bs HB GE217⟩

/-! ### slices_Clone_int64_int64: function 83 -/

def slices_Clone_int64_int64.f (l0 : List Int) : Option (List Int) := if l0.length ≤ 1099511627776 then some l0 else none
set_option maxHeartbeats 8000000 in
set_option maxRecDepth 100000 in
theorem slices_Clone_int64_int64.calls (A0 : Option Addr) (c0 : Nat) (l0 : List Int) (r : List Int) (w : World) (hr0 : Kd.C (Kd.int .i64) w A0 l0.length l0) (hc0 : l0.length ≤ c0) (h : slices_Clone_int64_int64.f l0 = some r) :
  Calls Try.prog 83 #[.slice A0 l0.length c0] w fun e w' => ∃ v0_ : Value, e = .returned (v0_) ∧ Kd.R (Kd.int .i64) 2 w' w.heap.size (fun _ => True) v0_ r ∧ Below w.heap.size w w' := by

 have HR := Aside0.mk hr0; have HC := Aside0.mk hc0; clear hr0 hc0
 unfold slices_Clone_int64_int64.f at h
 by_cases hlen : l0.length ≤ 1099511627776
 ·rw [if_pos hlen] at h
  obtain rfl := Option.some.inj h; clear h
  have q22 : ∀ (w : World) (a : Option Addr) (n c n' c' : Nat), (binOp .eql 26 (.slice a n c) (.slice none n' c')).run Try.prog w = .ok (.bool a.isNone) w := fun w a n c n' c' => Lib.run_eql_slice_nil w _ _ a n c n' c' Try.underlying26
  cases A0 with
  | none =>
   have hn : l0 = [] := by
    rcases Nat.eq_zero_or_pos l0.length with h0 | h0
    ·exact List.eq_nil_of_length_eq_zero h0
    ·obtain ⟨ad, h, _⟩ := HR.out.2.2 h0
     cases h
   subst hn
   go_enter Try.func83, Try.ntmps83
   go_wp2
   go_ret
   exact ⟨_, rfl, Kd.R_nil _ _ _ _ _, Below.refl _ _⟩
  | some ad =>
   go_enter Try.func83, Try.ntmps83
   go_wp2_with (at_builtin; refine Kd.R_append_rows (Kd.int .i64) (Rr := Kd.K (Kd.int .i64) w) (w0 := w) w.heap.size rfl _ _ 26 2 _ _ rfl Try.underlying26 info2 rfl (by decide) (by decide) (.slice (some ⟨w.heap.size, 0, none⟩) 0 0) ([] : List (Int)) l0 (some ad) l0.length c0 (fun _ => True) (fun _ => False) rfl rfl ?aO ?aR (fun _ _ h_ => h_) (fun _ h_ => h_.elim) (fun _ _ => trivial) ?aB ?aS ?aL ?_)
   case aO => exact ⟨fun _ _ => trivial, [], World.ownsRow_made w #[] 0 (Nat.le_refl _) (Nat.zero_le _) (by simp), Reps.none _ _⟩
   case aR => exact ReadsRow.imp_ HR.out (below_alloc (Below.refl _ _) _) (fun _ _ h => h)
   case aB => exact below_alloc (Below.refl _ _) _
   case aS => simp
   case aL => simp only [List.length_nil, Nat.zero_add]; omega
   intro v1 w1 hown hb hg hat
   have HO := Aside0.mk hown; have HB := Aside0.mk hb; clear hown hb hg hat
   go_wp2
   go_ret
   exact ⟨v1, rfl, by simpa using HO.out, HB.out⟩
 ·rw [if_neg hlen] at h
  cases h

/-! ### impl_slicesOf: function 64 -/
mutual
def impl_slicesOf.l0 : Nat → List (S63) → List (S65) → List (List Int) → Int → Int → Option ((List (S65)))
 | 0, _, _, _, _, _ => none
 | k + 1, x0, x5, x13, x14, x15 => if x15 < x14 then (if 0 ≤ x15 then (if x15 < (x13.length : Int) then ((slices_Clone_int64_int64.f (rd_L4 x13 x15)).bind fun t225 => (if x15 < (x0.length : Int) then ((some (([(rd_T63 x0 x15).f1] : List Int) : List Int)).bind fun y229 => (if t225.length + y229.length < 17592186044416 then ((some (t225 ++ y229 : List Int)).bind fun y232 => (impl_slicesOf.l1 k x0 x5 x15 0 x13 x14 x15 y232 (y232.length : Int) 0)) else (none))) else (none))) else (none)) else (none)) else (some x5)
def impl_slicesOf.l1 : Nat → List (S63) → List (S65) → Int → Int → List (List Int) → Int → Int → List Int → Int → Int → Option ((List (S65)))
 | 0, _, _, _, _, _, _, _, _, _, _ => none
 | k + 1, x0, x5, x6, x8, x13, x14, x15, x28, x29, x30 => if x30 < x29 then (if 0 ≤ x30 then (if x30 < (x28.length : Int) then ((some (([(⟨x6, x8, wrap64 ((rd x28 x30) - x8)⟩ : S65)] : List (S65)) : List (S65))).bind fun y236 => (if x5.length + y236.length < 5864062014805 then (impl_slicesOf.l1 k x0 (x5 ++ y236) x6 (rd x28 x30) x13 x14 x15 x28 x29 (wrap64 (x30 + 1))) else (none))) else (none)) else (none)) else (impl_slicesOf.l0 k x0 x5 x13 x14 (wrap64 (x15 + 1)))
end
def impl_slicesOf.f (k : Nat) (l0 : List (S63)) (l1_0 : List (List Int)) : Option ((List (S65))) := impl_slicesOf.l0 k l0 (([] : List (S65))) l1_0 (l1_0.length : Int) 0
def impl_slicesOf.T6 : Bool × List (List Nat × List Nat) := (true, [([], []), ([0], [0]), ([], []), ([], []), ([2, 3], [2, 3]), ([4], [4]), ([5], [5]), ([6], [6]), ([1, 7, 1], [1, 7]), ([8], [8]), ([], [])])
def impl_slicesOf.B6 : List Nat := [0, 1, 0, 0, 12, 28, 60, 124, 255, 511, 0]
theorem impl_slicesOf.tab6 : rtab .any (opsOf Try.f64 6) = impl_slicesOf.T6 := by kernel_rfl
theorem impl_slicesOf.bits6 : waitsOk impl_slicesOf.T6.2 impl_slicesOf.B6 = true := by kernel_rfl
set_option maxHeartbeats 8000000 in
set_option maxRecDepth 100000 in
theorem impl_slicesOf.calls (k : Nat) (A0 : Option Addr) (c0 : Nat) (l0 : List (S63)) (A1_0 : Option Addr) (c1_0 : Nat) (l1_0 : List (List Int)) (r : List (S65)) (w : World) (hr0 : Kd.C k63 w A0 l0.length l0) (hc0 : l0.length ≤ c0) (hr1_0 : Kd.C (Kd.slice 2 (Kd.int .i64)) w A1_0 l1_0.length l1_0) (hc1_0 : l1_0.length ≤ c1_0) (h : impl_slicesOf.f k l0 l1_0 = some r) :
  Calls Try.prog 64 #[.slice A0 l0.length c0, .agg #[.slice A1_0 l1_0.length c1_0]] w fun e w' => ∃ v0_ : Value, e = .returned (v0_) ∧ Kd.R k65 65 w' w.heap.size (fun _ => True) v0_ r ∧ Below w.heap.size w w' := by
 have hu44 := Try.underlying44; have hu65 := Try.underlying65; have HR0 := Aside0.mk hr0; have HC0 := Aside0.mk hc0; clear hr0 hc0; have HR1_0 := Aside0.mk hr1_0; have HC1_0 := Aside0.mk hc1_0; clear hr1_0 hc1_0; have HB := Aside0.mk (Below.refl w.heap.size w); have H : (impl_slicesOf.l0 k l0 (([] : List (S65))) l1_0 (l1_0.length : Int) 0) = some r := h; clear h; obtain ⟨y221, hy221⟩ : ∃ y_ : List (S65), y_ = (([] : List (S65))) := ⟨_, rfl⟩
 replace H : (impl_slicesOf.l0 k l0 y221 l1_0 (l1_0.length : Int) 0) = some r := by first | (rw [hy221]; with_reducible exact H) | (have H2_ := (Option.bind_some _ _).symm.trans H; rw [hy221]; with_reducible exact H2_) | (have H2_ := (Option.bind_some _ _).symm.trans H; with_reducible exact H2_) | with_reducible exact H | (rw [hy221]; exact H) | exact H
 have Ny221 := Aside0.mk hy221; clear hy221; have H' := Aside0.mk H; clear H
 go_enter Try.func64, Try.ntmps64
 go_wp2_with (first | ((with_reducible refine gate_dst (N := 3) rfl ?_); refine be 3 #[.slice A1_0 l1_0.length c1_0] 44 ?_; intro gb220 hg w3 hbox hb; have n0_ := Aside0.mk (below_step (bl HB) hb); have n1_ := Aside0.mk (hbox); have n2_ := Aside0.mk (gs HB hg); have n3_ := Aside0.mk (gs HB hg); clear HB; have HB := n0_; have BK220 := n1_; have GW220 := n2_; have GE220 := n3_; clear n0_ n1_ n2_ n3_; clear hb hbox hg) | ((with_reducible refine gate_dst (N := 11) rfl ?_); refine Kd.R_lit k65 _ 65 ?hg (N := 11) ?hd (xs := ([] : List (S65))) (inner := []) (ok := fun _ => True) (okp := fun _ => True) ?hr ?hp (fun _ hk => hk) trivial (Below.refl _ _) (Nat.le_refl _) (by simp) ?_; (case hd => rfl); (case hg => rfl); (case hr => first | (go_simp; done) | (go_simp; rfl)); (case hp => exact (Reps.none _ _)); intro v222 w4 ho5 hb hg_ hnew_; clear hg_ hnew_; (first | rw [← Ny221.out] at ho5 | (simp only [Int.reduceToNat] at ho5; rw [← Ny221.out] at ho5)); have n0_ := Aside0.mk (Kd.R_lower ho5 (below_size (bs HB GE220))); have n1_ := Aside0.mk (blk_below (g := gb220) (o := .cells #[.slice A1_0 l1_0.length c1_0] 44 (0, 0)) (bk BK220) hb); have n2_ := Aside0.mk (below_step (bs HB GE220) hb); clear BK220; clear HB; have HO223 := n0_; have BK220 := n1_; have HB := n2_; clear n0_ n1_ n2_; clear hb ho5; have hcz6_0 : w4.cell? ⟨gb220, 0, none⟩ = some (.slice A1_0 l1_0.length c1_0) := (blk_cell BK220.out 0).trans rfl; have hfz6_0 := blk_frozen BK220.out 0))
 go_loopg [5, 15] k (fun kq v5 v15 w' => ∃ (x5_1 : List (S65)) (x15_1 : Int), v15 = .int .i64 x15_1 ∧ Aside0 (impl_slicesOf.l0 kq l0 x5_1 l1_0 (l1_0.length : Int) x15_1 = some r) ∧ Aside0 (kq ≤ k) ∧ Aside0 (Kd.R k65 65 w' w.heap.size (fun _ => True) v5 x5_1) ∧ Aside0 (w'.heap[gb220]? = some (.cells #[(.slice A1_0 l1_0.length c1_0)] 44 (0, 0))) ∧ Aside0 (Below w.heap.size w w'))
 case atStart => exact ⟨(y221), (0), au, H', ⟨Nat.le_refl _⟩, ⟨rl HO223⟩, ⟨bk BK220⟩, ⟨bs HB GE220⟩⟩
 case round =>
  clear H'
  try clear c1
  try clear p2
  try clear c6
  try clear hcz6_0
  try clear hfz6_0
  obtain ⟨x5_1, x15_1, rfl, HA, HK1, HO_5, BK220, HB⟩ := hrel
  cases gk with
  | zero => exact absurd HA.out (by simp [impl_slicesOf.l0])
  | succ k1 =>
   have H := HA.out; clear HA
   simp only [impl_slicesOf.l0] at H
   by_cases c7 : x15_1 < (l1_0.length : Int)
   ·rw [if_pos c7] at H
    have c7b0 : decide (x15_1 < (l1_0.length : Int)) = true := decide_eq_true c7; clear c7
    by_cases c8 : 0 ≤ x15_1
    ·rw [if_pos c8] at H
     have c8b0 : decide (0 ≤ x15_1) = true := decide_eq_true c8; clear c8
     by_cases c9 : x15_1 < (l1_0.length : Int)
     ·rw [if_pos c9] at H
      have c9b0 : decide (x15_1 < (l1_0.length : Int)) = true := decide_eq_true c9; clear c9; replace H := Option.bind_eq_some_iff.mp H; obtain ⟨t225, A100, H⟩ := H; replace H : (if x15_1 < (l0.length : Int) then ((some (([(rd_T63 l0 x15_1).f1] : List Int) : List Int)).bind fun y229 => (if t225.length + y229.length < 17592186044416 then ((some (t225 ++ y229 : List Int)).bind fun y232 => (impl_slicesOf.l1 k1 l0 x5_1 x15_1 0 l1_0 (l1_0.length : Int) x15_1 y232 (y232.length : Int) 0)) else (none))) else (none)) = some r := H; have A10 := Aside0.mk A100; clear A100
      by_cases c11 : x15_1 < (l0.length : Int)
      ·rw [if_pos c11] at H
       have c11b0 : decide (x15_1 < (l0.length : Int)) = true := decide_eq_true c11; clear c11; obtain ⟨y229, hy229⟩ : ∃ y_ : List Int, y_ = (([(rd_T63 l0 x15_1).f1] : List Int)) := ⟨_, rfl⟩
       replace H : (if t225.length + y229.length < 17592186044416 then ((some (t225 ++ y229 : List Int)).bind fun y232 => (impl_slicesOf.l1 k1 l0 x5_1 x15_1 0 l1_0 (l1_0.length : Int) x15_1 y232 (y232.length : Int) 0)) else (none)) = some r := by first | (rw [hy229]; with_reducible exact H) | (have H2_ := (Option.bind_some _ _).symm.trans H; rw [hy229]; with_reducible exact H2_) | (have H2_ := (Option.bind_some _ _).symm.trans H; with_reducible exact H2_) | with_reducible exact H | (rw [hy229]; exact H) | exact H
       have Ny229 := Aside0.mk hy229; clear hy229
       by_cases c12 : t225.length + y229.length < 17592186044416
       ·rw [if_pos c12] at H
        have LMc12 := Aside0.mk c12; clear c12; obtain ⟨y232, hy232⟩ : ∃ y_ : List Int, y_ = (t225 ++ y229) := ⟨_, rfl⟩
        replace H : (impl_slicesOf.l1 k1 l0 x5_1 x15_1 0 l1_0 (l1_0.length : Int) x15_1 y232 (y232.length : Int) 0) = some r := by first | (rw [hy232]; with_reducible exact H) | (have H2_ := (Option.bind_some _ _).symm.trans H; rw [hy232]; with_reducible exact H2_) | (have H2_ := (Option.bind_some _ _).symm.trans H; with_reducible exact H2_) | with_reducible exact H | (rw [hy232]; exact H) | exact H
        have Ny232 := Aside0.mk hy232; clear hy232; have H' := Aside0.mk H; clear H; have p224 : 0 ≤ (x15_1 : Int) := ode; have q224 : x15_1 < (l1_0.length : Int) := ode; obtain ⟨ad224, A224_0, c224_0, e224, hx224_0, hl224_0, hi224_0⟩ := at_L4 HR1_0.out x15_1 p224 q224
        cases e224
        replace hx224_0 := cl HB hx224_0; have HR224_0 := Aside0.mk hi224_0; have HC224_0 := Aside0.mk hl224_0; clear hi224_0 hl224_0; replace p224 := eq_true p224; replace q224 := eq_true q224
        try go_wp2
        have n0_ := Aside0.mk (Kd.R_drew HO_5.out); have n1_ := Aside0.mk (blk_drew BK220.out); have n2_ := Aside0.mk (below_drew1 HB.out); clear HO_5; clear BK220; clear HB; have HO_5 := n0_; have BK220 := n1_; have HB := n2_; clear n0_ n1_ n2_; have p228 : 0 ≤ (x15_1 : Int) := ode; have q228 : x15_1 < (l0.length : Int) := ode; obtain ⟨ad228, e228, hx228_0, hx228_1⟩ := at_T63 HR0.out x15_1 p228 q228; have hw228_1 := hx228_1; have hw228_0 := hx228_0
        cases e228
        replace hx228_0 := cl HB hx228_0; replace hx228_1 := cl HB hx228_1; replace p228 := eq_true p228; replace q228 := eq_true q228; refine start_ (n := 11) (S := fun w' => w'.cell? (ad228.add ((x15_1).toNat * 2)) = some (.string ((rd_T63 l0 x15_1).f0)) ∧ w'.cell? ⟨(ad228.add ((x15_1).toNat * 2)).block, (ad228.add ((x15_1).toNat * 2)).off + 1, none⟩ = some (.int .i64 ((rd_T63 l0 x15_1).f1))) (ds := []) (tf 0 11) (by kernel_rfl) rfl rfl ⟨((HB.out.cell (World.block_lt_of_cell? w _ hw228_0)).trans hw228_0), ((HB.out.cell (World.block_lt_of_cell? w _ hw228_1)).trans hw228_1)⟩ (fun hHeld => ?_); refine with_tabW impl_slicesOf.tab6 impl_slicesOf.bits6 (fun HT_ HW_ => ?_); generalize wr.drew = w13 at HO_5 BK220 HB hx228_0 hx228_1 hHeld ⊢; refine pu HT_ 0 20 10 ?_; refine pq HT_ 2 22 11 5 ?_; refine pq HT_ 3 23 11 13 ?_; refine pq HT_ 4 24 11 29 ?_; refine pq HT_ 5 25 11 61 ?_; refine pq HT_ 10 30 11 1085 ?_; refine tq HT_ HW_ hHeld 6 26 11 1149 ?_; refine join_ (σ := Value × Value) 2 #[true, true, true, true, true, true, true, true, false, false, true] (fun s_ => [(21, s_.1), (27, s_.2)]) (fun s_ w' => (w'.cell? (ad228.add ((x15_1).toNat * 2)) = some (.string ((rd_T63 l0 x15_1).f0)) ∧ w'.cell? ⟨(ad228.add ((x15_1).toNat * 2)).block, (ad228.add ((x15_1).toNat * 2)).off + 1, none⟩ = some (.int .i64 ((rd_T63 l0 x15_1).f1))) ∧ (Kd.R (Kd.int .i64) 2 w' w.heap.size (fun k_ => some k_ ≠ (s_.2 : Value).ownBlock) s_.1 t225) ∧ (Kd.R (Kd.int .i64) 2 w' w.heap.size (fun k_ => some k_ ≠ (s_.1 : Value).ownBlock) s_.2 y229) ∧ (Kd.R k65 65 w' w.heap.size (fun _ => True) u5 x5_1) ∧ (w'.heap[gb220]? = some (.cells #[.slice (some ad224) l1_0.length c1_0] 44 (0, 0))) ∧ (Below w.heap.size w w')) ?_ ?_
        rotate_left
        ·intro hCont
         refine two_ (i := 1) (j := 7) (Ni := some 21) (Nj := some 27) #[true, true, true, true, true, true, true, false, false, false, true] #[true, false, true, true, true, true, true, true, false, false, true] rfl rfl rfl rfl (two_of HT_.out (by kernel_rfl)) (by decide) (by decide) (fun K hK => ?_) (fun K hK => ?_)
         ·skip
          refine goes_ Try.func83 (by kernel_rfl) rfl #[.slice A224_0 (rd_L4 l1_0 x15_1).length c224_0] (by rfl) rfl rfl ma ?_; (with_reducible refine (slices_Clone_int64_int64.calls _ _ (rd_L4 l1_0 x15_1) t225 _ ?side1 ?side2 A10.out).mono ?_)
          (case side1 => exact rc HR224_0 HB); (case side2 => exact HC224_0.out)
          rintro e w14 ⟨v226, rfl, ho0, hb⟩; refine ⟨_, rfl, ?_⟩; have n0_ := Aside0.mk (Kd.R_below (rl HO_5) hb); have n1_ := Aside0.mk (Kd.R_lower ho0 (below_size (bs HB GE220))); have n2_ := Aside0.mk (blk_below (g := gb220) (o := .cells #[.slice (some ad224) l1_0.length c1_0] 44 (0, 0)) (bk BK220) hb); have n3_ := Aside0.mk (below_step (bs HB GE220) hb); clear HO_5; clear BK220; clear HB; have HO_5 := n0_; have HO227 := n1_; have BK220 := n2_; have HB := n3_; clear n0_ n1_ n2_ n3_; (try clear hb)
          (try clear hb2); (try clear hk)
          (try clear hi); (try clear ho0)
          refine hK.out _ _ ⟨((HB.out.cell (World.block_lt_of_cell? w _ hw228_0)).trans hw228_0), ((HB.out.cell (World.block_lt_of_cell? w _ hw228_1)).trans hw228_1)⟩ (fun hHeld => ?_); clear hK K; refine nm 21 ?_; refine oq HT_ 7 27 11 1279 (fun K hK => ?_)
          refine Kd.R_lit_step (Kd.int .i64) _ 2 ?hg (N := 27) ?hd (xs := ([(rd_T63 l0 x15_1).f1] : List Int)) (inner := [.int .i64 ((rd_T63 l0 x15_1).f1)]) (ok := fun _ => True) (okp := fun _ => True) ?hr ?hp (fun _ hk => hk) trivial (Below.refl _ _) (Nat.le_refl _) (by simp) ?_; (case hd => rfl); (case hg => rfl); (case hr => first | (go_simp; done) | (go_simp; rfl)); (case hp => exact (Reps.one (show Kd.M (Kd.int .i64) _ _ _ ((rd_T63 l0 x15_1).f1) [.int .i64 ((rd_T63 l0 x15_1).f1)] from rfl) (Reps.none _ _)))
          intro v230 w15 ho16 hb hg_ hnew_
          clear hg_ hnew_
          (first | rw [← Ny229.out] at ho16 | (simp only [Int.reduceToNat] at ho16; rw [← Ny229.out] at ho16))
          have n0_ := Aside0.mk (Kd.R_below (rl HO_5) hb); have n1_ := Aside0.mk (Kd.R_elder' (rl HO227) (Kd.R_base ho16) hb); have n2_ := Aside0.mk (Kd.R_lower (Kd.R_new' ho16 (Kd.R_lt (rl HO227))) (below_size (bs HB GE220))); have n3_ := Aside0.mk (blk_below (g := gb220) (o := .cells #[.slice (some ad224) l1_0.length c1_0] 44 (0, 0)) (bk BK220) hb); have n4_ := Aside0.mk (below_step (bs HB GE220) hb); clear HO_5; clear HO227; clear BK220; clear HB; have HO_5 := n0_; have HO227 := n1_; have HO231 := n2_; have BK220 := n3_; have HB := n4_; clear n0_ n1_ n2_ n3_ n4_; clear hb ho16; refine hK.out _ _ ⟨((HB.out.cell (World.block_lt_of_cell? w _ hw228_0)).trans hw228_0), ((HB.out.cell (World.block_lt_of_cell? w _ hw228_1)).trans hw228_1)⟩ (fun hHeld => ?_); clear hK K; refine nm 27 ?_
          exact norm_ (by simp only [putAll, Act.put, List.setIfInBounds_toArray, List.set_cons_zero, List.set_cons_succ]) (hCont (v226, v230) _ ⟨hHeld, (by (with_reducible repeat (first | apply Kd.R_alloc | apply Kd.R_drewN | apply Kd.R_drew)); exact Kd.R_mono HO227.out (fun _ hk => hk.2)), (by (with_reducible repeat (first | apply Kd.R_alloc | apply Kd.R_drewN | apply Kd.R_drew)); exact Kd.R_mono HO231.out (fun _ hk => hk.2)), (rl HO_5), (bk BK220), (bs HB GE220)⟩)
         ·skip
          refine Kd.R_lit_step (Kd.int .i64) _ 2 ?hg (N := 27) ?hd (xs := ([(rd_T63 l0 x15_1).f1] : List Int)) (inner := [.int .i64 ((rd_T63 l0 x15_1).f1)]) (ok := fun _ => True) (okp := fun _ => True) ?hr ?hp (fun _ hk => hk) trivial (Below.refl _ _) (Nat.le_refl _) (by simp) ?_; (case hd => rfl); (case hg => rfl); (case hr => first | (go_simp; done) | (go_simp; rfl)); (case hp => exact (Reps.one (show Kd.M (Kd.int .i64) _ _ _ ((rd_T63 l0 x15_1).f1) [.int .i64 ((rd_T63 l0 x15_1).f1)] from rfl) (Reps.none _ _)))
          intro v230 w14 ho15 hb hg_ hnew_
          clear hg_ hnew_
          (first | rw [← Ny229.out] at ho15 | (simp only [Int.reduceToNat] at ho15; rw [← Ny229.out] at ho15))
          have n0_ := Aside0.mk (Kd.R_below (rl HO_5) hb); have n1_ := Aside0.mk (Kd.R_lower ho15 (below_size (bs HB GE220))); have n2_ := Aside0.mk (blk_below (g := gb220) (o := .cells #[.slice (some ad224) l1_0.length c1_0] 44 (0, 0)) (bk BK220) hb); have n3_ := Aside0.mk (below_step (bs HB GE220) hb); clear HO_5; clear BK220; clear HB; have HO_5 := n0_; have HO231 := n1_; have BK220 := n2_; have HB := n3_; clear n0_ n1_ n2_ n3_; clear hb ho15; refine hK.out _ _ ⟨((HB.out.cell (World.block_lt_of_cell? w _ hw228_0)).trans hw228_0), ((HB.out.cell (World.block_lt_of_cell? w _ hw228_1)).trans hw228_1)⟩ (fun hHeld => ?_); clear hK K; refine nm 27 ?_; refine oq HT_ 1 21 11 1279 (fun K hK => ?_); refine goes_ Try.func83 (by kernel_rfl) rfl #[.slice A224_0 (rd_L4 l1_0 x15_1).length c224_0] (by rfl) rfl rfl ma ?_; (with_reducible refine (slices_Clone_int64_int64.calls _ _ (rd_L4 l1_0 x15_1) t225 _ ?side1 ?side2 A10.out).mono ?_)
          (case side1 => exact rc HR224_0 HB); (case side2 => exact HC224_0.out)
          rintro e w16 ⟨v226, rfl, ho0, hb⟩; refine ⟨_, rfl, ?_⟩; have n0_ := Aside0.mk (Kd.R_below (rl HO_5) hb); have n1_ := Aside0.mk (Kd.R_elder' (rl HO231) (Kd.R_base ho0) hb); have n2_ := Aside0.mk (Kd.R_lower (Kd.R_new' ho0 (Kd.R_lt (rl HO231))) (below_size (bs HB GE220))); have n3_ := Aside0.mk (blk_below (g := gb220) (o := .cells #[.slice (some ad224) l1_0.length c1_0] 44 (0, 0)) (bk BK220) hb); have n4_ := Aside0.mk (below_step (bs HB GE220) hb); clear HO_5; clear HO231; clear BK220; clear HB; have HO_5 := n0_; have HO231 := n1_; have HO227 := n2_; have BK220 := n3_; have HB := n4_; clear n0_ n1_ n2_ n3_ n4_; (try clear hb)
          (try clear hb2); (try clear hk)
          (try clear hi); (try clear ho0)
          refine hK.out _ _ ⟨((HB.out.cell (World.block_lt_of_cell? w _ hw228_0)).trans hw228_0), ((HB.out.cell (World.block_lt_of_cell? w _ hw228_1)).trans hw228_1)⟩ (fun hHeld => ?_); clear hK K; refine nm 21 ?_
          exact norm_ (by simp only [putAll, Act.put, List.setIfInBounds_toArray, List.set_cons_zero, List.set_cons_succ]) (hCont (v226, v230) _ ⟨hHeld, (by (with_reducible repeat (first | apply Kd.R_alloc | apply Kd.R_drewN | apply Kd.R_drew)); exact Kd.R_mono HO227.out (fun _ hk => hk.2)), (by (with_reducible repeat (first | apply Kd.R_alloc | apply Kd.R_drewN | apply Kd.R_drew)); exact Kd.R_mono HO231.out (fun _ hk => hk.2)), (rl HO_5), (bk BK220), (bs HB GE220)⟩)
        rintro ⟨v226, v230⟩ w17 ⟨hS_, h0_, h1_, h2_, h3_, h4_⟩; have n0_ : Aside0 (Kd.R (Kd.int .i64) 2 w17 w.heap.size (fun k_ => some k_ ≠ (v230 : Value).ownBlock) v226 t225) := ⟨h0_⟩; have n1_ : Aside0 (Kd.R (Kd.int .i64) 2 w17 w.heap.size (fun k_ => some k_ ≠ (v226 : Value).ownBlock) v230 y229) := ⟨h1_⟩; have n2_ : Aside0 (Kd.R k65 65 w17 w.heap.size (fun _ => True) u5 x5_1) := ⟨h2_⟩; have n3_ : Aside0 (w17.heap[gb220]? = some (.cells #[.slice (some ad224) l1_0.length c1_0] 44 (0, 0))) := ⟨h3_⟩; have n4_ : Aside0 (Below w.heap.size w w17) := ⟨h4_⟩; clear HO_5; clear BK220; clear HB; clear h0_ h1_ h2_ h3_ h4_; have HO227 := n0_; have HO231 := n1_; have HO_5 := n2_; have BK220 := n3_; have HB := n4_; clear n0_ n1_ n2_ n3_ n4_; have hHeld : w17.cell? (ad228.add ((x15_1).toNat * 2)) = some (.string ((rd_T63 l0 x15_1).f0)) ∧ w17.cell? ⟨(ad228.add ((x15_1).toNat * 2)).block, (ad228.add ((x15_1).toNat * 2)).off + 1, none⟩ = some (.int .i64 ((rd_T63 l0 x15_1).f1)) := hS_; obtain ⟨Ao19, co19, eo19⟩ := Kd.R_slice HO231.out
        (first | subst eo19 | (injection eo19 with f1_ f2_ f3_; have f4_ := f1_.symm; have f5_ := f3_.symm; clear f1_ f2_ f3_; subst f4_; subst f5_))
        refine norm_ (a' := ?_) ?_ ?_
        rotate_left
        ·simp only [putAll, Act.put, List.setIfInBounds_toArray, List.set_cons_zero, List.set_cons_succ]
         rfl
        refine oq HT_ 8 28 11 1535 (fun K hK => ?_); refine Kd.R_append_rows_step (Kd.int .i64) (w0 := w) w.heap.size (by rfl) (.tmp 21) (.tmp 27) 26 2 (.int .i64 0) 8 rfl Try.underlying26 info2 rfl (by decide) (by omega) v226 t225 y229 _ _ _ (fun k_ => some k_ ≠ (.slice Ao19 y229.length co19 : Value).ownBlock) (fun _ => False) rfl rfl ?aO ?aR (fun _ _ h => h) (fun _ h => h.elim) ?aF ?aB ?aS ?aL ?_
        (case aR => repeat (first | exact (Kd.R_reads' HO231.out).2.2 | (with_reducible refine Kd.C_alloc ?_ _) | (with_reducible refine Kd.C_drewN ?_ _) | (with_reducible refine Kd.C_drew ?_)))
        (case aB => exact (bs HB GE220))
        (case aF => exact (fun k_ hk => Kd.fresh' (Kd.R_lt (rl HO231)) k_ hk))
        (case aO => exact (rl HO227))
        (case aS => exact (below_size (bs HB GE220)))
        (case aL => have := LMc12.out; omega)
        intro v233 w18 ho hb hg hat
        rw [← Ny232.out] at ho; have n0_ := Aside0.mk (Kd.R_over' (rl HO_5) (Kd.R_typed (rl HO227)) (by decide) hg); have n1_ := Aside0.mk (blk_grown (g := gb220) (o := .cells #[.slice (some ad224) l1_0.length c1_0] 44 (0, 0)) (bk BK220) hg (Kd.R_ne HO227.out BK220.out (by decide))); have n2_ := Aside0.mk (Kd.R_after (ok := (fun _ => True)) (by (with_reducible repeat (first | apply Kd.R_alloc | apply Kd.R_drewN | apply Kd.R_drew)); exact Kd.R_mono HO231.out (fun _ hk => ⟨trivial, hk⟩)) hg hat)
        have n3_ := Aside0.mk (hb); have n4_ := Aside0.mk (ho); clear HO_5; clear BK220; clear HO231; clear HB; clear HO227; have HO_5 := n0_; have BK220 := n1_; have HO231 := n2_; have HB := n3_; have HO234 := n4_; clear n0_ n1_ n2_ n3_ n4_; clear ho hb hg hat; obtain ⟨Ao20, co20, eo20⟩ := Kd.R_slice HO234.out
        (first | subst eo20 | (injection eo20 with f1_ f2_ f3_; have f4_ := f1_.symm; have f5_ := f3_.symm; clear f1_ f2_ f3_; subst f4_; subst f5_))
        refine hK.out _ _ ⟨((HB.out.cell (World.block_lt_of_cell? w _ hw228_0)).trans hw228_0), ((HB.out.cell (World.block_lt_of_cell? w _ hw228_1)).trans hw228_1)⟩ (fun hHeld => ?_); clear hK K; refine nm 28 ?_; refine pq HT_ 9 29 11 2047 ?_; refine done_ (done_of HT_.out (by kernel_rfl)) ?_
        try go_wp2
        go_loopg [5, 8, 30] k1 (fun kq v5 v8 v30 w' => ∃ (x5_2 : List (S65)) (x8_2 : Int) (x30_2 : Int), v8 = .int .i64 x8_2 ∧ v30 = .int .i64 x30_2 ∧ Aside0 (impl_slicesOf.l1 kq l0 x5_2 x15_1 x8_2 l1_0 (l1_0.length : Int) x15_1 y232 (y232.length : Int) x30_2 = some r) ∧ Aside0 (kq ≤ k1) ∧ Aside0 (Kd.R k65 65 w' w.heap.size (fun _ => True) v5 x5_2) ∧ Aside0 (Kd.R (Kd.int .i64) 2 w' w.heap.size (fun _ => True) (.slice Ao20 y232.length co20) y232) ∧ Aside0 (w'.heap[gb220]? = some (.cells #[(.slice (some ad224) l1_0.length c1_0)] 44 (0, 0))) ∧ Aside0 (Below w.heap.size w w'))
        case atStart => exact ⟨(x5_1), (0), (0), au, au, H', ⟨Nat.le_refl _⟩, ⟨rl HO_5⟩, ⟨by (with_reducible repeat (first | apply Kd.R_alloc | apply Kd.R_drewN | apply Kd.R_drew)); exact Kd.R_mono HO234.out (fun _ hk => trivial)⟩, ⟨bk BK220⟩, ⟨bs HB GE220⟩⟩
        case round =>
         clear H'
         try clear c1
         try clear c2
         try clear p2
         try clear q2
         try clear hx2
         try clear c6
         try clear c7
         try clear c7b0
         try clear c8
         try clear c8b0
         try clear c9
         try clear c9b0
         try clear c11
         try clear c11b0
         try clear c12
         try clear hcz6_0
         try clear hfz6_0
         try clear hx224_0
         try clear hx228_0
         try clear hx228_1
         try clear p2
         try clear p224
         try clear p228
         try clear q224
         try clear q228
         obtain ⟨x5_2, x8_2, x30_2, rfl, rfl, HA, HK2, HO_5, HO_28, BK220, HB⟩ := hrel
         cases gk with
         | zero => exact absurd HA.out (by simp [impl_slicesOf.l1])
         | succ k2 =>
          have H := HA.out; clear HA
          simp only [impl_slicesOf.l1] at H
          by_cases c21 : x30_2 < (y232.length : Int)
          ·rw [if_pos c21] at H
           have c21b0 : decide (x30_2 < (y232.length : Int)) = true := decide_eq_true c21; clear c21
           by_cases c22 : 0 ≤ x30_2
           ·rw [if_pos c22] at H
            have c22b0 : decide (0 ≤ x30_2) = true := decide_eq_true c22; clear c22
            by_cases c23 : x30_2 < (y232.length : Int)
            ·rw [if_pos c23] at H
             have c23b0 : decide (x30_2 < (y232.length : Int)) = true := decide_eq_true c23; clear c23; obtain ⟨y236, hy236⟩ : ∃ y_ : List (S65), y_ = (([(⟨x15_1, x8_2, wrap64 ((rd y232 x30_2) - x8_2)⟩ : S65)] : List (S65))) := ⟨_, rfl⟩
             replace H : (if x5_2.length + y236.length < 5864062014805 then (impl_slicesOf.l1 k2 l0 (x5_2 ++ y236) x15_1 (rd y232 x30_2) l1_0 (l1_0.length : Int) x15_1 y232 (y232.length : Int) (wrap64 (x30_2 + 1))) else (none)) = some r := by first | (rw [hy236]; with_reducible exact H) | (have H2_ := (Option.bind_some _ _).symm.trans H; rw [hy236]; with_reducible exact H2_) | (have H2_ := (Option.bind_some _ _).symm.trans H; with_reducible exact H2_) | with_reducible exact H | (rw [hy236]; exact H) | exact H
             have Ny236 := Aside0.mk hy236; clear hy236
             by_cases c24 : x5_2.length + y236.length < 5864062014805
             ·rw [if_pos c24] at H
              have LMc24 := Aside0.mk c24; clear c24; obtain ⟨y239, hy239⟩ : ∃ y_ : List (S65), y_ = (x5_2 ++ y236) := ⟨_, rfl⟩
              replace H : (impl_slicesOf.l1 k2 l0 y239 x15_1 (rd y232 x30_2) l1_0 (l1_0.length : Int) x15_1 y232 (y232.length : Int) (wrap64 (x30_2 + 1))) = some r := by first | (rw [hy239]; with_reducible exact H) | (have H2_ := (Option.bind_some _ _).symm.trans H; rw [hy239]; with_reducible exact H2_) | (have H2_ := (Option.bind_some _ _).symm.trans H; with_reducible exact H2_) | with_reducible exact H | (rw [hy239]; exact H) | exact H
              have Ny239 := Aside0.mk hy239; clear hy239; have H' := Aside0.mk H; clear H; have p235 : 0 ≤ (x30_2 : Int) := ode; have q235 : x30_2 < (y232.length : Int) := ode; obtain ⟨ad235, e235, hx235_0⟩ := Kd.at_int (Kd.R_reads' HO_28.out).2.2 x30_2 p235 q235
              cases e235
              replace p235 := eq_true p235; replace q235 := eq_true q235
              go_wp2_with (first | ((with_reducible refine gate_dst (N := 41) rfl ?_); refine Kd.R_lit k65 _ 65 ?hg (N := 41) ?hd (xs := ([(⟨x15_1, x8_2, wrap64 ((rd y232 x30_2) - x8_2)⟩ : S65)] : List (S65))) (inner := [.int .i64 x15_1, .int .i64 x8_2, .int .i64 (wrap64 ((rd y232 x30_2) - x8_2))]) (ok := fun _ => True) (okp := fun _ => True) ?hr ?hp (fun _ hk => hk) trivial (Below.refl _ _) (Nat.le_refl _) (by simp) ?_; (case hd => rfl); (case hg => rfl); (case hr => first | (go_simp; done) | (go_simp; rfl)); (case hp => exact (Reps.c3 (show Kd.M k65 _ _ _ (⟨x15_1, x8_2, wrap64 ((rd y232 x30_2) - x8_2)⟩ : S65) [.int .i64 x15_1, .int .i64 x8_2, .int .i64 (wrap64 ((rd y232 x30_2) - x8_2))] from (k65_mkM _ _ _ (⟨x15_1, x8_2, wrap64 ((rd y232 x30_2) - x8_2)⟩ : S65) )) (Reps.none _ _))); intro v237 w25 ho26 hb hg_ hnew_; clear hg_ hnew_; (first | rw [← Ny236.out] at ho26 | (simp only [Int.reduceToNat] at ho26; rw [← Ny236.out] at ho26)); have n0_ := Aside0.mk (Kd.R_elder' (rl HO_5) (Kd.R_base ho26) hb); have n1_ := Aside0.mk (Kd.R_below (rl HO_28) hb); have n2_ := Aside0.mk (Kd.R_lower (Kd.R_new' ho26 (Kd.R_lt (rl HO_5))) (below_size (bs HB GE220))); have n3_ := Aside0.mk (blk_below (g := gb220) (o := .cells #[.slice (some ad224) l1_0.length c1_0] 44 (0, 0)) (bk BK220) hb); have n4_ := Aside0.mk (below_step (bs HB GE220) hb); clear HO_5; clear HO_28; clear BK220; clear HB; have HO_5 := n0_; have HO_28 := n1_; have HO238 := n2_; have BK220 := n3_; have HB := n4_; clear n0_ n1_ n2_ n3_ n4_; clear hb ho26; obtain ⟨Ao28, co28, eo28⟩ := Kd.R_slice HO238.out; subst eo28) | ((with_reducible refine gate_builtin (b := .append) (xs := #[.tmp 34, .tmp 41]) rfl ?_); at_builtin; refine Kd.R_append_rows k65 (w0 := w) w.heap.size rfl (.tmp 34) (.tmp 41) 60 65 (.agg #[(.int .i64 0), (.int .i64 0), (.int .i64 0)]) 24 rfl Try.underlying60 info65 rfl (by decide) (by omega) u5 x5_2 y236 _ _ _ (fun k_ => some k_ ≠ (.slice Ao28 y236.length co28 : Value).ownBlock) (fun _ => False) rfl rfl ?aO ?aR (fun _ _ h => h) (fun _ h => h.elim) ?aF ?aB ?aS ?aL ?_; (case aR => repeat (first | exact (Kd.R_reads' HO238.out).2.2 | (with_reducible refine Kd.C_alloc ?_ _) | (with_reducible refine Kd.C_drewN ?_ _) | (with_reducible refine Kd.C_drew ?_))); (case aB => exact (bs HB GE220)); (case aF => exact (fun k_ hk => Kd.fresh' (Kd.R_lt (rl HO238)) k_ hk)); (case aO => exact (by (with_reducible repeat (first | apply Kd.R_alloc | apply Kd.R_drewN | apply Kd.R_drew)); exact Kd.R_mono HO_5.out (fun _ hk => hk.2))); (case aS => exact (below_size (bs HB GE220))); (case aL => have := LMc24.out; omega); intro v240 w27 ho hb hg hat; rw [← Ny239.out] at ho; have n0_ := Aside0.mk (Kd.R_over' (rl HO_28) (Kd.R_typed (rl HO_5)) (by decide) hg); have n1_ := Aside0.mk (blk_grown (g := gb220) (o := .cells #[.slice (some ad224) l1_0.length c1_0] 44 (0, 0)) (bk BK220) hg (Kd.R_ne HO_5.out BK220.out (by decide))); have n2_ := Aside0.mk (Kd.R_after (ok := (fun _ => True)) (rl HO238) hg hat); have n3_ := Aside0.mk (hb); have n4_ := Aside0.mk (ho); clear HO_28; clear BK220; clear HO238; clear HB; clear HO_5; have HO_28 := n0_; have BK220 := n1_; have HO238 := n2_; have HB := n3_; have HO241 := n4_; clear n0_ n1_ n2_ n3_ n4_; clear ho hb hg hat))
              go_roundg k2
              case measure => have := HK1.out; have := HK2.out; omega
              case rel => exact ⟨(y239), (rd y232 x30_2), (wrap64 (x30_2 + 1)), au, au, H', ⟨by have := HK1.out; have := HK2.out; omega⟩, ⟨by (with_reducible repeat (first | apply Kd.R_alloc | apply Kd.R_drewN | apply Kd.R_drew)); exact Kd.R_mono HO241.out (fun _ hk => trivial)⟩, ⟨rl HO_28⟩, ⟨bk BK220⟩, ⟨bs HB GE220⟩⟩
             ·rw [if_neg c24] at H
              exact absurd H (by simp)
            ·rw [if_neg c23] at H
             exact absurd H (by simp)
           ·rw [if_neg c22] at H
            exact absurd H (by simp)
          ·rw [if_neg c21] at H
           have c21b0 : decide (x30_2 < (y232.length : Int)) = false := decide_eq_false c21; clear c21; have H' := Aside0.mk H; clear H
           go_wp2
           go_roundg k2
           case measure => have := HK1.out; have := HK2.out; omega
           case rel => exact ⟨(x5_2), (wrap64 (x15_1 + 1)), au, H', ⟨by have := HK1.out; have := HK2.out; omega⟩, ⟨rl HO_5⟩, ⟨bk BK220⟩, ⟨bs HB GE220⟩⟩
       ·rw [if_neg c12] at H
        exact absurd H (by simp)
      ·rw [if_neg c11] at H
       exact absurd H (by simp)
     ·rw [if_neg c9] at H
      exact absurd H (by simp)
    ·rw [if_neg c8] at H
     exact absurd H (by simp)
   ·rw [if_neg c7] at H
    have c7b0 : decide (x15_1 < (l1_0.length : Int)) = false := decide_eq_false c7; clear c7; obtain rfl := Option.some.inj H
    go_wp2
    go_ret
    exact ⟨_, by first | rfl | (simp [errW_none, errW_some] <;> rfl) | (simp [*, errW_none, errW_some] <;> rfl), by (with_reducible repeat (first | apply Kd.R_alloc | apply Kd.R_drewN | apply Kd.R_drew)); exact HO_5.out, bs HB GE220⟩

/-! ### impl_SlicesOf: function 31 -/
def impl_SlicesOf.f (k : Nat) (l0 : List (S63)) (l1_0 : List (List Int)) : Option ((List (S65))) := (impl_CutsOk.f k l0 l1_0).bind fun t243 => (if t243 = true then ((impl_slicesOf.f k l0 l1_0).bind fun t244 => (some t244)) else (some ([] : List (S65))))
set_option maxHeartbeats 8000000 in
set_option maxRecDepth 100000 in
theorem impl_SlicesOf.calls (k : Nat) (A0 : Option Addr) (c0 : Nat) (l0 : List (S63)) (A1_0 : Option Addr) (c1_0 : Nat) (l1_0 : List (List Int)) (r : List (S65)) (w : World) (hr0 : Kd.C k63 w A0 l0.length l0) (hc0 : l0.length ≤ c0) (hr1_0 : Kd.C (Kd.slice 2 (Kd.int .i64)) w A1_0 l1_0.length l1_0) (hc1_0 : l1_0.length ≤ c1_0) (h : impl_SlicesOf.f k l0 l1_0 = some r) :
  Calls Try.prog 31 #[.slice A0 l0.length c0, .agg #[.slice A1_0 l1_0.length c1_0]] w fun e w' => ∃ v0_ : Value, e = .returned (v0_) ∧ Kd.R k65 65 w' w.heap.size (fun _ => True) v0_ r ∧ Below w.heap.size w w' := by
 have hu44 := Try.underlying44; have HR0 := Aside0.mk hr0; have HC0 := Aside0.mk hc0; clear hr0 hc0; have HR1_0 := Aside0.mk hr1_0; have HC1_0 := Aside0.mk hc1_0; clear hr1_0 hc1_0; have HB := Aside0.mk (Below.refl w.heap.size w); have H : ((impl_CutsOk.f k l0 l1_0).bind fun t243 => (if t243 = true then ((impl_slicesOf.f k l0 l1_0).bind fun t244 => (some t244)) else (some ([] : List (S65))))) = some r := h; clear h; replace H := Option.bind_eq_some_iff.mp H; obtain ⟨t243, A30, H⟩ := H; replace H : (if t243 = true then ((impl_slicesOf.f k l0 l1_0).bind fun t244 => (some t244)) else (some ([] : List (S65)))) = some r := H; have A3 := Aside0.mk A30; clear A30
 by_cases c4 : t243 = true
 ·subst c4
  have H1 : ((impl_slicesOf.f k l0 l1_0).bind fun t244 => (some t244)) = some r := by rw [if_pos rfl] at H; exact H
  clear H; have H := H1; clear H1; replace H := Option.bind_eq_some_iff.mp H; obtain ⟨t244, A50, H⟩ := H; replace H : (some t244) = some r := H; have A5 := Aside0.mk A50; clear A50; obtain rfl := Option.some.inj H
  go_enter Try.func31, Try.ntmps31
  go_wp2_with (first | ((with_reducible refine gate_dst (N := 3) rfl ?_); refine be 3 #[.slice A1_0 l1_0.length c1_0] 44 ?_; intro gb242 hg w6 hbox hb; have n0_ := Aside0.mk (below_step (bl HB) hb); have n1_ := Aside0.mk (hbox); have n2_ := Aside0.mk (gs HB hg); have n3_ := Aside0.mk (gs HB hg); clear HB; have HB := n0_; have BK242 := n1_; have GW242 := n2_; have GE242 := n3_; clear n0_ n1_ n2_ n3_; clear hb hbox hg; have hcz7_0 : w6.cell? ⟨gb242, 0, none⟩ = some (.slice A1_0 l1_0.length c1_0) := (blk_cell BK242.out 0).trans rfl; have hfz7_0 := blk_frozen BK242.out 0) | ((with_reducible refine gate_callee (f := 53) rfl ?_); refine goesL_ (some 7) rfl rfl Try.func53 (by kernel_rfl) rfl #[.slice A0 l0.length c0, .agg #[.slice A1_0 l1_0.length c1_0]] rfl ma ?_; (with_reducible refine (impl_CutsOk.calls k _ _ l0 _ _ l1_0 true _ ?side1 ?side2 ?side3 ?side4 A3.out).mono ?_); (case side1 => exact rc HR0 HB); (case side2 => exact HC0.out); (case side3 => exact rc HR1_0 HB); (case side4 => exact HC1_0.out); rintro e w8 ⟨rfl, hb⟩; refine ⟨_, rfl, ?_⟩; have n0_ := Aside0.mk (blk_below (g := gb242) (o := .cells #[.slice A1_0 l1_0.length c1_0] 44 (0, 0)) (bk BK242) hb); have n1_ := Aside0.mk (below_step (bs HB GE242) hb); clear BK242; clear HB; have BK242 := n0_; have HB := n1_; clear n0_ n1_; (try clear hb); (try clear hb2); (try clear hk); (try clear hi); have hcz9_0 : w8.cell? ⟨gb242, 0, none⟩ = some (.slice A1_0 l1_0.length c1_0) := (blk_cell BK242.out 0).trans rfl; have hfz9_0 := blk_frozen BK242.out 0) | ((with_reducible refine gate_callee (f := 64) rfl ?_); refine goesL_ (some 11) rfl rfl Try.func64 (by kernel_rfl) rfl #[.slice A0 l0.length c0, .agg #[.slice A1_0 l1_0.length c1_0]] rfl ma ?_; (with_reducible refine (impl_slicesOf.calls k _ _ l0 _ _ l1_0 t244 _ ?side1 ?side2 ?side3 ?side4 A5.out).mono ?_); (case side1 => exact rc HR0 HB); (case side2 => exact HC0.out); (case side3 => exact rc HR1_0 HB); (case side4 => exact HC1_0.out); rintro e w10 ⟨v245, rfl, ho0, hb⟩; refine ⟨_, rfl, ?_⟩; have n0_ := Aside0.mk (Kd.R_lower ho0 (below_size (bs HB GE242))); have n1_ := Aside0.mk (blk_below (g := gb242) (o := .cells #[.slice A1_0 l1_0.length c1_0] 44 (0, 0)) (bk BK242) hb); have n2_ := Aside0.mk (below_step (bs HB GE242) hb); clear BK242; clear HB; have HO246 := n0_; have BK242 := n1_; have HB := n2_; clear n0_ n1_ n2_; (try clear hb); (try clear hb2); (try clear hk); (try clear hi); (try clear ho0)))
  go_ret
  exact ⟨_, by first | rfl | (simp [errW_none, errW_some] <;> rfl) | (simp [*, errW_none, errW_some] <;> rfl), by (with_reducible repeat (first | apply Kd.R_alloc | apply Kd.R_drewN | apply Kd.R_drew)); exact HO246.out, bs HB GE242⟩
 ·replace c4 := Bool.eq_false_iff.mpr c4
  subst c4
  have H1 : (some ([] : List (S65))) = some r := by rw [if_neg (show ¬ (false = true) by decide)] at H; exact H
  clear H; have H := H1; clear H1; obtain rfl := Option.some.inj H
  go_enter Try.func31, Try.ntmps31
  go_wp2_with (first | ((with_reducible refine gate_dst (N := 3) rfl ?_); refine be 3 #[.slice A1_0 l1_0.length c1_0] 44 ?_; intro gb242 hg w11 hbox hb; have n0_ := Aside0.mk (below_step (bl HB) hb); have n1_ := Aside0.mk (hbox); have n2_ := Aside0.mk (gs HB hg); have n3_ := Aside0.mk (gs HB hg); clear HB; have HB := n0_; have BK242 := n1_; have GW242 := n2_; have GE242 := n3_; clear n0_ n1_ n2_ n3_; clear hb hbox hg; have hcz12_0 : w11.cell? ⟨gb242, 0, none⟩ = some (.slice A1_0 l1_0.length c1_0) := (blk_cell BK242.out 0).trans rfl; have hfz12_0 := blk_frozen BK242.out 0) | ((with_reducible refine gate_callee (f := 53) rfl ?_); refine goesL_ (some 7) rfl rfl Try.func53 (by kernel_rfl) rfl #[.slice A0 l0.length c0, .agg #[.slice A1_0 l1_0.length c1_0]] rfl ma ?_; (with_reducible refine (impl_CutsOk.calls k _ _ l0 _ _ l1_0 false _ ?side1 ?side2 ?side3 ?side4 A3.out).mono ?_); (case side1 => exact rc HR0 HB); (case side2 => exact HC0.out); (case side3 => exact rc HR1_0 HB); (case side4 => exact HC1_0.out); rintro e w13 ⟨rfl, hb⟩; refine ⟨_, rfl, ?_⟩; have n0_ := Aside0.mk (blk_below (g := gb242) (o := .cells #[.slice A1_0 l1_0.length c1_0] 44 (0, 0)) (bk BK242) hb); have n1_ := Aside0.mk (below_step (bs HB GE242) hb); clear BK242; clear HB; have BK242 := n0_; have HB := n1_; clear n0_ n1_; (try clear hb); (try clear hb2); (try clear hk); (try clear hi)))
  go_ret
  exact ⟨_, by first | rfl | (simp [errW_none, errW_some] <;> rfl) | (simp [*, errW_none, errW_some] <;> rfl), by first | exact Kd.R_nil _ _ _ _ _ | exact Kd.N_nil _ _ _ _ _ | exact Kd.V_nil _ _ _ _ _ | exact Kd.Q_nil _ _ _ _ _ | exact Kd.S_nil _ _ _ _ _, bs HB GE242⟩

end Go.Proofs.Ytonkicgdgpcneaa.PFnSlices
