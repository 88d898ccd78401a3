-- Written by a program of this session (a turned copy of the kit's printer); Lean checks it.
-- half the depth
import Derived.Test.YtjjlcmfjmdfedaaPFnTreeBackx0
import Derived.Test.YtjjlcmfjmdfedaaPFnTreeBackx1
namespace Go.Proofs.Ytjjlcmfjmdfedaa.PFnTreeBack
open Go.RowKit Go.Proofs.YtjjlcmfjmdfedaaW.PrintWords Go.Proofs.YtjjlcmfjmdfedaaW.PrintLast Go.Proofs.YtjjlcmfjmdfedaaW.PrintMore
attribute [local go_sem] max2_int min2_int max_two min_two max_three min_three max_four min_four   -- for this text's walks alone
set_option linter.unusedVariables false
set_option linter.unusedSimpArgs false

/-! ### spec_TreeOk: function 22 -/
def spec_TreeOk.f (k : Nat) (l0_0 : List (S66)) : Option (Bool) := if (l0_0.length : Int) < 1 then (some false) else (if (l0_0.length : Int) > 2000 then (some false) else ((spec_l2Walk.f k l0_0 0 0).bind fun t108 => (some (t108 == (l0_0.length : Int)))))
set_option maxHeartbeats 8000000 in
set_option maxRecDepth 100000 in
theorem spec_TreeOk.calls (k : Nat) (A0_0 : Option Addr) (c0_0 : Nat) (l0_0 : List (S66)) (r : Bool) (w : World) (hr0_0 : Kd.C k66 w A0_0 l0_0.length l0_0) (hc0_0 : l0_0.length ≤ c0_0) (h : spec_TreeOk.f k l0_0 = some r) :
  Calls Try.prog 22 #[.agg #[.slice A0_0 l0_0.length c0_0]] w fun e w' => e = .returned (.bool r) ∧ Below w.heap.size w w' := by
 have hu29 := Try.underlying29; have HR0_0 := Aside0.mk hr0_0; have HC0_0 := Aside0.mk hc0_0; clear hr0_0 hc0_0; have HB := Aside0.mk (Below.refl w.heap.size w); have H : (if (l0_0.length : Int) < 1 then (some false) else (if (l0_0.length : Int) > 2000 then (some false) else ((spec_l2Walk.f k l0_0 0 0).bind fun t108 => (some (t108 == (l0_0.length : Int)))))) = some r := h; clear h
 by_cases c2 : (l0_0.length : Int) < 1
 ·rw [if_pos c2] at H
  have c2b0 : decide ((l0_0.length : Int) < 1) = true := decide_eq_true c2; have c2b1 : decide (l0_0.length < 1) = true := decide_eq_true (by omega); clear c2; obtain rfl := Option.some.inj H
  go_enter Try.func22, Try.ntmps22
  go_wp2_with (first | ((with_reducible refine gate_dst (N := 1) rfl ?_); (try (refine gate_guard (by rfl) ?_; dsimp only)); refine be 1 #[.slice A0_0 l0_0.length c0_0] 29 ?_; intro gb107 hg w3 hbox hb; have n0_ := Aside0.mk (below_step (bl HB) hb); have n1_ := Aside0.mk (hbox); have n2_ := Aside0.mk (gs HB hg); have n3_ := Aside0.mk (gs HB hg); clear HB; have HB := n0_; have BK107 := n1_; have GW107 := n2_; have GE107 := n3_; clear n0_ n1_ n2_ n3_; clear hb hbox hg; have hcz4_0 : w3.cell? ⟨gb107, 0, none⟩ = some (.slice A0_0 l0_0.length c0_0) := (blk_cell BK107.out 0).trans rfl; have hfz4_0 := blk_frozen BK107.out 0))
  go_ret
  exact ⟨by first | rfl | (simp [errW_none, errW_some] <;> rfl) | (simp [*, errW_none, errW_some] <;> rfl), bs HB GE107⟩
 ·rw [if_neg c2] at H
  have c2b0 : decide ((l0_0.length : Int) < 1) = false := decide_eq_false c2; have c2b1 : decide (l0_0.length < 1) = false := decide_eq_false (by omega); clear c2
  by_cases c5 : (l0_0.length : Int) > 2000
  ·rw [if_pos c5] at H
   have c5b0 : decide (2000 < (l0_0.length : Int)) = true := decide_eq_true c5; have c5b1 : decide (2000 < l0_0.length) = true := decide_eq_true (by omega); clear c5; obtain rfl := Option.some.inj H
   go_enter Try.func22, Try.ntmps22
   go_wp2_with (first | ((with_reducible refine gate_dst (N := 1) rfl ?_); (try (refine gate_guard (by rfl) ?_; dsimp only)); refine be 1 #[.slice A0_0 l0_0.length c0_0] 29 ?_; intro gb107 hg w6 hbox hb; have n0_ := Aside0.mk (below_step (bl HB) hb); have n1_ := Aside0.mk (hbox); have n2_ := Aside0.mk (gs HB hg); have n3_ := Aside0.mk (gs HB hg); clear HB; have HB := n0_; have BK107 := n1_; have GW107 := n2_; have GE107 := n3_; clear n0_ n1_ n2_ n3_; clear hb hbox hg; have hcz7_0 : w6.cell? ⟨gb107, 0, none⟩ = some (.slice A0_0 l0_0.length c0_0) := (blk_cell BK107.out 0).trans rfl; have hfz7_0 := blk_frozen BK107.out 0))
   go_ret
   exact ⟨by first | rfl | (simp [errW_none, errW_some] <;> rfl) | (simp [*, errW_none, errW_some] <;> rfl), bs HB GE107⟩
  ·rw [if_neg c5] at H
   have c5b0 : decide (2000 < (l0_0.length : Int)) = false := decide_eq_false c5; have c5b1 : decide (2000 < l0_0.length) = false := decide_eq_false (by omega); clear c5; replace H := Option.bind_eq_some_iff.mp H; obtain ⟨t108, A80, H⟩ := H; replace H : (some (t108 == (l0_0.length : Int))) = some r := H; have A8 := Aside0.mk A80; clear A80; obtain rfl := Option.some.inj H
   go_enter Try.func22, Try.ntmps22
   try go_wp2_with (first | ((with_reducible refine gate_dst (N := 1) rfl ?_); (try (refine gate_guard (by rfl) ?_; dsimp only)); refine be 1 #[.slice A0_0 l0_0.length c0_0] 29 ?_; intro gb107 hg w9 hbox hb; have n0_ := Aside0.mk (below_step (bl HB) hb); have n1_ := Aside0.mk (hbox); have n2_ := Aside0.mk (gs HB hg); have n3_ := Aside0.mk (gs HB hg); clear HB; have HB := n0_; have BK107 := n1_; have GW107 := n2_; have GE107 := n3_; clear n0_ n1_ n2_ n3_; clear hb hbox hg; have hcz10_0 : w9.cell? ⟨gb107, 0, none⟩ = some (.slice A0_0 l0_0.length c0_0) := (blk_cell BK107.out 0).trans rfl; have hfz10_0 := blk_frozen BK107.out 0))
   have n0_ := Aside0.mk (blk_drew BK107.out); have n1_ := Aside0.mk (below_drew1 HB.out); clear BK107; clear HB; have BK107 := n0_; have HB := n1_; clear n0_ n1_; refine start_ (n := 7) (S := fun w' => w'.cell? ⟨gb107, 0, none⟩ = some (.slice A0_0 l0_0.length c0_0)) (ds := []) (tf 0 7) (by kernel_rfl) rfl rfl ((blk_cell BK107.out 0).trans rfl) (fun hHeld => ?_); generalize w9.drew = w11 at BK107 HB hHeld ⊢; refine pure_ (i := 2) (N := some 15) (v := ?_) (a' := ?_) #[false, false, true, false, false, false, false] rfl rfl (by kernel_rfl) (fun _ _ _ h => h) (Or.inl ⟨by rfl, ?_⟩) ?_ ?_
   rotate_left
   ·intro w'
    go_simp
    with_reducible rfl
   rotate_left
   ·simp only [Act.put, List.setIfInBounds_toArray, List.set_cons_zero, List.set_cons_succ, i64_w, i32_w]
    rfl
   refine take_ (i := 0) (N := some 13) (v := ?_) (a' := ?_) #[true, false, true, false, false, false, false] rfl rfl (by kernel_rfl) (fun _ _ _ h => h) (Or.inl ⟨by rfl, ?_⟩) hHeld ?_ ?_
   rotate_left
   ·intro w' s0
    go_simp
    with_reducible rfl
   rotate_left
   ·simp only [Act.put, List.setIfInBounds_toArray, List.set_cons_zero, List.set_cons_succ, i64_w, i32_w]
    rfl
   refine take_ (i := 3) (N := some 16) (v := ?_) (a' := ?_) #[true, false, true, true, false, false, false] rfl rfl (by kernel_rfl) (fun _ _ _ h => h) (Or.inl ⟨by rfl, ?_⟩) hHeld ?_ ?_
   rotate_left
   ·intro w' s0
    go_simp
    with_reducible rfl
   rotate_left
   ·simp only [Act.put, List.setIfInBounds_toArray, List.set_cons_zero, List.set_cons_succ, i64_w, i32_w]
    rfl
   refine pure_ (i := 4) (N := some 17) (v := ?_) (a' := ?_) #[true, false, true, true, true, false, false] rfl rfl (by kernel_rfl) (fun _ _ _ h => h) (Or.inl ⟨by rfl, ?_⟩) ?_ ?_
   rotate_left
   ·intro w'
    go_simp
    with_reducible rfl
   rotate_left
   ·simp only [Act.put, List.setIfInBounds_toArray, List.set_cons_zero, List.set_cons_succ, i64_w, i32_w]
    rfl
   refine one_ (i := 1) (N := some 14) #[true, true, true, true, true, false, false] rfl rfl (by kernel_rfl) (by decide) (fun K hK => ?_); refine goes_ Try.func43 (by kernel_rfl) rfl #[.agg #[.slice A0_0 l0_0.length c0_0], .int .i64 0, .int .i64 0] (by rfl) rfl rfl ma ?_; (with_reducible refine (spec_l2Walk.calls k _ _ l0_0 0 0 t108 _ ?side1 ?side2 A8.out).mono ?_)
   (case side1 => exact rc HR0_0 HB); (case side2 => exact HC0_0.out)
   rintro e w12 ⟨rfl, hb⟩; refine ⟨_, rfl, ?_⟩; have n0_ := Aside0.mk (blk_below (g := gb107) (o := .cells #[.slice A0_0 l0_0.length c0_0] 29 (0, 0)) (bk BK107) hb); have n1_ := Aside0.mk (below_step (bs HB GE107) hb); clear BK107; clear HB; have BK107 := n0_; have HB := n1_; clear n0_ n1_; (try clear hb)
   (try clear hb2); (try clear hk)
   (try clear hi); refine hK.out _ _ ((blk_cell BK107.out 0).trans rfl) (fun hHeld => ?_); clear hK K; refine nm 14 ?_; refine pure_ (i := 5) (N := some 18) (v := ?_) (a' := ?_) #[true, true, true, true, true, true, false] rfl rfl (by kernel_rfl) (fun _ _ _ h => h) (Or.inl ⟨by rfl, ?_⟩) ?_ ?_
   rotate_left
   ·intro w'
    go_simp
    with_reducible rfl
   rotate_left
   ·simp only [Act.put, List.setIfInBounds_toArray, List.set_cons_zero, List.set_cons_succ, i64_w, i32_w]
    rfl
   refine pure_ (i := 6) (N := some 2) (v := ?_) (a' := ?_) #[true, true, true, true, true, true, true] rfl rfl (by kernel_rfl) (fun _ _ _ h => h) (Or.inl ⟨by rfl, ?_⟩) ?_ ?_
   rotate_left
   ·intro w'
    go_simp
    with_reducible rfl
   rotate_left
   ·simp only [Act.put, List.setIfInBounds_toArray, List.set_cons_zero, List.set_cons_succ, i64_w, i32_w]
    rfl
   refine done_ (by kernel_rfl) ?_
   try go_wp2
   go_ret
   exact ⟨by first | rfl | (simp [errW_none, errW_some] <;> rfl) | (simp [*, errW_none, errW_some] <;> rfl), bs HB GE107⟩

/-! ### spec_l2Text: function 23 -/
/-- Where the row lies that append of a string's bytes tells. -/
theorem spec_l2Text.str_at {P : Program} {w : World} (base : Nat) (t u ty e : TypeId) (i : TypeInfo) (ht : P.underlying t = some (.slice e)) (hu : P.underlying u = some .string) (hi : P.info? e = some i) (hz : i.zero = some (.int .u8 0)) (hsize : i.size = 1) (hby : i.bytes = 1)
    (v : Value) (n : Nat) (xs : List Value) (hown : w.ownsRow base e 1 v n xs) (s : ByteArray) (hbytes : n + s.size ≤ 140737488355328) (hbase : base ≤ w.heap.size) :
    ∃ v' w', (Builtin.append_ #[t, u] ty #[v, .string s]).run P w = .ok v' w' ∧ w'.ownsRow base e 1 v' (n + s.size) (xs ++ Lib.strCells s) ∧ w.grownBy w' v.ownBlock ∧ (∀ k, v'.ownBlock = some k → v.ownBlock = some k ∨ k = w.heap.size) := by
  obtain ⟨v', w', hr, h2, h3, h4⟩ := Lib.run_append_own_string (P := P) w base t u ty e i ht hu hi hz hsize hby v n xs hown s (by unfold maxLen; omega) hbytes hbase
  refine ⟨v', w', hr, h2, h3, ?_⟩
  have hxl : xs.length = n := by simpa using hown.1
  rcases hown.2 with ⟨rfl, rfl⟩ | ⟨g, cap, cur, rfl, hbg, hg, hnc, hcm, hcs, htake⟩
  · by_cases hm : s.size = 0
    · rw [h4.2 ⟨rfl, hm⟩]
      intro k hk
      cases hk
    · rw [run_append_nil_string (P := P) w t u ty e i (.int .u8 0) ht hu hi hz s (by omega) (by omega) (by rw [hby]; omega)] at hr
      injection hr with e1 _
      subst e1
      exact fun k hk => .inr (Option.some.inj hk).symm
  · by_cases hroom : n + s.size ≤ cap
    · have hcs' : cur.size = cap := by simpa using hcs
      rw [Lib.run_append_room_string w t u ty e i ht hu hi hsize g n cap cur hg s hroom (by omega)] at hr
      injection hr with e1 _
      subst e1
      exact fun k hk => .inl hk
    · have holds : ∀ j u, xs[j]? = some u → w.cell? ((⟨g, 0, none⟩ : Addr).add j) = some u := hown.cells (g := g) rfl
      rw [Lib.run_append_grow_string w t u ty e i (.int .u8 0) ht hu hi hz ⟨g, 0, none⟩ n cap xs (by rw [hsize]; simpa using hxl) holds s (by omega) (by omega) (by rw [hby]; exact growslice_fits (by omega) (by omega))] at hr
      injection hr with e1 _
      subst e1
      exact fun k hk => .inr (Option.some.inj hk).symm
theorem spec_l2Text.append_str {P : Program} {ops : Array Oper} {rest : List Oper} {o : Oper} {a : Act} {Q : Exit → Act → World → Prop} {w0 W : World} (base : Nat) (hgd : o.guard = none) (s x : Operand) (t u e : TypeId)
    (ho : o.op = .call { callee := .builtin .append, args := #[s, x], argTypes := #[t, u] })
    (ht : P.underlying t = some (.slice e)) (hu : P.underlying u = some .string) (hinfo : (P.info? e).map (fun i => (i.zero, i.size, i.bytes)) = some (some (.int .u8 0), 1, 1))
    (v : Value) (xs : List Int) (y : ByteArray) (hs : a.eval s = v) (hx : a.eval x = .string y)
    (HO : W.ownsRow base e 1 v xs.length (nums .u8 xs)) (HB : Below base w0 W) (hbase : base ≤ W.heap.size) (hl : xs.length + y.size ≤ 140737488355328)
    (h : ∀ v1 w1, w1.ownsRow base e 1 v1 (xs ++ bytesOf y).length (nums .u8 (xs ++ bytesOf y)) → Below base w0 w1 → W.grownBy w1 v.ownBlock → (∀ k, v1.ownBlock = some k → v.ownBlock = some k ∨ k = W.heap.size) → wpList P ops Q rest (a.put o.dst v1) w1) :
    wpList P ops Q (o :: rest) a W := by
  obtain ⟨i0, hi, hzz⟩ := Option.map_eq_some_iff.1 hinfo
  simp only [Prod.mk.injEq] at hzz
  obtain ⟨hz0, hz1, hz2⟩ := hzz; obtain ⟨v', w', hr, h2, h3, h4⟩ := spec_l2Text.str_at (P := P) base t u o.type e i0 ht hu hi hz0 hz1 hz2 v xs.length (nums .u8 xs) HO y hl hbase
  have hl2 : (xs ++ bytesOf y).length = xs.length + y.size := by rw [List.length_append, bytesOf_length]
  have hc : nums .u8 (xs ++ bytesOf y) = nums .u8 xs ++ Lib.strCells y := by
    rw [nums_append]
    congr 1
    simp [nums, bytesOf, Lib.strCells]
  refine wpList_plain hgd fun K hK => ?_
  unfold Oper.wp execOp
  simp only [ho, resolve, invoke, builtin, Sem.run_bind, Sem.run_pure, Result.andThen_ok, List.map_toArray, List.map_cons, List.map_nil, hs, hx, hr]
  exact hK _ _ (h v' w' (by rw [hl2, hc]; exact h2) (HB.grown h3 hbase (fun k hk => (HO.lt k hk).1)) h3 h4)
mutual
def spec_l2Text.l0 : Nat → List Int → Int → List (S66) → ByteArray → List Int → Option (List Int)
 | 0, _, _, _, _, _ => none
 | k + 1, x2, x8, x110000, x112000, x112001 => if x8 < (x112001.length : Int) then (if x8 > 0 then (if x2.length < 140737488355328 then (if 0 ≤ x8 then ((spec_l2Text.f k x110000 (rd x112001 x8) (x2 ++ [32])).bind fun t122 => (spec_l2Text.l0 k t122 (wrap64 (x8 + 1)) x110000 x112000 x112001)) else (none)) else (none)) else (if 0 ≤ x8 then ((spec_l2Text.f k x110000 (rd x112001 x8) x2).bind fun t126 => (spec_l2Text.l0 k t126 (wrap64 (x8 + 1)) x110000 x112000 x112001)) else (none))) else (if x2.length < 140737488355328 then (some (x2 ++ [41])) else (none))
def spec_l2Text.f : Nat → List (S66) → Int → List Int → Option (List Int)
 | 0, _, _, _ => none
 | k + 1, l0_0, a1, l2 => if 0 ≤ a1 then (if a1 < (l0_0.length : Int) then (if (l2.length : Int) > 20000 then (some l2) else (if ((rd_T66 l0_0 a1).f0).toList = ([] : List UInt8) then (if l2.length < 140737488355328 then (spec_l2Text.l0 k (l2 ++ [40]) 0 l0_0 ((rd_T66 l0_0 a1).f0) ((rd_T66 l0_0 a1).f1)) else (none)) else (if l2.length + ((rd_T66 l0_0 a1).f0).size < 140737488355328 then (some (l2 ++ bytesOf ((rd_T66 l0_0 a1).f0))) else (none)))) else (none)) else (none)
end
def spec_l2Text.T12 : Bool × List (List Nat × List Nat) := (true, [([], []), ([], []), ([1], [1]), ([], []), ([2, 3], [2, 3]), ([4], [4]), ([], []), ([0, 5, 6], [0, 5, 6]), ([7, 7, 0, 1, 2, 3, 4, 5, 6, 7], [6, 7])])
def spec_l2Text.B12 : List Nat := [0, 0, 2, 0, 14, 30, 0, 127, 255]
theorem spec_l2Text.tab12 : rtab .any (opsOf Try.f23 12) = spec_l2Text.T12 := by kernel_rfl
theorem spec_l2Text.bits12 : waitsOk spec_l2Text.T12.2 spec_l2Text.B12 = true := by kernel_rfl
set_option maxHeartbeats 8000000 in
set_option maxRecDepth 100000 in
theorem spec_l2Text.calls (k : Nat) : ∀ (A0_0 : Option Addr) (c0_0 : Nat) (l0_0 : List (S66)) (a1 : Int) (P2_ : Nat → Prop) (u9000_ : Value) (l2 : List Int) (r : List Int) (w0 w : World) (hB : Below w0.heap.size w0 w) (hr0_0 : Kd.C k66 w0 A0_0 l0_0.length l0_0) (hc0_0 : l0_0.length ≤ c0_0) (ho2 : Kd.R (Kd.int .u8) 5 w w0.heap.size P2_ u9000_ l2) (h : spec_l2Text.f k l0_0 a1 l2 = some r),
  Calls Try.prog 23 #[.agg #[.slice A0_0 l0_0.length c0_0], .int .i64 a1, u9000_] w fun e w' => ∃ v0_ : Value, e = .returned (v0_) ∧ Kd.R (Kd.int .u8) 5 w' w0.heap.size (fun k_ => (P2_ k_ ∨ w.heap.size ≤ k_)) v0_ r ∧ Below w0.heap.size w0 w' ∧ Kept w w' (fun k_ => P2_ k_) := by
 induction k using Nat.strongRecOn with
 | _ k ih =>
 intro A0_0 c0_0 l0_0 a1 P2_ u9000_ l2 r w0 w hB hr0_0 hc0_0 ho2 h
 cases k with
 | zero => exact absurd h (by simp [spec_l2Text.f])
 | succ k =>
 simp only [spec_l2Text.f] at h
 have hu29 := Try.underlying29; have hu66 := Try.underlying66; have HR0_0 := Aside0.mk hr0_0; have HC0_0 := Aside0.mk hc0_0; clear hr0_0 hc0_0; have HO2 := Aside0.mk (show Kd.R (Kd.int .u8) 5 w w0.heap.size (fun k_ => (P2_ k_ ∨ w.heap.size ≤ k_)) u9000_ l2 from Kd.R_mono ho2 (fun k_ hk => (.inl hk))); have HK := Aside0.mk (Kept.refl w (fun k_ => P2_ k_)); have HW0 := Aside0.mk hB.size; have HB := Aside0.mk hB; clear hB; have H : (if 0 ≤ a1 then (if a1 < (l0_0.length : Int) then (if (l2.length : Int) > 20000 then (some l2) else (if ((rd_T66 l0_0 a1).f0).toList = ([] : List UInt8) then (if l2.length < 140737488355328 then (spec_l2Text.l0 k (l2 ++ [40]) 0 l0_0 ((rd_T66 l0_0 a1).f0) ((rd_T66 l0_0 a1).f1)) else (none)) else (if l2.length + ((rd_T66 l0_0 a1).f0).size < 140737488355328 then (some (l2 ++ bytesOf ((rd_T66 l0_0 a1).f0))) else (none)))) else (none)) else (none)) = some r := h; clear h
 by_cases c4 : 0 ≤ a1
 ·rw [if_pos c4] at H
  have c4b0 : decide (0 ≤ a1) = true := decide_eq_true c4; clear c4
  by_cases c5 : a1 < (l0_0.length : Int)
  ·rw [if_pos c5] at H
   have c5b0 : decide (a1 < (l0_0.length : Int)) = true := decide_eq_true c5; clear c5
   by_cases c6 : (l2.length : Int) > 20000
   ·rw [if_pos c6] at H
    have c6b0 : decide (20000 < (l2.length : Int)) = true := decide_eq_true c6; have c6b1 : decide (20000 < l2.length) = true := decide_eq_true (by omega); clear c6; obtain rfl := Option.some.inj H
    go_enter Try.func23, Try.ntmps23
    go_wp2_with (first | ((with_reducible refine gate_dst (N := 3) rfl ?_); refine be 3 #[.slice A0_0 l0_0.length c0_0] 29 ?_; intro gb109 hg w7 hbox hb; have n0_ := Aside0.mk (Kd.R_below (rl HO2) hb); have n1_ := Aside0.mk (Kept.below (S := (fun k_ => P2_ k_)) (by repeat (first | (with_reducible first | exact HK.out | apply Kept.alloc | apply Kept.drewN | apply Kept.drew) | exact HK.out)) hb); have n2_ := Aside0.mk (below_step (bl HB) hb); have n3_ := Aside0.mk (hbox); have n4_ := Aside0.mk ((by rw [hg]; exact (by first | exact HK.out.1 | exact (show Kept w _ (fun k_ => P2_ k_) from by repeat (first | (with_reducible first | exact HK.out | apply Kept.alloc | apply Kept.drewN | apply Kept.drew) | exact HK.out)).1) : w.heap.size ≤ gb109)); have n5_ := Aside0.mk ((by rw [hg]; exact (below_size (bl HB)) : w0.heap.size ≤ gb109)); clear HO2; clear HK; clear HB; have HO2 := n0_; have HK := n1_; have HB := n2_; have BK109 := n3_; have GW109 := n4_; have GE109 := n5_; clear n0_ n1_ n2_ n3_ n4_ n5_; clear hb hbox hg; have hcz8_0 : w7.cell? ⟨gb109, 0, none⟩ = some (.slice A0_0 l0_0.length c0_0) := (blk_cell BK109.out 0).trans rfl; have hfz8_0 := blk_frozen BK109.out 0; have p110 : 0 ≤ (a1 : Int) := ode; have q110 : a1 < (l0_0.length : Int) := ode; obtain ⟨ad110, A110_1, c110_1, e110, hx110_0, hx110_1, hl110_1, hi110_1⟩ := at_T66 HR0_0.out a1 p110 q110; replace hx110_0 := (HB.out.cell (World.block_lt_of_cell? w0 _ hx110_0)).trans hx110_0; replace hx110_1 := (HB.out.cell (World.block_lt_of_cell? w0 _ hx110_1)).trans hx110_1; cases e110; have HRK := Aside0.mk hi110_1; have HR110_1 := Aside0.mk (Kd.C_below hi110_1 HB.out); have HC110_1 := Aside0.mk hl110_1; clear hi110_1 hl110_1; replace p110 := eq_true p110; replace q110 := eq_true q110) | ((with_reducible refine gate_dst (N := 7) rfl ?_); refine be 7 #[.string (⟨#[]⟩ : ByteArray), .slice none 0 0] 66 ?_; intro gb111 hg w9 hbox hb; have n0_ := Aside0.mk (Kd.R_below (rl HO2) hb); have n1_ := Aside0.mk (blk_below (g := gb109) (o := .cells #[.slice (some ad110) l0_0.length c0_0] 29 (0, 0)) (bk BK109) hb); have n2_ := Aside0.mk (Kd.C_below (by repeat (first | (with_reducible exact HR110_1.out) | (with_reducible refine Kd.C_alloc ?_ _) | (with_reducible refine Kd.C_drewN ?_ _) | (with_reducible refine Kd.C_drew ?_) | exact HR110_1.out)) hb); have n3_ := Aside0.mk (Kept.below (S := (fun k_ => P2_ k_)) (by repeat (first | (with_reducible first | exact HK.out | apply Kept.alloc | apply Kept.drewN | apply Kept.drew | refine Kept.setCell ?_ (.inr GW109.out) _) | exact HK.out)) hb); have n4_ := Aside0.mk (below_step (bs HB GE109) hb); have n5_ := Aside0.mk (hbox); have n6_ := Aside0.mk ((by rw [hg]; exact (by first | exact HK.out.1 | exact (show Kept w _ (fun k_ => P2_ k_) from by repeat (first | (with_reducible first | exact HK.out | apply Kept.alloc | apply Kept.drewN | apply Kept.drew | refine Kept.setCell ?_ (.inr GW109.out) _) | exact HK.out)).1) : w.heap.size ≤ gb111)); have n7_ := Aside0.mk ((by rw [hg]; exact (below_size (bs HB GE109)) : w0.heap.size ≤ gb111)); have n8_ := Aside0.mk ((by rw [hg]; exact Nat.ne_of_lt (blk_lt (g := gb109) (o := .cells #[.slice (some ad110) l0_0.length c0_0] 29 (0, 0)) (bk BK109)) : gb109 ≠ gb111)); have n9_ := Aside0.mk ((by rw [hg]; exact Nat.ne_of_gt (blk_lt (g := gb109) (o := .cells #[.slice (some ad110) l0_0.length c0_0] 29 (0, 0)) (bk BK109)) : gb111 ≠ gb109)); clear HO2; clear BK109; clear HR110_1; clear HK; clear HB; have HO2 := n0_; have BK109 := n1_; have HR110_1 := n2_; have HK := n3_; have HB := n4_; have BK111 := n5_; have GW111 := n6_; have GE111 := n7_; have NB109_111 := n8_; have NB111_109 := n9_; clear n0_ n1_ n2_ n3_ n4_ n5_ n6_ n7_ n8_ n9_; clear hb hbox hg; have hnb10 := NB111_109.out; have hnc10 := NB109_111.out; have hcz11_0 : w9.cell? ⟨gb111, 0, none⟩ = some (.string (⟨#[]⟩ : ByteArray)) := (blk_cell BK111.out 0).trans rfl; have hcz11_1 : w9.cell? ⟨gb111, 1, none⟩ = some (.slice none 0 0) := (blk_cell BK111.out 1).trans rfl; have hfz11_0 := blk_frozen BK111.out 0; have hfz11_1 := blk_frozen BK111.out 1; obtain ⟨Ao12, co12, eo12⟩ := Kd.R_slice HO2.out; subst eo12))
    go_ret
    exact ⟨_, by first | rfl | (simp [errW_none, errW_some] <;> rfl) | (simp [*, errW_none, errW_some] <;> rfl), by (with_reducible repeat (first | apply Kd.R_alloc | apply Kd.R_drewN | apply Kd.R_drew)); exact Kd.R_mono (Kd.R_far (p := ⟨gb111, 1, none⟩) (Kd.R_far (p := ⟨gb111, 0, none⟩) (Kd.R_types HO2.out BK111.out (by decide)) (fun _ hk => hk.2) (.string ((rd_T66 l0_0 a1).f0))) (fun _ hk => hk.2) (.slice A110_1 ((rd_T66 l0_0 a1).f1).length c110_1)) (fun _ hk => hk.1), bs2 HB GE109 GE111, by repeat (first | (with_reducible first | exact HK.out | apply Kept.alloc | apply Kept.drewN | apply Kept.drew | refine Kept.setCell ?_ (.inr GW109.out) _ | refine Kept.setCell ?_ (.inr GW111.out) _) | exact HK.out)⟩
   ·rw [if_neg c6] at H
    have c6b0 : decide (20000 < (l2.length : Int)) = false := decide_eq_false c6; have c6b1 : decide (20000 < l2.length) = false := decide_eq_false (by omega); clear c6
    by_cases c13 : ((rd_T66 l0_0 a1).f0).toList = ([] : List UInt8)
    ·rw [if_pos c13] at H
     have c13b0 : (((rd_T66 l0_0 a1).f0).toList == ([] : List UInt8)) = true := beq_iff_eq.mpr c13; have c13b1 : (((rd_T66 l0_0 a1).f0).toList != ([] : List UInt8)) = false := bne_eq_false_iff_eq.mpr c13; clear c13
     by_cases c14 : l2.length < 140737488355328
     ·rw [if_pos c14] at H
      have LMc14 := Aside0.mk c14; clear c14; obtain ⟨y115, hy115⟩ : ∃ y_ : List Int, y_ = (l2 ++ [40]) := ⟨_, rfl⟩
      replace H : (spec_l2Text.l0 k y115 0 l0_0 ((rd_T66 l0_0 a1).f0) ((rd_T66 l0_0 a1).f1)) = some r := by first | (rw [hy115]; with_reducible exact H) | (have H2_ := (Option.bind_some _ _).symm.trans H; rw [hy115]; with_reducible exact H2_) | (have H2_ := (Option.bind_some _ _).symm.trans H; with_reducible exact H2_) | with_reducible exact H | (rw [hy115]; exact H) | exact H
      have Ny115 := Aside0.mk hy115; clear hy115; have H' := Aside0.mk H; clear H
      go_enter Try.func23, Try.ntmps23
      go_wp2_with (first | ((with_reducible refine gate_dst (N := 3) rfl ?_); refine be 3 #[.slice A0_0 l0_0.length c0_0] 29 ?_; intro gb109 hg w15 hbox hb; have n0_ := Aside0.mk (Kd.R_below (rl HO2) hb); have n1_ := Aside0.mk (Kept.below (S := (fun k_ => P2_ k_)) (by repeat (first | (with_reducible first | exact HK.out | apply Kept.alloc | apply Kept.drewN | apply Kept.drew) | exact HK.out)) hb); have n2_ := Aside0.mk (below_step (bl HB) hb); have n3_ := Aside0.mk (hbox); have n4_ := Aside0.mk ((by rw [hg]; exact (by first | exact HK.out.1 | exact (show Kept w _ (fun k_ => P2_ k_) from by repeat (first | (with_reducible first | exact HK.out | apply Kept.alloc | apply Kept.drewN | apply Kept.drew) | exact HK.out)).1) : w.heap.size ≤ gb109)); have n5_ := Aside0.mk ((by rw [hg]; exact (below_size (bl HB)) : w0.heap.size ≤ gb109)); clear HO2; clear HK; clear HB; have HO2 := n0_; have HK := n1_; have HB := n2_; have BK109 := n3_; have GW109 := n4_; have GE109 := n5_; clear n0_ n1_ n2_ n3_ n4_ n5_; clear hb hbox hg; have hcz16_0 : w15.cell? ⟨gb109, 0, none⟩ = some (.slice A0_0 l0_0.length c0_0) := (blk_cell BK109.out 0).trans rfl; have hfz16_0 := blk_frozen BK109.out 0; have p110 : 0 ≤ (a1 : Int) := ode; have q110 : a1 < (l0_0.length : Int) := ode; obtain ⟨ad110, A110_1, c110_1, e110, hx110_0, hx110_1, hl110_1, hi110_1⟩ := at_T66 HR0_0.out a1 p110 q110; replace hx110_0 := (HB.out.cell (World.block_lt_of_cell? w0 _ hx110_0)).trans hx110_0; replace hx110_1 := (HB.out.cell (World.block_lt_of_cell? w0 _ hx110_1)).trans hx110_1; cases e110; have HRK := Aside0.mk hi110_1; have HR110_1 := Aside0.mk (Kd.C_below hi110_1 HB.out); have HC110_1 := Aside0.mk hl110_1; clear hi110_1 hl110_1; replace p110 := eq_true p110; replace q110 := eq_true q110) | ((with_reducible refine gate_dst (N := 7) rfl ?_); refine be 7 #[.string (⟨#[]⟩ : ByteArray), .slice none 0 0] 66 ?_; intro gb111 hg w17 hbox hb; have n0_ := Aside0.mk (Kd.R_below (rl HO2) hb); have n1_ := Aside0.mk (blk_below (g := gb109) (o := .cells #[.slice (some ad110) l0_0.length c0_0] 29 (0, 0)) (bk BK109) hb); have n2_ := Aside0.mk (Kd.C_below (by repeat (first | (with_reducible exact HR110_1.out) | (with_reducible refine Kd.C_alloc ?_ _) | (with_reducible refine Kd.C_drewN ?_ _) | (with_reducible refine Kd.C_drew ?_) | exact HR110_1.out)) hb); have n3_ := Aside0.mk (Kept.below (S := (fun k_ => P2_ k_)) (by repeat (first | (with_reducible first | exact HK.out | apply Kept.alloc | apply Kept.drewN | apply Kept.drew | refine Kept.setCell ?_ (.inr GW109.out) _) | exact HK.out)) hb); have n4_ := Aside0.mk (below_step (bs HB GE109) hb); have n5_ := Aside0.mk (hbox); have n6_ := Aside0.mk ((by rw [hg]; exact (by first | exact HK.out.1 | exact (show Kept w _ (fun k_ => P2_ k_) from by repeat (first | (with_reducible first | exact HK.out | apply Kept.alloc | apply Kept.drewN | apply Kept.drew | refine Kept.setCell ?_ (.inr GW109.out) _) | exact HK.out)).1) : w.heap.size ≤ gb111)); have n7_ := Aside0.mk ((by rw [hg]; exact (below_size (bs HB GE109)) : w0.heap.size ≤ gb111)); have n8_ := Aside0.mk ((by rw [hg]; exact Nat.ne_of_lt (blk_lt (g := gb109) (o := .cells #[.slice (some ad110) l0_0.length c0_0] 29 (0, 0)) (bk BK109)) : gb109 ≠ gb111)); have n9_ := Aside0.mk ((by rw [hg]; exact Nat.ne_of_gt (blk_lt (g := gb109) (o := .cells #[.slice (some ad110) l0_0.length c0_0] 29 (0, 0)) (bk BK109)) : gb111 ≠ gb109)); clear HO2; clear BK109; clear HR110_1; clear HK; clear HB; have HO2 := n0_; have BK109 := n1_; have HR110_1 := n2_; have HK := n3_; have HB := n4_; have BK111 := n5_; have GW111 := n6_; have GE111 := n7_; have NB109_111 := n8_; have NB111_109 := n9_; clear n0_ n1_ n2_ n3_ n4_ n5_ n6_ n7_ n8_ n9_; clear hb hbox hg; have hnb18 := NB111_109.out; have hnc18 := NB109_111.out; have hcz19_0 : w17.cell? ⟨gb111, 0, none⟩ = some (.string (⟨#[]⟩ : ByteArray)) := (blk_cell BK111.out 0).trans rfl; have hcz19_1 : w17.cell? ⟨gb111, 1, none⟩ = some (.slice none 0 0) := (blk_cell BK111.out 1).trans rfl; have hfz19_0 := blk_frozen BK111.out 0; have hfz19_1 := blk_frozen BK111.out 1; obtain ⟨Ao20, co20, eo20⟩ := Kd.R_slice HO2.out; subst eo20) | ((with_reducible refine gate_builtin (b := .append) (xs := #[.tmp 25, .tmp 26]) rfl ?_); at_builtin; refine Kd.R_append (Kd.int .u8) (w0 := w0) w0.heap.size rfl (.tmp 25) (.tmp 26) 37 5 (.int .u8 0) 1 rfl Try.underlying37 info5 rfl (by decide) (by omega) (.slice Ao20 l2.length co20) l2 40 [.int .u8 40] (fun k_ => (P2_ k_ ∨ w.heap.size ≤ k_)) (fun _ => False) rfl (by first | (go_simp; done) | (go_simp; rfl)) ?aP (fun _ hk => hk.elim) ?aF ?aO ?aB ?aS ?aL ?_; (case aP => exact rfl); (case aB => exact (bs2 HB GE109 GE111)); (case aF => exact (fun k_ hk => (.inr (Nat.le_trans (show Kept w _ (fun k_ => P2_ k_) from by repeat (first | (with_reducible first | exact HK.out | apply Kept.alloc | apply Kept.drewN | apply Kept.drew | refine Kept.setCell ?_ (.inr GW109.out) _ | refine Kept.setCell ?_ (.inr GW111.out) _) | exact HK.out)).1 hk)))); (case aO => exact (by (with_reducible repeat (first | apply Kd.R_alloc | apply Kd.R_drewN | apply Kd.R_drew)); exact Kd.R_mono (Kd.R_far (p := ⟨gb111, 1, none⟩) (Kd.R_far (p := ⟨gb111, 0, none⟩) (Kd.R_types HO2.out BK111.out (by decide)) (fun _ hk => hk.2) (.string ((rd_T66 l0_0 a1).f0))) (fun _ hk => hk.2) (.slice A110_1 ((rd_T66 l0_0 a1).f1).length c110_1)) (fun _ hk => hk.1))); (case aS => exact (below_size (bs2 HB GE109 GE111))); (case aL => have := LMc14.out; omega); intro v116 w21 ho hb hg hat; rw [← Ny115.out] at ho; have n0_ := Aside0.mk (blk_grown (g := gb109) (o := .cells #[.slice (some ad110) l0_0.length c0_0] 29 (0, 0)) (by (with_reducible repeat (first | refine blk_drewN ?_ _ | refine blk_drew ?_ | refine blk_alloc ?_ _)); refine blk_far ?_ NB109_111.out _; (with_reducible repeat (first | refine blk_drewN ?_ _ | refine blk_drew ?_ | refine blk_alloc ?_ _)); refine blk_far ?_ NB109_111.out _; (with_reducible repeat (first | refine blk_drewN ?_ _ | refine blk_drew ?_ | refine blk_alloc ?_ _)); exact BK109.out) hg (Kd.R_ne HO2.out BK109.out (by decide))); have n1_ := Aside0.mk (blk_grown (g := gb111) (o := .cells #[.string ((rd_T66 l0_0 a1).f0), .slice A110_1 ((rd_T66 l0_0 a1).f1).length c110_1] 66 (0, 0)) (by refine bd ?_; refine blk_put (cs := #[.string ((rd_T66 l0_0 a1).f0), .slice none 0 0]) ?_ 1 _ rfl; refine bd ?_; refine blk_put (cs := #[.string (⟨#[]⟩ : ByteArray), .slice none 0 0]) ?_ 0 _ rfl; (with_reducible repeat (first | refine blk_drewN ?_ _ | refine blk_drew ?_ | refine blk_alloc ?_ _)); exact BK111.out) hg (Kd.R_ne HO2.out BK111.out (by decide))); have n2_ := Aside0.mk (hb); have n3_ := Aside0.mk (Kept.of_grown (S := (fun k_ => P2_ k_)) hg (by repeat (first | (with_reducible first | exact HK.out | apply Kept.alloc | apply Kept.drewN | apply Kept.drew | refine Kept.setCell ?_ (.inr GW109.out) _ | refine Kept.setCell ?_ (.inr GW111.out) _) | exact HK.out)) (fun k_ e_ => (HO2.out.1 k_ e_))); have n4_ := Aside0.mk (ho); clear BK109; clear BK111; clear HB; clear HK; clear HO2; have BK109 := n0_; have BK111 := n1_; have HB := n2_; have HK := n3_; have HO117 := n4_; clear n0_ n1_ n2_ n3_ n4_; clear ho hb hg hat))
      go_loopg [2, 8] k (fun kq v2 v8 w' => ∃ (x2_1 : List Int) (x8_1 : Int), v8 = .int .i64 x8_1 ∧ Aside0 (spec_l2Text.l0 kq x2_1 x8_1 l0_0 ((rd_T66 l0_0 a1).f0) ((rd_T66 l0_0 a1).f1) = some r) ∧ Aside0 (kq ≤ k) ∧ Aside0 (Kd.R (Kd.int .u8) 5 w' w0.heap.size (fun k_ => (P2_ k_ ∨ w.heap.size ≤ k_)) v2 x2_1) ∧ Aside0 (w'.heap[gb109]? = some (.cells #[(.slice (some ad110) l0_0.length c0_0)] 29 (0, 0))) ∧ Aside0 (w'.heap[gb111]? = some (.cells #[.string ((rd_T66 l0_0 a1).f0), (.slice A110_1 ((rd_T66 l0_0 a1).f1).length c110_1)] 66 (0, 0))) ∧ Aside0 (Kept w w' (fun k_ => P2_ k_)) ∧ Aside0 (Below w0.heap.size w0 w'))
      case atStart => exact ⟨(y115), (0), au, H', ⟨Nat.le_refl _⟩, ⟨rl HO117⟩, ⟨bk BK109⟩, ⟨bk BK111⟩, ⟨by repeat (first | (with_reducible first | exact HK.out | apply Kept.alloc | apply Kept.drewN | apply Kept.drew | refine Kept.setCell ?_ (.inr GW109.out) _ | refine Kept.setCell ?_ (.inr GW111.out) _) | exact HK.out)⟩, ⟨bs2 HB GE109 GE111⟩⟩
      case round =>
       clear H'
       try clear c1
       try clear p1
       try clear q1
       try clear hx1
       try clear c2
       try clear p2
       try clear c4
       try clear c4b0
       try clear c5
       try clear c5b0
       try clear c6
       try clear c6b0
       try clear c6b1
       try clear c10
       try clear c11
       try clear p11
       try clear q11
       try clear hx11
       try clear c13
       try clear c13b0
       try clear c13b1
       try clear c14
       try clear c18
       try clear hcz11_0
       try clear hcz11_1
       try clear hcz16_0
       try clear hcz19_0
       try clear hcz19_1
       try clear hcz8_0
       try clear hfz11_0
       try clear hfz11_1
       try clear hfz16_0
       try clear hfz19_0
       try clear hfz19_1
       try clear hfz8_0
       try clear hx110_0
       try clear hx110_1
       try clear p110
       try clear q110
       obtain ⟨x2_1, x8_1, rfl, HA, HK1, HO_2, BK109, BK111, HK, HB⟩ := hrel
       cases gk with
       | zero => exact absurd HA.out (by simp [spec_l2Text.l0])
       | succ k1 =>
        have H := HA.out; clear HA
        simp only [spec_l2Text.l0] at H
        by_cases c22 : x8_1 < (((rd_T66 l0_0 a1).f1).length : Int)
        ·rw [if_pos c22] at H
         have c22b0 : decide (x8_1 < (((rd_T66 l0_0 a1).f1).length : Int)) = true := decide_eq_true c22; clear c22
         by_cases c23 : x8_1 > 0
         ·rw [if_pos c23] at H
          have c23b0 : decide (0 < x8_1) = true := decide_eq_true c23; clear c23
          by_cases c24 : x2_1.length < 140737488355328
          ·rw [if_pos c24] at H
           have LMc24 := Aside0.mk c24; clear c24; obtain ⟨y118, hy118⟩ : ∃ y_ : List Int, y_ = (x2_1 ++ [32]) := ⟨_, rfl⟩
           replace H : (if 0 ≤ x8_1 then ((spec_l2Text.f k1 l0_0 (rd ((rd_T66 l0_0 a1).f1) x8_1) y118).bind fun t122 => (spec_l2Text.l0 k1 t122 (wrap64 (x8_1 + 1)) l0_0 ((rd_T66 l0_0 a1).f0) ((rd_T66 l0_0 a1).f1))) else (none)) = some r := by first | (rw [hy118]; with_reducible exact H) | (have H2_ := (Option.bind_some _ _).symm.trans H; rw [hy118]; with_reducible exact H2_) | (have H2_ := (Option.bind_some _ _).symm.trans H; with_reducible exact H2_) | with_reducible exact H | (rw [hy118]; exact H) | exact H
           have Ny118 := Aside0.mk hy118; clear hy118
           by_cases c25 : 0 ≤ x8_1
           ·rw [if_pos c25] at H
            have c25b0 : decide (0 ≤ x8_1) = true := decide_eq_true c25; clear c25; replace H := Option.bind_eq_some_iff.mp H; obtain ⟨t122, A260, H⟩ := H; replace H : (spec_l2Text.l0 k1 t122 (wrap64 (x8_1 + 1)) l0_0 ((rd_T66 l0_0 a1).f0) ((rd_T66 l0_0 a1).f1)) = some r := H; have A26 := Aside0.mk A260; clear A260; have H' := Aside0.mk H; clear H; have hnb27 := NB111_109.out; have hnc27 := NB109_111.out; have hcz28_0 : wr.cell? ⟨gb111, 0, none⟩ = some (.string ((rd_T66 l0_0 a1).f0)) := (blk_cell BK111.out 0).trans rfl; have hcz28_1 : wr.cell? ⟨gb111, 1, none⟩ = some (.slice A110_1 ((rd_T66 l0_0 a1).f1).length c110_1) := (blk_cell BK111.out 1).trans rfl; have hfz28_0 := blk_frozen BK111.out 0; have hfz28_1 := blk_frozen BK111.out 1
            try go_wp2_with (first | ((with_reducible refine gate_builtin (b := .append) (xs := #[.tmp 37, .tmp 38]) rfl ?_); at_builtin; refine Kd.R_append (Kd.int .u8) (w0 := w0) w0.heap.size rfl (.tmp 37) (.tmp 38) 37 5 (.int .u8 0) 1 rfl Try.underlying37 info5 rfl (by decide) (by omega) u2 x2_1 32 [.int .u8 32] (fun k_ => (P2_ k_ ∨ w.heap.size ≤ k_)) (fun _ => False) rfl rfl ?aP (fun _ hk => hk.elim) ?aF ?aO ?aB ?aS ?aL ?_; (case aP => exact rfl); (case aB => exact (bs2 HB GE109 GE111)); (case aF => exact (fun k_ hk => (.inr (Nat.le_trans (by first | exact HK.out.1 | exact (show Kept w _ (fun k_ => P2_ k_) from by repeat (first | (with_reducible first | exact HK.out | apply Kept.alloc | apply Kept.drewN | apply Kept.drew | refine Kept.setCell ?_ (.inr GW109.out) _ | refine Kept.setCell ?_ (.inr GW111.out) _) | exact HK.out)).1) hk)))); (case aO => exact (rl HO_2)); (case aS => exact (below_size (bs2 HB GE109 GE111))); (case aL => have := LMc24.out; omega); intro v119 w29 ho hb hg hat; rw [← Ny118.out] at ho; have n0_ := Aside0.mk (blk_grown (g := gb109) (o := .cells #[.slice (some ad110) l0_0.length c0_0] 29 (0, 0)) (bk BK109) hg (Kd.R_ne HO_2.out BK109.out (by decide))); have n1_ := Aside0.mk (blk_grown (g := gb111) (o := .cells #[.string ((rd_T66 l0_0 a1).f0), .slice A110_1 ((rd_T66 l0_0 a1).f1).length c110_1] 66 (0, 0)) (bk BK111) hg (Kd.R_ne HO_2.out BK111.out (by decide))); have n2_ := Aside0.mk (hb); have n3_ := Aside0.mk (Kept.of_grown (S := (fun k_ => P2_ k_)) hg (by repeat (first | (with_reducible first | exact HK.out | apply Kept.alloc | apply Kept.drewN | apply Kept.drew | refine Kept.setCell ?_ (.inr GW109.out) _ | refine Kept.setCell ?_ (.inr GW111.out) _) | exact HK.out)) (fun k_ e_ => (HO_2.out.1 k_ e_))); have n4_ := Aside0.mk (ho); clear BK109; clear BK111; clear HB; clear HK; clear HO_2; have BK109 := n0_; have BK111 := n1_; have HB := n2_; have HK := n3_; have HO120 := n4_; clear n0_ n1_ n2_ n3_ n4_; clear ho hb hg hat))
            have n0_ := Aside0.mk (Kd.R_drew HO120.out); have n1_ := Aside0.mk (blk_drew BK109.out); have n2_ := Aside0.mk (blk_drew BK111.out); have n3_ := Aside0.mk (Kept.drew HK.out); have n4_ := Aside0.mk (below_drew1 HB.out); clear HO120; clear BK109; clear BK111; clear HK; clear HB; have HO120 := n0_; have BK109 := n1_; have BK111 := n2_; have HK := n3_; have HB := n4_; clear n0_ n1_ n2_ n3_ n4_; have p121 : 0 ≤ (x8_1 : Int) := ode; have q121 : x8_1 < (((rd_T66 l0_0 a1).f1).length : Int) := ode; obtain ⟨ad121, e121, hx121_0⟩ := Kd.at_int HRK.out x8_1 p121 q121; have hw121_0 := hx121_0
            cases e121
            replace hx121_0 := (HB.out.cell (World.block_lt_of_cell? w0 _ hx121_0)).trans hx121_0; replace p121 := eq_true p121; replace q121 := eq_true q121; obtain ⟨Ao31, co31, eo31⟩ := Kd.R_slice HO120.out
            (first | subst eo31 | (injection eo31 with f1_ f2_ f3_; have f4_ := f1_.symm; have f5_ := f3_.symm; clear f1_ f2_ f3_; subst f4_; subst f5_))
            refine start_ (n := 9) (S := fun w' => w'.cell? ⟨gb109, 0, none⟩ = some (.slice (some ad110) l0_0.length c0_0) ∧ w'.cell? ⟨gb111, 0, none⟩ = some (.string ((rd_T66 l0_0 a1).f0)) ∧ w'.cell? ⟨gb111, 1, none⟩ = some (.slice (some ad121) ((rd_T66 l0_0 a1).f1).length c110_1) ∧ w'.cell? (ad121.add (x8_1).toNat) = some (.int .i64 (rd ((rd_T66 l0_0 a1).f1) x8_1))) (ds := []) (tf 0 9) (by kernel_rfl) rfl rfl ⟨(blk_cell BK109.out 0).trans rfl, (blk_cell BK111.out 0).trans rfl, (blk_cell BK111.out 1).trans rfl, ((HB.out.cell (World.block_lt_of_cell? w0 _ hw121_0)).trans hw121_0)⟩ (fun hHeld => ?_); refine with_tabW spec_l2Text.tab12 spec_l2Text.bits12 (fun HT_ HW_ => ?_); generalize w29.drew = w30 at HO120 BK109 BK111 HK HB hx121_0 hHeld ⊢; refine pq HT_ 1 41 9 2 ?_; refine pq HT_ 3 43 9 10 ?_; refine pq HT_ 6 46 9 74 ?_; refine tq HT_ HW_ hHeld 0 40 9 75 ?_; refine tq HT_ HW_ hHeld 2 42 9 79 ?_; refine pq HT_ 4 44 9 95 ?_; refine tq HT_ HW_ hHeld 5 45 9 127 ?_; refine on HT_ 7 47 1 (fun K hK => ?_); refine goes_ Try.func23 (by kernel_rfl) rfl #[.agg #[.slice (some ad110) l0_0.length c0_0], .int .i64 (rd ((rd_T66 l0_0 a1).f1) x8_1), .slice Ao31 y118.length co31] (by rfl) rfl rfl ma ?_; (with_reducible refine (ih k1 (by have := HK1.out; omega) _ _ l0_0 (rd ((rd_T66 l0_0 a1).f1) x8_1) (fun k_ => some k_ = (.slice Ao31 y118.length co31 : Value).ownBlock) (.slice Ao31 y118.length co31) y118 t122 w0 _ ?side1 ?side2 ?side3 ?side4 A26.out).mono ?_)
            (case side1 => repeat (first | (with_reducible first | exact HB.out | apply below_alloc | apply pw_below_drewN | apply below_drew1 | refine below_set ?_ GE109.out | refine below_set ?_ GE111.out) | exact HB.out)); (case side2 => exact HR0_0.out)
            (case side3 => exact HC0_0.out); (case side4 => exact Kd.R_tight rfl HO120.out)
            rintro e w32 ⟨v123, rfl, ho0, hb, hkp⟩; refine ⟨_, rfl, ?_⟩; have n0_ := Aside0.mk (blk_kept (bk BK109) hkp (fun hs_ => (fun e_ => (Kd.R_ne HO120.out BK109.out (by decide)) e_) hs_)); have n1_ := Aside0.mk (blk_kept (bk BK111) hkp (fun hs_ => (fun e_ => (Kd.R_ne HO120.out BK111.out (by decide)) e_) hs_)); have n2_ := Aside0.mk (Kd.R_mono (ok' := fun k_ => (P2_ k_ ∨ w.heap.size ≤ k_)) ho0 (fun k_ hk_ => Or.elim hk_ (fun hs_ => (HO120.out.1 k_ (hs_).symm)) (fun hn_ => (.inr (Nat.le_trans (by first | exact HK.out.1 | exact (show Kept w _ (fun k_ => P2_ k_) from by repeat (first | (with_reducible first | exact HK.out | apply Kept.alloc | apply Kept.drewN | apply Kept.drew | refine Kept.setCell ?_ (.inr GW109.out) _ | refine Kept.setCell ?_ (.inr GW111.out) _) | exact HK.out)).1) hn_))))); have n3_ := Aside0.mk (Kept.then_ (S := (fun k_ => P2_ k_)) (by repeat (first | (with_reducible first | exact HK.out | apply Kept.alloc | apply Kept.drewN | apply Kept.drew | refine Kept.setCell ?_ (.inr GW109.out) _ | refine Kept.setCell ?_ (.inr GW111.out) _) | exact HK.out)) hkp (fun k_ hs_ => (fun e_ => (HO120.out.1 k_ e_.symm)) hs_)); have n4_ := Aside0.mk (hb); clear BK109; clear BK111; clear HK; clear HB; clear HO120; have BK109 := n0_; have BK111 := n1_; have HO124 := n2_; have HK := n3_; have HB := n4_; clear n0_ n1_ n2_ n3_ n4_; (try clear hb)
            (try clear hkp); (try clear ho0)
            refine hK.out _ _ ⟨(blk_cell BK109.out 0).trans rfl, (blk_cell BK111.out 0).trans rfl, (blk_cell BK111.out 1).trans rfl, ((HB.out.cell (World.block_lt_of_cell? w0 _ hw121_0)).trans hw121_0)⟩ (fun hHeld => ?_); clear hK K; refine nm 47 ?_; refine pu HT_ 8 2 0 ?_; refine done_ (done_of HT_.out (by kernel_rfl)) ?_
            try go_wp2
            go_roundg k1
            case measure => have := HK1.out; omega
            case rel => exact ⟨(t122), (wrap64 (x8_1 + 1)), au, H', ⟨by have := HK1.out; omega⟩, ⟨rl HO124⟩, ⟨bk BK109⟩, ⟨bk BK111⟩, ⟨by repeat (first | (with_reducible first | exact HK.out | apply Kept.alloc | apply Kept.drewN | apply Kept.drew | refine Kept.setCell ?_ (.inr GW109.out) _ | refine Kept.setCell ?_ (.inr GW111.out) _) | exact HK.out)⟩, ⟨bs2 HB GE109 GE111⟩⟩
           ·rw [if_neg c25] at H
            exact absurd H (by simp)
          ·rw [if_neg c24] at H
           exact absurd H (by simp)
         ·rw [if_neg c23] at H
          have c23b0 : decide (0 < x8_1) = false := decide_eq_false c23; clear c23
          by_cases c33 : 0 ≤ x8_1
          ·rw [if_pos c33] at H
           have c33b0 : decide (0 ≤ x8_1) = true := decide_eq_true c33; clear c33; replace H := Option.bind_eq_some_iff.mp H; obtain ⟨t126, A340, H⟩ := H; replace H : (spec_l2Text.l0 k1 t126 (wrap64 (x8_1 + 1)) l0_0 ((rd_T66 l0_0 a1).f0) ((rd_T66 l0_0 a1).f1)) = some r := H; have A34 := Aside0.mk A340; clear A340; have H' := Aside0.mk H; clear H; have hnb35 := NB111_109.out; have hnc35 := NB109_111.out; have hcz36_0 : wr.cell? ⟨gb111, 0, none⟩ = some (.string ((rd_T66 l0_0 a1).f0)) := (blk_cell BK111.out 0).trans rfl; have hcz36_1 : wr.cell? ⟨gb111, 1, none⟩ = some (.slice A110_1 ((rd_T66 l0_0 a1).f1).length c110_1) := (blk_cell BK111.out 1).trans rfl; have hfz36_0 := blk_frozen BK111.out 0; have hfz36_1 := blk_frozen BK111.out 1
           try go_wp2
           have n0_ := Aside0.mk (Kd.R_drew HO_2.out); have n1_ := Aside0.mk (blk_drew BK109.out); have n2_ := Aside0.mk (blk_drew BK111.out); have n3_ := Aside0.mk (Kept.drew HK.out); have n4_ := Aside0.mk (below_drew1 HB.out); clear HO_2; clear BK109; clear BK111; clear HK; clear HB; have HO_2 := n0_; have BK109 := n1_; have BK111 := n2_; have HK := n3_; have HB := n4_; clear n0_ n1_ n2_ n3_ n4_; have p125 : 0 ≤ (x8_1 : Int) := ode; have q125 : x8_1 < (((rd_T66 l0_0 a1).f1).length : Int) := ode; obtain ⟨ad125, e125, hx125_0⟩ := Kd.at_int HRK.out x8_1 p125 q125; have hw125_0 := hx125_0
           cases e125
           replace hx125_0 := (HB.out.cell (World.block_lt_of_cell? w0 _ hx125_0)).trans hx125_0; replace p125 := eq_true p125; replace q125 := eq_true q125; obtain ⟨Ao38, co38, eo38⟩ := Kd.R_slice HO_2.out
           (first | subst eo38 | (injection eo38 with f1_ f2_ f3_; have f4_ := f1_.symm; have f5_ := f3_.symm; clear f1_ f2_ f3_; subst f4_; subst f5_))
           refine start_ (n := 9) (S := fun w' => w'.cell? ⟨gb109, 0, none⟩ = some (.slice (some ad110) l0_0.length c0_0) ∧ w'.cell? ⟨gb111, 0, none⟩ = some (.string ((rd_T66 l0_0 a1).f0)) ∧ w'.cell? ⟨gb111, 1, none⟩ = some (.slice (some ad125) ((rd_T66 l0_0 a1).f1).length c110_1) ∧ w'.cell? (ad125.add (x8_1).toNat) = some (.int .i64 (rd ((rd_T66 l0_0 a1).f1) x8_1))) (ds := []) (tf 0 9) (by kernel_rfl) rfl rfl ⟨(blk_cell BK109.out 0).trans rfl, (blk_cell BK111.out 0).trans rfl, (blk_cell BK111.out 1).trans rfl, ((HB.out.cell (World.block_lt_of_cell? w0 _ hw125_0)).trans hw125_0)⟩ (fun hHeld => ?_); refine with_tabW spec_l2Text.tab12 spec_l2Text.bits12 (fun HT_ HW_ => ?_); generalize wr.drew = w37 at HO_2 BK109 BK111 HK HB hx125_0 hHeld ⊢; refine pq HT_ 1 41 9 2 ?_; refine pq HT_ 3 43 9 10 ?_; refine pq HT_ 6 46 9 74 ?_; refine tq HT_ HW_ hHeld 0 40 9 75 ?_; refine tq HT_ HW_ hHeld 2 42 9 79 ?_; refine pq HT_ 4 44 9 95 ?_; refine tq HT_ HW_ hHeld 5 45 9 127 ?_; refine on HT_ 7 47 1 (fun K hK => ?_); refine goes_ Try.func23 (by kernel_rfl) rfl #[.agg #[.slice (some ad110) l0_0.length c0_0], .int .i64 (rd ((rd_T66 l0_0 a1).f1) x8_1), .slice Ao38 x2_1.length co38] (by rfl) rfl rfl ma ?_; (with_reducible refine (ih k1 (by have := HK1.out; omega) _ _ l0_0 (rd ((rd_T66 l0_0 a1).f1) x8_1) (fun k_ => some k_ = (.slice Ao38 x2_1.length co38 : Value).ownBlock) (.slice Ao38 x2_1.length co38) x2_1 t126 w0 _ ?side1 ?side2 ?side3 ?side4 A34.out).mono ?_)
           (case side1 => repeat (first | (with_reducible first | exact HB.out | apply below_alloc | apply pw_below_drewN | apply below_drew1 | refine below_set ?_ GE109.out | refine below_set ?_ GE111.out) | exact HB.out)); (case side2 => exact HR0_0.out)
           (case side3 => exact HC0_0.out); (case side4 => exact Kd.R_tight rfl HO_2.out)
           rintro e w39 ⟨v127, rfl, ho0, hb, hkp⟩; refine ⟨_, rfl, ?_⟩; have n0_ := Aside0.mk (blk_kept (bk BK109) hkp (fun hs_ => (fun e_ => (Kd.R_ne HO_2.out BK109.out (by decide)) e_) hs_)); have n1_ := Aside0.mk (blk_kept (bk BK111) hkp (fun hs_ => (fun e_ => (Kd.R_ne HO_2.out BK111.out (by decide)) e_) hs_)); have n2_ := Aside0.mk (Kd.R_mono (ok' := fun k_ => (P2_ k_ ∨ w.heap.size ≤ k_)) ho0 (fun k_ hk_ => Or.elim hk_ (fun hs_ => (HO_2.out.1 k_ (hs_).symm)) (fun hn_ => (.inr (Nat.le_trans (by first | exact HK.out.1 | exact (show Kept w _ (fun k_ => P2_ k_) from by repeat (first | (with_reducible first | exact HK.out | apply Kept.alloc | apply Kept.drewN | apply Kept.drew | refine Kept.setCell ?_ (.inr GW109.out) _ | refine Kept.setCell ?_ (.inr GW111.out) _) | exact HK.out)).1) hn_))))); have n3_ := Aside0.mk (Kept.then_ (S := (fun k_ => P2_ k_)) (by repeat (first | (with_reducible first | exact HK.out | apply Kept.alloc | apply Kept.drewN | apply Kept.drew | refine Kept.setCell ?_ (.inr GW109.out) _ | refine Kept.setCell ?_ (.inr GW111.out) _) | exact HK.out)) hkp (fun k_ hs_ => (fun e_ => (HO_2.out.1 k_ e_.symm)) hs_)); have n4_ := Aside0.mk (hb); clear BK109; clear BK111; clear HK; clear HB; clear HO_2; have BK109 := n0_; have BK111 := n1_; have HO128 := n2_; have HK := n3_; have HB := n4_; clear n0_ n1_ n2_ n3_ n4_; (try clear hb)
           (try clear hkp); (try clear ho0)
           refine hK.out _ _ ⟨(blk_cell BK109.out 0).trans rfl, (blk_cell BK111.out 0).trans rfl, (blk_cell BK111.out 1).trans rfl, ((HB.out.cell (World.block_lt_of_cell? w0 _ hw125_0)).trans hw125_0)⟩ (fun hHeld => ?_); clear hK K; refine nm 47 ?_; refine pu HT_ 8 2 0 ?_; refine done_ (done_of HT_.out (by kernel_rfl)) ?_
           try go_wp2
           go_roundg k1
           case measure => have := HK1.out; omega
           case rel => exact ⟨(t126), (wrap64 (x8_1 + 1)), au, H', ⟨by have := HK1.out; omega⟩, ⟨rl HO128⟩, ⟨bk BK109⟩, ⟨bk BK111⟩, ⟨by repeat (first | (with_reducible first | exact HK.out | apply Kept.alloc | apply Kept.drewN | apply Kept.drew | refine Kept.setCell ?_ (.inr GW109.out) _ | refine Kept.setCell ?_ (.inr GW111.out) _) | exact HK.out)⟩, ⟨bs2 HB GE109 GE111⟩⟩
          ·rw [if_neg c33] at H
           exact absurd H (by simp)
        ·rw [if_neg c22] at H
         have c22b0 : decide (x8_1 < (((rd_T66 l0_0 a1).f1).length : Int)) = false := decide_eq_false c22; clear c22
         by_cases c40 : x2_1.length < 140737488355328
         ·rw [if_pos c40] at H
          have LMc40 := Aside0.mk c40; clear c40; obtain ⟨y129, hy129⟩ : ∃ y_ : List Int, y_ = (x2_1 ++ [41]) := ⟨_, rfl⟩
          replace H : (some y129) = some r := by first | (rw [hy129]; with_reducible exact H) | (have H2_ := (Option.bind_some _ _).symm.trans H; rw [hy129]; with_reducible exact H2_) | (have H2_ := (Option.bind_some _ _).symm.trans H; with_reducible exact H2_) | with_reducible exact H | (rw [hy129]; exact H) | exact H
          have Ny129 := Aside0.mk hy129; clear hy129; obtain rfl := Option.some.inj H; have hnb41 := NB111_109.out; have hnc41 := NB109_111.out; have hcz42_0 : wr.cell? ⟨gb111, 0, none⟩ = some (.string ((rd_T66 l0_0 a1).f0)) := (blk_cell BK111.out 0).trans rfl; have hcz42_1 : wr.cell? ⟨gb111, 1, none⟩ = some (.slice A110_1 ((rd_T66 l0_0 a1).f1).length c110_1) := (blk_cell BK111.out 1).trans rfl; have hfz42_0 := blk_frozen BK111.out 0; have hfz42_1 := blk_frozen BK111.out 1
          go_wp2_with (first | ((with_reducible refine gate_builtin (b := .append) (xs := #[.tmp 48, .tmp 49]) rfl ?_); at_builtin; refine Kd.R_append (Kd.int .u8) (w0 := w0) w0.heap.size rfl (.tmp 48) (.tmp 49) 37 5 (.int .u8 0) 1 rfl Try.underlying37 info5 rfl (by decide) (by omega) u2 x2_1 41 [.int .u8 41] (fun k_ => (P2_ k_ ∨ w.heap.size ≤ k_)) (fun _ => False) rfl rfl ?aP (fun _ hk => hk.elim) ?aF ?aO ?aB ?aS ?aL ?_; (case aP => exact rfl); (case aB => exact (bs2 HB GE109 GE111)); (case aF => exact (fun k_ hk => (.inr (Nat.le_trans (by first | exact HK.out.1 | exact (show Kept w _ (fun k_ => P2_ k_) from by repeat (first | (with_reducible first | exact HK.out | apply Kept.alloc | apply Kept.drewN | apply Kept.drew | refine Kept.setCell ?_ (.inr GW109.out) _ | refine Kept.setCell ?_ (.inr GW111.out) _) | exact HK.out)).1) hk)))); (case aO => exact (rl HO_2)); (case aS => exact (below_size (bs2 HB GE109 GE111))); (case aL => have := LMc40.out; omega); intro v130 w43 ho hb hg hat; rw [← Ny129.out] at ho; have n0_ := Aside0.mk (blk_grown (g := gb109) (o := .cells #[.slice (some ad110) l0_0.length c0_0] 29 (0, 0)) (bk BK109) hg (Kd.R_ne HO_2.out BK109.out (by decide))); have n1_ := Aside0.mk (blk_grown (g := gb111) (o := .cells #[.string ((rd_T66 l0_0 a1).f0), .slice A110_1 ((rd_T66 l0_0 a1).f1).length c110_1] 66 (0, 0)) (bk BK111) hg (Kd.R_ne HO_2.out BK111.out (by decide))); have n2_ := Aside0.mk (hb); have n3_ := Aside0.mk (Kept.of_grown (S := (fun k_ => P2_ k_)) hg (by repeat (first | (with_reducible first | exact HK.out | apply Kept.alloc | apply Kept.drewN | apply Kept.drew | refine Kept.setCell ?_ (.inr GW109.out) _ | refine Kept.setCell ?_ (.inr GW111.out) _) | exact HK.out)) (fun k_ e_ => (HO_2.out.1 k_ e_))); have n4_ := Aside0.mk (ho); clear BK109; clear BK111; clear HB; clear HK; clear HO_2; have BK109 := n0_; have BK111 := n1_; have HB := n2_; have HK := n3_; have HO131 := n4_; clear n0_ n1_ n2_ n3_ n4_; clear ho hb hg hat))
          go_ret
          exact ⟨_, by first | rfl | (simp [errW_none, errW_some] <;> rfl) | (simp [*, errW_none, errW_some] <;> rfl), by (with_reducible repeat (first | apply Kd.R_alloc | apply Kd.R_drewN | apply Kd.R_drew)); exact HO131.out, bs2 HB GE109 GE111, by repeat (first | (with_reducible first | exact HK.out | apply Kept.alloc | apply Kept.drewN | apply Kept.drew | refine Kept.setCell ?_ (.inr GW109.out) _ | refine Kept.setCell ?_ (.inr GW111.out) _) | exact HK.out)⟩
         ·rw [if_neg c40] at H
          exact absurd H (by simp)
     ·rw [if_neg c14] at H
      exact absurd H (by simp)
    ·rw [if_neg c13] at H
     have c13b0 : (((rd_T66 l0_0 a1).f0).toList == ([] : List UInt8)) = false := beq_eq_false_iff_ne.mpr c13; have c13b1 : (((rd_T66 l0_0 a1).f0).toList != ([] : List UInt8)) = true := bne_iff_ne.mpr c13
     by_cases c44 : l2.length + ((rd_T66 l0_0 a1).f0).size < 140737488355328
     ·rw [if_pos c44] at H
      have LMc44 := Aside0.mk c44; clear c44; obtain ⟨y112, hy112⟩ : ∃ y_ : List Int, y_ = (l2 ++ bytesOf ((rd_T66 l0_0 a1).f0)) := ⟨_, rfl⟩
      replace H : (some y112) = some r := by first | (rw [hy112]; with_reducible exact H) | (have H2_ := (Option.bind_some _ _).symm.trans H; rw [hy112]; with_reducible exact H2_) | (have H2_ := (Option.bind_some _ _).symm.trans H; with_reducible exact H2_) | with_reducible exact H | (rw [hy112]; exact H) | exact H
      have Ny112 := Aside0.mk hy112; clear hy112; obtain rfl := Option.some.inj H
      go_enter Try.func23, Try.ntmps23
      go_wp2_with (first | ((with_reducible refine gate_dst (N := 3) rfl ?_); refine be 3 #[.slice A0_0 l0_0.length c0_0] 29 ?_; intro gb109 hg w45 hbox hb; have n0_ := Aside0.mk (Kd.R_below (rl HO2) hb); have n1_ := Aside0.mk (Kept.below (S := (fun k_ => P2_ k_)) (by repeat (first | (with_reducible first | exact HK.out | apply Kept.alloc | apply Kept.drewN | apply Kept.drew) | exact HK.out)) hb); have n2_ := Aside0.mk (below_step (bl HB) hb); have n3_ := Aside0.mk (hbox); have n4_ := Aside0.mk ((by rw [hg]; exact (by first | exact HK.out.1 | exact (show Kept w _ (fun k_ => P2_ k_) from by repeat (first | (with_reducible first | exact HK.out | apply Kept.alloc | apply Kept.drewN | apply Kept.drew) | exact HK.out)).1) : w.heap.size ≤ gb109)); have n5_ := Aside0.mk ((by rw [hg]; exact (below_size (bl HB)) : w0.heap.size ≤ gb109)); clear HO2; clear HK; clear HB; have HO2 := n0_; have HK := n1_; have HB := n2_; have BK109 := n3_; have GW109 := n4_; have GE109 := n5_; clear n0_ n1_ n2_ n3_ n4_ n5_; clear hb hbox hg; have hcz46_0 : w45.cell? ⟨gb109, 0, none⟩ = some (.slice A0_0 l0_0.length c0_0) := (blk_cell BK109.out 0).trans rfl; have hfz46_0 := blk_frozen BK109.out 0; have p110 : 0 ≤ (a1 : Int) := ode; have q110 : a1 < (l0_0.length : Int) := ode; obtain ⟨ad110, A110_1, c110_1, e110, hx110_0, hx110_1, hl110_1, hi110_1⟩ := at_T66 HR0_0.out a1 p110 q110; replace hx110_0 := (HB.out.cell (World.block_lt_of_cell? w0 _ hx110_0)).trans hx110_0; replace hx110_1 := (HB.out.cell (World.block_lt_of_cell? w0 _ hx110_1)).trans hx110_1; cases e110; have HRK := Aside0.mk hi110_1; have HR110_1 := Aside0.mk (Kd.C_below hi110_1 HB.out); have HC110_1 := Aside0.mk hl110_1; clear hi110_1 hl110_1; replace p110 := eq_true p110; replace q110 := eq_true q110) | ((with_reducible refine gate_dst (N := 7) rfl ?_); refine be 7 #[.string (⟨#[]⟩ : ByteArray), .slice none 0 0] 66 ?_; intro gb111 hg w47 hbox hb; have n0_ := Aside0.mk (Kd.R_below (rl HO2) hb); have n1_ := Aside0.mk (blk_below (g := gb109) (o := .cells #[.slice (some ad110) l0_0.length c0_0] 29 (0, 0)) (bk BK109) hb); have n2_ := Aside0.mk (Kd.C_below (by repeat (first | (with_reducible exact HR110_1.out) | (with_reducible refine Kd.C_alloc ?_ _) | (with_reducible refine Kd.C_drewN ?_ _) | (with_reducible refine Kd.C_drew ?_) | exact HR110_1.out)) hb); have n3_ := Aside0.mk (Kept.below (S := (fun k_ => P2_ k_)) (by repeat (first | (with_reducible first | exact HK.out | apply Kept.alloc | apply Kept.drewN | apply Kept.drew | refine Kept.setCell ?_ (.inr GW109.out) _) | exact HK.out)) hb); have n4_ := Aside0.mk (below_step (bs HB GE109) hb); have n5_ := Aside0.mk (hbox); have n6_ := Aside0.mk ((by rw [hg]; exact (by first | exact HK.out.1 | exact (show Kept w _ (fun k_ => P2_ k_) from by repeat (first | (with_reducible first | exact HK.out | apply Kept.alloc | apply Kept.drewN | apply Kept.drew | refine Kept.setCell ?_ (.inr GW109.out) _) | exact HK.out)).1) : w.heap.size ≤ gb111)); have n7_ := Aside0.mk ((by rw [hg]; exact (below_size (bs HB GE109)) : w0.heap.size ≤ gb111)); have n8_ := Aside0.mk ((by rw [hg]; exact Nat.ne_of_lt (blk_lt (g := gb109) (o := .cells #[.slice (some ad110) l0_0.length c0_0] 29 (0, 0)) (bk BK109)) : gb109 ≠ gb111)); have n9_ := Aside0.mk ((by rw [hg]; exact Nat.ne_of_gt (blk_lt (g := gb109) (o := .cells #[.slice (some ad110) l0_0.length c0_0] 29 (0, 0)) (bk BK109)) : gb111 ≠ gb109)); clear HO2; clear BK109; clear HR110_1; clear HK; clear HB; have HO2 := n0_; have BK109 := n1_; have HR110_1 := n2_; have HK := n3_; have HB := n4_; have BK111 := n5_; have GW111 := n6_; have GE111 := n7_; have NB109_111 := n8_; have NB111_109 := n9_; clear n0_ n1_ n2_ n3_ n4_ n5_ n6_ n7_ n8_ n9_; clear hb hbox hg; have hnb48 := NB111_109.out; have hnc48 := NB109_111.out; have hcz49_0 : w47.cell? ⟨gb111, 0, none⟩ = some (.string (⟨#[]⟩ : ByteArray)) := (blk_cell BK111.out 0).trans rfl; have hcz49_1 : w47.cell? ⟨gb111, 1, none⟩ = some (.slice none 0 0) := (blk_cell BK111.out 1).trans rfl; have hfz49_0 := blk_frozen BK111.out 0; have hfz49_1 := blk_frozen BK111.out 1; obtain ⟨Ao50, co50, eo50⟩ := Kd.R_slice HO2.out; subst eo50) | (at_builtin; refine spec_l2Text.append_str (w0 := w0) w0.heap.size rfl (.tmp 21) _ 37 9 5 rfl Try.underlying37 Try.underlying9 info5 (.slice Ao50 l2.length co50) l2 ((rd_T66 l0_0 a1).f0) rfl rfl ?aO ?aB ?aS ?aL ?_; (case aB => exact (bs2 HB GE109 GE111)); (case aO => exact (Kd.own_of_R (by (with_reducible repeat (first | apply Kd.R_alloc | apply Kd.R_drewN | apply Kd.R_drew)); exact Kd.R_mono (Kd.R_far (p := ⟨gb111, 1, none⟩) (Kd.R_far (p := ⟨gb111, 0, none⟩) (Kd.R_types HO2.out BK111.out (by decide)) (fun _ hk => hk.2) (.string ((rd_T66 l0_0 a1).f0))) (fun _ hk => hk.2) (.slice A110_1 ((rd_T66 l0_0 a1).f1).length c110_1)) (fun _ hk => hk.1)))); (case aS => exact (below_size (bs2 HB GE109 GE111))); (case aL => have := LMc44.out; omega); intro v113 w51 ho0 hb hg hat0; have ho := Kd.R_of_own (h1 := fun _ => rfl) (ok := fun k_ => (P2_ k_ ∨ w.heap.size ≤ k_)) ho0 (fun k_ hk_ => (hat0 k_ hk_).elim (fun h_ => HO2.out.1 k_ h_) (fun h_ => .inr (by rw [h_]; exact (show Kept w _ (fun k_ => P2_ k_) from by repeat (first | (with_reducible first | exact HK.out | apply Kept.alloc | apply Kept.drewN | apply Kept.drew | refine Kept.setCell ?_ (.inr GW109.out) _ | refine Kept.setCell ?_ (.inr GW111.out) _) | exact HK.out)).1))); clear ho0; have hat := True.intro; rw [← Ny112.out] at ho; change Kd.R (Kd.int .u8) 5 w51 w0.heap.size (fun k_ => (P2_ k_ ∨ w.heap.size ≤ k_)) v113 y112 at ho; have n0_ := Aside0.mk (blk_grown (g := gb109) (o := .cells #[.slice (some ad110) l0_0.length c0_0] 29 (0, 0)) (by (with_reducible repeat (first | refine blk_drewN ?_ _ | refine blk_drew ?_ | refine blk_alloc ?_ _)); refine blk_far ?_ NB109_111.out _; (with_reducible repeat (first | refine blk_drewN ?_ _ | refine blk_drew ?_ | refine blk_alloc ?_ _)); refine blk_far ?_ NB109_111.out _; (with_reducible repeat (first | refine blk_drewN ?_ _ | refine blk_drew ?_ | refine blk_alloc ?_ _)); exact BK109.out) hg (Kd.R_ne HO2.out BK109.out (by decide))); have n1_ := Aside0.mk (blk_grown (g := gb111) (o := .cells #[.string ((rd_T66 l0_0 a1).f0), .slice A110_1 ((rd_T66 l0_0 a1).f1).length c110_1] 66 (0, 0)) (by refine bd ?_; refine blk_put (cs := #[.string ((rd_T66 l0_0 a1).f0), .slice none 0 0]) ?_ 1 _ rfl; refine bd ?_; refine blk_put (cs := #[.string (⟨#[]⟩ : ByteArray), .slice none 0 0]) ?_ 0 _ rfl; (with_reducible repeat (first | refine blk_drewN ?_ _ | refine blk_drew ?_ | refine blk_alloc ?_ _)); exact BK111.out) hg (Kd.R_ne HO2.out BK111.out (by decide))); have n2_ := Aside0.mk (hb); have n3_ := Aside0.mk (Kept.of_grown (S := (fun k_ => P2_ k_)) hg (by repeat (first | (with_reducible first | exact HK.out | apply Kept.alloc | apply Kept.drewN | apply Kept.drew | refine Kept.setCell ?_ (.inr GW109.out) _ | refine Kept.setCell ?_ (.inr GW111.out) _) | exact HK.out)) (fun k_ e_ => (HO2.out.1 k_ e_))); have n4_ := Aside0.mk (ho); clear BK109; clear BK111; clear HB; clear HK; clear HO2; have BK109 := n0_; have BK111 := n1_; have HB := n2_; have HK := n3_; have HO114 := n4_; clear n0_ n1_ n2_ n3_ n4_; clear ho hb hg hat))
      go_ret
      exact ⟨_, by first | rfl | (simp [errW_none, errW_some] <;> rfl) | (simp [*, errW_none, errW_some] <;> rfl), by (with_reducible repeat (first | apply Kd.R_alloc | apply Kd.R_drewN | apply Kd.R_drew)); exact HO114.out, bs2 HB GE109 GE111, by repeat (first | (with_reducible first | exact HK.out | apply Kept.alloc | apply Kept.drewN | apply Kept.drew | refine Kept.setCell ?_ (.inr GW109.out) _ | refine Kept.setCell ?_ (.inr GW111.out) _) | exact HK.out)⟩
     ·rw [if_neg c44] at H
      exact absurd H (by simp)
  ·rw [if_neg c5] at H
   exact absurd H (by simp)
 ·rw [if_neg c4] at H
  exact absurd H (by simp)

/-! ### spec_WriteTree: function 7 -/
def spec_WriteTree.f (k : Nat) (l0_0 : List (S66)) : Option (ByteArray) := (spec_TreeOk.f k l0_0).bind fun t133 => (if t133 = true then ((spec_l2Text.f k l0_0 0 (([] : List Int))).bind fun t137 => (if (t137.length : Int) > 20000 then (some (⟨#[]⟩ : ByteArray)) else (some (strOfNums t137)))) else (some (⟨#[]⟩ : ByteArray)))
set_option maxHeartbeats 8000000 in
set_option maxRecDepth 100000 in
theorem spec_WriteTree.calls (k : Nat) (A0_0 : Option Addr) (c0_0 : Nat) (l0_0 : List (S66)) (r : ByteArray) (w : World) (hr0_0 : Kd.C k66 w A0_0 l0_0.length l0_0) (hc0_0 : l0_0.length ≤ c0_0) (h : spec_WriteTree.f k l0_0 = some r) :
  Calls Try.prog 7 #[.agg #[.slice A0_0 l0_0.length c0_0]] w fun e w' => e = .returned (.string r) ∧ Below w.heap.size w w' := by
 have hu29 := Try.underlying29; have HR0_0 := Aside0.mk hr0_0; have HC0_0 := Aside0.mk hc0_0; clear hr0_0 hc0_0; have HB := Aside0.mk (Below.refl w.heap.size w); have H : ((spec_TreeOk.f k l0_0).bind fun t133 => (if t133 = true then ((spec_l2Text.f k l0_0 0 (([] : List Int))).bind fun t137 => (if (t137.length : Int) > 20000 then (some (⟨#[]⟩ : ByteArray)) else (some (strOfNums t137)))) else (some (⟨#[]⟩ : ByteArray)))) = some r := h; clear h; replace H := Option.bind_eq_some_iff.mp H; obtain ⟨t133, A20, H⟩ := H; replace H : (if t133 = true then ((spec_l2Text.f k l0_0 0 (([] : List Int))).bind fun t137 => (if (t137.length : Int) > 20000 then (some (⟨#[]⟩ : ByteArray)) else (some (strOfNums t137)))) else (some (⟨#[]⟩ : ByteArray))) = some r := H; have A2 := Aside0.mk A20; clear A20
 by_cases c3 : t133 = true
 ·subst c3
  have H1 : ((spec_l2Text.f k l0_0 0 (([] : List Int))).bind fun t137 => (if (t137.length : Int) > 20000 then (some (⟨#[]⟩ : ByteArray)) else (some (strOfNums t137)))) = some r := by rw [if_pos rfl] at H; exact H
  clear H; have H := H1; clear H1; obtain ⟨y134, hy134⟩ : ∃ y_ : List Int, y_ = (([] : List Int)) := ⟨_, rfl⟩
  replace H : ((spec_l2Text.f k l0_0 0 y134).bind fun t137 => (if (t137.length : Int) > 20000 then (some (⟨#[]⟩ : ByteArray)) else (some (strOfNums t137)))) = some r := by first | (rw [hy134]; with_reducible exact H) | (have H2_ := (Option.bind_some _ _).symm.trans H; rw [hy134]; with_reducible exact H2_) | (have H2_ := (Option.bind_some _ _).symm.trans H; with_reducible exact H2_) | with_reducible exact H | (rw [hy134]; exact H) | exact H
  have Ny134 := Aside0.mk hy134; clear hy134; replace H := Option.bind_eq_some_iff.mp H; obtain ⟨t137, A40, H⟩ := H; replace H : (if (t137.length : Int) > 20000 then (some (⟨#[]⟩ : ByteArray)) else (some (strOfNums t137))) = some r := H; have A4 := Aside0.mk A40; clear A40
  by_cases c5 : (t137.length : Int) > 20000
  ·rw [if_pos c5] at H
   have c5b0 : decide (20000 < (t137.length : Int)) = true := decide_eq_true c5; have c5b1 : decide (20000 < t137.length) = true := decide_eq_true (by omega); clear c5; obtain rfl := Option.some.inj H
   go_enter Try.func7, Try.ntmps7
   go_wp2_with (first | ((with_reducible refine gate_dst (N := 1) rfl ?_); refine be 1 #[.slice A0_0 l0_0.length c0_0] 29 ?_; intro gb132 hg w6 hbox hb; have n0_ := Aside0.mk (below_step (bl HB) hb); have n1_ := Aside0.mk (hbox); have n2_ := Aside0.mk (gs HB hg); have n3_ := Aside0.mk (gs HB hg); clear HB; have HB := n0_; have BK132 := n1_; have GW132 := n2_; have GE132 := n3_; clear n0_ n1_ n2_ n3_; clear hb hbox hg; have hcz7_0 : w6.cell? ⟨gb132, 0, none⟩ = some (.slice A0_0 l0_0.length c0_0) := (blk_cell BK132.out 0).trans rfl; have hfz7_0 := blk_frozen BK132.out 0) | ((with_reducible refine gate_callee (f := 22) rfl ?_); refine goesL_ (some 5) rfl rfl Try.func22 (by kernel_rfl) rfl #[.agg #[.slice A0_0 l0_0.length c0_0]] rfl ma ?_; (with_reducible refine (spec_TreeOk.calls k _ _ l0_0 true _ ?side1 ?side2 A2.out).mono ?_); (case side1 => exact rc HR0_0 HB); (case side2 => exact HC0_0.out); rintro e w8 ⟨rfl, hb⟩; refine ⟨_, rfl, ?_⟩; have n0_ := Aside0.mk (blk_below (g := gb132) (o := .cells #[.slice A0_0 l0_0.length c0_0] 29 (0, 0)) (bk BK132) hb); have n1_ := Aside0.mk (below_step (bs HB GE132) hb); clear BK132; clear HB; have BK132 := n0_; have HB := n1_; clear n0_ n1_; (try clear hb); (try clear hb2); (try clear hk); (try clear hi); have hcz9_0 : w8.cell? ⟨gb132, 0, none⟩ = some (.slice A0_0 l0_0.length c0_0) := (blk_cell BK132.out 0).trans rfl; have hfz9_0 := blk_frozen BK132.out 0) | ((with_reducible refine gate_dst (N := 8) rfl ?_); refine Kd.R_lit (Kd.int .u8) _ 5 ?hg (N := 8) ?hd (xs := ([] : List Int)) (inner := []) (ok := fun _ => True) (okp := fun _ => True) ?hr ?hp (fun _ hk => hk) trivial (Below.refl _ _) (Nat.le_refl _) (by simp) ?_; (case hd => rfl); (case hg => rfl); (case hr => first | (go_simp; done) | (go_simp; rfl)); (case hp => exact (Reps.none _ _)); intro v135 w10 ho11 hb hg_ hnew_; clear hg_ hnew_; (first | rw [← Ny134.out] at ho11 | (simp only [Int.reduceToNat] at ho11; rw [← Ny134.out] at ho11)); have n0_ := Aside0.mk (Kd.R_lower ho11 (below_size (bs HB GE132))); have n1_ := Aside0.mk (blk_below (g := gb132) (o := .cells #[.slice A0_0 l0_0.length c0_0] 29 (0, 0)) (bk BK132) hb); have n2_ := Aside0.mk (below_step (bs HB GE132) hb); clear BK132; clear HB; have HO136 := n0_; have BK132 := n1_; have HB := n2_; clear n0_ n1_ n2_; clear hb ho11; obtain ⟨Ao12, co12, eo12⟩ := Kd.R_slice HO136.out; subst eo12) | ((with_reducible refine gate_callee (f := 23) rfl ?_); refine goesL_ (some 9) rfl rfl Try.func23 (by kernel_rfl) rfl #[.agg #[.slice A0_0 l0_0.length c0_0], .int .i64 0, .slice Ao12 y134.length co12] rfl ma ?_; (with_reducible refine (spec_l2Text.calls k _ _ l0_0 0 (fun k_ => some k_ = (.slice Ao12 y134.length co12 : Value).ownBlock) (.slice Ao12 y134.length co12) y134 t137 w _ ?side1 ?side2 ?side3 ?side4 A4.out).mono ?_); (case side1 => repeat (first | (with_reducible first | exact HB.out | apply below_alloc | apply pw_below_drewN | apply below_drew1 | refine below_set ?_ GE132.out) | exact HB.out)); (case side2 => exact HR0_0.out); (case side3 => exact HC0_0.out); (case side4 => exact Kd.R_tight rfl HO136.out); rintro e w13 ⟨v138, rfl, ho0, hb, hkp⟩; refine ⟨_, rfl, ?_⟩; have n0_ := Aside0.mk (blk_kept (bk BK132) hkp (fun hs_ => (fun e_ => (Kd.R_ne HO136.out BK132.out (by decide)) e_) hs_)); have n1_ := Aside0.mk (Kd.R_mono (ok' := fun k_ => True) ho0 (fun k_ hk_ => trivial)); have n2_ := Aside0.mk (hb); clear BK132; clear HB; clear HO136; have BK132 := n0_; have HO139 := n1_; have HB := n2_; clear n0_ n1_ n2_; (try clear hb); (try clear hkp); (try clear ho0); obtain ⟨Ao14, co14, eo14⟩ := Kd.R_slice HO139.out; subst eo14))
   go_ret
   exact ⟨by first | rfl | (simp [errW_none, errW_some] <;> rfl) | (simp [*, errW_none, errW_some] <;> rfl), bs HB GE132⟩
  ·rw [if_neg c5] at H
   have c5b0 : decide (20000 < (t137.length : Int)) = false := decide_eq_false c5; have c5b1 : decide (20000 < t137.length) = false := decide_eq_false (by omega); clear c5; obtain rfl := Option.some.inj H
   go_enter Try.func7, Try.ntmps7
   go_wp2_with (first | ((with_reducible refine gate_dst (N := 1) rfl ?_); refine be 1 #[.slice A0_0 l0_0.length c0_0] 29 ?_; intro gb132 hg w15 hbox hb; have n0_ := Aside0.mk (below_step (bl HB) hb); have n1_ := Aside0.mk (hbox); have n2_ := Aside0.mk (gs HB hg); have n3_ := Aside0.mk (gs HB hg); clear HB; have HB := n0_; have BK132 := n1_; have GW132 := n2_; have GE132 := n3_; clear n0_ n1_ n2_ n3_; clear hb hbox hg; have hcz16_0 : w15.cell? ⟨gb132, 0, none⟩ = some (.slice A0_0 l0_0.length c0_0) := (blk_cell BK132.out 0).trans rfl; have hfz16_0 := blk_frozen BK132.out 0) | ((with_reducible refine gate_callee (f := 22) rfl ?_); refine goesL_ (some 5) rfl rfl Try.func22 (by kernel_rfl) rfl #[.agg #[.slice A0_0 l0_0.length c0_0]] rfl ma ?_; (with_reducible refine (spec_TreeOk.calls k _ _ l0_0 true _ ?side1 ?side2 A2.out).mono ?_); (case side1 => exact rc HR0_0 HB); (case side2 => exact HC0_0.out); rintro e w17 ⟨rfl, hb⟩; refine ⟨_, rfl, ?_⟩; have n0_ := Aside0.mk (blk_below (g := gb132) (o := .cells #[.slice A0_0 l0_0.length c0_0] 29 (0, 0)) (bk BK132) hb); have n1_ := Aside0.mk (below_step (bs HB GE132) hb); clear BK132; clear HB; have BK132 := n0_; have HB := n1_; clear n0_ n1_; (try clear hb); (try clear hb2); (try clear hk); (try clear hi); have hcz18_0 : w17.cell? ⟨gb132, 0, none⟩ = some (.slice A0_0 l0_0.length c0_0) := (blk_cell BK132.out 0).trans rfl; have hfz18_0 := blk_frozen BK132.out 0) | ((with_reducible refine gate_dst (N := 8) rfl ?_); refine Kd.R_lit (Kd.int .u8) _ 5 ?hg (N := 8) ?hd (xs := ([] : List Int)) (inner := []) (ok := fun _ => True) (okp := fun _ => True) ?hr ?hp (fun _ hk => hk) trivial (Below.refl _ _) (Nat.le_refl _) (by simp) ?_; (case hd => rfl); (case hg => rfl); (case hr => first | (go_simp; done) | (go_simp; rfl)); (case hp => exact (Reps.none _ _)); intro v135 w19 ho20 hb hg_ hnew_; clear hg_ hnew_; (first | rw [← Ny134.out] at ho20 | (simp only [Int.reduceToNat] at ho20; rw [← Ny134.out] at ho20)); have n0_ := Aside0.mk (Kd.R_lower ho20 (below_size (bs HB GE132))); have n1_ := Aside0.mk (blk_below (g := gb132) (o := .cells #[.slice A0_0 l0_0.length c0_0] 29 (0, 0)) (bk BK132) hb); have n2_ := Aside0.mk (below_step (bs HB GE132) hb); clear BK132; clear HB; have HO136 := n0_; have BK132 := n1_; have HB := n2_; clear n0_ n1_ n2_; clear hb ho20; obtain ⟨Ao21, co21, eo21⟩ := Kd.R_slice HO136.out; subst eo21) | ((with_reducible refine gate_callee (f := 23) rfl ?_); refine goesL_ (some 9) rfl rfl Try.func23 (by kernel_rfl) rfl #[.agg #[.slice A0_0 l0_0.length c0_0], .int .i64 0, .slice Ao21 y134.length co21] rfl ma ?_; (with_reducible refine (spec_l2Text.calls k _ _ l0_0 0 (fun k_ => some k_ = (.slice Ao21 y134.length co21 : Value).ownBlock) (.slice Ao21 y134.length co21) y134 t137 w _ ?side1 ?side2 ?side3 ?side4 A4.out).mono ?_); (case side1 => repeat (first | (with_reducible first | exact HB.out | apply below_alloc | apply pw_below_drewN | apply below_drew1 | refine below_set ?_ GE132.out) | exact HB.out)); (case side2 => exact HR0_0.out); (case side3 => exact HC0_0.out); (case side4 => exact Kd.R_tight rfl HO136.out); rintro e w22 ⟨v138, rfl, ho0, hb, hkp⟩; refine ⟨_, rfl, ?_⟩; have n0_ := Aside0.mk (blk_kept (bk BK132) hkp (fun hs_ => (fun e_ => (Kd.R_ne HO136.out BK132.out (by decide)) e_) hs_)); have n1_ := Aside0.mk (Kd.R_mono (ok' := fun k_ => True) ho0 (fun k_ hk_ => trivial)); have n2_ := Aside0.mk (hb); clear BK132; clear HB; clear HO136; have BK132 := n0_; have HO139 := n1_; have HB := n2_; clear n0_ n1_ n2_; (try clear hb); (try clear hkp); (try clear ho0); obtain ⟨Ao23, co23, eo23⟩ := Kd.R_slice HO139.out; subst eo23; have hcv24 := own_string (P := Try.prog) Try.underlying37 Try.underlying5 Try.underlying9 (Kd.own_of_R HO139.out)))
   go_ret
   exact ⟨by first | rfl | (simp [errW_none, errW_some] <;> rfl) | (simp [*, errW_none, errW_some] <;> rfl), bs HB GE132⟩
 ·replace c3 := Bool.eq_false_iff.mpr c3
  subst c3
  have H1 : (some (⟨#[]⟩ : ByteArray)) = some r := by rw [if_neg (show ¬ (false = true) by decide)] at H; exact H
  clear H; have H := H1; clear H1; obtain rfl := Option.some.inj H
  go_enter Try.func7, Try.ntmps7
  go_wp2_with (first | ((with_reducible refine gate_dst (N := 1) rfl ?_); refine be 1 #[.slice A0_0 l0_0.length c0_0] 29 ?_; intro gb132 hg w25 hbox hb; have n0_ := Aside0.mk (below_step (bl HB) hb); have n1_ := Aside0.mk (hbox); have n2_ := Aside0.mk (gs HB hg); have n3_ := Aside0.mk (gs HB hg); clear HB; have HB := n0_; have BK132 := n1_; have GW132 := n2_; have GE132 := n3_; clear n0_ n1_ n2_ n3_; clear hb hbox hg; have hcz26_0 : w25.cell? ⟨gb132, 0, none⟩ = some (.slice A0_0 l0_0.length c0_0) := (blk_cell BK132.out 0).trans rfl; have hfz26_0 := blk_frozen BK132.out 0) | ((with_reducible refine gate_callee (f := 22) rfl ?_); refine goesL_ (some 5) rfl rfl Try.func22 (by kernel_rfl) rfl #[.agg #[.slice A0_0 l0_0.length c0_0]] rfl ma ?_; (with_reducible refine (spec_TreeOk.calls k _ _ l0_0 false _ ?side1 ?side2 A2.out).mono ?_); (case side1 => exact rc HR0_0 HB); (case side2 => exact HC0_0.out); rintro e w27 ⟨rfl, hb⟩; refine ⟨_, rfl, ?_⟩; have n0_ := Aside0.mk (blk_below (g := gb132) (o := .cells #[.slice A0_0 l0_0.length c0_0] 29 (0, 0)) (bk BK132) hb); have n1_ := Aside0.mk (below_step (bs HB GE132) hb); clear BK132; clear HB; have BK132 := n0_; have HB := n1_; clear n0_ n1_; (try clear hb); (try clear hb2); (try clear hk); (try clear hi)))
  go_ret
  exact ⟨by first | rfl | (simp [errW_none, errW_some] <;> rfl) | (simp [*, errW_none, errW_some] <;> rfl), bs HB GE132⟩

/-! ### impl_atomByte: function 51 -/
def impl_atomByte.f (a0 : Int) : Option (Bool) := if a0 ≥ 33 then (if a0 ≤ 126 then (if a0 = 40 then (some false) else (if a0 = 41 then (some false) else (some (a0 != 59)))) else (some false)) else (some false)
set_option maxHeartbeats 8000000 in
set_option maxRecDepth 100000 in
theorem impl_atomByte.calls (a0 : Int) (r : Bool) (w : World) (h : impl_atomByte.f a0 = some r) :
  Calls Try.prog 51 #[.int .u8 a0] w fun e w' => e = .returned (.bool r) ∧ Drawn0 w w' := by
 have H : (if a0 ≥ 33 then (if a0 ≤ 126 then (if a0 = 40 then (some false) else (if a0 = 41 then (some false) else (some (a0 != 59)))) else (some false)) else (some false)) = some r := h; clear h
 by_cases c2 : a0 ≥ 33
 ·rw [if_pos c2] at H
  have c2b0 : decide (33 ≤ a0) = true := decide_eq_true c2; clear c2
  by_cases c3 : a0 ≤ 126
  ·rw [if_pos c3] at H
   have c3b0 : decide (a0 ≤ 126) = true := decide_eq_true c3; clear c3
   by_cases c4 : a0 = 40
   ·rw [if_pos c4] at H
    have c4b0 : (a0 == 40) = true := beq_iff_eq.mpr c4; have c4b1 : (a0 != 40) = false := bne_eq_false_iff_eq.mpr c4; clear c4; obtain rfl := Option.some.inj H
    go_enter Try.func51, Try.ntmps51
    go_wp2
    go_ret
    exact ⟨au, dr⟩
   ·rw [if_neg c4] at H
    have c4b0 : (a0 == 40) = false := beq_eq_false_iff_ne.mpr c4; have c4b1 : (a0 != 40) = true := bne_iff_ne.mpr c4
    by_cases c5 : a0 = 41
    ·rw [if_pos c5] at H
     have c5b0 : (a0 == 41) = true := beq_iff_eq.mpr c5; have c5b1 : (a0 != 41) = false := bne_eq_false_iff_eq.mpr c5; clear c5; obtain rfl := Option.some.inj H
     go_enter Try.func51, Try.ntmps51
     go_wp2
     go_ret
     exact ⟨au, dr⟩
    ·rw [if_neg c5] at H
     have c5b0 : (a0 == 41) = false := beq_eq_false_iff_ne.mpr c5; have c5b1 : (a0 != 41) = true := bne_iff_ne.mpr c5; obtain rfl := Option.some.inj H
     go_enter Try.func51, Try.ntmps51
     go_wp2
     go_ret
     exact ⟨au, dr⟩
  ·rw [if_neg c3] at H
   have c3b0 : decide (a0 ≤ 126) = false := decide_eq_false c3; clear c3; obtain rfl := Option.some.inj H
   go_enter Try.func51, Try.ntmps51
   go_wp2
   go_ret
   exact ⟨au, dr⟩
 ·rw [if_neg c2] at H
  have c2b0 : decide (33 ≤ a0) = false := decide_eq_false c2; clear c2; obtain rfl := Option.some.inj H
  go_enter Try.func51, Try.ntmps51
  go_wp2
  go_ret
  exact ⟨au, dr⟩

end Go.Proofs.Ytjjlcmfjmdfedaa.PFnTreeBack
