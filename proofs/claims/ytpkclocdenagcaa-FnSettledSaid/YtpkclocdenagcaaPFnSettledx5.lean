-- Written by a program of this session (a turned copy of the kit's printer); Lean checks it.
import Derived.Test.YtpkclocdenagcaaPFnSettledx0
import Derived.Test.YtpkclocdenagcaaPFnSettledx1
import Derived.Test.YtpkclocdenagcaaPFnSettledx4
namespace Go.Proofs.Ytpkclocdenagcaa.PFnSettled
open Go.RowKit Go.Proofs.YtpkclocdenagcaaW.PrintWords Go.Proofs.YtpkclocdenagcaaW.PrintLast Go.Proofs.YtpkclocdenagcaaW.PrintMore
attribute [local go_sem] max2_int min2_int max_two min_two max_three min_three max_four min_four   -- for this text's walks alone
set_option linter.unusedVariables false
set_option linter.unusedSimpArgs false

/-! ### impl_Settle: function 30 -/
def ObM (k : TypeId) (z : Value) (b n : Nat) (F : Int → Value) : Ob := ⟨fun q => q = b, fun W => MapI Try.prog k z W b n F⟩
theorem ObM_foot (k : TypeId) (z : Value) (b n : Nat) (F : Int → Value) : (ObM k z b n F).foot := fun W W' hm h => MapI.step h (hm b rfl (MapI.lt h))
theorem getM {k : TypeId} {z : Value} {b n : Nat} {F : Int → Value} {w0 W W' : World} {l : List Ob} (h : Aside0 (St w0 W l)) (i : Nat) (hi : nth l i = some (ObM k z b n F)) (q : ∃ n, W' = W.drewN n := by first | exact ⟨_, rfl⟩ | exact ⟨0, rfl⟩) : MapI Try.prog k z W' b n F := ((St.lift h q).each _ (nth_mem hi)).2.2
theorem startM {k : TypeId} {z : Value} {w0 W : World} {l : List Ob} (h : Aside0 (St w0 W l)) (W' : World) (q : ∃ n, W' = W.drewN n := by first | exact ⟨_, rfl⟩ | exact ⟨0, rfl⟩) : Aside0 (St w0 (W'.alloc (.map #[] 0)) (ObM k z W'.heap.size 0 (fun _ => z) :: l)) := by
  have h1 := St.lift h q; refine ⟨(h1.step (below_alloc (Below.refl _ _) _)).cons (fun q hq => ?_) (ObM_foot _ _ _ _ _) (MapI.made W' _ k z) (fun o' ho' q hq hq' => ?_)⟩
  · rw [show q = W'.heap.size from hq]
    exact ⟨h1.below.size, blk_lt (blk_new W' _)⟩
  · have e : q = W'.heap.size := hq
    have := ((h1.each o' ho').1 q hq').2
    omega
theorem mapPut {k e t : TypeId} {z : Value} {b n : Nat} {F : Int → Value} {w0 W : World} {l : List Ob} (h : Aside0 (St w0 W l)) (i : Nat) (hi : nth l i = some (ObM k z b n F)) (ht : Try.prog.underlying t = some (.map k e)) (hk : Try.prog.underlying k = some (.int .i64)) (hn : n < maxLen) (j : Int) (hj : (Lit.int .i64 j).wf = true) (v : Value) :
    ∃ W', (Instr.mapUpdate t (.map (some b)) (.int .i64 j) v).run Try.prog W = .ok () W' ∧ Aside0 (St w0 W' (put l i (ObM k z b (n + 1) (fun q => if q = j then v else F q)))) ∧ W.grownBy W' (some b) := by
  obtain ⟨W', h1, h2, h3⟩ := MapI.update (getM (W' := W) h i hi ⟨0, rfl⟩) ht hk hn j hj v; refine ⟨W', h1, ⟨St.turn h.out i hi (h.out.below.grown h3 h.out.below.size (fun q hq => ?_)) h3.size (fun q hlt hn2 => h3.block q hlt (fun e => hn2 (Option.some.inj e))) (fun q hq => .inl hq) (ObM_foot _ _ _ _ _) h2⟩, h3⟩; rw [← Option.some.inj hq]
  exact ((h.out.each _ (nth_mem hi)).1 b rfl).1
theorem make_event {P : Program} {ops : Array Oper} {rest : List Oper} {o : Oper} {a : Act} {Q : Exit → Act → World → Prop} {W : World} (hgd : o.guard = none) (hrun : (execOp a.eval o).run P W = .ok (.value (.map (some W.heap.size))) (W.alloc (.map #[] 0)))
    (h : wpList P ops Q rest (a.put o.dst (.map (some W.heap.size))) (W.alloc (.map #[] 0))) : wpList P ops Q (o :: rest) a W := Kd.event_run hgd hrun h
theorem info3 : (Try.prog.info? 3).map (fun i => (i.zero, i.size, i.bytes)) = some (some (.int .i64 0), 1, 8) := by kernel_rfl
/-- Room for an object that is yet to be made. -/
def ObZ : Ob := ⟨fun _ => False, fun _ => True⟩
theorem ObZ_foot : ObZ.foot := fun _ _ _ _ => trivial
theorem St.consZ {w0 W : World} {l : List Ob} (h : Aside0 (St w0 W l)) : Aside0 (St w0 W (ObZ :: l)) := ⟨h.out.cons (fun _ hk => hk.elim) ObZ_foot trivial (fun _ _ _ hk _ => hk.elim)⟩
theorem fillR {α : Type} {d : Kd α} {e : Nat} {v : Value} {xs : List α} {w0 W W1 : World} {l : List Ob} (h : Aside0 (St w0 W l)) (i : Nat) (hi : nth l i = some ObZ) (hb : Below W.heap.size W W1) (hr : d.R e W1 W.heap.size (fun _ => True) v xs) :
    ∃ (ok : Nat → Prop) (A : Option Addr) (c : Nat), v = .slice A xs.length c ∧ Aside0 (xs.length ≤ c) ∧ Aside0 (St w0 W1 (put l i (Ob.R w0 d e ok (.slice A xs.length c) xs))) := by
  have hr1 := Kd.R_mono (ok' := fun k => W.heap.size ≤ k ∧ k < W1.heap.size) (Kd.R_bound hr) (fun _ hk => ⟨hk.2.1, hk.2.2.1⟩); obtain ⟨A, c, rfl⟩ := Kd.R_slice hr1
  exact ⟨_, A, c, rfl, ⟨(Kd.R_reads' hr1).2.1⟩, ⟨St.turn h.out i hi (below_step h.out.below hb) hb.size (fun k hlt _ => hb.block k hlt) (fun k hk => .inr hk) (Ob.R_foot _ _ _ _ _ _) (Kd.R_lower hr1 h.out.below.size)⟩⟩
theorem fillM {w0 W : World} {l : List Ob} (h : Aside0 (St w0 W l)) (i : Nat) (hi : nth l i = some ObZ) {k : TypeId} {z : Value} : Aside0 (St w0 (W.alloc (.map #[] 0)) (put l i (ObM k z W.heap.size 0 (fun _ => z)))) :=
  ⟨St.turn h.out i hi (below_step h.out.below (below_alloc (Below.refl _ _) _)) (below_alloc (Below.refl W.heap.size W) (.map #[] 0)).size (fun q hlt _ => (below_alloc (Below.refl W.heap.size W) (.map #[] 0)).block q hlt) (fun q hq => .inr (by rw [show q = W.heap.size from hq]; exact ⟨Nat.le_refl _, blk_lt (blk_new W _)⟩)) (ObM_foot _ _ _ _ _) (MapI.made W _ k z)⟩
/-- A map of rows: its block, its rows in blocks of ok. -/
def ObG (w0 : World) (b n : Nat) (ok : Nat → Prop) (H : Int → List Int) : Ob := ⟨fun q => q = b ∨ ok q, fun W => ∃ (F : Int → Value) (okr : Int → Nat → Prop), MapI Try.prog 2 (.slice none 0 0) W b n F ∧ (∀ k, (Kd.int .i64).R 3 W w0.heap.size (okr k) (F k) (H k)) ∧ (∀ k q, okr k q → ok q ∧ q ≠ b) ∧ (∀ k k' q, k ≠ k' → okr k q → okr k' q → False)⟩
theorem ObG_foot (w0 : World) (b n : Nat) (ok : Nat → Prop) (H : Int → List Int) : (ObG w0 b n ok H).foot := fun W W' hm ⟨F, okr, h1, h2, h3, h4⟩ =>
  ⟨F, okr, MapI.step h1 (hm b (.inl rfl) (MapI.lt h1)), fun k => Kd.R_step (h2 k) (fun q hq hlt => hm q (.inr (h3 k q hq).1) hlt), h3, h4⟩
theorem ObG_of {w0 W : World} {b : Nat} (h : MapI Try.prog 2 (.slice none 0 0) W b 0 (fun _ => .slice none 0 0)) : (ObG w0 b 0 (fun _ => False) (fun _ => [])).P W :=
  ⟨_, fun _ _ => False, h, fun k => Kd.R_nil _ _ _ _ _, fun _ _ hq => hq.elim, fun _ _ _ _ hq _ => hq.elim⟩
theorem putG {w0 W : World} {l : List Ob} {b n : Nat} {ok : Nat → Prop} {H : Int → List Int} (h : Aside0 (St w0 W l)) (i : Nat) (hi : nth l i = some (ObG w0 b n ok H)) {F : Int → Value} {okr : Int → Nat → Prop} (hM : MapI Try.prog 2 (.slice none 0 0) W b n F) (hR : ∀ k, (Kd.int .i64).R 3 W w0.heap.size (okr k) (F k) (H k)) (hsub : ∀ k q, okr k q → ok q ∧ q ≠ b) (hdis : ∀ k k' q, k ≠ k' → okr k q → okr k' q → False)
    (key x : Int) (hkey : (Lit.int .i64 key).wf = true) (hn : n < maxLen) (w6 : World) (v6 : Value) (hg : W.grownBy w6 (F key).ownBlock) (hb6 : Below w0.heap.size w0 w6) (hr6 : (Kd.int .i64).R 3 w6 w0.heap.size (fun q => okr key q ∨ W.heap.size ≤ q) v6 (H key ++ [x])) :
    ∃ w7, (Instr.mapUpdate 77 (.map (some b)) (.int .i64 key) v6).run Try.prog w6 = .ok () w7 ∧ ∃ ok', Aside0 (St w0 w7 (put l i (ObG w0 b (n + 1) ok' (fun q => if q = key then H q ++ [x] else H q)))) ∧ w6.grownBy w7 (some b) := by
  have hE := h.out.each _ (nth_mem hi); have hblt := MapI.lt hM
  have hnb : ∀ q, (F key).ownBlock = some q → okr key q := fun q hq => (hR key).1 q hq
  have hbF : some b ≠ (F key).ownBlock := fun e => (hsub key b (hnb b e.symm)).2 rfl
  obtain ⟨w7, hrun, hM7, hg7⟩ := MapI.update (MapI.step hM (hg.block b hblt hbF)) Try.underlying77 Try.underlying2 hn key hkey v6; have hs6 : W.heap.size ≤ w6.heap.size := hg.size; have hs7 : w6.heap.size ≤ w7.heap.size := hg7.size; have hR7 : (Kd.int .i64).R 3 w7 w0.heap.size (fun q => (okr key q ∨ W.heap.size ≤ q) ∧ q < w7.heap.size) v6 (H key ++ [x]) :=
    Kd.R_mono (Kd.R_bound (Kd.R_step hr6 (fun q hq hlt => hg7.block q hlt (fun e => by
      have e := Option.some.inj e
      subst e
      exact hq.elim (fun h1 => (hsub key _ h1).2 rfl) (fun h1 => by omega))))) (fun q hq => ⟨hq.1, hq.2.2.1⟩)
  have keep : ∀ q, q < W.heap.size → q ≠ b → some q ≠ (F key).ownBlock → w7.heap[q]? = W.heap[q]? := fun q h1 h2 h3 => (hg7.block q (by omega) (fun e => h2 (Option.some.inj e))).trans (hg.block q h1 h3)
  refine ⟨w7, hrun, fun q => ok q ∨ (W.heap.size ≤ q ∧ q < w7.heap.size), ⟨St.turn h.out i hi (hb6.grown hg7 hb6.size (fun q hq => by rw [← Option.some.inj hq]; exact (hE.1 b (.inl rfl)).1)) (by omega) (fun q hlt hnq => keep q hlt (fun e => hnq (.inl e)) (fun e => hnq (.inr (hsub key q (hnb q e.symm)).1))) (fun q hq => hq.elim (fun e => .inl (.inl e)) (fun e => e.imp .inr id)) (ObG_foot _ _ _ _ _) ?_⟩, hg7⟩
  refine ⟨_, fun k q => if k = key then (okr key q ∨ W.heap.size ≤ q) ∧ q < w7.heap.size else okr k q, hM7, fun k => ?_, fun k q hq => ?_, fun k k' q hne h1 h2 => ?_⟩
  · by_cases c : k = key
    · subst c
      simp only [if_true]
      exact hR7
    · simp only [if_neg c]
      exact Kd.R_step (hR k) (fun q hq hlt => keep q hlt (hsub k q hq).2 (fun e => hdis k key q c hq (hnb q e.symm)))
  · dsimp only at hq
    by_cases c : k = key
    · rw [if_pos c] at hq
      rcases hq.1 with h1 | h1
      · exact ⟨.inl (hsub key q h1).1, (hsub key q h1).2⟩
      · exact ⟨.inr ⟨h1, hq.2⟩, fun e => by omega⟩
    · rw [if_neg c] at hq
      exact ⟨.inl (hsub k q hq).1, (hsub k q hq).2⟩
  · have far : ∀ k q, k ≠ key → okr k q → ¬ ((okr key q ∨ W.heap.size ≤ q) ∧ q < w7.heap.size) := fun k q hk h1 h2 => h2.1.elim (fun h3 => hdis k key q hk h1 h3) (fun h3 => by
      have := (hE.1 q (.inr (hsub k q h1).1)).2
      omega)
    dsimp only at h1 h2
    by_cases c : k = key
    · by_cases c' : k' = key
      · exact hne (c.trans c'.symm)
      · rw [if_pos c] at h1
        rw [if_neg c'] at h2
        exact far k' q c' h2 h1
    · rw [if_neg c] at h1
      by_cases c' : k' = key
      · rw [if_pos c'] at h2
        exact far k q c h1 h2
      · rw [if_neg c'] at h2
        exact hdis k k' q hne h1 h2
theorem St.asG {w0 W : World} {l : List Ob} {b : Nat} (h : Aside0 (St w0 W l)) (i : Nat) (hi : nth l i = some (ObM 2 (.slice none 0 0) b 0 (fun _ => .slice none 0 0))) : Aside0 (St w0 W (put l i (ObG w0 b 0 (fun _ => False) (fun _ => [])))) :=
  ⟨St.turn h.out i hi h.out.below (Nat.le_refl _) (fun _ _ _ => rfl) (fun q hq => .inl (hq.elim id False.elim)) (ObG_foot _ _ _ _ _) (ObG_of (getM h i hi ⟨0, rfl⟩))⟩
theorem St.consN {w0 W : World} {l : List Ob} (h : Aside0 (St w0 W l)) : Aside0 (St w0 W (Ob.R w0 (Kd.int .i64) 2 (fun _ => False) (.slice none 0 0) [] :: l)) := ⟨h.out.cons (fun _ hk => hk.elim) (Ob.R_foot _ _ _ _ _ _) (Kd.R_nil _ _ _ _ _) (fun _ _ _ hk _ => hk.elim)⟩
mutual
def impl_newTrail.l0 : Nat → List (List Int) → Int → (Int → List Int) → Nat → Option (Int → List Int)
  | 0, _, _, _, _ => none
  | k + 1, cl, i, H, m => if i < (cl.length : Int) then (if 0 ≤ i then impl_newTrail.l1 k cl i (rd_L2 cl i) 0 H m else none) else some H
def impl_newTrail.l1 : Nat → List (List Int) → Int → List Int → Int → (Int → List Int) → Nat → Option (Int → List Int)
  | 0, _, _, _, _, _, _ => none
  | k + 1, cl, i, row, j, H, m => if j < (row.length : Int) then (if 0 ≤ j then (if (Lit.int .i64 (rd row j)).wf = true then (if (H (rd row j)).length < 17592186044416 then (if m < 1000000000 then impl_newTrail.l1 k cl i row (wrap64 (j + 1)) (fun q => if q = rd row j then H q ++ [i] else H q) (m + 1) else none) else none) else none) else none) else impl_newTrail.l0 k cl (wrap64 (i + 1)) H m
end
def impl_newTrail.f (k : Nat) (sw : Int) (cl : List (List Int)) : Option (Int → List Int) := if cl.length ≤ 1000000 then (if 0 ≤ sw ∧ sw ≤ 1000000 then impl_newTrail.l0 k cl 0 (fun _ => []) 0 else none) else none
def impl_newTrail.T1 : Bool × List (List Nat × List Nat) := (true, [([], []), ([], []), ([], []), ([2], [2]), ([3], [3]), ([4, 4], [4]), ([], []), ([6], [6]), ([7], [7]), ([8, 8], [8]), ([], []), ([10], [10]), ([11], [11]), ([12, 12], [12]), ([0, 1, 5, 9, 13], [0, 1, 5, 9, 13]), ([14], [14]), ([15, 0, 1, 2, 3, 4, 5, 6, 7, 8, 9, 10, 11, 12, 13, 14, 15], [15])])
def impl_newTrail.B1 : List Nat := [0, 0, 0, 4, 12, 28, 0, 64, 192, 448, 0, 1024, 3072, 7168, 16383, 32767, 65535]
theorem impl_newTrail.tab1 : rtab .any (opsOf Try.f50 1) = impl_newTrail.T1 := by kernel_rfl
theorem impl_newTrail.bits1 : waitsOk impl_newTrail.T1.2 impl_newTrail.B1 = true := by kernel_rfl
def impl_newTrail.T8 : Bool × List (List Nat × List Nat) := (true, [([], []), ([0], [0]), ([1], [1]), ([2], [2]), ([], []), ([], []), ([5], [5]), ([6], [6]), ([7], [7]), ([], []), ([8, 9], [8, 9]), ([], []), ([11], [11]), ([10, 12], [10, 12]), ([3, 4, 13, 13, 0, 1, 2, 3, 4, 5, 6, 7, 8, 9, 10, 11, 12, 13], [3, 4, 13])])
def impl_newTrail.B8 : List Nat := [0, 1, 3, 7, 0, 0, 32, 96, 224, 0, 992, 0, 2048, 8160, 16383]
theorem impl_newTrail.tab8 : rtab .any (opsOf Try.f50 8) = impl_newTrail.T8 := by kernel_rfl
theorem impl_newTrail.bits8 : waitsOk impl_newTrail.T8.2 impl_newTrail.B8 = true := by kernel_rfl
set_option maxHeartbeats 8000000 in
set_option maxRecDepth 100000 in
theorem impl_newTrail.calls (k : Nat) (sw : Int) (A0 : Option Addr) (c0 : Nat) (cl : List (List Int)) (Hr : Int → List Int) (w0 w : World) (hB : Below w0.heap.size w0 w) (hr0 : Kd.C (Kd.slice 2 (Kd.int .i64)) w0 A0 cl.length cl) (hc0 : cl.length ≤ c0) (h : impl_newTrail.f k sw cl = some Hr) :
    Calls Try.prog 50 #[.agg #[.int .i64 sw, .slice A0 cl.length c0]] w fun e w' => ∃ (gt gm n : Nat) (okm okg okb oki : Nat → Prop) (Ag Ab Ai : Option Addr) (cg cb ci : Nat), e = .returned (.pointer (some ⟨gt, 0, none⟩)) ∧
      Aside0 (St w w' [Ob.B gt (.cells #[.int .i64 sw, .slice A0 cl.length c0, .map (some gm), .slice Ag (List.replicate cl.length (0 : Int)).length cg, .slice Ab (List.replicate cl.length (0 : Int)).length cb, .slice none 0 0, .slice Ai (List.replicate (sw + 1).toNat (0 : Int)).length ci] 80 (0, 0)), Ob.R w (Kd.int .i64) 2 oki (.slice Ai (List.replicate (sw + 1).toNat (0 : Int)).length ci) (List.replicate (sw + 1).toNat 0), Ob.R w (Kd.int .i64) 3 okb (.slice Ab (List.replicate cl.length (0 : Int)).length cb) (List.replicate cl.length 0), Ob.R w (Kd.int .i64) 3 okg (.slice Ag (List.replicate cl.length (0 : Int)).length cg) (List.replicate cl.length 0), ObG w gm n okm Hr, Ob.R w (Kd.int .i64) 2 (fun _ => False) (.slice none 0 0) []]) := by
  unfold impl_newTrail.f at h
  by_cases q1 : cl.length ≤ 1000000
  · rw [if_pos q1] at h
    by_cases q2 : 0 ≤ sw ∧ sw ≤ 1000000
    · rw [if_pos q2] at h
      obtain ⟨sn, hsn⟩ : ∃ sn : Int, wrap64 (sw + 1) = sn := ⟨_, rfl⟩
      have hsn2 : sn = sw + 1 := by rw [← hsn]; unfold wrap64; omega
      have hsnw : IntKind.i64.wrap (sw + 1) = sn := (i64_w _).trans hsn; have HCL0 : Aside0 ((0 : Int) ≤ (cl.length : Int)) := ⟨by omega⟩; have HCLN : Aside0 ((cl.length : Int).toNat * 8 ≤ 281474976710656) := ⟨by omega⟩; have HSN0 : Aside0 (0 ≤ sn) := ⟨by omega⟩; have HSNN : Aside0 (sn.toNat * 8 ≤ 281474976710656) := ⟨by omega⟩; have HQ1 := Aside0.mk q1; have HQ2 := Aside0.mk q2; have HE := Aside0.mk hsn2; have HR0 := Aside0.mk hr0; have HC0 := Aside0.mk hc0; have HB0 := Aside0.mk hB; have HL := Aside0.mk h; clear q1 q2 hsn2 hr0 hc0 hB h
      go_enter Try.func50, Try.ntmps50
      go_upto_region 2 with (first | ((with_reducible refine gate_dst (N := 1) rfl ?_); refine be 1 #[.int .i64 sw, .slice A0 cl.length c0] 37 ?_; intro g1 hg1 w1 hx1 hb1; have HS1 := St.consZ (St.consZ (St.consZ (St.consZ (St.box (St.consN (St.nil w)) hg1 hx1 hb1)))); clear hg1 hx1 hb1; have hz0 : w1.cell? ⟨g1, 0, none⟩ = some (.int .i64 sw) := (blk_cell (St.getB HS1 4 rfl ⟨0, rfl⟩) 0).trans rfl; have hz1 : w1.cell? ⟨g1, 1, none⟩ = some (.slice A0 cl.length c0) := (blk_cell (St.getB HS1 4 rfl ⟨0, rfl⟩) 1).trans rfl))
      have HS2 : Aside0 (St w w1.drew _) := ⟨HS1.out.step (below_drew (Below.refl _ _))⟩; clear HS1; refine start_ (n := 17) (S := (fun w' => w'.cell? ⟨g1, 0, none⟩ = some (.int .i64 sw) ∧ w'.cell? ⟨g1, 1, none⟩ = some (.slice A0 cl.length c0))) (ds := []) (tb 17 0) (by kernel_rfl) rfl rfl ⟨(blk_cell (St.getB HS2 4 rfl ⟨0, rfl⟩) 0).trans rfl, (blk_cell (St.getB HS2 4 rfl ⟨0, rfl⟩) 1).trans rfl⟩ (fun hHeld => ?_); refine with_tabW impl_newTrail.tab1 impl_newTrail.bits1 (fun HT_ HW_ => ?_); generalize w1.drew = wa at HS2 hHeld ⊢; clear hz0 hz1; refine tq HT_ HW_ hHeld 0 8 17 1 ?_; refine pq HT_ 2 10 17 5 ?_; refine tq HT_ HW_ hHeld 3 11 17 13 ?_; refine pq HT_ 4 12 17 29 ?_; refine pq HT_ 6 14 17 93 ?_; refine tq HT_ HW_ hHeld 7 15 17 221 ?_; refine pq HT_ 8 16 17 477 ?_; refine pq HT_ 10 18 17 1501 ?_; refine tq HT_ HW_ hHeld 11 19 17 3549 ?_; refine pq HT_ 12 20 17 7645 ?_
      refine join_ (σ := Value × Value × Value × Value) 3 (tb 17 16383) (fun s_ => [(9, s_.1), (13, s_.2.1), (17, s_.2.2.1), (21, s_.2.2.2)]) (fun s_ w' => ∃ (gm : Nat) (ok13 : Nat → Prop) (A13 : Option Addr) (c13 : Nat) (ok17 : Nat → Prop) (A17 : Option Addr) (c17 : Nat) (ok21 : Nat → Prop) (A21 : Option Addr) (c21 : Nat), s_.1 = .map (some gm) ∧ s_.2.1 = .slice A13 (List.replicate (cl.length : Int).toNat (0 : Int)).length c13 ∧ s_.2.2.1 = .slice A17 (List.replicate (cl.length : Int).toNat (0 : Int)).length c17 ∧ s_.2.2.2 = .slice A21 (List.replicate sn.toNat (0 : Int)).length c21 ∧ Aside0 ((List.replicate (cl.length : Int).toNat (0 : Int)).length ≤ c13) ∧ Aside0 ((List.replicate (cl.length : Int).toNat (0 : Int)).length ≤ c17) ∧ Aside0 ((List.replicate sn.toNat (0 : Int)).length ≤ c21) ∧
        Aside0 (St w w' [Ob.R w (Kd.int .i64) 2 ok21 (.slice A21 (List.replicate sn.toNat (0 : Int)).length c21) (List.replicate sn.toNat 0), Ob.R w (Kd.int .i64) 3 ok17 (.slice A17 (List.replicate (cl.length : Int).toNat (0 : Int)).length c17) (List.replicate (cl.length : Int).toNat 0), Ob.R w (Kd.int .i64) 3 ok13 (.slice A13 (List.replicate (cl.length : Int).toNat (0 : Int)).length c13) (List.replicate (cl.length : Int).toNat 0), ObM 2 (.slice none 0 0) gm 0 (fun _ => .slice none 0 0), Ob.B g1 (.cells #[.int .i64 sw, .slice A0 cl.length c0] 37 (0, 0)), Ob.R w (Kd.int .i64) 2 (fun _ => False) (.slice none 0 0) []])) ?_ ?_
      rotate_left
      · intro hCont
        refine four_ (i := 1) (j := 5) (k := 9) (m := 13) (Ni := some 9) (Nj := some 13) (Nk := some 17) (Nm := some 21) (tb 17 7647) (tb 17 7677) (tb 17 8157) (tb 17 15837) rfl rfl rfl rfl rfl rfl rfl rfl (four_of HT_.out (by kernel_rfl)) (by decide) (by decide) (by decide) (by decide) (fun K hK => ?_) (fun K hK => ?_) (fun K hK => ?_) (fun K hK => ?_)
        · refine value_ (w1 := wa.alloc (.map #[] 0)) (v := .map (some wa.heap.size)) (by rfl) rfl rfl ?_
          have HS2' := fillM HS2 3 rfl (k := 2) (z := .slice none 0 0); obtain ⟨v9, hv9⟩ : ∃ v : Value, v = .map (some wa.heap.size) := ⟨_, rfl⟩; obtain ⟨gm, hgm⟩ : ∃ gm, gm = wa.heap.size := ⟨_, rfl⟩; rw [← hgm] at hv9 HS2'; rw [← hgm, ← hv9]; generalize wa.alloc (.map #[] 0) = wa1 at HS2' ⊢; clear hgm; refine hK.out _ _ ⟨(blk_cell (St.getB HS2' 4 rfl ⟨0, rfl⟩) 0).trans rfl, (blk_cell (St.getB HS2' 4 rfl ⟨0, rfl⟩) 1).trans rfl⟩ (fun hHeld => ?_); clear hK K; refine nm 9 ?_; refine three_ (i := 5) (j := 9) (k := 13) (Ni := some 13) (Nj := some 17) (Nk := some 21) (tb 17 7679) (tb 17 8159) (tb 17 15839) rfl rfl rfl rfl rfl rfl (three_of HT_.out (by kernel_rfl)) (by decide) (by decide) (by decide) (fun K hK => ?_) (fun K hK => ?_) (fun K hK => ?_)
          · refine Kd.R_make_step (Kd.int .i64) (w0 := wa1) wa1.heap.size 3 (by rfl) (N := 13) rfl 78 (.tmp 12) (.tmp 12) rfl (cl.length : Int) rfl rfl Try.underlying78 (.int .i64 0) 8 info3 rfl (by decide) (by omega) 0 (ok := fun _ => True) (okp := fun _ => True) rfl (fun _ h => h) trivial HCL0.out HCLN.out (Below.refl _ _) (Nat.le_refl _) ?_
            intro v13 wa11 hr hb _ _
            obtain ⟨ok13, A13, c13, hv13, HC13, HS2''⟩ := fillR HS2' 2 rfl hb hr; clear hr hb; refine hK.out _ _ ⟨(blk_cell (St.getB HS2'' 4 rfl ⟨0, rfl⟩) 0).trans rfl, (blk_cell (St.getB HS2'' 4 rfl ⟨0, rfl⟩) 1).trans rfl⟩ (fun hHeld => ?_); clear hK K; refine nm 13 ?_; refine two_ (i := 9) (j := 13) (Ni := some 17) (Nj := some 21) (tb 17 8191) (tb 17 15871) rfl rfl rfl rfl (two_of HT_.out (by kernel_rfl)) (by decide) (by decide) (fun K hK => ?_) (fun K hK => ?_)
            · refine Kd.R_make_step (Kd.int .i64) (w0 := wa11) wa11.heap.size 3 (by rfl) (N := 17) rfl 78 (.tmp 16) (.tmp 16) rfl (cl.length : Int) rfl rfl Try.underlying78 (.int .i64 0) 8 info3 rfl (by decide) (by omega) 0 (ok := fun _ => True) (okp := fun _ => True) rfl (fun _ h => h) trivial HCL0.out HCLN.out (Below.refl _ _) (Nat.le_refl _) ?_
              intro v17 wa111 hr hb _ _
              obtain ⟨ok17, A17, c17, hv17, HC17, HS2c⟩ := fillR HS2'' 1 rfl hb hr; clear hr hb; refine hK.out _ _ ⟨(blk_cell (St.getB HS2c 4 rfl ⟨0, rfl⟩) 0).trans rfl, (blk_cell (St.getB HS2c 4 rfl ⟨0, rfl⟩) 1).trans rfl⟩ (fun hHeld => ?_); clear hK K; refine nm 17 ?_; refine oq HT_ 13 21 17 16383 (fun K hK => ?_); refine Kd.R_make_step (Kd.int .i64) (w0 := wa111) wa111.heap.size 2 (by rfl) (N := 21) rfl 33 (.tmp 20) (.tmp 20) rfl sn rfl rfl Try.underlying33 (.int .i64 0) 8 info2 rfl (by decide) (by omega) 0 (ok := fun _ => True) (okp := fun _ => True) rfl (fun _ h => h) trivial HSN0.out HSNN.out (Below.refl _ _) (Nat.le_refl _) ?_
              intro v21 wa1111 hr hb _ _
              obtain ⟨ok21, A21, c21, hv21, HC21, HS2d⟩ := fillR HS2c 0 rfl hb hr; clear hr hb; refine hK.out _ _ ⟨(blk_cell (St.getB HS2d 4 rfl ⟨0, rfl⟩) 0).trans rfl, (blk_cell (St.getB HS2d 4 rfl ⟨0, rfl⟩) 1).trans rfl⟩ (fun hHeld => ?_); clear hK K; refine nm 21 ?_
              exact norm_ (by simp only [putAll, Act.put, List.setIfInBounds_toArray, List.set_cons_zero, List.set_cons_succ]) (hCont (v9, v13, v17, v21) _ ⟨gm, ok13, A13, c13, ok17, A17, c17, ok21, A21, c21, hv9, hv13, hv17, hv21, HC13, HC17, HC21, HS2d⟩)
            · refine Kd.R_make_step (Kd.int .i64) (w0 := wa11) wa11.heap.size 2 (by rfl) (N := 21) rfl 33 (.tmp 20) (.tmp 20) rfl sn rfl rfl Try.underlying33 (.int .i64 0) 8 info2 rfl (by decide) (by omega) 0 (ok := fun _ => True) (okp := fun _ => True) rfl (fun _ h => h) trivial HSN0.out HSNN.out (Below.refl _ _) (Nat.le_refl _) ?_
              intro v21 wa111 hr hb _ _
              obtain ⟨ok21, A21, c21, hv21, HC21, HS2c⟩ := fillR HS2'' 0 rfl hb hr; clear hr hb; refine hK.out _ _ ⟨(blk_cell (St.getB HS2c 4 rfl ⟨0, rfl⟩) 0).trans rfl, (blk_cell (St.getB HS2c 4 rfl ⟨0, rfl⟩) 1).trans rfl⟩ (fun hHeld => ?_); clear hK K; refine nm 21 ?_; refine oq HT_ 9 17 17 16383 (fun K hK => ?_); refine Kd.R_make_step (Kd.int .i64) (w0 := wa111) wa111.heap.size 3 (by rfl) (N := 17) rfl 78 (.tmp 16) (.tmp 16) rfl (cl.length : Int) rfl rfl Try.underlying78 (.int .i64 0) 8 info3 rfl (by decide) (by omega) 0 (ok := fun _ => True) (okp := fun _ => True) rfl (fun _ h => h) trivial HCL0.out HCLN.out (Below.refl _ _) (Nat.le_refl _) ?_
              intro v17 wa1111 hr hb _ _
              obtain ⟨ok17, A17, c17, hv17, HC17, HS2d⟩ := fillR HS2c 1 rfl hb hr; clear hr hb; refine hK.out _ _ ⟨(blk_cell (St.getB HS2d 4 rfl ⟨0, rfl⟩) 0).trans rfl, (blk_cell (St.getB HS2d 4 rfl ⟨0, rfl⟩) 1).trans rfl⟩ (fun hHeld => ?_); clear hK K; refine nm 17 ?_
              exact norm_ (by simp only [putAll, Act.put, List.setIfInBounds_toArray, List.set_cons_zero, List.set_cons_succ]) (hCont (v9, v13, v17, v21) _ ⟨gm, ok13, A13, c13, ok17, A17, c17, ok21, A21, c21, hv9, hv13, hv17, hv21, HC13, HC17, HC21, HS2d⟩)
          · refine Kd.R_make_step (Kd.int .i64) (w0 := wa1) wa1.heap.size 3 (by rfl) (N := 17) rfl 78 (.tmp 16) (.tmp 16) rfl (cl.length : Int) rfl rfl Try.underlying78 (.int .i64 0) 8 info3 rfl (by decide) (by omega) 0 (ok := fun _ => True) (okp := fun _ => True) rfl (fun _ h => h) trivial HCL0.out HCLN.out (Below.refl _ _) (Nat.le_refl _) ?_
            intro v17 wa11 hr hb _ _
            obtain ⟨ok17, A17, c17, hv17, HC17, HS2''⟩ := fillR HS2' 1 rfl hb hr; clear hr hb; refine hK.out _ _ ⟨(blk_cell (St.getB HS2'' 4 rfl ⟨0, rfl⟩) 0).trans rfl, (blk_cell (St.getB HS2'' 4 rfl ⟨0, rfl⟩) 1).trans rfl⟩ (fun hHeld => ?_); clear hK K; refine nm 17 ?_; refine two_ (i := 5) (j := 13) (Ni := some 13) (Nj := some 21) (tb 17 8191) (tb 17 16351) rfl rfl rfl rfl (two_of HT_.out (by kernel_rfl)) (by decide) (by decide) (fun K hK => ?_) (fun K hK => ?_)
            · refine Kd.R_make_step (Kd.int .i64) (w0 := wa11) wa11.heap.size 3 (by rfl) (N := 13) rfl 78 (.tmp 12) (.tmp 12) rfl (cl.length : Int) rfl rfl Try.underlying78 (.int .i64 0) 8 info3 rfl (by decide) (by omega) 0 (ok := fun _ => True) (okp := fun _ => True) rfl (fun _ h => h) trivial HCL0.out HCLN.out (Below.refl _ _) (Nat.le_refl _) ?_
              intro v13 wa111 hr hb _ _
              obtain ⟨ok13, A13, c13, hv13, HC13, HS2c⟩ := fillR HS2'' 2 rfl hb hr; clear hr hb; refine hK.out _ _ ⟨(blk_cell (St.getB HS2c 4 rfl ⟨0, rfl⟩) 0).trans rfl, (blk_cell (St.getB HS2c 4 rfl ⟨0, rfl⟩) 1).trans rfl⟩ (fun hHeld => ?_); clear hK K; refine nm 13 ?_; refine oq HT_ 13 21 17 16383 (fun K hK => ?_); refine Kd.R_make_step (Kd.int .i64) (w0 := wa111) wa111.heap.size 2 (by rfl) (N := 21) rfl 33 (.tmp 20) (.tmp 20) rfl sn rfl rfl Try.underlying33 (.int .i64 0) 8 info2 rfl (by decide) (by omega) 0 (ok := fun _ => True) (okp := fun _ => True) rfl (fun _ h => h) trivial HSN0.out HSNN.out (Below.refl _ _) (Nat.le_refl _) ?_
              intro v21 wa1111 hr hb _ _
              obtain ⟨ok21, A21, c21, hv21, HC21, HS2d⟩ := fillR HS2c 0 rfl hb hr; clear hr hb; refine hK.out _ _ ⟨(blk_cell (St.getB HS2d 4 rfl ⟨0, rfl⟩) 0).trans rfl, (blk_cell (St.getB HS2d 4 rfl ⟨0, rfl⟩) 1).trans rfl⟩ (fun hHeld => ?_); clear hK K; refine nm 21 ?_
              exact norm_ (by simp only [putAll, Act.put, List.setIfInBounds_toArray, List.set_cons_zero, List.set_cons_succ]) (hCont (v9, v13, v17, v21) _ ⟨gm, ok13, A13, c13, ok17, A17, c17, ok21, A21, c21, hv9, hv13, hv17, hv21, HC13, HC17, HC21, HS2d⟩)
            · refine Kd.R_make_step (Kd.int .i64) (w0 := wa11) wa11.heap.size 2 (by rfl) (N := 21) rfl 33 (.tmp 20) (.tmp 20) rfl sn rfl rfl Try.underlying33 (.int .i64 0) 8 info2 rfl (by decide) (by omega) 0 (ok := fun _ => True) (okp := fun _ => True) rfl (fun _ h => h) trivial HSN0.out HSNN.out (Below.refl _ _) (Nat.le_refl _) ?_
              intro v21 wa111 hr hb _ _
              obtain ⟨ok21, A21, c21, hv21, HC21, HS2c⟩ := fillR HS2'' 0 rfl hb hr; clear hr hb; refine hK.out _ _ ⟨(blk_cell (St.getB HS2c 4 rfl ⟨0, rfl⟩) 0).trans rfl, (blk_cell (St.getB HS2c 4 rfl ⟨0, rfl⟩) 1).trans rfl⟩ (fun hHeld => ?_); clear hK K; refine nm 21 ?_; refine oq HT_ 5 13 17 16383 (fun K hK => ?_); refine Kd.R_make_step (Kd.int .i64) (w0 := wa111) wa111.heap.size 3 (by rfl) (N := 13) rfl 78 (.tmp 12) (.tmp 12) rfl (cl.length : Int) rfl rfl Try.underlying78 (.int .i64 0) 8 info3 rfl (by decide) (by omega) 0 (ok := fun _ => True) (okp := fun _ => True) rfl (fun _ h => h) trivial HCL0.out HCLN.out (Below.refl _ _) (Nat.le_refl _) ?_
              intro v13 wa1111 hr hb _ _
              obtain ⟨ok13, A13, c13, hv13, HC13, HS2d⟩ := fillR HS2c 2 rfl hb hr; clear hr hb; refine hK.out _ _ ⟨(blk_cell (St.getB HS2d 4 rfl ⟨0, rfl⟩) 0).trans rfl, (blk_cell (St.getB HS2d 4 rfl ⟨0, rfl⟩) 1).trans rfl⟩ (fun hHeld => ?_); clear hK K; refine nm 13 ?_
              exact norm_ (by simp only [putAll, Act.put, List.setIfInBounds_toArray, List.set_cons_zero, List.set_cons_succ]) (hCont (v9, v13, v17, v21) _ ⟨gm, ok13, A13, c13, ok17, A17, c17, ok21, A21, c21, hv9, hv13, hv17, hv21, HC13, HC17, HC21, HS2d⟩)
          · refine Kd.R_make_step (Kd.int .i64) (w0 := wa1) wa1.heap.size 2 (by rfl) (N := 21) rfl 33 (.tmp 20) (.tmp 20) rfl sn rfl rfl Try.underlying33 (.int .i64 0) 8 info2 rfl (by decide) (by omega) 0 (ok := fun _ => True) (okp := fun _ => True) rfl (fun _ h => h) trivial HSN0.out HSNN.out (Below.refl _ _) (Nat.le_refl _) ?_
            intro v21 wa11 hr hb _ _
            obtain ⟨ok21, A21, c21, hv21, HC21, HS2''⟩ := fillR HS2' 0 rfl hb hr; clear hr hb; refine hK.out _ _ ⟨(blk_cell (St.getB HS2'' 4 rfl ⟨0, rfl⟩) 0).trans rfl, (blk_cell (St.getB HS2'' 4 rfl ⟨0, rfl⟩) 1).trans rfl⟩ (fun hHeld => ?_); clear hK K; refine nm 21 ?_; refine two_ (i := 5) (j := 9) (Ni := some 13) (Nj := some 17) (tb 17 15871) (tb 17 16351) rfl rfl rfl rfl (two_of HT_.out (by kernel_rfl)) (by decide) (by decide) (fun K hK => ?_) (fun K hK => ?_)
            · refine Kd.R_make_step (Kd.int .i64) (w0 := wa11) wa11.heap.size 3 (by rfl) (N := 13) rfl 78 (.tmp 12) (.tmp 12) rfl (cl.length : Int) rfl rfl Try.underlying78 (.int .i64 0) 8 info3 rfl (by decide) (by omega) 0 (ok := fun _ => True) (okp := fun _ => True) rfl (fun _ h => h) trivial HCL0.out HCLN.out (Below.refl _ _) (Nat.le_refl _) ?_
              intro v13 wa111 hr hb _ _
              obtain ⟨ok13, A13, c13, hv13, HC13, HS2c⟩ := fillR HS2'' 2 rfl hb hr; clear hr hb; refine hK.out _ _ ⟨(blk_cell (St.getB HS2c 4 rfl ⟨0, rfl⟩) 0).trans rfl, (blk_cell (St.getB HS2c 4 rfl ⟨0, rfl⟩) 1).trans rfl⟩ (fun hHeld => ?_); clear hK K; refine nm 13 ?_; refine oq HT_ 9 17 17 16383 (fun K hK => ?_); refine Kd.R_make_step (Kd.int .i64) (w0 := wa111) wa111.heap.size 3 (by rfl) (N := 17) rfl 78 (.tmp 16) (.tmp 16) rfl (cl.length : Int) rfl rfl Try.underlying78 (.int .i64 0) 8 info3 rfl (by decide) (by omega) 0 (ok := fun _ => True) (okp := fun _ => True) rfl (fun _ h => h) trivial HCL0.out HCLN.out (Below.refl _ _) (Nat.le_refl _) ?_
              intro v17 wa1111 hr hb _ _
              obtain ⟨ok17, A17, c17, hv17, HC17, HS2d⟩ := fillR HS2c 1 rfl hb hr; clear hr hb; refine hK.out _ _ ⟨(blk_cell (St.getB HS2d 4 rfl ⟨0, rfl⟩) 0).trans rfl, (blk_cell (St.getB HS2d 4 rfl ⟨0, rfl⟩) 1).trans rfl⟩ (fun hHeld => ?_); clear hK K; refine nm 17 ?_
              exact norm_ (by simp only [putAll, Act.put, List.setIfInBounds_toArray, List.set_cons_zero, List.set_cons_succ]) (hCont (v9, v13, v17, v21) _ ⟨gm, ok13, A13, c13, ok17, A17, c17, ok21, A21, c21, hv9, hv13, hv17, hv21, HC13, HC17, HC21, HS2d⟩)
            · refine Kd.R_make_step (Kd.int .i64) (w0 := wa11) wa11.heap.size 3 (by rfl) (N := 17) rfl 78 (.tmp 16) (.tmp 16) rfl (cl.length : Int) rfl rfl Try.underlying78 (.int .i64 0) 8 info3 rfl (by decide) (by omega) 0 (ok := fun _ => True) (okp := fun _ => True) rfl (fun _ h => h) trivial HCL0.out HCLN.out (Below.refl _ _) (Nat.le_refl _) ?_
              intro v17 wa111 hr hb _ _
              obtain ⟨ok17, A17, c17, hv17, HC17, HS2c⟩ := fillR HS2'' 1 rfl hb hr; clear hr hb; refine hK.out _ _ ⟨(blk_cell (St.getB HS2c 4 rfl ⟨0, rfl⟩) 0).trans rfl, (blk_cell (St.getB HS2c 4 rfl ⟨0, rfl⟩) 1).trans rfl⟩ (fun hHeld => ?_); clear hK K; refine nm 17 ?_; refine oq HT_ 5 13 17 16383 (fun K hK => ?_); refine Kd.R_make_step (Kd.int .i64) (w0 := wa111) wa111.heap.size 3 (by rfl) (N := 13) rfl 78 (.tmp 12) (.tmp 12) rfl (cl.length : Int) rfl rfl Try.underlying78 (.int .i64 0) 8 info3 rfl (by decide) (by omega) 0 (ok := fun _ => True) (okp := fun _ => True) rfl (fun _ h => h) trivial HCL0.out HCLN.out (Below.refl _ _) (Nat.le_refl _) ?_
              intro v13 wa1111 hr hb _ _
              obtain ⟨ok13, A13, c13, hv13, HC13, HS2d⟩ := fillR HS2c 2 rfl hb hr; clear hr hb; refine hK.out _ _ ⟨(blk_cell (St.getB HS2d 4 rfl ⟨0, rfl⟩) 0).trans rfl, (blk_cell (St.getB HS2d 4 rfl ⟨0, rfl⟩) 1).trans rfl⟩ (fun hHeld => ?_); clear hK K; refine nm 13 ?_
              exact norm_ (by simp only [putAll, Act.put, List.setIfInBounds_toArray, List.set_cons_zero, List.set_cons_succ]) (hCont (v9, v13, v17, v21) _ ⟨gm, ok13, A13, c13, ok17, A17, c17, ok21, A21, c21, hv9, hv13, hv17, hv21, HC13, HC17, HC21, HS2d⟩)
        · refine Kd.R_make_step (Kd.int .i64) (w0 := wa) wa.heap.size 3 (by rfl) (N := 13) rfl 78 (.tmp 12) (.tmp 12) rfl (cl.length : Int) rfl rfl Try.underlying78 (.int .i64 0) 8 info3 rfl (by decide) (by omega) 0 (ok := fun _ => True) (okp := fun _ => True) rfl (fun _ h => h) trivial HCL0.out HCLN.out (Below.refl _ _) (Nat.le_refl _) ?_
          intro v13 wa1 hr hb _ _
          obtain ⟨ok13, A13, c13, hv13, HC13, HS2'⟩ := fillR HS2 2 rfl hb hr; clear hr hb; refine hK.out _ _ ⟨(blk_cell (St.getB HS2' 4 rfl ⟨0, rfl⟩) 0).trans rfl, (blk_cell (St.getB HS2' 4 rfl ⟨0, rfl⟩) 1).trans rfl⟩ (fun hHeld => ?_); clear hK K; refine nm 13 ?_; refine three_ (i := 1) (j := 9) (k := 13) (Ni := some 9) (Nj := some 17) (Nk := some 21) (tb 17 7679) (tb 17 8189) (tb 17 15869) rfl rfl rfl rfl rfl rfl (three_of HT_.out (by kernel_rfl)) (by decide) (by decide) (by decide) (fun K hK => ?_) (fun K hK => ?_) (fun K hK => ?_)
          · refine value_ (w1 := wa1.alloc (.map #[] 0)) (v := .map (some wa1.heap.size)) (by rfl) rfl rfl ?_
            have HS2'' := fillM HS2' 3 rfl (k := 2) (z := .slice none 0 0); obtain ⟨v9, hv9⟩ : ∃ v : Value, v = .map (some wa1.heap.size) := ⟨_, rfl⟩; obtain ⟨gm, hgm⟩ : ∃ gm, gm = wa1.heap.size := ⟨_, rfl⟩; rw [← hgm] at hv9 HS2''; rw [← hgm, ← hv9]; generalize wa1.alloc (.map #[] 0) = wa11 at HS2'' ⊢; clear hgm; refine hK.out _ _ ⟨(blk_cell (St.getB HS2'' 4 rfl ⟨0, rfl⟩) 0).trans rfl, (blk_cell (St.getB HS2'' 4 rfl ⟨0, rfl⟩) 1).trans rfl⟩ (fun hHeld => ?_); clear hK K; refine nm 9 ?_; refine two_ (i := 9) (j := 13) (Ni := some 17) (Nj := some 21) (tb 17 8191) (tb 17 15871) rfl rfl rfl rfl (two_of HT_.out (by kernel_rfl)) (by decide) (by decide) (fun K hK => ?_) (fun K hK => ?_)
            · refine Kd.R_make_step (Kd.int .i64) (w0 := wa11) wa11.heap.size 3 (by rfl) (N := 17) rfl 78 (.tmp 16) (.tmp 16) rfl (cl.length : Int) rfl rfl Try.underlying78 (.int .i64 0) 8 info3 rfl (by decide) (by omega) 0 (ok := fun _ => True) (okp := fun _ => True) rfl (fun _ h => h) trivial HCL0.out HCLN.out (Below.refl _ _) (Nat.le_refl _) ?_
              intro v17 wa111 hr hb _ _
              obtain ⟨ok17, A17, c17, hv17, HC17, HS2c⟩ := fillR HS2'' 1 rfl hb hr; clear hr hb; refine hK.out _ _ ⟨(blk_cell (St.getB HS2c 4 rfl ⟨0, rfl⟩) 0).trans rfl, (blk_cell (St.getB HS2c 4 rfl ⟨0, rfl⟩) 1).trans rfl⟩ (fun hHeld => ?_); clear hK K; refine nm 17 ?_; refine oq HT_ 13 21 17 16383 (fun K hK => ?_); refine Kd.R_make_step (Kd.int .i64) (w0 := wa111) wa111.heap.size 2 (by rfl) (N := 21) rfl 33 (.tmp 20) (.tmp 20) rfl sn rfl rfl Try.underlying33 (.int .i64 0) 8 info2 rfl (by decide) (by omega) 0 (ok := fun _ => True) (okp := fun _ => True) rfl (fun _ h => h) trivial HSN0.out HSNN.out (Below.refl _ _) (Nat.le_refl _) ?_
              intro v21 wa1111 hr hb _ _
              obtain ⟨ok21, A21, c21, hv21, HC21, HS2d⟩ := fillR HS2c 0 rfl hb hr; clear hr hb; refine hK.out _ _ ⟨(blk_cell (St.getB HS2d 4 rfl ⟨0, rfl⟩) 0).trans rfl, (blk_cell (St.getB HS2d 4 rfl ⟨0, rfl⟩) 1).trans rfl⟩ (fun hHeld => ?_); clear hK K; refine nm 21 ?_
              exact norm_ (by simp only [putAll, Act.put, List.setIfInBounds_toArray, List.set_cons_zero, List.set_cons_succ]) (hCont (v9, v13, v17, v21) _ ⟨gm, ok13, A13, c13, ok17, A17, c17, ok21, A21, c21, hv9, hv13, hv17, hv21, HC13, HC17, HC21, HS2d⟩)
            · refine Kd.R_make_step (Kd.int .i64) (w0 := wa11) wa11.heap.size 2 (by rfl) (N := 21) rfl 33 (.tmp 20) (.tmp 20) rfl sn rfl rfl Try.underlying33 (.int .i64 0) 8 info2 rfl (by decide) (by omega) 0 (ok := fun _ => True) (okp := fun _ => True) rfl (fun _ h => h) trivial HSN0.out HSNN.out (Below.refl _ _) (Nat.le_refl _) ?_
              intro v21 wa111 hr hb _ _
              obtain ⟨ok21, A21, c21, hv21, HC21, HS2c⟩ := fillR HS2'' 0 rfl hb hr; clear hr hb; refine hK.out _ _ ⟨(blk_cell (St.getB HS2c 4 rfl ⟨0, rfl⟩) 0).trans rfl, (blk_cell (St.getB HS2c 4 rfl ⟨0, rfl⟩) 1).trans rfl⟩ (fun hHeld => ?_); clear hK K; refine nm 21 ?_; refine oq HT_ 9 17 17 16383 (fun K hK => ?_); refine Kd.R_make_step (Kd.int .i64) (w0 := wa111) wa111.heap.size 3 (by rfl) (N := 17) rfl 78 (.tmp 16) (.tmp 16) rfl (cl.length : Int) rfl rfl Try.underlying78 (.int .i64 0) 8 info3 rfl (by decide) (by omega) 0 (ok := fun _ => True) (okp := fun _ => True) rfl (fun _ h => h) trivial HCL0.out HCLN.out (Below.refl _ _) (Nat.le_refl _) ?_
              intro v17 wa1111 hr hb _ _
              obtain ⟨ok17, A17, c17, hv17, HC17, HS2d⟩ := fillR HS2c 1 rfl hb hr; clear hr hb; refine hK.out _ _ ⟨(blk_cell (St.getB HS2d 4 rfl ⟨0, rfl⟩) 0).trans rfl, (blk_cell (St.getB HS2d 4 rfl ⟨0, rfl⟩) 1).trans rfl⟩ (fun hHeld => ?_); clear hK K; refine nm 17 ?_
              exact norm_ (by simp only [putAll, Act.put, List.setIfInBounds_toArray, List.set_cons_zero, List.set_cons_succ]) (hCont (v9, v13, v17, v21) _ ⟨gm, ok13, A13, c13, ok17, A17, c17, ok21, A21, c21, hv9, hv13, hv17, hv21, HC13, HC17, HC21, HS2d⟩)
          · refine Kd.R_make_step (Kd.int .i64) (w0 := wa1) wa1.heap.size 3 (by rfl) (N := 17) rfl 78 (.tmp 16) (.tmp 16) rfl (cl.length : Int) rfl rfl Try.underlying78 (.int .i64 0) 8 info3 rfl (by decide) (by omega) 0 (ok := fun _ => True) (okp := fun _ => True) rfl (fun _ h => h) trivial HCL0.out HCLN.out (Below.refl _ _) (Nat.le_refl _) ?_
            intro v17 wa11 hr hb _ _
            obtain ⟨ok17, A17, c17, hv17, HC17, HS2''⟩ := fillR HS2' 1 rfl hb hr; clear hr hb; refine hK.out _ _ ⟨(blk_cell (St.getB HS2'' 4 rfl ⟨0, rfl⟩) 0).trans rfl, (blk_cell (St.getB HS2'' 4 rfl ⟨0, rfl⟩) 1).trans rfl⟩ (fun hHeld => ?_); clear hK K; refine nm 17 ?_; refine two_ (i := 1) (j := 13) (Ni := some 9) (Nj := some 21) (tb 17 8191) (tb 17 16381) rfl rfl rfl rfl (two_of HT_.out (by kernel_rfl)) (by decide) (by decide) (fun K hK => ?_) (fun K hK => ?_)
            · refine value_ (w1 := wa11.alloc (.map #[] 0)) (v := .map (some wa11.heap.size)) (by rfl) rfl rfl ?_
              have HS2c := fillM HS2'' 3 rfl (k := 2) (z := .slice none 0 0); obtain ⟨v9, hv9⟩ : ∃ v : Value, v = .map (some wa11.heap.size) := ⟨_, rfl⟩; obtain ⟨gm, hgm⟩ : ∃ gm, gm = wa11.heap.size := ⟨_, rfl⟩; rw [← hgm] at hv9 HS2c; rw [← hgm, ← hv9]; generalize wa11.alloc (.map #[] 0) = wa111 at HS2c ⊢; clear hgm; refine hK.out _ _ ⟨(blk_cell (St.getB HS2c 4 rfl ⟨0, rfl⟩) 0).trans rfl, (blk_cell (St.getB HS2c 4 rfl ⟨0, rfl⟩) 1).trans rfl⟩ (fun hHeld => ?_); clear hK K; refine nm 9 ?_; refine oq HT_ 13 21 17 16383 (fun K hK => ?_); refine Kd.R_make_step (Kd.int .i64) (w0 := wa111) wa111.heap.size 2 (by rfl) (N := 21) rfl 33 (.tmp 20) (.tmp 20) rfl sn rfl rfl Try.underlying33 (.int .i64 0) 8 info2 rfl (by decide) (by omega) 0 (ok := fun _ => True) (okp := fun _ => True) rfl (fun _ h => h) trivial HSN0.out HSNN.out (Below.refl _ _) (Nat.le_refl _) ?_
              intro v21 wa1111 hr hb _ _
              obtain ⟨ok21, A21, c21, hv21, HC21, HS2d⟩ := fillR HS2c 0 rfl hb hr; clear hr hb; refine hK.out _ _ ⟨(blk_cell (St.getB HS2d 4 rfl ⟨0, rfl⟩) 0).trans rfl, (blk_cell (St.getB HS2d 4 rfl ⟨0, rfl⟩) 1).trans rfl⟩ (fun hHeld => ?_); clear hK K; refine nm 21 ?_
              exact norm_ (by simp only [putAll, Act.put, List.setIfInBounds_toArray, List.set_cons_zero, List.set_cons_succ]) (hCont (v9, v13, v17, v21) _ ⟨gm, ok13, A13, c13, ok17, A17, c17, ok21, A21, c21, hv9, hv13, hv17, hv21, HC13, HC17, HC21, HS2d⟩)
            · refine Kd.R_make_step (Kd.int .i64) (w0 := wa11) wa11.heap.size 2 (by rfl) (N := 21) rfl 33 (.tmp 20) (.tmp 20) rfl sn rfl rfl Try.underlying33 (.int .i64 0) 8 info2 rfl (by decide) (by omega) 0 (ok := fun _ => True) (okp := fun _ => True) rfl (fun _ h => h) trivial HSN0.out HSNN.out (Below.refl _ _) (Nat.le_refl _) ?_
              intro v21 wa111 hr hb _ _
              obtain ⟨ok21, A21, c21, hv21, HC21, HS2c⟩ := fillR HS2'' 0 rfl hb hr; clear hr hb; refine hK.out _ _ ⟨(blk_cell (St.getB HS2c 4 rfl ⟨0, rfl⟩) 0).trans rfl, (blk_cell (St.getB HS2c 4 rfl ⟨0, rfl⟩) 1).trans rfl⟩ (fun hHeld => ?_); clear hK K; refine nm 21 ?_; refine oq HT_ 1 9 17 16383 (fun K hK => ?_); refine value_ (w1 := wa111.alloc (.map #[] 0)) (v := .map (some wa111.heap.size)) (by rfl) rfl rfl ?_; have HS2d := fillM HS2c 3 rfl (k := 2) (z := .slice none 0 0); obtain ⟨v9, hv9⟩ : ∃ v : Value, v = .map (some wa111.heap.size) := ⟨_, rfl⟩; obtain ⟨gm, hgm⟩ : ∃ gm, gm = wa111.heap.size := ⟨_, rfl⟩; rw [← hgm] at hv9 HS2d; rw [← hgm, ← hv9]; generalize wa111.alloc (.map #[] 0) = wa1111 at HS2d ⊢; clear hgm; refine hK.out _ _ ⟨(blk_cell (St.getB HS2d 4 rfl ⟨0, rfl⟩) 0).trans rfl, (blk_cell (St.getB HS2d 4 rfl ⟨0, rfl⟩) 1).trans rfl⟩ (fun hHeld => ?_); clear hK K; refine nm 9 ?_
              exact norm_ (by simp only [putAll, Act.put, List.setIfInBounds_toArray, List.set_cons_zero, List.set_cons_succ]) (hCont (v9, v13, v17, v21) _ ⟨gm, ok13, A13, c13, ok17, A17, c17, ok21, A21, c21, hv9, hv13, hv17, hv21, HC13, HC17, HC21, HS2d⟩)
          · refine Kd.R_make_step (Kd.int .i64) (w0 := wa1) wa1.heap.size 2 (by rfl) (N := 21) rfl 33 (.tmp 20) (.tmp 20) rfl sn rfl rfl Try.underlying33 (.int .i64 0) 8 info2 rfl (by decide) (by omega) 0 (ok := fun _ => True) (okp := fun _ => True) rfl (fun _ h => h) trivial HSN0.out HSNN.out (Below.refl _ _) (Nat.le_refl _) ?_
            intro v21 wa11 hr hb _ _
            obtain ⟨ok21, A21, c21, hv21, HC21, HS2''⟩ := fillR HS2' 0 rfl hb hr; clear hr hb; refine hK.out _ _ ⟨(blk_cell (St.getB HS2'' 4 rfl ⟨0, rfl⟩) 0).trans rfl, (blk_cell (St.getB HS2'' 4 rfl ⟨0, rfl⟩) 1).trans rfl⟩ (fun hHeld => ?_); clear hK K; refine nm 21 ?_; refine two_ (i := 1) (j := 9) (Ni := some 9) (Nj := some 17) (tb 17 15871) (tb 17 16381) rfl rfl rfl rfl (two_of HT_.out (by kernel_rfl)) (by decide) (by decide) (fun K hK => ?_) (fun K hK => ?_)
            · refine value_ (w1 := wa11.alloc (.map #[] 0)) (v := .map (some wa11.heap.size)) (by rfl) rfl rfl ?_
              have HS2c := fillM HS2'' 3 rfl (k := 2) (z := .slice none 0 0); obtain ⟨v9, hv9⟩ : ∃ v : Value, v = .map (some wa11.heap.size) := ⟨_, rfl⟩; obtain ⟨gm, hgm⟩ : ∃ gm, gm = wa11.heap.size := ⟨_, rfl⟩; rw [← hgm] at hv9 HS2c; rw [← hgm, ← hv9]; generalize wa11.alloc (.map #[] 0) = wa111 at HS2c ⊢; clear hgm; refine hK.out _ _ ⟨(blk_cell (St.getB HS2c 4 rfl ⟨0, rfl⟩) 0).trans rfl, (blk_cell (St.getB HS2c 4 rfl ⟨0, rfl⟩) 1).trans rfl⟩ (fun hHeld => ?_); clear hK K; refine nm 9 ?_; refine oq HT_ 9 17 17 16383 (fun K hK => ?_); refine Kd.R_make_step (Kd.int .i64) (w0 := wa111) wa111.heap.size 3 (by rfl) (N := 17) rfl 78 (.tmp 16) (.tmp 16) rfl (cl.length : Int) rfl rfl Try.underlying78 (.int .i64 0) 8 info3 rfl (by decide) (by omega) 0 (ok := fun _ => True) (okp := fun _ => True) rfl (fun _ h => h) trivial HCL0.out HCLN.out (Below.refl _ _) (Nat.le_refl _) ?_
              intro v17 wa1111 hr hb _ _
              obtain ⟨ok17, A17, c17, hv17, HC17, HS2d⟩ := fillR HS2c 1 rfl hb hr; clear hr hb; refine hK.out _ _ ⟨(blk_cell (St.getB HS2d 4 rfl ⟨0, rfl⟩) 0).trans rfl, (blk_cell (St.getB HS2d 4 rfl ⟨0, rfl⟩) 1).trans rfl⟩ (fun hHeld => ?_); clear hK K; refine nm 17 ?_
              exact norm_ (by simp only [putAll, Act.put, List.setIfInBounds_toArray, List.set_cons_zero, List.set_cons_succ]) (hCont (v9, v13, v17, v21) _ ⟨gm, ok13, A13, c13, ok17, A17, c17, ok21, A21, c21, hv9, hv13, hv17, hv21, HC13, HC17, HC21, HS2d⟩)
            · refine Kd.R_make_step (Kd.int .i64) (w0 := wa11) wa11.heap.size 3 (by rfl) (N := 17) rfl 78 (.tmp 16) (.tmp 16) rfl (cl.length : Int) rfl rfl Try.underlying78 (.int .i64 0) 8 info3 rfl (by decide) (by omega) 0 (ok := fun _ => True) (okp := fun _ => True) rfl (fun _ h => h) trivial HCL0.out HCLN.out (Below.refl _ _) (Nat.le_refl _) ?_
              intro v17 wa111 hr hb _ _
              obtain ⟨ok17, A17, c17, hv17, HC17, HS2c⟩ := fillR HS2'' 1 rfl hb hr; clear hr hb; refine hK.out _ _ ⟨(blk_cell (St.getB HS2c 4 rfl ⟨0, rfl⟩) 0).trans rfl, (blk_cell (St.getB HS2c 4 rfl ⟨0, rfl⟩) 1).trans rfl⟩ (fun hHeld => ?_); clear hK K; refine nm 17 ?_; refine oq HT_ 1 9 17 16383 (fun K hK => ?_); refine value_ (w1 := wa111.alloc (.map #[] 0)) (v := .map (some wa111.heap.size)) (by rfl) rfl rfl ?_; have HS2d := fillM HS2c 3 rfl (k := 2) (z := .slice none 0 0); obtain ⟨v9, hv9⟩ : ∃ v : Value, v = .map (some wa111.heap.size) := ⟨_, rfl⟩; obtain ⟨gm, hgm⟩ : ∃ gm, gm = wa111.heap.size := ⟨_, rfl⟩; rw [← hgm] at hv9 HS2d; rw [← hgm, ← hv9]; generalize wa111.alloc (.map #[] 0) = wa1111 at HS2d ⊢; clear hgm; refine hK.out _ _ ⟨(blk_cell (St.getB HS2d 4 rfl ⟨0, rfl⟩) 0).trans rfl, (blk_cell (St.getB HS2d 4 rfl ⟨0, rfl⟩) 1).trans rfl⟩ (fun hHeld => ?_); clear hK K; refine nm 9 ?_
              exact norm_ (by simp only [putAll, Act.put, List.setIfInBounds_toArray, List.set_cons_zero, List.set_cons_succ]) (hCont (v9, v13, v17, v21) _ ⟨gm, ok13, A13, c13, ok17, A17, c17, ok21, A21, c21, hv9, hv13, hv17, hv21, HC13, HC17, HC21, HS2d⟩)
        · refine Kd.R_make_step (Kd.int .i64) (w0 := wa) wa.heap.size 3 (by rfl) (N := 17) rfl 78 (.tmp 16) (.tmp 16) rfl (cl.length : Int) rfl rfl Try.underlying78 (.int .i64 0) 8 info3 rfl (by decide) (by omega) 0 (ok := fun _ => True) (okp := fun _ => True) rfl (fun _ h => h) trivial HCL0.out HCLN.out (Below.refl _ _) (Nat.le_refl _) ?_
          intro v17 wa1 hr hb _ _
          obtain ⟨ok17, A17, c17, hv17, HC17, HS2'⟩ := fillR HS2 1 rfl hb hr; clear hr hb; refine hK.out _ _ ⟨(blk_cell (St.getB HS2' 4 rfl ⟨0, rfl⟩) 0).trans rfl, (blk_cell (St.getB HS2' 4 rfl ⟨0, rfl⟩) 1).trans rfl⟩ (fun hHeld => ?_); clear hK K; refine nm 17 ?_; refine three_ (i := 1) (j := 5) (k := 13) (Ni := some 9) (Nj := some 13) (Nk := some 21) (tb 17 8159) (tb 17 8189) (tb 17 16349) rfl rfl rfl rfl rfl rfl (three_of HT_.out (by kernel_rfl)) (by decide) (by decide) (by decide) (fun K hK => ?_) (fun K hK => ?_) (fun K hK => ?_)
          · refine value_ (w1 := wa1.alloc (.map #[] 0)) (v := .map (some wa1.heap.size)) (by rfl) rfl rfl ?_
            have HS2'' := fillM HS2' 3 rfl (k := 2) (z := .slice none 0 0); obtain ⟨v9, hv9⟩ : ∃ v : Value, v = .map (some wa1.heap.size) := ⟨_, rfl⟩; obtain ⟨gm, hgm⟩ : ∃ gm, gm = wa1.heap.size := ⟨_, rfl⟩; rw [← hgm] at hv9 HS2''; rw [← hgm, ← hv9]; generalize wa1.alloc (.map #[] 0) = wa11 at HS2'' ⊢; clear hgm; refine hK.out _ _ ⟨(blk_cell (St.getB HS2'' 4 rfl ⟨0, rfl⟩) 0).trans rfl, (blk_cell (St.getB HS2'' 4 rfl ⟨0, rfl⟩) 1).trans rfl⟩ (fun hHeld => ?_); clear hK K; refine nm 9 ?_; refine two_ (i := 5) (j := 13) (Ni := some 13) (Nj := some 21) (tb 17 8191) (tb 17 16351) rfl rfl rfl rfl (two_of HT_.out (by kernel_rfl)) (by decide) (by decide) (fun K hK => ?_) (fun K hK => ?_)
            · refine Kd.R_make_step (Kd.int .i64) (w0 := wa11) wa11.heap.size 3 (by rfl) (N := 13) rfl 78 (.tmp 12) (.tmp 12) rfl (cl.length : Int) rfl rfl Try.underlying78 (.int .i64 0) 8 info3 rfl (by decide) (by omega) 0 (ok := fun _ => True) (okp := fun _ => True) rfl (fun _ h => h) trivial HCL0.out HCLN.out (Below.refl _ _) (Nat.le_refl _) ?_
              intro v13 wa111 hr hb _ _
              obtain ⟨ok13, A13, c13, hv13, HC13, HS2c⟩ := fillR HS2'' 2 rfl hb hr; clear hr hb; refine hK.out _ _ ⟨(blk_cell (St.getB HS2c 4 rfl ⟨0, rfl⟩) 0).trans rfl, (blk_cell (St.getB HS2c 4 rfl ⟨0, rfl⟩) 1).trans rfl⟩ (fun hHeld => ?_); clear hK K; refine nm 13 ?_; refine oq HT_ 13 21 17 16383 (fun K hK => ?_); refine Kd.R_make_step (Kd.int .i64) (w0 := wa111) wa111.heap.size 2 (by rfl) (N := 21) rfl 33 (.tmp 20) (.tmp 20) rfl sn rfl rfl Try.underlying33 (.int .i64 0) 8 info2 rfl (by decide) (by omega) 0 (ok := fun _ => True) (okp := fun _ => True) rfl (fun _ h => h) trivial HSN0.out HSNN.out (Below.refl _ _) (Nat.le_refl _) ?_
              intro v21 wa1111 hr hb _ _
              obtain ⟨ok21, A21, c21, hv21, HC21, HS2d⟩ := fillR HS2c 0 rfl hb hr; clear hr hb; refine hK.out _ _ ⟨(blk_cell (St.getB HS2d 4 rfl ⟨0, rfl⟩) 0).trans rfl, (blk_cell (St.getB HS2d 4 rfl ⟨0, rfl⟩) 1).trans rfl⟩ (fun hHeld => ?_); clear hK K; refine nm 21 ?_
              exact norm_ (by simp only [putAll, Act.put, List.setIfInBounds_toArray, List.set_cons_zero, List.set_cons_succ]) (hCont (v9, v13, v17, v21) _ ⟨gm, ok13, A13, c13, ok17, A17, c17, ok21, A21, c21, hv9, hv13, hv17, hv21, HC13, HC17, HC21, HS2d⟩)
            · refine Kd.R_make_step (Kd.int .i64) (w0 := wa11) wa11.heap.size 2 (by rfl) (N := 21) rfl 33 (.tmp 20) (.tmp 20) rfl sn rfl rfl Try.underlying33 (.int .i64 0) 8 info2 rfl (by decide) (by omega) 0 (ok := fun _ => True) (okp := fun _ => True) rfl (fun _ h => h) trivial HSN0.out HSNN.out (Below.refl _ _) (Nat.le_refl _) ?_
              intro v21 wa111 hr hb _ _
              obtain ⟨ok21, A21, c21, hv21, HC21, HS2c⟩ := fillR HS2'' 0 rfl hb hr; clear hr hb; refine hK.out _ _ ⟨(blk_cell (St.getB HS2c 4 rfl ⟨0, rfl⟩) 0).trans rfl, (blk_cell (St.getB HS2c 4 rfl ⟨0, rfl⟩) 1).trans rfl⟩ (fun hHeld => ?_); clear hK K; refine nm 21 ?_; refine oq HT_ 5 13 17 16383 (fun K hK => ?_); refine Kd.R_make_step (Kd.int .i64) (w0 := wa111) wa111.heap.size 3 (by rfl) (N := 13) rfl 78 (.tmp 12) (.tmp 12) rfl (cl.length : Int) rfl rfl Try.underlying78 (.int .i64 0) 8 info3 rfl (by decide) (by omega) 0 (ok := fun _ => True) (okp := fun _ => True) rfl (fun _ h => h) trivial HCL0.out HCLN.out (Below.refl _ _) (Nat.le_refl _) ?_
              intro v13 wa1111 hr hb _ _
              obtain ⟨ok13, A13, c13, hv13, HC13, HS2d⟩ := fillR HS2c 2 rfl hb hr; clear hr hb; refine hK.out _ _ ⟨(blk_cell (St.getB HS2d 4 rfl ⟨0, rfl⟩) 0).trans rfl, (blk_cell (St.getB HS2d 4 rfl ⟨0, rfl⟩) 1).trans rfl⟩ (fun hHeld => ?_); clear hK K; refine nm 13 ?_
              exact norm_ (by simp only [putAll, Act.put, List.setIfInBounds_toArray, List.set_cons_zero, List.set_cons_succ]) (hCont (v9, v13, v17, v21) _ ⟨gm, ok13, A13, c13, ok17, A17, c17, ok21, A21, c21, hv9, hv13, hv17, hv21, HC13, HC17, HC21, HS2d⟩)
          · refine Kd.R_make_step (Kd.int .i64) (w0 := wa1) wa1.heap.size 3 (by rfl) (N := 13) rfl 78 (.tmp 12) (.tmp 12) rfl (cl.length : Int) rfl rfl Try.underlying78 (.int .i64 0) 8 info3 rfl (by decide) (by omega) 0 (ok := fun _ => True) (okp := fun _ => True) rfl (fun _ h => h) trivial HCL0.out HCLN.out (Below.refl _ _) (Nat.le_refl _) ?_
            intro v13 wa11 hr hb _ _
            obtain ⟨ok13, A13, c13, hv13, HC13, HS2''⟩ := fillR HS2' 2 rfl hb hr; clear hr hb; refine hK.out _ _ ⟨(blk_cell (St.getB HS2'' 4 rfl ⟨0, rfl⟩) 0).trans rfl, (blk_cell (St.getB HS2'' 4 rfl ⟨0, rfl⟩) 1).trans rfl⟩ (fun hHeld => ?_); clear hK K; refine nm 13 ?_; refine two_ (i := 1) (j := 13) (Ni := some 9) (Nj := some 21) (tb 17 8191) (tb 17 16381) rfl rfl rfl rfl (two_of HT_.out (by kernel_rfl)) (by decide) (by decide) (fun K hK => ?_) (fun K hK => ?_)
            · refine value_ (w1 := wa11.alloc (.map #[] 0)) (v := .map (some wa11.heap.size)) (by rfl) rfl rfl ?_
              have HS2c := fillM HS2'' 3 rfl (k := 2) (z := .slice none 0 0); obtain ⟨v9, hv9⟩ : ∃ v : Value, v = .map (some wa11.heap.size) := ⟨_, rfl⟩; obtain ⟨gm, hgm⟩ : ∃ gm, gm = wa11.heap.size := ⟨_, rfl⟩; rw [← hgm] at hv9 HS2c; rw [← hgm, ← hv9]; generalize wa11.alloc (.map #[] 0) = wa111 at HS2c ⊢; clear hgm; refine hK.out _ _ ⟨(blk_cell (St.getB HS2c 4 rfl ⟨0, rfl⟩) 0).trans rfl, (blk_cell (St.getB HS2c 4 rfl ⟨0, rfl⟩) 1).trans rfl⟩ (fun hHeld => ?_); clear hK K; refine nm 9 ?_; refine oq HT_ 13 21 17 16383 (fun K hK => ?_); refine Kd.R_make_step (Kd.int .i64) (w0 := wa111) wa111.heap.size 2 (by rfl) (N := 21) rfl 33 (.tmp 20) (.tmp 20) rfl sn rfl rfl Try.underlying33 (.int .i64 0) 8 info2 rfl (by decide) (by omega) 0 (ok := fun _ => True) (okp := fun _ => True) rfl (fun _ h => h) trivial HSN0.out HSNN.out (Below.refl _ _) (Nat.le_refl _) ?_
              intro v21 wa1111 hr hb _ _
              obtain ⟨ok21, A21, c21, hv21, HC21, HS2d⟩ := fillR HS2c 0 rfl hb hr; clear hr hb; refine hK.out _ _ ⟨(blk_cell (St.getB HS2d 4 rfl ⟨0, rfl⟩) 0).trans rfl, (blk_cell (St.getB HS2d 4 rfl ⟨0, rfl⟩) 1).trans rfl⟩ (fun hHeld => ?_); clear hK K; refine nm 21 ?_
              exact norm_ (by simp only [putAll, Act.put, List.setIfInBounds_toArray, List.set_cons_zero, List.set_cons_succ]) (hCont (v9, v13, v17, v21) _ ⟨gm, ok13, A13, c13, ok17, A17, c17, ok21, A21, c21, hv9, hv13, hv17, hv21, HC13, HC17, HC21, HS2d⟩)
            · refine Kd.R_make_step (Kd.int .i64) (w0 := wa11) wa11.heap.size 2 (by rfl) (N := 21) rfl 33 (.tmp 20) (.tmp 20) rfl sn rfl rfl Try.underlying33 (.int .i64 0) 8 info2 rfl (by decide) (by omega) 0 (ok := fun _ => True) (okp := fun _ => True) rfl (fun _ h => h) trivial HSN0.out HSNN.out (Below.refl _ _) (Nat.le_refl _) ?_
              intro v21 wa111 hr hb _ _
              obtain ⟨ok21, A21, c21, hv21, HC21, HS2c⟩ := fillR HS2'' 0 rfl hb hr; clear hr hb; refine hK.out _ _ ⟨(blk_cell (St.getB HS2c 4 rfl ⟨0, rfl⟩) 0).trans rfl, (blk_cell (St.getB HS2c 4 rfl ⟨0, rfl⟩) 1).trans rfl⟩ (fun hHeld => ?_); clear hK K; refine nm 21 ?_; refine oq HT_ 1 9 17 16383 (fun K hK => ?_); refine value_ (w1 := wa111.alloc (.map #[] 0)) (v := .map (some wa111.heap.size)) (by rfl) rfl rfl ?_; have HS2d := fillM HS2c 3 rfl (k := 2) (z := .slice none 0 0); obtain ⟨v9, hv9⟩ : ∃ v : Value, v = .map (some wa111.heap.size) := ⟨_, rfl⟩; obtain ⟨gm, hgm⟩ : ∃ gm, gm = wa111.heap.size := ⟨_, rfl⟩; rw [← hgm] at hv9 HS2d; rw [← hgm, ← hv9]; generalize wa111.alloc (.map #[] 0) = wa1111 at HS2d ⊢; clear hgm; refine hK.out _ _ ⟨(blk_cell (St.getB HS2d 4 rfl ⟨0, rfl⟩) 0).trans rfl, (blk_cell (St.getB HS2d 4 rfl ⟨0, rfl⟩) 1).trans rfl⟩ (fun hHeld => ?_); clear hK K; refine nm 9 ?_
              exact norm_ (by simp only [putAll, Act.put, List.setIfInBounds_toArray, List.set_cons_zero, List.set_cons_succ]) (hCont (v9, v13, v17, v21) _ ⟨gm, ok13, A13, c13, ok17, A17, c17, ok21, A21, c21, hv9, hv13, hv17, hv21, HC13, HC17, HC21, HS2d⟩)
          · refine Kd.R_make_step (Kd.int .i64) (w0 := wa1) wa1.heap.size 2 (by rfl) (N := 21) rfl 33 (.tmp 20) (.tmp 20) rfl sn rfl rfl Try.underlying33 (.int .i64 0) 8 info2 rfl (by decide) (by omega) 0 (ok := fun _ => True) (okp := fun _ => True) rfl (fun _ h => h) trivial HSN0.out HSNN.out (Below.refl _ _) (Nat.le_refl _) ?_
            intro v21 wa11 hr hb _ _
            obtain ⟨ok21, A21, c21, hv21, HC21, HS2''⟩ := fillR HS2' 0 rfl hb hr; clear hr hb; refine hK.out _ _ ⟨(blk_cell (St.getB HS2'' 4 rfl ⟨0, rfl⟩) 0).trans rfl, (blk_cell (St.getB HS2'' 4 rfl ⟨0, rfl⟩) 1).trans rfl⟩ (fun hHeld => ?_); clear hK K; refine nm 21 ?_; refine two_ (i := 1) (j := 5) (Ni := some 9) (Nj := some 13) (tb 17 16351) (tb 17 16381) rfl rfl rfl rfl (two_of HT_.out (by kernel_rfl)) (by decide) (by decide) (fun K hK => ?_) (fun K hK => ?_)
            · refine value_ (w1 := wa11.alloc (.map #[] 0)) (v := .map (some wa11.heap.size)) (by rfl) rfl rfl ?_
              have HS2c := fillM HS2'' 3 rfl (k := 2) (z := .slice none 0 0); obtain ⟨v9, hv9⟩ : ∃ v : Value, v = .map (some wa11.heap.size) := ⟨_, rfl⟩; obtain ⟨gm, hgm⟩ : ∃ gm, gm = wa11.heap.size := ⟨_, rfl⟩; rw [← hgm] at hv9 HS2c; rw [← hgm, ← hv9]; generalize wa11.alloc (.map #[] 0) = wa111 at HS2c ⊢; clear hgm; refine hK.out _ _ ⟨(blk_cell (St.getB HS2c 4 rfl ⟨0, rfl⟩) 0).trans rfl, (blk_cell (St.getB HS2c 4 rfl ⟨0, rfl⟩) 1).trans rfl⟩ (fun hHeld => ?_); clear hK K; refine nm 9 ?_; refine oq HT_ 5 13 17 16383 (fun K hK => ?_); refine Kd.R_make_step (Kd.int .i64) (w0 := wa111) wa111.heap.size 3 (by rfl) (N := 13) rfl 78 (.tmp 12) (.tmp 12) rfl (cl.length : Int) rfl rfl Try.underlying78 (.int .i64 0) 8 info3 rfl (by decide) (by omega) 0 (ok := fun _ => True) (okp := fun _ => True) rfl (fun _ h => h) trivial HCL0.out HCLN.out (Below.refl _ _) (Nat.le_refl _) ?_
              intro v13 wa1111 hr hb _ _
              obtain ⟨ok13, A13, c13, hv13, HC13, HS2d⟩ := fillR HS2c 2 rfl hb hr; clear hr hb; refine hK.out _ _ ⟨(blk_cell (St.getB HS2d 4 rfl ⟨0, rfl⟩) 0).trans rfl, (blk_cell (St.getB HS2d 4 rfl ⟨0, rfl⟩) 1).trans rfl⟩ (fun hHeld => ?_); clear hK K; refine nm 13 ?_
              exact norm_ (by simp only [putAll, Act.put, List.setIfInBounds_toArray, List.set_cons_zero, List.set_cons_succ]) (hCont (v9, v13, v17, v21) _ ⟨gm, ok13, A13, c13, ok17, A17, c17, ok21, A21, c21, hv9, hv13, hv17, hv21, HC13, HC17, HC21, HS2d⟩)
            · refine Kd.R_make_step (Kd.int .i64) (w0 := wa11) wa11.heap.size 3 (by rfl) (N := 13) rfl 78 (.tmp 12) (.tmp 12) rfl (cl.length : Int) rfl rfl Try.underlying78 (.int .i64 0) 8 info3 rfl (by decide) (by omega) 0 (ok := fun _ => True) (okp := fun _ => True) rfl (fun _ h => h) trivial HCL0.out HCLN.out (Below.refl _ _) (Nat.le_refl _) ?_
              intro v13 wa111 hr hb _ _
              obtain ⟨ok13, A13, c13, hv13, HC13, HS2c⟩ := fillR HS2'' 2 rfl hb hr; clear hr hb; refine hK.out _ _ ⟨(blk_cell (St.getB HS2c 4 rfl ⟨0, rfl⟩) 0).trans rfl, (blk_cell (St.getB HS2c 4 rfl ⟨0, rfl⟩) 1).trans rfl⟩ (fun hHeld => ?_); clear hK K; refine nm 13 ?_; refine oq HT_ 1 9 17 16383 (fun K hK => ?_); refine value_ (w1 := wa111.alloc (.map #[] 0)) (v := .map (some wa111.heap.size)) (by rfl) rfl rfl ?_; have HS2d := fillM HS2c 3 rfl (k := 2) (z := .slice none 0 0); obtain ⟨v9, hv9⟩ : ∃ v : Value, v = .map (some wa111.heap.size) := ⟨_, rfl⟩; obtain ⟨gm, hgm⟩ : ∃ gm, gm = wa111.heap.size := ⟨_, rfl⟩; rw [← hgm] at hv9 HS2d; rw [← hgm, ← hv9]; generalize wa111.alloc (.map #[] 0) = wa1111 at HS2d ⊢; clear hgm; refine hK.out _ _ ⟨(blk_cell (St.getB HS2d 4 rfl ⟨0, rfl⟩) 0).trans rfl, (blk_cell (St.getB HS2d 4 rfl ⟨0, rfl⟩) 1).trans rfl⟩ (fun hHeld => ?_); clear hK K; refine nm 9 ?_
              exact norm_ (by simp only [putAll, Act.put, List.setIfInBounds_toArray, List.set_cons_zero, List.set_cons_succ]) (hCont (v9, v13, v17, v21) _ ⟨gm, ok13, A13, c13, ok17, A17, c17, ok21, A21, c21, hv9, hv13, hv17, hv21, HC13, HC17, HC21, HS2d⟩)
        · refine Kd.R_make_step (Kd.int .i64) (w0 := wa) wa.heap.size 2 (by rfl) (N := 21) rfl 33 (.tmp 20) (.tmp 20) rfl sn rfl rfl Try.underlying33 (.int .i64 0) 8 info2 rfl (by decide) (by omega) 0 (ok := fun _ => True) (okp := fun _ => True) rfl (fun _ h => h) trivial HSN0.out HSNN.out (Below.refl _ _) (Nat.le_refl _) ?_
          intro v21 wa1 hr hb _ _
          obtain ⟨ok21, A21, c21, hv21, HC21, HS2'⟩ := fillR HS2 0 rfl hb hr; clear hr hb; refine hK.out _ _ ⟨(blk_cell (St.getB HS2' 4 rfl ⟨0, rfl⟩) 0).trans rfl, (blk_cell (St.getB HS2' 4 rfl ⟨0, rfl⟩) 1).trans rfl⟩ (fun hHeld => ?_); clear hK K; refine nm 21 ?_; refine three_ (i := 1) (j := 5) (k := 9) (Ni := some 9) (Nj := some 13) (Nk := some 17) (tb 17 15839) (tb 17 15869) (tb 17 16349) rfl rfl rfl rfl rfl rfl (three_of HT_.out (by kernel_rfl)) (by decide) (by decide) (by decide) (fun K hK => ?_) (fun K hK => ?_) (fun K hK => ?_)
          · refine value_ (w1 := wa1.alloc (.map #[] 0)) (v := .map (some wa1.heap.size)) (by rfl) rfl rfl ?_
            have HS2'' := fillM HS2' 3 rfl (k := 2) (z := .slice none 0 0); obtain ⟨v9, hv9⟩ : ∃ v : Value, v = .map (some wa1.heap.size) := ⟨_, rfl⟩; obtain ⟨gm, hgm⟩ : ∃ gm, gm = wa1.heap.size := ⟨_, rfl⟩; rw [← hgm] at hv9 HS2''; rw [← hgm, ← hv9]; generalize wa1.alloc (.map #[] 0) = wa11 at HS2'' ⊢; clear hgm; refine hK.out _ _ ⟨(blk_cell (St.getB HS2'' 4 rfl ⟨0, rfl⟩) 0).trans rfl, (blk_cell (St.getB HS2'' 4 rfl ⟨0, rfl⟩) 1).trans rfl⟩ (fun hHeld => ?_); clear hK K; refine nm 9 ?_; refine two_ (i := 5) (j := 9) (Ni := some 13) (Nj := some 17) (tb 17 15871) (tb 17 16351) rfl rfl rfl rfl (two_of HT_.out (by kernel_rfl)) (by decide) (by decide) (fun K hK => ?_) (fun K hK => ?_)
            · refine Kd.R_make_step (Kd.int .i64) (w0 := wa11) wa11.heap.size 3 (by rfl) (N := 13) rfl 78 (.tmp 12) (.tmp 12) rfl (cl.length : Int) rfl rfl Try.underlying78 (.int .i64 0) 8 info3 rfl (by decide) (by omega) 0 (ok := fun _ => True) (okp := fun _ => True) rfl (fun _ h => h) trivial HCL0.out HCLN.out (Below.refl _ _) (Nat.le_refl _) ?_
              intro v13 wa111 hr hb _ _
              obtain ⟨ok13, A13, c13, hv13, HC13, HS2c⟩ := fillR HS2'' 2 rfl hb hr; clear hr hb; refine hK.out _ _ ⟨(blk_cell (St.getB HS2c 4 rfl ⟨0, rfl⟩) 0).trans rfl, (blk_cell (St.getB HS2c 4 rfl ⟨0, rfl⟩) 1).trans rfl⟩ (fun hHeld => ?_); clear hK K; refine nm 13 ?_; refine oq HT_ 9 17 17 16383 (fun K hK => ?_); refine Kd.R_make_step (Kd.int .i64) (w0 := wa111) wa111.heap.size 3 (by rfl) (N := 17) rfl 78 (.tmp 16) (.tmp 16) rfl (cl.length : Int) rfl rfl Try.underlying78 (.int .i64 0) 8 info3 rfl (by decide) (by omega) 0 (ok := fun _ => True) (okp := fun _ => True) rfl (fun _ h => h) trivial HCL0.out HCLN.out (Below.refl _ _) (Nat.le_refl _) ?_
              intro v17 wa1111 hr hb _ _
              obtain ⟨ok17, A17, c17, hv17, HC17, HS2d⟩ := fillR HS2c 1 rfl hb hr; clear hr hb; refine hK.out _ _ ⟨(blk_cell (St.getB HS2d 4 rfl ⟨0, rfl⟩) 0).trans rfl, (blk_cell (St.getB HS2d 4 rfl ⟨0, rfl⟩) 1).trans rfl⟩ (fun hHeld => ?_); clear hK K; refine nm 17 ?_
              exact norm_ (by simp only [putAll, Act.put, List.setIfInBounds_toArray, List.set_cons_zero, List.set_cons_succ]) (hCont (v9, v13, v17, v21) _ ⟨gm, ok13, A13, c13, ok17, A17, c17, ok21, A21, c21, hv9, hv13, hv17, hv21, HC13, HC17, HC21, HS2d⟩)
            · refine Kd.R_make_step (Kd.int .i64) (w0 := wa11) wa11.heap.size 3 (by rfl) (N := 17) rfl 78 (.tmp 16) (.tmp 16) rfl (cl.length : Int) rfl rfl Try.underlying78 (.int .i64 0) 8 info3 rfl (by decide) (by omega) 0 (ok := fun _ => True) (okp := fun _ => True) rfl (fun _ h => h) trivial HCL0.out HCLN.out (Below.refl _ _) (Nat.le_refl _) ?_
              intro v17 wa111 hr hb _ _
              obtain ⟨ok17, A17, c17, hv17, HC17, HS2c⟩ := fillR HS2'' 1 rfl hb hr; clear hr hb; refine hK.out _ _ ⟨(blk_cell (St.getB HS2c 4 rfl ⟨0, rfl⟩) 0).trans rfl, (blk_cell (St.getB HS2c 4 rfl ⟨0, rfl⟩) 1).trans rfl⟩ (fun hHeld => ?_); clear hK K; refine nm 17 ?_; refine oq HT_ 5 13 17 16383 (fun K hK => ?_); refine Kd.R_make_step (Kd.int .i64) (w0 := wa111) wa111.heap.size 3 (by rfl) (N := 13) rfl 78 (.tmp 12) (.tmp 12) rfl (cl.length : Int) rfl rfl Try.underlying78 (.int .i64 0) 8 info3 rfl (by decide) (by omega) 0 (ok := fun _ => True) (okp := fun _ => True) rfl (fun _ h => h) trivial HCL0.out HCLN.out (Below.refl _ _) (Nat.le_refl _) ?_
              intro v13 wa1111 hr hb _ _
              obtain ⟨ok13, A13, c13, hv13, HC13, HS2d⟩ := fillR HS2c 2 rfl hb hr; clear hr hb; refine hK.out _ _ ⟨(blk_cell (St.getB HS2d 4 rfl ⟨0, rfl⟩) 0).trans rfl, (blk_cell (St.getB HS2d 4 rfl ⟨0, rfl⟩) 1).trans rfl⟩ (fun hHeld => ?_); clear hK K; refine nm 13 ?_
              exact norm_ (by simp only [putAll, Act.put, List.setIfInBounds_toArray, List.set_cons_zero, List.set_cons_succ]) (hCont (v9, v13, v17, v21) _ ⟨gm, ok13, A13, c13, ok17, A17, c17, ok21, A21, c21, hv9, hv13, hv17, hv21, HC13, HC17, HC21, HS2d⟩)
          · refine Kd.R_make_step (Kd.int .i64) (w0 := wa1) wa1.heap.size 3 (by rfl) (N := 13) rfl 78 (.tmp 12) (.tmp 12) rfl (cl.length : Int) rfl rfl Try.underlying78 (.int .i64 0) 8 info3 rfl (by decide) (by omega) 0 (ok := fun _ => True) (okp := fun _ => True) rfl (fun _ h => h) trivial HCL0.out HCLN.out (Below.refl _ _) (Nat.le_refl _) ?_
            intro v13 wa11 hr hb _ _
            obtain ⟨ok13, A13, c13, hv13, HC13, HS2''⟩ := fillR HS2' 2 rfl hb hr; clear hr hb; refine hK.out _ _ ⟨(blk_cell (St.getB HS2'' 4 rfl ⟨0, rfl⟩) 0).trans rfl, (blk_cell (St.getB HS2'' 4 rfl ⟨0, rfl⟩) 1).trans rfl⟩ (fun hHeld => ?_); clear hK K; refine nm 13 ?_; refine two_ (i := 1) (j := 9) (Ni := some 9) (Nj := some 17) (tb 17 15871) (tb 17 16381) rfl rfl rfl rfl (two_of HT_.out (by kernel_rfl)) (by decide) (by decide) (fun K hK => ?_) (fun K hK => ?_)
            · refine value_ (w1 := wa11.alloc (.map #[] 0)) (v := .map (some wa11.heap.size)) (by rfl) rfl rfl ?_
              have HS2c := fillM HS2'' 3 rfl (k := 2) (z := .slice none 0 0); obtain ⟨v9, hv9⟩ : ∃ v : Value, v = .map (some wa11.heap.size) := ⟨_, rfl⟩; obtain ⟨gm, hgm⟩ : ∃ gm, gm = wa11.heap.size := ⟨_, rfl⟩; rw [← hgm] at hv9 HS2c; rw [← hgm, ← hv9]; generalize wa11.alloc (.map #[] 0) = wa111 at HS2c ⊢; clear hgm; refine hK.out _ _ ⟨(blk_cell (St.getB HS2c 4 rfl ⟨0, rfl⟩) 0).trans rfl, (blk_cell (St.getB HS2c 4 rfl ⟨0, rfl⟩) 1).trans rfl⟩ (fun hHeld => ?_); clear hK K; refine nm 9 ?_; refine oq HT_ 9 17 17 16383 (fun K hK => ?_); refine Kd.R_make_step (Kd.int .i64) (w0 := wa111) wa111.heap.size 3 (by rfl) (N := 17) rfl 78 (.tmp 16) (.tmp 16) rfl (cl.length : Int) rfl rfl Try.underlying78 (.int .i64 0) 8 info3 rfl (by decide) (by omega) 0 (ok := fun _ => True) (okp := fun _ => True) rfl (fun _ h => h) trivial HCL0.out HCLN.out (Below.refl _ _) (Nat.le_refl _) ?_
              intro v17 wa1111 hr hb _ _
              obtain ⟨ok17, A17, c17, hv17, HC17, HS2d⟩ := fillR HS2c 1 rfl hb hr; clear hr hb; refine hK.out _ _ ⟨(blk_cell (St.getB HS2d 4 rfl ⟨0, rfl⟩) 0).trans rfl, (blk_cell (St.getB HS2d 4 rfl ⟨0, rfl⟩) 1).trans rfl⟩ (fun hHeld => ?_); clear hK K; refine nm 17 ?_
              exact norm_ (by simp only [putAll, Act.put, List.setIfInBounds_toArray, List.set_cons_zero, List.set_cons_succ]) (hCont (v9, v13, v17, v21) _ ⟨gm, ok13, A13, c13, ok17, A17, c17, ok21, A21, c21, hv9, hv13, hv17, hv21, HC13, HC17, HC21, HS2d⟩)
            · refine Kd.R_make_step (Kd.int .i64) (w0 := wa11) wa11.heap.size 3 (by rfl) (N := 17) rfl 78 (.tmp 16) (.tmp 16) rfl (cl.length : Int) rfl rfl Try.underlying78 (.int .i64 0) 8 info3 rfl (by decide) (by omega) 0 (ok := fun _ => True) (okp := fun _ => True) rfl (fun _ h => h) trivial HCL0.out HCLN.out (Below.refl _ _) (Nat.le_refl _) ?_
              intro v17 wa111 hr hb _ _
              obtain ⟨ok17, A17, c17, hv17, HC17, HS2c⟩ := fillR HS2'' 1 rfl hb hr; clear hr hb; refine hK.out _ _ ⟨(blk_cell (St.getB HS2c 4 rfl ⟨0, rfl⟩) 0).trans rfl, (blk_cell (St.getB HS2c 4 rfl ⟨0, rfl⟩) 1).trans rfl⟩ (fun hHeld => ?_); clear hK K; refine nm 17 ?_; refine oq HT_ 1 9 17 16383 (fun K hK => ?_); refine value_ (w1 := wa111.alloc (.map #[] 0)) (v := .map (some wa111.heap.size)) (by rfl) rfl rfl ?_; have HS2d := fillM HS2c 3 rfl (k := 2) (z := .slice none 0 0); obtain ⟨v9, hv9⟩ : ∃ v : Value, v = .map (some wa111.heap.size) := ⟨_, rfl⟩; obtain ⟨gm, hgm⟩ : ∃ gm, gm = wa111.heap.size := ⟨_, rfl⟩; rw [← hgm] at hv9 HS2d; rw [← hgm, ← hv9]; generalize wa111.alloc (.map #[] 0) = wa1111 at HS2d ⊢; clear hgm; refine hK.out _ _ ⟨(blk_cell (St.getB HS2d 4 rfl ⟨0, rfl⟩) 0).trans rfl, (blk_cell (St.getB HS2d 4 rfl ⟨0, rfl⟩) 1).trans rfl⟩ (fun hHeld => ?_); clear hK K; refine nm 9 ?_
              exact norm_ (by simp only [putAll, Act.put, List.setIfInBounds_toArray, List.set_cons_zero, List.set_cons_succ]) (hCont (v9, v13, v17, v21) _ ⟨gm, ok13, A13, c13, ok17, A17, c17, ok21, A21, c21, hv9, hv13, hv17, hv21, HC13, HC17, HC21, HS2d⟩)
          · refine Kd.R_make_step (Kd.int .i64) (w0 := wa1) wa1.heap.size 3 (by rfl) (N := 17) rfl 78 (.tmp 16) (.tmp 16) rfl (cl.length : Int) rfl rfl Try.underlying78 (.int .i64 0) 8 info3 rfl (by decide) (by omega) 0 (ok := fun _ => True) (okp := fun _ => True) rfl (fun _ h => h) trivial HCL0.out HCLN.out (Below.refl _ _) (Nat.le_refl _) ?_
            intro v17 wa11 hr hb _ _
            obtain ⟨ok17, A17, c17, hv17, HC17, HS2''⟩ := fillR HS2' 1 rfl hb hr; clear hr hb; refine hK.out _ _ ⟨(blk_cell (St.getB HS2'' 4 rfl ⟨0, rfl⟩) 0).trans rfl, (blk_cell (St.getB HS2'' 4 rfl ⟨0, rfl⟩) 1).trans rfl⟩ (fun hHeld => ?_); clear hK K; refine nm 17 ?_; refine two_ (i := 1) (j := 5) (Ni := some 9) (Nj := some 13) (tb 17 16351) (tb 17 16381) rfl rfl rfl rfl (two_of HT_.out (by kernel_rfl)) (by decide) (by decide) (fun K hK => ?_) (fun K hK => ?_)
            · refine value_ (w1 := wa11.alloc (.map #[] 0)) (v := .map (some wa11.heap.size)) (by rfl) rfl rfl ?_
              have HS2c := fillM HS2'' 3 rfl (k := 2) (z := .slice none 0 0); obtain ⟨v9, hv9⟩ : ∃ v : Value, v = .map (some wa11.heap.size) := ⟨_, rfl⟩; obtain ⟨gm, hgm⟩ : ∃ gm, gm = wa11.heap.size := ⟨_, rfl⟩; rw [← hgm] at hv9 HS2c; rw [← hgm, ← hv9]; generalize wa11.alloc (.map #[] 0) = wa111 at HS2c ⊢; clear hgm; refine hK.out _ _ ⟨(blk_cell (St.getB HS2c 4 rfl ⟨0, rfl⟩) 0).trans rfl, (blk_cell (St.getB HS2c 4 rfl ⟨0, rfl⟩) 1).trans rfl⟩ (fun hHeld => ?_); clear hK K; refine nm 9 ?_; refine oq HT_ 5 13 17 16383 (fun K hK => ?_); refine Kd.R_make_step (Kd.int .i64) (w0 := wa111) wa111.heap.size 3 (by rfl) (N := 13) rfl 78 (.tmp 12) (.tmp 12) rfl (cl.length : Int) rfl rfl Try.underlying78 (.int .i64 0) 8 info3 rfl (by decide) (by omega) 0 (ok := fun _ => True) (okp := fun _ => True) rfl (fun _ h => h) trivial HCL0.out HCLN.out (Below.refl _ _) (Nat.le_refl _) ?_
              intro v13 wa1111 hr hb _ _
              obtain ⟨ok13, A13, c13, hv13, HC13, HS2d⟩ := fillR HS2c 2 rfl hb hr; clear hr hb; refine hK.out _ _ ⟨(blk_cell (St.getB HS2d 4 rfl ⟨0, rfl⟩) 0).trans rfl, (blk_cell (St.getB HS2d 4 rfl ⟨0, rfl⟩) 1).trans rfl⟩ (fun hHeld => ?_); clear hK K; refine nm 13 ?_
              exact norm_ (by simp only [putAll, Act.put, List.setIfInBounds_toArray, List.set_cons_zero, List.set_cons_succ]) (hCont (v9, v13, v17, v21) _ ⟨gm, ok13, A13, c13, ok17, A17, c17, ok21, A21, c21, hv9, hv13, hv17, hv21, HC13, HC17, HC21, HS2d⟩)
            · refine Kd.R_make_step (Kd.int .i64) (w0 := wa11) wa11.heap.size 3 (by rfl) (N := 13) rfl 78 (.tmp 12) (.tmp 12) rfl (cl.length : Int) rfl rfl Try.underlying78 (.int .i64 0) 8 info3 rfl (by decide) (by omega) 0 (ok := fun _ => True) (okp := fun _ => True) rfl (fun _ h => h) trivial HCL0.out HCLN.out (Below.refl _ _) (Nat.le_refl _) ?_
              intro v13 wa111 hr hb _ _
              obtain ⟨ok13, A13, c13, hv13, HC13, HS2c⟩ := fillR HS2'' 2 rfl hb hr; clear hr hb; refine hK.out _ _ ⟨(blk_cell (St.getB HS2c 4 rfl ⟨0, rfl⟩) 0).trans rfl, (blk_cell (St.getB HS2c 4 rfl ⟨0, rfl⟩) 1).trans rfl⟩ (fun hHeld => ?_); clear hK K; refine nm 13 ?_; refine oq HT_ 1 9 17 16383 (fun K hK => ?_); refine value_ (w1 := wa111.alloc (.map #[] 0)) (v := .map (some wa111.heap.size)) (by rfl) rfl rfl ?_; have HS2d := fillM HS2c 3 rfl (k := 2) (z := .slice none 0 0); obtain ⟨v9, hv9⟩ : ∃ v : Value, v = .map (some wa111.heap.size) := ⟨_, rfl⟩; obtain ⟨gm, hgm⟩ : ∃ gm, gm = wa111.heap.size := ⟨_, rfl⟩; rw [← hgm] at hv9 HS2d; rw [← hgm, ← hv9]; generalize wa111.alloc (.map #[] 0) = wa1111 at HS2d ⊢; clear hgm; refine hK.out _ _ ⟨(blk_cell (St.getB HS2d 4 rfl ⟨0, rfl⟩) 0).trans rfl, (blk_cell (St.getB HS2d 4 rfl ⟨0, rfl⟩) 1).trans rfl⟩ (fun hHeld => ?_); clear hK K; refine nm 9 ?_
              exact norm_ (by simp only [putAll, Act.put, List.setIfInBounds_toArray, List.set_cons_zero, List.set_cons_succ]) (hCont (v9, v13, v17, v21) _ ⟨gm, ok13, A13, c13, ok17, A17, c17, ok21, A21, c21, hv9, hv13, hv17, hv21, HC13, HC17, HC21, HS2d⟩)
      rintro ⟨v9, v13, v17, v21⟩ wb ⟨gm, ok13, A13, c13, ok17, A17, c17, ok21, A21, c21, e9, e13, e17, e21, HC13, HC17, HC21, HS6⟩
      dsimp only at e9 e13 e17 e21
      subst e9 e13 e17 e21
      rw [HE.out] at HS6 HC21; rw [Int.toNat_natCast] at HS6 HC13 HC17; clear HS2 hHeld; have hHeld : wb.cell? ⟨g1, 0, none⟩ = some (.int .i64 sw) ∧ wb.cell? ⟨g1, 1, none⟩ = some (.slice A0 cl.length c0) := ⟨(blk_cell (St.getB HS6 4 rfl ⟨0, rfl⟩) 0).trans rfl, (blk_cell (St.getB HS6 4 rfl ⟨0, rfl⟩) 1).trans rfl⟩; refine norm_ (a' := ?_) ?_ ?_
      rotate_left
      · simp only [putAll, Act.put, List.setIfInBounds_toArray, List.set_cons_zero, List.set_cons_succ]
        rfl
      rw [HE.out, Int.toNat_natCast]; refine pq HT_ 14 22 17 32767 ?_; refine oq HT_ 15 23 17 65535 (fun K hK => ?_); refine value_ (w1 := wb.alloc (.cells #[.int .i64 sw, .slice A0 cl.length c0, .map (some gm), .slice A13 (List.replicate cl.length (0 : Int)).length c13, .slice A17 (List.replicate cl.length (0 : Int)).length c17, .slice none 0 0, .slice A21 (List.replicate (sw + 1).toNat (0 : Int)).length c21] 80 (0, 0))) (v := .pointer (some ⟨wb.heap.size, 0, none⟩)) (by rfl) rfl ?_ ?_
      · first | (go_simp; done) | (go_simp; constructor <;> rfl) | (go_simp; rfl)
      have HS7 := St.box (St.asG HS6 3 rfl) rfl (blk_new wb (.cells #[.int .i64 sw, .slice A0 cl.length c0, .map (some gm), .slice A13 (List.replicate cl.length (0 : Int)).length c13, .slice A17 (List.replicate cl.length (0 : Int)).length c17, .slice none 0 0, .slice A21 (List.replicate (sw + 1).toNat (0 : Int)).length c21] 80 (0, 0))) (below_alloc (Below.refl _ _) _); generalize wb.alloc (.cells #[.int .i64 sw, .slice A0 cl.length c0, .map (some gm), .slice A13 (List.replicate cl.length (0 : Int)).length c13, .slice A17 (List.replicate cl.length (0 : Int)).length c17, .slice none 0 0, .slice A21 (List.replicate (sw + 1).toNat (0 : Int)).length c21] 80 (0, 0)) = wc at HS7 ⊢; generalize wb.heap.size = gt at HS7 ⊢; refine hK.out _ _ ⟨(blk_cell (St.getB HS7 5 rfl ⟨0, rfl⟩) 0).trans rfl, (blk_cell (St.getB HS7 5 rfl ⟨0, rfl⟩) 1).trans rfl⟩ (fun hHeld => ?_); clear hK K; refine nm 23 ?_; refine pq HT_ 16 3 17 131071 ?_; refine done_ (done_of HT_.out (by kernel_rfl)) ?_; have hz1 : wc.cell? ⟨g1, 1, none⟩ = some (.slice A0 cl.length c0) := (blk_cell (St.getB HS7 5 rfl ⟨0, rfl⟩) 1).trans rfl; clear HS6 hHeld HT_ HW_
      go_wp2
      (try simp only [Act.put, List.setIfInBounds_toArray, List.set_cons_zero, List.set_cons_succ])
      go_loopg [27] k (fun kq s27 wr => ∃ (i : Int) (H : Int → List Int) (m n : Nat) (okm : Nat → Prop), s27 = .int .i64 i ∧ Aside0 (kq ≤ k) ∧ Aside0 (impl_newTrail.l0 kq cl i H m = some Hr) ∧ Aside0 (n ≤ m) ∧ Aside0 (St w wr [Ob.B gt (.cells #[.int .i64 sw, .slice A0 cl.length c0, .map (some gm), .slice A13 (List.replicate cl.length (0 : Int)).length c13, .slice A17 (List.replicate cl.length (0 : Int)).length c17, .slice none 0 0, .slice A21 (List.replicate (sw + 1).toNat (0 : Int)).length c21] 80 (0, 0)), Ob.R w (Kd.int .i64) 2 ok21 (.slice A21 (List.replicate (sw + 1).toNat (0 : Int)).length c21) (List.replicate (sw + 1).toNat (0 : Int)), Ob.R w (Kd.int .i64) 3 ok17 (.slice A17 (List.replicate cl.length (0 : Int)).length c17) (List.replicate cl.length (0 : Int)), Ob.R w (Kd.int .i64) 3 ok13 (.slice A13 (List.replicate cl.length (0 : Int)).length c13) (List.replicate cl.length (0 : Int)), ObG w gm n okm H, Ob.B g1 (.cells #[.int .i64 sw, .slice A0 cl.length c0] 37 (0, 0)), Ob.R w (Kd.int .i64) 2 (fun _ => False) (.slice none 0 0) []]))
      case atStart => exact ⟨0, fun _ => [], 0, 0, _, rfl, ⟨Nat.le_refl _⟩, HL, ⟨Nat.le_refl _⟩, ⟨St.lift HS7⟩⟩
      case round =>
        clear HL HS7 hz1 hsn hsnw HCL0 HCLN HSN0 HSNN HE; obtain ⟨i, H, m, n, okm, rfl, HK1, HX, HN, HS⟩ := hrel
        cases gk with
        | zero => exact absurd HX.out (by simp [impl_newTrail.l0])
        | succ k1 =>
          have hX := HX.out; clear HX
          simp only [impl_newTrail.l0] at hX
          by_cases hi : i < (cl.length : Int)
          · rw [if_pos hi] at hX
            by_cases i0 : 0 ≤ i
            · rw [if_pos i0] at hX
              obtain ⟨ad, Ac, cc, rfl, hx, hcl, hcr⟩ := at_L2 HR0.out i i0 hi; obtain ⟨row, hrow⟩ : ∃ row, rd_L2 cl i = row := ⟨_, rfl⟩; rw [hrow] at hX hx hcl hcr; clear hrow; have HBB := Aside0.mk (below_step HB0.out HS.out.below); have hx2 := (HBB.out.cell (World.block_lt_of_cell? w0 _ hx)).trans hx; have HCR := Aside0.mk hcr; have HX := Aside0.mk hX; have hib : decide (i < (cl.length : Int)) = true := decide_eq_true hi; have i0b : decide (0 ≤ i) = true := decide_eq_true i0; replace hi := eq_true hi; replace i0 := eq_true i0; clear hx hcl hcr hX
              go_wp2
              go_loopg [34] k1 (fun kq s34 wr => ∃ (j : Int) (H : Int → List Int) (m n : Nat) (okm : Nat → Prop), s34 = .int .i64 j ∧ Aside0 (kq ≤ k1) ∧ Aside0 (impl_newTrail.l1 kq cl i row j H m = some Hr) ∧ Aside0 (n ≤ m) ∧ Aside0 (St w wr [Ob.B gt (.cells #[.int .i64 sw, .slice (some ad) cl.length c0, .map (some gm), .slice A13 (List.replicate cl.length (0 : Int)).length c13, .slice A17 (List.replicate cl.length (0 : Int)).length c17, .slice none 0 0, .slice A21 (List.replicate (sw + 1).toNat (0 : Int)).length c21] 80 (0, 0)), Ob.R w (Kd.int .i64) 2 ok21 (.slice A21 (List.replicate (sw + 1).toNat (0 : Int)).length c21) (List.replicate (sw + 1).toNat (0 : Int)), Ob.R w (Kd.int .i64) 3 ok17 (.slice A17 (List.replicate cl.length (0 : Int)).length c17) (List.replicate cl.length (0 : Int)), Ob.R w (Kd.int .i64) 3 ok13 (.slice A13 (List.replicate cl.length (0 : Int)).length c13) (List.replicate cl.length (0 : Int)), ObG w gm n okm H, Ob.B g1 (.cells #[.int .i64 sw, .slice (some ad) cl.length c0] 37 (0, 0)), Ob.R w (Kd.int .i64) 2 (fun _ => False) (.slice none 0 0) []]))
              case atStart => exact ⟨0, H, m, n, okm, rfl, ⟨Nat.le_refl _⟩, HX, HN, ⟨St.lift HS⟩⟩
              case round =>
                clear HX HS HN hx2 HBB hib i0b hi i0; obtain ⟨j, H, m, n, okm, rfl, HK2, HX, HN, HS⟩ := hrel
                cases gk with
                | zero => exact absurd HX.out (by simp [impl_newTrail.l1])
                | succ k2 =>
                  have hX := HX.out; clear HX
                  simp only [impl_newTrail.l1] at hX
                  by_cases hj : j < (row.length : Int)
                  · rw [if_pos hj] at hX
                    by_cases j0 : 0 ≤ j
                    · rw [if_pos j0] at hX
                      obtain ⟨adr, rfl, hx⟩ := Kd.at_int HCR.out j j0 hj; obtain ⟨v, hv⟩ : ∃ v, rd row j = v := ⟨_, rfl⟩; rw [hv] at hX hx; clear hv; have HBB := Aside0.mk (below_step HB0.out HS.out.below); have hx2 := (HBB.out.cell (World.block_lt_of_cell? w0 _ hx)).trans hx; have hjb : decide (j < (row.length : Int)) = true := decide_eq_true hj; have j0b : decide (0 ≤ j) = true := decide_eq_true j0; replace hj := eq_true hj; replace j0 := eq_true j0; clear hx
                      by_cases cw : (Lit.int .i64 v).wf = true
                      · rw [if_pos cw] at hX
                        by_cases c1 : (H v).length < 17592186044416
                        · rw [if_pos c1] at hX
                          by_cases c2 : m < 1000000000
                          · rw [if_pos c2] at hX
                            have HX := Aside0.mk hX; have HCW := Aside0.mk cw; have HC1 := Aside0.mk c1; have HC2 := Aside0.mk c2; clear hX cw c1 c2
                            go_upto_region 8 with (fail)
                            clear hx2 hjb j0b hj j0; have HS2 : Aside0 (St w wr.drew _) := ⟨HS.out.step (below_drew (Below.refl _ _))⟩; obtain ⟨F, okr, hM, hR, hsub, hdis⟩ := (HS2.out.each _ (nth_mem (i := 4) rfl)).2.2; obtain ⟨Av, cv, eF⟩ := Kd.R_slice (hR v)
                            have hlk : ∀ w' : World, w'.heap[gm]? = wr.drew.heap[gm]? → (Instr.lookup 77 (.map (some gm)) (.int .i64 v) false).run Try.prog w' = .ok (.slice Av (H v).length cv) w' := fun w' e => by
                              have h1 := MapI.lookup (MapI.step hM e) Try.underlying77 Try.underlying2 (Try.zeroValue78 w') v HCW.out; rw [eF] at h1
                              exact h1
                            refine start_ (n := 15) (S := (fun w' => w'.cell? ⟨gt, 2, none⟩ = some (.map (some gm)) ∧ (Instr.lookup 77 (.map (some gm)) (.int .i64 v) false).run Try.prog w' = .ok (.slice Av (H v).length cv) w')) (ds := [14]) (tf 0 15) (by kernel_rfl) rfl rfl ⟨(blk_cell (St.getB HS2 0 rfl ⟨0, rfl⟩) 2).trans rfl, hlk _ rfl⟩ (fun hHeld => ?_); refine with_tabW impl_newTrail.tab8 impl_newTrail.bits8 (fun HT_ HW_ => ?_); clear HS; have HM := Aside0.mk hM; have HRR := Aside0.mk hR; have HSUB := Aside0.mk hsub; have HDIS := Aside0.mk hdis; have HLK := Aside0.mk hlk; have HEF := Aside0.mk eF; clear hM hR hsub hdis hlk eF; generalize wr.drew = wx at HS2 HM HRR HLK hHeld ⊢; refine pu HT_ 0 38 14 ?_; refine pu HT_ 1 39 13 ?_; refine pu HT_ 2 40 12 ?_; refine ta HT_ HW_ hHeld 3 41 11 ?_; refine pu HT_ 4 42 10 ?_; refine pu HT_ 5 43 9 ?_; refine pu HT_ 6 44 8 ?_; refine pu HT_ 7 45 7 ?_; refine ta HT_ HW_ hHeld 8 46 6 ?_; refine pu HT_ 9 47 5 ?_; refine ta HT_ HW_ hHeld 10 48 4 ?_; refine pu HT_ 11 49 3 ?_; refine on HT_ 12 50 2 (fun K hK => ?_); refine value_ (w1 := wx.alloc (.cells #[.int .i64 i] 3)) (v := .slice (some ⟨wx.heap.size, 0, none⟩) 1 1) (by rfl) rfl ?_ ?_
                            · first | (go_simp; done) | (go_simp; constructor <;> rfl) | (go_simp; rfl)
                            have HV2 : Aside0 (Below wx.heap.size wx (wx.alloc (.cells #[.int .i64 i] 3))) := ⟨below_alloc (Below.refl _ _) _⟩; refine hK.out _ _ ⟨(HV2.out.cell (World.block_lt_of_cell? wx _ hHeld.1)).trans hHeld.1, HLK.out _ (HV2.out.block gm (MapI.lt HM.out))⟩ (fun hHeld2 => ?_); clear hK K HV2 hHeld2; refine nm 50 ?_; refine on HT_ 13 51 1 (fun K hK => ?_); refine Kd.R_append_step (Kd.int .i64) (w0 := w) w.heap.size (by rfl) (.tmp 48) (.tmp 50) 78 3 (.int .i64 0) 8 rfl Try.underlying78 info3 rfl (by decide) (by omega) (.slice Av (H v).length cv) (H v) i [.int .i64 i] (fun k_ => okr v k_ ∨ wx.heap.size ≤ k_) (fun _ => False) rfl rfl ?aP (fun _ hk => hk.elim) ?aF ?aO ?aB ?aS ?aL ?_
                            (case aP => exact rfl)
                            (case aF => exact (fun k_ hk => .inr hk))
                            (case aO => have h_ := HRR.out v; rw [HEF.out] at h_; exact Kd.R_mono h_ (fun _ h_ => .inl h_))
                            (case aB => exact HS2.out.below)
                            (case aS => exact HS2.out.below.size)
                            (case aL => have := HC1.out; omega)
                            intro v6 w6 ho hb6 hg6 hat6
                            have hrow : ∀ q, (.slice Av (H v).length cv : Value).ownBlock = some q → okr v q := fun q hq => (HRR.out v).1 q (by rw [HEF.out]; exact hq)
                            have hgt : w6.heap[gt]? = wx.heap[gt]? := hg6.block gt (blk_lt (St.getB HS2 0 rfl ⟨0, rfl⟩)) (fun e_ => nth_apart HS2.out.apart (i := 0) (j := 4) rfl rfl (by decide) gt rfl (.inr (HSUB.out v gt (hrow gt e_.symm)).1)); have hgmb : w6.heap[gm]? = wx.heap[gm]? := hg6.block gm (MapI.lt HM.out) (fun e_ => (HSUB.out v gm (hrow gm e_.symm)).2 rfl); obtain ⟨w7, hrun, okm7, HS7, hg7⟩ := putG HS2 4 rfl HM.out HRR.out HSUB.out HDIS.out v i HCW.out (by have := HN.out; have := HC2.out; unfold maxLen; omega) w6 v6 (by rw [HEF.out]; exact hg6) hb6 ho
                            refine hK.out _ _ ⟨(blk_cell (hgt.trans (St.getB HS2 0 rfl ⟨0, rfl⟩)) 2).trans rfl, HLK.out _ hgmb⟩ (fun hHeld3 => ?_); clear hK K ho hb6 hg6 hat6 hgt hgmb hrow hHeld hHeld3; refine nm 51 ?_; refine last_ (i := 14) (N := none) (tf 15 0) rfl rfl (one_of HT_.out (by kernel_rfl)) (by decide) (fun K hK => ?_); refine skip_ (w1 := w7) (by rfl) rfl ?_ ?_
                            · first | (go_simp; done) | (go_simp; rfl)
                            refine hK.out _ _ ?_; clear hK K; refine done_ (done_of HT_.out (by kernel_rfl)) ?_; clear hrun hg7 HS2 HM HRR HSUB HDIS HLK HEF HT_ HW_
                            go_wp2
                            go_roundg k2
                            case measure => omega
                            case rel => exact ⟨wrap64 (j + 1), _, m + 1, n + 1, okm7, by first | rfl | (simp; done) | go_num, ⟨by have := HK2.out; omega⟩, HX, ⟨by have := HN.out; omega⟩, ⟨St.lift HS7⟩⟩
                          · rw [if_neg c2] at hX; cases hX
                        · rw [if_neg c1] at hX; cases hX
                      · rw [if_neg cw] at hX; cases hX
                    · rw [if_neg j0] at hX; cases hX
                  · rw [if_neg hj] at hX
                    have hjb : decide (j < (row.length : Int)) = false := decide_eq_false hj; have HX := Aside0.mk hX; clear hX hj
                    go_wp2
                    go_roundg k2
                    case measure => have := HK1.out; have := HK2.out; omega
                    case rel => exact ⟨wrap64 (i + 1), H, m, n, okm, by first | rfl | (simp; done) | go_num, ⟨by have := HK1.out; have := HK2.out; omega⟩, HX, HN, ⟨St.lift HS⟩⟩
            · rw [if_neg i0] at hX; cases hX
          · rw [if_neg hi] at hX
            have hib : decide (i < (cl.length : Int)) = false := decide_eq_false hi; obtain rfl := Option.some.inj hX; clear hX hi
            go_wp2
            go_ret
            exact ⟨gt, gm, n, okm, ok13, ok17, ok21, A13, A17, A21, c13, c17, c21, rfl, St.drop ⟨St.lift HS⟩ 5⟩
    · rw [if_neg q2] at h; cases h
  · rw [if_neg q1] at h; cases h
/-- The map of rows when it is not written any more: its values by name. -/
def ObH (w0 : World) (b n : Nat) (ok : Nat → Prop) (F : Int → Value) (okr : Int → Nat → Prop) (H : Int → List Int) : Ob := ⟨fun q => q = b ∨ ok q, fun W => MapI Try.prog 2 (.slice none 0 0) W b n F ∧ (∀ k, (Kd.int .i64).R 3 W w0.heap.size (okr k) (F k) (H k)) ∧ (∀ k q, okr k q → ok q ∧ q ≠ b) ∧ (∀ k k' q, k ≠ k' → okr k q → okr k' q → False)⟩
theorem ObH_foot (w0 : World) (b n : Nat) (ok : Nat → Prop) (F : Int → Value) (okr : Int → Nat → Prop) (H : Int → List Int) : (ObH w0 b n ok F okr H).foot := fun W W' hm ⟨h1, h2, h3, h4⟩ =>
  ⟨MapI.step h1 (hm b (.inl rfl) (MapI.lt h1)), fun k => Kd.R_step (h2 k) (fun q hq hlt => hm q (.inr (h3 k q hq).1) hlt), h3, h4⟩
theorem St.asH {w0 W : World} {l : List Ob} {b n : Nat} {ok : Nat → Prop} {H : Int → List Int} (h : Aside0 (St w0 W l)) (i : Nat) (hi : nth l i = some (ObG w0 b n ok H)) : ∃ (F : Int → Value) (okr : Int → Nat → Prop), Aside0 (St w0 W (put l i (ObH w0 b n ok F okr H))) := by
  obtain ⟨F, okr, h1, h2, h3, h4⟩ := (h.out.each _ (nth_mem hi)).2.2
  exact ⟨F, okr, ⟨St.turn h.out i hi h.out.below (Nat.le_refl _) (fun _ _ _ => rfl) (fun q hq => .inl hq) (ObH_foot _ _ _ _ _ _ _) ⟨h1, h2, h3, h4⟩⟩⟩
theorem getH {w0 W W' : World} {l : List Ob} {b n : Nat} {ok : Nat → Prop} {F : Int → Value} {okr : Int → Nat → Prop} {H : Int → List Int} (h : Aside0 (St w0 W l)) (i : Nat) (hi : nth l i = some (ObH w0 b n ok F okr H)) (q : ∃ n, W' = W.drewN n := by first | exact ⟨_, rfl⟩ | exact ⟨0, rfl⟩) : (ObH w0 b n ok F okr H).P W' := ((St.lift h q).each _ (nth_mem hi)).2.2
theorem St.growR {α : Type} {d : Kd α} {e : Nat} {ok : Nat → Prop} {v v2 : Value} {xs ys : List α} {w0 W w2 : World} {l : List Ob} (h : Aside0 (St w0 W l)) (i : Nat) (hi : nth l i = some (Ob.R w0 d e ok v xs)) (hg : W.grownBy w2 v.ownBlock) (hb : Below w0.heap.size w0 w2) (hr : d.R e w2 w0.heap.size (fun q => ok q ∨ W.heap.size ≤ q) v2 ys) :
    ∃ ok', Aside0 (St w0 w2 (put l i (Ob.R w0 d e ok' v2 ys))) :=
  ⟨fun q => (ok q ∨ W.heap.size ≤ q) ∧ q < w2.heap.size, ⟨St.turn h.out i hi hb hg.size (fun q hlt hn => hg.block q hlt (fun e => hn ((St.getR h i hi ⟨0, rfl⟩).1 q e.symm))) (fun q hq => hq.1.elim .inl (fun e => .inr ⟨e, hq.2⟩)) (Ob.R_foot _ _ _ _ _ _) (Kd.R_mono (Kd.R_bound hr) (fun q hq => ⟨hq.1, hq.2.2.1⟩))⟩⟩
theorem St.setR {k : IntKind} {e : Nat} {ok : Nat → Prop} {g n c : Nat} {xs : List Int} {w0 W : World} {l : List Ob} (h : Aside0 (St w0 W l)) (i : Nat) (hi : nth l i = some (Ob.R w0 (Kd.int k) e ok (.slice (some ⟨g, 0, none⟩) n c) xs)) (j x : Int) :
    Aside0 (St w0 (W.setCell ⟨g, j.toNat, none⟩ (.int k x)) (put l i (Ob.R w0 (Kd.int k) e ok (.slice (some ⟨g, 0, none⟩) n c) (xs.set j.toNat x)))) := by
  have hr := St.getR (W' := W) h i hi ⟨0, rfl⟩; have hgo := (h.out.each _ (nth_mem hi)).1 g (hr.1 g rfl)
  exact ⟨St.turn h.out i hi (below_set h.out.below hgo.1) (by rw [World.size_setCell]; exact Nat.le_refl _) (fun q _ hn => Below.heap_setCell W ⟨g, j.toNat, none⟩ _ q (fun e_ => hn (by rw [e_]; exact hr.1 g rfl))) (fun q hq => .inl hq) (Ob.R_foot _ _ _ _ _ _) (Kd.R_putn hr j x)⟩
/-- Each place that is named is one more. -/
def impl_trail.inc (d : Int) : List Int → List Int → Option (List Int)
  | G, [] => some G
  | G, x :: xs => if 0 ≤ x then (if x < (G.length : Int) then impl_trail.inc d (G.set x.toNat (wrap64 (rd G x + d))) xs else none) else none
def impl_trail_stand.f (H : Int → List Int) (G B S I : List Int) (v : Int) : Option (List Int × List Int × List Int × List Int) :=
  if S.length < 17592186044416 then (if 0 ≤ mx v (wrap64 (-v)) then (if mx v (wrap64 (-v)) < (I.length : Int) then (if (Lit.int .i64 v).wf = true ∧ (Lit.int .i64 (wrap64 (-v))).wf = true then (impl_trail.inc 1 G (H v)).bind fun G' => (impl_trail.inc 1 B (H (wrap64 (-v)))).bind fun B' => some (G', B', S ++ [v], I.set (mx v (wrap64 (-v))).toNat v) else none) else none) else none) else none
set_option maxHeartbeats 8000000 in
set_option maxRecDepth 100000 in
theorem impl_trail_stand.calls (gt : Nat) (sw : Int) (vc : Value) (gm n : Nat) (okm okg okb oks oki : Nat → Prop) (F : Int → Value) (okr : Int → Nat → Prop) (H : Int → List Int) (Ag Ab As Ai : Option Addr) (ng nb ns ni cg cb cs ci : Nat) (G B S I G' B' S' I' : List Int) (rest : List Ob) (v : Int) (w0 W : World)
    (eg : G.length = ng) (eb : B.length = nb) (es : S.length = ns) (ei : I.length = ni)
    (hS : Aside0 (St w0 W (Ob.B gt (.cells #[.int .i64 sw, vc, .map (some gm), .slice Ag ng cg, .slice Ab nb cb, .slice As ns cs, .slice Ai ni ci] 80 (0, 0)) :: Ob.R w0 (Kd.int .i64) 2 oki (.slice Ai ni ci) I :: Ob.R w0 (Kd.int .i64) 3 okb (.slice Ab nb cb) B :: Ob.R w0 (Kd.int .i64) 3 okg (.slice Ag ng cg) G :: ObH w0 gm n okm F okr H :: Ob.R w0 (Kd.int .i64) 2 oks (.slice As ns cs) S :: rest)))
    (h : impl_trail_stand.f H G B S I v = some (G', B', S', I')) :
    Calls Try.prog 51 #[.pointer (some ⟨gt, 0, none⟩), .int .i64 v] W fun e w' => e = .returned (.tuple #[]) ∧ G'.length = ng ∧ B'.length = nb ∧ I'.length = ni ∧ S'.length = ns + 1 ∧ ∃ (oks' : Nat → Prop) (As' : Option Addr) (cs' : Nat),
      Aside0 (St w0 w' (Ob.B gt (.cells #[.int .i64 sw, vc, .map (some gm), .slice Ag ng cg, .slice Ab nb cb, .slice As' (ns + 1) cs', .slice Ai ni ci] 80 (0, 0)) :: Ob.R w0 (Kd.int .i64) 2 oki (.slice Ai ni ci) I' :: Ob.R w0 (Kd.int .i64) 3 okb (.slice Ab nb cb) B' :: Ob.R w0 (Kd.int .i64) 3 okg (.slice Ag ng cg) G' :: ObH w0 gm n okm F okr H :: Ob.R w0 (Kd.int .i64) 2 oks' (.slice As' (ns + 1) cs') S' :: rest)) := by
  unfold impl_trail_stand.f at h
  by_cases c1 : S.length < 17592186044416
  · rw [if_pos c1] at h
    by_cases c2 : 0 ≤ mx v (wrap64 (-v))
    · rw [if_pos c2] at h
      by_cases c3 : mx v (wrap64 (-v)) < (I.length : Int)
      · rw [if_pos c3] at h
        by_cases c4 : (Lit.int .i64 v).wf = true ∧ (Lit.int .i64 (wrap64 (-v))).wf = true
        · rw [if_pos c4] at h
          obtain ⟨G1, A1_, h⟩ := Option.bind_eq_some_iff.1 h; obtain ⟨B1, A2_, h⟩ := Option.bind_eq_some_iff.1 h; obtain ⟨e1_, h⟩ := Prod.mk.inj (Option.some.inj h); obtain ⟨e2_, h⟩ := Prod.mk.inj h; obtain ⟨e3_, e4_⟩ := Prod.mk.inj h
          subst e1_ e2_ e3_ e4_
          clear h; obtain ⟨m, hm⟩ : ∃ m, mx v (wrap64 (-v)) = m := ⟨_, rfl⟩; rw [hm] at c2 c3 ⊢; have hm2 : (if v < wrap64 (-v) then wrap64 (-v) else v) = m := hm; have HG1 := Aside0.mk A1_; have HB1 := Aside0.mk A2_; have HC1 := Aside0.mk c1; have HC4 := Aside0.mk c4; have HEG := Aside0.mk eg; have HEB := Aside0.mk eb; have HES := Aside0.mk es; have HEI := Aside0.mk ei
          have hmi : m < (ni : Int) := by rw [← ei]; exact c3
          have HM0 := Aside0.mk c2; have HMI := Aside0.mk hmi; clear A1_ A2_ c1 c4 eg eb es ei c3 hm; have hz5 : W.cell? ⟨gt, 5, none⟩ = some (.slice As ns cs) := (blk_cell (St.getB hS 0 rfl ⟨0, rfl⟩) 5).trans rfl; have hzf5 : W.frozen? ⟨gt, 5, none⟩ = false := blk_frozen (St.getB hS 0 rfl ⟨0, rfl⟩) 5
          go_enter Try.func51, Try.ntmps51
          go_wp2_with (at_builtin; refine Kd.R_append (Kd.int .i64) (w0 := w0) w0.heap.size rfl (.tmp 12) (.tmp 14) 33 2 (.int .i64 0) 8 rfl Try.underlying33 info2 rfl (by decide) (by omega) (.slice As ns cs) S v [.int .i64 v] (fun k_ => oks k_ ∨ W.heap.size ≤ k_) (fun _ => False) rfl (by first | (go_simp; done) | (go_simp; rfl)) ?aP (fun _ hk => hk.elim) ?aF ?aO ?aB ?aS ?aL ?_; (case aP => exact rfl); (case aF => exact fun _ hk => .inr hk); (case aO => exact Kd.R_mono (St.getR (W' := W) hS 5 rfl ⟨0, rfl⟩) (fun _ h_ => .inl h_)); (case aB => exact hS.out.below); (case aS => exact hS.out.below.size); (case aL => have := HC1.out; omega))
          intro v1 w2 hr2 hb2 hg2 _
          obtain ⟨oks', HS2⟩ := St.growR hS 5 rfl hg2 hb2 hr2; obtain ⟨As', cs', rfl⟩ := Kd.R_slice hr2; have hgt2 : w2.heap[gt]? = W.heap[gt]? := hg2.block gt (blk_lt (St.getB hS 0 rfl ⟨0, rfl⟩)) (fun e_ => nth_apart hS.out.apart (i := 0) (j := 5) rfl rfl (by decide) gt rfl ((St.getR (W' := W) hS 5 rfl ⟨0, rfl⟩).1 gt e_.symm)); rw [show (S ++ [v]).length = ns + 1 from by rw [List.length_append, HES.out]; rfl] at HS2 ⊢
          clear hr2 hb2 hg2 hgt2 hz5 hzf5; have hz5 : w2.cell? ⟨gt, 5, none⟩ = some (.slice As ns cs) := (blk_cell (St.getB HS2 0 rfl ⟨0, rfl⟩) 5).trans rfl; have hzf5 : w2.frozen? ⟨gt, 5, none⟩ = false := blk_frozen (St.getB HS2 0 rfl ⟨0, rfl⟩) 5
          go_upto_region 1 with (fail)
          have HS3 : Aside0 (St w0 (w2.setCell ⟨gt, 5, none⟩ (.slice As' (ns + 1) cs')) _) := St.store HS2 0 rfl (by repeat (first | exact KeepBut.refl _ _ _ | apply KeepBut.set_)) (o' := .cells #[.int .i64 sw, vc, .map (some gm), .slice Ag ng cg, .slice Ab nb cb, .slice As' (ns + 1) cs', .slice Ai ni ci] 80 (0, 0)) (blk_put (St.getB HS2 0 rfl ⟨0, rfl⟩) 5 (.slice As' (ns + 1) cs') rfl) (below_set HS2.out.below (St.lowB HS2 0 rfl)); clear hz5 hzf5; generalize w2.setCell ⟨gt, 5, none⟩ (.slice As' (ns + 1) cs') = w3 at HS3 ⊢; obtain ⟨gi, cr, er, _, _, _, _⟩ := Kd.R_form (St.getR (W' := w3) HS3 1 rfl ⟨0, rfl⟩) (by have := HEI.out; omega)
          have eI : Ai = some ⟨gi, 0, none⟩ := by injection er
          subst eI
          clear er; have hz6 : w3.cell? ⟨gt, 6, none⟩ = some (.slice (some ⟨gi, 0, none⟩) ni ci) := (blk_cell (St.getB HS3 0 rfl ⟨0, rfl⟩) 6).trans rfl; obtain ⟨hi1, hif⟩ := Kd.R_celln 0 (St.getR (W' := w3) HS3 1 rfl ⟨0, rfl⟩) m c2 hmi; have m0b : decide (0 ≤ m) = true := decide_eq_true c2; have m1b : decide (m < (ni : Int)) = true := decide_eq_true hmi; replace c2 := eq_true c2; replace hmi := eq_true hmi
          go_upto_region 2 with (fail)
          have HS4 := St.setR HS3 1 rfl m v; clear hi1 hif hz6 HS3 HS2; generalize w3.setCell ⟨gi, m.toNat, none⟩ (.int .i64 v) = w4 at HS4 ⊢; obtain ⟨I2, hI2⟩ : ∃ I2, I2 = I.set m.toNat v := ⟨_, rfl⟩; rw [← hI2] at HS4; have hzm : w4.cell? ⟨gt, 2, none⟩ = some (.map (some gm)) := (blk_cell (St.getB HS4 0 rfl ⟨0, rfl⟩) 2).trans rfl; have hlk := MapI.lookup (getH (W' := w4) HS4 4 rfl ⟨0, rfl⟩).1 Try.underlying77 Try.underlying2 (Try.zeroValue78 w4) v HC4.out.1; obtain ⟨Av, cv, eF⟩ := Kd.R_slice ((getH (W' := w4) HS4 4 rfl ⟨0, rfl⟩).2.1 v); rw [eF] at hlk; have HEF := Aside0.mk eF; have hrv := (getH (W' := w4) HS4 4 rfl ⟨0, rfl⟩).2.1 v; rw [eF] at hrv; have HMX := Aside0.mk (Kd.C_max (Kd.R_reads' hrv).2.2); clear eF hrv c2 hmi m0b m1b hm2
          go_wp2
          clear hzm hlk
          go_loopg [35] (H v).length (fun kq s_ wr => ∃ (j : Nat) (X : List Int), s_ = .int .i64 j ∧ Aside0 (j ≤ (H v).length) ∧ Aside0 ((H v).length - j ≤ kq) ∧ Aside0 (X.length = ng) ∧ Aside0 (impl_trail.inc 1 X ((H v).drop j) = some G1) ∧ Aside0 (St w0 wr (Ob.B gt (.cells #[.int .i64 sw, vc, .map (some gm), .slice Ag ng cg, .slice Ab nb cb, .slice As' (ns + 1) cs', .slice (some ⟨gi, 0, none⟩) ni ci] 80 (0, 0)) :: Ob.R w0 (Kd.int .i64) 2 oki (.slice (some ⟨gi, 0, none⟩) ni ci) I2 :: Ob.R w0 (Kd.int .i64) 3 okb (.slice Ab nb cb) B :: Ob.R w0 (Kd.int .i64) 3 okg (.slice Ag ng cg) X :: ObH w0 gm n okm F okr H :: Ob.R w0 (Kd.int .i64) 2 oks' (.slice As' (ns + 1) cs') (S ++ [v]) :: rest)))
          case atStart => exact ⟨0, G, rfl, ⟨Nat.zero_le _⟩, ⟨by omega⟩, HEG, ⟨HG1.out⟩, ⟨St.lift HS4⟩⟩
          case round =>
            obtain ⟨j, X, rfl, HJ, HJK, HXL, HX, HS⟩ := hrel
            by_cases hj : j < (H v).length
            · have hjb : decide ((j : Int) < ((H v).length : Int)) = true := decide_eq_true (by omega)
              have hjn : decide (j < (H v).length) = true := decide_eq_true hj
              cases gk with
              | zero => have := HJK.out; omega
              | succ g1 =>
              have hX := HX.out; rw [List.drop_eq_getElem_cons hj, impl_trail.inc] at hX
              have hrd : (H v)[j] = rd (H v) (j : Int) := by
                unfold rd
                rw [List.getD_eq_getElem?_getD, Int.toNat_natCast, List.getElem?_eq_getElem hj]
                rfl
              rw [hrd] at hX; obtain ⟨x, hx⟩ : ∃ x, rd (H v) (j : Int) = x := ⟨_, rfl⟩; rw [hx] at hX; have hrow := (getH (W' := wr) HS 4 rfl ⟨0, rfl⟩).2.1 v; rw [HEF.out] at hrow; obtain ⟨adr, eA, hcx⟩ := Kd.at_int (Kd.R_reads' hrow).2.2 (j : Int) (by omega) (by omega); rw [hx, Int.toNat_natCast] at hcx
              subst eA
              by_cases x0 : 0 ≤ x
              · rw [if_pos x0] at hX
                by_cases x1 : x < (X.length : Int)
                · rw [if_pos x1] at hX
                  have HX2 := Aside0.mk hX
                  have x1n : x < (ng : Int) := by rw [← HXL.out]; exact x1
                  obtain ⟨gx, cr, er, _, _, _, _⟩ := Kd.R_form (St.getR (W' := wr) HS 3 rfl ⟨0, rfl⟩) (by omega)
                  have eX : Ag = some ⟨gx, 0, none⟩ := by injection er
                  subst eX
                  clear er hX hrow hx hrd; obtain ⟨hc1, hf1⟩ := Kd.R_celln 0 (St.getR (W' := wr) HS 3 rfl ⟨0, rfl⟩) x x0 x1n; replace hc1 : wr.cell? ⟨gx, x.toNat, none⟩ = some (.int .i64 (rd X x)) := hc1; have hz : wr.cell? ⟨gt, 3, none⟩ = some (.slice (some ⟨gx, 0, none⟩) ng cg) := (blk_cell (St.getB HS 0 rfl ⟨0, rfl⟩) 3).trans rfl; have x0b : decide (0 ≤ x) = true := decide_eq_true x0; have x1b : decide (x < (ng : Int)) = true := decide_eq_true x1n; have j0 : (0 ≤ (j : Int)) = True := eq_true (by omega); have HJL := Aside0.mk hj; have hji : ((j : Int) < ((H v).length : Int)) = True := eq_true (by omega); obtain ⟨y, hy⟩ : ∃ y : Int, wrap64 (rd X x + 1) = y := ⟨_, rfl⟩; have hyw : IntKind.i64.wrap (rd X x + 1) = y := (i64_w _).trans hy; rw [hy] at HX2; replace x0 := eq_true x0; replace x1n := eq_true x1n; clear x1 hj
                  go_wp2
                  have HS9 := St.setR HS 3 rfl x y
                  go_roundg g1
                  case measure => omega
                  case rel =>
                    have hwi : wrap64 ((j : Int) + 1) = ((j + 1 : Nat) : Int) := by
                      have := HJL.out; have := HMX.out
                      unfold wrap64
                      omega
                    exact ⟨j + 1, X.set x.toNat y, by first | rfl | rw [hwi] | (simp; done), ⟨HJL.out⟩, ⟨by have := HJK.out; have := HJL.out; omega⟩, ⟨by rw [List.length_set]; exact HXL.out⟩, HX2, ⟨St.lift HS9⟩⟩
                · rw [if_neg x1] at hX; cases hX
              · rw [if_neg x0] at hX; cases hX
            · have hjb : decide ((j : Int) < ((H v).length : Int)) = false := decide_eq_false (by omega)
              have hjn : decide (j < (H v).length) = false := decide_eq_false hj; have hX := HX.out; rw [List.drop_eq_nil_of_le (by omega), impl_trail.inc] at hX; have hX := (Option.some.inj hX).symm
              subst hX
              clear hj; have HXG := Aside0.mk HXL.out; have HGS := HS; clear HXL HX HJ HJK; have hzm : wr.cell? ⟨gt, 2, none⟩ = some (.map (some gm)) := (blk_cell (St.getB HS 0 rfl ⟨0, rfl⟩) 2).trans rfl; have hlk2 := MapI.lookup (getH (W' := wr) HS 4 rfl ⟨0, rfl⟩).1 Try.underlying77 Try.underlying2 (Try.zeroValue78 wr) (wrap64 (-v)) HC4.out.2; obtain ⟨Aw, cw, eF2⟩ := Kd.R_slice ((getH (W' := wr) HS 4 rfl ⟨0, rfl⟩).2.1 (wrap64 (-v))); rw [eF2] at hlk2; have HEF2 := Aside0.mk eF2; clear eF2 HMX; have hrv := (getH (W' := wr) HS 4 rfl ⟨0, rfl⟩).2.1 (wrap64 (-v)); rw [HEF2.out] at hrv; have HMX := Aside0.mk (Kd.C_max (Kd.R_reads' hrv).2.2); clear hrv
              go_wp2
              go_loopg [57] (H (wrap64 (-v))).length (fun kq s_ wr => ∃ (j : Nat) (X : List Int), s_ = .int .i64 j ∧ Aside0 (j ≤ (H (wrap64 (-v))).length) ∧ Aside0 ((H (wrap64 (-v))).length - j ≤ kq) ∧ Aside0 (X.length = nb) ∧ Aside0 (impl_trail.inc 1 X ((H (wrap64 (-v))).drop j) = some B1) ∧ Aside0 (St w0 wr (Ob.B gt (.cells #[.int .i64 sw, vc, .map (some gm), .slice Ag ng cg, .slice Ab nb cb, .slice As' (ns + 1) cs', .slice (some ⟨gi, 0, none⟩) ni ci] 80 (0, 0)) :: Ob.R w0 (Kd.int .i64) 2 oki (.slice (some ⟨gi, 0, none⟩) ni ci) I2 :: Ob.R w0 (Kd.int .i64) 3 okb (.slice Ab nb cb) X :: Ob.R w0 (Kd.int .i64) 3 okg (.slice Ag ng cg) G1 :: ObH w0 gm n okm F okr H :: Ob.R w0 (Kd.int .i64) 2 oks' (.slice As' (ns + 1) cs') (S ++ [v]) :: rest)))
              case atStart => exact ⟨0, B, rfl, ⟨Nat.zero_le _⟩, ⟨by omega⟩, HEB, ⟨HB1.out⟩, ⟨St.lift HS⟩⟩
              case round =>
                obtain ⟨j, X, rfl, HJ, HJK, HXL, HX, HS⟩ := hrel
                by_cases hj : j < (H (wrap64 (-v))).length
                · have hjb : decide ((j : Int) < ((H (wrap64 (-v))).length : Int)) = true := decide_eq_true (by omega)
                  have hjn : decide (j < (H (wrap64 (-v))).length) = true := decide_eq_true hj
                  cases gk with
                  | zero => have := HJK.out; omega
                  | succ g1 =>
                  have hX := HX.out; rw [List.drop_eq_getElem_cons hj, impl_trail.inc] at hX
                  have hrd : (H (wrap64 (-v)))[j] = rd (H (wrap64 (-v))) (j : Int) := by
                    unfold rd
                    rw [List.getD_eq_getElem?_getD, Int.toNat_natCast, List.getElem?_eq_getElem hj]
                    rfl
                  rw [hrd] at hX; obtain ⟨x, hx⟩ : ∃ x, rd (H (wrap64 (-v))) (j : Int) = x := ⟨_, rfl⟩; rw [hx] at hX; have hrow := (getH (W' := wr) HS 4 rfl ⟨0, rfl⟩).2.1 (wrap64 (-v)); rw [HEF2.out] at hrow; obtain ⟨adr, eA, hcx⟩ := Kd.at_int (Kd.R_reads' hrow).2.2 (j : Int) (by omega) (by omega); rw [hx, Int.toNat_natCast] at hcx
                  subst eA
                  by_cases x0 : 0 ≤ x
                  · rw [if_pos x0] at hX
                    by_cases x1 : x < (X.length : Int)
                    · rw [if_pos x1] at hX
                      have HX2 := Aside0.mk hX
                      have x1n : x < (nb : Int) := by rw [← HXL.out]; exact x1
                      obtain ⟨gx, cr, er, _, _, _, _⟩ := Kd.R_form (St.getR (W' := wr) HS 2 rfl ⟨0, rfl⟩) (by omega)
                      have eX : Ab = some ⟨gx, 0, none⟩ := by injection er
                      subst eX
                      clear er hX hrow hx hrd; obtain ⟨hc1, hf1⟩ := Kd.R_celln 0 (St.getR (W' := wr) HS 2 rfl ⟨0, rfl⟩) x x0 x1n; replace hc1 : wr.cell? ⟨gx, x.toNat, none⟩ = some (.int .i64 (rd X x)) := hc1; have hz : wr.cell? ⟨gt, 4, none⟩ = some (.slice (some ⟨gx, 0, none⟩) nb cb) := (blk_cell (St.getB HS 0 rfl ⟨0, rfl⟩) 4).trans rfl; have x0b : decide (0 ≤ x) = true := decide_eq_true x0; have x1b : decide (x < (nb : Int)) = true := decide_eq_true x1n; have j0 : (0 ≤ (j : Int)) = True := eq_true (by omega); have HJL := Aside0.mk hj; have hji : ((j : Int) < ((H (wrap64 (-v))).length : Int)) = True := eq_true (by omega); obtain ⟨y, hy⟩ : ∃ y : Int, wrap64 (rd X x + 1) = y := ⟨_, rfl⟩; have hyw : IntKind.i64.wrap (rd X x + 1) = y := (i64_w _).trans hy; rw [hy] at HX2; replace x0 := eq_true x0; replace x1n := eq_true x1n; clear x1 hj
                      go_wp2
                      have HS9 := St.setR HS 2 rfl x y
                      go_roundg g1
                      case measure => omega
                      case rel =>
                        have hwi : wrap64 ((j : Int) + 1) = ((j + 1 : Nat) : Int) := by
                          have := HJL.out; have := HMX.out
                          unfold wrap64
                          omega
                        exact ⟨j + 1, X.set x.toNat y, by first | rfl | rw [hwi] | (simp; done), ⟨HJL.out⟩, ⟨by have := HJK.out; have := HJL.out; omega⟩, ⟨by rw [List.length_set]; exact HXL.out⟩, HX2, ⟨St.lift HS9⟩⟩
                    · rw [if_neg x1] at hX; cases hX
                  · rw [if_neg x0] at hX; cases hX
                · have hjb : decide ((j : Int) < ((H (wrap64 (-v))).length : Int)) = false := decide_eq_false (by omega)
                  have hjn : decide (j < (H (wrap64 (-v))).length) = false := decide_eq_false hj; have hX := HX.out; rw [List.drop_eq_nil_of_le (by omega), impl_trail.inc] at hX; have hX := (Option.some.inj hX).symm
                  subst hX
                  clear hj
                  go_wp2
                  go_end0
                  rw [hI2] at HS; refine ⟨rfl, HXG.out, HXL.out, ?_, ?_, oks', As', cs', ⟨St.lift HS⟩⟩
                  · first | exact HEI.out | (rw [List.length_set]; exact HEI.out)
                  · first | exact HES.out | (rw [List.length_append, HES.out]; rfl)
        · rw [if_neg c4] at h; cases h
      · rw [if_neg c3] at h; cases h
    · rw [if_neg c2] at h; cases h
  · rw [if_neg c1] at h; cases h
def impl_trail_left.q (I : List Int) (n : Int) : Option Bool := if 0 ≤ mx n (wrap64 (-n)) ∧ mx n (wrap64 (-n)) < (I.length : Int) then some (decide (rd I (mx n (wrap64 (-n))) = 0)) else none
def impl_trail_left.f (I x : List Int) : Option Int := (idxG (impl_trail_left.q I) x 0).bind fun r => if 0 ≤ r then some (rd x r) else none
set_option maxHeartbeats 2000000 in
set_option maxRecDepth 100000 in
theorem impl_trail_left.so (I : List Int) (Ai : Option Addr) (ci : Nat) (n : Int) (t : Bool) (gb gt : Nat) (w : World) (hc : w.cell? ⟨gb, 0, none⟩ = some (.pointer (some ⟨gt, 0, none⟩))) (h6 : w.cell? ⟨gt, 6, none⟩ = some (.slice Ai I.length ci)) (hr : Kd.C (Kd.int .i64) w Ai I.length I) (h : impl_trail_left.q I n = some t) :
    Calls Try.prog 83 #[.int .i64 n, .pointer (some ⟨gb, 0, none⟩)] w fun e w' => e = .returned (.bool t) ∧ Below w.heap.size w w' := by
  have hlt : gb < w.heap.size := World.block_lt_of_cell? w ⟨gb, 0, none⟩ hc; have hlt6 : gt < w.heap.size := World.block_lt_of_cell? w ⟨gt, 6, none⟩ h6; have hmax := Kd.C_max hr
  unfold impl_trail_left.q at h
  obtain ⟨j, hm⟩ : ∃ m, mx n (wrap64 (-n)) = m := ⟨_, rfl⟩; rw [hm] at h; have hm_ : (if n < wrap64 (-n) then wrap64 (-n) else n) = j := hm
  by_cases c : 0 ≤ j ∧ j < (I.length : Int)
  · rw [if_pos c] at h
    obtain rfl := Option.some.inj h; clear h; obtain ⟨p, q⟩ := c; obtain ⟨ad, e, hx⟩ := Kd.at_int hr j p q
    cases e
    clear hr; replace p := eq_true p; replace q := eq_true q
    go_enter Try.func83, Try.ntmps83
    go_wp2
    go_ret
    exact ⟨by first | rfl | (simp [*]; done), by (repeat (first | apply pw_below_drewN | apply below_alloc)); exact Below.refl _ _⟩
  · rw [if_neg c] at h
    cases h
set_option maxHeartbeats 2000000 in
set_option maxRecDepth 100000 in
theorem impl_trail_left.idx (A0 : Option Addr) (c0 : Nat) (l0 I : List Int) (Ai : Option Addr) (ci : Nat) (gb gt : Nat) (v : Int) (w : World) (hc : w.cell? ⟨gb, 0, none⟩ = some (.pointer (some ⟨gt, 0, none⟩))) (h6 : w.cell? ⟨gt, 6, none⟩ = some (.slice Ai I.length ci)) (hI : Kd.C (Kd.int .i64) w Ai I.length I) (hr0 : Kd.C (Kd.int .i64) w A0 l0.length l0) (h : idxG (impl_trail_left.q I) l0 0 = some v) :
    Calls Try.prog 80 #[.slice A0 l0.length c0, .func (.func 83) #[] #[.pointer (some ⟨gb, 0, none⟩)]] w fun e w' => e = .returned (.int .i64 v) ∧ Below w.heap.size w w' := by
  have hlt : gb < w.heap.size := World.block_lt_of_cell? w ⟨gb, 0, none⟩ hc; have hlt6 : gt < w.heap.size := World.block_lt_of_cell? w ⟨gt, 6, none⟩ h6; have HC := Aside0.mk hc; have HT := Aside0.mk h6; have HO := Aside0.mk hI; clear hc hI h6; have hmax := Kd.C_max hr0; have HR0 := Aside0.mk hr0; have HS := Aside0.mk h; clear hr0 h; have eg : ∀ (args : Array Value) (w : World), (callFunc 83 args).run Try.prog w = .ok (.enter 83 args) w := enters_of Try.func83 (by kernel_rfl) rfl
  go_enter Try.func80, Try.ntmps80
  go_wp2
  go_loopg [5, 8] l0.length (fun gg _ s8 wr => ∃ kk : Nat, kk ≤ l0.length ∧ l0.length - kk ≤ gg ∧ s8 = .int .i64 kk ∧ Aside0 (Below w.heap.size w wr) ∧ Aside0 (idxG (impl_trail_left.q I) (l0.drop kk) kk = some v))
  case atStart => exact ⟨0, Nat.zero_le _, by omega, rfl, ⟨Below.refl _ w⟩, ⟨HS.out⟩⟩
  case round =>
    obtain ⟨kk, hkk, hg, rfl, HB, HE⟩ := hrel
    by_cases hlt2 : kk < l0.length
    · have hltz : (kk : Int) < (l0.length : Int) := by omega
      obtain ⟨ad, e0, hx0⟩ := Kd.at_int HR0.out (kk : Int) (by omega) hltz
      cases e0
      replace hx0 := cl HB hx0; rw [Int.toNat_natCast] at hx0; have hcc := (HB.out.cell (p := ⟨gb, 0, none⟩) hlt).trans HC.out; have hct := (HB.out.cell (p := ⟨gt, 6, none⟩) hlt6).trans HT.out; obtain ⟨t, ht, h1, h2⟩ := idxG_drop (impl_trail_left.q I) l0 kk hlt2 0 v HE.out
      have ht' : impl_trail_left.q I (rd l0 (kk : Int)) = some t := by rw [← ht]; rfl
      have hcall := impl_trail_left.so I Ai ci (rd l0 (kk : Int)) t gb gt wr hcc hct (Kd.C_below HO.out HB.out) ht'; clear hcc hct ht ht'
      cases t with
      | true =>
        have HV := Aside0.mk (h1 rfl); clear h1 h2
        go_wp2_with (go_at_fn 83; refine hcall.mono ?_; rintro e w' ⟨rfl, hb'⟩)
        go_ret
        exact ⟨by rw [HV.out]; rfl, below_step HB.out hb'⟩
      | false =>
        have HV := Aside0.mk (h2 rfl); clear h1 h2
        go_wp2_with (go_at_fn 83; refine hcall.mono ?_; rintro e w' ⟨rfl, hb'⟩)
        go_roundg (l0.length - (kk + 1))
        case measure => omega
        case rel => exact ⟨kk + 1, by omega, by omega, by go_num, ⟨below_step HB.out hb'⟩, ⟨HV.out⟩⟩
    · have hltz : ¬ (kk : Int) < (l0.length : Int) := by omega
      have hk : kk = l0.length := by omega
      have hv : v = -1 := by
        have := HE.out; rw [List.drop_eq_nil_of_le (by omega)] at this
        simp only [idxG] at this
        exact (Option.some.inj this).symm
      subst hv
      go_wp2
      go_ret
      exact ⟨rfl, HB.out⟩
set_option maxHeartbeats 4000000 in
set_option maxRecDepth 100000 in
theorem impl_trail_left.calls (gt : Nat) (cs : Array Value) (A0 Ai : Option Addr) (c0 ci : Nat) (cl : List (List Int)) (I : List Int) (i : Nat) (r : Int) (W : World) (hg : W.heap[gt]? = some (.cells cs 80 (0, 0))) (hc1 : cs[1]? = some (.slice A0 cl.length c0)) (hc6 : cs[6]? = some (.slice Ai I.length ci)) (hcl : Kd.C (Kd.slice 2 (Kd.int .i64)) W A0 cl.length cl) (hI : Kd.C (Kd.int .i64) W Ai I.length I)
    (hi : i < cl.length) (h : impl_trail_left.f I (rd_L2 cl (i : Int)) = some r) :
    Calls Try.prog 75 #[.pointer (some ⟨gt, 0, none⟩), .int .i64 i] W fun e w' => e = .returned (.int .i64 r) ∧ Below W.heap.size W w' := by
  have hlt : gt < W.heap.size := blk_lt hg; have hz1 : W.cell? ⟨gt, 1, none⟩ = some (.slice A0 cl.length c0) := (blk_cell hg 1).trans hc1; have hz6 : W.cell? ⟨gt, 6, none⟩ = some (.slice Ai I.length ci) := (blk_cell hg 6).trans hc6
  unfold impl_trail_left.f at h
  obtain ⟨v, hv, h⟩ := Option.bind_eq_some_iff.mp h
  by_cases c : 0 ≤ v
  · rw [if_pos c] at h
    obtain rfl := Option.some.inj h; clear h; obtain ⟨ad, A1, c1, e0, hx, hl, hr⟩ := at_L2 hcl (i : Int) (by omega) (by omega)
    cases e0
    rw [Int.toNat_natCast] at hx; have hb := idxG_bound _ _ 0 v (by omega) hv; obtain ⟨x, hxe⟩ : ∃ x, rd_L2 cl (i : Int) = x := ⟨_, rfl⟩; rw [hxe] at hx hl hr hv hb ⊢; clear hxe h
    have hv1 : v < (x.length : Int) := by omega
    obtain ⟨a1, e1, hy⟩ := Kd.at_int hr v c hv1
    cases e1
    have hil : (i : Int) < (cl.length : Int) := by omega
    have hm0 := Kd.C_max hcl; have hm1 := Kd.C_max hr; have HX := Aside0.mk hx; have HY := Aside0.mk hy; have HR := Aside0.mk hr; have HV := Aside0.mk hv; have HI := Aside0.mk hI; have H1 := Aside0.mk hz1; have H6 := Aside0.mk hz6; clear hg hc1 hc6 hcl hr hv hI hx hy hb hl hz1 hz6; have hilb : decide ((i : Int) < (cl.length : Int)) = true := decide_eq_true hil; have cb : decide (0 ≤ v) = true := decide_eq_true c; have hv1b : decide (v < (x.length : Int)) = true := decide_eq_true hv1; have i0 : (0 ≤ (i : Int)) = True := eq_true (by omega); have hin : decide (i < cl.length) = true := decide_eq_true hi; replace c := eq_true c; replace hv1 := eq_true hv1; replace hil := eq_true hil
    go_enter Try.func75, Try.ntmps75
    go_upto_region 1 with (fail)
    have hbx : (W.alloc (.cells #[.pointer (some ⟨gt, 0, none⟩)] 73 (0, 0))).cell? ⟨W.heap.size, 0, none⟩ = some (.pointer (some ⟨gt, 0, none⟩)) := by simp
    have HB := Aside0.mk (show Below W.heap.size W (W.alloc (.cells #[.pointer (some ⟨gt, 0, none⟩)] 73 (0, 0))) from below_alloc (Below.refl _ _) _); have hgb : W.heap.size < (W.alloc (.cells #[.pointer (some ⟨gt, 0, none⟩)] 73 (0, 0))).heap.size := World.block_lt_of_cell? _ ⟨W.heap.size, 0, none⟩ hbx; generalize W.alloc (.cells #[.pointer (some ⟨gt, 0, none⟩)] 73 (0, 0)) = W1 at HB hbx hgb ⊢; have hz1 := (HB.out.cell (p := ⟨gt, 1, none⟩) hlt).trans H1.out; have hz6 := (HB.out.cell (p := ⟨gt, 6, none⟩) hlt).trans H6.out; have hx := (HB.out.cell (World.block_lt_of_cell? W _ HX.out)).trans HX.out
    go_upto_region 2 with (go_at_call 80; refine (impl_trail_left.idx (some a1) c1 x I Ai ci W.heap.size gt v _ hbx hz6 (Kd.C_below HI.out HB.out) (Kd.C_below HR.out HB.out) HV.out).mono ?_; rintro e w' ⟨rfl, hb'⟩)
    have HB2 := Aside0.mk (below_step HB.out hb'); have hbx2 := (hb'.cell (p := ⟨W.heap.size, 0, none⟩) hgb).trans hbx; clear hz1 hz6 hx hbx; have hz1 := (HB2.out.cell (p := ⟨gt, 1, none⟩) hlt).trans H1.out; have hx := (HB2.out.cell (World.block_lt_of_cell? W _ HX.out)).trans HX.out; have hy := (HB2.out.cell (World.block_lt_of_cell? W _ HY.out)).trans HY.out; clear hb'
    go_wp2
    go_ret
    exact ⟨rfl, HB2.out⟩
  · rw [if_neg c] at h
    cases h
/-- The first clause that is not met and has at most one number left: its place, and whether it has one. -/
def impl_trail_unit.scan (G B : List Int) : List (List Int) → Nat → Option (Option (Nat × Bool))
  | [], _ => some none
  | x :: cl, i => if i < G.length ∧ i < B.length then (if rd G i > 0 then impl_trail_unit.scan G B cl (i + 1) else if rd B i < wrap64 ((x.length : Int) - 1) then impl_trail_unit.scan G B cl (i + 1) else if rd B i = (x.length : Int) then some (some (i, false)) else some (some (i, true))) else none
def impl_trail_unit.f (H : Int → List Int) (cl : List (List Int)) : Nat → List Int → List Int → List Int → List Int → Option (Bool × List Int × List Int × List Int × List Int)
  | 0, _, _, _, _ => none
  | k + 1, G, B, S, I => (impl_trail_unit.scan G B cl 0).bind fun o => match o with
    | none => some (true, G, B, S, I)
    | some (_, false) => some (false, G, B, S, I)
    | some (i, true) => (impl_trail_left.f I (rd_L2 cl (i : Int))).bind fun v => (impl_trail_stand.f H G B S I v).bind fun T => impl_trail_unit.f H cl k T.1 T.2.1 T.2.2.1 T.2.2.2
set_option maxHeartbeats 8000000 in
set_option maxRecDepth 100000 in
theorem impl_trail_unit.calls (k gt : Nat) (sw : Int) (gm n : Nat) (okm okg okb oks oki : Nat → Prop) (F : Int → Value) (okr : Int → Nat → Prop) (H : Int → List Int) (A0 Ag Ab As Ai : Option Addr) (c0 ng nb ni cg cb cs ci : Nat) (cl : List (List Int)) (G B S I : List Int) (b0 : Bool) (G1 B1 S1 I1 : List Int) (rest : List Ob) (w0 W : World)
    (hcl : Kd.C (Kd.slice 2 (Kd.int .i64)) w0 A0 cl.length cl) (eg : G.length = ng) (eb : B.length = nb) (ei : I.length = ni)
    (hS : Aside0 (St w0 W (Ob.B gt (.cells #[.int .i64 sw, .slice A0 cl.length c0, .map (some gm), .slice Ag ng cg, .slice Ab nb cb, .slice As S.length cs, .slice Ai ni ci] 80 (0, 0)) :: Ob.R w0 (Kd.int .i64) 2 oki (.slice Ai ni ci) I :: Ob.R w0 (Kd.int .i64) 3 okb (.slice Ab nb cb) B :: Ob.R w0 (Kd.int .i64) 3 okg (.slice Ag ng cg) G :: ObH w0 gm n okm F okr H :: Ob.R w0 (Kd.int .i64) 2 oks (.slice As S.length cs) S :: rest)))
    (h : impl_trail_unit.f H cl k G B S I = some (b0, G1, B1, S1, I1)) :
    Calls Try.prog 52 #[.pointer (some ⟨gt, 0, none⟩)] W fun e w' => e = .returned (.bool b0) ∧ Aside0 (G1.length = ng) ∧ Aside0 (B1.length = nb) ∧ Aside0 (I1.length = ni) ∧ ∃ (oks' : Nat → Prop) (As' : Option Addr) (cs' : Nat),
      Aside0 (St w0 w' (Ob.B gt (.cells #[.int .i64 sw, .slice A0 cl.length c0, .map (some gm), .slice Ag ng cg, .slice Ab nb cb, .slice As' S1.length cs', .slice Ai ni ci] 80 (0, 0)) :: Ob.R w0 (Kd.int .i64) 2 oki (.slice Ai ni ci) I1 :: Ob.R w0 (Kd.int .i64) 3 okb (.slice Ab nb cb) B1 :: Ob.R w0 (Kd.int .i64) 3 okg (.slice Ag ng cg) G1 :: ObH w0 gm n okm F okr H :: Ob.R w0 (Kd.int .i64) 2 oks' (.slice As' S1.length cs') S1 :: rest)) := by
  have HF := Aside0.mk h; have HCL := Aside0.mk hcl; have HEG := Aside0.mk eg; have HEB := Aside0.mk eb; have HEI := Aside0.mk ei; have HMX := Aside0.mk (Kd.C_max hcl); clear h hcl eg eb ei
  go_enter Try.func52, Try.ntmps52
  go_wp2
  (try simp only [Act.put, List.setIfInBounds_toArray, List.set_cons_zero, List.set_cons_succ])
  go_loopg [3] k (fun kq s3 wr => ∃ (b : Bool) (G B S I : List Int) (oks : Nat → Prop) (As : Option Addr) (cs : Nat), s3 = .bool b ∧ Aside0 (G.length = ng) ∧ Aside0 (B.length = nb) ∧ Aside0 (I.length = ni) ∧ Aside0 (b = true → impl_trail_unit.f H cl kq G B S I = some (b0, G1, B1, S1, I1)) ∧ Aside0 (b = false → (b0, G1, B1, S1, I1) = (true, G, B, S, I)) ∧ Aside0 (St w0 wr (Ob.B gt (.cells #[.int .i64 sw, .slice A0 cl.length c0, .map (some gm), .slice Ag ng cg, .slice Ab nb cb, .slice As S.length cs, .slice Ai ni ci] 80 (0, 0)) :: Ob.R w0 (Kd.int .i64) 2 oki (.slice Ai ni ci) I :: Ob.R w0 (Kd.int .i64) 3 okb (.slice Ab nb cb) B :: Ob.R w0 (Kd.int .i64) 3 okg (.slice Ag ng cg) G :: ObH w0 gm n okm F okr H :: Ob.R w0 (Kd.int .i64) 2 oks (.slice As S.length cs) S :: rest)))
  case atStart => exact ⟨true, G, B, S, I, oks, As, cs, rfl, HEG, HEB, HEI, ⟨fun _ => HF.out⟩, ⟨fun e_ => by cases e_⟩, ⟨St.lift hS⟩⟩
  case round =>
    clear HF HEG HEB HEI hS; obtain ⟨b, G, B, S, I, oks, As, cs, rfl, HEG, HEB, HEI, HF, HN, HS⟩ := hrel
    cases b with
    | false =>
      obtain ⟨e1_, e2_⟩ := Prod.mk.inj (HN.out rfl); obtain ⟨e2_, e3_⟩ := Prod.mk.inj e2_; obtain ⟨e3_, e4_⟩ := Prod.mk.inj e3_; obtain ⟨e4_, e5_⟩ := Prod.mk.inj e4_
      subst e1_ e2_ e3_ e4_ e5_
      clear HF HN
      go_wp2
      go_ret
      first | exact ⟨rfl, oks, As, cs, ⟨St.lift HS⟩⟩ | exact ⟨rfl, HEG, HEB, HEI, oks, As, cs, ⟨St.lift HS⟩⟩
    | true =>
      have hf := HF.out rfl; clear HF HN
      cases gk with
      | zero => cases hf
      | succ k1 =>
      rw [impl_trail_unit.f] at hf; obtain ⟨o, ho, hf⟩ := Option.bind_eq_some_iff.mp hf; have HO := Aside0.mk ho; have HF := Aside0.mk hf; clear ho hf; have hz1 : wr.cell? ⟨gt, 1, none⟩ = some (.slice A0 cl.length c0) := (blk_cell (St.getB HS 0 rfl ⟨0, rfl⟩) 1).trans rfl
      go_wp2
      clear hz1
      (try simp only [Act.put, List.setIfInBounds_toArray, List.set_cons_zero, List.set_cons_succ])
      go_loopg [3, 13] cl.length (fun kq s3 s13 wr => ∃ i : Nat, s3 = .bool false ∧ s13 = .int .i64 i ∧ Aside0 (i ≤ cl.length) ∧ Aside0 (cl.length - i ≤ kq) ∧ Aside0 (impl_trail_unit.scan G B (cl.drop i) i = some o) ∧ Aside0 (St w0 wr (Ob.B gt (.cells #[.int .i64 sw, .slice A0 cl.length c0, .map (some gm), .slice Ag ng cg, .slice Ab nb cb, .slice As S.length cs, .slice Ai ni ci] 80 (0, 0)) :: Ob.R w0 (Kd.int .i64) 2 oki (.slice Ai ni ci) I :: Ob.R w0 (Kd.int .i64) 3 okb (.slice Ab nb cb) B :: Ob.R w0 (Kd.int .i64) 3 okg (.slice Ag ng cg) G :: ObH w0 gm n okm F okr H :: Ob.R w0 (Kd.int .i64) 2 oks (.slice As S.length cs) S :: rest)))
      case atStart => exact ⟨0, rfl, rfl, ⟨Nat.zero_le _⟩, ⟨by omega⟩, HO, ⟨St.lift HS⟩⟩
      case round =>
        clear HO HS; obtain ⟨i, rfl, rfl, HI0, HIK, HO, HS⟩ := hrel
        by_cases hi : i < cl.length
        · cases gk with
          | zero => have := HIK.out; omega
          | succ g1 =>
          have HWI : Aside0 (wrap64 ((i : Int) + 1) = ((i + 1 : Nat) : Int)) := ⟨by
            clear HS; have := HMX.out
            unfold wrap64
            omega⟩
          have hx := HO.out; clear HO; have HCLN := HCL.out; obtain ⟨ad, Ac, cc, rfl, hx1, hcl1, hcr⟩ := at_L2 HCLN (i : Int) (by omega) (by omega); rw [Int.toNat_natCast] at hx1
          have hdrop : cl.drop i = rd_L2 cl (i : Int) :: cl.drop (i + 1) := by
            rw [List.drop_eq_getElem_cons hi]
            congr 1
            unfold rd_L2
            first | unfold rdOf | skip
            rw [List.getD_eq_getElem?_getD, Int.toNat_natCast, List.getElem?_eq_getElem hi]
            rfl
          rw [hdrop, impl_trail_unit.scan] at hx; clear hdrop HCLN; obtain ⟨x, hxe⟩ : ∃ x, rd_L2 cl (i : Int) = x := ⟨_, rfl⟩; have HXE := Aside0.mk hxe; rw [hxe] at hx hx1 hcl1 hcr; clear hxe; have HXM := Aside0.mk (Kd.C_max hcr); have hxc := (HS.out.below.cell (World.block_lt_of_cell? w0 _ hx1)).trans hx1; clear hcl1 hcr hx1
          by_cases hGB : i < G.length ∧ i < B.length
          · rw [if_pos hGB] at hx
            have HI1 := Aside0.mk hi
            have ig : (i : Int) < (ng : Int) := by have := HEG.out; omega
            have ib : (i : Int) < (nb : Int) := by have := HEB.out; omega
            obtain ⟨gg, cr, er, _, _, _, _⟩ := Kd.R_form (St.getR (W' := wr) HS 3 rfl ⟨0, rfl⟩) (by omega)
            have eX : Ag = some ⟨gg, 0, none⟩ := by injection er
            subst eX
            clear er; obtain ⟨gb, cr2, er, _, _, _, _⟩ := Kd.R_form (St.getR (W' := wr) HS 2 rfl ⟨0, rfl⟩) (by omega)
            have eX : Ab = some ⟨gb, 0, none⟩ := by injection er
            subst eX
            clear er; obtain ⟨hcg, _⟩ := Kd.R_celln 0 (St.getR (W' := wr) HS 3 rfl ⟨0, rfl⟩) (i : Int) (by omega) ig; obtain ⟨hcb, _⟩ := Kd.R_celln 0 (St.getR (W' := wr) HS 2 rfl ⟨0, rfl⟩) (i : Int) (by omega) ib; replace hcg : wr.cell? ⟨gg, i, none⟩ = some (.int .i64 (rd G (i : Int))) := hcg; replace hcb : wr.cell? ⟨gb, i, none⟩ = some (.int .i64 (rd B (i : Int))) := hcb; have hz3 : wr.cell? ⟨gt, 3, none⟩ = some (.slice (some ⟨gg, 0, none⟩) ng cg) := (blk_cell (St.getB HS 0 rfl ⟨0, rfl⟩) 3).trans rfl; have hz4 : wr.cell? ⟨gt, 4, none⟩ = some (.slice (some ⟨gb, 0, none⟩) nb cb) := (blk_cell (St.getB HS 0 rfl ⟨0, rfl⟩) 4).trans rfl; obtain ⟨g, hge⟩ : ∃ g, rd G (i : Int) = g := ⟨_, rfl⟩; obtain ⟨b, hbe⟩ : ∃ b, rd B (i : Int) = b := ⟨_, rfl⟩; rw [hge, hbe] at hx; rw [hge] at hcg; rw [hbe] at hcb; clear hge hbe; obtain ⟨m, hmw⟩ : ∃ m, wrap64 ((x.length : Int) - 1) = m := ⟨_, rfl⟩; have hmi : IntKind.i64.wrap ((x.length : Int) - 1) = m := (i64_w _).trans hmw; rw [hmw] at hx; have hib : decide ((i : Int) < (cl.length : Int)) = true := decide_eq_true (Int.ofNat_lt.2 hi); have hin : decide (i < cl.length) = true := decide_eq_true hi; have igb : decide ((i : Int) < (ng : Int)) = true := decide_eq_true ig; have ibb : decide ((i : Int) < (nb : Int)) = true := decide_eq_true ib; have i0 : (0 ≤ (i : Int)) = True := eq_true (Int.natCast_nonneg i); have hii : ((i : Int) < (cl.length : Int)) = True := eq_true (Int.ofNat_lt.2 hi); replace ig := eq_true ig; replace ib := eq_true ib; clear hi hGB
            by_cases c1 : g > 0
            · rw [if_pos c1] at hx
              have HX := Aside0.mk hx; have c1b : decide (0 < g) = true := decide_eq_true c1; replace c1 := eq_true c1; clear hx
              go_wp2
              go_roundg g1
              case measure => omega
              case rel => exact ⟨i + 1, rfl, by rw [HWI.out], ⟨HI1.out⟩, ⟨by have := HIK.out; have := HI1.out; omega⟩, HX, ⟨St.lift HS⟩⟩
            · rw [if_neg c1] at hx
              have c1b : decide (0 < g) = false := decide_eq_false c1; replace c1 := eq_false c1
              by_cases c2 : b < m
              · rw [if_pos c2] at hx
                have HX := Aside0.mk hx; have c2b : decide (b < m) = true := decide_eq_true c2; replace c2 := eq_true c2; clear hx
                go_wp2
                go_roundg g1
                case measure => omega
                case rel => exact ⟨i + 1, rfl, by rw [HWI.out], ⟨HI1.out⟩, ⟨by have := HIK.out; have := HI1.out; omega⟩, HX, ⟨St.lift HS⟩⟩
              · rw [if_neg c2] at hx
                have c2b : decide (b < m) = false := decide_eq_false c2; replace c2 := eq_false c2
                by_cases c3 : b = (x.length : Int)
                · rw [if_pos c3] at hx
                  have hf := HF.out; rw [← Option.some.inj hx] at hf
                  dsimp only at hf
                  obtain ⟨e1_, e2_⟩ := Prod.mk.inj (Option.some.inj hf); obtain ⟨e2_, e3_⟩ := Prod.mk.inj e2_; obtain ⟨e3_, e4_⟩ := Prod.mk.inj e3_; obtain ⟨e4_, e5_⟩ := Prod.mk.inj e4_
                  subst e1_ e2_ e3_ e4_ e5_
                  have c3b : (b == (x.length : Int)) = true := beq_iff_eq.2 c3; clear hx hf HF; replace c3 := eq_true c3
                  go_wp2
                  go_ret
                  first | exact ⟨rfl, oks, As, cs, ⟨St.lift HS⟩⟩ | exact ⟨rfl, HEG, HEB, HEI, oks, As, cs, ⟨St.lift HS⟩⟩
                · rw [if_neg c3] at hx
                  have c3b : (b == (x.length : Int)) = false := beq_eq_false_iff_ne.2 c3; replace c3 := eq_false c3; have hf := HF.out; rw [← Option.some.inj hx] at hf
                  dsimp only at hf
                  obtain ⟨v, hv, hf⟩ := Option.bind_eq_some_iff.mp hf; obtain ⟨T, hT, hf⟩ := Option.bind_eq_some_iff.mp hf; obtain ⟨G2, B2, S2, I2⟩ := T
                  dsimp only at hf
                  have HV := Aside0.mk hv; have HT := Aside0.mk hT; have HF2 := Aside0.mk hf; clear hx hf hv hT HF
                  go_wp2_with (first
                    | (go_at_call 75
                       have hIR := St.getR HS 1 rfl; rw [← HEI.out] at hIR; refine (impl_trail_left.calls gt _ (some ad) Ai c0 ci cl I i v _ (St.getB HS 0 rfl) rfl (by rw [HEI.out]; rfl) (Kd.C_below HCL.out (St.lift HS).below) (Kd.R_reads' hIR).2.2 HI1.out HV.out).mono ?_
                       clear hIR; rintro e w' ⟨rfl, hb⟩; have HS2 := St.call HS hb
                       clear hb)
                    | (go_at_call 51
                       refine (impl_trail_stand.calls gt sw (.slice (some ad) cl.length c0) gm n okm okg okb oks oki F okr H (some ⟨gg, 0, none⟩) (some ⟨gb, 0, none⟩) As Ai ng nb S.length ni cg cb cs ci G B S I G2 B2 S2 I2 rest v w0 _ HEG.out HEB.out rfl HEI.out ⟨St.lift HS2⟩ HT.out).mono ?_
                       rintro e w' ⟨rfl, l1, l2, l3, l4, oks', As', cs', HS3⟩))
                  rw [← l4] at HS3
                  go_roundg k1
                  case measure => omega
                  case rel => exact ⟨true, G2, B2, S2, I2, oks', As', cs', rfl, ⟨l1⟩, ⟨l2⟩, ⟨l3⟩, ⟨fun _ => HF2.out⟩, ⟨fun e_ => by cases e_⟩, ⟨St.lift HS3⟩⟩
          · rw [if_neg hGB] at hx; cases hx
        · have hib : decide ((i : Int) < (cl.length : Int)) = false := decide_eq_false (by omega)
          have hin : decide (i < cl.length) = false := decide_eq_false hi; have hx := HO.out; rw [List.drop_eq_nil_of_le (by omega), impl_trail_unit.scan] at hx; obtain rfl := Option.some.inj hx; have HF2 := Aside0.mk (Option.some.inj HF.out).symm; clear hx HF HO
          go_wp2
          go_roundg k1
          case measure => omega
          case rel => exact ⟨false, G, B, S, I, oks, As, cs, rfl, HEG, HEB, HEI, ⟨fun e_ => by cases e_⟩, ⟨fun _ => HF2.out⟩, ⟨St.lift HS⟩⟩
theorem impl_back.inf2_ : (Try.prog.info? 2).map (fun i => (i.zero, i.size, i.bytes)) = some (some (.int .i64 0), 1, 8) := by kernel_rfl
theorem impl_back.cutH (W : World) (A : Option Addr) (n c i : Nat) (hi : i ≤ c) : (Instr.slice 33 (.slice A n c) none (some (.int .i64 (i : Int))) none).run Try.prog W = .ok (.slice A i c) W := by
  obtain ⟨i0, hi0, hz⟩ := Option.map_eq_some_iff.1 impl_back.inf2_
  have hel : Try.prog.elem 33 = 2 := by simp [Program.elem, Try.underlying33]
  have hu : Try.prog.underlying 33 = some (.slice (Try.prog.elem 33)) := by rw [hel]; exact Try.underlying33
  have hs : i0.size = 1 := by simp only [Prod.mk.injEq] at hz; exact hz.2.1
  have ha : (A.map fun x => x.add 0) = A := by cases A <;> simp [Addr.add]
  rw [run_slice_h W 33 A n c hu .i64 (i : Int) (Int.natCast_nonneg _) (by omega), hel]
  simp [sizeOf, typeInfo, hi0, hs, sliced, Result.andThen, ha]
theorem St.cutR {α : Type} {d : Kd α} {e : Nat} {ok : Nat → Prop} {A : Option Addr} {n m c : Nat} {xs : List α} {w0 W : World} {l : List Ob} (h : Aside0 (St w0 W l)) (i : Nat) (hi : nth l i = some (Ob.R w0 d e ok (.slice A n c) xs)) (hm : m ≤ xs.length) : Aside0 (St w0 W (put l i (Ob.R w0 d e ok (.slice A m c) (xs.take m)))) :=
  ⟨St.turn h.out i hi h.out.below (Nat.le_refl _) (fun _ _ _ => rfl) (fun q hq => .inl hq) (Ob.R_foot _ _ _ _ _ _) (Kd.R_take (St.getR (W' := W) h i hi ⟨0, rfl⟩) hm)⟩
/-- Numbers are taken away until so many stand. -/
def impl_trail_back.f (H : Int → List Int) (count : Nat) : Nat → List Int → List Int → List Int → List Int → Option (List Int × List Int × List Int × List Int)
  | 0, _, _, _, _ => none
  | k + 1, G, B, S, I => if count < S.length then (if (Lit.int .i64 (rd S ((S.length - 1 : Nat) : Int))).wf = true ∧ (Lit.int .i64 (wrap64 (-(rd S ((S.length - 1 : Nat) : Int))))).wf = true ∧ 0 ≤ mx (rd S ((S.length - 1 : Nat) : Int)) (wrap64 (-(rd S ((S.length - 1 : Nat) : Int)))) ∧ mx (rd S ((S.length - 1 : Nat) : Int)) (wrap64 (-(rd S ((S.length - 1 : Nat) : Int)))) < (I.length : Int) then (impl_trail.inc (-1) G (H (rd S ((S.length - 1 : Nat) : Int)))).bind fun G' => (impl_trail.inc (-1) B (H (wrap64 (-(rd S ((S.length - 1 : Nat) : Int)))))).bind fun B' => impl_trail_back.f H count k G' B' (S.take (S.length - 1)) (I.set (mx (rd S ((S.length - 1 : Nat) : Int)) (wrap64 (-(rd S ((S.length - 1 : Nat) : Int))))).toNat 0) else none) else some (G, B, S, I)
def impl_trail_back.T2 : Bool × List (List Nat × List Nat) := (true, [([], []), ([], []), ([1], [1]), ([2], [2]), ([3], [3]), ([], []), ([5], [5]), ([6], [6]), ([7], [7]), ([8], [8]), ([9], [9]), ([4, 10], [4, 10]), ([0, 0, 1, 2, 3, 4, 5, 6, 7, 8, 9, 10, 11], [0]), ([12, 0, 1, 2, 3, 4, 5, 6, 7, 8, 9, 10, 11], [12]), ([13, 11, 0, 1, 2, 3, 4, 5, 6, 7, 8, 9, 10, 11], [11, 13])])
def impl_trail_back.B2 : List Nat := [0, 0, 2, 6, 14, 0, 32, 96, 224, 480, 992, 2046, 4095, 8191, 16383]
theorem impl_trail_back.tab2 : rtab .any (opsOf Try.f86 2) = impl_trail_back.T2 := by kernel_rfl
theorem impl_trail_back.bits2 : waitsOk impl_trail_back.T2.2 impl_trail_back.B2 = true := by kernel_rfl
set_option maxHeartbeats 8000000 in
set_option maxRecDepth 100000 in
theorem impl_trail_back.calls (k gt : Nat) (sw : Int) (vc : Value) (gm n : Nat) (okm okg okb oks oki : Nat → Prop) (F : Int → Value) (okr : Int → Nat → Prop) (H : Int → List Int) (Ag Ab As Ai : Option Addr) (ng nb ni cg cb cs ci : Nat) (G B S I G' B' S' I' : List Int) (rest : List Ob) (count : Nat) (w0 W : World)
    (eg : Aside0 (G.length = ng)) (eb : Aside0 (B.length = nb)) (ei : Aside0 (I.length = ni))
    (hS : Aside0 (St w0 W (Ob.B gt (.cells #[.int .i64 sw, vc, .map (some gm), .slice Ag ng cg, .slice Ab nb cb, .slice As S.length cs, .slice Ai ni ci] 80 (0, 0)) :: Ob.R w0 (Kd.int .i64) 2 oki (.slice Ai ni ci) I :: Ob.R w0 (Kd.int .i64) 3 okb (.slice Ab nb cb) B :: Ob.R w0 (Kd.int .i64) 3 okg (.slice Ag ng cg) G :: ObH w0 gm n okm F okr H :: Ob.R w0 (Kd.int .i64) 2 oks (.slice As S.length cs) S :: rest)))
    (h : Aside0 (impl_trail_back.f H count k G B S I = some (G', B', S', I'))) :
    Calls Try.prog 86 #[.pointer (some ⟨gt, 0, none⟩), .int .i64 count] W fun e w' => e = .returned (.tuple #[]) ∧ Aside0 (G'.length = ng) ∧ Aside0 (B'.length = nb) ∧ Aside0 (I'.length = ni) ∧ ∃ (oks' : Nat → Prop) (As' : Option Addr), Aside0 (St w0 w' (Ob.B gt (.cells #[.int .i64 sw, vc, .map (some gm), .slice Ag ng cg, .slice Ab nb cb, .slice As' S'.length cs, .slice Ai ni ci] 80 (0, 0)) :: Ob.R w0 (Kd.int .i64) 2 oki (.slice Ai ni ci) I' :: Ob.R w0 (Kd.int .i64) 3 okb (.slice Ab nb cb) B' :: Ob.R w0 (Kd.int .i64) 3 okg (.slice Ag ng cg) G' :: ObH w0 gm n okm F okr H :: Ob.R w0 (Kd.int .i64) 2 oks' (.slice As' S'.length cs) S' :: rest)) := by
  go_enter Try.func86, Try.ntmps86
  go_wp2
  (try simp only [Act.put, List.setIfInBounds_toArray, List.set_cons_zero, List.set_cons_succ])
  go_loopg [] k (fun kq wr => ∃ (G B S I : List Int) (oks : Nat → Prop) (As : Option Addr), Aside0 (G.length = ng) ∧ Aside0 (B.length = nb) ∧ Aside0 (I.length = ni) ∧ Aside0 (impl_trail_back.f H count kq G B S I = some (G', B', S', I')) ∧ Aside0 (St w0 wr (Ob.B gt (.cells #[.int .i64 sw, vc, .map (some gm), .slice Ag ng cg, .slice Ab nb cb, .slice As S.length cs, .slice Ai ni ci] 80 (0, 0)) :: Ob.R w0 (Kd.int .i64) 2 oki (.slice Ai ni ci) I :: Ob.R w0 (Kd.int .i64) 3 okb (.slice Ab nb cb) B :: Ob.R w0 (Kd.int .i64) 3 okg (.slice Ag ng cg) G :: ObH w0 gm n okm F okr H :: Ob.R w0 (Kd.int .i64) 2 oks (.slice As S.length cs) S :: rest)))
  case atStart => exact ⟨G, B, S, I, oks, As, eg, eb, ei, h, ⟨St.lift hS⟩⟩
  case round =>
    clear h hS eg eb ei; obtain ⟨G, B, S, I, oks, As, HEG, HEB, HEI, HX, HS⟩ := hrel; have hx := HX.out
    cases gk with
    | zero => cases hx
    | succ k1 =>
    rw [impl_trail_back.f] at hx; have hz5 : wr.cell? ⟨gt, 5, none⟩ = some (.slice As S.length cs) := (blk_cell (St.getB HS 0 rfl ⟨0, rfl⟩) 5).trans rfl
    by_cases c0 : count < S.length
    · rw [if_pos c0] at hx
      have c0b : decide ((count : Int) < (S.length : Int)) = true := decide_eq_true (by omega); have c0c : decide (count < S.length) = true := decide_eq_true c0; obtain ⟨m2, hm2⟩ : ∃ m2, S.length - 1 = m2 := ⟨_, rfl⟩
      have hm3 : m2 < S.length := by omega
      have hlen : S.length = m2 + 1 := by omega
      rw [hm2] at hx; obtain ⟨v, hv⟩ : ∃ v, rd S (m2 : Int) = v := ⟨_, rfl⟩; rw [hv] at hx
      by_cases c4 : (Lit.int .i64 v).wf = true ∧ (Lit.int .i64 (wrap64 (-v))).wf = true ∧ 0 ≤ mx v (wrap64 (-v)) ∧ mx v (wrap64 (-v)) < (I.length : Int)
      · rw [if_pos c4] at hx
        obtain ⟨G1, A1_, hx⟩ := Option.bind_eq_some_iff.1 hx; obtain ⟨B1, A2_, hx⟩ := Option.bind_eq_some_iff.1 hx; obtain ⟨m, hm⟩ : ∃ m, mx v (wrap64 (-v)) = m := ⟨_, rfl⟩; rw [hm] at hx c4; have hmm : (if v < wrap64 (-v) then wrap64 (-v) else v) = m := hm; obtain ⟨S2, hS2⟩ : ∃ S2, S2 = S.take m2 := ⟨_, rfl⟩; obtain ⟨I2, hI2⟩ : ∃ I2, I2 = I.set m.toNat 0 := ⟨_, rfl⟩; rw [← hS2, ← hI2] at hx
        have hS2l : S2.length = m2 := by rw [hS2, List.length_take]; omega
        have hI2l : I2.length = ni := by rw [hI2, List.length_set]; exact HEI.out
        have HX2 := Aside0.mk hx; have HG1 := Aside0.mk A1_; have HB1 := Aside0.mk A2_; have HS2L := Aside0.mk hS2l; have HI2L := Aside0.mk hI2l
        have hmi : m < (ni : Int) := by rw [← HEI.out]; exact c4.2.2.2
        have HC4 : Aside0 ((Lit.int .i64 v).wf = true ∧ (Lit.int .i64 (wrap64 (-v))).wf = true) := ⟨c4.1, c4.2.1⟩; have c2 : 0 ≤ m := c4.2.2.1; obtain ⟨gs, cr, er, _, _, _, _⟩ := Kd.R_form (St.getR (W' := wr) HS 5 rfl ⟨0, rfl⟩) (by omega)
        have eA : As = some ⟨gs, 0, none⟩ := by injection er
        subst eA
        clear er; obtain ⟨hcs, _⟩ := Kd.R_celln 0 (St.getR (W' := wr) HS 5 rfl ⟨0, rfl⟩) (m2 : Int) (by omega) (by omega); replace hcs : wr.cell? ⟨gs, m2, none⟩ = some (.int .i64 v) := hcs.trans (by rw [← hv]; rfl)
        have hcc : m2 ≤ cs := by have := (Kd.R_reads' (St.getR (W' := wr) HS 5 rfl ⟨0, rfl⟩)).2.1; omega
        have hcut := fun W_ : World => impl_back.cutH W_ (some ⟨gs, 0, none⟩) S.length cs m2 hcc
        have hwm : IntKind.i64.wrap ((S.length : Int) - 1) = (m2 : Int) := by
          rw [i64_w]; have := (Kd.C_max (Kd.R_reads' (St.getR (W' := wr) HS 5 rfl ⟨0, rfl⟩)).2.2); clear HS hcut
          unfold wrap64
          omega
        have m20 : (0 ≤ (m2 : Int)) = True := eq_true (by omega); have m21 : ((m2 : Int) < (S.length : Int)) = True := eq_true (by omega); have HM := Aside0.mk (And.intro hlen hm3); clear hx HX A1_ A2_ c4 hm hv hm2 hlen hm3 c0 hS2l hI2l
        go_upto_region 1 with (fail)
        go_quiet (fail)
        go_upto_region 2 with (fail)
        have HS1 : Aside0 (St w0 (wr.drewN nq) _) := ⟨St.lift HS⟩; clear hz5 hcs HS; generalize wr.drewN nq = W1 at HS1 ⊢; have hz5 : W1.drew.cell? ⟨gt, 5, none⟩ = some (.slice (some ⟨gs, 0, none⟩) S.length cs) := (blk_cell (St.getB HS1 0 rfl ⟨0, rfl⟩) 5).trans rfl; refine start_ (n := 15) (S := (fun w' => w'.cell? ⟨gt, 5, none⟩ = some (.slice (some ⟨gs, 0, none⟩) S.length cs))) (ds := [14]) (tf 0 15) (by kernel_rfl) rfl rfl hz5 (fun hHeld => ?_); refine with_tabW impl_trail_back.tab2 impl_trail_back.bits2 (fun HT_ HW_ => ?_); have HS2 : Aside0 (St w0 W1.drew _) := ⟨St.lift HS1⟩; clear HS1; generalize W1.drew = w1 at HS2 hz5 hHeld ⊢; refine pu HT_ 0 28 14 ?_; refine pu HT_ 1 29 13 ?_; refine pu HT_ 2 30 12 ?_; refine pu HT_ 3 31 11 ?_; refine ta HT_ HW_ hHeld 4 32 10 ?_; refine pu HT_ 5 33 9 ?_; refine pu HT_ 6 34 8 ?_; refine pu HT_ 7 35 7 ?_; refine ta HT_ HW_ hHeld 8 36 6 ?_; refine pu HT_ 9 37 5 ?_; refine pu HT_ 10 38 4 ?_; refine pu HT_ 11 39 3 ?_; refine pu HT_ 12 40 2 ?_; refine pu HT_ 13 41 1 ?_; refine last_ (i := 14) (N := none) (tf 15 0) rfl rfl (one_of HT_.out (by kernel_rfl)) (by decide) (fun K hK => ?_); refine skip_ (w1 := w1.setCell ⟨gt, 5, none⟩ (.slice (some ⟨gs, 0, none⟩) m2 cs)) (by rfl) rfl ?_ ?_
        · have hzf5 : w1.frozen? ⟨gt, 5, none⟩ = false := blk_frozen (St.getB HS2 0 rfl ⟨0, rfl⟩) 5
          first | (go_simp; done) | (go_simp; rfl)
        refine hK.out _ _ ?_; clear hK K; refine done_ (done_of HT_.out (by kernel_rfl)) ?_; have HS3 : Aside0 (St w0 (w1.setCell ⟨gt, 5, none⟩ (.slice (some ⟨gs, 0, none⟩) m2 cs)) _) := St.store HS2 0 rfl (by repeat (first | exact KeepBut.refl _ _ _ | apply KeepBut.set_)) (o' := .cells #[.int .i64 sw, vc, .map (some gm), .slice Ag ng cg, .slice Ab nb cb, .slice (some ⟨gs, 0, none⟩) m2 cs, .slice Ai ni ci] 80 (0, 0)) (blk_put (St.getB HS2 0 rfl ⟨0, rfl⟩) 5 (.slice (some ⟨gs, 0, none⟩) m2 cs) rfl) (below_set HS2.out.below (St.lowB HS2 0 rfl)); have HS4 := St.cutR (m := m2) HS3 5 rfl (by have := HM.out; omega)
        replace HS4 : Aside0 (St w0 (w1.setCell ⟨gt, 5, none⟩ (.slice (some ⟨gs, 0, none⟩) m2 cs)) (Ob.B gt (.cells #[.int .i64 sw, vc, .map (some gm), .slice Ag ng cg, .slice Ab nb cb, .slice (some ⟨gs, 0, none⟩) m2 cs, .slice Ai ni ci] 80 (0, 0)) :: Ob.R w0 (Kd.int .i64) 2 oki (.slice Ai ni ci) I :: Ob.R w0 (Kd.int .i64) 3 okb (.slice Ab nb cb) B :: Ob.R w0 (Kd.int .i64) 3 okg (.slice Ag ng cg) G :: ObH w0 gm n okm F okr H :: Ob.R w0 (Kd.int .i64) 2 oks (.slice (some ⟨gs, 0, none⟩) m2 cs) S2 :: rest)) := by rw [hS2]; exact HS4
        clear hHeld HT_ HW_ hz5 HS2 HS3; generalize w1.setCell ⟨gt, 5, none⟩ (.slice (some ⟨gs, 0, none⟩) m2 cs) = w3 at HS4 ⊢; obtain ⟨gi, cr, er, _, _, _, _⟩ := Kd.R_form (St.getR (W' := w3) HS4 1 rfl ⟨0, rfl⟩) (by have := HEI.out; omega)
        have eI : Ai = some ⟨gi, 0, none⟩ := by injection er
        subst eI
        clear er; have hz6 : w3.cell? ⟨gt, 6, none⟩ = some (.slice (some ⟨gi, 0, none⟩) ni ci) := (blk_cell (St.getB HS4 0 rfl ⟨0, rfl⟩) 6).trans rfl; obtain ⟨hi1, hif⟩ := Kd.R_celln 0 (St.getR (W' := w3) HS4 1 rfl ⟨0, rfl⟩) m c2 hmi; have m0b : decide (0 ≤ m) = true := decide_eq_true c2; have m1b : decide (m < (ni : Int)) = true := decide_eq_true hmi; replace c2 := eq_true c2; replace hmi := eq_true hmi
        go_upto_region 4 with (fail)
        have HS5 : Aside0 (St w0 (w3.setCell ⟨gi, m.toNat, none⟩ (.int .i64 0)) (Ob.B gt (.cells #[.int .i64 sw, vc, .map (some gm), .slice Ag ng cg, .slice Ab nb cb, .slice (some ⟨gs, 0, none⟩) m2 cs, .slice (some ⟨gi, 0, none⟩) ni ci] 80 (0, 0)) :: Ob.R w0 (Kd.int .i64) 2 oki (.slice (some ⟨gi, 0, none⟩) ni ci) I2 :: Ob.R w0 (Kd.int .i64) 3 okb (.slice Ab nb cb) B :: Ob.R w0 (Kd.int .i64) 3 okg (.slice Ag ng cg) G :: ObH w0 gm n okm F okr H :: Ob.R w0 (Kd.int .i64) 2 oks (.slice (some ⟨gs, 0, none⟩) m2 cs) S2 :: rest)) := by rw [hI2]; exact St.setR HS4 1 rfl m 0
        clear hi1 hif hz6 HS4 HM hcut hwm m20 m21; generalize w3.setCell ⟨gi, m.toNat, none⟩ (.int .i64 0) = w4 at HS5 ⊢; have hzm : w4.cell? ⟨gt, 2, none⟩ = some (.map (some gm)) := (blk_cell (St.getB HS5 0 rfl ⟨0, rfl⟩) 2).trans rfl; have hlk := MapI.lookup (getH (W' := w4) HS5 4 rfl ⟨0, rfl⟩).1 Try.underlying77 Try.underlying2 (Try.zeroValue78 w4) v HC4.out.1; obtain ⟨Av, cv, eF⟩ := Kd.R_slice ((getH (W' := w4) HS5 4 rfl ⟨0, rfl⟩).2.1 v); rw [eF] at hlk; have HEF := Aside0.mk eF; have hrv := (getH (W' := w4) HS5 4 rfl ⟨0, rfl⟩).2.1 v; rw [eF] at hrv; have HMX := Aside0.mk (Kd.C_max (Kd.R_reads' hrv).2.2); clear eF hrv c2 hmi m0b m1b hmm hS2 hI2 hcc c0b c0c
        go_wp2
        clear hzm hlk
        go_loopg [58] (H v).length (fun kq s_ wr => ∃ (j : Nat) (X : List Int), s_ = .int .i64 j ∧ Aside0 (j ≤ (H v).length) ∧ Aside0 ((H v).length - j ≤ kq) ∧ Aside0 (X.length = ng) ∧ Aside0 (impl_trail.inc (-1) X ((H v).drop j) = some G1) ∧ Aside0 (St w0 wr (Ob.B gt (.cells #[.int .i64 sw, vc, .map (some gm), .slice Ag ng cg, .slice Ab nb cb, .slice (some ⟨gs, 0, none⟩) m2 cs, .slice (some ⟨gi, 0, none⟩) ni ci] 80 (0, 0)) :: Ob.R w0 (Kd.int .i64) 2 oki (.slice (some ⟨gi, 0, none⟩) ni ci) I2 :: Ob.R w0 (Kd.int .i64) 3 okb (.slice Ab nb cb) B :: Ob.R w0 (Kd.int .i64) 3 okg (.slice Ag ng cg) X :: ObH w0 gm n okm F okr H :: Ob.R w0 (Kd.int .i64) 2 oks (.slice (some ⟨gs, 0, none⟩) m2 cs) S2 :: rest)))
        case atStart => exact ⟨0, G, rfl, ⟨Nat.zero_le _⟩, ⟨by omega⟩, HEG, ⟨HG1.out⟩, ⟨St.lift HS5⟩⟩
        case round =>
          obtain ⟨j, X, rfl, HJ, HJK, HXL, HX, HS⟩ := hrel
          by_cases hj : j < (H v).length
          · have hjb : decide ((j : Int) < ((H v).length : Int)) = true := decide_eq_true (by omega)
            have hjn : decide (j < (H v).length) = true := decide_eq_true hj
            cases gk with
            | zero => have := HJK.out; omega
            | succ g1 =>
            have hX := HX.out; rw [List.drop_eq_getElem_cons hj, impl_trail.inc] at hX
            have hrd : (H v)[j] = rd (H v) (j : Int) := by
              unfold rd
              rw [List.getD_eq_getElem?_getD, Int.toNat_natCast, List.getElem?_eq_getElem hj]
              rfl
            rw [hrd] at hX; obtain ⟨x, hx⟩ : ∃ x, rd (H v) (j : Int) = x := ⟨_, rfl⟩; rw [hx] at hX; have hrow := (getH (W' := wr) HS 4 rfl ⟨0, rfl⟩).2.1 v; rw [HEF.out] at hrow; obtain ⟨adr, eA, hcx⟩ := Kd.at_int (Kd.R_reads' hrow).2.2 (j : Int) (by omega) (by omega); rw [hx, Int.toNat_natCast] at hcx
            subst eA
            by_cases x0 : 0 ≤ x
            · rw [if_pos x0] at hX
              by_cases x1 : x < (X.length : Int)
              · rw [if_pos x1] at hX
                have HX2 := Aside0.mk hX
                have x1n : x < (ng : Int) := by rw [← HXL.out]; exact x1
                obtain ⟨gx, cr, er, _, _, _, _⟩ := Kd.R_form (St.getR (W' := wr) HS 3 rfl ⟨0, rfl⟩) (by omega)
                have eX : Ag = some ⟨gx, 0, none⟩ := by injection er
                subst eX
                clear er hX hrow hx hrd; obtain ⟨hc1, hf1⟩ := Kd.R_celln 0 (St.getR (W' := wr) HS 3 rfl ⟨0, rfl⟩) x x0 x1n; replace hc1 : wr.cell? ⟨gx, x.toNat, none⟩ = some (.int .i64 (rd X x)) := hc1; have hz : wr.cell? ⟨gt, 3, none⟩ = some (.slice (some ⟨gx, 0, none⟩) ng cg) := (blk_cell (St.getB HS 0 rfl ⟨0, rfl⟩) 3).trans rfl; have x0b : decide (0 ≤ x) = true := decide_eq_true x0; have x1b : decide (x < (ng : Int)) = true := decide_eq_true x1n; have j0 : (0 ≤ (j : Int)) = True := eq_true (by omega); have HJL := Aside0.mk hj; have hji : ((j : Int) < ((H v).length : Int)) = True := eq_true (by omega); obtain ⟨y, hy⟩ : ∃ y : Int, wrap64 (rd X x + (-1)) = y := ⟨_, rfl⟩; have hyw : IntKind.i64.wrap (rd X x - 1) = y := (i64_w _).trans hy; rw [hy] at HX2; replace x0 := eq_true x0; replace x1n := eq_true x1n; clear x1 hj
                go_wp2
                have HS9 := St.setR HS 3 rfl x y
                go_roundg g1
                case measure => omega
                case rel =>
                  have hwi : wrap64 ((j : Int) + 1) = ((j + 1 : Nat) : Int) := by
                    have := HJL.out; have := HMX.out
                    unfold wrap64
                    omega
                  exact ⟨j + 1, X.set x.toNat y, by first | rfl | rw [hwi] | (simp; done), ⟨HJL.out⟩, ⟨by have := HJK.out; have := HJL.out; omega⟩, ⟨by rw [List.length_set]; exact HXL.out⟩, HX2, ⟨St.lift HS9⟩⟩
              · rw [if_neg x1] at hX; cases hX
            · rw [if_neg x0] at hX; cases hX
          · have hjb : decide ((j : Int) < ((H v).length : Int)) = false := decide_eq_false (by omega)
            have hjn : decide (j < (H v).length) = false := decide_eq_false hj; have hX := HX.out; rw [List.drop_eq_nil_of_le (by omega), impl_trail.inc] at hX; have hX := (Option.some.inj hX).symm
            subst hX
            clear hj; have HXG := Aside0.mk HXL.out; have HGS := HS; clear HXL HX HJ HJK; have hzm : wr.cell? ⟨gt, 2, none⟩ = some (.map (some gm)) := (blk_cell (St.getB HS 0 rfl ⟨0, rfl⟩) 2).trans rfl; have hlk2 := MapI.lookup (getH (W' := wr) HS 4 rfl ⟨0, rfl⟩).1 Try.underlying77 Try.underlying2 (Try.zeroValue78 wr) (wrap64 (-v)) HC4.out.2; obtain ⟨Aw, cw, eF2⟩ := Kd.R_slice ((getH (W' := wr) HS 4 rfl ⟨0, rfl⟩).2.1 (wrap64 (-v))); rw [eF2] at hlk2; have HEF2 := Aside0.mk eF2; clear eF2 HMX; have hrv := (getH (W' := wr) HS 4 rfl ⟨0, rfl⟩).2.1 (wrap64 (-v)); rw [HEF2.out] at hrv; have HMX := Aside0.mk (Kd.C_max (Kd.R_reads' hrv).2.2); clear hrv
            go_wp2
            go_loopg [80] (H (wrap64 (-v))).length (fun kq s_ wr => ∃ (j : Nat) (X : List Int), s_ = .int .i64 j ∧ Aside0 (j ≤ (H (wrap64 (-v))).length) ∧ Aside0 ((H (wrap64 (-v))).length - j ≤ kq) ∧ Aside0 (X.length = nb) ∧ Aside0 (impl_trail.inc (-1) X ((H (wrap64 (-v))).drop j) = some B1) ∧ Aside0 (St w0 wr (Ob.B gt (.cells #[.int .i64 sw, vc, .map (some gm), .slice Ag ng cg, .slice Ab nb cb, .slice (some ⟨gs, 0, none⟩) m2 cs, .slice (some ⟨gi, 0, none⟩) ni ci] 80 (0, 0)) :: Ob.R w0 (Kd.int .i64) 2 oki (.slice (some ⟨gi, 0, none⟩) ni ci) I2 :: Ob.R w0 (Kd.int .i64) 3 okb (.slice Ab nb cb) X :: Ob.R w0 (Kd.int .i64) 3 okg (.slice Ag ng cg) G1 :: ObH w0 gm n okm F okr H :: Ob.R w0 (Kd.int .i64) 2 oks (.slice (some ⟨gs, 0, none⟩) m2 cs) S2 :: rest)))
            case atStart => exact ⟨0, B, rfl, ⟨Nat.zero_le _⟩, ⟨by omega⟩, HEB, ⟨HB1.out⟩, ⟨St.lift HS⟩⟩
            case round =>
              obtain ⟨j, X, rfl, HJ, HJK, HXL, HX, HS⟩ := hrel
              by_cases hj : j < (H (wrap64 (-v))).length
              · have hjb : decide ((j : Int) < ((H (wrap64 (-v))).length : Int)) = true := decide_eq_true (by omega)
                have hjn : decide (j < (H (wrap64 (-v))).length) = true := decide_eq_true hj
                cases gk with
                | zero => have := HJK.out; omega
                | succ g1 =>
                have hX := HX.out; rw [List.drop_eq_getElem_cons hj, impl_trail.inc] at hX
                have hrd : (H (wrap64 (-v)))[j] = rd (H (wrap64 (-v))) (j : Int) := by
                  unfold rd
                  rw [List.getD_eq_getElem?_getD, Int.toNat_natCast, List.getElem?_eq_getElem hj]
                  rfl
                rw [hrd] at hX; obtain ⟨x, hx⟩ : ∃ x, rd (H (wrap64 (-v))) (j : Int) = x := ⟨_, rfl⟩; rw [hx] at hX; have hrow := (getH (W' := wr) HS 4 rfl ⟨0, rfl⟩).2.1 (wrap64 (-v)); rw [HEF2.out] at hrow; obtain ⟨adr, eA, hcx⟩ := Kd.at_int (Kd.R_reads' hrow).2.2 (j : Int) (by omega) (by omega); rw [hx, Int.toNat_natCast] at hcx
                subst eA
                by_cases x0 : 0 ≤ x
                · rw [if_pos x0] at hX
                  by_cases x1 : x < (X.length : Int)
                  · rw [if_pos x1] at hX
                    have HX2 := Aside0.mk hX
                    have x1n : x < (nb : Int) := by rw [← HXL.out]; exact x1
                    obtain ⟨gx, cr, er, _, _, _, _⟩ := Kd.R_form (St.getR (W' := wr) HS 2 rfl ⟨0, rfl⟩) (by omega)
                    have eX : Ab = some ⟨gx, 0, none⟩ := by injection er
                    subst eX
                    clear er hX hrow hx hrd; obtain ⟨hc1, hf1⟩ := Kd.R_celln 0 (St.getR (W' := wr) HS 2 rfl ⟨0, rfl⟩) x x0 x1n; replace hc1 : wr.cell? ⟨gx, x.toNat, none⟩ = some (.int .i64 (rd X x)) := hc1; have hz : wr.cell? ⟨gt, 4, none⟩ = some (.slice (some ⟨gx, 0, none⟩) nb cb) := (blk_cell (St.getB HS 0 rfl ⟨0, rfl⟩) 4).trans rfl; have x0b : decide (0 ≤ x) = true := decide_eq_true x0; have x1b : decide (x < (nb : Int)) = true := decide_eq_true x1n; have j0 : (0 ≤ (j : Int)) = True := eq_true (by omega); have HJL := Aside0.mk hj; have hji : ((j : Int) < ((H (wrap64 (-v))).length : Int)) = True := eq_true (by omega); obtain ⟨y, hy⟩ : ∃ y : Int, wrap64 (rd X x + (-1)) = y := ⟨_, rfl⟩; have hyw : IntKind.i64.wrap (rd X x - 1) = y := (i64_w _).trans hy; rw [hy] at HX2; replace x0 := eq_true x0; replace x1n := eq_true x1n; clear x1 hj
                    go_wp2
                    have HS9 := St.setR HS 2 rfl x y
                    go_roundg g1
                    case measure => omega
                    case rel =>
                      have hwi : wrap64 ((j : Int) + 1) = ((j + 1 : Nat) : Int) := by
                        have := HJL.out; have := HMX.out
                        unfold wrap64
                        omega
                      exact ⟨j + 1, X.set x.toNat y, by first | rfl | rw [hwi] | (simp; done), ⟨HJL.out⟩, ⟨by have := HJK.out; have := HJL.out; omega⟩, ⟨by rw [List.length_set]; exact HXL.out⟩, HX2, ⟨St.lift HS9⟩⟩
                  · rw [if_neg x1] at hX; cases hX
                · rw [if_neg x0] at hX; cases hX
              · have hjb : decide ((j : Int) < ((H (wrap64 (-v))).length : Int)) = false := decide_eq_false (by omega)
                have hjn : decide (j < (H (wrap64 (-v))).length) = false := decide_eq_false hj; have hX := HX.out; rw [List.drop_eq_nil_of_le (by omega), impl_trail.inc] at hX; have hX := (Option.some.inj hX).symm
                subst hX
                clear hj
                go_wp2
                go_roundg k1
                case measure => omega
                case rel => exact ⟨G1, B1, S2, I2, oks, some ⟨gs, 0, none⟩, HXG, HXL, HI2L, HX2, ⟨by rw [HS2L.out]; exact St.lift HS⟩⟩
      · rw [if_neg c4] at hx; cases hx
    · rw [if_neg c0] at hx
      obtain ⟨e1_, e2_⟩ := Prod.mk.inj (Option.some.inj hx); obtain ⟨e2_, e3_⟩ := Prod.mk.inj e2_; obtain ⟨e3_, e4_⟩ := Prod.mk.inj e3_
      subst e1_ e2_ e3_ e4_
      have c0b : decide ((count : Int) < (S.length : Int)) = false := decide_eq_false (by omega); have c0c : decide (count < S.length) = false := decide_eq_false c0; clear hx HX c0
      go_wp2
      go_end0
      first | exact ⟨rfl, oks, As, ⟨St.lift HS⟩⟩ | exact ⟨rfl, HEG, HEB, HEI, oks, As, ⟨St.lift HS⟩⟩
theorem impl_visit.cut1 (W : World) (g n c : Nat) (hi : 1 ≤ n) (hn : n ≤ c) : (Instr.slice 33 (.slice (some ⟨g, 0, none⟩) n c) (some (.int .i64 1)) none none).run Try.prog W = .ok (.slice (if c = 1 then some ⟨g, 0, none⟩ else some ⟨g, 1, none⟩) (n - 1) (c - 1)) W := by
  obtain ⟨i0, hi0, hz⟩ := Option.map_eq_some_iff.1 impl_back.inf2_
  have hel : Try.prog.elem 33 = 2 := by simp [Program.elem, Try.underlying33]
  have hu : Try.prog.underlying 33 = some (.slice (Try.prog.elem 33)) := by rw [hel]; exact Try.underlying33
  have hs : i0.size = 1 := by simp only [Prod.mk.injEq] at hz; exact hz.2.1
  rw [run_slice_l W 33 _ n c hu .i64 1 (by decide) (by omega), hel]
  by_cases e : c = 1
  · subst e
    simp [sizeOf, typeInfo, hi0, hs, sliced, Result.andThen, Addr.add]
  · have e2 : ¬ 1 = c := fun h => e h.symm
    simp [sizeOf, typeInfo, hi0, hs, sliced, Result.andThen, Addr.add, e, e2]
/-- The numbers are tried, one behind the other. -/
def impl_visit.try (H : Int → List Int) (self : Int → List Int → List Int → List Int → List Int → Option (Int × Int × List Int × List Int × List Int × List Int)) (kb count : Nat) : List Int → Int → List Int → List Int → List Int → List Int → Option (Int × Int × List Int × List Int × List Int × List Int)
  | [], v, G, B, S, I => some (2, v, G, B, S, I)
  | x :: xs, v, G, B, S, I => (impl_trail_stand.f H G B S I x).bind fun T => (self v T.1 T.2.1 T.2.2.1 T.2.2.2).bind fun r => if r.1 = 2 then ((impl_trail_back.f H count kb r.2.2.1 r.2.2.2.1 r.2.2.2.2.1 r.2.2.2.2.2).bind fun T => impl_visit.try H self kb count xs r.2.1 T.1 T.2.1 T.2.2.1 T.2.2.2) else some r
def impl_visit.f (H : Int → List Int) (cl : List (List Int)) (most : Int) : Nat → Int → List Int → List Int → List Int → List Int → Option (Int × Int × List Int × List Int × List Int × List Int)
  | 0, _, _, _, _, _ => none
  | k + 1, v, G, B, S, I => if v = most then some (3, v, G, B, S, I) else (impl_trail_unit.f H cl k G B S I).bind fun u => if u.1 = true then (if 0 < I.length then (slices_Index_int64_int64.f k (u.2.2.2.2.drop 1) 0).bind fun r => if wrap64 (r + 1) = 0 then some (1, wrap64 (v + 1), u.2) else impl_visit.try H (impl_visit.f H cl most k) k u.2.2.2.1.length [wrap64 (-(wrap64 (r + 1))), wrap64 (r + 1)] (wrap64 (v + 1)) u.2.1 u.2.2.1 u.2.2.2.1 u.2.2.2.2 else none) else some (2, wrap64 (v + 1), u.2)
set_option maxHeartbeats 8000000 in
set_option maxRecDepth 100000 in
theorem impl_visit.calls (sw most : Int) (gm n : Nat) (okm okg okb oki : Nat → Prop) (F : Int → Value) (okr : Int → Nat → Prop) (H : Int → List Int) (A0 Ag Ab Ai : Option Addr) (c0 ng nb ni cg cb ci gs gt : Nat) (cl : List (List Int)) (w0 : World) (hcl : Aside0 (Kd.C (Kd.slice 2 (Kd.int .i64)) w0 A0 cl.length cl)) :
    ∀ (k : Nat) (v : Int) (G B S I : List Int) (As : Option Addr) (cs : Nat) (oks : Nat → Prop) (rest : List Ob) (W : World) (code v' : Int) (G' B' S' I' : List Int),
      Aside0 (G.length = ng) → Aside0 (B.length = nb) → Aside0 (I.length = ni) → Aside0 (St w0 W (Ob.B gt (.cells #[.int .i64 sw, .slice A0 cl.length c0, .map (some gm), .slice Ag ng cg, .slice Ab nb cb, .slice As S.length cs, .slice Ai ni ci] 80 (0, 0)) :: Ob.R w0 (Kd.int .i64) 2 oki (.slice Ai ni ci) I :: Ob.R w0 (Kd.int .i64) 3 okb (.slice Ab nb cb) B :: Ob.R w0 (Kd.int .i64) 3 okg (.slice Ag ng cg) G :: ObH w0 gm n okm F okr H :: Ob.R w0 (Kd.int .i64) 2 oks (.slice As S.length cs) S :: Ob.B gs (.cells #[.pointer (some ⟨gt, 0, none⟩), .int .i64 v, .int .i64 most] 108 (0, 0)) :: rest)) → Aside0 (impl_visit.f H cl most k v G B S I = some (code, v', G', B', S', I')) →
      Calls Try.prog 81 #[.pointer (some ⟨gs, 0, none⟩)] W fun e w' => e = .returned (.int .i64 code) ∧ Aside0 (G'.length = ng) ∧ Aside0 (B'.length = nb) ∧ Aside0 (I'.length = ni) ∧ ∃ (oks' : Nat → Prop) (As' : Option Addr) (cs' : Nat), Aside0 (St w0 w' (Ob.B gt (.cells #[.int .i64 sw, .slice A0 cl.length c0, .map (some gm), .slice Ag ng cg, .slice Ab nb cb, .slice As' S'.length cs', .slice Ai ni ci] 80 (0, 0)) :: Ob.R w0 (Kd.int .i64) 2 oki (.slice Ai ni ci) I' :: Ob.R w0 (Kd.int .i64) 3 okb (.slice Ab nb cb) B' :: Ob.R w0 (Kd.int .i64) 3 okg (.slice Ag ng cg) G' :: ObH w0 gm n okm F okr H :: Ob.R w0 (Kd.int .i64) 2 oks' (.slice As' S'.length cs') S' :: Ob.B gs (.cells #[.pointer (some ⟨gt, 0, none⟩), .int .i64 v', .int .i64 most] 108 (0, 0)) :: rest)) := by
  intro k
  induction k with
  | zero => intro v G B S I As cs oks rest W code v' G' B' S' I' HEG HEB HEI HS HF; exact absurd HF.out (by simp [impl_visit.f])
  | succ k ih =>
    intro v G B S I As cs oks rest W code v' G' B' S' I' HEG HEB HEI HS HF
    have hf := HF.out; rw [impl_visit.f] at hf; have hz1 : W.cell? ⟨gs, 1, none⟩ = some (.int .i64 v) := (blk_cell (St.getB HS 6 rfl ⟨0, rfl⟩) 1).trans rfl; have hz2 : W.cell? ⟨gs, 2, none⟩ = some (.int .i64 most) := (blk_cell (St.getB HS 6 rfl ⟨0, rfl⟩) 2).trans rfl
    by_cases c1 : v = most
    · rw [if_pos c1] at hf
      obtain ⟨e1_, e2_⟩ := Prod.mk.inj (Option.some.inj hf); obtain ⟨e2_, e3_⟩ := Prod.mk.inj e2_; obtain ⟨e3_, e4_⟩ := Prod.mk.inj e3_; obtain ⟨e4_, e5_⟩ := Prod.mk.inj e4_; obtain ⟨e5_, e6_⟩ := Prod.mk.inj e5_
      subst e1_ e2_ e3_ e4_ e5_ e6_
      have c1b : (v == most) = true := beq_iff_eq.2 c1; clear hf HF ih c1
      go_enter Try.func81, Try.ntmps81
      go_wp2
      repeat (go_quiet (fail); try go_wp2)
      go_ret
      exact ⟨rfl, HEG, HEB, HEI, oks, As, cs, ⟨St.lift HS⟩⟩
    · rw [if_neg c1] at hf
      obtain ⟨u, hu, hf⟩ := Option.bind_eq_some_iff.mp hf; obtain ⟨b, G1, B1, S1, I1⟩ := u; have HU := Aside0.mk hu
      dsimp only at hf
      have c1b : (v == most) = false := beq_eq_false_iff_ne.2 c1; have hzf1 : W.frozen? ⟨gs, 1, none⟩ = false := blk_frozen (St.getB HS 6 rfl ⟨0, rfl⟩) 1; obtain ⟨v2, hv2⟩ : ∃ v2, wrap64 (v + 1) = v2 := ⟨_, rfl⟩; have hv2i : IntKind.i64.wrap (v + 1) = v2 := (i64_w _).trans hv2; rw [hv2] at hf; have HF2 := Aside0.mk hf; clear c1 hu hf HF
      go_enter Try.func81, Try.ntmps81
      go_wp2
      go_quiet (fail)
      have HS1 : Aside0 (St w0 (W.drewN nq) _) := ⟨St.lift HS⟩; replace hz1 : (W.drewN nq).cell? ⟨gs, 1, none⟩ = some (.int .i64 v) := hz1; replace hzf1 : (W.drewN nq).frozen? ⟨gs, 1, none⟩ = false := hzf1; clear hz2 HS; generalize W.drewN nq = W1 at HS1 hz1 hzf1 ⊢
      go_upto_region 4 with (fail)
      have HS2 : Aside0 (St w0 (W1.setCell ⟨gs, 1, none⟩ (.int .i64 v2)) (Ob.B gt (.cells #[.int .i64 sw, .slice A0 cl.length c0, .map (some gm), .slice Ag ng cg, .slice Ab nb cb, .slice As S.length cs, .slice Ai ni ci] 80 (0, 0)) :: Ob.R w0 (Kd.int .i64) 2 oki (.slice Ai ni ci) I :: Ob.R w0 (Kd.int .i64) 3 okb (.slice Ab nb cb) B :: Ob.R w0 (Kd.int .i64) 3 okg (.slice Ag ng cg) G :: ObH w0 gm n okm F okr H :: Ob.R w0 (Kd.int .i64) 2 oks (.slice As S.length cs) S :: Ob.B gs (.cells #[.pointer (some ⟨gt, 0, none⟩), .int .i64 v2, .int .i64 most] 108 (0, 0)) :: rest)) := St.store HS1 6 rfl (by repeat (first | exact KeepBut.refl _ _ _ | apply KeepBut.set_)) (o' := .cells #[.pointer (some ⟨gt, 0, none⟩), .int .i64 v2, .int .i64 most] 108 (0, 0)) (blk_put (St.getB HS1 6 rfl ⟨0, rfl⟩) 1 (.int .i64 v2) rfl) (below_set HS1.out.below (St.lowB HS1 6 rfl)); clear hz1 hzf1 HS1; generalize W1.setCell ⟨gs, 1, none⟩ (.int .i64 v2) = W2 at HS2 ⊢; have hz0 : W2.cell? ⟨gs, 0, none⟩ = some (.pointer (some ⟨gt, 0, none⟩)) := (blk_cell (St.getB HS2 6 rfl ⟨0, rfl⟩) 0).trans rfl
      cases b with
      | false =>
        have hf := HF2.out; rw [if_neg (by decide)] at hf; obtain ⟨e1_, e2_⟩ := Prod.mk.inj (Option.some.inj hf); obtain ⟨e2_, e3_⟩ := Prod.mk.inj e2_; obtain ⟨e3_, e4_⟩ := Prod.mk.inj e3_; obtain ⟨e4_, e5_⟩ := Prod.mk.inj e4_; obtain ⟨e5_, e6_⟩ := Prod.mk.inj e5_
        subst e1_ e2_ e3_ e4_ e5_ e6_
        go_wp2_with (first | (go_at_call 52; refine (impl_trail_unit.calls k gt sw gm n okm okg okb oks oki F okr H A0 Ag Ab As Ai c0 ng nb ni cg cb cs ci cl G B S I _ G1 B1 S1 I1 (Ob.B gs (.cells #[.pointer (some ⟨gt, 0, none⟩), .int .i64 v2, .int .i64 most] 108 (0, 0)) :: rest) w0 _ hcl.out HEG.out HEB.out HEI.out ⟨St.lift HS2⟩ HU.out).mono ?_; rintro e w3 ⟨rfl, l1_, l2_, l3_, oks', As', cs', HS3⟩))
        go_ret
        exact ⟨rfl, l1_, l2_, l3_, oks', As', cs', ⟨St.lift HS3⟩⟩
      | true =>
        have hf := HF2.out; rw [if_pos rfl] at hf
        by_cases c2 : 0 < I.length
        · rw [if_pos c2] at hf
          obtain ⟨r, hr, hf⟩ := Option.bind_eq_some_iff.mp hf; have HR := Aside0.mk hr; have HF3 := Aside0.mk hf; have HNI : Aside0 (0 < ni) := ⟨by have := HEI.out; omega⟩
          clear hr hf HF2 c2
          go_upto_region 6 with (first | (go_at_call 52; refine (impl_trail_unit.calls k gt sw gm n okm okg okb oks oki F okr H A0 Ag Ab As Ai c0 ng nb ni cg cb cs ci cl G B S I _ G1 B1 S1 I1 (Ob.B gs (.cells #[.pointer (some ⟨gt, 0, none⟩), .int .i64 v2, .int .i64 most] 108 (0, 0)) :: rest) w0 _ hcl.out HEG.out HEB.out HEI.out ⟨St.lift HS2⟩ HU.out).mono ?_; rintro e w3 ⟨rfl, l1_, l2_, l3_, oks', As', cs', HS3⟩))
          clear hz0 HS2 HU; obtain ⟨gi, cr, er, _, _, _, _⟩ := Kd.R_form (St.getR (W' := w3) HS3 1 rfl ⟨0, rfl⟩) (by have := HNI.out; have := l3_.out; omega)
          have eI : Ai = some ⟨gi, 0, none⟩ := by injection er
          subst eI
          clear er; have hci := (Kd.R_reads' (St.getR (W' := w3) HS3 1 rfl ⟨0, rfl⟩)).2.1; have hcC := Kd.C_drop (m := 1) (c := ci) (Kd.R_reads' (St.getR (W' := w3) HS3 1 rfl ⟨0, rfl⟩)).2.2 (by have := HNI.out; have := l3_.out; omega) (by have := l3_.out; omega)
          have hcut := fun W_ : World => impl_visit.cut1 W_ gi ni ci (by have := HNI.out; omega) (by have := l3_.out; omega)
          have hA1e : (if ci = 1 then some (⟨gi, 0, none⟩ : Addr) else (some (⟨gi, 0, none⟩ : Addr)).map (·.add (1 * (Kd.int .i64).sz))) = (if ci = 1 then some ⟨gi, 0, none⟩ else some ⟨gi, 1, none⟩) := by split <;> rfl
          rw [hA1e] at hcC; obtain ⟨A1, hA1⟩ : ∃ A1 : Option Addr, (if ci = 1 then some (⟨gi, 0, none⟩ : Addr) else some ⟨gi, 1, none⟩) = A1 := ⟨_, rfl⟩; rw [hA1] at hcC
          simp only [hA1] at hcut
          have HCC := Aside0.mk hcC
          have hdl : (I1.drop 1).length = ni - 1 := by rw [List.length_drop, l3_.out]
          have HDL := Aside0.mk hdl; have HCI : Aside0 (ni ≤ ci) := ⟨by have := l3_.out; omega⟩
          obtain ⟨nn, hnn⟩ : ∃ nn, wrap64 (r + 1) = nn := ⟨_, rfl⟩; have hnni : IntKind.i64.wrap (r + 1) = nn := (i64_w _).trans hnn; have hf := HF3.out
          (try dsimp only at hf)
          rw [hnn] at hf; clear hcC hdl hA1 hA1e hci HF3 hnn; have hz0 : w3.cell? ⟨gs, 0, none⟩ = some (.pointer (some ⟨gt, 0, none⟩)) := (blk_cell (St.getB HS3 6 rfl ⟨0, rfl⟩) 0).trans rfl; have hz6 : w3.cell? ⟨gt, 6, none⟩ = some (.slice (some ⟨gi, 0, none⟩) ni ci) := (blk_cell (St.getB HS3 0 rfl ⟨0, rfl⟩) 6).trans rfl
          by_cases c3 : nn = 0
          · rw [if_pos c3] at hf
            obtain ⟨e1_, e2_⟩ := Prod.mk.inj (Option.some.inj hf); obtain ⟨e2_, e3_⟩ := Prod.mk.inj e2_; obtain ⟨e3_, e4_⟩ := Prod.mk.inj e3_; obtain ⟨e4_, e5_⟩ := Prod.mk.inj e4_; obtain ⟨e5_, e6_⟩ := Prod.mk.inj e5_
            subst e1_ e2_ e3_ e4_ e5_ e6_
            have c3b : (nn == 0) = true := beq_iff_eq.2 c3; clear hf c3
            go_wp2_with (first | (go_at_call 85; rw [← HDL.out]; refine (slices_Index_int64_int64.calls k A1 (ci - 1) (I1.drop 1) 0 r _ ?s1 ?s2 HR.out).mono ?_; (case s1 => first | exact HCC.out | exact Kd.C_drewN HCC.out _); (case s2 => (have := HDL.out; have := HCI.out; omega)); rintro e w4 ⟨rfl, ⟨n4, rfl⟩⟩))
            go_ret
            exact ⟨rfl, l1_, l2_, l3_, oks', As', cs', ⟨St.lift HS3⟩⟩
          · rw [if_neg c3] at hf
            have c3b : (nn == 0) = false := beq_eq_false_iff_ne.2 c3; have HF4 := Aside0.mk hf; have hz5 : w3.cell? ⟨gt, 5, none⟩ = some (.slice As' S1.length cs') := (blk_cell (St.getB HS3 0 rfl ⟨0, rfl⟩) 5).trans rfl; obtain ⟨n2, hn2⟩ : ∃ n2, wrap64 (-nn) = n2 := ⟨_, rfl⟩; have hn2i : IntKind.i64.wrap (-nn) = n2 := (i64_w _).trans hn2; rw [hn2] at HF4; clear hf c3
            go_wp2_with (first | (go_at_call 85; rw [← HDL.out]; refine (slices_Index_int64_int64.calls k A1 (ci - 1) (I1.drop 1) 0 r _ ?s1 ?s2 HR.out).mono ?_; (case s1 => first | exact HCC.out | exact Kd.C_drewN HCC.out _); (case s2 => (have := HDL.out; have := HCI.out; omega)); rintro e w4 ⟨rfl, ⟨n4, rfl⟩⟩) | ((with_reducible refine gate_dst (N := 53) rfl ?_); refine Kd.R_lit (Kd.int .i64) _ 2 ?hg (N := 53) ?hd (xs := ([n2, nn] : List Int)) (inner := [.int .i64 n2, .int .i64 nn]) (ok := fun _ => True) (okp := fun _ => True) ?hr ?hp (fun _ hk => hk) trivial (Below.refl _ _) (Nat.le_refl _) (by simp) ?_; (case hd => rfl); (case hg => rfl); (case hr => first | (go_simp; done) | (go_simp; rfl)); (case hp => exact (Reps.one (show Kd.M (Kd.int .i64) _ _ _ n2 [.int .i64 n2] from rfl) (Reps.one (show Kd.M (Kd.int .i64) _ _ _ nn [.int .i64 nn] from rfl) (Reps.none _ _)))); intro va wa hra hba hga hna; clear hga hna; obtain ⟨okl, Al, cL, rfl, hcl_, HSl⟩ := St.callR HS3 hba hra; clear hra hba))
            (try simp only [Act.put, List.setIfInBounds_toArray, List.set_cons_zero, List.set_cons_succ])
            have HSm : Aside0 (St w0 wa (Ob.B gt (.cells #[.int .i64 sw, .slice A0 cl.length c0, .map (some gm), .slice Ag ng cg, .slice Ab nb cb, .slice As' S1.length cs', .slice (some ⟨gi, 0, none⟩) ni ci] 80 (0, 0)) :: Ob.R w0 (Kd.int .i64) 2 oki (.slice (some ⟨gi, 0, none⟩) ni ci) I1 :: Ob.R w0 (Kd.int .i64) 3 okb (.slice Ab nb cb) B1 :: Ob.R w0 (Kd.int .i64) 3 okg (.slice Ag ng cg) G1 :: ObH w0 gm n okm F okr H :: Ob.R w0 (Kd.int .i64) 2 oks' (.slice As' S1.length cs') S1 :: Ob.B gs (.cells #[.pointer (some ⟨gt, 0, none⟩), .int .i64 v2, .int .i64 most] 108 (0, 0)) :: Ob.R w0 (Kd.int .i64) 2 okl (.slice Al 2 cL) [n2, nn] :: rest)) := St.perm ⟨St.lift HSl⟩ ((List.perm_append_comm (l₁ := [_]) (l₂ := [_, _, _, _, _, _, _])).append_right _); clear HSl HS3 hz0 hz5 hz6 HCC HDL HCI hcut HR
            (try simp only [List.length_cons, List.length_nil] at *)
            go_loopg [55] 3 (fun kq s55 wr => ∃ (j : Nat) (v3 : Int) (G B S I : List Int) (oks : Nat → Prop) (As : Option Addr) (cs : Nat), s55 = .int .i64 j ∧ Aside0 (j ≤ 2) ∧ Aside0 (2 - j < kq) ∧ Aside0 (G.length = ng) ∧ Aside0 (B.length = nb) ∧ Aside0 (I.length = ni) ∧ Aside0 (impl_visit.try H (impl_visit.f H cl most k) k S1.length (([n2, nn] : List Int).drop j) v3 G B S I = some (code, v', G', B', S', I')) ∧ Aside0 (St w0 wr (Ob.B gt (.cells #[.int .i64 sw, .slice A0 cl.length c0, .map (some gm), .slice Ag ng cg, .slice Ab nb cb, .slice As S.length cs, .slice (some ⟨gi, 0, none⟩) ni ci] 80 (0, 0)) :: Ob.R w0 (Kd.int .i64) 2 oki (.slice (some ⟨gi, 0, none⟩) ni ci) I :: Ob.R w0 (Kd.int .i64) 3 okb (.slice Ab nb cb) B :: Ob.R w0 (Kd.int .i64) 3 okg (.slice Ag ng cg) G :: ObH w0 gm n okm F okr H :: Ob.R w0 (Kd.int .i64) 2 oks (.slice As S.length cs) S :: Ob.B gs (.cells #[.pointer (some ⟨gt, 0, none⟩), .int .i64 v3, .int .i64 most] 108 (0, 0)) :: Ob.R w0 (Kd.int .i64) 2 okl (.slice Al 2 cL) [n2, nn] :: rest)))
            case atStart => exact ⟨0, v2, G1, B1, S1, I1, oks', As', cs', rfl, ⟨by omega⟩, ⟨by omega⟩, l1_, l2_, l3_, HF4, ⟨St.lift HSm⟩⟩
            case round =>
              clear HF4 HSm l1_ l2_ l3_ HEG HEB HEI HNI; obtain ⟨j, v3, G, B, S, I, oks, As, cs, rfl, HJ, HJK, HEG, HEB, HEI, HX, HS⟩ := hrel; have hx := HX.out
              by_cases hj : j < 2
              · cases gk with
                | zero => have := HJK.out; omega
                | succ g1 =>
                have hdrop : ([n2, nn] : List Int).drop j = rd [n2, nn] (j : Int) :: ([n2, nn] : List Int).drop (j + 1) := by
                  rcases (show j = 0 ∨ j = 1 by omega) with rfl | rfl <;> rfl
                rw [hdrop, impl_visit.try] at hx; obtain ⟨ad, eA, hxc⟩ := Kd.at_int (Kd.R_reads' (St.getR (W' := wr) HS 7 rfl ⟨0, rfl⟩)).2.2 (j : Int) (by omega) (by show (j : Int) < ((2 : Nat) : Int); omega)
                rw [Int.toNat_natCast] at hxc
                subst eA
                obtain ⟨x, hxe⟩ : ∃ x, rd [n2, nn] (j : Int) = x := ⟨_, rfl⟩; rw [hxe] at hx hxc; obtain ⟨T, hT, hx⟩ := Option.bind_eq_some_iff.mp hx; obtain ⟨G2, B2, S2, I2⟩ := T; obtain ⟨R, hR, hx⟩ := Option.bind_eq_some_iff.mp hx; obtain ⟨code1, v4, G3, B3, S3, I3⟩ := R
                dsimp only at hR hx
                have HT := Aside0.mk hT; have HR1 := Aside0.mk hR; have HX2 := Aside0.mk hx; have hjb : decide ((j : Int) < 2) = true := decide_eq_true (by omega); have hjc : decide (j < 2) = true := decide_eq_true hj; have hji : ((j : Int) < 2) = True := eq_true (by omega); have j0 : (0 ≤ (j : Int)) = True := eq_true (by omega)
                have hjw : wrap64 ((j : Int) + 1) = ((j + 1 : Nat) : Int) := by unfold wrap64; omega
                have HJ2 := Aside0.mk hj; have hz0 : wr.cell? ⟨gs, 0, none⟩ = some (.pointer (some ⟨gt, 0, none⟩)) := (blk_cell (St.getB HS 6 rfl ⟨0, rfl⟩) 0).trans rfl; clear hxe hdrop hT hR hx HX hj
                go_upto_region 14 with (first | (go_at_call 51; refine (impl_trail_stand.calls gt sw (.slice A0 cl.length c0) gm n okm okg okb oks oki F okr H Ag Ab As (some ⟨gi, 0, none⟩) ng nb S.length ni cg cb cs ci G B S I G2 B2 S2 I2 (Ob.B gs (.cells #[.pointer (some ⟨gt, 0, none⟩), .int .i64 v3, .int .i64 most] 108 (0, 0)) :: Ob.R w0 (Kd.int .i64) 2 okl (.slice (some ad) 2 cL) [n2, nn] :: rest) x w0 _ HEG.out HEB.out rfl HEI.out ⟨St.lift HS⟩ HT.out).mono ?_; rintro e w4 ⟨rfl, l1_, l2_, l3_, l4_, oks2, As2, cs2, HS4⟩))
                clear hz0 hxc HS HT; rw [← l4_] at HS4
                by_cases c5 : code1 = 2
                · have hx2 := HX2.out
                  rw [if_pos c5] at hx2; obtain ⟨T4, hT4, hx2⟩ := Option.bind_eq_some_iff.mp hx2; obtain ⟨G4, B4, S4, I4⟩ := T4
                  dsimp only at hT4 hx2
                  have HB4 := Aside0.mk hT4; have HX3 := Aside0.mk hx2; have c5b : (code1 != 2) = false := bne_eq_false_iff_eq.2 c5; clear hT4 hx2 HX2 c5
                  go_wp2_with (first | (go_at_call 81; refine (ih v3 G2 B2 S2 I2 As2 cs2 oks2 (Ob.R w0 (Kd.int .i64) 2 okl (.slice (some ad) 2 cL) [n2, nn] :: rest) _ code1 v4 G3 B3 S3 I3 ⟨l1_⟩ ⟨l2_⟩ ⟨l3_⟩ ⟨St.lift HS4⟩ HR1).mono ?_; rintro e w5 ⟨rfl, m1_, m2_, m3_, oks3, As3, cs3, HS5⟩; have hz0 : w5.cell? ⟨gs, 0, none⟩ = some (.pointer (some ⟨gt, 0, none⟩)) := (blk_cell (St.getB HS5 6 rfl ⟨0, rfl⟩) 0).trans rfl) | (go_at_call 86; refine (impl_trail_back.calls k gt sw (.slice A0 cl.length c0) gm n okm okg okb oks3 oki F okr H Ag Ab As3 (some ⟨gi, 0, none⟩) ng nb ni cg cb cs3 ci G3 B3 S3 I3 G4 B4 S4 I4 (Ob.B gs (.cells #[.pointer (some ⟨gt, 0, none⟩), .int .i64 v4, .int .i64 most] 108 (0, 0)) :: Ob.R w0 (Kd.int .i64) 2 okl (.slice (some ad) 2 cL) [n2, nn] :: rest) S1.length w0 _ m1_ m2_ m3_ ⟨St.lift HS5⟩ HB4).mono ?_; rintro e w6 ⟨rfl, n1_, n2_, n3_, oks4, As4, HS6⟩))
                  go_roundg g1
                  case measure => have := HJK.out; have := HJ2.out; omega
                  case rel => exact ⟨j + 1, v4, G4, B4, S4, I4, oks4, As4, cs3, by rw [hjw], ⟨HJ2.out⟩, ⟨by have := HJK.out; have := HJ2.out; omega⟩, n1_, n2_, n3_, HX3, ⟨St.lift HS6⟩⟩
                · have hf := HX2.out
                  rw [if_neg c5] at hf; have c5b : (code1 != 2) = true := bne_iff_ne.2 c5; clear c5; obtain ⟨e1_, e2_⟩ := Prod.mk.inj (Option.some.inj hf); obtain ⟨e2_, e3_⟩ := Prod.mk.inj e2_; obtain ⟨e3_, e4_⟩ := Prod.mk.inj e3_; obtain ⟨e4_, e5_⟩ := Prod.mk.inj e4_; obtain ⟨e5_, e6_⟩ := Prod.mk.inj e5_
                  subst e1_ e2_ e3_ e4_ e5_ e6_
                  clear hf HX2
                  go_wp2_with (first | (go_at_call 81; refine (ih v3 G2 B2 S2 I2 As2 cs2 oks2 (Ob.R w0 (Kd.int .i64) 2 okl (.slice (some ad) 2 cL) [n2, nn] :: rest) _ code1 v4 G3 B3 S3 I3 ⟨l1_⟩ ⟨l2_⟩ ⟨l3_⟩ ⟨St.lift HS4⟩ HR1).mono ?_; rintro e w5 ⟨rfl, m1_, m2_, m3_, oks3, As3, cs3, HS5⟩; have hz0 : w5.cell? ⟨gs, 0, none⟩ = some (.pointer (some ⟨gt, 0, none⟩)) := (blk_cell (St.getB HS5 6 rfl ⟨0, rfl⟩) 0).trans rfl))
                  go_ret
                  first | exact ⟨rfl, oks3, As3, cs3, St.drop ⟨St.lift HS5⟩ 7⟩ | exact ⟨rfl, m1_, m2_, m3_, oks3, As3, cs3, St.drop ⟨St.lift HS5⟩ 7⟩
              · have hjb : decide ((j : Int) < 2) = false := decide_eq_false (by omega)
                have hjc : decide (j < 2) = false := decide_eq_false hj; rw [show ([n2, nn] : List Int).drop j = [] from List.drop_eq_nil_of_le (by simp; omega), impl_visit.try] at hx
                have hf := hx; obtain ⟨e1_, e2_⟩ := Prod.mk.inj (Option.some.inj hf); obtain ⟨e2_, e3_⟩ := Prod.mk.inj e2_; obtain ⟨e3_, e4_⟩ := Prod.mk.inj e3_; obtain ⟨e4_, e5_⟩ := Prod.mk.inj e4_; obtain ⟨e5_, e6_⟩ := Prod.mk.inj e5_
                subst e1_ e2_ e3_ e4_ e5_ e6_
                clear hf hx HX hj
                go_wp2
                go_ret
                first | exact ⟨rfl, oks, As, cs, St.drop ⟨St.lift HS⟩ 7⟩ | exact ⟨rfl, HEG, HEB, HEI, oks, As, cs, St.drop ⟨St.lift HS⟩ 7⟩
        · rw [if_neg c2] at hf; cases hf
theorem impl_settle.inf4_ : (Try.prog.info? 4).map (fun i => (i.zero, i.size, i.bytes)) = some (some (.bool false), 1, 1) := by kernel_rfl
theorem St.setRb {e : Nat} {ok : Nat → Prop} {g n c : Nat} {xs : List Bool} {w0 W : World} {l : List Ob} (h : Aside0 (St w0 W l)) (i : Nat) (hi : nth l i = some (Ob.R w0 Kd.bool e ok (.slice (some ⟨g, 0, none⟩) n c) xs)) (j : Int) (x : Bool) :
    Aside0 (St w0 (W.setCell ⟨g, j.toNat, none⟩ (.bool x)) (put l i (Ob.R w0 Kd.bool e ok (.slice (some ⟨g, 0, none⟩) n c) (xs.set j.toNat x)))) := by
  have hr := St.getR (W' := W) h i hi ⟨0, rfl⟩; have hgo := (h.out.each _ (nth_mem hi)).1 g (hr.1 g rfl)
  exact ⟨St.turn h.out i hi (below_set h.out.below hgo.1) (by rw [World.size_setCell]; exact Nat.le_refl _) (fun q _ hn => Below.heap_setCell W ⟨g, j.toNat, none⟩ _ q (fun e_ => hn (by rw [e_]; exact hr.1 g rfl))) (fun q hq => .inl hq) (Ob.R_foot _ _ _ _ _ _) (Kd.R_putn hr j x)⟩
/-- The flags that stand. -/
def impl_settle.l0 : Nat → List Int → List Bool → Nat → Option (List Bool)
  | 0, _, _, _ => none
  | k + 1, I, on, i => if i < on.length then (if i + 1 < I.length then impl_settle.l0 k I (on.set i (decide (rd I ((i + 1 : Nat) : Int) > 0))) (i + 1) else none) else some on
def impl_settle.f (k : Nat) (a0_0 : Int) (l0_1 : List (List Int)) (a1 : Int) : Option (List Bool × Int × Int) := (impl_newTrail.f k a0_0 l0_1).bind fun H => (impl_visit.f H l0_1 a1 k 0 (List.replicate l0_1.length 0) (List.replicate l0_1.length 0) [] (List.replicate (a0_0 + 1).toNat 0)).bind fun r => if r.1 = 2 then some ([], r.2.1, 2) else if r.1 = 3 then some ([], a1, 3) else (if 0 ≤ a0_0 ∧ a0_0 ≤ 1000000 then (impl_settle.l0 k r.2.2.2.2.2 (List.replicate a0_0.toNat false) 0).bind fun on => some (on, r.2.1, 1) else none)
set_option maxHeartbeats 8000000 in
set_option maxRecDepth 100000 in
theorem impl_settle.calls (k : Nat) (a0_0 : Int) (A0_1 : Option Addr) (c0_1 : Nat) (l0_1 : List (List Int)) (a1 : Int) (r1 : List Bool) (r2 : Int) (r3 : Int) (w : World) (hr0_1 : Kd.C (Kd.slice 2 (Kd.int .i64)) w A0_1 l0_1.length l0_1) (hc0_1 : l0_1.length ≤ c0_1) (h : impl_settle.f k a0_0 l0_1 a1 = some (r1, r2, r3)) :
  Calls Try.prog 67 #[.agg #[.int .i64 a0_0, .slice A0_1 l0_1.length c0_1], .int .i64 a1] w fun e w' => ∃ v0_ : Value, e = .returned (.tuple #[v0_, .int .i64 r2, .int .i64 r3]) ∧ Kd.R Kd.bool 4 w' w.heap.size (fun _ => True) v0_ r1 ∧ Below w.heap.size w w' := by
  have HR0 := Aside0.mk hr0_1; have HC0 := Aside0.mk hc0_1; have hmax := Kd.C_max hr0_1; clear hr0_1 hc0_1; have hu_ := Try.underlying37
  unfold impl_settle.f at h
  obtain ⟨H, hH, h⟩ := Option.bind_eq_some_iff.mp h; obtain ⟨R, hR, h⟩ := Option.bind_eq_some_iff.mp h; obtain ⟨code, v, G, B, S, I⟩ := R; have HH := Aside0.mk hH; have HRR := Aside0.mk hR
  dsimp only at h
  have HX := Aside0.mk h; clear hH hR h
  go_enter Try.func67, Try.ntmps67
  go_upto_region 1 with (fail)
  have HS := St.box (St.nil w) (W' := w) (g := w.heap.size) rfl (blk_new w (.cells #[.int .i64 a0_0, .slice A0_1 l0_1.length c0_1] 37 (0, 0))) (below_alloc (Below.refl _ _) _); generalize w.alloc (.cells #[.int .i64 a0_0, .slice A0_1 l0_1.length c0_1] 37 (0, 0)) = W1 at HS ⊢; generalize w.heap.size = g at HS ⊢; have hz0 : W1.cell? ⟨g, 0, none⟩ = some (.int .i64 a0_0) := (blk_cell (St.getB HS 0 rfl ⟨0, rfl⟩) 0).trans rfl; have hz1 : W1.cell? ⟨g, 1, none⟩ = some (.slice A0_1 l0_1.length c0_1) := (blk_cell (St.getB HS 0 rfl ⟨0, rfl⟩) 1).trans rfl
  go_upto_region 2 with (first
    | (go_at_call 50
       refine (impl_newTrail.calls k a0_0 A0_1 c0_1 l0_1 H w _ (St.lift HS).below HR0.out HC0.out HH.out).mono ?_; rintro e w3 ⟨gt, gm, n, okm, okg, okb, oki, Ag, Ab, Ai, cg, cb, ci, rfl, HS3⟩; obtain ⟨F, okr, HS4⟩ := St.asH HS3 4 rfl
       clear HS3))
  have HB1 := Aside0.mk (St.lift (W' := W1) HS ⟨0, rfl⟩).below; have HG1 := Aside0.mk (St.getB (W' := W1) HS 0 rfl ⟨0, rfl⟩); clear hz0 hz1 HS HH; generalize W1 = w1 at HS4 HB1 HG1; have HS5 : Aside0 (St w1 (w3.alloc (.cells #[.pointer (some ⟨gt, 0, none⟩), .int .i64 0, .int .i64 a1] 108 (0, 0))) (Ob.B w3.heap.size (.cells #[.pointer (some ⟨gt, 0, none⟩), .int .i64 0, .int .i64 a1] 108 (0, 0)) :: _)) := St.box HS4 (W' := w3) (g := w3.heap.size) rfl (blk_new w3 _) (below_alloc (Below.refl _ _) _); generalize w3.alloc (.cells #[.pointer (some ⟨gt, 0, none⟩), .int .i64 0, .int .i64 a1] 108 (0, 0)) = W5 at HS5 ⊢; generalize w3.heap.size = gs at HS5 ⊢; clear HS4; obtain ⟨ng, hng⟩ : ∃ ng, (List.replicate l0_1.length (0 : Int)).length = ng := ⟨_, rfl⟩; obtain ⟨ni, hni⟩ : ∃ ni, (List.replicate (a0_0 + 1).toNat (0 : Int)).length = ni := ⟨_, rfl⟩; rw [hng, hni] at HS5; have HNG := Aside0.mk hng; have HNI := Aside0.mk hni; clear hng hni; have HS6 : Aside0 (St w1 W5 (Ob.B gt (.cells #[.int .i64 a0_0, .slice A0_1 l0_1.length c0_1, .map (some gm), .slice Ag ng cg, .slice Ab ng cb, .slice none ([] : List Int).length 0, .slice Ai ni ci] 80 (0, 0)) :: Ob.R w1 (Kd.int .i64) 2 oki (.slice Ai ni ci) (List.replicate (a0_0 + 1).toNat 0) :: Ob.R w1 (Kd.int .i64) 3 okb (.slice Ab ng cb) (List.replicate l0_1.length 0) :: Ob.R w1 (Kd.int .i64) 3 okg (.slice Ag ng cg) (List.replicate l0_1.length 0) :: ObH w1 gm n okm F okr H :: Ob.R w1 (Kd.int .i64) 2 (fun _ => False) (.slice none ([] : List Int).length 0) ([] : List Int) :: Ob.B gs (.cells #[.pointer (some ⟨gt, 0, none⟩), .int .i64 0, .int .i64 a1] 108 (0, 0)) :: [])) := St.perm ⟨St.lift HS5⟩ (List.perm_append_comm (l₁ := [_]) (l₂ := [_, _, _, _, _, _])); clear HS5
  go_upto_region 3 with (first
    | (go_at_call 81
       refine (impl_visit.calls a0_0 a1 gm n okm okg okb oki F okr H A0_1 Ag Ab Ai c0_1 ng ng ni cg cb ci gs gt l0_1 w1 ⟨Kd.C_below HR0.out HB1.out⟩ k 0 _ _ [] _ none 0 (fun _ => False) [] _ code v G B S I HNG HNG HNI HS6 HRR).mono ?_
       rintro e w5 ⟨rfl, m1_, m2_, m3_, oks, As, cs, HSv⟩))
  clear HS6 HRR; have HB2 : Aside0 (Below w.heap.size w w5) := ⟨below_step HB1.out (show Below w1.heap.size w1 w5 from HSv.out.below)⟩; have hz1 : w5.cell? ⟨gs, 1, none⟩ = some (.int .i64 v) := (blk_cell (St.getB HSv 6 rfl ⟨0, rfl⟩) 1).trans rfl; have hx := HX.out
  by_cases c2 : code = 2
  · rw [if_pos c2] at hx
    obtain ⟨e1_, e2_⟩ := Prod.mk.inj (Option.some.inj hx); obtain ⟨e2_, e3_⟩ := Prod.mk.inj e2_
    subst e1_ e2_ e3_
    have c2b : (code == 2) = true := beq_iff_eq.2 c2; clear hx HX c2
    go_wp2
    repeat (go_quiet (fail); try go_wp2)
    go_ret3
    exact ⟨_, rfl, Kd.R_nil _ _ _ _ _, (by first | exact HB2.out | (apply pw_below_drewN; exact HB2.out))⟩
  · rw [if_neg c2] at hx
    have c2b : (code == 2) = false := beq_eq_false_iff_ne.2 c2
    by_cases c3 : code = 3
    · rw [if_pos c3] at hx
      obtain ⟨e1_, e2_⟩ := Prod.mk.inj (Option.some.inj hx); obtain ⟨e2_, e3_⟩ := Prod.mk.inj e2_
      subst e1_ e2_ e3_
      have c3b : (code == 3) = true := beq_iff_eq.2 c3; clear hx HX c2 c3
      go_wp2
      go_ret3
      exact ⟨_, rfl, Kd.R_nil _ _ _ _ _, (by first | exact HB2.out | (apply pw_below_drewN; exact HB2.out))⟩
    · rw [if_neg c3] at hx
      have c3b : (code == 3) = false := beq_eq_false_iff_ne.2 c3
      by_cases c4 : 0 ≤ a0_0 ∧ a0_0 ≤ 1000000
      · rw [if_pos c4] at hx
        obtain ⟨res, hres, hx⟩ := Option.bind_eq_some_iff.mp hx; obtain ⟨e1_, e2_⟩ := Prod.mk.inj (Option.some.inj hx); obtain ⟨e2_, e3_⟩ := Prod.mk.inj e2_
        subst e1_ e2_ e3_
        have HRES := Aside0.mk hres; have HC4 := Aside0.mk c4; have hzg : w5.cell? ⟨g, 0, none⟩ = some (.int .i64 a0_0) := (blk_cell (blk_below (g := g) HG1.out (show Below w1.heap.size w1 w5 from HSv.out.below)) 0).trans rfl; clear hx HX c2 c3 c4 hres
        go_wp2_with (first | ((with_reducible refine gate_dst (N := 24) rfl ?_); refine Kd.R_make Kd.bool _ 4 rfl (N := 24) rfl 51 _ _ rfl a0_0 rfl rfl Try.underlying51 (.bool false) 1 impl_settle.inf4_ rfl (by decide) (by omega) false (ok := fun _ => True) (okp := fun _ => True) rfl (fun _ hk => hk) trivial HC4.out.1 (by have := HC4.out; omega) (Below.refl _ _) (Nat.le_refl _) ?_; intro va wa hra hba hga hna; clear hga hna; obtain ⟨nl, hnl⟩ : ∃ nl, (List.replicate a0_0.toNat false).length = nl := ⟨_, rfl⟩; have HNL := Aside0.mk hnl; obtain ⟨oko, Ao, co, rfl, hca, HSo⟩ := St.callR HSv hba hra; rw [hnl] at HSo ⊢; clear hra hba hnl))
        (try simp only [Act.put, List.setIfInBounds_toArray, List.set_cons_zero, List.set_cons_succ])
        have HNLe : Aside0 (nl ≤ 1000000) := ⟨by have := HNL.out; rw [List.length_replicate] at this; have := HC4.out; omega⟩
        clear hz1 hzg HC4
        go_loopg [27] k (fun kq s27 wr => ∃ (i : Nat) (on : List Bool), s27 = .int .i64 i ∧ Aside0 (on.length = nl) ∧ Aside0 (impl_settle.l0 kq I on i = some res) ∧ Aside0 (i ≤ nl) ∧ Aside0 (St w1 wr (Ob.R w1 Kd.bool 4 oko (.slice Ao nl co) on :: (Ob.B gt (.cells #[.int .i64 a0_0, .slice A0_1 l0_1.length c0_1, .map (some gm), .slice Ag ng cg, .slice Ab ng cb, .slice As S.length cs, .slice Ai ni ci] 80 (0, 0)) :: Ob.R w1 (Kd.int .i64) 2 oki (.slice Ai ni ci) I :: Ob.R w1 (Kd.int .i64) 3 okb (.slice Ab ng cb) B :: Ob.R w1 (Kd.int .i64) 3 okg (.slice Ag ng cg) G :: ObH w1 gm n okm F okr H :: Ob.R w1 (Kd.int .i64) 2 oks (.slice As S.length cs) S :: Ob.B gs (.cells #[.pointer (some ⟨gt, 0, none⟩), .int .i64 v, .int .i64 a1] 108 (0, 0)) :: []))))
        case atStart => exact ⟨0, List.replicate a0_0.toNat false, rfl, HNL, HRES, ⟨Nat.zero_le _⟩, ⟨St.lift HSo⟩⟩
        case round =>
          clear HRES HSo HSv HNL HB2; obtain ⟨i, on, rfl, HL, HX, HIN, HS⟩ := hrel; have hx := HX.out
          cases gk with
          | zero => cases hx
          | succ g1 =>
          rw [impl_settle.l0] at hx
          by_cases c5 : i < on.length
          · rw [if_pos c5] at hx
            by_cases c6 : i + 1 < I.length
            · rw [if_pos c6] at hx
              have HX2 := Aside0.mk hx; have HI1 : Aside0 (i < nl) := ⟨by rw [← HL.out]; exact c5⟩
              have hin : i + 1 < ni := by rw [← m3_.out]; exact c6
              obtain ⟨go, cr, er, _, _, _, _⟩ := Kd.R_form (St.getR (W' := wr) HS 0 rfl ⟨0, rfl⟩) (by omega)
              have eA : Ao = some ⟨go, 0, none⟩ := by injection er
              subst eA
              clear er; obtain ⟨gi, cr2, er, _, _, _, _⟩ := Kd.R_form (St.getR (W' := wr) HS 2 rfl ⟨0, rfl⟩) (by omega)
              have eA : Ai = some ⟨gi, 0, none⟩ := by injection er
              subst eA
              clear er; obtain ⟨hci, _⟩ := Kd.R_celln 0 (St.getR (W' := wr) HS 2 rfl ⟨0, rfl⟩) ((i + 1 : Nat) : Int) (by omega) (by omega); obtain ⟨hco, hfo⟩ := Kd.R_celln false (St.getR (W' := wr) HS 0 rfl ⟨0, rfl⟩) (i : Int) (by omega) (by have := HI1.out; omega)
              replace hci : wr.cell? ⟨gi, i + 1, none⟩ = some (.int .i64 (rd I ((i + 1 : Nat) : Int))) := hci; replace hco : wr.cell? ⟨go, i, none⟩ = some (.bool (rdOf false on (i : Int))) := hco; replace hfo : wr.frozen? ⟨go, i, none⟩ = false := hfo; have hz0 : wr.cell? ⟨gs, 0, none⟩ = some (.pointer (some ⟨gt, 0, none⟩)) := (blk_cell (St.getB HS 7 rfl ⟨0, rfl⟩) 0).trans rfl; have hz6 : wr.cell? ⟨gt, 6, none⟩ = some (.slice (some ⟨gi, 0, none⟩) ni ci) := (blk_cell (St.getB HS 1 rfl ⟨0, rfl⟩) 6).trans rfl; obtain ⟨y, hy⟩ : ∃ y, rd I ((i + 1 : Nat) : Int) = y := ⟨_, rfl⟩; rw [hy] at hci HX2; have hib : decide ((i : Int) < (nl : Int)) = true := decide_eq_true (by have := HI1.out; omega)
              have hic : decide (i < nl) = true := decide_eq_true HI1.out; have hii : ((i : Int) < (nl : Int)) = True := eq_true (by have := HI1.out; omega)
              have i0 : (0 ≤ (i : Int)) = True := eq_true (by omega); have hji : (((i + 1 : Nat) : Int) < (ni : Int)) = True := eq_true (by omega); have j0 : (0 ≤ ((i + 1 : Nat) : Int)) = True := eq_true (by omega)
              have hw : wrap64 ((i : Int) + 1) = ((i + 1 : Nat) : Int) := by
                have := HNLe.out; have := HI1.out; clear HS
                unfold wrap64
                omega
              have hwi : IntKind.i64.wrap ((i : Int) + 1) = ((i + 1 : Nat) : Int) := (i64_w _).trans hw; obtain ⟨j, hj⟩ : ∃ j, i + 1 = j := ⟨_, rfl⟩; rw [hj] at hwi hji j0 hci; have HW := Aside0.mk hw; have HJE := Aside0.mk hj; have HHY := Aside0.mk hy; clear hx HX c5 c6 hin hy hw hj
              go_wp2
              have HS9 := St.setRb HS 0 rfl (i : Int) (decide (y > 0))
              go_roundg g1
              case measure => omega
              case rel => exact ⟨j, on.set i (decide (y > 0)), by first | rfl | (rw [hwi]), ⟨by rw [List.length_set]; exact HL.out⟩, by rw [← HJE.out]; exact HX2, ⟨by have := HI1.out; have := HJE.out; omega⟩, ⟨St.lift HS9⟩⟩
            · rw [if_neg c6] at hx; cases hx
          · rw [if_neg c5] at hx
            obtain rfl := Option.some.inj hx; have hib : decide ((i : Int) < (nl : Int)) = false := decide_eq_false (by have := HL.out; omega); have hic : decide (i < nl) = false := decide_eq_false (by have := HL.out; omega)
            have hz1 : wr.cell? ⟨gs, 1, none⟩ = some (.int .i64 v) := (blk_cell (St.getB HS 7 rfl ⟨0, rfl⟩) 1).trans rfl; clear hx HX c5
            go_wp2
            repeat (go_quiet (fail); try go_wp2)
            go_ret3
            have HB3 : Below w.heap.size w wr := below_step HB1.out (show Below w1.heap.size w1 wr from HS.out.below)
            exact ⟨_, rfl, Kd.R_mono (Kd.R_lower (St.getR HS 0 rfl) HB1.out.size) (fun _ _ => trivial), (by first | exact HB3 | (apply pw_below_drewN; exact HB3))⟩
      · rw [if_neg c4] at hx; cases hx
def impl_Settle.f (k : Nat) (a0_0 : Int) (l0_1 : List (List Int)) (a1 : Int) : Option (List Bool × Int × Int) := (impl_CnfOk.f k a0_0 l0_1).bind fun t => if t = true then ((impl_inside.f a1 0 20000).bind fun u => if u = true then impl_settle.f k a0_0 l0_1 a1 else some ([], -1, 4)) else some ([], -1, 4)
set_option maxHeartbeats 8000000 in
set_option maxRecDepth 100000 in
theorem impl_Settle.calls (k : Nat) (a0_0 : Int) (A0_1 : Option Addr) (c0_1 : Nat) (l0_1 : List (List Int)) (a1 : Int) (r1 : List Bool) (r2 : Int) (r3 : Int) (w : World) (hr0_1 : Kd.C (Kd.slice 2 (Kd.int .i64)) w A0_1 l0_1.length l0_1) (hc0_1 : l0_1.length ≤ c0_1) (h : impl_Settle.f k a0_0 l0_1 a1 = some (r1, r2, r3)) :
    Calls Try.prog 30 #[.agg #[.int .i64 a0_0, .slice A0_1 l0_1.length c0_1], .int .i64 a1] w fun e w' => ∃ v0_ : Value, e = .returned (.tuple #[v0_, .int .i64 r2, .int .i64 r3]) ∧ Kd.R Kd.bool 4 w' w.heap.size (fun _ => True) v0_ r1 ∧ Below w.heap.size w w' := by
  have HR0 := Aside0.mk hr0_1; have HC0 := Aside0.mk hc0_1; clear hr0_1 hc0_1; have hu_ := Try.underlying37
  unfold impl_Settle.f at h
  obtain ⟨t, ht, h⟩ := Option.bind_eq_some_iff.mp h; have HT := Aside0.mk ht; clear ht
  cases t with
  | false =>
    obtain ⟨e1_, e2_⟩ := Prod.mk.inj (Option.some.inj h); obtain ⟨e2_, e3_⟩ := Prod.mk.inj e2_
    subst e1_ e2_ e3_
    clear h
    go_enter Try.func30, Try.ntmps30
    go_upto_region 1 with (fail)
    have HS := St.box (St.nil w) (W' := w) (g := w.heap.size) rfl (blk_new w (.cells #[.int .i64 a0_0, .slice A0_1 l0_1.length c0_1] 37 (0, 0))) (below_alloc (Below.refl _ _) _); generalize w.alloc (.cells #[.int .i64 a0_0, .slice A0_1 l0_1.length c0_1] 37 (0, 0)) = W1 at HS ⊢; generalize w.heap.size = g at HS ⊢; have hz0 : W1.cell? ⟨g, 0, none⟩ = some (.int .i64 a0_0) := (blk_cell (St.getB HS 0 rfl ⟨0, rfl⟩) 0).trans rfl; have hz1 : W1.cell? ⟨g, 1, none⟩ = some (.slice A0_1 l0_1.length c0_1) := (blk_cell (St.getB HS 0 rfl ⟨0, rfl⟩) 1).trans rfl
    go_wp2_with (first | (go_at_call 48; refine (impl_CnfOk.calls k a0_0 _ _ l0_1 false _ (Kd.C_below HR0.out (St.lift HS).below) HC0.out HT.out).mono ?_; rintro e w3 ⟨rfl, hb⟩; have HS1 := St.call HS hb; clear hb hz0 hz1; have hz0 : w3.cell? ⟨g, 0, none⟩ = some (.int .i64 a0_0) := (blk_cell (St.getB HS1 0 rfl ⟨0, rfl⟩) 0).trans rfl; have hz1 : w3.cell? ⟨g, 1, none⟩ = some (.slice A0_1 l0_1.length c0_1) := (blk_cell (St.getB HS1 0 rfl ⟨0, rfl⟩) 1).trans rfl))
    go_ret3
    exact ⟨_, rfl, Kd.R_nil _ _ _ _ _, (St.lift HS1).below⟩
  | true =>
    rw [if_pos rfl] at h; obtain ⟨u, hu, h⟩ := Option.bind_eq_some_iff.mp h; have HU := Aside0.mk hu; clear hu
    cases u with
    | false =>
      obtain ⟨e1_, e2_⟩ := Prod.mk.inj (Option.some.inj h); obtain ⟨e2_, e3_⟩ := Prod.mk.inj e2_
      subst e1_ e2_ e3_
      clear h
      go_enter Try.func30, Try.ntmps30
      go_upto_region 1 with (fail)
      have HS := St.box (St.nil w) (W' := w) (g := w.heap.size) rfl (blk_new w (.cells #[.int .i64 a0_0, .slice A0_1 l0_1.length c0_1] 37 (0, 0))) (below_alloc (Below.refl _ _) _); generalize w.alloc (.cells #[.int .i64 a0_0, .slice A0_1 l0_1.length c0_1] 37 (0, 0)) = W1 at HS ⊢; generalize w.heap.size = g at HS ⊢; have hz0 : W1.cell? ⟨g, 0, none⟩ = some (.int .i64 a0_0) := (blk_cell (St.getB HS 0 rfl ⟨0, rfl⟩) 0).trans rfl; have hz1 : W1.cell? ⟨g, 1, none⟩ = some (.slice A0_1 l0_1.length c0_1) := (blk_cell (St.getB HS 0 rfl ⟨0, rfl⟩) 1).trans rfl
      go_wp2_with (first | (go_at_call 48; refine (impl_CnfOk.calls k a0_0 _ _ l0_1 true _ (Kd.C_below HR0.out (St.lift HS).below) HC0.out HT.out).mono ?_; rintro e w3 ⟨rfl, hb⟩; have HS1 := St.call HS hb; clear hb hz0 hz1; have hz0 : w3.cell? ⟨g, 0, none⟩ = some (.int .i64 a0_0) := (blk_cell (St.getB HS1 0 rfl ⟨0, rfl⟩) 0).trans rfl; have hz1 : w3.cell? ⟨g, 1, none⟩ = some (.slice A0_1 l0_1.length c0_1) := (blk_cell (St.getB HS1 0 rfl ⟨0, rfl⟩) 1).trans rfl) | (go_at_call 66; refine (impl_inside.calls a1 0 20000 false _ HU.out).mono ?_; rintro e w4 ⟨rfl, ⟨n4, rfl⟩⟩))
      go_ret3
      exact ⟨_, rfl, Kd.R_nil _ _ _ _ _, (St.lift HS1).below⟩
    | true =>
      rw [if_pos rfl] at h; have HF := Aside0.mk h; clear h
      go_enter Try.func30, Try.ntmps30
      go_upto_region 1 with (fail)
      have HS := St.box (St.nil w) (W' := w) (g := w.heap.size) rfl (blk_new w (.cells #[.int .i64 a0_0, .slice A0_1 l0_1.length c0_1] 37 (0, 0))) (below_alloc (Below.refl _ _) _); generalize w.alloc (.cells #[.int .i64 a0_0, .slice A0_1 l0_1.length c0_1] 37 (0, 0)) = W1 at HS ⊢; generalize w.heap.size = g at HS ⊢; have hz0 : W1.cell? ⟨g, 0, none⟩ = some (.int .i64 a0_0) := (blk_cell (St.getB HS 0 rfl ⟨0, rfl⟩) 0).trans rfl; have hz1 : W1.cell? ⟨g, 1, none⟩ = some (.slice A0_1 l0_1.length c0_1) := (blk_cell (St.getB HS 0 rfl ⟨0, rfl⟩) 1).trans rfl
      go_wp2_with (first | (go_at_call 48; refine (impl_CnfOk.calls k a0_0 _ _ l0_1 true _ (Kd.C_below HR0.out (St.lift HS).below) HC0.out HT.out).mono ?_; rintro e w3 ⟨rfl, hb⟩; have HS1 := St.call HS hb; clear hb hz0 hz1; have hz0 : w3.cell? ⟨g, 0, none⟩ = some (.int .i64 a0_0) := (blk_cell (St.getB HS1 0 rfl ⟨0, rfl⟩) 0).trans rfl; have hz1 : w3.cell? ⟨g, 1, none⟩ = some (.slice A0_1 l0_1.length c0_1) := (blk_cell (St.getB HS1 0 rfl ⟨0, rfl⟩) 1).trans rfl) | (go_at_call 66; refine (impl_inside.calls a1 0 20000 true _ HU.out).mono ?_; rintro e w4 ⟨rfl, ⟨n4, rfl⟩⟩) | (go_at_call 67; refine St.absC (fun W_ hE_ => ?_); have hW_ : ∃ n, W_ = w3.drewN n := ⟨_, hE_⟩; refine (impl_settle.calls k a0_0 _ _ l0_1 a1 r1 r2 r3 W_ (Kd.C_below HR0.out (St.lift HS1 hW_).below) HC0.out HF.out).mono ?_; rintro e w5 ⟨v0_, rfl, hr2, hb2⟩))
      go_ret3
      exact ⟨_, rfl, Kd.R_mono (Kd.R_lower hr2 (St.lift (W' := W_) HS1 hW_).below.size) (fun _ _ => trivial), below_step (St.lift (W' := W_) HS1 hW_).below hb2⟩

end Go.Proofs.Ytpkclocdenagcaa.PFnSettled
