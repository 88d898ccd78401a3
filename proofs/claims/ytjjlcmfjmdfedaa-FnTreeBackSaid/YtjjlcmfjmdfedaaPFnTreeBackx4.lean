-- Written by a program of this session (a turned copy of the kit's printer); Lean checks it.
-- half the depth
import Derived.Test.YtjjlcmfjmdfedaaPFnTreeBackx0
import Derived.Test.YtjjlcmfjmdfedaaPFnTreeBackx1
import Derived.Test.YtjjlcmfjmdfedaaPFnTreeBackx3
namespace Go.Proofs.Ytjjlcmfjmdfedaa.PFnTreeBack
open Go.RowKit Go.Proofs.YtjjlcmfjmdfedaaW.PrintWords Go.Proofs.YtjjlcmfjmdfedaaW.PrintLast Go.Proofs.YtjjlcmfjmdfedaaW.PrintMore
attribute [local go_sem] max2_int min2_int max_two min_two max_three min_three max_four min_four   -- for this text's walks alone
set_option linter.unusedVariables false
set_option linter.unusedSimpArgs false

/-! ### impl_WriteTree: function 9 -/
theorem impl_WriteTree.sizeB : (Try.prog.info? 49).map (·.size) = some 2 := by kernel_rfl
theorem impl_WriteTree.liesB : liesAt Try.prog Try.prog.depth 49 (2 / Try.prog.cellsOf 49) 0 49 1 = true := by kernel_rfl
theorem impl_WriteTree.infoB : (Try.prog.info? 5).map (fun i => (i.zero, i.size, i.bytes)) = some (some (.int .u8 0), 1, 1) := by kernel_rfl
set_option maxHeartbeats 2000000 in
set_option maxRecDepth 100000 in
theorem impl_WriteTree.used (b : Nat) (w : World) (h0 : w.cell? ⟨b, 0, none⟩ = some (.pointer (some ⟨b, 0, none⟩))) :
  Calls Try.prog 61 #[.pointer (some ⟨b, 0, none⟩)] w fun e w' => e = .returned (.tuple #[]) ∧ w' = w := by
 obtain ⟨j, hj, _⟩ := Option.map_eq_some_iff.1 impl_WriteTree.sizeB
 go_enter Try.func61, Try.ntmps61
 go_wp2
 rw [Lib.run_neq_ptr_same w _ Try.underlying47 hj]
 go_wp2
 go_end0
 exact ⟨rfl, rfl⟩
set_option maxHeartbeats 2000000 in
set_option maxRecDepth 100000 in
theorem impl_WriteTree.fresh (b : Nat) (w : World) (h0 : w.cell? ⟨b, 0, none⟩ = some (.pointer none)) (hsh : w.shape? b = some (49, 2)) (hfz : w.frozen? ⟨b, 0, none⟩ = false) :
  Calls Try.prog 61 #[.pointer (some ⟨b, 0, none⟩)] w fun e w' => e = .returned (.tuple #[]) ∧ w' = w.setCell ⟨b, 0, none⟩ (.pointer (some ⟨b, 0, none⟩)) := by
 obtain ⟨j, hj, hjs⟩ := Option.map_eq_some_iff.1 impl_WriteTree.sizeB
 go_enter Try.func61, Try.ntmps61
 go_wp2
 rw [Lib.run_to_unsafe w ⟨b, 0, none⟩ Try.underlying47 Try.underlying98 hj (by rw [hjs]; decide) hsh (Nat.zero_lt_succ 1)]
 simp only [Result.andThen]
 rw [Oper.upon_value]
 go_wp2
 rw [run_callFunc_extern Try.func64 (by kernel_rfl) (by kernel_rfl) (by kernel_rfl) (e := Extern.AbiNoEscape.same) (by kernel_rfl)]; rw [Lib.run_noEscape]
 simp only [Result.andThen]
 rw [Oper.upon_value]
 go_wp2
 rw [Lib.run_from_unsafe w ⟨b, 0, none⟩ Try.underlying98 Try.underlying47 hj hsh impl_WriteTree.liesB]
 simp only [Result.andThen]
 rw [Oper.upon_value]
 go_wp2
 go_end0
 exact ⟨rfl, rfl⟩
theorem impl_WriteTree.check (B b : Nat) (bs : List Value) (w : World) (h : Lib.IsBuilder 49 5 B b bs w) :
  Calls Try.prog 61 #[.pointer (some ⟨b, 0, none⟩)] w fun e w' => e = .returned (.tuple #[]) ∧ (Lib.BuilderAt 49 5 B b (.pointer (some ⟨b, 0, none⟩)) bs w' ∧ Below B w w') := by
 rcases h with h | h
 ·refine (impl_WriteTree.fresh b w h.cell0 h.shape h.frozen0).mono ?_
  rintro e w' ⟨rfl, rfl⟩
  exact ⟨rfl, h.used _, (Below.refl B w).setCell (p := ⟨b, 0, none⟩) h.1 _⟩
 ·refine (impl_WriteTree.used b w h.cell0).mono ?_
  rintro e w' ⟨rfl, rfl⟩
  exact ⟨rfl, h, Below.refl B _⟩
set_option maxHeartbeats 2000000 in
set_option maxRecDepth 100000 in
theorem impl_WriteTree.byte (B b : Nat) (bs : List Value) (c : Int) (w : World) (h : Lib.IsBuilder 49 5 B b bs w) (hlen : bs.length + 1 ≤ 140737488355328) (hBw : B ≤ w.heap.size) :
  Calls Try.prog 46 #[.pointer (some ⟨b, 0, none⟩), .int .u8 c] w fun e w' => e = .returned .nilIface ∧ (Lib.BuilderAt 49 5 B b (.pointer (some ⟨b, 0, none⟩)) (bs ++ [.int .u8 c]) w' ∧ Below B w w') := by
 obtain ⟨i0, hi, hz0, hz1, hz2⟩ := info_parts impl_WriteTree.infoB
 go_enter Try.func46, Try.ntmps46
 go_wp2_with (go_at_call 61; refine (impl_WriteTree.check B b bs _ h).mono ?_)
 rintro e w1 ⟨rfl, h1, hb1⟩; obtain ⟨hB, v, hbk, hown, hne⟩ := h1
 have c0 : w1.cell? ⟨b, 0, none⟩ = some (.pointer (some ⟨b, 0, none⟩)) := by rw [Lib.cell_of_heap hbk]; rfl
 have c1 : w1.cell? ⟨b, 1, none⟩ = some v := by rw [Lib.cell_of_heap hbk]; rfl
 go_wp2_with (at_builtin; refine wpList_append_own _ rfl _ _ 37 rfl B 5 i0 (.int .u8 0) 1 1 Try.underlying37 hi hz0 hz1 hz2 rfl (by decide) _ _ _ rfl (hown.alloc _) ⟨w1.heap.size, 0, none⟩ 1 1 [.int .u8 c] rfl rfl ?c1 ?c2 ?c3 ?c4 ?c5 ?_)
 case c1 =>
  intro j u hj
  match j, hj with
  | 0, hj => simp at hj; subst hj; simp [Addr.add]
 case c2 => intro u hu; simp at hu; subst hu; rfl
 case c3 => unfold maxLen; omega
 case c4 => omega
 case c5 => have := hb1.size; simp; omega
 intro v' w2 hown' hgrow _
 have hlt : b < w1.heap.size := by
  rcases Nat.lt_or_ge b w1.heap.size with h' | h'
  ·exact h'
  ·simp [Array.getElem?_eq_none h'] at hbk
 have hb2 : w2.heap[b]? = some (.cells #[.pointer (some ⟨b, 0, none⟩), v] 49 (0, 0)) := by
  rw [hgrow.block b (by simp; omega) (fun e => hne e.symm), Lib.alloc_old w1 _ b hlt]
  exact hbk
 have d0 : w2.cell? ⟨b, 0, none⟩ = some (.pointer (some ⟨b, 0, none⟩)) := by rw [Lib.cell_of_heap hb2]; rfl
 have d1 : w2.cell? ⟨b, 1, none⟩ = some v := by rw [Lib.cell_of_heap hb2]; rfl
 have f1 : w2.frozen? ⟨b, 1, none⟩ = false := Lib.frozen_of_heap hb2 1
 obtain ⟨g, cap, rfl⟩ : ∃ g cap, v' = .slice (some ⟨g, 0, none⟩) (bs.length + 1) cap := by
  rcases hown'.2 with ⟨_, h0⟩ | ⟨g, cap, cur, hv, _⟩
  ·omega
  ·exact ⟨g, cap, hv⟩
 go_wp2
 go_ret
 refine ⟨rfl, ?_, ?_⟩
 ·exact Lib.BuilderAt.put (T := 49) (e := 5) hB hb2 (bs' := bs ++ [.int .u8 c]) (by simpa using hown') (by decide)
 ·exact ((hb1.alloc (by have := hb1.size; omega) _).grown hgrow (by have := hb1.size; simp; omega) (fun k hk => (hown.lt k hk).1)).setCell (p := ⟨b, 1, none⟩) hB _
set_option maxHeartbeats 2000000 in
set_option maxRecDepth 100000 in
theorem impl_WriteTree.text (B b : Nat) (bs : List Value) (s : ByteArray) (w : World) (h : Lib.IsBuilder 49 5 B b bs w) (hlen : bs.length + s.size ≤ 140737488355328) (hBw : B ≤ w.heap.size) :
  Calls Try.prog 45 #[.pointer (some ⟨b, 0, none⟩), .string s] w fun e w' => e = .returned (.tuple #[.int .i64 s.size, .nilIface]) ∧ (Lib.BuilderAt 49 5 B b (.pointer (some ⟨b, 0, none⟩)) (bs ++ Lib.strCells s) w' ∧ Below B w w') := by
 obtain ⟨i0, hi, hz0, hz1, hz2⟩ := info_parts impl_WriteTree.infoB
 go_enter Try.func45, Try.ntmps45
 go_wp2_with (go_at_call 61; refine (impl_WriteTree.check B b bs _ h).mono ?_)
 rintro e w1 ⟨rfl, h1, hb1⟩; obtain ⟨hB, v, hbk, hown, hne⟩ := h1
 have c0 : w1.cell? ⟨b, 0, none⟩ = some (.pointer (some ⟨b, 0, none⟩)) := by rw [Lib.cell_of_heap hbk]; rfl
 have c1 : w1.cell? ⟨b, 1, none⟩ = some v := by rw [Lib.cell_of_heap hbk]; rfl
 go_wp2_with (at_builtin; refine Lib.wpList_append_own_string _ rfl _ _ 37 9 rfl B 5 i0 Try.underlying37 Try.underlying9 hi hz0 hz1 hz2 _ _ _ rfl hown s rfl ?c3 ?c4 ?c5 ?_)
 case c3 => unfold maxLen; omega
 case c4 => omega
 case c5 => have := hb1.size; omega
 intro v' w2 hown' hgrow _
 have hlt : b < w1.heap.size := by
  rcases Nat.lt_or_ge b w1.heap.size with h' | h'
  ·exact h'
  ·simp [Array.getElem?_eq_none h'] at hbk
 have hb2 : w2.heap[b]? = some (.cells #[.pointer (some ⟨b, 0, none⟩), v] 49 (0, 0)) := by
  rw [hgrow.block b hlt (fun e => hne e.symm)]
  exact hbk
 have d0 : w2.cell? ⟨b, 0, none⟩ = some (.pointer (some ⟨b, 0, none⟩)) := by rw [Lib.cell_of_heap hb2]; rfl
 have d1 : w2.cell? ⟨b, 1, none⟩ = some v := by rw [Lib.cell_of_heap hb2]; rfl
 have f1 : w2.frozen? ⟨b, 1, none⟩ = false := Lib.frozen_of_heap hb2 1
 obtain ⟨ao, n', cap, rfl⟩ : ∃ ao n' cap, v' = .slice ao n' cap := by
  rcases hown'.2 with ⟨hv, _⟩ | ⟨g, cap, cur, hv, _⟩
  ·exact ⟨_, _, _, hv⟩
  ·exact ⟨_, _, _, hv⟩
 go_wp2
 go_ret2
 refine ⟨rfl, ?_, ?_⟩
 ·exact Lib.BuilderAt.put (T := 49) (e := 5) hB hb2 (bs' := bs ++ Lib.strCells s) (by simpa [Lib.strCells_length] using hown') (by decide)
 ·exact (hb1.grown hgrow (by have := hb1.size; omega) (fun k hk => (hown.lt k hk).1)).setCell (p := ⟨b, 1, none⟩) hB _
/-- A strings.Builder in block b that holds bytes, its row in blocks of ok. -/
structure Bw (w0 W : World) (b : Nat) (ok : Nat → Prop) (xs : List Int) : Prop where
 ge : w0.heap.size ≤ b
 st : ∃ p v, (p = Value.pointer none ∨ p = Value.pointer (some ⟨b, 0, none⟩)) ∧ W.heap[b]? = some (.cells #[p, v] 49 (0, 0)) ∧ (Kd.int .u8).R 5 W w0.heap.size ok v xs
def ObW (w0 : World) (b : Nat) (ok : Nat → Prop) (xs : List Int) : Ob := ⟨fun k => k = b ∨ ok k, fun W => Bw w0 W b ok xs⟩
theorem ObW_foot (w0 : World) (b : Nat) (ok : Nat → Prop) (xs : List Int) : (ObW w0 b ok xs).foot := fun W W' hm ⟨hg, p, v, hp, hb, hr⟩ =>
 ⟨hg, p, v, hp, (hm b (.inl rfl) (blk_lt hb)).trans hb, Kd.R_step hr (fun k ho hlt => hm k (.inr ho) hlt)⟩
/-- What an operation on the builder does. -/
structure StepW (w0 W w' : World) (b : Nat) (ok ok' : Nat → Prop) (xs : List Int) : Prop where
 bw : Bw w0 w' b ok' xs
 below : Below w0.heap.size w0 w'
 kept : Kept W w' (fun k => k = b ∨ ok k)
 new : ∀ k, ok' k → ok k ∨ (W.heap.size ≤ k ∧ k < w'.heap.size)
theorem StepW.trans {w0 W w1 w2 : World} {b : Nat} {ok ok1 ok2 : Nat → Prop} {xs ys : List Int} (h : StepW w0 W w1 b ok ok1 xs) (k : StepW w0 w1 w2 b ok1 ok2 ys) : StepW w0 W w2 b ok ok2 ys :=
 ⟨k.bw, k.below, h.kept.then_ k.kept (fun q hq => hq.elim (fun e => .inl (.inl e)) (fun e => (h.new q e).elim (fun e2 => .inl (.inr e2)) (fun e2 => .inr e2.1))), fun q hq => (k.new q hq).elim (fun e => (h.new q e).elim .inl (fun e2 => .inr ⟨e2.1, Nat.lt_of_lt_of_le e2.2 k.kept.1⟩)) (fun e => .inr ⟨Nat.le_trans h.kept.1 e.1, e.2⟩)⟩
theorem StepW.refl {w0 W : World} {b : Nat} {ok : Nat → Prop} {xs : List Int} (h : Bw w0 W b ok xs) (hb : Below w0.heap.size w0 W) : StepW w0 W W b ok ok xs := ⟨h, hb, Kept.refl _ _, fun _ hq => .inl hq⟩
theorem Bw.step {w0 W W' : World} {b : Nat} {ok : Nat → Prop} {xs : List Int} (h : Bw w0 W b ok xs) (hb : Below W.heap.size W W') : Bw w0 W' b ok xs := ObW_foot w0 b ok xs W W' (fun k _ hlt => hb.block k hlt) h
theorem StepW.more {w0 W w1 w2 : World} {b : Nat} {ok ok1 : Nat → Prop} {xs : List Int} (h : StepW w0 W w1 b ok ok1 xs) (hb : Below w1.heap.size w1 w2) : StepW w0 W w2 b ok ok1 xs :=
 ⟨h.bw.step hb, below_step h.below hb, h.kept.below hb, fun q hq => (h.new q hq).imp id (fun e => ⟨e.1, Nat.lt_of_lt_of_le e.2 hb.size⟩)⟩
theorem St.stepW {w0 W w' : World} {b : Nat} {ok ok' : Nat → Prop} {xs ys : List Int} {l : List Ob} (h : Aside0 (St w0 W l)) (i : Nat) (hi : nth l i = some (ObW w0 b ok xs)) (s : StepW w0 W w' b ok ok' ys) : Aside0 (St w0 w' (put l i (ObW w0 b ok' ys))) :=
 ⟨St.turn h.out i hi s.below s.kept.1 (fun k hlt hn => s.kept.2 k hlt hn) (fun k hk => hk.elim (fun e => .inl (.inl e)) (fun e => (s.new k e).imp .inr id)) (ObW_foot _ _ _ _) s.bw⟩
theorem getW {w0 W W' : World} {b : Nat} {ok : Nat → Prop} {xs : List Int} {l : List Ob} (h : Aside0 (St w0 W l)) (i : Nat) (hi : nth l i = some (ObW w0 b ok xs)) (q : ∃ n, W' = W.drewN n := by first | exact ⟨_, rfl⟩ | exact ⟨0, rfl⟩) : Bw w0 W' b ok xs := ((St.lift h q).each _ (nth_mem hi)).2.2
theorem impl_WriteTree.checkW {w0 W : World} {b : Nat} {ok : Nat → Prop} {xs : List Int} (h : Bw w0 W b ok xs) (hB : Below w0.heap.size w0 W) :
  Calls Try.prog 61 #[.pointer (some ⟨b, 0, none⟩)] W fun e w' => e = .returned (.tuple #[]) ∧ (∃ v, w'.heap[b]? = some (.cells #[.pointer (some ⟨b, 0, none⟩), v] 49 (0, 0)) ∧ (Kd.int .u8).R 5 w' w0.heap.size ok v xs) ∧ Below w0.heap.size w0 w' ∧ Kept W w' (fun k => k = b) := by
 obtain ⟨hg, p, v, hp, hb, hr⟩ := h
 rcases hp with rfl | rfl
 ·refine (impl_WriteTree.fresh b W ((blk_cell hb 0).trans rfl) (by simp [World.shape?, hb]) (blk_frozen hb 0)).mono ?_
  rintro e w' ⟨rfl, rfl⟩; refine ⟨rfl, ⟨v, blk_put (cs := #[.pointer none, v]) hb 0 _ rfl, Kd.R_mono (Kd.R_far (p := ⟨b, 0, none⟩) (Kd.R_types hr hb (by decide)) (fun _ hk => hk.2) _) (fun _ hk => hk.1)⟩, below_set hB hg, ?_⟩
  exact ⟨by rw [World.size_setCell]; exact Nat.le_refl _, fun k _ hn => Below.heap_setCell W ⟨b, 0, none⟩ _ k hn⟩
 ·refine (impl_WriteTree.used b W ((blk_cell hb 0).trans rfl)).mono ?_
  rintro e w' ⟨rfl, rfl⟩
  exact ⟨rfl, ⟨v, hb, hr⟩, hB, Kept.refl _ _⟩
set_option maxHeartbeats 2000000 in
set_option maxRecDepth 100000 in
theorem impl_WriteTree.byteW {w0 W : World} {b : Nat} {ok : Nat → Prop} {xs : List Int} (h : Bw w0 W b ok xs) (hB : Below w0.heap.size w0 W) (c : Int) (hlen : xs.length + 1 ≤ 140737488355328) :
  Calls Try.prog 46 #[.pointer (some ⟨b, 0, none⟩), .int .u8 c] W fun e w' => e = .returned .nilIface ∧ ∃ ok', StepW w0 W w' b ok ok' (xs ++ [c]) := by
 have hge := h.ge
 go_enter Try.func46, Try.ntmps46
 go_wp2_with (go_at_call 61; refine (impl_WriteTree.checkW h hB).mono ?_)
 rintro e w1 ⟨rfl, ⟨v, hbk, hr⟩, hb1, hk1⟩; have hlt := blk_lt hbk; have HR := Aside0.mk hr; have HBK := Aside0.mk hbk; have HB1 := Aside0.mk hb1; have HK1 := Aside0.mk hk1; obtain ⟨Av, cv, rfl⟩ := Kd.R_slice hr; have c1 : w1.cell? ⟨b, 1, none⟩ = some (.slice Av xs.length cv) := (blk_cell hbk 1).trans rfl; clear hr hb1 hk1 h hB
 go_wp2_with (at_builtin; refine Kd.R_append (Kd.int .u8) (w0 := w0) w0.heap.size rfl (.tmp 11) (.tmp 13) 37 5 (.int .u8 0) 1 rfl Try.underlying37 info5 rfl (by decide) (by omega) (.slice Av xs.length cv) xs c [.int .u8 c] (fun k_ => ok k_ ∨ w1.heap.size ≤ k_) (fun _ => False) rfl (by first | (go_simp; done) | (go_simp; rfl)) ?aP (fun _ hk => hk.elim) ?aF ?aO ?aB ?aS ?aL ?_; (case aP => exact rfl); (case aF => exact fun _ hk => .inr hk); (case aO => exact Kd.R_mono HR.out (fun _ h_ => .inl h_)); (case aB => exact HB1.out); (case aS => exact HB1.out.size); (case aL => omega))
 intro v2 w2 hr2 hb2 hg2 _
 have hbk2 : w2.heap[b]? = some (.cells #[.pointer (some ⟨b, 0, none⟩), .slice Av xs.length cv] 49 (0, 0)) := (hg2.block b hlt (Kd.R_ne HR.out HBK.out (by decide))).trans HBK.out; obtain ⟨A2, cc2, rfl⟩ := Kd.R_slice hr2; generalize (xs ++ [c]).length = n2 at hr2 ⊢; have d1 : w2.cell? ⟨b, 1, none⟩ = some (.slice Av xs.length cv) := (blk_cell hbk2 1).trans rfl; have f1 : w2.frozen? ⟨b, 1, none⟩ = false := blk_frozen hbk2 1; have HR2 := Aside0.mk hr2; have HB2 := Aside0.mk hb2; have HG2 := Aside0.mk hg2; clear hr2 hb2 hg2
 go_wp2
 go_ret
 have hR3 := Kd.R_mono (Kd.R_bound (Kd.R_far (p := ⟨b, 1, none⟩) (Kd.R_types HR2.out hbk2 (by decide)) (fun _ hk => hk.2) (.slice A2 n2 cc2))) (ok' := fun k => (ok k ∨ w1.heap.size ≤ k) ∧ k < (w2.setCell ⟨b, 1, none⟩ (.slice A2 n2 cc2)).heap.size) (fun k hk => ⟨hk.1.1, hk.2.2.1⟩); refine ⟨rfl, _, ⟨hge, _, _, .inr rfl, blk_put (cs := #[.pointer (some ⟨b, 0, none⟩), .slice Av xs.length cv]) hbk2 1 _ rfl, hR3⟩, below_set HB2.out hge, ?_, fun k hk => ?_⟩
 ·refine (HK1.out.mono (fun k hk => .inl hk)).then_ (S2 := fun k => k = b ∨ ok k) ?_ (fun k hk => .inl hk)
  refine Kept.then_ (S2 := fun k => k = b) (W := w2) ((Kept.of_grown HG2.out (Kept.refl w1 _) (fun k e => .inl (.inr (HR.out.1 k e))))) ⟨by rw [World.size_setCell]; exact Nat.le_refl _, fun k _ hn => Below.heap_setCell w2 ⟨b, 1, none⟩ _ k hn⟩ (fun k hk => .inl (.inl hk))
 ·exact hk.1.elim .inl (fun e => .inr ⟨Nat.le_trans HK1.out.1 e, hk.2⟩)
set_option maxHeartbeats 2000000 in
set_option maxRecDepth 100000 in
theorem impl_WriteTree.textW {w0 W : World} {b : Nat} {ok : Nat → Prop} {xs : List Int} (h : Bw w0 W b ok xs) (hB : Below w0.heap.size w0 W) (s : ByteArray) (hlen : xs.length + s.size ≤ 140737488355328) :
  Calls Try.prog 45 #[.pointer (some ⟨b, 0, none⟩), .string s] W fun e w' => e = .returned (.tuple #[.int .i64 s.size, .nilIface]) ∧ ∃ ok', StepW w0 W w' b ok ok' (xs ++ bytesOf s) := by
 have hge := h.ge
 go_enter Try.func45, Try.ntmps45
 go_wp2_with (go_at_call 61; refine (impl_WriteTree.checkW h hB).mono ?_)
 rintro e w1 ⟨rfl, ⟨v, hbk, hr⟩, hb1, hk1⟩; have hlt := blk_lt hbk; have HR := Aside0.mk hr; have HBK := Aside0.mk hbk; have HB1 := Aside0.mk hb1; have HK1 := Aside0.mk hk1; obtain ⟨Av, cv, rfl⟩ := Kd.R_slice hr; have c1 : w1.cell? ⟨b, 1, none⟩ = some (.slice Av xs.length cv) := (blk_cell hbk 1).trans rfl; clear hr hb1 hk1 h hB
 go_wp2_with (at_builtin; refine spec_l2Text.append_str (w0 := w0) w0.heap.size rfl (.tmp 12) (.tmp 13) 37 9 5 rfl Try.underlying37 Try.underlying9 info5 (.slice Av xs.length cv) xs s rfl rfl ?aO ?aB ?aS ?aL ?_; (case aO => exact Kd.own_of_R HR.out); (case aB => exact HB1.out); (case aS => exact HB1.out.size); (case aL => omega))
 intro v2 w2 ho2 hb2 hg2 hat2
 have hr2 := Kd.R_of_own (h1 := fun _ => rfl) (ok := fun k_ => ok k_ ∨ w1.heap.size ≤ k_) (xs := xs ++ bytesOf s) (by rw [List.length_append]; exact ho2) (fun k_ hk_ => (hat2 k_ hk_).elim (fun h_ => .inl (HR.out.1 k_ h_)) (fun h_ => .inr (by omega)))
 replace hr2 : (Kd.int .u8).R 5 w2 w0.heap.size (fun k_ => ok k_ ∨ w1.heap.size ≤ k_) v2 (xs ++ bytesOf s) := hr2; have hbk2 : w2.heap[b]? = some (.cells #[.pointer (some ⟨b, 0, none⟩), .slice Av xs.length cv] 49 (0, 0)) := (hg2.block b hlt (Kd.R_ne HR.out HBK.out (by decide))).trans HBK.out; obtain ⟨A2, cc2, rfl⟩ := Kd.R_slice hr2; generalize (xs ++ bytesOf s).length = n2 at hr2 ⊢; have d1 : w2.cell? ⟨b, 1, none⟩ = some (.slice Av xs.length cv) := (blk_cell hbk2 1).trans rfl; have f1 : w2.frozen? ⟨b, 1, none⟩ = false := blk_frozen hbk2 1; have HR2 := Aside0.mk hr2; have HB2 := Aside0.mk hb2; have HG2 := Aside0.mk hg2; clear hr2 hb2 hg2 ho2 hat2
 go_wp2
 go_ret2
 have hR3 := Kd.R_mono (Kd.R_bound (Kd.R_far (p := ⟨b, 1, none⟩) (Kd.R_types HR2.out hbk2 (by decide)) (fun _ hk => hk.2) (.slice A2 n2 cc2))) (ok' := fun k => (ok k ∨ w1.heap.size ≤ k) ∧ k < (w2.setCell ⟨b, 1, none⟩ (.slice A2 n2 cc2)).heap.size) (fun k hk => ⟨hk.1.1, hk.2.2.1⟩); refine ⟨rfl, _, ⟨hge, _, _, .inr rfl, blk_put (cs := #[.pointer (some ⟨b, 0, none⟩), .slice Av xs.length cv]) hbk2 1 _ rfl, hR3⟩, below_set HB2.out hge, ?_, fun k hk => ?_⟩
 ·refine (HK1.out.mono (fun k hk => .inl hk)).then_ (S2 := fun k => k = b ∨ ok k) ?_ (fun k hk => .inl hk)
  refine Kept.then_ (S2 := fun k => k = b) (W := w2) ((Kept.of_grown HG2.out (Kept.refl w1 _) (fun k e => .inl (.inr (HR.out.1 k e))))) ⟨by rw [World.size_setCell]; exact Nat.le_refl _, fun k _ hn => Below.heap_setCell w2 ⟨b, 1, none⟩ _ k hn⟩ (fun k hk => .inl (.inl hk))
 ·exact hk.1.elim .inl (fun e => .inr ⟨Nat.le_trans HK1.out.1 e, hk.2⟩)
theorem endW {w0 W w' : World} {b : Nat} {ok okc : Nat → Prop} {xs : List Int} {l : List Ob} (h : Aside0 (St w0 w' l)) (i : Nat) (hi : nth l i = some (ObW w0 b okc xs)) (hk : Aside0 (Kept W w' (fun k => k = b ∨ ok k))) (hn : Aside0 (∀ k, okc k → ok k ∨ W.heap.size ≤ k)) : StepW w0 W w' b ok okc xs :=
 ⟨getW h i hi, h.out.below, hk.out, fun k hk2 => (hn.out k hk2).imp id (fun e => ⟨e, ((h.out.each _ (nth_mem hi)).1 k (.inr hk2)).2⟩)⟩
theorem keepW {w0 W c w' : World} {b : Nat} {ok okc ok' : Nat → Prop} {ys : List Int} (hk : Aside0 (Kept W c (fun k => k = b ∨ ok k))) (hn : Aside0 (∀ k, okc k → ok k ∨ W.heap.size ≤ k)) (s : StepW w0 c w' b okc ok' ys) :
  Aside0 (Kept W w' (fun k => k = b ∨ ok k)) ∧ Aside0 (∀ k, ok' k → ok k ∨ W.heap.size ≤ k) :=
 ⟨⟨hk.out.then_ s.kept (fun q hq => hq.elim (fun e => .inl (.inl e)) (fun e => (hn.out q e).imp .inr id))⟩, ⟨fun k hk2 => (s.new k hk2).elim (hn.out k) (fun e => .inr (Nat.le_trans hk.out.1 e.1))⟩⟩
def ints (l : List UInt8) : List Int := l.map fun b => (b.toNat : Int)
theorem ints_len (l : List UInt8) : (ints l).length = l.length := by simp [ints]
theorem ints_snoc (l : List UInt8) (c : UInt8) : ints (l ++ [c]) = ints l ++ [(c.toNat : Int)] := by simp [ints]
theorem ints_text (l : List UInt8) (s : ByteArray) : ints (l ++ s.data.toList) = ints l ++ bytesOf s := by simp [ints, bytesOf]
mutual
def impl_Tree_write.f : Nat → List S66 → Int → List UInt8 → Option (List UInt8)
 | 0, _, _, _ => none
 | k + 1, t, a, out => if 0 ≤ a then (if a < (t.length : Int) then (if (rd_T66 t a).f0.toList = ([] : List UInt8) then (if out.length < 140737488355328 then impl_Tree_write.l0 k t (rd_T66 t a).f1 0 (out ++ [40]) else none) else (if out.length + (rd_T66 t a).f0.size < 140737488355328 then some (out ++ (rd_T66 t a).f0.data.toList) else none)) else none) else none
def impl_Tree_write.l0 : Nat → List S66 → List Int → Int → List UInt8 → Option (List UInt8)
 | 0, _, _, _, _ => none
 | k + 1, t, kids, i, out => if i < (kids.length : Int) then (if 0 ≤ i then (if i > 0 then (if out.length < 140737488355328 then ((impl_Tree_write.f k t (rd kids i) (out ++ [32])).bind fun o => impl_Tree_write.l0 k t kids (wrap64 (i + 1)) o) else none) else ((impl_Tree_write.f k t (rd kids i) out).bind fun o => impl_Tree_write.l0 k t kids (wrap64 (i + 1)) o)) else none) else (if out.length < 140737488355328 then some (out ++ [41]) else none)
end
set_option maxHeartbeats 8000000 in
set_option maxRecDepth 100000 in
theorem impl_Tree_write.walk (k : Nat) : ∀ (A0 : Option Addr) (c0 : Nat) (l0 : List S66) (a : Int) (out r : List UInt8) (b : Nat) (ok : Nat → Prop) (w0 W : World) (hr0 : Kd.C k66 w0 A0 l0.length l0) (hc0 : l0.length ≤ c0) (hB : Below w0.heap.size w0 W) (hw : Bw w0 W b ok (ints out)) (hlt : ∀ k, k = b ∨ ok k → w0.heap.size ≤ k ∧ k < W.heap.size) (h : impl_Tree_write.f k l0 a out = some r),
  Calls Try.prog 25 #[.agg #[.slice A0 l0.length c0], .pointer (some ⟨b, 0, none⟩), .int .i64 a] W fun e w' => e = .returned (.tuple #[]) ∧ ∃ ok', StepW w0 W w' b ok ok' (ints r) := by
 induction k using Nat.strongRecOn with
 | _ k ih =>
 intro A0 c0 l0 a out r b ok w0 W hr0 hc0 hB hw hlt h
 cases k with
 | zero => exact absurd h (by simp [impl_Tree_write.f])
 | succ k =>
 simp only [impl_Tree_write.f] at h
 have hu29 := Try.underlying29; have hu66 := Try.underlying66; have HR0 := Aside0.mk hr0; have HC0 := Aside0.mk hc0
 have HS0 : Aside0 (St w0 W [ObW w0 b ok (ints out)]) := ⟨⟨hB, fun o ho => by
  rw [List.mem_singleton.1 ho]
  exact ⟨hlt, ObW_foot _ _ _ _, hw⟩, List.pairwise_singleton _ _⟩⟩
 have HK0 := Aside0.mk (Kept.refl W (fun k => k = b ∨ ok k)); have HN0 := Aside0.mk (fun (q : Nat) (hq : ok q) => (Or.inl hq : ok q ∨ W.heap.size ≤ q)); have IH := Aside0.mk ih; clear hr0 hc0 hB hw hlt ih
 by_cases a0 : 0 ≤ a
 ·rw [if_pos a0] at h
  by_cases a1 : a < (l0.length : Int)
  ·rw [if_pos a1] at h
   obtain ⟨ad, Ak, ck, rfl, hy0, hy1, hkl, hkc⟩ := at_T66 HR0.out a a0 a1; have HKC := Aside0.mk hkc; have HKL := Aside0.mk hkl; have HY0 := Aside0.mk hy0; have HY1 := Aside0.mk hy1; clear hkc hkl hy0 hy1; generalize hN : (rd_T66 l0 a) = N at *; clear hN; have a0b : decide (0 ≤ a) = true := decide_eq_true a0; have a1b : decide (a < (l0.length : Int)) = true := decide_eq_true a1; replace a0 := eq_true a0; replace a1 := eq_true a1
   go_enter Try.func25, Try.ntmps25
   have HH := Aside0.mk h; clear h
   go_upto_region 2 with (first | ((with_reducible refine gate_dst (N := 3) rfl ?_); refine be 3 #[.slice (some ad) l0.length c0] 29 ?_; intro g3 hg3 w1 hx3 hb3; have HS1 := St.box HS0 hg3 hx3 hb3; have HK1 := Aside0.mk (HK0.out.below hb3); clear hg3 hx3 hb3; have hz3 : w1.cell? ⟨g3, 0, none⟩ = some (.slice (some ad) l0.length c0) := (blk_cell (St.getB HS1 0 rfl ⟨0, rfl⟩) 0).trans rfl; have hy0 := (HS1.out.below.cell (World.block_lt_of_cell? w0 _ HY0.out)).trans HY0.out; have hy1 := (HS1.out.below.cell (World.block_lt_of_cell? w0 _ HY1.out)).trans HY1.out) | ((with_reducible refine gate_dst (N := 6) rfl ?_); refine be 6 #[.string (⟨#[]⟩ : ByteArray), .slice none 0 0] 66 ?_; intro g6 hg6 w2 hx6 hb6; have HG6 := Aside0.mk (show W.heap.size ≤ g6 by rw [hg6]; exact HK1.out.1); have HS2 := St.box HS1 hg6 hx6 hb6; have HK2 := Aside0.mk (Kept.below HK1.out hb6); clear hg6 hx6 hb6 hz3 hy0 hy1; have hc60 : w2.cell? ⟨g6, 0, none⟩ = some (.string (⟨#[]⟩ : ByteArray)) := (blk_cell (St.getB HS2 0 rfl ⟨0, rfl⟩) 0).trans rfl; have hc61 : w2.cell? ⟨g6, 1, none⟩ = some (.slice none 0 0) := (blk_cell (St.getB HS2 0 rfl ⟨0, rfl⟩) 1).trans rfl; have hf60 : w2.frozen? ⟨g6, 0, none⟩ = false := blk_frozen (St.getB HS2 0 rfl ⟨0, rfl⟩) 0; have hf61 : w2.frozen? ⟨g6, 1, none⟩ = false := blk_frozen (St.getB HS2 0 rfl ⟨0, rfl⟩) 1))
   clear hc60 hc61 hf60 hf61; have HS3 : Aside0 (St w0 ((w2.setCell ⟨g6, 0, none⟩ (.string N.f0)).setCell ⟨g6, 1, none⟩ (.slice Ak N.f1.length ck)) _) := St.store HS2 0 rfl (by repeat (first | exact KeepBut.refl _ _ _ | apply KeepBut.set_)) (o' := .cells #[.string N.f0, .slice Ak N.f1.length ck] 66 (0, 0)) (by refine blk_put (cs := #[.string N.f0, .slice none 0 0]) ?_ 1 _ rfl; refine blk_put (cs := #[.string (⟨#[]⟩ : ByteArray), .slice none 0 0]) ?_ 0 _ rfl; exact St.getB HS2 0 rfl ⟨0, rfl⟩) (below_set (below_set HS2.out.below (St.lowB HS2 0 rfl)) (St.lowB HS2 0 rfl))
   have HK3 : Aside0 (Kept W ((w2.setCell ⟨g6, 0, none⟩ (.string N.f0)).setCell ⟨g6, 1, none⟩ (.slice Ak N.f1.length ck)) (fun k => k = b ∨ ok k)) := ⟨Kept.setCell (Kept.setCell HK2.out (.inr HG6.out) _) (.inr HG6.out) _⟩; generalize (w2.setCell ⟨g6, 0, none⟩ (.string N.f0)).setCell ⟨g6, 1, none⟩ (.slice Ak N.f1.length ck) = w3 at HS3 HK3 ⊢; have hz60 : w3.cell? ⟨g6, 0, none⟩ = some (.string N.f0) := (blk_cell (St.getB HS3 0 rfl ⟨0, rfl⟩) 0).trans rfl; have hz61 : w3.cell? ⟨g6, 1, none⟩ = some (.slice Ak N.f1.length ck) := (blk_cell (St.getB HS3 0 rfl ⟨0, rfl⟩) 1).trans rfl; clear HS0 HS1 HS2 HK1 HK2; have HW3 := Aside0.mk (show Bw w0 w3 b ok (ints out) from getW HS3 2 rfl ⟨0, rfl⟩); have HB3 := Aside0.mk HS3.out.below; have hlen := ints_len out; have HLEN := Aside0.mk hlen; clear hlen; have h := HH.out; clear HH
   by_cases ct : N.f0.toList = ([] : List UInt8)
   ·rw [if_pos ct] at h
    have ctb : (N.f0.toList != ([] : List UInt8)) = false := bne_eq_false_iff_eq.mpr ct; have cte : N.f0.toList.isEmpty = true := List.isEmpty_iff.2 ct; clear ct
    by_cases c1 : out.length < 140737488355328
    ·rw [if_pos c1] at h
     have HL := Aside0.mk h; have HC1 := Aside0.mk c1; clear h c1
     go_wp2_with (go_at_call 46; refine (impl_WriteTree.byteW HW3.out HB3.out 40 (by have := HC1.out; have := HLEN.out; omega)).mono ?_; rintro e w4 ⟨rfl, ok4, s4⟩; have HS4 := St.stepW HS3 2 rfl s4; obtain ⟨HK4, HN4⟩ := keepW HK3 HN0 s4; clear s4; have hq61 : w4.cell? ⟨g6, 1, none⟩ = some (.slice Ak N.f1.length ck) := (blk_cell (St.getB HS4 0 rfl ⟨0, rfl⟩) 1).trans rfl)
     have hkl := HKL.out; clear hz60 hz61 hq61
     (try simp only [Act.put, List.setIfInBounds_toArray, List.set_cons_zero, List.set_cons_succ])
     go_loopg [26] k (fun kq s26 wr => ∃ (i : Int) (o : List UInt8) (okc : Nat → Prop), s26 = .int .i64 i ∧ Aside0 (kq ≤ k) ∧ Aside0 (impl_Tree_write.l0 kq l0 N.f1 i o = some r) ∧ Aside0 (St w0 wr [Ob.B g6 (.cells #[.string N.f0, .slice Ak N.f1.length ck] 66 (0, 0)), Ob.B g3 (.cells #[.slice (some ad) l0.length c0] 29 (0, 0)), ObW w0 b okc (ints o)]) ∧ Aside0 (Kept W wr (fun k => k = b ∨ ok k)) ∧ Aside0 (∀ q, okc q → ok q ∨ W.heap.size ≤ q))
     case atStart => exact ⟨0, out ++ [40], ok4, rfl, ⟨Nat.le_refl _⟩, HL, ⟨by rw [ints_snoc]; exact St.lift HS4⟩, HK4, HN4⟩
     case round =>
      clear HL HS3 HS4 HK3 HK4 HN4 HW3 HB3 HLEN; obtain ⟨i, o, okc, rfl, HK1, HX, H, HK, HN⟩ := hrel
      cases gk with
      | zero => exact absurd HX.out (by simp [impl_Tree_write.l0])
      | succ k1 =>
       have hX := HX.out; clear HX
       simp only [impl_Tree_write.l0] at hX
       by_cases hi : i < (N.f1.length : Int)
       ·rw [if_pos hi] at hX
        by_cases i0 : 0 ≤ i
        ·rw [if_pos i0] at hX
         obtain ⟨adk, eAk, hkx⟩ := Kd.at_int HKC.out i i0 hi
         subst eAk
         have hkx2 := (H.out.below.cell (World.block_lt_of_cell? w0 _ hkx)).trans hkx; have hib : decide (i < (N.f1.length : Int)) = true := decide_eq_true hi; have i0b : decide (0 ≤ i) = true := decide_eq_true i0; have hz3 : wr.cell? ⟨g3, 0, none⟩ = some (.slice (some ad) l0.length c0) := (blk_cell (St.getB H 1 rfl ⟨0, rfl⟩) 0).trans rfl; have hlen := ints_len o; have HLEN := Aside0.mk hlen; have HKX := Aside0.mk hkx; have HW := Aside0.mk (show Bw w0 wr b okc (ints o) from getW H 2 rfl ⟨0, rfl⟩); have HB := Aside0.mk H.out.below; clear hlen hkx; replace hi := eq_true hi; replace i0 := eq_true i0
         by_cases ip : i > 0
         ·rw [if_pos ip] at hX
          have ipb : decide (0 < i) = true := decide_eq_true ip; clear ip
          by_cases c2 : o.length < 140737488355328
          ·rw [if_pos c2] at hX
           obtain ⟨o2, A2_, hX⟩ := Option.bind_eq_some_iff.1 hX; have H2 := Aside0.mk A2_; have HX := Aside0.mk hX; have HC2 := Aside0.mk c2; clear A2_ hX c2
           go_wp2_with (first | (go_at_call 46; refine (impl_WriteTree.byteW HW.out HB.out 32 (by have := HC2.out; have := HLEN.out; omega)).mono ?_; rintro e w4 ⟨rfl, ok4, s4⟩; have HS4 : Aside0 (St w0 w4 [Ob.B g6 (.cells #[.string N.f0, .slice (some adk) N.f1.length ck] 66 (0, 0)), Ob.B g3 (.cells #[.slice (some ad) l0.length c0] 29 (0, 0)), ObW w0 b ok4 (ints (o ++ [32]))]) := (by rw [ints_snoc]; exact St.stepW H 2 rfl s4); obtain ⟨HK4, HN4⟩ := keepW HK HN s4; clear s4; have hq3 : w4.cell? ⟨g3, 0, none⟩ = some (.slice (some ad) l0.length c0) := (blk_cell (St.getB HS4 1 rfl ⟨0, rfl⟩) 0).trans rfl) | (go_at_call 25; refine (IH.out k1 (by have := HK1.out; omega) (some ad) c0 l0 (rd N.f1 i) (o ++ [32]) o2 b ok4 w0 w4 HR0.out HC0.out HS4.out.below (getW HS4 2 rfl ⟨0, rfl⟩) (fun q hq => (HS4.out.each _ (nth_mem (i := 2) rfl)).1 q hq) H2.out).mono ?_; rintro e w5 ⟨rfl, ok5, s5⟩; have HS5 := St.stepW HS4 2 rfl s5; obtain ⟨HK5, HN5⟩ := keepW HK4 HN4 s5; clear s5))
           go_roundg k1
           case measure => omega
           case rel => exact ⟨wrap64 (i + 1), o2, ok5, by first | rfl | (simp; done) | go_num, ⟨by have := HK1.out; omega⟩, HX, ⟨St.lift HS5⟩, HK5, HN5⟩
          ·rw [if_neg c2] at hX; cases hX
         ·rw [if_neg ip] at hX
          have ipb : decide (0 < i) = false := decide_eq_false ip; clear ip; obtain ⟨o2, A2_, hX⟩ := Option.bind_eq_some_iff.1 hX; have H2 := Aside0.mk A2_; have HX := Aside0.mk hX; clear A2_ hX
          go_wp2_with (go_at_call 25; refine (IH.out k1 (by have := HK1.out; omega) (some ad) c0 l0 (rd N.f1 i) (o) o2 b okc w0 wr HR0.out HC0.out H.out.below (getW H 2 rfl ⟨0, rfl⟩) (fun q hq => (H.out.each _ (nth_mem (i := 2) rfl)).1 q hq) H2.out).mono ?_; rintro e w5 ⟨rfl, ok5, s5⟩; have HS5 := St.stepW H 2 rfl s5; obtain ⟨HK5, HN5⟩ := keepW HK HN s5; clear s5)
          go_roundg k1
          case measure => omega
          case rel => exact ⟨wrap64 (i + 1), o2, ok5, by first | rfl | (simp; done) | go_num, ⟨by have := HK1.out; omega⟩, HX, ⟨St.lift HS5⟩, HK5, HN5⟩
        ·rw [if_neg i0] at hX; cases hX
       ·rw [if_neg hi] at hX
        have hib : decide (i < (N.f1.length : Int)) = false := decide_eq_false hi
        by_cases c2 : o.length < 140737488355328
        ·rw [if_pos c2] at hX
         obtain rfl := Option.some.inj hX; have hlen := ints_len o; have HLEN := Aside0.mk hlen; have HC2 := Aside0.mk c2; have HW := Aside0.mk (show Bw w0 wr b okc (ints o) from getW H 2 rfl ⟨0, rfl⟩); have HB := Aside0.mk H.out.below; clear hX hlen c2 hi
         go_wp2_with (go_at_call 46; refine (impl_WriteTree.byteW HW.out HB.out 41 (by have := HC2.out; have := HLEN.out; omega)).mono ?_; rintro e w4 ⟨rfl, ok4, s4⟩; have HS4 := St.stepW H 2 rfl s4; obtain ⟨HK4, HN4⟩ := keepW HK HN s4; clear s4)
         go_end0
         exact ⟨rfl, ok4, by rw [ints_snoc]; exact endW HS4 2 rfl HK4 HN4⟩
        ·rw [if_neg c2] at hX; cases hX
    ·rw [if_neg c1] at h; cases h
   ·rw [if_neg ct] at h
    have ctb : (N.f0.toList != ([] : List UInt8)) = true := bne_iff_ne.mpr ct; have cte : N.f0.toList.isEmpty = false := Bool.eq_false_iff.2 (fun h_ => ct (List.isEmpty_iff.1 h_)); clear ct
    by_cases c1 : out.length + N.f0.size < 140737488355328
    ·rw [if_pos c1] at h
     obtain rfl := Option.some.inj h; have HC1 := Aside0.mk c1; clear h c1
     go_wp2_with (go_at_call 45; refine (impl_WriteTree.textW HW3.out HB3.out N.f0 (by have := HC1.out; have := HLEN.out; omega)).mono ?_; rintro e w4 ⟨rfl, ok4, s4⟩; have HS4 := St.stepW HS3 2 rfl s4; obtain ⟨HK4, HN4⟩ := keepW HK3 HN0 s4; clear s4)
     refine bodyPost_ret (results_none rfl _ _ _) rfl ?_
     exact ⟨rfl, ok4, by rw [ints_text]; exact endW HS4 2 rfl HK4 HN4⟩
    ·rw [if_neg c1] at h; cases h
  ·rw [if_neg a1] at h; cases h
 ·rw [if_neg a0] at h; cases h
theorem Bw.is {w0 W : World} {b : Nat} {ok : Nat → Prop} {l : List UInt8} (h : Bw w0 W b ok (ints l)) : Lib.IsBuilder 49 5 w0.heap.size b (Lib.byteCells l) W := by
 obtain ⟨hg, p, v, hp, hb, hr⟩ := h; have ho := Kd.own_of_R hr
 have e1 : encs (Value.int .u8) (ints l) = Lib.byteCells l := by simp [encs, ints, Lib.byteCells]
 have e2 : (ints l).length = (Lib.byteCells l).length := by rw [ints_len, Lib.byteCells_length]
 have hne : v.ownBlock ≠ some b := fun e => Kd.R_ne hr hb (by decide) e.symm
 have ho2 : W.ownsRow w0.heap.size 5 1 v (Lib.byteCells l).length (Lib.byteCells l) := by
  rw [← e2]
  exact e1 ▸ ho
 rcases hp with rfl | rfl
 ·exact .inl ⟨hg, v, hb, ho2, hne⟩
 ·exact .inr ⟨hg, v, hb, ho2, hne⟩
def impl_WriteTree.f (k : Nat) (t : List S66) : Option ByteArray := (impl_TreeOk.f k t).bind fun b => if b = true then ((impl_Tree_write.f k t 0 []).bind fun r => if (r.length : Int) > 20000 then some ⟨#[]⟩ else some ⟨r.toArray⟩) else some ⟨#[]⟩
set_option maxHeartbeats 8000000 in
set_option maxRecDepth 100000 in
theorem impl_WriteTree.calls (k : Nat) (A0_0 : Option Addr) (c0_0 : Nat) (l0_0 : List (S66)) (r : ByteArray) (w : World) (hr0_0 : Kd.C k66 w A0_0 l0_0.length l0_0) (hc0_0 : l0_0.length ≤ c0_0) (h : impl_WriteTree.f k l0_0 = some r) :
  Calls Try.prog 9 #[.agg #[.slice A0_0 l0_0.length c0_0]] w fun e w' => e = .returned (.string r) ∧ Below w.heap.size w w' := by
 have hu29 := Try.underlying29; obtain ⟨t1, A1_, h⟩ := Option.bind_eq_some_iff.1 h; have H1 := Aside0.mk A1_; have HR0 := Aside0.mk hr0_0; have HC0 := Aside0.mk hc0_0; clear A1_ hr0_0 hc0_0; have HH := Aside0.mk h; clear h
 go_enter Try.func9, Try.ntmps9
 go_upto_if 6 with (first | ((with_reducible refine gate_dst (N := 1) rfl ?_); refine be 1 #[.slice A0_0 l0_0.length c0_0] 29 ?_; intro g1 hg1 w1 hx1 hb1; have HS1 := St.box (St.nil w) hg1 hx1 hb1; clear hg1 hx1 hb1; have hz1 : w1.cell? ⟨g1, 0, none⟩ = some (.slice A0_0 l0_0.length c0_0) := (blk_cell (St.getB HS1 0 rfl ⟨0, rfl⟩) 0).trans rfl) | (go_at_call 19; refine (impl_TreeOk.calls k A0_0 c0_0 l0_0 t1 _ (Kd.C_below HR0.out (St.lift HS1).below) HC0.out H1.out).mono ?_; rintro e w2 ⟨rfl, hb2⟩; have HS2 := St.call HS1 hb2; clear hb2 hz1; have hz2 : w2.cell? ⟨g1, 0, none⟩ = some (.slice A0_0 l0_0.length c0_0) := (blk_cell (St.getB HS2 0 rfl ⟨0, rfl⟩) 0).trans rfl))
 have h := HH.out; clear HH
 cases t1 with
 | false =>
  have h := Option.some.inj h
  subst h
  go_wp2
  go_ret
  exact ⟨rfl, HS2.out.below⟩
 | true =>
  obtain ⟨o, A2_, h⟩ := Option.bind_eq_some_iff.1 h; have H2 := Aside0.mk A2_; have HH := Aside0.mk h; clear A2_ h
  go_upto_region 4 with (first | ((with_reducible refine gate_dst (N := 3) rfl ?_); refine be 3 #[.pointer none, .slice none 0 0] 49 ?_; intro g3 hg3 w3 hx3 hb3; have HS3 := St.box HS2 hg3 hx3 hb3; clear hg3 hx3 hb3 hz2; have hc0 : w3.cell? ⟨g3, 0, none⟩ = some (.pointer none) := (blk_cell (St.getB HS3 0 rfl ⟨0, rfl⟩) 0).trans rfl; have hc1 : w3.cell? ⟨g3, 1, none⟩ = some (.slice none 0 0) := (blk_cell (St.getB HS3 0 rfl ⟨0, rfl⟩) 1).trans rfl; have hf0 : w3.frozen? ⟨g3, 0, none⟩ = false := blk_frozen (St.getB HS3 0 rfl ⟨0, rfl⟩) 0; have hf1 : w3.frozen? ⟨g3, 1, none⟩ = false := blk_frozen (St.getB HS3 0 rfl ⟨0, rfl⟩) 1))
  clear hc0 hc1 hf0 hf1; have HS4 : Aside0 (St w ((w3.setCell ⟨g3, 0, none⟩ (.pointer none)).setCell ⟨g3, 1, none⟩ (.slice none 0 0)) _) := St.store HS3 0 rfl (by repeat (first | exact KeepBut.refl _ _ _ | apply KeepBut.set_)) (o' := .cells #[.pointer none, .slice none 0 0] 49 (0, 0)) (by refine blk_put (cs := #[.pointer none, .slice none 0 0]) ?_ 1 _ rfl; refine blk_put (cs := #[.pointer none, .slice none 0 0]) ?_ 0 _ rfl; exact St.getB HS3 0 rfl ⟨0, rfl⟩) (below_set (below_set HS3.out.below (St.lowB HS3 0 rfl)) (St.lowB HS3 0 rfl))
  generalize (w3.setCell ⟨g3, 0, none⟩ (.pointer none)).setCell ⟨g3, 1, none⟩ (.slice none 0 0) = w4 at HS4 ⊢; have hz4 : w4.cell? ⟨g1, 0, none⟩ = some (.slice A0_0 l0_0.length c0_0) := (blk_cell (St.getB HS4 1 rfl ⟨0, rfl⟩) 0).trans rfl; have HW4 := Aside0.mk (show Bw w w4 g3 (fun _ => False) (ints []) from ⟨St.lowB HS4 0 rfl, _, _, .inl rfl, St.getB HS4 0 rfl ⟨0, rfl⟩, Kd.R_nil _ _ _ _ _⟩); have HLT := Aside0.mk (show ∀ k_, k_ = g3 ∨ False → w.heap.size ≤ k_ ∧ k_ < w4.heap.size from fun k_ hk_ => by rw [hk_.elim id False.elim]; exact ⟨St.lowB HS4 0 rfl, blk_lt (St.getB HS4 0 rfl ⟨0, rfl⟩)⟩)
  clear HS1 HS2 HS3; have h := HH.out; clear HH
  by_cases cl : (o.length : Int) > 20000
  ·rw [if_pos cl] at h
   have clb : decide (20000 < (o.length : Int)) = true := decide_eq_true cl; have cln : decide (20000 < o.length) = true := decide_eq_true (by omega); have h := Option.some.inj h
   subst h
   clear cl
   go_wp2_with (first | (go_at_call 25; refine (impl_Tree_write.walk k A0_0 c0_0 l0_0 0 [] o g3 _ w w4 HR0.out HC0.out HS4.out.below HW4.out HLT.out H2.out).mono ?_; rintro e w5 ⟨rfl, ok5, s5⟩; have HI := Aside0.mk s5.bw.is; have HB5 := Aside0.mk s5.below; clear s5) | (go_at_call 26; refine (Try.Builder_Len w.heap.size g3 _ _ HI.out).mono ?_; rintro e w6 ⟨he, hw⟩; rw [Lib.byteCells_length] at he; subst he; replace hw := hw.symm; subst hw))
   go_ret
   exact ⟨rfl, HB5.out⟩
  ·rw [if_neg cl] at h
   have clb : decide (20000 < (o.length : Int)) = false := decide_eq_false cl; have cln : decide (20000 < o.length) = false := decide_eq_false (by omega); have h := Option.some.inj h
   subst h
   clear cl
   go_wp2_with (first | (go_at_call 25; refine (impl_Tree_write.walk k A0_0 c0_0 l0_0 0 [] o g3 _ w w4 HR0.out HC0.out HS4.out.below HW4.out HLT.out H2.out).mono ?_; rintro e w5 ⟨rfl, ok5, s5⟩; have HI := Aside0.mk s5.bw.is; have HB5 := Aside0.mk s5.below; clear s5) | (go_at_call 26; refine (Try.Builder_Len w.heap.size g3 _ _ HI.out).mono ?_; rintro e w6 ⟨he, hw⟩; rw [Lib.byteCells_length] at he; subst he; replace hw := hw.symm; subst hw) | (go_at_call 27; refine (Try.Builder_String_any w.heap.size g3 o _ HI.out HB5.out.size).mono ?_; rintro e w7 ⟨rfl, hb7⟩; have HB7 := Aside0.mk hb7; clear hb7))
   go_ret
   exact ⟨rfl, HB5.out.trans HB7.out⟩

-- NOT PRINTED: function 29 (spec_l2Reader_begin)

/-! ### spec_l2End: function 30 -/
def spec_l2End.l0 : Nat → ByteArray → Int → Option (Int)
 | 0, _, _ => none
 | k + 1, x0, x1 => if x1 < (x0.size : Int) then (if 0 ≤ x1 then (if x1 ≤ (wrap64 (x1 + 1)) then (if (wrap64 (x1 + 1)) ≤ (x0.size : Int) then ((spec_l2Atom.f k (x0.extract (x1 : Int).toNat ((wrap64 (x1 + 1)) : Int).toNat)).bind fun t151 => (if t151 = true then (spec_l2End.l0 k x0 (wrap64 (x1 + 1))) else (some x1))) else (none)) else (none)) else (none)) else (some x1)
def spec_l2End.f (k : Nat) (a0 : ByteArray) (a1 : Int) : Option (Int) := spec_l2End.l0 k a0 a1
set_option maxHeartbeats 8000000 in
set_option maxRecDepth 100000 in
theorem spec_l2End.calls (k : Nat) (a0 : ByteArray) (a1 : Int) (r : Int) (w : World) (h : spec_l2End.f k a0 a1 = some r) :
  Calls Try.prog 30 #[.string a0, .int .i64 a1] w fun e w' => e = .returned (.int .i64 r) ∧ Drawn0 w w' := by
 have H : (spec_l2End.l0 k a0 a1) = some r := h; clear h; have H' := Aside0.mk H; clear H
 go_enter Try.func30, Try.ntmps30
 go_wp2
 go_loopg [1] k (fun kq v1 w' => ∃ (x1_1 : Int), v1 = .int .i64 x1_1 ∧ Aside0 (spec_l2End.l0 kq a0 x1_1 = some r) ∧ Aside0 (kq ≤ k) ∧ Drawn0 w w')
 case atStart => exact ⟨(a1), au, H', ⟨Nat.le_refl _⟩, dr⟩
 case round =>
  clear H'
  try clear p2
  obtain ⟨x1_1, rfl, HA, HK1, ⟨m1, rfl⟩⟩ := hrel
  cases gk with
  | zero => exact absurd HA.out (by simp [spec_l2End.l0])
  | succ k1 =>
   have H := HA.out; clear HA
   simp only [spec_l2End.l0] at H
   by_cases c3 : x1_1 < (a0.size : Int)
   ·rw [if_pos c3] at H
    have c3b0 : decide (x1_1 < (a0.size : Int)) = true := decide_eq_true c3; clear c3
    by_cases c4 : 0 ≤ x1_1
    ·rw [if_pos c4] at H
     have c4b0 := eq_true c4; have c4b1 : decide (0 ≤ x1_1) = true := decide_eq_true c4; clear c4
     by_cases c5 : x1_1 ≤ (wrap64 (x1_1 + 1))
     ·rw [if_pos c5] at H
      have c5b0 := eq_true c5; have c5b1 : decide (x1_1 ≤ (wrap64 (x1_1 + 1))) = true := decide_eq_true c5
      by_cases c6 : (wrap64 (x1_1 + 1)) ≤ (a0.size : Int)
      ·rw [if_pos c6] at H
       have c6b0 := eq_true c6; have c6b1 : decide ((wrap64 (x1_1 + 1)) ≤ (a0.size : Int)) = true := decide_eq_true c6; replace H := Option.bind_eq_some_iff.mp H; obtain ⟨t151, A70, H⟩ := H; replace H : (if t151 = true then (spec_l2End.l0 k1 a0 (wrap64 (x1_1 + 1))) else (some x1_1)) = some r := H; have A7 := Aside0.mk A70; clear A70
       by_cases c8 : t151 = true
       ·subst c8
        have H1 : (spec_l2End.l0 k1 a0 (wrap64 (x1_1 + 1))) = some r := by rw [if_pos rfl] at H; exact H
        clear H; have H := H1; clear H1; have H' := Aside0.mk H; clear H
        go_wp2_with (first | (go_at_call 48; (with_reducible refine (spec_l2Atom.calls k1 (a0.extract (x1_1 : Int).toNat ((wrap64 (x1_1 + 1)) : Int).toNat) true _ A7.out).mono ?_); rintro e w' ⟨rfl, ⟨nd, rfl⟩⟩))
        go_roundg k1
        case measure => have := HK1.out; omega
        case rel => exact ⟨(wrap64 (x1_1 + 1)), au, H', ⟨by have := HK1.out; omega⟩, dr⟩
       ·replace c8 := Bool.eq_false_iff.mpr c8
        subst c8
        have H1 : (some x1_1) = some r := by rw [if_neg (show ¬ (false = true) by decide)] at H; exact H
        clear H; have H := H1; clear H1; obtain rfl := Option.some.inj H
        go_wp2_with (first | (go_at_call 48; (with_reducible refine (spec_l2Atom.calls k1 (a0.extract (x1_1 : Int).toNat ((wrap64 (x1_1 + 1)) : Int).toNat) false _ A7.out).mono ?_); rintro e w' ⟨rfl, ⟨nd, rfl⟩⟩))
        go_ret
        exact ⟨au, dr⟩
      ·rw [if_neg c6] at H
       exact absurd H (by simp)
     ·rw [if_neg c5] at H
      exact absurd H (by simp)
    ·rw [if_neg c4] at H
     exact absurd H (by simp)
   ·rw [if_neg c3] at H
    have c3b0 : decide (x1_1 < (a0.size : Int)) = false := decide_eq_false c3; clear c3; obtain rfl := Option.some.inj H
    go_wp2
    go_ret
    exact ⟨au, dr⟩

end Go.Proofs.Ytjjlcmfjmdfedaa.PFnTreeBack
