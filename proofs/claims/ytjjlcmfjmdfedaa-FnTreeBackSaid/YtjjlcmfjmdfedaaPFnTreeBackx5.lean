-- Written by a program of this session (a turned copy of the kit's printer); Lean checks it.
-- half the depth
import Derived.Test.YtjjlcmfjmdfedaaPFnTreeBackx0
import Derived.Test.YtjjlcmfjmdfedaaPFnTreeBackx4
namespace Go.Proofs.Ytjjlcmfjmdfedaa.PFnTreeBack
open Go.RowKit Go.Proofs.YtjjlcmfjmdfedaaW.PrintWords Go.Proofs.YtjjlcmfjmdfedaaW.PrintLast Go.Proofs.YtjjlcmfjmdfedaaW.PrintMore
attribute [local go_sem] max2_int min2_int max_two min_two max_three min_three max_four min_four   -- for this text's walks alone
set_option linter.unusedVariables false
set_option linter.unusedSimpArgs false

/-! ### spec_ReadTree: function 11 -/
theorem rt_inf66 : (Try.prog.info? 66).map (fun i => (i.zero, i.size, i.bytes)) = some (some (.agg #[.string ⟨#[]⟩, .slice none 0 0]), 2, 40) := by kernel_rfl
theorem rt_inf2 : (Try.prog.info? 2).map (fun i => (i.zero, i.size, i.bytes)) = some (some (.int .i64 0), 1, 8) := by kernel_rfl
theorem rt_inf3 : (Try.prog.info? 3).map (fun i => (i.zero, i.size, i.bytes)) = some (some (.int .i64 0), 1, 8) := by kernel_rfl
theorem rt_growR {α : Type} {d : Kd α} {e : Nat} {ok : Nat → Prop} {v v2 : Value} {xs ys : List α} {w0 W w2 : World} {l : List Ob} (h : Aside0 (St w0 W l)) (i : Nat) (hi : nth l i = some (Ob.R w0 d e ok v xs)) (hg : W.grownBy w2 v.ownBlock) (hb : Below w0.heap.size w0 w2) (hr : d.R e w2 w0.heap.size (fun q => ok q ∨ W.heap.size ≤ q) v2 ys) :
  ∃ ok', Aside0 (St w0 w2 (put l i (Ob.R w0 d e ok' v2 ys))) :=
 ⟨fun q => (ok q ∨ W.heap.size ≤ q) ∧ q < w2.heap.size, ⟨St.turn h.out i hi hb hg.size (fun q hlt hn => hg.block q hlt (fun e => hn ((St.getR h i hi ⟨0, rfl⟩).1 q e.symm))) (fun q hq => hq.1.elim .inl (fun e => .inr ⟨e, hq.2⟩)) (Ob.R_foot _ _ _ _ _ _) (Kd.R_mono (Kd.R_bound hr) (fun q hq => ⟨hq.1, hq.2.2.1⟩))⟩⟩
/-- A row of elements apart has grown. -/
theorem rt_growS {α : Type} {d : Kd α} {e : Nat} {ok : Nat → Prop} {v v2 : Value} {xs ys : List α} {w0 W w2 : World} {l : List Ob} (h : Aside0 (St w0 W l)) (i : Nat) (hi : nth l i = some (Ob.S w0 d e ok v xs)) (hg : W.grownBy w2 v.ownBlock) (hb : Below w0.heap.size w0 w2) (hr : Kd.S d e w2 w0.heap.size (fun q => ok q ∨ W.heap.size ≤ q) v2 ys) :
  ∃ ok', Aside0 (St w0 w2 (put l i (Ob.S w0 d e ok' v2 ys))) :=
 ⟨fun q => (ok q ∨ W.heap.size ≤ q) ∧ q < w2.heap.size, ⟨St.turn h.out i hi hb hg.size (fun q hlt hn => hg.block q hlt (fun e => hn ((Kd.S_R (St.getS (W' := W) h i hi ⟨0, rfl⟩)).1 q e.symm))) (fun q hq => hq.1.elim .inl (fun e => .inr ⟨e, hq.2⟩)) (Ob.S_foot _ _ _ _ _ _) (Kd.S_mono (Kd.S_bound hr) (fun q hq => ⟨hq.1, hq.2.2.1⟩))⟩⟩
theorem rt_cutR {α : Type} {d : Kd α} {e : Nat} {ok : Nat → Prop} {A : Option Addr} {n m c : Nat} {xs : List α} {w0 W : World} {l : List Ob} (h : Aside0 (St w0 W l)) (i : Nat) (hi : nth l i = some (Ob.R w0 d e ok (.slice A n c) xs)) (hm : m ≤ xs.length) : Aside0 (St w0 W (put l i (Ob.R w0 d e ok (.slice A m c) (xs.take m)))) :=
 ⟨St.turn h.out i hi h.out.below (Nat.le_refl _) (fun _ _ _ => rfl) (fun q hq => .inl hq) (Ob.R_foot _ _ _ _ _ _) (Kd.R_take (St.getR (W' := W) h i hi ⟨0, rfl⟩) hm)⟩
/-- A number more among a node's kids. -/
def rtKid (ns : List S66) (up k : Int) : List S66 := ns.set up.toNat ⟨(rd_T66 ns up).f0, (rd_T66 ns up).f1 ++ [k]⟩
/-- A node is begun: its code, the nodes. -/
def rtBegin (ns : List S66) (op : List Int) (text : ByteArray) : Option (Int × List S66) :=
 if op.length = 0 then (if 0 < ns.length then some (4, ns) else some (0, ns ++ [S66.mk text []]))
 else if 100 < op.length then some (5, ns)
 else if ns.length = 2000 then some (6, ns)
 else if ns.length < 2000 then (if 0 ≤ rd op ((op.length : Int) - 1) then (if rd op ((op.length : Int) - 1) < (ns.length : Int) then (if (rd_T66 ns (rd op ((op.length : Int) - 1))).f1.length < 17592186044416 then some (0, rtKid ns (rd op ((op.length : Int) - 1)) ns.length ++ [S66.mk text []]) else none) else none) else none)
 else none
def spec_l2Reader_begin.T11 : Bool × List (List Nat × List Nat) := (true, [([], []), ([0], [0]), ([1], [1]), ([2], [2]), ([3], [3]), ([], []), ([], []), ([6], [6]), ([7], [7]), ([8], [8]), ([9], [9]), ([], []), ([10, 11], [10, 11]), ([12], [12]), ([13], [13]), ([], []), ([15], [15]), ([14, 16], [14, 16]), ([4, 5, 0, 1, 2, 3, 4, 5, 6, 7, 8, 9, 10, 11, 12, 13, 14, 15, 16, 17], [4, 5]), ([18, 0, 1, 2, 3, 4, 5, 6, 7, 8, 9, 10, 11, 12, 13, 14, 15, 16, 17], [18]), ([19, 17, 17, 0, 1, 2, 3, 4, 5, 6, 7, 8, 9, 10, 11, 12, 13, 14, 15, 16, 17], [17, 19])])
def spec_l2Reader_begin.B11 : List Nat := [0, 1, 3, 7, 15, 0, 0, 64, 192, 448, 960, 0, 4032, 8128, 16320, 0, 32768, 131008, 262143, 524287, 1048575]
theorem spec_l2Reader_begin.tab11 : rtab .any (opsOf Try.f29 11) = spec_l2Reader_begin.T11 := by kernel_rfl
theorem spec_l2Reader_begin.bits11 : waitsOk spec_l2Reader_begin.T11.2 spec_l2Reader_begin.B11 = true := by kernel_rfl
set_option maxHeartbeats 8000000 in
set_option maxRecDepth 100000 in
theorem spec_l2Reader_begin.calls (gt : Nat) (okn oko : Nat → Prop) (An Ao : Option Addr) (nn cn no co : Nat) (ns ns' : List S66) (op : List Int) (text : ByteArray) (code : Int) (rest : List Ob) (w0 W : World)
  (en : ns.length = nn) (eo : op.length = no)
  (hS : Aside0 (St w0 W (Ob.B gt (.cells #[.slice An nn cn, .slice Ao no co] 57 (0, 0)) :: Ob.S w0 k66 66 okn (.slice An nn cn) ns :: Ob.R w0 (Kd.int .i64) 3 oko (.slice Ao no co) op :: rest)))
  (h : rtBegin ns op text = some (code, ns')) :
  Calls Try.prog 29 #[.pointer (some ⟨gt, 0, none⟩), .string text] W fun e w' => e = .returned (.int .i64 code) ∧ ∃ (okn' : Nat → Prop) (An' : Option Addr) (cn' : Nat),
   Aside0 (St w0 w' (Ob.B gt (.cells #[.slice An' ns'.length cn', .slice Ao no co] 57 (0, 0)) :: Ob.S w0 k66 66 okn' (.slice An' ns'.length cn') ns' :: Ob.R w0 (Kd.int .i64) 3 oko (.slice Ao no co) op :: rest)) := by
 have hu29 := Try.underlying29; have hu57 := Try.underlying57; have hu66 := Try.underlying66; have HEN := Aside0.mk en; have HEO := Aside0.mk eo; have hz0 : W.cell? ⟨gt, 0, none⟩ = some (.slice An nn cn) := (blk_cell (St.getB hS 0 rfl ⟨0, rfl⟩) 0).trans rfl; have hz1 : W.cell? ⟨gt, 1, none⟩ = some (.slice Ao no co) := (blk_cell (St.getB hS 0 rfl ⟨0, rfl⟩) 1).trans rfl
 unfold rtBegin at h
 rw [en, eo] at h; clear en eo
 by_cases c1 : no = 0
 ·rw [if_pos c1] at h
  by_cases c2 : 0 < nn
  ·rw [if_pos c2] at h
   obtain ⟨e1_, e2_⟩ := Prod.mk.inj (Option.some.inj h)
   subst e1_ e2_
   clear h; have c2b : decide (0 < (nn : Int)) = true := decide_eq_true (by omega); have c2n : decide (0 < nn) = true := decide_eq_true c2
   subst c1
   have HC2 := Aside0.mk c2; clear c2
   go_enter Try.func29, Try.ntmps29
   go_wp2
   go_ret
   exact ⟨rfl, okn, An, cn, by rw [HEN.out]; exact ⟨St.lift hS⟩⟩
  ·rw [if_neg c2] at h
   obtain ⟨e1_, e2_⟩ := Prod.mk.inj (Option.some.inj h)
   subst e1_ e2_
   clear h
   obtain rfl : nn = 0 := by omega
   subst c1
   clear c2
   go_enter Try.func29, Try.ntmps29
   have HLIM := Aside0.mk (show 0 ≤ 2000 by omega)
   go_wp2_with (at_builtin; refine Kd.S_append k66 (w0 := w0) w0.heap.size rfl (.tmp 46) (.tmp 49) 27 66 (.agg #[.string ⟨#[]⟩, .slice none 0 0]) 40 rfl Try.underlying27 rt_inf66 rfl (by decide) (by omega) (.slice An 0 cn) ns (S66.mk text []) [.string text, .slice none 0 0] (fun k_ => okn k_ ∨ W.heap.size ≤ k_) (fun _ => False) rfl (by first | (go_simp; done) | (go_simp; rfl)) ?aP (fun _ hk => hk.elim) ?aF ?aO ?aB ?aS ?aL ?_; (case aP => exact k66_mkM _ _ _ (S66.mk text []) (Kd.R_nil _ _ _ _ _)); (case aF => exact fun _ hk => .inr hk); (case aO => exact Kd.S_mono (St.getS (W' := W) hS 1 rfl ⟨0, rfl⟩) (fun _ h_ => ⟨.inl h_, fun hf => hf⟩)); (case aB => exact hS.out.below); (case aS => exact hS.out.below.size); (case aL => have := HEN.out; have := HLIM.out; omega))
   intro v1 w2 hr2 hb2 hg2 _
   obtain ⟨okn', HS2⟩ := rt_growS hS 1 rfl hg2 hb2 hr2; obtain ⟨An', cn', rfl⟩ := Kd.S_slice hr2
   have hnl : (ns ++ [S66.mk text []]).length = 1 := by rw [List.length_append, HEN.out]; rfl
   rw [hnl] at HS2 ⊢; have HNL := Aside0.mk hnl; clear hnl; clear hr2 hb2 hg2 hz0 hz1; have hz0 : w2.cell? ⟨gt, 0, none⟩ = some (.slice An 0 cn) := (blk_cell (St.getB HS2 0 rfl ⟨0, rfl⟩) 0).trans rfl; have hzf0 : w2.frozen? ⟨gt, 0, none⟩ = false := blk_frozen (St.getB HS2 0 rfl ⟨0, rfl⟩) 0
   go_upto_region 9 with (fail)
   have HS3 : Aside0 (St w0 (w2.setCell ⟨gt, 0, none⟩ (.slice An' 1 cn')) _) := St.store HS2 0 rfl (by repeat (first | exact KeepBut.refl _ _ _ | apply KeepBut.set_)) (o' := .cells #[.slice An' 1 cn', .slice Ao 0 co] 57 (0, 0)) (blk_put (St.getB HS2 0 rfl ⟨0, rfl⟩) 0 (.slice An' 1 cn') rfl) (below_set HS2.out.below (St.lowB HS2 0 rfl)); clear hz0 hzf0 HS2; generalize w2.setCell ⟨gt, 0, none⟩ (.slice An' 1 cn') = w3 at HS3 ⊢; have hz1 : w3.cell? ⟨gt, 1, none⟩ = some (.slice Ao 0 co) := (blk_cell (St.getB HS3 0 rfl ⟨0, rfl⟩) 1).trans rfl
   go_wp2
   go_ret
   exact ⟨rfl, okn', An', cn', by rw [HNL.out]; exact ⟨St.lift HS3⟩⟩
 ·rw [if_neg c1] at h
  have c1b : decide ((no : Int) = 0) = false := decide_eq_false (by omega); have c1n : (no = 0) = False := eq_false c1; have c1e : (no == 0) = false := beq_eq_false_iff_ne.2 c1; have c1d : ((no : Int) == 0) = false := beq_eq_false_iff_ne.2 (by omega); have HC1 := Aside0.mk c1; clear c1
  by_cases c2 : 100 < no
  ·rw [if_pos c2] at h
   obtain ⟨e1_, e2_⟩ := Prod.mk.inj (Option.some.inj h)
   subst e1_ e2_
   clear h; have c2b : decide (100 < (no : Int)) = true := decide_eq_true (by omega); have c2n : decide (100 < no) = true := decide_eq_true c2; clear c2
   go_enter Try.func29, Try.ntmps29
   go_wp2
   go_ret
   exact ⟨rfl, okn, An, cn, by rw [HEN.out]; exact ⟨St.lift hS⟩⟩
  ·rw [if_neg c2] at h
   have c2b : decide (100 < (no : Int)) = false := decide_eq_false (by omega); have c2n : decide (100 < no) = false := decide_eq_false c2; have HC2 := Aside0.mk c2; clear c2
   by_cases c3 : nn = 2000
   ·rw [if_pos c3] at h
    obtain ⟨e1_, e2_⟩ := Prod.mk.inj (Option.some.inj h)
    subst e1_ e2_
    clear h; have HC3 := Aside0.mk c3
    subst c3
    go_enter Try.func29, Try.ntmps29
    go_wp2
    go_ret
    exact ⟨rfl, okn, An, cn, by rw [HEN.out]; exact ⟨St.lift hS⟩⟩
   ·rw [if_neg c3] at h
    have c3b : decide ((nn : Int) = 2000) = false := decide_eq_false (by omega); have c3n : (nn = 2000) = False := eq_false c3; have c3e : (nn == 2000) = false := beq_eq_false_iff_ne.2 c3; have c3d : ((nn : Int) == 2000) = false := beq_eq_false_iff_ne.2 (by omega); clear c3
    by_cases c4 : nn < 2000
    ·rw [if_pos c4] at h
     have HC4 := Aside0.mk c4; clear c4; obtain ⟨m, hm⟩ : ∃ m : Nat, no = m + 1 := ⟨no - 1, by have := HC1.out; omega⟩
     rw [show ((no : Int) - 1) = (m : Int) from by omega] at h; obtain ⟨up, hup⟩ : ∃ up, rd op (m : Int) = up := ⟨_, rfl⟩; rw [hup] at h
     by_cases c5 : 0 ≤ up
     ·rw [if_pos c5] at h
      by_cases c6 : up < (nn : Int)
      ·rw [if_pos c6] at h
       by_cases c7 : (rd_T66 ns up).f1.length < 17592186044416
       ·rw [if_pos c7] at h
        obtain ⟨e1_, e2_⟩ := Prod.mk.inj (Option.some.inj h)
        subst e1_ e2_
        clear h; have HC5 := Aside0.mk c5; have HC6 := Aside0.mk c6; have HC7 := Aside0.mk c7; have HM := Aside0.mk hm; have HUP := Aside0.mk hup; clear c5 c6 c7 hm hup
        go_enter Try.func29, Try.ntmps29
        have HLIM := Aside0.mk (show nn ≤ 2000 by have := HC4.out; omega)
        go_wp2_with (at_builtin; refine Kd.S_append k66 (w0 := w0) w0.heap.size rfl (.tmp 46) (.tmp 49) 27 66 (.agg #[.string ⟨#[]⟩, .slice none 0 0]) 40 rfl Try.underlying27 rt_inf66 rfl (by decide) (by omega) (.slice An nn cn) ns (S66.mk text []) [.string text, .slice none 0 0] (fun k_ => okn k_ ∨ W.heap.size ≤ k_) (fun _ => False) rfl (by first | (go_simp; done) | (go_simp; rfl)) ?aP (fun _ hk => hk.elim) ?aF ?aO ?aB ?aS ?aL ?_; (case aP => exact k66_mkM _ _ _ (S66.mk text []) (Kd.R_nil _ _ _ _ _)); (case aF => exact fun _ hk => .inr hk); (case aO => exact Kd.S_mono (St.getS (W' := W) hS 1 rfl ⟨0, rfl⟩) (fun _ h_ => ⟨.inl h_, fun hf => hf⟩)); (case aB => exact hS.out.below); (case aS => exact hS.out.below.size); (case aL => have := HEN.out; have := HLIM.out; omega))
        intro v1 w2 hr2 hb2 hg2 _
        obtain ⟨okn', HS2⟩ := rt_growS hS 1 rfl hg2 hb2 hr2; obtain ⟨An', cn', rfl⟩ := Kd.S_slice hr2
        have hnl : (ns ++ [S66.mk text []]).length = nn + 1 := by rw [List.length_append, HEN.out]; rfl
        rw [hnl] at HS2 ⊢; have HNL := Aside0.mk hnl; clear hnl; clear hr2 hb2 hg2 hz0 hz1; have hz0 : w2.cell? ⟨gt, 0, none⟩ = some (.slice An nn cn) := (blk_cell (St.getB HS2 0 rfl ⟨0, rfl⟩) 0).trans rfl; have hzf0 : w2.frozen? ⟨gt, 0, none⟩ = false := blk_frozen (St.getB HS2 0 rfl ⟨0, rfl⟩) 0
        go_upto_region 9 with (fail)
        have HS3 : Aside0 (St w0 (w2.setCell ⟨gt, 0, none⟩ (.slice An' (nn + 1) cn')) _) := St.store HS2 0 rfl (by repeat (first | exact KeepBut.refl _ _ _ | apply KeepBut.set_)) (o' := .cells #[.slice An' (nn + 1) cn', .slice Ao no co] 57 (0, 0)) (blk_put (St.getB HS2 0 rfl ⟨0, rfl⟩) 0 (.slice An' (nn + 1) cn') rfl) (below_set HS2.out.below (St.lowB HS2 0 rfl)); clear hz0 hzf0 HS2; generalize w2.setCell ⟨gt, 0, none⟩ (.slice An' (nn + 1) cn') = w3 at HS3 ⊢; obtain ⟨gp, cr, er, _, _, _, _⟩ := Kd.R_form (St.getR (W' := w3) HS3 2 rfl ⟨0, rfl⟩) (by have := HEO.out; have := HM.out; omega)
        have eA : Ao = some ⟨gp, 0, none⟩ := by injection er
        subst eA
        clear er; obtain ⟨hcs, _⟩ := Kd.R_celln 0 (St.getR (W' := w3) HS3 2 rfl ⟨0, rfl⟩) (m : Int) (by omega) (by have := HEO.out; have := HM.out; omega); replace hcs : w3.cell? ⟨gp, m, none⟩ = some (.int .i64 up) := hcs.trans (by rw [← HUP.out]; rfl)
        have hz1 : w3.cell? ⟨gt, 1, none⟩ = some (.slice (some ⟨gp, 0, none⟩) no co) := (blk_cell (St.getB HS3 0 rfl ⟨0, rfl⟩) 1).trans rfl
        have hwm : IntKind.i64.wrap ((no : Int) - 1) = (m : Int) := by
         rw [i64_w]; have := HM.out; have := HC2.out
         unfold wrap64
         omega
        have m20 : (0 ≤ (m : Int)) = True := eq_true (by omega); have m21 : ((m : Int) < (no : Int)) = True := eq_true (by have := HM.out; omega); have n0b : decide (0 < (no : Int)) = true := decide_eq_true (by have := HM.out; omega); have n0n : decide (0 < no) = true := decide_eq_true (by have := HM.out; omega)
        go_upto_region 10 with (fail)
        go_quiet (fail)
        go_upto_region 11 with (fail)
        have HS3a : Aside0 (St w0 (w3.drewN nq) _) := ⟨St.lift HS3⟩; have HS4 : Aside0 (St w0 (w3.drewN nq).drew _) := ⟨HS3a.out.step (below_drew (Below.refl _ _))⟩; clear HS3a; clear hz1 hcs HS3; obtain ⟨gn, cr, er, _, _, _, _⟩ := Kd.S_form (St.getS (W' := (w3.drewN nq).drew) HS4 1 rfl ⟨0, rfl⟩) (by rw [HNL.out]; omega)
        have eN : An' = some ⟨gn, 0, none⟩ := by injection er
        subst eN
        clear er
        have hup1 : up < ((nn + 1 : Nat) : Int) := by have := HC6.out; omega
        obtain ⟨oki, cc, hcl, hM, hoki, hcells, hlend⟩ := St.lendS (W' := (w3.drewN nq).drew) HS4 1 rfl z66 up HC5.out hup1; obtain ⟨N, hN⟩ : ∃ N, rd_T66 ns up = N := ⟨_, rfl⟩
        have hget : (ns ++ [S66.mk text []]).getD up.toNat z66 = N := by
         rw [← hN]
         unfold rd_T66
         rw [List.getD_eq_getElem?_getD, List.getElem?_append_left (by have := HEN.out; have := HC6.out; have := HC5.out; omega), List.getD_eq_getElem?_getD]
        rw [hget] at hM; obtain ⟨vk, rfl, hRv⟩ := k66_openM hM; obtain ⟨Ak, ck, rfl⟩ := Kd.R_slice hRv; have hx1 : (w3.drewN nq).drew.cell? ⟨gn, up.toNat * 2 + 1, none⟩ = some (.slice Ak N.f1.length ck) := (hcells _ (Kept.refl _ _)).1 1 _ rfl; have hz0 : (w3.drewN nq).drew.cell? ⟨gt, 0, none⟩ = some (.slice (some ⟨gn, 0, none⟩) (nn + 1) cn') := (blk_cell (St.getB HS4 0 rfl ⟨0, rfl⟩) 0).trans rfl
        have hneg : ∀ q, oki q → q ≠ gt := fun q hq he => nth_apart HS4.out.apart (i := 0) (j := 1) rfl rfl (by decide) q he (hoki q hq).1
        have HO := Aside0.mk hneg; have HCE := Aside0.mk hcells; have HLE := Aside0.mk hlend; have HRV := Aside0.mk hRv; have HNN := Aside0.mk hN; have HKL : Aside0 (N.f1.length < 17592186044416) := ⟨by rw [← hN]; exact HC7.out⟩
        clear hcl hM hoki hcells hlend hRv hget hneg hN; have u0 := eq_true HC5.out; have u1 : (up < (nn : Int) + 1) = True := eq_true (by omega); have u1b : (up < ((nn + 1 : Nat) : Int)) = True := eq_true hup1; clear hup1; refine start_ (n := 21) (S := (fun w' => w'.cell? ⟨gt, 0, none⟩ = some (.slice (some ⟨gn, 0, none⟩) (nn + 1) cn') ∧ w'.cell? ⟨gn, up.toNat * 2 + 1, none⟩ = some (.slice Ak N.f1.length ck))) (ds := [20]) (tf 0 21) (by kernel_rfl) rfl rfl ⟨hz0, hx1⟩ (fun hHeld => ?_); refine with_tabW spec_l2Reader_begin.tab11 spec_l2Reader_begin.bits11 (fun HT_ HW_ => ?_); generalize (w3.drewN nq).drew = wa at HS4 HCE HLE HRV hz0 hx1 hHeld ⊢; refine pu HT_ 0 72 20 ?_; refine pu HT_ 1 73 19 ?_; refine pu HT_ 2 74 18 ?_; refine pu HT_ 3 75 17 ?_; refine ta HT_ HW_ hHeld 4 76 16 ?_; refine pu HT_ 5 77 15 ?_; refine pu HT_ 6 78 14 ?_; refine pu HT_ 7 79 13 ?_; refine pu HT_ 8 80 12 ?_; refine pu HT_ 9 81 11 ?_; refine ta HT_ HW_ hHeld 10 82 10 ?_; refine pu HT_ 11 83 9 ?_; refine pu HT_ 12 84 8 ?_; refine pu HT_ 13 85 7 ?_; refine ta HT_ HW_ hHeld 14 86 6 ?_; refine pu HT_ 15 87 5 ?_; refine on HT_ 16 88 4 (fun K hK => ?_); refine value_ (w1 := wa.alloc (.cells #[.int .i64 nn] 2)) (v := .slice (some ⟨wa.heap.size, 0, none⟩) 1 1) (by rfl) rfl ?_ ?_
        ·first | (go_simp; done) | (go_simp; constructor <;> rfl) | (go_simp; rfl)
        have HV2 : Aside0 (Below wa.heap.size wa (wa.alloc (.cells #[.int .i64 nn] 2))) := ⟨below_alloc (Below.refl _ _) _⟩; refine hK.out _ _ ⟨(HV2.out.cell (World.block_lt_of_cell? wa _ hz0)).trans hz0, (HV2.out.cell (World.block_lt_of_cell? wa _ hx1)).trans hx1⟩ (fun hHeld => ?_); clear hK K HV2; refine nm 88 ?_; refine on HT_ 17 89 3 (fun K hK => ?_); refine Kd.R_append_step (Kd.int .i64) (w0 := w0) w0.heap.size (by rfl) (.tmp 86) (.tmp 88) 60 2 (.int .i64 0) 8 rfl Try.underlying60 rt_inf2 rfl (by decide) (by omega) (.slice Ak N.f1.length ck) N.f1 nn [.int .i64 nn] (fun k_ => oki k_ ∨ wa.heap.size ≤ k_) (fun _ => False) rfl rfl ?aP (fun _ hk => hk.elim) ?aF ?aO ?aB ?aS ?aL ?_
        (case aP => exact rfl)
        (case aF => exact (fun k_ hk => .inr hk))
        (case aO => exact Kd.R_mono HRV.out (fun _ h_ => .inl h_))
        (case aB => exact HS4.out.below)
        (case aS => exact HS4.out.below.size)
        (case aL => have := HKL.out; omega)
        intro v6 w6 ho hb6 hg6 hat6
        have hk6 : Kept wa w6 oki := Kept.of_grown hg6 (Kept.refl _ _) (fun k_ e_ => .inl (HRV.out.1 k_ e_)) |> fun h => h
        obtain ⟨okf, H7⟩ := HLE.out w6 ⟨N.f0, N.f1 ++ [(nn : Int)]⟩ 1 [v6] hb6 hk6 (show 1 + 1 ≤ 2 from by decide) (k66_mkM _ _ _ ⟨N.f0, N.f1 ++ [(nn : Int)]⟩ ho); have hx6 : w6.cell? ⟨gn, up.toNat * 2 + 1, none⟩ = some (.slice Ak N.f1.length ck) := (HCE.out w6 hk6).1 1 _ rfl; have hf6 : w6.frozen? ⟨gn, up.toNat * 2 + 1, none⟩ = false := (HCE.out w6 hk6).2 1; have hz6 : w6.cell? ⟨gt, 0, none⟩ = some (.slice (some ⟨gn, 0, none⟩) (nn + 1) cn') := (blk_cell ((hg6.block gt (blk_lt (St.getB HS4 0 rfl ⟨0, rfl⟩)) (fun e_ => HO.out gt (HRV.out.1 gt e_.symm) rfl)).trans (St.getB HS4 0 rfl ⟨0, rfl⟩)) 0).trans rfl; obtain ⟨A7, c7, rfl⟩ := Kd.R_slice ho; clear ho hb6 hg6 hat6 hk6; refine hK.out _ _ ⟨hz6, hx6⟩ (fun hHeld => ?_); clear hK K; refine nm 89 ?_; refine pu HT_ 18 90 2 ?_; refine pu HT_ 19 91 1 ?_; refine last_ (i := 20) (N := none) (tf 21 0) rfl rfl (one_of HT_.out (by kernel_rfl)) (by decide) (fun K hK => ?_); refine skip_ (w1 := w6.setCell ⟨gn, up.toNat * 2 + 1, none⟩ (.slice A7 (N.f1 ++ [(nn : Int)]).length c7)) (by rfl) rfl ?_ ?_
        ·first | (go_simp; done) | (go_simp; rfl)
        refine hK.out _ _ ?_; clear hK K; refine done_ (done_of HT_.out (by kernel_rfl)) ?_; clear hHeld HT_ HW_ hx6 hf6 hx1 hz0 hz6; replace H7 : Aside0 (St w0 (w6.setCell ⟨gn, up.toNat * 2 + 1, none⟩ (.slice A7 (N.f1 ++ [(nn : Int)]).length c7)) _) := H7; generalize w6.setCell ⟨gn, up.toNat * 2 + 1, none⟩ (.slice A7 (N.f1 ++ [(nn : Int)]).length c7) = w7 at H7 ⊢
        go_wp2
        go_ret
        have hend : (ns ++ [S66.mk text []]).set up.toNat ⟨N.f0, N.f1 ++ [(nn : Int)]⟩ = rtKid ns up nn ++ [S66.mk text []] := by
         unfold rtKid
         rw [HNN.out, List.set_append_left _ _ (by have := HEN.out; have := HC6.out; have := HC5.out; omega)]
        refine ⟨rfl, okf, some ⟨gn, 0, none⟩, cn', ?_⟩; rw [← hend, List.length_set, HNL.out]
        exact ⟨St.lift H7⟩
       ·rw [if_neg c7] at h; cases h
      ·rw [if_neg c6] at h; cases h
     ·rw [if_neg c5] at h; cases h
    ·rw [if_neg c4] at h; cases h
def spec_ReadTree.T20 : Bool × List (List Nat × List Nat) := (true, [([], []), ([], []), ([1], [1]), ([2], [2]), ([3], [3]), ([], []), ([5], [5]), ([6], [6]), ([7], [7]), ([8], [8]), ([9], [9]), ([4, 10], [4, 10]), ([0, 0, 1, 2, 3, 4, 5, 6, 7, 8, 9, 10, 11], [0]), ([12, 0, 1, 2, 3, 4, 5, 6, 7, 8, 9, 10, 11], [12]), ([13, 11, 0, 1, 2, 3, 4, 5, 6, 7, 8, 9, 10, 11], [11, 13])])
def spec_ReadTree.B20 : List Nat := [0, 0, 2, 6, 14, 0, 32, 96, 224, 480, 992, 2046, 4095, 8191, 16383]
theorem spec_ReadTree.tab20 : rtab .any (opsOf Try.f11 20) = spec_ReadTree.T20 := by kernel_rfl
theorem spec_ReadTree.bits20 : waitsOk spec_ReadTree.T20.2 spec_ReadTree.B20 = true := by kernel_rfl
def spec_ReadTree.T23 : Bool × List (List Nat × List Nat) := (true, [([], []), ([], []), ([1], [1]), ([2], [2]), ([3], [3]), ([], []), ([5], [5]), ([6], [6]), ([7], [7]), ([8], [8]), ([9], [9]), ([10], [10]), ([11], [11]), ([4, 12], [4, 12]), ([0, 0, 1, 2, 3, 4, 5, 6, 7, 8, 9, 10, 11, 12, 13], [0]), ([14, 0, 1, 2, 3, 4, 5, 6, 7, 8, 9, 10, 11, 12, 13], [14]), ([15, 13, 13, 0, 1, 2, 3, 4, 5, 6, 7, 8, 9, 10, 11, 12, 13], [13, 15])])
def spec_ReadTree.B23 : List Nat := [0, 0, 2, 6, 14, 0, 32, 96, 224, 480, 992, 2016, 4064, 8190, 16383, 32767, 65535]
theorem spec_ReadTree.tab23 : rtab .any (opsOf Try.f11 23) = spec_ReadTree.T23 := by kernel_rfl
theorem spec_ReadTree.bits23 : waitsOk spec_ReadTree.T23.2 spec_ReadTree.B23 = true := by kernel_rfl
theorem rt_consN {w0 W : World} {l : List Ob} (e : Nat) (h : Aside0 (St w0 W l)) : Aside0 (St w0 W (Ob.R w0 (Kd.int .i64) e (fun _ => False) (.slice none 0 0) [] :: l)) := ⟨h.out.cons (fun _ hk => hk.elim) (Ob.R_foot _ _ _ _ _ _) (Kd.R_nil _ _ _ _ _) (fun _ _ _ hk _ => hk.elim)⟩
theorem rt_nilS (w : World) (b : Nat) (ok : Nat → Prop) : Kd.S k66 66 w b ok (.slice none 0 0) [] := ⟨fun _ => 0, Kd.R_nil _ _ _ _ _⟩
theorem rt_consS {w0 W : World} {l : List Ob} (h : Aside0 (St w0 W l)) : Aside0 (St w0 W (Ob.S w0 k66 66 (fun _ => False) (.slice none 0 0) [] :: l)) := ⟨h.out.cons (fun _ hk => hk.elim) (Ob.S_foot _ _ _ _ _ _) (rt_nilS _ _ _) (fun _ _ _ hk _ => hk.elim)⟩
def spec_ReadTree.l1 : Nat → ByteArray → Int → Option Int
 | 0, _, _ => none
 | k + 1, T, x => if x < (T.size : Int) then (if 0 ≤ x then (if bt T x = 10 then some x else if bt T x ≥ 32 then (if bt T x ≤ 126 then spec_ReadTree.l1 k T (wrap64 (x + 1)) else some x) else some x) else none) else some x
def spec_ReadTree.step (k : Nat) (T : ByteArray) (a : Int) (ns : List S66) (op : List Int) : Option (Int × Int × List S66 × List Int) :=
 if bt T a = 32 then some (0, wrap64 (a + 1), ns, op)
 else if bt T a = 10 then some (0, wrap64 (a + 1), ns, op)
 else if bt T a < 32 then some (2, wrap64 (a + 1), ns, op)
 else if bt T a > 126 then some (2, wrap64 (a + 1), ns, op)
 else if bt T a = 59 then (spec_ReadTree.l1 k T (wrap64 (a + 1))).bind fun b => some (0, b, ns, op)
 else if bt T a = 41 then (if op.length = 0 then some (3, wrap64 (a + 1), ns, op) else some (0, wrap64 (a + 1), ns, op.take (op.length - 1)))
 else if bt T a = 40 then (rtBegin ns op ⟨#[]⟩).bind fun r => if op.length < 17592186044416 then some (r.1, wrap64 (a + 1), r.2, op ++ [wrap64 ((r.2.length : Int) - 1)]) else none
 else (spec_l2End.f k T a).bind fun e => if a ≤ e then (if e ≤ (T.size : Int) then (rtBegin ns op (T.extract a.toNat e.toNat)).bind fun r => some (r.1, e, r.2, op) else none) else none
def spec_ReadTree.l0 : Nat → ByteArray → Int → List S66 → List Int → Option (List S66 × Int × Int)
 | 0, _, _, _, _ => none
 | k + 1, T, a, ns, op => if a < (T.size : Int) then (if 0 ≤ a then (spec_ReadTree.step k T a ns op).bind fun r => if r.1 = 0 then spec_ReadTree.l0 k T r.2.1 r.2.2.1 r.2.2.2 else some ([], r.1, a) else none) else if 0 < op.length then some ([], 7, (T.size : Int)) else if ns.length = 0 then some ([], 8, (T.size : Int)) else some (ns, 0, 0)
def spec_ReadTree.f (k : Nat) (a0 : ByteArray) : Option (List S66 × Int × Int) := if 20000 < a0.size then some ([], 1, 0) else spec_ReadTree.l0 k a0 0 [] []
theorem rt_cutH55 (W : World) (A : Option Addr) (n c i : Nat) (hi : i ≤ c) : (Instr.slice 55 (.slice A n c) none (some (.int .i64 (i : Int))) none).run Try.prog W = .ok (.slice A i c) W := by
 obtain ⟨i0, hi0, hz⟩ := Option.map_eq_some_iff.1 rt_inf3
 have hel : Try.prog.elem 55 = 3 := by simp [Program.elem, Try.underlying55]
 have hu : Try.prog.underlying 55 = some (.slice (Try.prog.elem 55)) := by rw [hel]; exact Try.underlying55
 have hs : i0.size = 1 := by simp only [Prod.mk.injEq] at hz; exact hz.2.1
 have ha : (A.map fun x => x.add 0) = A := by cases A <;> simp [Addr.add]
 rw [run_slice_h W 55 A n c hu .i64 (i : Int) (Int.natCast_nonneg _) (by omega), hel]
 simp [sizeOf, typeInfo, hi0, hs, sliced, Result.andThen, ha]
set_option maxHeartbeats 8000000 in
set_option maxRecDepth 100000 in
theorem spec_ReadTree.calls (k : Nat) (a0 : ByteArray) (r1 : List (S66)) (r2 : Int) (r3 : Int) (w : World) (h : spec_ReadTree.f k a0 = some (r1, r2, r3)) :
  Calls Try.prog 11 #[.string a0] w fun e w' => ∃ v0_ : Value, e = .returned (.tuple #[.agg #[v0_], .int .i64 r2, .int .i64 r3]) ∧ Kd.S k66 66 w' w.heap.size (fun _ => True) v0_ r1 ∧ Below w.heap.size w w' := by
 have hu29 := Try.underlying29; have hu57 := Try.underlying57
 unfold spec_ReadTree.f at h
 have HS0 := St.nil w
 by_cases c1 : 20000 < a0.size
 ·rw [if_pos c1] at h
  simp only [Option.some.injEq, Prod.mk.injEq] at h
  obtain ⟨rfl, rfl, rfl⟩ := h; have c1b : decide (20000 < (a0.size : Int)) = true := decide_eq_true (by omega); have c1n : decide (20000 < a0.size) = true := decide_eq_true c1; clear c1
  go_enter Try.func11, Try.ntmps11
  go_wp2_with (first | ((with_reducible refine gate_dst (N := 2) rfl ?_); refine be 2 #[.slice none 0 0] 29 ?_; intro g2 hg2 w1 hx2 hb2; have HS1 := St.box HS0 hg2 hx2 hb2; clear hg2 hx2 hb2; have hzf : w1.frozen? ⟨g2, 0, none⟩ = false := blk_frozen (St.getB HS1 0 rfl ⟨0, rfl⟩) 0; have hz : w1.cell? ⟨g2, 0, none⟩ = some (.slice none 0 0) := (blk_cell (St.getB HS1 0 rfl ⟨0, rfl⟩) 0).trans rfl))
  have HS2 : Aside0 (St w (w1.setCell ⟨g2, 0, none⟩ (.slice none 0 0)) _) := St.store HS1 0 rfl (by repeat (first | exact KeepBut.refl _ _ _ | apply KeepBut.set_)) (o' := .cells #[.slice none 0 0] 29 (0, 0)) (blk_put (St.getB HS1 0 rfl ⟨0, rfl⟩) 0 (.slice none 0 0) rfl) (below_set HS1.out.below (St.lowB HS1 0 rfl)); refine bodyPost_ret (results_ctt rfl _ _ g2 29 #[.slice none 0 0] (0, 0) _ rfl (St.getB HS2 0 rfl ⟨0, rfl⟩) hu29 rfl (by kernel_rfl)) rfl ?_
  exact ⟨.slice none 0 0, rfl, rt_nilS _ _ _, HS2.out.below⟩
 ·rw [if_neg c1] at h
  have c1b : decide (20000 < (a0.size : Int)) = false := decide_eq_false (by omega); have c1n : decide (20000 < a0.size) = false := decide_eq_false c1; have HL := Aside0.mk h; clear c1 h
  go_enter Try.func11, Try.ntmps11
  go_wp2_with (first | ((with_reducible refine gate_dst (N := 2) rfl ?_); refine be 2 #[.slice none 0 0] 29 ?_; intro g2 hg2 w1 hx2 hb2; have HS1 := St.box HS0 hg2 hx2 hb2; clear hg2 hx2 hb2) | ((with_reducible refine gate_dst (N := 15) rfl ?_); refine be 15 #[.slice none 0 0, .slice none 0 0] 57 ?_; intro gt hgt w2 hxt hbt; have HS3 := St.box (rt_consS (rt_consN 3 HS1)) hgt hxt hbt; clear hgt hxt hbt))
  (try simp only [Act.put, List.setIfInBounds_toArray, List.set_cons_zero, List.set_cons_succ])
  go_loopg [6] k (fun kq s6 wr => ∃ (a : Int) (ns : List S66) (op : List Int) (okn oko : Nat → Prop) (An Ao : Option Addr) (cn co : Nat), s6 = .int .i64 a ∧ Aside0 (kq ≤ k) ∧ Aside0 (spec_ReadTree.l0 kq a0 a ns op = some (r1, r2, r3)) ∧ Aside0 (St w wr [Ob.B gt (.cells #[.slice An ns.length cn, .slice Ao op.length co] 57 (0, 0)), Ob.S w k66 66 okn (.slice An ns.length cn) ns, Ob.R w (Kd.int .i64) 3 oko (.slice Ao op.length co) op, Ob.B g2 (.cells #[.slice none 0 0] 29 (0, 0))]))
  case atStart => exact ⟨0, [], [], _, _, none, none, 0, 0, rfl, ⟨Nat.le_refl _⟩, HL, ⟨St.lift HS3⟩⟩
  case round =>
   clear HL HS0 HS1 HS3; obtain ⟨a, ns, op, okn, oko, An, Ao, cn, co, rfl, HK, HX, HS⟩ := hrel
   cases gk with
   | zero => exact absurd HX.out (by simp [spec_ReadTree.l0])
   | succ g1 =>
   have hX := HX.out; clear HX; rw [spec_ReadTree.l0] at hX
   by_cases q1 : a < (a0.size : Int)
   ·rw [if_pos q1] at hX
    have q1b : decide (a < (a0.size : Int)) = true := decide_eq_true q1
    by_cases q0 : 0 ≤ a
    ·rw [if_pos q0] at hX
     obtain ⟨⟨code, b, ns2, op2⟩, h, hX⟩ := Option.bind_eq_some_iff.1 hX
     dsimp only at hX
     unfold spec_ReadTree.step at h
     obtain ⟨c, hcc⟩ : ∃ c, bt a0 a = c := ⟨_, rfl⟩; rw [hcc] at h
     have hx : ∀ h : a.toNat < a0.size, ((a0[a.toNat]'h).toNat : Int) = c := fun h => (bt_at a0 a h).trans hcc
     replace q0 := eq_true q0; replace q1 := eq_true q1; obtain ⟨a1, ha1⟩ : ∃ a1, wrap64 (a + 1) = a1 := ⟨_, rfl⟩; have hai : IntKind.i64.wrap (a + 1) = a1 := (i64_w _).trans ha1; rw [ha1] at h; clear ha1 hcc
     by_cases c32 : c = 32
     ·rw [if_pos c32] at h
      simp only [Option.some.injEq, Prod.mk.injEq] at h
      obtain ⟨rfl, rfl, rfl, rfl⟩ := h; rw [if_pos rfl] at hX
      subst c32
      have HX2 := Aside0.mk hX; clear hX
      go_wp2
      go_roundg g1
      case measure => omega
      case rel => exact ⟨a1, ns, op, okn, oko, An, Ao, cn, co, by first | rfl | (simp; done) | go_num, ⟨by have := HK.out; omega⟩, HX2, ⟨St.lift HS⟩⟩
     rw [if_neg c32] at h; have c32b : (c == 32) = false := beq_eq_false_iff_ne.2 c32
     by_cases c10 : c = 10
     ·rw [if_pos c10] at h
      simp only [Option.some.injEq, Prod.mk.injEq] at h
      obtain ⟨rfl, rfl, rfl, rfl⟩ := h; rw [if_pos rfl] at hX
      subst c10
      have HX2 := Aside0.mk hX; clear hX
      go_wp2
      go_roundg g1
      case measure => omega
      case rel => exact ⟨a1, ns, op, okn, oko, An, Ao, cn, co, by first | rfl | (simp; done) | go_num, ⟨by have := HK.out; omega⟩, HX2, ⟨St.lift HS⟩⟩
     rw [if_neg c10] at h; have c10b : (c == 10) = false := beq_eq_false_iff_ne.2 c10
     by_cases dl : c < 32
     ·rw [if_pos dl] at h
      simp only [Option.some.injEq, Prod.mk.injEq] at h
      obtain ⟨rfl, rfl, rfl, rfl⟩ := h; rw [if_neg (by decide)] at hX
      simp only [Option.some.injEq, Prod.mk.injEq] at hX
      obtain ⟨rfl, rfl, rfl⟩ := hX; have dlb : decide (c < 32) = true := decide_eq_true dl; clear dl; have hf : wr.frozen? ⟨g2, 0, none⟩ = false := blk_frozen (St.getB HS 3 rfl ⟨0, rfl⟩) 0; have hc : wr.cell? ⟨g2, 0, none⟩ = some (.slice none 0 0) := (blk_cell (St.getB HS 3 rfl ⟨0, rfl⟩) 0).trans rfl
      go_wp2
      have HS6 : Aside0 (St w (wr.setCell ⟨g2, 0, none⟩ (.slice none 0 0)) _) := St.store HS 3 rfl (by repeat (first | exact KeepBut.refl _ _ _ | apply KeepBut.set_)) (o' := .cells #[.slice none 0 0] 29 (0, 0)) (blk_put (St.getB HS 3 rfl ⟨0, rfl⟩) 0 (.slice none 0 0) rfl) (below_set HS.out.below (St.lowB HS 3 rfl)); refine bodyPost_ret (results_ctt rfl _ _ g2 29 #[.slice none 0 0] (0, 0) _ rfl (St.getB HS6 3 rfl ⟨0, rfl⟩) hu29 rfl (by kernel_rfl)) rfl ?_
      exact ⟨.slice none 0 0, rfl, rt_nilS _ _ _, HS6.out.below⟩
     rw [if_neg dl] at h; have dlb : decide (c < 32) = false := decide_eq_false dl
     by_cases dg : c > 126
     ·rw [if_pos dg] at h
      simp only [Option.some.injEq, Prod.mk.injEq] at h
      obtain ⟨rfl, rfl, rfl, rfl⟩ := h; rw [if_neg (by decide)] at hX
      simp only [Option.some.injEq, Prod.mk.injEq] at hX
      obtain ⟨rfl, rfl, rfl⟩ := hX; have dgb : decide (126 < c) = true := decide_eq_true dg; clear dg; have hf : wr.frozen? ⟨g2, 0, none⟩ = false := blk_frozen (St.getB HS 3 rfl ⟨0, rfl⟩) 0; have hc : wr.cell? ⟨g2, 0, none⟩ = some (.slice none 0 0) := (blk_cell (St.getB HS 3 rfl ⟨0, rfl⟩) 0).trans rfl
      go_wp2
      have HS6 : Aside0 (St w (wr.setCell ⟨g2, 0, none⟩ (.slice none 0 0)) _) := St.store HS 3 rfl (by repeat (first | exact KeepBut.refl _ _ _ | apply KeepBut.set_)) (o' := .cells #[.slice none 0 0] 29 (0, 0)) (blk_put (St.getB HS 3 rfl ⟨0, rfl⟩) 0 (.slice none 0 0) rfl) (below_set HS.out.below (St.lowB HS 3 rfl)); refine bodyPost_ret (results_ctt rfl _ _ g2 29 #[.slice none 0 0] (0, 0) _ rfl (St.getB HS6 3 rfl ⟨0, rfl⟩) hu29 rfl (by kernel_rfl)) rfl ?_
      exact ⟨.slice none 0 0, rfl, rt_nilS _ _ _, HS6.out.below⟩
     rw [if_neg dg] at h; have dgb : decide (126 < c) = false := decide_eq_false dg
     by_cases c59 : c = 59
     ·rw [if_pos c59] at h
      obtain ⟨b_, A1_, h⟩ := Option.bind_eq_some_iff.1 h
      simp only [Option.some.injEq, Prod.mk.injEq] at h
      obtain ⟨rfl, rfl, rfl, rfl⟩ := h; rw [if_pos rfl] at hX; have HX2 := Aside0.mk hX; have H1 := Aside0.mk A1_; clear A1_ hX dl dg
      subst c59
      go_wp2
      (try simp only [Act.put, List.setIfInBounds_toArray, List.set_cons_zero, List.set_cons_succ])
      go_loopg [9] g1 (fun kq s9 wr => ∃ (x : Int), s9 = .int .i64 x ∧ Aside0 (kq ≤ g1) ∧ Aside0 (spec_ReadTree.l1 kq a0 x = some b_) ∧ Aside0 (St w wr [Ob.B gt (.cells #[.slice An ns.length cn, .slice Ao op.length co] 57 (0, 0)), Ob.S w k66 66 okn (.slice An ns.length cn) ns, Ob.R w (Kd.int .i64) 3 oko (.slice Ao op.length co) op, Ob.B g2 (.cells #[.slice none 0 0] 29 (0, 0))]))
      case atStart => exact ⟨a1, by first | rfl | (simp; done) | go_num, ⟨Nat.le_refl _⟩, H1, ⟨St.lift HS⟩⟩
      case round =>
       clear H1 HS q1b q0 q1 hx; obtain ⟨x, rfl, HK3, HX3, HS⟩ := hrel
       cases gk with
       | zero => exact absurd HX3.out (by simp [spec_ReadTree.l1])
       | succ g3 =>
       have hX := HX3.out; clear HX3; rw [spec_ReadTree.l1] at hX
       by_cases q1 : x < (a0.size : Int)
       ·rw [if_pos q1] at hX
        have q1b : decide (x < (a0.size : Int)) = true := decide_eq_true q1; replace q1 := eq_true q1
        by_cases q0 : 0 ≤ x
        ·rw [if_pos q0] at hX
         have q0b : decide (0 ≤ x) = true := decide_eq_true q0; replace q0 := eq_true q0; obtain ⟨c, hc⟩ : ∃ c, bt a0 x = c := ⟨_, rfl⟩; rw [hc] at hX
         have hx : ∀ h : x.toNat < a0.size, ((a0[x.toNat]'h).toNat : Int) = c := fun h => (bt_at a0 x h).trans hc
         clear hc
         by_cases e10 : c = 10
         ·rw [if_pos e10] at hX
          have e10b : (c != 10) = false := bne_eq_false_iff_eq.2 e10; have e10c : (c == 10) = true := beq_iff_eq.2 e10; obtain rfl := Option.some.inj hX; clear hX e10
          go_wp2
          go_roundg g1
          case measure => omega
          case rel => exact ⟨x, ns, op, okn, oko, An, Ao, cn, co, by first | rfl | (simp; done) | go_num, ⟨by have := HK.out; omega⟩, HX2, ⟨St.lift HS⟩⟩
         rw [if_neg e10] at hX; have e10b : (c != 10) = true := bne_iff_ne.2 e10; have e10c : (c == 10) = false := beq_eq_false_iff_ne.2 e10; clear e10
         by_cases q2 : c ≥ 32
         ·rw [if_pos q2] at hX
          have q2b : decide (32 ≤ c) = true := decide_eq_true q2; clear q2
          by_cases q3 : c ≤ 126
          ·rw [if_pos q3] at hX
           have q3b : decide (c ≤ 126) = true := decide_eq_true q3; clear q3; have HX4 := Aside0.mk hX; clear hX
           go_wp2
           go_roundg g3
           case measure => omega
           case rel => exact ⟨wrap64 (x + 1), by first | rfl | (simp; done) | go_num, ⟨by have := HK3.out; omega⟩, HX4, ⟨St.lift HS⟩⟩
          ·rw [if_neg q3] at hX
           have q3b : decide (c ≤ 126) = false := decide_eq_false q3; obtain rfl := Option.some.inj hX; clear q3 hX
           go_wp2
           go_roundg g1
           case measure => omega
           case rel => exact ⟨x, ns, op, okn, oko, An, Ao, cn, co, by first | rfl | (simp; done) | go_num, ⟨by have := HK.out; omega⟩, HX2, ⟨St.lift HS⟩⟩
         ·rw [if_neg q2] at hX
          have q2b : decide (32 ≤ c) = false := decide_eq_false q2; obtain rfl := Option.some.inj hX; clear q2 hX
          go_wp2
          go_roundg g1
          case measure => omega
          case rel => exact ⟨x, ns, op, okn, oko, An, Ao, cn, co, by first | rfl | (simp; done) | go_num, ⟨by have := HK.out; omega⟩, HX2, ⟨St.lift HS⟩⟩
        ·rw [if_neg q0] at hX; cases hX
       ·rw [if_neg q1] at hX
        have q1b : decide (x < (a0.size : Int)) = false := decide_eq_false q1; obtain rfl := Option.some.inj hX; clear q1 hX
        go_wp2
        go_roundg g1
        case measure => omega
        case rel => exact ⟨x, ns, op, okn, oko, An, Ao, cn, co, by first | rfl | (simp; done) | go_num, ⟨by have := HK.out; omega⟩, HX2, ⟨St.lift HS⟩⟩
     rw [if_neg c59] at h; have c59b : (c == 59) = false := beq_eq_false_iff_ne.2 c59
     by_cases c41 : c = 41
     ·rw [if_pos c41] at h
      clear dl dg
      subst c41
      have hz3 : wr.cell? ⟨gt, 1, none⟩ = some (.slice Ao op.length co) := (blk_cell (St.getB HS 0 rfl ⟨0, rfl⟩) 1).trans rfl; obtain ⟨no, hno⟩ : ∃ no, op.length = no := ⟨_, rfl⟩; have HNO := Aside0.mk hno; rw [hno] at h hz3 HS; clear hno
      by_cases cn0 : no = 0
      ·rw [if_pos cn0] at h
       simp only [Option.some.injEq, Prod.mk.injEq] at h
       obtain ⟨rfl, rfl, rfl, rfl⟩ := h; rw [if_neg (by decide)] at hX
       simp only [Option.some.injEq, Prod.mk.injEq] at hX
       obtain ⟨rfl, rfl, rfl⟩ := hX
       subst cn0
       have hf : wr.frozen? ⟨g2, 0, none⟩ = false := blk_frozen (St.getB HS 3 rfl ⟨0, rfl⟩) 0; have hc : wr.cell? ⟨g2, 0, none⟩ = some (.slice none 0 0) := (blk_cell (St.getB HS 3 rfl ⟨0, rfl⟩) 0).trans rfl
       go_wp2
       have HS6 : Aside0 (St w (wr.setCell ⟨g2, 0, none⟩ (.slice none 0 0)) _) := St.store HS 3 rfl (by repeat (first | exact KeepBut.refl _ _ _ | apply KeepBut.set_)) (o' := .cells #[.slice none 0 0] 29 (0, 0)) (blk_put (St.getB HS 3 rfl ⟨0, rfl⟩) 0 (.slice none 0 0) rfl) (below_set HS.out.below (St.lowB HS 3 rfl)); refine bodyPost_ret (results_ctt rfl _ _ g2 29 #[.slice none 0 0] (0, 0) _ rfl (St.getB HS6 3 rfl ⟨0, rfl⟩) hu29 rfl (by kernel_rfl)) rfl ?_
       exact ⟨.slice none 0 0, rfl, rt_nilS _ _ _, HS6.out.below⟩
      ·rw [if_neg cn0] at h
       obtain ⟨m, hm⟩ : ∃ m : Nat, no = m + 1 := ⟨no - 1, by omega⟩; rw [show no - 1 = m from by omega] at h
       simp only [Option.some.injEq, Prod.mk.injEq] at h
       obtain ⟨rfl, rfl, rfl, rfl⟩ := h; rw [if_pos rfl] at hX; have HX2 := Aside0.mk hX; clear hX cn0; have hmax := Kd.C_max (Kd.R_reads' (St.getR (W' := wr) HS 2 rfl ⟨0, rfl⟩)).2.2; have cnb : (no == 0) = false := beq_eq_false_iff_ne.2 (by omega); have cnd : ((no : Int) == 0) = false := beq_eq_false_iff_ne.2 (by omega); have cnn : (no = 0) = False := eq_false (by omega)
       have hwm : IntKind.i64.wrap ((no : Int) - 1) = (m : Int) := by
        rw [i64_w]; have := HNO.out; clear HS hz3
        unfold wrap64
        omega
       have hcc : m ≤ co := by have := (Kd.R_reads' (St.getR (W' := wr) HS 2 rfl ⟨0, rfl⟩)).2.1; have := HNO.out; omega
       have hcut := fun W_ : World => rt_cutH55 W_ Ao no co m hcc
       have HM := Aside0.mk hm; clear hm; clear hmax
       go_upto_region 20 with (fail)
       have HS4 : Aside0 (St w wr.drew _) := ⟨HS.out.step (below_drew (Below.refl _ _))⟩; clear hz3 HS; have hz3 : wr.drew.cell? ⟨gt, 1, none⟩ = some (.slice Ao no co) := (blk_cell (St.getB HS4 0 rfl ⟨0, rfl⟩) 1).trans rfl; refine start_ (n := 15) (S := (fun w' => w'.cell? ⟨gt, 1, none⟩ = some (.slice Ao no co))) (ds := [14]) (tf 0 15) (by kernel_rfl) rfl rfl hz3 (fun hHeld => ?_); refine with_tabW spec_ReadTree.tab20 spec_ReadTree.bits20 (fun HT_ HW_ => ?_); generalize wr.drew = wa at HS4 hz3 hHeld ⊢; refine pu HT_ 0 84 14 ?_; refine pu HT_ 1 85 13 ?_; refine pu HT_ 2 86 12 ?_; refine pu HT_ 3 87 11 ?_; refine ta HT_ HW_ hHeld 4 88 10 ?_; refine pu HT_ 5 89 9 ?_; refine pu HT_ 6 90 8 ?_; refine pu HT_ 7 91 7 ?_; refine ta HT_ HW_ hHeld 8 92 6 ?_; refine pu HT_ 9 93 5 ?_; refine pu HT_ 10 94 4 ?_; refine pu HT_ 11 95 3 ?_; refine pu HT_ 12 96 2 ?_; refine pu HT_ 13 97 1 ?_; refine last_ (i := 14) (N := none) (tf 15 0) rfl rfl (one_of HT_.out (by kernel_rfl)) (by decide) (fun K hK => ?_); refine skip_ (w1 := wa.setCell ⟨gt, 1, none⟩ (.slice Ao m co)) (by rfl) rfl ?_ ?_
       ·have hf3 : wa.frozen? ⟨gt, 1, none⟩ = false := blk_frozen (St.getB HS4 0 rfl ⟨0, rfl⟩) 1
        first | (go_simp; done) | (go_simp; rfl)
       refine hK.out _ _ ?_; clear hK K; refine done_ (done_of HT_.out (by kernel_rfl)) ?_; have HS5 : Aside0 (St w (wa.setCell ⟨gt, 1, none⟩ (.slice Ao m co)) _) := St.store HS4 0 rfl (by repeat (first | exact KeepBut.refl _ _ _ | apply KeepBut.set_)) (o' := (.cells #[.slice An ns.length cn, .slice Ao m co] 57 (0, 0))) (blk_put (St.getB HS4 0 rfl ⟨0, rfl⟩) 1 (.slice Ao m co) rfl) (below_set HS4.out.below (St.lowB HS4 0 rfl)); have HS7 := rt_cutR (m := m) HS5 2 rfl (by have := HNO.out; have := HM.out; omega)
       have htl : (op.take m).length = m := by rw [List.length_take]; have := HNO.out; have := HM.out; omega
       replace HS7 : Aside0 (St w (wa.setCell ⟨gt, 1, none⟩ (.slice Ao m co)) [Ob.B gt (.cells #[.slice An ns.length cn, .slice Ao (op.take m).length co] 57 (0, 0)), Ob.S w k66 66 okn (.slice An ns.length cn) ns, Ob.R w (Kd.int .i64) 3 oko (.slice Ao (op.take m).length co) (op.take m), Ob.B g2 (.cells #[.slice none 0 0] 29 (0, 0))]) := by rw [htl]; exact HS7
       clear hHeld HT_ HW_ hz3 HS4 HS5 htl; generalize wa.setCell ⟨gt, 1, none⟩ (.slice Ao m co) = w7 at HS7 ⊢
       go_wp2
       go_roundg g1
       case measure => omega
       case rel => exact ⟨a1, ns, op.take m, okn, oko, An, Ao, cn, co, by first | rfl | (simp; done) | go_num, ⟨by have := HK.out; omega⟩, HX2, ⟨St.lift HS7⟩⟩
     rw [if_neg c41] at h; have c41b : (c == 41) = false := beq_eq_false_iff_ne.2 c41
     by_cases c40 : c = 40
     ·rw [if_pos c40] at h
      obtain ⟨⟨r1_, r2_⟩, A1_, h⟩ := Option.bind_eq_some_iff.1 h; have H1 := Aside0.mk A1_
      dsimp only at h
      clear A1_ dl dg
      subst c40
      by_cases cl : op.length < 17592186044416
      ·rw [if_pos cl] at h
       obtain ⟨z, hz⟩ : ∃ z, wrap64 ((r2_.length : Int) - 1) = z := ⟨_, rfl⟩; have hzi : IntKind.i64.wrap ((r2_.length : Int) - 1) = z := (i64_w _).trans hz; rw [hz] at h
       simp only [Option.some.injEq, Prod.mk.injEq] at h
       obtain ⟨rfl, rfl, rfl, rfl⟩ := h; have HCL := Aside0.mk cl; clear cl hz
       go_upto_region 23 with (go_at_call 29; refine (spec_l2Reader_begin.calls gt okn oko An Ao ns.length cn op.length co ns r2_ op ⟨#[]⟩ r1_ _ w wr rfl rfl HS H1.out).mono ?_; rintro e w3 ⟨rfl, okn', An', cn', HS3⟩)
       have HS4 : Aside0 (St w w3.drew _) := ⟨HS3.out.step (below_drew (Below.refl _ _))⟩; clear HS3 HS H1; have hz2 : w3.drew.cell? ⟨gt, 0, none⟩ = some (.slice An' r2_.length cn') := (blk_cell (St.getB HS4 0 rfl ⟨0, rfl⟩) 0).trans rfl; have hz3 : w3.drew.cell? ⟨gt, 1, none⟩ = some (.slice Ao op.length co) := (blk_cell (St.getB HS4 0 rfl ⟨0, rfl⟩) 1).trans rfl; refine start_ (n := 17) (S := (fun w' => w'.cell? ⟨gt, 0, none⟩ = some (.slice An' r2_.length cn') ∧ w'.cell? ⟨gt, 1, none⟩ = some (.slice Ao op.length co))) (ds := [16]) (tf 0 17) (by kernel_rfl) rfl rfl ⟨hz2, hz3⟩ (fun hHeld => ?_); refine with_tabW spec_ReadTree.tab23 spec_ReadTree.bits23 (fun HT_ HW_ => ?_); generalize w3.drew = wa at HS4 hz2 hz3 hHeld ⊢; refine pu HT_ 0 103 16 ?_; refine pu HT_ 1 104 15 ?_; refine pu HT_ 2 105 14 ?_; refine pu HT_ 3 106 13 ?_; refine ta HT_ HW_ hHeld 4 107 12 ?_; refine pu HT_ 5 108 11 ?_; refine pu HT_ 6 109 10 ?_; refine pu HT_ 7 110 9 ?_; refine pu HT_ 8 111 8 ?_; refine ta HT_ HW_ hHeld 9 112 7 ?_; refine pu HT_ 10 113 6 ?_; refine pu HT_ 11 114 5 ?_; refine on HT_ 12 115 4 (fun K hK => ?_); refine value_ (w1 := wa.alloc (.cells #[.int .i64 z] 3)) (v := .slice (some ⟨wa.heap.size, 0, none⟩) 1 1) (by rfl) rfl ?_ ?_
       ·first | (go_simp; done) | (go_simp; constructor <;> rfl) | (go_simp; rfl)
       have HV2 : Aside0 (Below wa.heap.size wa (wa.alloc (.cells #[.int .i64 z] 3))) := ⟨below_alloc (Below.refl _ _) _⟩; refine hK.out _ _ ⟨(HV2.out.cell (World.block_lt_of_cell? wa _ hz2)).trans hz2, (HV2.out.cell (World.block_lt_of_cell? wa _ hz3)).trans hz3⟩ (fun hHeld => ?_); clear hK K HV2; refine nm 115 ?_; refine on HT_ 13 116 3 (fun K hK => ?_); refine Kd.R_append_step (Kd.int .i64) (w0 := w) w.heap.size (by rfl) (.tmp 107) (.tmp 115) 55 3 (.int .i64 0) 8 rfl Try.underlying55 rt_inf3 rfl (by decide) (by omega) (.slice Ao op.length co) op z [.int .i64 z] (fun k_ => oko k_ ∨ wa.heap.size ≤ k_) (fun _ => False) rfl rfl ?aP (fun _ hk => hk.elim) ?aF ?aO ?aB ?aS ?aL ?_
       (case aP => exact rfl)
       (case aF => exact (fun k_ hk => .inr hk))
       (case aO => exact Kd.R_mono (St.getR (W' := wa) HS4 2 rfl ⟨0, rfl⟩) (fun _ h_ => .inl h_))
       (case aB => exact HS4.out.below)
       (case aS => exact HS4.out.below.size)
       (case aL => have := HCL.out; omega)
       intro v6 w6 hr6 hb6 hg6 _
       obtain ⟨oko', HS6⟩ := rt_growR HS4 2 rfl hg6 hb6 hr6; obtain ⟨Ao', co', rfl⟩ := Kd.R_slice hr6; clear hr6 hb6 hg6 hz2 hz3 HS4; have hz2 : w6.cell? ⟨gt, 0, none⟩ = some (.slice An' r2_.length cn') := (blk_cell (St.getB HS6 0 rfl ⟨0, rfl⟩) 0).trans rfl; have hz3 : w6.cell? ⟨gt, 1, none⟩ = some (.slice Ao op.length co) := (blk_cell (St.getB HS6 0 rfl ⟨0, rfl⟩) 1).trans rfl; have hf3 : w6.frozen? ⟨gt, 1, none⟩ = false := blk_frozen (St.getB HS6 0 rfl ⟨0, rfl⟩) 1; refine hK.out _ _ ⟨hz2, hz3⟩ (fun hHeld => ?_); clear hK K; refine nm 116 ?_; refine pu HT_ 14 117 2 ?_; refine pu HT_ 15 118 1 ?_; refine last_ (i := 16) (N := none) (tf 17 0) rfl rfl (one_of HT_.out (by kernel_rfl)) (by decide) (fun K hK => ?_); refine skip_ (w1 := w6.setCell ⟨gt, 1, none⟩ (.slice Ao' (op ++ [z]).length co')) (by rfl) rfl ?_ ?_
       ·first | (go_simp; done) | (go_simp; rfl)
       refine hK.out _ _ ?_; clear hK K; refine done_ (done_of HT_.out (by kernel_rfl)) ?_; clear hHeld HT_ HW_; have HS7 : Aside0 (St w (w6.setCell ⟨gt, 1, none⟩ (.slice Ao' (op ++ [z]).length co')) _) := St.store HS6 0 rfl (by repeat (first | exact KeepBut.refl _ _ _ | apply KeepBut.set_)) (o' := (.cells #[.slice An' r2_.length cn', .slice Ao' (op ++ [z]).length co'] 57 (0, 0))) (blk_put (St.getB HS6 0 rfl ⟨0, rfl⟩) 1 (.slice Ao' (op ++ [z]).length co') rfl) (below_set HS6.out.below (St.lowB HS6 0 rfl)); clear hz2 hz3 hf3 HS6; generalize w6.setCell ⟨gt, 1, none⟩ (.slice Ao' (op ++ [z]).length co') = w7 at HS7 ⊢
       by_cases cr : r1_ = 0
       ·rw [if_pos cr] at hX
        have HX2 := Aside0.mk hX
        subst cr
        clear hX
        go_wp2
        go_roundg g1
        case measure => omega
        case rel => exact ⟨a1, r2_, op ++ [z], okn', oko', An', Ao', cn', co', by first | rfl | (simp; done) | go_num, ⟨by have := HK.out; omega⟩, HX2, ⟨St.lift HS7⟩⟩
       ·rw [if_neg cr] at hX
        simp only [Option.some.injEq, Prod.mk.injEq] at hX
        obtain ⟨rfl, rfl, rfl⟩ := hX; have crb : (r1_ == 0) = false := beq_eq_false_iff_ne.2 cr; have crn : (r1_ != 0) = true := bne_iff_ne.2 cr; have hf : w7.frozen? ⟨g2, 0, none⟩ = false := blk_frozen (St.getB HS7 3 rfl ⟨0, rfl⟩) 0; have hc : w7.cell? ⟨g2, 0, none⟩ = some (.slice none 0 0) := (blk_cell (St.getB HS7 3 rfl ⟨0, rfl⟩) 0).trans rfl
        go_wp2
        have HS6 : Aside0 (St w (w7.setCell ⟨g2, 0, none⟩ (.slice none 0 0)) _) := St.store HS7 3 rfl (by repeat (first | exact KeepBut.refl _ _ _ | apply KeepBut.set_)) (o' := .cells #[.slice none 0 0] 29 (0, 0)) (blk_put (St.getB HS7 3 rfl ⟨0, rfl⟩) 0 (.slice none 0 0) rfl) (below_set HS7.out.below (St.lowB HS7 3 rfl)); refine bodyPost_ret (results_ctt rfl _ _ g2 29 #[.slice none 0 0] (0, 0) _ rfl (St.getB HS6 3 rfl ⟨0, rfl⟩) hu29 rfl (by kernel_rfl)) rfl ?_
        exact ⟨.slice none 0 0, rfl, rt_nilS _ _ _, HS6.out.below⟩
      ·rw [if_neg cl] at h; cases h
     rw [if_neg c40] at h; have c40b : (c == 40) = false := beq_eq_false_iff_ne.2 c40; clear c32 c10 c59 c41 c40 dl dg; obtain ⟨e, A2_, h⟩ := Option.bind_eq_some_iff.1 h
     by_cases y1 : a ≤ e
     ·rw [if_pos y1] at h
      by_cases y2 : e ≤ (a0.size : Int)
      ·rw [if_pos y2] at h
       obtain ⟨⟨r1_, r2_⟩, A1_, h⟩ := Option.bind_eq_some_iff.1 h
       simp only [Option.some.injEq, Prod.mk.injEq] at h
       obtain ⟨rfl, rfl, rfl, rfl⟩ := h; have H1 := Aside0.mk A1_; have H2 := Aside0.mk A2_; clear A1_ A2_; replace y1 := eq_true y1; replace y2 := eq_true y2
       by_cases cr : r1_ = 0
       ·rw [if_pos cr] at hX
        have HX2 := Aside0.mk hX
        subst cr
        clear hX
        go_wp2_with (first | (go_at_call 30; refine (spec_l2End.calls g1 a0 a e _ H2.out).mono ?_; rintro e_ w3 ⟨rfl, ⟨nd, rfl⟩⟩) | (go_at_call 29; refine (spec_l2Reader_begin.calls gt okn oko An Ao ns.length cn op.length co ns r2_ op (a0.extract a.toNat e.toNat) 0 _ w (wr.drewN nd) rfl rfl ⟨St.lift HS⟩ H1.out).mono ?_; rintro e_ w7 ⟨rfl, okn', An', cn', HS7⟩))
        go_roundg g1
        case measure => omega
        case rel => exact ⟨e, r2_, op, okn', oko, An', Ao, cn', co, by first | rfl | (simp; done) | go_num, ⟨by have := HK.out; omega⟩, HX2, ⟨St.lift HS7⟩⟩
       ·rw [if_neg cr] at hX
        simp only [Option.some.injEq, Prod.mk.injEq] at hX
        obtain ⟨rfl, rfl, rfl⟩ := hX; have crb : (r1_ == 0) = false := beq_eq_false_iff_ne.2 cr; have crn : (r1_ != 0) = true := bne_iff_ne.2 cr
        go_wp2_with (first | (go_at_call 30; refine (spec_l2End.calls g1 a0 a e _ H2.out).mono ?_; rintro e_ w3 ⟨rfl, ⟨nd, rfl⟩⟩) | (go_at_call 29; refine (spec_l2Reader_begin.calls gt okn oko An Ao ns.length cn op.length co ns r2_ op (a0.extract a.toNat e.toNat) r1_ _ w (wr.drewN nd) rfl rfl ⟨St.lift HS⟩ H1.out).mono ?_; rintro e_ w7 ⟨rfl, okn', An', cn', HS7⟩; have hf : w7.frozen? ⟨g2, 0, none⟩ = false := blk_frozen (St.getB HS7 3 rfl ⟨0, rfl⟩) 0; have hc : w7.cell? ⟨g2, 0, none⟩ = some (.slice none 0 0) := (blk_cell (St.getB HS7 3 rfl ⟨0, rfl⟩) 0).trans rfl))
        have HS6 : Aside0 (St w (w7.setCell ⟨g2, 0, none⟩ (.slice none 0 0)) _) := St.store HS7 3 rfl (by repeat (first | exact KeepBut.refl _ _ _ | apply KeepBut.set_)) (o' := .cells #[.slice none 0 0] 29 (0, 0)) (blk_put (St.getB HS7 3 rfl ⟨0, rfl⟩) 0 (.slice none 0 0) rfl) (below_set HS7.out.below (St.lowB HS7 3 rfl)); refine bodyPost_ret (results_ctt rfl _ _ g2 29 #[.slice none 0 0] (0, 0) _ rfl (St.getB HS6 3 rfl ⟨0, rfl⟩) hu29 rfl (by kernel_rfl)) rfl ?_
        exact ⟨.slice none 0 0, rfl, rt_nilS _ _ _, HS6.out.below⟩
      ·rw [if_neg y2] at h; cases h
     ·rw [if_neg y1] at h; cases h
    ·rw [if_neg q0] at hX; cases hX
   ·rw [if_neg q1] at hX
    have q1b : decide (a < (a0.size : Int)) = false := decide_eq_false q1; clear q1; have hz2 : wr.cell? ⟨gt, 0, none⟩ = some (.slice An ns.length cn) := (blk_cell (St.getB HS 0 rfl ⟨0, rfl⟩) 0).trans rfl; have hz3 : wr.cell? ⟨gt, 1, none⟩ = some (.slice Ao op.length co) := (blk_cell (St.getB HS 0 rfl ⟨0, rfl⟩) 1).trans rfl; have hf : wr.frozen? ⟨g2, 0, none⟩ = false := blk_frozen (St.getB HS 3 rfl ⟨0, rfl⟩) 0; have hc : wr.cell? ⟨g2, 0, none⟩ = some (.slice none 0 0) := (blk_cell (St.getB HS 3 rfl ⟨0, rfl⟩) 0).trans rfl; obtain ⟨no, hno⟩ : ∃ no, op.length = no := ⟨_, rfl⟩; obtain ⟨nn, hnn⟩ : ∃ nn, ns.length = nn := ⟨_, rfl⟩; rw [hno] at hX hz3; rw [hnn] at hX hz2
    by_cases q2 : 0 < no
    ·rw [if_pos q2] at hX
     simp only [Option.some.injEq, Prod.mk.injEq] at hX
     obtain ⟨rfl, rfl, rfl⟩ := hX; have q2b : decide (0 < (no : Int)) = true := decide_eq_true (by omega); have q2n : decide (0 < no) = true := decide_eq_true q2; clear q2
     go_wp2
     have HS6 : Aside0 (St w (wr.setCell ⟨g2, 0, none⟩ (.slice none 0 0)) _) := St.store HS 3 rfl (by repeat (first | exact KeepBut.refl _ _ _ | apply KeepBut.set_)) (o' := .cells #[.slice none 0 0] 29 (0, 0)) (blk_put (St.getB HS 3 rfl ⟨0, rfl⟩) 0 (.slice none 0 0) rfl) (below_set HS.out.below (St.lowB HS 3 rfl)); refine bodyPost_ret (results_ctt rfl _ _ g2 29 #[.slice none 0 0] (0, 0) _ rfl (St.getB HS6 3 rfl ⟨0, rfl⟩) hu29 rfl (by kernel_rfl)) rfl ?_
     exact ⟨.slice none 0 0, rfl, rt_nilS _ _ _, HS6.out.below⟩
    ·rw [if_neg q2] at hX
     obtain rfl : no = 0 := by omega
     clear q2
     by_cases q3 : nn = 0
     ·rw [if_pos q3] at hX
      simp only [Option.some.injEq, Prod.mk.injEq] at hX
      obtain ⟨rfl, rfl, rfl⟩ := hX
      subst q3
      go_wp2
      have HS6 : Aside0 (St w (wr.setCell ⟨g2, 0, none⟩ (.slice none 0 0)) _) := St.store HS 3 rfl (by repeat (first | exact KeepBut.refl _ _ _ | apply KeepBut.set_)) (o' := .cells #[.slice none 0 0] 29 (0, 0)) (blk_put (St.getB HS 3 rfl ⟨0, rfl⟩) 0 (.slice none 0 0) rfl) (below_set HS.out.below (St.lowB HS 3 rfl)); refine bodyPost_ret (results_ctt rfl _ _ g2 29 #[.slice none 0 0] (0, 0) _ rfl (St.getB HS6 3 rfl ⟨0, rfl⟩) hu29 rfl (by kernel_rfl)) rfl ?_
      exact ⟨.slice none 0 0, rfl, rt_nilS _ _ _, HS6.out.below⟩
     ·rw [if_neg q3] at hX
      simp only [Option.some.injEq, Prod.mk.injEq] at hX
      obtain ⟨rfl, rfl, rfl⟩ := hX; have q3b : (nn == 0) = false := beq_eq_false_iff_ne.2 q3; have q3d : ((nn : Int) == 0) = false := beq_eq_false_iff_ne.2 (by omega); have q3n : (nn = 0) = False := eq_false q3; clear q3
      go_wp2
      have HS6 : Aside0 (St w (wr.setCell ⟨g2, 0, none⟩ (.slice An nn cn)) _) := St.store HS 3 rfl (by repeat (first | exact KeepBut.refl _ _ _ | apply KeepBut.set_)) (o' := .cells #[.slice An nn cn] 29 (0, 0)) (blk_put (St.getB HS 3 rfl ⟨0, rfl⟩) 0 (.slice An nn cn) rfl) (below_set HS.out.below (St.lowB HS 3 rfl)); refine bodyPost_ret (results_ctt rfl _ _ g2 29 #[.slice An nn cn] (0, 0) _ rfl (St.getB HS6 3 rfl ⟨0, rfl⟩) hu29 rfl (by kernel_rfl)) rfl ?_
      subst hnn
      exact ⟨.slice An ns.length cn, rfl, Kd.S_mono (St.getS (W' := wr.setCell ⟨g2, 0, none⟩ (.slice An ns.length cn)) HS6 1 rfl ⟨0, rfl⟩) (fun _ _ => trivial), HS6.out.below⟩

-- NOT PRINTED: function 49 (impl_scanner_remark)

-- NOT PRINTED: function 50 (impl_scanner_begin)

-- NOT PRINTED: function 31 (impl_scanner_next)

end Go.Proofs.Ytjjlcmfjmdfedaa.PFnTreeBack
