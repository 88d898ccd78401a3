-- Written by a program of this session (a turned copy of the kit's printer); Lean checks it.
-- half the depth
import Derived.Test.YtjjlcmfjmdfedaaPFnTreeBackx0
import Derived.Test.YtjjlcmfjmdfedaaPFnTreeBackx2
import Derived.Test.YtjjlcmfjmdfedaaPFnTreeBackx5
namespace Go.Proofs.Ytjjlcmfjmdfedaa.PFnTreeBack
open Go.RowKit Go.Proofs.YtjjlcmfjmdfedaaW.PrintWords Go.Proofs.YtjjlcmfjmdfedaaW.PrintLast Go.Proofs.YtjjlcmfjmdfedaaW.PrintMore
attribute [local go_sem] max2_int min2_int max_two min_two max_three min_three max_four min_four   -- for this text's walks alone
set_option linter.unusedVariables false
set_option linter.unusedSimpArgs false

/-! ### impl_ReadTree: function 12 -/
def impl_scanner_begin.T10 : Bool × List (List Nat × List Nat) := (true, [([], []), ([], []), ([1], [1]), ([2], [2]), ([3], [3]), ([], []), ([5], [5]), ([6], [6]), ([7], [7]), ([8], [8]), ([9], [9]), ([4, 10], [4, 10]), ([0, 0, 1, 2, 3, 4, 5, 6, 7, 8, 9, 10, 11], [0]), ([12, 0, 1, 2, 3, 4, 5, 6, 7, 8, 9, 10, 11], [12]), ([13, 11, 11, 0, 1, 2, 3, 4, 5, 6, 7, 8, 9, 10, 11], [11, 13])])
def impl_scanner_begin.B10 : List Nat := [0, 0, 2, 6, 14, 0, 32, 96, 224, 480, 992, 2046, 4095, 8191, 16383]
theorem impl_scanner_begin.tab10 : rtab .any (opsOf Try.f50 10) = impl_scanner_begin.T10 := by kernel_rfl
theorem impl_scanner_begin.bits10 : waitsOk impl_scanner_begin.T10.2 impl_scanner_begin.B10 = true := by kernel_rfl
set_option maxHeartbeats 8000000 in
set_option maxRecDepth 100000 in
theorem impl_scanner_begin.calls (gt : Nat) (T : ByteArray) (a : Int) (okn oko : Nat → Prop) (An Ao : Option Addr) (nn cn no co : Nat) (ns ns' : List S66) (op : List Int) (text : ByteArray) (code : Int) (rest : List Ob) (w0 W : World)
  (en : ns.length = nn) (eo : op.length = no)
  (hS : Aside0 (St w0 W (Ob.B gt (.cells #[.string T, .int .i64 a, .slice An nn cn, .slice Ao no co] 62 (0, 0)) :: Ob.S w0 k66 66 okn (.slice An nn cn) ns :: Ob.R w0 (Kd.int .i64) 2 oko (.slice Ao no co) op :: rest)))
  (h : rtBegin ns op text = some (code, ns')) :
  Calls Try.prog 50 #[.pointer (some ⟨gt, 0, none⟩), .string text] W fun e w' => e = .returned (.int .i64 code) ∧ ∃ (okn' : Nat → Prop) (An' : Option Addr) (cn' : Nat),
   Aside0 (St w0 w' (Ob.B gt (.cells #[.string T, .int .i64 a, .slice An' ns'.length cn', .slice Ao no co] 62 (0, 0)) :: Ob.S w0 k66 66 okn' (.slice An' ns'.length cn') ns' :: Ob.R w0 (Kd.int .i64) 2 oko (.slice Ao no co) op :: rest)) := by
 have hu62 := Try.underlying62; have hu66 := Try.underlying66; have HEN := Aside0.mk en; have HEO := Aside0.mk eo; have hz0 : W.cell? ⟨gt, 2, none⟩ = some (.slice An nn cn) := (blk_cell (St.getB hS 0 rfl ⟨0, rfl⟩) 2).trans rfl; have hz1 : W.cell? ⟨gt, 3, none⟩ = some (.slice Ao no co) := (blk_cell (St.getB hS 0 rfl ⟨0, rfl⟩) 3).trans rfl
 unfold rtBegin at h
 rw [en, eo] at h; clear en eo
 by_cases c1 : no = 0
 ·rw [if_pos c1] at h
  by_cases c2 : 0 < nn
  ·rw [if_pos c2] at h
   obtain ⟨e1_, e2_⟩ := Prod.mk.inj (Option.some.inj h)
   subst e1_ e2_
   clear h; have c2b : decide (0 < (nn : Int)) = true := decide_eq_true (by omega); have c2n : decide (0 < nn) = true := decide_eq_true c2
   subst c1
   have HC2 := Aside0.mk c2; clear c2
   go_enter Try.func50, Try.ntmps50
   go_wp2
   go_ret
   exact ⟨rfl, okn, An, cn, by rw [HEN.out]; exact ⟨St.lift hS⟩⟩
  ·rw [if_neg c2] at h
   obtain ⟨e1_, e2_⟩ := Prod.mk.inj (Option.some.inj h)
   subst e1_ e2_
   clear h
   obtain rfl : nn = 0 := by omega
   subst c1
   clear c2; have HLN := HEN; have HLIM := Aside0.mk (show 0 ≤ 2000 by omega)
   go_enter Try.func50, Try.ntmps50
   have hq2 : W.cell? ⟨gt, 2, none⟩ = some (.slice An 0 cn) := (blk_cell (St.getB hS 0 rfl ⟨0, rfl⟩) 2).trans rfl
   go_wp2_with (at_builtin; refine Kd.S_append k66 (w0 := w0) w0.heap.size rfl (.tmp 74) (.tmp 77) 27 66 (.agg #[.string ⟨#[]⟩, .slice none 0 0]) 40 rfl Try.underlying27 rt_inf66 rfl (by decide) (by omega) (.slice An 0 cn) ns (S66.mk text []) [.string text, .slice none 0 0] (fun k_ => okn k_ ∨ W.heap.size ≤ k_) (fun _ => False) rfl (by first | (go_simp; done) | (go_simp; rfl)) ?aP (fun _ hk => hk.elim) ?aF ?aO ?aB ?aS ?aL ?_; (case aP => exact k66_mkM _ _ _ (S66.mk text []) (Kd.R_nil _ _ _ _ _)); (case aF => exact fun _ hk => .inr hk); (case aO => exact Kd.S_mono (St.getS (W' := W) hS 1 rfl ⟨0, rfl⟩) (fun _ h_ => ⟨.inl h_, fun hf => hf⟩)); (case aB => exact hS.out.below); (case aS => exact hS.out.below.size); (case aL => have := HLN.out; have := HLIM.out; omega))
   intro v1 w2 hr2 hb2 hg2 _
   obtain ⟨okn2, HT2⟩ := rt_growS hS 1 rfl hg2 hb2 hr2; obtain ⟨An2, cn2, rfl⟩ := Kd.S_slice hr2
   have hnl : (ns ++ [S66.mk text []]).length = 1 := by rw [List.length_append, HLN.out]; rfl
   rw [hnl] at HT2 ⊢; have HNL := Aside0.mk hnl; clear hnl hr2 hb2 hg2 hq2; have hz2 : w2.cell? ⟨gt, 2, none⟩ = some (.slice An 0 cn) := (blk_cell (St.getB HT2 0 rfl ⟨0, rfl⟩) 2).trans rfl; have hzf2 : w2.frozen? ⟨gt, 2, none⟩ = false := blk_frozen (St.getB HT2 0 rfl ⟨0, rfl⟩) 2
   go_wp2
   have HT3 : Aside0 (St w0 (w2.setCell ⟨gt, 2, none⟩ (.slice An2 1 cn2)) _) := St.store HT2 0 rfl (by repeat (first | exact KeepBut.refl _ _ _ | apply KeepBut.set_)) (o' := .cells #[.string T, .int .i64 a, .slice An2 1 cn2, .slice Ao 0 co] 62 (0, 0)) (blk_put (St.getB HT2 0 rfl ⟨0, rfl⟩) 2 (.slice An2 1 cn2) rfl) (below_set HT2.out.below (St.lowB HT2 0 rfl))
   go_ret
   exact ⟨rfl, okn2, An2, cn2, by rw [HNL.out]; exact ⟨St.lift HT3⟩⟩
 ·rw [if_neg c1] at h
  have c1b : decide ((no : Int) = 0) = false := decide_eq_false (by omega); have c1n : (no = 0) = False := eq_false c1; have c1e : (no == 0) = false := beq_eq_false_iff_ne.2 c1; have c1d : ((no : Int) == 0) = false := beq_eq_false_iff_ne.2 (by omega); have HC1 := Aside0.mk c1; clear c1
  by_cases c2 : 100 < no
  ·rw [if_pos c2] at h
   obtain ⟨e1_, e2_⟩ := Prod.mk.inj (Option.some.inj h)
   subst e1_ e2_
   clear h; have c2b : decide (100 < (no : Int)) = true := decide_eq_true (by omega); have c2n : decide (100 < no) = true := decide_eq_true c2; clear c2
   go_enter Try.func50, Try.ntmps50
   go_wp2
   go_ret
   exact ⟨rfl, okn, An, cn, by rw [HEN.out]; exact ⟨St.lift hS⟩⟩
  ·rw [if_neg c2] at h
   have c2b : decide (100 < (no : Int)) = false := decide_eq_false (by omega); have c2n : decide (100 < no) = false := decide_eq_false c2; have HC2 := Aside0.mk c2; clear c2
   by_cases c3 : nn = 2000
   ·rw [if_pos c3] at h
    obtain ⟨e1_, e2_⟩ := Prod.mk.inj (Option.some.inj h)
    subst e1_ e2_
    clear h; have HC3 := Aside0.mk c3
    subst c3
    go_enter Try.func50, Try.ntmps50
    go_wp2
    go_ret
    exact ⟨rfl, okn, An, cn, by rw [HEN.out]; exact ⟨St.lift hS⟩⟩
   ·rw [if_neg c3] at h
    have c3b : decide ((nn : Int) = 2000) = false := decide_eq_false (by omega); have c3n : (nn = 2000) = False := eq_false c3; have c3e : (nn == 2000) = false := beq_eq_false_iff_ne.2 c3; have c3d : ((nn : Int) == 2000) = false := beq_eq_false_iff_ne.2 (by omega); clear c3
    by_cases c4 : nn < 2000
    ·rw [if_pos c4] at h
     have HC4 := Aside0.mk c4; clear c4; obtain ⟨m, hm⟩ : ∃ m : Nat, no = m + 1 := ⟨no - 1, by have := HC1.out; omega⟩
     rw [show ((no : Int) - 1) = (m : Int) from by omega] at h; obtain ⟨up, hup⟩ : ∃ up, rd op (m : Int) = up := ⟨_, rfl⟩; rw [hup] at h
     by_cases c5 : 0 ≤ up
     ·rw [if_pos c5] at h
      by_cases c6 : up < (nn : Int)
      ·rw [if_pos c6] at h
       by_cases c7 : (rd_T66 ns up).f1.length < 17592186044416
       ·rw [if_pos c7] at h
        obtain ⟨e1_, e2_⟩ := Prod.mk.inj (Option.some.inj h)
        subst e1_ e2_
        clear h; have HC5 := Aside0.mk c5; have HC6 := Aside0.mk c6; have HC7 := Aside0.mk c7; have HM := Aside0.mk hm; have HUP := Aside0.mk hup; clear c5 c6 c7 hm hup
        go_enter Try.func50, Try.ntmps50
        obtain ⟨gp, cr, er, _, _, _, _⟩ := Kd.R_form (St.getR (W' := W) hS 2 rfl ⟨0, rfl⟩) (by have := HEO.out; have := HM.out; omega)
        have eA : Ao = some ⟨gp, 0, none⟩ := by injection er
        subst eA
        clear er; obtain ⟨hcs, _⟩ := Kd.R_celln 0 (St.getR (W' := W) hS 2 rfl ⟨0, rfl⟩) (m : Int) (by omega) (by have := HEO.out; have := HM.out; omega); replace hcs : W.cell? ⟨gp, m, none⟩ = some (.int .i64 up) := hcs.trans (by rw [← HUP.out]; rfl); obtain ⟨gn, cr, er, _, _, _, _⟩ := Kd.S_form (St.getS (W' := W) hS 1 rfl ⟨0, rfl⟩) (by have := HEN.out; have := HC5.out; have := HC6.out; omega)
        have eN : An = some ⟨gn, 0, none⟩ := by injection er
        subst eN
        clear er
        have hwm : IntKind.i64.wrap ((no : Int) - 1) = (m : Int) := by
         rw [i64_w]; have := HM.out; have := HC2.out
         unfold wrap64
         omega
        have m20 : (0 ≤ (m : Int)) = True := eq_true (by omega); have m2d : decide (0 ≤ (m : Int)) = true := decide_eq_true (by omega); have m21 : ((m : Int) < (no : Int)) = True := eq_true (by have := HM.out; omega)
        have u0 := eq_true HC5.out; have u1 := eq_true HC6.out
        go_upto_region 9 with (fail)
        go_quiet (fail)
        go_upto_region 10 with (fail)
        have HS3a : Aside0 (St w0 (W.drewN nq) _) := ⟨St.lift hS⟩; have HS4 : Aside0 (St w0 (W.drewN nq).drew _) := ⟨HS3a.out.step (below_drew (Below.refl _ _))⟩; clear HS3a hz0 hz1 hcs hS; obtain ⟨oki, cc, hcl, hM, hoki, hcells, hlend⟩ := St.lendS (W' := (W.drewN nq).drew) HS4 1 rfl z66 up HC5.out HC6.out; obtain ⟨N, hN⟩ : ∃ N, rd_T66 ns up = N := ⟨_, rfl⟩; have hget : ns.getD up.toNat z66 = N := hN; rw [hget] at hM; obtain ⟨vk, rfl, hRv⟩ := k66_openM hM; obtain ⟨Ak, ck, rfl⟩ := Kd.R_slice hRv; have hx1 : (W.drewN nq).drew.cell? ⟨gn, up.toNat * 2 + 1, none⟩ = some (.slice Ak N.f1.length ck) := (hcells _ (Kept.refl _ _)).1 1 _ rfl; have hz0 : (W.drewN nq).drew.cell? ⟨gt, 2, none⟩ = some (.slice (some ⟨gn, 0, none⟩) nn cn) := (blk_cell (St.getB HS4 0 rfl ⟨0, rfl⟩) 2).trans rfl
        have hneg : ∀ q, oki q → q ≠ gt := fun q hq he => nth_apart HS4.out.apart (i := 0) (j := 1) rfl rfl (by decide) q he (hoki q hq).1
        have HO := Aside0.mk hneg; have HCE := Aside0.mk hcells; have HLE := Aside0.mk hlend; have HRV := Aside0.mk hRv; have HNN := Aside0.mk hN; have HKL : Aside0 (N.f1.length < 17592186044416) := ⟨by rw [← hN]; exact HC7.out⟩
        clear hcl hM hoki hcells hlend hRv hget hneg hN; refine start_ (n := 15) (S := (fun w' => w'.cell? ⟨gt, 2, none⟩ = some (.slice (some ⟨gn, 0, none⟩) nn cn) ∧ w'.cell? ⟨gn, up.toNat * 2 + 1, none⟩ = some (.slice Ak N.f1.length ck))) (ds := [14]) (tf 0 15) (by kernel_rfl) rfl rfl ⟨hz0, hx1⟩ (fun hHeld => ?_); refine with_tabW impl_scanner_begin.tab10 impl_scanner_begin.bits10 (fun HT_ HW_ => ?_); generalize (W.drewN nq).drew = wa at HS4 HCE HLE HRV hz0 hx1 hHeld ⊢; refine pu HT_ 0 56 14 ?_; refine pu HT_ 1 57 13 ?_; refine pu HT_ 2 58 12 ?_; refine pu HT_ 3 59 11 ?_; refine ta HT_ HW_ hHeld 4 60 10 ?_; refine pu HT_ 5 61 9 ?_; refine pu HT_ 6 62 8 ?_; refine pu HT_ 7 63 7 ?_; refine ta HT_ HW_ hHeld 8 64 6 ?_; refine pu HT_ 9 65 5 ?_; refine on HT_ 10 66 4 (fun K hK => ?_); refine value_ (w1 := wa.alloc (.cells #[.int .i64 nn] 2)) (v := .slice (some ⟨wa.heap.size, 0, none⟩) 1 1) (by rfl) rfl ?_ ?_
        ·first | (go_simp; done) | (go_simp; constructor <;> rfl) | (go_simp; rfl)
        have HV2 : Aside0 (Below wa.heap.size wa (wa.alloc (.cells #[.int .i64 nn] 2))) := ⟨below_alloc (Below.refl _ _) _⟩; refine hK.out _ _ ⟨(HV2.out.cell (World.block_lt_of_cell? wa _ hz0)).trans hz0, (HV2.out.cell (World.block_lt_of_cell? wa _ hx1)).trans hx1⟩ (fun hHeld => ?_); clear hK K HV2; refine nm 66 ?_; refine on HT_ 11 67 3 (fun K hK => ?_); refine Kd.R_append_step (Kd.int .i64) (w0 := w0) w0.heap.size (by rfl) (.tmp 60) (.tmp 66) 60 2 (.int .i64 0) 8 rfl Try.underlying60 rt_inf2 rfl (by decide) (by omega) (.slice Ak N.f1.length ck) N.f1 nn [.int .i64 nn] (fun k_ => oki k_ ∨ wa.heap.size ≤ k_) (fun _ => False) rfl rfl ?aP (fun _ hk => hk.elim) ?aF ?aO ?aB ?aS ?aL ?_
        (case aP => exact rfl)
        (case aF => exact (fun k_ hk => .inr hk))
        (case aO => exact Kd.R_mono HRV.out (fun _ h_ => .inl h_))
        (case aB => exact HS4.out.below)
        (case aS => exact HS4.out.below.size)
        (case aL => have := HKL.out; omega)
        intro v6 w6 ho hb6 hg6 hat6
        have hk6 : Kept wa w6 oki := Kept.of_grown hg6 (Kept.refl _ _) (fun k_ e_ => .inl (HRV.out.1 k_ e_)) |> fun h => h
        obtain ⟨okf, H7⟩ := HLE.out w6 ⟨N.f0, N.f1 ++ [(nn : Int)]⟩ 1 [v6] hb6 hk6 (show 1 + 1 ≤ 2 from by decide) (k66_mkM _ _ _ ⟨N.f0, N.f1 ++ [(nn : Int)]⟩ ho); have hx6 : w6.cell? ⟨gn, up.toNat * 2 + 1, none⟩ = some (.slice Ak N.f1.length ck) := (HCE.out w6 hk6).1 1 _ rfl; have hf6 : w6.frozen? ⟨gn, up.toNat * 2 + 1, none⟩ = false := (HCE.out w6 hk6).2 1; have hz6 : w6.cell? ⟨gt, 2, none⟩ = some (.slice (some ⟨gn, 0, none⟩) nn cn) := (blk_cell ((hg6.block gt (blk_lt (St.getB HS4 0 rfl ⟨0, rfl⟩)) (fun e_ => HO.out gt (HRV.out.1 gt e_.symm) rfl)).trans (St.getB HS4 0 rfl ⟨0, rfl⟩)) 2).trans rfl; obtain ⟨A7, c7, rfl⟩ := Kd.R_slice ho; clear ho hb6 hg6 hat6 hk6; refine hK.out _ _ ⟨hz6, hx6⟩ (fun hHeld => ?_); clear hK K; refine nm 67 ?_; refine pu HT_ 12 68 2 ?_; refine pu HT_ 13 69 1 ?_; refine last_ (i := 14) (N := none) (tf 15 0) rfl rfl (one_of HT_.out (by kernel_rfl)) (by decide) (fun K hK => ?_); refine skip_ (w1 := w6.setCell ⟨gn, up.toNat * 2 + 1, none⟩ (.slice A7 (N.f1 ++ [(nn : Int)]).length c7)) (by rfl) rfl ?_ ?_
        ·first | (go_simp; done) | (go_simp; rfl)
        refine hK.out _ _ ?_; clear hK K; refine done_ (done_of HT_.out (by kernel_rfl)) ?_; clear hHeld HT_ HW_ hx6 hf6 hx1 hz0 hz6; obtain ⟨NS, hNS⟩ : ∃ NS, NS = ns.set up.toNat ⟨N.f0, N.f1 ++ [(nn : Int)]⟩ := ⟨_, rfl⟩
        replace H7 : Aside0 (St w0 (w6.setCell ⟨gn, up.toNat * 2 + 1, none⟩ (.slice A7 (N.f1 ++ [(nn : Int)]).length c7)) (Ob.B gt (.cells #[.string T, .int .i64 a, .slice (some ⟨gn, 0, none⟩) nn cn, .slice (some ⟨gp, 0, none⟩) no co] 62 (0, 0)) :: Ob.S w0 k66 66 okf (.slice (some ⟨gn, 0, none⟩) nn cn) NS :: Ob.R w0 (Kd.int .i64) 2 oko (.slice (some ⟨gp, 0, none⟩) no co) op :: rest)) := by rw [hNS]; exact H7
        generalize w6.setCell ⟨gn, up.toNat * 2 + 1, none⟩ (.slice A7 (N.f1 ++ [(nn : Int)]).length c7) = w7 at H7 ⊢; have HNS : Aside0 (NS = rtKid ns up nn) := ⟨by rw [hNS]; unfold rtKid; rw [HNN.out]⟩; have HLN : Aside0 (NS.length = nn) := ⟨by rw [hNS, List.length_set]; exact HEN.out⟩; have HLIM := Aside0.mk (show nn ≤ 2000 by have := HC4.out; omega)
        clear hNS HLE HCE HS4 HRV HO; have hq2 : w7.cell? ⟨gt, 2, none⟩ = some (.slice (some ⟨gn, 0, none⟩) nn cn) := (blk_cell (St.getB H7 0 rfl ⟨0, rfl⟩) 2).trans rfl
        go_wp2_with (at_builtin; refine Kd.S_append k66 (w0 := w0) w0.heap.size rfl (.tmp 74) (.tmp 77) 27 66 (.agg #[.string ⟨#[]⟩, .slice none 0 0]) 40 rfl Try.underlying27 rt_inf66 rfl (by decide) (by omega) (.slice (some ⟨gn, 0, none⟩) nn cn) NS (S66.mk text []) [.string text, .slice none 0 0] (fun k_ => okf k_ ∨ w7.heap.size ≤ k_) (fun _ => False) rfl (by first | (go_simp; done) | (go_simp; rfl)) ?aP (fun _ hk => hk.elim) ?aF ?aO ?aB ?aS ?aL ?_; (case aP => exact k66_mkM _ _ _ (S66.mk text []) (Kd.R_nil _ _ _ _ _)); (case aF => exact fun _ hk => .inr hk); (case aO => exact Kd.S_mono (St.getS (W' := w7) H7 1 rfl ⟨0, rfl⟩) (fun _ h_ => ⟨.inl h_, fun hf => hf⟩)); (case aB => exact H7.out.below); (case aS => exact H7.out.below.size); (case aL => have := HLN.out; have := HLIM.out; omega))
        intro v1 w2 hr2 hb2 hg2 _
        obtain ⟨okn2, HT2⟩ := rt_growS H7 1 rfl hg2 hb2 hr2; obtain ⟨An2, cn2, rfl⟩ := Kd.S_slice hr2
        have hnl : (NS ++ [S66.mk text []]).length = (nn + 1) := by rw [List.length_append, HLN.out]; rfl
        rw [hnl] at HT2 ⊢; have HNL := Aside0.mk hnl; clear hnl hr2 hb2 hg2 hq2; have hz2 : w2.cell? ⟨gt, 2, none⟩ = some (.slice (some ⟨gn, 0, none⟩) nn cn) := (blk_cell (St.getB HT2 0 rfl ⟨0, rfl⟩) 2).trans rfl; have hzf2 : w2.frozen? ⟨gt, 2, none⟩ = false := blk_frozen (St.getB HT2 0 rfl ⟨0, rfl⟩) 2
        go_wp2
        have HT3 : Aside0 (St w0 (w2.setCell ⟨gt, 2, none⟩ (.slice An2 (nn + 1) cn2)) _) := St.store HT2 0 rfl (by repeat (first | exact KeepBut.refl _ _ _ | apply KeepBut.set_)) (o' := .cells #[.string T, .int .i64 a, .slice An2 (nn + 1) cn2, .slice (some ⟨gp, 0, none⟩) no co] 62 (0, 0)) (blk_put (St.getB HT2 0 rfl ⟨0, rfl⟩) 2 (.slice An2 (nn + 1) cn2) rfl) (below_set HT2.out.below (St.lowB HT2 0 rfl))
        go_ret
        exact ⟨rfl, okn2, An2, cn2, by rw [← HNS.out, HNL.out]; exact ⟨St.lift HT3⟩⟩
       ·rw [if_neg c7] at h; cases h
      ·rw [if_neg c6] at h; cases h
     ·rw [if_neg c5] at h; cases h
    ·rw [if_neg c4] at h; cases h
def impl_scanner_next.T11 : Bool × List (List Nat × List Nat) := (true, [([], []), ([], []), ([1], [1]), ([2], [2]), ([3], [3]), ([], []), ([5], [5]), ([6], [6]), ([7], [7]), ([8], [8]), ([9], [9]), ([10], [10]), ([4, 11], [4, 11]), ([0, 0, 1, 2, 3, 4, 5, 6, 7, 8, 9, 10, 11, 12], [0]), ([13, 0, 1, 2, 3, 4, 5, 6, 7, 8, 9, 10, 11, 12], [13]), ([14, 12, 12, 0, 1, 2, 3, 4, 5, 6, 7, 8, 9, 10, 11, 12], [12, 14])])
def impl_scanner_next.B11 : List Nat := [0, 0, 2, 6, 14, 0, 32, 96, 224, 480, 992, 2016, 4094, 8191, 16383, 32767]
theorem impl_scanner_next.tab11 : rtab .any (opsOf Try.f31 11) = impl_scanner_next.T11 := by kernel_rfl
theorem impl_scanner_next.bits11 : waitsOk impl_scanner_next.T11.2 impl_scanner_next.B11 = true := by kernel_rfl
def impl_scanner_next.T16 : Bool × List (List Nat × List Nat) := (true, [([], []), ([], []), ([1], [1]), ([2], [2]), ([3], [3]), ([], []), ([5], [5]), ([6], [6]), ([7], [7]), ([8], [8]), ([9], [9]), ([4, 10], [4, 10]), ([0, 0, 1, 2, 3, 4, 5, 6, 7, 8, 9, 10, 11], [0]), ([12, 0, 1, 2, 3, 4, 5, 6, 7, 8, 9, 10, 11], [12]), ([13, 11, 0, 1, 2, 3, 4, 5, 6, 7, 8, 9, 10, 11], [11, 13])])
def impl_scanner_next.B16 : List Nat := [0, 0, 2, 6, 14, 0, 32, 96, 224, 480, 992, 2046, 4095, 8191, 16383]
theorem impl_scanner_next.tab16 : rtab .any (opsOf Try.f31 16) = impl_scanner_next.T16 := by kernel_rfl
theorem impl_scanner_next.bits16 : waitsOk impl_scanner_next.T16.2 impl_scanner_next.B16 = true := by kernel_rfl
def impl_scanner_next.T22 : Bool × List (List Nat × List Nat) := (true, [([], []), ([], []), ([1], [1]), ([2], [2]), ([3], [3]), ([], []), ([5], [5]), ([6], [6]), ([7], [7]), ([], []), ([4, 8, 9], [4, 8, 9]), ([0, 10], [0, 10]), ([11, 11, 0, 1, 2, 3, 4, 5, 6, 7, 8, 9, 10, 11], [11])])
def impl_scanner_next.B22 : List Nat := [0, 0, 2, 6, 14, 0, 32, 96, 224, 0, 1022, 2047, 4095]
theorem impl_scanner_next.tab22 : rtab .any (opsOf Try.f31 22) = impl_scanner_next.T22 := by kernel_rfl
theorem impl_scanner_next.bits22 : waitsOk impl_scanner_next.T22.2 impl_scanner_next.B22 = true := by kernel_rfl
theorem rt_cutH60 (W : World) (A : Option Addr) (n c i : Nat) (hi : i ≤ c) : (Instr.slice 60 (.slice A n c) none (some (.int .i64 (i : Int))) none).run Try.prog W = .ok (.slice A i c) W := by
 obtain ⟨i0, hi0, hz⟩ := Option.map_eq_some_iff.1 rt_inf2
 have hel : Try.prog.elem 60 = 2 := by simp [Program.elem, Try.underlying60]
 have hu : Try.prog.underlying 60 = some (.slice (Try.prog.elem 60)) := by rw [hel]; exact Try.underlying60
 have hs : i0.size = 1 := by simp only [Prod.mk.injEq] at hz; exact hz.2.1
 have ha : (A.map fun x => x.add 0) = A := by cases A <;> simp [Addr.add]
 rw [run_slice_h W 60 A n c hu .i64 (i : Int) (Int.natCast_nonneg _) (by omega), hel]
 simp [sizeOf, typeInfo, hi0, hs, sliced, Result.andThen, ha]
def impl_scanner_next.l0 : Nat → ByteArray → Int → Option Int
 | 0, _, _ => none
 | k + 1, T, a => if a < (T.size : Int) then (if 0 ≤ a then (if bt T a ≥ 32 then (if bt T a ≤ 126 then impl_scanner_next.l0 k T (wrap64 (a + 1)) else some a) else some a) else none) else some a
def impl_scanner_next.l1 : Nat → ByteArray → Int → Option Int
 | 0, _, _ => none
 | k + 1, T, e => if e < (T.size : Int) then (if 0 ≤ e then ((impl_atomByte.f (bt T e)).bind fun t => if t = true then impl_scanner_next.l1 k T (wrap64 (e + 1)) else some e) else none) else some e
def impl_scanner_next.f (k : Nat) (T : ByteArray) (a : Int) (ns : List S66) (op : List Int) : Option (Int × Int × List S66 × List Int) :=
 if 0 ≤ a then (if a < (T.size : Int) then (
  if bt T a = 10 then some (0, wrap64 (a + 1), ns, op)
  else if bt T a = 32 then some (0, wrap64 (a + 1), ns, op)
  else if bt T a = 59 then (impl_scanner_next.l0 k T (wrap64 (a + 1))).bind fun b => some (0, b, ns, op)
  else if bt T a = 40 then (rtBegin ns op ⟨#[]⟩).bind fun r => if r.1 = 0 then (if op.length < 17592186044416 then some (0, wrap64 (a + 1), r.2, op ++ [wrap64 ((r.2.length : Int) - 1)]) else none) else some (r.1, a, r.2, op)
  else if bt T a = 41 then (if op.length = 0 then some (3, a, ns, op) else some (0, wrap64 (a + 1), ns, op.take (op.length - 1)))
  else (impl_atomByte.f (bt T a)).bind fun t => if t = true then ((impl_scanner_next.l1 k T a).bind fun e => if a ≤ e then (if e ≤ (T.size : Int) then ((rtBegin ns op (T.extract a.toNat e.toNat)).bind fun r => if r.1 = 0 then some (0, e, r.2, op) else some (r.1, a, r.2, op)) else none) else none) else some (2, a, ns, op)) else none) else none
set_option maxHeartbeats 8000000 in
set_option maxRecDepth 100000 in
theorem impl_scanner_next.rem (k : Nat) (gt : Nat) (T : ByteArray) (a b : Int) (v1 v2 : Value) (rest : List Ob) (w0 W : World)
  (hS : Aside0 (St w0 W (Ob.B gt (.cells #[.string T, .int .i64 a, v1, v2] 62 (0, 0)) :: rest)))
  (h : impl_scanner_next.l0 k T (wrap64 (a + 1)) = some b) :
  Calls Try.prog 49 #[.pointer (some ⟨gt, 0, none⟩)] W fun e w' => e = .returned (.tuple #[]) ∧ Aside0 (St w0 w' (Ob.B gt (.cells #[.string T, .int .i64 b, v1, v2] 62 (0, 0)) :: rest)) := by
 have hu62 := Try.underlying62; have hz1 : W.cell? ⟨gt, 1, none⟩ = some (.int .i64 a) := (blk_cell (St.getB hS 0 rfl ⟨0, rfl⟩) 1).trans rfl; have hzf1 : W.frozen? ⟨gt, 1, none⟩ = false := blk_frozen (St.getB hS 0 rfl ⟨0, rfl⟩) 1; obtain ⟨a1, ha1⟩ : ∃ a1, wrap64 (a + 1) = a1 := ⟨_, rfl⟩; have hai : IntKind.i64.wrap (a + 1) = a1 := (i64_w _).trans ha1; rw [ha1] at h; have HL := Aside0.mk h; clear h
 go_enter Try.func49, Try.ntmps49
 go_wp2
 have HS1 : Aside0 (St w0 (W.setCell ⟨gt, 1, none⟩ (.int .i64 a1)) _) := St.store hS 0 rfl (by repeat (first | exact KeepBut.refl _ _ _ | apply KeepBut.set_)) (o' := .cells #[.string T, .int .i64 a1, v1, v2] 62 (0, 0)) (blk_put (St.getB hS 0 rfl ⟨0, rfl⟩) 1 (.int .i64 a1) rfl) (below_set hS.out.below (St.lowB hS 0 rfl)); clear hz1 hzf1; generalize W.setCell ⟨gt, 1, none⟩ (.int .i64 a1) = W1 at HS1 ⊢
 go_loopg [] k (fun kq wr => ∃ (x : Int), Aside0 (kq ≤ k) ∧ Aside0 (impl_scanner_next.l0 kq T x = some b) ∧ Aside0 (St w0 wr (Ob.B gt (.cells #[.string T, .int .i64 x, v1, v2] 62 (0, 0)) :: rest)))
 case atStart => exact ⟨a1, ⟨Nat.le_refl _⟩, HL, ⟨St.lift HS1⟩⟩
 case round =>
  clear HL HS1 hS ha1 hai; obtain ⟨x, HK, HX, HS⟩ := hrel
  cases gk with
  | zero => exact absurd HX.out (by simp [impl_scanner_next.l0])
  | succ g1 =>
  have hX := HX.out; clear HX; rw [impl_scanner_next.l0] at hX; have hz0 : wr.cell? ⟨gt, 0, none⟩ = some (.string T) := (blk_cell (St.getB HS 0 rfl ⟨0, rfl⟩) 0).trans rfl; have hz1 : wr.cell? ⟨gt, 1, none⟩ = some (.int .i64 x) := (blk_cell (St.getB HS 0 rfl ⟨0, rfl⟩) 1).trans rfl
  by_cases q1 : x < (T.size : Int)
  ·rw [if_pos q1] at hX
   have q1b : decide (x < (T.size : Int)) = true := decide_eq_true q1; replace q1 := eq_true q1
   by_cases q0 : 0 ≤ x
   ·rw [if_pos q0] at hX
    have q0b : decide (0 ≤ x) = true := decide_eq_true q0; replace q0 := eq_true q0; obtain ⟨c, hc⟩ : ∃ c, bt T x = c := ⟨_, rfl⟩; rw [hc] at hX
    have hx : ∀ h : x.toNat < T.size, ((T[x.toNat]'h).toNat : Int) = c := fun h => (bt_at T x h).trans hc
    clear hc
    by_cases q2 : c ≥ 32
    ·rw [if_pos q2] at hX
     have q2b : decide (32 ≤ c) = true := decide_eq_true q2; clear q2
     by_cases q3 : c ≤ 126
     ·rw [if_pos q3] at hX
      have q3b : decide (c ≤ 126) = true := decide_eq_true q3; clear q3; obtain ⟨y, hy⟩ : ∃ y, wrap64 (x + 1) = y := ⟨_, rfl⟩; have hyi : IntKind.i64.wrap (x + 1) = y := (i64_w _).trans hy; rw [hy] at hX; have HX2 := Aside0.mk hX; clear hX
      go_wp2
      go_quiet (fail)
      try go_upto_region 2 with (fail)
      have HS1 : Aside0 (St w0 (wr.drewN nq) _) := ⟨St.lift HS⟩; clear hz0 hz1 HS; generalize wr.drewN nq = w1 at HS1 ⊢; have hz1 : w1.cell? ⟨gt, 1, none⟩ = some (.int .i64 x) := (blk_cell (St.getB HS1 0 rfl ⟨0, rfl⟩) 1).trans rfl; have hzf1 : w1.frozen? ⟨gt, 1, none⟩ = false := blk_frozen (St.getB HS1 0 rfl ⟨0, rfl⟩) 1
      go_wp2
      have HS2 : Aside0 (St w0 (w1.setCell ⟨gt, 1, none⟩ (.int .i64 y)) _) := St.store HS1 0 rfl (by repeat (first | exact KeepBut.refl _ _ _ | apply KeepBut.set_)) (o' := .cells #[.string T, .int .i64 y, v1, v2] 62 (0, 0)) (blk_put (St.getB HS1 0 rfl ⟨0, rfl⟩) 1 (.int .i64 y) rfl) (below_set HS1.out.below (St.lowB HS1 0 rfl))
      go_roundg g1
      case measure => omega
      case rel => exact ⟨y, ⟨by have := HK.out; omega⟩, HX2, ⟨St.lift HS2⟩⟩
     ·rw [if_neg q3] at hX
      have q3b : decide (c ≤ 126) = false := decide_eq_false q3; clear q3; obtain rfl := Option.some.inj hX
      go_wp2
      repeat (go_quiet (fail); try go_wp2)
      go_end0
      exact ⟨rfl, ⟨St.lift HS⟩⟩
    ·rw [if_neg q2] at hX
     have q2b : decide (32 ≤ c) = false := decide_eq_false q2; clear q2; obtain rfl := Option.some.inj hX
     go_wp2
     repeat (go_quiet (fail); try go_wp2)
     go_end0
     exact ⟨rfl, ⟨St.lift HS⟩⟩
   ·rw [if_neg q0] at hX; cases hX
  ·rw [if_neg q1] at hX
   have q1b : decide (x < (T.size : Int)) = false := decide_eq_false q1; clear q1; obtain rfl := Option.some.inj hX
   go_wp2
   repeat (go_quiet (fail); try go_wp2)
   go_end0
   exact ⟨rfl, ⟨St.lift HS⟩⟩
set_option maxHeartbeats 8000000 in
set_option maxRecDepth 100000 in
theorem impl_scanner_next.calls (k : Nat) (gt : Nat) (T : ByteArray) (a b : Int) (okn oko : Nat → Prop) (An Ao : Option Addr) (nn cn no co : Nat) (ns ns' : List S66) (op op' : List Int) (code : Int) (rest : List Ob) (w0 W : World)
  (en : ns.length = nn) (eo : op.length = no)
  (hS : Aside0 (St w0 W (Ob.B gt (.cells #[.string T, .int .i64 a, .slice An nn cn, .slice Ao no co] 62 (0, 0)) :: Ob.S w0 k66 66 okn (.slice An nn cn) ns :: Ob.R w0 (Kd.int .i64) 2 oko (.slice Ao no co) op :: rest)))
  (h : impl_scanner_next.f k T a ns op = some (code, b, ns', op')) :
  Calls Try.prog 31 #[.pointer (some ⟨gt, 0, none⟩)] W fun e w' => e = .returned (.int .i64 code) ∧ ∃ (okn' oko' : Nat → Prop) (An' Ao' : Option Addr) (cn' co' : Nat),
   Aside0 (St w0 w' (Ob.B gt (.cells #[.string T, .int .i64 b, .slice An' ns'.length cn', .slice Ao' op'.length co'] 62 (0, 0)) :: Ob.S w0 k66 66 okn' (.slice An' ns'.length cn') ns' :: Ob.R w0 (Kd.int .i64) 2 oko' (.slice Ao' op'.length co') op' :: rest)) := by
 have hu62 := Try.underlying62; have hu66 := Try.underlying66; have HEN := Aside0.mk en; have HEO := Aside0.mk eo; have hz0 : W.cell? ⟨gt, 0, none⟩ = some (.string T) := (blk_cell (St.getB hS 0 rfl ⟨0, rfl⟩) 0).trans rfl; have hz1 : W.cell? ⟨gt, 1, none⟩ = some (.int .i64 a) := (blk_cell (St.getB hS 0 rfl ⟨0, rfl⟩) 1).trans rfl
 unfold impl_scanner_next.f at h
 by_cases p0 : 0 ≤ a
 ·rw [if_pos p0] at h
  by_cases p1 : a < (T.size : Int)
  ·rw [if_pos p1] at h
   have HP0 := Aside0.mk p0; have HP1 := Aside0.mk p1; obtain ⟨c, hc⟩ : ∃ c, bt T a = c := ⟨_, rfl⟩; rw [hc] at h
   have hx : ∀ h : a.toNat < T.size, ((T[a.toNat]'h).toNat : Int) = c := fun h => (bt_at T a h).trans hc
   have HH := Aside0.mk h; clear hc en eo h; replace p0 := eq_true p0; replace p1 := eq_true p1
   go_enter Try.func31, Try.ntmps31
   go_wp2
   go_quiet (fail)
   have HS1 : Aside0 (St w0 (W.drewN nq) _) := ⟨St.lift hS⟩; clear hz0 hz1 hS hx; generalize W.drewN nq = W1 at HS1 ⊢; obtain ⟨a1, ha1⟩ : ∃ a1, wrap64 (a + 1) = a1 := ⟨_, rfl⟩; have hai : IntKind.i64.wrap (a + 1) = a1 := (i64_w _).trans ha1; rw [ha1] at HH; clear ha1; have h := HH.out; clear HH
   by_cases c10 : c = 10
   ·rw [if_pos c10] at h
    simp only [Option.some.injEq, Prod.mk.injEq] at h
    obtain ⟨rfl, rfl, rfl, rfl⟩ := h
    subst c10
    have hz1 : W1.cell? ⟨gt, 1, none⟩ = some (.int .i64 a) := (blk_cell (St.getB HS1 0 rfl ⟨0, rfl⟩) 1).trans rfl; have hzf1 : W1.frozen? ⟨gt, 1, none⟩ = false := blk_frozen (St.getB HS1 0 rfl ⟨0, rfl⟩) 1
    go_wp2
    have HS2 : Aside0 (St w0 (W1.setCell ⟨gt, 1, none⟩ (.int .i64 a1)) _) := St.store HS1 0 rfl (by repeat (first | exact KeepBut.refl _ _ _ | apply KeepBut.set_)) (o' := (.cells #[.string T, .int .i64 a1, .slice An nn cn, .slice Ao no co] 62 (0, 0))) (blk_put (St.getB HS1 0 rfl ⟨0, rfl⟩) 1 (.int .i64 a1) rfl) (below_set HS1.out.below (St.lowB HS1 0 rfl))
    go_ret
    exact ⟨rfl, okn, oko, An, Ao, cn, co, by rw [HEN.out, HEO.out]; exact ⟨St.lift HS2⟩⟩
   rw [if_neg c10] at h; have c10b : (c == 10) = false := beq_eq_false_iff_ne.2 c10
   by_cases c32 : c = 32
   ·rw [if_pos c32] at h
    simp only [Option.some.injEq, Prod.mk.injEq] at h
    obtain ⟨rfl, rfl, rfl, rfl⟩ := h
    subst c32
    have hz1 : W1.cell? ⟨gt, 1, none⟩ = some (.int .i64 a) := (blk_cell (St.getB HS1 0 rfl ⟨0, rfl⟩) 1).trans rfl; have hzf1 : W1.frozen? ⟨gt, 1, none⟩ = false := blk_frozen (St.getB HS1 0 rfl ⟨0, rfl⟩) 1
    go_wp2
    have HS2 : Aside0 (St w0 (W1.setCell ⟨gt, 1, none⟩ (.int .i64 a1)) _) := St.store HS1 0 rfl (by repeat (first | exact KeepBut.refl _ _ _ | apply KeepBut.set_)) (o' := (.cells #[.string T, .int .i64 a1, .slice An nn cn, .slice Ao no co] 62 (0, 0))) (blk_put (St.getB HS1 0 rfl ⟨0, rfl⟩) 1 (.int .i64 a1) rfl) (below_set HS1.out.below (St.lowB HS1 0 rfl))
    go_ret
    exact ⟨rfl, okn, oko, An, Ao, cn, co, by rw [HEN.out, HEO.out]; exact ⟨St.lift HS2⟩⟩
   rw [if_neg c32] at h; have c32b : (c == 32) = false := beq_eq_false_iff_ne.2 c32
   by_cases c59 : c = 59
   ·rw [if_pos c59] at h
    obtain ⟨b_, A1_, h⟩ := Option.bind_eq_some_iff.1 h
    simp only [Option.some.injEq, Prod.mk.injEq] at h
    obtain ⟨rfl, rfl, rfl, rfl⟩ := h; have H1 := Aside0.mk (show impl_scanner_next.l0 k T (wrap64 (a + 1)) = some b_ from by rw [← i64_w, hai]; exact A1_)
    clear A1_
    subst c59
    go_wp2_with (go_at_call 49; refine (impl_scanner_next.rem k gt T a b_ _ _ _ w0 W1 HS1 H1.out).mono ?_; rintro e w3 ⟨rfl, HS3⟩)
    go_ret
    exact ⟨rfl, okn, oko, An, Ao, cn, co, by rw [HEN.out, HEO.out]; exact ⟨St.lift HS3⟩⟩
   rw [if_neg c59] at h; have c59b : (c == 59) = false := beq_eq_false_iff_ne.2 c59
   by_cases c40 : c = 40
   ·rw [if_pos c40] at h
    obtain ⟨⟨r1, r2⟩, A1_, h⟩ := Option.bind_eq_some_iff.1 h; have H1 := Aside0.mk A1_
    dsimp only at h
    clear A1_
    subst c40
    by_cases cr : r1 = 0
    ·rw [if_pos cr] at h
     by_cases cl : op.length < 17592186044416
     ·rw [if_pos cl] at h
      obtain ⟨z, hz⟩ : ∃ z, wrap64 ((r2.length : Int) - 1) = z := ⟨_, rfl⟩; have hzi : IntKind.i64.wrap ((r2.length : Int) - 1) = z := (i64_w _).trans hz; rw [hz] at h
      simp only [Option.some.injEq, Prod.mk.injEq] at h
      obtain ⟨rfl, rfl, rfl, rfl⟩ := h
      subst cr
      have HCL := Aside0.mk cl; clear cl hz
      go_upto_region 11 with (go_at_call 50; refine (impl_scanner_begin.calls gt T a okn oko An Ao nn cn no co ns r2 op ⟨#[]⟩ 0 rest w0 W1 HEN.out HEO.out HS1 H1.out).mono ?_; rintro e w3 ⟨rfl, okn', An', cn', HS3⟩)
      have HS4 : Aside0 (St w0 w3.drew _) := ⟨HS3.out.step (below_drew (Below.refl _ _))⟩; clear HS3 HS1; have hz2 : w3.drew.cell? ⟨gt, 2, none⟩ = some (.slice An' r2.length cn') := (blk_cell (St.getB HS4 0 rfl ⟨0, rfl⟩) 2).trans rfl; have hz3 : w3.drew.cell? ⟨gt, 3, none⟩ = some (.slice Ao no co) := (blk_cell (St.getB HS4 0 rfl ⟨0, rfl⟩) 3).trans rfl; refine start_ (n := 16) (S := (fun w' => w'.cell? ⟨gt, 2, none⟩ = some (.slice An' r2.length cn') ∧ w'.cell? ⟨gt, 3, none⟩ = some (.slice Ao no co))) (ds := [15]) (tf 0 16) (by kernel_rfl) rfl rfl ⟨hz2, hz3⟩ (fun hHeld => ?_); refine with_tabW impl_scanner_next.tab11 impl_scanner_next.bits11 (fun HT_ HW_ => ?_); generalize w3.drew = wa at HS4 hz2 hz3 hHeld ⊢; refine pu HT_ 0 43 15 ?_; refine pu HT_ 1 44 14 ?_; refine pu HT_ 2 45 13 ?_; refine pu HT_ 3 46 12 ?_; refine ta HT_ HW_ hHeld 4 47 11 ?_; refine pu HT_ 5 48 10 ?_; refine pu HT_ 6 49 9 ?_; refine pu HT_ 7 50 8 ?_; refine ta HT_ HW_ hHeld 8 51 7 ?_; refine pu HT_ 9 52 6 ?_; refine pu HT_ 10 53 5 ?_; refine on HT_ 11 54 4 (fun K hK => ?_); refine value_ (w1 := wa.alloc (.cells #[.int .i64 z] 2)) (v := .slice (some ⟨wa.heap.size, 0, none⟩) 1 1) (by rfl) rfl ?_ ?_
      ·first | (go_simp; done) | (go_simp; constructor <;> rfl) | (go_simp; rfl)
      have HV2 : Aside0 (Below wa.heap.size wa (wa.alloc (.cells #[.int .i64 z] 2))) := ⟨below_alloc (Below.refl _ _) _⟩; refine hK.out _ _ ⟨(HV2.out.cell (World.block_lt_of_cell? wa _ hz2)).trans hz2, (HV2.out.cell (World.block_lt_of_cell? wa _ hz3)).trans hz3⟩ (fun hHeld => ?_); clear hK K HV2; refine nm 54 ?_; refine on HT_ 12 55 3 (fun K hK => ?_); refine Kd.R_append_step (Kd.int .i64) (w0 := w0) w0.heap.size (by rfl) (.tmp 47) (.tmp 54) 60 2 (.int .i64 0) 8 rfl Try.underlying60 rt_inf2 rfl (by decide) (by omega) (.slice Ao no co) op z [.int .i64 z] (fun k_ => oko k_ ∨ wa.heap.size ≤ k_) (fun _ => False) rfl rfl ?aP (fun _ hk => hk.elim) ?aF ?aO ?aB ?aS ?aL ?_
      (case aP => exact rfl)
      (case aF => exact (fun k_ hk => .inr hk))
      (case aO => exact Kd.R_mono (St.getR (W' := wa) HS4 2 rfl ⟨0, rfl⟩) (fun _ h_ => .inl h_))
      (case aB => exact HS4.out.below)
      (case aS => exact HS4.out.below.size)
      (case aL => have := HCL.out; omega)
      intro v6 w6 hr6 hb6 hg6 _
      obtain ⟨oko', HS6⟩ := rt_growR HS4 2 rfl hg6 hb6 hr6; obtain ⟨Ao', co', rfl⟩ := Kd.R_slice hr6; clear hr6 hb6 hg6 hz2 hz3 HS4; have hz2 : w6.cell? ⟨gt, 2, none⟩ = some (.slice An' r2.length cn') := (blk_cell (St.getB HS6 0 rfl ⟨0, rfl⟩) 2).trans rfl; have hz3 : w6.cell? ⟨gt, 3, none⟩ = some (.slice Ao no co) := (blk_cell (St.getB HS6 0 rfl ⟨0, rfl⟩) 3).trans rfl; have hf3 : w6.frozen? ⟨gt, 3, none⟩ = false := blk_frozen (St.getB HS6 0 rfl ⟨0, rfl⟩) 3; refine hK.out _ _ ⟨hz2, hz3⟩ (fun hHeld => ?_); clear hK K; refine nm 55 ?_; refine pu HT_ 13 56 2 ?_; refine pu HT_ 14 57 1 ?_; refine last_ (i := 15) (N := none) (tf 16 0) rfl rfl (one_of HT_.out (by kernel_rfl)) (by decide) (fun K hK => ?_); refine skip_ (w1 := w6.setCell ⟨gt, 3, none⟩ (.slice Ao' (op ++ [z]).length co')) (by rfl) rfl ?_ ?_
      ·first | (go_simp; done) | (go_simp; rfl)
      refine hK.out _ _ ?_; clear hK K; refine done_ (done_of HT_.out (by kernel_rfl)) ?_; clear hHeld HT_ HW_; have HS7 : Aside0 (St w0 (w6.setCell ⟨gt, 3, none⟩ (.slice Ao' (op ++ [z]).length co')) _) := St.store HS6 0 rfl (by repeat (first | exact KeepBut.refl _ _ _ | apply KeepBut.set_)) (o' := (.cells #[.string T, .int .i64 a, .slice An' r2.length cn', .slice Ao' (op ++ [z]).length co'] 62 (0, 0))) (blk_put (St.getB HS6 0 rfl ⟨0, rfl⟩) 3 (.slice Ao' (op ++ [z]).length co') rfl) (below_set HS6.out.below (St.lowB HS6 0 rfl)); clear hz2 hz3 hf3 HS6; generalize w6.setCell ⟨gt, 3, none⟩ (.slice Ao' (op ++ [z]).length co') = w7 at HS7 ⊢; have hz1 : w7.cell? ⟨gt, 1, none⟩ = some (.int .i64 a) := (blk_cell (St.getB HS7 0 rfl ⟨0, rfl⟩) 1).trans rfl; have hzf1 : w7.frozen? ⟨gt, 1, none⟩ = false := blk_frozen (St.getB HS7 0 rfl ⟨0, rfl⟩) 1
      go_wp2
      have HS8 : Aside0 (St w0 (w7.setCell ⟨gt, 1, none⟩ (.int .i64 a1)) _) := St.store HS7 0 rfl (by repeat (first | exact KeepBut.refl _ _ _ | apply KeepBut.set_)) (o' := (.cells #[.string T, .int .i64 a1, .slice An' r2.length cn', .slice Ao' (op ++ [z]).length co'] 62 (0, 0))) (blk_put (St.getB HS7 0 rfl ⟨0, rfl⟩) 1 (.int .i64 a1) rfl) (below_set HS7.out.below (St.lowB HS7 0 rfl))
      go_ret
      exact ⟨rfl, okn', oko', An', Ao', cn', co', ⟨St.lift HS8⟩⟩
     ·rw [if_neg cl] at h; cases h
    ·rw [if_neg cr] at h
     simp only [Option.some.injEq, Prod.mk.injEq] at h
     obtain ⟨rfl, rfl, rfl, rfl⟩ := h; have crb : (r1 == 0) = false := beq_eq_false_iff_ne.2 cr; have crn : (r1 != 0) = true := bne_iff_ne.2 cr
     go_wp2_with (go_at_call 50; refine (impl_scanner_begin.calls gt T a okn oko An Ao nn cn no co ns r2 op ⟨#[]⟩ r1 rest w0 W1 HEN.out HEO.out HS1 H1.out).mono ?_; rintro e w3 ⟨rfl, okn', An', cn', HS3⟩)
     go_ret
     exact ⟨rfl, okn', oko, An', Ao, cn', co, by rw [HEO.out]; exact ⟨St.lift HS3⟩⟩
   rw [if_neg c40] at h; have c40b : (c == 40) = false := beq_eq_false_iff_ne.2 c40
   by_cases c41 : c = 41
   ·rw [if_pos c41] at h
    subst c41
    have hz3 : W1.cell? ⟨gt, 3, none⟩ = some (.slice Ao no co) := (blk_cell (St.getB HS1 0 rfl ⟨0, rfl⟩) 3).trans rfl
    by_cases cn0 : op.length = 0
    ·rw [if_pos cn0] at h
     simp only [Option.some.injEq, Prod.mk.injEq] at h
     obtain ⟨rfl, rfl, rfl, rfl⟩ := h
     obtain rfl : no = 0 := by rw [← HEO.out]; exact cn0
     go_wp2
     go_ret
     exact ⟨rfl, okn, oko, An, Ao, cn, co, by rw [HEN.out, HEO.out]; exact ⟨St.lift HS1⟩⟩
    ·rw [if_neg cn0] at h
     obtain ⟨m, hm⟩ : ∃ m : Nat, op.length = m + 1 := ⟨op.length - 1, by omega⟩; rw [show op.length - 1 = m from by omega] at h
     simp only [Option.some.injEq, Prod.mk.injEq] at h
     obtain ⟨rfl, rfl, rfl, rfl⟩ := h; have HM := Aside0.mk hm; have hmo : no = m + 1 := HEO.out.symm.trans hm; have cnb : (no == 0) = false := beq_eq_false_iff_ne.2 (by omega); have cnd : ((no : Int) == 0) = false := beq_eq_false_iff_ne.2 (by omega); have cnn : (no = 0) = False := eq_false (by omega); have hmax := Kd.C_max (Kd.R_reads' (St.getR (W' := W1) HS1 2 rfl ⟨0, rfl⟩)).2.2
     have hwm : IntKind.i64.wrap ((no : Int) - 1) = (m : Int) := by
      rw [i64_w]; have := HEO.out; clear HS1 hz3
      unfold wrap64
      omega
     have hcc : m ≤ co := by have := (Kd.R_reads' (St.getR (W' := W1) HS1 2 rfl ⟨0, rfl⟩)).2.1; omega
     have hcut := fun W_ : World => rt_cutH60 W_ Ao no co m hcc
     have HMO := Aside0.mk hmo; clear hm hmo cn0 hmax
     go_upto_region 16 with (fail)
     have HS4 : Aside0 (St w0 W1.drew _) := ⟨HS1.out.step (below_drew (Below.refl _ _))⟩; clear hz3; have hz3 : W1.drew.cell? ⟨gt, 3, none⟩ = some (.slice Ao no co) := (blk_cell (St.getB HS4 0 rfl ⟨0, rfl⟩) 3).trans rfl; refine start_ (n := 15) (S := (fun w' => w'.cell? ⟨gt, 3, none⟩ = some (.slice Ao no co))) (ds := [14]) (tf 0 15) (by kernel_rfl) rfl rfl hz3 (fun hHeld => ?_); refine with_tabW impl_scanner_next.tab16 impl_scanner_next.bits16 (fun HT_ HW_ => ?_); generalize W1.drew = wa at HS4 hz3 hHeld ⊢; refine pu HT_ 0 74 14 ?_; refine pu HT_ 1 75 13 ?_; refine pu HT_ 2 76 12 ?_; refine pu HT_ 3 77 11 ?_; refine ta HT_ HW_ hHeld 4 78 10 ?_; refine pu HT_ 5 79 9 ?_; refine pu HT_ 6 80 8 ?_; refine pu HT_ 7 81 7 ?_; refine ta HT_ HW_ hHeld 8 82 6 ?_; refine pu HT_ 9 83 5 ?_; refine pu HT_ 10 84 4 ?_; refine pu HT_ 11 85 3 ?_; refine pu HT_ 12 86 2 ?_; refine pu HT_ 13 87 1 ?_; refine last_ (i := 14) (N := none) (tf 15 0) rfl rfl (one_of HT_.out (by kernel_rfl)) (by decide) (fun K hK => ?_); refine skip_ (w1 := wa.setCell ⟨gt, 3, none⟩ (.slice Ao m co)) (by rfl) rfl ?_ ?_
     ·have hf3 : wa.frozen? ⟨gt, 3, none⟩ = false := blk_frozen (St.getB HS4 0 rfl ⟨0, rfl⟩) 3
      first | (go_simp; done) | (go_simp; rfl)
     refine hK.out _ _ ?_; clear hK K; refine done_ (done_of HT_.out (by kernel_rfl)) ?_; have HS5 : Aside0 (St w0 (wa.setCell ⟨gt, 3, none⟩ (.slice Ao m co)) _) := St.store HS4 0 rfl (by repeat (first | exact KeepBut.refl _ _ _ | apply KeepBut.set_)) (o' := (.cells #[.string T, .int .i64 a, .slice An nn cn, .slice Ao m co] 62 (0, 0))) (blk_put (St.getB HS4 0 rfl ⟨0, rfl⟩) 3 (.slice Ao m co) rfl) (below_set HS4.out.below (St.lowB HS4 0 rfl)); have HS7 := rt_cutR (m := m) HS5 2 rfl (by have := HM.out; omega)
     replace HS7 : Aside0 (St w0 (wa.setCell ⟨gt, 3, none⟩ (.slice Ao m co)) (Ob.B gt (.cells #[.string T, .int .i64 a, .slice An nn cn, .slice Ao m co] 62 (0, 0)) :: Ob.S w0 k66 66 okn (.slice An nn cn) ns :: Ob.R w0 (Kd.int .i64) 2 oko (.slice Ao m co) (op.take m) :: rest)) := HS7; clear hHeld HT_ HW_ hz3 HS4 HS5 HS1; generalize wa.setCell ⟨gt, 3, none⟩ (.slice Ao m co) = w7 at HS7 ⊢; have hz1 : w7.cell? ⟨gt, 1, none⟩ = some (.int .i64 a) := (blk_cell (St.getB HS7 0 rfl ⟨0, rfl⟩) 1).trans rfl; have hzf1 : w7.frozen? ⟨gt, 1, none⟩ = false := blk_frozen (St.getB HS7 0 rfl ⟨0, rfl⟩) 1
     go_wp2
     have HS8 : Aside0 (St w0 (w7.setCell ⟨gt, 1, none⟩ (.int .i64 a1)) _) := St.store HS7 0 rfl (by repeat (first | exact KeepBut.refl _ _ _ | apply KeepBut.set_)) (o' := (.cells #[.string T, .int .i64 a1, .slice An nn cn, .slice Ao m co] 62 (0, 0))) (blk_put (St.getB HS7 0 rfl ⟨0, rfl⟩) 1 (.int .i64 a1) rfl) (below_set HS7.out.below (St.lowB HS7 0 rfl))
     go_ret
     exact ⟨rfl, okn, oko, An, Ao, cn, co, by rw [HEN.out, show (op.take m).length = m from by rw [List.length_take]; have := HM.out; omega]; exact ⟨St.lift HS8⟩⟩
   rw [if_neg c41] at h; have c41b : (c == 41) = false := beq_eq_false_iff_ne.2 c41; clear c10 c32 c59 c40 c41; obtain ⟨t, A1_, h⟩ := Option.bind_eq_some_iff.1 h; have H1 := Aside0.mk A1_; clear A1_
   cases t with
   | false =>
    rw [if_neg (by decide)] at h
    simp only [Option.some.injEq, Prod.mk.injEq] at h
    obtain ⟨rfl, rfl, rfl, rfl⟩ := h
    go_wp2_with (go_at_call 51; refine (impl_atomByte.calls c false _ H1.out).mono ?_; rintro e w3 ⟨rfl, ⟨nd, rfl⟩⟩)
    go_ret
    exact ⟨rfl, okn, oko, An, Ao, cn, co, by rw [HEN.out, HEO.out]; exact ⟨St.lift HS1⟩⟩
   | true =>
    rw [if_pos rfl] at h; obtain ⟨e, A2_, h⟩ := Option.bind_eq_some_iff.1 h; have H2 := Aside0.mk A2_; have HR := Aside0.mk h; clear A2_ h; have hz1 : W1.cell? ⟨gt, 1, none⟩ = some (.int .i64 a) := (blk_cell (St.getB HS1 0 rfl ⟨0, rfl⟩) 1).trans rfl
    go_wp2_with (go_at_call 51; refine (impl_atomByte.calls c true _ H1.out).mono ?_; rintro e w3 ⟨rfl, ⟨nd, rfl⟩⟩)
    go_loopg [5] k (fun kq s5 wr => ∃ (x : Int), s5 = .int .i64 x ∧ Aside0 (kq ≤ k) ∧ Aside0 (impl_scanner_next.l1 kq T x = some e) ∧ Aside0 (St w0 wr (Ob.B gt (.cells #[.string T, .int .i64 a, .slice An nn cn, .slice Ao no co] 62 (0, 0)) :: Ob.S w0 k66 66 okn (.slice An nn cn) ns :: Ob.R w0 (Kd.int .i64) 2 oko (.slice Ao no co) op :: rest)))
    case atStart => exact ⟨a, rfl, ⟨Nat.le_refl _⟩, H2, ⟨St.lift HS1⟩⟩
    case round =>
     clear H1 H2 HS1 hz1; obtain ⟨x, rfl, HK, HX, HS⟩ := hrel
     cases gk with
     | zero => exact absurd HX.out (by simp [impl_scanner_next.l1])
     | succ g1 =>
     have hX := HX.out; clear HX; rw [impl_scanner_next.l1] at hX; have hz0 : wr.cell? ⟨gt, 0, none⟩ = some (.string T) := (blk_cell (St.getB HS 0 rfl ⟨0, rfl⟩) 0).trans rfl
     by_cases q1 : x < (T.size : Int)
     ·rw [if_pos q1] at hX
      have q1b : decide (x < (T.size : Int)) = true := decide_eq_true q1; replace q1 := eq_true q1
      by_cases q0 : 0 ≤ x
      ·rw [if_pos q0] at hX
       have q0b : decide (0 ≤ x) = true := decide_eq_true q0; replace q0 := eq_true q0; obtain ⟨u, A3_, hX⟩ := Option.bind_eq_some_iff.1 hX; obtain ⟨c2, hc⟩ : ∃ c2, bt T x = c2 := ⟨_, rfl⟩; rw [hc] at A3_
       have hx : ∀ h : x.toNat < T.size, ((T[x.toNat]'h).toNat : Int) = c2 := fun h => (bt_at T x h).trans hc
       have H3 := Aside0.mk A3_; clear hc A3_
       cases u with
       | true =>
        rw [if_pos rfl] at hX; have HX2 := Aside0.mk hX; clear hX
        go_wp2_with (go_at_call 51; refine (impl_atomByte.calls c2 true _ H3.out).mono ?_; rintro e w3 ⟨rfl, ⟨nd, rfl⟩⟩)
        go_roundg g1
        case measure => omega
        case rel => exact ⟨wrap64 (x + 1), by first | rfl | (simp; done) | go_num, ⟨by have := HK.out; omega⟩, HX2, ⟨St.lift HS⟩⟩
       | false =>
        rw [if_neg (by decide)] at hX; obtain rfl := Option.some.inj hX
        go_upto_region 22 with (go_at_call 51; refine (impl_atomByte.calls c2 false _ H3.out).mono ?_; rintro e w3 ⟨rfl, ⟨nd, rfl⟩⟩)
        have HSa : Aside0 (St w0 (wr.drewN nd) _) := ⟨St.lift HS⟩; clear hz0 HS hx H3; generalize wr.drewN nd = W2 at HSa ⊢; have h := HR.out; clear HR
        by_cases y1 : a ≤ x
        ·rw [if_pos y1] at h
         by_cases y2 : x ≤ (T.size : Int)
         ·rw [if_pos y2] at h
          obtain ⟨⟨r1, r2⟩, A1_, h⟩ := Option.bind_eq_some_iff.1 h; have H1 := Aside0.mk A1_
          dsimp only at h
          clear A1_; replace y1 := eq_true y1; replace y2 := eq_true y2; have HS4 : Aside0 (St w0 W2.drew _) := ⟨HSa.out.step (below_drew (Below.refl _ _))⟩; clear HSa; have hz0 : W2.drew.cell? ⟨gt, 0, none⟩ = some (.string T) := (blk_cell (St.getB HS4 0 rfl ⟨0, rfl⟩) 0).trans rfl; have hz1 : W2.drew.cell? ⟨gt, 1, none⟩ = some (.int .i64 a) := (blk_cell (St.getB HS4 0 rfl ⟨0, rfl⟩) 1).trans rfl; refine start_ (n := 13) (S := (fun w' => w'.cell? ⟨gt, 0, none⟩ = some (.string T) ∧ w'.cell? ⟨gt, 1, none⟩ = some (.int .i64 a))) (ds := []) (tf 0 13) (by kernel_rfl) rfl rfl ⟨hz0, hz1⟩ (fun hHeld => ?_); refine with_tabW impl_scanner_next.tab22 impl_scanner_next.bits22 (fun HT_ HW_ => ?_); generalize W2.drew = wa at HS4 hz0 hz1 hHeld ⊢; refine pu HT_ 0 120 12 ?_; refine pu HT_ 1 121 11 ?_; refine pu HT_ 2 122 10 ?_; refine pu HT_ 3 123 9 ?_; refine ta HT_ HW_ hHeld 4 124 8 ?_; refine pu HT_ 5 125 7 ?_; refine pu HT_ 6 126 6 ?_; refine pu HT_ 7 127 5 ?_; refine ta HT_ HW_ hHeld 8 128 4 ?_; refine pu HT_ 9 129 3 ?_; refine pu HT_ 10 130 2 ?_; refine on HT_ 11 131 1 (fun K hK => ?_); refine goes_ Try.func50 (by kernel_rfl) rfl #[.pointer (some ⟨gt, 0, none⟩), .string (T.extract a.toNat x.toNat)] (by rfl) rfl rfl ma ?_; refine (impl_scanner_begin.calls gt T a okn oko An Ao nn cn no co ns r2 op (T.extract a.toNat x.toNat) r1 rest w0 wa HEN.out HEO.out HS4 H1.out).mono ?_; rintro e w5 ⟨rfl, okn', An', cn', HS5⟩; refine ⟨_, rfl, ?_⟩; refine hK.out _ _ ⟨(blk_cell (St.getB HS5 0 rfl ⟨0, rfl⟩) 0).trans rfl, (blk_cell (St.getB HS5 0 rfl ⟨0, rfl⟩) 1).trans rfl⟩ (fun hHeld => ?_); clear hK K; refine nm 131 ?_; refine pu HT_ 12 6 0 ?_; refine done_ (done_of HT_.out (by kernel_rfl)) ?_; clear hHeld HT_ HW_ hz0 hz1 HS4 H1
          by_cases cr : r1 = 0
          ·rw [if_pos cr] at h
           simp only [Option.some.injEq, Prod.mk.injEq] at h
           obtain ⟨rfl, rfl, rfl, rfl⟩ := h
           subst cr
           have hz1 : w5.cell? ⟨gt, 1, none⟩ = some (.int .i64 a) := (blk_cell (St.getB HS5 0 rfl ⟨0, rfl⟩) 1).trans rfl; have hzf1 : w5.frozen? ⟨gt, 1, none⟩ = false := blk_frozen (St.getB HS5 0 rfl ⟨0, rfl⟩) 1
           go_wp2
           have HS8 : Aside0 (St w0 (w5.setCell ⟨gt, 1, none⟩ (.int .i64 x)) _) := St.store HS5 0 rfl (by repeat (first | exact KeepBut.refl _ _ _ | apply KeepBut.set_)) (o' := (.cells #[.string T, .int .i64 x, .slice An' r2.length cn', .slice Ao no co] 62 (0, 0))) (blk_put (St.getB HS5 0 rfl ⟨0, rfl⟩) 1 (.int .i64 x) rfl) (below_set HS5.out.below (St.lowB HS5 0 rfl))
           go_ret
           exact ⟨rfl, okn', oko, An', Ao, cn', co, by rw [HEO.out]; exact ⟨St.lift HS8⟩⟩
          ·rw [if_neg cr] at h
           simp only [Option.some.injEq, Prod.mk.injEq] at h
           obtain ⟨rfl, rfl, rfl, rfl⟩ := h; have crb : (r1 == 0) = false := beq_eq_false_iff_ne.2 cr; have crn : (r1 != 0) = true := bne_iff_ne.2 cr
           go_wp2
           go_ret
           exact ⟨rfl, okn', oko, An', Ao, cn', co, by rw [HEO.out]; exact ⟨St.lift HS5⟩⟩
         ·rw [if_neg y2] at h; cases h
        ·rw [if_neg y1] at h; cases h
      ·rw [if_neg q0] at hX; cases hX
     ·rw [if_neg q1] at hX
      have q1b : decide (x < (T.size : Int)) = false := decide_eq_false q1; clear q1; obtain rfl := Option.some.inj hX
      go_upto_region 22 with (fail)
      have HSa := HS; clear hz0 HS; generalize wr = W2 at HSa ⊢; have h := HR.out; clear HR
      by_cases y1 : a ≤ x
      ·rw [if_pos y1] at h
       by_cases y2 : x ≤ (T.size : Int)
       ·rw [if_pos y2] at h
        obtain ⟨⟨r1, r2⟩, A1_, h⟩ := Option.bind_eq_some_iff.1 h; have H1 := Aside0.mk A1_
        dsimp only at h
        clear A1_; replace y1 := eq_true y1; replace y2 := eq_true y2; have HS4 : Aside0 (St w0 W2.drew _) := ⟨HSa.out.step (below_drew (Below.refl _ _))⟩; clear HSa; have hz0 : W2.drew.cell? ⟨gt, 0, none⟩ = some (.string T) := (blk_cell (St.getB HS4 0 rfl ⟨0, rfl⟩) 0).trans rfl; have hz1 : W2.drew.cell? ⟨gt, 1, none⟩ = some (.int .i64 a) := (blk_cell (St.getB HS4 0 rfl ⟨0, rfl⟩) 1).trans rfl; refine start_ (n := 13) (S := (fun w' => w'.cell? ⟨gt, 0, none⟩ = some (.string T) ∧ w'.cell? ⟨gt, 1, none⟩ = some (.int .i64 a))) (ds := []) (tf 0 13) (by kernel_rfl) rfl rfl ⟨hz0, hz1⟩ (fun hHeld => ?_); refine with_tabW impl_scanner_next.tab22 impl_scanner_next.bits22 (fun HT_ HW_ => ?_); generalize W2.drew = wa at HS4 hz0 hz1 hHeld ⊢; refine pu HT_ 0 120 12 ?_; refine pu HT_ 1 121 11 ?_; refine pu HT_ 2 122 10 ?_; refine pu HT_ 3 123 9 ?_; refine ta HT_ HW_ hHeld 4 124 8 ?_; refine pu HT_ 5 125 7 ?_; refine pu HT_ 6 126 6 ?_; refine pu HT_ 7 127 5 ?_; refine ta HT_ HW_ hHeld 8 128 4 ?_; refine pu HT_ 9 129 3 ?_; refine pu HT_ 10 130 2 ?_; refine on HT_ 11 131 1 (fun K hK => ?_); refine goes_ Try.func50 (by kernel_rfl) rfl #[.pointer (some ⟨gt, 0, none⟩), .string (T.extract a.toNat x.toNat)] (by rfl) rfl rfl ma ?_; refine (impl_scanner_begin.calls gt T a okn oko An Ao nn cn no co ns r2 op (T.extract a.toNat x.toNat) r1 rest w0 wa HEN.out HEO.out HS4 H1.out).mono ?_; rintro e w5 ⟨rfl, okn', An', cn', HS5⟩; refine ⟨_, rfl, ?_⟩; refine hK.out _ _ ⟨(blk_cell (St.getB HS5 0 rfl ⟨0, rfl⟩) 0).trans rfl, (blk_cell (St.getB HS5 0 rfl ⟨0, rfl⟩) 1).trans rfl⟩ (fun hHeld => ?_); clear hK K; refine nm 131 ?_; refine pu HT_ 12 6 0 ?_; refine done_ (done_of HT_.out (by kernel_rfl)) ?_; clear hHeld HT_ HW_ hz0 hz1 HS4 H1
        by_cases cr : r1 = 0
        ·rw [if_pos cr] at h
         simp only [Option.some.injEq, Prod.mk.injEq] at h
         obtain ⟨rfl, rfl, rfl, rfl⟩ := h
         subst cr
         have hz1 : w5.cell? ⟨gt, 1, none⟩ = some (.int .i64 a) := (blk_cell (St.getB HS5 0 rfl ⟨0, rfl⟩) 1).trans rfl; have hzf1 : w5.frozen? ⟨gt, 1, none⟩ = false := blk_frozen (St.getB HS5 0 rfl ⟨0, rfl⟩) 1
         go_wp2
         have HS8 : Aside0 (St w0 (w5.setCell ⟨gt, 1, none⟩ (.int .i64 x)) _) := St.store HS5 0 rfl (by repeat (first | exact KeepBut.refl _ _ _ | apply KeepBut.set_)) (o' := (.cells #[.string T, .int .i64 x, .slice An' r2.length cn', .slice Ao no co] 62 (0, 0))) (blk_put (St.getB HS5 0 rfl ⟨0, rfl⟩) 1 (.int .i64 x) rfl) (below_set HS5.out.below (St.lowB HS5 0 rfl))
         go_ret
         exact ⟨rfl, okn', oko, An', Ao, cn', co, by rw [HEO.out]; exact ⟨St.lift HS8⟩⟩
        ·rw [if_neg cr] at h
         simp only [Option.some.injEq, Prod.mk.injEq] at h
         obtain ⟨rfl, rfl, rfl, rfl⟩ := h; have crb : (r1 == 0) = false := beq_eq_false_iff_ne.2 cr; have crn : (r1 != 0) = true := bne_iff_ne.2 cr
         go_wp2
         go_ret
         exact ⟨rfl, okn', oko, An', Ao, cn', co, by rw [HEO.out]; exact ⟨St.lift HS5⟩⟩
       ·rw [if_neg y2] at h; cases h
      ·rw [if_neg y1] at h; cases h
  ·rw [if_neg p1] at h; cases h
 ·rw [if_neg p0] at h; cases h
def impl_ReadTree.T7 : Bool × List (List Nat × List Nat) := (true, [([], []), ([], []), ([], []), ([2], [2]), ([0, 0], [0]), ([1, 4, 0, 1, 4], [1]), ([3, 5, 0, 1, 2, 3, 4, 5], [3])])
def impl_ReadTree.B7 : List Nat := [0, 0, 0, 4, 1, 19, 63]
theorem impl_ReadTree.tab7 : rtab .any (opsOf Try.f12 7) = impl_ReadTree.T7 := by kernel_rfl
theorem impl_ReadTree.bits7 : waitsOk impl_ReadTree.T7.2 impl_ReadTree.B7 = true := by kernel_rfl
def impl_ReadTree.l0 : Nat → ByteArray → Int → List S66 → List Int → Option (List S66 × Int × Int)
 | 0, _, _, _, _ => none
 | k + 1, T, a, ns, op => if a < (T.size : Int) then (impl_scanner_next.f k T a ns op).bind fun r => if r.1 = 0 then impl_ReadTree.l0 k T r.2.1 r.2.2.1 r.2.2.2 else some ([], r.1, r.2.1) else if 0 < op.length then some ([], 7, (T.size : Int)) else if ns.length = 0 then some ([], 8, (T.size : Int)) else some (ns, 0, 0)
def impl_ReadTree.f (k : Nat) (a0 : ByteArray) : Option (List S66 × Int × Int) := if 20000 < a0.size then some ([], 1, 0) else impl_ReadTree.l0 k a0 0 [] []
set_option maxHeartbeats 8000000 in
set_option maxRecDepth 100000 in
theorem impl_ReadTree.calls (k : Nat) (a0 : ByteArray) (r1 : List (S66)) (r2 : Int) (r3 : Int) (w : World) (h : impl_ReadTree.f k a0 = some (r1, r2, r3)) :
  Calls Try.prog 12 #[.string a0] w fun e w' => ∃ v0_ : Value, e = .returned (.tuple #[.agg #[v0_], .int .i64 r2, .int .i64 r3]) ∧ Kd.S k66 66 w' w.heap.size (fun _ => True) v0_ r1 ∧ Below w.heap.size w w' := by
 have hu29 := Try.underlying29; have hu62 := Try.underlying62
 unfold impl_ReadTree.f at h
 have HS0 := St.nil w
 by_cases c1 : 20000 < a0.size
 ·rw [if_pos c1] at h
  simp only [Option.some.injEq, Prod.mk.injEq] at h
  obtain ⟨rfl, rfl, rfl⟩ := h; have c1b : decide (20000 < (a0.size : Int)) = true := decide_eq_true (by omega); have c1n : decide (20000 < a0.size) = true := decide_eq_true c1; clear c1
  go_enter Try.func12, Try.ntmps12
  go_wp2_with (first | ((with_reducible refine gate_dst (N := 2) rfl ?_); refine be 2 #[.slice none 0 0] 29 ?_; intro g2 hg2 w1 hx2 hb2; have HS1 := St.box HS0 hg2 hx2 hb2; clear hg2 hx2 hb2; have hzf : w1.frozen? ⟨g2, 0, none⟩ = false := blk_frozen (St.getB HS1 0 rfl ⟨0, rfl⟩) 0; have hz : w1.cell? ⟨g2, 0, none⟩ = some (.slice none 0 0) := (blk_cell (St.getB HS1 0 rfl ⟨0, rfl⟩) 0).trans rfl))
  have HS2 : Aside0 (St w (w1.setCell ⟨g2, 0, none⟩ (.slice none 0 0)) _) := St.store HS1 0 rfl (by repeat (first | exact KeepBut.refl _ _ _ | apply KeepBut.set_)) (o' := .cells #[.slice none 0 0] 29 (0, 0)) (blk_put (St.getB HS1 0 rfl ⟨0, rfl⟩) 0 (.slice none 0 0) rfl) (below_set HS1.out.below (St.lowB HS1 0 rfl)); refine bodyPost_ret (results_ctt rfl _ _ g2 29 #[.slice none 0 0] (0, 0) _ rfl (St.getB HS2 0 rfl ⟨0, rfl⟩) hu29 rfl (by kernel_rfl)) rfl ?_
  exact ⟨.slice none 0 0, rfl, rt_nilS _ _ _, HS2.out.below⟩
 ·rw [if_neg c1] at h
  have c1b : decide (20000 < (a0.size : Int)) = false := decide_eq_false (by omega); have c1n : decide (20000 < a0.size) = false := decide_eq_false c1; have HL := Aside0.mk h; clear c1 h
  go_enter Try.func12, Try.ntmps12
  go_wp2_with (first | ((with_reducible refine gate_dst (N := 2) rfl ?_); refine be 2 #[.slice none 0 0] 29 ?_; intro g2 hg2 w1 hx2 hb2; have HS1 := St.box HS0 hg2 hx2 hb2; clear hg2 hx2 hb2) | ((with_reducible refine gate_dst (N := 5) rfl ?_); refine be 5 #[.string (⟨#[]⟩ : ByteArray), .int .i64 0, .slice none 0 0, .slice none 0 0] 62 ?_; intro gt hgt w2 hxt hbt; have HS2 := St.box (rt_consS (rt_consN 2 HS1)) hgt hxt hbt; clear hgt hxt hbt; have hf0 : w2.frozen? ⟨gt, 0, none⟩ = false := blk_frozen (St.getB HS2 0 rfl ⟨0, rfl⟩) 0; have hf1 : w2.frozen? ⟨gt, 1, none⟩ = false := blk_frozen (St.getB HS2 0 rfl ⟨0, rfl⟩) 1; have hf2 : w2.frozen? ⟨gt, 2, none⟩ = false := blk_frozen (St.getB HS2 0 rfl ⟨0, rfl⟩) 2; have hf3 : w2.frozen? ⟨gt, 3, none⟩ = false := blk_frozen (St.getB HS2 0 rfl ⟨0, rfl⟩) 3; have hc0 : w2.cell? ⟨gt, 0, none⟩ = some (.string (⟨#[]⟩ : ByteArray)) := (blk_cell (St.getB HS2 0 rfl ⟨0, rfl⟩) 0).trans rfl; have hc1 : w2.cell? ⟨gt, 1, none⟩ = some (.int .i64 0) := (blk_cell (St.getB HS2 0 rfl ⟨0, rfl⟩) 1).trans rfl; have hc2 : w2.cell? ⟨gt, 2, none⟩ = some (.slice none 0 0) := (blk_cell (St.getB HS2 0 rfl ⟨0, rfl⟩) 2).trans rfl; have hc3 : w2.cell? ⟨gt, 3, none⟩ = some (.slice none 0 0) := (blk_cell (St.getB HS2 0 rfl ⟨0, rfl⟩) 3).trans rfl))
  have HS3 : Aside0 (St w ((((w2.setCell ⟨gt, 0, none⟩ (.string a0)).setCell ⟨gt, 1, none⟩ (.int .i64 0)).setCell ⟨gt, 2, none⟩ (.slice none 0 0)).setCell ⟨gt, 3, none⟩ (.slice none 0 0)) _) := St.store HS2 0 rfl (by repeat (first | exact KeepBut.refl _ _ _ | apply KeepBut.set_)) (o' := (.cells #[.string a0, .int .i64 0, .slice none 0 0, .slice none 0 0] 62 (0, 0))) (by refine blk_put (cs := #[.string a0, .int .i64 0, .slice none 0 0, .slice none 0 0]) ?_ 3 _ rfl; refine blk_put (cs := #[.string a0, .int .i64 0, .slice none 0 0, .slice none 0 0]) ?_ 2 _ rfl; refine blk_put (cs := #[.string a0, .int .i64 0, .slice none 0 0, .slice none 0 0]) ?_ 1 _ rfl; refine blk_put (cs := #[.string (⟨#[]⟩ : ByteArray), .int .i64 0, .slice none 0 0, .slice none 0 0]) ?_ 0 _ rfl; exact St.getB HS2 0 rfl ⟨0, rfl⟩) (below_set (below_set (below_set (below_set HS2.out.below (St.lowB HS2 0 rfl)) (St.lowB HS2 0 rfl)) (St.lowB HS2 0 rfl)) (St.lowB HS2 0 rfl))
  clear hf0 hf1 hf2 hf3 hc0 hc1 hc2 hc3; generalize (((w2.setCell ⟨gt, 0, none⟩ (.string a0)).setCell ⟨gt, 1, none⟩ (.int .i64 0)).setCell ⟨gt, 2, none⟩ (.slice none 0 0)).setCell ⟨gt, 3, none⟩ (.slice none 0 0) = w3 at HS3 ⊢
  (try simp only [Act.put, List.setIfInBounds_toArray, List.set_cons_zero, List.set_cons_succ])
  go_loopg [] k (fun kq wr => ∃ (a : Int) (ns : List S66) (op : List Int) (okn oko : Nat → Prop) (An Ao : Option Addr) (cn co : Nat), Aside0 (kq ≤ k) ∧ Aside0 (impl_ReadTree.l0 kq a0 a ns op = some (r1, r2, r3)) ∧ Aside0 (St w wr [Ob.B gt (.cells #[.string a0, .int .i64 a, .slice An ns.length cn, .slice Ao op.length co] 62 (0, 0)), Ob.S w k66 66 okn (.slice An ns.length cn) ns, Ob.R w (Kd.int .i64) 2 oko (.slice Ao op.length co) op, Ob.B g2 (.cells #[.slice none 0 0] 29 (0, 0))]))
  case atStart => exact ⟨0, [], [], _, _, none, none, 0, 0, ⟨Nat.le_refl _⟩, HL, ⟨St.lift HS3⟩⟩
  case round =>
   clear HL HS0 HS1 HS2 HS3; obtain ⟨a, ns, op, okn, oko, An, Ao, cn, co, HK, HX, HS⟩ := hrel
   cases gk with
   | zero => exact absurd HX.out (by simp [impl_ReadTree.l0])
   | succ g1 =>
   have hX := HX.out; clear HX; rw [impl_ReadTree.l0] at hX; have hz1 : wr.cell? ⟨gt, 1, none⟩ = some (.int .i64 a) := (blk_cell (St.getB HS 0 rfl ⟨0, rfl⟩) 1).trans rfl
   by_cases q1 : a < (a0.size : Int)
   ·rw [if_pos q1] at hX
    have q1b : decide (a < (a0.size : Int)) = true := decide_eq_true q1; clear q1; obtain ⟨⟨code, b, ns2, op2⟩, A1_, hX⟩ := Option.bind_eq_some_iff.1 hX; have H1 := Aside0.mk A1_
    dsimp only at hX
    clear A1_
    by_cases cr : code = 0
    ·rw [if_pos cr] at hX
     have HX2 := Aside0.mk hX
     subst cr
     clear hX
     go_wp2_with (go_at_call 31; refine (impl_scanner_next.calls g1 gt a0 a b okn oko An Ao ns.length cn op.length co ns ns2 op op2 0 _ w wr rfl rfl HS H1.out).mono ?_; rintro e w4 ⟨rfl, okn', oko', An', Ao', cn', co', HS4⟩)
     go_roundg g1
     case measure => omega
     case rel => exact ⟨b, ns2, op2, okn', oko', An', Ao', cn', co', ⟨by have := HK.out; omega⟩, HX2, ⟨St.lift HS4⟩⟩
    ·rw [if_neg cr] at hX
     simp only [Option.some.injEq, Prod.mk.injEq] at hX
     obtain ⟨rfl, rfl, rfl⟩ := hX; have crb : (code == 0) = false := beq_eq_false_iff_ne.2 cr; have crn : (code != 0) = true := bne_iff_ne.2 cr
     go_upto_region 7 with (go_at_call 31; refine (impl_scanner_next.calls g1 gt a0 a b okn oko An Ao ns.length cn op.length co ns ns2 op op2 code _ w wr rfl rfl HS H1.out).mono ?_; rintro e w4 ⟨rfl, okn', oko', An', Ao', cn', co', HS4⟩)
     have HS5 : Aside0 (St w w4.drew _) := ⟨HS4.out.step (below_drew (Below.refl _ _))⟩; clear HS4 HS hz1 H1; have hz1 : w4.drew.cell? ⟨gt, 1, none⟩ = some (.int .i64 b) := (blk_cell (St.getB HS5 0 rfl ⟨0, rfl⟩) 1).trans rfl; have hne := St.neB HS5 0 3 rfl rfl (by decide); refine start_ (n := 7) (S := (fun w' => w'.cell? ⟨gt, 1, none⟩ = some (.int .i64 b))) (ds := []) (tf 0 7) (by kernel_rfl) rfl rfl hz1 (fun hHeld => ?_); refine with_tabW impl_ReadTree.tab7 impl_ReadTree.bits7 (fun HT_ HW_ => ?_); generalize w4.drew = wa at HS5 hz1 hHeld ⊢; refine pu HT_ 0 21 6 ?_; refine pu HT_ 1 22 5 ?_; refine pu HT_ 2 23 4 ?_; refine ta HT_ HW_ hHeld 3 24 3 ?_; refine one_ (i := 4) (N := none) (tf 5 2) rfl rfl (one_of HT_.out (by kernel_rfl)) (by decide) (fun K hK => ?_); have hf : wa.frozen? ⟨g2, 0, none⟩ = false := blk_frozen (St.getB HS5 3 rfl ⟨0, rfl⟩) 0; have hc : wa.cell? ⟨g2, 0, none⟩ = some (.slice none 0 0) := (blk_cell (St.getB HS5 3 rfl ⟨0, rfl⟩) 0).trans rfl; refine skip_ (w1 := wa.setCell ⟨g2, 0, none⟩ (.slice none 0 0)) (by rfl) rfl ?_ ?_
     ·first | (go_simp; done) | (go_simp; rfl)
     have HS6 : Aside0 (St w (wa.setCell ⟨g2, 0, none⟩ (.slice none 0 0)) _) := St.store HS5 3 rfl (by repeat (first | exact KeepBut.refl _ _ _ | apply KeepBut.set_)) (o' := .cells #[.slice none 0 0] 29 (0, 0)) (blk_put (St.getB HS5 3 rfl ⟨0, rfl⟩) 0 (.slice none 0 0) rfl) (below_set HS5.out.below (St.lowB HS5 3 rfl)); refine hK.out _ _ ((blk_cell (St.getB HS6 0 rfl ⟨0, rfl⟩) 1).trans rfl) (fun hHeld => ?_); clear hK K; refine pu HT_ 5 3 1 ?_; refine pu HT_ 6 4 0 ?_; refine done_ (done_of HT_.out (by kernel_rfl)) ?_; clear hHeld HT_ HW_ hz1 hf hc HS5; generalize wa.setCell ⟨g2, 0, none⟩ (.slice none 0 0) = w6 at HS6 ⊢
     go_wp2
     refine bodyPost_ret (results_ctt rfl _ _ g2 29 #[.slice none 0 0] (0, 0) _ rfl (St.getB HS6 3 rfl ⟨0, rfl⟩) hu29 rfl (by kernel_rfl)) rfl ?_
     exact ⟨.slice none 0 0, rfl, rt_nilS _ _ _, HS6.out.below⟩
   ·rw [if_neg q1] at hX
    have q1b : decide (a < (a0.size : Int)) = false := decide_eq_false q1; clear q1; have hz2 : wr.cell? ⟨gt, 2, none⟩ = some (.slice An ns.length cn) := (blk_cell (St.getB HS 0 rfl ⟨0, rfl⟩) 2).trans rfl; have hz3 : wr.cell? ⟨gt, 3, none⟩ = some (.slice Ao op.length co) := (blk_cell (St.getB HS 0 rfl ⟨0, rfl⟩) 3).trans rfl; have hf : wr.frozen? ⟨g2, 0, none⟩ = false := blk_frozen (St.getB HS 3 rfl ⟨0, rfl⟩) 0; have hc : wr.cell? ⟨g2, 0, none⟩ = some (.slice none 0 0) := (blk_cell (St.getB HS 3 rfl ⟨0, rfl⟩) 0).trans rfl; obtain ⟨no, hno⟩ : ∃ no, op.length = no := ⟨_, rfl⟩; obtain ⟨nn, hnn⟩ : ∃ nn, ns.length = nn := ⟨_, rfl⟩; rw [hno] at hX hz3; rw [hnn] at hX hz2
    by_cases q2 : 0 < no
    ·rw [if_pos q2] at hX
     simp only [Option.some.injEq, Prod.mk.injEq] at hX
     obtain ⟨rfl, rfl, rfl⟩ := hX; have q2b : decide (0 < (no : Int)) = true := decide_eq_true (by omega); have q2n : decide (0 < no) = true := decide_eq_true q2; clear q2
     go_wp2
     have HS6 : Aside0 (St w (wr.setCell ⟨g2, 0, none⟩ (.slice none 0 0)) _) := St.store HS 3 rfl (by repeat (first | exact KeepBut.refl _ _ _ | apply KeepBut.set_)) (o' := .cells #[.slice none 0 0] 29 (0, 0)) (blk_put (St.getB HS 3 rfl ⟨0, rfl⟩) 0 (.slice none 0 0) rfl) (below_set HS.out.below (St.lowB HS 3 rfl)); refine bodyPost_ret (results_ctt rfl _ _ g2 29 #[.slice none 0 0] (0, 0) _ rfl (St.getB HS6 3 rfl ⟨0, rfl⟩) hu29 rfl (by kernel_rfl)) rfl ?_
     exact ⟨.slice none 0 0, rfl, rt_nilS _ _ _, HS6.out.below⟩
    ·rw [if_neg q2] at hX
     obtain rfl : no = 0 := by omega
     clear q2
     by_cases q3 : nn = 0
     ·rw [if_pos q3] at hX
      simp only [Option.some.injEq, Prod.mk.injEq] at hX
      obtain ⟨rfl, rfl, rfl⟩ := hX
      subst q3
      go_wp2
      have HS6 : Aside0 (St w (wr.setCell ⟨g2, 0, none⟩ (.slice none 0 0)) _) := St.store HS 3 rfl (by repeat (first | exact KeepBut.refl _ _ _ | apply KeepBut.set_)) (o' := .cells #[.slice none 0 0] 29 (0, 0)) (blk_put (St.getB HS 3 rfl ⟨0, rfl⟩) 0 (.slice none 0 0) rfl) (below_set HS.out.below (St.lowB HS 3 rfl)); refine bodyPost_ret (results_ctt rfl _ _ g2 29 #[.slice none 0 0] (0, 0) _ rfl (St.getB HS6 3 rfl ⟨0, rfl⟩) hu29 rfl (by kernel_rfl)) rfl ?_
      exact ⟨.slice none 0 0, rfl, rt_nilS _ _ _, HS6.out.below⟩
     ·rw [if_neg q3] at hX
      simp only [Option.some.injEq, Prod.mk.injEq] at hX
      obtain ⟨rfl, rfl, rfl⟩ := hX; have q3b : (nn == 0) = false := beq_eq_false_iff_ne.2 q3; have q3d : ((nn : Int) == 0) = false := beq_eq_false_iff_ne.2 (by omega); have q3n : (nn = 0) = False := eq_false q3; clear q3
      go_wp2
      have HS6 : Aside0 (St w (wr.setCell ⟨g2, 0, none⟩ (.slice An nn cn)) _) := St.store HS 3 rfl (by repeat (first | exact KeepBut.refl _ _ _ | apply KeepBut.set_)) (o' := .cells #[.slice An nn cn] 29 (0, 0)) (blk_put (St.getB HS 3 rfl ⟨0, rfl⟩) 0 (.slice An nn cn) rfl) (below_set HS.out.below (St.lowB HS 3 rfl)); refine bodyPost_ret (results_ctt rfl _ _ g2 29 #[.slice An nn cn] (0, 0) _ rfl (St.getB HS6 3 rfl ⟨0, rfl⟩) hu29 rfl (by kernel_rfl)) rfl ?_
      subst hnn
      exact ⟨.slice An ns.length cn, rfl, Kd.S_mono (St.getS (W' := wr.setCell ⟨g2, 0, none⟩ (.slice An ns.length cn)) HS6 1 rfl ⟨0, rfl⟩) (fun _ _ => trivial), HS6.out.below⟩

end Go.Proofs.Ytjjlcmfjmdfedaa.PFnTreeBack
