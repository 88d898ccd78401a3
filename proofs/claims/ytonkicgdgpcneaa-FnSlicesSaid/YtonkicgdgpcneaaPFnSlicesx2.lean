-- Written by a program of this session (a turned copy of the kit's printer); Lean checks it.
-- half the depth
import Derived.Test.YtonkicgdgpcneaaPFnSlicesx0
import Derived.Test.YtonkicgdgpcneaaPFnSlicesx1
namespace Go.Proofs.Ytonkicgdgpcneaa.PFnSlices
open Go.RowKit Go.Proofs.YtonkicgdgpcneaaW.PrintWords Go.Proofs.YtonkicgdgpcneaaW.PrintLast Go.Proofs.YtonkicgdgpcneaaW.PrintMore
attribute [local go_sem] max2_int min2_int max_two min_two max_three min_three max_four min_four   -- for this text's walks alone
set_option linter.unusedVariables false
set_option linter.unusedSimpArgs false

/-! ### spec_DrawCutsOk: function 63 -/
/-- A reader, as an object. -/
def ObI (w0 : World) (g : Nat) (s : List Int) (p : Int) : Ob := ⟨fun k => k = g, fun W => IsS118 w0 W g s p⟩
theorem ObI_foot (w0 : World) (g : Nat) (s : List Int) (p : Int) : (ObI w0 g s p).foot := fun W W' hm ⟨A, c, h1, h2, h3⟩ => ⟨A, c, (hm g rfl (blk_lt h1)).trans h1, h2, h3⟩
theorem getI {g : Nat} {s : List Int} {p : Int} {w0 W W' : World} {l : List Ob} (h : Aside0 (St w0 W l)) (i : Nat) (hi : nth l i = some (ObI w0 g s p)) (q : ∃ n, W' = W.drewN n := by first | exact ⟨_, rfl⟩ | exact ⟨0, rfl⟩) : IsS118 w0 W' g s p := ((St.lift h q).each _ (nth_mem hi)).2.2
theorem callI {g : Nat} {s : List Int} {p p' : Int} {w0 W W' W1 : World} {l : List Ob} (h : Aside0 (St w0 W l)) (i : Nat) (hi : nth l i = some (ObI w0 g s p)) (hI : IsS118 w0 W1 g s p') (hb : Below w0.heap.size w0 W1) (hk : KeepBut W' W1 g none) (q : ∃ n, W' = W.drewN n := by first | exact ⟨_, rfl⟩ | exact ⟨0, rfl⟩) : Aside0 (St w0 W1 (put l i (ObI w0 g s p'))) :=
 ⟨St.turn (St.lift h q) i hi hb hk.1 (fun k hlt hn => hk.2 k hlt (fun e => hn e) (by simp)) (fun k hk1 => .inl hk1) (ObI_foot _ _ _ _) hI⟩
theorem startI {g : Nat} {s : List Int} {p : Int} {w0 W : World} (h : IsS118 w0 W g s p) (hb : Below w0.heap.size w0 W) : Aside0 (St w0 W [ObI w0 g s p]) :=
 ⟨⟨hb, fun o ho => by
  rw [List.mem_singleton.1 ho]
  exact ⟨fun k hk => by rw [show k = g from hk]; exact ⟨h.ge, h.lt⟩, ObI_foot _ _ _ _, h⟩, List.pairwise_singleton _ _⟩⟩
def spec_l1Rd_cuts.g (s : List (List Int)) (v : Int) : List Int := s.getD v.toNat []
def spec_l1Rd_cuts.fin (k : Nat) (s : List Int) (ds : List S63) (C : List (List Int)) (p : Int) : Option (List (List Int) × Int) := (spec_l1Rd_below.f s p 30).bind fun b => if b.1 = 0 then ((spec_l1Rd_below.f s b.2 (ds.length : Int)).bind fun v => if 0 ≤ v.1 then (if v.1 < (C.length : Int) then (if v.1 < (ds.length : Int) then ((spec_l1Rd_off.f k s v.2 0 (rd_T63 ds v.1).f1).bind fun x => if (spec_l1Rd_cuts.g C v.1).length < 17592186044416 then some (C.set v.1.toNat (spec_l1Rd_cuts.g C v.1 ++ [x.1]), x.2) else none) else none) else none) else none) else if b.1 = 1 then (if 1 ≤ C.length then some (C.drop 1, b.2) else none) else some (C, b.2)
mutual
def spec_l1Rd_cuts.l0 : Nat → List Int → List S63 → List (List Int) → Int → Int → Option (List (List Int) × Int)
 | 0, _, _, _, _, _ => none
 | k + 1, s, ds, C, p, v => if v < (ds.length : Int) then spec_l1Rd_cuts.l1 k s ds C p v 1 else spec_l1Rd_cuts.fin k s ds C p
def spec_l1Rd_cuts.l1 : Nat → List Int → List S63 → List (List Int) → Int → Int → Int → Option (List (List Int) × Int)
 | 0, _, _, _, _, _, _ => none
 | k + 1, s, ds, C, p, v, q => if 0 ≤ v then (if v < (ds.length : Int) then (if q < (rd_T63 ds v).f1 then (if q < 200 then ((spec_l1Rd_once.f s p 6).bind fun t => if t.1 = true then (if v < (C.length : Int) then (if (spec_l1Rd_cuts.g C v).length < 17592186044416 then spec_l1Rd_cuts.l1 k s ds (C.set v.toNat (spec_l1Rd_cuts.g C v ++ [q])) t.2 v (wrap64 (q + 1)) else none) else none) else spec_l1Rd_cuts.l1 k s ds C t.2 v (wrap64 (q + 1))) else spec_l1Rd_cuts.l0 k s ds C p (wrap64 (v + 1))) else spec_l1Rd_cuts.l0 k s ds C p (wrap64 (v + 1))) else none) else none
end
def spec_l1Rd_cuts.f (k : Nat) (s : List Int) (p : Int) (ds : List S63) : Option (List (List Int) × Int) := (spec_l6None.f k ds).bind fun C => spec_l1Rd_cuts.l0 k s ds C p 0
def spec_l1Rd_cuts.T9 : Bool × List (List Nat × List Nat) := (true, [([], []), ([0], [0]), ([], []), ([], []), ([3], [3]), ([], []), ([4, 5], [4, 5]), ([6], [6]), ([], []), ([8], [8]), ([7, 9], [7, 9]), ([1, 2, 0, 1, 2, 3, 4, 5, 6, 7, 8, 9, 10], [1, 2]), ([11, 10, 10, 0, 1, 2, 3, 4, 5, 6, 7, 8, 9, 10], [10, 11])])
def spec_l1Rd_cuts.B9 : List Nat := [0, 1, 0, 0, 8, 0, 56, 120, 0, 256, 1016, 2047, 4095]
theorem spec_l1Rd_cuts.tab9 : rtab .any (opsOf Try.f82 9) = spec_l1Rd_cuts.T9 := by kernel_rfl
theorem spec_l1Rd_cuts.bits9 : waitsOk spec_l1Rd_cuts.T9.2 spec_l1Rd_cuts.B9 = true := by kernel_rfl
def spec_l1Rd_cuts.T13 : Bool × List (List Nat × List Nat) := (true, [([], []), ([0], [0]), ([], []), ([], []), ([3], [3]), ([], []), ([4, 5], [4, 5]), ([6], [6]), ([], []), ([], []), ([], []), ([9, 10], [9, 10]), ([11], [11]), ([12], [12]), ([8, 13], [8, 13]), ([14], [14]), ([7, 15, 14], [7, 15]), ([1, 2, 0, 1, 2, 3, 4, 5, 6, 7, 8, 9, 10, 11, 12, 13, 14, 15, 16], [1, 2]), ([17, 16, 16, 0, 1, 2, 3, 4, 5, 6, 7, 8, 9, 10, 11, 12, 13, 14, 15, 16], [16, 17])])
def spec_l1Rd_cuts.B13 : List Nat := [0, 1, 0, 0, 8, 0, 56, 120, 0, 0, 0, 1536, 3584, 7680, 16128, 32512, 65528, 131071, 262143]
theorem spec_l1Rd_cuts.tab13 : rtab .any (opsOf Try.f82 13) = spec_l1Rd_cuts.T13 := by kernel_rfl
theorem spec_l1Rd_cuts.bits13 : waitsOk spec_l1Rd_cuts.T13.2 spec_l1Rd_cuts.B13 = true := by kernel_rfl
theorem spec_l1Rd_cuts.cut1 (W : World) (g n c : Nat) (hi : 1 ≤ n) (hn : n ≤ c) : (Instr.slice 39 (.slice (some ⟨g, 0, none⟩) n c) (some (.int .i64 1)) none none).run Try.prog W = .ok (.slice (if c = 1 then some ⟨g, 0, none⟩ else some ⟨g, 1, none⟩) (n - 1) (c - 1)) W := by
 obtain ⟨i0, hi0, hz⟩ := Option.map_eq_some_iff.1 info26
 have hel : Try.prog.elem 39 = 26 := by simp [Program.elem, Try.underlying39]
 have hu : Try.prog.underlying 39 = some (.slice (Try.prog.elem 39)) := by rw [hel]; exact Try.underlying39
 have hs : i0.size = 1 := by simp only [Prod.mk.injEq] at hz; exact hz.2.1
 rw [run_slice_l W 39 _ n c hu .i64 1 (by decide) (by omega), hel]
 by_cases e : c = 1
 ·simp [sizeOf, typeInfo, hi0, hs, sliced, Result.andThen, add_plain, e]
 ·simp [sizeOf, typeInfo, hi0, hs, sliced, Result.andThen, add_plain, e]
set_option maxHeartbeats 8000000 in
set_option maxRecDepth 100000 in
theorem spec_l1Rd_cuts.walk (k g : Nat) (s : List Int) (p : Int) (Ad : Option Addr) (cd : Nat) (ds : List S63) (okd : Nat → Prop) (r : List (List Int)) (r2 : Int) (w0 W : World)
  (H : Aside0 (St w0 W [Ob.R w0 k63 63 okd (.slice Ad ds.length cd) ds, ObI w0 g s p])) (h : spec_l1Rd_cuts.f k s p ds = some (r, r2)) :
  Calls Try.prog 82 #[.pointer (some ⟨g, 0, none⟩), .slice Ad ds.length cd] W fun e w' => ∃ v, e = .returned (.agg #[v]) ∧ Kd.Q (Kd.slice 2 (Kd.int .i64)) 26 w' w0.heap.size (fun _ => True) v r ∧ Kd.R k63 63 w' w0.heap.size okd (.slice Ad ds.length cd) ds ∧ Below w0.heap.size w0 w' := by
 have hu44 := Try.underlying44; obtain ⟨C0, A1_, h⟩ := Option.bind_eq_some_iff.1 h; have H1 := Aside0.mk A1_; have HL0 := Aside0.mk h; clear A1_ h; have hcd := (Kd.R_reads' (St.getR (W' := W) H 0 rfl)).2.1; have HCD := Aside0.mk hcd; clear hcd
 go_enter Try.func82, Try.ntmps82
 go_wp2_with (first | ((with_reducible refine gate_dst (N := 4) rfl ?_); refine be 4 #[.slice none 0 0] 44 ?_; intro g4 hg4 w1 hx4 hb4; have HS1 := St.box H hg4 hx4 hb4; clear hg4 hx4 hb4) | ((with_reducible refine gate_dst (N := 10) rfl ?_); refine goesL_ (some 10) rfl rfl Try.func103 (by kernel_rfl) rfl #[.slice Ad ds.length cd] rfl ma ?_; refine (spec_l6None.calls k Ad cd ds C0 _ (Kd.R_reads' (St.getR HS1 1 rfl)).2.2 HCD.out H1.out).mono ?_; rintro e w2 ⟨v2, rfl, hs2, hb2⟩; obtain ⟨ok2, A6, c6, rfl, HC6, HS2⟩ := St.callS HS1 hb2 hs2; clear hs2 hb2; refine ⟨_, rfl, ?_⟩) | ((with_reducible refine gate_dst (N := 5) rfl ?_); refine be 5 #[.slice none 0 0] 44 ?_; intro g5 hg5 w3 hx5 hb5; have HS3 := St.box HS2 hg5 hx5 hb5; clear hg5 hx5 hb5; have hc5 : w3.cell? ⟨g5, 0, none⟩ = some (.slice none 0 0) := (blk_cell (St.getB HS3 0 rfl ⟨0, rfl⟩) 0).trans rfl; have hf5 : w3.frozen? ⟨g5, 0, none⟩ = false := blk_frozen (St.getB HS3 0 rfl ⟨0, rfl⟩) 0) | ((with_reducible refine gate_store (t := 44) (p := 5) rfl ?_); refine store_event (t := 44) (p := 5) (v := ?vo) (w1 := w3.setCell ⟨g5, 0, none⟩ (.slice A6 C0.length c6)) ?hg ?ho ?hn ?hr ?_; (case ho => rfl); (case hg => rfl); (case hn => rfl); (case hr => first | (go_simp; done) | (go_simp; rfl)); intro w4 hw; have hlo := St.lowB HS3 0 rfl; have hkp : KeepBut w3 w4 g5 none := (by rw [hw]; repeat (first | exact KeepBut.refl _ _ _ | apply KeepBut.set_)); have hbx : w4.heap[g5]? = some (.cells #[.slice A6 C0.length c6] 44 (0, 0)) := (by rw [hw]; refine blk_put (cs := #[.slice none 0 0]) ?_ 0 _ rfl; exact St.getB HS3 0 rfl ⟨0, rfl⟩); have hbl : Below w0.heap.size w0 w4 := (by rw [hw]; exact below_set HS3.out.below hlo); have HS4 := St.store HS3 0 rfl hkp hbx hbl; clear hw hkp hbx hbl hlo hc5 hf5))
 go_loopg [6] k (fun kq s6 wr => ∃ (C : List (List Int)) (v p' : Int) (ok : Nat → Prop), s6 = .int .i64 v ∧ Aside0 (C.length = C0.length) ∧ Aside0 (kq ≤ k) ∧ Aside0 (spec_l1Rd_cuts.l0 kq s ds C p' v = some (r, r2)) ∧ Aside0 (St w0 wr [Ob.B g5 (.cells #[.slice A6 C0.length c6] 44 (0, 0)), Ob.S w0 (Kd.slice 2 (Kd.int .i64)) 26 ok (.slice A6 C0.length c6) C, Ob.B g4 (.cells #[.slice none 0 0] 44 (0, 0)), Ob.R w0 k63 63 okd (.slice Ad ds.length cd) ds, ObI w0 g s p']))
 case atStart => exact ⟨C0, 0, p, ok2, rfl, ⟨rfl⟩, ⟨Nat.le_refl _⟩, HL0, ⟨St.lift HS4⟩⟩
 case round =>
  clear H1 HL0 H HS1 HS2 HS3 HS4; obtain ⟨C, v, p', ok, rfl, HL, HK1, HX, H⟩ := hrel
  cases gk with
  | zero => exact absurd HX.out (by simp [spec_l1Rd_cuts.l0])
  | succ k1 =>
   have hX := HX.out; clear HX
   simp only [spec_l1Rd_cuts.l0] at hX
   by_cases hlt : v < (ds.length : Int)
   ·rw [if_pos hlt] at hX
    have HX := Aside0.mk hX; clear hX; have hd : decide (v < (ds.length : Int)) = true := decide_eq_true hlt; have HLT := Aside0.mk hlt; clear hlt
    go_wp2
    go_loopg [7] k1 (fun kq s7 wr => ∃ (C : List (List Int)) (q p' : Int) (ok : Nat → Prop), s7 = .int .i64 q ∧ Aside0 (C.length = C0.length) ∧ Aside0 (kq ≤ k1) ∧ Aside0 (spec_l1Rd_cuts.l1 kq s ds C p' v q = some (r, r2)) ∧ Aside0 (St w0 wr [Ob.B g5 (.cells #[.slice A6 C0.length c6] 44 (0, 0)), Ob.S w0 (Kd.slice 2 (Kd.int .i64)) 26 ok (.slice A6 C0.length c6) C, Ob.B g4 (.cells #[.slice none 0 0] 44 (0, 0)), Ob.R w0 k63 63 okd (.slice Ad ds.length cd) ds, ObI w0 g s p']))
    case atStart => exact ⟨C, 1, p', ok, rfl, HL, ⟨Nat.le_refl _⟩, HX, ⟨St.lift H⟩⟩
    case round =>
     clear HX H HL hd; obtain ⟨C, q, p', ok, rfl, HL, HK2, HX, H⟩ := hrel
     cases gk with
     | zero => exact absurd HX.out (by simp [spec_l1Rd_cuts.l1])
     | succ k2 =>
      have hX := HX.out; clear HX
      simp only [spec_l1Rd_cuts.l1] at hX
      by_cases v0 : 0 ≤ v
      ·rw [if_pos v0, if_pos HLT.out] at hX
       obtain ⟨adq, rfl, hw0, hw1⟩ := at_T63 (Kd.R_reads' (St.getR (W' := wr) H 3 rfl)).2.2 v v0 HLT.out; obtain ⟨wq, hwq⟩ : ∃ wq, wq = (rd_T63 ds v).f1 := ⟨_, rfl⟩; rw [← hwq] at hX hw1; have HWQ := Aside0.mk hwq; have HV0 := Aside0.mk v0; clear hwq hw0; replace v0 := eq_true v0; have vd := eq_true HLT.out
       by_cases c1 : q < wq
       ·rw [if_pos c1] at hX
        have c1b : decide (q < wq) = true := decide_eq_true c1
        by_cases c2 : q < 200
        ·rw [if_pos c2] at hX
         have c2b : decide (q < 200) = true := decide_eq_true c2; clear c1 c2; obtain ⟨⟨b, p2⟩, A2_, hX⟩ := Option.bind_eq_some_iff.1 hX; have H2 := Aside0.mk A2_; clear A2_
         cases b with
         | true =>
          replace hX : (if v < (C.length : Int) then (if (spec_l1Rd_cuts.g C v).length < 17592186044416 then spec_l1Rd_cuts.l1 k2 s ds (C.set v.toNat (spec_l1Rd_cuts.g C v ++ [q])) p2 v (wrap64 (q + 1)) else none) else none) = some (r, r2) := hX
          by_cases vc : v < (C.length : Int)
          ·rw [if_pos vc] at hX
           obtain ⟨ys, hys⟩ : ∃ ys, ys = spec_l1Rd_cuts.g C v := ⟨_, rfl⟩; rw [← hys] at hX
           by_cases vl : ys.length < 17592186044416
           ·rw [if_pos vl] at hX
            have HX := Aside0.mk hX; have HVL := Aside0.mk vl; have HYS := Aside0.mk hys; clear hX vl hys; obtain ⟨gr, cr, er, _, _, _, _⟩ := Kd.R_form (Kd.S_R (St.getS (W' := wr) H 1 rfl)) (by have := HL.out; have := HV0.out; omega)
            have eA : A6 = some ⟨gr, 0, none⟩ := by injection er
            subst eA
            clear er
            have hvc : v < (C0.length : Int) := by rw [← HL.out]; exact vc
            have HVC := Aside0.mk hvc; clear hvc vc
            go_wp2_with (go_at_call 86; (with_reducible refine (spec_l1Rd_once.calls g s p' 6 true p2 w0 _ ?q1 ?q2 H2.out).mono ?_); (case q1 => exact getI H 4 rfl); (case q2 => exact (St.lift H).below); rintro e w3 ⟨rfl, hI, hb, hk⟩; have HS5 := callI H 4 rfl hI hb hk; clear hI hb hk)
            have H6 : Aside0 (St w0 w3.drew _) := ⟨HS5.out.step (below_drew (Below.refl _ _))⟩; clear HS5; obtain ⟨oki, cc, hcl, hM, hoki, hcells, hlend⟩ := St.lendS (W' := w3.drew) H6 1 rfl ([] : List Int) v HV0.out HVC.out; rw [show C.getD v.toNat [] = ys from HYS.out.symm] at hM; obtain ⟨ve, rfl, hRv⟩ := hM; obtain ⟨Ae, ce, rfl⟩ := Kd.R_slice hRv; have hx1 := (hcells w3.drew (Kept.refl _ _)).1 0 _ rfl
            have e2 : v.toNat * (Kd.slice 2 (Kd.int .i64)).sz + 0 = v.toNat := by show v.toNat * 1 + 0 = v.toNat; omega
            rw [e2] at hx1; have hz1 : w3.drew.cell? ⟨g5, 0, none⟩ = some (.slice (some ⟨gr, 0, none⟩) C0.length c6) := (blk_cell (St.getB H6 0 rfl ⟨0, rfl⟩) 0).trans rfl
            have hne5 : ∀ q, ok q → q ≠ g5 := fun q hq he => nth_apart H6.out.apart (i := 0) (j := 1) rfl rfl (by decide) q he hq
            have HO := Aside0.mk (fun q (hq : oki q) => hne5 q (hoki q hq).1); have HCE := Aside0.mk hcells; have HLE := Aside0.mk hlend; have HRV := Aside0.mk hRv; have HE2 := Aside0.mk e2; clear hcl hoki hcells hlend hRv e2 hne5; replace v0 := eq_true HV0.out; have vc := eq_true HVC.out; refine start_ (n := 13) (S := (fun w' => w'.cell? ⟨g5, 0, none⟩ = some (.slice (some ⟨gr, 0, none⟩) C0.length c6) ∧ w'.cell? ⟨gr, v.toNat, none⟩ = some (.slice Ae ys.length ce))) (ds := [12]) (tf 0 13) (by kernel_rfl) rfl rfl ⟨hz1, hx1⟩ (fun hHeld => ?_); refine with_tabW spec_l1Rd_cuts.tab9 spec_l1Rd_cuts.bits9 (fun HT_ HW_ => ?_); generalize w3.drew = wa at H6 HCE HLE HRV hz1 hx1 hHeld ⊢; refine pu HT_ 0 32 12 ?_; refine ta HT_ HW_ hHeld 1 33 11 ?_; refine pu HT_ 2 34 10 ?_; refine pu HT_ 3 35 9 ?_; refine ta HT_ HW_ hHeld 4 36 8 ?_; refine pu HT_ 5 37 7 ?_; refine pu HT_ 6 38 6 ?_; refine ta HT_ HW_ hHeld 7 39 5 ?_; refine pu HT_ 8 40 4 ?_; refine on HT_ 9 41 3 (fun K hK => ?_); refine value_ (w1 := wa.alloc (.cells #[.int .i64 q] 2)) (v := .slice (some ⟨wa.heap.size, 0, none⟩) 1 1) (by rfl) rfl ?_ ?_
            ·first | (go_simp; done) | (go_simp; constructor <;> rfl) | (go_simp; rfl)
            have HV2 : Aside0 (Below wa.heap.size wa (wa.alloc (.cells #[.int .i64 q] 2))) := ⟨below_alloc (Below.refl _ _) _⟩; refine hK.out _ _ ⟨(HV2.out.cell (World.block_lt_of_cell? wa _ hz1)).trans hz1, (HV2.out.cell (World.block_lt_of_cell? wa _ hx1)).trans hx1⟩ (fun hHeld => ?_); clear hK K HV2; refine nm 41 ?_; refine on HT_ 10 42 2 (fun K hK => ?_); refine Kd.R_append_step (Kd.int .i64) (w0 := w0) w0.heap.size (by rfl) (.tmp 39) (.tmp 41) 26 2 (.int .i64 0) 8 rfl Try.underlying26 info2 rfl (by decide) (by omega) (.slice Ae ys.length ce) ys q [.int .i64 q] (fun k_ => oki k_ ∨ wa.heap.size ≤ k_) (fun _ => False) rfl rfl ?aP (fun _ hk => hk.elim) ?aF ?aO ?aB ?aS ?aL ?_
            (case aP => exact rfl)
            (case aF => exact (fun k_ hk => .inr hk))
            (case aO => exact Kd.R_mono HRV.out (fun _ h_ => .inl h_))
            (case aB => exact H6.out.below)
            (case aS => exact H6.out.below.size)
            (case aL => have := HVL.out; omega)
            intro v6 w6 ho hb6 hg6 hat6
            have hk6 : Kept wa w6 oki := Kept.of_grown hg6 (Kept.refl _ _) (fun k_ e_ => .inl (HRV.out.1 k_ e_)); obtain ⟨okn, H7⟩ := HLE.out w6 (ys ++ [q]) 0 [v6] hb6 hk6 (show 0 + 1 ≤ 1 from by decide) ⟨v6, rfl, ho⟩; rw [HE2.out] at H7; have hx6 := (HCE.out w6 hk6).1 0 _ rfl; have hf6 := (HCE.out w6 hk6).2 0; rw [HE2.out] at hx6 hf6; have hz6 : w6.cell? ⟨g5, 0, none⟩ = some (.slice (some ⟨gr, 0, none⟩) C0.length c6) := (blk_cell ((hg6.block g5 (blk_lt (St.getB H6 0 rfl ⟨0, rfl⟩)) (fun e_ => HO.out g5 (HRV.out.1 g5 e_.symm) rfl)).trans (St.getB H6 0 rfl ⟨0, rfl⟩)) 0).trans rfl; obtain ⟨A7, c7, rfl⟩ := Kd.R_slice ho; clear ho hb6 hg6 hat6 hk6; refine hK.out _ _ ⟨hz6, hx6⟩ (fun hHeld => ?_); clear hK K; refine nm 42 ?_; refine pu HT_ 11 43 1 ?_; refine last_ (i := 12) (N := none) (tf 13 0) rfl rfl (one_of HT_.out (by kernel_rfl)) (by decide) (fun K hK => ?_); refine skip_ (w1 := w6.setCell ⟨gr, v.toNat, none⟩ (.slice A7 (ys ++ [q]).length c7)) (by rfl) rfl ?_ ?_
            ·first | (go_simp; done) | (go_simp; rfl)
            refine hK.out _ _ ?_; clear hK K; refine done_ (done_of HT_.out (by kernel_rfl)) ?_; clear hHeld HT_ HW_ hx6 hf6 hx1 hz1 hz6; replace H7 : Aside0 (St w0 (w6.setCell ⟨gr, v.toNat, none⟩ (.slice A7 (ys ++ [q]).length c7)) _) := H7; generalize w6.setCell ⟨gr, v.toNat, none⟩ (.slice A7 (ys ++ [q]).length c7) = w7 at H7 ⊢
            go_wp2
            go_roundg k2
            case measure => have := HK2.out; omega
            case rel => exact ⟨C.set v.toNat (ys ++ [q]), wrap64 (q + 1), p2, okn, au, ⟨by rw [List.length_set]; exact HL.out⟩, ⟨by have := HK2.out; omega⟩, HX, ⟨St.lift H7⟩⟩
           ·rw [if_neg vl] at hX; cases hX
          ·rw [if_neg vc] at hX; cases hX
         | false =>
          replace hX : spec_l1Rd_cuts.l1 k2 s ds C p2 v (wrap64 (q + 1)) = some (r, r2) := hX; have HX := Aside0.mk hX; clear hX
          go_wp2_with (go_at_call 86; (with_reducible refine (spec_l1Rd_once.calls g s p' 6 false p2 w0 _ ?q1 ?q2 H2.out).mono ?_); (case q1 => exact getI H 4 rfl); (case q2 => exact (St.lift H).below); rintro e w3 ⟨rfl, hI, hb, hk⟩; have HS5 := callI H 4 rfl hI hb hk; clear hI hb hk)
          go_roundg k2
          case measure => have := HK2.out; omega
          case rel => exact ⟨C, wrap64 (q + 1), p2, ok, au, HL, ⟨by have := HK2.out; omega⟩, HX, ⟨St.lift HS5⟩⟩
        ·rw [if_neg c2] at hX
         have c2b : decide (q < 200) = false := decide_eq_false c2; have HX := Aside0.mk hX; clear c1 c2 hX
         go_wp2
         go_roundg k2
         case measure => have := HK1.out; have := HK2.out; omega
         case rel => exact ⟨C, wrap64 (v + 1), p', ok, au, HL, ⟨by have := HK1.out; have := HK2.out; omega⟩, HX, ⟨St.lift H⟩⟩
       ·rw [if_neg c1] at hX
        have c1b : decide (q < wq) = false := decide_eq_false c1; have HX := Aside0.mk hX; clear c1 hX
        go_wp2
        go_roundg k2
        case measure => have := HK1.out; have := HK2.out; omega
        case rel => exact ⟨C, wrap64 (v + 1), p', ok, au, HL, ⟨by have := HK1.out; have := HK2.out; omega⟩, HX, ⟨St.lift H⟩⟩
      ·rw [if_neg v0] at hX; cases hX
   ·rw [if_neg hlt] at hX
    have hd : decide (v < (ds.length : Int)) = false := decide_eq_false hlt; clear hlt
    unfold spec_l1Rd_cuts.fin at hX
    obtain ⟨⟨b, p2⟩, A2_, hX⟩ := Option.bind_eq_some_iff.1 hX; have H2 := Aside0.mk A2_; clear A2_
    have hnd : ((ds.length : Nat) : Int) < 9223372036854775808 := by have := Kd.C_max (Kd.R_reads' (St.getR (W' := wr) H 3 rfl)).2.2; omega
    have HND := Aside0.mk hnd; clear hnd
    by_cases b0 : b = 0
    ·subst b0
     replace hX : ((spec_l1Rd_below.f s p2 (ds.length : Int)).bind fun v => if 0 ≤ v.1 then (if v.1 < (C.length : Int) then (if v.1 < (ds.length : Int) then ((spec_l1Rd_off.f k1 s v.2 0 (rd_T63 ds v.1).f1).bind fun x => if (spec_l1Rd_cuts.g C v.1).length < 17592186044416 then some (C.set v.1.toNat (spec_l1Rd_cuts.g C v.1 ++ [x.1]), x.2) else none) else none) else none) else none) = some (r, r2) := hX; obtain ⟨⟨z, p3⟩, A3_, hX⟩ := Option.bind_eq_some_iff.1 hX; have H3 := Aside0.mk A3_; clear A3_; replace hX : (if 0 ≤ z then (if z < (C.length : Int) then (if z < (ds.length : Int) then ((spec_l1Rd_off.f k1 s p3 0 (rd_T63 ds z).f1).bind fun x => if (spec_l1Rd_cuts.g C z).length < 17592186044416 then some (C.set z.toNat (spec_l1Rd_cuts.g C z ++ [x.1]), x.2) else none) else none) else none) else none) = some (r, r2) := hX
     by_cases z0 : 0 ≤ z
     ·rw [if_pos z0] at hX
      by_cases zc : z < (C.length : Int)
      ·rw [if_pos zc] at hX
       by_cases zd : z < (ds.length : Int)
       ·rw [if_pos zd] at hX
        obtain ⟨⟨x, p4⟩, A4_, hX⟩ := Option.bind_eq_some_iff.1 hX; have H4 := Aside0.mk A4_; clear A4_; replace hX : (if (spec_l1Rd_cuts.g C z).length < 17592186044416 then some (C.set z.toNat (spec_l1Rd_cuts.g C z ++ [x]), p4) else none) = some (r, r2) := hX; obtain ⟨ys, hys⟩ : ∃ ys, ys = spec_l1Rd_cuts.g C z := ⟨_, rfl⟩; rw [← hys] at hX
        by_cases vl : ys.length < 17592186044416
        ·rw [if_pos vl] at hX
         obtain ⟨e1_, e2_⟩ := Prod.mk.inj (Option.some.inj hX)
         subst e1_ e2_
         obtain ⟨gr, cr, er, _, _, _, _⟩ := Kd.R_form (Kd.S_R (St.getS (W' := wr) H 1 rfl)) (by omega)
         have eA : A6 = some ⟨gr, 0, none⟩ := by injection er
         subst eA
         clear er hX
         have hvc : z < (C0.length : Int) := by rw [← HL.out]; exact zc
         obtain ⟨adq, rfl, hw0, hw1⟩ := at_T63 (Kd.R_reads' (St.getR (W' := wr) H 3 rfl)).2.2 z z0 zd; clear hw0 hw1; have HVC := Aside0.mk hvc; have HVL := Aside0.mk vl; have HYS := Aside0.mk hys; have HZ0 := Aside0.mk z0; have HZD := Aside0.mk zd; clear hvc vl hys zc z0 zd
         go_wp2_with (first | (go_at_call 84; first | ((with_reducible refine (spec_l1Rd_below.calls g s p' 30 0 p2 w0 _ ?q1 ?q2 H2.out).mono ?_); (case q1 => exact getI H 4 rfl); (case q2 => exact (St.lift H).below); rintro e w3 ⟨rfl, hI, hb, hk⟩; have HS5 := callI H 4 rfl hI hb hk; clear hI hb hk) | ((with_reducible refine (spec_l1Rd_below.calls g s p2 (ds.length : Int) z p3 w0 _ ?q1 ?q2 H3.out).mono ?_); (case q1 => exact getI HS5 4 rfl); (case q2 => exact (St.lift HS5).below); rintro e w4 ⟨rfl, hI, hb, hk⟩; have HS6 := callI HS5 4 rfl hI hb hk; clear hI hb hk)))
         have H6 : Aside0 (St w0 w4.drew _) := ⟨HS6.out.step (below_drew (Below.refl _ _))⟩; clear HS5 HS6; obtain ⟨_, cc, hcl, hM, _, hcells, _⟩ := St.lendS (W' := w4.drew) H6 1 rfl ([] : List Int) z HZ0.out HVC.out; rw [show C.getD z.toNat [] = ys from HYS.out.symm] at hM; obtain ⟨ve, rfl, hRv⟩ := hM; obtain ⟨Ae, ce, rfl⟩ := Kd.R_slice hRv; have hx1 := (hcells w4.drew (Kept.refl _ _)).1 0 _ rfl
         have e2 : z.toNat * (Kd.slice 2 (Kd.int .i64)).sz + 0 = z.toNat := by show z.toNat * 1 + 0 = z.toNat; omega
         rw [e2] at hx1; have HE2 := Aside0.mk e2; clear hcl hcells hRv e2; have hz1 : w4.drew.cell? ⟨g5, 0, none⟩ = some (.slice (some ⟨gr, 0, none⟩) C0.length c6) := (blk_cell (St.getB H6 0 rfl ⟨0, rfl⟩) 0).trans rfl; obtain ⟨_, ead, _, hw1⟩ := at_T63 (Kd.R_reads' (St.getR (W' := w4.drew) H6 3 rfl ⟨0, rfl⟩)).2.2 z HZ0.out HZD.out
         cases ead
         obtain ⟨wz, hwz⟩ : ∃ wz, wz = (rd_T63 ds z).f1 := ⟨_, rfl⟩; rw [← hwz] at hw1 H4; have HWZ := Aside0.mk hwz; clear hwz; have z0 := eq_true HZ0.out; have zc := eq_true HVC.out; have zd := eq_true HZD.out; refine start_ (n := 19) (S := (fun w' => w'.cell? ⟨g5, 0, none⟩ = some (.slice (some ⟨gr, 0, none⟩) C0.length c6) ∧ w'.cell? ⟨gr, z.toNat, none⟩ = some (.slice Ae ys.length ce) ∧ w'.cell? ⟨(adq.add (z.toNat * 2)).block, (adq.add (z.toNat * 2)).off + 1, none⟩ = some (.int .i64 wz))) (ds := [18]) (tf 0 19) (by kernel_rfl) rfl rfl ⟨hz1, hx1, hw1⟩ (fun hHeld => ?_); refine with_tabW spec_l1Rd_cuts.tab13 spec_l1Rd_cuts.bits13 (fun HT_ HW_ => ?_); generalize w4.drew = wa at H6 hz1 hx1 hw1 hHeld ⊢; refine pu HT_ 0 52 18 ?_; refine ta HT_ HW_ hHeld 1 53 17 ?_; refine pu HT_ 2 54 16 ?_; refine pu HT_ 3 55 15 ?_; refine ta HT_ HW_ hHeld 4 56 14 ?_; refine pu HT_ 5 57 13 ?_; refine pu HT_ 6 58 12 ?_; refine ta HT_ HW_ hHeld 7 59 11 ?_; refine pu HT_ 8 60 10 ?_; refine pu HT_ 9 61 9 ?_; refine pu HT_ 10 62 8 ?_; refine pu HT_ 11 63 7 ?_; refine pu HT_ 12 64 6 ?_; refine ta HT_ HW_ hHeld 13 65 5 ?_; refine on HT_ 14 66 4 (fun K hK => ?_); refine goes_ Try.func67 (by kernel_rfl) rfl #[.pointer (some ⟨g, 0, none⟩), .int .i64 0, .int .i64 wz] (by rfl) rfl rfl ma ?_; refine (spec_l1Rd_off.calls k1 g s p3 0 wz x p4 w0 _ (getI H6 4 rfl) H6.out.below H4.out).mono ?_; rintro e wb ⟨rfl, hI, hb, hk⟩; refine ⟨_, rfl, ?_⟩; have H7 := callI (W' := wa) H6 4 rfl hI hb hk ⟨0, rfl⟩
         have hneg : gr ≠ g := fun e_ => nth_apart H6.out.apart (i := 1) (j := 4) rfl rfl (by decide) g ((St.getS (W' := wa) H6 1 rfl ⟨0, rfl⟩ |> Kd.S_R).1 g (by rw [← e_]; simp [Value.ownBlock])) rfl
         have hx2 : wb.cell? ⟨gr, z.toNat, none⟩ = some (.slice Ae ys.length ce) := keep_cell hk hx1 hneg; clear hI hb hk H6 hz1 hx1 hw1; obtain ⟨oki, cc, hcl, hM, hoki, hcells, hlend⟩ := St.lendS (W' := wb) H7 1 rfl ([] : List Int) z HZ0.out HVC.out ⟨0, rfl⟩; rw [show C.getD z.toNat [] = ys from HYS.out.symm] at hM; obtain ⟨ve, rfl, hRv⟩ := hM; have hx1 := (hcells wb (Kept.refl _ _)).1 0 _ rfl; rw [HE2.out] at hx1; have hve : ve = .slice Ae ys.length ce := Option.some.inj (hx1.symm.trans hx2)
         subst hve
         clear hx2; have hz1 : wb.cell? ⟨g5, 0, none⟩ = some (.slice (some ⟨gr, 0, none⟩) C0.length c6) := (blk_cell (St.getB H7 0 rfl ⟨0, rfl⟩) 0).trans rfl; obtain ⟨_, ead, _, hw1⟩ := at_T63 (Kd.R_reads' (St.getR (W' := wb) H7 3 rfl ⟨0, rfl⟩)).2.2 z HZ0.out HZD.out
         cases ead
         rw [← HWZ.out] at hw1
         have hne5 : ∀ q, ok q → q ≠ g5 := fun q hq he => nth_apart H7.out.apart (i := 0) (j := 1) rfl rfl (by decide) q he hq
         have hned : ∀ q, ok q → okd q → False := fun q hq he => nth_apart H7.out.apart (i := 1) (j := 3) rfl rfl (by decide) q hq he
         have HO := Aside0.mk (fun q (hq : oki q) => hne5 q (hoki q hq).1); have HOD := Aside0.mk (fun q (hq : oki q) => hned q (hoki q hq).1); have HCE := Aside0.mk hcells; have HLE := Aside0.mk hlend; have HRV := Aside0.mk hRv; clear hcl hoki hcells hlend hRv hne5 hned hneg; refine hK.out _ _ ⟨hz1, hx1, hw1⟩ (fun hHeld => ?_); clear hK K; refine nm 66 ?_; refine on HT_ 15 67 3 (fun K hK => ?_); refine value_ (w1 := wb.alloc (.cells #[.int .i64 x] 2)) (v := .slice (some ⟨wb.heap.size, 0, none⟩) 1 1) (by rfl) rfl ?_ ?_
         ·first | (go_simp; done) | (go_simp; constructor <;> rfl) | (go_simp; rfl)
         have HV2 : Aside0 (Below wb.heap.size wb (wb.alloc (.cells #[.int .i64 x] 2))) := ⟨below_alloc (Below.refl _ _) _⟩; refine hK.out _ _ ⟨(HV2.out.cell (World.block_lt_of_cell? wb _ hz1)).trans hz1, (HV2.out.cell (World.block_lt_of_cell? wb _ hx1)).trans hx1, (HV2.out.cell (World.block_lt_of_cell? wb _ hw1)).trans hw1⟩ (fun hHeld => ?_); clear hK K HV2; refine nm 67 ?_; refine on HT_ 16 68 2 (fun K hK => ?_); refine Kd.R_append_step (Kd.int .i64) (w0 := w0) w0.heap.size (by rfl) (.tmp 59) (.tmp 67) 26 2 (.int .i64 0) 8 rfl Try.underlying26 info2 rfl (by decide) (by omega) (.slice Ae ys.length ce) ys x [.int .i64 x] (fun k_ => oki k_ ∨ wb.heap.size ≤ k_) (fun _ => False) rfl rfl ?aP (fun _ hk => hk.elim) ?aF ?aO ?aB ?aS ?aL ?_
         (case aP => exact rfl)
         (case aF => exact (fun k_ hk => .inr hk))
         (case aO => exact Kd.R_mono HRV.out (fun _ h_ => .inl h_))
         (case aB => exact H7.out.below)
         (case aS => exact H7.out.below.size)
         (case aL => have := HVL.out; omega)
         intro v6 w6 ho hb6 hg6 hat6
         have hk6 : Kept wb w6 oki := Kept.of_grown hg6 (Kept.refl _ _) (fun k_ e_ => .inl (HRV.out.1 k_ e_)); obtain ⟨okn, H8⟩ := HLE.out w6 (ys ++ [x]) 0 [v6] hb6 hk6 (show 0 + 1 ≤ 1 from by decide) ⟨v6, rfl, ho⟩; rw [HE2.out] at H8; have hx6 := (HCE.out w6 hk6).1 0 _ rfl; have hf6 := (HCE.out w6 hk6).2 0; rw [HE2.out] at hx6 hf6; have hz6 : w6.cell? ⟨g5, 0, none⟩ = some (.slice (some ⟨gr, 0, none⟩) C0.length c6) := (blk_cell ((hg6.block g5 (blk_lt (St.getB H7 0 rfl ⟨0, rfl⟩)) (fun e_ => HO.out g5 (HRV.out.1 g5 e_.symm) rfl)).trans (St.getB H7 0 rfl ⟨0, rfl⟩)) 0).trans rfl; have hRd6 : Kd.R k63 63 w6 w0.heap.size okd (.slice (some adq) ds.length cd) ds := Kd.R_step (St.getR (W' := wb) H7 3 rfl ⟨0, rfl⟩) (fun k_ ho_ hlt_ => hg6.block k_ hlt_ (fun e_ => HOD.out k_ (HRV.out.1 k_ e_.symm) ho_)); obtain ⟨_, ead, _, hw6⟩ := at_T63 (Kd.R_reads' hRd6).2.2 z HZ0.out HZD.out
         cases ead
         rw [← HWZ.out] at hw6; obtain ⟨A7, c7, rfl⟩ := Kd.R_slice ho; clear ho hb6 hg6 hat6 hk6 hRd6; refine hK.out _ _ ⟨hz6, hx6, hw6⟩ (fun hHeld => ?_); clear hK K; refine nm 68 ?_; refine pu HT_ 17 69 1 ?_; refine last_ (i := 18) (N := none) (tf 19 0) rfl rfl (one_of HT_.out (by kernel_rfl)) (by decide) (fun K hK => ?_); refine skip_ (w1 := w6.setCell ⟨gr, z.toNat, none⟩ (.slice A7 (ys ++ [x]).length c7)) (by rfl) rfl ?_ ?_
         ·first | (go_simp; done) | (go_simp; rfl)
         refine hK.out _ _ ?_; clear hK K; refine done_ (done_of HT_.out (by kernel_rfl)) ?_; clear hHeld HT_ HW_ hx6 hf6 hx1 hz1 hz6 hw1 hw6; replace H8 : Aside0 (St w0 (w6.setCell ⟨gr, z.toNat, none⟩ (.slice A7 (ys ++ [x]).length c7)) _) := H8; generalize w6.setCell ⟨gr, z.toNat, none⟩ (.slice A7 (ys ++ [x]).length c7) = w7 at H8 ⊢; have hz5 : w7.cell? ⟨g5, 0, none⟩ = some (.slice (some ⟨gr, 0, none⟩) C0.length c6) := (blk_cell (St.getB H8 0 rfl ⟨0, rfl⟩) 0).trans rfl; have hz4 : w7.cell? ⟨g4, 0, none⟩ = some (.slice none 0 0) := (blk_cell (St.getB H8 2 rfl ⟨0, rfl⟩) 0).trans rfl; have hf4 : w7.frozen? ⟨g4, 0, none⟩ = false := blk_frozen (St.getB H8 2 rfl ⟨0, rfl⟩) 0
         go_wp2
         have hap : ∀ q, okn q → q ≠ g4 := fun q hq he => nth_apart H8.out.apart (i := 1) (j := 2) rfl rfl (by decide) q hq he
         have hap2 : ∀ q, okd q → q ≠ g4 := fun q hq he => nth_apart H8.out.apart (i := 2) (j := 3) rfl rfl (by decide) q he hq
         refine bodyPost_ret (results_cell_row rfl _ _ g4 44 #[.slice (some ⟨gr, 0, none⟩) C0.length c6] (0, 0) _ rfl (blk_put (cs := #[.slice none 0 0]) (St.getB H8 2 rfl) 0 _ rfl) hu44 rfl (by kernel_rfl)) rfl ?_
         exact ⟨_, rfl, Kd.Q_mono (Kd.Q_of_R (Kd.S_R (Kd.S_far (p := ⟨g4, 0, none⟩) (St.getS H8 1 rfl) hap _))) (fun _ _ => trivial), Kd.R_far (p := ⟨g4, 0, none⟩) (St.getR H8 3 rfl) hap2 _, below_set (St.lift H8).below (St.lowB H8 2 rfl)⟩
        ·rw [if_neg vl] at hX; cases hX
       ·rw [if_neg zd] at hX; cases hX
      ·rw [if_neg zc] at hX; cases hX
     ·rw [if_neg z0] at hX; cases hX
    ·have e0 : (b == 0) = false := beq_eq_false_iff_ne.2 b0
     have e0d : decide (b = 0) = false := decide_eq_false b0
     by_cases b1 : b = 1
     ·subst b1
      replace hX : (if 1 ≤ C.length then some (C.drop 1, p2) else none) = some (r, r2) := hX
      by_cases c1 : 1 ≤ C.length
      ·rw [if_pos c1] at hX
       obtain ⟨e1_, e2_⟩ := Prod.mk.inj (Option.some.inj hX)
       subst e1_ e2_
       clear hX; obtain ⟨gr, cr, er, _, _, _, _⟩ := Kd.R_form (Kd.S_R (St.getS (W' := wr) H 1 rfl)) (by omega)
       have eA : A6 = some ⟨gr, 0, none⟩ := by injection er
       subst eA
       clear er
       have kcl := fun W => spec_l1Rd_cuts.cut1 W gr C0.length c6 (by have := HL.out; omega) HC6.out
       obtain ⟨A1, hA1⟩ : ∃ A1, A1 = if c6 = 1 then some (⟨gr, 0, none⟩ : Addr) else some ⟨gr, 1, none⟩ := ⟨_, rfl⟩; rw [← hA1] at kcl; have HA1 := Aside0.mk hA1; clear hA1
       go_wp2_with (go_at_call 84; (with_reducible refine (spec_l1Rd_below.calls g s p' 30 1 p2 w0 _ ?q1 ?q2 H2.out).mono ?_); (case q1 => exact getI H 4 rfl); (case q2 => exact (St.lift H).below); rintro e w3 ⟨rfl, hI, hb, hk⟩; have HS5 := callI H 4 rfl hI hb hk; clear hI hb hk; have hz5 : w3.cell? ⟨g5, 0, none⟩ = some (.slice (some ⟨gr, 0, none⟩) C0.length c6) := (blk_cell (St.getB HS5 0 rfl ⟨0, rfl⟩) 0).trans rfl; have hf5 : w3.frozen? ⟨g5, 0, none⟩ = false := blk_frozen (St.getB HS5 0 rfl ⟨0, rfl⟩) 0; have hz4 : w3.cell? ⟨g4, 0, none⟩ = some (.slice none 0 0) := (blk_cell (St.getB HS5 2 rfl ⟨0, rfl⟩) 0).trans rfl; have hf4 : w3.frozen? ⟨g4, 0, none⟩ = false := blk_frozen (St.getB HS5 2 rfl ⟨0, rfl⟩) 0; have hne54 : g5 ≠ g4 := (St.neB HS5 0 2 rfl rfl (by decide)).1; have hne45 : g4 ≠ g5 := (St.neB HS5 0 2 rfl rfl (by decide)).2)
       have hap : ∀ q, ok q → q ≠ g4 := fun q hq he => nth_apart HS5.out.apart (i := 1) (j := 2) rfl rfl (by decide) q hq he
       have hap5 : ∀ q, ok q → q ≠ g5 := fun q hq he => nth_apart HS5.out.apart (i := 0) (j := 1) rfl rfl (by decide) q he hq
       have hap2 : ∀ q, okd q → q ≠ g4 := fun q hq he => nth_apart HS5.out.apart (i := 2) (j := 3) rfl rfl (by decide) q he hq
       have hap25 : ∀ q, okd q → q ≠ g5 := fun q hq he => nth_apart HS5.out.apart (i := 0) (j := 3) rfl rfl (by decide) q he hq
       have hne : g5 ≠ g4 ∧ g4 ≠ g5 := St.neB HS5 0 2 rfl rfl (by decide); have hQ := Kd.Q_drop (k := 1) (Kd.Q_of_R (Kd.S_R (St.getS (W' := w3) HS5 1 rfl ⟨0, rfl⟩))) c1
       have hQ2 : Kd.Q (Kd.slice 2 (Kd.int .i64)) 26 w3 w0.heap.size ok (.slice A1 (C0.length - 1) (c6 - 1)) (C.drop 1) := by rw [HA1.out]; exact hQ
       refine bodyPost_ret (results_cell_row rfl _ _ g4 44 #[.slice A1 (C0.length - 1) (c6 - 1)] (0, 0) _ rfl (blk_put (cs := #[.slice none 0 0]) (blk_far (St.getB HS5 2 rfl) (by first | exact hne.1 | exact hne.2) _) 0 _ rfl) hu44 rfl (by kernel_rfl)) rfl ?_
       exact ⟨_, rfl, Kd.Q_mono (Kd.Q_far (p := ⟨g4, 0, none⟩) (Kd.Q_far (p := ⟨g5, 0, none⟩) hQ2 hap5 _) hap _) (fun _ _ => trivial), Kd.R_far (p := ⟨g4, 0, none⟩) (Kd.R_far (p := ⟨g5, 0, none⟩) (St.getR HS5 3 rfl) hap25 _) hap2 _, below_set (below_set (St.lift HS5).below (St.lowB HS5 0 rfl)) (St.lowB HS5 2 rfl)⟩
      ·rw [if_neg c1] at hX; cases hX
     ·have e1 : (b == 1) = false := beq_eq_false_iff_ne.2 b1
      have e1d : decide (b = 1) = false := decide_eq_false b1
      replace hX : some (C, p2) = some (r, r2) := by rw [if_neg b0, if_neg b1] at hX; exact hX
      obtain ⟨e1_, e2_⟩ := Prod.mk.inj (Option.some.inj hX)
      subst e1_ e2_
      clear hX
      go_wp2_with (go_at_call 84; (with_reducible refine (spec_l1Rd_below.calls g s p' 30 b p2 w0 _ ?q1 ?q2 H2.out).mono ?_); (case q1 => exact getI H 4 rfl); (case q2 => exact (St.lift H).below); rintro e w3 ⟨rfl, hI, hb, hk⟩; have HS5 := callI H 4 rfl hI hb hk; clear hI hb hk; have hz5 : w3.cell? ⟨g5, 0, none⟩ = some (.slice A6 C0.length c6) := (blk_cell (St.getB HS5 0 rfl ⟨0, rfl⟩) 0).trans rfl; have hz4 : w3.cell? ⟨g4, 0, none⟩ = some (.slice none 0 0) := (blk_cell (St.getB HS5 2 rfl ⟨0, rfl⟩) 0).trans rfl; have hf4 : w3.frozen? ⟨g4, 0, none⟩ = false := blk_frozen (St.getB HS5 2 rfl ⟨0, rfl⟩) 0)
      have hap : ∀ q, ok q → q ≠ g4 := fun q hq he => nth_apart HS5.out.apart (i := 1) (j := 2) rfl rfl (by decide) q hq he
      have hap2 : ∀ q, okd q → q ≠ g4 := fun q hq he => nth_apart HS5.out.apart (i := 2) (j := 3) rfl rfl (by decide) q he hq
      refine bodyPost_ret (results_cell_row rfl _ _ g4 44 #[.slice A6 C0.length c6] (0, 0) _ rfl (blk_put (cs := #[.slice none 0 0]) (St.getB HS5 2 rfl) 0 _ rfl) hu44 rfl (by kernel_rfl)) rfl ?_
      exact ⟨_, rfl, Kd.Q_mono (Kd.Q_of_R (Kd.S_R (Kd.S_far (p := ⟨g4, 0, none⟩) (St.getS HS5 1 rfl) hap _))) (fun _ _ => trivial), Kd.R_far (p := ⟨g4, 0, none⟩) (St.getR HS5 3 rfl) hap2 _, below_set (St.lift HS5).below (St.lowB HS5 2 rfl)⟩
theorem put_ok {x : Ob} {o o' : Ob} (e : o'.ok = o.ok) : ∀ {l : List Ob} {i : Nat}, nth l i = some o → x ∈ put l i o' → ∃ y ∈ l, y.ok = x.ok := by
 intro l
 induction l with
 | nil => intro i h; cases h
 | cons a l ih =>
  intro i h hx
  cases i with
  | zero =>
   cases h
   rcases List.mem_cons.1 hx with rfl | hx
   ·exact ⟨o, List.mem_cons_self .., e.symm⟩
   ·exact ⟨x, List.mem_cons_of_mem _ hx, rfl⟩
  | succ i =>
   rcases List.mem_cons.1 hx with rfl | hx
   ·exact ⟨x, List.mem_cons_self .., rfl⟩
   ·obtain ⟨y, hy, e2⟩ := ih h hx
    exact ⟨y, List.mem_cons_of_mem _ hy, e2⟩
/-- A call that moves the reader and makes a row. -/
theorem callIR {α : Type} {d : Kd α} {e : Nat} {v : Value} {xs : List α} {g : Nat} {s : List Int} {p p' : Int} {w0 W W' W1 : World} {l : List Ob} (h : Aside0 (St w0 W l)) (i : Nat) (hi : nth l i = some (ObI w0 g s p)) (hI : IsS118 w0 W1 g s p') (hb : Below w0.heap.size w0 W1) (hk : KeepBut W' W1 g none) (hr : d.R e W1 W'.heap.size (fun _ => True) v xs) (q : ∃ n, W' = W.drewN n := by first | exact ⟨_, rfl⟩ | exact ⟨0, rfl⟩) :
  ∃ (ok : Nat → Prop) (A : Option Addr) (c : Nat), v = .slice A xs.length c ∧ Aside0 (xs.length ≤ c) ∧ Aside0 (St w0 W1 (Ob.R w0 d e ok (.slice A xs.length c) xs :: put l i (ObI w0 g s p'))) := by
 have h1 := callI h i hi hI hb hk q; have h2 := St.lift h q; have hr1 := Kd.R_mono (ok' := fun k => W'.heap.size ≤ k ∧ k < W1.heap.size) (Kd.R_bound hr) (fun _ hk => ⟨hk.2.1, hk.2.2.1⟩); obtain ⟨A, c, rfl⟩ := Kd.R_slice hr1; refine ⟨_, A, c, rfl, ⟨(Kd.R_reads' hr1).2.1⟩, ⟨h1.out.cons (fun k hk => ⟨Nat.le_trans h2.below.size hk.1, hk.2⟩) (Ob.R_foot _ _ _ _ _ _) (Kd.R_lower hr1 h2.below.size) (fun o' ho' k hk hk' => ?_)⟩⟩; obtain ⟨y, hy, e2⟩ := put_ok (o := ObI w0 g s p) (o' := ObI w0 g s p') rfl hi ho'; have := ((h2.each y hy).1 k (by rw [e2]; exact hk')).2
 have := hk.1
 omega
def spec_DrawCutsOk.f (k : Nat) (l0 : List Int) : Option (List S63 × List (List Int)) := (spec_l1Open.f l0).bind fun o => (spec_l1Rd_decls.f k o.1 o.2).bind fun d => (spec_l1Rd_cuts.f k o.1 d.2 d.1).bind fun c => some (d.1, c.1)
set_option maxHeartbeats 8000000 in
set_option maxRecDepth 100000 in
theorem spec_DrawCutsOk.calls (k : Nat) (A0 : Option Addr) (c0 : Nat) (l0 : List Int) (r1 : List (S63)) (r2 : List (List Int)) (w : World) (hr0 : Kd.C (Kd.int .u8) w A0 l0.length l0) (hc0 : l0.length ≤ c0) (h : spec_DrawCutsOk.f k l0 = some (r1, r2)) :
  Calls Try.prog 63 #[.slice A0 l0.length c0] w fun e w' => ∃ v0_ v1_ : Value, e = .returned (.tuple #[v0_, .agg #[v1_]]) ∧ Kd.R k63 63 w' w.heap.size (fun _ => True) v0_ r1 ∧ Kd.Q (Kd.slice 2 (Kd.int .i64)) 26 w' w.heap.size (fun _ => True) v1_ r2 ∧ Below w.heap.size w w' := by
 have hu44 := Try.underlying44; obtain ⟨⟨o1, o2⟩, A1_, h⟩ := Option.bind_eq_some_iff.1 h; obtain ⟨⟨d1, d2⟩, A2_, h⟩ := Option.bind_eq_some_iff.1 h; obtain ⟨⟨c1, c2⟩, A3_, h⟩ := Option.bind_eq_some_iff.1 h; obtain ⟨e1_, e2_⟩ := Prod.mk.inj (Option.some.inj h)
 subst e1_ e2_
 clear h; replace A2_ : spec_l1Rd_decls.f k o1 o2 = some (d1, d2) := A2_; replace A3_ : spec_l1Rd_cuts.f k o1 d2 d1 = some (c1, c2) := A3_; have H1 := Aside0.mk A1_; have H2 := Aside0.mk A2_; have H3 := Aside0.mk A3_; have HR0 := Aside0.mk hr0; have HC0 := Aside0.mk hc0; clear A1_ A2_ A3_ hr0 hc0
 go_enter Try.func63, Try.ntmps63
 go_wp2_with (first | ((with_reducible refine gate_dst (N := 3) rfl ?_); refine be 3 #[.slice none 0 0] 44 ?_; intro g3 hg3 w1 hx3 hb3; have HB3 := Aside0.mk hb3; have HX3 := Aside0.mk hx3; have HG3 := Aside0.mk hg3; clear hg3 hx3 hb3) | ((with_reducible refine gate_dst (N := 7) rfl ?_); refine goesL_ (some 7) rfl rfl Try.func65 (by kernel_rfl) rfl #[.slice A0 l0.length c0] rfl ma ?_; refine (spec_l1Open.calls A0 c0 l0 o1 o2 w1 _ (by repeat (first | exact Below.refl _ _ | apply pw_below_drewN)) (Kd.C_below HR0.out (by first | exact HB3.out | exact pw_below_drewN HB3.out _)) HC0.out H1.out).mono ?_; rintro e w2 ⟨g, rfl, hI, hb0, hb⟩; have HS := startI hI hb0; clear hI hb hb0; refine ⟨_, rfl, ?_⟩) | ((with_reducible refine gate_dst (N := 9) rfl ?_); refine goesL_ (some 9) rfl rfl Try.func81 (by kernel_rfl) rfl #[.pointer (some ⟨g, 0, none⟩)] rfl ma ?_; refine (spec_l1Rd_decls.calls k g o1 o2 d1 d2 w1 _ (getI HS 0 rfl) (St.lift HS).below H2.out).mono ?_; rintro e w3 ⟨v3, rfl, hR, hI, hb, hk⟩; obtain ⟨okd, Ad, cd, rfl, HCD, HS2⟩ := callIR HS 0 rfl hI hb hk hR; clear hI hb hk hR; refine ⟨_, rfl, ?_⟩) | ((with_reducible refine gate_dst (N := 13) rfl ?_); refine goesL_ (some 13) rfl rfl Try.func82 (by kernel_rfl) rfl #[.pointer (some ⟨g, 0, none⟩), .slice Ad d1.length cd] rfl ma ?_; refine (spec_l1Rd_cuts.walk k g o1 d2 Ad cd d1 okd c1 c2 w1 _ ⟨St.lift HS2⟩ H3.out).mono ?_; rintro e w4 ⟨v4, rfl, hQ, hRd, hb4⟩; have HQ := Aside0.mk hQ; have HRD := Aside0.mk hRd; have HB4 := Aside0.mk hb4; clear hQ hRd hb4; refine ⟨_, rfl, ?_⟩) | ((with_reducible refine gate_store (t := 44) (p := 3) rfl ?_); have hx4 : w4.heap[g3]? = some (.cells #[.slice none 0 0] 44 (0, 0)) := blk_below HX3.out HB4.out; have hc4 : w4.cell? ⟨g3, 0, none⟩ = some (.slice none 0 0) := (blk_cell hx4 0).trans rfl; have hf4 : w4.frozen? ⟨g3, 0, none⟩ = false := blk_frozen hx4 0; obtain ⟨A4, c4, rfl, _⟩ := Kd.Q_slice HQ.out; refine store_event (t := 44) (p := 3) (v := ?vo) (w1 := w4.setCell ⟨g3, 0, none⟩ (.slice A4 c1.length c4)) ?hg ?ho ?hn ?hr ?_; (case ho => rfl); (case hg => rfl); (case hn => rfl); (case hr => first | (go_simp; done) | (go_simp; rfl)); intro w5 hw; subst hw))
 have hx4 : w4.heap[g3]? = some (.cells #[.slice none 0 0] 44 (0, 0)) := blk_below HX3.out HB4.out
 have hlt : ∀ q, w1.heap.size ≤ q → q ≠ g3 := fun q hq he => by have := blk_lt HX3.out; omega
 have hB := HB3.out; have hg3 := HG3.out; refine bodyPost_ret (results_tc rfl _ _ g3 44 #[.slice A4 c1.length c4] (0, 0) _ rfl (blk_put (cs := #[.slice none 0 0]) hx4 0 _ rfl) hu44 rfl (by kernel_rfl)) rfl ?_
 exact ⟨_, _, rfl, Kd.R_mono (Kd.R_lower (Kd.R_far (p := ⟨g3, 0, none⟩) (Kd.R_bound HRD.out) (fun q hq => hlt q hq.2.1) _) hB.size) (fun _ _ => trivial), Kd.Q_mono (Kd.Q_lower (Kd.Q_far (p := ⟨g3, 0, none⟩) (Kd.Q_bound HQ.out) (fun q hq => hlt q hq.2.1) _) hB.size) (fun _ _ => trivial), below_set (below_step hB HB4.out) (by rw [hg3]; exact Nat.le_refl _)⟩

/-! ### spec_DrawSlicesOf: function 28 -/
def spec_DrawSlicesOf.f (k : Nat) (l0 : List Int) : Option ((List (S63)) × (List (List Int))) := (spec_DrawCutsOk.f k l0).bind fun bt171 => (some (bt171.1, bt171.2))
set_option maxHeartbeats 8000000 in
set_option maxRecDepth 100000 in
theorem spec_DrawSlicesOf.calls (k : Nat) (A0 : Option Addr) (c0 : Nat) (l0 : List Int) (r1 : List (S63)) (r2 : List (List Int)) (w : World) (hr0 : Kd.C (Kd.int .u8) w A0 l0.length l0) (hc0 : l0.length ≤ c0) (h : spec_DrawSlicesOf.f k l0 = some (r1, r2)) :
  Calls Try.prog 28 #[.slice A0 l0.length c0] w fun e w' => ∃ v0_ v1_ : Value, e = .returned (.tuple #[v0_, .agg #[v1_]]) ∧ Kd.R k63 63 w' w.heap.size (fun _ => True) v0_ r1 ∧ Kd.Q (Kd.slice 2 (Kd.int .i64)) 26 w' w.heap.size (fun _ => True) v1_ r2 ∧ Below w.heap.size w w' := by
 have hu44 := Try.underlying44; have HR0 := Aside0.mk hr0; have HC0 := Aside0.mk hc0; clear hr0 hc0; have HB := Aside0.mk (Below.refl w.heap.size w); have H : ((spec_DrawCutsOk.f k l0).bind fun bt171 => (some (bt171.1, bt171.2))) = some (r1, r2) := h; clear h; replace H := Option.bind_eq_some_iff.mp H; obtain ⟨⟨t171, t174⟩, A20, H⟩ := H; replace H : (some (t171, t174)) = some (r1, r2) := H; have A2 := Aside0.mk A20; clear A20
 simp only [Option.some.injEq, Prod.mk.injEq] at H
 obtain ⟨rfl, rfl⟩ := H
 go_enter Try.func28, Try.ntmps28
 go_wp2_with (first | ((with_reducible refine gate_dst (N := 3) rfl ?_); refine be 3 #[.slice none 0 0] 44 ?_; intro gb170 hg w3 hbox hb; have n0_ := Aside0.mk (below_step (bl HB) hb); have n1_ := Aside0.mk (hbox); have n2_ := Aside0.mk (gs HB hg); have n3_ := Aside0.mk (gs HB hg); clear HB; have HB := n0_; have BK170 := n1_; have GW170 := n2_; have GE170 := n3_; clear n0_ n1_ n2_ n3_; clear hb hbox hg) | ((with_reducible refine gate_callee (f := 63) rfl ?_); refine goesL_ (some 5) rfl rfl Try.func63 (by kernel_rfl) rfl #[.slice A0 l0.length c0] rfl ma ?_; (with_reducible refine (spec_DrawCutsOk.calls k _ _ l0 t171 t174 _ ?side1 ?side2 A2.out).mono ?_); (case side1 => exact rc HR0 HB); (case side2 => exact HC0.out); rintro e w4 ⟨v172, v175, rfl, ho0, ho1, hb⟩; refine ⟨_, rfl, ?_⟩; have n0_ := Aside0.mk (Kd.R_lower ho0 (below_size (bs HB GE170))); have n1_ := Aside0.mk (Kd.Q_lower ho1 (below_size (bs HB GE170))); have n2_ := Aside0.mk (blk_below (g := gb170) (o := .cells #[.slice none 0 0] 44 (0, 0)) (bk BK170) hb); have n3_ := Aside0.mk (below_step (bs HB GE170) hb); clear BK170; clear HB; have HO173 := n0_; have HO176 := n1_; have BK170 := n2_; have HB := n3_; clear n0_ n1_ n2_ n3_; (try clear hb); (try clear hb2); (try clear hk); (try clear hi); (try clear ho0); (try clear ho1); obtain ⟨Ao5, co5, eo5, _⟩ := Kd.Q_slice HO176.out; subst eo5; have hcz6_0 : w4.cell? ⟨gb170, 0, none⟩ = some (.slice none 0 0) := (blk_cell BK170.out 0).trans rfl; have hfz6_0 := blk_frozen BK170.out 0))
 refine bodyPost_ret (results_tc rfl _ _ gb170 44 #[.slice Ao5 t174.length co5] (0, 0) _ rfl (by refine bd ?_; refine blk_put (cs := #[.slice none 0 0]) ?_ 0 _ rfl; (with_reducible repeat (first | refine blk_drewN ?_ _ | refine blk_drew ?_ | refine blk_alloc ?_ _)); exact BK170.out) Try.underlying44 rfl (by kernel_rfl)) rfl ?_
 exact ⟨_, _, by first | rfl | (simp [errW_none, errW_some] <;> rfl) | (simp [*, errW_none, errW_some] <;> rfl), by (with_reducible repeat (first | apply Kd.R_alloc | apply Kd.R_drewN | apply Kd.R_drew)); exact Kd.R_mono (Kd.R_far (p := ⟨gb170, 0, none⟩) (Kd.R_types HO173.out BK170.out (by decide)) (fun _ hk => hk.2) (.slice Ao5 t174.length co5)) (fun _ hk => trivial), by (with_reducible repeat (first | apply Kd.Q_alloc | apply Kd.Q_drewN | apply Kd.Q_drew)); exact Kd.Q_mono (Kd.Q_far (p := ⟨gb170, 0, none⟩) (Kd.Q_types HO176.out BK170.out (by decide)) (fun _ hk => hk.2) (.slice Ao5 t174.length co5)) (fun _ hk => trivial), bs HB GE170⟩

/-! ### impl_inside: function 42 -/
def impl_inside.f (a0 : Int) (a1 : Int) (a2 : Int) : Option (Bool) := if a0 ≥ a1 then (some (decide (a0 ≤ a2))) else (some false)
set_option maxHeartbeats 8000000 in
set_option maxRecDepth 100000 in
theorem impl_inside.calls (a0 : Int) (a1 : Int) (a2 : Int) (r : Bool) (w : World) (h : impl_inside.f a0 a1 a2 = some r) :
  Calls Try.prog 42 #[.int .i64 a0, .int .i64 a1, .int .i64 a2] w fun e w' => e = .returned (.bool r) ∧ Drawn0 w w' := by
 have H : (if a0 ≥ a1 then (some (decide (a0 ≤ a2))) else (some false)) = some r := h; clear h
 by_cases c4 : a0 ≥ a1
 ·rw [if_pos c4] at H
  have c4b0 : decide (a1 ≤ a0) = true := decide_eq_true c4; clear c4; obtain rfl := Option.some.inj H
  go_enter Try.func42, Try.ntmps42
  go_wp2
  go_ret
  exact ⟨au, dr⟩
 ·rw [if_neg c4] at H
  have c4b0 : decide (a1 ≤ a0) = false := decide_eq_false c4; clear c4; obtain rfl := Option.some.inj H
  go_enter Try.func42, Try.ntmps42
  go_wp2
  go_ret
  exact ⟨au, dr⟩

/-! ### impl_cutsOk: function 54 -/
mutual
def impl_cutsOk.l0 : Nat → List (S63) → List (List Int) → Int → Int → Option (Bool)
 | 0, _, _, _, _ => none
 | k + 1, x0, x17, x18, x19 => if x19 < x18 then (if 0 ≤ x19 then (if x19 < (x17.length : Int) then (impl_cutsOk.l1 k x0 x19 0 x17 x18 x19 (rd_L4 x17 x19) ((rd_L4 x17 x19).length : Int) 0) else (none)) else (none)) else (some true)
def impl_cutsOk.l1 : Nat → List (S63) → Int → Int → List (List Int) → Int → Int → List Int → Int → Int → Option (Bool)
 | 0, _, _, _, _, _, _, _, _, _ => none
 | k + 1, x0, x5, x7, x17, x18, x19, x24, x25, x26 => if x26 < x25 then (if 0 ≤ x26 then (if x26 < (x24.length : Int) then (if 0 ≤ x5 then (if x5 < (x0.length : Int) then ((impl_inside.f (rd x24 x26) (wrap64 (x7 + 1)) (wrap64 (((rd_T63 x0 x5).f1) - 1))).bind fun t181 => (if t181 = true then (impl_cutsOk.l1 k x0 x5 (rd x24 x26) x17 x18 x19 x24 x25 (wrap64 (x26 + 1))) else (some false))) else (none)) else (none)) else (none)) else (none)) else (impl_cutsOk.l0 k x0 x17 x18 (wrap64 (x19 + 1)))
end
def impl_cutsOk.f (k : Nat) (l0 : List (S63)) (l1_0 : List (List Int)) : Option (Bool) := if (l1_0.length : Int) = (l0.length : Int) then (impl_cutsOk.l0 k l0 l1_0 (l1_0.length : Int) 0) else (some false)
set_option maxHeartbeats 8000000 in
set_option maxRecDepth 100000 in
theorem impl_cutsOk.calls (k : Nat) (A0 : Option Addr) (c0 : Nat) (l0 : List (S63)) (A1_0 : Option Addr) (c1_0 : Nat) (l1_0 : List (List Int)) (r : Bool) (w : World) (hr0 : Kd.C k63 w A0 l0.length l0) (hc0 : l0.length ≤ c0) (hr1_0 : Kd.C (Kd.slice 2 (Kd.int .i64)) w A1_0 l1_0.length l1_0) (hc1_0 : l1_0.length ≤ c1_0) (h : impl_cutsOk.f k l0 l1_0 = some r) :
  Calls Try.prog 54 #[.slice A0 l0.length c0, .agg #[.slice A1_0 l1_0.length c1_0]] w fun e w' => e = .returned (.bool r) ∧ Below w.heap.size w w' := by
 have hu44 := Try.underlying44; have HR0 := Aside0.mk hr0; have HC0 := Aside0.mk hc0; clear hr0 hc0; have HR1_0 := Aside0.mk hr1_0; have HC1_0 := Aside0.mk hc1_0; clear hr1_0 hc1_0; have HB := Aside0.mk (Below.refl w.heap.size w); have H : (if (l1_0.length : Int) = (l0.length : Int) then (impl_cutsOk.l0 k l0 l1_0 (l1_0.length : Int) 0) else (some false)) = some r := h; clear h
 by_cases c3 : (l1_0.length : Int) = (l0.length : Int)
 ·rw [if_pos c3] at H
  have c3b0 : ((l1_0.length : Int) == (l0.length : Int)) = true := beq_iff_eq.mpr c3; have c3b1 : ((l1_0.length : Int) != (l0.length : Int)) = false := bne_eq_false_iff_eq.mpr c3
  have c3b2 : (l1_0.length == l0.length) = true := by first | simpa using c3 | (simp at c3 ⊢; omega)
  clear c3; have H' := Aside0.mk H; clear H
  go_enter Try.func54, Try.ntmps54
  go_wp2_with (first | ((with_reducible refine gate_dst (N := 3) rfl ?_); refine be 3 #[.slice A1_0 l1_0.length c1_0] 44 ?_; intro gb177 hg w4 hbox hb; have n0_ := Aside0.mk (below_step (bl HB) hb); have n1_ := Aside0.mk (hbox); have n2_ := Aside0.mk (gs HB hg); have n3_ := Aside0.mk (gs HB hg); clear HB; have HB := n0_; have BK177 := n1_; have GW177 := n2_; have GE177 := n3_; clear n0_ n1_ n2_ n3_; clear hb hbox hg; have hcz5_0 : w4.cell? ⟨gb177, 0, none⟩ = some (.slice A1_0 l1_0.length c1_0) := (blk_cell BK177.out 0).trans rfl; have hfz5_0 := blk_frozen BK177.out 0))
  go_loopg [19] k (fun kq v19 w' => ∃ (x19_1 : Int), v19 = .int .i64 x19_1 ∧ Aside0 (impl_cutsOk.l0 kq l0 l1_0 (l1_0.length : Int) x19_1 = some r) ∧ Aside0 (kq ≤ k) ∧ Aside0 (w'.heap[gb177]? = some (.cells #[(.slice A1_0 l1_0.length c1_0)] 44 (0, 0))) ∧ Aside0 (Below w.heap.size w w'))
  case atStart => exact ⟨(0), au, H', ⟨Nat.le_refl _⟩, ⟨bk BK177⟩, ⟨bs HB GE177⟩⟩
  case round =>
   clear H'
   try clear c1
   try clear p2
   try clear c3
   try clear c3b0
   try clear c3b1
   try clear c3b2
   try clear c5
   try clear hcz5_0
   try clear hfz5_0
   obtain ⟨x19_1, rfl, HA, HK1, BK177, HB⟩ := hrel
   cases gk with
   | zero => exact absurd HA.out (by simp [impl_cutsOk.l0])
   | succ k1 =>
    have H := HA.out; clear HA
    simp only [impl_cutsOk.l0] at H
    by_cases c6 : x19_1 < (l1_0.length : Int)
    ·rw [if_pos c6] at H
     have c6b0 : decide (x19_1 < (l1_0.length : Int)) = true := decide_eq_true c6; clear c6
     by_cases c7 : 0 ≤ x19_1
     ·rw [if_pos c7] at H
      have c7b0 : decide (0 ≤ x19_1) = true := decide_eq_true c7; clear c7
      by_cases c8 : x19_1 < (l1_0.length : Int)
      ·rw [if_pos c8] at H
       have c8b0 : decide (x19_1 < (l1_0.length : Int)) = true := decide_eq_true c8; clear c8; have H' := Aside0.mk H; clear H; have p178 : 0 ≤ (x19_1 : Int) := ode; have q178 : x19_1 < (l1_0.length : Int) := ode; obtain ⟨ad178, A178_0, c178_0, e178, hx178_0, hl178_0, hi178_0⟩ := at_L4 HR1_0.out x19_1 p178 q178
       cases e178
       replace hx178_0 := cl HB hx178_0; have HR178_0 := Aside0.mk hi178_0; have HC178_0 := Aside0.mk hl178_0; clear hi178_0 hl178_0; replace p178 := eq_true p178; replace q178 := eq_true q178
       go_wp2
       go_loopg [7, 26] k1 (fun kq v7 v26 w' => ∃ (x7_2 : Int) (x26_2 : Int), v7 = .int .i64 x7_2 ∧ v26 = .int .i64 x26_2 ∧ Aside0 (impl_cutsOk.l1 kq l0 x19_1 x7_2 l1_0 (l1_0.length : Int) x19_1 (rd_L4 l1_0 x19_1) ((rd_L4 l1_0 x19_1).length : Int) x26_2 = some r) ∧ Aside0 (kq ≤ k1) ∧ Aside0 (w'.heap[gb177]? = some (.cells #[(.slice (some ad178) l1_0.length c1_0)] 44 (0, 0))) ∧ Aside0 (Below w.heap.size w w'))
       case atStart => exact ⟨(0), (0), au, au, H', ⟨Nat.le_refl _⟩, ⟨bk BK177⟩, ⟨bs HB GE177⟩⟩
       case round =>
        clear H'
        try clear c1
        try clear p1
        try clear q1
        try clear hx1
        try clear p2
        try clear c3
        try clear c3b0
        try clear c3b1
        try clear c3b2
        try clear c5
        try clear c6
        try clear c6b0
        try clear c7
        try clear c7b0
        try clear c8
        try clear c8b0
        try clear hcz5_0
        try clear hfz5_0
        try clear hx178_0
        try clear p178
        try clear p2
        try clear q178
        obtain ⟨x7_2, x26_2, rfl, rfl, HA, HK2, BK177, HB⟩ := hrel
        cases gk with
        | zero => exact absurd HA.out (by simp [impl_cutsOk.l1])
        | succ k2 =>
         have H := HA.out; clear HA
         simp only [impl_cutsOk.l1] at H
         by_cases c9 : x26_2 < ((rd_L4 l1_0 x19_1).length : Int)
         ·rw [if_pos c9] at H
          have c9b0 : decide (x26_2 < ((rd_L4 l1_0 x19_1).length : Int)) = true := decide_eq_true c9; clear c9
          by_cases c10 : 0 ≤ x26_2
          ·rw [if_pos c10] at H
           have c10b0 : decide (0 ≤ x26_2) = true := decide_eq_true c10; clear c10
           by_cases c11 : x26_2 < ((rd_L4 l1_0 x19_1).length : Int)
           ·rw [if_pos c11] at H
            have c11b0 : decide (x26_2 < ((rd_L4 l1_0 x19_1).length : Int)) = true := decide_eq_true c11; clear c11
            by_cases c12 : 0 ≤ x19_1
            ·rw [if_pos c12] at H
             have c12b0 : decide (0 ≤ x19_1) = true := decide_eq_true c12; clear c12
             by_cases c13 : x19_1 < (l0.length : Int)
             ·rw [if_pos c13] at H
              have c13b0 : decide (x19_1 < (l0.length : Int)) = true := decide_eq_true c13; clear c13; replace H := Option.bind_eq_some_iff.mp H; obtain ⟨t181, A140, H⟩ := H; replace H : (if t181 = true then (impl_cutsOk.l1 k2 l0 x19_1 (rd (rd_L4 l1_0 x19_1) x26_2) l1_0 (l1_0.length : Int) x19_1 (rd_L4 l1_0 x19_1) ((rd_L4 l1_0 x19_1).length : Int) (wrap64 (x26_2 + 1))) else (some false)) = some r := H; have A14 := Aside0.mk A140; clear A140
              by_cases c15 : t181 = true
              ·subst c15
               have H1 : (impl_cutsOk.l1 k2 l0 x19_1 (rd (rd_L4 l1_0 x19_1) x26_2) l1_0 (l1_0.length : Int) x19_1 (rd_L4 l1_0 x19_1) ((rd_L4 l1_0 x19_1).length : Int) (wrap64 (x26_2 + 1))) = some r := by rw [if_pos rfl] at H; exact H
               clear H; have H := H1; clear H1; have H' := Aside0.mk H; clear H; have p179 : 0 ≤ (x26_2 : Int) := ode; have q179 : x26_2 < ((rd_L4 l1_0 x19_1).length : Int) := ode; obtain ⟨ad179, e179, hx179_0⟩ := Kd.at_int HR178_0.out x26_2 p179 q179
               cases e179
               replace hx179_0 := cl HB hx179_0; replace p179 := eq_true p179; replace q179 := eq_true q179; have p180 : 0 ≤ (x19_1 : Int) := ode; have q180 : x19_1 < (l0.length : Int) := ode; obtain ⟨ad180, e180, hx180_0, hx180_1⟩ := at_T63 HR0.out x19_1 p180 q180
               cases e180
               replace hx180_0 := cl HB hx180_0; replace hx180_1 := cl HB hx180_1; replace p180 := eq_true p180; replace q180 := eq_true q180
               go_wp2_with (first | ((with_reducible refine gate_callee (f := 42) rfl ?_); refine goesL_ (some 39) rfl rfl Try.func42 (by kernel_rfl) rfl #[.int .i64 (rd (rd_L4 l1_0 x19_1) x26_2), .int .i64 (wrap64 (x7_2 + 1)), .int .i64 (wrap64 (((rd_T63 l0 x19_1).f1) - 1))] rfl ma ?_; (with_reducible refine (impl_inside.calls (rd (rd_L4 l1_0 x19_1) x26_2) (wrap64 (x7_2 + 1)) (wrap64 (((rd_T63 l0 x19_1).f1) - 1)) true _ A14.out).mono ?_); rintro e w' ⟨rfl, ⟨nd, rfl⟩⟩; refine ⟨_, rfl, ?_⟩))
               go_roundg k2
               case measure => have := HK1.out; have := HK2.out; omega
               case rel => exact ⟨(rd (rd_L4 l1_0 x19_1) x26_2), (wrap64 (x26_2 + 1)), au, au, H', ⟨by have := HK1.out; have := HK2.out; omega⟩, ⟨bk BK177⟩, ⟨bs HB GE177⟩⟩
              ·replace c15 := Bool.eq_false_iff.mpr c15
               subst c15
               have H1 : (some false) = some r := by rw [if_neg (show ¬ (false = true) by decide)] at H; exact H
               clear H; have H := H1; clear H1; obtain rfl := Option.some.inj H; have p179 : 0 ≤ (x26_2 : Int) := ode; have q179 : x26_2 < ((rd_L4 l1_0 x19_1).length : Int) := ode; obtain ⟨ad179, e179, hx179_0⟩ := Kd.at_int HR178_0.out x26_2 p179 q179
               cases e179
               replace hx179_0 := cl HB hx179_0; replace p179 := eq_true p179; replace q179 := eq_true q179; have p180 : 0 ≤ (x19_1 : Int) := ode; have q180 : x19_1 < (l0.length : Int) := ode; obtain ⟨ad180, e180, hx180_0, hx180_1⟩ := at_T63 HR0.out x19_1 p180 q180
               cases e180
               replace hx180_0 := cl HB hx180_0; replace hx180_1 := cl HB hx180_1; replace p180 := eq_true p180; replace q180 := eq_true q180
               go_wp2_with (first | ((with_reducible refine gate_callee (f := 42) rfl ?_); refine goesL_ (some 39) rfl rfl Try.func42 (by kernel_rfl) rfl #[.int .i64 (rd (rd_L4 l1_0 x19_1) x26_2), .int .i64 (wrap64 (x7_2 + 1)), .int .i64 (wrap64 (((rd_T63 l0 x19_1).f1) - 1))] rfl ma ?_; (with_reducible refine (impl_inside.calls (rd (rd_L4 l1_0 x19_1) x26_2) (wrap64 (x7_2 + 1)) (wrap64 (((rd_T63 l0 x19_1).f1) - 1)) false _ A14.out).mono ?_); rintro e w' ⟨rfl, ⟨nd, rfl⟩⟩; refine ⟨_, rfl, ?_⟩))
               go_ret
               exact ⟨by first | rfl | (simp [errW_none, errW_some] <;> rfl) | (simp [*, errW_none, errW_some] <;> rfl), bs HB GE177⟩
             ·rw [if_neg c13] at H
              exact absurd H (by simp)
            ·rw [if_neg c12] at H
             exact absurd H (by simp)
           ·rw [if_neg c11] at H
            exact absurd H (by simp)
          ·rw [if_neg c10] at H
           exact absurd H (by simp)
         ·rw [if_neg c9] at H
          have c9b0 : decide (x26_2 < ((rd_L4 l1_0 x19_1).length : Int)) = false := decide_eq_false c9; clear c9; have H' := Aside0.mk H; clear H
          go_wp2
          go_roundg k2
          case measure => have := HK1.out; have := HK2.out; omega
          case rel => exact ⟨(wrap64 (x19_1 + 1)), au, H', ⟨by have := HK1.out; have := HK2.out; omega⟩, ⟨bk BK177⟩, ⟨bs HB GE177⟩⟩
      ·rw [if_neg c8] at H
       exact absurd H (by simp)
     ·rw [if_neg c7] at H
      exact absurd H (by simp)
    ·rw [if_neg c6] at H
     have c6b0 : decide (x19_1 < (l1_0.length : Int)) = false := decide_eq_false c6; clear c6; obtain rfl := Option.some.inj H
     go_wp2
     go_ret
     exact ⟨by first | rfl | (simp [errW_none, errW_some] <;> rfl) | (simp [*, errW_none, errW_some] <;> rfl), bs HB GE177⟩
 ·rw [if_neg c3] at H
  have c3b0 : ((l1_0.length : Int) == (l0.length : Int)) = false := beq_eq_false_iff_ne.mpr c3; have c3b1 : ((l1_0.length : Int) != (l0.length : Int)) = true := bne_iff_ne.mpr c3
  have c3b2 : (l1_0.length == l0.length) = false := by first | simpa using c3 | (simp at c3 ⊢; omega)
  obtain rfl := Option.some.inj H
  go_enter Try.func54, Try.ntmps54
  go_wp2_with (first | ((with_reducible refine gate_dst (N := 3) rfl ?_); refine be 3 #[.slice A1_0 l1_0.length c1_0] 44 ?_; intro gb177 hg w16 hbox hb; have n0_ := Aside0.mk (below_step (bl HB) hb); have n1_ := Aside0.mk (hbox); have n2_ := Aside0.mk (gs HB hg); have n3_ := Aside0.mk (gs HB hg); clear HB; have HB := n0_; have BK177 := n1_; have GW177 := n2_; have GE177 := n3_; clear n0_ n1_ n2_ n3_; clear hb hbox hg; have hcz17_0 : w16.cell? ⟨gb177, 0, none⟩ = some (.slice A1_0 l1_0.length c1_0) := (blk_cell BK177.out 0).trans rfl; have hfz17_0 := blk_frozen BK177.out 0))
  go_ret
  exact ⟨by first | rfl | (simp [errW_none, errW_some] <;> rfl) | (simp [*, errW_none, errW_some] <;> rfl), bs HB GE177⟩

end Go.Proofs.Ytonkicgdgpcneaa.PFnSlices
