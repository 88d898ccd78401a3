-- Written by a program of this session (a turned copy of the kit's printer); Lean checks it.
import Derived.Test.YtpkclocdenagcaaPFnSettledx0
import Derived.Test.YtpkclocdenagcaaPFnSettledx1
import Derived.Test.YtpkclocdenagcaaPFnSettledx2
import Derived.Test.YtpkclocdenagcaaPFnSettledx3
namespace Go.Proofs.Ytpkclocdenagcaa.PFnSettled
open Go.RowKit Go.Proofs.YtpkclocdenagcaaW.PrintWords Go.Proofs.YtpkclocdenagcaaW.PrintLast Go.Proofs.YtpkclocdenagcaaW.PrintMore
attribute [local go_sem] max2_int min2_int max_two min_two max_three min_three max_four min_four   -- for this text's walks alone
set_option linter.unusedVariables false
set_option linter.unusedSimpArgs false

/-! ### spec_Settle: function 29 -/
theorem spec_visit.growR {α : Type} {d : Kd α} {e : Nat} {ok : Nat → Prop} {v v2 : Value} {xs ys : List α} {w0 W w2 : World} {l : List Ob} (h : Aside0 (St w0 W l)) (i : Nat) (hi : nth l i = some (Ob.R w0 d e ok v xs)) (hg : W.grownBy w2 v.ownBlock) (hb : Below w0.heap.size w0 w2) (hr : d.R e w2 w0.heap.size (fun q => ok q ∨ W.heap.size ≤ q) v2 ys) :
    ∃ ok', Aside0 (St w0 w2 (put l i (Ob.R w0 d e ok' v2 ys))) :=
  ⟨fun q => (ok q ∨ W.heap.size ≤ q) ∧ q < w2.heap.size, ⟨St.turn h.out i hi hb hg.size (fun q hlt hn => hg.block q hlt (fun e => hn ((St.getR h i hi ⟨0, rfl⟩).1 q e.symm))) (fun q hq => hq.1.elim .inl (fun e => .inr ⟨e, hq.2⟩)) (Ob.R_foot _ _ _ _ _ _) (Kd.R_mono (Kd.R_bound hr) (fun q hq => ⟨hq.1, hq.2.2.1⟩))⟩⟩
theorem spec_visit.consN {w0 W : World} {l : List Ob} (h : Aside0 (St w0 W l)) : Aside0 (St w0 W (Ob.R w0 (Kd.int .i64) 2 (fun _ => False) (.slice none 0 0) [] :: l)) := ⟨h.out.cons (fun _ hk => hk.elim) (Ob.R_foot _ _ _ _ _ _) (Kd.R_nil _ _ _ _ _) (fun _ _ _ hk _ => hk.elim)⟩
theorem spec_visit.unguard {P : Program} {ops : Array Oper} {rest : List Oper} {d : Option Tmp} {op : Op} {ty : TypeId} {pos : String} {aft : Array Edge} {gd : Option (Nat × Bool)} {a : Act} {Q : Exit → Act → World → Prop} {W : World} (hw : Region.wanted (Oper.mk d op ty pos aft gd) (yielded ops a.tmps) = true) (h : wpList P ops Q (Oper.mk d op ty pos aft none :: rest) a W) : wpList P ops Q (Oper.mk d op ty pos aft gd :: rest) a W := by
  unfold wpList at h ⊢
  rw [if_pos hw]; rw [if_pos (show Region.wanted (Oper.mk d op ty pos aft none) (yielded ops a.tmps) = true from rfl)] at h
  exact h
/-- The first number from n on of which neither it nor its opposite stands. -/
def spec_visit.next : Nat → List Int → Int → Int → Option Int
  | 0, _, _, _ => none
  | k + 1, st, sw, n => if n ≤ sw then (spec_l1Has.f k st n).bind fun t => if t = true then spec_visit.next k st sw (wrap64 (n + 1)) else (spec_l1Has.f k st (wrap64 (-n))).bind fun t => if t = true then spec_visit.next k st sw (wrap64 (n + 1)) else some n else some n
def spec_visit.f (sw most : Int) (cl : List (List Int)) : Nat → Int → Bool → List Int → List Int → Option (Bool × Int × Bool × List Int)
  | 0, _, _, _, _ => none
  | k + 1, v, m, fo, set => if v = most then some (false, v, true, fo) else (spec_l18Unit.f k sw cl set).bind fun u => if u.2 = true then ((spec_visit.next k u.1 sw 1).bind fun n => if n ≤ sw then (if u.1.length < 17592186044416 then (spec_visit.f sw most cl k (wrap64 (v + 1)) m fo (u.1 ++ [wrap64 (-n)])).bind fun r => if r.1 = true then some r else if r.2.2.1 = true then some r else spec_visit.f sw most cl k r.2.1 r.2.2.1 r.2.2.2 (u.1 ++ [n]) else none) else some (true, wrap64 (v + 1), m, u.1)) else some (false, wrap64 (v + 1), m, fo)
set_option maxHeartbeats 8000000 in
set_option maxRecDepth 100000 in
theorem spec_visit.calls (sw most : Int) (A0 : Option Addr) (c0 : Nat) (cl : List (List Int)) (gs : Nat) (w0 : World) (hcl : Kd.C (Kd.slice 2 (Kd.int .i64)) w0 A0 cl.length cl) (hc0 : cl.length ≤ c0) :
    ∀ (k : Nat) (v : Int) (m : Bool) (fo set : List Int) (Af As : Option Addr) (cf cs : Nat) (okf oks : Nat → Prop) (rest : List Ob) (W : World) (b' : Bool) (v' : Int) (m' : Bool) (fo' : List Int),
      Aside0 (St w0 W (Ob.B gs (.cells #[.int .i64 sw, .slice A0 cl.length c0, .int .i64 v, .int .i64 most, .bool m, .slice Af fo.length cf] 95 (0, 0)) :: Ob.R w0 (Kd.int .i64) 2 okf (.slice Af fo.length cf) fo :: Ob.R w0 (Kd.int .i64) 2 oks (.slice As set.length cs) set :: rest)) →
      Aside0 (spec_visit.f sw most cl k v m fo set = some (b', v', m', fo')) →
      Calls Try.prog 65 #[.pointer (some ⟨gs, 0, none⟩), .slice As set.length cs] W fun e w' => e = .returned (.bool b') ∧ ∃ (okf' : Nat → Prop) (Af' : Option Addr) (cf' : Nat),
        Aside0 (St w0 w' (Ob.B gs (.cells #[.int .i64 sw, .slice A0 cl.length c0, .int .i64 v', .int .i64 most, .bool m', .slice Af' fo'.length cf'] 95 (0, 0)) :: Ob.R w0 (Kd.int .i64) 2 okf' (.slice Af' fo'.length cf') fo' :: rest)) := by
  have HCL := Aside0.mk hcl; have HC0 := Aside0.mk hc0; clear hcl hc0
  intro k
  induction k with
  | zero => intro v m fo set Af As cf cs okf oks rest W b' v' m' fo' HS HF; exact absurd HF.out (by simp [spec_visit.f])
  | succ k ih =>
    intro v m fo set Af As cf cs okf oks rest W b' v' m' fo' HS HF
    have hf := HF.out; rw [spec_visit.f] at hf; have hz2 : W.cell? ⟨gs, 2, none⟩ = some (.int .i64 v) := (blk_cell (St.getB HS 0 rfl ⟨0, rfl⟩) 2).trans rfl; have hz3 : W.cell? ⟨gs, 3, none⟩ = some (.int .i64 most) := (blk_cell (St.getB HS 0 rfl ⟨0, rfl⟩) 3).trans rfl
    by_cases c1 : v = most
    · rw [if_pos c1] at hf
      obtain ⟨e1_, e2_⟩ := Prod.mk.inj (Option.some.inj hf); obtain ⟨e2_, e3_⟩ := Prod.mk.inj e2_; obtain ⟨e3_, e4_⟩ := Prod.mk.inj e3_
      subst e1_ e2_ e3_ e4_
      clear hf HF ih; have c1b : (v == most) = true := beq_iff_eq.2 c1; have hzf4 : W.frozen? ⟨gs, 4, none⟩ = false := blk_frozen (St.getB HS 0 rfl ⟨0, rfl⟩) 4; have hz4 : W.cell? ⟨gs, 4, none⟩ = some (.bool m) := (blk_cell (St.getB HS 0 rfl ⟨0, rfl⟩) 4).trans rfl; clear c1
      go_enter Try.func65, Try.ntmps65
      go_wp2
      repeat (go_quiet (fail); try go_wp2)
      have HS1 : Aside0 (St w0 (W.drewN nq) _) := ⟨St.lift HS⟩; have HS2 : Aside0 (St w0 ((W.drewN nq).setCell ⟨gs, 4, none⟩ (.bool true)) _) := St.store HS1 0 rfl (by repeat (first | exact KeepBut.refl _ _ _ | apply KeepBut.set_)) (o' := .cells #[.int .i64 sw, .slice A0 cl.length c0, .int .i64 v, .int .i64 most, .bool true, .slice Af fo.length cf] 95 (0, 0)) (blk_put (St.getB HS1 0 rfl ⟨0, rfl⟩) 4 (.bool true) rfl) (below_set HS1.out.below (St.lowB HS1 0 rfl))
      go_ret
      exact ⟨rfl, okf, Af, cf, St.drop HS2 2⟩
    · rw [if_neg c1] at hf
      obtain ⟨u, hu, hf⟩ := Option.bind_eq_some_iff.mp hf; obtain ⟨st, ok⟩ := u; have HU := Aside0.mk hu
      dsimp only at hf
      have c1b : (v == most) = false := beq_eq_false_iff_ne.2 c1; have hzf2 : W.frozen? ⟨gs, 2, none⟩ = false := blk_frozen (St.getB HS 0 rfl ⟨0, rfl⟩) 2; obtain ⟨v2, hv2⟩ : ∃ v2, wrap64 (v + 1) = v2 := ⟨_, rfl⟩; have hv2i : IntKind.i64.wrap (v + 1) = v2 := (i64_w _).trans hv2; rw [hv2] at hf; have HF2 := Aside0.mk hf; clear c1 hu hf HF
      go_enter Try.func65, Try.ntmps65
      go_wp2
      go_quiet (fail)
      have HS1 : Aside0 (St w0 (W.drewN nq) _) := ⟨St.lift HS⟩; replace hz2 : (W.drewN nq).cell? ⟨gs, 2, none⟩ = some (.int .i64 v) := hz2; replace hzf2 : (W.drewN nq).frozen? ⟨gs, 2, none⟩ = false := hzf2; clear hz3 HS; generalize W.drewN nq = W1 at HS1 hz2 hzf2 ⊢
      go_upto_region 5 with (fail)
      have HS2 : Aside0 (St w0 (W1.setCell ⟨gs, 2, none⟩ (.int .i64 v2)) _) := St.store HS1 0 rfl (by repeat (first | exact KeepBut.refl _ _ _ | apply KeepBut.set_)) (o' := .cells #[.int .i64 sw, .slice A0 cl.length c0, .int .i64 v2, .int .i64 most, .bool m, .slice Af fo.length cf] 95 (0, 0)) (blk_put (St.getB HS1 0 rfl ⟨0, rfl⟩) 2 (.int .i64 v2) rfl) (below_set HS1.out.below (St.lowB HS1 0 rfl)); clear hz2 hzf2 HS1; generalize W1.setCell ⟨gs, 2, none⟩ (.int .i64 v2) = W2 at HS2 ⊢; have hz0 : W2.cell? ⟨gs, 0, none⟩ = some (.int .i64 sw) := (blk_cell (St.getB HS2 0 rfl ⟨0, rfl⟩) 0).trans rfl; have hz1 : W2.cell? ⟨gs, 1, none⟩ = some (.slice A0 cl.length c0) := (blk_cell (St.getB HS2 0 rfl ⟨0, rfl⟩) 1).trans rfl
      go_upto_region 6 with (first
        | (go_at_call 46
           refine (spec_l18Unit.calls k sw A0 c0 cl As cs set st ok _ ?s1 HC0.out ?s2 ?s3 HU.out).mono ?_
           case s1 => exact Kd.C_below HCL.out (St.lift HS2).below
           case s2 => exact (Kd.R_reads' (St.getR HS2 2 rfl)).2.2
           case s3 => exact (Kd.R_reads' (St.getR HS2 2 rfl)).2.1
           rintro e w3 ⟨v0_, rfl, hr, hb⟩; obtain ⟨okt, At, ct, rfl, hct, HS3⟩ := St.callR HS2 hb hr
           clear hr hb))
      clear hz0 hz1 HS2 HU
      cases ok with
      | false =>
        have hf := HF2.out; rw [if_neg (by decide)] at hf; obtain ⟨e1_, e2_⟩ := Prod.mk.inj (Option.some.inj hf); obtain ⟨e2_, e3_⟩ := Prod.mk.inj e2_; obtain ⟨e3_, e4_⟩ := Prod.mk.inj e3_
        subst e1_ e2_ e3_ e4_
        go_wp2
        go_ret
        exact ⟨rfl, okf, Af, cf, St.drop (St.drop HS3 3) 0⟩
      | true =>
        have hf := HF2.out; rw [if_pos rfl] at hf; obtain ⟨n0, hn0, hf⟩ := Option.bind_eq_some_iff.mp hf; have HN := Aside0.mk hn0; have HF3 := Aside0.mk hf; clear hn0 hf HF2
        go_wp2
        (try simp only [Act.put, List.setIfInBounds_toArray, List.set_cons_zero, List.set_cons_succ])
        have HC1 := Aside0.mk (Kd.C_max (Kd.R_reads' (St.getR (W' := w3) HS3 0 rfl ⟨0, rfl⟩)).2.2)
        go_loopg [7] k (fun kq s7 wr => ∃ n : Int, s7 = .int .i64 n ∧ Aside0 (spec_visit.next kq st sw n = some n0) ∧ Aside0 (St w0 wr (Ob.R w0 (Kd.int .i64) 2 okt (.slice At st.length ct) st :: Ob.B gs (.cells #[.int .i64 sw, .slice A0 cl.length c0, .int .i64 v2, .int .i64 most, .bool m, .slice Af fo.length cf] 95 (0, 0)) :: Ob.R w0 (Kd.int .i64) 2 okf (.slice Af fo.length cf) fo :: Ob.R w0 (Kd.int .i64) 2 oks (.slice As set.length cs) set :: rest)))
        case atStart => exact ⟨1, rfl, HN, ⟨St.lift HS3⟩⟩
        case round =>
          clear HS3 HN; obtain ⟨n, rfl, HN, HS⟩ := hrel; have hn := HN.out
          cases gk with
          | zero => cases hn
          | succ g1 =>
          rw [spec_visit.next] at hn; have hz0 : wr.cell? ⟨gs, 0, none⟩ = some (.int .i64 sw) := (blk_cell (St.getB HS 1 rfl ⟨0, rfl⟩) 0).trans rfl
          by_cases c2 : n ≤ sw
          · rw [if_pos c2] at hn
            have c2b : decide (n ≤ sw) = true := decide_eq_true c2; obtain ⟨t1, ht1, hn⟩ := Option.bind_eq_some_iff.mp hn; have HT1 := Aside0.mk ht1; clear ht1
            cases t1 with
            | true =>
              rw [if_pos rfl] at hn; have HN2 := Aside0.mk hn; clear hn HN c2
              go_wp2_with (first | (go_at_call 45; (with_reducible refine (spec_l1Has.calls g1 At ct st n true _ ?s1 ?s2 ?s3).mono ?_); (case s1 => exact (Kd.R_reads' (St.getR HS 0 rfl)).2.2); (case s2 => exact hct.out); (case s3 => exact HT1.out); rintro e w4 ⟨rfl, ⟨n4, rfl⟩⟩))
              go_roundg g1
              case measure => omega
              case rel => exact ⟨wrap64 (n + 1), by first | rfl | rw [i64_w], HN2, ⟨St.lift HS⟩⟩
            | false =>
              rw [if_neg (by decide)] at hn; obtain ⟨t2, ht2, hn⟩ := Option.bind_eq_some_iff.mp hn; have HT2 := Aside0.mk ht2; clear ht2; obtain ⟨n2, hn2⟩ : ∃ n2, wrap64 (-n) = n2 := ⟨_, rfl⟩; have hn2i : IntKind.i64.wrap (-n) = n2 := (i64_w _).trans hn2; rw [hn2] at HT2
              cases t2 with
              | true =>
                rw [if_pos rfl] at hn; have HN2 := Aside0.mk hn; clear hn HN c2
                go_wp2_with (first | (go_at_call 45; (try simp only [hn2i]); (with_reducible refine (spec_l1Has.calls g1 At ct st n false _ ?s1 ?s2 ?s3).mono ?_); (case s1 => exact (Kd.R_reads' (St.getR HS 0 rfl)).2.2); (case s2 => exact hct.out); (case s3 => exact HT1.out); rintro e w4 ⟨rfl, ⟨n4, rfl⟩⟩) | (go_at_call 45; (try simp only [hn2i]); (with_reducible refine (spec_l1Has.calls g1 At ct st n2 true _ ?s1 ?s2 ?s3).mono ?_); (case s1 => exact (Kd.R_reads' (St.getR HS 0 rfl)).2.2); (case s2 => exact hct.out); (case s3 => exact HT2.out); rintro e w4 ⟨rfl, ⟨n4, rfl⟩⟩))
                go_roundg g1
                case measure => omega
                case rel => exact ⟨wrap64 (n + 1), by first | rfl | rw [i64_w], HN2, ⟨St.lift HS⟩⟩
              | false =>
                rw [if_neg (by decide)] at hn; obtain rfl := Option.some.inj hn; have hf := HF3.out; rw [if_pos c2] at hf; clear hn HN HF3
                (try dsimp only at hf)
                by_cases c3 : st.length < 17592186044416
                · rw [if_pos c3] at hf
                  obtain ⟨r, hr, hf⟩ := Option.bind_eq_some_iff.mp hf; obtain ⟨b3, v3, m3, fo3⟩ := r; have HR3 := Aside0.mk hr; rw [hn2] at HR3
                  (try dsimp only at hf)
                  have HF4 := Aside0.mk hf; have HC3 := Aside0.mk c3; clear hf hr c3 c2
                  go_upto_region 12 with (first | (go_at_call 45; (try simp only [hn2i]); (with_reducible refine (spec_l1Has.calls g1 At ct st n false _ ?s1 ?s2 ?s3).mono ?_); (case s1 => exact (Kd.R_reads' (St.getR HS 0 rfl)).2.2); (case s2 => exact hct.out); (case s3 => exact HT1.out); rintro e w4 ⟨rfl, ⟨n4, rfl⟩⟩) | (go_at_call 45; (try simp only [hn2i]); (with_reducible refine (spec_l1Has.calls g1 At ct st n2 false _ ?s1 ?s2 ?s3).mono ?_); (case s1 => exact (Kd.R_reads' (St.getR HS 0 rfl)).2.2); (case s2 => exact hct.out); (case s3 => exact HT2.out); rintro e w4 ⟨rfl, ⟨n4, rfl⟩⟩))
                  cases b3 with
                  | true =>
                    have hf := HF4.out; rw [if_pos rfl] at hf; obtain ⟨e1_, e2_⟩ := Prod.mk.inj (Option.some.inj hf); obtain ⟨e2_, e3_⟩ := Prod.mk.inj e2_; obtain ⟨e3_, e4_⟩ := Prod.mk.inj e3_
                    subst e1_ e2_ e3_ e4_
                    clear hf HF4
                    go_wp2_with (first | ((with_reducible refine gate_dst (N := 57) rfl ?_); refine Kd.R_lit (Kd.int .i64) _ 2 ?hg (N := 57) ?hd (xs := ([] : List Int)) (inner := []) (ok := fun _ => True) (okp := fun _ => True) ?hr ?hp (fun _ hk => hk) trivial (Below.refl _ _) (Nat.le_refl _) (by simp) ?_; (case hd => rfl); (case hg => rfl); (case hr => first | (go_simp; done) | (go_simp; rfl)); (case hp => exact (Reps.none _ _)); intro va wa hra hba hga hna; clear hga hna; obtain ⟨oka, Aa, ca, rfl, hca, HSa⟩ := St.callR HS hba hra; clear hra hba) | ((with_reducible refine gate_builtin (b := .append) (xs := #[.tmp 57, .tmp 58]) rfl ?_); at_builtin; refine Kd.R_append_rows (Kd.int .i64) (w0 := w0) w0.heap.size rfl (.tmp 57) (.tmp 58) 33 2 (.int .i64 0) 8 rfl Try.underlying33 info2 rfl (by decide) (by omega) _ ([] : List Int) st _ _ _ (fun k_ => oka k_ ∨ wa.heap.size ≤ k_) (fun _ => False) rfl rfl ?aO ?aR (fun _ _ h => h) (fun _ h => h.elim) ?aF ?aB ?aS ?aL ?_; (case aO => exact Kd.R_mono (St.getR (W' := wa) HSa 0 rfl ⟨0, rfl⟩) (fun _ h_ => .inl h_)); (case aR => exact (Kd.R_reads' (St.getR (W' := wa) HSa 1 rfl ⟨0, rfl⟩)).2.2); (case aF => exact fun _ hk => .inr hk); (case aB => exact HSa.out.below); (case aS => exact HSa.out.below.size); (case aL => (have h_ := HC3.out; simp only [List.length_nil]; omega)); intro vb wb hrb hbb hgb hab; clear hab; obtain ⟨okb2, HSb⟩ := spec_visit.growR HSa 0 rfl hgb hbb hrb; clear hrb hbb hgb; rw [List.nil_append] at HSb) | ((with_reducible refine gate_builtin (b := .append) (xs := #[.tmp 59, .tmp 62]) rfl ?_); at_builtin; (try simp only [hn2i]); refine Kd.R_append (Kd.int .i64) (w0 := w0) w0.heap.size rfl (.tmp 59) (.tmp 62) 33 2 (.int .i64 0) 8 rfl Try.underlying33 info2 rfl (by decide) (by omega) vb st n2 [.int .i64 n2] (fun k_ => okb2 k_ ∨ wb.heap.size ≤ k_) (fun _ => False) rfl (by first | (go_simp; done) | (go_simp; rfl)) ?aP (fun _ hk => hk.elim) ?aF ?aO ?aB ?aS ?aL ?_; (case aP => exact rfl); (case aF => exact fun _ hk => .inr hk); (case aO => exact Kd.R_mono (St.getR (W' := wb) HSb 0 rfl ⟨0, rfl⟩) (fun _ h_ => .inl h_)); (case aB => exact HSb.out.below); (case aS => exact HSb.out.below.size); (case aL => (have h_ := HC3.out; omega)); intro vc wc hrc hbc hgc hac; clear hac; obtain ⟨okc, HSc⟩ := spec_visit.growR HSb 0 rfl hgc hbc hrc; obtain ⟨Ac, cc, rfl⟩ := Kd.R_slice hrc; clear hrc hbc hgc) | (go_at_call 65; rw [show st.length + 1 = (st ++ [n2]).length from by rw [List.length_append]; rfl]; (with_reducible refine (ih v2 m fo (st ++ [n2]) Af Ac cf cc okf okc (Ob.R w0 (Kd.int .i64) 2 okt (.slice At st.length ct) st :: Ob.R w0 (Kd.int .i64) 2 oks (.slice As set.length cs) set :: rest) _ true v3 m3 fo3 ?s1 ?s2).mono ?_); (case s1 => exact St.perm ⟨St.lift HSc⟩ ((List.perm_append_comm (l₁ := [_, _]) (l₂ := [_, _])).append_right _)); (case s2 => exact HR3); rintro e w5 ⟨rfl, okd, Ad, cd, HSd⟩; have hz4 : w5.cell? ⟨gs, 4, none⟩ = some (.bool m3) := (blk_cell (St.getB HSd 0 rfl ⟨0, rfl⟩) 4).trans rfl))
                    go_ret
                    exact ⟨rfl, okd, Ad, cd, St.drop (St.drop ⟨St.lift HSd⟩ 2) 2⟩
                  | false =>
                    have hf := HF4.out; rw [if_neg (by decide)] at hf
                    cases m3 with
                    | true =>
                      rw [if_pos rfl] at hf; obtain ⟨e1_, e2_⟩ := Prod.mk.inj (Option.some.inj hf); obtain ⟨e2_, e3_⟩ := Prod.mk.inj e2_; obtain ⟨e3_, e4_⟩ := Prod.mk.inj e3_
                      subst e1_ e2_ e3_ e4_
                      clear hf HF4
                      go_wp2_with (first | ((with_reducible refine gate_dst (N := 57) rfl ?_); refine Kd.R_lit (Kd.int .i64) _ 2 ?hg (N := 57) ?hd (xs := ([] : List Int)) (inner := []) (ok := fun _ => True) (okp := fun _ => True) ?hr ?hp (fun _ hk => hk) trivial (Below.refl _ _) (Nat.le_refl _) (by simp) ?_; (case hd => rfl); (case hg => rfl); (case hr => first | (go_simp; done) | (go_simp; rfl)); (case hp => exact (Reps.none _ _)); intro va wa hra hba hga hna; clear hga hna; obtain ⟨oka, Aa, ca, rfl, hca, HSa⟩ := St.callR HS hba hra; clear hra hba) | ((with_reducible refine gate_builtin (b := .append) (xs := #[.tmp 57, .tmp 58]) rfl ?_); at_builtin; refine Kd.R_append_rows (Kd.int .i64) (w0 := w0) w0.heap.size rfl (.tmp 57) (.tmp 58) 33 2 (.int .i64 0) 8 rfl Try.underlying33 info2 rfl (by decide) (by omega) _ ([] : List Int) st _ _ _ (fun k_ => oka k_ ∨ wa.heap.size ≤ k_) (fun _ => False) rfl rfl ?aO ?aR (fun _ _ h => h) (fun _ h => h.elim) ?aF ?aB ?aS ?aL ?_; (case aO => exact Kd.R_mono (St.getR (W' := wa) HSa 0 rfl ⟨0, rfl⟩) (fun _ h_ => .inl h_)); (case aR => exact (Kd.R_reads' (St.getR (W' := wa) HSa 1 rfl ⟨0, rfl⟩)).2.2); (case aF => exact fun _ hk => .inr hk); (case aB => exact HSa.out.below); (case aS => exact HSa.out.below.size); (case aL => (have h_ := HC3.out; simp only [List.length_nil]; omega)); intro vb wb hrb hbb hgb hab; clear hab; obtain ⟨okb2, HSb⟩ := spec_visit.growR HSa 0 rfl hgb hbb hrb; clear hrb hbb hgb; rw [List.nil_append] at HSb) | ((with_reducible refine gate_builtin (b := .append) (xs := #[.tmp 59, .tmp 62]) rfl ?_); at_builtin; (try simp only [hn2i]); refine Kd.R_append (Kd.int .i64) (w0 := w0) w0.heap.size rfl (.tmp 59) (.tmp 62) 33 2 (.int .i64 0) 8 rfl Try.underlying33 info2 rfl (by decide) (by omega) vb st n2 [.int .i64 n2] (fun k_ => okb2 k_ ∨ wb.heap.size ≤ k_) (fun _ => False) rfl (by first | (go_simp; done) | (go_simp; rfl)) ?aP (fun _ hk => hk.elim) ?aF ?aO ?aB ?aS ?aL ?_; (case aP => exact rfl); (case aF => exact fun _ hk => .inr hk); (case aO => exact Kd.R_mono (St.getR (W' := wb) HSb 0 rfl ⟨0, rfl⟩) (fun _ h_ => .inl h_)); (case aB => exact HSb.out.below); (case aS => exact HSb.out.below.size); (case aL => (have h_ := HC3.out; omega)); intro vc wc hrc hbc hgc hac; clear hac; obtain ⟨okc, HSc⟩ := spec_visit.growR HSb 0 rfl hgc hbc hrc; obtain ⟨Ac, cc, rfl⟩ := Kd.R_slice hrc; clear hrc hbc hgc) | (go_at_call 65; rw [show st.length + 1 = (st ++ [n2]).length from by rw [List.length_append]; rfl]; (with_reducible refine (ih v2 m fo (st ++ [n2]) Af Ac cf cc okf okc (Ob.R w0 (Kd.int .i64) 2 okt (.slice At st.length ct) st :: Ob.R w0 (Kd.int .i64) 2 oks (.slice As set.length cs) set :: rest) _ false v3 true fo3 ?s1 ?s2).mono ?_); (case s1 => exact St.perm ⟨St.lift HSc⟩ ((List.perm_append_comm (l₁ := [_, _]) (l₂ := [_, _])).append_right _)); (case s2 => exact HR3); rintro e w5 ⟨rfl, okd, Ad, cd, HSd⟩; have hz4 : w5.cell? ⟨gs, 4, none⟩ = some (.bool true) := (blk_cell (St.getB HSd 0 rfl ⟨0, rfl⟩) 4).trans rfl))
                      go_ret
                      exact ⟨rfl, okd, Ad, cd, St.drop (St.drop ⟨St.lift HSd⟩ 2) 2⟩
                    | false =>
                      rw [if_neg (by decide)] at hf; have HF5 := Aside0.mk hf; clear hf HF4
                      go_upto_region 14 with (first | ((with_reducible refine gate_dst (N := 57) rfl ?_); refine Kd.R_lit (Kd.int .i64) _ 2 ?hg (N := 57) ?hd (xs := ([] : List Int)) (inner := []) (ok := fun _ => True) (okp := fun _ => True) ?hr ?hp (fun _ hk => hk) trivial (Below.refl _ _) (Nat.le_refl _) (by simp) ?_; (case hd => rfl); (case hg => rfl); (case hr => first | (go_simp; done) | (go_simp; rfl)); (case hp => exact (Reps.none _ _)); intro va wa hra hba hga hna; clear hga hna; obtain ⟨oka, Aa, ca, rfl, hca, HSa⟩ := St.callR HS hba hra; clear hra hba) | ((with_reducible refine gate_builtin (b := .append) (xs := #[.tmp 57, .tmp 58]) rfl ?_); at_builtin; refine Kd.R_append_rows (Kd.int .i64) (w0 := w0) w0.heap.size rfl (.tmp 57) (.tmp 58) 33 2 (.int .i64 0) 8 rfl Try.underlying33 info2 rfl (by decide) (by omega) _ ([] : List Int) st _ _ _ (fun k_ => oka k_ ∨ wa.heap.size ≤ k_) (fun _ => False) rfl rfl ?aO ?aR (fun _ _ h => h) (fun _ h => h.elim) ?aF ?aB ?aS ?aL ?_; (case aO => exact Kd.R_mono (St.getR (W' := wa) HSa 0 rfl ⟨0, rfl⟩) (fun _ h_ => .inl h_)); (case aR => exact (Kd.R_reads' (St.getR (W' := wa) HSa 1 rfl ⟨0, rfl⟩)).2.2); (case aF => exact fun _ hk => .inr hk); (case aB => exact HSa.out.below); (case aS => exact HSa.out.below.size); (case aL => (have h_ := HC3.out; simp only [List.length_nil]; omega)); intro vb wb hrb hbb hgb hab; clear hab; obtain ⟨okb2, HSb⟩ := spec_visit.growR HSa 0 rfl hgb hbb hrb; clear hrb hbb hgb; rw [List.nil_append] at HSb) | ((with_reducible refine gate_builtin (b := .append) (xs := #[.tmp 59, .tmp 62]) rfl ?_); at_builtin; (try simp only [hn2i]); refine Kd.R_append (Kd.int .i64) (w0 := w0) w0.heap.size rfl (.tmp 59) (.tmp 62) 33 2 (.int .i64 0) 8 rfl Try.underlying33 info2 rfl (by decide) (by omega) vb st n2 [.int .i64 n2] (fun k_ => okb2 k_ ∨ wb.heap.size ≤ k_) (fun _ => False) rfl (by first | (go_simp; done) | (go_simp; rfl)) ?aP (fun _ hk => hk.elim) ?aF ?aO ?aB ?aS ?aL ?_; (case aP => exact rfl); (case aF => exact fun _ hk => .inr hk); (case aO => exact Kd.R_mono (St.getR (W' := wb) HSb 0 rfl ⟨0, rfl⟩) (fun _ h_ => .inl h_)); (case aB => exact HSb.out.below); (case aS => exact HSb.out.below.size); (case aL => (have h_ := HC3.out; omega)); intro vc wc hrc hbc hgc hac; clear hac; obtain ⟨okc, HSc⟩ := spec_visit.growR HSb 0 rfl hgc hbc hrc; obtain ⟨Ac, cc, rfl⟩ := Kd.R_slice hrc; clear hrc hbc hgc) | (go_at_call 65; rw [show st.length + 1 = (st ++ [n2]).length from by rw [List.length_append]; rfl]; (with_reducible refine (ih v2 m fo (st ++ [n2]) Af Ac cf cc okf okc (Ob.R w0 (Kd.int .i64) 2 okt (.slice At st.length ct) st :: Ob.R w0 (Kd.int .i64) 2 oks (.slice As set.length cs) set :: rest) _ false v3 false fo3 ?s1 ?s2).mono ?_); (case s1 => exact St.perm ⟨St.lift HSc⟩ ((List.perm_append_comm (l₁ := [_, _]) (l₂ := [_, _])).append_right _)); (case s2 => exact HR3); rintro e w5 ⟨rfl, okd, Ad, cd, HSd⟩; have hz4 : w5.cell? ⟨gs, 4, none⟩ = some (.bool false) := (blk_cell (St.getB HSd 0 rfl ⟨0, rfl⟩) 4).trans rfl))
                      clear hz0
                      go_wp2_with (first | ((with_reducible refine gate_dst (N := 72) rfl ?_); (refine spec_visit.unguard (by rfl) ?_); refine Kd.R_lit (Kd.int .i64) _ 2 ?hg (N := 72) ?hd (xs := ([] : List Int)) (inner := []) (ok := fun _ => True) (okp := fun _ => True) ?hr ?hp (fun _ hk => hk) trivial (Below.refl _ _) (Nat.le_refl _) (by simp) ?_; (case hd => rfl); (case hg => rfl); (case hr => first | (go_simp; done) | (go_simp; rfl)); (case hp => exact (Reps.none _ _)); intro va wa hra hba hga hna; clear hga hna; obtain ⟨oka, Aa, ca, rfl, hca, HSa⟩ := St.callR HSd hba hra; clear hra hba) | ((with_reducible refine gate_builtin (b := .append) (xs := #[.tmp 72, .tmp 73]) rfl ?_); (refine spec_visit.unguard (by rfl) ?_); at_builtin; refine Kd.R_append_rows (Kd.int .i64) (w0 := w0) w0.heap.size rfl (.tmp 72) (.tmp 73) 33 2 (.int .i64 0) 8 rfl Try.underlying33 info2 rfl (by decide) (by omega) _ ([] : List Int) st _ _ _ (fun k_ => oka k_ ∨ wa.heap.size ≤ k_) (fun _ => False) rfl rfl ?aO ?aR (fun _ _ h => h) (fun _ h => h.elim) ?aF ?aB ?aS ?aL ?_; (case aO => exact Kd.R_mono (St.getR (W' := wa) HSa 0 rfl ⟨0, rfl⟩) (fun _ h_ => .inl h_)); (case aR => exact (Kd.R_reads' (St.getR (W' := wa) HSa 3 rfl ⟨0, rfl⟩)).2.2); (case aF => exact fun _ hk => .inr hk); (case aB => exact HSa.out.below); (case aS => exact HSa.out.below.size); (case aL => (have h_ := HC3.out; simp only [List.length_nil]; omega)); intro vb wb hrb hbb hgb hab; clear hab; obtain ⟨okb2, HSb⟩ := spec_visit.growR HSa 0 rfl hgb hbb hrb; clear hrb hbb hgb; rw [List.nil_append] at HSb) | ((with_reducible refine gate_builtin (b := .append) (xs := #[.tmp 74, .tmp 76]) rfl ?_); (refine spec_visit.unguard (by rfl) ?_); at_builtin; refine Kd.R_append (Kd.int .i64) (w0 := w0) w0.heap.size rfl (.tmp 74) (.tmp 76) 33 2 (.int .i64 0) 8 rfl Try.underlying33 info2 rfl (by decide) (by omega) vb st n [.int .i64 n] (fun k_ => okb2 k_ ∨ wb.heap.size ≤ k_) (fun _ => False) rfl (by first | (go_simp; done) | (go_simp; rfl)) ?aP (fun _ hk => hk.elim) ?aF ?aO ?aB ?aS ?aL ?_; (case aP => exact rfl); (case aF => exact fun _ hk => .inr hk); (case aO => exact Kd.R_mono (St.getR (W' := wb) HSb 0 rfl ⟨0, rfl⟩) (fun _ h_ => .inl h_)); (case aB => exact HSb.out.below); (case aS => exact HSb.out.below.size); (case aL => (have h_ := HC3.out; omega)); intro vc wc hrc hbc hgc hac; clear hac; obtain ⟨okc, HSc⟩ := spec_visit.growR HSb 0 rfl hgc hbc hrc; obtain ⟨Ac, cc, rfl⟩ := Kd.R_slice hrc; clear hrc hbc hgc) | (go_at_call 65; rw [show st.length + 1 = (st ++ [n]).length from by rw [List.length_append]; rfl]; (with_reducible refine (ih v3 false fo3 (st ++ [n]) Ad Ac cd cc okd okc (Ob.R w0 (Kd.int .i64) 2 okt (.slice At st.length ct) st :: Ob.R w0 (Kd.int .i64) 2 oks (.slice As set.length cs) set :: rest) _ b' v' m' fo' ?s1 ?s2).mono ?_); (case s1 => exact St.perm ⟨St.lift HSc⟩ ((List.perm_append_comm (l₁ := [_]) (l₂ := [_, _])).append_right _)); (case s2 => exact HF5); rintro e w6 ⟨rfl, oke, Ae, ce, HSe⟩))
                      go_ret
                      exact ⟨rfl, oke, Ae, ce, St.drop (St.drop ⟨St.lift HSe⟩ 2) 2⟩
                · rw [if_neg c3] at hf; cases hf
          · rw [if_neg c2] at hn
            obtain rfl := Option.some.inj hn; have hf := HF3.out; rw [if_neg c2] at hf; have c2b : decide (n ≤ sw) = false := decide_eq_false c2; obtain ⟨e1_, e2_⟩ := Prod.mk.inj (Option.some.inj hf); obtain ⟨e2_, e3_⟩ := Prod.mk.inj e2_; obtain ⟨e3_, e4_⟩ := Prod.mk.inj e3_
            subst e1_ e2_ e3_ e4_
            clear hn HN HF3 c2; have hz5 : wr.cell? ⟨gs, 5, none⟩ = some (.slice Af fo.length cf) := (blk_cell (St.getB HS 1 rfl ⟨0, rfl⟩) 5).trans rfl; have hzf5 : wr.frozen? ⟨gs, 5, none⟩ = false := blk_frozen (St.getB HS 1 rfl ⟨0, rfl⟩) 5
            go_wp2
            go_ret
            have HS4 : Aside0 (St w0 (wr.setCell ⟨gs, 5, none⟩ (.slice At st.length ct)) _) := St.store HS 1 rfl (by repeat (first | exact KeepBut.refl _ _ _ | apply KeepBut.set_)) (o' := .cells #[.int .i64 sw, .slice A0 cl.length c0, .int .i64 v2, .int .i64 most, .bool m, .slice At st.length ct] 95 (0, 0)) (blk_put (St.getB HS 1 rfl ⟨0, rfl⟩) 5 (.slice At st.length ct) rfl) (below_set HS.out.below (St.lowB HS 1 rfl))
            exact ⟨rfl, okt, At, ct, St.drop (St.drop (St.perm HS4 (List.Perm.swap _ _ _)) 3) 2⟩
theorem spec_visit.inf4_ : (Try.prog.info? 4).map (fun i => (i.zero, i.size, i.bytes)) = some (some (.bool false), 1, 1) := by kernel_rfl
/-- The flags that numbers tell. -/
def spec_Settle.l0 : Nat → List Int → Int → List Bool → Int → Option (List Bool)
  | 0, _, _, _, _ => none
  | k + 1, fo, sw, out, n => if n ≤ sw then (spec_l1Has.f k fo n).bind fun t => if out.length < 140737488355328 then spec_Settle.l0 k fo sw (out ++ [t]) (wrap64 (n + 1)) else none else some out
def spec_Settle.f (k : Nat) (a0_0 : Int) (l0_1 : List (List Int)) (a1 : Int) : Option (List Bool × Int × Int) := (spec_CnfOk.f k a0_0 l0_1).bind fun t => if t = true then ((spec_l1In.f a1 0 20000).bind fun u => if u = true then ((spec_visit.f a0_0 a1 l0_1 k 0 false [] []).bind fun r => if r.2.2.1 = true then some ([], a1, 3) else if r.1 = true then ((spec_Settle.l0 k r.2.2.2 a0_0 [] 1).bind fun out => some (out, r.2.1, 1)) else some ([], r.2.1, 2)) else some ([], -1, 4)) else some ([], -1, 4)
set_option maxHeartbeats 8000000 in
set_option maxRecDepth 100000 in
theorem spec_Settle.calls (k : Nat) (a0_0 : Int) (A0_1 : Option Addr) (c0_1 : Nat) (l0_1 : List (List Int)) (a1 : Int) (r1 : List Bool) (r2 : Int) (r3 : Int) (w : World) (hr0_1 : Kd.C (Kd.slice 2 (Kd.int .i64)) w A0_1 l0_1.length l0_1) (hc0_1 : l0_1.length ≤ c0_1) (h : spec_Settle.f k a0_0 l0_1 a1 = some (r1, r2, r3)) :
    Calls Try.prog 29 #[.agg #[.int .i64 a0_0, .slice A0_1 l0_1.length c0_1], .int .i64 a1] w fun e w' => ∃ v0_ : Value, e = .returned (.tuple #[v0_, .int .i64 r2, .int .i64 r3]) ∧ Kd.R Kd.bool 4 w' w.heap.size (fun _ => True) v0_ r1 ∧ Below w.heap.size w w' := by
  have HR0 := Aside0.mk hr0_1; have HC0 := Aside0.mk hc0_1; have hmax := Kd.C_max hr0_1; clear hr0_1 hc0_1; have hu_ := Try.underlying37
  unfold spec_Settle.f at h
  obtain ⟨t, ht, h⟩ := Option.bind_eq_some_iff.mp h; have HT := Aside0.mk ht; clear ht
  cases t with
  | false =>
    obtain ⟨e1_, e2_⟩ := Prod.mk.inj (Option.some.inj h); obtain ⟨e2_, e3_⟩ := Prod.mk.inj e2_
    subst e1_ e2_ e3_
    clear h
    go_enter Try.func29, Try.ntmps29
    go_upto_region 1 with (fail)
    have HS := St.box (St.nil w) (W' := w) (g := w.heap.size) rfl (blk_new w (.cells #[.int .i64 a0_0, .slice A0_1 l0_1.length c0_1] 37 (0, 0))) (below_alloc (Below.refl _ _) _); generalize w.alloc (.cells #[.int .i64 a0_0, .slice A0_1 l0_1.length c0_1] 37 (0, 0)) = W1 at HS ⊢; generalize w.heap.size = g at HS ⊢
    go_upto_region 2 with (first | ((with_reducible refine gate_dst (N := 12) rfl ?_); refine Kd.R_lit Kd.bool _ 4 ?hg (N := 12) ?hd (xs := ([] : List Bool)) (inner := []) (ok := fun _ => True) (okp := fun _ => True) ?hr ?hp (fun _ hk => hk) trivial (Below.refl _ _) (Nat.le_refl _) (by simp) ?_; (case hd => rfl); (case hg => rfl); (case hr => first | (go_simp; done) | (go_simp; rfl)); (case hp => exact (Reps.none _ _)); intro va wa hra hba hga hna; clear hga hna; obtain ⟨okAn, An, cn, rfl, hcaAn, HSn⟩ := St.callR HS hba hra; clear hra hba))
    have hz0 : wa.cell? ⟨g, 0, none⟩ = some (.int .i64 a0_0) := (blk_cell (St.getB HSn 1 rfl ⟨0, rfl⟩) 0).trans rfl; have hz1 : wa.cell? ⟨g, 1, none⟩ = some (.slice A0_1 l0_1.length c0_1) := (blk_cell (St.getB HSn 1 rfl ⟨0, rfl⟩) 1).trans rfl
    go_wp2_with (first | (go_at_call 26; refine (spec_CnfOk.calls k a0_0 _ _ l0_1 false _ (Kd.C_below HR0.out (St.lift HSn).below) HC0.out HT.out).mono ?_; rintro e w3 ⟨rfl, hb⟩; have HS1 := St.call HSn hb; clear hb hz0 hz1; have hz0 : w3.cell? ⟨g, 0, none⟩ = some (.int .i64 a0_0) := (blk_cell (St.getB HS1 1 rfl ⟨0, rfl⟩) 0).trans rfl; have hz1 : w3.cell? ⟨g, 1, none⟩ = some (.slice A0_1 l0_1.length c0_1) := (blk_cell (St.getB HS1 1 rfl ⟨0, rfl⟩) 1).trans rfl))
    go_ret3
    exact ⟨_, rfl, Kd.R_mono (Kd.R_lower (St.getR HS1 0 rfl) (by first | exact Nat.le_refl _)) (fun _ _ => trivial), (St.lift HS1).below⟩
  | true =>
    rw [if_pos rfl] at h; obtain ⟨u, hu, h⟩ := Option.bind_eq_some_iff.mp h; have HU := Aside0.mk hu; clear hu
    cases u with
    | false =>
      obtain ⟨e1_, e2_⟩ := Prod.mk.inj (Option.some.inj h); obtain ⟨e2_, e3_⟩ := Prod.mk.inj e2_
      subst e1_ e2_ e3_
      clear h
      go_enter Try.func29, Try.ntmps29
      go_upto_region 1 with (fail)
      have HS := St.box (St.nil w) (W' := w) (g := w.heap.size) rfl (blk_new w (.cells #[.int .i64 a0_0, .slice A0_1 l0_1.length c0_1] 37 (0, 0))) (below_alloc (Below.refl _ _) _); generalize w.alloc (.cells #[.int .i64 a0_0, .slice A0_1 l0_1.length c0_1] 37 (0, 0)) = W1 at HS ⊢; generalize w.heap.size = g at HS ⊢
      go_upto_region 2 with (first | ((with_reducible refine gate_dst (N := 12) rfl ?_); refine Kd.R_lit Kd.bool _ 4 ?hg (N := 12) ?hd (xs := ([] : List Bool)) (inner := []) (ok := fun _ => True) (okp := fun _ => True) ?hr ?hp (fun _ hk => hk) trivial (Below.refl _ _) (Nat.le_refl _) (by simp) ?_; (case hd => rfl); (case hg => rfl); (case hr => first | (go_simp; done) | (go_simp; rfl)); (case hp => exact (Reps.none _ _)); intro va wa hra hba hga hna; clear hga hna; obtain ⟨okAn, An, cn, rfl, hcaAn, HSn⟩ := St.callR HS hba hra; clear hra hba))
      have hz0 : wa.cell? ⟨g, 0, none⟩ = some (.int .i64 a0_0) := (blk_cell (St.getB HSn 1 rfl ⟨0, rfl⟩) 0).trans rfl; have hz1 : wa.cell? ⟨g, 1, none⟩ = some (.slice A0_1 l0_1.length c0_1) := (blk_cell (St.getB HSn 1 rfl ⟨0, rfl⟩) 1).trans rfl
      go_wp2_with (first | (go_at_call 26; refine (spec_CnfOk.calls k a0_0 _ _ l0_1 true _ (Kd.C_below HR0.out (St.lift HSn).below) HC0.out HT.out).mono ?_; rintro e w3 ⟨rfl, hb⟩; have HS1 := St.call HSn hb; clear hb hz0 hz1; have hz0 : w3.cell? ⟨g, 0, none⟩ = some (.int .i64 a0_0) := (blk_cell (St.getB HS1 1 rfl ⟨0, rfl⟩) 0).trans rfl; have hz1 : w3.cell? ⟨g, 1, none⟩ = some (.slice A0_1 l0_1.length c0_1) := (blk_cell (St.getB HS1 1 rfl ⟨0, rfl⟩) 1).trans rfl) | (go_at_call 44; refine (spec_l1In.calls a1 0 20000 false _ HU.out).mono ?_; rintro e w4 ⟨rfl, ⟨n4, rfl⟩⟩))
      go_ret3
      exact ⟨_, rfl, Kd.R_mono (Kd.R_lower (St.getR HS1 0 rfl) (by first | exact Nat.le_refl _)) (fun _ _ => trivial), (St.lift HS1).below⟩
    | true =>
      rw [if_pos rfl] at h; obtain ⟨r, hr, h⟩ := Option.bind_eq_some_iff.mp h; obtain ⟨b, v1, m1, fo⟩ := r
      dsimp only at h
      have HR := Aside0.mk hr; clear hr
      go_enter Try.func29, Try.ntmps29
      go_upto_region 1 with (fail)
      have HS := St.box (St.nil w) (W' := w) (g := w.heap.size) rfl (blk_new w (.cells #[.int .i64 a0_0, .slice A0_1 l0_1.length c0_1] 37 (0, 0))) (below_alloc (Below.refl _ _) _); generalize w.alloc (.cells #[.int .i64 a0_0, .slice A0_1 l0_1.length c0_1] 37 (0, 0)) = W1 at HS ⊢; generalize w.heap.size = g at HS ⊢
      go_upto_region 2 with (first | ((with_reducible refine gate_dst (N := 12) rfl ?_); refine Kd.R_lit Kd.bool _ 4 ?hg (N := 12) ?hd (xs := ([] : List Bool)) (inner := []) (ok := fun _ => True) (okp := fun _ => True) ?hr ?hp (fun _ hk => hk) trivial (Below.refl _ _) (Nat.le_refl _) (by simp) ?_; (case hd => rfl); (case hg => rfl); (case hr => first | (go_simp; done) | (go_simp; rfl)); (case hp => exact (Reps.none _ _)); intro va wa hra hba hga hna; clear hga hna; obtain ⟨okAn, An, cn, rfl, hcaAn, HSn⟩ := St.callR HS hba hra; clear hra hba))
      have hz0 : wa.cell? ⟨g, 0, none⟩ = some (.int .i64 a0_0) := (blk_cell (St.getB HSn 1 rfl ⟨0, rfl⟩) 0).trans rfl; have hz1 : wa.cell? ⟨g, 1, none⟩ = some (.slice A0_1 l0_1.length c0_1) := (blk_cell (St.getB HSn 1 rfl ⟨0, rfl⟩) 1).trans rfl
      go_upto_region 4 with (first | (go_at_call 26; refine (spec_CnfOk.calls k a0_0 _ _ l0_1 true _ (Kd.C_below HR0.out (St.lift HSn).below) HC0.out HT.out).mono ?_; rintro e w3 ⟨rfl, hb⟩; have HS1 := St.call HSn hb; clear hb hz0 hz1; have hz0 : w3.cell? ⟨g, 0, none⟩ = some (.int .i64 a0_0) := (blk_cell (St.getB HS1 1 rfl ⟨0, rfl⟩) 0).trans rfl; have hz1 : w3.cell? ⟨g, 1, none⟩ = some (.slice A0_1 l0_1.length c0_1) := (blk_cell (St.getB HS1 1 rfl ⟨0, rfl⟩) 1).trans rfl) | (go_at_call 44; refine (spec_l1In.calls a1 0 20000 true _ HU.out).mono ?_; rintro e w4 ⟨rfl, ⟨n4, rfl⟩⟩))
      go_upto_region 5 with (fail)
      have HSs0 : Aside0 (St w ((w3.drewN n4).alloc (.cells #[.int .i64 a0_0, .slice A0_1 l0_1.length c0_1, .int .i64 0, .int .i64 a1, .bool false, .slice none 0 0] 95 (0, 0))) (Ob.B w3.heap.size (.cells #[.int .i64 a0_0, .slice A0_1 l0_1.length c0_1, .int .i64 0, .int .i64 a1, .bool false, .slice none 0 0] 95 (0, 0)) :: _)) := St.box HS1 (W' := w3.drewN n4) (g := w3.heap.size) rfl (blk_new (w3.drewN n4) _) (below_alloc (Below.refl _ _) _); clear hz0 hz1; generalize (w3.drewN n4).alloc (.cells #[.int .i64 a0_0, .slice A0_1 l0_1.length c0_1, .int .i64 0, .int .i64 a1, .bool false, .slice none 0 0] 95 (0, 0)) = W5 at HSs0 ⊢; generalize w3.heap.size = gs at HSs0 ⊢; clear HS HSn HS1
      cases m1 with
      | true =>
        rw [if_pos rfl] at h; obtain ⟨e1_, e2_⟩ := Prod.mk.inj (Option.some.inj h); obtain ⟨e2_, e3_⟩ := Prod.mk.inj e2_
        subst e1_ e2_ e3_
        clear h
        go_upto_region 6 with (first | ((with_reducible refine gate_dst (N := 27) rfl ?_); refine Kd.R_lit (Kd.int .i64) _ 2 ?hg (N := 27) ?hd (xs := ([] : List Int)) (inner := []) (ok := fun _ => True) (okp := fun _ => True) ?hr ?hp (fun _ hk => hk) trivial (Below.refl _ _) (Nat.le_refl _) (by simp) ?_; (case hd => rfl); (case hg => rfl); (case hr => first | (go_simp; done) | (go_simp; rfl)); (case hp => exact (Reps.none _ _)); intro va wa hra hba hga hna; clear hga hna; obtain ⟨okAs, As, cs, rfl, hcaAs, HSs⟩ := St.callR HSs0 hba hra; clear hra hba) | (go_at_call 65; (refine (spec_visit.calls a0_0 a1 A0_1 c0_1 l0_1 gs w HR0.out HC0.out k 0 false [] [] none As 0 cs (fun _ => False) okAs [Ob.R w Kd.bool 4 okAn (.slice An ([] : List Bool).length cn) [], Ob.B g (.cells #[.int .i64 a0_0, .slice A0_1 l0_1.length c0_1] 37 (0, 0))] _ b v1 true fo ?s1 ?s2).mono ?_); (case s1 => exact St.perm ⟨St.lift (spec_visit.consN HSs)⟩ ((List.perm_append_comm (l₁ := [_, _]) (l₂ := [_])).append_right _)); (case s2 => exact HR); rintro e w6 ⟨rfl, okf, Af, cf, HSv⟩))
        have hz4 : w6.cell? ⟨gs, 4, none⟩ = some (.bool true) := (blk_cell (St.getB HSv 0 rfl ⟨0, rfl⟩) 4).trans rfl
        go_wp2
        go_ret3
        exact ⟨_, rfl, Kd.R_mono (Kd.R_lower (St.getR HSv 2 rfl) (by first | exact Nat.le_refl _)) (fun _ _ => trivial), (St.lift HSv).below⟩
      | false =>
        rw [if_neg (by decide)] at h
        cases b with
        | false =>
          rw [if_neg (by decide)] at h; obtain ⟨e1_, e2_⟩ := Prod.mk.inj (Option.some.inj h); obtain ⟨e2_, e3_⟩ := Prod.mk.inj e2_
          subst e1_ e2_ e3_
          clear h
          go_upto_region 6 with (first | ((with_reducible refine gate_dst (N := 27) rfl ?_); refine Kd.R_lit (Kd.int .i64) _ 2 ?hg (N := 27) ?hd (xs := ([] : List Int)) (inner := []) (ok := fun _ => True) (okp := fun _ => True) ?hr ?hp (fun _ hk => hk) trivial (Below.refl _ _) (Nat.le_refl _) (by simp) ?_; (case hd => rfl); (case hg => rfl); (case hr => first | (go_simp; done) | (go_simp; rfl)); (case hp => exact (Reps.none _ _)); intro va wa hra hba hga hna; clear hga hna; obtain ⟨okAs, As, cs, rfl, hcaAs, HSs⟩ := St.callR HSs0 hba hra; clear hra hba) | (go_at_call 65; (refine (spec_visit.calls a0_0 a1 A0_1 c0_1 l0_1 gs w HR0.out HC0.out k 0 false [] [] none As 0 cs (fun _ => False) okAs [Ob.R w Kd.bool 4 okAn (.slice An ([] : List Bool).length cn) [], Ob.B g (.cells #[.int .i64 a0_0, .slice A0_1 l0_1.length c0_1] 37 (0, 0))] _ false v1 false fo ?s1 ?s2).mono ?_); (case s1 => exact St.perm ⟨St.lift (spec_visit.consN HSs)⟩ ((List.perm_append_comm (l₁ := [_, _]) (l₂ := [_])).append_right _)); (case s2 => exact HR); rintro e w6 ⟨rfl, okf, Af, cf, HSv⟩))
          have hz4 : w6.cell? ⟨gs, 4, none⟩ = some (.bool false) := (blk_cell (St.getB HSv 0 rfl ⟨0, rfl⟩) 4).trans rfl; have hz2 : w6.cell? ⟨gs, 2, none⟩ = some (.int .i64 v1) := (blk_cell (St.getB HSv 0 rfl ⟨0, rfl⟩) 2).trans rfl
          go_wp2
          repeat (go_quiet (fail); try go_wp2)
          go_ret3
          exact ⟨_, rfl, Kd.R_mono (Kd.R_lower (St.getR HSv 2 rfl) (by first | exact Nat.le_refl _)) (fun _ _ => trivial), (St.lift HSv).below⟩
        | true =>
          rw [if_pos rfl] at h; obtain ⟨res, hres, h⟩ := Option.bind_eq_some_iff.mp h; obtain ⟨e1_, e2_⟩ := Prod.mk.inj (Option.some.inj h); obtain ⟨e2_, e3_⟩ := Prod.mk.inj e2_
          subst e1_ e2_ e3_
          clear h; have HRES := Aside0.mk hres; clear hres
          go_upto_region 6 with (first | ((with_reducible refine gate_dst (N := 27) rfl ?_); refine Kd.R_lit (Kd.int .i64) _ 2 ?hg (N := 27) ?hd (xs := ([] : List Int)) (inner := []) (ok := fun _ => True) (okp := fun _ => True) ?hr ?hp (fun _ hk => hk) trivial (Below.refl _ _) (Nat.le_refl _) (by simp) ?_; (case hd => rfl); (case hg => rfl); (case hr => first | (go_simp; done) | (go_simp; rfl)); (case hp => exact (Reps.none _ _)); intro va wa hra hba hga hna; clear hga hna; obtain ⟨okAs, As, cs, rfl, hcaAs, HSs⟩ := St.callR HSs0 hba hra; clear hra hba) | (go_at_call 65; (refine (spec_visit.calls a0_0 a1 A0_1 c0_1 l0_1 gs w HR0.out HC0.out k 0 false [] [] none As 0 cs (fun _ => False) okAs [Ob.R w Kd.bool 4 okAn (.slice An ([] : List Bool).length cn) [], Ob.B g (.cells #[.int .i64 a0_0, .slice A0_1 l0_1.length c0_1] 37 (0, 0))] _ true v1 false fo ?s1 ?s2).mono ?_); (case s1 => exact St.perm ⟨St.lift (spec_visit.consN HSs)⟩ ((List.perm_append_comm (l₁ := [_, _]) (l₂ := [_])).append_right _)); (case s2 => exact HR); rintro e w6 ⟨rfl, okf, Af, cf, HSv⟩))
          have hz4 : w6.cell? ⟨gs, 4, none⟩ = some (.bool false) := (blk_cell (St.getB HSv 0 rfl ⟨0, rfl⟩) 4).trans rfl
          go_wp2_with (first | ((with_reducible refine gate_dst (N := 42) rfl ?_); refine Kd.R_lit Kd.bool _ 4 ?hg (N := 42) ?hd (xs := ([] : List Bool)) (inner := []) (ok := fun _ => True) (okp := fun _ => True) ?hr ?hp (fun _ hk => hk) trivial (Below.refl _ _) (Nat.le_refl _) (by simp) ?_; (case hd => rfl); (case hg => rfl); (case hr => first | (go_simp; done) | (go_simp; rfl)); (case hp => exact (Reps.none _ _)); intro va wa hra hba hga hna; clear hga hna; obtain ⟨okAo, Ao, co, rfl, hcaAo, HSo⟩ := St.callR HSv hba hra; clear hra hba))
          (try simp only [Act.put, List.setIfInBounds_toArray, List.set_cons_zero, List.set_cons_succ])
          clear hz4
          go_loopg [10, 11] k (fun kq s10 s11 wr => ∃ (n : Int) (out : List Bool) (oko : Nat → Prop) (Ao : Option Addr) (co : Nat), s10 = .slice Ao out.length co ∧ s11 = .int .i64 n ∧ Aside0 (spec_Settle.l0 kq fo a0_0 out n = some res) ∧ Aside0 (St w wr (Ob.R w Kd.bool 4 oko (.slice Ao out.length co) out :: [Ob.B gs (.cells #[.int .i64 a0_0, .slice A0_1 l0_1.length c0_1, .int .i64 v1, .int .i64 a1, .bool false, .slice Af fo.length cf] 95 (0, 0)), Ob.R w (Kd.int .i64) 2 okf (.slice Af fo.length cf) fo, Ob.R w Kd.bool 4 okAn (.slice An ([] : List Bool).length cn) [], Ob.B g (.cells #[.int .i64 a0_0, .slice A0_1 l0_1.length c0_1] 37 (0, 0))])))
          case atStart => exact ⟨1, [], okAo, Ao, co, rfl, rfl, HRES, ⟨St.lift HSo⟩⟩
          case round =>
            clear HRES HSo HSv; obtain ⟨n, out, oko, Ao, co, rfl, rfl, HX, HS⟩ := hrel; have hx := HX.out
            cases gk with
            | zero => cases hx
            | succ g1 =>
            rw [spec_Settle.l0] at hx; have hz0 : wr.cell? ⟨g, 0, none⟩ = some (.int .i64 a0_0) := (blk_cell (St.getB HS 4 rfl ⟨0, rfl⟩) 0).trans rfl
            by_cases c2 : n ≤ a0_0
            · rw [if_pos c2] at hx
              have c2b : decide (n ≤ a0_0) = true := decide_eq_true c2; obtain ⟨t, htt, hx⟩ := Option.bind_eq_some_iff.mp hx; have HTT := Aside0.mk htt
              by_cases c3 : out.length < 140737488355328
              · rw [if_pos c3] at hx
                have HLE := Aside0.mk c3; have HX2 := Aside0.mk hx; have hz5 : wr.cell? ⟨gs, 5, none⟩ = some (.slice Af fo.length cf) := (blk_cell (St.getB HS 1 rfl ⟨0, rfl⟩) 5).trans rfl; clear htt hx HX c2 c3
                go_wp2_with (first | (go_at_call 45; (with_reducible refine (spec_l1Has.calls g1 Af cf fo n t _ ?s1 ?s2 ?s3).mono ?_); (case s1 => exact (Kd.R_reads' (St.getR HS 2 rfl)).2.2); (case s2 => exact (Kd.R_reads' (St.getR HS 2 rfl)).2.1); (case s3 => exact HTT.out); rintro e w7 ⟨rfl, ⟨n7, rfl⟩⟩; have HS7 : Aside0 (St w (wr.drewN n7) _) := ⟨St.lift HS⟩) | ((with_reducible refine gate_builtin (b := .append) (xs := #[.tmp 49, .tmp 56]) rfl ?_); at_builtin; refine Kd.R_append Kd.bool (w0 := w) w.heap.size rfl (.tmp 49) (.tmp 56) 51 4 (.bool false) 1 rfl Try.underlying51 spec_visit.inf4_ rfl (by decide) (by omega) (.slice Ao out.length co) out t [.bool t] (fun k_ => oko k_ ∨ (wr.drewN n7).heap.size ≤ k_) (fun _ => False) rfl (by first | (go_simp; done) | (go_simp; rfl)) ?aP (fun _ hk => hk.elim) ?aF ?aO ?aB ?aS ?aL ?_; (case aP => exact rfl); (case aF => exact fun _ hk => .inr hk); (case aO => exact Kd.R_mono (St.getR HS7 0 rfl) (fun _ h_ => .inl h_)); (case aB => exact (St.lift HS7).below); (case aS => exact (St.lift HS7).below.size); (case aL => (have h_ := HLE.out; omega)); intro vc wc hrc hbc hgc hac; clear hac; obtain ⟨okc, HSc⟩ := spec_visit.growR HS7 0 rfl hgc hbc hrc; obtain ⟨Ac, cc, rfl⟩ := Kd.R_slice hrc; clear hrc hbc hgc))
                go_roundg g1
                case measure => omega
                case rel => exact ⟨wrap64 (n + 1), out ++ [t], okc, Ac, cc, by first | rfl | simp, by first | rfl | rw [i64_w], HX2, ⟨St.lift HSc⟩⟩
              · rw [if_neg c3] at hx; cases hx
            · rw [if_neg c2] at hx
              obtain rfl := Option.some.inj hx; have c2b : decide (n ≤ a0_0) = false := decide_eq_false c2; have hz2 : wr.cell? ⟨gs, 2, none⟩ = some (.int .i64 v1) := (blk_cell (St.getB HS 1 rfl ⟨0, rfl⟩) 2).trans rfl; clear hx HX c2
              go_wp2
              repeat (go_quiet (fail); try go_wp2)
              go_ret3
              exact ⟨_, rfl, Kd.R_mono (Kd.R_lower (St.getR HS 0 rfl) (by first | exact Nat.le_refl _)) (fun _ _ => trivial), (St.lift HS).below⟩

-- NOT PRINTED: function 50 (impl_newTrail)

/-! ### slices_Index_int64_int64: function 85 -/
def slices_Index_int64_int64.l0 : Nat → List Int → Int → Int → Int → Option (Int)
  | 0, _, _, _, _ => none
  | k + 1, x0, x1, x7, x8 => if x8 < x7 then (if 0 ≤ x8 then (if x8 < (x0.length : Int) then (if x1 = (rd x0 x8) then (some x8) else (slices_Index_int64_int64.l0 k x0 x1 x7 (wrap64 (x8 + 1)))) else (none)) else (none)) else (some (-1))
def slices_Index_int64_int64.f (k : Nat) (l0 : List Int) (a1 : Int) : Option (Int) := slices_Index_int64_int64.l0 k l0 a1 (l0.length : Int) 0
set_option maxHeartbeats 8000000 in
set_option maxRecDepth 100000 in
theorem slices_Index_int64_int64.calls (k : Nat) (A0 : Option Addr) (c0 : Nat) (l0 : List Int) (a1 : Int) (r : Int) (w : World) (hr0 : Kd.C (Kd.int .i64) w A0 l0.length l0) (hc0 : l0.length ≤ c0) (h : slices_Index_int64_int64.f k l0 a1 = some r) :
    Calls Try.prog 85 #[.slice A0 l0.length c0, .int .i64 a1] w fun e w' => e = .returned (.int .i64 r) ∧ Drawn0 w w' := by
  have HR0 := Aside0.mk hr0; have HC0 := Aside0.mk hc0; clear hr0 hc0; have H : (slices_Index_int64_int64.l0 k l0 a1 (l0.length : Int) 0) = some r := h; clear h; have H' := Aside0.mk H; clear H
  go_enter Try.func85, Try.ntmps85
  go_wp2
  go_loopg [8] k (fun kq v8 w' => ∃ (x8_1 : Int), v8 = .int .i64 x8_1 ∧ Aside0 (slices_Index_int64_int64.l0 kq l0 a1 (l0.length : Int) x8_1 = some r) ∧ Aside0 (kq ≤ k) ∧ Drawn0 w w')
  case atStart => exact ⟨(0), au, H', ⟨Nat.le_refl _⟩, dr⟩
  case round =>
    clear H'
    try clear p2
    obtain ⟨x8_1, rfl, HA, HK1, ⟨m1, rfl⟩⟩ := hrel
    cases gk with
    | zero => exact absurd HA.out (by simp [slices_Index_int64_int64.l0])
    | succ k1 =>
      have H := HA.out; clear HA
      simp only [slices_Index_int64_int64.l0] at H
      by_cases c3 : x8_1 < (l0.length : Int)
      · rw [if_pos c3] at H
        have c3b0 : decide (x8_1 < (l0.length : Int)) = true := decide_eq_true c3; clear c3
        by_cases c4 : 0 ≤ x8_1
        · rw [if_pos c4] at H
          have c4b0 : decide (0 ≤ x8_1) = true := decide_eq_true c4; clear c4
          by_cases c5 : x8_1 < (l0.length : Int)
          · rw [if_pos c5] at H
            have c5b0 : decide (x8_1 < (l0.length : Int)) = true := decide_eq_true c5; clear c5
            by_cases c6 : a1 = (rd l0 x8_1)
            · rw [if_pos c6] at H
              have c6b0 : (a1 == (rd l0 x8_1)) = true := beq_iff_eq.mpr c6; have c6b1 : (a1 != (rd l0 x8_1)) = false := bne_eq_false_iff_eq.mpr c6; clear c6; obtain rfl := Option.some.inj H; have p140 : 0 ≤ (x8_1 : Int) := ode; have q140 : x8_1 < (l0.length : Int) := ode; obtain ⟨ad140, e140, hx140_0⟩ := Kd.at_int HR0.out x8_1 p140 q140
              cases e140
              replace p140 := eq_true p140; replace q140 := eq_true q140
              go_wp2
              go_ret
              exact ⟨au, dr⟩
            · rw [if_neg c6] at H
              have c6b0 : (a1 == (rd l0 x8_1)) = false := beq_eq_false_iff_ne.mpr c6; have c6b1 : (a1 != (rd l0 x8_1)) = true := bne_iff_ne.mpr c6; have H' := Aside0.mk H; clear H; have p140 : 0 ≤ (x8_1 : Int) := ode; have q140 : x8_1 < (l0.length : Int) := ode; obtain ⟨ad140, e140, hx140_0⟩ := Kd.at_int HR0.out x8_1 p140 q140
              cases e140
              replace p140 := eq_true p140; replace q140 := eq_true q140
              go_wp2
              go_roundg k1
              case measure => have := HK1.out; omega
              case rel => exact ⟨(wrap64 (x8_1 + 1)), au, H', ⟨by have := HK1.out; omega⟩, dr⟩
          · rw [if_neg c5] at H
            exact absurd H (by simp)
        · rw [if_neg c4] at H
          exact absurd H (by simp)
      · rw [if_neg c3] at H
        have c3b0 : decide (x8_1 < (l0.length : Int)) = false := decide_eq_false c3; clear c3; obtain rfl := Option.some.inj H
        go_wp2
        go_ret
        exact ⟨au, dr⟩

-- NOT PRINTED: function 81 (impl_settler_visit)

-- NOT PRINTED: function 67 (impl_settle)

end Go.Proofs.Ytpkclocdenagcaa.PFnSettled
