-- Written by a program of this session (a turned copy of the kit's printer); Lean checks it.
-- half the depth
import Derived.Test.YtpkclocdenagcaaPFnExactReadBitsx0
import Derived.Test.YtpkclocdenagcaaPFnExactReadBitsx2
namespace Go.Proofs.Ytpkclocdenagcaa.PFnExactReadBits
open Go.RowKit Go.Proofs.YtpkclocdenagcaaW.PrintWords Go.Proofs.YtpkclocdenagcaaW.PrintLast Go.Proofs.YtpkclocdenagcaaW.PrintMore
attribute [local go_sem] max2_int min2_int max_two min_two max_three min_three max_four min_four   -- for this text's walks alone
set_option linter.unusedVariables false
set_option linter.unusedSimpArgs false

/-! ### impl_ReadBits: function 9 -/
theorem impl_ReadBits.idx0 (s : ByteArray) (c : Int) (w : World) :
  Calls Try.prog 70 #[.string s, .int .u8 c] w fun e w' => e = .returned (.int .i64 (Lib.indexByte s.data.toList c.toNat.toUInt8)) ∧ w' = w := by
 go_enter Try.func70, Try.ntmps70
 go_wp2
 rw [run_callFunc_extern Try.func82 (by kernel_rfl) (by kernel_rfl) (by kernel_rfl) (e := Extern.BytealgIndexByte.indexByte) (by kernel_rfl), Lib.run_indexByteString]
 simp only [Result.andThen]
 rw [Oper.upon_value]
 go_wp2
 go_ret
 exact ⟨rfl, rfl⟩
theorem impl_ReadBits.idx (s : ByteArray) (c : Int) (w : World) :
  Calls Try.prog 39 #[.string s, .int .u8 c] w fun e w' => e = .returned (.int .i64 (Lib.indexByte s.data.toList c.toNat.toUInt8)) ∧ w' = w := by
 go_enter Try.func39, Try.ntmps39
 go_wp2_with (go_at_call 70; refine (impl_ReadBits.idx0 _ _ _).mono ?_; rintro e w' ⟨rfl, rfl⟩)
 go_ret
 exact ⟨rfl, rfl⟩
def impl_ReadBits.hexB : ByteArray := ⟨#[48, 49, 50, 51, 52, 53, 54, 55, 56, 57, 97, 98, 99, 100, 101, 102]⟩
def impl_ReadBits.pl (d : ByteArray) (p : Nat) : Int := wrap64 (wrap64 ((d.size : Int) - 1) - (p : Int))
def impl_ReadBits.dg (d : ByteArray) (p : Nat) : Int := Lib.indexByte impl_ReadBits.hexB.data.toList (bt d (impl_ReadBits.pl d p)).toNat.toUInt8
def impl_ReadBits.l0 : Nat → Int → ByteArray → Int → List Int → Nat → Option (Int × List Int × Bool)
 | 0, _, _, _, _, _ => none
 | k + 1, each, d, wd, ws, p => if p < d.size then (if 0 ≤ impl_ReadBits.pl d p then (if impl_ReadBits.pl d p < (d.size : Int) then (if impl_ReadBits.dg d p < 0 then some (0, [], false) else (if impl_ReadBits.dg d p ≥ shl .i64 1 each then some (0, [], false) else (if 0 ≤ wrap64 (Int.tdiv (wrap64 (each * (p : Int))) 64) then (if wrap64 (Int.tdiv (wrap64 (each * (p : Int))) 64) < (ws.length : Int) then (if 0 ≤ Int.tmod (wrap64 (each * (p : Int))) 64 then impl_ReadBits.l0 k each d wd (ws.set (wrap64 (Int.tdiv (wrap64 (each * (p : Int))) 64)).toNat (Go.bits .or .u64 (rd ws (wrap64 (Int.tdiv (wrap64 (each * (p : Int))) 64))) (shl .u64 (IntKind.u64.wrap (impl_ReadBits.dg d p)) (Int.tmod (wrap64 (each * (p : Int))) 64)))) (p + (Utf8.decode d p).2) else none) else none) else none))) else none) else none) else some (wd, ws, true)
def impl_ReadBits.g (k : Nat) (d : ByteArray) (each : Int) : Option (Int × List Int × Bool) := if wrap64 (each * (d.size : Int)) > 4096 then some (0, [], false) else (impl_zeroBits.f (wrap64 (each * (d.size : Int)))).bind fun z => impl_ReadBits.l0 k each d z.1 z.2 0
def impl_ReadBits.f (k : Nat) (a0 : ByteArray) : Option (Int × List Int × Bool) := if (a0.size : Int) < 3 then some (0, [], false) else if bt a0 0 = 35 then (if bt a0 1 = 98 then impl_ReadBits.g k (a0.extract 2 a0.size) 1 else if bt a0 1 = 120 then impl_ReadBits.g k (a0.extract 2 a0.size) 4 else some (0, [], false)) else some (0, [], false)
def impl_ReadBits.T18 : Bool × List (List Nat × List Nat) := (true, [([], []), ([0], [0]), ([], []), ([2], [2]), ([1, 3], [1, 3]), ([4], [4]), ([], []), ([6], [6]), ([], []), ([8], [8]), ([7, 9], [7, 9]), ([5, 10], [5, 10]), ([1, 3, 0, 1, 2, 3, 4, 5, 6, 7, 8, 9, 10, 11], [1, 3]), ([12, 11, 0, 1, 2, 3, 4, 5, 6, 7, 8, 9, 10, 11], [11, 12])])
def impl_ReadBits.B18 : List Nat := [0, 1, 0, 4, 15, 31, 0, 64, 0, 256, 960, 2047, 4095, 8191]
theorem impl_ReadBits.tab18 : rtab .any (opsOf Try.f9 18) = impl_ReadBits.T18 := by kernel_rfl
theorem impl_ReadBits.bits18 : waitsOk impl_ReadBits.T18.2 impl_ReadBits.B18 = true := by kernel_rfl
theorem impl_ReadBits.iter_event {P : Program} {ops : Array Oper} {rest : List Oper} {o : Oper} {a : Act} {Q : Exit → Act → World → Prop} {W : World} (s : ByteArray) (hgd : o.guard = none) (hrun : (execOp a.eval o).run P W = .ok (.value (.pointer (some ⟨W.heap.size, 0, none⟩))) (W.iter s 0))
  (h : ∀ g, g = W.heap.size → ∀ w1, w1.heap[g]? = some (.stringIter s 0) → Below W.heap.size W w1 → wpList P ops Q rest (a.put o.dst (.pointer (some ⟨g, 0, none⟩))) w1) : wpList P ops Q (o :: rest) a W :=
 Kd.event_run hgd hrun (h _ rfl _ (blk_new W _) (below_alloc (Below.refl _ _) _))
set_option maxHeartbeats 8000000 in
set_option maxRecDepth 100000 in
theorem impl_ReadBits.calls (k : Nat) (a0 : ByteArray) (r1 : Int) (r2 : List Int) (r3 : Bool) (w : World) (h : impl_ReadBits.f k a0 = some (r1, r2, r3)) :
  Calls Try.prog 9 #[.string a0] w fun e w' => ∃ v1_ : Value, e = .returned (.tuple #[.agg #[.int .i64 r1, v1_], .bool r3]) ∧ Kd.R (Kd.int .u64) 66 w' w.heap.size (fun _ => True) v1_ r2 ∧ Below w.heap.size w w' := by
 have hu24 := Try.underlying24
 unfold impl_ReadBits.f at h
 go_enter Try.func9, Try.ntmps9
 go_upto_region 1 with (first | ((with_reducible refine gate_dst (N := 2) rfl ?_); refine be 2 #[.int .i64 0, .slice none 0 0] 24 ?_; intro g2 hg2 w1 hx2 hb2; have HS1 := St.box (St.nil w) hg2 hx2 hb2; clear hg2 hx2 hb2))
 have fin : ∀ W : World, Aside0 (St w W [Ob.B g2 (.cells #[.int .i64 0, .slice none 0 0] 24 (0, 0))]) → W.cell? ⟨g2, 0, none⟩ = some (.int .i64 0) ∧ W.cell? ⟨g2, 1, none⟩ = some (.slice none 0 0) ∧ W.frozen? ⟨g2, 0, none⟩ = false ∧ W.frozen? ⟨g2, 1, none⟩ = false := fun W H =>
  ⟨(blk_cell (St.getB H 0 rfl ⟨0, rfl⟩) 0).trans rfl, (blk_cell (St.getB H 0 rfl ⟨0, rfl⟩) 1).trans rfl, blk_frozen (St.getB H 0 rfl ⟨0, rfl⟩) 0, blk_frozen (St.getB H 0 rfl ⟨0, rfl⟩) 1⟩
 have HFIN := Aside0.mk fin; clear fin; have HH := Aside0.mk h; clear h
 go_cut [28] (fun v28 wc => ∃ (b : Bool) (each : Int), v28 = .bool b ∧ Aside0 (b = true → some (0, ([] : List Int), false) = some (r1, r2, r3)) ∧ Aside0 (b = false → (bt a0 1 = 98 ∧ each = 1 ∨ bt a0 1 = 120 ∧ each = 4) ∧ (¬ (a0.size : Int) < 3) ∧ impl_ReadBits.g k (a0.extract 2 a0.size) each = some (r1, r2, r3)) ∧ Aside0 (St w wc [Ob.B g2 (.cells #[.int .i64 0, .slice none 0 0] 24 (0, 0))]))
 case first =>
  have h := HH.out; clear HH HFIN
  by_cases c3 : (a0.size : Int) < 3
  ·rw [if_pos c3] at h
   have c3b : decide ((a0.size : Int) < 3) = true := decide_eq_true c3; have c3n : decide (a0.size < 3) = true := decide_eq_true (by omega); clear c3; have HE := Aside0.mk h; clear h
   go_wp2
   go_meet
   case rel => exact ⟨true, 0, rfl, ⟨fun _ => HE.out⟩, ⟨fun e => Bool.noConfusion e⟩, ⟨St.lift HS1⟩⟩
  ·rw [if_neg c3] at h
   have c3b : decide ((a0.size : Int) < 3) = false := decide_eq_false c3; have c3n : decide (a0.size < 3) = false := decide_eq_false (by omega)
   have p0 : 0 < a0.size := by omega
   have p1 : 1 < a0.size := by omega
   have p0i : (0 < (a0.size : Int)) = True := eq_true (by omega); have p1i : (1 < (a0.size : Int)) = True := eq_true (by omega); have hx0 : ∀ h : 0 < a0.size, ((a0[0]'h).toNat : Int) = bt a0 0 := bt_at a0 0; have hx1 : ∀ h : 1 < a0.size, ((a0[1]'h).toNat : Int) = bt a0 1 := bt_at a0 1; have HC3 := Aside0.mk c3; clear c3; replace p0 := eq_true p0; replace p1 := eq_true p1
   by_cases c35 : bt a0 0 = 35
   ·rw [if_pos c35] at h
    have c35n : (bt a0 0 != 35) = false := bne_eq_false_iff_eq.mpr c35; clear c35
    by_cases c98 : bt a0 1 = 98
    ·rw [if_pos c98] at h
     have c98n : (bt a0 1 != 98) = false := bne_eq_false_iff_eq.mpr c98; have HO := Aside0.mk c98; have H := Aside0.mk h; clear c98 h
     go_wp2
     go_meet
     case rel => exact ⟨false, 1, rfl, ⟨fun e => Bool.noConfusion e⟩, ⟨fun _ => ⟨.inl ⟨HO.out, rfl⟩, HC3.out, H.out⟩⟩, ⟨St.lift HS1⟩⟩
    ·rw [if_neg c98] at h
     have c98n : (bt a0 1 != 98) = true := bne_iff_ne.mpr c98; clear c98
     by_cases c120 : bt a0 1 = 120
     ·rw [if_pos c120] at h
      have c120n : (bt a0 1 != 120) = false := bne_eq_false_iff_eq.mpr c120; have HO := Aside0.mk c120; have H := Aside0.mk h; clear c120 h
      go_wp2
      go_meet
      case rel => exact ⟨false, 4, rfl, ⟨fun e => Bool.noConfusion e⟩, ⟨fun _ => ⟨.inr ⟨HO.out, rfl⟩, HC3.out, H.out⟩⟩, ⟨St.lift HS1⟩⟩
     ·rw [if_neg c120] at h
      have c120n : (bt a0 1 != 120) = true := bne_iff_ne.mpr c120; clear c120; have HE := Aside0.mk h; clear h
      go_wp2
      go_meet
      case rel => exact ⟨true, 0, rfl, ⟨fun _ => HE.out⟩, ⟨fun e => Bool.noConfusion e⟩, ⟨St.lift HS1⟩⟩
   ·rw [if_neg c35] at h
    have c35n : (bt a0 0 != 35) = true := bne_iff_ne.mpr c35; clear c35; have HE := Aside0.mk h; clear h
    go_wp2
    go_meet
    case rel => exact ⟨true, 0, rfl, ⟨fun _ => HE.out⟩, ⟨fun e => Bool.noConfusion e⟩, ⟨St.lift HS1⟩⟩
 case rest =>
  clear HH HS1; obtain ⟨b, each, rfl, HT, HF, HS1⟩ := hcut
  cases b with
  | true =>
   have h := HT.out rfl; clear HT HF; obtain ⟨hz0, hz1, hf0, hf1⟩ := HFIN.out _ HS1; clear HFIN; obtain ⟨e1_, e2_⟩ := Prod.mk.inj (Option.some.inj h); obtain ⟨e2_, e3_⟩ := Prod.mk.inj e2_
   subst e1_ e2_ e3_
   clear h
   go_wp2
   refine bodyPost_ret (results_ct rfl _ _ g2 24 #[.int .i64 0, .slice none 0 0] (0, 0) _ rfl (blk_put (cs := #[.int .i64 0, .slice none 0 0]) (blk_put (cs := #[.int .i64 0, .slice none 0 0]) (St.getB HS1 0 rfl) 0 _ rfl) 1 _ rfl) hu24 rfl (by kernel_rfl)) rfl ?_
   exact ⟨_, rfl, Kd.R_nil _ _ _ _ _, below_set (below_set HS1.out.below (St.lowB HS1 0 rfl)) (St.lowB HS1 0 rfl)⟩
  | false =>
  obtain ⟨hO, hC3, h⟩ := HF.out rfl; have HO := Aside0.mk hO; have HC3 := Aside0.mk hC3; have H := Aside0.mk h; clear HT HF hO hC3 h
  have p1 : 1 < a0.size := by have := HC3.out; omega
  have p1i : (1 < (a0.size : Int)) = True := eq_true (by omega); have hx1 : ∀ h : 1 < a0.size, ((a0[1]'h).toNat : Int) = bt a0 1 := bt_at a0 1; replace p1 := eq_true p1
  go_upto_if 32 with (fail)
  go_cut [4] (fun v4 wc => v4 = .int .i64 each ∧ Aside0 (St w wc [Ob.B g2 (.cells #[.int .i64 0, .slice none 0 0] 24 (0, 0))]))
  case first =>
   rcases HO.out with ⟨hb, he⟩ | ⟨hb, he⟩
   ·have c120 : (bt a0 1 == 120) = false := by rw [hb]; rfl
    subst he
    clear hb
    go_wp2
    go_meet
    case rel => exact ⟨rfl, ⟨St.lift HS1⟩⟩
   ·have c120 : (bt a0 1 == 120) = true := by rw [hb]; rfl
    subst he
    clear hb
    go_wp2
    go_meet
    case rel => exact ⟨rfl, ⟨St.lift HS1⟩⟩
  case rest =>
   clear HS1 p1 p1i hx1; obtain ⟨rfl, HS1⟩ := hcut
   have s2 : ¬ ((a0.size : Int) < 2) := by have := HC3.out; omega
   have s2n : 2 ≤ a0.size := by omega
   have s2i : ((2 : Int) ≤ (a0.size : Int)) = True := eq_true (by omega); replace s2n := eq_true s2n
   go_upto_region 7 with (fail)
   clear s2 s2n s2i; have h := H.out; clear H HC3; generalize a0.extract 2 a0.size = d at h ⊢; obtain ⟨wd, hwd⟩ : ∃ wd : Int, wrap64 (each * (d.size : Int)) = wd := ⟨_, rfl⟩; have hwdw : IntKind.i64.wrap (each * (d.size : Int)) = wd := (i64_w _).trans hwd
   unfold impl_ReadBits.g at h
   rw [hwd] at h; clear hwd
   by_cases c4 : wd > 4096
   ·rw [if_pos c4] at h
    have c4b : decide (4096 < wd) = true := decide_eq_true c4; clear c4; obtain ⟨hz0, hz1, hf0, hf1⟩ := HFIN.out _ HS1; clear HFIN; obtain ⟨e1_, e2_⟩ := Prod.mk.inj (Option.some.inj h); obtain ⟨e2_, e3_⟩ := Prod.mk.inj e2_
    subst e1_ e2_ e3_
    clear h
    go_wp2
    refine bodyPost_ret (results_ct rfl _ _ g2 24 #[.int .i64 0, .slice none 0 0] (0, 0) _ rfl (blk_put (cs := #[.int .i64 0, .slice none 0 0]) (blk_put (cs := #[.int .i64 0, .slice none 0 0]) (St.getB HS1 0 rfl) 0 _ rfl) 1 _ rfl) hu24 rfl (by kernel_rfl)) rfl ?_
    exact ⟨_, rfl, Kd.R_nil _ _ _ _ _, below_set (below_set HS1.out.below (St.lowB HS1 0 rfl)) (St.lowB HS1 0 rfl)⟩
   ·rw [if_neg c4] at h
    have c4b : decide (4096 < wd) = false := decide_eq_false c4; clear c4; obtain ⟨⟨z1, z2⟩, A1_, h⟩ := Option.bind_eq_some_iff.1 h; replace h : impl_ReadBits.l0 k each d z1 z2 0 = some (r1, r2, r3) := h; have H1 := Aside0.mk A1_; have HL := Aside0.mk h; clear A1_ h
    go_wp2_with (first | ((with_reducible refine gate_dst (N := 43) rfl ?_); refine goesL_ (some 43) rfl rfl Try.func38 (by kernel_rfl) rfl #[.int .i64 wd] rfl ma ?_; refine (impl_zeroBits.calls wd z1 z2 _ H1.out).mono ?_; rintro e w2 ⟨v2, rfl, hr2, hb2⟩; obtain ⟨ok2, A2, c2, rfl, HC2, HS2⟩ := St.callR HS1 hb2 hr2; clear hr2 hb2; refine ⟨_, rfl, ?_⟩) | ((with_reducible refine gate_dst (N := 7) rfl ?_); refine be 7 #[.int .i64 0, .slice none 0 0] 24 ?_; intro g7 hg7 w3 hx7 hb7; have HS3 := St.box HS2 hg7 hx7 hb7; clear hg7 hx7 hb7; have hc70 : w3.cell? ⟨g7, 0, none⟩ = some (.int .i64 0) := (blk_cell (St.getB HS3 0 rfl ⟨0, rfl⟩) 0).trans rfl; have hc71 : w3.cell? ⟨g7, 1, none⟩ = some (.slice none 0 0) := (blk_cell (St.getB HS3 0 rfl ⟨0, rfl⟩) 1).trans rfl; have hf70 : w3.frozen? ⟨g7, 0, none⟩ = false := blk_frozen (St.getB HS3 0 rfl ⟨0, rfl⟩) 0; have hf71 : w3.frozen? ⟨g7, 1, none⟩ = false := blk_frozen (St.getB HS3 0 rfl ⟨0, rfl⟩) 1) | ((with_reducible refine gate_store (t := 24) (p := 7) rfl ?_); refine store_event (t := 24) (p := 7) (v := ?vo) (w1 := (w3.setCell ⟨g7, 0, none⟩ (.int .i64 z1)).setCell ⟨g7, 1, none⟩ (.slice A2 z2.length c2)) ?hg ?ho ?hn ?hr ?_; (case ho => rfl); (case hg => rfl); (case hn => rfl); (case hr => first | (go_simp; done) | (go_simp; rfl)); intro w4 hw; have hlo := St.lowB HS3 0 rfl; have hkp : KeepBut w3 w4 g7 none := (by rw [hw]; repeat (first | exact KeepBut.refl _ _ _ | apply KeepBut.set_)); have hbx : w4.heap[g7]? = some (.cells #[.int .i64 z1, .slice A2 z2.length c2] 24 (0, 0)) := (by rw [hw]; refine blk_put (cs := #[.int .i64 z1, .slice none 0 0]) ?_ 1 _ rfl; refine blk_put (cs := #[.int .i64 0, .slice none 0 0]) ?_ 0 _ rfl; exact St.getB HS3 0 rfl ⟨0, rfl⟩); have hbl : Below w.heap.size w w4 := (by rw [hw]; exact below_set (below_set HS3.out.below hlo) hlo); have HS4 := St.store HS3 0 rfl hkp hbx hbl; clear hw hkp hbx hbl hlo hc70 hf70 hc71 hf71) | ((with_reducible refine gate_dst (N := 45) rfl ?_); refine impl_ReadBits.iter_event d rfl ?hr ?_; (case hr => go_simp); intro gi hgi w5 hx5 hb5; have HS5 := St.box HS4 hgi hx5 hb5; clear hgi hx5 hb5))
    (try simp only [Act.put, List.setIfInBounds_toArray, List.set_cons_zero, List.set_cons_succ])
    go_loopg [8] k (fun kq s8 wr => ∃ (ws : List Int) (p : Nat), Aside0 (kq ≤ k) ∧ Aside0 (impl_ReadBits.l0 kq each d z1 ws p = some (r1, r2, r3)) ∧ Aside0 (St w wr [Ob.B gi (.stringIter d p), Ob.B g7 (.cells #[.int .i64 z1, .slice A2 ws.length c2] 24 (0, 0)), Ob.R w (Kd.int .u64) 66 ok2 (.slice A2 ws.length c2) ws, Ob.B g2 (.cells #[.int .i64 0, .slice none 0 0] 24 (0, 0))]))
    case atStart => exact ⟨z2, 0, ⟨Nat.le_refl _⟩, HL, ⟨St.lift HS5⟩⟩
    case round =>
     clear H1 HL HS1 HS2 HS3 HS4 HS5 HC2; obtain ⟨ws, p, HK1, HX, H⟩ := hrel
     cases gk with
     | zero => exact absurd HX.out (by simp [impl_ReadBits.l0])
     | succ k1 =>
      have hX := HX.out; clear HX
      simp only [impl_ReadBits.l0] at hX
      have hk := St.getB (W' := wr) H 0 rfl ⟨0, rfl⟩
      by_cases hp : p < d.size
      ·rw [if_pos hp] at hX
       obtain ⟨p2, hp2⟩ : ∃ p2, p2 = p + (Utf8.decode d p).2 := ⟨_, rfl⟩; obtain ⟨wn, hwn⟩ : ∃ wn, wn = wr.iterAt gi d p2 := ⟨_, rfl⟩
       have hnx : ∀ ty, (Instr.next (.pointer (some ⟨gi, 0, none⟩)) true ty).run Try.prog wr = .ok (.tuple #[.bool true, .int .i64 p, .int .i32 (Utf8.decode d p).1]) wn := fun ty => by rw [hwn, hp2]; exact Lib.run_next_any_at wr gi d p ty hk hp
       have hkp : KeepBut wr wn gi none := by rw [hwn]; exact ⟨by rw [Lib.iterAt_size]; exact Nat.le_refl _, fun k_ _ hn _ => Lib.iterAt_other wr gi k_ d p2 hn⟩
       have hbx : wn.heap[gi]? = some (.stringIter d p2) := by rw [hwn]; exact Lib.iterAt_heap wr gi d p p2 hk
       have hbl : Below w.heap.size w wn := by rw [hwn]; exact Lib.below_iterAt H.out.below (St.lowB H 0 rfl) d p2
       have H2 := St.store H 0 rfl hkp hbx hbl; rw [← hp2] at hX; clear hkp hbx hbl hwn hk hp2 H; obtain ⟨q, hq⟩ : ∃ q, impl_ReadBits.pl d p = q := ⟨_, rfl⟩
       have hqw : IntKind.i64.wrap (IntKind.i64.wrap ((d.size : Int) - 1) - (p : Int)) = q := by rw [← hq, i64_w, i64_w]; rfl
       have hqw2 : wrap64 (wrap64 ((d.size : Int) - 1) - (p : Int)) = q := hq; obtain ⟨n, hn⟩ : ∃ n, impl_ReadBits.dg d p = n := ⟨_, rfl⟩
       have hn2 : Lib.indexByte impl_ReadBits.hexB.data.toList (bt d q).toNat.toUInt8 = n := by rw [← hn, ← hq]; rfl
       rw [hq, hn] at hX; have HN := Aside0.mk hn2; clear hq hn hn2
       by_cases q0 : 0 ≤ q
       ·rw [if_pos q0] at hX
        by_cases q1 : q < (d.size : Int)
        ·rw [if_pos q1] at hX
         have hx := bt_at d q; have q0b : decide (0 ≤ q) = true := decide_eq_true q0; have q1b : decide (q < (d.size : Int)) = true := decide_eq_true q1
         have q2 : q.toNat < d.size := by omega
         replace q0 := eq_true q0; replace q1 := eq_true q1; replace q2 := eq_true q2
         go_upto_region 15 with (go_at_call 39; refine (impl_ReadBits.idx impl_ReadBits.hexB (bt d q) _).mono ?_; rintro e w' ⟨he, hw⟩; rw [HN.out] at he; replace hw := hw.symm; subst hw; subst he)
         clear hx q0b q1b q0 q1 q2 hnx HN; have hO := HO.out
         have e0 : 0 ≤ each := by omega
         have e0b : decide (0 ≤ each) = true := decide_eq_true e0
         have e64 : each ≤ 64 := by omega
         obtain ⟨sh, hsh⟩ : ∃ sh : Int, shl .i64 1 each = sh := ⟨_, rfl⟩; have hsh1 : IntKind.i64.wrap (1 * 2 ^ each.toNat) = sh := shl_small hsh e64
         have hsh2 : IntKind.i64.wrap (2 ^ each.toNat) = sh := by rw [← hsh1, Int.one_mul]
         have hsh3 : wrap64 (2 ^ each.toNat) = sh := by rw [← hsh2, i64_w]
         have hmin : min each.toNat 64 = each.toNat := by omega
         rw [hsh] at hX; replace e0 := eq_true e0; clear hO e64
         by_cases n0 : n < 0
         ·rw [if_pos n0] at hX
          have n0b : decide (n < 0) = true := decide_eq_true n0; clear n0; obtain ⟨e1_, e2_⟩ := Prod.mk.inj (Option.some.inj hX); obtain ⟨e2_, e3_⟩ := Prod.mk.inj e2_
          subst e1_ e2_ e3_
          clear hX; have hz0 : wn.cell? ⟨g2, 0, none⟩ = some (.int .i64 0) := (blk_cell (St.getB H2 3 rfl ⟨0, rfl⟩) 0).trans rfl; have hz1 : wn.cell? ⟨g2, 1, none⟩ = some (.slice none 0 0) := (blk_cell (St.getB H2 3 rfl ⟨0, rfl⟩) 1).trans rfl; have hf0 : wn.frozen? ⟨g2, 0, none⟩ = false := blk_frozen (St.getB H2 3 rfl ⟨0, rfl⟩) 0; have hf1 : wn.frozen? ⟨g2, 1, none⟩ = false := blk_frozen (St.getB H2 3 rfl ⟨0, rfl⟩) 1
          go_wp2
          refine bodyPost_ret (results_ct rfl _ _ g2 24 #[.int .i64 0, .slice none 0 0] (0, 0) _ rfl (blk_put (cs := #[.int .i64 0, .slice none 0 0]) (blk_put (cs := #[.int .i64 0, .slice none 0 0]) (St.getB H2 3 rfl) 0 _ rfl) 1 _ rfl) hu24 rfl (by kernel_rfl)) rfl ?_
          exact ⟨_, rfl, Kd.R_nil _ _ _ _ _, below_set (below_set H2.out.below (St.lowB H2 3 rfl)) (St.lowB H2 3 rfl)⟩
         ·rw [if_neg n0] at hX
          have n0b : decide (n < 0) = false := decide_eq_false n0; clear n0
          by_cases n1 : n ≥ sh
          ·rw [if_pos n1] at hX
           have n1b : decide (sh ≤ n) = true := decide_eq_true n1; clear n1; obtain ⟨e1_, e2_⟩ := Prod.mk.inj (Option.some.inj hX); obtain ⟨e2_, e3_⟩ := Prod.mk.inj e2_
           subst e1_ e2_ e3_
           clear hX; have hz0 : wn.cell? ⟨g2, 0, none⟩ = some (.int .i64 0) := (blk_cell (St.getB H2 3 rfl ⟨0, rfl⟩) 0).trans rfl; have hz1 : wn.cell? ⟨g2, 1, none⟩ = some (.slice none 0 0) := (blk_cell (St.getB H2 3 rfl ⟨0, rfl⟩) 1).trans rfl; have hf0 : wn.frozen? ⟨g2, 0, none⟩ = false := blk_frozen (St.getB H2 3 rfl ⟨0, rfl⟩) 0; have hf1 : wn.frozen? ⟨g2, 1, none⟩ = false := blk_frozen (St.getB H2 3 rfl ⟨0, rfl⟩) 1
           go_wp2
           refine bodyPost_ret (results_ct rfl _ _ g2 24 #[.int .i64 0, .slice none 0 0] (0, 0) _ rfl (blk_put (cs := #[.int .i64 0, .slice none 0 0]) (blk_put (cs := #[.int .i64 0, .slice none 0 0]) (St.getB H2 3 rfl) 0 _ rfl) 1 _ rfl) hu24 rfl (by kernel_rfl)) rfl ?_
           exact ⟨_, rfl, Kd.R_nil _ _ _ _ _, below_set (below_set H2.out.below (St.lowB H2 3 rfl)) (St.lowB H2 3 rfl)⟩
          ·rw [if_neg n1] at hX
           have n1b : decide (sh ≤ n) = false := decide_eq_false n1; clear n1; obtain ⟨at_, hat⟩ : ∃ at_ : Int, wrap64 (each * (p : Int)) = at_ := ⟨_, rfl⟩; have hatw : IntKind.i64.wrap (each * (p : Int)) = at_ := (i64_w _).trans hat; rw [hat] at hX; obtain ⟨j, hj⟩ : ∃ j : Int, wrap64 (Int.tdiv at_ 64) = j := ⟨_, rfl⟩; have hjw : IntKind.i64.wrap (Int.tdiv at_ 64) = j := (i64_w _).trans hj; obtain ⟨m, hm⟩ : ∃ m : Int, Int.tmod at_ 64 = m := ⟨_, rfl⟩; obtain ⟨nu, hnu⟩ : ∃ nu : Int, IntKind.u64.wrap n = nu := ⟨_, rfl⟩; rw [hj, hm, hnu] at hX
           by_cases j0 : 0 ≤ j
           ·rw [if_pos j0] at hX
            by_cases j1 : j < (ws.length : Int)
            ·rw [if_pos j1] at hX
             by_cases m0 : 0 ≤ m
             ·rw [if_pos m0] at hX
              have hm64 : m ≤ 64 := by rw [← hm]; exact Int.le_of_lt (Int.tmod_lt_of_pos _ (by decide))
              obtain ⟨sv, hsv⟩ : ∃ sv : Int, shl .u64 nu m = sv := ⟨_, rfl⟩; have hsv1 : IntKind.u64.wrap (nu * 2 ^ m.toNat) = sv := shl_small hsv hm64; have hsv2 : IntKind.u64.wrap (nu * 2 ^ min m.toNat 64) = sv := hsv; rw [hsv] at hX; have HX := Aside0.mk hX; clear hX; have m0b : decide (0 ≤ m) = true := decide_eq_true m0; have j0b : decide (0 ≤ j) = true := decide_eq_true j0; have j1b : decide (j < (ws.length : Int)) = true := decide_eq_true j1; obtain ⟨go, cr, er, _, _, _, _⟩ := Kd.R_form (St.getR (W' := wn) H2 2 rfl ⟨0, rfl⟩) (by omega)
              have eA : A2 = some ⟨go, 0, none⟩ := by injection er
              subst eA
              clear er hsh hm64
              go_wp2
              have H3 : Aside0 (St w wn.drew _) := ⟨H2.out.step (below_drew (Below.refl _ _))⟩; clear H2; have hx1 : wn.drew.cell? ⟨g7, 1, none⟩ = some (.slice (some ⟨go, 0, none⟩) ws.length c2) := (blk_cell (St.getB H3 1 rfl ⟨0, rfl⟩) 1).trans rfl; obtain ⟨hx2, hfx⟩ := Kd.R_celln 0 (St.getR (W' := wn.drew) H3 2 rfl ⟨0, rfl⟩) j j0 j1; replace hx2 : wn.drew.cell? ⟨go, j.toNat, none⟩ = some (.int .u64 (rd ws j)) := hx2; have HRP := Aside0.mk (Kd.R_putn (St.getR (W' := wn.drew) H3 2 rfl ⟨0, rfl⟩) j (Go.bits .or .u64 (rd ws j) sv)); have HOK := Aside0.mk ((St.getR (W' := wn.drew) H3 2 rfl ⟨0, rfl⟩).1 go rfl); replace m0 := eq_true m0; replace j0 := eq_true j0; replace j1 := eq_true j1; refine start_ (n := 14) (S := (fun w' => w'.cell? ⟨g7, 1, none⟩ = some (.slice (some ⟨go, 0, none⟩) ws.length c2) ∧ w'.cell? ⟨go, j.toNat, none⟩ = some (.int .u64 (rd ws j)))) (ds := [13]) (tf 0 14) (by kernel_rfl) rfl rfl ⟨hx1, hx2⟩ (fun hHeld => ?_); refine with_tabW impl_ReadBits.tab18 impl_ReadBits.bits18 (fun HT_ HW_ => ?_); generalize wn.drew = wa at H3 hx1 hx2 hfx HRP hHeld ⊢; refine pu HT_ 0 69 13 ?_; refine ta HT_ HW_ hHeld 1 70 12 ?_; refine pu HT_ 2 71 11 ?_; refine pu HT_ 3 72 10 ?_; refine pu HT_ 4 73 9 ?_; refine ta HT_ HW_ hHeld 5 74 8 ?_; refine pu HT_ 6 75 7 ?_; refine pu HT_ 7 76 6 ?_; refine pu HT_ 8 77 5 ?_; refine pu HT_ 9 78 4 ?_; refine pu HT_ 10 79 3 ?_; refine pu HT_ 11 80 2 ?_; refine pu HT_ 12 81 1 ?_; refine last_ (i := 13) (N := none) (tf 14 0) rfl rfl (one_of HT_.out (by kernel_rfl)) (by decide) (fun K hK => ?_); refine skip_ (w1 := wa.setCell ⟨go, j.toNat, none⟩ (.int .u64 (Go.bits .or .u64 (rd ws j) sv))) (by rfl) rfl ?_ ?_
              ·first | (go_simp; done) | (go_simp; rfl)
              refine hK.out _ _ ?_; clear hK K; refine done_ (done_of HT_.out (by kernel_rfl)) ?_; have hgo := (H3.out.each _ (nth_mem (i := 2) rfl)).1 go HOK.out; have H4 : Aside0 (St w (wa.setCell ⟨go, j.toNat, none⟩ (.int .u64 (Go.bits .or .u64 (rd ws j) sv))) _) := ⟨St.turn (o' := Ob.R w (Kd.int .u64) 66 ok2 (.slice (some ⟨go, 0, none⟩) ws.length c2) (ws.set j.toNat (Go.bits .or .u64 (rd ws j) sv))) H3.out 2 rfl (below_set H3.out.below hgo.1) (by rw [World.size_setCell]; exact Nat.le_refl _) (fun k_ _ hn => Below.heap_setCell wa ⟨go, j.toNat, none⟩ _ k_ (fun e_ => hn (by rw [e_]; exact HOK.out))) (fun k_ hk_ => .inl hk_) (Ob.R_foot _ _ _ _ _ _) HRP.out⟩
              clear hHeld HT_ HW_ hx1 hx2 hfx H3 HRP hgo; generalize wa.setCell ⟨go, j.toNat, none⟩ (.int .u64 (Go.bits .or .u64 (rd ws j) sv)) = wb at H4 ⊢
              go_wp2
              go_roundg k1
              case measure => omega
              case rel => exact ⟨ws.set j.toNat (Go.bits .or .u64 (rd ws j) sv), p2, ⟨by have := HK1.out; omega⟩, HX, ⟨by rw [List.length_set]; exact St.lift H4⟩⟩
             ·rw [if_neg m0] at hX; cases hX
            ·rw [if_neg j1] at hX; cases hX
           ·rw [if_neg j0] at hX; cases hX
        ·rw [if_neg q1] at hX; cases hX
       ·rw [if_neg q0] at hX; cases hX
      ·rw [if_neg hp] at hX
       obtain ⟨e1_, e2_⟩ := Prod.mk.inj (Option.some.inj hX); obtain ⟨e2_, e3_⟩ := Prod.mk.inj e2_
       subst e1_ e2_ e3_
       clear hX
       have hnx : ∀ ty, (Instr.next (.pointer (some ⟨gi, 0, none⟩)) true ty).run Try.prog wr = .ok (.tuple #[.bool false]) wr := fun ty => Lib.run_next_end_at wr gi d p ty hk hp
       clear hk hp; have hz0 : wr.cell? ⟨g2, 0, none⟩ = some (.int .i64 0) := (blk_cell (St.getB H 3 rfl ⟨0, rfl⟩) 0).trans rfl; have hz1 : wr.cell? ⟨g2, 1, none⟩ = some (.slice none 0 0) := (blk_cell (St.getB H 3 rfl ⟨0, rfl⟩) 1).trans rfl; have hf0 : wr.frozen? ⟨g2, 0, none⟩ = false := blk_frozen (St.getB H 3 rfl ⟨0, rfl⟩) 0; have hf1 : wr.frozen? ⟨g2, 1, none⟩ = false := blk_frozen (St.getB H 3 rfl ⟨0, rfl⟩) 1; have hy0 : wr.cell? ⟨g7, 0, none⟩ = some (.int .i64 z1) := (blk_cell (St.getB H 1 rfl ⟨0, rfl⟩) 0).trans rfl; have hy1 : wr.cell? ⟨g7, 1, none⟩ = some (.slice A2 ws.length c2) := (blk_cell (St.getB H 1 rfl ⟨0, rfl⟩) 1).trans rfl
       go_wp2
       have hap : ∀ q, ok2 q → q ≠ g2 := fun q hq he => nth_apart H.out.apart (i := 2) (j := 3) rfl rfl (by decide) q hq he
       refine bodyPost_ret (results_ct rfl _ _ g2 24 #[.int .i64 z1, .slice A2 ws.length c2] (0, 0) _ rfl (blk_put (cs := #[.int .i64 z1, .slice none 0 0]) (blk_put (cs := #[.int .i64 0, .slice none 0 0]) (St.getB H 3 rfl) 0 _ rfl) 1 _ rfl) hu24 rfl (by kernel_rfl)) rfl ?_
       exact ⟨_, rfl, Kd.R_mono (Kd.R_far (p := ⟨g2, 1, none⟩) (Kd.R_far (p := ⟨g2, 0, none⟩) (St.getR H 2 rfl) hap _) hap _) (fun _ _ => trivial), below_set (below_set H.out.below (St.lowB H 3 rfl)) (St.lowB H 3 rfl)⟩

/-! ### laws_eqUint64S: function 40 -/
def laws_eqUint64S.l0 : Nat → List Int → List Int → Int → Option (Bool)
 | 0, _, _, _ => none
 | k + 1, x0, x1, x5 => if x5 < (x0.length : Int) then (if 0 ≤ x5 then (if x5 < (x1.length : Int) then (if (rd x0 x5) = (rd x1 x5) then (laws_eqUint64S.l0 k x0 x1 (wrap64 (x5 + 1))) else (some false)) else (none)) else (none)) else (some true)
def laws_eqUint64S.f (k : Nat) (l0 : List Int) (l1 : List Int) : Option (Bool) := if (l0.length : Int) = (l1.length : Int) then (laws_eqUint64S.l0 k l0 l1 0) else (some false)
set_option maxHeartbeats 8000000 in
set_option maxRecDepth 100000 in
theorem laws_eqUint64S.calls (k : Nat) (A0 : Option Addr) (c0 : Nat) (l0 : List Int) (A1 : Option Addr) (c1 : Nat) (l1 : List Int) (r : Bool) (w : World) (hr0 : Kd.C (Kd.int .u64) w A0 l0.length l0) (hc0 : l0.length ≤ c0) (hr1 : Kd.C (Kd.int .u64) w A1 l1.length l1) (hc1 : l1.length ≤ c1) (h : laws_eqUint64S.f k l0 l1 = some r) :
  Calls Try.prog 40 #[.slice A0 l0.length c0, .slice A1 l1.length c1] w fun e w' => e = .returned (.bool r) ∧ Drawn0 w w' := by
 have HR0 := Aside0.mk hr0; have HC0 := Aside0.mk hc0; clear hr0 hc0; have HR1 := Aside0.mk hr1; have HC1 := Aside0.mk hc1; clear hr1 hc1; have H : (if (l0.length : Int) = (l1.length : Int) then (laws_eqUint64S.l0 k l0 l1 0) else (some false)) = some r := h; clear h
 by_cases c3 : (l0.length : Int) = (l1.length : Int)
 ·rw [if_pos c3] at H
  have c3b0 : ((l0.length : Int) == (l1.length : Int)) = true := beq_iff_eq.mpr c3; have c3b1 : ((l0.length : Int) != (l1.length : Int)) = false := bne_eq_false_iff_eq.mpr c3
  have c3b2 : (l0.length == l1.length) = true := by first | simpa using c3 | (simp at c3 ⊢; omega)
  clear c3; have H' := Aside0.mk H; clear H
  go_enter Try.func40, Try.ntmps40
  go_wp2
  repeat (go_quiet (fail); try go_wp2)
  go_loopg [5] k (fun kq v5 w' => ∃ (x5_1 : Int), v5 = .int .i64 x5_1 ∧ Aside0 (laws_eqUint64S.l0 kq l0 l1 x5_1 = some r) ∧ Aside0 (kq ≤ k) ∧ Drawn0 w w')
  case atStart => exact ⟨(0), au, H', ⟨Nat.le_refl _⟩, dr⟩
  case round =>
   clear H'
   try clear c1
   try clear p2
   try clear c3
   try clear c3b0
   try clear c3b1
   try clear c3b2
   obtain ⟨x5_1, rfl, HA, HK1, ⟨m1, rfl⟩⟩ := hrel
   cases gk with
   | zero => exact absurd HA.out (by simp [laws_eqUint64S.l0])
   | succ k1 =>
    have H := HA.out; clear HA
    simp only [laws_eqUint64S.l0] at H
    by_cases c4 : x5_1 < (l0.length : Int)
    ·rw [if_pos c4] at H
     have c4b0 : decide (x5_1 < (l0.length : Int)) = true := decide_eq_true c4; clear c4
     by_cases c5 : 0 ≤ x5_1
     ·rw [if_pos c5] at H
      have c5b0 : decide (0 ≤ x5_1) = true := decide_eq_true c5; clear c5
      by_cases c6 : x5_1 < (l1.length : Int)
      ·rw [if_pos c6] at H
       have c6b0 : decide (x5_1 < (l1.length : Int)) = true := decide_eq_true c6; clear c6
       by_cases c7 : (rd l0 x5_1) = (rd l1 x5_1)
       ·rw [if_pos c7] at H
        have c7b0 : ((rd l0 x5_1) == (rd l1 x5_1)) = true := beq_iff_eq.mpr c7; have c7b1 : ((rd l0 x5_1) != (rd l1 x5_1)) = false := bne_eq_false_iff_eq.mpr c7; clear c7; have H' := Aside0.mk H; clear H; have p141 : 0 ≤ (x5_1 : Int) := ode; have q141 : x5_1 < (l0.length : Int) := ode; obtain ⟨ad141, e141, hx141_0⟩ := Kd.at_int HR0.out x5_1 p141 q141
        cases e141
        replace p141 := eq_true p141; replace q141 := eq_true q141; have p142 : 0 ≤ (x5_1 : Int) := ode; have q142 : x5_1 < (l1.length : Int) := ode; obtain ⟨ad142, e142, hx142_0⟩ := Kd.at_int HR1.out x5_1 p142 q142
        cases e142
        replace p142 := eq_true p142; replace q142 := eq_true q142
        go_wp2
        repeat (go_quiet (fail); try go_wp2)
        go_roundg k1
        case measure => have := HK1.out; omega
        case rel => exact ⟨(wrap64 (x5_1 + 1)), au, H', ⟨by have := HK1.out; omega⟩, dr⟩
       ·rw [if_neg c7] at H
        have c7b0 : ((rd l0 x5_1) == (rd l1 x5_1)) = false := beq_eq_false_iff_ne.mpr c7; have c7b1 : ((rd l0 x5_1) != (rd l1 x5_1)) = true := bne_iff_ne.mpr c7; obtain rfl := Option.some.inj H; have p141 : 0 ≤ (x5_1 : Int) := ode; have q141 : x5_1 < (l0.length : Int) := ode; obtain ⟨ad141, e141, hx141_0⟩ := Kd.at_int HR0.out x5_1 p141 q141
        cases e141
        replace p141 := eq_true p141; replace q141 := eq_true q141; have p142 : 0 ≤ (x5_1 : Int) := ode; have q142 : x5_1 < (l1.length : Int) := ode; obtain ⟨ad142, e142, hx142_0⟩ := Kd.at_int HR1.out x5_1 p142 q142
        cases e142
        replace p142 := eq_true p142; replace q142 := eq_true q142
        go_wp2
        repeat (go_quiet (fail); try go_wp2)
        go_ret
        exact ⟨au, dr⟩
      ·rw [if_neg c6] at H
       exact absurd H (by simp)
     ·rw [if_neg c5] at H
      exact absurd H (by simp)
    ·rw [if_neg c4] at H
     have c4b0 : decide (x5_1 < (l0.length : Int)) = false := decide_eq_false c4; clear c4; obtain rfl := Option.some.inj H
     go_wp2
     repeat (go_quiet (fail); try go_wp2)
     go_ret
     exact ⟨au, dr⟩
 ·rw [if_neg c3] at H
  have c3b0 : ((l0.length : Int) == (l1.length : Int)) = false := beq_eq_false_iff_ne.mpr c3; have c3b1 : ((l0.length : Int) != (l1.length : Int)) = true := bne_iff_ne.mpr c3
  have c3b2 : (l0.length == l1.length) = false := by first | simpa using c3 | (simp at c3 ⊢; omega)
  obtain rfl := Option.some.inj H
  go_enter Try.func40, Try.ntmps40
  go_wp2
  repeat (go_quiet (fail); try go_wp2)
  go_ret
  exact ⟨au, dr⟩

/-! ### laws_eqBits: function 10 -/
def laws_eqBits.f (k : Nat) (a0_0 : Int) (l0_1 : List Int) (a1_0 : Int) (l1_1 : List Int) : Option (Bool) := if a0_0 = a1_0 then ((laws_eqUint64S.f k l0_1 l1_1).bind fun t145 => (if t145 = true then (some true) else (some false))) else (some false)
set_option maxHeartbeats 8000000 in
set_option maxRecDepth 100000 in
theorem laws_eqBits.calls (k : Nat) (a0_0 : Int) (A0_1 : Option Addr) (c0_1 : Nat) (l0_1 : List Int) (a1_0 : Int) (A1_1 : Option Addr) (c1_1 : Nat) (l1_1 : List Int) (r : Bool) (w : World) (hr0_1 : Kd.C (Kd.int .u64) w A0_1 l0_1.length l0_1) (hc0_1 : l0_1.length ≤ c0_1) (hr1_1 : Kd.C (Kd.int .u64) w A1_1 l1_1.length l1_1) (hc1_1 : l1_1.length ≤ c1_1) (h : laws_eqBits.f k a0_0 l0_1 a1_0 l1_1 = some r) :
  Calls Try.prog 10 #[.agg #[.int .i64 a0_0, .slice A0_1 l0_1.length c0_1], .agg #[.int .i64 a1_0, .slice A1_1 l1_1.length c1_1]] w fun e w' => e = .returned (.bool r) ∧ Below w.heap.size w w' := by
 have hu24 := Try.underlying24; have HR0_1 := Aside0.mk hr0_1; have HC0_1 := Aside0.mk hc0_1; clear hr0_1 hc0_1; have HR1_1 := Aside0.mk hr1_1; have HC1_1 := Aside0.mk hc1_1; clear hr1_1 hc1_1; have HB := Aside0.mk (Below.refl w.heap.size w); have H : (if a0_0 = a1_0 then ((laws_eqUint64S.f k l0_1 l1_1).bind fun t145 => (if t145 = true then (some true) else (some false))) else (some false)) = some r := h; clear h
 by_cases c3 : a0_0 = a1_0
 ·rw [if_pos c3] at H
  have c3b0 : (a0_0 == a1_0) = true := beq_iff_eq.mpr c3; have c3b1 : (a0_0 != a1_0) = false := bne_eq_false_iff_eq.mpr c3; clear c3; replace H := Option.bind_eq_some_iff.mp H; obtain ⟨t145, A40, H⟩ := H; replace H : (if t145 = true then (some true) else (some false)) = some r := H; have A4 := Aside0.mk A40; clear A40
  by_cases c5 : t145 = true
  ·subst c5
   have H1 : (some true) = some r := by rw [if_pos rfl] at H; exact H
   clear H; have H := H1; clear H1; obtain rfl := Option.some.inj H
   go_enter Try.func10, Try.ntmps10
   go_wp2_with (first | ((with_reducible refine gate_dst (N := 2) rfl ?_); refine be 2 #[.int .i64 a0_0, .slice A0_1 l0_1.length c0_1] 24 ?_; intro gb143 hg w6 hbox hb; have n0_ := Aside0.mk (below_step (bl HB) hb); have n1_ := Aside0.mk (hbox); have n2_ := Aside0.mk (gs HB hg); have n3_ := Aside0.mk (gs HB hg); clear HB; have HB := n0_; have BK143 := n1_; have GW143 := n2_; have GE143 := n3_; clear n0_ n1_ n2_ n3_; clear hb hbox hg) | ((with_reducible refine gate_dst (N := 3) rfl ?_); refine be 3 #[.int .i64 a1_0, .slice A1_1 l1_1.length c1_1] 24 ?_; intro gb144 hg w7 hbox hb; have n0_ := Aside0.mk (blk_below (g := gb143) (o := .cells #[.int .i64 a0_0, .slice A0_1 l0_1.length c0_1] 24 (0, 0)) (bk BK143) hb); have n1_ := Aside0.mk (below_step (bs HB GE143) hb); have n2_ := Aside0.mk (hbox); have n3_ := Aside0.mk ((by rw [hg]; exact (below_size (bs HB GE143)) : w.heap.size ≤ gb144)); have n4_ := Aside0.mk ((by rw [hg]; exact (below_size (bs HB GE143)) : w.heap.size ≤ gb144)); have n5_ := Aside0.mk ((by rw [hg]; exact Nat.ne_of_lt (blk_lt (g := gb143) (o := .cells #[.int .i64 a0_0, .slice A0_1 l0_1.length c0_1] 24 (0, 0)) (bk BK143)) : gb143 ≠ gb144)); have n6_ := Aside0.mk ((by rw [hg]; exact Nat.ne_of_gt (blk_lt (g := gb143) (o := .cells #[.int .i64 a0_0, .slice A0_1 l0_1.length c0_1] 24 (0, 0)) (bk BK143)) : gb144 ≠ gb143)); clear BK143; clear HB; have BK143 := n0_; have HB := n1_; have BK144 := n2_; have GW144 := n3_; have GE144 := n4_; have NB143_144 := n5_; have NB144_143 := n6_; clear n0_ n1_ n2_ n3_ n4_ n5_ n6_; clear hb hbox hg; have hnb8 := NB143_144.out; have hnc8 := NB144_143.out; have hcz9_0 : w7.cell? ⟨gb143, 0, none⟩ = some (.int .i64 a0_0) := (blk_cell BK143.out 0).trans rfl; have hcz9_1 : w7.cell? ⟨gb143, 1, none⟩ = some (.slice A0_1 l0_1.length c0_1) := (blk_cell BK143.out 1).trans rfl; have hfz9_0 := blk_frozen BK143.out 0; have hfz9_1 := blk_frozen BK143.out 1; have hcz10_0 : w7.cell? ⟨gb144, 0, none⟩ = some (.int .i64 a1_0) := (blk_cell BK144.out 0).trans rfl; have hcz10_1 : w7.cell? ⟨gb144, 1, none⟩ = some (.slice A1_1 l1_1.length c1_1) := (blk_cell BK144.out 1).trans rfl; have hfz10_0 := blk_frozen BK144.out 0; have hfz10_1 := blk_frozen BK144.out 1) | ((with_reducible refine gate_callee (f := 40) rfl ?_); refine goesL_ (some 14) rfl rfl Try.func40 (by kernel_rfl) rfl #[.slice A0_1 l0_1.length c0_1, .slice A1_1 l1_1.length c1_1] rfl ma ?_; (with_reducible refine (laws_eqUint64S.calls k _ _ l0_1 _ _ l1_1 true _ ?side1 ?side2 ?side3 ?side4 A4.out).mono ?_); (case side1 => exact rc HR0_1 HB); (case side2 => exact HC0_1.out); (case side3 => exact rc HR1_1 HB); (case side4 => exact HC1_1.out); rintro e w' ⟨rfl, ⟨nd, rfl⟩⟩; refine ⟨_, rfl, ?_⟩))
   go_ret
   exact ⟨by first | rfl | (simp [errW_none, errW_some] <;> rfl) | (simp [*, errW_none, errW_some] <;> rfl), bs2 HB GE143 GE144⟩
  ·replace c5 := Bool.eq_false_iff.mpr c5
   subst c5
   have H1 : (some false) = some r := by rw [if_neg (show ¬ (false = true) by decide)] at H; exact H
   clear H; have H := H1; clear H1; obtain rfl := Option.some.inj H
   go_enter Try.func10, Try.ntmps10
   go_wp2_with (first | ((with_reducible refine gate_dst (N := 2) rfl ?_); refine be 2 #[.int .i64 a0_0, .slice A0_1 l0_1.length c0_1] 24 ?_; intro gb143 hg w11 hbox hb; have n0_ := Aside0.mk (below_step (bl HB) hb); have n1_ := Aside0.mk (hbox); have n2_ := Aside0.mk (gs HB hg); have n3_ := Aside0.mk (gs HB hg); clear HB; have HB := n0_; have BK143 := n1_; have GW143 := n2_; have GE143 := n3_; clear n0_ n1_ n2_ n3_; clear hb hbox hg) | ((with_reducible refine gate_dst (N := 3) rfl ?_); refine be 3 #[.int .i64 a1_0, .slice A1_1 l1_1.length c1_1] 24 ?_; intro gb144 hg w12 hbox hb; have n0_ := Aside0.mk (blk_below (g := gb143) (o := .cells #[.int .i64 a0_0, .slice A0_1 l0_1.length c0_1] 24 (0, 0)) (bk BK143) hb); have n1_ := Aside0.mk (below_step (bs HB GE143) hb); have n2_ := Aside0.mk (hbox); have n3_ := Aside0.mk ((by rw [hg]; exact (below_size (bs HB GE143)) : w.heap.size ≤ gb144)); have n4_ := Aside0.mk ((by rw [hg]; exact (below_size (bs HB GE143)) : w.heap.size ≤ gb144)); have n5_ := Aside0.mk ((by rw [hg]; exact Nat.ne_of_lt (blk_lt (g := gb143) (o := .cells #[.int .i64 a0_0, .slice A0_1 l0_1.length c0_1] 24 (0, 0)) (bk BK143)) : gb143 ≠ gb144)); have n6_ := Aside0.mk ((by rw [hg]; exact Nat.ne_of_gt (blk_lt (g := gb143) (o := .cells #[.int .i64 a0_0, .slice A0_1 l0_1.length c0_1] 24 (0, 0)) (bk BK143)) : gb144 ≠ gb143)); clear BK143; clear HB; have BK143 := n0_; have HB := n1_; have BK144 := n2_; have GW144 := n3_; have GE144 := n4_; have NB143_144 := n5_; have NB144_143 := n6_; clear n0_ n1_ n2_ n3_ n4_ n5_ n6_; clear hb hbox hg; have hnb13 := NB143_144.out; have hnc13 := NB144_143.out; have hcz14_0 : w12.cell? ⟨gb143, 0, none⟩ = some (.int .i64 a0_0) := (blk_cell BK143.out 0).trans rfl; have hcz14_1 : w12.cell? ⟨gb143, 1, none⟩ = some (.slice A0_1 l0_1.length c0_1) := (blk_cell BK143.out 1).trans rfl; have hfz14_0 := blk_frozen BK143.out 0; have hfz14_1 := blk_frozen BK143.out 1; have hcz15_0 : w12.cell? ⟨gb144, 0, none⟩ = some (.int .i64 a1_0) := (blk_cell BK144.out 0).trans rfl; have hcz15_1 : w12.cell? ⟨gb144, 1, none⟩ = some (.slice A1_1 l1_1.length c1_1) := (blk_cell BK144.out 1).trans rfl; have hfz15_0 := blk_frozen BK144.out 0; have hfz15_1 := blk_frozen BK144.out 1) | ((with_reducible refine gate_callee (f := 40) rfl ?_); refine goesL_ (some 14) rfl rfl Try.func40 (by kernel_rfl) rfl #[.slice A0_1 l0_1.length c0_1, .slice A1_1 l1_1.length c1_1] rfl ma ?_; (with_reducible refine (laws_eqUint64S.calls k _ _ l0_1 _ _ l1_1 false _ ?side1 ?side2 ?side3 ?side4 A4.out).mono ?_); (case side1 => exact rc HR0_1 HB); (case side2 => exact HC0_1.out); (case side3 => exact rc HR1_1 HB); (case side4 => exact HC1_1.out); rintro e w' ⟨rfl, ⟨nd, rfl⟩⟩; refine ⟨_, rfl, ?_⟩))
   go_ret
   exact ⟨by first | rfl | (simp [errW_none, errW_some] <;> rfl) | (simp [*, errW_none, errW_some] <;> rfl), bs2 HB GE143 GE144⟩
 ·rw [if_neg c3] at H
  have c3b0 : (a0_0 == a1_0) = false := beq_eq_false_iff_ne.mpr c3; have c3b1 : (a0_0 != a1_0) = true := bne_iff_ne.mpr c3; obtain rfl := Option.some.inj H
  go_enter Try.func10, Try.ntmps10
  go_wp2_with (first | ((with_reducible refine gate_dst (N := 2) rfl ?_); refine be 2 #[.int .i64 a0_0, .slice A0_1 l0_1.length c0_1] 24 ?_; intro gb143 hg w16 hbox hb; have n0_ := Aside0.mk (below_step (bl HB) hb); have n1_ := Aside0.mk (hbox); have n2_ := Aside0.mk (gs HB hg); have n3_ := Aside0.mk (gs HB hg); clear HB; have HB := n0_; have BK143 := n1_; have GW143 := n2_; have GE143 := n3_; clear n0_ n1_ n2_ n3_; clear hb hbox hg) | ((with_reducible refine gate_dst (N := 3) rfl ?_); refine be 3 #[.int .i64 a1_0, .slice A1_1 l1_1.length c1_1] 24 ?_; intro gb144 hg w17 hbox hb; have n0_ := Aside0.mk (blk_below (g := gb143) (o := .cells #[.int .i64 a0_0, .slice A0_1 l0_1.length c0_1] 24 (0, 0)) (bk BK143) hb); have n1_ := Aside0.mk (below_step (bs HB GE143) hb); have n2_ := Aside0.mk (hbox); have n3_ := Aside0.mk ((by rw [hg]; exact (below_size (bs HB GE143)) : w.heap.size ≤ gb144)); have n4_ := Aside0.mk ((by rw [hg]; exact (below_size (bs HB GE143)) : w.heap.size ≤ gb144)); have n5_ := Aside0.mk ((by rw [hg]; exact Nat.ne_of_lt (blk_lt (g := gb143) (o := .cells #[.int .i64 a0_0, .slice A0_1 l0_1.length c0_1] 24 (0, 0)) (bk BK143)) : gb143 ≠ gb144)); have n6_ := Aside0.mk ((by rw [hg]; exact Nat.ne_of_gt (blk_lt (g := gb143) (o := .cells #[.int .i64 a0_0, .slice A0_1 l0_1.length c0_1] 24 (0, 0)) (bk BK143)) : gb144 ≠ gb143)); clear BK143; clear HB; have BK143 := n0_; have HB := n1_; have BK144 := n2_; have GW144 := n3_; have GE144 := n4_; have NB143_144 := n5_; have NB144_143 := n6_; clear n0_ n1_ n2_ n3_ n4_ n5_ n6_; clear hb hbox hg; have hnb18 := NB143_144.out; have hnc18 := NB144_143.out; have hcz19_0 : w17.cell? ⟨gb143, 0, none⟩ = some (.int .i64 a0_0) := (blk_cell BK143.out 0).trans rfl; have hcz19_1 : w17.cell? ⟨gb143, 1, none⟩ = some (.slice A0_1 l0_1.length c0_1) := (blk_cell BK143.out 1).trans rfl; have hfz19_0 := blk_frozen BK143.out 0; have hfz19_1 := blk_frozen BK143.out 1; have hcz20_0 : w17.cell? ⟨gb144, 0, none⟩ = some (.int .i64 a1_0) := (blk_cell BK144.out 0).trans rfl; have hcz20_1 : w17.cell? ⟨gb144, 1, none⟩ = some (.slice A1_1 l1_1.length c1_1) := (blk_cell BK144.out 1).trans rfl; have hfz20_0 := blk_frozen BK144.out 0; have hfz20_1 := blk_frozen BK144.out 1))
  go_ret
  exact ⟨by first | rfl | (simp [errW_none, errW_some] <;> rfl) | (simp [*, errW_none, errW_some] <;> rfl), bs2 HB GE143 GE144⟩

/-! ### laws_markUint64S: function 41 -/
def laws_markUint64S.l0 : Nat → List Int → Int → Int → Option (Int × List Int)
 | 0, _, _, _ => none
 | k + 1, x0, x1, x5 => if x5 < (x0.length : Int) then (if 0 ≤ x5 then (laws_markUint64S.l0 k (x0.set (x5 : Int).toNat (IntKind.u64.wrap (x1))) (wrap64 (x1 + 1)) (wrap64 (x5 + 1))) else (none)) else (some (x1, x0))
def laws_markUint64S.f (k : Nat) (l0 : List Int) (a1 : Int) : Option (Int × List Int) := laws_markUint64S.l0 k l0 a1 0
set_option maxHeartbeats 8000000 in
set_option maxRecDepth 100000 in
theorem laws_markUint64S.calls (k : Nat) (P0_ : Nat → Prop) (u9000_ : Value) (l0 : List Int) (a1 : Int) (r1 : Int) (r2 : List Int) (w0 w : World) (hB : Below w0.heap.size w0 w) (ho0 : Kd.R (Kd.int .u64) 66 w w0.heap.size P0_ u9000_ l0) (h : laws_markUint64S.f k l0 a1 = some (r1, r2)) :
  Calls Try.prog 41 #[u9000_, .int .i64 a1] w fun e w' => e = .returned (.int .i64 r1) ∧ Kd.R (Kd.int .u64) 66 w' w0.heap.size (fun k_ => (P0_ k_ ∨ w.heap.size ≤ k_)) u9000_ r2 ∧ Below w0.heap.size w0 w' ∧ Kept w w' (fun k_ => P0_ k_) := by
 have HO0 := Aside0.mk (show Kd.R (Kd.int .u64) 66 w w0.heap.size (fun k_ => (P0_ k_ ∨ w.heap.size ≤ k_)) u9000_ l0 from Kd.R_mono ho0 (fun k_ hk => (.inl hk))); have HK := Aside0.mk (Kept.refl w (fun k_ => P0_ k_)); have HW0 := Aside0.mk hB.size; have HB := Aside0.mk hB; clear hB; have H : (laws_markUint64S.l0 k l0 a1 0) = some (r1, r2) := h; clear h; have H' := Aside0.mk H; clear H
 go_enter Try.func41, Try.ntmps41
 go_wp2
 go_loopg [1, 5] k (fun kq v1 v5 w' => ∃ (x0_1 : List Int) (x1_1 : Int) (x5_1 : Int), v1 = .int .i64 x1_1 ∧ v5 = .int .i64 x5_1 ∧ Aside0 (laws_markUint64S.l0 kq x0_1 x1_1 x5_1 = some (r1, r2)) ∧ Aside0 (kq ≤ k) ∧ Aside0 (Kd.R (Kd.int .u64) 66 w' w0.heap.size (fun k_ => (P0_ k_ ∨ w.heap.size ≤ k_)) u9000_ x0_1) ∧ Aside0 (Kept w w' (fun k_ => P0_ k_)) ∧ Aside0 (Below w0.heap.size w0 w'))
 case atStart => exact ⟨(l0), (a1), (0), au, au, H', ⟨Nat.le_refl _⟩, ⟨rl HO0⟩, ⟨by repeat (first | (with_reducible first | exact HK.out | apply Kept.alloc | apply Kept.drewN | apply Kept.drew) | exact HK.out)⟩, ⟨bl HB⟩⟩
 case round =>
  clear H'
  try clear p2
  obtain ⟨x0_1, x1_1, x5_1, rfl, rfl, HA, HK1, HO_0, HK, HB⟩ := hrel
  cases gk with
  | zero => exact absurd HA.out (by simp [laws_markUint64S.l0])
  | succ k1 =>
   have H := HA.out; clear HA
   simp only [laws_markUint64S.l0] at H
   by_cases c3 : x5_1 < (x0_1.length : Int)
   ·rw [if_pos c3] at H
    have c3b0 : decide (x5_1 < (x0_1.length : Int)) = true := decide_eq_true c3; clear c3
    by_cases c4 : 0 ≤ x5_1
    ·rw [if_pos c4] at H
     have c4b0 : decide (0 ≤ x5_1) = true := decide_eq_true c4; clear c4; obtain ⟨y146, hy146⟩ : ∃ y_ : List Int, y_ = (x0_1.set (x5_1 : Int).toNat (IntKind.u64.wrap (x1_1))) := ⟨_, rfl⟩
     replace H : (laws_markUint64S.l0 k1 y146 (wrap64 (x1_1 + 1)) (wrap64 (x5_1 + 1))) = some (r1, r2) := by first | (rw [hy146]; with_reducible exact H) | (have H2_ := (Option.bind_some _ _).symm.trans H; rw [hy146]; with_reducible exact H2_) | (have H2_ := (Option.bind_some _ _).symm.trans H; with_reducible exact H2_) | with_reducible exact H | (rw [hy146]; exact H) | exact H
     have Ny146 := Aside0.mk hy146; clear hy146; have H' := Aside0.mk H; clear H; obtain ⟨Ao6, co6, eo6⟩ := Kd.R_slice HO_0.out
     subst eo6
     have p5 : 0 ≤ (x5_1 : Int) := ode; have q5 : (x5_1 : Int) < ((x0_1.length : Int) : Int) := ode; obtain ⟨go5, co5, eo5, gb5, gl5, cl5, HG5⟩ := Kd.R_form HO_0.out (by omega)
     (first | cases eo5 | (injection eo5 with ea_ en_ ec_; (first | subst ea_ | (injection ea_ with ea_; subst ea_)); subst ec_; clear en_))
     have GB5 := Aside0.mk gb5; have GG5 := Aside0.mk HG5; clear gb5 gl5 HG5; have HMgo5 := Aside0.mk (show (P0_ go5 ∨ w.heap.size ≤ go5) from (HO_0.out.1 _ rfl)); obtain ⟨hx5_0, hf5_0⟩ := Kd.R_celln 0 HO_0.out (x5_1 : Int) p5 q5; replace p5 := eq_true p5; replace q5 := eq_true q5; have HP7 := Kd.R_putg HO_0.out (x5_1 : Int) (IntKind.u64.wrap (x1_1))
     go_wp2_with (first | ((with_reducible refine gate_store (t := 66) (p := 16) rfl ?_); refine store_event (t := 66) (p := 16) (v := ?vo_w8) (w1 := (wr.setCell ⟨go5, (x5_1 : Int).toNat, none⟩ (.int .u64 (IntKind.u64.wrap (x1_1))))) ?hg ?ho ?hn ?hr ?_; (case ho => rfl); (case hg => rfl); (case hn => rfl); (case hr => first | (go_simp; done) | (go_simp; rfl) | ((try (obtain ⟨_, _, e_⟩ := Kd.R_slice HO_0.out; subst e_)); first | (go_simp; done) | (go_simp; rfl))); intro w8 hw; have hg : wr.grownBy w8 (some go5) := (by rw [hw]; exact HP7.2); have hp_ : Kd.R (Kd.int .u64) 66 w8 w0.heap.size (fun k_ => (P0_ k_ ∨ w.heap.size ≤ k_)) (.slice (some ⟨go5, 0, none⟩) x0_1.length co6) y146 := (by rw [hw, Ny146.out]; exact HP7.1); clear HP7; have n0_ := Aside0.mk (hp_); have n1_ := Aside0.mk ((by rw [hw]; exact below_set (HB.out) GB5.out : Below w0.heap.size w0 w8)); have n2_ := Aside0.mk (Kept.of_grown (S := (fun k_ => P0_ k_)) hg (by repeat (first | (with_reducible first | exact HK.out | apply Kept.alloc | apply Kept.drewN | apply Kept.drew) | exact HK.out)) (fun k_ e_ => (HO_0.out.1 k_ e_))); clear HO_0; clear HB; clear HK; have HO_0 := n0_; have HB := n1_; have HK := n2_; clear n0_ n1_ n2_; clear hg hw hp_))
     go_roundg k1
     case measure => have := HK1.out; omega
     case rel => exact ⟨(y146), (wrap64 (x1_1 + 1)), (wrap64 (x5_1 + 1)), au, au, H', ⟨by have := HK1.out; omega⟩, ⟨rl HO_0⟩, ⟨by repeat (first | (with_reducible first | exact HK.out | apply Kept.alloc | apply Kept.drewN | apply Kept.drew) | exact HK.out)⟩, ⟨bl HB⟩⟩
    ·rw [if_neg c4] at H
     exact absurd H (by simp)
   ·rw [if_neg c3] at H
    have c3b0 : decide (x5_1 < (x0_1.length : Int)) = false := decide_eq_false c3; clear c3
    simp only [Option.some.injEq, Prod.mk.injEq] at H
    obtain ⟨rfl, rfl⟩ := H; obtain ⟨Ao9, co9, eo9⟩ := Kd.R_slice HO_0.out
    subst eo9
    go_wp2
    go_ret
    exact ⟨by first | rfl | (simp [errW_none, errW_some] <;> rfl) | (simp [*, errW_none, errW_some] <;> rfl), by (with_reducible repeat (first | apply Kd.R_alloc | apply Kd.R_drewN | apply Kd.R_drew)); exact HO_0.out, bl HB, by repeat (first | (with_reducible first | exact HK.out | apply Kept.alloc | apply Kept.drewN | apply Kept.drew) | exact HK.out)⟩

/-! ### laws_markBits: function 11 -/
def laws_markBits.f (k : Nat) (a0_0 : Int) (l0_1 : List Int) (a1 : Int) : Option (Int × List Int) := (laws_markUint64S.f k l0_1 a1).bind fun bt148 => (some (bt148.1, bt148.2))
set_option maxHeartbeats 8000000 in
set_option maxRecDepth 100000 in
theorem laws_markBits.calls (k : Nat) (a0_0 : Int) (P0_1_ : Nat → Prop) (u9000_ : Value) (l0_1 : List Int) (a1 : Int) (r1 : Int) (r2 : List Int) (w0 w : World) (hB : Below w0.heap.size w0 w) (ho0_1 : Kd.R (Kd.int .u64) 66 w w0.heap.size P0_1_ u9000_ l0_1) (h : laws_markBits.f k a0_0 l0_1 a1 = some (r1, r2)) :
  Calls Try.prog 11 #[.agg #[.int .i64 a0_0, u9000_], .int .i64 a1] w fun e w' => e = .returned (.int .i64 r1) ∧ Kd.R (Kd.int .u64) 66 w' w0.heap.size (fun k_ => (P0_1_ k_ ∨ w.heap.size ≤ k_)) u9000_ r2 ∧ Below w0.heap.size w0 w' ∧ Kept w w' (fun k_ => P0_1_ k_) := by
 have hu24 := Try.underlying24; have HO0_1 := Aside0.mk (show Kd.R (Kd.int .u64) 66 w w0.heap.size (fun k_ => (P0_1_ k_ ∨ w.heap.size ≤ k_)) u9000_ l0_1 from Kd.R_mono ho0_1 (fun k_ hk => (.inl hk))); have HK := Aside0.mk (Kept.refl w (fun k_ => P0_1_ k_)); have HW0 := Aside0.mk hB.size; have HB := Aside0.mk hB; clear hB; have H : ((laws_markUint64S.f k l0_1 a1).bind fun bt148 => (some (bt148.1, bt148.2))) = some (r1, r2) := h; clear h; replace H := Option.bind_eq_some_iff.mp H; obtain ⟨⟨t148, t149⟩, A30, H⟩ := H; replace H : (some (t148, t149)) = some (r1, r2) := H; have A3 := Aside0.mk A30; clear A30
 simp only [Option.some.injEq, Prod.mk.injEq] at H
 obtain ⟨rfl, rfl⟩ := H; obtain ⟨Ao4, co4, eo4⟩ := Kd.R_slice HO0_1.out
 subst eo4
 go_enter Try.func11, Try.ntmps11
 go_wp2_with (first | ((with_reducible refine gate_dst (N := 2) rfl ?_); refine be 2 #[.int .i64 a0_0, .slice Ao4 l0_1.length co4] 24 ?_; intro gb147 hg w5 hbox hb; have n0_ := Aside0.mk (Kd.R_below (rl HO0_1) hb); have n1_ := Aside0.mk (Kept.below (S := (fun k_ => P0_1_ k_)) (by repeat (first | (with_reducible first | exact HK.out | apply Kept.alloc | apply Kept.drewN | apply Kept.drew) | exact HK.out)) hb); have n2_ := Aside0.mk (below_step (bl HB) hb); have n3_ := Aside0.mk (hbox); have n4_ := Aside0.mk ((by rw [hg]; exact (by first | exact HK.out.1 | exact (show Kept w _ (fun k_ => P0_1_ k_) from by repeat (first | (with_reducible first | exact HK.out | apply Kept.alloc | apply Kept.drewN | apply Kept.drew) | exact HK.out)).1) : w.heap.size ≤ gb147)); have n5_ := Aside0.mk ((by rw [hg]; exact (below_size (bl HB)) : w0.heap.size ≤ gb147)); clear HO0_1; clear HK; clear HB; have HO0_1 := n0_; have HK := n1_; have HB := n2_; have BK147 := n3_; have GW147 := n4_; have GE147 := n5_; clear n0_ n1_ n2_ n3_ n4_ n5_; clear hb hbox hg; have hcz6_0 : w5.cell? ⟨gb147, 0, none⟩ = some (.int .i64 a0_0) := (blk_cell BK147.out 0).trans rfl; have hcz6_1 : w5.cell? ⟨gb147, 1, none⟩ = some (.slice Ao4 l0_1.length co4) := (blk_cell BK147.out 1).trans rfl; have hfz6_0 := blk_frozen BK147.out 0; have hfz6_1 := blk_frozen BK147.out 1) | ((with_reducible refine gate_callee (f := 41) rfl ?_); refine goesL_ (some 8) rfl rfl Try.func41 (by kernel_rfl) rfl #[.slice Ao4 l0_1.length co4, .int .i64 a1] rfl ma ?_; (with_reducible refine (laws_markUint64S.calls k (fun k_ => some k_ = (.slice Ao4 l0_1.length co4 : Value).ownBlock) (.slice Ao4 l0_1.length co4) l0_1 a1 t148 t149 w0 _ ?side1 ?side2 A3.out).mono ?_); (case side1 => repeat (first | (with_reducible first | exact HB.out | apply below_alloc | apply pw_below_drewN | apply below_drew1 | refine below_set ?_ GE147.out) | exact HB.out)); (case side2 => exact Kd.R_tight rfl HO0_1.out); rintro e w7 ⟨rfl, hy0, hb, hkp⟩; refine ⟨_, rfl, ?_⟩; have n0_ := Aside0.mk (Kd.R_reok rfl hy0 (fun k_ e_ => HO0_1.out.1 k_ e_)); have n1_ := Aside0.mk (blk_kept (bk BK147) hkp (fun hs_ => (fun e_ => (Kd.R_ne HO0_1.out BK147.out (by decide)) e_) hs_)); have n2_ := Aside0.mk (Kept.then_ (S := (fun k_ => P0_1_ k_)) (by repeat (first | (with_reducible first | exact HK.out | apply Kept.alloc | apply Kept.drewN | apply Kept.drew | refine Kept.setCell ?_ (.inr GW147.out) _) | exact HK.out)) hkp (fun k_ hs_ => (fun e_ => (HO0_1.out.1 k_ e_.symm)) hs_)); have n3_ := Aside0.mk (hb); clear HO0_1; clear BK147; clear HK; clear HB; have HO0_1 := n0_; have BK147 := n1_; have HK := n2_; have HB := n3_; clear n0_ n1_ n2_ n3_; (try clear hb); (try clear hkp); (try clear hy0)))
 go_ret
 exact ⟨by first | rfl | (simp [errW_none, errW_some] <;> rfl) | (simp [*, errW_none, errW_some] <;> rfl), by (with_reducible repeat (first | apply Kd.R_alloc | apply Kd.R_drewN | apply Kd.R_drew)); exact HO0_1.out, bs HB GE147, by repeat (first | (with_reducible first | exact HK.out | apply Kept.alloc | apply Kept.drewN | apply Kept.drew | refine Kept.setCell ?_ (.inr GW147.out) _) | exact HK.out)⟩

/-! ### laws_heldUint64S: function 42 -/
def laws_heldUint64S.l0 : Nat → List Int → Int → Int → Option (Int)
 | 0, _, _, _ => none
 | k + 1, x0, x1, x5 => if x5 < (x0.length : Int) then (if 0 ≤ x5 then (if (rd x0 x5) = (IntKind.u64.wrap (x1)) then (laws_heldUint64S.l0 k x0 (wrap64 (x1 + 1)) (wrap64 (x5 + 1))) else (some (-1))) else (none)) else (some x1)
def laws_heldUint64S.f (k : Nat) (l0 : List Int) (a1 : Int) : Option (Int) := laws_heldUint64S.l0 k l0 a1 0
set_option maxHeartbeats 8000000 in
set_option maxRecDepth 100000 in
theorem laws_heldUint64S.calls (k : Nat) (A0 : Option Addr) (c0 : Nat) (l0 : List Int) (a1 : Int) (r : Int) (w : World) (hr0 : Kd.C (Kd.int .u64) w A0 l0.length l0) (hc0 : l0.length ≤ c0) (h : laws_heldUint64S.f k l0 a1 = some r) :
  Calls Try.prog 42 #[.slice A0 l0.length c0, .int .i64 a1] w fun e w' => e = .returned (.int .i64 r) ∧ Drawn0 w w' := by
 have HR0 := Aside0.mk hr0; have HC0 := Aside0.mk hc0; clear hr0 hc0; have H : (laws_heldUint64S.l0 k l0 a1 0) = some r := h; clear h; have H' := Aside0.mk H; clear H
 go_enter Try.func42, Try.ntmps42
 go_wp2
 go_loopg [1, 5] k (fun kq v1 v5 w' => ∃ (x1_1 : Int) (x5_1 : Int), v1 = .int .i64 x1_1 ∧ v5 = .int .i64 x5_1 ∧ Aside0 (laws_heldUint64S.l0 kq l0 x1_1 x5_1 = some r) ∧ Aside0 (kq ≤ k) ∧ Drawn0 w w')
 case atStart => exact ⟨(a1), (0), au, au, H', ⟨Nat.le_refl _⟩, dr⟩
 case round =>
  clear H'
  try clear p2
  obtain ⟨x1_1, x5_1, rfl, rfl, HA, HK1, ⟨m1, rfl⟩⟩ := hrel
  cases gk with
  | zero => exact absurd HA.out (by simp [laws_heldUint64S.l0])
  | succ k1 =>
   have H := HA.out; clear HA
   simp only [laws_heldUint64S.l0] at H
   by_cases c3 : x5_1 < (l0.length : Int)
   ·rw [if_pos c3] at H
    have c3b0 : decide (x5_1 < (l0.length : Int)) = true := decide_eq_true c3; clear c3
    by_cases c4 : 0 ≤ x5_1
    ·rw [if_pos c4] at H
     have c4b0 : decide (0 ≤ x5_1) = true := decide_eq_true c4; clear c4
     by_cases c5 : (rd l0 x5_1) = (IntKind.u64.wrap (x1_1))
     ·rw [if_pos c5] at H
      have c5b0 : ((rd l0 x5_1) == (IntKind.u64.wrap (x1_1))) = true := beq_iff_eq.mpr c5; have c5b1 : ((rd l0 x5_1) != (IntKind.u64.wrap (x1_1))) = false := bne_eq_false_iff_eq.mpr c5; clear c5; have H' := Aside0.mk H; clear H; have p150 : 0 ≤ (x5_1 : Int) := ode; have q150 : x5_1 < (l0.length : Int) := ode; obtain ⟨ad150, e150, hx150_0⟩ := Kd.at_int HR0.out x5_1 p150 q150
      cases e150
      replace p150 := eq_true p150; replace q150 := eq_true q150
      go_wp2
      go_roundg k1
      case measure => have := HK1.out; omega
      case rel => exact ⟨(wrap64 (x1_1 + 1)), (wrap64 (x5_1 + 1)), au, au, H', ⟨by have := HK1.out; omega⟩, dr⟩
     ·rw [if_neg c5] at H
      have c5b0 : ((rd l0 x5_1) == (IntKind.u64.wrap (x1_1))) = false := beq_eq_false_iff_ne.mpr c5; have c5b1 : ((rd l0 x5_1) != (IntKind.u64.wrap (x1_1))) = true := bne_iff_ne.mpr c5; obtain rfl := Option.some.inj H; have p150 : 0 ≤ (x5_1 : Int) := ode; have q150 : x5_1 < (l0.length : Int) := ode; obtain ⟨ad150, e150, hx150_0⟩ := Kd.at_int HR0.out x5_1 p150 q150
      cases e150
      replace p150 := eq_true p150; replace q150 := eq_true q150
      go_wp2
      go_ret
      exact ⟨au, dr⟩
    ·rw [if_neg c4] at H
     exact absurd H (by simp)
   ·rw [if_neg c3] at H
    have c3b0 : decide (x5_1 < (l0.length : Int)) = false := decide_eq_false c3; clear c3; obtain rfl := Option.some.inj H
    go_wp2
    go_ret
    exact ⟨au, dr⟩

end Go.Proofs.Ytpkclocdenagcaa.PFnExactReadBits
