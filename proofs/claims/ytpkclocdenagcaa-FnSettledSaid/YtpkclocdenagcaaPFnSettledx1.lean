-- Written by a program of this session (a turned copy of the kit's printer); Lean checks it.
-- half the depth
import Derived.Test.YtpkclocdenagcaaPFnSettledx0
namespace Go.Proofs.Ytpkclocdenagcaa.PFnSettled
open Go.RowKit Go.Proofs.YtpkclocdenagcaaW.PrintWords Go.Proofs.YtpkclocdenagcaaW.PrintLast Go.Proofs.YtpkclocdenagcaaW.PrintMore
attribute [local go_sem] max2_int min2_int max_two min_two max_three min_three max_four min_four   -- for this text's walks alone
set_option linter.unusedVariables false
set_option linter.unusedSimpArgs false

/-! ### laws_big: function 23 -/
def laws_big.f (l0 : List Int) : Option (Bool) := some (decide ((l0.length : Int) > 1048576))
set_option maxHeartbeats 8000000 in
set_option maxRecDepth 100000 in
theorem laws_big.calls (A0 : Option Addr) (c0 : Nat) (l0 : List Int) (r : Bool) (w : World) (hr0 : Kd.C (Kd.int .u8) w A0 l0.length l0) (hc0 : l0.length ≤ c0) (h : laws_big.f l0 = some r) :
  Calls Try.prog 23 #[.slice A0 l0.length c0] w fun e w' => e = .returned (.bool r) ∧ Drawn0 w w' := by
 have HR0 := Aside0.mk hr0; have HC0 := Aside0.mk hc0; clear hr0 hc0; have H : (some (decide ((l0.length : Int) > 1048576))) = some r := h; clear h; obtain rfl := Option.some.inj H
 go_enter Try.func23, Try.ntmps23
 go_wp2
 go_ret
 exact ⟨au, dr⟩

-- NOT PRINTED: function 79 (slices_IndexFunc_int64_int64)

-- NOT PRINTED: function 62 (slices_ContainsFunc_int64_int64)

/-! ### impl_inside: function 66 -/
def impl_inside.f (a0 : Int) (a1 : Int) (a2 : Int) : Option (Bool) := if a0 ≥ a1 then (some (decide (a0 ≤ a2))) else (some false)
set_option maxHeartbeats 8000000 in
set_option maxRecDepth 100000 in
theorem impl_inside.calls (a0 : Int) (a1 : Int) (a2 : Int) (r : Bool) (w : World) (h : impl_inside.f a0 a1 a2 = some r) :
  Calls Try.prog 66 #[.int .i64 a0, .int .i64 a1, .int .i64 a2] w fun e w' => e = .returned (.bool r) ∧ Drawn0 w w' := by
 have H : (if a0 ≥ a1 then (some (decide (a0 ≤ a2))) else (some false)) = some r := h; clear h
 by_cases c4 : a0 ≥ a1
 ·rw [if_pos c4] at H
  have c4b0 : decide (a1 ≤ a0) = true := decide_eq_true c4; clear c4; obtain rfl := Option.some.inj H
  go_enter Try.func66, Try.ntmps66
  go_wp2
  go_ret
  exact ⟨au, dr⟩
 ·rw [if_neg c4] at H
  have c4b0 : decide (a1 ≤ a0) = false := decide_eq_false c4; clear c4; obtain rfl := Option.some.inj H
  go_enter Try.func66, Try.ntmps66
  go_wp2
  go_ret
  exact ⟨au, dr⟩

/-! ### impl_clauseOk: function 74 -/
def impl_clauseOk.l0 : Nat → Int → Int → List Int → Int → Int → Option (Bool)
 | 0, _, _, _, _, _ => none
 | k + 1, x1, x5, x11, x12, x13 => if x13 < x12 then (if 0 ≤ x13 then (if x13 < (x11.length : Int) then (if (rd x11 x13) = 0 then (some false) else ((impl_inside.f (rd x11 x13) (wrap64 (-x1)) x1).bind fun t102 => (if t102 = true then (if (mx (rd x11 x13) (wrap64 (-(rd x11 x13)))) ≤ x5 then (some false) else (impl_clauseOk.l0 k x1 (mx (rd x11 x13) (wrap64 (-(rd x11 x13)))) x11 x12 (wrap64 (x13 + 1)))) else (some false)))) else (none)) else (none)) else (some true)
def impl_clauseOk.f (k : Nat) (l0 : List Int) (a1 : Int) : Option (Bool) := if (l0.length : Int) > 400 then (some false) else (impl_clauseOk.l0 k a1 0 l0 (l0.length : Int) 0)
set_option maxHeartbeats 8000000 in
set_option maxRecDepth 100000 in
theorem impl_clauseOk.calls (k : Nat) (A0 : Option Addr) (c0 : Nat) (l0 : List Int) (a1 : Int) (r : Bool) (w : World) (hr0 : Kd.C (Kd.int .i64) w A0 l0.length l0) (hc0 : l0.length ≤ c0) (h : impl_clauseOk.f k l0 a1 = some r) :
  Calls Try.prog 74 #[.slice A0 l0.length c0, .int .i64 a1] w fun e w' => e = .returned (.bool r) ∧ Below w.heap.size w w' := by
 have HR0 := Aside0.mk hr0; have HC0 := Aside0.mk hc0; clear hr0 hc0; have HB := Aside0.mk (Below.refl w.heap.size w); have H : (if (l0.length : Int) > 400 then (some false) else (impl_clauseOk.l0 k a1 0 l0 (l0.length : Int) 0)) = some r := h; clear h
 by_cases c3 : (l0.length : Int) > 400
 ·rw [if_pos c3] at H
  have c3b0 : decide (400 < (l0.length : Int)) = true := decide_eq_true c3; have c3b1 : decide (400 < l0.length) = true := decide_eq_true (by omega); clear c3; obtain rfl := Option.some.inj H
  go_enter Try.func74, Try.ntmps74
  go_wp2
  go_ret
  exact ⟨by first | rfl | (simp [errW_none, errW_some] <;> rfl) | (simp [*, errW_none, errW_some] <;> rfl), bl HB⟩
 ·rw [if_neg c3] at H
  have c3b0 : decide (400 < (l0.length : Int)) = false := decide_eq_false c3; have c3b1 : decide (400 < l0.length) = false := decide_eq_false (by omega); clear c3; have H' := Aside0.mk H; clear H
  go_enter Try.func74, Try.ntmps74
  go_wp2
  go_loopg [5, 13] k (fun kq v5 v13 w' => ∃ (x5_1 : Int) (x13_1 : Int), v5 = .int .i64 x5_1 ∧ v13 = .int .i64 x13_1 ∧ Aside0 (impl_clauseOk.l0 kq a1 x5_1 l0 (l0.length : Int) x13_1 = some r) ∧ Aside0 (kq ≤ k) ∧ Aside0 (Below w.heap.size w w'))
  case atStart => exact ⟨(0), (0), au, au, H', ⟨Nat.le_refl _⟩, ⟨bl HB⟩⟩
  case round =>
   clear H'
   try clear p2
   try clear c3
   try clear c3b0
   try clear c3b1
   obtain ⟨x5_1, x13_1, rfl, rfl, HA, HK1, HB⟩ := hrel
   cases gk with
   | zero => exact absurd HA.out (by simp [impl_clauseOk.l0])
   | succ k1 =>
    have H := HA.out; clear HA
    simp only [impl_clauseOk.l0] at H
    by_cases c4 : x13_1 < (l0.length : Int)
    ·rw [if_pos c4] at H
     have c4b0 : decide (x13_1 < (l0.length : Int)) = true := decide_eq_true c4; clear c4
     by_cases c5 : 0 ≤ x13_1
     ·rw [if_pos c5] at H
      have c5b0 : decide (0 ≤ x13_1) = true := decide_eq_true c5; clear c5
      by_cases c6 : x13_1 < (l0.length : Int)
      ·rw [if_pos c6] at H
       have c6b0 : decide (x13_1 < (l0.length : Int)) = true := decide_eq_true c6; clear c6
       by_cases c7 : (rd l0 x13_1) = 0
       ·rw [if_pos c7] at H
        have c7b0 : ((rd l0 x13_1) == 0) = true := beq_iff_eq.mpr c7; have c7b1 : ((rd l0 x13_1) != 0) = false := bne_eq_false_iff_eq.mpr c7; clear c7; obtain rfl := Option.some.inj H; have p101 : 0 ≤ (x13_1 : Int) := ode; have q101 : x13_1 < (l0.length : Int) := ode; obtain ⟨ad101, e101, hx101_0⟩ := Kd.at_int HR0.out x13_1 p101 q101
        cases e101
        replace hx101_0 := cl HB hx101_0; replace p101 := eq_true p101; replace q101 := eq_true q101
        go_wp2
        go_ret
        exact ⟨by first | rfl | (simp [errW_none, errW_some] <;> rfl) | (simp [*, errW_none, errW_some] <;> rfl), bl HB⟩
       ·rw [if_neg c7] at H
        have c7b0 : ((rd l0 x13_1) == 0) = false := beq_eq_false_iff_ne.mpr c7; have c7b1 : ((rd l0 x13_1) != 0) = true := bne_iff_ne.mpr c7; replace H := Option.bind_eq_some_iff.mp H; obtain ⟨t102, A80, H⟩ := H; replace H : (if t102 = true then (if (mx (rd l0 x13_1) (wrap64 (-(rd l0 x13_1)))) ≤ x5_1 then (some false) else (impl_clauseOk.l0 k1 a1 (mx (rd l0 x13_1) (wrap64 (-(rd l0 x13_1)))) l0 (l0.length : Int) (wrap64 (x13_1 + 1)))) else (some false)) = some r := H; have A8 := Aside0.mk A80; clear A80
        by_cases c9 : t102 = true
        ·subst c9
         have H1 : (if (mx (rd l0 x13_1) (wrap64 (-(rd l0 x13_1)))) ≤ x5_1 then (some false) else (impl_clauseOk.l0 k1 a1 (mx (rd l0 x13_1) (wrap64 (-(rd l0 x13_1)))) l0 (l0.length : Int) (wrap64 (x13_1 + 1)))) = some r := by rw [if_pos rfl] at H; exact H
         clear H; have H := H1; clear H1; obtain ⟨ji10, hji10⟩ : ∃ j_ : Int, (mx (rd l0 x13_1) (wrap64 (-(rd l0 x13_1)))) = j_ := ⟨_, rfl⟩
         replace H : (if (ji10) ≤ x5_1 then (some false) else (impl_clauseOk.l0 k1 a1 ji10 l0 (l0.length : Int) (wrap64 (x13_1 + 1)))) = some r := by first | (rw [hji10] at H; exact H) | (simp only [hji10] at H ⊢; exact H)
         (try rw [hji10] at A8)
         have hji10_ : (if (rd l0 x13_1) < (wrap64 (-(rd l0 x13_1))) then (wrap64 (-(rd l0 x13_1))) else (rd l0 x13_1)) = ji10 := hji10
         by_cases c11 : (ji10) ≤ x5_1
         ·rw [if_pos c11] at H
          have c11b0 : decide ((ji10) ≤ x5_1) = true := decide_eq_true c11; clear c11; obtain rfl := Option.some.inj H; have p101 : 0 ≤ (x13_1 : Int) := ode; have q101 : x13_1 < (l0.length : Int) := ode; obtain ⟨ad101, e101, hx101_0⟩ := Kd.at_int HR0.out x13_1 p101 q101
          cases e101
          replace hx101_0 := cl HB hx101_0; replace p101 := eq_true p101; replace q101 := eq_true q101
          go_wp2_with (first | (go_at_call 66; (with_reducible refine (impl_inside.calls (rd l0 x13_1) (wrap64 (-a1)) a1 true _ A8.out).mono ?_); rintro e w' ⟨rfl, ⟨nd, rfl⟩⟩))
          go_ret
          exact ⟨by first | rfl | (simp [errW_none, errW_some] <;> rfl) | (simp only [← hji10]; first | rfl | (simp [errW_none, errW_some] <;> rfl)) | (simp [*, errW_none, errW_some] <;> rfl), bl HB⟩
         ·rw [if_neg c11] at H
          have c11b0 : decide ((ji10) ≤ x5_1) = false := decide_eq_false c11; clear c11; have H' := Aside0.mk H; clear H; have p101 : 0 ≤ (x13_1 : Int) := ode; have q101 : x13_1 < (l0.length : Int) := ode; obtain ⟨ad101, e101, hx101_0⟩ := Kd.at_int HR0.out x13_1 p101 q101
          cases e101
          replace hx101_0 := cl HB hx101_0; replace p101 := eq_true p101; replace q101 := eq_true q101
          go_wp2_with (first | (go_at_call 66; (with_reducible refine (impl_inside.calls (rd l0 x13_1) (wrap64 (-a1)) a1 true _ A8.out).mono ?_); rintro e w' ⟨rfl, ⟨nd, rfl⟩⟩))
          go_roundg k1
          case measure => have := HK1.out; omega
          case rel => exact ⟨(ji10), (wrap64 (x13_1 + 1)), (by first | rfl | (simp; done) | (simp only [← hji10] <;> (first | rfl | simp)) | (simp [*]; done)), au, H', ⟨by have := HK1.out; omega⟩, ⟨bl HB⟩⟩
        ·replace c9 := Bool.eq_false_iff.mpr c9
         subst c9
         have H1 : (some false) = some r := by rw [if_neg (show ¬ (false = true) by decide)] at H; exact H
         clear H; have H := H1; clear H1; obtain rfl := Option.some.inj H; have p101 : 0 ≤ (x13_1 : Int) := ode; have q101 : x13_1 < (l0.length : Int) := ode; obtain ⟨ad101, e101, hx101_0⟩ := Kd.at_int HR0.out x13_1 p101 q101
         cases e101
         replace hx101_0 := cl HB hx101_0; replace p101 := eq_true p101; replace q101 := eq_true q101
         go_wp2_with (first | (go_at_call 66; (with_reducible refine (impl_inside.calls (rd l0 x13_1) (wrap64 (-a1)) a1 false _ A8.out).mono ?_); rintro e w' ⟨rfl, ⟨nd, rfl⟩⟩))
         go_ret
         exact ⟨by first | rfl | (simp [errW_none, errW_some] <;> rfl) | (simp [*, errW_none, errW_some] <;> rfl), bl HB⟩
      ·rw [if_neg c6] at H
       exact absurd H (by simp)
     ·rw [if_neg c5] at H
      exact absurd H (by simp)
    ·rw [if_neg c4] at H
     have c4b0 : decide (x13_1 < (l0.length : Int)) = false := decide_eq_false c4; clear c4; obtain rfl := Option.some.inj H
     go_wp2
     go_ret
     exact ⟨by first | rfl | (simp [errW_none, errW_some] <;> rfl) | (simp [*, errW_none, errW_some] <;> rfl), bl HB⟩

/-! ### impl_CnfOk: function 48 -/

def impl_CnfOk.p (k : Nat) (sw : Int) (x : List Int) : Option Bool := (impl_clauseOk.f k x sw).bind fun t => some (!t)
def impl_CnfOk.f (k : Nat) (a0_0 : Int) (l0_1 : List (List Int)) : Option (Bool) := (impl_inside.f a0_0 0 400).bind fun t => if t = true then (if (l0_1.length : Int) > 4000 then some false else (idxG (impl_CnfOk.p k a0_0) l0_1 0).bind fun v => some (!decide (0 ≤ v))) else some false

set_option maxHeartbeats 2000000 in
set_option maxRecDepth 100000 in
theorem impl_CnfOk.clo (k : Nat) (A : Option Addr) (c : Nat) (x : List Int) (sw : Int) (t : Bool) (gb : Nat) (w : World) (hc : w.cell? ⟨gb, 0, none⟩ = some (.int .i64 sw)) (hr : Kd.C (Kd.int .i64) w A x.length x) (hcap : x.length ≤ c) (h : impl_CnfOk.p k sw x = some t) :
  Calls Try.prog 73 #[.slice A x.length c, .pointer (some ⟨gb, 0, none⟩)] w fun e w' => e = .returned (.bool t) ∧ Below w.heap.size w w' := by
 unfold impl_CnfOk.p at h
 obtain ⟨u, hu, h⟩ := Option.bind_eq_some_iff.mp h; obtain rfl := Option.some.inj h; have HR := Aside0.mk hr; have HU := Aside0.mk hu; clear hr hu h; have hu_ := Try.underlying37
 go_enter Try.func73, Try.ntmps73
 go_wp2_with (go_at_call 74; refine (impl_clauseOk.calls k _ _ x sw u _ HR.out hcap HU.out).mono ?_; rintro e w' ⟨rfl, hd⟩)
 go_ret
 exact ⟨rfl, by first | exact hd.below | exact hd⟩
set_option maxHeartbeats 2000000 in
set_option maxRecDepth 100000 in
theorem impl_CnfOk.idx (k : Nat) (A0 : Option Addr) (c0 : Nat) (l0 : List (List Int)) (gb : Nat) (sw v : Int) (w : World) (hc : w.cell? ⟨gb, 0, none⟩ = some (.int .i64 sw)) (hr0 : Kd.C (Kd.slice 2 (Kd.int .i64)) w A0 l0.length l0) (h : idxG (impl_CnfOk.p k sw) l0 0 = some v) :
  Calls Try.prog 79 #[.slice A0 l0.length c0, .func (.func 73) #[] #[.pointer (some ⟨gb, 0, none⟩)]] w fun e w' => e = .returned (.int .i64 v) ∧ Below w.heap.size w w' := by
 have hlt : gb < w.heap.size := World.block_lt_of_cell? w ⟨gb, 0, none⟩ hc; have hmax := Kd.C_max hr0; have HR0 := Aside0.mk hr0; have HC := Aside0.mk hc; have HS := Aside0.mk h; clear hr0 hc h; have eg : ∀ (args : Array Value) (w : World), (callFunc 73 args).run Try.prog w = .ok (.enter 73 args) w := enters_of Try.func73 (by kernel_rfl) rfl
 go_enter Try.func79, Try.ntmps79
 go_wp2
 go_loopg [5, 8] l0.length (fun gg _ s8 wr => ∃ kk : Nat, kk ≤ l0.length ∧ l0.length - kk ≤ gg ∧ s8 = .int .i64 kk ∧ Aside0 (Below w.heap.size w wr) ∧ Aside0 (idxG (impl_CnfOk.p k sw) (l0.drop kk) kk = some v))
 case atStart => exact ⟨0, Nat.zero_le _, by omega, rfl, ⟨Below.refl _ w⟩, ⟨HS.out⟩⟩
 case round =>
  obtain ⟨kk, hkk, hg, rfl, HB, HE⟩ := hrel
  by_cases hlt2 : kk < l0.length
  ·have hltz : (kk : Int) < (l0.length : Int) := by omega
   obtain ⟨ad, A1, c1, e0, hx0, hl0, hi0⟩ := at_L2 HR0.out (kk : Int) (by omega) hltz
   cases e0
   replace hx0 := cl HB hx0; rw [Int.toNat_natCast] at hx0; have hcc := (HB.out.cell (p := ⟨gb, 0, none⟩) hlt).trans HC.out; obtain ⟨t, ht, h1, h2⟩ := idxG_drop (impl_CnfOk.p k sw) l0 kk hlt2 [] v HE.out
   have ht' : impl_CnfOk.p k sw (rd_L2 l0 (kk : Int)) = some t := by rw [← ht]; rfl
   have hcall := impl_CnfOk.clo k A1 c1 (rd_L2 l0 (kk : Int)) sw t gb wr hcc (Kd.C_below hi0 HB.out) hl0 ht'; clear hcc ht ht' hi0
   cases t with
   | true =>
    have HV := Aside0.mk (h1 rfl); clear h1 h2
    go_wp2_with (go_at_fn 73; refine hcall.mono ?_; rintro e w' ⟨rfl, hb'⟩)
    go_ret
    exact ⟨by rw [HV.out]; rfl, below_step HB.out hb'⟩
   | false =>
    have HV := Aside0.mk (h2 rfl); clear h1 h2
    go_wp2_with (go_at_fn 73; refine hcall.mono ?_; rintro e w' ⟨rfl, hb'⟩)
    go_roundg (l0.length - (kk + 1))
    case measure => omega
    case rel => exact ⟨kk + 1, by omega, by omega, by go_num, ⟨below_step HB.out hb'⟩, ⟨HV.out⟩⟩
  ·have hltz : ¬ (kk : Int) < (l0.length : Int) := by omega
   have hk : kk = l0.length := by omega
   have hv : v = -1 := by
    have := HE.out; rw [List.drop_eq_nil_of_le (by omega)] at this
    simp only [idxG] at this
    exact (Option.some.inj this).symm
   subst hv
   go_wp2
   go_ret
   exact ⟨rfl, HB.out⟩
set_option maxHeartbeats 2000000 in
set_option maxRecDepth 100000 in
theorem impl_CnfOk.has (k : Nat) (A0 : Option Addr) (c0 : Nat) (l0 : List (List Int)) (gb : Nat) (sw v : Int) (w : World) (hc : w.cell? ⟨gb, 0, none⟩ = some (.int .i64 sw)) (hr0 : Kd.C (Kd.slice 2 (Kd.int .i64)) w A0 l0.length l0) (h : idxG (impl_CnfOk.p k sw) l0 0 = some v) :
  Calls Try.prog 62 #[.slice A0 l0.length c0, .func (.func 73) #[] #[.pointer (some ⟨gb, 0, none⟩)]] w fun e w' => e = .returned (.bool (decide (0 ≤ v))) ∧ Below w.heap.size w w' := by
 have hidx := impl_CnfOk.idx k A0 c0 l0 gb sw v w hc hr0 h; have hb1 := idxG_bound _ l0 0 v (by omega) h; have hmax := Kd.C_max hr0; clear hc hr0 h
 go_enter Try.func62, Try.ntmps62
 go_wp2_with (first | (go_at_call 79; refine hidx.mono ?_; rintro e w' ⟨rfl, hb⟩))
 go_ret
 exact ⟨rfl, hb⟩
set_option maxHeartbeats 8000000 in
set_option maxRecDepth 100000 in
theorem impl_CnfOk.calls (k : Nat) (a0_0 : Int) (A0_1 : Option Addr) (c0_1 : Nat) (l0_1 : List (List Int)) (r : Bool) (w : World) (hr0_1 : Kd.C (Kd.slice 2 (Kd.int .i64)) w A0_1 l0_1.length l0_1) (hc0_1 : l0_1.length ≤ c0_1) (h : impl_CnfOk.f k a0_0 l0_1 = some r) :
  Calls Try.prog 48 #[.agg #[.int .i64 a0_0, .slice A0_1 l0_1.length c0_1]] w fun e w' => e = .returned (.bool r) ∧ Below w.heap.size w w' := by

 have HR0 := Aside0.mk hr0_1; have HC0 := Aside0.mk hc0_1; have hmax := Kd.C_max hr0_1; clear hr0_1 hc0_1; have hu_ := Try.underlying37
 unfold impl_CnfOk.f at h
 obtain ⟨t, ht, h⟩ := Option.bind_eq_some_iff.mp h; have HT := Aside0.mk ht; clear ht
 cases t with
 | false =>
  obtain rfl := Option.some.inj h; clear h
  go_enter Try.func48, Try.ntmps48
  go_wp2_with (first | (go_at_call 66; refine (impl_inside.calls _ _ _ _ _ HT.out).mono ?_; rintro e w' ⟨rfl, ⟨nd, rfl⟩⟩))
  go_ret
  exact ⟨rfl, by (repeat (first | apply pw_below_drewN | apply below_alloc)); exact Below.refl _ _⟩
 | true =>
  rw [if_pos rfl] at h
  by_cases c1 : (l0_1.length : Int) > 4000
  ·rw [if_pos c1] at h
   obtain rfl := Option.some.inj h; clear h; have c1b : decide (4000 < (l0_1.length : Int)) = true := decide_eq_true (by omega); have c1c : decide ((l0_1.length : Int) > 4000) = true := decide_eq_true (by omega)
   go_enter Try.func48, Try.ntmps48
   go_wp2_with (first | (go_at_call 66; refine (impl_inside.calls _ _ _ _ _ HT.out).mono ?_; rintro e w' ⟨rfl, ⟨nd, rfl⟩⟩))
   go_ret
   exact ⟨rfl, by (repeat (first | apply pw_below_drewN | apply below_alloc)); exact Below.refl _ _⟩
  ·rw [if_neg c1] at h
   obtain ⟨v, hv, h⟩ := Option.bind_eq_some_iff.mp h; obtain rfl := Option.some.inj h; have HV := Aside0.mk hv; clear h hv; have c1b : decide (4000 < (l0_1.length : Int)) = false := decide_eq_false (by omega); have c1c : decide ((l0_1.length : Int) > 4000) = false := decide_eq_false (by omega)
   go_enter Try.func48, Try.ntmps48
   go_wp2_with (first | (go_at_call 66; refine (impl_inside.calls _ _ _ _ _ HT.out).mono ?_; rintro e w' ⟨rfl, ⟨nd, rfl⟩⟩) | ((with_reducible refine gate_callee (f := 62) rfl ?_); refine goesL_ (some 16) rfl rfl Try.func62 (by kernel_rfl) rfl #[.slice A0_1 l0_1.length c0_1, .func (.func 73) #[] #[.pointer (some ⟨w.heap.size, 0, none⟩)]] rfl ma ?_; refine (impl_CnfOk.has k A0_1 c0_1 l0_1 _ a0_0 v _ (by simp) (by first | exact Kd.C_drewN (Kd.C_alloc HR0.out _) _ | exact Kd.C_alloc HR0.out _) HV.out).mono ?_; rintro e w' ⟨rfl, hb⟩; refine ⟨_, rfl, ?_⟩))
   go_ret
   exact ⟨rfl, below_step (by (repeat (first | apply pw_below_drewN | apply below_alloc)); exact Below.refl _ _) hb⟩

/-! ### impl_Meets: function 27 -/

def impl_Meets.q (on : List Bool) (n : Int) : Option Bool := if 0 ≤ wrap64 (mx n (wrap64 (-n)) - 1) ∧ wrap64 (mx n (wrap64 (-n)) - 1) < (on.length : Int) then some ((rdOf false on (wrap64 (mx n (wrap64 (-n)) - 1))) == (decide (n > 0))) else none
def impl_Meets.p (on : List Bool) (x : List Int) : Option Bool := (idxG (impl_Meets.q on) x 0).bind fun v => some (!decide (0 ≤ v))
def impl_Meets.f (k : Nat) (a0_0 : Int) (l0_1 : List (List Int)) (l1 : List Bool) : Option (Bool) := (impl_CnfOk.f k a0_0 l0_1).bind fun t => if t = true then (if (l1.length : Int) ≠ a0_0 then some false else (idxG (impl_Meets.p l1) l0_1 0).bind fun v => some (!decide (0 ≤ v))) else some false

set_option maxHeartbeats 2000000 in
set_option maxRecDepth 100000 in
theorem impl_Meets.so (on : List Bool) (AO : Option Addr) (cO : Nat) (n : Int) (t : Bool) (gb : Nat) (w : World) (hc : w.cell? ⟨gb, 0, none⟩ = some (.slice AO on.length cO)) (hr : Kd.C Kd.bool w AO on.length on) (h : impl_Meets.q on n = some t) :
  Calls Try.prog 61 #[.int .i64 n, .pointer (some ⟨gb, 0, none⟩)] w fun e w' => e = .returned (.bool t) ∧ Below w.heap.size w w' := by
 have hlt : gb < w.heap.size := World.block_lt_of_cell? w ⟨gb, 0, none⟩ hc; have hmax := Kd.C_max hr
 unfold impl_Meets.q at h
 obtain ⟨m, hm⟩ : ∃ m, mx n (wrap64 (-n)) = m := ⟨_, rfl⟩; obtain ⟨j, hj⟩ : ∃ j, wrap64 (m - 1) = j := ⟨_, rfl⟩; rw [hm, hj] at h; have hm_ : (if n < wrap64 (-n) then wrap64 (-n) else n) = m := hm; have hjw : IntKind.i64.wrap (m - 1) = j := (i64_w _).trans hj
 by_cases c : 0 ≤ j ∧ j < (on.length : Int)
 ·rw [if_pos c] at h
  obtain rfl := Option.some.inj h; clear h; obtain ⟨p, q⟩ := c; obtain ⟨ad, e, hx⟩ := Kd.at_bool hr j p q
  cases e
  clear hr; replace p := eq_true p; replace q := eq_true q
  go_enter Try.func61, Try.ntmps61
  go_wp2
  go_ret
  exact ⟨by first | rfl | (simp [*]; done), by (repeat (first | apply pw_below_drewN | apply below_alloc)); exact Below.refl _ _⟩
 ·rw [if_neg c] at h
  cases h

set_option maxHeartbeats 2000000 in
set_option maxRecDepth 100000 in
theorem impl_Meets.idx1 (A0 : Option Addr) (c0 : Nat) (l0 : List Int) (on : List Bool) (AO : Option Addr) (cO : Nat) (gb : Nat) (v : Int) (w : World) (hc : w.cell? ⟨gb, 0, none⟩ = some (.slice AO on.length cO)) (hon : Kd.C Kd.bool w AO on.length on) (hr0 : Kd.C (Kd.int .i64) w A0 l0.length l0) (h : idxG (impl_Meets.q on) l0 0 = some v) :
  Calls Try.prog 80 #[.slice A0 l0.length c0, .func (.func 61) #[] #[.pointer (some ⟨gb, 0, none⟩)]] w fun e w' => e = .returned (.int .i64 v) ∧ Below w.heap.size w w' := by
 have hlt : gb < w.heap.size := World.block_lt_of_cell? w ⟨gb, 0, none⟩ hc; have HC := Aside0.mk hc; have HO := Aside0.mk hon; clear hc hon; have hmax := Kd.C_max hr0; have HR0 := Aside0.mk hr0; have HS := Aside0.mk h; clear hr0 h; have eg : ∀ (args : Array Value) (w : World), (callFunc 61 args).run Try.prog w = .ok (.enter 61 args) w := enters_of Try.func61 (by kernel_rfl) rfl
 go_enter Try.func80, Try.ntmps80
 go_wp2
 go_loopg [5, 8] l0.length (fun gg _ s8 wr => ∃ kk : Nat, kk ≤ l0.length ∧ l0.length - kk ≤ gg ∧ s8 = .int .i64 kk ∧ Aside0 (Below w.heap.size w wr) ∧ Aside0 (idxG (impl_Meets.q on) (l0.drop kk) kk = some v))
 case atStart => exact ⟨0, Nat.zero_le _, by omega, rfl, ⟨Below.refl _ w⟩, ⟨HS.out⟩⟩
 case round =>
  obtain ⟨kk, hkk, hg, rfl, HB, HE⟩ := hrel
  by_cases hlt2 : kk < l0.length
  ·have hltz : (kk : Int) < (l0.length : Int) := by omega
   obtain ⟨ad, e0, hx0⟩ := Kd.at_int HR0.out (kk : Int) (by omega) hltz
   cases e0
   replace hx0 := cl HB hx0; rw [Int.toNat_natCast] at hx0; have hcc := (HB.out.cell (p := ⟨gb, 0, none⟩) hlt).trans HC.out; obtain ⟨t, ht, h1, h2⟩ := idxG_drop (impl_Meets.q on) l0 kk hlt2 0 v HE.out
   have ht' : impl_Meets.q on (rd l0 (kk : Int)) = some t := by rw [← ht]; rfl
   have hcall := impl_Meets.so on AO cO (rd l0 (kk : Int)) t gb wr hcc (Kd.C_below HO.out HB.out) ht'; clear hcc ht ht'
   cases t with
   | true =>
    have HV := Aside0.mk (h1 rfl); clear h1 h2
    go_wp2_with (go_at_fn 61; refine hcall.mono ?_; rintro e w' ⟨rfl, hb'⟩)
    go_ret
    exact ⟨by rw [HV.out]; rfl, below_step HB.out hb'⟩
   | false =>
    have HV := Aside0.mk (h2 rfl); clear h1 h2
    go_wp2_with (go_at_fn 61; refine hcall.mono ?_; rintro e w' ⟨rfl, hb'⟩)
    go_roundg (l0.length - (kk + 1))
    case measure => omega
    case rel => exact ⟨kk + 1, by omega, by omega, by go_num, ⟨below_step HB.out hb'⟩, ⟨HV.out⟩⟩
  ·have hltz : ¬ (kk : Int) < (l0.length : Int) := by omega
   have hk : kk = l0.length := by omega
   have hv : v = -1 := by
    have := HE.out; rw [List.drop_eq_nil_of_le (by omega)] at this
    simp only [idxG] at this
    exact (Option.some.inj this).symm
   subst hv
   go_wp2
   go_ret
   exact ⟨rfl, HB.out⟩

set_option maxHeartbeats 2000000 in
set_option maxRecDepth 100000 in
theorem impl_Meets.has1 (A0 : Option Addr) (c0 : Nat) (l0 : List Int) (on : List Bool) (AO : Option Addr) (cO : Nat) (gb : Nat) (v : Int) (w : World) (hc : w.cell? ⟨gb, 0, none⟩ = some (.slice AO on.length cO)) (hon : Kd.C Kd.bool w AO on.length on) (hr0 : Kd.C (Kd.int .i64) w A0 l0.length l0) (h : idxG (impl_Meets.q on) l0 0 = some v) :
  Calls Try.prog 64 #[.slice A0 l0.length c0, .func (.func 61) #[] #[.pointer (some ⟨gb, 0, none⟩)]] w fun e w' => e = .returned (.bool (decide (0 ≤ v))) ∧ Below w.heap.size w w' := by
 have hidx := impl_Meets.idx1 A0 c0 l0 on AO cO gb v w hc hon hr0 h; have hb1 := idxG_bound _ l0 0 v (by omega) h; have hmax := Kd.C_max hr0; clear hc hon hr0 h
 go_enter Try.func64, Try.ntmps64
 go_wp2_with (first | (go_at_call 80; refine hidx.mono ?_; rintro e w' ⟨rfl, hb⟩))
 go_ret
 exact ⟨rfl, hb⟩

set_option maxHeartbeats 2000000 in
set_option maxRecDepth 100000 in
theorem impl_Meets.clo (on : List Bool) (AO : Option Addr) (cO : Nat) (A : Option Addr) (c : Nat) (x : List Int) (t : Bool) (gO gb : Nat) (w : World) (hc : w.cell? ⟨gb, 0, none⟩ = some (.func (.func 61) #[] #[.pointer (some ⟨gO, 0, none⟩)])) (ho : w.cell? ⟨gO, 0, none⟩ = some (.slice AO on.length cO)) (hon : Kd.C Kd.bool w AO on.length on) (hr : Kd.C (Kd.int .i64) w A x.length x) (h : impl_Meets.p on x = some t) :
  Calls Try.prog 63 #[.slice A x.length c, .pointer (some ⟨gb, 0, none⟩)] w fun e w' => e = .returned (.bool t) ∧ Below w.heap.size w w' := by
 have hlt : gb < w.heap.size := World.block_lt_of_cell? w ⟨gb, 0, none⟩ hc
 unfold impl_Meets.p at h
 obtain ⟨v, hv, h⟩ := Option.bind_eq_some_iff.mp h; obtain rfl := Option.some.inj h; have hcall := impl_Meets.has1 A c x on AO cO gO v w ho hon hr hv; clear hr hv h ho hon
 go_enter Try.func63, Try.ntmps63
 go_wp2_with (first | (go_at_call 64; refine hcall.mono ?_; rintro e w' ⟨rfl, hb⟩))
 go_ret
 exact ⟨rfl, hb⟩

set_option maxHeartbeats 2000000 in
set_option maxRecDepth 100000 in
theorem impl_Meets.idx (A0 : Option Addr) (c0 : Nat) (l0 : List (List Int)) (on : List Bool) (AO : Option Addr) (cO : Nat) (gO gb : Nat) (v : Int) (w : World) (hc : w.cell? ⟨gb, 0, none⟩ = some (.func (.func 61) #[] #[.pointer (some ⟨gO, 0, none⟩)])) (ho : w.cell? ⟨gO, 0, none⟩ = some (.slice AO on.length cO)) (hon : Kd.C Kd.bool w AO on.length on) (hr0 : Kd.C (Kd.slice 2 (Kd.int .i64)) w A0 l0.length l0) (h : idxG (impl_Meets.p on) l0 0 = some v) :
  Calls Try.prog 79 #[.slice A0 l0.length c0, .func (.func 63) #[] #[.pointer (some ⟨gb, 0, none⟩)]] w fun e w' => e = .returned (.int .i64 v) ∧ Below w.heap.size w w' := by
 have hlt : gb < w.heap.size := World.block_lt_of_cell? w ⟨gb, 0, none⟩ hc; have hltO : gO < w.heap.size := World.block_lt_of_cell? w ⟨gO, 0, none⟩ ho; have HC := Aside0.mk hc; have HG := Aside0.mk ho; have HO := Aside0.mk hon; clear hc ho hon; have hmax := Kd.C_max hr0; have HR0 := Aside0.mk hr0; have HS := Aside0.mk h; clear hr0 h; have eg : ∀ (args : Array Value) (w : World), (callFunc 63 args).run Try.prog w = .ok (.enter 63 args) w := enters_of Try.func63 (by kernel_rfl) rfl
 go_enter Try.func79, Try.ntmps79
 go_wp2
 go_loopg [5, 8] l0.length (fun gg _ s8 wr => ∃ kk : Nat, kk ≤ l0.length ∧ l0.length - kk ≤ gg ∧ s8 = .int .i64 kk ∧ Aside0 (Below w.heap.size w wr) ∧ Aside0 (idxG (impl_Meets.p on) (l0.drop kk) kk = some v))
 case atStart => exact ⟨0, Nat.zero_le _, by omega, rfl, ⟨Below.refl _ w⟩, ⟨HS.out⟩⟩
 case round =>
  obtain ⟨kk, hkk, hg, rfl, HB, HE⟩ := hrel
  by_cases hlt2 : kk < l0.length
  ·have hltz : (kk : Int) < (l0.length : Int) := by omega
   obtain ⟨ad, A1, c1, e0, hx0, hl0, hi0⟩ := at_L2 HR0.out (kk : Int) (by omega) hltz
   cases e0
   replace hx0 := cl HB hx0; rw [Int.toNat_natCast] at hx0; have hcc := (HB.out.cell (p := ⟨gb, 0, none⟩) hlt).trans HC.out; have hco := (HB.out.cell (p := ⟨gO, 0, none⟩) hltO).trans HG.out; obtain ⟨t, ht, h1, h2⟩ := idxG_drop (impl_Meets.p on) l0 kk hlt2 [] v HE.out
   have ht' : impl_Meets.p on (rd_L2 l0 (kk : Int)) = some t := by rw [← ht]; rfl
   have hcall := impl_Meets.clo on AO cO A1 c1 (rd_L2 l0 (kk : Int)) t gO gb wr hcc hco (Kd.C_below HO.out HB.out) (Kd.C_below hi0 HB.out) ht'; clear hcc hco ht ht' hi0
   cases t with
   | true =>
    have HV := Aside0.mk (h1 rfl); clear h1 h2
    go_wp2_with (go_at_fn 63; refine hcall.mono ?_; rintro e w' ⟨rfl, hb'⟩)
    go_ret
    exact ⟨by rw [HV.out]; rfl, below_step HB.out hb'⟩
   | false =>
    have HV := Aside0.mk (h2 rfl); clear h1 h2
    go_wp2_with (go_at_fn 63; refine hcall.mono ?_; rintro e w' ⟨rfl, hb'⟩)
    go_roundg (l0.length - (kk + 1))
    case measure => omega
    case rel => exact ⟨kk + 1, by omega, by omega, by go_num, ⟨below_step HB.out hb'⟩, ⟨HV.out⟩⟩
  ·have hltz : ¬ (kk : Int) < (l0.length : Int) := by omega
   have hk : kk = l0.length := by omega
   have hv : v = -1 := by
    have := HE.out; rw [List.drop_eq_nil_of_le (by omega)] at this
    simp only [idxG] at this
    exact (Option.some.inj this).symm
   subst hv
   go_wp2
   go_ret
   exact ⟨rfl, HB.out⟩

set_option maxHeartbeats 2000000 in
set_option maxRecDepth 100000 in
theorem impl_Meets.has (A0 : Option Addr) (c0 : Nat) (l0 : List (List Int)) (on : List Bool) (AO : Option Addr) (cO : Nat) (gO gb : Nat) (v : Int) (w : World) (hc : w.cell? ⟨gb, 0, none⟩ = some (.func (.func 61) #[] #[.pointer (some ⟨gO, 0, none⟩)])) (ho : w.cell? ⟨gO, 0, none⟩ = some (.slice AO on.length cO)) (hon : Kd.C Kd.bool w AO on.length on) (hr0 : Kd.C (Kd.slice 2 (Kd.int .i64)) w A0 l0.length l0) (h : idxG (impl_Meets.p on) l0 0 = some v) :
  Calls Try.prog 62 #[.slice A0 l0.length c0, .func (.func 63) #[] #[.pointer (some ⟨gb, 0, none⟩)]] w fun e w' => e = .returned (.bool (decide (0 ≤ v))) ∧ Below w.heap.size w w' := by
 have hidx := impl_Meets.idx A0 c0 l0 on AO cO gO gb v w hc ho hon hr0 h; have hb1 := idxG_bound _ l0 0 v (by omega) h; have hmax := Kd.C_max hr0; clear hc ho hon hr0 h
 go_enter Try.func62, Try.ntmps62
 go_wp2_with (first | (go_at_call 79; refine hidx.mono ?_; rintro e w' ⟨rfl, hb⟩))
 go_ret
 exact ⟨rfl, hb⟩
set_option maxHeartbeats 8000000 in
set_option maxRecDepth 100000 in
theorem impl_Meets.calls (k : Nat) (a0_0 : Int) (A0_1 : Option Addr) (c0_1 : Nat) (l0_1 : List (List Int)) (A1 : Option Addr) (c1 : Nat) (l1 : List Bool) (r : Bool) (w : World) (hr0_1 : Kd.C (Kd.slice 2 (Kd.int .i64)) w A0_1 l0_1.length l0_1) (hc0_1 : l0_1.length ≤ c0_1) (hr1 : Kd.C Kd.bool w A1 l1.length l1) (hc1 : l1.length ≤ c1) (h : impl_Meets.f k a0_0 l0_1 l1 = some r) :
  Calls Try.prog 27 #[.agg #[.int .i64 a0_0, .slice A0_1 l0_1.length c0_1], .slice A1 l1.length c1] w fun e w' => e = .returned (.bool r) ∧ Below w.heap.size w w' := by

 have HR0 := Aside0.mk hr0_1; have HC0 := Aside0.mk hc0_1; have HO := Aside0.mk hr1; have hmax := Kd.C_max hr0_1; have hmax1 := Kd.C_max hr1; clear hr0_1 hc0_1 hr1 hc1; have hu_ := Try.underlying37
 unfold impl_Meets.f at h
 obtain ⟨t, ht, h⟩ := Option.bind_eq_some_iff.mp h; have HT := Aside0.mk ht; clear ht
 cases t with
 | false =>
  obtain rfl := Option.some.inj h; clear h
  go_enter Try.func27, Try.ntmps27
  go_wp2_with (first | (go_at_call 48; refine (impl_CnfOk.calls k a0_0 _ _ l0_1 _ _ (by first | exact Kd.C_alloc (Kd.C_alloc HR0.out _) _ | exact Kd.C_drewN (Kd.C_alloc (Kd.C_alloc HR0.out _) _) _) HC0.out HT.out).mono ?_; rintro e w' ⟨rfl, hb⟩; have hz0 : w'.cell? ⟨w.heap.size, 0, none⟩ = some (.int .i64 a0_0) := (hb.cell (by simp; try omega)).trans (by simp); have hz1 : w'.cell? ⟨w.heap.size, 1, none⟩ = some (.slice A0_1 l0_1.length c0_1) := (hb.cell (by simp; try omega)).trans (by simp); have hz2 : w'.cell? ⟨w.heap.size + 1, 0, none⟩ = some (.slice A1 l1.length c1) := (hb.cell (by simp; try omega)).trans (by simp); have hs0 : w.heap.size < w'.heap.size := World.block_lt_of_cell? w' ⟨w.heap.size, 0, none⟩ hz0; have hs1 : w.heap.size + 1 < w'.heap.size := World.block_lt_of_cell? w' ⟨w.heap.size + 1, 0, none⟩ hz2; have hbw : Below w.heap.size w w' := below_step (by (repeat (first | apply pw_below_drewN | apply below_alloc)); exact Below.refl _ _) hb; clear hb))
  go_ret
  exact ⟨rfl, by first | exact hbw | ((repeat (first | apply pw_below_drewN | apply below_alloc)); exact hbw)⟩
 | true =>
  rw [if_pos rfl] at h
  by_cases c1 : (l1.length : Int) ≠ a0_0
  ·rw [if_pos c1] at h
   obtain rfl := Option.some.inj h; clear h; have c1b : ((l1.length : Int) != a0_0) = true := bne_iff_ne.mpr c1; clear c1
   go_enter Try.func27, Try.ntmps27
   go_wp2_with (first | (go_at_call 48; refine (impl_CnfOk.calls k a0_0 _ _ l0_1 _ _ (by first | exact Kd.C_alloc (Kd.C_alloc HR0.out _) _ | exact Kd.C_drewN (Kd.C_alloc (Kd.C_alloc HR0.out _) _) _) HC0.out HT.out).mono ?_; rintro e w' ⟨rfl, hb⟩; have hz0 : w'.cell? ⟨w.heap.size, 0, none⟩ = some (.int .i64 a0_0) := (hb.cell (by simp; try omega)).trans (by simp); have hz1 : w'.cell? ⟨w.heap.size, 1, none⟩ = some (.slice A0_1 l0_1.length c0_1) := (hb.cell (by simp; try omega)).trans (by simp); have hz2 : w'.cell? ⟨w.heap.size + 1, 0, none⟩ = some (.slice A1 l1.length c1) := (hb.cell (by simp; try omega)).trans (by simp); have hs0 : w.heap.size < w'.heap.size := World.block_lt_of_cell? w' ⟨w.heap.size, 0, none⟩ hz0; have hs1 : w.heap.size + 1 < w'.heap.size := World.block_lt_of_cell? w' ⟨w.heap.size + 1, 0, none⟩ hz2; have hbw : Below w.heap.size w w' := below_step (by (repeat (first | apply pw_below_drewN | apply below_alloc)); exact Below.refl _ _) hb; clear hb))
   go_ret
   exact ⟨rfl, by first | exact hbw | ((repeat (first | apply pw_below_drewN | apply below_alloc)); exact hbw)⟩
  ·rw [if_neg c1] at h
   obtain ⟨v, hv, h⟩ := Option.bind_eq_some_iff.mp h; obtain rfl := Option.some.inj h; have HV := Aside0.mk hv; clear h hv; have c1b : ((l1.length : Int) != a0_0) = false := bne_eq_false_iff_eq.mpr (by omega); clear c1
   go_enter Try.func27, Try.ntmps27
   go_wp2_with (first | (go_at_call 48; refine (impl_CnfOk.calls k a0_0 _ _ l0_1 _ _ (by first | exact Kd.C_alloc (Kd.C_alloc HR0.out _) _ | exact Kd.C_drewN (Kd.C_alloc (Kd.C_alloc HR0.out _) _) _) HC0.out HT.out).mono ?_; rintro e w' ⟨rfl, hb⟩; have hz0 : w'.cell? ⟨w.heap.size, 0, none⟩ = some (.int .i64 a0_0) := (hb.cell (by simp; try omega)).trans (by simp); have hz1 : w'.cell? ⟨w.heap.size, 1, none⟩ = some (.slice A0_1 l0_1.length c0_1) := (hb.cell (by simp; try omega)).trans (by simp); have hz2 : w'.cell? ⟨w.heap.size + 1, 0, none⟩ = some (.slice A1 l1.length c1) := (hb.cell (by simp; try omega)).trans (by simp); have hs0 : w.heap.size < w'.heap.size := World.block_lt_of_cell? w' ⟨w.heap.size, 0, none⟩ hz0; have hs1 : w.heap.size + 1 < w'.heap.size := World.block_lt_of_cell? w' ⟨w.heap.size + 1, 0, none⟩ hz2; have hbw : Below w.heap.size w w' := below_step (by (repeat (first | apply pw_below_drewN | apply below_alloc)); exact Below.refl _ _) hb; clear hb))
   refine (impl_Meets.has A0_1 c0_1 l0_1 l1 A1 c1 (w.heap.size + 1) w'.heap.size v _ (by simp) ((((Below.refl w'.heap.size w').alloc (Nat.le_refl _) _).cell (p := ⟨w.heap.size + 1, 0, none⟩) hs1).trans hz2) (Kd.C_alloc (Kd.C_below HO.out hbw) _) (Kd.C_alloc (Kd.C_below HR0.out hbw) _) HV.out).mono ?_; rintro e w2 ⟨rfl, hb2⟩
   go_wp2
   go_ret
   exact ⟨rfl, below_step (by first | exact hbw | ((repeat (first | apply pw_below_drewN | apply below_alloc)); exact hbw)) hb2⟩

/-! ### spec_l1In: function 44 -/
def spec_l1In.f (a0 : Int) (a1 : Int) (a2 : Int) : Option (Bool) := if a0 ≥ a1 then (some (decide (a0 ≤ a2))) else (some false)
set_option maxHeartbeats 8000000 in
set_option maxRecDepth 100000 in
theorem spec_l1In.calls (a0 : Int) (a1 : Int) (a2 : Int) (r : Bool) (w : World) (h : spec_l1In.f a0 a1 a2 = some r) :
  Calls Try.prog 44 #[.int .i64 a0, .int .i64 a1, .int .i64 a2] w fun e w' => e = .returned (.bool r) ∧ Drawn0 w w' := by
 have H : (if a0 ≥ a1 then (some (decide (a0 ≤ a2))) else (some false)) = some r := h; clear h
 by_cases c4 : a0 ≥ a1
 ·rw [if_pos c4] at H
  have c4b0 : decide (a1 ≤ a0) = true := decide_eq_true c4; clear c4; obtain rfl := Option.some.inj H
  go_enter Try.func44, Try.ntmps44
  go_wp2
  go_ret
  exact ⟨au, dr⟩
 ·rw [if_neg c4] at H
  have c4b0 : decide (a1 ≤ a0) = false := decide_eq_false c4; clear c4; obtain rfl := Option.some.inj H
  go_enter Try.func44, Try.ntmps44
  go_wp2
  go_ret
  exact ⟨au, dr⟩

/-! ### spec_l18Abs: function 60 -/
def spec_l18Abs.f (a0 : Int) : Option (Int) := some (mx a0 (wrap64 (-a0)))
set_option maxHeartbeats 8000000 in
set_option maxRecDepth 100000 in
theorem spec_l18Abs.calls (a0 : Int) (r : Int) (w : World) (h : spec_l18Abs.f a0 = some r) :
  Calls Try.prog 60 #[.int .i64 a0] w fun e w' => e = .returned (.int .i64 r) ∧ Below w.heap.size w w' := by
 have HB := Aside0.mk (Below.refl w.heap.size w); have H : (some (mx a0 (wrap64 (-a0)))) = some r := h; clear h; obtain ⟨ji2, hji2⟩ : ∃ j_ : Int, (mx a0 (wrap64 (-a0))) = j_ := ⟨_, rfl⟩
 replace H : (some ji2) = some r := by first | (rw [hji2] at H; exact H) | (simp only [hji2] at H ⊢; exact H)
 have hji2_ : (if a0 < (wrap64 (-a0)) then (wrap64 (-a0)) else a0) = ji2 := hji2; obtain rfl := Option.some.inj H
 go_enter Try.func60, Try.ntmps60
 go_wp2
 go_ret
 exact ⟨by first | rfl | (simp [errW_none, errW_some] <;> rfl) | (simp only [← hji2]; first | rfl | (simp [errW_none, errW_some] <;> rfl)) | (simp [*, errW_none, errW_some] <;> rfl), bl HB⟩

end Go.Proofs.Ytpkclocdenagcaa.PFnSettled
