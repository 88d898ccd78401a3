/- The program's BitsOf answers as the reference's BitsOf does, for every width and every number. -/
import Derived.Test.YtfjknhmepgfhaaaPFnExactBitsOfx3
import Derived.Test.YtfjknhmepgfhaaaBits
import Derived.Test.YtfjknhmepgfhaaaLoops
namespace Go.Proofs.Ytfjknhmepgfhaaa.Pure
open Go Go.RowKit Go.Proofs.Ytfjknhmepgfhaaa.PFnExactBitsOf Go.Proofs.YtfjknhmepgfhaaaW.PrintWords Go.Proofs.YtfjknhmepgfhaaaW.PrintLast Go.Proofs.YtfjknhmepgfhaaaW.PrintMore Go.Proofs.Ytfjknhmepgfhaaa.BitsLib Go.Proofs.Ytfjknhmepgfhaaa.Loops
set_option linter.unusedVariables false
set_option linter.unusedSimpArgs false
set_option maxRecDepth 4000

/-! eqUint64S -/
theorem eqUint64S_ev (l m : List Int) (hl : l.length ≤ 1048576) : Ev (fun k => laws_eqUint64S.f k l m) (decide (l = m)) := by
  by_cases hlen : l.length = m.length
  · have := all_loop l.length (l = m) (fun i => rd l i != rd m i) (fun k i => laws_eqUint64S.l0 k l m i) false true
      (fun i hi hp => Ev.step (f := fun _ => some false) (fun k => by
        simp only [laws_eqUint64S.l0]
        rw [if_pos (by omega), if_pos (by omega), if_pos (by omega), if_neg (by simpa using hp)]) (Ev.now _))
      (fun i hi hp r h => Ev.step (fun k => by
        simp only [laws_eqUint64S.l0]
        rw [if_pos (by omega), if_pos (by omega), if_pos (by omega), if_pos (by simpa using hp), wrap64_id (by omega) (by omega)]) h)
      (Ev.step (f := fun _ => some true) (fun k => by
        simp only [laws_eqUint64S.l0]
        rw [if_neg (by omega)]) (Ev.now _))
      ⟨fun h j hj => by rw [h]; simp, fun h => ext_rd hlen fun i hi => by simpa using h i hi⟩
    have e : decide (l = m) = if l = m then true else false := by by_cases h : l = m <;> simp [h]
    rw [e]
    refine Ev.congr (fun k => ?_) this
    unfold laws_eqUint64S.f
    rw [if_pos (by omega)]
  · have e : decide (l = m) = false := decide_eq_false (fun h => hlen (by rw [h]))
    rw [e]
    exact Ev.congr (fun k => by unfold laws_eqUint64S.f; rw [if_neg (by omega)]) (Ev.now _)

/-! eqBits -/
theorem eqBits_ev (w : Int) (l : List Int) (hl : l.length ≤ 1048576) : Ev (fun k => laws_eqBits.f k w l w l) true := by
  obtain ⟨K, h⟩ := eqUint64S_ev l l hl
  refine ⟨K, fun k hk => ?_⟩
  have h := h k hk
  dsimp only at h ⊢
  unfold laws_eqBits.f
  rw [if_pos rfl, h]
  simp

/-! marks -/
/-- What stands in a row of words that was marked. -/
def markedL (l : List Int) (m : Int) : List Int := (List.range l.length).map fun i => IntKind.u64.wrap (m + (i : Nat))
theorem markedL_len (l : List Int) (m : Int) : (markedL l m).length = l.length := by simp [markedL]
theorem markedL_rd (l : List Int) (m : Int) (i : Nat) (h : i < l.length) : rd (markedL l m) i = IntKind.u64.wrap (m + i) := by
  rw [rd_getD, List.getD_eq_getElem?_getD, Int.toNat_natCast, markedL, List.getElem?_map, List.getElem?_range h]; rfl

/-! markUint64S -/
theorem markUint64S_ev (l : List Int) (m : Int) (hl : l.length ≤ 1048576) (h0 : 0 ≤ m) (h1 : m ≤ 1000000000) : Ev (fun k => laws_markUint64S.f k l m) (m + l.length, markedL l m) := by
  have main := up_loop l.length (fun i => (m + (i : Nat), filled (fun i => IntKind.u64.wrap (m + (i : Nat))) l i)) (fun k s i => laws_markUint64S.l0 k s.2 s.1 i)
    (fun i hi r h => Ev.step (fun k => by
      simp only [laws_markUint64S.l0]
      rw [if_pos (by rw [filled_len _ _ (by omega)]; omega), if_pos (by omega), Int.toNat_natCast, filled_set _ _ hi, wrap64_id (by omega) (by omega), wrap64_id (by omega) (by omega), show m + (i : Int) + 1 = m + ((i + 1 : Nat) : Int) by omega]) h)
    (m + l.length, markedL l m) (Ev.step (f := fun _ => some (m + l.length, markedL l m)) (fun k => by
      simp only [laws_markUint64S.l0]
      rw [if_neg (by rw [filled_len _ _ (Nat.le_refl _)]; omega), filled_all _ _ rfl]; rfl) (Ev.now _))
  simp only [filled_zero] at main
  exact Ev.congr (fun k => by unfold laws_markUint64S.f; simp) main

/-! heldUint64S -/
theorem heldUint64S_ev (l : List Int) (m : Int) (hl : l.length ≤ 1048576) (h0 : 0 ≤ m) (h1 : m ≤ 1000000000) : Ev (fun k => laws_heldUint64S.f k (markedL l m) m) (m + l.length) := by
  have main := up_loop l.length (fun i => (m + (i : Nat))) (fun k s i => laws_heldUint64S.l0 k (markedL l m) s i)
    (fun i hi r h => Ev.step (fun k => by
      simp only [laws_heldUint64S.l0]
      rw [if_pos (by rw [markedL_len]; omega), if_pos (by omega), if_pos (markedL_rd l m i hi), wrap64_id (by omega) (by omega), wrap64_id (by omega) (by omega), show m + (i : Int) + 1 = m + ((i + 1 : Nat) : Int) by omega]) h)
    (m + l.length) (Ev.step (f := fun _ => some (m + l.length)) (fun k => by
      simp only [laws_heldUint64S.l0]
      rw [if_neg (by rw [markedL_len]; omega)]) (Ev.now _))
  exact Ev.congr (fun k => by unfold laws_heldUint64S.f; simp) main

/-! markBits -/
theorem markBits_ev (w : Int) (l : List Int) (m : Int) (hl : l.length ≤ 1048576) (h0 : 0 ≤ m) (h1 : m ≤ 1000000000) : Ev (fun k => laws_markBits.f k w l m) (m + l.length, markedL l m) := by
  obtain ⟨K, h⟩ := markUint64S_ev l m hl h0 h1
  exact ⟨K, fun k hk => by have h := h k hk; dsimp only at h ⊢; unfold laws_markBits.f; rw [h]; rfl⟩

/-! heldBits -/
theorem heldBits_ev (w : Int) (l : List Int) (m : Int) (hl : l.length ≤ 1048576) (h0 : 0 ≤ m) (h1 : m ≤ 1000000000) : Ev (fun k => laws_heldBits.f k w (markedL l m) m) (m + l.length) := by
  obtain ⟨K, h⟩ := heldUint64S_ev l m hl h0 h1
  refine ⟨K, fun k hk => ?_⟩
  have h := h k hk
  dsimp only at h ⊢
  unfold laws_heldBits.f
  rw [h]
  simp only [Option.bind_some]
  rw [if_neg (by omega)]

/-! implInside -/
theorem inside_eq (a b c : Int) : impl_inside.f a b c = some (decide (b ≤ a ∧ a ≤ c)) := by
  unfold impl_inside.f
  by_cases h1 : b ≤ a
  · rw [if_pos h1]; simp [h1]
  · rw [if_neg h1]; simp [h1]

/-! specIn -/
theorem l1In_eq (a b c : Int) : spec_l1In.f a b c = some (decide (b ≤ a ∧ a ≤ c)) := by
  unfold spec_l1In.f
  by_cases h1 : b ≤ a
  · rw [if_pos h1]; simp [h1]
  · rw [if_neg h1]; simp [h1]

/-! wordsFor -/
theorem wordsFor_eq (w : Int) (h0 : 0 ≤ w) (h1 : w ≤ 1000000000) : impl_wordsFor.f w = some ((w + 63) / 64) := by
  unfold impl_wordsFor.f
  rw [wrap64_id (x := w + 63) (by omega) (by omega), Int.tdiv_eq_ediv_of_nonneg (by omega), wrap64_id (by omega) (by omega)]

/-! packs -/
/-- ws is the row whose bits are z. -/
structure Packs (z : List Int) (ws : List Int) : Prop where
  right : Right (z.length : Int) ws
  bit : ∀ j, j < z.length → bitN ws j = decide (rd z (j : Int) = 1)
theorem Packs.uniq {z ws ws' : List Int} (h : Packs z ws) (k : Packs z ws') : ws = ws' :=
  h.right.ext k.right fun i hi => by rw [h.bit i (by omega), k.bit i (by omega)]
theorem packs_of {w : Int} {z ws : List Int} (hw : w = z.length) (h : Right w ws) (hb : ∀ j, j < z.length → bitN ws j = decide (rd z (j : Int) = 1)) : Packs z ws := by
  subst hw
  exact ⟨h, hb⟩

/-! l1From -/
theorem l1From_ev (z : List Int) (h01 : Bits01 z) (h1 : 1 ≤ z.length) (h2 : z.length ≤ 4096) :
    ∃ ws, Ev (fun k => spec_l1From.f k z) ((z.length : Int), ws, true) ∧ Packs z ws := by
  have ew : wrap64 (Int.tdiv (wrap64 ((z.length : Int) + 63)) 64) = ((z.length : Int) + 63) / 64 := by
    rw [wrap64_id (x := (z.length : Int) + 63) (by omega) (by omega), Int.tdiv_eq_ediv_of_nonneg (by omega), wrap64_id (by omega) (by omega)]
  obtain ⟨ws, hI, hr⟩ := inv_loop z.length (fun i (ws : List Int) => (ws.length : Int) = ((z.length : Int) + 63) / 64 ∧ U64s ws ∧ ∀ j, bitN ws j = (decide (j < i) && decide (rd z (j : Int) = 1)))
    (fun k ws i => spec_l1From.l0 k z i (z.length : Int) ws)
    (fun i hi ws ⟨hl, hu, hb⟩ => by
      have hk : i / 64 < ws.length := by omega
      have e1 : wrap64 (Int.tdiv (i : Int) 64) = ((i / 64 : Nat) : Int) := by
        rw [Int.tdiv_eq_ediv_of_nonneg (by omega), wrap64_id (by omega) (by omega)]; omega
      have e2 : IntKind.u64.wrap (Int.tmod (i : Int) 64) = ((i % 64 : Nat) : Int) := by
        rw [Int.tmod_eq_emod_of_nonneg (by omega), wrap_u64_id (by omega) (by omega)]; omega
      have hz := rd_01 h01 (i : Int)
      have e3 : IntKind.u64.wrap (rd z (i : Int)) = rd z (i : Int) := wrap_u64_id (by omega) (by omega)
      have hzw : W64 (rd z (i : Int)) := by unfold W64; omega
      have hs := shl_nat hzw (i % 64)
      have ho := or_w64 (rd_w64 hu ((i / 64 : Nat) : Int)) hs.1
      refine ⟨ws.set (i / 64) (Go.bits .or .u64 (rd ws ((i / 64 : Nat) : Int)) (shl .u64 (rd z (i : Int)) ((i % 64 : Nat) : Int))), ⟨by simpa using hl, hu.set _ ho.1, fun j => ?_⟩, fun r h => Ev.step (fun k => ?_) h⟩
      · rw [bitN_set hk]
        by_cases hj : j / 64 = i / 64
        · have e4 : (rd ws ((i / 64 : Nat) : Int)).toNat.testBit (j % 64) = bitN ws j := by unfold bitN; rw [hj]; rfl
          rw [if_pos hj, ho.2, hs.2 _ (by omega), e4, hb, testBit_01 hz]
          by_cases hji : j = i
          · subst hji
            simp
          · have e5 : (decide (i % 64 ≤ j % 64) && decide (j % 64 - i % 64 = 0)) = false := by
              by_cases hle : i % 64 ≤ j % 64
              · rw [decide_eq_false (show ¬ j % 64 - i % 64 = 0 by omega)]; simp
              · rw [decide_eq_false hle]; simp
            rw [← Bool.and_assoc, e5]
            by_cases hlt : j < i
            · simp [hlt, show j < i + 1 by omega]
            · simp [hlt, show ¬ j < i + 1 by omega]
        · rw [if_neg hj, hb]
          have : j ≠ i := fun e => hj (by rw [e])
          by_cases hji : j < i
          · simp [hji, show j < i + 1 by omega]
          · simp [hji, show ¬ j < i + 1 by omega]
      · simp only [spec_l1From.l0]
        rw [if_pos (by omega), e1, e2, e3, if_pos (by omega), if_pos (by omega), if_pos (by omega), if_pos (by omega), wrap64_id (by omega) (by omega), Int.toNat_natCast])
    (List.replicate (((z.length : Int) + 63) / 64).toNat 0) ⟨by simp; omega, U64s.replicate _, fun j => by rw [bitN_replicate]; simp⟩
  obtain ⟨hl, hu, hb⟩ := hI
  have hright : Right (z.length : Int) ws := ⟨by omega, by omega, by omega, hu, fun i hi => by rw [hb]; simp; omega⟩
  refine ⟨ws, ?_, hright, fun j hj => by rw [hb]; simp [hj]⟩
  have := hr ((z.length : Int), ws, true) (Ev.step (f := fun _ => some ((z.length : Int), ws, true)) (fun k => by simp only [spec_l1From.l0]; rw [if_neg (by omega)]) (Ev.now _))
  obtain ⟨K, hK⟩ := this
  refine ⟨K + 1, fun k hk => ?_⟩
  obtain ⟨m, rfl⟩ : ∃ m, k = m + 1 := ⟨k - 1, by omega⟩
  dsimp only
  unfold spec_l1From.f
  rw [if_neg (by omega), decide_eq_false (by omega)]
  simp only [spec_l1From.j0]
  rw [if_neg (by simp), ew, if_pos (by omega), if_pos (by omega)]
  exact hK m (by omega)
theorem l1From_none (z : List Int) (h : z.length < 1 ∨ 4096 < z.length) : Ev (fun k => spec_l1From.f k z) (0, [], false) := by
  refine ⟨1, fun k hk => ?_⟩
  obtain ⟨m, rfl⟩ : ∃ m, k = m + 1 := ⟨k - 1, by omega⟩
  dsimp only
  unfold spec_l1From.f
  by_cases h1 : (z.length : Int) < 1
  · rw [if_pos h1]; simp [spec_l1From.j0]
  · rw [if_neg h1, decide_eq_true (by omega)]; simp [spec_l1From.j0]

/-! specBitsOf -/
def digitsL (n : Int) (w : Nat) : List Int := (List.range w).map fun i => n / 2 ^ i % 2
theorem digitsL_01 (n : Int) (w : Nat) : Bits01 (digitsL n w) := by
  intro x hx
  simp [digitsL] at hx
  obtain ⟨i, _, rfl⟩ := hx
  omega
theorem digitsL_rd (n : Int) (w : Nat) (i : Nat) (h : i < w) : rd (digitsL n w) (i : Int) = n / 2 ^ i % 2 := by
  rw [rd_getD, List.getD_eq_getElem?_getD, Int.toNat_natCast]; simp [digitsL, h]
theorem digitsL_succ (n : Int) (i : Nat) : digitsL n i ++ [n / 2 ^ i % 2] = digitsL n (i + 1) := by simp [digitsL, List.range_succ]
theorem div_pow_lt (n : Int) (h0 : 0 ≤ n) (i : Nat) : 0 ≤ n / 2 ^ i ∧ n / 2 ^ i ≤ n := by
  have hp : (0 : Int) < 2 ^ i := Int.pow_pos (by decide)
  exact ⟨Int.ediv_nonneg h0 (by omega), Int.ediv_le_self _ h0⟩
theorem specBitsOf_ev (w n : Int) (hn : n ≤ 9223372036854775807) :
    (¬ (1 ≤ w ∧ w ≤ 4096 ∧ 0 ≤ n ∧ n / 2 ^ w.toNat = 0) ∧ Ev (fun k => spec_BitsOf.f k w n) (0, [], false)) ∨
    (1 ≤ w ∧ w ≤ 4096 ∧ 0 ≤ n ∧ n / 2 ^ w.toNat = 0 ∧ ∃ ws, Packs (digitsL n w.toNat) ws ∧ Ev (fun k => spec_BitsOf.f k w n) (w, ws, true)) := by
  have bad : (w < 1 ∨ 4096 < w ∨ n < 0) → Ev (fun k => spec_BitsOf.f k w n) (0, [], false) := by
    intro h
    refine ⟨1, fun k hk => ?_⟩
    obtain ⟨m, rfl⟩ : ∃ m, k = m + 1 := ⟨k - 1, by omega⟩
    dsimp only
    unfold spec_BitsOf.f
    rw [l1In_eq]
    simp only [Option.bind_some]
    by_cases hin : 1 ≤ w ∧ w ≤ 4096
    · rw [if_pos (decide_eq_true hin), decide_eq_true (by omega)]; simp [spec_BitsOf.j0]
    · rw [if_neg (by simpa using hin)]; simp [spec_BitsOf.j0]
  by_cases hin : 1 ≤ w ∧ w ≤ 4096 ∧ 0 ≤ n
  · obtain ⟨h1, h2, h3⟩ := hin
    have main : ∀ r, Ev (fun k => spec_BitsOf.l0 k w (n / 2 ^ w.toNat) (digitsL n w.toNat) w) r → Ev (fun k => spec_BitsOf.f k w n) r := by
      intro r hr
      have := up_loop w.toNat (fun i => (n / 2 ^ i, digitsL n i)) (fun k s i => spec_BitsOf.l0 k w s.1 s.2 i)
        (fun i hi r hr => Ev.step (fun k => by
          have hb := div_pow_lt n h3 i
          have hb2 := div_pow_lt n h3 (i + 1)
          have e : n / 2 ^ i / 2 = n / 2 ^ (i + 1) := by rw [Int.ediv_ediv_of_nonneg (Int.le_of_lt (Int.pow_pos (by decide))), ← Int.pow_succ]
          simp only [spec_BitsOf.l0]
          rw [if_pos (by omega), if_pos (by simp [digitsL]; omega), Int.tdiv_eq_ediv_of_nonneg hb.1, Int.tmod_eq_emod_of_nonneg hb.1, e, wrap64_id (x := n / 2 ^ (i + 1)) (by omega) (by omega),
            show n / 2 ^ i % 2 % 256 = n / 2 ^ i % 2 by omega, digitsL_succ, wrap64_id (by omega) (by omega)]) hr)
        r (by simpa [show (w.toNat : Int) = w by omega] using hr)
      obtain ⟨K, hK⟩ := this
      refine ⟨K + 1, fun k hk => ?_⟩
      obtain ⟨m, rfl⟩ : ∃ m, k = m + 1 := ⟨k - 1, by omega⟩
      dsimp only
      unfold spec_BitsOf.f
      rw [l1In_eq, decide_eq_true (by omega)]
      simp only [Option.bind_some, if_true]
      rw [decide_eq_false (by omega)]
      simp only [spec_BitsOf.j0]
      have := hK m (by omega)
      simpa [digitsL] using this
    have hb := div_pow_lt n h3 w.toNat
    by_cases hz : n / 2 ^ w.toNat = 0
    · right
      have hlen : (digitsL n w.toNat).length = w.toNat := by simp [digitsL]
      obtain ⟨ws, hws, hp⟩ := l1From_ev (digitsL n w.toNat) (digitsL_01 _ _) (by omega) (by omega)
      refine ⟨h1, h2, h3, hz, ws, hp, main _ ?_⟩
      obtain ⟨K, hK⟩ := hws
      refine ⟨K + 1, fun k hk => ?_⟩
      obtain ⟨m, rfl⟩ : ∃ m, k = m + 1 := ⟨k - 1, by omega⟩
      dsimp only
      simp only [spec_BitsOf.l0]
      have hK := hK m (by omega)
      dsimp only at hK
      rw [if_neg (by omega), if_neg (by omega), hK]
      simp only [Option.bind_some]
      rw [hlen, show (w.toNat : Int) = w by omega]
    · left
      refine ⟨fun h => hz h.2.2.2, main _ (Ev.step (f := fun _ => some (0, [], false)) (fun k => ?_) (Ev.now _))⟩
      simp only [spec_BitsOf.l0]
      rw [if_neg (by omega), if_pos (by omega)]
  · exact .inl ⟨fun h => hin ⟨h.1, h.2.1, h.2.2.1⟩, bad (by omega)⟩

/-! zeroBits -/
theorem zeroBits_eq (w : Int) (h0 : 0 ≤ w) (h1 : w ≤ 1000000) : impl_zeroBits.f w = some (w, List.replicate ((w + 63) / 64).toNat 0) := by
  unfold impl_zeroBits.f
  rw [wordsFor_eq w h0 (by omega)]
  simp only [Option.bind_some]
  rw [if_pos (by omega), if_pos (by omega)]

/-! implBitsOf -/
theorem digits_word (w n : Int) (hw : 1 ≤ w) (hw2 : w ≤ 4096) (h0 : 0 ≤ n) (hn : n ≤ 9223372036854775807) (hz : n / 2 ^ w.toNat = 0) :
    Packs (digitsL n w.toNat) ((List.replicate ((w + 63) / 64).toNat 0).set 0 n) := by
  have hlen : (digitsL n w.toNat).length = w.toNat := by simp [digitsL]
  obtain ⟨a, rfl⟩ := Int.eq_ofNat_of_zero_le h0
  have hlt : a < 2 ^ w.toNat := by
    have : ((a / 2 ^ w.toNat : Nat) : Int) = 0 := by rw [Int.natCast_ediv]; simpa using hz
    have h2 : a / 2 ^ w.toNat = 0 := by omega
    have hp : 0 < 2 ^ w.toNat := Nat.two_pow_pos _
    rcases Nat.div_eq_zero_iff.1 h2 with h | h <;> omega
  have hb : ∀ j, bitN ((List.replicate ((w + 63) / 64).toNat 0).set 0 (a : Int)) j = a.testBit j := by
    intro j
    rw [bitN_set (by simp; omega), Int.toNat_natCast]
    by_cases hj : j / 64 = 0
    · rw [if_pos hj, show j % 64 = j by omega]
    · rw [if_neg hj, bitN_replicate, Nat.testBit_lt_two_pow]
      have : 2 ^ 64 ≤ 2 ^ j := Nat.pow_le_pow_right (by decide) (by omega)
      omega
  refine packs_of (w := w) (by omega) ⟨hw, hw2, by simp; omega, (U64s.replicate _).set _ (by unfold W64; omega), fun i hi => ?_⟩ fun j hj => ?_
  · rw [hb]
    exact Nat.testBit_lt_two_pow (Nat.lt_of_lt_of_le hlt (Nat.pow_le_pow_right (by decide) (by omega)))
  · rw [hb, digitsL_rd _ _ _ (by omega)]
    have e : ((a : Int) / 2 ^ j % 2) = ((a / 2 ^ j % 2 : Nat) : Int) := by simp
    rw [e, Nat.testBit_eq_decide_div_mod_eq]
    congr 1
    exact propext ⟨fun h => by omega, fun h => by omega⟩
theorem implBitsOf_eq (w n : Int) (hn : n ≤ 9223372036854775807) (hn0 : -9223372036854775808 ≤ n) :
    impl_BitsOf.f w n = some (if 1 ≤ w ∧ w ≤ 4096 ∧ 0 ≤ n ∧ n / 2 ^ w.toNat = 0 then (w, (List.replicate ((w + 63) / 64).toNat 0).set 0 n, true) else (0, [], false)) := by
  unfold impl_BitsOf.f
  rw [inside_eq]
  simp only [Option.bind_some]
  by_cases hin : 1 ≤ w ∧ w ≤ 4096
  · rw [if_pos (decide_eq_true hin)]
    by_cases h0 : n < 0
    · rw [if_pos h0, if_neg (by omega)]
    · rw [if_neg h0, zeroBits_eq w (by omega) (by omega)]
      have hlen : 0 < ((List.replicate ((w + 63) / 64).toNat (0 : Int)).length : Int) := by simp; omega
      have hwn : IntKind.u64.wrap n = n := wrap_u64_id (by omega) (by omega)
      simp only [Option.bind_some, hwn]
      rw [if_pos hlen]
      have esh : w < 64 → shr .i64 n w = n / 2 ^ w.toNat := fun h => by
        unfold shr
        rw [show IntKind.i64.bits = 64 from rfl, Nat.min_eq_left (by omega)]
      by_cases h63 : w < 63
      · rw [if_pos h63, if_pos (by omega), esh (by omega)]
        by_cases hz : n / 2 ^ w.toNat = 0
        · rw [if_pos hz, if_pos ⟨hin.1, hin.2, by omega, hz⟩]; rfl
        · rw [if_neg hz, if_neg (fun h => hz h.2.2.2)]
      · rw [if_neg h63, if_pos]
        · rfl
        · refine ⟨hin.1, hin.2, by omega, ?_⟩
          have hp : (2 : Int) ^ 63 ≤ 2 ^ w.toNat := by exact_mod_cast Nat.pow_le_pow_right (by decide : 0 < 2) (by omega : 63 ≤ w.toNat)
          exact Int.ediv_eq_zero_of_lt (by omega) (by omega)
  · rw [if_neg (by simpa using hin), if_neg (fun h => hin ⟨h.1, h.2.1⟩)]
-- SAYS: The program's BitsOf answers as the reference's BitsOf does, for every width and every number.
theorem FnExactBitsOf (a0 a1 : Int) (q0 : (Lit.int .i64 a0).wf = true) (q1 : (Lit.int .i64 a1).wf = true) : ∃ k, laws_FnExactBitsOf.f k a0 a1 = some true := by
  have hw := wf_i64 q0
  have hn := wf_i64 q1
  have tail : ∀ (w : Int) (ws : List Int) (ok : Bool), ws.length ≤ 1048576 → Ev (fun k => spec_BitsOf.f k a0 a1) (w, ws, ok) → impl_BitsOf.f a0 a1 = some (w, ws, ok) → ∃ k, laws_FnExactBitsOf.f k a0 a1 = some true := by
    intro w ws ok hl h1 h2
    obtain ⟨K1, h1⟩ := h1
    obtain ⟨K2, h3⟩ := eqBits_ev w ws hl
    obtain ⟨K3, h4⟩ := markBits_ev w ws 1 hl (by decide) (by decide)
    obtain ⟨K4, h5⟩ := heldBits_ev w ws 1 hl (by decide) (by decide)
    refine ⟨K1 + K2 + K3 + K4 + 1 + 1, ?_⟩
    simp (disch := omega) only [laws_FnExactBitsOf.f, laws_FnExactBitsOf.j0, laws_FnExactBitsOf.j1, h1, h2, h3, h4, h5, Option.bind_some, bne_self_eq_false, Bool.false_eq_true, if_true, if_false, if_neg]
  rcases specBitsOf_ev a0 a1 hn.2 with ⟨hno, h⟩ | ⟨h1, h2, h3, h4, ws, hp, h⟩
  · exact tail 0 [] false (by simp) h (by rw [implBitsOf_eq a0 a1 hn.2 hn.1, if_neg hno])
  · have := hp.uniq (digits_word a0 a1 h1 h2 h3 hn.2 h4)
    subst this
    exact tail a0 _ true (by simp; omega) h (by rw [implBitsOf_eq a0 a1 hn.2 hn.1, if_pos ⟨h1, h2, h3, h4⟩])

end Go.Proofs.Ytfjknhmepgfhaaa.Pure
