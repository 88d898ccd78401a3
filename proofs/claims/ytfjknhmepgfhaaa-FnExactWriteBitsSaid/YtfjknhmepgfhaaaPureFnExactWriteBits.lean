/- The program's WriteBits answers as the reference's WriteBits does, for every row of bits. -/
import Derived.Test.YtfjknhmepgfhaaaPFnExactWriteBitsx4
import Derived.Test.YtfjknhmepgfhaaaBits
import Derived.Test.YtfjknhmepgfhaaaLoops
namespace Go.Proofs.Ytfjknhmepgfhaaa.Pure
open Go Go.RowKit Go.Proofs.Ytfjknhmepgfhaaa.PFnExactWriteBits Go.Proofs.YtfjknhmepgfhaaaW.PrintWords Go.Proofs.YtfjknhmepgfhaaaW.PrintLast Go.Proofs.YtfjknhmepgfhaaaW.PrintMore Go.Proofs.Ytfjknhmepgfhaaa.BitsLib Go.Proofs.Ytfjknhmepgfhaaa.Loops
set_option linter.unusedVariables false
set_option linter.unusedSimpArgs false
set_option maxRecDepth 4000

/-! sz64 -/
theorem szUint64S_eq (l : List Int) (left : Int) (hl : l.length ≤ 9223372036854775807) (h0 : 0 ≤ left) (h1 : left ≤ 1048576) :
    laws_szUint64S.f l left = some (if left - l.length < 0 then -1 else left - l.length) := by
  unfold laws_szUint64S.f
  rw [wrap64_id (by omega) (by omega)]
  split <;> rfl

/-! szBits -/
theorem szBits_eq (w : Int) (l : List Int) (left : Int) (hl : l.length ≤ 9223372036854775807) (h0 : 0 ≤ left) (h1 : left ≤ 1048576) :
    laws_szBits.f w l left = some (if left - l.length < 0 then -1 else left - l.length) := by
  unfold laws_szBits.f
  rw [szUint64S_eq l left hl h0 h1]
  simp only [Option.bind_some]
  split
  · rfl
  · rfl

/-! toUint64S -/
theorem toUint64S_ev (l : List Int) (hl : l.length ≤ 1048576) : Ev (fun k => laws_toUint64S.f k l) l := by
  have main := up_loop l.length (filled (fun i => rd l i) (List.replicate l.length 0)) (fun k xs i => laws_toUint64S.l0 k l xs i)
    (fun i hi r h => Ev.step (fun k => by
      simp only [laws_toUint64S.l0]
      rw [if_pos (by omega), if_pos (by omega), if_pos (by rw [filled_len _ _ (by simp; omega)]; simp; omega), Int.toNat_natCast, filled_set _ _ (by simpa using hi), wrap64_id (by omega) (by omega)]) h)
    l (Ev.step (f := fun _ => some l) (fun k => by
      simp only [laws_toUint64S.l0]
      rw [if_neg (by omega), filled_all _ _ (by simp), list_of_rd]) (Ev.now l))
  rw [filled_zero] at main
  refine Ev.congr (fun k => ?_) main
  unfold laws_toUint64S.f
  rw [if_pos (by omega), if_pos (by omega), Int.toNat_natCast]

/-! toBits -/
theorem toBits_ev (w : Int) (l : List Int) (hl : l.length ≤ 1048576) : Ev (fun k => laws_toBits.f k w l) (w, l) := by
  obtain ⟨K, h⟩ := toUint64S_ev l hl
  refine ⟨K, fun k hk => ?_⟩
  have h := h k hk
  dsimp only at h ⊢
  unfold laws_toBits.f
  rw [h]; rfl

/-! eqUint64S -/
theorem eqUint64S_ev (l m : List Int) (hl : l.length ≤ 1048576) : Ev (fun k => laws_eqUint64S.f k l m) (decide (l = m)) := by
  by_cases hlen : l.length = m.length
  · have := all_loop l.length (l = m) (fun i => rd l i != rd m i) (fun k i => laws_eqUint64S.l0 k l m i) false true
      (fun i hi hp => Ev.step (f := fun _ => some false) (fun k => by
        simp only [laws_eqUint64S.l0]
        rw [if_pos (by omega), if_pos (by omega), if_pos (by omega), if_neg (by simpa using hp)]) (Ev.now _))
      (fun i hi hp r h => Ev.step (fun k => by
        simp only [laws_eqUint64S.l0]
        rw [if_pos (by omega), if_pos (by omega), if_pos (by omega), if_pos (by simpa using hp), wrap64_id (by omega) (by omega)]) h)
      (Ev.step (f := fun _ => some true) (fun k => by
        simp only [laws_eqUint64S.l0]
        rw [if_neg (by omega)]) (Ev.now _))
      ⟨fun h j hj => by rw [h]; simp, fun h => ext_rd hlen fun i hi => by simpa using h i hi⟩
    have e : decide (l = m) = if l = m then true else false := by by_cases h : l = m <;> simp [h]
    rw [e]
    refine Ev.congr (fun k => ?_) this
    unfold laws_eqUint64S.f
    rw [if_pos (by omega)]
  · have e : decide (l = m) = false := decide_eq_false (fun h => hlen (by rw [h]))
    rw [e]
    exact Ev.congr (fun k => by unfold laws_eqUint64S.f; rw [if_neg (by omega)]) (Ev.now _)

/-! eqBits -/
theorem eqBits_ev (w : Int) (l : List Int) (hl : l.length ≤ 1048576) : Ev (fun k => laws_eqBits.f k w l w l) true := by
  obtain ⟨K, h⟩ := eqUint64S_ev l l hl
  refine ⟨K, fun k hk => ?_⟩
  have h := h k hk
  dsimp only at h ⊢
  unfold laws_eqBits.f
  rw [if_pos rfl, h]
  simp

/-! okB -/
noncomputable def okB (w : Int) (l : List Int) : Bool := @decide (Right w l) (Classical.propDecidable _)
theorem okB_true {w : Int} {l : List Int} (h : Right w l) : okB w l = true := by unfold okB; exact @decide_eq_true _ (Classical.propDecidable _) h
theorem okB_false {w : Int} {l : List Int} (h : ¬ Right w l) : okB w l = false := by unfold okB; exact @decide_eq_false _ (Classical.propDecidable _) h
theorem okB_cases (w : Int) (l : List Int) : (okB w l = true ∧ Right w l) ∨ (okB w l = false ∧ ¬ Right w l) := by
  by_cases h : Right w l
  · exact .inl ⟨okB_true h, h⟩
  · exact .inr ⟨okB_false h, h⟩

/-! l1Bit -/
theorem l1Bit_eq (w : Int) (l : List Int) (h : U64s l) (i : Nat) (hi : i < 64 * l.length) (hl : l.length ≤ 1048576) : spec_l1Bit.f w l (i : Int) = some (bitI l i) := by
  unfold spec_l1Bit.f
  rw [tdiv64 i (by omega), utmod64, if_pos (by omega), if_pos (by omega), if_pos (by omega), bit_reads h]
  rcases bitI_01 l i with e | e <;> simp [e]

/-! specBitsOk -/
theorem specBitsOk_l0 (w : Int) (l : List Int) (h : U64s l) (hl : l.length ≤ 1048576) (h1 : 1 ≤ w) (hw : w ≤ 64 * l.length) :
    ∃ b, Ev (fun k => spec_BitsOk.l0 k w w l) b ∧ (b = true ↔ ∀ i : Nat, w ≤ i → bitN l i = false) := by
  rcases find_loop (64 * l.length - w.toNat) (fun i => bitN l (w.toNat + i)) (fun k i => spec_BitsOk.l0 k (w + i) w l) (fun _ => false) true
    (fun i hi hp => Ev.step (f := fun _ => some false) (fun k => by
      simp only [spec_BitsOk.l0]
      rw [wrap64_id (by omega) (by omega), if_pos (by omega), show w + (i : Int) = ((w.toNat + i : Nat) : Int) by omega, l1Bit_eq w l h _ (by omega) hl]
      simp only [Option.bind_some]
      rw [if_neg (by simp only [bitI, hp, if_true]; decide)]) (Ev.now _))
    (fun i hi hp r hr => Ev.step (fun k => by
      simp only [spec_BitsOk.l0]
      rw [wrap64_id (x := 64 * (l.length : Int)) (by omega) (by omega), if_pos (by omega)]
      have e := l1Bit_eq w l h (w.toNat + i) (by omega) hl
      rw [show w + (i : Int) = ((w.toNat + i : Nat) : Int) by omega, e]
      simp only [Option.bind_some]
      rw [if_pos (by simp only [bitI, hp]; rfl), wrap64_id (by omega) (by omega), show ((w.toNat + i : Nat) : Int) + 1 = w + ((i : Int) + 1) by omega]) hr)
    (Ev.step (f := fun _ => some true) (fun k => by
      simp only [spec_BitsOk.l0]
      rw [wrap64_id (by omega) (by omega), if_neg (by omega)]) (Ev.now _)) with ⟨i, hi, hp, _, hr⟩ | ⟨hp, hr⟩
  · refine ⟨false, by simpa using hr, (fun hb => by cases hb), fun hb => ?_⟩
    have := hb (w.toNat + i) (by omega)
    rw [this] at hp; cases hp
  · refine ⟨true, by simpa using hr, fun _ i hi => ?_, fun _ => rfl⟩
    by_cases ho : i < 64 * l.length
    · have := hp (i - w.toNat) (by omega)
      rwa [show w.toNat + (i - w.toNat) = i by omega] at this
    · exact bitN_out (by omega)
theorem specBitsOk_ev (w : Int) (l : List Int) (h : U64s l) (hl : l.length ≤ 1048576) (hw0 : -9223372036854775808 ≤ w) (hw1 : w ≤ 9223372036854775807) : Ev (fun k => spec_BitsOk.f k w l) (okB w l) := by
  by_cases hin : 1 ≤ w ∧ w ≤ 4096
  · have e1 : spec_l1In.f w 1 4096 = some true := by unfold spec_l1In.f; rw [if_pos (by omega), decide_eq_true (by omega)]
    have e2 := fun (_ : True) => words_of w (by omega) (by omega)
    by_cases hlen : (l.length : Int) = (w + 63) / 64
    · obtain ⟨b, hb, hbi⟩ := specBitsOk_l0 w l h hl hin.1 (by omega)
      have : okB w l = b := by
        cases b with
        | true => exact okB_true ⟨hin.1, hin.2, hlen, h, hbi.1 rfl⟩
        | false => exact okB_false fun hr => by have := hbi.2 hr.top; cases this
      rw [this]
      obtain ⟨K, hb⟩ := hb
      refine ⟨K + 1, fun k hk => ?_⟩
      obtain ⟨m, rfl⟩ : ∃ m, k = m + 1 := ⟨k - 1, by omega⟩
      dsimp only
      unfold spec_BitsOk.f
      rw [e1, e2 trivial]
      simp only [Option.bind_some, if_true, spec_BitsOk.j0]
      rw [if_neg (by simp [hlen])]
      exact hb m (by omega)
    · rw [okB_false fun hr => hlen hr.len]
      refine ⟨1, fun k hk => ?_⟩
      obtain ⟨m, rfl⟩ : ∃ m, k = m + 1 := ⟨k - 1, by omega⟩
      dsimp only
      unfold spec_BitsOk.f
      rw [e1, e2 trivial]
      simp only [Option.bind_some, if_true, spec_BitsOk.j0]
      rw [if_pos (by simpa using hlen)]
  · rw [okB_false fun hr => hin ⟨hr.low, hr.high⟩]
    have e1 : spec_l1In.f w 1 4096 = some false := by
      unfold spec_l1In.f
      by_cases h1 : w ≥ 1
      · rw [if_pos h1, decide_eq_false (by omega)]
      · rw [if_neg h1]
    refine ⟨1, fun k hk => ?_⟩
    obtain ⟨m, rfl⟩ : ∃ m, k = m + 1 := ⟨k - 1, by omega⟩
    dsimp only
    unfold spec_BitsOk.f
    rw [e1]
    simp [spec_BitsOk.j0]

/-! implInside -/
theorem inside_eq (a b c : Int) : impl_inside.f a b c = some (decide (b ≤ a ∧ a ≤ c)) := by
  unfold impl_inside.f
  by_cases h1 : b ≤ a
  · rw [if_pos h1]; simp [h1]
  · rw [if_neg h1]; simp [h1]

/-! wordsFor -/
theorem wordsFor_eq (w : Int) (h0 : 0 ≤ w) (h1 : w ≤ 1000000000) : impl_wordsFor.f w = some ((w + 63) / 64) := by
  unfold impl_wordsFor.f
  rw [wrap64_id (x := w + 63) (by omega) (by omega), Int.tdiv_eq_ediv_of_nonneg (by omega), wrap64_id (by omega) (by omega)]

/-! implBitsOk -/
theorem implBitsOk_eq (w : Int) (l : List Int) (h : U64s l) (hl : l.length ≤ 1048576) : impl_BitsOk.f w l = some (okB w l) := by
  unfold impl_BitsOk.f
  rw [inside_eq]
  simp only [Option.bind_some]
  by_cases hin : 1 ≤ w ∧ w ≤ 4096
  · rw [if_pos (decide_eq_true hin), wordsFor_eq w (by omega) (by omega)]
    simp only [Option.bind_some]
    by_cases hlen : (l.length : Int) = (w + 63) / 64
    · rw [if_pos hlen, Int.tmod_eq_emod_of_nonneg (by omega)]
      by_cases hm : w % 64 = 0
      · rw [if_pos hm, okB_true ⟨hin.1, hin.2, hlen, h, fun i hi => bitN_out (by omega)⟩]
      · rw [if_neg hm, wrap64_id (x := (l.length : Int) - 1) (by omega) (by omega), if_pos (by omega), if_pos (by omega), if_pos (by omega)]
        congr 1
        have hx := rd_w64 h ((l.length : Int) - 1)
        have hs := shr_w64 hx (n := w % 64) (by omega)
        by_cases hz : shr .u64 (rd l ((l.length : Int) - 1)) (w % 64) = 0
        · rw [hz]
          refine (okB_true ⟨hin.1, hin.2, hlen, h, fun i hi => ?_⟩).symm
          by_cases ho : i < 64 * l.length
          · have h2 := hs.2 (i % 64 - (w % 64).toNat)
            rw [hz] at h2
            have e : i / 64 = l.length - 1 := by omega
            unfold bitN
            rw [e, ← show (w % 64).toNat + (i % 64 - (w % 64).toNat) = i % 64 by omega]
            rw [rd_getD, show ((l.length : Int) - 1).toNat = l.length - 1 by omega] at h2
            rw [← h2]; simp
          · exact bitN_out (by omega)
        · have e : (shr .u64 (rd l ((l.length : Int) - 1)) (w % 64) == 0) = false := by simpa using hz
          rw [e]
          refine (okB_false fun hr => hz ?_).symm
          have h0 : (shr .u64 (rd l ((l.length : Int) - 1)) (w % 64)).toNat = 0 := by
            apply testBit_ext (by have := hs.1; unfold W64 at this; omega) (by decide)
            intro j hj
            rw [hs.2]
            by_cases hb : (w % 64).toNat + j < 64
            · have := hr.top (64 * (l.length - 1) + ((w % 64).toNat + j)) (by omega)
              unfold bitN at this
              rw [show (64 * (l.length - 1) + ((w % 64).toNat + j)) / 64 = l.length - 1 by omega, show (64 * (l.length - 1) + ((w % 64).toNat + j)) % 64 = (w % 64).toNat + j by omega] at this
              rw [rd_getD, show ((l.length : Int) - 1).toNat = l.length - 1 by omega, this]; simp
            · rw [testBit_w64 hx (by omega)]; simp
          have := hs.1.1
          omega
    · rw [if_neg hlen, okB_false fun hr => hlen hr.len]
  · rw [if_neg (by simpa using hin), okB_false fun hr => hin ⟨hr.low, hr.high⟩]

/-! bitsLsucc -/
theorem bitsL_succ (i : Nat) (l : List Int) : bitsL i l ++ [bitI l i] = bitsL (i + 1) l := by simp [bitsL, List.range_succ]

/-! l1List -/
theorem l1List_ev (w : Int) (l : List Int) (h : Right w l) : Ev (fun k => spec_l1List.f k w l) (bitsL w.toNat l) := by
  have hlen := h.len
  have hlo := h.low
  have hhi := h.high
  have main := up_loop w.toNat (fun i => bitsL i l) (fun k acc i => spec_l1List.l0 k acc i w l)
    (fun i hi r hr => Ev.step (fun k => by
      simp only [spec_l1List.l0]
      rw [if_pos (by omega), l1Bit_eq w l h.words i (by omega) (by omega)]
      simp only [Option.bind_some]
      rw [if_pos (by rw [bitsL_len]; omega), bitsL_succ, wrap64_id (by omega) (by omega)]) hr)
    (bitsL w.toNat l) (Ev.step (f := fun _ => some (bitsL w.toNat l)) (fun k => by
      simp only [spec_l1List.l0]
      rw [if_neg (by omega)]) (Ev.now _))
  exact Ev.congr (fun k => by unfold spec_l1List.f; simp [bitsL]) main

/-! rdq -/
theorem rd_q (z : List Int) (j : Nat) : rd z (j : Int) = (z[j]?).getD 0 := by rw [rd_getD, List.getD_eq_getElem?_getD, Int.toNat_natCast]
theorem bitI_one (l : List Int) (i : Nat) : decide (bitI l i = 1) = bitN l i := by unfold bitI; cases bitN l i <;> simp
theorem Bits01.append {a b : List Int} (ha : Bits01 a) (hb : Bits01 b) : Bits01 (a ++ b) := fun x hx => (List.mem_append.1 hx).elim (ha x) (hb x)
theorem Bits01.sub {a b : List Int} (ha : Bits01 a) (h : ∀ x ∈ b, x ∈ a) : Bits01 b := fun x hx => ha x (h x hx)
/-- What a call that tells bits is asked: both tell the same. -/
def Agree (f g : Nat → Option (Int × List Int × Bool)) : Prop := ∃ w ws ok, ws.length ≤ 1048576 ∧ Ev f (w, ws, ok) ∧ Ev g (w, ws, ok)

/-! l1Turned -/
theorem l1Turned_ev (z : List Int) (hl : z.length ≤ 1048576) : Ev (fun k => spec_l1Turned.f k z) z.reverse := by
  have main := down_loop z.length (fun i => (z.drop i).reverse) (fun k s i => spec_l1Turned.l0 k z s i)
    (fun i hi r h => Ev.step (fun k => by
      simp only [spec_l1Turned.l0]
      rw [if_pos (by omega), if_pos (by omega), if_pos (by omega), if_pos (by simp; omega), wrap64_id (by omega) (by omega)]
      have e : (z.drop (i + 1)).reverse ++ [rd z (i : Int)] = (z.drop i).reverse := by
        rw [List.drop_eq_getElem_cons hi, List.reverse_cons, rd_q, List.getElem?_eq_getElem hi]; rfl
      rw [e]) h)
    z.reverse (Ev.step (f := fun _ => some z.reverse) (fun k => by simp only [spec_l1Turned.l0]; rw [if_neg (by omega)]; rfl) (Ev.now _))
  refine Ev.congr (fun k => ?_) main
  unfold spec_l1Turned.f
  rw [wrap64_id (by omega) (by omega), List.drop_length]; rfl

/-! writeBits -/
def nib (l : List Int) (p : Nat) : Int := 8 * bitI l (p + 3) + 4 * bitI l (p + 2) + 2 * bitI l (p + 1) + bitI l p
def hexT : ByteArray := ⟨#[48, 49, 50, 51, 52, 53, 54, 55, 56, 57, 97, 98, 99, 100, 101, 102]⟩
theorem nib_bound (l : List Int) (p : Nat) : 0 ≤ nib l p ∧ nib l p < 16 := by
  unfold nib
  have h := fun i => bitI_01 l i
  have h0 := h p; have h1 := h (p + 1); have h2 := h (p + 2); have h3 := h (p + 3)
  omega
theorem turned_rd (w : Nat) (l : List Int) (i : Nat) (h : i < w) : rd (bitsL w l).reverse (i : Int) = bitI l (w - 1 - i) := by
  rw [rd_q, List.getElem?_reverse (by rw [bitsL_len]; exact h), bitsL_len, bitsL_get (by omega)]; rfl
theorem nib_reads {l : List Int} (h : U64s l) (p : Nat) (hp : p % 4 = 0) : Go.bits .and .u64 (shr .u64 (rd l ((p / 64 : Nat) : Int)) ((p % 64 : Nat) : Int)) 15 = nib l p := by
  obtain ⟨a, ha, hlt⟩ := w64_nat (rd_w64 h ((p / 64 : Nat) : Int))
  have hb : ∀ c, c < 4 → bitI l (p + c) = ((a >>> (p % 64) / 2 ^ c % 2 : Nat) : Int) := by
    intro c hc
    have e : bitN l (p + c) = (a >>> (p % 64)).testBit c := by
      rw [bitN_div, show (p + c) / 64 = p / 64 by omega, show (p + c) % 64 = p % 64 + c by omega, ha, Int.toNat_natCast, Nat.testBit_shiftRight]
    unfold bitI
    rw [e, Nat.testBit_eq_decide_div_mod_eq]
    rcases Nat.mod_two_eq_zero_or_one (a >>> (p % 64) / 2 ^ c) with e2 | e2 <;> simp [e2]
  have h2 : a >>> (p % 64) < 2 ^ 64 := Nat.lt_of_le_of_lt (by rw [Nat.shiftRight_eq_div_pow]; exact Nat.div_le_self _ _) hlt
  rw [ha, shr_u64 a _ hlt (by omega), Int.toNat_natCast, show (15 : Int) = ((15 : Nat) : Int) from rfl, and_u64 _ _ h2 (by decide), show (15 : Nat) = 2 ^ 4 - 1 by decide, Nat.and_two_pow_sub_one_eq_mod]
  have h0 := hb 0 (by omega); have h1 := hb 1 (by omega); have h2 := hb 2 (by omega); have h3 := hb 3 (by omega)
  unfold nib
  rw [Nat.add_zero] at h0
  rw [h0, h1, h2, h3]
  omega
theorem bt_bit (v : Int) (h : v = 0 ∨ v = 1) : bt hexT v = 48 + v := by rcases h with rfl | rfl <;> rfl
theorem writeBits_agree (w : Int) (l : List Int) (hu : U64s l) (hl : l.length ≤ 1048576) (hw : -9223372036854775808 ≤ w ∧ w ≤ 9223372036854775807) :
    ∃ r, Ev (fun k => spec_WriteBits.f k w l) r ∧ Ev (fun k => impl_WriteBits.f k w l) r := by
  obtain ⟨K1, g1⟩ := specBitsOk_ev w l hu hl hw.1 hw.2
  have g2 := implBitsOk_eq w l hu hl
  rcases okB_cases w l with ⟨e, hr⟩ | ⟨e, hr⟩
  · have b1 := hr.low; have b2 := hr.high; have b3 := hr.len
    obtain ⟨wd, rfl⟩ := Int.eq_ofNat_of_zero_le (show 0 ≤ w by omega)
    obtain ⟨K2, g3⟩ := l1List_ev (wd : Int) l hr
    rw [Int.toNat_natCast] at g3
    obtain ⟨K3, g4⟩ := l1Turned_ev (bitsL wd l) (by rw [bitsL_len]; omega)
    have hmod := fun (_ : True) => tmod4 wd
    have hrl : (bitsL wd l).reverse.length = wd := by simp [bitsL_len]
    have e1 : ∀ p : Nat, p < wd → wrap64 (Int.tdiv (p : Int) 64) = ((p / 64 : Nat) : Int) := fun p hp => by
      rw [Int.tdiv_eq_ediv_of_nonneg (by omega), wrap64_id (by omega) (by omega)]; omega
    have e2 : ∀ p : Nat, Int.tmod (p : Int) 64 = ((p % 64 : Nat) : Int) := fun p => by
      rw [Int.tmod_eq_emod_of_nonneg (by omega)]; omega
    by_cases hm : wd % 4 = 0
    · obtain ⟨out, hout⟩ : ∃ o : Nat → List Int, o = fun q => [35, 120] ++ (List.range q).map (fun q => bt hexT (nib l (wd - 4 - 4 * q))) := ⟨_, rfl⟩
      have hol : ∀ q, (out q).length = 2 + q := fun q => by rw [hout]; simp; omega
      have hos : ∀ q, out q ++ [bt hexT (nib l (wd - 4 - 4 * q))] = out (q + 1) := fun q => by rw [hout]; simp [List.range_succ]
      refine ⟨strOfNums (out (wd / 4)), ?_, ?_⟩
      · obtain ⟨K4, h⟩ := up_loop wd (fun i => out ((i + 3) / 4)) (fun k s i => spec_WriteBits.l0 k (bitsL wd l).reverse s i (wd : Int) l)
          (fun i hi r h => by
            have hmi := fun (_ : True) => tmod4 i
            by_cases hi4 : i % 4 = 0
            · refine Ev.step (fun k => ?_) h
              have d0 := turned_rd wd l i hi
              have d1 := turned_rd wd l (i + 1) (by omega)
              have d2 := turned_rd wd l (i + 2) (by omega)
              have d3 := turned_rd wd l (i + 3) (by omega)
              have w1 : True → wrap64 ((i : Int) + 1) = ((i + 1 : Nat) : Int) := fun _ => by rw [wrap64_id (by omega) (by omega)]; omega
              have w2 : True → wrap64 ((i : Int) + 2) = ((i + 2 : Nat) : Int) := fun _ => by rw [wrap64_id (by omega) (by omega)]; omega
              have w3 : True → wrap64 ((i : Int) + 3) = ((i + 3 : Nat) : Int) := fun _ => by rw [wrap64_id (by omega) (by omega)]; omega
              have hv : ((((((((8 * bitI l (wd - 1 - i)) % 256) + ((4 * bitI l (wd - 1 - (i + 1))) % 256)) % 256) + ((2 * bitI l (wd - 1 - (i + 2))) % 256)) % 256) + bitI l (wd - 1 - (i + 3))) % 256) = nib l (wd - 4 - 4 * (i / 4)) := by
                unfold nib
                rw [show wd - 4 - 4 * (i / 4) + 3 = wd - 1 - i by omega, show wd - 4 - 4 * (i / 4) + 2 = wd - 1 - (i + 1) by omega, show wd - 4 - 4 * (i / 4) + 1 = wd - 1 - (i + 2) by omega, show wd - 4 - 4 * (i / 4) = wd - 1 - (i + 3) by omega]
                have h := fun i => bitI_01 l i
                have h0 := h (wd - 1 - i); have h1 := h (wd - 1 - (i + 1)); have h2 := h (wd - 1 - (i + 2)); have h3 := h (wd - 1 - (i + 3))
                omega
              have hnb := nib_bound l (wd - 4 - 4 * (i / 4))
              simp only [spec_WriteBits.l0]
              rw [w1 trivial, w2 trivial, w3 trivial, d0, d1, d2, d3, hv, hrl, hol, if_pos (by omega), hmod trivial, if_pos (by omega), hmi trivial, if_pos (by omega), if_pos (by omega), if_pos (by omega), if_pos (by omega), if_pos (by omega), if_pos (by omega), if_pos (by omega), if_pos (by omega), if_pos (by omega), if_pos (by omega), if_pos (by omega)]
              have := hos (i / 4)
              rw [show (i + 3) / 4 = i / 4 by omega, show (i + 1 + 3) / 4 = i / 4 + 1 by omega, ← this]
              rfl
            · refine Ev.step (fun k => ?_) h
              simp only [spec_WriteBits.l0]
              rw [hrl, if_pos (by omega), hmod trivial, if_pos (by omega), hmi trivial, if_neg (by omega), wrap64_id (by omega) (by omega), show (i + 3) / 4 = (i + 1 + 3) / 4 by omega])
          _ (Ev.step (f := fun _ => some (strOfNums (out (wd / 4)))) (fun k => by simp only [spec_WriteBits.l0]; rw [hrl, if_neg (by omega), show (wd + 3) / 4 = wd / 4 by omega]) (Ev.now _))
        refine ⟨K1 + K2 + K3 + K4 + 1, fun k hk => ?_⟩
        obtain ⟨m, rfl⟩ : ∃ m, k = m + 1 := ⟨k - 1, by omega⟩
        have h := h m (by omega)
        dsimp only at h ⊢
        have e0 : out ((0 + 3) / 4) = [35, 120] := by rw [hout]; rfl
        rw [e0] at h
        have hz : ((wd % 4 : Nat) : Int) = 0 := by omega
        simp (disch := omega) only [spec_WriteBits.f, spec_WriteBits.j0, g1, g3, g4, e, hmod trivial, hz, Option.bind_some, if_true]
        exact h
      · have hmask : IntKind.u64.wrap (shl .u64 1 4 - 1) = 15 := rfl
        obtain ⟨K4, h⟩ := up_loop (wd / 4) out (fun k s i => impl_WriteBits.l0 k 4 s ((wd : Int) - 4 - 4 * i) (wd : Int) l)
          (fun i hi r h => Ev.step (fun k => by
            have hp : (wd : Int) - 4 - 4 * (i : Int) = ((wd - 4 - 4 * i : Nat) : Int) := by omega
            have hn := nib_reads hr.words (wd - 4 - 4 * i) (by omega)
            have hnb := nib_bound l (wd - 4 - 4 * i)
            simp only [impl_WriteBits.l0]
            rw [hp, e1 _ (by omega), e2, hmask, hn, hol, if_pos (by omega), if_pos (by omega), if_pos (by omega), if_pos (by omega), if_pos (by omega), if_pos (by omega), if_pos (by omega), if_pos (by omega), wrap64_id (by omega) (by omega), show ((wd - 4 - 4 * i : Nat) : Int) - 4 = (wd : Int) - 4 - 4 * ((i : Int) + 1) by omega, ← hos]
            rfl) h)
          _ (Ev.step (f := fun _ => some (strOfNums (out (wd / 4)))) (fun k => by simp only [impl_WriteBits.l0]; rw [if_neg (by omega)]) (Ev.now _))
        refine ⟨K4 + 1, fun k hk => ?_⟩
        obtain ⟨m, rfl⟩ : ∃ m, k = m + 1 := ⟨k - 1, by omega⟩
        have h := h m (by omega)
        dsimp only at h ⊢
        have e0 : out 0 = [35, 120] := by rw [hout]; rfl
        have hz : ((wd % 4 : Nat) : Int) = 0 := by omega
        have ew : True → wrap64 ((wd : Int) - 4) = (wd : Int) - 4 := fun _ => wrap64_id (by omega) (by omega)
        rw [e0, show (wd : Int) - 4 - 4 * 0 = (wd : Int) - 4 by omega] at h
        simp (disch := omega) only [impl_WriteBits.f, impl_WriteBits.j0, g2, e, hmod trivial, hz, ew trivial, Option.bind_some, if_true]
        exact h
    · obtain ⟨out, hout⟩ : ∃ o : Nat → List Int, o = fun q => [35, 98] ++ (List.range q).map (fun q => 48 + bitI l (wd - 1 - q)) := ⟨_, rfl⟩
      have hol : ∀ q, (out q).length = 2 + q := fun q => by rw [hout]; simp; omega
      have hos : ∀ q, out q ++ [48 + bitI l (wd - 1 - q)] = out (q + 1) := fun q => by rw [hout]; simp [List.range_succ]
      refine ⟨strOfNums (out wd), ?_, ?_⟩
      · obtain ⟨K4, h⟩ := up_loop wd out (fun k s i => spec_WriteBits.l0 k (bitsL wd l).reverse s i (wd : Int) l)
          (fun i hi r h => Ev.step (fun k => by
            have d0 := turned_rd wd l i hi
            have hv : (48 + bitI l (wd - 1 - i)) % 256 = 48 + bitI l (wd - 1 - i) := by have := bitI_01 l (wd - 1 - i); omega
            simp only [spec_WriteBits.l0]
            rw [d0, hv, hrl, hol, if_pos (by omega), hmod trivial, if_neg (by omega), if_pos (by omega), if_pos (by omega), hos, wrap64_id (by omega) (by omega)]) h)
          _ (Ev.step (f := fun _ => some (strOfNums (out wd))) (fun k => by simp only [spec_WriteBits.l0]; rw [hrl, if_neg (by omega)]) (Ev.now _))
        refine ⟨K1 + K2 + K3 + K4 + 1, fun k hk => ?_⟩
        obtain ⟨m, rfl⟩ : ∃ m, k = m + 1 := ⟨k - 1, by omega⟩
        have h := h m (by omega)
        dsimp only at h ⊢
        have e0 : out 0 = [35, 98] := by rw [hout]; rfl
        rw [e0] at h
        have hz : ¬ ((wd % 4 : Nat) : Int) = 0 := by omega
        simp (disch := omega) only [spec_WriteBits.f, spec_WriteBits.j0, g1, g3, g4, e, hmod trivial, if_neg hz, Option.bind_some, if_true]
        exact h
      · have hmask : IntKind.u64.wrap (shl .u64 1 1 - 1) = 1 := rfl
        obtain ⟨K4, h⟩ := up_loop wd out (fun k s i => impl_WriteBits.l0 k 1 s ((wd : Int) - 1 - i) (wd : Int) l)
          (fun i hi r h => Ev.step (fun k => by
            have hp : (wd : Int) - 1 - (i : Int) = ((wd - 1 - i : Nat) : Int) := by omega
            have hn := bit_reads hr.words (wd - 1 - i)
            have hnb := bitI_01 l (wd - 1 - i)
            have hbt := bt_bit _ hnb
            simp only [impl_WriteBits.l0]
            rw [hp, e1 _ (by omega), e2, hmask, hn, hol, if_pos (by omega), if_pos (by omega), if_pos (by omega), if_pos (by omega), if_pos (by omega), if_pos (by omega), if_pos (by omega), if_pos (by omega), wrap64_id (by omega) (by omega), show ((wd - 1 - i : Nat) : Int) - 1 = (wd : Int) - 1 - ((i : Int) + 1) by omega, ← hos, ← hbt]
            rfl) h)
          _ (Ev.step (f := fun _ => some (strOfNums (out wd))) (fun k => by simp only [impl_WriteBits.l0]; rw [if_neg (by omega)]) (Ev.now _))
        refine ⟨K4 + 1, fun k hk => ?_⟩
        obtain ⟨m, rfl⟩ : ∃ m, k = m + 1 := ⟨k - 1, by omega⟩
        have h := h m (by omega)
        dsimp only at h ⊢
        have e0 : out 0 = [35, 98] := by rw [hout]; rfl
        have hz : ¬ ((wd % 4 : Nat) : Int) = 0 := by omega
        have ew : True → wrap64 ((wd : Int) - 1) = (wd : Int) - 1 := fun _ => wrap64_id (by omega) (by omega)
        rw [e0, show (wd : Int) - 1 - 0 = (wd : Int) - 1 by omega] at h
        simp (disch := omega) only [impl_WriteBits.f, impl_WriteBits.j0, g2, e, hmod trivial, if_neg hz, ew trivial, Option.bind_some, if_true]
        exact h
  · refine ⟨⟨#[]⟩, ⟨K1, fun k hk => ?_⟩, ⟨0, fun k hk => ?_⟩⟩
    · simp (disch := omega) only [spec_WriteBits.f, g1, e, Option.bind_some, if_false, Bool.false_eq_true]
    · simp (disch := omega) only [impl_WriteBits.f, g2, e, Option.bind_some, if_false, Bool.false_eq_true]
-- SAYS: The program's WriteBits answers as the reference's WriteBits does, for every row of bits.
theorem FnExactWriteBits (a0_0 : Int) (l0_1 : List Int) (q0 : (Lit.int .i64 a0_0).wf = true) (q1 : ∀ x ∈ l0_1, (Lit.int .u64 x).wf = true) (hl : l0_1.length ≤ 9223372036854775807) :
    ∃ k, laws_FnExactWriteBits.f k a0_0 l0_1 = some true := by
  have hu : U64s l0_1 := fun x hx => wf_u64 (q1 x hx)
  have hsz := szBits_eq a0_0 l0_1 1048576 hl (by decide) (by decide)
  by_cases hbig : 1048576 - (l0_1.length : Int) < 0
  · exact ⟨0, by simp (disch := omega) only [laws_FnExactWriteBits.f, hsz, Option.bind_some, if_pos]⟩
  · rw [if_neg hbig] at hsz
    have hl2 : l0_1.length ≤ 1048576 := by omega
    obtain ⟨r, g1, g2⟩ := writeBits_agree a0_0 l0_1 hu hl2 (wf_i64 q0)
    obtain ⟨K1, h1⟩ := Ev.binds g1
    obtain ⟨K2, h2⟩ := Ev.binds g2
    obtain ⟨K3, h3⟩ := Ev.binds (toBits_ev a0_0 l0_1 hl2)
    obtain ⟨K5, h5⟩ := Ev.binds (eqBits_ev a0_0 l0_1 hl2)
    refine ⟨K1 + K2 + K3 + K5, ?_⟩
    have hsz := fun β (g : _ → Option β) => some_binds hsz β g
    have hb := eq_false hbig
    simp (disch := omega) only [laws_FnExactWriteBits.f, ↓hsz, ↓h1, ↓h2, ↓h3, ↓h5, ↓reduceIte, hb]

end Go.Proofs.Ytfjknhmepgfhaaa.Pure
