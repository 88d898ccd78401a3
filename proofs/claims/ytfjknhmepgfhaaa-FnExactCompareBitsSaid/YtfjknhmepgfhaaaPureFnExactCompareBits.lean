/- The program's CompareBits answers as the reference's CompareBits does, for every two rows of bits. -/
import Derived.Test.YtfjknhmepgfhaaaPFnExactCompareBitsx3
import Derived.Test.YtfjknhmepgfhaaaBits
import Derived.Test.YtfjknhmepgfhaaaLoops
namespace Go.Proofs.Ytfjknhmepgfhaaa.Pure
open Go Go.RowKit Go.Proofs.Ytfjknhmepgfhaaa.PFnExactCompareBits Go.Proofs.YtfjknhmepgfhaaaW.PrintWords Go.Proofs.YtfjknhmepgfhaaaW.PrintLast Go.Proofs.YtfjknhmepgfhaaaW.PrintMore Go.Proofs.Ytfjknhmepgfhaaa.BitsLib Go.Proofs.Ytfjknhmepgfhaaa.Loops
set_option linter.unusedVariables false
set_option linter.unusedSimpArgs false
set_option maxRecDepth 4000

/-! sz64 -/
theorem szUint64S_eq (l : List Int) (left : Int) (hl : l.length ≤ 9223372036854775807) (h0 : 0 ≤ left) (h1 : left ≤ 1048576) :
    laws_szUint64S.f l left = some (if left - l.length < 0 then -1 else left - l.length) := by
  unfold laws_szUint64S.f
  rw [wrap64_id (by omega) (by omega)]
  split <;> rfl

/-! szBits -/
theorem szBits_eq (w : Int) (l : List Int) (left : Int) (hl : l.length ≤ 9223372036854775807) (h0 : 0 ≤ left) (h1 : left ≤ 1048576) :
    laws_szBits.f w l left = some (if left - l.length < 0 then -1 else left - l.length) := by
  unfold laws_szBits.f
  rw [szUint64S_eq l left hl h0 h1]
  simp only [Option.bind_some]
  split
  · rfl
  · rfl

/-! toUint64S -/
theorem toUint64S_ev (l : List Int) (hl : l.length ≤ 1048576) : Ev (fun k => laws_toUint64S.f k l) l := by
  have main := up_loop l.length (filled (fun i => rd l i) (List.replicate l.length 0)) (fun k xs i => laws_toUint64S.l0 k l xs i)
    (fun i hi r h => Ev.step (fun k => by
      simp only [laws_toUint64S.l0]
      rw [if_pos (by omega), if_pos (by omega), if_pos (by rw [filled_len _ _ (by simp; omega)]; simp; omega), Int.toNat_natCast, filled_set _ _ (by simpa using hi), wrap64_id (by omega) (by omega)]) h)
    l (Ev.step (f := fun _ => some l) (fun k => by
      simp only [laws_toUint64S.l0]
      rw [if_neg (by omega), filled_all _ _ (by simp), list_of_rd]) (Ev.now l))
  rw [filled_zero] at main
  refine Ev.congr (fun k => ?_) main
  unfold laws_toUint64S.f
  rw [if_pos (by omega), if_pos (by omega), Int.toNat_natCast]

/-! toBits -/
theorem toBits_ev (w : Int) (l : List Int) (hl : l.length ≤ 1048576) : Ev (fun k => laws_toBits.f k w l) (w, l) := by
  obtain ⟨K, h⟩ := toUint64S_ev l hl
  refine ⟨K, fun k hk => ?_⟩
  have h := h k hk
  dsimp only at h ⊢
  unfold laws_toBits.f
  rw [h]; rfl

/-! eqUint64S -/
theorem eqUint64S_ev (l m : List Int) (hl : l.length ≤ 1048576) : Ev (fun k => laws_eqUint64S.f k l m) (decide (l = m)) := by
  by_cases hlen : l.length = m.length
  · have := all_loop l.length (l = m) (fun i => rd l i != rd m i) (fun k i => laws_eqUint64S.l0 k l m i) false true
      (fun i hi hp => Ev.step (f := fun _ => some false) (fun k => by
        simp only [laws_eqUint64S.l0]
        rw [if_pos (by omega), if_pos (by omega), if_pos (by omega), if_neg (by simpa using hp)]) (Ev.now _))
      (fun i hi hp r h => Ev.step (fun k => by
        simp only [laws_eqUint64S.l0]
        rw [if_pos (by omega), if_pos (by omega), if_pos (by omega), if_pos (by simpa using hp), wrap64_id (by omega) (by omega)]) h)
      (Ev.step (f := fun _ => some true) (fun k => by
        simp only [laws_eqUint64S.l0]
        rw [if_neg (by omega)]) (Ev.now _))
      ⟨fun h j hj => by rw [h]; simp, fun h => ext_rd hlen fun i hi => by simpa using h i hi⟩
    have e : decide (l = m) = if l = m then true else false := by by_cases h : l = m <;> simp [h]
    rw [e]
    refine Ev.congr (fun k => ?_) this
    unfold laws_eqUint64S.f
    rw [if_pos (by omega)]
  · have e : decide (l = m) = false := decide_eq_false (fun h => hlen (by rw [h]))
    rw [e]
    exact Ev.congr (fun k => by unfold laws_eqUint64S.f; rw [if_neg (by omega)]) (Ev.now _)

/-! eqBits -/
theorem eqBits_ev (w : Int) (l : List Int) (hl : l.length ≤ 1048576) : Ev (fun k => laws_eqBits.f k w l w l) true := by
  obtain ⟨K, h⟩ := eqUint64S_ev l l hl
  refine ⟨K, fun k hk => ?_⟩
  have h := h k hk
  dsimp only at h ⊢
  unfold laws_eqBits.f
  rw [if_pos rfl, h]
  simp

/-! okB -/
noncomputable def okB (w : Int) (l : List Int) : Bool := @decide (Right w l) (Classical.propDecidable _)
theorem okB_true {w : Int} {l : List Int} (h : Right w l) : okB w l = true := by unfold okB; exact @decide_eq_true _ (Classical.propDecidable _) h
theorem okB_false {w : Int} {l : List Int} (h : ¬ Right w l) : okB w l = false := by unfold okB; exact @decide_eq_false _ (Classical.propDecidable _) h
theorem okB_cases (w : Int) (l : List Int) : (okB w l = true ∧ Right w l) ∨ (okB w l = false ∧ ¬ Right w l) := by
  by_cases h : Right w l
  · exact .inl ⟨okB_true h, h⟩
  · exact .inr ⟨okB_false h, h⟩

/-! l1Bit -/
theorem l1Bit_eq (w : Int) (l : List Int) (h : U64s l) (i : Nat) (hi : i < 64 * l.length) (hl : l.length ≤ 1048576) : spec_l1Bit.f w l (i : Int) = some (bitI l i) := by
  unfold spec_l1Bit.f
  rw [tdiv64 i (by omega), utmod64, if_pos (by omega), if_pos (by omega), if_pos (by omega), bit_reads h]
  rcases bitI_01 l i with e | e <;> simp [e]

/-! specBitsOk -/
theorem specBitsOk_l0 (w : Int) (l : List Int) (h : U64s l) (hl : l.length ≤ 1048576) (h1 : 1 ≤ w) (hw : w ≤ 64 * l.length) :
    ∃ b, Ev (fun k => spec_BitsOk.l0 k w w l) b ∧ (b = true ↔ ∀ i : Nat, w ≤ i → bitN l i = false) := by
  rcases find_loop (64 * l.length - w.toNat) (fun i => bitN l (w.toNat + i)) (fun k i => spec_BitsOk.l0 k (w + i) w l) (fun _ => false) true
    (fun i hi hp => Ev.step (f := fun _ => some false) (fun k => by
      simp only [spec_BitsOk.l0]
      rw [wrap64_id (by omega) (by omega), if_pos (by omega), show w + (i : Int) = ((w.toNat + i : Nat) : Int) by omega, l1Bit_eq w l h _ (by omega) hl]
      simp only [Option.bind_some]
      rw [if_neg (by simp only [bitI, hp, if_true]; decide)]) (Ev.now _))
    (fun i hi hp r hr => Ev.step (fun k => by
      simp only [spec_BitsOk.l0]
      rw [wrap64_id (x := 64 * (l.length : Int)) (by omega) (by omega), if_pos (by omega)]
      have e := l1Bit_eq w l h (w.toNat + i) (by omega) hl
      rw [show w + (i : Int) = ((w.toNat + i : Nat) : Int) by omega, e]
      simp only [Option.bind_some]
      rw [if_pos (by simp only [bitI, hp]; rfl), wrap64_id (by omega) (by omega), show ((w.toNat + i : Nat) : Int) + 1 = w + ((i : Int) + 1) by omega]) hr)
    (Ev.step (f := fun _ => some true) (fun k => by
      simp only [spec_BitsOk.l0]
      rw [wrap64_id (by omega) (by omega), if_neg (by omega)]) (Ev.now _)) with ⟨i, hi, hp, _, hr⟩ | ⟨hp, hr⟩
  · refine ⟨false, by simpa using hr, (fun hb => by cases hb), fun hb => ?_⟩
    have := hb (w.toNat + i) (by omega)
    rw [this] at hp; cases hp
  · refine ⟨true, by simpa using hr, fun _ i hi => ?_, fun _ => rfl⟩
    by_cases ho : i < 64 * l.length
    · have := hp (i - w.toNat) (by omega)
      rwa [show w.toNat + (i - w.toNat) = i by omega] at this
    · exact bitN_out (by omega)
theorem specBitsOk_ev (w : Int) (l : List Int) (h : U64s l) (hl : l.length ≤ 1048576) (hw0 : -9223372036854775808 ≤ w) (hw1 : w ≤ 9223372036854775807) : Ev (fun k => spec_BitsOk.f k w l) (okB w l) := by
  by_cases hin : 1 ≤ w ∧ w ≤ 4096
  · have e1 : spec_l1In.f w 1 4096 = some true := by unfold spec_l1In.f; rw [if_pos (by omega), decide_eq_true (by omega)]
    have e2 := fun (_ : True) => words_of w (by omega) (by omega)
    by_cases hlen : (l.length : Int) = (w + 63) / 64
    · obtain ⟨b, hb, hbi⟩ := specBitsOk_l0 w l h hl hin.1 (by omega)
      have : okB w l = b := by
        cases b with
        | true => exact okB_true ⟨hin.1, hin.2, hlen, h, hbi.1 rfl⟩
        | false => exact okB_false fun hr => by have := hbi.2 hr.top; cases this
      rw [this]
      obtain ⟨K, hb⟩ := hb
      refine ⟨K + 1, fun k hk => ?_⟩
      obtain ⟨m, rfl⟩ : ∃ m, k = m + 1 := ⟨k - 1, by omega⟩
      dsimp only
      unfold spec_BitsOk.f
      rw [e1, e2 trivial]
      simp only [Option.bind_some, if_true, spec_BitsOk.j0]
      rw [if_neg (by simp [hlen])]
      exact hb m (by omega)
    · rw [okB_false fun hr => hlen hr.len]
      refine ⟨1, fun k hk => ?_⟩
      obtain ⟨m, rfl⟩ : ∃ m, k = m + 1 := ⟨k - 1, by omega⟩
      dsimp only
      unfold spec_BitsOk.f
      rw [e1, e2 trivial]
      simp only [Option.bind_some, if_true, spec_BitsOk.j0]
      rw [if_pos (by simpa using hlen)]
  · rw [okB_false fun hr => hin ⟨hr.low, hr.high⟩]
    have e1 : spec_l1In.f w 1 4096 = some false := by
      unfold spec_l1In.f
      by_cases h1 : w ≥ 1
      · rw [if_pos h1, decide_eq_false (by omega)]
      · rw [if_neg h1]
    refine ⟨1, fun k hk => ?_⟩
    obtain ⟨m, rfl⟩ : ∃ m, k = m + 1 := ⟨k - 1, by omega⟩
    dsimp only
    unfold spec_BitsOk.f
    rw [e1]
    simp [spec_BitsOk.j0]

/-! implInside -/
theorem inside_eq (a b c : Int) : impl_inside.f a b c = some (decide (b ≤ a ∧ a ≤ c)) := by
  unfold impl_inside.f
  by_cases h1 : b ≤ a
  · rw [if_pos h1]; simp [h1]
  · rw [if_neg h1]; simp [h1]

/-! wordsFor -/
theorem wordsFor_eq (w : Int) (h0 : 0 ≤ w) (h1 : w ≤ 1000000000) : impl_wordsFor.f w = some ((w + 63) / 64) := by
  unfold impl_wordsFor.f
  rw [wrap64_id (x := w + 63) (by omega) (by omega), Int.tdiv_eq_ediv_of_nonneg (by omega), wrap64_id (by omega) (by omega)]

/-! implBitsOk -/
theorem implBitsOk_eq (w : Int) (l : List Int) (h : U64s l) (hl : l.length ≤ 1048576) : impl_BitsOk.f w l = some (okB w l) := by
  unfold impl_BitsOk.f
  rw [inside_eq]
  simp only [Option.bind_some]
  by_cases hin : 1 ≤ w ∧ w ≤ 4096
  · rw [if_pos (decide_eq_true hin), wordsFor_eq w (by omega) (by omega)]
    simp only [Option.bind_some]
    by_cases hlen : (l.length : Int) = (w + 63) / 64
    · rw [if_pos hlen, Int.tmod_eq_emod_of_nonneg (by omega)]
      by_cases hm : w % 64 = 0
      · rw [if_pos hm, okB_true ⟨hin.1, hin.2, hlen, h, fun i hi => bitN_out (by omega)⟩]
      · rw [if_neg hm, wrap64_id (x := (l.length : Int) - 1) (by omega) (by omega), if_pos (by omega), if_pos (by omega), if_pos (by omega)]
        congr 1
        have hx := rd_w64 h ((l.length : Int) - 1)
        have hs := shr_w64 hx (n := w % 64) (by omega)
        by_cases hz : shr .u64 (rd l ((l.length : Int) - 1)) (w % 64) = 0
        · rw [hz]
          refine (okB_true ⟨hin.1, hin.2, hlen, h, fun i hi => ?_⟩).symm
          by_cases ho : i < 64 * l.length
          · have h2 := hs.2 (i % 64 - (w % 64).toNat)
            rw [hz] at h2
            have e : i / 64 = l.length - 1 := by omega
            unfold bitN
            rw [e, ← show (w % 64).toNat + (i % 64 - (w % 64).toNat) = i % 64 by omega]
            rw [rd_getD, show ((l.length : Int) - 1).toNat = l.length - 1 by omega] at h2
            rw [← h2]; simp
          · exact bitN_out (by omega)
        · have e : (shr .u64 (rd l ((l.length : Int) - 1)) (w % 64) == 0) = false := by simpa using hz
          rw [e]
          refine (okB_false fun hr => hz ?_).symm
          have h0 : (shr .u64 (rd l ((l.length : Int) - 1)) (w % 64)).toNat = 0 := by
            apply testBit_ext (by have := hs.1; unfold W64 at this; omega) (by decide)
            intro j hj
            rw [hs.2]
            by_cases hb : (w % 64).toNat + j < 64
            · have := hr.top (64 * (l.length - 1) + ((w % 64).toNat + j)) (by omega)
              unfold bitN at this
              rw [show (64 * (l.length - 1) + ((w % 64).toNat + j)) / 64 = l.length - 1 by omega, show (64 * (l.length - 1) + ((w % 64).toNat + j)) % 64 = (w % 64).toNat + j by omega] at this
              rw [rd_getD, show ((l.length : Int) - 1).toNat = l.length - 1 by omega, this]; simp
            · rw [testBit_w64 hx (by omega)]; simp
          have := hs.1.1
          omega
    · rw [if_neg hlen, okB_false fun hr => hlen hr.len]
  · rw [if_neg (by simpa using hin), okB_false fun hr => hin ⟨hr.low, hr.high⟩]

/-! compare -/
theorem high_diff (p q : Nat → Bool) (n : Nat) : (∀ i, i < n → p i = q i) ∨ ∃ j, j < n ∧ p j ≠ q j ∧ ∀ i, j < i → i < n → p i = q i := by
  induction n with
  | zero => exact .inl fun i hi => by omega
  | succ n ih =>
    by_cases h : p n = q n
    · rcases ih with h1 | ⟨j, h1, h2, h3⟩
      · exact .inl fun i hi => by
          by_cases e : i = n
          · rw [e]; exact h
          · exact h1 i (by omega)
      · exact .inr ⟨j, by omega, h2, fun i h4 h5 => by
          by_cases e : i = n
          · rw [e]; exact h
          · exact h3 i h4 (by omega)⟩
    · exact .inr ⟨n, by omega, h, fun i h4 h5 => by omega⟩
theorem lt_of_bit {x y : Nat} (j : Nat) (hx : x.testBit j = false) (hy : y.testBit j = true) (h : ∀ d, j < d → x.testBit d = y.testBit d) : x < y := by
  have e : x / 2 ^ (j + 1) = y / 2 ^ (j + 1) := Nat.eq_of_testBit_eq fun i => by rw [Nat.testBit_div_two_pow, Nat.testBit_div_two_pow]; exact h _ (by omega)
  have hx2 : x % 2 ^ (j + 1) < 2 ^ j := by
    apply Nat.lt_pow_two_of_testBit
    intro i hi
    rw [Nat.testBit_mod_two_pow]
    by_cases c : i = j
    · subst c; simp [hx]
    · simp [show ¬ i < j + 1 by omega]
  have hy2 : 2 ^ j ≤ y % 2 ^ (j + 1) := Nat.ge_two_pow_of_testBit (by rw [Nat.testBit_mod_two_pow]; simp [hy])
  have h1 := Nat.div_add_mod x (2 ^ (j + 1))
  have h2 := Nat.div_add_mod y (2 ^ (j + 1))
  rw [e] at h1
  omega
/-- Two rows that part at bit j, above which they are one: what both comparisons tell. -/
theorem compare_spec (w : Int) (l m : List Int) (hl : Right w l) (hm : Right w m) (j : Nat) (hj : (j : Int) < w) (b : Bool) (h1 : bitN l j = b) (h2 : bitN m j = !b) (h3 : ∀ i, j < i → bitN l i = bitN m i) :
    Ev (fun k => spec_CompareBits.l0 k (w - 1) w l w m) (if b then 1 else -1) := by
  obtain ⟨wd, rfl⟩ := Int.eq_ofNat_of_zero_le (show 0 ≤ w by have := hl.low; omega)
  have a1 := hl.len; have a2 := hm.len; have a3 := hl.high
  have eqI : ∀ i, j < i → bitI l i = bitI m i := fun i hi => by unfold bitI; rw [h3 i hi]
  have hjw : j < wd := by omega
  have hlw : wd ≤ 64 * l.length := by omega
  have hmw : wd ≤ 64 * m.length := by omega
  have hl9 : l.length ≤ 1048576 := by omega
  have hm9 : m.length ≤ 1048576 := by omega
  have hu := hl.words
  have hv := hm.words
  clear h3 hl hm a1 a2 a3 hj
  have step : ∀ q, j < q → q < wd → ∀ k, spec_CompareBits.l0 (k + 1) (q : Int) (wd : Int) l (wd : Int) m = spec_CompareBits.l0 k ((q : Int) - 1) (wd : Int) l (wd : Int) m := by
    intro q hq1 hq2 k
    have q1 : q < 64 * l.length := Nat.lt_of_lt_of_le hq2 hlw
    have q2 : q < 64 * m.length := Nat.lt_of_lt_of_le hq2 hmw
    have w1 : -9223372036854775808 ≤ (q : Int) - 1 := by omega
    have w2 : (q : Int) - 1 ≤ 9223372036854775807 := by omega
    have g1 := l1Bit_eq (wd : Int) l hu q q1 hl9
    have g2 := l1Bit_eq (wd : Int) m hv q q2 hm9
    have g0 : (q : Int) ≥ 0 := Int.natCast_nonneg q
    have z1 : ¬ bitI m q < bitI m q := Int.lt_irrefl _
    have z2 : ¬ bitI m q > bitI m q := Int.lt_irrefl _
    simp only [spec_CompareBits.l0]
    rw [wrap64_id w1 w2]
    simp only [if_pos g0, g1, g2, Option.bind_some, eqI q hq1]
    rw [if_neg z1, if_neg z2]
  have hj1 : j < 64 * l.length := by omega
  have hj2 : j < 64 * m.length := by omega
  have g1 := l1Bit_eq (wd : Int) l hu j hj1 hl9
  have g2 := l1Bit_eq (wd : Int) m hv j hj2 hm9
  have g0 : (j : Int) ≥ 0 := Int.natCast_nonneg j
  have last : Ev (fun k => spec_CompareBits.l0 k (j : Int) (wd : Int) l (wd : Int) m) (if b then 1 else -1) := by
    cases b with
    | false =>
      have b1 : bitI l j = 0 := by unfold bitI; rw [h1]; rfl
      have b2 : bitI m j = 1 := by unfold bitI; rw [h2]; rfl
      refine Ev.step (f := fun _ => some (-1)) (fun k => ?_) (Ev.now _)
      simp only [spec_CompareBits.l0]
      simp only [if_pos g0, g1, g2, Option.bind_some, b1, b2]
      rw [if_pos (show (0 : Int) < 1 by decide)]
    | true =>
      have b1 : bitI l j = 1 := by unfold bitI; rw [h1]; rfl
      have b2 : bitI m j = 0 := by unfold bitI; rw [h2]; rfl
      refine Ev.step (f := fun _ => some 1) (fun k => ?_) (Ev.now _)
      simp only [spec_CompareBits.l0]
      simp only [if_pos g0, g1, g2, Option.bind_some, b1, b2]
      rw [if_neg (show ¬ (1 : Int) < 0 by decide), if_pos (show (1 : Int) > 0 by decide)]
  clear g1 g2 h1 h2
  have main := down_loop (wd - 1 - j) (fun _ => ()) (fun k _ i => spec_CompareBits.l0 k ((j : Int) + 1 + i) (wd : Int) l (wd : Int) m)
    (fun i hi r h => Ev.step (fun k => by
      have e1 : (j : Int) + 1 + (i : Int) = ((j + 1 + i : Nat) : Int) := by omega
      have e2 : (j : Int) + 1 + ((i : Int) - 1) = ((j + 1 + i : Nat) : Int) - 1 := by omega
      rw [e1, e2]
      exact step (j + 1 + i) (by omega) (by omega) k) h)
    (if b then 1 else -1) (Ev.congr (fun k => by rw [show (j : Int) + 1 + -1 = (j : Int) by omega]) last)
  rw [show (wd : Int) - 1 = (j : Int) + 1 + (((wd - 1 - j : Nat) : Int) - 1) by omega]
  exact main
theorem compare_impl (w : Int) (l m : List Int) (hl : Right w l) (hm : Right w m) (j : Nat) (hj : (j : Int) < w) (b : Bool) (h1 : bitN l j = b) (h2 : bitN m j = !b) (h3 : ∀ i, j < i → bitN l i = bitN m i) :
    Ev (fun k => impl_Bits_compare.f k w l w m) (if b then 1 else -1) := by
  obtain ⟨wd, rfl⟩ := Int.eq_ofNat_of_zero_le (show 0 ≤ w by have := hl.low; omega)
  have a1 := hl.len; have a2 := hm.len; have a3 := hl.high
  have eqI : ∀ i, j < i → bitI l i = bitI m i := fun i hi => by unfold bitI; rw [h3 i hi]
  have weq : ∀ i, j / 64 < i → i < l.length → rd l (i : Int) = rd m (i : Int) := by
    intro i hi hil
    obtain ⟨a, ha, hal⟩ := w64_nat (rd_w64 hl.words (i : Int))
    obtain ⟨c, hc, hcl⟩ := w64_nat (rd_w64 hm.words (i : Int))
    have : a = c := testBit_ext hal hcl fun d hd => by
      have := h3 (64 * i + d) (by omega)
      rw [bitN_word _ _ _ hd, bitN_word _ _ _ hd, ha, hc, Int.toNat_natCast, Int.toNat_natCast] at this
      exact this
    rw [ha, hc, this]
  obtain ⟨a, ha, hal⟩ := w64_nat (rd_w64 hl.words ((j / 64 : Nat) : Int))
  obtain ⟨c, hc, hcl⟩ := w64_nat (rd_w64 hm.words ((j / 64 : Nat) : Int))
  have wa : ∀ d, d < 64 → a.testBit d = bitN l (64 * (j / 64) + d) := fun d hd => by rw [bitN_word _ _ _ hd, ha, Int.toNat_natCast]
  have wc : ∀ d, d < 64 → c.testBit d = bitN m (64 * (j / 64) + d) := fun d hd => by rw [bitN_word _ _ _ hd, hc, Int.toNat_natCast]
  have hja : a.testBit (j % 64) = b := by rw [wa _ (by omega), show 64 * (j / 64) + j % 64 = j by omega]; exact h1
  have hjc : c.testBit (j % 64) = !b := by rw [wc _ (by omega), show 64 * (j / 64) + j % 64 = j by omega]; exact h2
  have habove : ∀ d, j % 64 < d → a.testBit d = c.testBit d := fun d hd => by
    by_cases h64 : d < 64
    · rw [wa d h64, wc d h64]; exact h3 _ (by omega)
    · have hp : 2 ^ 64 ≤ 2 ^ d := Nat.pow_le_pow_right (by decide) (by omega)
      rw [Nat.testBit_lt_two_pow (Nat.lt_of_lt_of_le hal hp), Nat.testBit_lt_two_pow (Nat.lt_of_lt_of_le hcl hp)]
  have last : Ev (fun k => impl_Bits_compare.l0 k ((j / 64 : Nat) : Int) (wd : Int) l (wd : Int) m) (if b then 1 else -1) := by
    refine Ev.step (f := fun _ => some (if b then 1 else -1)) (fun k => ?_) (Ev.now _)
    simp only [impl_Bits_compare.l0]
    rw [if_pos (by omega), if_pos (by omega), if_pos (by omega), if_pos (by omega), ha, hc]
    cases b with
    | false =>
      have := lt_of_bit (j % 64) hja (by simpa using hjc) habove
      rw [if_pos (by omega)]; rfl
    | true =>
      have := lt_of_bit (j % 64) (by simpa using hjc) hja (fun d hd => (habove d hd).symm)
      rw [if_neg (by omega), if_pos (by omega)]; rfl
  have main := down_loop (l.length - 1 - j / 64) (fun _ => ()) (fun k _ i => impl_Bits_compare.l0 k (((j / 64 : Nat) : Int) + 1 + i) (wd : Int) l (wd : Int) m)
    (fun i hi r h => Ev.step (fun k => by
      simp only [impl_Bits_compare.l0]
      rw [show ((j / 64 : Nat) : Int) + 1 + (i : Int) = ((j / 64 + 1 + i : Nat) : Int) by omega, weq _ (by omega) (by omega), if_pos (by omega), if_pos (by omega), if_pos (by omega), if_pos (by omega), if_neg (by omega), if_neg (by omega), wrap64_id (by omega) (by omega),
        show ((j / 64 + 1 + i : Nat) : Int) - 1 = ((j / 64 : Nat) : Int) + 1 + ((i : Int) - 1) by omega]) h)
    (if b then 1 else -1) (Ev.congr (fun k => by rw [show ((j / 64 : Nat) : Int) + 1 + -1 = ((j / 64 : Nat) : Int) by omega]) last)
  refine Ev.congr (fun k => ?_) main
  unfold impl_Bits_compare.f
  rw [wrap64_id (by omega) (by omega), show ((j / 64 : Nat) : Int) + 1 + (((l.length - 1 - j / 64 : Nat) : Int) - 1) = (l.length : Int) - 1 by omega]
theorem compare_parts (w : Int) (l m : List Int) (hl : Right w l) (hm : Right w m) (j : Nat) (hj : (j : Int) < w) (b : Bool) (h1 : bitN l j = b) (h2 : bitN m j = !b) (h3 : ∀ i, j < i → bitN l i = bitN m i) :
    Ev (fun k => spec_CompareBits.l0 k (w - 1) w l w m) (if b then 1 else -1) ∧ Ev (fun k => impl_Bits_compare.f k w l w m) (if b then 1 else -1) :=
  ⟨compare_spec w l m hl hm j hj b h1 h2 h3, compare_impl w l m hl hm j hj b h1 h2 h3⟩
theorem compare_agree (w : Int) (l : List Int) (w2 : Int) (l2 : List Int) (hu : U64s l) (hl : l.length ≤ 1048576) (hw : -9223372036854775808 ≤ w ∧ w ≤ 9223372036854775807) (hu2 : U64s l2) (hl2 : l2.length ≤ 1048576) (hw2 : -9223372036854775808 ≤ w2 ∧ w2 ≤ 9223372036854775807) :
    ∃ r, Ev (fun k => spec_CompareBits.f k w l w2 l2) r ∧ Ev (fun k => impl_CompareBits.f k w l w2 l2) r := by
  obtain ⟨K1, g1⟩ := specBitsOk_ev w l hu hl hw.1 hw.2
  have g2 := implBitsOk_eq w l hu hl
  obtain ⟨K2, g3⟩ := specBitsOk_ev w2 l2 hu2 hl2 hw2.1 hw2.2
  have g4 := implBitsOk_eq w2 l2 hu2 hl2
  rcases okB_cases w l with ⟨e, hr⟩ | ⟨e, hr⟩
  · rcases okB_cases w2 l2 with ⟨e2, hr2⟩ | ⟨e2, hr2⟩
    · by_cases hww : w = w2
      · subst hww
        have b1 := hr.low; have b2 := hr.high; have b3 := hr.len; have b4 := hr2.len
        have glue : ∀ r, Ev (fun k => spec_CompareBits.l0 k (w - 1) w l w l2) r ∧ Ev (fun k => impl_Bits_compare.f k w l w l2) r → ∃ r, Ev (fun k => spec_CompareBits.f k w l w l2) r ∧ Ev (fun k => impl_CompareBits.f k w l w l2) r := by
          rintro r ⟨⟨K3, h1⟩, ⟨K4, h2⟩⟩
          refine ⟨r, ⟨K1 + K2 + K3 + 1, fun k hk => ?_⟩, ⟨K4, fun k hk => ?_⟩⟩
          · obtain ⟨m, rfl⟩ : ∃ m, k = m + 1 := ⟨k - 1, by omega⟩
            have h1 := h1 m (by omega)
            dsimp only at h1 ⊢
            simp (disch := omega) only [spec_CompareBits.f, spec_CompareBits.j0, g1, g3, e, e2, wrap64_id, Option.bind_some, if_true, bne_self_eq_false, Bool.false_eq_true, if_false]
            exact h1
          · have h2 := h2 k hk
            dsimp only at h2 ⊢
            simp (disch := omega) only [impl_CompareBits.f, g2, g4, e, e2, h2, Option.bind_some, if_true]
        rcases high_diff (bitN l) (bitN l2) w.toNat with h | ⟨j, hj, hne, hab⟩
        · have : l = l2 := hr.ext hr2 fun i hi => h i (by omega)
          subst this
          refine glue 0 ⟨?_, ?_⟩
          · have main := down_loop w.toNat (fun _ => ()) (fun k _ i => spec_CompareBits.l0 k i w l w l)
              (fun i hi r h => Ev.step (fun k => by
                simp only [spec_CompareBits.l0]
                rw [if_pos (by omega), l1Bit_eq _ l hr.words _ (by omega) (by omega)]
                simp only [Option.bind_some]
                rw [if_neg (by omega), if_neg (by omega), wrap64_id (by omega) (by omega)]) h)
              0 (Ev.step (f := fun _ => some 0) (fun k => by simp only [spec_CompareBits.l0]; rw [if_neg (by omega)]) (Ev.now _))
            rwa [Int.toNat_of_nonneg (by omega)] at main
          · have main := down_loop l.length (fun _ => ()) (fun k _ i => impl_Bits_compare.l0 k i w l w l)
              (fun i hi r h => Ev.step (fun k => by
                simp only [impl_Bits_compare.l0]
                rw [if_pos (by omega), if_pos (by omega), if_pos (by omega), if_pos (by omega), if_neg (by omega), if_neg (by omega), wrap64_id (by omega) (by omega)]) h)
              0 (Ev.step (f := fun _ => some 0) (fun k => by simp only [impl_Bits_compare.l0]; rw [if_neg (by omega)]) (Ev.now _))
            refine Ev.congr (fun k => ?_) main
            unfold impl_Bits_compare.f
            rw [wrap64_id (by omega) (by omega)]
        · refine glue _ (compare_parts w l l2 hr hr2 j (by omega) (bitN l j) rfl (by revert hne; cases bitN l j <;> cases bitN l2 j <;> simp) fun i hi => ?_)
          by_cases hi2 : i < w.toNat
          · exact hab i hi hi2
          · rw [hr.top i (by omega), hr2.top i (by omega)]
      · refine ⟨-2, ⟨K1 + K2 + 1, fun k hk => ?_⟩, ⟨0, fun k hk => ?_⟩⟩
        · obtain ⟨m, rfl⟩ : ∃ m, k = m + 1 := ⟨k - 1, by omega⟩
          have hb : (w != w2) = true := by simpa using hww
          simp (disch := omega) only [spec_CompareBits.f, spec_CompareBits.j0, g1, g3, e, e2, hb, Option.bind_some, if_true]
        · simp (disch := omega) only [impl_CompareBits.f, g2, g4, e, e2, Option.bind_some, if_true, if_neg hww]
    · refine ⟨-2, ⟨K1 + K2 + 1, fun k hk => ?_⟩, ⟨0, fun k hk => ?_⟩⟩
      · obtain ⟨m, rfl⟩ : ∃ m, k = m + 1 := ⟨k - 1, by omega⟩
        simp (disch := omega) only [spec_CompareBits.f, spec_CompareBits.j0, g1, g3, e, e2, Option.bind_some, if_true, if_false, Bool.false_eq_true]
      · simp (disch := omega) only [impl_CompareBits.f, g2, g4, e, e2, Option.bind_some, if_true, if_false, Bool.false_eq_true]
  · refine ⟨-2, ⟨K1 + 1, fun k hk => ?_⟩, ⟨0, fun k hk => ?_⟩⟩
    · obtain ⟨m, rfl⟩ : ∃ m, k = m + 1 := ⟨k - 1, by omega⟩
      simp (disch := omega) only [spec_CompareBits.f, spec_CompareBits.j0, g1, e, Option.bind_some, if_true, if_false, Bool.false_eq_true]
    · simp (disch := omega) only [impl_CompareBits.f, g2, e, Option.bind_some, if_true, if_false, Bool.false_eq_true]
-- SAYS: The program's CompareBits answers as the reference's CompareBits does, for every two rows of bits.
theorem FnExactCompareBits (a0_0 : Int) (l0_1 : List Int) (a1_0 : Int) (l1_1 : List Int) (q0 : (Lit.int .i64 a0_0).wf = true) (q1 : ∀ x ∈ l0_1, (Lit.int .u64 x).wf = true) (hl : l0_1.length ≤ 9223372036854775807)
    (q2 : (Lit.int .i64 a1_0).wf = true) (q3 : ∀ x ∈ l1_1, (Lit.int .u64 x).wf = true) (hl1 : l1_1.length ≤ 9223372036854775807) :
    ∃ k, laws_FnExactCompareBits.f k a0_0 l0_1 a1_0 l1_1 = some true := by
  have hu : U64s l0_1 := fun x hx => wf_u64 (q1 x hx)
  have hu1 : U64s l1_1 := fun x hx => wf_u64 (q3 x hx)
  have hsz := szBits_eq a0_0 l0_1 1048576 hl (by decide) (by decide)
  by_cases hbig : 1048576 - (l0_1.length : Int) < 0
  · exact ⟨0, by simp (disch := omega) only [laws_FnExactCompareBits.f, hsz, Option.bind_some, if_pos]⟩
  · have hsz1 := szBits_eq a1_0 l1_1 (1048576 - (l0_1.length : Int)) hl1 (by omega) (by omega)
    rw [if_neg hbig] at hsz
    by_cases hbig1 : 1048576 - (l0_1.length : Int) - (l1_1.length : Int) < 0
    · exact ⟨0, by simp (disch := omega) only [laws_FnExactCompareBits.f, hsz, hsz1, Option.bind_some, if_pos, if_neg]⟩
    · rw [if_neg hbig1] at hsz1
      have hl2 : l0_1.length ≤ 1048576 := by omega
      have hl3 : l1_1.length ≤ 1048576 := by omega
      obtain ⟨r, g1, g2⟩ := compare_agree a0_0 l0_1 a1_0 l1_1 hu hl2 (wf_i64 q0) hu1 hl3 (wf_i64 q2)
      obtain ⟨K1, h1⟩ := Ev.binds g1
      obtain ⟨K2, h2⟩ := Ev.binds g2
      obtain ⟨K3, h3⟩ := Ev.binds (toBits_ev a0_0 l0_1 hl2)
      obtain ⟨K4, h4⟩ := Ev.binds (toBits_ev a1_0 l1_1 hl3)
      obtain ⟨K5, h5⟩ := Ev.binds (eqBits_ev a0_0 l0_1 hl2)
      obtain ⟨K6, h6⟩ := Ev.binds (eqBits_ev a1_0 l1_1 hl3)
      refine ⟨K1 + K2 + K3 + K4 + K5 + K6, ?_⟩
      have hsz := fun β (g : _ → Option β) => some_binds hsz β g
      have hsz1 := fun β (g : _ → Option β) => some_binds hsz1 β g
      have hb := eq_false hbig
      have hb1 := eq_false hbig1
      simp (disch := omega) only [laws_FnExactCompareBits.f, ↓hsz, ↓hsz1, ↓h1, ↓h2, ↓h3, ↓h4, ↓h5, ↓h6, ↓reduceIte, hb, hb1]

end Go.Proofs.Ytfjknhmepgfhaaa.Pure
