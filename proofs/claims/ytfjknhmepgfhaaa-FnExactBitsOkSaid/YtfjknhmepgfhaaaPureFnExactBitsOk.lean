/- The program's BitsOk answers as the reference's BitsOk does, for every row of bits. -/
import Derived.Test.YtfjknhmepgfhaaaPFnExactBitsOkx2
import Derived.Test.YtfjknhmepgfhaaaBits
import Derived.Test.YtfjknhmepgfhaaaLoops
namespace Go.Proofs.Ytfjknhmepgfhaaa.Pure
open Go Go.RowKit Go.Proofs.Ytfjknhmepgfhaaa.PFnExactBitsOk Go.Proofs.YtfjknhmepgfhaaaW.PrintWords Go.Proofs.YtfjknhmepgfhaaaW.PrintLast Go.Proofs.YtfjknhmepgfhaaaW.PrintMore Go.Proofs.Ytfjknhmepgfhaaa.BitsLib Go.Proofs.Ytfjknhmepgfhaaa.Loops
set_option linter.unusedVariables false
set_option linter.unusedSimpArgs false
set_option maxRecDepth 4000

/-! sz64 -/
theorem szUint64S_eq (l : List Int) (left : Int) (hl : l.length ≤ 9223372036854775807) (h0 : 0 ≤ left) (h1 : left ≤ 1048576) :
    laws_szUint64S.f l left = some (if left - l.length < 0 then -1 else left - l.length) := by
  unfold laws_szUint64S.f
  rw [wrap64_id (by omega) (by omega)]
  split <;> rfl

/-! szBits -/
theorem szBits_eq (w : Int) (l : List Int) (left : Int) (hl : l.length ≤ 9223372036854775807) (h0 : 0 ≤ left) (h1 : left ≤ 1048576) :
    laws_szBits.f w l left = some (if left - l.length < 0 then -1 else left - l.length) := by
  unfold laws_szBits.f
  rw [szUint64S_eq l left hl h0 h1]
  simp only [Option.bind_some]
  split
  · rfl
  · rfl

/-! toUint64S -/
theorem toUint64S_ev (l : List Int) (hl : l.length ≤ 1048576) : Ev (fun k => laws_toUint64S.f k l) l := by
  have main := up_loop l.length (filled (fun i => rd l i) (List.replicate l.length 0)) (fun k xs i => laws_toUint64S.l0 k l xs i)
    (fun i hi r h => Ev.step (fun k => by
      simp only [laws_toUint64S.l0]
      rw [if_pos (by omega), if_pos (by omega), if_pos (by rw [filled_len _ _ (by simp; omega)]; simp; omega), Int.toNat_natCast, filled_set _ _ (by simpa using hi), wrap64_id (by omega) (by omega)]) h)
    l (Ev.step (f := fun _ => some l) (fun k => by
      simp only [laws_toUint64S.l0]
      rw [if_neg (by omega), filled_all _ _ (by simp), list_of_rd]) (Ev.now l))
  rw [filled_zero] at main
  refine Ev.congr (fun k => ?_) main
  unfold laws_toUint64S.f
  rw [if_pos (by omega), if_pos (by omega), Int.toNat_natCast]

/-! toBits -/
theorem toBits_ev (w : Int) (l : List Int) (hl : l.length ≤ 1048576) : Ev (fun k => laws_toBits.f k w l) (w, l) := by
  obtain ⟨K, h⟩ := toUint64S_ev l hl
  refine ⟨K, fun k hk => ?_⟩
  have h := h k hk
  dsimp only at h ⊢
  unfold laws_toBits.f
  rw [h]; rfl

/-! eqUint64S -/
theorem eqUint64S_ev (l m : List Int) (hl : l.length ≤ 1048576) : Ev (fun k => laws_eqUint64S.f k l m) (decide (l = m)) := by
  by_cases hlen : l.length = m.length
  · have := all_loop l.length (l = m) (fun i => rd l i != rd m i) (fun k i => laws_eqUint64S.l0 k l m i) false true
      (fun i hi hp => Ev.step (f := fun _ => some false) (fun k => by
        simp only [laws_eqUint64S.l0]
        rw [if_pos (by omega), if_pos (by omega), if_pos (by omega), if_neg (by simpa using hp)]) (Ev.now _))
      (fun i hi hp r h => Ev.step (fun k => by
        simp only [laws_eqUint64S.l0]
        rw [if_pos (by omega), if_pos (by omega), if_pos (by omega), if_pos (by simpa using hp), wrap64_id (by omega) (by omega)]) h)
      (Ev.step (f := fun _ => some true) (fun k => by
        simp only [laws_eqUint64S.l0]
        rw [if_neg (by omega)]) (Ev.now _))
      ⟨fun h j hj => by rw [h]; simp, fun h => ext_rd hlen fun i hi => by simpa using h i hi⟩
    have e : decide (l = m) = if l = m then true else false := by by_cases h : l = m <;> simp [h]
    rw [e]
    refine Ev.congr (fun k => ?_) this
    unfold laws_eqUint64S.f
    rw [if_pos (by omega)]
  · have e : decide (l = m) = false := decide_eq_false (fun h => hlen (by rw [h]))
    rw [e]
    exact Ev.congr (fun k => by unfold laws_eqUint64S.f; rw [if_neg (by omega)]) (Ev.now _)

/-! eqBits -/
theorem eqBits_ev (w : Int) (l : List Int) (hl : l.length ≤ 1048576) : Ev (fun k => laws_eqBits.f k w l w l) true := by
  obtain ⟨K, h⟩ := eqUint64S_ev l l hl
  refine ⟨K, fun k hk => ?_⟩
  have h := h k hk
  dsimp only at h ⊢
  unfold laws_eqBits.f
  rw [if_pos rfl, h]
  simp

/-! okB -/
noncomputable def okB (w : Int) (l : List Int) : Bool := @decide (Right w l) (Classical.propDecidable _)
theorem okB_true {w : Int} {l : List Int} (h : Right w l) : okB w l = true := by unfold okB; exact @decide_eq_true _ (Classical.propDecidable _) h
theorem okB_false {w : Int} {l : List Int} (h : ¬ Right w l) : okB w l = false := by unfold okB; exact @decide_eq_false _ (Classical.propDecidable _) h
theorem okB_cases (w : Int) (l : List Int) : (okB w l = true ∧ Right w l) ∨ (okB w l = false ∧ ¬ Right w l) := by
  by_cases h : Right w l
  · exact .inl ⟨okB_true h, h⟩
  · exact .inr ⟨okB_false h, h⟩

/-! l1Bit -/
theorem l1Bit_eq (w : Int) (l : List Int) (h : U64s l) (i : Nat) (hi : i < 64 * l.length) (hl : l.length ≤ 1048576) : spec_l1Bit.f w l (i : Int) = some (bitI l i) := by
  have e1 : wrap64 (Int.tdiv (i : Int) 64) = ((i / 64 : Nat) : Int) := by
    rw [Int.tdiv_eq_ediv_of_nonneg (by omega), wrap64_id (by omega) (by omega)]; omega
  have e2 : IntKind.u64.wrap (Int.tmod (i : Int) 64) = ((i % 64 : Nat) : Int) := by
    rw [Int.tmod_eq_emod_of_nonneg (by omega), wrap_u64_id (by omega) (by omega)]; omega
  unfold spec_l1Bit.f
  rw [e1, e2, if_pos (by omega), if_pos (by omega), if_pos (by omega), bit_reads h]
  rcases bitI_01 l i with e | e <;> simp [e]

/-! specBitsOk -/
theorem specBitsOk_l0 (w : Int) (l : List Int) (h : U64s l) (hl : l.length ≤ 1048576) (h1 : 1 ≤ w) (hw : w ≤ 64 * l.length) :
    ∃ b, Ev (fun k => spec_BitsOk.l0 k w w l) b ∧ (b = true ↔ ∀ i : Nat, w ≤ i → bitN l i = false) := by
  rcases find_loop (64 * l.length - w.toNat) (fun i => bitN l (w.toNat + i)) (fun k i => spec_BitsOk.l0 k (w + i) w l) (fun _ => false) true
    (fun i hi hp => Ev.step (f := fun _ => some false) (fun k => by
      simp only [spec_BitsOk.l0]
      rw [wrap64_id (by omega) (by omega), if_pos (by omega), show w + (i : Int) = ((w.toNat + i : Nat) : Int) by omega, l1Bit_eq w l h _ (by omega) hl]
      simp only [Option.bind_some]
      rw [if_neg (by simp only [bitI, hp, if_true]; decide)]) (Ev.now _))
    (fun i hi hp r hr => Ev.step (fun k => by
      simp only [spec_BitsOk.l0]
      rw [wrap64_id (x := 64 * (l.length : Int)) (by omega) (by omega), if_pos (by omega)]
      have e := l1Bit_eq w l h (w.toNat + i) (by omega) hl
      rw [show w + (i : Int) = ((w.toNat + i : Nat) : Int) by omega, e]
      simp only [Option.bind_some]
      rw [if_pos (by simp only [bitI, hp]; rfl), wrap64_id (by omega) (by omega), show ((w.toNat + i : Nat) : Int) + 1 = w + ((i : Int) + 1) by omega]) hr)
    (Ev.step (f := fun _ => some true) (fun k => by
      simp only [spec_BitsOk.l0]
      rw [wrap64_id (by omega) (by omega), if_neg (by omega)]) (Ev.now _)) with ⟨i, hi, hp, _, hr⟩ | ⟨hp, hr⟩
  · refine ⟨false, by simpa using hr, (fun hb => by cases hb), fun hb => ?_⟩
    have := hb (w.toNat + i) (by omega)
    rw [this] at hp; cases hp
  · refine ⟨true, by simpa using hr, fun _ i hi => ?_, fun _ => rfl⟩
    by_cases ho : i < 64 * l.length
    · have := hp (i - w.toNat) (by omega)
      rwa [show w.toNat + (i - w.toNat) = i by omega] at this
    · exact bitN_out (by omega)
theorem specBitsOk_ev (w : Int) (l : List Int) (h : U64s l) (hl : l.length ≤ 1048576) (hw0 : -9223372036854775808 ≤ w) (hw1 : w ≤ 9223372036854775807) : Ev (fun k => spec_BitsOk.f k w l) (okB w l) := by
  by_cases hin : 1 ≤ w ∧ w ≤ 4096
  · have e1 : spec_l1In.f w 1 4096 = some true := by unfold spec_l1In.f; rw [if_pos (by omega), decide_eq_true (by omega)]
    have e2 : wrap64 (Int.tdiv (wrap64 (w + 63)) 64) = (w + 63) / 64 := by
      rw [wrap64_id (x := w + 63) (by omega) (by omega), Int.tdiv_eq_ediv_of_nonneg (by omega), wrap64_id (by omega) (by omega)]
    by_cases hlen : (l.length : Int) = (w + 63) / 64
    · obtain ⟨b, hb, hbi⟩ := specBitsOk_l0 w l h hl hin.1 (by omega)
      have : okB w l = b := by
        cases b with
        | true => exact okB_true ⟨hin.1, hin.2, hlen, h, hbi.1 rfl⟩
        | false => exact okB_false fun hr => by have := hbi.2 hr.top; cases this
      rw [this]
      obtain ⟨K, hb⟩ := hb
      refine ⟨K + 1, fun k hk => ?_⟩
      obtain ⟨m, rfl⟩ : ∃ m, k = m + 1 := ⟨k - 1, by omega⟩
      dsimp only
      unfold spec_BitsOk.f
      rw [e1, e2]
      simp only [Option.bind_some, if_true, spec_BitsOk.j0]
      rw [if_neg (by simp [hlen])]
      exact hb m (by omega)
    · rw [okB_false fun hr => hlen hr.len]
      refine ⟨1, fun k hk => ?_⟩
      obtain ⟨m, rfl⟩ : ∃ m, k = m + 1 := ⟨k - 1, by omega⟩
      dsimp only
      unfold spec_BitsOk.f
      rw [e1, e2]
      simp only [Option.bind_some, if_true, spec_BitsOk.j0]
      rw [if_pos (by simpa using hlen)]
  · rw [okB_false fun hr => hin ⟨hr.low, hr.high⟩]
    have e1 : spec_l1In.f w 1 4096 = some false := by
      unfold spec_l1In.f
      by_cases h1 : w ≥ 1
      · rw [if_pos h1, decide_eq_false (by omega)]
      · rw [if_neg h1]
    refine ⟨1, fun k hk => ?_⟩
    obtain ⟨m, rfl⟩ : ∃ m, k = m + 1 := ⟨k - 1, by omega⟩
    dsimp only
    unfold spec_BitsOk.f
    rw [e1]
    simp [spec_BitsOk.j0]

/-! implInside -/
theorem inside_eq (a b c : Int) : impl_inside.f a b c = some (decide (b ≤ a ∧ a ≤ c)) := by
  unfold impl_inside.f
  by_cases h1 : b ≤ a
  · rw [if_pos h1]; simp [h1]
  · rw [if_neg h1]; simp [h1]

/-! wordsFor -/
theorem wordsFor_eq (w : Int) (h0 : 0 ≤ w) (h1 : w ≤ 1000000000) : impl_wordsFor.f w = some ((w + 63) / 64) := by
  unfold impl_wordsFor.f
  rw [wrap64_id (x := w + 63) (by omega) (by omega), Int.tdiv_eq_ediv_of_nonneg (by omega), wrap64_id (by omega) (by omega)]

/-! implBitsOk -/
theorem implBitsOk_eq (w : Int) (l : List Int) (h : U64s l) (hl : l.length ≤ 1048576) : impl_BitsOk.f w l = some (okB w l) := by
  unfold impl_BitsOk.f
  rw [inside_eq]
  simp only [Option.bind_some]
  by_cases hin : 1 ≤ w ∧ w ≤ 4096
  · rw [if_pos (decide_eq_true hin), wordsFor_eq w (by omega) (by omega)]
    simp only [Option.bind_some]
    by_cases hlen : (l.length : Int) = (w + 63) / 64
    · rw [if_pos hlen, Int.tmod_eq_emod_of_nonneg (by omega)]
      by_cases hm : w % 64 = 0
      · rw [if_pos hm, okB_true ⟨hin.1, hin.2, hlen, h, fun i hi => bitN_out (by omega)⟩]
      · rw [if_neg hm, wrap64_id (x := (l.length : Int) - 1) (by omega) (by omega), if_pos (by omega), if_pos (by omega), if_pos (by omega)]
        congr 1
        have hx := rd_w64 h ((l.length : Int) - 1)
        have hs := shr_w64 hx (n := w % 64) (by omega)
        by_cases hz : shr .u64 (rd l ((l.length : Int) - 1)) (w % 64) = 0
        · rw [hz]
          refine (okB_true ⟨hin.1, hin.2, hlen, h, fun i hi => ?_⟩).symm
          by_cases ho : i < 64 * l.length
          · have h2 := hs.2 (i % 64 - (w % 64).toNat)
            rw [hz] at h2
            have e : i / 64 = l.length - 1 := by omega
            unfold bitN
            rw [e, ← show (w % 64).toNat + (i % 64 - (w % 64).toNat) = i % 64 by omega]
            rw [rd_getD, show ((l.length : Int) - 1).toNat = l.length - 1 by omega] at h2
            rw [← h2]; simp
          · exact bitN_out (by omega)
        · have e : (shr .u64 (rd l ((l.length : Int) - 1)) (w % 64) == 0) = false := by simpa using hz
          rw [e]
          refine (okB_false fun hr => hz ?_).symm
          have h0 : (shr .u64 (rd l ((l.length : Int) - 1)) (w % 64)).toNat = 0 := by
            apply testBit_ext (by have := hs.1; unfold W64 at this; omega) (by decide)
            intro j hj
            rw [hs.2]
            by_cases hb : (w % 64).toNat + j < 64
            · have := hr.top (64 * (l.length - 1) + ((w % 64).toNat + j)) (by omega)
              unfold bitN at this
              rw [show (64 * (l.length - 1) + ((w % 64).toNat + j)) / 64 = l.length - 1 by omega, show (64 * (l.length - 1) + ((w % 64).toNat + j)) % 64 = (w % 64).toNat + j by omega] at this
              rw [rd_getD, show ((l.length : Int) - 1).toNat = l.length - 1 by omega, this]; simp
            · rw [testBit_w64 hx (by omega)]; simp
          have := hs.1.1
          omega
    · rw [if_neg hlen, okB_false fun hr => hlen hr.len]
  · rw [if_neg (by simpa using hin), okB_false fun hr => hin ⟨hr.low, hr.high⟩]
-- SAYS: The program's BitsOk answers as the reference's BitsOk does, for every row of bits.
theorem FnExactBitsOk (a0_0 : Int) (l0_1 : List Int) (q0 : (Lit.int .i64 a0_0).wf = true) (q1 : ∀ x ∈ l0_1, (Lit.int .u64 x).wf = true) (hl : l0_1.length ≤ 9223372036854775807) :
    ∃ k, laws_FnExactBitsOk.f k a0_0 l0_1 = some true := by
  have hw := wf_i64 q0
  have hu : U64s l0_1 := fun x hx => wf_u64 (q1 x hx)
  have hsz := szBits_eq a0_0 l0_1 1048576 hl (by decide) (by decide)
  by_cases hbig : 1048576 - (l0_1.length : Int) < 0
  · refine ⟨0, ?_⟩
    unfold laws_FnExactBitsOk.f
    rw [hsz, if_pos hbig]; rfl
  · have hl2 : l0_1.length ≤ 1048576 := by omega
    obtain ⟨K1, h1⟩ := toBits_ev a0_0 l0_1 hl2
    obtain ⟨K2, h2⟩ := specBitsOk_ev a0_0 l0_1 hu hl2 hw.1 hw.2
    obtain ⟨K3, h3⟩ := eqBits_ev a0_0 l0_1 hl2
    refine ⟨K1 + K2 + K3, ?_⟩
    simp (disch := omega) only [laws_FnExactBitsOk.f, hsz, h1, h2, h3, implBitsOk_eq a0_0 l0_1 hu hl2, Option.bind_some, bne_self_eq_false, Bool.false_eq_true, if_true, if_false, if_neg]

end Go.Proofs.Ytfjknhmepgfhaaa.Pure
