/- The program's PartOf answers as the reference's PartOf does, for every row of bits and all bounds. -/
import Derived.Test.YtipoepnmklaahaaPFnExactPartOfx5
import Derived.Test.YtipoepnmklaahaaBits
import Derived.Test.YtipoepnmklaahaaLoops
namespace Go.Proofs.Ytipoepnmklaahaa.Pure
open Go Go.RowKit Go.Proofs.Ytipoepnmklaahaa.PFnExactPartOf Go.Proofs.YtipoepnmklaahaaW.PrintWords Go.Proofs.YtipoepnmklaahaaW.PrintLast Go.Proofs.YtipoepnmklaahaaW.PrintMore Go.Proofs.Ytipoepnmklaahaa.BitsLib Go.Proofs.Ytipoepnmklaahaa.Loops
set_option linter.unusedVariables false
set_option linter.unusedSimpArgs false
set_option maxRecDepth 4000

/-! sz64 -/
theorem szUint64S_eq (l : List Int) (left : Int) (hl : l.length ≤ 9223372036854775807) (h0 : 0 ≤ left) (h1 : left ≤ 1048576) :
    laws_szUint64S.f l left = some (if left - l.length < 0 then -1 else left - l.length) := by
  unfold laws_szUint64S.f
  rw [wrap64_id (by omega) (by omega)]
  split <;> rfl

/-! szBits -/
theorem szBits_eq (w : Int) (l : List Int) (left : Int) (hl : l.length ≤ 9223372036854775807) (h0 : 0 ≤ left) (h1 : left ≤ 1048576) :
    laws_szBits.f w l left = some (if left - l.length < 0 then -1 else left - l.length) := by
  unfold laws_szBits.f
  rw [szUint64S_eq l left hl h0 h1]
  simp only [Option.bind_some]
  split
  · rfl
  · rfl

/-! toUint64S -/
theorem toUint64S_ev (l : List Int) (hl : l.length ≤ 1048576) : Ev (fun k => laws_toUint64S.f k l) l := by
  have main := up_loop l.length (filled (fun i => rd l i) (List.replicate l.length 0)) (fun k xs i => laws_toUint64S.l0 k l xs i)
    (fun i hi r h => Ev.step (fun k => by
      simp only [laws_toUint64S.l0]
      rw [if_pos (by omega), if_pos (by omega), if_pos (by rw [filled_len _ _ (by simp; omega)]; simp; omega), Int.toNat_natCast, filled_set _ _ (by simpa using hi), wrap64_id (by omega) (by omega)]) h)
    l (Ev.step (f := fun _ => some l) (fun k => by
      simp only [laws_toUint64S.l0]
      rw [if_neg (by omega), filled_all _ _ (by simp), list_of_rd]) (Ev.now l))
  rw [filled_zero] at main
  refine Ev.congr (fun k => ?_) main
  unfold laws_toUint64S.f
  rw [if_pos (by omega), if_pos (by omega), Int.toNat_natCast]

/-! toBits -/
theorem toBits_ev (w : Int) (l : List Int) (hl : l.length ≤ 1048576) : Ev (fun k => laws_toBits.f k w l) (w, l) := by
  obtain ⟨K, h⟩ := toUint64S_ev l hl
  refine ⟨K, fun k hk => ?_⟩
  have h := h k hk
  dsimp only at h ⊢
  unfold laws_toBits.f
  rw [h]; rfl

/-! eqUint64S -/
theorem eqUint64S_ev (l m : List Int) (hl : l.length ≤ 1048576) : Ev (fun k => laws_eqUint64S.f k l m) (decide (l = m)) := by
  by_cases hlen : l.length = m.length
  · have := all_loop l.length (l = m) (fun i => rd l i != rd m i) (fun k i => laws_eqUint64S.l0 k l m i) false true
      (fun i hi hp => Ev.step (f := fun _ => some false) (fun k => by
        simp only [laws_eqUint64S.l0]
        rw [if_pos (by omega), if_pos (by omega), if_pos (by omega), if_neg (by simpa using hp)]) (Ev.now _))
      (fun i hi hp r h => Ev.step (fun k => by
        simp only [laws_eqUint64S.l0]
        rw [if_pos (by omega), if_pos (by omega), if_pos (by omega), if_pos (by simpa using hp), wrap64_id (by omega) (by omega)]) h)
      (Ev.step (f := fun _ => some true) (fun k => by
        simp only [laws_eqUint64S.l0]
        rw [if_neg (by omega)]) (Ev.now _))
      ⟨fun h j hj => by rw [h]; simp, fun h => ext_rd hlen fun i hi => by simpa using h i hi⟩
    have e : decide (l = m) = if l = m then true else false := by by_cases h : l = m <;> simp [h]
    rw [e]
    refine Ev.congr (fun k => ?_) this
    unfold laws_eqUint64S.f
    rw [if_pos (by omega)]
  · have e : decide (l = m) = false := decide_eq_false (fun h => hlen (by rw [h]))
    rw [e]
    exact Ev.congr (fun k => by unfold laws_eqUint64S.f; rw [if_neg (by omega)]) (Ev.now _)

/-! eqBits -/
theorem eqBits_ev (w : Int) (l : List Int) (hl : l.length ≤ 1048576) : Ev (fun k => laws_eqBits.f k w l w l) true := by
  obtain ⟨K, h⟩ := eqUint64S_ev l l hl
  refine ⟨K, fun k hk => ?_⟩
  have h := h k hk
  dsimp only at h ⊢
  unfold laws_eqBits.f
  rw [if_pos rfl, h]
  simp

/-! marks -/
/-- What stands in a row of words that was marked. -/
def markedL (l : List Int) (m : Int) : List Int := (List.range l.length).map fun i => IntKind.u64.wrap (m + (i : Nat))
theorem markedL_len (l : List Int) (m : Int) : (markedL l m).length = l.length := by simp [markedL]
theorem markedL_rd (l : List Int) (m : Int) (i : Nat) (h : i < l.length) : rd (markedL l m) i = IntKind.u64.wrap (m + i) := by
  rw [rd_getD, List.getD_eq_getElem?_getD, Int.toNat_natCast, markedL, List.getElem?_map, List.getElem?_range h]; rfl

/-! markUint64S -/
theorem markUint64S_ev (l : List Int) (m : Int) (hl : l.length ≤ 1048576) (h0 : 0 ≤ m) (h1 : m ≤ 1000000000) : Ev (fun k => laws_markUint64S.f k l m) (m + l.length, markedL l m) := by
  have main := up_loop l.length (fun i => (m + (i : Nat), filled (fun i => IntKind.u64.wrap (m + (i : Nat))) l i)) (fun k s i => laws_markUint64S.l0 k s.2 s.1 i)
    (fun i hi r h => Ev.step (fun k => by
      simp only [laws_markUint64S.l0]
      rw [if_pos (by rw [filled_len _ _ (by omega)]; omega), if_pos (by omega), Int.toNat_natCast, filled_set _ _ hi, wrap64_id (by omega) (by omega), wrap64_id (by omega) (by omega), show m + (i : Int) + 1 = m + ((i + 1 : Nat) : Int) by omega]) h)
    (m + l.length, markedL l m) (Ev.step (f := fun _ => some (m + l.length, markedL l m)) (fun k => by
      simp only [laws_markUint64S.l0]
      rw [if_neg (by rw [filled_len _ _ (Nat.le_refl _)]; omega), filled_all _ _ rfl]; rfl) (Ev.now _))
  simp only [filled_zero] at main
  exact Ev.congr (fun k => by unfold laws_markUint64S.f; simp) main

/-! heldUint64S -/
theorem heldUint64S_ev (l : List Int) (m : Int) (hl : l.length ≤ 1048576) (h0 : 0 ≤ m) (h1 : m ≤ 1000000000) : Ev (fun k => laws_heldUint64S.f k (markedL l m) m) (m + l.length) := by
  have main := up_loop l.length (fun i => (m + (i : Nat))) (fun k s i => laws_heldUint64S.l0 k (markedL l m) s i)
    (fun i hi r h => Ev.step (fun k => by
      simp only [laws_heldUint64S.l0]
      rw [if_pos (by rw [markedL_len]; omega), if_pos (by omega), if_pos (markedL_rd l m i hi), wrap64_id (by omega) (by omega), wrap64_id (by omega) (by omega), show m + (i : Int) + 1 = m + ((i + 1 : Nat) : Int) by omega]) h)
    (m + l.length) (Ev.step (f := fun _ => some (m + l.length)) (fun k => by
      simp only [laws_heldUint64S.l0]
      rw [if_neg (by rw [markedL_len]; omega)]) (Ev.now _))
  exact Ev.congr (fun k => by unfold laws_heldUint64S.f; simp) main

/-! markBits -/
theorem markBits_ev (w : Int) (l : List Int) (m : Int) (hl : l.length ≤ 1048576) (h0 : 0 ≤ m) (h1 : m ≤ 1000000000) : Ev (fun k => laws_markBits.f k w l m) (m + l.length, markedL l m) := by
  obtain ⟨K, h⟩ := markUint64S_ev l m hl h0 h1
  exact ⟨K, fun k hk => by have h := h k hk; dsimp only at h ⊢; unfold laws_markBits.f; rw [h]; rfl⟩

/-! heldBits -/
theorem heldBits_ev (w : Int) (l : List Int) (m : Int) (hl : l.length ≤ 1048576) (h0 : 0 ≤ m) (h1 : m ≤ 1000000000) : Ev (fun k => laws_heldBits.f k w (markedL l m) m) (m + l.length) := by
  obtain ⟨K, h⟩ := heldUint64S_ev l m hl h0 h1
  refine ⟨K, fun k hk => ?_⟩
  have h := h k hk
  dsimp only at h ⊢
  unfold laws_heldBits.f
  rw [h]
  simp only [Option.bind_some]
  rw [if_neg (by omega)]

/-! okB -/
noncomputable def okB (w : Int) (l : List Int) : Bool := @decide (Right w l) (Classical.propDecidable _)
theorem okB_true {w : Int} {l : List Int} (h : Right w l) : okB w l = true := by unfold okB; exact @decide_eq_true _ (Classical.propDecidable _) h
theorem okB_false {w : Int} {l : List Int} (h : ¬ Right w l) : okB w l = false := by unfold okB; exact @decide_eq_false _ (Classical.propDecidable _) h
theorem okB_cases (w : Int) (l : List Int) : (okB w l = true ∧ Right w l) ∨ (okB w l = false ∧ ¬ Right w l) := by
  by_cases h : Right w l
  · exact .inl ⟨okB_true h, h⟩
  · exact .inr ⟨okB_false h, h⟩

/-! l1Bit -/
theorem l1Bit_eq (w : Int) (l : List Int) (h : U64s l) (i : Nat) (hi : i < 64 * l.length) (hl : l.length ≤ 1048576) : spec_l1Bit.f w l (i : Int) = some (bitI l i) := by
  unfold spec_l1Bit.f
  rw [tdiv64 i (by omega), utmod64, if_pos (by omega), if_pos (by omega), if_pos (by omega), bit_reads h]
  rcases bitI_01 l i with e | e <;> simp [e]

/-! specBitsOk -/
theorem specBitsOk_l0 (w : Int) (l : List Int) (h : U64s l) (hl : l.length ≤ 1048576) (h1 : 1 ≤ w) (hw : w ≤ 64 * l.length) :
    ∃ b, Ev (fun k => spec_BitsOk.l0 k w w l) b ∧ (b = true ↔ ∀ i : Nat, w ≤ i → bitN l i = false) := by
  rcases find_loop (64 * l.length - w.toNat) (fun i => bitN l (w.toNat + i)) (fun k i => spec_BitsOk.l0 k (w + i) w l) (fun _ => false) true
    (fun i hi hp => Ev.step (f := fun _ => some false) (fun k => by
      simp only [spec_BitsOk.l0]
      rw [wrap64_id (by omega) (by omega), if_pos (by omega), show w + (i : Int) = ((w.toNat + i : Nat) : Int) by omega, l1Bit_eq w l h _ (by omega) hl]
      simp only [Option.bind_some]
      rw [if_neg (by simp only [bitI, hp, if_true]; decide)]) (Ev.now _))
    (fun i hi hp r hr => Ev.step (fun k => by
      simp only [spec_BitsOk.l0]
      rw [wrap64_id (x := 64 * (l.length : Int)) (by omega) (by omega), if_pos (by omega)]
      have e := l1Bit_eq w l h (w.toNat + i) (by omega) hl
      rw [show w + (i : Int) = ((w.toNat + i : Nat) : Int) by omega, e]
      simp only [Option.bind_some]
      rw [if_pos (by simp only [bitI, hp]; rfl), wrap64_id (by omega) (by omega), show ((w.toNat + i : Nat) : Int) + 1 = w + ((i : Int) + 1) by omega]) hr)
    (Ev.step (f := fun _ => some true) (fun k => by
      simp only [spec_BitsOk.l0]
      rw [wrap64_id (by omega) (by omega), if_neg (by omega)]) (Ev.now _)) with ⟨i, hi, hp, _, hr⟩ | ⟨hp, hr⟩
  · refine ⟨false, by simpa using hr, (fun hb => by cases hb), fun hb => ?_⟩
    have := hb (w.toNat + i) (by omega)
    rw [this] at hp; cases hp
  · refine ⟨true, by simpa using hr, fun _ i hi => ?_, fun _ => rfl⟩
    by_cases ho : i < 64 * l.length
    · have := hp (i - w.toNat) (by omega)
      rwa [show w.toNat + (i - w.toNat) = i by omega] at this
    · exact bitN_out (by omega)
theorem specBitsOk_ev (w : Int) (l : List Int) (h : U64s l) (hl : l.length ≤ 1048576) (hw0 : -9223372036854775808 ≤ w) (hw1 : w ≤ 9223372036854775807) : Ev (fun k => spec_BitsOk.f k w l) (okB w l) := by
  by_cases hin : 1 ≤ w ∧ w ≤ 4096
  · have e1 : spec_l1In.f w 1 4096 = some true := by unfold spec_l1In.f; rw [if_pos (by omega), decide_eq_true (by omega)]
    have e2 := fun (_ : True) => words_of w (by omega) (by omega)
    by_cases hlen : (l.length : Int) = (w + 63) / 64
    · obtain ⟨b, hb, hbi⟩ := specBitsOk_l0 w l h hl hin.1 (by omega)
      have : okB w l = b := by
        cases b with
        | true => exact okB_true ⟨hin.1, hin.2, hlen, h, hbi.1 rfl⟩
        | false => exact okB_false fun hr => by have := hbi.2 hr.top; cases this
      rw [this]
      obtain ⟨K, hb⟩ := hb
      refine ⟨K + 1, fun k hk => ?_⟩
      obtain ⟨m, rfl⟩ : ∃ m, k = m + 1 := ⟨k - 1, by omega⟩
      dsimp only
      unfold spec_BitsOk.f
      rw [e1, e2 trivial]
      simp only [Option.bind_some, if_true, spec_BitsOk.j0]
      rw [if_neg (by simp [hlen])]
      exact hb m (by omega)
    · rw [okB_false fun hr => hlen hr.len]
      refine ⟨1, fun k hk => ?_⟩
      obtain ⟨m, rfl⟩ : ∃ m, k = m + 1 := ⟨k - 1, by omega⟩
      dsimp only
      unfold spec_BitsOk.f
      rw [e1, e2 trivial]
      simp only [Option.bind_some, if_true, spec_BitsOk.j0]
      rw [if_pos (by simpa using hlen)]
  · rw [okB_false fun hr => hin ⟨hr.low, hr.high⟩]
    have e1 : spec_l1In.f w 1 4096 = some false := by
      unfold spec_l1In.f
      by_cases h1 : w ≥ 1
      · rw [if_pos h1, decide_eq_false (by omega)]
      · rw [if_neg h1]
    refine ⟨1, fun k hk => ?_⟩
    obtain ⟨m, rfl⟩ : ∃ m, k = m + 1 := ⟨k - 1, by omega⟩
    dsimp only
    unfold spec_BitsOk.f
    rw [e1]
    simp [spec_BitsOk.j0]

/-! implInside -/
theorem inside_eq (a b c : Int) : impl_inside.f a b c = some (decide (b ≤ a ∧ a ≤ c)) := by
  unfold impl_inside.f
  by_cases h1 : b ≤ a
  · rw [if_pos h1]; simp [h1]
  · rw [if_neg h1]; simp [h1]

/-! wordsFor -/
theorem wordsFor_eq (w : Int) (h0 : 0 ≤ w) (h1 : w ≤ 1000000000) : impl_wordsFor.f w = some ((w + 63) / 64) := by
  unfold impl_wordsFor.f
  rw [wrap64_id (x := w + 63) (by omega) (by omega), Int.tdiv_eq_ediv_of_nonneg (by omega), wrap64_id (by omega) (by omega)]

/-! implBitsOk -/
theorem implBitsOk_eq (w : Int) (l : List Int) (h : U64s l) (hl : l.length ≤ 1048576) : impl_BitsOk.f w l = some (okB w l) := by
  unfold impl_BitsOk.f
  rw [inside_eq]
  simp only [Option.bind_some]
  by_cases hin : 1 ≤ w ∧ w ≤ 4096
  · rw [if_pos (decide_eq_true hin), wordsFor_eq w (by omega) (by omega)]
    simp only [Option.bind_some]
    by_cases hlen : (l.length : Int) = (w + 63) / 64
    · rw [if_pos hlen, Int.tmod_eq_emod_of_nonneg (by omega)]
      by_cases hm : w % 64 = 0
      · rw [if_pos hm, okB_true ⟨hin.1, hin.2, hlen, h, fun i hi => bitN_out (by omega)⟩]
      · rw [if_neg hm, wrap64_id (x := (l.length : Int) - 1) (by omega) (by omega), if_pos (by omega), if_pos (by omega), if_pos (by omega)]
        congr 1
        have hx := rd_w64 h ((l.length : Int) - 1)
        have hs := shr_w64 hx (n := w % 64) (by omega)
        by_cases hz : shr .u64 (rd l ((l.length : Int) - 1)) (w % 64) = 0
        · rw [hz]
          refine (okB_true ⟨hin.1, hin.2, hlen, h, fun i hi => ?_⟩).symm
          by_cases ho : i < 64 * l.length
          · have h2 := hs.2 (i % 64 - (w % 64).toNat)
            rw [hz] at h2
            have e : i / 64 = l.length - 1 := by omega
            unfold bitN
            rw [e, ← show (w % 64).toNat + (i % 64 - (w % 64).toNat) = i % 64 by omega]
            rw [rd_getD, show ((l.length : Int) - 1).toNat = l.length - 1 by omega] at h2
            rw [← h2]; simp
          · exact bitN_out (by omega)
        · have e : (shr .u64 (rd l ((l.length : Int) - 1)) (w % 64) == 0) = false := by simpa using hz
          rw [e]
          refine (okB_false fun hr => hz ?_).symm
          have h0 : (shr .u64 (rd l ((l.length : Int) - 1)) (w % 64)).toNat = 0 := by
            apply testBit_ext (by have := hs.1; unfold W64 at this; omega) (by decide)
            intro j hj
            rw [hs.2]
            by_cases hb : (w % 64).toNat + j < 64
            · have := hr.top (64 * (l.length - 1) + ((w % 64).toNat + j)) (by omega)
              unfold bitN at this
              rw [show (64 * (l.length - 1) + ((w % 64).toNat + j)) / 64 = l.length - 1 by omega, show (64 * (l.length - 1) + ((w % 64).toNat + j)) % 64 = (w % 64).toNat + j by omega] at this
              rw [rd_getD, show ((l.length : Int) - 1).toNat = l.length - 1 by omega, this]; simp
            · rw [testBit_w64 hx (by omega)]; simp
          have := hs.1.1
          omega
    · rw [if_neg hlen, okB_false fun hr => hlen hr.len]
  · rw [if_neg (by simpa using hin), okB_false fun hr => hin ⟨hr.low, hr.high⟩]

/-! bitsLsucc -/
theorem bitsL_succ (i : Nat) (l : List Int) : bitsL i l ++ [bitI l i] = bitsL (i + 1) l := by simp [bitsL, List.range_succ]

/-! l1List -/
theorem l1List_ev (w : Int) (l : List Int) (h : Right w l) : Ev (fun k => spec_l1List.f k w l) (bitsL w.toNat l) := by
  have hlen := h.len
  have hlo := h.low
  have hhi := h.high
  have main := up_loop w.toNat (fun i => bitsL i l) (fun k acc i => spec_l1List.l0 k acc i w l)
    (fun i hi r hr => Ev.step (fun k => by
      simp only [spec_l1List.l0]
      rw [if_pos (by omega), l1Bit_eq w l h.words i (by omega) (by omega)]
      simp only [Option.bind_some]
      rw [if_pos (by rw [bitsL_len]; omega), bitsL_succ, wrap64_id (by omega) (by omega)]) hr)
    (bitsL w.toNat l) (Ev.step (f := fun _ => some (bitsL w.toNat l)) (fun k => by
      simp only [spec_l1List.l0]
      rw [if_neg (by omega)]) (Ev.now _))
  exact Ev.congr (fun k => by unfold spec_l1List.f; simp [bitsL]) main

/-! packs -/
/-- ws is the row whose bits are z. -/
structure Packs (z : List Int) (ws : List Int) : Prop where
  right : Right (z.length : Int) ws
  bit : ∀ j, j < z.length → bitN ws j = decide (rd z (j : Int) = 1)
theorem Packs.uniq {z ws ws' : List Int} (h : Packs z ws) (k : Packs z ws') : ws = ws' :=
  h.right.ext k.right fun i hi => by rw [h.bit i (by omega), k.bit i (by omega)]
theorem packs_of {w : Int} {z ws : List Int} (hw : w = z.length) (h : Right w ws) (hb : ∀ j, j < z.length → bitN ws j = decide (rd z (j : Int) = 1)) : Packs z ws := by
  subst hw
  exact ⟨h, hb⟩

/-! l1From -/
theorem l1From_ev (z : List Int) (h01 : Bits01 z) (h1 : 1 ≤ z.length) (h2 : z.length ≤ 4096) :
    ∃ ws, Ev (fun k => spec_l1From.f k z) ((z.length : Int), ws, true) ∧ Packs z ws := by
  have ew := fun (_ : True) => words_of (z.length : Int) (by omega) (by omega)
  obtain ⟨ws, hI, hr⟩ := inv_loop z.length (fun i (ws : List Int) => (ws.length : Int) = ((z.length : Int) + 63) / 64 ∧ U64s ws ∧ ∀ j, bitN ws j = (decide (j < i) && decide (rd z (j : Int) = 1)))
    (fun k ws i => spec_l1From.l0 k z i (z.length : Int) ws)
    (fun i hi ws ⟨hl, hu, hb⟩ => by
      have hk : i / 64 < ws.length := by omega
      have hz := rd_01 h01 (i : Int)
      have e3 := fun (_ : True) => wrap_u64_id (x := rd z (i : Int)) (by omega) (by omega)
      have hzw : W64 (rd z (i : Int)) := by unfold W64; omega
      have hs := shl_nat hzw (i % 64)
      have ho := or_w64 (rd_w64 hu ((i / 64 : Nat) : Int)) hs.1
      refine ⟨ws.set (i / 64) (Go.bits .or .u64 (rd ws ((i / 64 : Nat) : Int)) (shl .u64 (rd z (i : Int)) ((i % 64 : Nat) : Int))), ⟨by simpa using hl, hu.set _ ho.1, fun j => ?_⟩, fun r h => Ev.step (fun k => ?_) h⟩
      · rw [bitN_set hk]
        by_cases hj : j / 64 = i / 64
        · have e4 : (rd ws ((i / 64 : Nat) : Int)).toNat.testBit (j % 64) = bitN ws j := by unfold bitN; rw [hj]; rfl
          rw [if_pos hj, ho.2, hs.2 _ (by omega), e4, hb, testBit_01 hz]
          by_cases hji : j = i
          · subst hji
            simp
          · have e5 : (decide (i % 64 ≤ j % 64) && decide (j % 64 - i % 64 = 0)) = false := by
              by_cases hle : i % 64 ≤ j % 64
              · rw [decide_eq_false (show ¬ j % 64 - i % 64 = 0 by omega)]; simp
              · rw [decide_eq_false hle]; simp
            rw [← Bool.and_assoc, e5]
            by_cases hlt : j < i
            · simp [hlt, show j < i + 1 by omega]
            · simp [hlt, show ¬ j < i + 1 by omega]
        · rw [if_neg hj, hb]
          have : j ≠ i := fun e => hj (by rw [e])
          by_cases hji : j < i
          · simp [hji, show j < i + 1 by omega]
          · simp [hji, show ¬ j < i + 1 by omega]
      · simp only [spec_l1From.l0]
        rw [if_pos (by omega), tdiv64 i (by omega), utmod64, e3 trivial, if_pos (by omega), if_pos (by omega), if_pos (by omega), if_pos (by omega), wrap_succ i (by omega), Int.toNat_natCast])
    (List.replicate (((z.length : Int) + 63) / 64).toNat 0) ⟨by simp; omega, U64s.replicate _, fun j => by rw [bitN_replicate]; simp⟩
  obtain ⟨hl, hu, hb⟩ := hI
  have hright : Right (z.length : Int) ws := ⟨by omega, by omega, by omega, hu, fun i hi => by rw [hb]; simp; omega⟩
  refine ⟨ws, ?_, hright, fun j hj => by rw [hb]; simp [hj]⟩
  have := hr ((z.length : Int), ws, true) (Ev.step (f := fun _ => some ((z.length : Int), ws, true)) (fun k => by simp only [spec_l1From.l0]; rw [if_neg (by omega)]) (Ev.now _))
  obtain ⟨K, hK⟩ := this
  refine ⟨K + 1, fun k hk => ?_⟩
  obtain ⟨m, rfl⟩ : ∃ m, k = m + 1 := ⟨k - 1, by omega⟩
  dsimp only
  unfold spec_l1From.f
  rw [if_neg (by omega), decide_eq_false (by omega)]
  simp only [spec_l1From.j0]
  rw [if_neg (by simp), ew trivial, if_pos (by omega), if_pos (by omega)]
  exact hK m (by omega)
theorem l1From_none (z : List Int) (h : z.length < 1 ∨ 4096 < z.length) : Ev (fun k => spec_l1From.f k z) (0, [], false) := by
  refine ⟨1, fun k hk => ?_⟩
  obtain ⟨m, rfl⟩ : ∃ m, k = m + 1 := ⟨k - 1, by omega⟩
  dsimp only
  unfold spec_l1From.f
  by_cases h1 : (z.length : Int) < 1
  · rw [if_pos h1]; simp [spec_l1From.j0]
  · rw [if_neg h1, decide_eq_true (by omega)]; simp [spec_l1From.j0]

/-! zeroBits -/
theorem zeroBits_eq (w : Int) (h0 : 0 ≤ w) (h1 : w ≤ 1000000) : impl_zeroBits.f w = some (w, List.replicate ((w + 63) / 64).toNat 0) := by
  unfold impl_zeroBits.f
  rw [wordsFor_eq w h0 (by omega)]
  simp only [Option.bind_some]
  rw [if_pos (by omega), if_pos (by omega)]

/-! implCut -/
theorem cut_step (k : Nat) (low wd n i : Nat) (w : Int) (l s : List Int) (hn : s.length = n) (hi : i < n) (hq : (low + 64 * i) / 64 < l.length) (s1 : l.length ≤ 64) (s2 : n ≤ 64) :
    impl_Bits_cut.l0 (k + 1) (low : Int) (wd : Int) (n : Int) (i : Int) w l (wd : Int) s = impl_Bits_cut.l0 k (low : Int) (wd : Int) (n : Int) ((i : Int) + 1) w l (wd : Int) (s.set i (wordAt l (low + 64 * i))) := by
  have h0 := wrap_at low i (by omega) (by omega)
  obtain ⟨t, ht⟩ : ∃ t, t = low + 64 * i := ⟨_, rfl⟩
  rw [← ht] at h0 hq ⊢
  have c1 : (i : Int) < (n : Int) := by clear h0; omega
  have c2 : (0 : Int) ≤ (i : Int) := by clear h0; omega
  have c3 : (i : Int) < (s.length : Int) := by clear h0; omega
  have c4 : (0 : Int) ≤ ((t / 64 : Nat) : Int) := by clear h0; omega
  have c5 : ((t / 64 : Nat) : Int) < (l.length : Int) := by clear h0; omega
  have c6 : (0 : Int) ≤ ((t % 64 : Nat) : Int) := by clear h0; omega
  have ht9 : t ≤ 1000000000 := by clear h0; omega
  simp only [impl_Bits_cut.l0]
  rw [h0, tdiv64 t ht9, tmod64, wrap_succ' (t / 64) (by clear h0; omega), wrap_64, wrap_succ i (by clear h0; omega), if_pos c1, if_pos c4, if_pos c5, if_pos c6, if_pos c2, if_pos c3]
  clear h0
  simp only [Option.bind_some, Int.toNat_natCast]
  unfold wordAt
  by_cases c1 : t % 64 = 0
  · rw [if_pos (show ((t % 64 : Nat) : Int) = 0 by omega), if_pos (.inl c1)]
  · rw [if_neg (show ¬ ((t % 64 : Nat) : Int) = 0 by omega)]
    by_cases c2 : t / 64 + 1 < l.length
    · rw [if_pos (show ((t / 64 + 1 : Nat) : Int) < (l.length : Int) by omega), if_pos (by omega), if_pos (by omega), if_neg (fun h => h.elim c1 (fun h => h c2))]
      congr 1
      rw [rd_getD _ (i : Int), Int.toNat_natCast, List.getD_eq_getElem?_getD, List.getElem?_set_self (by omega), Option.getD_some, List.set_set]
    · rw [if_neg (show ¬ ((t / 64 + 1 : Nat) : Int) < (l.length : Int) by omega), if_pos (.inr c2)]
theorem cut_mask (ws : List Int) (hu : U64s ws) (n wd : Nat) (hl : ws.length = n) (h0 : 0 < n) (hm : wd % 64 ≠ 0) (hw : wd / 64 = n - 1) :
    IntKind.u64.wrap (shl .u64 1 ((wd % 64 : Nat) : Int) - 1) = ((2 ^ (wd % 64) - 1 : Nat) : Int) ∧
    U64s (ws.set (n - 1) (Go.bits .and .u64 (rd ws ((n - 1 : Nat) : Int)) ((2 ^ (wd % 64) - 1 : Nat) : Int))) ∧
    ∀ j, bitN (ws.set (n - 1) (Go.bits .and .u64 (rd ws ((n - 1 : Nat) : Int)) ((2 ^ (wd % 64) - 1 : Nat) : Int))) j = (decide (j < wd) && bitN ws j) := by
  have hx := rd_w64 hu ((n - 1 : Nat) : Int)
  have hp : 2 ^ (wd % 64) ≤ 2 ^ 63 := Nat.pow_le_pow_right (by decide) (by omega)
  have hp1 : 1 ≤ 2 ^ (wd % 64) := Nat.one_le_two_pow
  obtain ⟨P, hP⟩ : ∃ P, P = 2 ^ (wd % 64) := ⟨_, rfl⟩
  have hmw : W64 ((2 ^ (wd % 64) - 1 : Nat) : Int) := by
    rw [← hP] at hp hp1 ⊢
    unfold W64; omega
  have ha := and_w64 hx hmw
  refine ⟨?_, hu.set _ ha.1, fun j => ?_⟩
  · have e := shl_u64 1 ((wd % 64 : Nat) : Int) (by omega) (by omega)
    rw [show (1 : Int) = ((1 : Nat) : Int) from rfl, e, Int.toNat_natCast, Nat.shiftLeft_eq, Nat.one_mul, ← hP]
    rw [← hP] at hp hp1
    rw [Nat.mod_eq_of_lt (by omega), wrap_u64_id (by omega) (by omega)]
    omega
  · rw [bitN_set (by omega)]
    by_cases hj : j / 64 = n - 1
    · rw [if_pos hj, ha.2, Int.toNat_natCast, Nat.testBit_two_pow_sub_one]
      have e5 : (rd ws ((n - 1 : Nat) : Int)).toNat.testBit (j % 64) = bitN ws j := by rw [bitN_div, hj]
      rw [e5, Bool.and_comm]
      congr 1
      exact decide_eq_decide.2 ⟨fun h => by omega, fun h => by omega⟩
    · rw [if_neg hj]
      by_cases c : j < 64 * n
      · rw [decide_eq_true (show j < wd by omega)]; simp
      · rw [bitN_out (by omega)]; simp
theorem cut_ev (w : Int) (l : List Int) (low width : Int) (h : Right w l) (h0 : 0 ≤ low) (h1 : 1 ≤ width) (hw : low + width ≤ w) :
    ∃ ws, Ev (fun k => impl_Bits_cut.f k w l low width) (width, ws) ∧ Right width ws ∧ ∀ j : Nat, (j : Int) < width → bitN ws j = bitN l (low.toNat + j) := by
  obtain ⟨low, rfl⟩ := Int.eq_ofNat_of_zero_le h0
  obtain ⟨wd, rfl⟩ := Int.eq_ofNat_of_zero_le (show 0 ≤ width by omega)
  have hlen := h.len
  have hhi := h.high
  obtain ⟨n, hnn⟩ : ∃ n : Nat, n = (((wd : Int) + 63) / 64).toNat := ⟨_, rfl⟩
  have hn2 : wd ≤ 64 * n := by omega
  have hn3 : 64 * n ≤ wd + 63 := by omega
  have hn64 : n ≤ 64 := by omega
  have hll : l.length ≤ 64 := by omega
  have hq : ∀ i, i < n → (low + 64 * i) / 64 < l.length := fun i hi => by omega
  obtain ⟨ws, ⟨hl, hu, hb⟩, hr⟩ := inv_loop n (fun i (s : List Int) => s.length = n ∧ U64s s ∧ ∀ j, bitN s j = (decide (j < 64 * i) && bitN l (low + j)))
    (fun k s i => impl_Bits_cut.l0 k (low : Int) (wd : Int) (n : Int) i w l (wd : Int) s)
    (fun i hi s ⟨hl, hu, hb⟩ => by
      have hw := wordAt_told h.words (low + 64 * i)
      refine ⟨s.set i (wordAt l (low + 64 * i)), ⟨by simpa using hl, hu.set _ hw.1, fun j => ?_⟩, fun r h => Ev.step (fun k => cut_step k low wd n i w l s hl hi (hq i hi) hll hn64) h⟩
      clear hq hnn hlen
      rw [bitN_set (by omega)]
      by_cases hj : j / 64 = i
      · rw [if_pos hj, hw.2 _ (Nat.mod_lt _ (by decide)), decide_eq_true (show j < 64 * (i + 1) by omega), show low + 64 * i + j % 64 = low + j by omega]; simp
      · rw [if_neg hj, hb]
        congr 1
        exact decide_eq_decide.2 ⟨fun h => by omega, fun h => by omega⟩)
    (List.replicate n 0) ⟨by simp, U64s.replicate _, fun j => by rw [bitN_replicate]; simp⟩
  have glue : ∀ r, Ev (fun k => impl_Bits_cut.l0 k (low : Int) (wd : Int) (n : Int) (n : Int) w l (wd : Int) ws) r → Ev (fun k => impl_Bits_cut.f k w l (low : Int) (wd : Int)) r := by
    intro r hend
    refine Ev.congr (fun k => ?_) (hr r hend)
    unfold impl_Bits_cut.f
    rw [zeroBits_eq (wd : Int) (by omega) (by omega)]
    simp only [Option.bind_some]
    rw [← hnn, List.length_replicate]
  clear hr
  by_cases hm : wd % 64 = 0
  · refine ⟨ws, glue _ (Ev.step (f := fun _ => some ((wd : Int), ws)) (fun k => ?_) (Ev.now _)), ⟨by omega, by omega, by omega, hu, fun j hj => bitN_out (by omega)⟩, fun j hj => ?_⟩
    · simp only [impl_Bits_cut.l0]
      rw [if_neg (by omega), tmod64, if_pos (by omega)]
    · rw [hb, Int.toNat_natCast, decide_eq_true (show j < 64 * n by omega)]; simp
  · obtain ⟨hmask, hus, hbit⟩ := cut_mask ws hu n wd hl (by omega) hm (by omega)
    refine ⟨_, glue _ (Ev.step (f := fun _ => some ((wd : Int), ws.set (n - 1) (Go.bits .and .u64 (rd ws ((n - 1 : Nat) : Int)) ((2 ^ (wd % 64) - 1 : Nat) : Int)))) (fun k => ?_) (Ev.now _)),
      ⟨by clear hmask; omega, by clear hmask; omega, by clear hmask; simp; omega, hus, fun j hj => ?_⟩, fun j hj => ?_⟩
    · have c1 : ¬ (n : Int) < (n : Int) := by omega
      have c2 : ¬ ((wd % 64 : Nat) : Int) = 0 := by clear hmask; omega
      have c3 : (0 : Int) ≤ ((n - 1 : Nat) : Int) := by clear hmask; omega
      have c4 : ((n - 1 : Nat) : Int) < (ws.length : Int) := by clear hmask; omega
      have c5 : (0 : Int) ≤ ((wd % 64 : Nat) : Int) := by clear hmask; omega
      have e6 : wrap64 ((ws.length : Int) - 1) = ((n - 1 : Nat) : Int) := by clear hmask; rw [wrap64_id (by omega) (by omega)]; omega
      simp only [impl_Bits_cut.l0]
      rw [if_neg c1, tmod64, if_neg c2, e6, if_pos c3, if_pos c4, if_pos c5, hmask, Int.toNat_natCast]
    · clear hmask; rw [hbit, decide_eq_false (show ¬ j < wd by omega)]; simp
    · clear hmask; rw [hbit, hb, Int.toNat_natCast, decide_eq_true (show j < wd by omega), decide_eq_true (show j < 64 * n by omega)]; simp

/-! rdq -/
theorem rd_q (z : List Int) (j : Nat) : rd z (j : Int) = (z[j]?).getD 0 := by rw [rd_getD, List.getD_eq_getElem?_getD, Int.toNat_natCast]
theorem bitI_one (l : List Int) (i : Nat) : decide (bitI l i = 1) = bitN l i := by unfold bitI; cases bitN l i <;> simp
theorem Bits01.append {a b : List Int} (ha : Bits01 a) (hb : Bits01 b) : Bits01 (a ++ b) := fun x hx => (List.mem_append.1 hx).elim (ha x) (hb x)
theorem Bits01.sub {a b : List Int} (ha : Bits01 a) (h : ∀ x ∈ b, x ∈ a) : Bits01 b := fun x hx => ha x (h x hx)
/-- What a call that tells bits is asked: both tell the same. -/
def Agree (f g : Nat → Option (Int × List Int × Bool)) : Prop := ∃ w ws ok, ws.length ≤ 1048576 ∧ Ev f (w, ws, ok) ∧ Ev g (w, ws, ok)

/-! partOf -/
theorem partOf_agree (w : Int) (l : List Int) (a1 a2 : Int) (hu : U64s l) (hl : l.length ≤ 1048576) (hw : -9223372036854775808 ≤ w ∧ w ≤ 9223372036854775807) (h1 : -9223372036854775808 ≤ a1 ∧ a1 ≤ 9223372036854775807) (h2 : -9223372036854775808 ≤ a2 ∧ a2 ≤ 9223372036854775807) :
    Agree (fun k => spec_PartOf.f k w l a1 a2) (fun k => impl_PartOf.f k w l a1 a2) := by
  obtain ⟨K1, g1⟩ := specBitsOk_ev w l hu hl hw.1 hw.2
  have g2 := implBitsOk_eq w l hu hl
  rcases okB_cases w l with ⟨e, hr⟩ | ⟨e, hr⟩
  · have b1 := hr.low; have b2 := hr.high; have b3 := hr.len
    by_cases hin : 0 ≤ a2 ∧ a2 ≤ a1 ∧ a1 < w
    · obtain ⟨c1, c2, c3⟩ := hin
      obtain ⟨K2, g3⟩ := l1List_ev w l hr
      have hzlen : (((bitsL w.toNat l).take (a1 + 1).toNat).drop a2.toNat).length = (a1 - a2 + 1).toNat := by simp [bitsL_len]; omega
      obtain ⟨ws, hws, hp⟩ := l1From_ev (((bitsL w.toNat l).take (a1 + 1).toNat).drop a2.toNat) (Bits01.sub (bitsL_01 w.toNat l) fun x hx => List.mem_of_mem_take (List.mem_of_mem_drop hx)) (by omega) (by omega)
      obtain ⟨K3, g4⟩ := hws
      obtain ⟨ws', ⟨K4, g5⟩, hr', hb'⟩ := cut_ev w l a2 (a1 - a2 + 1) hr c1 (by omega) (by omega)
      have hp' : Packs (((bitsL w.toNat l).take (a1 + 1).toNat).drop a2.toNat) ws' := packs_of (w := a1 - a2 + 1) (by omega) hr' fun j hj => by
        rw [hb' j (by omega), rd_q, List.getElem?_drop, List.getElem?_take, if_pos (by omega), bitsL_get (by omega), Option.getD_some, bitI_one]
      have := hp.uniq hp'
      subst this
      refine ⟨a1 - a2 + 1, ws, true, by have := hr'.len; omega, ⟨K1 + K2 + K3 + 1, fun k hk => ?_⟩, ⟨K4, fun k hk => ?_⟩⟩
      · obtain ⟨m, rfl⟩ : ∃ m, k = m + 1 := ⟨k - 1, by omega⟩
        simp (disch := omega) only [spec_PartOf.f, spec_PartOf.j0, g1, e, g3, wrap64_id, Option.bind_some, if_true, if_neg, if_pos, bitsL_len, decide_eq_true_eq]
        simp (disch := omega) only [g4]
        simp only [Option.bind_some, hzlen]
        congr 2
        omega
      · simp (disch := omega) only [impl_PartOf.f, g2, e, wrap64_id, Option.bind_some, if_true, if_neg, if_pos]
        simp (disch := omega) only [g5, Option.bind_some]
    · refine ⟨0, [], false, by simp, ⟨K1 + 1, fun k hk => ?_⟩, ⟨0, fun k hk => ?_⟩⟩
      · obtain ⟨m, rfl⟩ : ∃ m, k = m + 1 := ⟨k - 1, by omega⟩
        by_cases c1 : a2 < 0
        · simp (disch := omega) only [spec_PartOf.f, spec_PartOf.j0, g1, e, Option.bind_some, if_true, if_neg, if_pos]
        · by_cases c2 : a1 < a2
          · simp (disch := omega) only [spec_PartOf.f, spec_PartOf.j0, g1, e, Option.bind_some, if_true, if_neg, if_pos]
          · have c3 : decide (a1 ≥ w) = true := decide_eq_true (by omega)
            simp (disch := omega) only [spec_PartOf.f, spec_PartOf.j0, g1, e, c3, Option.bind_some, if_true, if_neg, if_pos]
      · by_cases c1 : a2 < 0
        · simp (disch := omega) only [impl_PartOf.f, g2, e, Option.bind_some, if_true, if_neg, if_pos]
        · by_cases c2 : a1 < a2
          · simp (disch := omega) only [impl_PartOf.f, g2, e, Option.bind_some, if_true, if_neg, if_pos]
          · simp (disch := omega) only [impl_PartOf.f, g2, e, Option.bind_some, if_true, if_neg, if_pos]
  · refine ⟨0, [], false, by simp, ⟨K1 + 1, fun k hk => ?_⟩, ⟨0, fun k hk => ?_⟩⟩
    · obtain ⟨m, rfl⟩ : ∃ m, k = m + 1 := ⟨k - 1, by omega⟩
      simp (disch := omega) only [spec_PartOf.f, spec_PartOf.j0, g1, e, Option.bind_some, if_true, if_false, Bool.false_eq_true]
    · simp (disch := omega) only [impl_PartOf.f, g2, e, Option.bind_some, if_true, if_false, Bool.false_eq_true]
-- SAYS: The program's PartOf answers as the reference's PartOf does, for every row of bits and all bounds.
theorem FnExactPartOf (a0_0 : Int) (l0_1 : List Int) (a1 a2 : Int) (q0 : (Lit.int .i64 a0_0).wf = true) (q1 : ∀ x ∈ l0_1, (Lit.int .u64 x).wf = true) (hl : l0_1.length ≤ 9223372036854775807) (q2 : (Lit.int .i64 a1).wf = true) (q3 : (Lit.int .i64 a2).wf = true) :
    ∃ k, laws_FnExactPartOf.f k a0_0 l0_1 a1 a2 = some true := by
  have hu : U64s l0_1 := fun x hx => wf_u64 (q1 x hx)
  have hsz := szBits_eq a0_0 l0_1 1048576 hl (by decide) (by decide)
  by_cases hbig : 1048576 - (l0_1.length : Int) < 0
  · exact ⟨0, by simp (disch := omega) only [laws_FnExactPartOf.f, hsz, Option.bind_some, if_pos]⟩
  · have hl2 : l0_1.length ≤ 1048576 := by omega
    obtain ⟨w, ws, ok, hws, g1, g2⟩ := partOf_agree a0_0 l0_1 a1 a2 hu hl2 (wf_i64 q0) (wf_i64 q2) (wf_i64 q3)
    obtain ⟨K1, h1⟩ := Ev.binds g1
    obtain ⟨K2, h2⟩ := Ev.binds g2
    obtain ⟨K3, h3⟩ := Ev.binds (toBits_ev a0_0 l0_1 hl2)
    obtain ⟨K4, h4⟩ := Ev.binds (eqBits_ev w ws hws)
    obtain ⟨K5, h5⟩ := Ev.binds (eqBits_ev a0_0 l0_1 hl2)
    obtain ⟨K6, h6⟩ := Ev.binds (markBits_ev a0_0 l0_1 1 hl2 (by decide) (by decide))
    obtain ⟨K7, h7⟩ := Ev.binds (markBits_ev w ws 1 hws (by decide) (by decide))
    obtain ⟨K8, h8⟩ := Ev.binds (heldBits_ev w ws 1 hws (by decide) (by decide))
    refine ⟨K1 + K2 + K3 + K4 + K5 + K6 + K7 + K8 + 1 + 1 + 1, ?_⟩
    rw [if_neg hbig] at hsz
    have hsz := fun β (g : _ → Option β) => some_binds hsz β g
    have hb := eq_false hbig
    simp (disch := omega) only [laws_FnExactPartOf.f, ↓hsz, ↓h1, ↓h2, ↓h3, ↓h4, ↓h5, ↓h6, ↓h7, ↓h8, ↓reduceIte, hb, laws_FnExactPartOf.j0, laws_FnExactPartOf.j1, laws_FnExactPartOf.j2, bne_self_eq_false, nn1, Bool.false_eq_true]

end Go.Proofs.Ytipoepnmklaahaa.Pure
