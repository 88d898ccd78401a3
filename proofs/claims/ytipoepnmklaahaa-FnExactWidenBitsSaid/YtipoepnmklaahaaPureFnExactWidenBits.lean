/- The program's WidenBits answers as the reference's WidenBits does, for every row of bits and every number, with sign and without. -/
import Derived.Test.YtipoepnmklaahaaPFnExactWidenBitsx6
import Derived.Test.YtipoepnmklaahaaBits
import Derived.Test.YtipoepnmklaahaaLoops
namespace Go.Proofs.Ytipoepnmklaahaa.Pure
open Go Go.RowKit Go.Proofs.Ytipoepnmklaahaa.PFnExactWidenBits Go.Proofs.YtipoepnmklaahaaW.PrintWords Go.Proofs.YtipoepnmklaahaaW.PrintLast Go.Proofs.YtipoepnmklaahaaW.PrintMore Go.Proofs.Ytipoepnmklaahaa.BitsLib Go.Proofs.Ytipoepnmklaahaa.Loops
set_option linter.unusedVariables false
set_option linter.unusedSimpArgs false
set_option maxRecDepth 4000

/-! sz64 -/
theorem szUint64S_eq (l : List Int) (left : Int) (hl : l.length ≤ 9223372036854775807) (h0 : 0 ≤ left) (h1 : left ≤ 1048576) :
    laws_szUint64S.f l left = some (if left - l.length < 0 then -1 else left - l.length) := by
  unfold laws_szUint64S.f
  rw [wrap64_id (by omega) (by omega)]
  split <;> rfl

/-! szBits -/
theorem szBits_eq (w : Int) (l : List Int) (left : Int) (hl : l.length ≤ 9223372036854775807) (h0 : 0 ≤ left) (h1 : left ≤ 1048576) :
    laws_szBits.f w l left = some (if left - l.length < 0 then -1 else left - l.length) := by
  unfold laws_szBits.f
  rw [szUint64S_eq l left hl h0 h1]
  simp only [Option.bind_some]
  split
  · rfl
  · rfl

/-! toUint64S -/
theorem toUint64S_ev (l : List Int) (hl : l.length ≤ 1048576) : Ev (fun k => laws_toUint64S.f k l) l := by
  have main := up_loop l.length (filled (fun i => rd l i) (List.replicate l.length 0)) (fun k xs i => laws_toUint64S.l0 k l xs i)
    (fun i hi r h => Ev.step (fun k => by
      simp only [laws_toUint64S.l0]
      rw [if_pos (by omega), if_pos (by omega), if_pos (by rw [filled_len _ _ (by simp; omega)]; simp; omega), Int.toNat_natCast, filled_set _ _ (by simpa using hi), wrap64_id (by omega) (by omega)]) h)
    l (Ev.step (f := fun _ => some l) (fun k => by
      simp only [laws_toUint64S.l0]
      rw [if_neg (by omega), filled_all _ _ (by simp), list_of_rd]) (Ev.now l))
  rw [filled_zero] at main
  refine Ev.congr (fun k => ?_) main
  unfold laws_toUint64S.f
  rw [if_pos (by omega), if_pos (by omega), Int.toNat_natCast]

/-! toBits -/
theorem toBits_ev (w : Int) (l : List Int) (hl : l.length ≤ 1048576) : Ev (fun k => laws_toBits.f k w l) (w, l) := by
  obtain ⟨K, h⟩ := toUint64S_ev l hl
  refine ⟨K, fun k hk => ?_⟩
  have h := h k hk
  dsimp only at h ⊢
  unfold laws_toBits.f
  rw [h]; rfl

/-! eqUint64S -/
theorem eqUint64S_ev (l m : List Int) (hl : l.length ≤ 1048576) : Ev (fun k => laws_eqUint64S.f k l m) (decide (l = m)) := by
  by_cases hlen : l.length = m.length
  · have := all_loop l.length (l = m) (fun i => rd l i != rd m i) (fun k i => laws_eqUint64S.l0 k l m i) false true
      (fun i hi hp => Ev.step (f := fun _ => some false) (fun k => by
        simp only [laws_eqUint64S.l0]
        rw [if_pos (by omega), if_pos (by omega), if_pos (by omega), if_neg (by simpa using hp)]) (Ev.now _))
      (fun i hi hp r h => Ev.step (fun k => by
        simp only [laws_eqUint64S.l0]
        rw [if_pos (by omega), if_pos (by omega), if_pos (by omega), if_pos (by simpa using hp), wrap64_id (by omega) (by omega)]) h)
      (Ev.step (f := fun _ => some true) (fun k => by
        simp only [laws_eqUint64S.l0]
        rw [if_neg (by omega)]) (Ev.now _))
      ⟨fun h j hj => by rw [h]; simp, fun h => ext_rd hlen fun i hi => by simpa using h i hi⟩
    have e : decide (l = m) = if l = m then true else false := by by_cases h : l = m <;> simp [h]
    rw [e]
    refine Ev.congr (fun k => ?_) this
    unfold laws_eqUint64S.f
    rw [if_pos (by omega)]
  · have e : decide (l = m) = false := decide_eq_false (fun h => hlen (by rw [h]))
    rw [e]
    exact Ev.congr (fun k => by unfold laws_eqUint64S.f; rw [if_neg (by omega)]) (Ev.now _)

/-! eqBits -/
theorem eqBits_ev (w : Int) (l : List Int) (hl : l.length ≤ 1048576) : Ev (fun k => laws_eqBits.f k w l w l) true := by
  obtain ⟨K, h⟩ := eqUint64S_ev l l hl
  refine ⟨K, fun k hk => ?_⟩
  have h := h k hk
  dsimp only at h ⊢
  unfold laws_eqBits.f
  rw [if_pos rfl, h]
  simp

/-! marks -/
/-- What stands in a row of words that was marked. -/
def markedL (l : List Int) (m : Int) : List Int := (List.range l.length).map fun i => IntKind.u64.wrap (m + (i : Nat))
theorem markedL_len (l : List Int) (m : Int) : (markedL l m).length = l.length := by simp [markedL]
theorem markedL_rd (l : List Int) (m : Int) (i : Nat) (h : i < l.length) : rd (markedL l m) i = IntKind.u64.wrap (m + i) := by
  rw [rd_getD, List.getD_eq_getElem?_getD, Int.toNat_natCast, markedL, List.getElem?_map, List.getElem?_range h]; rfl

/-! markUint64S -/
theorem markUint64S_ev (l : List Int) (m : Int) (hl : l.length ≤ 1048576) (h0 : 0 ≤ m) (h1 : m ≤ 1000000000) : Ev (fun k => laws_markUint64S.f k l m) (m + l.length, markedL l m) := by
  have main := up_loop l.length (fun i => (m + (i : Nat), filled (fun i => IntKind.u64.wrap (m + (i : Nat))) l i)) (fun k s i => laws_markUint64S.l0 k s.2 s.1 i)
    (fun i hi r h => Ev.step (fun k => by
      simp only [laws_markUint64S.l0]
      rw [if_pos (by rw [filled_len _ _ (by omega)]; omega), if_pos (by omega), Int.toNat_natCast, filled_set _ _ hi, wrap64_id (by omega) (by omega), wrap64_id (by omega) (by omega), show m + (i : Int) + 1 = m + ((i + 1 : Nat) : Int) by omega]) h)
    (m + l.length, markedL l m) (Ev.step (f := fun _ => some (m + l.length, markedL l m)) (fun k => by
      simp only [laws_markUint64S.l0]
      rw [if_neg (by rw [filled_len _ _ (Nat.le_refl _)]; omega), filled_all _ _ rfl]; rfl) (Ev.now _))
  simp only [filled_zero] at main
  exact Ev.congr (fun k => by unfold laws_markUint64S.f; simp) main

/-! heldUint64S -/
theorem heldUint64S_ev (l : List Int) (m : Int) (hl : l.length ≤ 1048576) (h0 : 0 ≤ m) (h1 : m ≤ 1000000000) : Ev (fun k => laws_heldUint64S.f k (markedL l m) m) (m + l.length) := by
  have main := up_loop l.length (fun i => (m + (i : Nat))) (fun k s i => laws_heldUint64S.l0 k (markedL l m) s i)
    (fun i hi r h => Ev.step (fun k => by
      simp only [laws_heldUint64S.l0]
      rw [if_pos (by rw [markedL_len]; omega), if_pos (by omega), if_pos (markedL_rd l m i hi), wrap64_id (by omega) (by omega), wrap64_id (by omega) (by omega), show m + (i : Int) + 1 = m + ((i + 1 : Nat) : Int) by omega]) h)
    (m + l.length) (Ev.step (f := fun _ => some (m + l.length)) (fun k => by
      simp only [laws_heldUint64S.l0]
      rw [if_neg (by rw [markedL_len]; omega)]) (Ev.now _))
  exact Ev.congr (fun k => by unfold laws_heldUint64S.f; simp) main

/-! markBits -/
theorem markBits_ev (w : Int) (l : List Int) (m : Int) (hl : l.length ≤ 1048576) (h0 : 0 ≤ m) (h1 : m ≤ 1000000000) : Ev (fun k => laws_markBits.f k w l m) (m + l.length, markedL l m) := by
  obtain ⟨K, h⟩ := markUint64S_ev l m hl h0 h1
  exact ⟨K, fun k hk => by have h := h k hk; dsimp only at h ⊢; unfold laws_markBits.f; rw [h]; rfl⟩

/-! heldBits -/
theorem heldBits_ev (w : Int) (l : List Int) (m : Int) (hl : l.length ≤ 1048576) (h0 : 0 ≤ m) (h1 : m ≤ 1000000000) : Ev (fun k => laws_heldBits.f k w (markedL l m) m) (m + l.length) := by
  obtain ⟨K, h⟩ := heldUint64S_ev l m hl h0 h1
  refine ⟨K, fun k hk => ?_⟩
  have h := h k hk
  dsimp only at h ⊢
  unfold laws_heldBits.f
  rw [h]
  simp only [Option.bind_some]
  rw [if_neg (by omega)]

/-! okB -/
noncomputable def okB (w : Int) (l : List Int) : Bool := @decide (Right w l) (Classical.propDecidable _)
theorem okB_true {w : Int} {l : List Int} (h : Right w l) : okB w l = true := by unfold okB; exact @decide_eq_true _ (Classical.propDecidable _) h
theorem okB_false {w : Int} {l : List Int} (h : ¬ Right w l) : okB w l = false := by unfold okB; exact @decide_eq_false _ (Classical.propDecidable _) h
theorem okB_cases (w : Int) (l : List Int) : (okB w l = true ∧ Right w l) ∨ (okB w l = false ∧ ¬ Right w l) := by
  by_cases h : Right w l
  · exact .inl ⟨okB_true h, h⟩
  · exact .inr ⟨okB_false h, h⟩

/-! l1Bit -/
theorem l1Bit_eq (w : Int) (l : List Int) (h : U64s l) (i : Nat) (hi : i < 64 * l.length) (hl : l.length ≤ 1048576) : spec_l1Bit.f w l (i : Int) = some (bitI l i) := by
  unfold spec_l1Bit.f
  rw [tdiv64 i (by omega), utmod64, if_pos (by omega), if_pos (by omega), if_pos (by omega), bit_reads h]
  rcases bitI_01 l i with e | e <;> simp [e]

/-! specBitsOk -/
theorem specBitsOk_l0 (w : Int) (l : List Int) (h : U64s l) (hl : l.length ≤ 1048576) (h1 : 1 ≤ w) (hw : w ≤ 64 * l.length) :
    ∃ b, Ev (fun k => spec_BitsOk.l0 k w w l) b ∧ (b = true ↔ ∀ i : Nat, w ≤ i → bitN l i = false) := by
  rcases find_loop (64 * l.length - w.toNat) (fun i => bitN l (w.toNat + i)) (fun k i => spec_BitsOk.l0 k (w + i) w l) (fun _ => false) true
    (fun i hi hp => Ev.step (f := fun _ => some false) (fun k => by
      simp only [spec_BitsOk.l0]
      rw [wrap64_id (by omega) (by omega), if_pos (by omega), show w + (i : Int) = ((w.toNat + i : Nat) : Int) by omega, l1Bit_eq w l h _ (by omega) hl]
      simp only [Option.bind_some]
      rw [if_neg (by simp only [bitI, hp, if_true]; decide)]) (Ev.now _))
    (fun i hi hp r hr => Ev.step (fun k => by
      simp only [spec_BitsOk.l0]
      rw [wrap64_id (x := 64 * (l.length : Int)) (by omega) (by omega), if_pos (by omega)]
      have e := l1Bit_eq w l h (w.toNat + i) (by omega) hl
      rw [show w + (i : Int) = ((w.toNat + i : Nat) : Int) by omega, e]
      simp only [Option.bind_some]
      rw [if_pos (by simp only [bitI, hp]; rfl), wrap64_id (by omega) (by omega), show ((w.toNat + i : Nat) : Int) + 1 = w + ((i : Int) + 1) by omega]) hr)
    (Ev.step (f := fun _ => some true) (fun k => by
      simp only [spec_BitsOk.l0]
      rw [wrap64_id (by omega) (by omega), if_neg (by omega)]) (Ev.now _)) with ⟨i, hi, hp, _, hr⟩ | ⟨hp, hr⟩
  · refine ⟨false, by simpa using hr, (fun hb => by cases hb), fun hb => ?_⟩
    have := hb (w.toNat + i) (by omega)
    rw [this] at hp; cases hp
  · refine ⟨true, by simpa using hr, fun _ i hi => ?_, fun _ => rfl⟩
    by_cases ho : i < 64 * l.length
    · have := hp (i - w.toNat) (by omega)
      rwa [show w.toNat + (i - w.toNat) = i by omega] at this
    · exact bitN_out (by omega)
theorem specBitsOk_ev (w : Int) (l : List Int) (h : U64s l) (hl : l.length ≤ 1048576) (hw0 : -9223372036854775808 ≤ w) (hw1 : w ≤ 9223372036854775807) : Ev (fun k => spec_BitsOk.f k w l) (okB w l) := by
  by_cases hin : 1 ≤ w ∧ w ≤ 4096
  · have e1 : spec_l1In.f w 1 4096 = some true := by unfold spec_l1In.f; rw [if_pos (by omega), decide_eq_true (by omega)]
    have e2 := fun (_ : True) => words_of w (by omega) (by omega)
    by_cases hlen : (l.length : Int) = (w + 63) / 64
    · obtain ⟨b, hb, hbi⟩ := specBitsOk_l0 w l h hl hin.1 (by omega)
      have : okB w l = b := by
        cases b with
        | true => exact okB_true ⟨hin.1, hin.2, hlen, h, hbi.1 rfl⟩
        | false => exact okB_false fun hr => by have := hbi.2 hr.top; cases this
      rw [this]
      obtain ⟨K, hb⟩ := hb
      refine ⟨K + 1, fun k hk => ?_⟩
      obtain ⟨m, rfl⟩ : ∃ m, k = m + 1 := ⟨k - 1, by omega⟩
      dsimp only
      unfold spec_BitsOk.f
      rw [e1, e2 trivial]
      simp only [Option.bind_some, if_true, spec_BitsOk.j0]
      rw [if_neg (by simp [hlen])]
      exact hb m (by omega)
    · rw [okB_false fun hr => hlen hr.len]
      refine ⟨1, fun k hk => ?_⟩
      obtain ⟨m, rfl⟩ : ∃ m, k = m + 1 := ⟨k - 1, by omega⟩
      dsimp only
      unfold spec_BitsOk.f
      rw [e1, e2 trivial]
      simp only [Option.bind_some, if_true, spec_BitsOk.j0]
      rw [if_pos (by simpa using hlen)]
  · rw [okB_false fun hr => hin ⟨hr.low, hr.high⟩]
    have e1 : spec_l1In.f w 1 4096 = some false := by
      unfold spec_l1In.f
      by_cases h1 : w ≥ 1
      · rw [if_pos h1, decide_eq_false (by omega)]
      · rw [if_neg h1]
    refine ⟨1, fun k hk => ?_⟩
    obtain ⟨m, rfl⟩ : ∃ m, k = m + 1 := ⟨k - 1, by omega⟩
    dsimp only
    unfold spec_BitsOk.f
    rw [e1]
    simp [spec_BitsOk.j0]

/-! implInside -/
theorem inside_eq (a b c : Int) : impl_inside.f a b c = some (decide (b ≤ a ∧ a ≤ c)) := by
  unfold impl_inside.f
  by_cases h1 : b ≤ a
  · rw [if_pos h1]; simp [h1]
  · rw [if_neg h1]; simp [h1]

/-! specIn -/
theorem l1In_eq (a b c : Int) : spec_l1In.f a b c = some (decide (b ≤ a ∧ a ≤ c)) := by
  unfold spec_l1In.f
  by_cases h1 : b ≤ a
  · rw [if_pos h1]; simp [h1]
  · rw [if_neg h1]; simp [h1]

/-! wordsFor -/
theorem wordsFor_eq (w : Int) (h0 : 0 ≤ w) (h1 : w ≤ 1000000000) : impl_wordsFor.f w = some ((w + 63) / 64) := by
  unfold impl_wordsFor.f
  rw [wrap64_id (x := w + 63) (by omega) (by omega), Int.tdiv_eq_ediv_of_nonneg (by omega), wrap64_id (by omega) (by omega)]

/-! implBitsOk -/
theorem implBitsOk_eq (w : Int) (l : List Int) (h : U64s l) (hl : l.length ≤ 1048576) : impl_BitsOk.f w l = some (okB w l) := by
  unfold impl_BitsOk.f
  rw [inside_eq]
  simp only [Option.bind_some]
  by_cases hin : 1 ≤ w ∧ w ≤ 4096
  · rw [if_pos (decide_eq_true hin), wordsFor_eq w (by omega) (by omega)]
    simp only [Option.bind_some]
    by_cases hlen : (l.length : Int) = (w + 63) / 64
    · rw [if_pos hlen, Int.tmod_eq_emod_of_nonneg (by omega)]
      by_cases hm : w % 64 = 0
      · rw [if_pos hm, okB_true ⟨hin.1, hin.2, hlen, h, fun i hi => bitN_out (by omega)⟩]
      · rw [if_neg hm, wrap64_id (x := (l.length : Int) - 1) (by omega) (by omega), if_pos (by omega), if_pos (by omega), if_pos (by omega)]
        congr 1
        have hx := rd_w64 h ((l.length : Int) - 1)
        have hs := shr_w64 hx (n := w % 64) (by omega)
        by_cases hz : shr .u64 (rd l ((l.length : Int) - 1)) (w % 64) = 0
        · rw [hz]
          refine (okB_true ⟨hin.1, hin.2, hlen, h, fun i hi => ?_⟩).symm
          by_cases ho : i < 64 * l.length
          · have h2 := hs.2 (i % 64 - (w % 64).toNat)
            rw [hz] at h2
            have e : i / 64 = l.length - 1 := by omega
            unfold bitN
            rw [e, ← show (w % 64).toNat + (i % 64 - (w % 64).toNat) = i % 64 by omega]
            rw [rd_getD, show ((l.length : Int) - 1).toNat = l.length - 1 by omega] at h2
            rw [← h2]; simp
          · exact bitN_out (by omega)
        · have e : (shr .u64 (rd l ((l.length : Int) - 1)) (w % 64) == 0) = false := by simpa using hz
          rw [e]
          refine (okB_false fun hr => hz ?_).symm
          have h0 : (shr .u64 (rd l ((l.length : Int) - 1)) (w % 64)).toNat = 0 := by
            apply testBit_ext (by have := hs.1; unfold W64 at this; omega) (by decide)
            intro j hj
            rw [hs.2]
            by_cases hb : (w % 64).toNat + j < 64
            · have := hr.top (64 * (l.length - 1) + ((w % 64).toNat + j)) (by omega)
              unfold bitN at this
              rw [show (64 * (l.length - 1) + ((w % 64).toNat + j)) / 64 = l.length - 1 by omega, show (64 * (l.length - 1) + ((w % 64).toNat + j)) % 64 = (w % 64).toNat + j by omega] at this
              rw [rd_getD, show ((l.length : Int) - 1).toNat = l.length - 1 by omega, this]; simp
            · rw [testBit_w64 hx (by omega)]; simp
          have := hs.1.1
          omega
    · rw [if_neg hlen, okB_false fun hr => hlen hr.len]
  · rw [if_neg (by simpa using hin), okB_false fun hr => hin ⟨hr.low, hr.high⟩]

/-! bitsLsucc -/
theorem bitsL_succ (i : Nat) (l : List Int) : bitsL i l ++ [bitI l i] = bitsL (i + 1) l := by simp [bitsL, List.range_succ]

/-! l1List -/
theorem l1List_ev (w : Int) (l : List Int) (h : Right w l) : Ev (fun k => spec_l1List.f k w l) (bitsL w.toNat l) := by
  have hlen := h.len
  have hlo := h.low
  have hhi := h.high
  have main := up_loop w.toNat (fun i => bitsL i l) (fun k acc i => spec_l1List.l0 k acc i w l)
    (fun i hi r hr => Ev.step (fun k => by
      simp only [spec_l1List.l0]
      rw [if_pos (by omega), l1Bit_eq w l h.words i (by omega) (by omega)]
      simp only [Option.bind_some]
      rw [if_pos (by rw [bitsL_len]; omega), bitsL_succ, wrap64_id (by omega) (by omega)]) hr)
    (bitsL w.toNat l) (Ev.step (f := fun _ => some (bitsL w.toNat l)) (fun k => by
      simp only [spec_l1List.l0]
      rw [if_neg (by omega)]) (Ev.now _))
  exact Ev.congr (fun k => by unfold spec_l1List.f; simp [bitsL]) main

/-! packs -/
/-- ws is the row whose bits are z. -/
structure Packs (z : List Int) (ws : List Int) : Prop where
  right : Right (z.length : Int) ws
  bit : ∀ j, j < z.length → bitN ws j = decide (rd z (j : Int) = 1)
theorem Packs.uniq {z ws ws' : List Int} (h : Packs z ws) (k : Packs z ws') : ws = ws' :=
  h.right.ext k.right fun i hi => by rw [h.bit i (by omega), k.bit i (by omega)]
theorem packs_of {w : Int} {z ws : List Int} (hw : w = z.length) (h : Right w ws) (hb : ∀ j, j < z.length → bitN ws j = decide (rd z (j : Int) = 1)) : Packs z ws := by
  subst hw
  exact ⟨h, hb⟩

/-! l1From -/
theorem l1From_ev (z : List Int) (h01 : Bits01 z) (h1 : 1 ≤ z.length) (h2 : z.length ≤ 4096) :
    ∃ ws, Ev (fun k => spec_l1From.f k z) ((z.length : Int), ws, true) ∧ Packs z ws := by
  have ew := fun (_ : True) => words_of (z.length : Int) (by omega) (by omega)
  obtain ⟨ws, hI, hr⟩ := inv_loop z.length (fun i (ws : List Int) => (ws.length : Int) = ((z.length : Int) + 63) / 64 ∧ U64s ws ∧ ∀ j, bitN ws j = (decide (j < i) && decide (rd z (j : Int) = 1)))
    (fun k ws i => spec_l1From.l0 k z i (z.length : Int) ws)
    (fun i hi ws ⟨hl, hu, hb⟩ => by
      have hk : i / 64 < ws.length := by omega
      have hz := rd_01 h01 (i : Int)
      have e3 := fun (_ : True) => wrap_u64_id (x := rd z (i : Int)) (by omega) (by omega)
      have hzw : W64 (rd z (i : Int)) := by unfold W64; omega
      have hs := shl_nat hzw (i % 64)
      have ho := or_w64 (rd_w64 hu ((i / 64 : Nat) : Int)) hs.1
      refine ⟨ws.set (i / 64) (Go.bits .or .u64 (rd ws ((i / 64 : Nat) : Int)) (shl .u64 (rd z (i : Int)) ((i % 64 : Nat) : Int))), ⟨by simpa using hl, hu.set _ ho.1, fun j => ?_⟩, fun r h => Ev.step (fun k => ?_) h⟩
      · rw [bitN_set hk]
        by_cases hj : j / 64 = i / 64
        · have e4 : (rd ws ((i / 64 : Nat) : Int)).toNat.testBit (j % 64) = bitN ws j := by unfold bitN; rw [hj]; rfl
          rw [if_pos hj, ho.2, hs.2 _ (by omega), e4, hb, testBit_01 hz]
          by_cases hji : j = i
          · subst hji
            simp
          · have e5 : (decide (i % 64 ≤ j % 64) && decide (j % 64 - i % 64 = 0)) = false := by
              by_cases hle : i % 64 ≤ j % 64
              · rw [decide_eq_false (show ¬ j % 64 - i % 64 = 0 by omega)]; simp
              · rw [decide_eq_false hle]; simp
            rw [← Bool.and_assoc, e5]
            by_cases hlt : j < i
            · simp [hlt, show j < i + 1 by omega]
            · simp [hlt, show ¬ j < i + 1 by omega]
        · rw [if_neg hj, hb]
          have : j ≠ i := fun e => hj (by rw [e])
          by_cases hji : j < i
          · simp [hji, show j < i + 1 by omega]
          · simp [hji, show ¬ j < i + 1 by omega]
      · simp only [spec_l1From.l0]
        rw [if_pos (by omega), tdiv64 i (by omega), utmod64, e3 trivial, if_pos (by omega), if_pos (by omega), if_pos (by omega), if_pos (by omega), wrap_succ i (by omega), Int.toNat_natCast])
    (List.replicate (((z.length : Int) + 63) / 64).toNat 0) ⟨by simp; omega, U64s.replicate _, fun j => by rw [bitN_replicate]; simp⟩
  obtain ⟨hl, hu, hb⟩ := hI
  have hright : Right (z.length : Int) ws := ⟨by omega, by omega, by omega, hu, fun i hi => by rw [hb]; simp; omega⟩
  refine ⟨ws, ?_, hright, fun j hj => by rw [hb]; simp [hj]⟩
  have := hr ((z.length : Int), ws, true) (Ev.step (f := fun _ => some ((z.length : Int), ws, true)) (fun k => by simp only [spec_l1From.l0]; rw [if_neg (by omega)]) (Ev.now _))
  obtain ⟨K, hK⟩ := this
  refine ⟨K + 1, fun k hk => ?_⟩
  obtain ⟨m, rfl⟩ : ∃ m, k = m + 1 := ⟨k - 1, by omega⟩
  dsimp only
  unfold spec_l1From.f
  rw [if_neg (by omega), decide_eq_false (by omega)]
  simp only [spec_l1From.j0]
  rw [if_neg (by simp), ew trivial, if_pos (by omega), if_pos (by omega)]
  exact hK m (by omega)
theorem l1From_none (z : List Int) (h : z.length < 1 ∨ 4096 < z.length) : Ev (fun k => spec_l1From.f k z) (0, [], false) := by
  refine ⟨1, fun k hk => ?_⟩
  obtain ⟨m, rfl⟩ : ∃ m, k = m + 1 := ⟨k - 1, by omega⟩
  dsimp only
  unfold spec_l1From.f
  by_cases h1 : (z.length : Int) < 1
  · rw [if_pos h1]; simp [spec_l1From.j0]
  · rw [if_neg h1, decide_eq_true (by omega)]; simp [spec_l1From.j0]

/-! zeroBits -/
theorem zeroBits_eq (w : Int) (h0 : 0 ≤ w) (h1 : w ≤ 1000000) : impl_zeroBits.f w = some (w, List.replicate ((w + 63) / 64).toNat 0) := by
  unfold impl_zeroBits.f
  rw [wordsFor_eq w h0 (by omega)]
  simp only [Option.bind_some]
  rw [if_pos (by omega), if_pos (by omega)]

/-! implPut -/
theorem put_step (k : Nat) (a0 : Int) (s l2 : List Int) (at_ i n : Nat) (hn : l2.length = n) (hi : i < n) (hq : (at_ + 64 * i) / 64 < s.length) (s1 : s.length ≤ 100000) (s2 : n ≤ 100000) :
    impl_Bits_put.l0 (k + 1) (at_ : Int) l2 (n : Int) (i : Int) a0 s = impl_Bits_put.l0 k (at_ : Int) l2 (n : Int) ((i : Int) + 1) a0 (putW s (at_ + 64 * i) (rd l2 (i : Int))) := by
  have h0 := wrap_at at_ i (by omega) (by omega)
  obtain ⟨t, ht⟩ : ∃ t, t = at_ + 64 * i := ⟨_, rfl⟩
  rw [← ht] at h0 hq ⊢
  have c1 : (i : Int) < (n : Int) := by clear h0; omega
  have c2 : (0 : Int) ≤ (i : Int) := by clear h0; omega
  have c4 : (0 : Int) ≤ ((t / 64 : Nat) : Int) := by clear h0; omega
  have c5 : ((t / 64 : Nat) : Int) < (s.length : Int) := by clear h0; omega
  have c6 : (0 : Int) ≤ ((t % 64 : Nat) : Int) := by clear h0; omega
  have ht9 : t ≤ 1000000000 := by clear h0; omega
  simp only [impl_Bits_put.l0]
  rw [h0, tdiv64 t ht9, tmod64, wrap_succ' (t / 64) (by clear h0; omega), wrap_64, wrap_succ i (by clear h0; omega), hn, if_pos c1, if_pos c2, if_pos c1, if_pos c4, if_pos c5, if_pos c6]
  clear h0
  simp only [Option.bind_some, Int.toNat_natCast]
  unfold putW
  by_cases c1 : t % 64 = 0
  · rw [if_pos (show ((t % 64 : Nat) : Int) = 0 by omega), if_pos (.inl c1)]
  · rw [if_neg (show ¬ ((t % 64 : Nat) : Int) = 0 by omega)]
    by_cases c2 : t / 64 + 1 < s.length
    · rw [if_pos (show ((t / 64 + 1 : Nat) : Int) < (s.length : Int) by omega), if_pos (by omega), if_pos (by omega), if_neg (fun h => h.elim c1 (fun h => h c2))]
    · rw [if_neg (show ¬ ((t / 64 + 1 : Nat) : Int) < (s.length : Int) by omega), if_pos (.inr c2)]
theorem put_next (o s l2 : List Int) (at_ i : Nat) (hl : s.length = o.length) (hu : U64s s) (h2 : U64s l2) (hf : at_ + 64 * i < 64 * o.length)
    (hb : ∀ j, j < 64 * o.length → bitN s j = (bitN o j || (decide (at_ ≤ j) && decide (j - at_ < 64 * i) && bitN l2 (j - at_)))) (j : Nat) (hj : j < 64 * o.length) :
    bitN (putW s (at_ + 64 * i) (rd l2 (i : Int))) j = (bitN o j || (decide (at_ ≤ j) && decide (j - at_ < 64 * (i + 1)) && bitN l2 (j - at_))) := by
  rw [putW_bit hu _ (rd_w64 h2 _) (by omega) j (by omega), hb j hj, Bool.or_assoc]
  congr 1
  by_cases c1 : at_ + 64 * i ≤ j
  · by_cases c2 : j < at_ + 64 * i + 64
    · have hw : bitN l2 (j - at_) = (rd l2 (i : Int)).toNat.testBit (j - (at_ + 64 * i)) := by
        rw [← bitN_word _ _ _ (by omega)]; congr 1; omega
      rw [hw, decide_eq_true c1, decide_eq_true c2, decide_eq_false (show ¬ j - at_ < 64 * i by omega), decide_eq_true (show at_ ≤ j by omega), decide_eq_true (show j - at_ < 64 * (i + 1) by omega)]; simp
    · rw [decide_eq_false c2, decide_eq_false (show ¬ j - at_ < 64 * i by omega), decide_eq_false (show ¬ j - at_ < 64 * (i + 1) by omega)]; simp
  · rw [decide_eq_false c1]
    by_cases c3 : at_ ≤ j
    · rw [decide_eq_true (show j - at_ < 64 * i by omega), decide_eq_true (show j - at_ < 64 * (i + 1) by omega)]; simp
    · rw [decide_eq_false c3]; simp
theorem put_ev (a0 w2 : Int) (o l2 : List Int) (at_ : Nat) (ho : U64s o) (h2 : U64s l2) (hfit : ∀ i, i < l2.length → at_ + 64 * i < 64 * o.length) (s1 : o.length ≤ 100000) (s2 : l2.length ≤ 100000) :
    ∃ o', Ev (fun k => impl_Bits_put.f k a0 o (at_ : Int) w2 l2) o' ∧ o'.length = o.length ∧ U64s o' ∧ ∀ j, j < 64 * o.length → bitN o' j = (bitN o j || (decide (at_ ≤ j) && bitN l2 (j - at_))) := by
  obtain ⟨o', ⟨hl, hu, hb⟩, hr⟩ := inv_loop l2.length (fun i (s : List Int) => s.length = o.length ∧ U64s s ∧ ∀ j, j < 64 * o.length → bitN s j = (bitN o j || (decide (at_ ≤ j) && decide (j - at_ < 64 * i) && bitN l2 (j - at_))))
    (fun k s i => impl_Bits_put.l0 k (at_ : Int) l2 (l2.length : Int) i a0 s)
    (fun i hi s ⟨hl, hu, hb⟩ => ⟨putW s (at_ + 64 * i) (rd l2 (i : Int)), ⟨by rw [putW_len, hl], putW_u64 hu _ (rd_w64 h2 _) (by have := hfit i hi; omega), put_next o s l2 at_ i hl hu h2 (hfit i hi) hb⟩,
      fun r h => Ev.step (fun k => put_step k a0 s l2 at_ i l2.length rfl hi (by have := hfit i hi; omega) (by omega) s2) h⟩)
    o ⟨rfl, ho, fun j hj => by simp⟩
  refine ⟨o', ?_, hl, hu, fun j hj => ?_⟩
  · have := hr o' (Ev.step (f := fun _ => some o') (fun k => by simp only [impl_Bits_put.l0]; rw [if_neg (by omega)]) (Ev.now _))
    exact Ev.congr (fun k => by unfold impl_Bits_put.f; rfl) this
  · rw [hb j hj]
    by_cases c : j - at_ < 64 * l2.length
    · rw [decide_eq_true c]; simp
    · rw [bitN_out (l := l2) (i := j - at_) (by omega)]; simp

/-! rdq -/
theorem rd_q (z : List Int) (j : Nat) : rd z (j : Int) = (z[j]?).getD 0 := by rw [rd_getD, List.getD_eq_getElem?_getD, Int.toNat_natCast]
theorem bitI_one (l : List Int) (i : Nat) : decide (bitI l i = 1) = bitN l i := by unfold bitI; cases bitN l i <;> simp
theorem Bits01.append {a b : List Int} (ha : Bits01 a) (hb : Bits01 b) : Bits01 (a ++ b) := fun x hx => (List.mem_append.1 hx).elim (ha x) (hb x)
theorem Bits01.sub {a b : List Int} (ha : Bits01 a) (h : ∀ x ∈ b, x ∈ a) : Bits01 b := fun x hx => ha x (h x hx)
/-- What a call that tells bits is asked: both tell the same. -/
def Agree (f g : Nat → Option (Int × List Int × Bool)) : Prop := ∃ w ws ok, ws.length ≤ 1048576 ∧ Ev f (w, ws, ok) ∧ Ev g (w, ws, ok)

/-! implBit -/
theorem implBit_eq (w : Int) (l : List Int) (h : U64s l) (i : Nat) (hi : i < 64 * l.length) (hl : l.length ≤ 1048576) : impl_Bits_bit.f w l (i : Int) = some (bitI l i) := by
  unfold impl_Bits_bit.f
  rw [tdiv64 i (by omega), tmod64, if_pos (by omega), if_pos (by omega), if_pos (by omega), bit_reads h]

/-! implSet -/
theorem implSet_eq (w : Int) (l : List Int) (h : U64s l) (i : Nat) (hi : i < 64 * l.length) (hl : l.length ≤ 1048576) :
    ∃ l', impl_Bits_set.f w l (i : Int) = some l' ∧ l'.length = l.length ∧ U64s l' ∧ ∀ j, bitN l' j = (bitN l j || decide (j = i)) := by
  have h1 := or_lay h (x := 1) (by unfold W64; omega) (i / 64) (i % 64) (by omega) (by omega)
  refine ⟨_, ?_, by simp, h1.1, fun j => ?_⟩
  · unfold impl_Bits_set.f
    rw [tdiv64 i (by omega), tmod64, if_pos (by omega), if_pos (by omega), if_pos (by omega), Int.toNat_natCast]
  · rw [h1.2, testBit_01 (.inr rfl)]
    congr 1
    by_cases c : j = i
    · subst c; simp
    · have : ¬ (j / 64 = i / 64 ∧ i % 64 ≤ j % 64 ∧ j % 64 - i % 64 = 0) := by omega
      rw [decide_eq_false c]
      by_cases c1 : j / 64 = i / 64
      · by_cases c2 : i % 64 ≤ j % 64
        · simp [c1, c2, show ¬ j % 64 - i % 64 = 0 by omega]
        · simp [c2]
      · simp [c1]

/-! widen -/
theorem widen_ev (w : Int) (l : List Int) (n : Nat) (sign : Bool) (h : Right w l) (hs : w + (n : Int) ≤ 4096) :
    ∃ ws, Ev (fun k => impl_Bits_widen.f k w l (n : Int) sign) (w + (n : Int), ws) ∧ Packs (bitsL w.toNat l ++ List.replicate n (if sign then bitI l (w.toNat - 1) else 0)) ws := by
  obtain ⟨wd, rfl⟩ := Int.eq_ofNat_of_zero_le (show 0 ≤ w by have := h.low; omega)
  have a1 := h.low; have a3 := h.len
  have hz : ((List.replicate ((((wd + n : Nat) : Int) + 63) / 64).toNat (0 : Int)).length : Int) = (((wd + n : Nat) : Int) + 63) / 64 := by simp; omega
  obtain ⟨o1, ⟨K1, e1⟩, n1, u1, b1⟩ := put_ev ((wd + n : Nat) : Int) (wd : Int) (List.replicate ((((wd + n : Nat) : Int) + 63) / 64).toNat 0) l 0 (U64s.replicate _) h.words (fun i hi => by omega) (by omega) (by omega)
  have hb1 : ∀ j, bitN o1 j = bitN l j := by
    intro j
    by_cases hj : j < 64 * o1.length
    · rw [b1 j (by omega), bitN_replicate]; simp
    · rw [bitN_out (l := o1) (by omega), h.top j (by omega)]
  have ew : True → wrap64 ((wd : Int) + (n : Int)) = ((wd + n : Nat) : Int) := fun _ => by rw [wrap64_id (by omega) (by omega)]; omega
  have ew1 : True → wrap64 ((wd : Int) - 1) = ((wd - 1 : Nat) : Int) := fun _ => by rw [wrap64_id (by omega) (by omega)]; omega
  have eb := implBit_eq (wd : Int) l h.words (wd - 1) (by omega) (by omega)
  have ez := zeroBits_eq ((wd + n : Nat) : Int) (by omega) (by omega)
  have hlz : (bitsL wd l ++ List.replicate n (if sign then bitI l (wd - 1) else 0)).length = wd + n := by simp [bitsL_len]
  have base : ∀ (v : Int) (o : List Int), (o.length : Int) = (((wd + n : Nat) : Int) + 63) / 64 → U64s o → (v = 0 ∨ v = 1) → (∀ j, bitN o j = (bitN l j || (decide (wd ≤ j) && decide (j < wd + n) && decide (v = 1)))) → v = (if sign then bitI l (wd - 1) else 0) →
      Packs (bitsL wd l ++ List.replicate n (if sign then bitI l (wd - 1) else 0)) o := by
    intro v o hl hu hv hb hvs
    refine packs_of (w := ((wd + n : Nat) : Int)) (by rw [hlz]) ⟨by omega, by omega, hl, hu, fun j hj => ?_⟩ fun j hj => ?_
    · rw [hb, h.top j (by omega)]; simp; omega
    · rw [hlz] at hj
      rw [rd_q, hb, ← hvs]
      by_cases c : j < wd
      · rw [List.getElem?_append_left (by rw [bitsL_len]; omega), bitsL_get (by omega), Option.getD_some, bitI_one]; simp [show ¬ wd ≤ j by omega]
      · rw [List.getElem?_append_right (by rw [bitsL_len]; omega), bitsL_len, List.getElem?_replicate, if_pos (by omega), Option.getD_some, h.top j (by omega)]
        simp [show wd ≤ j by omega, show j < wd + n by omega]
  have nosign : (if sign then bitI l (wd - 1) else 0) = 0 → Packs (bitsL wd l ++ List.replicate n (if sign then bitI l (wd - 1) else 0)) o1 := fun hv =>
    base 0 o1 (by omega) u1 (.inl rfl) (fun j => by rw [hb1]; simp) hv.symm
  have e1' : ∀ k, K1 ≤ k → impl_Bits_put.f k ((wd + n : Nat) : Int) (List.replicate ((((wd + n : Nat) : Int) + 63) / 64).toNat 0) 0 (wd : Int) l = some o1 := fun k hk => e1 k hk
  cases sign with
  | false =>
    refine ⟨o1, ⟨K1 + 1, fun k hk => ?_⟩, nosign rfl⟩
    obtain ⟨m, rfl⟩ : ∃ m, k = m + 1 := ⟨k - 1, by omega⟩
    dsimp only
    simp (disch := omega) only [impl_Bits_widen.f, impl_Bits_widen.j0, ew trivial, ez, e1', Option.bind_some, Bool.false_eq_true, if_false]
    congr 1
  | true =>
    rcases bitI_01 l (wd - 1) with hb0 | hb0
    · refine ⟨o1, ⟨K1 + 1, fun k hk => ?_⟩, nosign hb0⟩
      obtain ⟨m, rfl⟩ : ∃ m, k = m + 1 := ⟨k - 1, by omega⟩
      dsimp only
      simp (disch := omega) only [impl_Bits_widen.f, impl_Bits_widen.j0, ew trivial, ez, e1', ew1 trivial, eb, hb0, Option.bind_some, if_true, Bool.false_eq_true, if_false, show ((0 : Int) == 1) = false from rfl]
      congr 1
    · obtain ⟨o2, ⟨hl2, hu2, hb2⟩, hr2⟩ := inv_loop n (fun i (s : List Int) => s.length = o1.length ∧ U64s s ∧ ∀ j, bitN s j = (bitN l j || (decide (wd ≤ j) && decide (j < wd + i))))
        (fun k s i => impl_Bits_widen.l0 k (n : Int) i (wd : Int) l ((wd + n : Nat) : Int) s)
        (fun i hi s ⟨hl, hu, hb⟩ => by
          obtain ⟨s', he, hl', hu', hb'⟩ := implSet_eq ((wd + n : Nat) : Int) s hu (wd + i) (by omega) (by omega)
          refine ⟨s', ⟨by omega, hu', fun j => ?_⟩, fun r hend => Ev.step (fun k => ?_) hend⟩
          · rw [hb', hb]
            by_cases c : j = wd + i
            · subst c; simp
            · by_cases c2 : j < wd + i
              · simp [c, c2, show j < wd + (i + 1) by omega]
              · simp [c, c2, show ¬ j < wd + (i + 1) by omega]
          · simp only [impl_Bits_widen.l0]
            rw [if_pos (by omega), wrap64_id (x := (wd : Int) + (i : Int)) (by omega) (by omega), ← Int.natCast_add, he]
            simp only [Option.bind_some]
            rw [wrap64_id (by omega) (by omega)])
        o1 ⟨rfl, u1, fun j => by rw [hb1]; simp; omega⟩
      obtain ⟨K2, h2⟩ := hr2 (((wd + n : Nat) : Int), o2) (Ev.step (f := fun _ => some (((wd + n : Nat) : Int), o2)) (fun k => by simp only [impl_Bits_widen.l0]; rw [if_neg (by omega)]) (Ev.now _))
      refine ⟨o2, ⟨K1 + K2 + 1, fun k hk => ?_⟩, base 1 o2 (by omega) hu2 (.inr rfl) (fun j => by rw [hb2]; simp) (by simp [hb0])⟩
      obtain ⟨m, rfl⟩ : ∃ m, k = m + 1 := ⟨k - 1, by omega⟩
      dsimp only at h2 ⊢
      simp (disch := omega) only [impl_Bits_widen.f, impl_Bits_widen.j0, ew trivial, ez, e1', ew1 trivial, eb, hb0, Option.bind_some, if_true, show ((1 : Int) == 1) = true from rfl, h2]
      congr 1

/-! widenBits -/
theorem widenBits_agree (w : Int) (l : List Int) (a1 : Int) (sign : Bool) (hu : U64s l) (hl : l.length ≤ 1048576) (hw : -9223372036854775808 ≤ w ∧ w ≤ 9223372036854775807) :
    Agree (fun k => spec_WidenBits.f k w l a1 sign) (fun k => impl_WidenBits.f k w l a1 sign) := by
  obtain ⟨K1, g1⟩ := specBitsOk_ev w l hu hl hw.1 hw.2
  have g2 := implBitsOk_eq w l hu hl
  have g3 := l1In_eq a1 0 4096
  have g4 := inside_eq a1 0 4096
  rcases okB_cases w l with ⟨e, hr⟩ | ⟨e, hr⟩
  · have b1 := hr.low; have b2 := hr.high; have b3 := hr.len
    by_cases hin : 0 ≤ a1 ∧ a1 ≤ 4096
    · have e3 : decide (0 ≤ a1 ∧ a1 ≤ 4096) = true := decide_eq_true hin
      obtain ⟨n, rfl⟩ := Int.eq_ofNat_of_zero_le hin.1
      have ew : True → wrap64 (w + (n : Int)) = w + (n : Int) := fun _ => wrap64_id (by omega) (by omega)
      have ew1 : True → wrap64 ((w.toNat : Int) - 1) = w - 1 := fun _ => by rw [wrap64_id (by omega) (by omega)]; omega
      obtain ⟨K3, g5⟩ := l1List_ev w l hr
      have hlz : ∀ v : Int, (bitsL w.toNat l ++ List.replicate n v).length = (w + (n : Int)).toNat := fun v => by simp [bitsL_len]; omega
      have h01 : Bits01 (bitsL w.toNat l ++ List.replicate n (if sign then bitI l (w.toNat - 1) else 0)) := Bits01.append (bitsL_01 _ _) fun x hx => by
        rw [(List.mem_replicate.1 hx).2]; cases sign
        · exact .inl rfl
        · exact bitI_01 _ _
      have hloop : ∀ (v : Int) r, Ev (fun k => spec_l1From.f k (bitsL w.toNat l ++ List.replicate n v)) r → Ev (fun k => spec_WidenBits.j1 k (n : Int) (bitsL w.toNat l) v) r := by
        intro v r ⟨K, h⟩
        have := up_loop n (fun i => bitsL w.toNat l ++ List.replicate i v) (fun k s i => spec_WidenBits.l0 k (n : Int) s v i) (fun i hi r h => Ev.step (fun k => by
            simp only [spec_WidenBits.l0]
            rw [if_pos (by omega), if_pos (by simp [bitsL_len]; omega), List.append_assoc, ← List.replicate_succ', wrap64_id (by omega) (by omega)]) h) r
          ⟨K + 1, fun k hk => by
            obtain ⟨m, rfl⟩ : ∃ m, k = m + 1 := ⟨k - 1, by omega⟩
            have h := h m (by omega)
            dsimp only at h ⊢
            simp only [spec_WidenBits.l0]
            rw [if_neg (by omega), h]
            rfl⟩
        simp only [List.replicate_zero, List.append_nil] at this
        exact Ev.step (fun k => by simp only [spec_WidenBits.j1]) this
      have htop : rd (bitsL w.toNat l) (w - 1) = bitI l (w.toNat - 1) := by rw [bitsL_rd (by omega) (by omega)]; congr 1; omega
      have hspec : ∀ r, Ev (fun k => spec_l1From.f k (bitsL w.toNat l ++ List.replicate n (if sign then bitI l (w.toNat - 1) else 0))) r → Ev (fun k => spec_WidenBits.f k w l (n : Int) sign) r := by
        intro r h
        obtain ⟨K4, h⟩ := hloop _ r h
        refine ⟨K1 + K3 + K4 + 1, fun k hk => ?_⟩
        obtain ⟨m, rfl⟩ : ∃ m, k = m + 1 := ⟨k - 1, by omega⟩
        have h := h m (by omega)
        dsimp only at h ⊢
        cases sign with
        | true =>
          simp (disch := omega) only [spec_WidenBits.f, spec_WidenBits.j0, g1, g3, e, e3, g5, bitsL_len, ew1 trivial, htop, Option.bind_some, if_true, Bool.not_true, Bool.false_eq_true, if_false, if_pos]
          exact h
        | false =>
          simp (disch := omega) only [spec_WidenBits.f, spec_WidenBits.j0, g1, g3, e, e3, g5, Option.bind_some, if_true, Bool.not_true, Bool.false_eq_true, if_false]
          exact h
      by_cases hs : w + (n : Int) ≤ 4096
      · obtain ⟨ws, g7, hp⟩ := l1From_ev _ h01 (by rw [hlz]; omega) (by rw [hlz]; omega)
        obtain ⟨ws', ⟨K6, g8⟩, hp'⟩ := widen_ev w l n sign hr hs
        have := hp.uniq hp'
        subst this
        rw [hlz, Int.toNat_of_nonneg (by omega)] at g7
        have hll := hp.right.len
        rw [hlz] at hll
        refine ⟨w + (n : Int), ws, true, by omega, hspec _ g7, ⟨K6, fun k hk => ?_⟩⟩
        simp (disch := omega) only [impl_WidenBits.f, g2, g4, e, e3, ew trivial, g8, Option.bind_some, if_true, if_neg]
      · refine ⟨0, [], false, by simp, hspec _ (l1From_none _ (by rw [hlz]; omega)), ⟨0, fun k hk => ?_⟩⟩
        simp (disch := omega) only [impl_WidenBits.f, g2, g4, e, e3, ew trivial, Option.bind_some, if_true, if_pos]
    · have e3 : decide (0 ≤ a1 ∧ a1 ≤ 4096) = false := decide_eq_false hin
      refine ⟨0, [], false, by simp, ⟨K1 + 1, fun k hk => ?_⟩, ⟨0, fun k hk => ?_⟩⟩
      · obtain ⟨m, rfl⟩ : ∃ m, k = m + 1 := ⟨k - 1, by omega⟩
        simp (disch := omega) only [spec_WidenBits.f, spec_WidenBits.j0, g1, g3, e, e3, Option.bind_some, if_true, Bool.not_false]
      · simp (disch := omega) only [impl_WidenBits.f, g2, g4, e, e3, Option.bind_some, if_true, if_false, Bool.false_eq_true]
  · refine ⟨0, [], false, by simp, ⟨K1 + 1, fun k hk => ?_⟩, ⟨0, fun k hk => ?_⟩⟩
    · obtain ⟨m, rfl⟩ : ∃ m, k = m + 1 := ⟨k - 1, by omega⟩
      simp (disch := omega) only [spec_WidenBits.f, spec_WidenBits.j0, g1, e, Option.bind_some, if_true, if_false, Bool.false_eq_true]
    · simp (disch := omega) only [impl_WidenBits.f, g2, e, Option.bind_some, if_true, if_false, Bool.false_eq_true]
-- SAYS: The program's WidenBits answers as the reference's WidenBits does, for every row of bits and every number, with sign and without.
theorem FnExactWidenBits (a0_0 : Int) (l0_1 : List Int) (a1 : Int) (a2 : Bool) (q0 : (Lit.int .i64 a0_0).wf = true) (q1 : ∀ x ∈ l0_1, (Lit.int .u64 x).wf = true) (hl : l0_1.length ≤ 9223372036854775807) (q2 : (Lit.int .i64 a1).wf = true) :
    ∃ k, laws_FnExactWidenBits.f k a0_0 l0_1 a1 a2 = some true := by
  have hu : U64s l0_1 := fun x hx => wf_u64 (q1 x hx)
  have hsz := szBits_eq a0_0 l0_1 1048576 hl (by decide) (by decide)
  by_cases hbig : 1048576 - (l0_1.length : Int) < 0
  · exact ⟨0, by simp (disch := omega) only [laws_FnExactWidenBits.f, hsz, Option.bind_some, if_pos]⟩
  · have hl2 : l0_1.length ≤ 1048576 := by omega
    obtain ⟨w, ws, ok, hws, g1, g2⟩ := widenBits_agree a0_0 l0_1 a1 a2 hu hl2 (wf_i64 q0)
    obtain ⟨K1, h1⟩ := Ev.binds g1
    obtain ⟨K2, h2⟩ := Ev.binds g2
    obtain ⟨K3, h3⟩ := Ev.binds (toBits_ev a0_0 l0_1 hl2)
    obtain ⟨K4, h4⟩ := Ev.binds (eqBits_ev w ws hws)
    obtain ⟨K5, h5⟩ := Ev.binds (eqBits_ev a0_0 l0_1 hl2)
    obtain ⟨K6, h6⟩ := Ev.binds (markBits_ev a0_0 l0_1 1 hl2 (by decide) (by decide))
    obtain ⟨K7, h7⟩ := Ev.binds (markBits_ev w ws 1 hws (by decide) (by decide))
    obtain ⟨K8, h8⟩ := Ev.binds (heldBits_ev w ws 1 hws (by decide) (by decide))
    refine ⟨K1 + K2 + K3 + K4 + K5 + K6 + K7 + K8 + 1 + 1 + 1, ?_⟩
    rw [if_neg hbig] at hsz
    have hsz := fun β (g : _ → Option β) => some_binds hsz β g
    have hb := eq_false hbig
    simp (disch := omega) only [laws_FnExactWidenBits.f, ↓hsz, ↓h1, ↓h2, ↓h3, ↓h4, ↓h5, ↓h6, ↓h7, ↓h8, ↓reduceIte, hb, laws_FnExactWidenBits.j0, laws_FnExactWidenBits.j1, laws_FnExactWidenBits.j2, bne_self_eq_false, nn1, Bool.false_eq_true]

end Go.Proofs.Ytipoepnmklaahaa.Pure
