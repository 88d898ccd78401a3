/- The program's CountOnes answers as the reference's CountOnes does, for every row of bits. -/
import Derived.Test.YtfjknhmepgfhaaaPFnExactCountOnesx2
import Derived.Test.YtfjknhmepgfhaaaBits
import Derived.Test.YtfjknhmepgfhaaaLoops
namespace Go.Proofs.Ytfjknhmepgfhaaa.Pure
open Go Go.RowKit Go.Proofs.Ytfjknhmepgfhaaa.PFnExactCountOnes Go.Proofs.YtfjknhmepgfhaaaW.PrintWords Go.Proofs.YtfjknhmepgfhaaaW.PrintLast Go.Proofs.YtfjknhmepgfhaaaW.PrintMore Go.Proofs.Ytfjknhmepgfhaaa.BitsLib Go.Proofs.Ytfjknhmepgfhaaa.Loops
set_option linter.unusedVariables false
set_option linter.unusedSimpArgs false
set_option maxRecDepth 4000

/-! sz64 -/
theorem szUint64S_eq (l : List Int) (left : Int) (hl : l.length ≤ 9223372036854775807) (h0 : 0 ≤ left) (h1 : left ≤ 1048576) :
    laws_szUint64S.f l left = some (if left - l.length < 0 then -1 else left - l.length) := by
  unfold laws_szUint64S.f
  rw [wrap64_id (by omega) (by omega)]
  split <;> rfl

/-! szBits -/
theorem szBits_eq (w : Int) (l : List Int) (left : Int) (hl : l.length ≤ 9223372036854775807) (h0 : 0 ≤ left) (h1 : left ≤ 1048576) :
    laws_szBits.f w l left = some (if left - l.length < 0 then -1 else left - l.length) := by
  unfold laws_szBits.f
  rw [szUint64S_eq l left hl h0 h1]
  simp only [Option.bind_some]
  split
  · rfl
  · rfl

/-! toUint64S -/
theorem toUint64S_ev (l : List Int) (hl : l.length ≤ 1048576) : Ev (fun k => laws_toUint64S.f k l) l := by
  have main := up_loop l.length (filled (fun i => rd l i) (List.replicate l.length 0)) (fun k xs i => laws_toUint64S.l0 k l xs i)
    (fun i hi r h => Ev.step (fun k => by
      simp only [laws_toUint64S.l0]
      rw [if_pos (by omega), if_pos (by omega), if_pos (by rw [filled_len _ _ (by simp; omega)]; simp; omega), Int.toNat_natCast, filled_set _ _ (by simpa using hi), wrap64_id (by omega) (by omega)]) h)
    l (Ev.step (f := fun _ => some l) (fun k => by
      simp only [laws_toUint64S.l0]
      rw [if_neg (by omega), filled_all _ _ (by simp), list_of_rd]) (Ev.now l))
  rw [filled_zero] at main
  refine Ev.congr (fun k => ?_) main
  unfold laws_toUint64S.f
  rw [if_pos (by omega), if_pos (by omega), Int.toNat_natCast]

/-! toBits -/
theorem toBits_ev (w : Int) (l : List Int) (hl : l.length ≤ 1048576) : Ev (fun k => laws_toBits.f k w l) (w, l) := by
  obtain ⟨K, h⟩ := toUint64S_ev l hl
  refine ⟨K, fun k hk => ?_⟩
  have h := h k hk
  dsimp only at h ⊢
  unfold laws_toBits.f
  rw [h]; rfl

/-! eqUint64S -/
theorem eqUint64S_ev (l m : List Int) (hl : l.length ≤ 1048576) : Ev (fun k => laws_eqUint64S.f k l m) (decide (l = m)) := by
  by_cases hlen : l.length = m.length
  · have := all_loop l.length (l = m) (fun i => rd l i != rd m i) (fun k i => laws_eqUint64S.l0 k l m i) false true
      (fun i hi hp => Ev.step (f := fun _ => some false) (fun k => by
        simp only [laws_eqUint64S.l0]
        rw [if_pos (by omega), if_pos (by omega), if_pos (by omega), if_neg (by simpa using hp)]) (Ev.now _))
      (fun i hi hp r h => Ev.step (fun k => by
        simp only [laws_eqUint64S.l0]
        rw [if_pos (by omega), if_pos (by omega), if_pos (by omega), if_pos (by simpa using hp), wrap64_id (by omega) (by omega)]) h)
      (Ev.step (f := fun _ => some true) (fun k => by
        simp only [laws_eqUint64S.l0]
        rw [if_neg (by omega)]) (Ev.now _))
      ⟨fun h j hj => by rw [h]; simp, fun h => ext_rd hlen fun i hi => by simpa using h i hi⟩
    have e : decide (l = m) = if l = m then true else false := by by_cases h : l = m <;> simp [h]
    rw [e]
    refine Ev.congr (fun k => ?_) this
    unfold laws_eqUint64S.f
    rw [if_pos (by omega)]
  · have e : decide (l = m) = false := decide_eq_false (fun h => hlen (by rw [h]))
    rw [e]
    exact Ev.congr (fun k => by unfold laws_eqUint64S.f; rw [if_neg (by omega)]) (Ev.now _)

/-! eqBits -/
theorem eqBits_ev (w : Int) (l : List Int) (hl : l.length ≤ 1048576) : Ev (fun k => laws_eqBits.f k w l w l) true := by
  obtain ⟨K, h⟩ := eqUint64S_ev l l hl
  refine ⟨K, fun k hk => ?_⟩
  have h := h k hk
  dsimp only at h ⊢
  unfold laws_eqBits.f
  rw [if_pos rfl, h]
  simp

/-! okB -/
noncomputable def okB (w : Int) (l : List Int) : Bool := @decide (Right w l) (Classical.propDecidable _)
theorem okB_true {w : Int} {l : List Int} (h : Right w l) : okB w l = true := by unfold okB; exact @decide_eq_true _ (Classical.propDecidable _) h
theorem okB_false {w : Int} {l : List Int} (h : ¬ Right w l) : okB w l = false := by unfold okB; exact @decide_eq_false _ (Classical.propDecidable _) h
theorem okB_cases (w : Int) (l : List Int) : (okB w l = true ∧ Right w l) ∨ (okB w l = false ∧ ¬ Right w l) := by
  by_cases h : Right w l
  · exact .inl ⟨okB_true h, h⟩
  · exact .inr ⟨okB_false h, h⟩

/-! l1Bit -/
theorem l1Bit_eq (w : Int) (l : List Int) (h : U64s l) (i : Nat) (hi : i < 64 * l.length) (hl : l.length ≤ 1048576) : spec_l1Bit.f w l (i : Int) = some (bitI l i) := by
  unfold spec_l1Bit.f
  rw [tdiv64 i (by omega), utmod64, if_pos (by omega), if_pos (by omega), if_pos (by omega), bit_reads h]
  rcases bitI_01 l i with e | e <;> simp [e]

/-! specBitsOk -/
theorem specBitsOk_l0 (w : Int) (l : List Int) (h : U64s l) (hl : l.length ≤ 1048576) (h1 : 1 ≤ w) (hw : w ≤ 64 * l.length) :
    ∃ b, Ev (fun k => spec_BitsOk.l0 k w w l) b ∧ (b = true ↔ ∀ i : Nat, w ≤ i → bitN l i = false) := by
  rcases find_loop (64 * l.length - w.toNat) (fun i => bitN l (w.toNat + i)) (fun k i => spec_BitsOk.l0 k (w + i) w l) (fun _ => false) true
    (fun i hi hp => Ev.step (f := fun _ => some false) (fun k => by
      simp only [spec_BitsOk.l0]
      rw [wrap64_id (by omega) (by omega), if_pos (by omega), show w + (i : Int) = ((w.toNat + i : Nat) : Int) by omega, l1Bit_eq w l h _ (by omega) hl]
      simp only [Option.bind_some]
      rw [if_neg (by simp only [bitI, hp, if_true]; decide)]) (Ev.now _))
    (fun i hi hp r hr => Ev.step (fun k => by
      simp only [spec_BitsOk.l0]
      rw [wrap64_id (x := 64 * (l.length : Int)) (by omega) (by omega), if_pos (by omega)]
      have e := l1Bit_eq w l h (w.toNat + i) (by omega) hl
      rw [show w + (i : Int) = ((w.toNat + i : Nat) : Int) by omega, e]
      simp only [Option.bind_some]
      rw [if_pos (by simp only [bitI, hp]; rfl), wrap64_id (by omega) (by omega), show ((w.toNat + i : Nat) : Int) + 1 = w + ((i : Int) + 1) by omega]) hr)
    (Ev.step (f := fun _ => some true) (fun k => by
      simp only [spec_BitsOk.l0]
      rw [wrap64_id (by omega) (by omega), if_neg (by omega)]) (Ev.now _)) with ⟨i, hi, hp, _, hr⟩ | ⟨hp, hr⟩
  · refine ⟨false, by simpa using hr, (fun hb => by cases hb), fun hb => ?_⟩
    have := hb (w.toNat + i) (by omega)
    rw [this] at hp; cases hp
  · refine ⟨true, by simpa using hr, fun _ i hi => ?_, fun _ => rfl⟩
    by_cases ho : i < 64 * l.length
    · have := hp (i - w.toNat) (by omega)
      rwa [show w.toNat + (i - w.toNat) = i by omega] at this
    · exact bitN_out (by omega)
theorem specBitsOk_ev (w : Int) (l : List Int) (h : U64s l) (hl : l.length ≤ 1048576) (hw0 : -9223372036854775808 ≤ w) (hw1 : w ≤ 9223372036854775807) : Ev (fun k => spec_BitsOk.f k w l) (okB w l) := by
  by_cases hin : 1 ≤ w ∧ w ≤ 4096
  · have e1 : spec_l1In.f w 1 4096 = some true := by unfold spec_l1In.f; rw [if_pos (by omega), decide_eq_true (by omega)]
    have e2 := fun (_ : True) => words_of w (by omega) (by omega)
    by_cases hlen : (l.length : Int) = (w + 63) / 64
    · obtain ⟨b, hb, hbi⟩ := specBitsOk_l0 w l h hl hin.1 (by omega)
      have : okB w l = b := by
        cases b with
        | true => exact okB_true ⟨hin.1, hin.2, hlen, h, hbi.1 rfl⟩
        | false => exact okB_false fun hr => by have := hbi.2 hr.top; cases this
      rw [this]
      obtain ⟨K, hb⟩ := hb
      refine ⟨K + 1, fun k hk => ?_⟩
      obtain ⟨m, rfl⟩ : ∃ m, k = m + 1 := ⟨k - 1, by omega⟩
      dsimp only
      unfold spec_BitsOk.f
      rw [e1, e2 trivial]
      simp only [Option.bind_some, if_true, spec_BitsOk.j0]
      rw [if_neg (by simp [hlen])]
      exact hb m (by omega)
    · rw [okB_false fun hr => hlen hr.len]
      refine ⟨1, fun k hk => ?_⟩
      obtain ⟨m, rfl⟩ : ∃ m, k = m + 1 := ⟨k - 1, by omega⟩
      dsimp only
      unfold spec_BitsOk.f
      rw [e1, e2 trivial]
      simp only [Option.bind_some, if_true, spec_BitsOk.j0]
      rw [if_pos (by simpa using hlen)]
  · rw [okB_false fun hr => hin ⟨hr.low, hr.high⟩]
    have e1 : spec_l1In.f w 1 4096 = some false := by
      unfold spec_l1In.f
      by_cases h1 : w ≥ 1
      · rw [if_pos h1, decide_eq_false (by omega)]
      · rw [if_neg h1]
    refine ⟨1, fun k hk => ?_⟩
    obtain ⟨m, rfl⟩ : ∃ m, k = m + 1 := ⟨k - 1, by omega⟩
    dsimp only
    unfold spec_BitsOk.f
    rw [e1]
    simp [spec_BitsOk.j0]

/-! implInside -/
theorem inside_eq (a b c : Int) : impl_inside.f a b c = some (decide (b ≤ a ∧ a ≤ c)) := by
  unfold impl_inside.f
  by_cases h1 : b ≤ a
  · rw [if_pos h1]; simp [h1]
  · rw [if_neg h1]; simp [h1]

/-! wordsFor -/
theorem wordsFor_eq (w : Int) (h0 : 0 ≤ w) (h1 : w ≤ 1000000000) : impl_wordsFor.f w = some ((w + 63) / 64) := by
  unfold impl_wordsFor.f
  rw [wrap64_id (x := w + 63) (by omega) (by omega), Int.tdiv_eq_ediv_of_nonneg (by omega), wrap64_id (by omega) (by omega)]

/-! implBitsOk -/
theorem implBitsOk_eq (w : Int) (l : List Int) (h : U64s l) (hl : l.length ≤ 1048576) : impl_BitsOk.f w l = some (okB w l) := by
  unfold impl_BitsOk.f
  rw [inside_eq]
  simp only [Option.bind_some]
  by_cases hin : 1 ≤ w ∧ w ≤ 4096
  · rw [if_pos (decide_eq_true hin), wordsFor_eq w (by omega) (by omega)]
    simp only [Option.bind_some]
    by_cases hlen : (l.length : Int) = (w + 63) / 64
    · rw [if_pos hlen, Int.tmod_eq_emod_of_nonneg (by omega)]
      by_cases hm : w % 64 = 0
      · rw [if_pos hm, okB_true ⟨hin.1, hin.2, hlen, h, fun i hi => bitN_out (by omega)⟩]
      · rw [if_neg hm, wrap64_id (x := (l.length : Int) - 1) (by omega) (by omega), if_pos (by omega), if_pos (by omega), if_pos (by omega)]
        congr 1
        have hx := rd_w64 h ((l.length : Int) - 1)
        have hs := shr_w64 hx (n := w % 64) (by omega)
        by_cases hz : shr .u64 (rd l ((l.length : Int) - 1)) (w % 64) = 0
        · rw [hz]
          refine (okB_true ⟨hin.1, hin.2, hlen, h, fun i hi => ?_⟩).symm
          by_cases ho : i < 64 * l.length
          · have h2 := hs.2 (i % 64 - (w % 64).toNat)
            rw [hz] at h2
            have e : i / 64 = l.length - 1 := by omega
            unfold bitN
            rw [e, ← show (w % 64).toNat + (i % 64 - (w % 64).toNat) = i % 64 by omega]
            rw [rd_getD, show ((l.length : Int) - 1).toNat = l.length - 1 by omega] at h2
            rw [← h2]; simp
          · exact bitN_out (by omega)
        · have e : (shr .u64 (rd l ((l.length : Int) - 1)) (w % 64) == 0) = false := by simpa using hz
          rw [e]
          refine (okB_false fun hr => hz ?_).symm
          have h0 : (shr .u64 (rd l ((l.length : Int) - 1)) (w % 64)).toNat = 0 := by
            apply testBit_ext (by have := hs.1; unfold W64 at this; omega) (by decide)
            intro j hj
            rw [hs.2]
            by_cases hb : (w % 64).toNat + j < 64
            · have := hr.top (64 * (l.length - 1) + ((w % 64).toNat + j)) (by omega)
              unfold bitN at this
              rw [show (64 * (l.length - 1) + ((w % 64).toNat + j)) / 64 = l.length - 1 by omega, show (64 * (l.length - 1) + ((w % 64).toNat + j)) % 64 = (w % 64).toNat + j by omega] at this
              rw [rd_getD, show ((l.length : Int) - 1).toNat = l.length - 1 by omega, this]; simp
            · rw [testBit_w64 hx (by omega)]; simp
          have := hs.1.1
          omega
    · rw [if_neg hlen, okB_false fun hr => hlen hr.len]
  · rw [if_neg (by simpa using hin), okB_false fun hr => hin ⟨hr.low, hr.high⟩]

/-! pop -/
/-- The sum of f 0 .. f (n - 1). -/
def cnt (f : Nat → Int) : Nat → Int
  | 0 => 0
  | n + 1 => cnt f n + f n
theorem cnt_congr {f g : Nat → Int} : ∀ n, (∀ i, i < n → f i = g i) → cnt f n = cnt g n
  | 0, _ => rfl
  | n + 1, h => by show cnt f n + f n = cnt g n + g n; rw [cnt_congr n (fun i hi => h i (by omega)), h n (by omega)]
theorem cnt_add (f : Nat → Int) (m : Nat) : ∀ n, cnt f (m + n) = cnt f m + cnt (fun i => f (m + i)) n
  | 0 => by simp [cnt]
  | n + 1 => by show cnt f (m + n) + f (m + n) = cnt f m + (cnt (fun i => f (m + i)) n + f (m + n)); rw [cnt_add f m n]; omega
theorem cnt_bound {f : Nat → Int} (h : ∀ i, 0 ≤ f i ∧ f i ≤ 1) : ∀ n : Nat, 0 ≤ cnt f n ∧ cnt f n ≤ n
  | 0 => by simp [cnt]
  | n + 1 => by have := cnt_bound h n; have := h n; show 0 ≤ cnt f n + f n ∧ cnt f n + f n ≤ ((n + 1 : Nat) : Int); omega
def ofB : List Nat → Nat
  | [] => 0
  | b :: bs => b + 256 * ofB bs
theorem and_byte (x y : Nat) : x &&& y = (x % 256 &&& y % 256) + 256 * (x / 256 &&& y / 256) := by
  have h1 := Nat.and_mod_two_pow (a := x) (b := y) (n := 8)
  have h2 := Nat.and_div_two_pow (a := x) (b := y) (n := 8)
  have := Nat.div_add_mod (x &&& y) 256
  simp at h1 h2
  omega
theorem and_low (x c j : Nat) (hc : c < 2 ^ j) : x &&& c = (x % 2 ^ j) &&& c := by
  have h := Nat.and_mod_two_pow (a := x) (b := c) (n := j)
  rw [Nat.mod_eq_of_lt (Nat.lt_of_le_of_lt Nat.and_le_right hc), Nat.mod_eq_of_lt hc] at h
  exact h
/-- A byte and the bytes above it, shifted by s and masked. -/
theorem and_shift (b Y c C s j : Nat) (hb : b < 256) (hc : c < 2 ^ j) (hc2 : c < 256) (hs : 2 ^ j * s = 256) (hs0 : 0 < s) : ((b + 256 * Y) / s) &&& (c + 256 * C) = ((b / s) &&& c) + 256 * ((Y / s) &&& C) := by
  have e0 : (b + 256 * Y) / s = b / s + 2 ^ j * Y := by
    rw [← hs, show b + 2 ^ j * s * Y = b + s * (2 ^ j * Y) by rw [Nat.mul_comm (2 ^ j) s, Nat.mul_assoc], Nat.add_mul_div_left _ _ hs0]
  have hbs : b / s < 2 ^ j := by rw [Nat.div_lt_iff_lt_mul hs0, hs]; exact hb
  have e1 : (b / s + 2 ^ j * Y) % 256 = b / s + 2 ^ j * (Y % s) := by
    have hY := Nat.div_add_mod Y s
    have e : b / s + 2 ^ j * Y = (b / s + 2 ^ j * (Y % s)) + 256 * (Y / s) := by
      rw [← hs, Nat.mul_assoc, Nat.add_assoc, ← Nat.mul_add, Nat.add_comm (Y % s), hY]
    have hlt : b / s + 2 ^ j * (Y % s) < 256 := by
      have h1 : Y % s + 1 ≤ s := Nat.mod_lt _ hs0
      have h2 : 2 ^ j * (Y % s + 1) ≤ 2 ^ j * s := Nat.mul_le_mul_left _ h1
      rw [Nat.mul_add, hs] at h2
      omega
    rw [e, Nat.add_mul_mod_self_left, Nat.mod_eq_of_lt hlt]
  have e2 : (b / s + 2 ^ j * Y) / 256 = Y / s := by
    have h3 : (b / s + 2 ^ j * Y) / 2 ^ j / s = (b / s + 2 ^ j * Y) / 256 := by rw [Nat.div_div_eq_div_mul, hs]
    rw [← h3, Nat.add_mul_div_left _ _ (Nat.two_pow_pos j), Nat.div_eq_of_lt hbs, Nat.zero_add]
  rw [and_byte, e0, e1, e2, show (c + 256 * C) % 256 = c by omega, show (c + 256 * C) / 256 = C by omega]
  congr 1
  rw [and_low _ c j hc, Nat.add_mul_mod_self_left, ← and_low _ c j hc]
theorem and_plain (b Y c C : Nat) (hb : b < 256) (hc : c < 256) : (b + 256 * Y) &&& (c + 256 * C) = (b &&& c) + 256 * (Y &&& C) := by
  rw [and_byte, show (b + 256 * Y) % 256 = b by omega, show (b + 256 * Y) / 256 = Y by omega, show (c + 256 * C) % 256 = c by omega, show (c + 256 * C) / 256 = C by omega]
def y1 (b : Nat) : Nat := (b / 2 &&& 85) + (b &&& 85)
def y2 (b : Nat) : Nat := (y1 b / 4 &&& 51) + (y1 b &&& 51)
def y3 (b : Nat) : Nat := y2 b / 16 + y2 b % 16
def pc8 (b : Nat) : Nat := b % 2 + b / 2 % 2 + b / 4 % 2 + b / 8 % 2 + b / 16 % 2 + b / 32 % 2 + b / 64 % 2 + b / 128 % 2
theorem bytes_told : ∀ b, b < 256 → y1 b < 256 ∧ y2 b / 16 ≤ 4 ∧ y2 b % 16 ≤ 4 ∧ y3 b = pc8 b := by decide
theorem step1 (c C : Nat) : ∀ bs : List Nat, (∀ b ∈ bs, b < 256) → (ofB bs / 2 &&& ofB (bs.map fun _ => 85)) + (ofB bs &&& ofB (bs.map fun _ => 85)) = ofB (bs.map y1)
  | [], _ => by simp [ofB]
  | b :: bs, h => by
    have hb := h b (by simp)
    have ih := step1 c C bs fun x hx => h x (by simp [hx])
    simp only [ofB, List.map_cons]
    rw [and_shift b _ 85 _ 2 7 hb (by decide) (by decide) (by decide) (by decide), and_plain b _ 85 _ hb (by decide), ← ih]
    unfold y1
    omega
theorem step2 : ∀ bs : List Nat, (∀ b ∈ bs, b < 256) → (ofB (bs.map y1) / 4 &&& ofB (bs.map fun _ => 51)) + (ofB (bs.map y1) &&& ofB (bs.map fun _ => 51)) = ofB (bs.map y2)
  | [], _ => by simp [ofB]
  | b :: bs, h => by
    have hb := (bytes_told b (h b (by simp))).1
    have ih := step2 bs fun x hx => h x (by simp [hx])
    simp only [ofB, List.map_cons]
    rw [and_shift (y1 b) _ 51 _ 4 6 hb (by decide) (by decide) (by decide) (by decide), and_plain (y1 b) _ 51 _ hb (by decide), ← ih]
    unfold y2
    omega
theorem ofB_mod (b : Nat) (bs : List Nat) : ofB (b :: bs) % 16 = b % 16 := by simp only [ofB]; omega
theorem step3 : ∀ bs : List Nat, (∀ b ∈ bs, b < 256) → (ofB (bs.map y2) / 16 + ofB (bs.map y2)) &&& ofB (bs.map fun _ => 15) = ofB (bs.map y3)
  | [], _ => by simp [ofB]
  | b :: bs, h => by
    have hb := bytes_told b (h b (by simp))
    have ih := step3 bs fun x hx => h x (by simp [hx])
    have hn : ofB (bs.map y2) % 16 ≤ 4 := by
      cases bs with
      | nil => simp [ofB]
      | cons d ds => rw [List.map_cons, ofB_mod]; exact (bytes_told d (h d (by simp))).2.2.1
    simp only [ofB, List.map_cons]
    rw [show (y2 b + 256 * ofB (bs.map y2)) / 16 + (y2 b + 256 * ofB (bs.map y2)) = (y2 b / 16 + y2 b + 16 * (ofB (bs.map y2) % 16)) + 256 * (ofB (bs.map y2) / 16 + ofB (bs.map y2)) by omega,
      and_plain _ _ 15 _ (by omega) (by decide), ih, show (15 : Nat) = 2 ^ 4 - 1 by decide, Nat.and_two_pow_sub_one_eq_mod]
    unfold y3
    omega
def pcN (a : Nat) : Nat := pc8 (a % 256) + pc8 (a / 256 % 256) + pc8 (a / 65536 % 256) + pc8 (a / 16777216 % 256) + pc8 (a / 4294967296 % 256) + pc8 (a / 1099511627776 % 256) + pc8 (a / 281474976710656 % 256) + pc8 (a / 72057594037927936 % 256)
theorem pc8_le (b : Nat) : pc8 b ≤ 8 := by unfold pc8; omega
theorem swar_add (p q M x : Nat) (hp : p < 2 ^ 64) (hq : q < 2 ^ 64) (hM : M < 2 ^ 64) (h : (p &&& M) + (q &&& M) = x) (hx : x < 2 ^ 64) :
    IntKind.u64.wrap (Go.bits .and .u64 (p : Int) (M : Int) + Go.bits .and .u64 (q : Int) (M : Int)) = (x : Int) := by
  rw [and_u64 _ _ hp hM, and_u64 _ _ hq hM, ← Int.natCast_add, h, wrap_u64_id (by omega) (by omega)]
theorem swar_and (p M x : Nat) (hp : p < 2 ^ 64) (hM : M < 2 ^ 64) (h : p &&& M = x) : Go.bits .and .u64 (IntKind.u64.wrap (p : Int)) (M : Int) = (x : Int) := by
  rw [wrap_u64_id (by omega) (by omega), and_u64 _ _ hp hM, h]
theorem onesCount_shape (a : Int) (x1 x2 x3 : Int) (h1 : IntKind.u64.wrap (Go.bits .and .u64 (a / 2) 6148914691236517205 + Go.bits .and .u64 a 6148914691236517205) = x1)
    (h2 : IntKind.u64.wrap (Go.bits .and .u64 (x1 / 4) 3689348814741910323 + Go.bits .and .u64 x1 3689348814741910323) = x2)
    (h3 : Go.bits .and .u64 (IntKind.u64.wrap (x2 / 16 + x2)) 1085102592571150095 = x3) :
    bits_OnesCount64.f a = some (Go.bits .and .i64 (wrap64 (IntKind.u64.wrap (IntKind.u64.wrap (IntKind.u64.wrap (x3 + x3 / 256) + IntKind.u64.wrap (x3 + x3 / 256) / 65536) + IntKind.u64.wrap (IntKind.u64.wrap (x3 + x3 / 256) + IntKind.u64.wrap (x3 + x3 / 256) / 65536) / 4294967296))) 127) := by
  subst h1 h2 h3
  rfl
theorem seven (z0 z1 z2 z3 z4 z5 z6 z7 : Nat) : z0 + 256 * (z1 + 256 * (z2 + 256 * (z3 + 256 * (z4 + 256 * (z5 + 256 * (z6 + 256 * (z7 + 256 * 0))))))) = z0 + 256 * z1 + 65536 * z2 + 16777216 * z3 + 4294967296 * z4 + 1099511627776 * z5 + 281474976710656 * z6 + 72057594037927936 * z7 := by omega
theorem swar_tail1 (z0 z1 z2 z3 z4 z5 z6 z7 x3 : Nat) (h0 : z0 ≤ 8) (h1 : z1 ≤ 8) (h2 : z2 ≤ 8) (h3 : z3 ≤ 8) (h4 : z4 ≤ 8) (h5 : z5 ≤ 8) (h6 : z6 ≤ 8) (h7 : z7 ≤ 8) (e3 : x3 = z0 + 256 * z1 + 65536 * z2 + 16777216 * z3 + 4294967296 * z4 + 1099511627776 * z5 + 281474976710656 * z6 + 72057594037927936 * z7) :
    x3 + x3 / 256 = (z0 + z1) + 256 * (z1 + z2) + 65536 * (z2 + z3) + 16777216 * (z3 + z4) + 4294967296 * (z4 + z5) + 1099511627776 * (z5 + z6) + 281474976710656 * (z6 + z7) + 72057594037927936 * z7 := by
  have : x3 / 256 = z1 + 256 * z2 + 65536 * z3 + 16777216 * z4 + 4294967296 * z5 + 1099511627776 * z6 + 281474976710656 * z7 := by omega
  omega
theorem swar_tail2 (z0 z1 z2 z3 z4 z5 z6 z7 x4 : Nat) (h0 : z0 ≤ 8) (h1 : z1 ≤ 8) (h2 : z2 ≤ 8) (h3 : z3 ≤ 8) (h4 : z4 ≤ 8) (h5 : z5 ≤ 8) (h6 : z6 ≤ 8) (h7 : z7 ≤ 8) (e4 : x4 = (z0 + z1) + 256 * (z1 + z2) + 65536 * (z2 + z3) + 16777216 * (z3 + z4) + 4294967296 * (z4 + z5) + 1099511627776 * (z5 + z6) + 281474976710656 * (z6 + z7) + 72057594037927936 * z7) :
    x4 + x4 / 65536 = (z0 + z1 + z2 + z3) + 256 * (z1 + z2 + z3 + z4) + 65536 * (z2 + z3 + z4 + z5) + 16777216 * (z3 + z4 + z5 + z6) + 4294967296 * (z4 + z5 + z6 + z7) + 1099511627776 * (z5 + z6 + z7) + 281474976710656 * (z6 + z7) + 72057594037927936 * z7 := by
  have : x4 / 65536 = (z2 + z3) + 256 * (z3 + z4) + 65536 * (z4 + z5) + 16777216 * (z5 + z6) + 4294967296 * (z6 + z7) + 1099511627776 * z7 := by omega
  omega
theorem swar_tail3 (z0 z1 z2 z3 z4 z5 z6 z7 x5 : Nat) (h0 : z0 ≤ 8) (h1 : z1 ≤ 8) (h2 : z2 ≤ 8) (h3 : z3 ≤ 8) (h4 : z4 ≤ 8) (h5 : z5 ≤ 8) (h6 : z6 ≤ 8) (h7 : z7 ≤ 8) (e5 : x5 = (z0 + z1 + z2 + z3) + 256 * (z1 + z2 + z3 + z4) + 65536 * (z2 + z3 + z4 + z5) + 16777216 * (z3 + z4 + z5 + z6) + 4294967296 * (z4 + z5 + z6 + z7) + 1099511627776 * (z5 + z6 + z7) + 281474976710656 * (z6 + z7) + 72057594037927936 * z7) :
    (x5 + x5 / 4294967296) % 128 = z0 + z1 + z2 + z3 + z4 + z5 + z6 + z7 ∧ x5 < 2 ^ 62 := by
  have : x5 / 4294967296 = (z4 + z5 + z6 + z7) + 256 * (z5 + z6 + z7) + 65536 * (z6 + z7) + 16777216 * z7 := by omega
  omega
theorem and127 (z : Int) (h0 : 0 ≤ z) (h1 : z ≤ 9223372036854775807) : Go.bits .and .i64 (wrap64 z) 127 = z % 128 := by
  rw [wrap64_id (by omega) h1]
  have := bits_mask .i64 63 (by decide) (fun n h0 h1 => by rw [IntKind.wrap_i64]; omega) 7 (by decide) z h0 (by omega)
  simpa using this
theorem add_shift (x d : Nat) (h : x < 2 ^ 63) : IntKind.u64.wrap ((x : Int) + (x : Int) / (d : Int)) = ((x + x / d : Nat) : Int) := by
  have : x / d ≤ x := Nat.div_le_self _ _
  rw [← Int.natCast_ediv, ← Int.natCast_add, wrap_u64_id (Int.natCast_nonneg _) (by omega)]
theorem swar_end (z0 z1 z2 z3 z4 z5 z6 z7 x3 : Nat) (hz : z0 ≤ 8 ∧ z1 ≤ 8 ∧ z2 ≤ 8 ∧ z3 ≤ 8 ∧ z4 ≤ 8 ∧ z5 ≤ 8 ∧ z6 ≤ 8 ∧ z7 ≤ 8) (e3 : x3 = z0 + 256 * z1 + 65536 * z2 + 16777216 * z3 + 4294967296 * z4 + 1099511627776 * z5 + 281474976710656 * z6 + 72057594037927936 * z7) :
    Go.bits .and .i64 (wrap64 (IntKind.u64.wrap (IntKind.u64.wrap (IntKind.u64.wrap ((x3 : Int) + (x3 : Int) / 256) + IntKind.u64.wrap ((x3 : Int) + (x3 : Int) / 256) / 65536) + IntKind.u64.wrap (IntKind.u64.wrap ((x3 : Int) + (x3 : Int) / 256) + IntKind.u64.wrap ((x3 : Int) + (x3 : Int) / 256) / 65536) / 4294967296))) 127 = ((z0 + z1 + z2 + z3 + z4 + z5 + z6 + z7 : Nat) : Int) := by
  obtain ⟨h0, h1, h2, h3, h4, h5, h6, h7⟩ := hz
  have k4 := swar_tail1 z0 z1 z2 z3 z4 z5 z6 z7 x3 h0 h1 h2 h3 h4 h5 h6 h7 e3
  have l3 : x3 < 2 ^ 63 := by omega
  rw [show (256 : Int) = ((256 : Nat) : Int) from rfl, add_shift x3 256 l3]
  obtain ⟨x4, q4⟩ : ∃ x, x = x3 + x3 / 256 := ⟨_, rfl⟩
  rw [← q4] at k4 ⊢
  have k5 := swar_tail2 z0 z1 z2 z3 z4 z5 z6 z7 x4 h0 h1 h2 h3 h4 h5 h6 h7 k4
  have l4 : x4 < 2 ^ 63 := by clear q4 e3; omega
  rw [show (65536 : Int) = ((65536 : Nat) : Int) from rfl, add_shift x4 65536 l4]
  obtain ⟨x5, q5⟩ : ∃ x, x = x4 + x4 / 65536 := ⟨_, rfl⟩
  rw [← q5] at k5 ⊢
  obtain ⟨k6, l5⟩ := swar_tail3 z0 z1 z2 z3 z4 z5 z6 z7 x5 h0 h1 h2 h3 h4 h5 h6 h7 k5
  have l5' : x5 < 2 ^ 63 := by clear q5 q4 e3 k4 k5 k6; omega
  rw [show (4294967296 : Int) = ((4294967296 : Nat) : Int) from rfl, add_shift x5 4294967296 l5', and127 _ (Int.natCast_nonneg _) (by have : x5 / 4294967296 ≤ x5 := Nat.div_le_self _ _; clear q5 q4 e3 k4 k5 k6; omega)]
  rw [← k6]; rfl
theorem onesCount_eq (a : Nat) (ha : a < 2 ^ 64) : bits_OnesCount64.f (a : Int) = some ((pcN a : Nat) : Int) := by
  obtain ⟨bs, hbs⟩ : ∃ bs : List Nat, bs = [a % 256, a / 256 % 256, a / 65536 % 256, a / 16777216 % 256, a / 4294967296 % 256, a / 1099511627776 % 256, a / 281474976710656 % 256, a / 72057594037927936 % 256] := ⟨_, rfl⟩
  have hlt : ∀ b ∈ bs, b < 256 := by
    intro b hb
    rw [hbs] at hb
    simp only [List.mem_cons, List.not_mem_nil, or_false] at hb
    omega
  have hof : ofB bs = a := by rw [hbs]; simp only [ofB]; omega
  have m85 : ofB (bs.map fun _ => 85) = 6148914691236517205 := by rw [hbs]; simp only [List.map_cons, List.map_nil, ofB]
  have m51 : ofB (bs.map fun _ => 51) = 3689348814741910323 := by rw [hbs]; simp only [List.map_cons, List.map_nil, ofB]
  have m15 : ofB (bs.map fun _ => 15) = 1085102592571150095 := by rw [hbs]; simp only [List.map_cons, List.map_nil, ofB]
  have s1 := step1 0 0 bs hlt
  have s2 := step2 bs hlt
  have s3 := step3 bs hlt
  rw [m85, hof] at s1
  rw [m51] at s2
  rw [m15] at s3
  obtain ⟨x1, hx1⟩ : ∃ x, x = ofB (bs.map y1) := ⟨_, rfl⟩
  obtain ⟨x2, hx2⟩ : ∃ x, x = ofB (bs.map y2) := ⟨_, rfl⟩
  obtain ⟨x3, hx3⟩ : ∃ x, x = ofB (bs.map y3) := ⟨_, rfl⟩
  rw [← hx1] at s1 s2
  rw [← hx2] at s2 s3
  rw [← hx3] at s3
  have l1 : x1 < 2 ^ 64 := by
    have : ∀ b ∈ bs, y1 b < 256 := fun b hb => (bytes_told b (hlt b hb)).1
    rw [hbs] at this hx1
    simp only [List.mem_cons, List.not_mem_nil, or_false, forall_eq_or_imp, forall_eq] at this
    simp only [List.map_cons, List.map_nil, ofB] at hx1
    omega
  have l2 : x2 < 2 ^ 63 := by
    have : ∀ b ∈ bs, y2 b ≤ 68 := fun b hb => by have := bytes_told b (hlt b hb); omega
    rw [hbs] at this hx2
    simp only [List.mem_cons, List.not_mem_nil, or_false, forall_eq_or_imp, forall_eq] at this
    simp only [List.map_cons, List.map_nil, ofB] at hx2
    omega
  have e3 : x3 = pc8 (a % 256) + 256 * pc8 (a / 256 % 256) + 65536 * pc8 (a / 65536 % 256) + 16777216 * pc8 (a / 16777216 % 256) + 4294967296 * pc8 (a / 4294967296 % 256) + 1099511627776 * pc8 (a / 1099511627776 % 256) + 281474976710656 * pc8 (a / 281474976710656 % 256) + 72057594037927936 * pc8 (a / 72057594037927936 % 256) := by
    have : ∀ b ∈ bs, y3 b = pc8 b := fun b hb => (bytes_told b (hlt b hb)).2.2.2
    rw [hbs] at this hx3
    simp only [List.mem_cons, List.not_mem_nil, or_false, forall_eq_or_imp, forall_eq] at this
    simp only [List.map_cons, List.map_nil, ofB] at hx3
    rw [hx3]
    obtain ⟨t0, t1, t2, t3, t4, t5, t6, t7⟩ := this
    rw [t0, t1, t2, t3, t4, t5, t6, t7]
    exact seven _ _ _ _ _ _ _ _
  have p0 := pc8_le (a % 256); have p1 := pc8_le (a / 256 % 256); have p2 := pc8_le (a / 65536 % 256); have p3 := pc8_le (a / 16777216 % 256)
  have p4 := pc8_le (a / 4294967296 % 256); have p5 := pc8_le (a / 1099511627776 % 256); have p6 := pc8_le (a / 281474976710656 % 256); have p7 := pc8_le (a / 72057594037927936 % 256)
  have g1 := swar_add (a / 2) a 6148914691236517205 x1 (by omega) ha (by decide) s1 l1
  have g2 := swar_add (x1 / 4) x1 3689348814741910323 x2 (by omega) l1 (by decide) s2 (by omega)
  have g3 := swar_and (x2 / 16 + x2) 1085102592571150095 x3 (by omega) (by decide) s3
  rw [onesCount_shape (a : Int) x1 x2 x3 (by rw [← g1]; congr 1) (by rw [← g2]; congr 1) (by rw [← g3]; congr 2)]
  congr 1
  exact swar_end _ _ _ _ _ _ _ _ x3 ⟨p0, p1, p2, p3, p4, p5, p6, p7⟩ e3
theorem pc8_cnt : ∀ b, b < 256 → (pc8 b : Int) = cnt (fun d => if b.testBit d then 1 else 0) 8 := by decide
theorem cnt_byte (a k : Nat) : cnt (fun d => if a.testBit (k + d) then (1 : Int) else 0) 8 = (pc8 (a / 2 ^ k % 256) : Int) := by
  rw [pc8_cnt _ (Nat.mod_lt _ (by decide))]
  refine cnt_congr 8 fun d hd => ?_
  rw [show (256 : Nat) = 2 ^ 8 by decide, Nat.testBit_mod_two_pow, Nat.testBit_div_two_pow, Nat.add_comm]
  simp [hd]
theorem pcN_cnt (a : Nat) : cnt (fun d => if a.testBit d then (1 : Int) else 0) 64 = (pcN a : Int) := by
  have e := fun k => cnt_byte a k
  rw [show (64 : Nat) = 0 + 8 + 8 + 8 + 8 + 8 + 8 + 8 + 8 by decide]
  rw [cnt_add _ (0 + 8 + 8 + 8 + 8 + 8 + 8 + 8), cnt_add _ (0 + 8 + 8 + 8 + 8 + 8 + 8), cnt_add _ (0 + 8 + 8 + 8 + 8 + 8), cnt_add _ (0 + 8 + 8 + 8 + 8), cnt_add _ (0 + 8 + 8 + 8), cnt_add _ (0 + 8 + 8), cnt_add _ (0 + 8), cnt_add _ 0]
  rw [e, e, e, e, e, e, e, e]
  unfold pcN
  simp [cnt]

/-! countOnes -/
theorem bitI_cnt (l : List Int) (h : U64s l) (i : Nat) : ∃ a : Nat, rd l (i : Int) = (a : Int) ∧ a < 2 ^ 64 ∧ cnt (bitI l) (64 * i + 64) = cnt (bitI l) (64 * i) + (pcN a : Int) := by
  obtain ⟨a, ha, hal⟩ := w64_nat (rd_w64 h (i : Int))
  refine ⟨a, ha, hal, ?_⟩
  rw [cnt_add, ← pcN_cnt]
  congr 1
  refine cnt_congr 64 fun d hd => ?_
  unfold bitI
  rw [bitN_word _ _ _ hd, ha, Int.toNat_natCast]
theorem countOnes_agree (w : Int) (l : List Int) (hu : U64s l) (hl : l.length ≤ 1048576) (hw : -9223372036854775808 ≤ w ∧ w ≤ 9223372036854775807) :
    ∃ r, Ev (fun k => spec_CountOnes.f k w l) r ∧ Ev (fun k => impl_CountOnes.f k w l) r := by
  obtain ⟨K1, g1⟩ := specBitsOk_ev w l hu hl hw.1 hw.2
  have g2 := implBitsOk_eq w l hu hl
  have hb := cnt_bound (f := bitI l) (fun i => by rcases bitI_01 l i with e | e <;> omega)
  rcases okB_cases w l with ⟨e, hr⟩ | ⟨e, hr⟩
  · have b1 := hr.low; have b2 := hr.high; have b3 := hr.len
    obtain ⟨wd, rfl⟩ := Int.eq_ofNat_of_zero_le (show 0 ≤ w by omega)
    refine ⟨cnt (bitI l) wd, ?_, ?_⟩
    · obtain ⟨K2, h⟩ := up_loop wd (fun i => cnt (bitI l) i) (fun k s i => spec_CountOnes.l0 k s i (wd : Int) l)
        (fun i hi r h => Ev.step (fun k => by
          have := hb i
          simp only [spec_CountOnes.l0]
          rw [if_pos (by omega), l1Bit_eq _ l hr.words i (by omega) (by omega)]
          simp only [Option.bind_some]
          rcases bitI_01 l i with e | e
          · rw [wrap64_id (x := bitI l i) (by omega) (by omega), wrap64_id (by omega) (by omega), wrap64_id (by omega) (by omega)]; rfl
          · rw [wrap64_id (x := bitI l i) (by omega) (by omega), wrap64_id (by omega) (by omega), wrap64_id (by omega) (by omega)]; rfl) h)
        _ (Ev.step (f := fun _ => some (cnt (bitI l) wd)) (fun k => by simp only [spec_CountOnes.l0]; rw [if_neg (by omega)]) (Ev.now _))
      refine ⟨K1 + K2, fun k hk => ?_⟩
      have h := h k (by omega)
      dsimp only at h ⊢
      simp (disch := omega) only [spec_CountOnes.f, g1, e, Option.bind_some, if_true]
      exact h
    · have hc : cnt (bitI l) (64 * l.length) = cnt (bitI l) wd := by
        rw [show 64 * l.length = wd + (64 * l.length - wd) by omega, cnt_add]
        have : cnt (fun i => bitI l (wd + i)) (64 * l.length - wd) = cnt (fun _ => 0) (64 * l.length - wd) := cnt_congr _ fun i hi => by
          unfold bitI; rw [hr.top (wd + i) (by omega)]; rfl
        have z : ∀ n, cnt (fun _ => 0) n = 0 := fun n => by
          induction n with
          | zero => rfl
          | succ n ih => show cnt (fun _ => 0) n + 0 = 0; omega
        rw [this, z]; omega
      obtain ⟨K2, h⟩ := up_loop l.length (fun i => cnt (bitI l) (64 * i)) (fun k s i => impl_CountOnes.l0 k s l (l.length : Int) i)
        (fun i hi r h => Ev.step (fun k => by
          obtain ⟨a, ha, hal, hs⟩ := bitI_cnt l hr.words i
          have := hb (64 * i + 64)
          have h0 := hb (64 * i)
          simp only [impl_CountOnes.l0]
          rw [if_pos (by omega), if_pos (by omega), if_pos (by omega), ha, onesCount_eq a hal]
          simp only [Option.bind_some]
          rw [← hs, wrap64_id (by omega) (by omega), wrap64_id (by omega) (by omega)]; rfl) h)
        _ (Ev.step (f := fun _ => some (cnt (bitI l) (64 * l.length))) (fun k => by simp only [impl_CountOnes.l0]; rw [if_neg (by omega)]) (Ev.now _))
      rw [hc] at h
      refine ⟨K2, fun k hk => ?_⟩
      have h := h k (by omega)
      dsimp only at h ⊢
      simp (disch := omega) only [impl_CountOnes.f, g2, e, Option.bind_some, if_true]
      simpa [cnt] using h
  · refine ⟨-1, ⟨K1, fun k hk => ?_⟩, ⟨0, fun k hk => ?_⟩⟩
    · simp (disch := omega) only [spec_CountOnes.f, g1, e, Option.bind_some, if_false, Bool.false_eq_true]
    · simp (disch := omega) only [impl_CountOnes.f, g2, e, Option.bind_some, if_false, Bool.false_eq_true]
-- SAYS: The program's CountOnes answers as the reference's CountOnes does, for every row of bits.
theorem FnExactCountOnes (a0_0 : Int) (l0_1 : List Int) (q0 : (Lit.int .i64 a0_0).wf = true) (q1 : ∀ x ∈ l0_1, (Lit.int .u64 x).wf = true) (hl : l0_1.length ≤ 9223372036854775807) :
    ∃ k, laws_FnExactCountOnes.f k a0_0 l0_1 = some true := by
  have hu : U64s l0_1 := fun x hx => wf_u64 (q1 x hx)
  have hsz := szBits_eq a0_0 l0_1 1048576 hl (by decide) (by decide)
  by_cases hbig : 1048576 - (l0_1.length : Int) < 0
  · exact ⟨0, by simp (disch := omega) only [laws_FnExactCountOnes.f, hsz, Option.bind_some, if_pos]⟩
  · rw [if_neg hbig] at hsz
    have hl2 : l0_1.length ≤ 1048576 := by omega
    obtain ⟨r, g1, g2⟩ := countOnes_agree a0_0 l0_1 hu hl2 (wf_i64 q0)
    obtain ⟨K1, h1⟩ := Ev.binds g1
    obtain ⟨K2, h2⟩ := Ev.binds g2
    obtain ⟨K3, h3⟩ := Ev.binds (toBits_ev a0_0 l0_1 hl2)
    obtain ⟨K5, h5⟩ := Ev.binds (eqBits_ev a0_0 l0_1 hl2)
    refine ⟨K1 + K2 + K3 + K5, ?_⟩
    have hsz := fun β (g : _ → Option β) => some_binds hsz β g
    have hb := eq_false hbig
    simp (disch := omega) only [laws_FnExactCountOnes.f, ↓hsz, ↓h1, ↓h2, ↓h3, ↓h5, ↓reduceIte, hb]

end Go.Proofs.Ytfjknhmepgfhaaa.Pure
