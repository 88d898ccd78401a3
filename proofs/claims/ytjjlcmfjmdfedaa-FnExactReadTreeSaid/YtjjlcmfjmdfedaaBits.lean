/- Rows of 64-bit words told bit by bit: what Go's and, or and shifts do to them, and when two of them are one. -/
import Derived.Test.YtjjlcmfjmdfedaaWMore
namespace Go.Proofs.Ytjjlcmfjmdfedaa.BitsLib
open Go Go.RowKit Go.Proofs.YtjjlcmfjmdfedaaW.PrintWords Go.Proofs.YtjjlcmfjmdfedaaW.PrintMore
set_option linter.unusedVariables false
set_option linter.unusedSimpArgs false

abbrev W64 (x : Int) : Prop := 0 ≤ x ∧ x < 18446744073709551616
def U64s (l : List Int) : Prop := ∀ x ∈ l, W64 x

theorem w64_nat {x : Int} (h : W64 x) : ∃ a : Nat, x = (a : Int) ∧ a < 2 ^ 64 := ⟨x.toNat, by omega, by omega⟩
theorem wf_u64 {x : Int} (h : (Lit.int .u64 x).wf = true) : W64 x := by
  simp [Lit.wf, IntKind.min, IntKind.max, IntKind.signed, IntKind.bits] at h
  unfold W64
  omega
theorem wf_i64 {x : Int} (h : (Lit.int .i64 x).wf = true) : -9223372036854775808 ≤ x ∧ x ≤ 9223372036854775807 := by
  simp [Lit.wf, IntKind.min, IntKind.max, IntKind.signed, IntKind.bits] at h
  omega
theorem wrap64_id {x : Int} (h0 : -9223372036854775808 ≤ x) (h1 : x ≤ 9223372036854775807) : wrap64 x = x := by unfold wrap64; omega
theorem wrap_u64 (x : Int) : IntKind.u64.wrap x = x % 18446744073709551616 := by simp [IntKind.wrap, IntKind.bits, IntKind.signed]
theorem wrap_u64_id {x : Int} (h0 : 0 ≤ x) (h1 : x < 18446744073709551616) : IntKind.u64.wrap x = x := by rw [wrap_u64]; omega

theorem and_u64 (a b : Nat) (ha : a < 2 ^ 64) (hb : b < 2 ^ 64) : Go.bits .and .u64 a b = ((a &&& b : Nat) : Int) := by
  have h1 : a % 2 ^ IntKind.u64.bits = a := Nat.mod_eq_of_lt ha
  have h2 : b % 2 ^ IntKind.u64.bits = b := Nat.mod_eq_of_lt hb
  have h3 : a &&& b < 2 ^ 64 := Nat.and_lt_two_pow _ hb
  simp only [Go.bits, BitVec.ofInt_natCast, BitVec.toNat_and, BitVec.toNat_ofNat, h1, h2]
  rw [wrap_u64]
  omega
theorem or_u64 (a b : Nat) (ha : a < 2 ^ 64) (hb : b < 2 ^ 64) : Go.bits .or .u64 a b = ((a ||| b : Nat) : Int) := by
  have h1 : a % 2 ^ IntKind.u64.bits = a := Nat.mod_eq_of_lt ha
  have h2 : b % 2 ^ IntKind.u64.bits = b := Nat.mod_eq_of_lt hb
  have h3 : a ||| b < 2 ^ 64 := Nat.or_lt_two_pow ha hb
  simp only [Go.bits, BitVec.ofInt_natCast, BitVec.toNat_or, BitVec.toNat_ofNat, h1, h2]
  rw [wrap_u64]
  omega
theorem shr_u64 (a : Nat) (n : Int) (ha : a < 2 ^ 64) (h0 : 0 ≤ n) : shr .u64 a n = ((a >>> n.toNat : Nat) : Int) := by
  unfold shr
  have : IntKind.u64.bits = 64 := rfl
  rw [this, Nat.shiftRight_eq_div_pow]
  by_cases h : n.toNat ≤ 64
  · rw [Nat.min_eq_left h]; simp
  · rw [Nat.min_eq_right (by omega)]
    have h2 : 2 ^ 64 ≤ 2 ^ n.toNat := Nat.pow_le_pow_right (by decide) (by omega)
    rw [Nat.div_eq_of_lt (Nat.lt_of_lt_of_le ha h2)]
    omega
theorem shl_u64 (a : Nat) (n : Int) (h0 : 0 ≤ n) (h1 : n < 64) : shl .u64 a n = (((a <<< n.toNat) % 2 ^ 64 : Nat) : Int) := by
  unfold shl
  have : IntKind.u64.bits = 64 := rfl
  rw [this, Nat.min_eq_left (by omega), wrap_u64, Nat.shiftLeft_eq]
  simp
theorem shl_u64_big (a : Nat) (n : Int) (h1 : 64 ≤ n) : shl .u64 a n = 0 := by
  unfold shl
  have : IntKind.u64.bits = 64 := rfl
  rw [this, Nat.min_eq_right (by omega), wrap_u64]
  omega

/- No equation of these stands in a context where omega works: it does not come back there. -/
theorem tdiv64 (t : Nat) (h : t ≤ 1000000000) : wrap64 (Int.tdiv (t : Int) 64) = ((t / 64 : Nat) : Int) := by
  rw [Int.tdiv_eq_ediv_of_nonneg (by omega), wrap64_id (by omega) (by omega)]; omega
theorem tmod64 (t : Nat) : Int.tmod (t : Int) 64 = ((t % 64 : Nat) : Int) := by
  rw [Int.tmod_eq_emod_of_nonneg (by omega)]; omega
theorem tmod4 (t : Nat) : Int.tmod (t : Int) 4 = ((t % 4 : Nat) : Int) := by
  rw [Int.tmod_eq_emod_of_nonneg (by omega)]; omega
theorem utmod64 (t : Nat) : IntKind.u64.wrap (Int.tmod (t : Int) 64) = ((t % 64 : Nat) : Int) := by
  rw [Int.tmod_eq_emod_of_nonneg (by omega), wrap_u64_id (by omega) (by omega)]; omega
theorem wrap_succ (i : Nat) (h : i ≤ 1000000000) : wrap64 ((i : Int) + 1) = (i : Int) + 1 := wrap64_id (by omega) (by omega)
theorem wrap_succ' (i : Nat) (h : i ≤ 1000000000) : wrap64 ((i : Int) + 1) = ((i + 1 : Nat) : Int) := by rw [wrap64_id (by omega) (by omega)]; omega
theorem wrap_64 (t : Nat) : wrap64 (64 - ((t % 64 : Nat) : Int)) = ((64 - t % 64 : Nat) : Int) := by rw [wrap64_id (by omega) (by omega)]; omega
theorem wrap_at (a i : Nat) (h : a ≤ 1000000000) (h2 : i ≤ 1000000000) : wrap64 ((a : Int) + wrap64 (64 * (i : Int))) = ((a + 64 * i : Nat) : Int) := by
  rw [wrap64_id (x := 64 * (i : Int)) (by omega) (by omega), wrap64_id (by omega) (by omega)]; omega
theorem words_of (w : Int) (h0 : 0 ≤ w) (h1 : w ≤ 1000000000) : wrap64 (Int.tdiv (wrap64 (w + 63)) 64) = (w + 63) / 64 := by
  rw [wrap64_id (x := w + 63) (by omega) (by omega), Int.tdiv_eq_ediv_of_nonneg (by omega), wrap64_id (by omega) (by omega)]

/-- The bit i of a row of words. -/
def bitN (l : List Int) (i : Nat) : Bool := (l.getD (i / 64) 0).toNat.testBit (i % 64)
def bitI (l : List Int) (i : Nat) : Int := if bitN l i then 1 else 0

theorem getD_w64 {l : List Int} (h : U64s l) (i : Nat) : W64 (l.getD i 0) := by
  rw [List.getD_eq_getElem?_getD]
  cases e : l[i]? with
  | none => simp [W64]
  | some x => exact h x (List.mem_of_getElem? e)
theorem rd_w64 {l : List Int} (h : U64s l) (i : Int) : W64 (rd l i) := getD_w64 h _
theorem rd_getD (l : List Int) (i : Int) : rd l i = l.getD i.toNat 0 := rfl

/-- What l1Bit and bit reckon. -/
theorem bit_reads {l : List Int} (h : U64s l) (i : Nat) : Go.bits .and .u64 (shr .u64 (rd l ((i / 64 : Nat) : Int)) ((i % 64 : Nat) : Int)) 1 = bitI l i := by
  obtain ⟨a, ha, hlt⟩ := w64_nat (getD_w64 h (i / 64))
  rw [rd_getD, Int.toNat_natCast, ha, shr_u64 a _ hlt (by omega), Int.toNat_natCast]
  have h2 : a >>> (i % 64) < 2 ^ 64 := Nat.lt_of_le_of_lt (by rw [Nat.shiftRight_eq_div_pow]; exact Nat.div_le_self _ _) hlt
  rw [show (1 : Int) = ((1 : Nat) : Int) from rfl, and_u64 _ _ h2 (by decide)]
  unfold bitI bitN
  rw [ha, Int.toNat_natCast, Nat.testBit, Nat.and_comm]
  have := Nat.and_one_is_mod (a >>> (i % 64))
  rw [Nat.and_comm] at this
  rcases Nat.mod_two_eq_zero_or_one (a >>> (i % 64)) with e | e <;> simp [this, e]

theorem bitN_out {l : List Int} {i : Nat} (h : 64 * l.length ≤ i) : bitN l i = false := by
  unfold bitN
  rw [List.getD_eq_getElem?_getD, List.getElem?_eq_none (by omega)]
  simp

theorem testBit_ext {a b : Nat} (ha : a < 2 ^ 64) (hb : b < 2 ^ 64) (h : ∀ j, j < 64 → a.testBit j = b.testBit j) : a = b := by
  apply Nat.eq_of_testBit_eq
  intro j
  by_cases hj : j < 64
  · exact h j hj
  · have hp : 2 ^ 64 ≤ 2 ^ j := Nat.pow_le_pow_right (by decide) (by omega)
    rw [Nat.testBit_lt_two_pow (Nat.lt_of_lt_of_le ha hp), Nat.testBit_lt_two_pow (Nat.lt_of_lt_of_le hb hp)]

theorem words_ext {l m : List Int} (hl : U64s l) (hm : U64s m) (hlen : l.length = m.length) (h : ∀ i, i < 64 * l.length → bitN l i = bitN m i) : l = m := by
  apply List.ext_getElem? 
  intro k
  by_cases hk : k < l.length
  · rw [List.getElem?_eq_getElem hk, List.getElem?_eq_getElem (by omega)]
    congr 1
    obtain ⟨a, ha, hal⟩ := w64_nat (hl _ (List.getElem_mem hk))
    have hk' : k < m.length := by omega
    obtain ⟨b, hb, hbl⟩ := w64_nat (hm _ (List.getElem_mem hk'))
    rw [ha, hb]
    congr 1
    apply testBit_ext hal hbl
    intro j hj
    have := h (64 * k + j) (by omega)
    unfold bitN at this
    have e1 : (64 * k + j) / 64 = k := by omega
    have e2 : (64 * k + j) % 64 = j := by omega
    rw [e1, e2, List.getD_eq_getElem?_getD, List.getD_eq_getElem?_getD, List.getElem?_eq_getElem hk, List.getElem?_eq_getElem (by omega)] at this
    simp only [Option.getD_some, ha, hb, Int.toNat_natCast] at this
    exact this
  · rw [List.getElem?_eq_none (by omega), List.getElem?_eq_none (by omega)]

/-- A right row of bits. -/
structure Right (w : Int) (l : List Int) : Prop where
  low : 1 ≤ w
  high : w ≤ 4096
  len : (l.length : Int) = (w + 63) / 64
  words : U64s l
  top : ∀ i : Nat, w ≤ i → bitN l i = false

theorem Right.ext {w : Int} {l m : List Int} (h : Right w l) (k : Right w m) (e : ∀ i : Nat, (i : Int) < w → bitN l i = bitN m i) : l = m :=
  words_ext h.words k.words (by have := h.len; have := k.len; omega) fun i hi => by
    by_cases hw : (i : Int) < w
    · exact e i hw
    · rw [h.top i (by omega), k.top i (by omega)]

theorem U64s.set {l : List Int} (h : U64s l) (i : Nat) {x : Int} (hx : W64 x) : U64s (l.set i x) := by
  intro y hy
  rcases List.mem_or_eq_of_mem_set hy with h1 | rfl
  · exact h y h1
  · exact hx
theorem U64s.replicate (n : Nat) : U64s (List.replicate n 0) := by
  intro y hy
  rw [(List.mem_replicate.1 hy).2]
  exact ⟨by decide, by decide⟩
theorem bitN_replicate (n i : Nat) : bitN (List.replicate n 0) i = false := by
  unfold bitN
  rw [List.getD_eq_getElem?_getD, List.getElem?_replicate]
  split <;> simp
theorem bitN_set {l : List Int} {k : Nat} (hk : k < l.length) (x : Int) (i : Nat) : bitN (l.set k x) i = if i / 64 = k then x.toNat.testBit (i % 64) else bitN l i := by
  unfold bitN
  rw [List.getD_eq_getElem?_getD, List.getD_eq_getElem?_getD, List.getElem?_set]
  by_cases h : k = i / 64
  · rw [if_pos h, if_pos hk, if_pos h.symm]; rfl
  · rw [if_neg h, if_neg (fun e => h e.symm)]

theorem or_w64 {x y : Int} (hx : W64 x) (hy : W64 y) : W64 (Go.bits .or .u64 x y) ∧ ∀ j, (Go.bits .or .u64 x y).toNat.testBit j = (x.toNat.testBit j || y.toNat.testBit j) := by
  obtain ⟨a, rfl, ha⟩ := w64_nat hx
  obtain ⟨b, rfl, hb⟩ := w64_nat hy
  rw [or_u64 a b ha hb]
  have := Nat.or_lt_two_pow ha hb
  exact ⟨by unfold W64; omega, fun j => by simp⟩
theorem and_w64 {x y : Int} (hx : W64 x) (hy : W64 y) : W64 (Go.bits .and .u64 x y) ∧ ∀ j, (Go.bits .and .u64 x y).toNat.testBit j = (x.toNat.testBit j && y.toNat.testBit j) := by
  obtain ⟨a, rfl, ha⟩ := w64_nat hx
  obtain ⟨b, rfl, hb⟩ := w64_nat hy
  rw [and_u64 a b ha hb]
  have : a &&& b < 2 ^ 64 := Nat.and_lt_two_pow _ hb
  exact ⟨by unfold W64; omega, fun j => by simp⟩
theorem shl_w64 {x : Int} (hx : W64 x) {n : Int} (h0 : 0 ≤ n) : W64 (shl .u64 x n) ∧ ∀ j, j < 64 → (shl .u64 x n).toNat.testBit j = (decide (n.toNat ≤ j) && x.toNat.testBit (j - n.toNat)) := by
  obtain ⟨a, rfl, ha⟩ := w64_nat hx
  by_cases h1 : n < 64
  · rw [shl_u64 a n h0 h1]
    have : (a <<< n.toNat) % 2 ^ 64 < 2 ^ 64 := Nat.mod_lt _ (by decide)
    refine ⟨by unfold W64; omega, fun j hj => ?_⟩
    rw [Int.toNat_natCast, Nat.testBit_mod_two_pow, Nat.testBit_shiftLeft, Int.toNat_natCast]
    simp [hj]
  · rw [shl_u64_big a n (by omega)]
    refine ⟨by unfold W64; omega, fun j hj => ?_⟩
    have : ¬ n.toNat ≤ j := by omega
    simp [this]
theorem shr_w64 {x : Int} (hx : W64 x) {n : Int} (h0 : 0 ≤ n) : W64 (shr .u64 x n) ∧ ∀ j, (shr .u64 x n).toNat.testBit j = x.toNat.testBit (n.toNat + j) := by
  obtain ⟨a, rfl, ha⟩ := w64_nat hx
  rw [shr_u64 a n ha h0]
  have : a >>> n.toNat ≤ a := by rw [Nat.shiftRight_eq_div_pow]; exact Nat.div_le_self _ _
  exact ⟨⟨Int.natCast_nonneg _, Int.lt_of_le_of_lt (Int.ofNat_le.2 this) (by omega)⟩, fun j => by rw [Int.toNat_natCast, Nat.testBit_shiftRight, Int.toNat_natCast]⟩
theorem testBit_w64 {x : Int} (hx : W64 x) {j : Nat} (hj : 64 ≤ j) : x.toNat.testBit j = false := by
  obtain ⟨a, rfl, ha⟩ := w64_nat hx
  rw [Int.toNat_natCast]
  exact Nat.testBit_lt_two_pow (Nat.lt_of_lt_of_le ha (Nat.pow_le_pow_right (by decide) hj))

theorem shl_nat {x : Int} (hx : W64 x) (n : Nat) : W64 (shl .u64 x (n : Int)) ∧ ∀ j, j < 64 → (shl .u64 x (n : Int)).toNat.testBit j = (decide (n ≤ j) && x.toNat.testBit (j - n)) := by
  have := shl_w64 hx (n := (n : Int)) (by omega)
  simpa using this
theorem shr_nat {x : Int} (hx : W64 x) (n : Nat) : W64 (shr .u64 x (n : Int)) ∧ ∀ j, (shr .u64 x (n : Int)).toNat.testBit j = x.toNat.testBit (n + j) := by
  have := shr_w64 hx (n := (n : Int)) (by omega)
  simpa using this
theorem testBit_01 {x : Int} (h : x = 0 ∨ x = 1) (d : Nat) : x.toNat.testBit d = (decide (d = 0) && decide (x = 1)) := by
  rcases h with rfl | rfl
  · simp
  · cases d with
    | zero => rfl
    | succ d => simp [Nat.testBit_succ]

theorem bitN_word (l : List Int) (i d : Nat) (h : d < 64) : bitN l (64 * i + d) = (rd l (i : Int)).toNat.testBit d := by
  unfold bitN
  rw [show (64 * i + d) / 64 = i by omega, show (64 * i + d) % 64 = d by omega, rd_getD, Int.toNat_natCast]
theorem bitN_div (l : List Int) (j : Nat) : bitN l j = (rd l ((j / 64 : Nat) : Int)).toNat.testBit (j % 64) := rfl

/-- A word laid from place r of word q on, where only word q (and q + 1) are met. -/
theorem or_lay {o : List Int} (ho : U64s o) {x : Int} (hx : W64 x) (q r : Nat) (hq : q < o.length) (hr : r < 64) :
    U64s (o.set q (Go.bits .or .u64 (rd o (q : Int)) (shl .u64 x (r : Int)))) ∧
    ∀ j, bitN (o.set q (Go.bits .or .u64 (rd o (q : Int)) (shl .u64 x (r : Int)))) j = (bitN o j || (decide (j / 64 = q) && decide (r ≤ j % 64) && x.toNat.testBit (j % 64 - r))) := by
  have hs := shl_nat hx r
  have hor := or_w64 (rd_w64 ho (q : Int)) hs.1
  refine ⟨ho.set _ hor.1, fun j => ?_⟩
  rw [bitN_set hq]
  by_cases hj : j / 64 = q
  · rw [if_pos hj, hor.2, hs.2 _ (by omega), bitN_div, hj]
    simp
  · rw [if_neg hj]; simp [hj]
theorem or_lay_high {o : List Int} (ho : U64s o) {x : Int} (hx : W64 x) (q r : Nat) (hq : q < o.length) :
    U64s (o.set q (Go.bits .or .u64 (rd o (q : Int)) (shr .u64 x (r : Int)))) ∧
    ∀ j, bitN (o.set q (Go.bits .or .u64 (rd o (q : Int)) (shr .u64 x (r : Int)))) j = (bitN o j || (decide (j / 64 = q) && x.toNat.testBit (r + j % 64))) := by
  have hs := shr_nat hx r
  have hor := or_w64 (rd_w64 ho (q : Int)) hs.1
  refine ⟨ho.set _ hor.1, fun j => ?_⟩
  rw [bitN_set hq]
  by_cases hj : j / 64 = q
  · rw [if_pos hj, hor.2, hs.2 _, bitN_div, hj]
    simp
  · rw [if_neg hj]; simp [hj]

/-- A word laid into a row from bit t on. -/
def putW (o : List Int) (t : Nat) (x : Int) : List Int :=
  if t % 64 = 0 ∨ ¬ t / 64 + 1 < o.length then o.set (t / 64) (Go.bits .or .u64 (rd o ((t / 64 : Nat) : Int)) (shl .u64 x ((t % 64 : Nat) : Int)))
  else (o.set (t / 64) (Go.bits .or .u64 (rd o ((t / 64 : Nat) : Int)) (shl .u64 x ((t % 64 : Nat) : Int)))).set (t / 64 + 1)
    (Go.bits .or .u64 (rd (o.set (t / 64) (Go.bits .or .u64 (rd o ((t / 64 : Nat) : Int)) (shl .u64 x ((t % 64 : Nat) : Int)))) ((t / 64 + 1 : Nat) : Int)) (shr .u64 x ((64 - t % 64 : Nat) : Int)))
theorem putW_len (o : List Int) (t : Nat) (x : Int) : (putW o t x).length = o.length := by unfold putW; split <;> simp
theorem putW_u64 {o : List Int} (ho : U64s o) (t : Nat) {x : Int} (hx : W64 x) (ht : t / 64 < o.length) : U64s (putW o t x) := by
  have h1 := or_lay ho hx (t / 64) (t % 64) ht (Nat.mod_lt _ (by decide))
  unfold putW
  split
  · exact h1.1
  · rename_i h
    exact (or_lay_high h1.1 hx (t / 64 + 1) (64 - t % 64) (by simp at h ⊢; exact h.2)).1
theorem lay_low (t j : Nat) (f : Nat → Bool) (h0 : j / 64 = t / 64) (h1 : t % 64 ≤ j % 64) : (decide (t ≤ j) && decide (j < t + 64) && f (j - t)) = f (j % 64 - t % 64) := by
  rw [decide_eq_true (show t ≤ j by omega), decide_eq_true (show j < t + 64 by omega), show j - t = j % 64 - t % 64 by omega]; simp
theorem lay_high (t j : Nat) (f : Nat → Bool) (h0 : j / 64 = t / 64 + 1) (h1 : j % 64 < t % 64) : (decide (t ≤ j) && decide (j < t + 64) && f (j - t)) = f (64 - t % 64 + j % 64) := by
  rw [decide_eq_true (show t ≤ j by omega), decide_eq_true (show j < t + 64 by omega), show j - t = 64 - t % 64 + j % 64 by omega]; simp
theorem lay_none (t j : Nat) (f : Nat → Bool) (h : ¬ (t ≤ j ∧ j < t + 64)) : (decide (t ≤ j) && decide (j < t + 64) && f (j - t)) = false := by
  rw [← Bool.decide_and, decide_eq_false h]; rfl
theorem putW_bit {o : List Int} (ho : U64s o) (t : Nat) {x : Int} (hx : W64 x) (ht : t / 64 < o.length) (j : Nat) (hj : j < 64 * o.length) :
    bitN (putW o t x) j = (bitN o j || (decide (t ≤ j) && decide (j < t + 64) && x.toNat.testBit (j - t))) := by
  have h1 := or_lay ho hx (t / 64) (t % 64) ht (Nat.mod_lt _ (by decide))
  unfold putW
  split
  · rename_i h
    rw [h1.2]
    congr 1
    by_cases c : j / 64 = t / 64
    · by_cases c2 : t % 64 ≤ j % 64
      · rw [lay_low t j (fun d => x.toNat.testBit d) c c2, decide_eq_true c, decide_eq_true c2]; simp
      · rw [lay_none t j (fun d => x.toNat.testBit d) (by omega), decide_eq_false c2]; simp
    · rw [lay_none t j (fun d => x.toNat.testBit d) (by rcases h with h | h <;> omega), decide_eq_false c]; simp
  · rename_i h
    have hq : t / 64 + 1 < o.length := by simp at h; exact h.2
    have h3 := or_lay_high h1.1 hx (t / 64 + 1) (64 - t % 64) (by simpa using hq)
    rw [h3.2, h1.2, Bool.or_assoc]
    congr 1
    by_cases c : j / 64 = t / 64
    · rw [decide_eq_false (show ¬ j / 64 = t / 64 + 1 by omega), decide_eq_true c]
      by_cases c2 : t % 64 ≤ j % 64
      · rw [lay_low t j (fun d => x.toNat.testBit d) c c2, decide_eq_true c2]; simp
      · rw [lay_none t j (fun d => x.toNat.testBit d) (by omega), decide_eq_false c2]; simp
    · rw [decide_eq_false c]
      by_cases c3 : j / 64 = t / 64 + 1
      · rw [decide_eq_true c3]
        by_cases c2 : j % 64 < t % 64
        · rw [lay_high t j (fun d => x.toNat.testBit d) c3 c2]; simp
        · rw [lay_none t j (fun d => x.toNat.testBit d) (by omega), testBit_w64 hx (j := 64 - t % 64 + j % 64) (by omega)]; simp
      · rw [lay_none t j (fun d => x.toNat.testBit d) (by omega), decide_eq_false c3]; simp

/-- 64 bits of a row from bit t on. -/
def wordAt (l : List Int) (t : Nat) : Int :=
  if t % 64 = 0 ∨ ¬ t / 64 + 1 < l.length then shr .u64 (rd l ((t / 64 : Nat) : Int)) ((t % 64 : Nat) : Int)
  else Go.bits .or .u64 (shr .u64 (rd l ((t / 64 : Nat) : Int)) ((t % 64 : Nat) : Int)) (shl .u64 (rd l ((t / 64 + 1 : Nat) : Int)) ((64 - t % 64 : Nat) : Int))
theorem wordAt_told {l : List Int} (h : U64s l) (t : Nat) : W64 (wordAt l t) ∧ ∀ d, d < 64 → (wordAt l t).toNat.testBit d = bitN l (t + d) := by
  have hx := rd_w64 h ((t / 64 : Nat) : Int)
  have hs := shr_nat hx (t % 64)
  have low : ∀ d, t % 64 + d < 64 → (rd l ((t / 64 : Nat) : Int)).toNat.testBit (t % 64 + d) = bitN l (t + d) := fun d hd => by
    rw [← bitN_word _ _ _ hd]; congr 1; omega
  unfold wordAt
  split
  · rename_i hc
    refine ⟨hs.1, fun d hd => ?_⟩
    rw [hs.2]
    by_cases c : t % 64 + d < 64
    · exact low d c
    · rw [testBit_w64 hx (by omega), bitN_out]
      rcases hc with hc | hc <;> omega
  · have hx2 := rd_w64 h ((t / 64 + 1 : Nat) : Int)
    have hs2 := shl_nat hx2 (64 - t % 64)
    have ho := or_w64 hs.1 hs2.1
    refine ⟨ho.1, fun d hd => ?_⟩
    rw [ho.2, hs.2, hs2.2 _ hd]
    by_cases c : t % 64 + d < 64
    · rw [low d c, decide_eq_false (show ¬ 64 - t % 64 ≤ d by omega)]; simp
    · rw [testBit_w64 hx (by omega), decide_eq_true (show 64 - t % 64 ≤ d by omega), ← bitN_word _ _ _ (by omega)]
      simp
      congr 1; omega

/-- The list of a row's bits, from the lowest on. -/
def bitsL (w : Nat) (l : List Int) : List Int := (List.range w).map fun i => bitI l i
theorem bitsL_len (w : Nat) (l : List Int) : (bitsL w l).length = w := by simp [bitsL]
theorem bitsL_get {w : Nat} {l : List Int} {i : Nat} (h : i < w) : (bitsL w l)[i]? = some (bitI l i) := by simp [bitsL, h]
theorem bitsL_rd {w : Nat} {l : List Int} {i : Int} (h0 : 0 ≤ i) (h : i < w) : rd (bitsL w l) i = bitI l i.toNat := by
  rw [rd_getD, List.getD_eq_getElem?_getD, bitsL_get (by omega)]; rfl
theorem bitI_01 (l : List Int) (i : Nat) : bitI l i = 0 ∨ bitI l i = 1 := by unfold bitI; split <;> simp
def Bits01 (z : List Int) : Prop := ∀ x ∈ z, x = 0 ∨ x = 1
theorem bitsL_01 (w : Nat) (l : List Int) : Bits01 (bitsL w l) := by
  intro x hx
  simp [bitsL] at hx
  obtain ⟨i, _, rfl⟩ := hx
  exact bitI_01 l i
theorem rd_01 {z : List Int} (h : Bits01 z) (i : Int) : rd z i = 0 ∨ rd z i = 1 := by
  rw [rd_getD, List.getD_eq_getElem?_getD]
  cases e : z[i.toNat]? with
  | none => simp
  | some x => exact h x (List.mem_of_getElem? e)

end Go.Proofs.Ytjjlcmfjmdfedaa.BitsLib
