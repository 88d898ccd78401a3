/- Rows of 64-bit words told bit by bit: what Go's and, or and shifts do to them, and when two of them are one. -/
import Derived.Test.YtonkicgdgpcneaaWMore
namespace Go.Proofs.Ytonkicgdgpcneaa.BitsLib
open Go Go.RowKit Go.Proofs.YtonkicgdgpcneaaW.PrintWords Go.Proofs.YtonkicgdgpcneaaW.PrintMore
set_option linter.unusedVariables false
set_option linter.unusedSimpArgs false

abbrev W64 (x : Int) : Prop := 0 ≤ x ∧ x < 18446744073709551616
def U64s (l : List Int) : Prop := ∀ x ∈ l, W64 x

theorem w64_nat {x : Int} (h : W64 x) : ∃ a : Nat, x = (a : Int) ∧ a < 2 ^ 64 := ⟨x.toNat, by omega, by omega⟩
theorem wrap64_id {x : Int} (h0 : -9223372036854775808 ≤ x) (h1 : x ≤ 9223372036854775807) : wrap64 x = x := by unfold wrap64; omega
theorem wrap_u64 (x : Int) : IntKind.u64.wrap x = x % 18446744073709551616 := by simp [IntKind.wrap, IntKind.bits, IntKind.signed]
theorem or_u64 (a b : Nat) (ha : a < 2 ^ 64) (hb : b < 2 ^ 64) : Go.bits .or .u64 a b = ((a ||| b : Nat) : Int) := by
  have h1 : a % 2 ^ IntKind.u64.bits = a := Nat.mod_eq_of_lt ha
  have h2 : b % 2 ^ IntKind.u64.bits = b := Nat.mod_eq_of_lt hb
  have h3 : a ||| b < 2 ^ 64 := Nat.or_lt_two_pow ha hb
  simp only [Go.bits, BitVec.ofInt_natCast, BitVec.toNat_or, BitVec.toNat_ofNat, h1, h2]
  rw [wrap_u64]
  omega
/-- The bit i of a row of words. -/
def bitN (l : List Int) (i : Nat) : Bool := (l.getD (i / 64) 0).toNat.testBit (i % 64)
theorem testBit_ext {a b : Nat} (ha : a < 2 ^ 64) (hb : b < 2 ^ 64) (h : ∀ j, j < 64 → a.testBit j = b.testBit j) : a = b := by
  apply Nat.eq_of_testBit_eq
  intro j
  by_cases hj : j < 64
  · exact h j hj
  · have hp : 2 ^ 64 ≤ 2 ^ j := Nat.pow_le_pow_right (by decide) (by omega)
    rw [Nat.testBit_lt_two_pow (Nat.lt_of_lt_of_le ha hp), Nat.testBit_lt_two_pow (Nat.lt_of_lt_of_le hb hp)]

theorem words_ext {l m : List Int} (hl : U64s l) (hm : U64s m) (hlen : l.length = m.length) (h : ∀ i, i < 64 * l.length → bitN l i = bitN m i) : l = m := by
  apply List.ext_getElem? 
  intro k
  by_cases hk : k < l.length
  · rw [List.getElem?_eq_getElem hk, List.getElem?_eq_getElem (by omega)]
    congr 1
    obtain ⟨a, ha, hal⟩ := w64_nat (hl _ (List.getElem_mem hk))
    have hk' : k < m.length := by omega
    obtain ⟨b, hb, hbl⟩ := w64_nat (hm _ (List.getElem_mem hk'))
    rw [ha, hb]
    congr 1
    apply testBit_ext hal hbl
    intro j hj
    have := h (64 * k + j) (by omega)
    unfold bitN at this
    have e1 : (64 * k + j) / 64 = k := by omega
    have e2 : (64 * k + j) % 64 = j := by omega
    rw [e1, e2, List.getD_eq_getElem?_getD, List.getD_eq_getElem?_getD, List.getElem?_eq_getElem hk, List.getElem?_eq_getElem (by omega)] at this
    simp only [Option.getD_some, ha, hb, Int.toNat_natCast] at this
    exact this
  · rw [List.getElem?_eq_none (by omega), List.getElem?_eq_none (by omega)]

/-- A right row of bits. -/
structure Right (w : Int) (l : List Int) : Prop where
  low : 1 ≤ w
  high : w ≤ 4096
  len : (l.length : Int) = (w + 63) / 64
  words : U64s l
  top : ∀ i : Nat, w ≤ i → bitN l i = false

theorem Right.ext {w : Int} {l m : List Int} (h : Right w l) (k : Right w m) (e : ∀ i : Nat, (i : Int) < w → bitN l i = bitN m i) : l = m :=
  words_ext h.words k.words (by have := h.len; have := k.len; omega) fun i hi => by
    by_cases hw : (i : Int) < w
    · exact e i hw
    · rw [h.top i (by omega), k.top i (by omega)]

theorem U64s.set {l : List Int} (h : U64s l) (i : Nat) {x : Int} (hx : W64 x) : U64s (l.set i x) := by
  intro y hy
  rcases List.mem_or_eq_of_mem_set hy with h1 | rfl
  · exact h y h1
  · exact hx
theorem U64s.replicate (n : Nat) : U64s (List.replicate n 0) := by
  intro y hy
  rw [(List.mem_replicate.1 hy).2]
  exact ⟨by decide, by decide⟩
theorem or_w64 {x y : Int} (hx : W64 x) (hy : W64 y) : W64 (Go.bits .or .u64 x y) ∧ ∀ j, (Go.bits .or .u64 x y).toNat.testBit j = (x.toNat.testBit j || y.toNat.testBit j) := by
  obtain ⟨a, rfl, ha⟩ := w64_nat hx
  obtain ⟨b, rfl, hb⟩ := w64_nat hy
  rw [or_u64 a b ha hb]
  have := Nat.or_lt_two_pow ha hb
  exact ⟨by unfold W64; omega, fun j => by simp⟩
end Go.Proofs.Ytonkicgdgpcneaa.BitsLib
