/- Rows of 64-bit words told bit by bit: what Go's and, or and shifts do to them, and when two of them are one. -/
import Derived.Test.YtjjlcmfjmdfedaaWMore
namespace Go.Proofs.Ytjjlcmfjmdfedaa.BitsLib
open Go Go.RowKit Go.Proofs.YtjjlcmfjmdfedaaW.PrintWords Go.Proofs.YtjjlcmfjmdfedaaW.PrintMore
set_option linter.unusedVariables false
set_option linter.unusedSimpArgs false

abbrev W64 (x : Int) : Prop := 0 ≤ x ∧ x < 18446744073709551616
def U64s (l : List Int) : Prop := ∀ x ∈ l, W64 x

theorem w64_nat {x : Int} (h : W64 x) : ∃ a : Nat, x = (a : Int) ∧ a < 2 ^ 64 := ⟨x.toNat, by omega, by omega⟩
theorem wrap64_id {x : Int} (h0 : -9223372036854775808 ≤ x) (h1 : x ≤ 9223372036854775807) : wrap64 x = x := by unfold wrap64; omega
theorem wrap_u64 (x : Int) : IntKind.u64.wrap x = x % 18446744073709551616 := by simp [IntKind.wrap, IntKind.bits, IntKind.signed]
theorem or_u64 (a b : Nat) (ha : a < 2 ^ 64) (hb : b < 2 ^ 64) : Go.bits .or .u64 a b = ((a ||| b : Nat) : Int) := by
  have h1 : a % 2 ^ IntKind.u64.bits = a := Nat.mod_eq_of_lt ha
  have h2 : b % 2 ^ IntKind.u64.bits = b := Nat.mod_eq_of_lt hb
  have h3 : a ||| b < 2 ^ 64 := Nat.or_lt_two_pow ha hb
  simp only [Go.bits, BitVec.ofInt_natCast, BitVec.toNat_or, BitVec.toNat_ofNat, h1, h2]
  rw [wrap_u64]
  omega
/-- The bit i of a row of words. -/
def bitN (l : List Int) (i : Nat) : Bool := (l.getD (i / 64) 0).toNat.testBit (i % 64)
/-- A right row of bits. -/
structure Right (w : Int) (l : List Int) : Prop where
  low : 1 ≤ w
  high : w ≤ 4096
  len : (l.length : Int) = (w + 63) / 64
  words : U64s l
  top : ∀ i : Nat, w ≤ i → bitN l i = false

theorem U64s.set {l : List Int} (h : U64s l) (i : Nat) {x : Int} (hx : W64 x) : U64s (l.set i x) := by
  intro y hy
  rcases List.mem_or_eq_of_mem_set hy with h1 | rfl
  · exact h y h1
  · exact hx
theorem U64s.replicate (n : Nat) : U64s (List.replicate n 0) := by
  intro y hy
  rw [(List.mem_replicate.1 hy).2]
  exact ⟨by decide, by decide⟩
theorem or_w64 {x y : Int} (hx : W64 x) (hy : W64 y) : W64 (Go.bits .or .u64 x y) ∧ ∀ j, (Go.bits .or .u64 x y).toNat.testBit j = (x.toNat.testBit j || y.toNat.testBit j) := by
  obtain ⟨a, rfl, ha⟩ := w64_nat hx
  obtain ⟨b, rfl, hb⟩ := w64_nat hy
  rw [or_u64 a b ha hb]
  have := Nat.or_lt_two_pow ha hb
  exact ⟨by unfold W64; omega, fun j => by simp⟩
end Go.Proofs.Ytjjlcmfjmdfedaa.BitsLib
