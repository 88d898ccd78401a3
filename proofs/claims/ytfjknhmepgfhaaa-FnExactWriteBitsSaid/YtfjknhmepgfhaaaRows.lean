/-
  No cell of these rows narrows 'for every input' (looked for: loops, veiled, ifaces, maps, wideKeys, modest, calm, conditions, laid).
  DERIVED. THE GIVEN ROWS OF THIS SEAT. 11 by the template 'for every input the law returns true; each argument reads behind the call as it read before'; 0 by the template 'total and deterministic' (their statements: YtfjknhmepgfhaaaTotals.lean).
  GIVEN WITH THE SEED: the statements are not yours to turn. If you find one false, say at which input.
  Laid BY PROGRAM, IN A SANDBOX (cutbox-rows.mjs): the forced cells as the released guide's own fill.sh prints them over the translation 7ce4e2848f67ea31… (all of the seat's roots in one cut). By AI agents, Wed Nov 11 2026. No macro, syntax, notation, axiom, sorry.
-/
import Derived.Test.YtfjknhmepgfhaaaChecked
import GoSem.Claim
import GoSem.ClaimJoined
import GoSem.ClaimMapViews
import Derived.JoinedTies
import Derived.KernelRfl
namespace Go.Proofs.Ytfjknhmepgfhaaa
/- THE CELL 'sum', in the pinned program and in every row, IS THE sha256 OF THE DUMP (.gsa) THAT YtfjknhmepgfhaaaProg.lean LOADS. Nothing in Lean hashes anything: it is a label: what it is worth is what the hold of that sum in a sandbox is worth. -/
noncomputable def Try.pinned : Pinned := { name := "ytfjknhmepgfhaaa", sum := "7ce4e2848f67ea31c0db3f3a81eb875e2b5f1b6aeeb4f6b915ec3aa657ddbb98", checked := Try.checked }
namespace Rows
def none {H : Type} : Left H := { results := [], args := [] }

/-- 'laws.FnExactConstants': WHATEVER THE INPUT: true; the input reads as it did. -/
def fnExactConstantsSpec : ChangeSpec := { name := "fnExactConstants", fn := fun _ => fun
  | [] => { results := [.lit (.bool true)], args := [] }
  | _ => none }
def fnExactConstantsRow : OpenClaim := { program := "ytfjknhmepgfhaaa", sum := "7ce4e2848f67ea31c0db3f3a81eb875e2b5f1b6aeeb4f6b915ec3aa657ddbb98", func := "loop.example/g00081/laws.FnExactConstants", spec := "fnExactConstants", apart := false }
def FnExactConstantsSaid : Prop := fnExactConstantsRow.holds Try.pinned (OpenSpec.ofChange fnExactConstantsSpec)

/-- ITS FALSE NEIGHBOUR: 'it returns false'. Refute it at one input. -/
def fnExactConstantsWrong : ChangeSpec := { name := "fnExactConstants", fn := fun _ => fun
  | [] => { results := [.lit (.bool false)], args := [] }
  | _ => none }
def FnExactConstantsWrongFalsely : Prop := fnExactConstantsRow.holds Try.pinned (OpenSpec.ofChange fnExactConstantsWrong)

/-- 'laws.FnExactBitsOk': WHATEVER THE INPUT: true; the input reads as it did. -/
def fnExactBitsOkSpec : ChangeSpec := { name := "fnExactBitsOk", fn := fun _ => fun
  | [d] => { results := [.lit (.bool true)], args := [d] }
  | _ => none }
def fnExactBitsOkRow : OpenClaim := { program := "ytfjknhmepgfhaaa", sum := "7ce4e2848f67ea31c0db3f3a81eb875e2b5f1b6aeeb4f6b915ec3aa657ddbb98", func := "loop.example/g00081/laws.FnExactBitsOk", spec := "fnExactBitsOk", apart := false }
def FnExactBitsOkSaid : Prop := fnExactBitsOkRow.holds Try.pinned (OpenSpec.ofChange fnExactBitsOkSpec)

/-- ITS FALSE NEIGHBOUR: 'it returns false'. Refute it at one input. -/
def fnExactBitsOkWrong : ChangeSpec := { name := "fnExactBitsOk", fn := fun _ => fun
  | [d] => { results := [.lit (.bool false)], args := [d] }
  | _ => none }
def FnExactBitsOkWrongFalsely : Prop := fnExactBitsOkRow.holds Try.pinned (OpenSpec.ofChange fnExactBitsOkWrong)

/-- 'laws.FnExactBitsOf': WHATEVER THE INPUT: true; the input reads as it did. -/
def fnExactBitsOfSpec : ChangeSpec := { name := "fnExactBitsOf", fn := fun _ => fun
  | [d1, d2] => { results := [.lit (.bool true)], args := [d1, d2] }
  | _ => none }
def fnExactBitsOfRow : OpenClaim := { program := "ytfjknhmepgfhaaa", sum := "7ce4e2848f67ea31c0db3f3a81eb875e2b5f1b6aeeb4f6b915ec3aa657ddbb98", func := "loop.example/g00081/laws.FnExactBitsOf", spec := "fnExactBitsOf", apart := false }
def FnExactBitsOfSaid : Prop := fnExactBitsOfRow.holds Try.pinned (OpenSpec.ofChange fnExactBitsOfSpec)

/-- ITS FALSE NEIGHBOUR: 'it returns false'. Refute it at one input. -/
def fnExactBitsOfWrong : ChangeSpec := { name := "fnExactBitsOf", fn := fun _ => fun
  | [d1, d2] => { results := [.lit (.bool false)], args := [d1, d2] }
  | _ => none }
def FnExactBitsOfWrongFalsely : Prop := fnExactBitsOfRow.holds Try.pinned (OpenSpec.ofChange fnExactBitsOfWrong)

/-- 'laws.FnExactCompareBits': WHATEVER THE INPUT: true; the input reads as it did. -/
def fnExactCompareBitsSpec : ChangeSpec := { name := "fnExactCompareBits", fn := fun _ => fun
  | [d1, d2] => { results := [.lit (.bool true)], args := [d1, d2] }
  | _ => none }
def fnExactCompareBitsRow : OpenClaim := { program := "ytfjknhmepgfhaaa", sum := "7ce4e2848f67ea31c0db3f3a81eb875e2b5f1b6aeeb4f6b915ec3aa657ddbb98", func := "loop.example/g00081/laws.FnExactCompareBits", spec := "fnExactCompareBits", apart := false }
def FnExactCompareBitsSaid : Prop := fnExactCompareBitsRow.holds Try.pinned (OpenSpec.ofChange fnExactCompareBitsSpec)

/-- ITS FALSE NEIGHBOUR: 'it returns false'. Refute it at one input. -/
def fnExactCompareBitsWrong : ChangeSpec := { name := "fnExactCompareBits", fn := fun _ => fun
  | [d1, d2] => { results := [.lit (.bool false)], args := [d1, d2] }
  | _ => none }
def FnExactCompareBitsWrongFalsely : Prop := fnExactCompareBitsRow.holds Try.pinned (OpenSpec.ofChange fnExactCompareBitsWrong)

/-- 'laws.FnExactWriteBits': WHATEVER THE INPUT: true; the input reads as it did. -/
def fnExactWriteBitsSpec : ChangeSpec := { name := "fnExactWriteBits", fn := fun _ => fun
  | [d] => { results := [.lit (.bool true)], args := [d] }
  | _ => none }
def fnExactWriteBitsRow : OpenClaim := { program := "ytfjknhmepgfhaaa", sum := "7ce4e2848f67ea31c0db3f3a81eb875e2b5f1b6aeeb4f6b915ec3aa657ddbb98", func := "loop.example/g00081/laws.FnExactWriteBits", spec := "fnExactWriteBits", apart := false }
def FnExactWriteBitsSaid : Prop := fnExactWriteBitsRow.holds Try.pinned (OpenSpec.ofChange fnExactWriteBitsSpec)

/-- ITS FALSE NEIGHBOUR: 'it returns false'. Refute it at one input. -/
def fnExactWriteBitsWrong : ChangeSpec := { name := "fnExactWriteBits", fn := fun _ => fun
  | [d] => { results := [.lit (.bool false)], args := [d] }
  | _ => none }
def FnExactWriteBitsWrongFalsely : Prop := fnExactWriteBitsRow.holds Try.pinned (OpenSpec.ofChange fnExactWriteBitsWrong)

/-- 'laws.FnExactCountOnes': WHATEVER THE INPUT: true; the input reads as it did. -/
def fnExactCountOnesSpec : ChangeSpec := { name := "fnExactCountOnes", fn := fun _ => fun
  | [d] => { results := [.lit (.bool true)], args := [d] }
  | _ => none }
def fnExactCountOnesRow : OpenClaim := { program := "ytfjknhmepgfhaaa", sum := "7ce4e2848f67ea31c0db3f3a81eb875e2b5f1b6aeeb4f6b915ec3aa657ddbb98", func := "loop.example/g00081/laws.FnExactCountOnes", spec := "fnExactCountOnes", apart := false }
def FnExactCountOnesSaid : Prop := fnExactCountOnesRow.holds Try.pinned (OpenSpec.ofChange fnExactCountOnesSpec)

/-- ITS FALSE NEIGHBOUR: 'it returns false'. Refute it at one input. -/
def fnExactCountOnesWrong : ChangeSpec := { name := "fnExactCountOnes", fn := fun _ => fun
  | [d] => { results := [.lit (.bool false)], args := [d] }
  | _ => none }
def FnExactCountOnesWrongFalsely : Prop := fnExactCountOnesRow.holds Try.pinned (OpenSpec.ofChange fnExactCountOnesWrong)

/-- 'laws.FnExactDeclsOk': WHATEVER THE INPUT: true; the input reads as it did. -/
def fnExactDeclsOkSpec : ChangeSpec := { name := "fnExactDeclsOk", fn := fun _ => fun
  | [d] => { results := [.lit (.bool true)], args := [d] }
  | _ => none }
def fnExactDeclsOkRow : OpenClaim := { program := "ytfjknhmepgfhaaa", sum := "7ce4e2848f67ea31c0db3f3a81eb875e2b5f1b6aeeb4f6b915ec3aa657ddbb98", func := "loop.example/g00081/laws.FnExactDeclsOk", spec := "fnExactDeclsOk", unfollowed := true, recurses := true, apart := false }
def FnExactDeclsOkSaid : Prop := fnExactDeclsOkRow.holds Try.pinned (OpenSpec.ofChange fnExactDeclsOkSpec)

/-- ITS FALSE NEIGHBOUR: 'it returns false'. Refute it at one input. -/
def fnExactDeclsOkWrong : ChangeSpec := { name := "fnExactDeclsOk", fn := fun _ => fun
  | [d] => { results := [.lit (.bool false)], args := [d] }
  | _ => none }
def FnExactDeclsOkWrongFalsely : Prop := fnExactDeclsOkRow.holds Try.pinned (OpenSpec.ofChange fnExactDeclsOkWrong)

/-- 'laws.FnExactForestOk': WHATEVER THE INPUT: true; the input reads as it did. -/
def fnExactForestOkSpec : ChangeSpec := { name := "fnExactForestOk", fn := fun _ => fun
  | [d] => { results := [.lit (.bool true)], args := [d] }
  | _ => none }
def fnExactForestOkRow : OpenClaim := { program := "ytfjknhmepgfhaaa", sum := "7ce4e2848f67ea31c0db3f3a81eb875e2b5f1b6aeeb4f6b915ec3aa657ddbb98", func := "loop.example/g00081/laws.FnExactForestOk", spec := "fnExactForestOk", apart := false }
def FnExactForestOkSaid : Prop := fnExactForestOkRow.holds Try.pinned (OpenSpec.ofChange fnExactForestOkSpec)

/-- ITS FALSE NEIGHBOUR: 'it returns false'. Refute it at one input. -/
def fnExactForestOkWrong : ChangeSpec := { name := "fnExactForestOk", fn := fun _ => fun
  | [d] => { results := [.lit (.bool false)], args := [d] }
  | _ => none }
def FnExactForestOkWrongFalsely : Prop := fnExactForestOkRow.holds Try.pinned (OpenSpec.ofChange fnExactForestOkWrong)

/-- 'laws.FnExactReadBits': WHATEVER THE INPUT: true; the input reads as it did. -/
def fnExactReadBitsSpec : ChangeSpec := { name := "fnExactReadBits", fn := fun _ => fun
  | [d] => { results := [.lit (.bool true)], args := [d] }
  | _ => none }
def fnExactReadBitsRow : OpenClaim := { program := "ytfjknhmepgfhaaa", sum := "7ce4e2848f67ea31c0db3f3a81eb875e2b5f1b6aeeb4f6b915ec3aa657ddbb98", func := "loop.example/g00081/laws.FnExactReadBits", spec := "fnExactReadBits", inPlace := ["internal/bytealg.IndexByteString"], apart := false }
def FnExactReadBitsSaid : Prop := fnExactReadBitsRow.holds Try.pinned (OpenSpec.ofChange fnExactReadBitsSpec)

/-- ITS FALSE NEIGHBOUR: 'it returns false'. Refute it at one input. -/
def fnExactReadBitsWrong : ChangeSpec := { name := "fnExactReadBits", fn := fun _ => fun
  | [d] => { results := [.lit (.bool false)], args := [d] }
  | _ => none }
def FnExactReadBitsWrongFalsely : Prop := fnExactReadBitsRow.holds Try.pinned (OpenSpec.ofChange fnExactReadBitsWrong)

/-- 'laws.FnExactCnfOk': WHATEVER THE INPUT: true; the input reads as it did. -/
def fnExactCnfOkSpec : ChangeSpec := { name := "fnExactCnfOk", fn := fun _ => fun
  | [d] => { results := [.lit (.bool true)], args := [d] }
  | _ => none }
def fnExactCnfOkRow : OpenClaim := { program := "ytfjknhmepgfhaaa", sum := "7ce4e2848f67ea31c0db3f3a81eb875e2b5f1b6aeeb4f6b915ec3aa657ddbb98", func := "loop.example/g00081/laws.FnExactCnfOk", spec := "fnExactCnfOk", unfollowed := true, recurses := true, apart := false }
def FnExactCnfOkSaid : Prop := fnExactCnfOkRow.holds Try.pinned (OpenSpec.ofChange fnExactCnfOkSpec)

/-- ITS FALSE NEIGHBOUR: 'it returns false'. Refute it at one input. -/
def fnExactCnfOkWrong : ChangeSpec := { name := "fnExactCnfOk", fn := fun _ => fun
  | [d] => { results := [.lit (.bool false)], args := [d] }
  | _ => none }
def FnExactCnfOkWrongFalsely : Prop := fnExactCnfOkRow.holds Try.pinned (OpenSpec.ofChange fnExactCnfOkWrong)

/-- 'laws.FnExactRoot': WHATEVER THE INPUT: true; the input reads as it did. -/
def fnExactRootSpec : ChangeSpec := { name := "fnExactRoot", fn := fun _ => fun
  | [d1, d2] => { results := [.lit (.bool true)], args := [d1, d2] }
  | _ => none }
def fnExactRootRow : OpenClaim := { program := "ytfjknhmepgfhaaa", sum := "7ce4e2848f67ea31c0db3f3a81eb875e2b5f1b6aeeb4f6b915ec3aa657ddbb98", func := "loop.example/g00081/laws.FnExactRoot", spec := "fnExactRoot", apart := false }
def FnExactRootSaid : Prop := fnExactRootRow.holds Try.pinned (OpenSpec.ofChange fnExactRootSpec)

/-- ITS FALSE NEIGHBOUR: 'it returns false'. Refute it at one input. -/
def fnExactRootWrong : ChangeSpec := { name := "fnExactRoot", fn := fun _ => fun
  | [d1, d2] => { results := [.lit (.bool false)], args := [d1, d2] }
  | _ => none }
def FnExactRootWrongFalsely : Prop := fnExactRootRow.holds Try.pinned (OpenSpec.ofChange fnExactRootWrong)

/- THE SECOND FORM. 'bulk': how many values and letters a reading holds, each counted each time it is reached (what is shared counts as often as it is met; a slice's spare places count too). A statement '..UptoSaid' is the law's where the arguments, and the package variables that the reading takes, are together of bulk at most 1048576: NARROWER than '..Said'. Prove '..Said' where nothing that the law and all that it calls make is longer than what came in: it says more and counts as full. Else prove '..UptoSaid'. A law counts once. -/
mutual
def uptoBulk {H : Type} : DataW H → Nat
  | .lit (.string bytes) => bytes.length + 1
  | .lit _ => 1
  | .nil => 1
  | .ptr d => uptoBulk d + 1
  | .slice elems spare => uptoBulkAll elems + uptoBulkAll spare + 1
  | .agg parts => uptoBulkAll parts + 1
  | .iface _ d => uptoBulk d + 1
  | .map entries => uptoBulkEntries entries + 1
  | .held _ => 1
def uptoBulkAll {H : Type} : List (DataW H) → Nat
  | [] => 0
  | d :: r => uptoBulk d + uptoBulkAll r
def uptoBulkEntries {H : Type} : List (Lit × DataW H) → Nat
  | [] => 0
  | x :: r => uptoBulkEntry x + uptoBulkEntries r
def uptoBulkEntry {H : Type} : Lit × DataW H → Nat
  | (.string bytes, d) => bytes.length + uptoBulk d + 1
  | (_, d) => uptoBulk d + 1
 end
def uptoSmall : (H : Type) → List (DataW H) → Bool := fun _ ds => decide (uptoBulkAll ds ≤ 1048576)
def OpenSpec.upto (s : _root_.Go.ChangeSpec) : _root_.Go.OpenSpec := { _root_.Go.OpenSpec.ofChange s with cond := some uptoSmall }

/-- 'laws.FnExactConstants', WHERE WHAT IT READS IS OF BULK AT MOST 1048576: true; the input reads as it did. -/
def fnExactConstantsUptoRow : OpenClaim := { program := "ytfjknhmepgfhaaa", sum := "7ce4e2848f67ea31c0db3f3a81eb875e2b5f1b6aeeb4f6b915ec3aa657ddbb98", func := "loop.example/g00081/laws.FnExactConstants", spec := "fnExactConstants", apart := false, narrowed := true }
def FnExactConstantsUptoSaid : Prop := fnExactConstantsUptoRow.holds Try.pinned (OpenSpec.upto fnExactConstantsSpec)

/-- 'laws.FnExactBitsOk', WHERE WHAT IT READS IS OF BULK AT MOST 1048576: true; the input reads as it did. -/
def fnExactBitsOkUptoRow : OpenClaim := { program := "ytfjknhmepgfhaaa", sum := "7ce4e2848f67ea31c0db3f3a81eb875e2b5f1b6aeeb4f6b915ec3aa657ddbb98", func := "loop.example/g00081/laws.FnExactBitsOk", spec := "fnExactBitsOk", apart := false, narrowed := true }
def FnExactBitsOkUptoSaid : Prop := fnExactBitsOkUptoRow.holds Try.pinned (OpenSpec.upto fnExactBitsOkSpec)

/-- 'laws.FnExactBitsOf', WHERE WHAT IT READS IS OF BULK AT MOST 1048576: true; the input reads as it did. -/
def fnExactBitsOfUptoRow : OpenClaim := { program := "ytfjknhmepgfhaaa", sum := "7ce4e2848f67ea31c0db3f3a81eb875e2b5f1b6aeeb4f6b915ec3aa657ddbb98", func := "loop.example/g00081/laws.FnExactBitsOf", spec := "fnExactBitsOf", apart := false, narrowed := true }
def FnExactBitsOfUptoSaid : Prop := fnExactBitsOfUptoRow.holds Try.pinned (OpenSpec.upto fnExactBitsOfSpec)

/-- 'laws.FnExactCompareBits', WHERE WHAT IT READS IS OF BULK AT MOST 1048576: true; the input reads as it did. -/
def fnExactCompareBitsUptoRow : OpenClaim := { program := "ytfjknhmepgfhaaa", sum := "7ce4e2848f67ea31c0db3f3a81eb875e2b5f1b6aeeb4f6b915ec3aa657ddbb98", func := "loop.example/g00081/laws.FnExactCompareBits", spec := "fnExactCompareBits", apart := false, narrowed := true }
def FnExactCompareBitsUptoSaid : Prop := fnExactCompareBitsUptoRow.holds Try.pinned (OpenSpec.upto fnExactCompareBitsSpec)

/-- 'laws.FnExactWriteBits', WHERE WHAT IT READS IS OF BULK AT MOST 1048576: true; the input reads as it did. -/
def fnExactWriteBitsUptoRow : OpenClaim := { program := "ytfjknhmepgfhaaa", sum := "7ce4e2848f67ea31c0db3f3a81eb875e2b5f1b6aeeb4f6b915ec3aa657ddbb98", func := "loop.example/g00081/laws.FnExactWriteBits", spec := "fnExactWriteBits", apart := false, narrowed := true }
def FnExactWriteBitsUptoSaid : Prop := fnExactWriteBitsUptoRow.holds Try.pinned (OpenSpec.upto fnExactWriteBitsSpec)

/-- 'laws.FnExactCountOnes', WHERE WHAT IT READS IS OF BULK AT MOST 1048576: true; the input reads as it did. -/
def fnExactCountOnesUptoRow : OpenClaim := { program := "ytfjknhmepgfhaaa", sum := "7ce4e2848f67ea31c0db3f3a81eb875e2b5f1b6aeeb4f6b915ec3aa657ddbb98", func := "loop.example/g00081/laws.FnExactCountOnes", spec := "fnExactCountOnes", apart := false, narrowed := true }
def FnExactCountOnesUptoSaid : Prop := fnExactCountOnesUptoRow.holds Try.pinned (OpenSpec.upto fnExactCountOnesSpec)

/-- 'laws.FnExactDeclsOk', WHERE WHAT IT READS IS OF BULK AT MOST 1048576: true; the input reads as it did. -/
def fnExactDeclsOkUptoRow : OpenClaim := { program := "ytfjknhmepgfhaaa", sum := "7ce4e2848f67ea31c0db3f3a81eb875e2b5f1b6aeeb4f6b915ec3aa657ddbb98", func := "loop.example/g00081/laws.FnExactDeclsOk", spec := "fnExactDeclsOk", unfollowed := true, recurses := true, apart := false, narrowed := true }
def FnExactDeclsOkUptoSaid : Prop := fnExactDeclsOkUptoRow.holds Try.pinned (OpenSpec.upto fnExactDeclsOkSpec)

/-- 'laws.FnExactForestOk', WHERE WHAT IT READS IS OF BULK AT MOST 1048576: true; the input reads as it did. -/
def fnExactForestOkUptoRow : OpenClaim := { program := "ytfjknhmepgfhaaa", sum := "7ce4e2848f67ea31c0db3f3a81eb875e2b5f1b6aeeb4f6b915ec3aa657ddbb98", func := "loop.example/g00081/laws.FnExactForestOk", spec := "fnExactForestOk", apart := false, narrowed := true }
def FnExactForestOkUptoSaid : Prop := fnExactForestOkUptoRow.holds Try.pinned (OpenSpec.upto fnExactForestOkSpec)

/-- 'laws.FnExactReadBits', WHERE WHAT IT READS IS OF BULK AT MOST 1048576: true; the input reads as it did. -/
def fnExactReadBitsUptoRow : OpenClaim := { program := "ytfjknhmepgfhaaa", sum := "7ce4e2848f67ea31c0db3f3a81eb875e2b5f1b6aeeb4f6b915ec3aa657ddbb98", func := "loop.example/g00081/laws.FnExactReadBits", spec := "fnExactReadBits", inPlace := ["internal/bytealg.IndexByteString"], apart := false, narrowed := true }
def FnExactReadBitsUptoSaid : Prop := fnExactReadBitsUptoRow.holds Try.pinned (OpenSpec.upto fnExactReadBitsSpec)

/-- 'laws.FnExactCnfOk', WHERE WHAT IT READS IS OF BULK AT MOST 1048576: true; the input reads as it did. -/
def fnExactCnfOkUptoRow : OpenClaim := { program := "ytfjknhmepgfhaaa", sum := "7ce4e2848f67ea31c0db3f3a81eb875e2b5f1b6aeeb4f6b915ec3aa657ddbb98", func := "loop.example/g00081/laws.FnExactCnfOk", spec := "fnExactCnfOk", unfollowed := true, recurses := true, apart := false, narrowed := true }
def FnExactCnfOkUptoSaid : Prop := fnExactCnfOkUptoRow.holds Try.pinned (OpenSpec.upto fnExactCnfOkSpec)

/-- 'laws.FnExactRoot', WHERE WHAT IT READS IS OF BULK AT MOST 1048576: true; the input reads as it did. -/
def fnExactRootUptoRow : OpenClaim := { program := "ytfjknhmepgfhaaa", sum := "7ce4e2848f67ea31c0db3f3a81eb875e2b5f1b6aeeb4f6b915ec3aa657ddbb98", func := "loop.example/g00081/laws.FnExactRoot", spec := "fnExactRoot", apart := false, narrowed := true }
def FnExactRootUptoSaid : Prop := fnExactRootUptoRow.holds Try.pinned (OpenSpec.upto fnExactRootSpec)

end Rows
end Go.Proofs.Ytfjknhmepgfhaaa
