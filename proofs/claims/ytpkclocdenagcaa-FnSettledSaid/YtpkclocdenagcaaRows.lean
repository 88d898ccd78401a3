/-
  No cell of these rows narrows 'for every input' (looked for: loops, veiled, ifaces, maps, wideKeys, modest, calm, conditions, laid).
  DERIVED. THE GIVEN ROWS OF THIS SEAT. 5 by the template 'for every input the law returns true; each argument reads behind the call as it read before'; 0 by the template 'total and deterministic' (their statements: YtpkclocdenagcaaTotals.lean).
  GIVEN WITH THE SEED: the statements are not yours to turn. If you find one false, say at which input.
  Laid BY PROGRAM, IN A SANDBOX (cutbox-rows.mjs): the forced cells as the released guide's own fill.sh prints them over the translation b0138363a605f101… (all of the seat's roots in one cut). By AI agents, Wed Nov 11 2026. No macro, syntax, notation, axiom, sorry.
-/
import Derived.Test.YtpkclocdenagcaaChecked
import GoSem.Claim
import GoSem.ClaimJoined
import GoSem.ClaimMapViews
import Derived.JoinedTies
import Derived.KernelRfl
namespace Go.Proofs.Ytpkclocdenagcaa
/- THE CELL 'sum', in the pinned program and in every row, IS THE sha256 OF THE DUMP (.gsa) THAT YtpkclocdenagcaaProg.lean LOADS. Nothing in Lean hashes anything: it is a label: what it is worth is what the hold of that sum in a sandbox is worth. -/
noncomputable def Try.pinned : Pinned := { name := "ytpkclocdenagcaa", sum := "b0138363a605f1011b191a25800cfc2ac6d5f156bc05e634b8a37d8a747febf7", checked := Try.checked }
namespace Rows
def none {H : Type} : Left H := { results := [], args := [] }

/-- 'laws.FnExactReadBits': WHATEVER THE INPUT: true; the input reads as it did. -/
def fnExactReadBitsSpec : ChangeSpec := { name := "fnExactReadBits", fn := fun _ => fun
  | [d] => { results := [.lit (.bool true)], args := [d] }
  | _ => none }
def fnExactReadBitsRow : OpenClaim := { program := "ytpkclocdenagcaa", sum := "b0138363a605f1011b191a25800cfc2ac6d5f156bc05e634b8a37d8a747febf7", func := "loop.example/g00081/laws.FnExactReadBits", spec := "fnExactReadBits", inPlace := ["internal/bytealg.IndexByteString"], apart := false }
def FnExactReadBitsSaid : Prop := fnExactReadBitsRow.holds Try.pinned (OpenSpec.ofChange fnExactReadBitsSpec)

/-- ITS FALSE NEIGHBOUR: 'it returns false'. Refute it at one input. -/
def fnExactReadBitsWrong : ChangeSpec := { name := "fnExactReadBits", fn := fun _ => fun
  | [d] => { results := [.lit (.bool false)], args := [d] }
  | _ => none }
def FnExactReadBitsWrongFalsely : Prop := fnExactReadBitsRow.holds Try.pinned (OpenSpec.ofChange fnExactReadBitsWrong)

/-- 'laws.FnExactUnit': WHATEVER THE INPUT: true; the input reads as it did. -/
def fnExactUnitSpec : ChangeSpec := { name := "fnExactUnit", fn := fun _ => fun
  | [d1, d2] => { results := [.lit (.bool true)], args := [d1, d2] }
  | _ => none }
def fnExactUnitRow : OpenClaim := { program := "ytpkclocdenagcaa", sum := "b0138363a605f1011b191a25800cfc2ac6d5f156bc05e634b8a37d8a747febf7", func := "loop.example/g00081/laws.FnExactUnit", spec := "fnExactUnit", unfollowed := true, recurses := true, apart := false }
def FnExactUnitSaid : Prop := fnExactUnitRow.holds Try.pinned (OpenSpec.ofChange fnExactUnitSpec)

/-- ITS FALSE NEIGHBOUR: 'it returns false'. Refute it at one input. -/
def fnExactUnitWrong : ChangeSpec := { name := "fnExactUnit", fn := fun _ => fun
  | [d1, d2] => { results := [.lit (.bool false)], args := [d1, d2] }
  | _ => none }
def FnExactUnitWrongFalsely : Prop := fnExactUnitRow.holds Try.pinned (OpenSpec.ofChange fnExactUnitWrong)

/-- 'laws.FnUnits': WHATEVER THE INPUT: true; the input reads as it did. -/
def fnUnitsSpec : ChangeSpec := { name := "fnUnits", fn := fun _ => fun
  | [d] => { results := [.lit (.bool true)], args := [d] }
  | _ => none }
def fnUnitsRow : OpenClaim := { program := "ytpkclocdenagcaa", sum := "b0138363a605f1011b191a25800cfc2ac6d5f156bc05e634b8a37d8a747febf7", func := "loop.example/g00081/laws.FnUnits", spec := "fnUnits", unfollowed := true, recurses := true, apart := false }
def FnUnitsSaid : Prop := fnUnitsRow.holds Try.pinned (OpenSpec.ofChange fnUnitsSpec)

/-- ITS FALSE NEIGHBOUR: 'it returns false'. Refute it at one input. -/
def fnUnitsWrong : ChangeSpec := { name := "fnUnits", fn := fun _ => fun
  | [d] => { results := [.lit (.bool false)], args := [d] }
  | _ => none }
def FnUnitsWrongFalsely : Prop := fnUnitsRow.holds Try.pinned (OpenSpec.ofChange fnUnitsWrong)

/-- 'laws.FnExactSettle': WHATEVER THE INPUT: true; the input reads as it did. -/
def fnExactSettleSpec : ChangeSpec := { name := "fnExactSettle", fn := fun _ => fun
  | [d1, d2] => { results := [.lit (.bool true)], args := [d1, d2] }
  | _ => none }
def fnExactSettleRow : OpenClaim := { program := "ytpkclocdenagcaa", sum := "b0138363a605f1011b191a25800cfc2ac6d5f156bc05e634b8a37d8a747febf7", func := "loop.example/g00081/laws.FnExactSettle", spec := "fnExactSettle", unfollowed := true, recurses := true, apart := false }
def FnExactSettleSaid : Prop := fnExactSettleRow.holds Try.pinned (OpenSpec.ofChange fnExactSettleSpec)

/-- ITS FALSE NEIGHBOUR: 'it returns false'. Refute it at one input. -/
def fnExactSettleWrong : ChangeSpec := { name := "fnExactSettle", fn := fun _ => fun
  | [d1, d2] => { results := [.lit (.bool false)], args := [d1, d2] }
  | _ => none }
def FnExactSettleWrongFalsely : Prop := fnExactSettleRow.holds Try.pinned (OpenSpec.ofChange fnExactSettleWrong)

/-- 'laws.FnSettled': WHATEVER THE INPUT: true; the input reads as it did. -/
def fnSettledSpec : ChangeSpec := { name := "fnSettled", fn := fun _ => fun
  | [d] => { results := [.lit (.bool true)], args := [d] }
  | _ => none }
def fnSettledRow : OpenClaim := { program := "ytpkclocdenagcaa", sum := "b0138363a605f1011b191a25800cfc2ac6d5f156bc05e634b8a37d8a747febf7", func := "loop.example/g00081/laws.FnSettled", spec := "fnSettled", unfollowed := true, recurses := true, apart := false }
def FnSettledSaid : Prop := fnSettledRow.holds Try.pinned (OpenSpec.ofChange fnSettledSpec)

/-- ITS FALSE NEIGHBOUR: 'it returns false'. Refute it at one input. -/
def fnSettledWrong : ChangeSpec := { name := "fnSettled", fn := fun _ => fun
  | [d] => { results := [.lit (.bool false)], args := [d] }
  | _ => none }
def FnSettledWrongFalsely : Prop := fnSettledRow.holds Try.pinned (OpenSpec.ofChange fnSettledWrong)

/- THE SECOND FORM. 'bulk': how many values and letters a reading holds, each counted each time it is reached (what is shared counts as often as it is met; a slice's spare places count too). A statement '..UptoSaid' is the law's where the arguments, and the package variables that the reading takes, are together of bulk at most 1048576: NARROWER than '..Said'. Prove '..Said' where nothing that the law and all that it calls make is longer than what came in: it says more and counts as full. Else prove '..UptoSaid'. A law counts once. -/
mutual
def uptoBulk {H : Type} : DataW H → Nat
  | .lit (.string bytes) => bytes.length + 1
  | .lit _ => 1
  | .nil => 1
  | .ptr d => uptoBulk d + 1
  | .slice elems spare => uptoBulkAll elems + uptoBulkAll spare + 1
  | .agg parts => uptoBulkAll parts + 1
  | .iface _ d => uptoBulk d + 1
  | .map entries => uptoBulkEntries entries + 1
  | .held _ => 1
def uptoBulkAll {H : Type} : List (DataW H) → Nat
  | [] => 0
  | d :: r => uptoBulk d + uptoBulkAll r
def uptoBulkEntries {H : Type} : List (Lit × DataW H) → Nat
  | [] => 0
  | x :: r => uptoBulkEntry x + uptoBulkEntries r
def uptoBulkEntry {H : Type} : Lit × DataW H → Nat
  | (.string bytes, d) => bytes.length + uptoBulk d + 1
  | (_, d) => uptoBulk d + 1
 end
def uptoSmall : (H : Type) → List (DataW H) → Bool := fun _ ds => decide (uptoBulkAll ds ≤ 1048576)
def OpenSpec.upto (s : _root_.Go.ChangeSpec) : _root_.Go.OpenSpec := { _root_.Go.OpenSpec.ofChange s with cond := some uptoSmall }

/-- 'laws.FnExactReadBits', WHERE WHAT IT READS IS OF BULK AT MOST 1048576: true; the input reads as it did. -/
def fnExactReadBitsUptoRow : OpenClaim := { program := "ytpkclocdenagcaa", sum := "b0138363a605f1011b191a25800cfc2ac6d5f156bc05e634b8a37d8a747febf7", func := "loop.example/g00081/laws.FnExactReadBits", spec := "fnExactReadBits", inPlace := ["internal/bytealg.IndexByteString"], apart := false, narrowed := true }
def FnExactReadBitsUptoSaid : Prop := fnExactReadBitsUptoRow.holds Try.pinned (OpenSpec.upto fnExactReadBitsSpec)

/-- 'laws.FnExactUnit', WHERE WHAT IT READS IS OF BULK AT MOST 1048576: true; the input reads as it did. -/
def fnExactUnitUptoRow : OpenClaim := { program := "ytpkclocdenagcaa", sum := "b0138363a605f1011b191a25800cfc2ac6d5f156bc05e634b8a37d8a747febf7", func := "loop.example/g00081/laws.FnExactUnit", spec := "fnExactUnit", unfollowed := true, recurses := true, apart := false, narrowed := true }
def FnExactUnitUptoSaid : Prop := fnExactUnitUptoRow.holds Try.pinned (OpenSpec.upto fnExactUnitSpec)

/-- 'laws.FnUnits', WHERE WHAT IT READS IS OF BULK AT MOST 1048576: true; the input reads as it did. -/
def fnUnitsUptoRow : OpenClaim := { program := "ytpkclocdenagcaa", sum := "b0138363a605f1011b191a25800cfc2ac6d5f156bc05e634b8a37d8a747febf7", func := "loop.example/g00081/laws.FnUnits", spec := "fnUnits", unfollowed := true, recurses := true, apart := false, narrowed := true }
def FnUnitsUptoSaid : Prop := fnUnitsUptoRow.holds Try.pinned (OpenSpec.upto fnUnitsSpec)

/-- 'laws.FnExactSettle', WHERE WHAT IT READS IS OF BULK AT MOST 1048576: true; the input reads as it did. -/
def fnExactSettleUptoRow : OpenClaim := { program := "ytpkclocdenagcaa", sum := "b0138363a605f1011b191a25800cfc2ac6d5f156bc05e634b8a37d8a747febf7", func := "loop.example/g00081/laws.FnExactSettle", spec := "fnExactSettle", unfollowed := true, recurses := true, apart := false, narrowed := true }
def FnExactSettleUptoSaid : Prop := fnExactSettleUptoRow.holds Try.pinned (OpenSpec.upto fnExactSettleSpec)

/-- 'laws.FnSettled', WHERE WHAT IT READS IS OF BULK AT MOST 1048576: true; the input reads as it did. -/
def fnSettledUptoRow : OpenClaim := { program := "ytpkclocdenagcaa", sum := "b0138363a605f1011b191a25800cfc2ac6d5f156bc05e634b8a37d8a747febf7", func := "loop.example/g00081/laws.FnSettled", spec := "fnSettled", unfollowed := true, recurses := true, apart := false, narrowed := true }
def FnSettledUptoSaid : Prop := fnSettledUptoRow.holds Try.pinned (OpenSpec.upto fnSettledSpec)

end Rows
end Go.Proofs.Ytpkclocdenagcaa
