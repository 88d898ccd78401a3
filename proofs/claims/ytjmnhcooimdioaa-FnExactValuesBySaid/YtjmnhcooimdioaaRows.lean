/-
  No cell of these rows narrows 'for every input' (looked for: loops, veiled, ifaces, maps, wideKeys, modest, calm, conditions, laid).
  DERIVED. THE GIVEN ROWS OF THIS SEAT. 12 by the template 'for every input the law returns true; each argument reads behind the call as it read before'; 0 by the template 'total and deterministic' (their statements: YtjmnhcooimdioaaTotals.lean).
  GIVEN WITH THE SEED: the statements are not yours to turn. If you find one false, say at which input.
  Laid BY PROGRAM, IN A SANDBOX (cutbox-rows.mjs): the forced cells as the released guide's own fill.sh prints them over the translation 25c8ec2bdb43408a… (all of the seat's roots in one cut). By AI agents, Wed Nov 11 2026. No macro, syntax, notation, axiom, sorry.
-/
import Derived.Test.YtjmnhcooimdioaaChecked
import GoSem.Claim
import GoSem.ClaimJoined
import GoSem.ClaimMapViews
import Derived.JoinedTies
import Derived.KernelRfl
namespace Go.Proofs.Ytjmnhcooimdioaa
/- THE CELL 'sum', in the pinned program and in every row, IS THE sha256 OF THE DUMP (.gsa) THAT YtjmnhcooimdioaaProg.lean LOADS. Nothing in Lean hashes anything: it is a label: what it is worth is what the hold of that sum in a sandbox is worth. -/
noncomputable def Try.pinned : Pinned := { name := "ytjmnhcooimdioaa", sum := "25c8ec2bdb43408a1728336c664e6b07c1786fe0fb255014cd59b95784f5791b", checked := Try.checked }
namespace Rows
def none {H : Type} : Left H := { results := [], args := [] }

/-- 'laws.FnExactUnit': WHATEVER THE INPUT: true; the input reads as it did. -/
def fnExactUnitSpec : ChangeSpec := { name := "fnExactUnit", fn := fun _ => fun
  | [d1, d2] => { results := [.lit (.bool true)], args := [d1, d2] }
  | _ => none }
def fnExactUnitRow : OpenClaim := { program := "ytjmnhcooimdioaa", sum := "25c8ec2bdb43408a1728336c664e6b07c1786fe0fb255014cd59b95784f5791b", func := "loop.example/g00081/laws.FnExactUnit", spec := "fnExactUnit", unfollowed := true, recurses := true, apart := false }
def FnExactUnitSaid : Prop := fnExactUnitRow.holds Try.pinned (OpenSpec.ofChange fnExactUnitSpec)

/-- ITS FALSE NEIGHBOUR: 'it returns false'. Refute it at one input. -/
def fnExactUnitWrong : ChangeSpec := { name := "fnExactUnit", fn := fun _ => fun
  | [d1, d2] => { results := [.lit (.bool false)], args := [d1, d2] }
  | _ => none }
def FnExactUnitWrongFalsely : Prop := fnExactUnitRow.holds Try.pinned (OpenSpec.ofChange fnExactUnitWrong)

/-- 'laws.FnUnits': WHATEVER THE INPUT: true; the input reads as it did. -/
def fnUnitsSpec : ChangeSpec := { name := "fnUnits", fn := fun _ => fun
  | [d] => { results := [.lit (.bool true)], args := [d] }
  | _ => none }
def fnUnitsRow : OpenClaim := { program := "ytjmnhcooimdioaa", sum := "25c8ec2bdb43408a1728336c664e6b07c1786fe0fb255014cd59b95784f5791b", func := "loop.example/g00081/laws.FnUnits", spec := "fnUnits", unfollowed := true, recurses := true, apart := false }
def FnUnitsSaid : Prop := fnUnitsRow.holds Try.pinned (OpenSpec.ofChange fnUnitsSpec)

/-- ITS FALSE NEIGHBOUR: 'it returns false'. Refute it at one input. -/
def fnUnitsWrong : ChangeSpec := { name := "fnUnits", fn := fun _ => fun
  | [d] => { results := [.lit (.bool false)], args := [d] }
  | _ => none }
def FnUnitsWrongFalsely : Prop := fnUnitsRow.holds Try.pinned (OpenSpec.ofChange fnUnitsWrong)

/-- 'laws.FnExactValuesBy': WHATEVER THE INPUT: true; the input reads as it did. -/
def fnExactValuesBySpec : ChangeSpec := { name := "fnExactValuesBy", fn := fun _ => fun
  | [d1, d2] => { results := [.lit (.bool true)], args := [d1, d2] }
  | _ => none }
def fnExactValuesByRow : OpenClaim := { program := "ytjmnhcooimdioaa", sum := "25c8ec2bdb43408a1728336c664e6b07c1786fe0fb255014cd59b95784f5791b", func := "loop.example/g00081/laws.FnExactValuesBy", spec := "fnExactValuesBy", unfollowed := true, recurses := true, apart := false }
def FnExactValuesBySaid : Prop := fnExactValuesByRow.holds Try.pinned (OpenSpec.ofChange fnExactValuesBySpec)

/-- ITS FALSE NEIGHBOUR: 'it returns false'. Refute it at one input. -/
def fnExactValuesByWrong : ChangeSpec := { name := "fnExactValuesBy", fn := fun _ => fun
  | [d1, d2] => { results := [.lit (.bool false)], args := [d1, d2] }
  | _ => none }
def FnExactValuesByWrongFalsely : Prop := fnExactValuesByRow.holds Try.pinned (OpenSpec.ofChange fnExactValuesByWrong)

/-- 'laws.FnExactFlatOk': WHATEVER THE INPUT: true; the input reads as it did. -/
def fnExactFlatOkSpec : ChangeSpec := { name := "fnExactFlatOk", fn := fun _ => fun
  | [d1, d2] => { results := [.lit (.bool true)], args := [d1, d2] }
  | _ => none }
def fnExactFlatOkRow : OpenClaim := { program := "ytjmnhcooimdioaa", sum := "25c8ec2bdb43408a1728336c664e6b07c1786fe0fb255014cd59b95784f5791b", func := "loop.example/g00081/laws.FnExactFlatOk", spec := "fnExactFlatOk", unfollowed := true, recurses := true, apart := false }
def FnExactFlatOkSaid : Prop := fnExactFlatOkRow.holds Try.pinned (OpenSpec.ofChange fnExactFlatOkSpec)

/-- ITS FALSE NEIGHBOUR: 'it returns false'. Refute it at one input. -/
def fnExactFlatOkWrong : ChangeSpec := { name := "fnExactFlatOk", fn := fun _ => fun
  | [d1, d2] => { results := [.lit (.bool false)], args := [d1, d2] }
  | _ => none }
def FnExactFlatOkWrongFalsely : Prop := fnExactFlatOkRow.holds Try.pinned (OpenSpec.ofChange fnExactFlatOkWrong)

/-- 'laws.FnExactSwitchesOf': WHATEVER THE INPUT: true; the input reads as it did. -/
def fnExactSwitchesOfSpec : ChangeSpec := { name := "fnExactSwitchesOf", fn := fun _ => fun
  | [d1, d2] => { results := [.lit (.bool true)], args := [d1, d2] }
  | _ => none }
def fnExactSwitchesOfRow : OpenClaim := { program := "ytjmnhcooimdioaa", sum := "25c8ec2bdb43408a1728336c664e6b07c1786fe0fb255014cd59b95784f5791b", func := "loop.example/g00081/laws.FnExactSwitchesOf", spec := "fnExactSwitchesOf", unfollowed := true, recurses := true, apart := false }
def FnExactSwitchesOfSaid : Prop := fnExactSwitchesOfRow.holds Try.pinned (OpenSpec.ofChange fnExactSwitchesOfSpec)

/-- ITS FALSE NEIGHBOUR: 'it returns false'. Refute it at one input. -/
def fnExactSwitchesOfWrong : ChangeSpec := { name := "fnExactSwitchesOf", fn := fun _ => fun
  | [d1, d2] => { results := [.lit (.bool false)], args := [d1, d2] }
  | _ => none }
def FnExactSwitchesOfWrongFalsely : Prop := fnExactSwitchesOfRow.holds Try.pinned (OpenSpec.ofChange fnExactSwitchesOfWrong)

/-- 'laws.FnExactBegin': WHATEVER THE INPUT: true; the input reads as it did. -/
def fnExactBeginSpec : ChangeSpec := { name := "fnExactBegin", fn := fun _ => fun
  | [] => { results := [.lit (.bool true)], args := [] }
  | _ => none }
def fnExactBeginRow : OpenClaim := { program := "ytjmnhcooimdioaa", sum := "25c8ec2bdb43408a1728336c664e6b07c1786fe0fb255014cd59b95784f5791b", func := "loop.example/g00081/laws.FnExactBegin", spec := "fnExactBegin", apart := false }
def FnExactBeginSaid : Prop := fnExactBeginRow.holds Try.pinned (OpenSpec.ofChange fnExactBeginSpec)

/-- ITS FALSE NEIGHBOUR: 'it returns false'. Refute it at one input. -/
def fnExactBeginWrong : ChangeSpec := { name := "fnExactBegin", fn := fun _ => fun
  | [] => { results := [.lit (.bool false)], args := [] }
  | _ => none }
def FnExactBeginWrongFalsely : Prop := fnExactBeginRow.holds Try.pinned (OpenSpec.ofChange fnExactBeginWrong)

/-- 'laws.FnSettled': WHATEVER THE INPUT: true; the input reads as it did. -/
def fnSettledSpec : ChangeSpec := { name := "fnSettled", fn := fun _ => fun
  | [d] => { results := [.lit (.bool true)], args := [d] }
  | _ => none }
def fnSettledRow : OpenClaim := { program := "ytjmnhcooimdioaa", sum := "25c8ec2bdb43408a1728336c664e6b07c1786fe0fb255014cd59b95784f5791b", func := "loop.example/g00081/laws.FnSettled", spec := "fnSettled", unfollowed := true, recurses := true, apart := false }
def FnSettledSaid : Prop := fnSettledRow.holds Try.pinned (OpenSpec.ofChange fnSettledSpec)

/-- ITS FALSE NEIGHBOUR: 'it returns false'. Refute it at one input. -/
def fnSettledWrong : ChangeSpec := { name := "fnSettled", fn := fun _ => fun
  | [d] => { results := [.lit (.bool false)], args := [d] }
  | _ => none }
def FnSettledWrongFalsely : Prop := fnSettledRow.holds Try.pinned (OpenSpec.ofChange fnSettledWrong)

/-- 'laws.FnExactSlicesOf': WHATEVER THE INPUT: true; the input reads as it did. -/
def fnExactSlicesOfSpec : ChangeSpec := { name := "fnExactSlicesOf", fn := fun _ => fun
  | [d1, d2] => { results := [.lit (.bool true)], args := [d1, d2] }
  | _ => none }
def fnExactSlicesOfRow : OpenClaim := { program := "ytjmnhcooimdioaa", sum := "25c8ec2bdb43408a1728336c664e6b07c1786fe0fb255014cd59b95784f5791b", func := "loop.example/g00081/laws.FnExactSlicesOf", spec := "fnExactSlicesOf", unfollowed := true, recurses := true, apart := false }
def FnExactSlicesOfSaid : Prop := fnExactSlicesOfRow.holds Try.pinned (OpenSpec.ofChange fnExactSlicesOfSpec)

/-- ITS FALSE NEIGHBOUR: 'it returns false'. Refute it at one input. -/
def fnExactSlicesOfWrong : ChangeSpec := { name := "fnExactSlicesOf", fn := fun _ => fun
  | [d1, d2] => { results := [.lit (.bool false)], args := [d1, d2] }
  | _ => none }
def FnExactSlicesOfWrongFalsely : Prop := fnExactSlicesOfRow.holds Try.pinned (OpenSpec.ofChange fnExactSlicesOfWrong)

/-- 'laws.FnExactSettle': WHATEVER THE INPUT: true; the input reads as it did. -/
def fnExactSettleSpec : ChangeSpec := { name := "fnExactSettle", fn := fun _ => fun
  | [d1, d2] => { results := [.lit (.bool true)], args := [d1, d2] }
  | _ => none }
def fnExactSettleRow : OpenClaim := { program := "ytjmnhcooimdioaa", sum := "25c8ec2bdb43408a1728336c664e6b07c1786fe0fb255014cd59b95784f5791b", func := "loop.example/g00081/laws.FnExactSettle", spec := "fnExactSettle", unfollowed := true, recurses := true, apart := false }
def FnExactSettleSaid : Prop := fnExactSettleRow.holds Try.pinned (OpenSpec.ofChange fnExactSettleSpec)

/-- ITS FALSE NEIGHBOUR: 'it returns false'. Refute it at one input. -/
def fnExactSettleWrong : ChangeSpec := { name := "fnExactSettle", fn := fun _ => fun
  | [d1, d2] => { results := [.lit (.bool false)], args := [d1, d2] }
  | _ => none }
def FnExactSettleWrongFalsely : Prop := fnExactSettleRow.holds Try.pinned (OpenSpec.ofChange fnExactSettleWrong)

/-- 'laws.FnExactMerge': WHATEVER THE INPUT: true; the input reads as it did. -/
def fnExactMergeSpec : ChangeSpec := { name := "fnExactMerge", fn := fun _ => fun
  | [d1, d2, d3, d4] => { results := [.lit (.bool true)], args := [d1, d2, d3, d4] }
  | _ => none }
def fnExactMergeRow : OpenClaim := { program := "ytjmnhcooimdioaa", sum := "25c8ec2bdb43408a1728336c664e6b07c1786fe0fb255014cd59b95784f5791b", func := "loop.example/g00081/laws.FnExactMerge", spec := "fnExactMerge", unfollowed := true, recurses := true, apart := false }
def FnExactMergeSaid : Prop := fnExactMergeRow.holds Try.pinned (OpenSpec.ofChange fnExactMergeSpec)

/-- ITS FALSE NEIGHBOUR: 'it returns false'. Refute it at one input. -/
def fnExactMergeWrong : ChangeSpec := { name := "fnExactMerge", fn := fun _ => fun
  | [d1, d2, d3, d4] => { results := [.lit (.bool false)], args := [d1, d2, d3, d4] }
  | _ => none }
def FnExactMergeWrongFalsely : Prop := fnExactMergeRow.holds Try.pinned (OpenSpec.ofChange fnExactMergeWrong)

/-- 'laws.FnExactReasons': WHATEVER THE INPUT: true; the input reads as it did. -/
def fnExactReasonsSpec : ChangeSpec := { name := "fnExactReasons", fn := fun _ => fun
  | [d1, d2, d3] => { results := [.lit (.bool true)], args := [d1, d2, d3] }
  | _ => none }
def fnExactReasonsRow : OpenClaim := { program := "ytjmnhcooimdioaa", sum := "25c8ec2bdb43408a1728336c664e6b07c1786fe0fb255014cd59b95784f5791b", func := "loop.example/g00081/laws.FnExactReasons", spec := "fnExactReasons", recurses := true, apart := false }
def FnExactReasonsSaid : Prop := fnExactReasonsRow.holds Try.pinned (OpenSpec.ofChange fnExactReasonsSpec)

/-- ITS FALSE NEIGHBOUR: 'it returns false'. Refute it at one input. -/
def fnExactReasonsWrong : ChangeSpec := { name := "fnExactReasons", fn := fun _ => fun
  | [d1, d2, d3] => { results := [.lit (.bool false)], args := [d1, d2, d3] }
  | _ => none }
def FnExactReasonsWrongFalsely : Prop := fnExactReasonsRow.holds Try.pinned (OpenSpec.ofChange fnExactReasonsWrong)

/-- 'laws.FnReasons': WHATEVER THE INPUT: true; the input reads as it did. -/
def fnReasonsSpec : ChangeSpec := { name := "fnReasons", fn := fun _ => fun
  | [d] => { results := [.lit (.bool true)], args := [d] }
  | _ => none }
def fnReasonsRow : OpenClaim := { program := "ytjmnhcooimdioaa", sum := "25c8ec2bdb43408a1728336c664e6b07c1786fe0fb255014cd59b95784f5791b", func := "loop.example/g00081/laws.FnReasons", spec := "fnReasons", recurses := true, apart := false }
def FnReasonsSaid : Prop := fnReasonsRow.holds Try.pinned (OpenSpec.ofChange fnReasonsSpec)

/-- ITS FALSE NEIGHBOUR: 'it returns false'. Refute it at one input. -/
def fnReasonsWrong : ChangeSpec := { name := "fnReasons", fn := fun _ => fun
  | [d] => { results := [.lit (.bool false)], args := [d] }
  | _ => none }
def FnReasonsWrongFalsely : Prop := fnReasonsRow.holds Try.pinned (OpenSpec.ofChange fnReasonsWrong)

/- THE SECOND FORM. 'bulk': how many values and letters a reading holds, each counted each time it is reached (what is shared counts as often as it is met; a slice's spare places count too). A statement '..UptoSaid' is the law's where the arguments, and the package variables that the reading takes, are together of bulk at most 1048576: NARROWER than '..Said'. Prove '..Said' where nothing that the law and all that it calls make is longer than what came in: it says more and counts as full. Else prove '..UptoSaid'. A law counts once. -/
mutual
def uptoBulk {H : Type} : DataW H → Nat
  | .lit (.string bytes) => bytes.length + 1
  | .lit _ => 1
  | .nil => 1
  | .ptr d => uptoBulk d + 1
  | .slice elems spare => uptoBulkAll elems + uptoBulkAll spare + 1
  | .agg parts => uptoBulkAll parts + 1
  | .iface _ d => uptoBulk d + 1
  | .map entries => uptoBulkEntries entries + 1
  | .held _ => 1
def uptoBulkAll {H : Type} : List (DataW H) → Nat
  | [] => 0
  | d :: r => uptoBulk d + uptoBulkAll r
def uptoBulkEntries {H : Type} : List (Lit × DataW H) → Nat
  | [] => 0
  | x :: r => uptoBulkEntry x + uptoBulkEntries r
def uptoBulkEntry {H : Type} : Lit × DataW H → Nat
  | (.string bytes, d) => bytes.length + uptoBulk d + 1
  | (_, d) => uptoBulk d + 1
 end
def uptoSmall : (H : Type) → List (DataW H) → Bool := fun _ ds => decide (uptoBulkAll ds ≤ 1048576)
def OpenSpec.upto (s : _root_.Go.ChangeSpec) : _root_.Go.OpenSpec := { _root_.Go.OpenSpec.ofChange s with cond := some uptoSmall }

/-- 'laws.FnExactUnit', WHERE WHAT IT READS IS OF BULK AT MOST 1048576: true; the input reads as it did. -/
def fnExactUnitUptoRow : OpenClaim := { program := "ytjmnhcooimdioaa", sum := "25c8ec2bdb43408a1728336c664e6b07c1786fe0fb255014cd59b95784f5791b", func := "loop.example/g00081/laws.FnExactUnit", spec := "fnExactUnit", unfollowed := true, recurses := true, apart := false, narrowed := true }
def FnExactUnitUptoSaid : Prop := fnExactUnitUptoRow.holds Try.pinned (OpenSpec.upto fnExactUnitSpec)

/-- 'laws.FnUnits', WHERE WHAT IT READS IS OF BULK AT MOST 1048576: true; the input reads as it did. -/
def fnUnitsUptoRow : OpenClaim := { program := "ytjmnhcooimdioaa", sum := "25c8ec2bdb43408a1728336c664e6b07c1786fe0fb255014cd59b95784f5791b", func := "loop.example/g00081/laws.FnUnits", spec := "fnUnits", unfollowed := true, recurses := true, apart := false, narrowed := true }
def FnUnitsUptoSaid : Prop := fnUnitsUptoRow.holds Try.pinned (OpenSpec.upto fnUnitsSpec)

/-- 'laws.FnExactValuesBy', WHERE WHAT IT READS IS OF BULK AT MOST 1048576: true; the input reads as it did. -/
def fnExactValuesByUptoRow : OpenClaim := { program := "ytjmnhcooimdioaa", sum := "25c8ec2bdb43408a1728336c664e6b07c1786fe0fb255014cd59b95784f5791b", func := "loop.example/g00081/laws.FnExactValuesBy", spec := "fnExactValuesBy", unfollowed := true, recurses := true, apart := false, narrowed := true }
def FnExactValuesByUptoSaid : Prop := fnExactValuesByUptoRow.holds Try.pinned (OpenSpec.upto fnExactValuesBySpec)

/-- 'laws.FnExactFlatOk', WHERE WHAT IT READS IS OF BULK AT MOST 1048576: true; the input reads as it did. -/
def fnExactFlatOkUptoRow : OpenClaim := { program := "ytjmnhcooimdioaa", sum := "25c8ec2bdb43408a1728336c664e6b07c1786fe0fb255014cd59b95784f5791b", func := "loop.example/g00081/laws.FnExactFlatOk", spec := "fnExactFlatOk", unfollowed := true, recurses := true, apart := false, narrowed := true }
def FnExactFlatOkUptoSaid : Prop := fnExactFlatOkUptoRow.holds Try.pinned (OpenSpec.upto fnExactFlatOkSpec)

/-- 'laws.FnExactSwitchesOf', WHERE WHAT IT READS IS OF BULK AT MOST 1048576: true; the input reads as it did. -/
def fnExactSwitchesOfUptoRow : OpenClaim := { program := "ytjmnhcooimdioaa", sum := "25c8ec2bdb43408a1728336c664e6b07c1786fe0fb255014cd59b95784f5791b", func := "loop.example/g00081/laws.FnExactSwitchesOf", spec := "fnExactSwitchesOf", unfollowed := true, recurses := true, apart := false, narrowed := true }
def FnExactSwitchesOfUptoSaid : Prop := fnExactSwitchesOfUptoRow.holds Try.pinned (OpenSpec.upto fnExactSwitchesOfSpec)

/-- 'laws.FnExactBegin', WHERE WHAT IT READS IS OF BULK AT MOST 1048576: true; the input reads as it did. -/
def fnExactBeginUptoRow : OpenClaim := { program := "ytjmnhcooimdioaa", sum := "25c8ec2bdb43408a1728336c664e6b07c1786fe0fb255014cd59b95784f5791b", func := "loop.example/g00081/laws.FnExactBegin", spec := "fnExactBegin", apart := false, narrowed := true }
def FnExactBeginUptoSaid : Prop := fnExactBeginUptoRow.holds Try.pinned (OpenSpec.upto fnExactBeginSpec)

/-- 'laws.FnSettled', WHERE WHAT IT READS IS OF BULK AT MOST 1048576: true; the input reads as it did. -/
def fnSettledUptoRow : OpenClaim := { program := "ytjmnhcooimdioaa", sum := "25c8ec2bdb43408a1728336c664e6b07c1786fe0fb255014cd59b95784f5791b", func := "loop.example/g00081/laws.FnSettled", spec := "fnSettled", unfollowed := true, recurses := true, apart := false, narrowed := true }
def FnSettledUptoSaid : Prop := fnSettledUptoRow.holds Try.pinned (OpenSpec.upto fnSettledSpec)

/-- 'laws.FnExactSlicesOf', WHERE WHAT IT READS IS OF BULK AT MOST 1048576: true; the input reads as it did. -/
def fnExactSlicesOfUptoRow : OpenClaim := { program := "ytjmnhcooimdioaa", sum := "25c8ec2bdb43408a1728336c664e6b07c1786fe0fb255014cd59b95784f5791b", func := "loop.example/g00081/laws.FnExactSlicesOf", spec := "fnExactSlicesOf", unfollowed := true, recurses := true, apart := false, narrowed := true }
def FnExactSlicesOfUptoSaid : Prop := fnExactSlicesOfUptoRow.holds Try.pinned (OpenSpec.upto fnExactSlicesOfSpec)

/-- 'laws.FnExactSettle', WHERE WHAT IT READS IS OF BULK AT MOST 1048576: true; the input reads as it did. -/
def fnExactSettleUptoRow : OpenClaim := { program := "ytjmnhcooimdioaa", sum := "25c8ec2bdb43408a1728336c664e6b07c1786fe0fb255014cd59b95784f5791b", func := "loop.example/g00081/laws.FnExactSettle", spec := "fnExactSettle", unfollowed := true, recurses := true, apart := false, narrowed := true }
def FnExactSettleUptoSaid : Prop := fnExactSettleUptoRow.holds Try.pinned (OpenSpec.upto fnExactSettleSpec)

/-- 'laws.FnExactMerge', WHERE WHAT IT READS IS OF BULK AT MOST 1048576: true; the input reads as it did. -/
def fnExactMergeUptoRow : OpenClaim := { program := "ytjmnhcooimdioaa", sum := "25c8ec2bdb43408a1728336c664e6b07c1786fe0fb255014cd59b95784f5791b", func := "loop.example/g00081/laws.FnExactMerge", spec := "fnExactMerge", unfollowed := true, recurses := true, apart := false, narrowed := true }
def FnExactMergeUptoSaid : Prop := fnExactMergeUptoRow.holds Try.pinned (OpenSpec.upto fnExactMergeSpec)

/-- 'laws.FnExactReasons', WHERE WHAT IT READS IS OF BULK AT MOST 1048576: true; the input reads as it did. -/
def fnExactReasonsUptoRow : OpenClaim := { program := "ytjmnhcooimdioaa", sum := "25c8ec2bdb43408a1728336c664e6b07c1786fe0fb255014cd59b95784f5791b", func := "loop.example/g00081/laws.FnExactReasons", spec := "fnExactReasons", recurses := true, apart := false, narrowed := true }
def FnExactReasonsUptoSaid : Prop := fnExactReasonsUptoRow.holds Try.pinned (OpenSpec.upto fnExactReasonsSpec)

/-- 'laws.FnReasons', WHERE WHAT IT READS IS OF BULK AT MOST 1048576: true; the input reads as it did. -/
def fnReasonsUptoRow : OpenClaim := { program := "ytjmnhcooimdioaa", sum := "25c8ec2bdb43408a1728336c664e6b07c1786fe0fb255014cd59b95784f5791b", func := "loop.example/g00081/laws.FnReasons", spec := "fnReasons", recurses := true, apart := false, narrowed := true }
def FnReasonsUptoSaid : Prop := fnReasonsUptoRow.holds Try.pinned (OpenSpec.upto fnReasonsSpec)

end Rows
end Go.Proofs.Ytjmnhcooimdioaa
