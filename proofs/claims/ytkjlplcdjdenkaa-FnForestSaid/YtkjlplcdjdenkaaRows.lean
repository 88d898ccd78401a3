/-
  No cell of these rows narrows 'for every input' (looked for: loops, veiled, ifaces, maps, wideKeys, modest, calm, conditions, laid).
  DERIVED. THE GIVEN ROWS OF THIS SEAT. 12 by the template 'for every input the law returns true; each argument reads behind the call as it read before'; 0 by the template 'total and deterministic' (their statements: YtkjlplcdjdenkaaTotals.lean).
  GIVEN WITH THE SEED: the statements are not yours to turn. If you find one false, say at which input.
  Laid BY PROGRAM, IN A SANDBOX (cutbox-rows.mjs): the forced cells as the released guide's own fill.sh prints them over the translation 5b8d2e12b82ee913… (all of the seat's roots in one cut). By AI agents, Wed Nov 11 2026. No macro, syntax, notation, axiom, sorry.
-/
import Derived.Test.YtkjlplcdjdenkaaChecked
import GoSem.Claim
import GoSem.ClaimJoined
import GoSem.ClaimMapViews
import Derived.JoinedTies
import Derived.KernelRfl
namespace Go.Proofs.Ytkjlplcdjdenkaa
/- THE CELL 'sum', in the pinned program and in every row, IS THE sha256 OF THE DUMP (.gsa) THAT YtkjlplcdjdenkaaProg.lean LOADS. Nothing in Lean hashes anything: it is a label: what it is worth is what the hold of that sum in a sandbox is worth. -/
noncomputable def Try.pinned : Pinned := { name := "ytkjlplcdjdenkaa", sum := "5b8d2e12b82ee913c312d02894960343001c1873ba749b101fa395560ca08a5e", checked := Try.checked }
namespace Rows
def none {H : Type} : Left H := { results := [], args := [] }

/-- 'laws.FnExactStateOf': WHATEVER THE INPUT: true; the input reads as it did. -/
def fnExactStateOfSpec : ChangeSpec := { name := "fnExactStateOf", fn := fun _ => fun
  | [d1, d2] => { results := [.lit (.bool true)], args := [d1, d2] }
  | _ => none }
def fnExactStateOfRow : OpenClaim := { program := "ytkjlplcdjdenkaa", sum := "5b8d2e12b82ee913c312d02894960343001c1873ba749b101fa395560ca08a5e", func := "loop.example/g00081/laws.FnExactStateOf", spec := "fnExactStateOf", apart := false }
def FnExactStateOfSaid : Prop := fnExactStateOfRow.holds Try.pinned (OpenSpec.ofChange fnExactStateOfSpec)

/-- ITS FALSE NEIGHBOUR: 'it returns false'. Refute it at one input. -/
def fnExactStateOfWrong : ChangeSpec := { name := "fnExactStateOf", fn := fun _ => fun
  | [d1, d2] => { results := [.lit (.bool false)], args := [d1, d2] }
  | _ => none }
def FnExactStateOfWrongFalsely : Prop := fnExactStateOfRow.holds Try.pinned (OpenSpec.ofChange fnExactStateOfWrong)

/-- 'laws.FnExactUndo': WHATEVER THE INPUT: true; the input reads as it did. -/
def fnExactUndoSpec : ChangeSpec := { name := "fnExactUndo", fn := fun _ => fun
  | [d1, d2] => { results := [.lit (.bool true)], args := [d1, d2] }
  | _ => none }
def fnExactUndoRow : OpenClaim := { program := "ytkjlplcdjdenkaa", sum := "5b8d2e12b82ee913c312d02894960343001c1873ba749b101fa395560ca08a5e", func := "loop.example/g00081/laws.FnExactUndo", spec := "fnExactUndo", apart := false }
def FnExactUndoSaid : Prop := fnExactUndoRow.holds Try.pinned (OpenSpec.ofChange fnExactUndoSpec)

/-- ITS FALSE NEIGHBOUR: 'it returns false'. Refute it at one input. -/
def fnExactUndoWrong : ChangeSpec := { name := "fnExactUndo", fn := fun _ => fun
  | [d1, d2] => { results := [.lit (.bool false)], args := [d1, d2] }
  | _ => none }
def FnExactUndoWrongFalsely : Prop := fnExactUndoRow.holds Try.pinned (OpenSpec.ofChange fnExactUndoWrong)

/-- 'laws.FnExactJoin': WHATEVER THE INPUT: true; the input reads as it did. -/
def fnExactJoinSpec : ChangeSpec := { name := "fnExactJoin", fn := fun _ => fun
  | [d1, d2, d3, d4] => { results := [.lit (.bool true)], args := [d1, d2, d3, d4] }
  | _ => none }
def fnExactJoinRow : OpenClaim := { program := "ytkjlplcdjdenkaa", sum := "5b8d2e12b82ee913c312d02894960343001c1873ba749b101fa395560ca08a5e", func := "loop.example/g00081/laws.FnExactJoin", spec := "fnExactJoin", apart := false }
def FnExactJoinSaid : Prop := fnExactJoinRow.holds Try.pinned (OpenSpec.ofChange fnExactJoinSpec)

/-- ITS FALSE NEIGHBOUR: 'it returns false'. Refute it at one input. -/
def fnExactJoinWrong : ChangeSpec := { name := "fnExactJoin", fn := fun _ => fun
  | [d1, d2, d3, d4] => { results := [.lit (.bool false)], args := [d1, d2, d3, d4] }
  | _ => none }
def FnExactJoinWrongFalsely : Prop := fnExactJoinRow.holds Try.pinned (OpenSpec.ofChange fnExactJoinWrong)

/-- 'laws.FnForest': WHATEVER THE INPUT: true; the input reads as it did. -/
def fnForestSpec : ChangeSpec := { name := "fnForest", fn := fun _ => fun
  | [d] => { results := [.lit (.bool true)], args := [d] }
  | _ => none }
def fnForestRow : OpenClaim := { program := "ytkjlplcdjdenkaa", sum := "5b8d2e12b82ee913c312d02894960343001c1873ba749b101fa395560ca08a5e", func := "loop.example/g00081/laws.FnForest", spec := "fnForest", unfollowed := true, recurses := true, apart := false }
def FnForestSaid : Prop := fnForestRow.holds Try.pinned (OpenSpec.ofChange fnForestSpec)

/-- ITS FALSE NEIGHBOUR: 'it returns false'. Refute it at one input. -/
def fnForestWrong : ChangeSpec := { name := "fnForest", fn := fun _ => fun
  | [d] => { results := [.lit (.bool false)], args := [d] }
  | _ => none }
def FnForestWrongFalsely : Prop := fnForestRow.holds Try.pinned (OpenSpec.ofChange fnForestWrong)

/-- 'laws.FnExactGroupsOf': WHATEVER THE INPUT: true; the input reads as it did. -/
def fnExactGroupsOfSpec : ChangeSpec := { name := "fnExactGroupsOf", fn := fun _ => fun
  | [d] => { results := [.lit (.bool true)], args := [d] }
  | _ => none }
def fnExactGroupsOfRow : OpenClaim := { program := "ytkjlplcdjdenkaa", sum := "5b8d2e12b82ee913c312d02894960343001c1873ba749b101fa395560ca08a5e", func := "loop.example/g00081/laws.FnExactGroupsOf", spec := "fnExactGroupsOf", unfollowed := true, recurses := true, apart := false }
def FnExactGroupsOfSaid : Prop := fnExactGroupsOfRow.holds Try.pinned (OpenSpec.ofChange fnExactGroupsOfSpec)

/-- ITS FALSE NEIGHBOUR: 'it returns false'. Refute it at one input. -/
def fnExactGroupsOfWrong : ChangeSpec := { name := "fnExactGroupsOf", fn := fun _ => fun
  | [d] => { results := [.lit (.bool false)], args := [d] }
  | _ => none }
def FnExactGroupsOfWrongFalsely : Prop := fnExactGroupsOfRow.holds Try.pinned (OpenSpec.ofChange fnExactGroupsOfWrong)

/-- 'laws.FnExactCutsOk': WHATEVER THE INPUT: true; the input reads as it did. -/
def fnExactCutsOkSpec : ChangeSpec := { name := "fnExactCutsOk", fn := fun _ => fun
  | [d1, d2] => { results := [.lit (.bool true)], args := [d1, d2] }
  | _ => none }
def fnExactCutsOkRow : OpenClaim := { program := "ytkjlplcdjdenkaa", sum := "5b8d2e12b82ee913c312d02894960343001c1873ba749b101fa395560ca08a5e", func := "loop.example/g00081/laws.FnExactCutsOk", spec := "fnExactCutsOk", unfollowed := true, recurses := true, apart := false }
def FnExactCutsOkSaid : Prop := fnExactCutsOkRow.holds Try.pinned (OpenSpec.ofChange fnExactCutsOkSpec)

/-- ITS FALSE NEIGHBOUR: 'it returns false'. Refute it at one input. -/
def fnExactCutsOkWrong : ChangeSpec := { name := "fnExactCutsOk", fn := fun _ => fun
  | [d1, d2] => { results := [.lit (.bool false)], args := [d1, d2] }
  | _ => none }
def FnExactCutsOkWrongFalsely : Prop := fnExactCutsOkRow.holds Try.pinned (OpenSpec.ofChange fnExactCutsOkWrong)

/-- 'laws.FnExactGraphOk': WHATEVER THE INPUT: true; the input reads as it did. -/
def fnExactGraphOkSpec : ChangeSpec := { name := "fnExactGraphOk", fn := fun _ => fun
  | [d] => { results := [.lit (.bool true)], args := [d] }
  | _ => none }
def fnExactGraphOkRow : OpenClaim := { program := "ytkjlplcdjdenkaa", sum := "5b8d2e12b82ee913c312d02894960343001c1873ba749b101fa395560ca08a5e", func := "loop.example/g00081/laws.FnExactGraphOk", spec := "fnExactGraphOk", unfollowed := true, recurses := true, apart := false }
def FnExactGraphOkSaid : Prop := fnExactGraphOkRow.holds Try.pinned (OpenSpec.ofChange fnExactGraphOkSpec)

/-- ITS FALSE NEIGHBOUR: 'it returns false'. Refute it at one input. -/
def fnExactGraphOkWrong : ChangeSpec := { name := "fnExactGraphOk", fn := fun _ => fun
  | [d] => { results := [.lit (.bool false)], args := [d] }
  | _ => none }
def FnExactGraphOkWrongFalsely : Prop := fnExactGraphOkRow.holds Try.pinned (OpenSpec.ofChange fnExactGraphOkWrong)

/-- 'laws.FnExactGauge': WHATEVER THE INPUT: true; the input reads as it did. -/
def fnExactGaugeSpec : ChangeSpec := { name := "fnExactGauge", fn := fun _ => fun
  | [d1, d2] => { results := [.lit (.bool true)], args := [d1, d2] }
  | _ => none }
def fnExactGaugeRow : OpenClaim := { program := "ytkjlplcdjdenkaa", sum := "5b8d2e12b82ee913c312d02894960343001c1873ba749b101fa395560ca08a5e", func := "loop.example/g00081/laws.FnExactGauge", spec := "fnExactGauge", unfollowed := true, recurses := true, apart := false }
def FnExactGaugeSaid : Prop := fnExactGaugeRow.holds Try.pinned (OpenSpec.ofChange fnExactGaugeSpec)

/-- ITS FALSE NEIGHBOUR: 'it returns false'. Refute it at one input. -/
def fnExactGaugeWrong : ChangeSpec := { name := "fnExactGauge", fn := fun _ => fun
  | [d1, d2] => { results := [.lit (.bool false)], args := [d1, d2] }
  | _ => none }
def FnExactGaugeWrongFalsely : Prop := fnExactGaugeRow.holds Try.pinned (OpenSpec.ofChange fnExactGaugeWrong)

/-- 'laws.FnSlices': WHATEVER THE INPUT: true; the input reads as it did. -/
def fnSlicesSpec : ChangeSpec := { name := "fnSlices", fn := fun _ => fun
  | [d] => { results := [.lit (.bool true)], args := [d] }
  | _ => none }
def fnSlicesRow : OpenClaim := { program := "ytkjlplcdjdenkaa", sum := "5b8d2e12b82ee913c312d02894960343001c1873ba749b101fa395560ca08a5e", func := "loop.example/g00081/laws.FnSlices", spec := "fnSlices", unfollowed := true, recurses := true, apart := false }
def FnSlicesSaid : Prop := fnSlicesRow.holds Try.pinned (OpenSpec.ofChange fnSlicesSpec)

/-- ITS FALSE NEIGHBOUR: 'it returns false'. Refute it at one input. -/
def fnSlicesWrong : ChangeSpec := { name := "fnSlices", fn := fun _ => fun
  | [d] => { results := [.lit (.bool false)], args := [d] }
  | _ => none }
def FnSlicesWrongFalsely : Prop := fnSlicesRow.holds Try.pinned (OpenSpec.ofChange fnSlicesWrong)

/-- 'laws.FnExactValuesOk': WHATEVER THE INPUT: true; the input reads as it did. -/
def fnExactValuesOkSpec : ChangeSpec := { name := "fnExactValuesOk", fn := fun _ => fun
  | [d1, d2] => { results := [.lit (.bool true)], args := [d1, d2] }
  | _ => none }
def fnExactValuesOkRow : OpenClaim := { program := "ytkjlplcdjdenkaa", sum := "5b8d2e12b82ee913c312d02894960343001c1873ba749b101fa395560ca08a5e", func := "loop.example/g00081/laws.FnExactValuesOk", spec := "fnExactValuesOk", unfollowed := true, recurses := true, apart := false }
def FnExactValuesOkSaid : Prop := fnExactValuesOkRow.holds Try.pinned (OpenSpec.ofChange fnExactValuesOkSpec)

/-- ITS FALSE NEIGHBOUR: 'it returns false'. Refute it at one input. -/
def fnExactValuesOkWrong : ChangeSpec := { name := "fnExactValuesOk", fn := fun _ => fun
  | [d1, d2] => { results := [.lit (.bool false)], args := [d1, d2] }
  | _ => none }
def FnExactValuesOkWrongFalsely : Prop := fnExactValuesOkRow.holds Try.pinned (OpenSpec.ofChange fnExactValuesOkWrong)

/-- 'laws.FnExactClassAt': WHATEVER THE INPUT: true; the input reads as it did. -/
def fnExactClassAtSpec : ChangeSpec := { name := "fnExactClassAt", fn := fun _ => fun
  | [d1, d2] => { results := [.lit (.bool true)], args := [d1, d2] }
  | _ => none }
def fnExactClassAtRow : OpenClaim := { program := "ytkjlplcdjdenkaa", sum := "5b8d2e12b82ee913c312d02894960343001c1873ba749b101fa395560ca08a5e", func := "loop.example/g00081/laws.FnExactClassAt", spec := "fnExactClassAt", unfollowed := true, recurses := true, apart := false }
def FnExactClassAtSaid : Prop := fnExactClassAtRow.holds Try.pinned (OpenSpec.ofChange fnExactClassAtSpec)

/-- ITS FALSE NEIGHBOUR: 'it returns false'. Refute it at one input. -/
def fnExactClassAtWrong : ChangeSpec := { name := "fnExactClassAt", fn := fun _ => fun
  | [d1, d2] => { results := [.lit (.bool false)], args := [d1, d2] }
  | _ => none }
def FnExactClassAtWrongFalsely : Prop := fnExactClassAtRow.holds Try.pinned (OpenSpec.ofChange fnExactClassAtWrong)

/-- 'laws.FnExactAddCuts': WHATEVER THE INPUT: true; the input reads as it did. -/
def fnExactAddCutsSpec : ChangeSpec := { name := "fnExactAddCuts", fn := fun _ => fun
  | [d1, d2, d3] => { results := [.lit (.bool true)], args := [d1, d2, d3] }
  | _ => none }
def fnExactAddCutsRow : OpenClaim := { program := "ytkjlplcdjdenkaa", sum := "5b8d2e12b82ee913c312d02894960343001c1873ba749b101fa395560ca08a5e", func := "loop.example/g00081/laws.FnExactAddCuts", spec := "fnExactAddCuts", unfollowed := true, recurses := true, apart := false }
def FnExactAddCutsSaid : Prop := fnExactAddCutsRow.holds Try.pinned (OpenSpec.ofChange fnExactAddCutsSpec)

/-- ITS FALSE NEIGHBOUR: 'it returns false'. Refute it at one input. -/
def fnExactAddCutsWrong : ChangeSpec := { name := "fnExactAddCuts", fn := fun _ => fun
  | [d1, d2, d3] => { results := [.lit (.bool false)], args := [d1, d2, d3] }
  | _ => none }
def FnExactAddCutsWrongFalsely : Prop := fnExactAddCutsRow.holds Try.pinned (OpenSpec.ofChange fnExactAddCutsWrong)

/- THE SECOND FORM. 'bulk': how many values and letters a reading holds, each counted each time it is reached (what is shared counts as often as it is met; a slice's spare places count too). A statement '..UptoSaid' is the law's where the arguments, and the package variables that the reading takes, are together of bulk at most 1048576: NARROWER than '..Said'. Prove '..Said' where nothing that the law and all that it calls make is longer than what came in: it says more and counts as full. Else prove '..UptoSaid'. A law counts once. -/
mutual
def uptoBulk {H : Type} : DataW H → Nat
  | .lit (.string bytes) => bytes.length + 1
  | .lit _ => 1
  | .nil => 1
  | .ptr d => uptoBulk d + 1
  | .slice elems spare => uptoBulkAll elems + uptoBulkAll spare + 1
  | .agg parts => uptoBulkAll parts + 1
  | .iface _ d => uptoBulk d + 1
  | .map entries => uptoBulkEntries entries + 1
  | .held _ => 1
def uptoBulkAll {H : Type} : List (DataW H) → Nat
  | [] => 0
  | d :: r => uptoBulk d + uptoBulkAll r
def uptoBulkEntries {H : Type} : List (Lit × DataW H) → Nat
  | [] => 0
  | x :: r => uptoBulkEntry x + uptoBulkEntries r
def uptoBulkEntry {H : Type} : Lit × DataW H → Nat
  | (.string bytes, d) => bytes.length + uptoBulk d + 1
  | (_, d) => uptoBulk d + 1
 end
def uptoSmall : (H : Type) → List (DataW H) → Bool := fun _ ds => decide (uptoBulkAll ds ≤ 1048576)
def OpenSpec.upto (s : _root_.Go.ChangeSpec) : _root_.Go.OpenSpec := { _root_.Go.OpenSpec.ofChange s with cond := some uptoSmall }

/-- 'laws.FnExactStateOf', WHERE WHAT IT READS IS OF BULK AT MOST 1048576: true; the input reads as it did. -/
def fnExactStateOfUptoRow : OpenClaim := { program := "ytkjlplcdjdenkaa", sum := "5b8d2e12b82ee913c312d02894960343001c1873ba749b101fa395560ca08a5e", func := "loop.example/g00081/laws.FnExactStateOf", spec := "fnExactStateOf", apart := false, narrowed := true }
def FnExactStateOfUptoSaid : Prop := fnExactStateOfUptoRow.holds Try.pinned (OpenSpec.upto fnExactStateOfSpec)

/-- 'laws.FnExactUndo', WHERE WHAT IT READS IS OF BULK AT MOST 1048576: true; the input reads as it did. -/
def fnExactUndoUptoRow : OpenClaim := { program := "ytkjlplcdjdenkaa", sum := "5b8d2e12b82ee913c312d02894960343001c1873ba749b101fa395560ca08a5e", func := "loop.example/g00081/laws.FnExactUndo", spec := "fnExactUndo", apart := false, narrowed := true }
def FnExactUndoUptoSaid : Prop := fnExactUndoUptoRow.holds Try.pinned (OpenSpec.upto fnExactUndoSpec)

/-- 'laws.FnExactJoin', WHERE WHAT IT READS IS OF BULK AT MOST 1048576: true; the input reads as it did. -/
def fnExactJoinUptoRow : OpenClaim := { program := "ytkjlplcdjdenkaa", sum := "5b8d2e12b82ee913c312d02894960343001c1873ba749b101fa395560ca08a5e", func := "loop.example/g00081/laws.FnExactJoin", spec := "fnExactJoin", apart := false, narrowed := true }
def FnExactJoinUptoSaid : Prop := fnExactJoinUptoRow.holds Try.pinned (OpenSpec.upto fnExactJoinSpec)

/-- 'laws.FnForest', WHERE WHAT IT READS IS OF BULK AT MOST 1048576: true; the input reads as it did. -/
def fnForestUptoRow : OpenClaim := { program := "ytkjlplcdjdenkaa", sum := "5b8d2e12b82ee913c312d02894960343001c1873ba749b101fa395560ca08a5e", func := "loop.example/g00081/laws.FnForest", spec := "fnForest", unfollowed := true, recurses := true, apart := false, narrowed := true }
def FnForestUptoSaid : Prop := fnForestUptoRow.holds Try.pinned (OpenSpec.upto fnForestSpec)

/-- 'laws.FnExactGroupsOf', WHERE WHAT IT READS IS OF BULK AT MOST 1048576: true; the input reads as it did. -/
def fnExactGroupsOfUptoRow : OpenClaim := { program := "ytkjlplcdjdenkaa", sum := "5b8d2e12b82ee913c312d02894960343001c1873ba749b101fa395560ca08a5e", func := "loop.example/g00081/laws.FnExactGroupsOf", spec := "fnExactGroupsOf", unfollowed := true, recurses := true, apart := false, narrowed := true }
def FnExactGroupsOfUptoSaid : Prop := fnExactGroupsOfUptoRow.holds Try.pinned (OpenSpec.upto fnExactGroupsOfSpec)

/-- 'laws.FnExactCutsOk', WHERE WHAT IT READS IS OF BULK AT MOST 1048576: true; the input reads as it did. -/
def fnExactCutsOkUptoRow : OpenClaim := { program := "ytkjlplcdjdenkaa", sum := "5b8d2e12b82ee913c312d02894960343001c1873ba749b101fa395560ca08a5e", func := "loop.example/g00081/laws.FnExactCutsOk", spec := "fnExactCutsOk", unfollowed := true, recurses := true, apart := false, narrowed := true }
def FnExactCutsOkUptoSaid : Prop := fnExactCutsOkUptoRow.holds Try.pinned (OpenSpec.upto fnExactCutsOkSpec)

/-- 'laws.FnExactGraphOk', WHERE WHAT IT READS IS OF BULK AT MOST 1048576: true; the input reads as it did. -/
def fnExactGraphOkUptoRow : OpenClaim := { program := "ytkjlplcdjdenkaa", sum := "5b8d2e12b82ee913c312d02894960343001c1873ba749b101fa395560ca08a5e", func := "loop.example/g00081/laws.FnExactGraphOk", spec := "fnExactGraphOk", unfollowed := true, recurses := true, apart := false, narrowed := true }
def FnExactGraphOkUptoSaid : Prop := fnExactGraphOkUptoRow.holds Try.pinned (OpenSpec.upto fnExactGraphOkSpec)

/-- 'laws.FnExactGauge', WHERE WHAT IT READS IS OF BULK AT MOST 1048576: true; the input reads as it did. -/
def fnExactGaugeUptoRow : OpenClaim := { program := "ytkjlplcdjdenkaa", sum := "5b8d2e12b82ee913c312d02894960343001c1873ba749b101fa395560ca08a5e", func := "loop.example/g00081/laws.FnExactGauge", spec := "fnExactGauge", unfollowed := true, recurses := true, apart := false, narrowed := true }
def FnExactGaugeUptoSaid : Prop := fnExactGaugeUptoRow.holds Try.pinned (OpenSpec.upto fnExactGaugeSpec)

/-- 'laws.FnSlices', WHERE WHAT IT READS IS OF BULK AT MOST 1048576: true; the input reads as it did. -/
def fnSlicesUptoRow : OpenClaim := { program := "ytkjlplcdjdenkaa", sum := "5b8d2e12b82ee913c312d02894960343001c1873ba749b101fa395560ca08a5e", func := "loop.example/g00081/laws.FnSlices", spec := "fnSlices", unfollowed := true, recurses := true, apart := false, narrowed := true }
def FnSlicesUptoSaid : Prop := fnSlicesUptoRow.holds Try.pinned (OpenSpec.upto fnSlicesSpec)

/-- 'laws.FnExactValuesOk', WHERE WHAT IT READS IS OF BULK AT MOST 1048576: true; the input reads as it did. -/
def fnExactValuesOkUptoRow : OpenClaim := { program := "ytkjlplcdjdenkaa", sum := "5b8d2e12b82ee913c312d02894960343001c1873ba749b101fa395560ca08a5e", func := "loop.example/g00081/laws.FnExactValuesOk", spec := "fnExactValuesOk", unfollowed := true, recurses := true, apart := false, narrowed := true }
def FnExactValuesOkUptoSaid : Prop := fnExactValuesOkUptoRow.holds Try.pinned (OpenSpec.upto fnExactValuesOkSpec)

/-- 'laws.FnExactClassAt', WHERE WHAT IT READS IS OF BULK AT MOST 1048576: true; the input reads as it did. -/
def fnExactClassAtUptoRow : OpenClaim := { program := "ytkjlplcdjdenkaa", sum := "5b8d2e12b82ee913c312d02894960343001c1873ba749b101fa395560ca08a5e", func := "loop.example/g00081/laws.FnExactClassAt", spec := "fnExactClassAt", unfollowed := true, recurses := true, apart := false, narrowed := true }
def FnExactClassAtUptoSaid : Prop := fnExactClassAtUptoRow.holds Try.pinned (OpenSpec.upto fnExactClassAtSpec)

/-- 'laws.FnExactAddCuts', WHERE WHAT IT READS IS OF BULK AT MOST 1048576: true; the input reads as it did. -/
def fnExactAddCutsUptoRow : OpenClaim := { program := "ytkjlplcdjdenkaa", sum := "5b8d2e12b82ee913c312d02894960343001c1873ba749b101fa395560ca08a5e", func := "loop.example/g00081/laws.FnExactAddCuts", spec := "fnExactAddCuts", unfollowed := true, recurses := true, apart := false, narrowed := true }
def FnExactAddCutsUptoSaid : Prop := fnExactAddCutsUptoRow.holds Try.pinned (OpenSpec.upto fnExactAddCutsSpec)

end Rows
end Go.Proofs.Ytkjlplcdjdenkaa
