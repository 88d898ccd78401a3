/-
  No cell of these rows narrows 'for every input' (looked for: loops, veiled, ifaces, maps, wideKeys, modest, calm, conditions, laid).
  DERIVED. THE GIVEN ROWS OF THIS SEAT. 4 by the template 'for every input the law returns true; each argument reads behind the call as it read before'; 0 by the template 'total and deterministic' (their statements: YtonkicgdgpcneaaTotals.lean).
  GIVEN WITH THE SEED: the statements are not yours to turn. If you find one false, say at which input.
  Laid BY PROGRAM, IN A SANDBOX (cutbox-rows.mjs): the forced cells as the released guide's own fill.sh prints them over the translation a9b138743c6b0866… (all of the seat's roots in one cut). By AI agents, Wed Nov 11 2026. No macro, syntax, notation, axiom, sorry.
-/
import Derived.Test.YtonkicgdgpcneaaChecked
import GoSem.Claim
import GoSem.ClaimJoined
import GoSem.ClaimMapViews
import Derived.JoinedTies
import Derived.KernelRfl
namespace Go.Proofs.Ytonkicgdgpcneaa
/- THE CELL 'sum', in the pinned program and in every row, IS THE sha256 OF THE DUMP (.gsa) THAT YtonkicgdgpcneaaProg.lean LOADS. Nothing in Lean hashes anything: it is a label: what it is worth is what the hold of that sum in a sandbox is worth. -/
noncomputable def Try.pinned : Pinned := { name := "ytonkicgdgpcneaa", sum := "a9b138743c6b0866040e8b268c04bc6aad6efdbabd366674e58d3a3fd45e8824", checked := Try.checked }
namespace Rows
def none {H : Type} : Left H := { results := [], args := [] }

/-- 'laws.FnExactReasons': WHATEVER THE INPUT: true; the input reads as it did. -/
def fnExactReasonsSpec : ChangeSpec := { name := "fnExactReasons", fn := fun _ => fun
  | [d1, d2, d3] => { results := [.lit (.bool true)], args := [d1, d2, d3] }
  | _ => none }
def fnExactReasonsRow : OpenClaim := { program := "ytonkicgdgpcneaa", sum := "a9b138743c6b0866040e8b268c04bc6aad6efdbabd366674e58d3a3fd45e8824", func := "loop.example/g00081/laws.FnExactReasons", spec := "fnExactReasons", recurses := true, apart := false }
def FnExactReasonsSaid : Prop := fnExactReasonsRow.holds Try.pinned (OpenSpec.ofChange fnExactReasonsSpec)

/-- ITS FALSE NEIGHBOUR: 'it returns false'. Refute it at one input. -/
def fnExactReasonsWrong : ChangeSpec := { name := "fnExactReasons", fn := fun _ => fun
  | [d1, d2, d3] => { results := [.lit (.bool false)], args := [d1, d2, d3] }
  | _ => none }
def FnExactReasonsWrongFalsely : Prop := fnExactReasonsRow.holds Try.pinned (OpenSpec.ofChange fnExactReasonsWrong)

/-- 'laws.FnExactAddCuts': WHATEVER THE INPUT: true; the input reads as it did. -/
def fnExactAddCutsSpec : ChangeSpec := { name := "fnExactAddCuts", fn := fun _ => fun
  | [d1, d2, d3] => { results := [.lit (.bool true)], args := [d1, d2, d3] }
  | _ => none }
def fnExactAddCutsRow : OpenClaim := { program := "ytonkicgdgpcneaa", sum := "a9b138743c6b0866040e8b268c04bc6aad6efdbabd366674e58d3a3fd45e8824", func := "loop.example/g00081/laws.FnExactAddCuts", spec := "fnExactAddCuts", unfollowed := true, recurses := true, apart := false }
def FnExactAddCutsSaid : Prop := fnExactAddCutsRow.holds Try.pinned (OpenSpec.ofChange fnExactAddCutsSpec)

/-- ITS FALSE NEIGHBOUR: 'it returns false'. Refute it at one input. -/
def fnExactAddCutsWrong : ChangeSpec := { name := "fnExactAddCuts", fn := fun _ => fun
  | [d1, d2, d3] => { results := [.lit (.bool false)], args := [d1, d2, d3] }
  | _ => none }
def FnExactAddCutsWrongFalsely : Prop := fnExactAddCutsRow.holds Try.pinned (OpenSpec.ofChange fnExactAddCutsWrong)

/-- 'laws.FnSlices': WHATEVER THE INPUT: true; the input reads as it did. -/
def fnSlicesSpec : ChangeSpec := { name := "fnSlices", fn := fun _ => fun
  | [d] => { results := [.lit (.bool true)], args := [d] }
  | _ => none }
def fnSlicesRow : OpenClaim := { program := "ytonkicgdgpcneaa", sum := "a9b138743c6b0866040e8b268c04bc6aad6efdbabd366674e58d3a3fd45e8824", func := "loop.example/g00081/laws.FnSlices", spec := "fnSlices", unfollowed := true, recurses := true, apart := false }
def FnSlicesSaid : Prop := fnSlicesRow.holds Try.pinned (OpenSpec.ofChange fnSlicesSpec)

/-- ITS FALSE NEIGHBOUR: 'it returns false'. Refute it at one input. -/
def fnSlicesWrong : ChangeSpec := { name := "fnSlices", fn := fun _ => fun
  | [d] => { results := [.lit (.bool false)], args := [d] }
  | _ => none }
def FnSlicesWrongFalsely : Prop := fnSlicesRow.holds Try.pinned (OpenSpec.ofChange fnSlicesWrong)

/-- 'laws.FnReasons': WHATEVER THE INPUT: true; the input reads as it did. -/
def fnReasonsSpec : ChangeSpec := { name := "fnReasons", fn := fun _ => fun
  | [d] => { results := [.lit (.bool true)], args := [d] }
  | _ => none }
def fnReasonsRow : OpenClaim := { program := "ytonkicgdgpcneaa", sum := "a9b138743c6b0866040e8b268c04bc6aad6efdbabd366674e58d3a3fd45e8824", func := "loop.example/g00081/laws.FnReasons", spec := "fnReasons", recurses := true, apart := false }
def FnReasonsSaid : Prop := fnReasonsRow.holds Try.pinned (OpenSpec.ofChange fnReasonsSpec)

/-- ITS FALSE NEIGHBOUR: 'it returns false'. Refute it at one input. -/
def fnReasonsWrong : ChangeSpec := { name := "fnReasons", fn := fun _ => fun
  | [d] => { results := [.lit (.bool false)], args := [d] }
  | _ => none }
def FnReasonsWrongFalsely : Prop := fnReasonsRow.holds Try.pinned (OpenSpec.ofChange fnReasonsWrong)

/- THE SECOND FORM. 'bulk': how many values and letters a reading holds, each counted each time it is reached (what is shared counts as often as it is met; a slice's spare places count too). A statement '..UptoSaid' is the law's where the arguments, and the package variables that the reading takes, are together of bulk at most 1048576: NARROWER than '..Said'. Prove '..Said' where nothing that the law and all that it calls make is longer than what came in: it says more and counts as full. Else prove '..UptoSaid'. A law counts once. -/
mutual
def uptoBulk {H : Type} : DataW H → Nat
  | .lit (.string bytes) => bytes.length + 1
  | .lit _ => 1
  | .nil => 1
  | .ptr d => uptoBulk d + 1
  | .slice elems spare => uptoBulkAll elems + uptoBulkAll spare + 1
  | .agg parts => uptoBulkAll parts + 1
  | .iface _ d => uptoBulk d + 1
  | .map entries => uptoBulkEntries entries + 1
  | .held _ => 1
def uptoBulkAll {H : Type} : List (DataW H) → Nat
  | [] => 0
  | d :: r => uptoBulk d + uptoBulkAll r
def uptoBulkEntries {H : Type} : List (Lit × DataW H) → Nat
  | [] => 0
  | x :: r => uptoBulkEntry x + uptoBulkEntries r
def uptoBulkEntry {H : Type} : Lit × DataW H → Nat
  | (.string bytes, d) => bytes.length + uptoBulk d + 1
  | (_, d) => uptoBulk d + 1
 end
def uptoSmall : (H : Type) → List (DataW H) → Bool := fun _ ds => decide (uptoBulkAll ds ≤ 1048576)
def OpenSpec.upto (s : _root_.Go.ChangeSpec) : _root_.Go.OpenSpec := { _root_.Go.OpenSpec.ofChange s with cond := some uptoSmall }

/-- 'laws.FnExactReasons', WHERE WHAT IT READS IS OF BULK AT MOST 1048576: true; the input reads as it did. -/
def fnExactReasonsUptoRow : OpenClaim := { program := "ytonkicgdgpcneaa", sum := "a9b138743c6b0866040e8b268c04bc6aad6efdbabd366674e58d3a3fd45e8824", func := "loop.example/g00081/laws.FnExactReasons", spec := "fnExactReasons", recurses := true, apart := false, narrowed := true }
def FnExactReasonsUptoSaid : Prop := fnExactReasonsUptoRow.holds Try.pinned (OpenSpec.upto fnExactReasonsSpec)

/-- 'laws.FnExactAddCuts', WHERE WHAT IT READS IS OF BULK AT MOST 1048576: true; the input reads as it did. -/
def fnExactAddCutsUptoRow : OpenClaim := { program := "ytonkicgdgpcneaa", sum := "a9b138743c6b0866040e8b268c04bc6aad6efdbabd366674e58d3a3fd45e8824", func := "loop.example/g00081/laws.FnExactAddCuts", spec := "fnExactAddCuts", unfollowed := true, recurses := true, apart := false, narrowed := true }
def FnExactAddCutsUptoSaid : Prop := fnExactAddCutsUptoRow.holds Try.pinned (OpenSpec.upto fnExactAddCutsSpec)

/-- 'laws.FnSlices', WHERE WHAT IT READS IS OF BULK AT MOST 1048576: true; the input reads as it did. -/
def fnSlicesUptoRow : OpenClaim := { program := "ytonkicgdgpcneaa", sum := "a9b138743c6b0866040e8b268c04bc6aad6efdbabd366674e58d3a3fd45e8824", func := "loop.example/g00081/laws.FnSlices", spec := "fnSlices", unfollowed := true, recurses := true, apart := false, narrowed := true }
def FnSlicesUptoSaid : Prop := fnSlicesUptoRow.holds Try.pinned (OpenSpec.upto fnSlicesSpec)

/-- 'laws.FnReasons', WHERE WHAT IT READS IS OF BULK AT MOST 1048576: true; the input reads as it did. -/
def fnReasonsUptoRow : OpenClaim := { program := "ytonkicgdgpcneaa", sum := "a9b138743c6b0866040e8b268c04bc6aad6efdbabd366674e58d3a3fd45e8824", func := "loop.example/g00081/laws.FnReasons", spec := "fnReasons", recurses := true, apart := false, narrowed := true }
def FnReasonsUptoSaid : Prop := fnReasonsUptoRow.holds Try.pinned (OpenSpec.upto fnReasonsSpec)

end Rows
end Go.Proofs.Ytonkicgdgpcneaa
