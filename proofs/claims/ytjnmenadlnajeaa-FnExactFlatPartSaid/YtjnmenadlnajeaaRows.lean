/-
  No cell of these rows narrows 'for every input' (looked for: loops, veiled, ifaces, maps, wideKeys, modest, calm, conditions, laid).
  DERIVED. THE GIVEN ROWS OF THIS SEAT. 3 by the template 'for every input the law returns true; each argument reads behind the call as it read before'; 0 by the template 'total and deterministic' (their statements: YtjnmenadlnajeaaTotals.lean).
  GIVEN WITH THE SEED: the statements are not yours to turn. If you find one false, say at which input.
  Laid BY PROGRAM, IN A SANDBOX (cutbox-rows.mjs): the forced cells as the released guide's own fill.sh prints them over the translation 2bf961c6053a0744… (all of the seat's roots in one cut). By AI agents, Wed Nov 11 2026. No macro, syntax, notation, axiom, sorry.
-/
import Derived.Test.YtjnmenadlnajeaaChecked
import GoSem.Claim
import GoSem.ClaimJoined
import GoSem.ClaimMapViews
import Derived.JoinedTies
import Derived.KernelRfl
namespace Go.Proofs.Ytjnmenadlnajeaa
/- THE CELL 'sum', in the pinned program and in every row, IS THE sha256 OF THE DUMP (.gsa) THAT YtjnmenadlnajeaaProg.lean LOADS. Nothing in Lean hashes anything: it is a label: what it is worth is what the hold of that sum in a sandbox is worth. -/
noncomputable def Try.pinned : Pinned := { name := "ytjnmenadlnajeaa", sum := "2bf961c6053a07446c77da3bc61686d85e30ec00f8f052befca63247dd32d156", checked := Try.checked }
namespace Rows
def none {H : Type} : Left H := { results := [], args := [] }

/-- 'laws.FnExactFlatJoin': WHATEVER THE INPUT: true; the input reads as it did. -/
def fnExactFlatJoinSpec : ChangeSpec := { name := "fnExactFlatJoin", fn := fun _ => fun
  | [d1, d2, d3] => { results := [.lit (.bool true)], args := [d1, d2, d3] }
  | _ => none }
def fnExactFlatJoinRow : OpenClaim := { program := "ytjnmenadlnajeaa", sum := "2bf961c6053a07446c77da3bc61686d85e30ec00f8f052befca63247dd32d156", func := "loop.example/g00081/laws.FnExactFlatJoin", spec := "fnExactFlatJoin", unfollowed := true, recurses := true, apart := false }
def FnExactFlatJoinSaid : Prop := fnExactFlatJoinRow.holds Try.pinned (OpenSpec.ofChange fnExactFlatJoinSpec)

/-- ITS FALSE NEIGHBOUR: 'it returns false'. Refute it at one input. -/
def fnExactFlatJoinWrong : ChangeSpec := { name := "fnExactFlatJoin", fn := fun _ => fun
  | [d1, d2, d3] => { results := [.lit (.bool false)], args := [d1, d2, d3] }
  | _ => none }
def FnExactFlatJoinWrongFalsely : Prop := fnExactFlatJoinRow.holds Try.pinned (OpenSpec.ofChange fnExactFlatJoinWrong)

/-- 'laws.FnExactFlatEval': WHATEVER THE INPUT: true; the input reads as it did. -/
def fnExactFlatEvalSpec : ChangeSpec := { name := "fnExactFlatEval", fn := fun _ => fun
  | [d1, d2, d3] => { results := [.lit (.bool true)], args := [d1, d2, d3] }
  | _ => none }
def fnExactFlatEvalRow : OpenClaim := { program := "ytjnmenadlnajeaa", sum := "2bf961c6053a07446c77da3bc61686d85e30ec00f8f052befca63247dd32d156", func := "loop.example/g00081/laws.FnExactFlatEval", spec := "fnExactFlatEval", unfollowed := true, recurses := true, apart := false }
def FnExactFlatEvalSaid : Prop := fnExactFlatEvalRow.holds Try.pinned (OpenSpec.ofChange fnExactFlatEvalSpec)

/-- ITS FALSE NEIGHBOUR: 'it returns false'. Refute it at one input. -/
def fnExactFlatEvalWrong : ChangeSpec := { name := "fnExactFlatEval", fn := fun _ => fun
  | [d1, d2, d3] => { results := [.lit (.bool false)], args := [d1, d2, d3] }
  | _ => none }
def FnExactFlatEvalWrongFalsely : Prop := fnExactFlatEvalRow.holds Try.pinned (OpenSpec.ofChange fnExactFlatEvalWrong)

/-- 'laws.FnExactFlatPart': WHATEVER THE INPUT: true; the input reads as it did. -/
def fnExactFlatPartSpec : ChangeSpec := { name := "fnExactFlatPart", fn := fun _ => fun
  | [d1, d2, d3, d4] => { results := [.lit (.bool true)], args := [d1, d2, d3, d4] }
  | _ => none }
def fnExactFlatPartRow : OpenClaim := { program := "ytjnmenadlnajeaa", sum := "2bf961c6053a07446c77da3bc61686d85e30ec00f8f052befca63247dd32d156", func := "loop.example/g00081/laws.FnExactFlatPart", spec := "fnExactFlatPart", unfollowed := true, recurses := true, apart := false }
def FnExactFlatPartSaid : Prop := fnExactFlatPartRow.holds Try.pinned (OpenSpec.ofChange fnExactFlatPartSpec)

/-- ITS FALSE NEIGHBOUR: 'it returns false'. Refute it at one input. -/
def fnExactFlatPartWrong : ChangeSpec := { name := "fnExactFlatPart", fn := fun _ => fun
  | [d1, d2, d3, d4] => { results := [.lit (.bool false)], args := [d1, d2, d3, d4] }
  | _ => none }
def FnExactFlatPartWrongFalsely : Prop := fnExactFlatPartRow.holds Try.pinned (OpenSpec.ofChange fnExactFlatPartWrong)

/- THE SECOND FORM. 'bulk': how many values and letters a reading holds, each counted each time it is reached (what is shared counts as often as it is met; a slice's spare places count too). A statement '..UptoSaid' is the law's where the arguments, and the package variables that the reading takes, are together of bulk at most 1048576: NARROWER than '..Said'. Prove '..Said' where nothing that the law and all that it calls make is longer than what came in: it says more and counts as full. Else prove '..UptoSaid'. A law counts once. -/
mutual
def uptoBulk {H : Type} : DataW H → Nat
  | .lit (.string bytes) => bytes.length + 1
  | .lit _ => 1
  | .nil => 1
  | .ptr d => uptoBulk d + 1
  | .slice elems spare => uptoBulkAll elems + uptoBulkAll spare + 1
  | .agg parts => uptoBulkAll parts + 1
  | .iface _ d => uptoBulk d + 1
  | .map entries => uptoBulkEntries entries + 1
  | .held _ => 1
def uptoBulkAll {H : Type} : List (DataW H) → Nat
  | [] => 0
  | d :: r => uptoBulk d + uptoBulkAll r
def uptoBulkEntries {H : Type} : List (Lit × DataW H) → Nat
  | [] => 0
  | x :: r => uptoBulkEntry x + uptoBulkEntries r
def uptoBulkEntry {H : Type} : Lit × DataW H → Nat
  | (.string bytes, d) => bytes.length + uptoBulk d + 1
  | (_, d) => uptoBulk d + 1
 end
def uptoSmall : (H : Type) → List (DataW H) → Bool := fun _ ds => decide (uptoBulkAll ds ≤ 1048576)
def OpenSpec.upto (s : _root_.Go.ChangeSpec) : _root_.Go.OpenSpec := { _root_.Go.OpenSpec.ofChange s with cond := some uptoSmall }

/-- 'laws.FnExactFlatJoin', WHERE WHAT IT READS IS OF BULK AT MOST 1048576: true; the input reads as it did. -/
def fnExactFlatJoinUptoRow : OpenClaim := { program := "ytjnmenadlnajeaa", sum := "2bf961c6053a07446c77da3bc61686d85e30ec00f8f052befca63247dd32d156", func := "loop.example/g00081/laws.FnExactFlatJoin", spec := "fnExactFlatJoin", unfollowed := true, recurses := true, apart := false, narrowed := true }
def FnExactFlatJoinUptoSaid : Prop := fnExactFlatJoinUptoRow.holds Try.pinned (OpenSpec.upto fnExactFlatJoinSpec)

/-- 'laws.FnExactFlatEval', WHERE WHAT IT READS IS OF BULK AT MOST 1048576: true; the input reads as it did. -/
def fnExactFlatEvalUptoRow : OpenClaim := { program := "ytjnmenadlnajeaa", sum := "2bf961c6053a07446c77da3bc61686d85e30ec00f8f052befca63247dd32d156", func := "loop.example/g00081/laws.FnExactFlatEval", spec := "fnExactFlatEval", unfollowed := true, recurses := true, apart := false, narrowed := true }
def FnExactFlatEvalUptoSaid : Prop := fnExactFlatEvalUptoRow.holds Try.pinned (OpenSpec.upto fnExactFlatEvalSpec)

/-- 'laws.FnExactFlatPart', WHERE WHAT IT READS IS OF BULK AT MOST 1048576: true; the input reads as it did. -/
def fnExactFlatPartUptoRow : OpenClaim := { program := "ytjnmenadlnajeaa", sum := "2bf961c6053a07446c77da3bc61686d85e30ec00f8f052befca63247dd32d156", func := "loop.example/g00081/laws.FnExactFlatPart", spec := "fnExactFlatPart", unfollowed := true, recurses := true, apart := false, narrowed := true }
def FnExactFlatPartUptoSaid : Prop := fnExactFlatPartUptoRow.holds Try.pinned (OpenSpec.upto fnExactFlatPartSpec)

end Rows
end Go.Proofs.Ytjnmenadlnajeaa
