/-
  No cell of these rows narrows 'for every input' (looked for: loops, veiled, ifaces, maps, wideKeys, modest, calm, conditions, laid).
  DERIVED. THE GIVEN ROWS OF THIS SEAT. 3 by the template 'for every input the law returns true; each argument reads behind the call as it read before'; 0 by the template 'total and deterministic' (their statements: YtjjlcmfjmdfedaaTotals.lean).
  GIVEN WITH THE SEED: the statements are not yours to turn. If you find one false, say at which input.
  Laid BY PROGRAM, IN A SANDBOX (cutbox-rows.mjs): the forced cells as the released guide's own fill.sh prints them over the translation df0a85c2f4886e15… (all of the seat's roots in one cut). By AI agents, Wed Nov 11 2026. No macro, syntax, notation, axiom, sorry.
-/
import Derived.Test.YtjjlcmfjmdfedaaChecked
import GoSem.Claim
import GoSem.ClaimJoined
import GoSem.ClaimMapViews
import Derived.JoinedTies
import Derived.KernelRfl
namespace Go.Proofs.Ytjjlcmfjmdfedaa
/- THE CELL 'sum', in the pinned program and in every row, IS THE sha256 OF THE DUMP (.gsa) THAT YtjjlcmfjmdfedaaProg.lean LOADS. Nothing in Lean hashes anything: it is a label: what it is worth is what the hold of that sum in a sandbox is worth. -/
noncomputable def Try.pinned : Pinned := { name := "ytjjlcmfjmdfedaa", sum := "df0a85c2f4886e156816ad989ec701c41dcc4afc3b63fb4a2c8e7fa9c85c4714", checked := Try.checked }
namespace Rows
def none {H : Type} : Left H := { results := [], args := [] }

/-- 'laws.FnExactWriteTree': WHATEVER THE INPUT: true; the input reads as it did. -/
def fnExactWriteTreeSpec : ChangeSpec := { name := "fnExactWriteTree", fn := fun _ => fun
  | [d] => { results := [.lit (.bool true)], args := [d] }
  | _ => none }
def fnExactWriteTreeRow : OpenClaim := { program := "ytjjlcmfjmdfedaa", sum := "df0a85c2f4886e156816ad989ec701c41dcc4afc3b63fb4a2c8e7fa9c85c4714", func := "loop.example/g00081/laws.FnExactWriteTree", spec := "fnExactWriteTree", inPlace := ["internal/abi.NoEscape"], recurses := true, apart := false }
def FnExactWriteTreeSaid : Prop := fnExactWriteTreeRow.holds Try.pinned (OpenSpec.ofChange fnExactWriteTreeSpec)

/-- ITS FALSE NEIGHBOUR: 'it returns false'. Refute it at one input. -/
def fnExactWriteTreeWrong : ChangeSpec := { name := "fnExactWriteTree", fn := fun _ => fun
  | [d] => { results := [.lit (.bool false)], args := [d] }
  | _ => none }
def FnExactWriteTreeWrongFalsely : Prop := fnExactWriteTreeRow.holds Try.pinned (OpenSpec.ofChange fnExactWriteTreeWrong)

/-- 'laws.FnExactReadTree': WHATEVER THE INPUT: true; the input reads as it did. -/
def fnExactReadTreeSpec : ChangeSpec := { name := "fnExactReadTree", fn := fun _ => fun
  | [d] => { results := [.lit (.bool true)], args := [d] }
  | _ => none }
def fnExactReadTreeRow : OpenClaim := { program := "ytjjlcmfjmdfedaa", sum := "df0a85c2f4886e156816ad989ec701c41dcc4afc3b63fb4a2c8e7fa9c85c4714", func := "loop.example/g00081/laws.FnExactReadTree", spec := "fnExactReadTree", apart := false }
def FnExactReadTreeSaid : Prop := fnExactReadTreeRow.holds Try.pinned (OpenSpec.ofChange fnExactReadTreeSpec)

/-- ITS FALSE NEIGHBOUR: 'it returns false'. Refute it at one input. -/
def fnExactReadTreeWrong : ChangeSpec := { name := "fnExactReadTree", fn := fun _ => fun
  | [d] => { results := [.lit (.bool false)], args := [d] }
  | _ => none }
def FnExactReadTreeWrongFalsely : Prop := fnExactReadTreeRow.holds Try.pinned (OpenSpec.ofChange fnExactReadTreeWrong)

/-- 'laws.FnTreeBack': WHATEVER THE INPUT: true; the input reads as it did. -/
def fnTreeBackSpec : ChangeSpec := { name := "fnTreeBack", fn := fun _ => fun
  | [d1, d2] => { results := [.lit (.bool true)], args := [d1, d2] }
  | _ => none }
def fnTreeBackRow : OpenClaim := { program := "ytjjlcmfjmdfedaa", sum := "df0a85c2f4886e156816ad989ec701c41dcc4afc3b63fb4a2c8e7fa9c85c4714", func := "loop.example/g00081/laws.FnTreeBack", spec := "fnTreeBack", inPlace := ["internal/abi.NoEscape"], recurses := true, apart := false }
def FnTreeBackSaid : Prop := fnTreeBackRow.holds Try.pinned (OpenSpec.ofChange fnTreeBackSpec)

/-- ITS FALSE NEIGHBOUR: 'it returns false'. Refute it at one input. -/
def fnTreeBackWrong : ChangeSpec := { name := "fnTreeBack", fn := fun _ => fun
  | [d1, d2] => { results := [.lit (.bool false)], args := [d1, d2] }
  | _ => none }
def FnTreeBackWrongFalsely : Prop := fnTreeBackRow.holds Try.pinned (OpenSpec.ofChange fnTreeBackWrong)

/- THE SECOND FORM. 'bulk': how many values and letters a reading holds, each counted each time it is reached (what is shared counts as often as it is met; a slice's spare places count too). A statement '..UptoSaid' is the law's where the arguments, and the package variables that the reading takes, are together of bulk at most 1048576: NARROWER than '..Said'. Prove '..Said' where nothing that the law and all that it calls make is longer than what came in: it says more and counts as full. Else prove '..UptoSaid'. A law counts once. -/
mutual
def uptoBulk {H : Type} : DataW H → Nat
  | .lit (.string bytes) => bytes.length + 1
  | .lit _ => 1
  | .nil => 1
  | .ptr d => uptoBulk d + 1
  | .slice elems spare => uptoBulkAll elems + uptoBulkAll spare + 1
  | .agg parts => uptoBulkAll parts + 1
  | .iface _ d => uptoBulk d + 1
  | .map entries => uptoBulkEntries entries + 1
  | .held _ => 1
def uptoBulkAll {H : Type} : List (DataW H) → Nat
  | [] => 0
  | d :: r => uptoBulk d + uptoBulkAll r
def uptoBulkEntries {H : Type} : List (Lit × DataW H) → Nat
  | [] => 0
  | x :: r => uptoBulkEntry x + uptoBulkEntries r
def uptoBulkEntry {H : Type} : Lit × DataW H → Nat
  | (.string bytes, d) => bytes.length + uptoBulk d + 1
  | (_, d) => uptoBulk d + 1
 end
def uptoSmall : (H : Type) → List (DataW H) → Bool := fun _ ds => decide (uptoBulkAll ds ≤ 1048576)
def OpenSpec.upto (s : _root_.Go.ChangeSpec) : _root_.Go.OpenSpec := { _root_.Go.OpenSpec.ofChange s with cond := some uptoSmall }

/-- 'laws.FnExactWriteTree', WHERE WHAT IT READS IS OF BULK AT MOST 1048576: true; the input reads as it did. -/
def fnExactWriteTreeUptoRow : OpenClaim := { program := "ytjjlcmfjmdfedaa", sum := "df0a85c2f4886e156816ad989ec701c41dcc4afc3b63fb4a2c8e7fa9c85c4714", func := "loop.example/g00081/laws.FnExactWriteTree", spec := "fnExactWriteTree", inPlace := ["internal/abi.NoEscape"], recurses := true, apart := false, narrowed := true }
def FnExactWriteTreeUptoSaid : Prop := fnExactWriteTreeUptoRow.holds Try.pinned (OpenSpec.upto fnExactWriteTreeSpec)

/-- 'laws.FnExactReadTree', WHERE WHAT IT READS IS OF BULK AT MOST 1048576: true; the input reads as it did. -/
def fnExactReadTreeUptoRow : OpenClaim := { program := "ytjjlcmfjmdfedaa", sum := "df0a85c2f4886e156816ad989ec701c41dcc4afc3b63fb4a2c8e7fa9c85c4714", func := "loop.example/g00081/laws.FnExactReadTree", spec := "fnExactReadTree", apart := false, narrowed := true }
def FnExactReadTreeUptoSaid : Prop := fnExactReadTreeUptoRow.holds Try.pinned (OpenSpec.upto fnExactReadTreeSpec)

/-- 'laws.FnTreeBack', WHERE WHAT IT READS IS OF BULK AT MOST 1048576: true; the input reads as it did. -/
def fnTreeBackUptoRow : OpenClaim := { program := "ytjjlcmfjmdfedaa", sum := "df0a85c2f4886e156816ad989ec701c41dcc4afc3b63fb4a2c8e7fa9c85c4714", func := "loop.example/g00081/laws.FnTreeBack", spec := "fnTreeBack", inPlace := ["internal/abi.NoEscape"], recurses := true, apart := false, narrowed := true }
def FnTreeBackUptoSaid : Prop := fnTreeBackUptoRow.holds Try.pinned (OpenSpec.upto fnTreeBackSpec)

end Rows
end Go.Proofs.Ytjjlcmfjmdfedaa
