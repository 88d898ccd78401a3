/-
  No cell of these rows narrows 'for every input' (looked for: loops, veiled, ifaces, maps, wideKeys, modest, calm, conditions, laid).
  DERIVED. THE GIVEN ROWS OF THIS SEAT. 12 by the template 'for every input the law returns true; each argument reads behind the call as it read before'; 0 by the template 'total and deterministic' (their statements: YtipoepnmklaahaaTotals.lean).
  GIVEN WITH THE SEED: the statements are not yours to turn. If you find one false, say at which input.
  Laid BY PROGRAM, IN A SANDBOX (cutbox-rows.mjs): the forced cells as the released guide's own fill.sh prints them over the translation 75709f9073ee6b3c… (all of the seat's roots in one cut). By AI agents, Wed Nov 11 2026. No macro, syntax, notation, axiom, sorry.
-/
import Derived.Test.YtipoepnmklaahaaChecked
import GoSem.Claim
import GoSem.ClaimJoined
import GoSem.ClaimMapViews
import Derived.JoinedTies
import Derived.KernelRfl
namespace Go.Proofs.Ytipoepnmklaahaa
/- THE CELL 'sum', in the pinned program and in every row, IS THE sha256 OF THE DUMP (.gsa) THAT YtipoepnmklaahaaProg.lean LOADS. Nothing in Lean hashes anything: it is a label: what it is worth is what the hold of that sum in a sandbox is worth. -/
noncomputable def Try.pinned : Pinned := { name := "ytipoepnmklaahaa", sum := "75709f9073ee6b3c91d094173751f765777a52ac15e36e808b3d90245be2a9ad", checked := Try.checked }
namespace Rows
def none {H : Type} : Left H := { results := [], args := [] }

/-- 'laws.FnExactPartOf': WHATEVER THE INPUT: true; the input reads as it did. -/
def fnExactPartOfSpec : ChangeSpec := { name := "fnExactPartOf", fn := fun _ => fun
  | [d1, d2, d3] => { results := [.lit (.bool true)], args := [d1, d2, d3] }
  | _ => none }
def fnExactPartOfRow : OpenClaim := { program := "ytipoepnmklaahaa", sum := "75709f9073ee6b3c91d094173751f765777a52ac15e36e808b3d90245be2a9ad", func := "loop.example/g00081/laws.FnExactPartOf", spec := "fnExactPartOf", apart := false }
def FnExactPartOfSaid : Prop := fnExactPartOfRow.holds Try.pinned (OpenSpec.ofChange fnExactPartOfSpec)

/-- ITS FALSE NEIGHBOUR: 'it returns false'. Refute it at one input. -/
def fnExactPartOfWrong : ChangeSpec := { name := "fnExactPartOf", fn := fun _ => fun
  | [d1, d2, d3] => { results := [.lit (.bool false)], args := [d1, d2, d3] }
  | _ => none }
def FnExactPartOfWrongFalsely : Prop := fnExactPartOfRow.holds Try.pinned (OpenSpec.ofChange fnExactPartOfWrong)

/-- 'laws.FnExactJoinBits': WHATEVER THE INPUT: true; the input reads as it did. -/
def fnExactJoinBitsSpec : ChangeSpec := { name := "fnExactJoinBits", fn := fun _ => fun
  | [d1, d2] => { results := [.lit (.bool true)], args := [d1, d2] }
  | _ => none }
def fnExactJoinBitsRow : OpenClaim := { program := "ytipoepnmklaahaa", sum := "75709f9073ee6b3c91d094173751f765777a52ac15e36e808b3d90245be2a9ad", func := "loop.example/g00081/laws.FnExactJoinBits", spec := "fnExactJoinBits", apart := false }
def FnExactJoinBitsSaid : Prop := fnExactJoinBitsRow.holds Try.pinned (OpenSpec.ofChange fnExactJoinBitsSpec)

/-- ITS FALSE NEIGHBOUR: 'it returns false'. Refute it at one input. -/
def fnExactJoinBitsWrong : ChangeSpec := { name := "fnExactJoinBits", fn := fun _ => fun
  | [d1, d2] => { results := [.lit (.bool false)], args := [d1, d2] }
  | _ => none }
def FnExactJoinBitsWrongFalsely : Prop := fnExactJoinBitsRow.holds Try.pinned (OpenSpec.ofChange fnExactJoinBitsWrong)

/-- 'laws.FnExactRepeatBits': WHATEVER THE INPUT: true; the input reads as it did. -/
def fnExactRepeatBitsSpec : ChangeSpec := { name := "fnExactRepeatBits", fn := fun _ => fun
  | [d1, d2] => { results := [.lit (.bool true)], args := [d1, d2] }
  | _ => none }
def fnExactRepeatBitsRow : OpenClaim := { program := "ytipoepnmklaahaa", sum := "75709f9073ee6b3c91d094173751f765777a52ac15e36e808b3d90245be2a9ad", func := "loop.example/g00081/laws.FnExactRepeatBits", spec := "fnExactRepeatBits", apart := false }
def FnExactRepeatBitsSaid : Prop := fnExactRepeatBitsRow.holds Try.pinned (OpenSpec.ofChange fnExactRepeatBitsSpec)

/-- ITS FALSE NEIGHBOUR: 'it returns false'. Refute it at one input. -/
def fnExactRepeatBitsWrong : ChangeSpec := { name := "fnExactRepeatBits", fn := fun _ => fun
  | [d1, d2] => { results := [.lit (.bool false)], args := [d1, d2] }
  | _ => none }
def FnExactRepeatBitsWrongFalsely : Prop := fnExactRepeatBitsRow.holds Try.pinned (OpenSpec.ofChange fnExactRepeatBitsWrong)

/-- 'laws.FnExactWidenBits': WHATEVER THE INPUT: true; the input reads as it did. -/
def fnExactWidenBitsSpec : ChangeSpec := { name := "fnExactWidenBits", fn := fun _ => fun
  | [d1, d2, d3] => { results := [.lit (.bool true)], args := [d1, d2, d3] }
  | _ => none }
def fnExactWidenBitsRow : OpenClaim := { program := "ytipoepnmklaahaa", sum := "75709f9073ee6b3c91d094173751f765777a52ac15e36e808b3d90245be2a9ad", func := "loop.example/g00081/laws.FnExactWidenBits", spec := "fnExactWidenBits", apart := false }
def FnExactWidenBitsSaid : Prop := fnExactWidenBitsRow.holds Try.pinned (OpenSpec.ofChange fnExactWidenBitsSpec)

/-- ITS FALSE NEIGHBOUR: 'it returns false'. Refute it at one input. -/
def fnExactWidenBitsWrong : ChangeSpec := { name := "fnExactWidenBits", fn := fun _ => fun
  | [d1, d2, d3] => { results := [.lit (.bool false)], args := [d1, d2, d3] }
  | _ => none }
def FnExactWidenBitsWrongFalsely : Prop := fnExactWidenBitsRow.holds Try.pinned (OpenSpec.ofChange fnExactWidenBitsWrong)

/-- 'laws.FnExactTurnBits': WHATEVER THE INPUT: true; the input reads as it did. -/
def fnExactTurnBitsSpec : ChangeSpec := { name := "fnExactTurnBits", fn := fun _ => fun
  | [d1, d2] => { results := [.lit (.bool true)], args := [d1, d2] }
  | _ => none }
def fnExactTurnBitsRow : OpenClaim := { program := "ytipoepnmklaahaa", sum := "75709f9073ee6b3c91d094173751f765777a52ac15e36e808b3d90245be2a9ad", func := "loop.example/g00081/laws.FnExactTurnBits", spec := "fnExactTurnBits", apart := false }
def FnExactTurnBitsSaid : Prop := fnExactTurnBitsRow.holds Try.pinned (OpenSpec.ofChange fnExactTurnBitsSpec)

/-- ITS FALSE NEIGHBOUR: 'it returns false'. Refute it at one input. -/
def fnExactTurnBitsWrong : ChangeSpec := { name := "fnExactTurnBits", fn := fun _ => fun
  | [d1, d2] => { results := [.lit (.bool false)], args := [d1, d2] }
  | _ => none }
def FnExactTurnBitsWrongFalsely : Prop := fnExactTurnBitsRow.holds Try.pinned (OpenSpec.ofChange fnExactTurnBitsWrong)

/-- 'laws.FnExactNextBits': WHATEVER THE INPUT: true; the input reads as it did. -/
def fnExactNextBitsSpec : ChangeSpec := { name := "fnExactNextBits", fn := fun _ => fun
  | [d] => { results := [.lit (.bool true)], args := [d] }
  | _ => none }
def fnExactNextBitsRow : OpenClaim := { program := "ytipoepnmklaahaa", sum := "75709f9073ee6b3c91d094173751f765777a52ac15e36e808b3d90245be2a9ad", func := "loop.example/g00081/laws.FnExactNextBits", spec := "fnExactNextBits", apart := false }
def FnExactNextBitsSaid : Prop := fnExactNextBitsRow.holds Try.pinned (OpenSpec.ofChange fnExactNextBitsSpec)

/-- ITS FALSE NEIGHBOUR: 'it returns false'. Refute it at one input. -/
def fnExactNextBitsWrong : ChangeSpec := { name := "fnExactNextBits", fn := fun _ => fun
  | [d] => { results := [.lit (.bool false)], args := [d] }
  | _ => none }
def FnExactNextBitsWrongFalsely : Prop := fnExactNextBitsRow.holds Try.pinned (OpenSpec.ofChange fnExactNextBitsWrong)

/-- 'laws.FnExactTreeOk': WHATEVER THE INPUT: true; the input reads as it did. -/
def fnExactTreeOkSpec : ChangeSpec := { name := "fnExactTreeOk", fn := fun _ => fun
  | [d] => { results := [.lit (.bool true)], args := [d] }
  | _ => none }
def fnExactTreeOkRow : OpenClaim := { program := "ytipoepnmklaahaa", sum := "75709f9073ee6b3c91d094173751f765777a52ac15e36e808b3d90245be2a9ad", func := "loop.example/g00081/laws.FnExactTreeOk", spec := "fnExactTreeOk", recurses := true, apart := false }
def FnExactTreeOkSaid : Prop := fnExactTreeOkRow.holds Try.pinned (OpenSpec.ofChange fnExactTreeOkSpec)

/-- ITS FALSE NEIGHBOUR: 'it returns false'. Refute it at one input. -/
def fnExactTreeOkWrong : ChangeSpec := { name := "fnExactTreeOk", fn := fun _ => fun
  | [d] => { results := [.lit (.bool false)], args := [d] }
  | _ => none }
def FnExactTreeOkWrongFalsely : Prop := fnExactTreeOkRow.holds Try.pinned (OpenSpec.ofChange fnExactTreeOkWrong)

/-- 'laws.FnExactDepthOf': WHATEVER THE INPUT: true; the input reads as it did. -/
def fnExactDepthOfSpec : ChangeSpec := { name := "fnExactDepthOf", fn := fun _ => fun
  | [d] => { results := [.lit (.bool true)], args := [d] }
  | _ => none }
def fnExactDepthOfRow : OpenClaim := { program := "ytipoepnmklaahaa", sum := "75709f9073ee6b3c91d094173751f765777a52ac15e36e808b3d90245be2a9ad", func := "loop.example/g00081/laws.FnExactDepthOf", spec := "fnExactDepthOf", recurses := true, apart := false }
def FnExactDepthOfSaid : Prop := fnExactDepthOfRow.holds Try.pinned (OpenSpec.ofChange fnExactDepthOfSpec)

/-- ITS FALSE NEIGHBOUR: 'it returns false'. Refute it at one input. -/
def fnExactDepthOfWrong : ChangeSpec := { name := "fnExactDepthOf", fn := fun _ => fun
  | [d] => { results := [.lit (.bool false)], args := [d] }
  | _ => none }
def FnExactDepthOfWrongFalsely : Prop := fnExactDepthOfRow.holds Try.pinned (OpenSpec.ofChange fnExactDepthOfWrong)

/-- 'laws.FnExactWriteTree': WHATEVER THE INPUT: true; the input reads as it did. -/
def fnExactWriteTreeSpec : ChangeSpec := { name := "fnExactWriteTree", fn := fun _ => fun
  | [d] => { results := [.lit (.bool true)], args := [d] }
  | _ => none }
def fnExactWriteTreeRow : OpenClaim := { program := "ytipoepnmklaahaa", sum := "75709f9073ee6b3c91d094173751f765777a52ac15e36e808b3d90245be2a9ad", func := "loop.example/g00081/laws.FnExactWriteTree", spec := "fnExactWriteTree", inPlace := ["internal/abi.NoEscape"], recurses := true, apart := false }
def FnExactWriteTreeSaid : Prop := fnExactWriteTreeRow.holds Try.pinned (OpenSpec.ofChange fnExactWriteTreeSpec)

/-- ITS FALSE NEIGHBOUR: 'it returns false'. Refute it at one input. -/
def fnExactWriteTreeWrong : ChangeSpec := { name := "fnExactWriteTree", fn := fun _ => fun
  | [d] => { results := [.lit (.bool false)], args := [d] }
  | _ => none }
def FnExactWriteTreeWrongFalsely : Prop := fnExactWriteTreeRow.holds Try.pinned (OpenSpec.ofChange fnExactWriteTreeWrong)

/-- 'laws.FnExactReadTree': WHATEVER THE INPUT: true; the input reads as it did. -/
def fnExactReadTreeSpec : ChangeSpec := { name := "fnExactReadTree", fn := fun _ => fun
  | [d] => { results := [.lit (.bool true)], args := [d] }
  | _ => none }
def fnExactReadTreeRow : OpenClaim := { program := "ytipoepnmklaahaa", sum := "75709f9073ee6b3c91d094173751f765777a52ac15e36e808b3d90245be2a9ad", func := "loop.example/g00081/laws.FnExactReadTree", spec := "fnExactReadTree", apart := false }
def FnExactReadTreeSaid : Prop := fnExactReadTreeRow.holds Try.pinned (OpenSpec.ofChange fnExactReadTreeSpec)

/-- ITS FALSE NEIGHBOUR: 'it returns false'. Refute it at one input. -/
def fnExactReadTreeWrong : ChangeSpec := { name := "fnExactReadTree", fn := fun _ => fun
  | [d] => { results := [.lit (.bool false)], args := [d] }
  | _ => none }
def FnExactReadTreeWrongFalsely : Prop := fnExactReadTreeRow.holds Try.pinned (OpenSpec.ofChange fnExactReadTreeWrong)

/-- 'laws.FnTreeBack': WHATEVER THE INPUT: true; the input reads as it did. -/
def fnTreeBackSpec : ChangeSpec := { name := "fnTreeBack", fn := fun _ => fun
  | [d1, d2] => { results := [.lit (.bool true)], args := [d1, d2] }
  | _ => none }
def fnTreeBackRow : OpenClaim := { program := "ytipoepnmklaahaa", sum := "75709f9073ee6b3c91d094173751f765777a52ac15e36e808b3d90245be2a9ad", func := "loop.example/g00081/laws.FnTreeBack", spec := "fnTreeBack", inPlace := ["internal/abi.NoEscape"], recurses := true, apart := false }
def FnTreeBackSaid : Prop := fnTreeBackRow.holds Try.pinned (OpenSpec.ofChange fnTreeBackSpec)

/-- ITS FALSE NEIGHBOUR: 'it returns false'. Refute it at one input. -/
def fnTreeBackWrong : ChangeSpec := { name := "fnTreeBack", fn := fun _ => fun
  | [d1, d2] => { results := [.lit (.bool false)], args := [d1, d2] }
  | _ => none }
def FnTreeBackWrongFalsely : Prop := fnTreeBackRow.holds Try.pinned (OpenSpec.ofChange fnTreeBackWrong)

/-- 'laws.FnExactMeets': WHATEVER THE INPUT: true; the input reads as it did. -/
def fnExactMeetsSpec : ChangeSpec := { name := "fnExactMeets", fn := fun _ => fun
  | [d1, d2] => { results := [.lit (.bool true)], args := [d1, d2] }
  | _ => none }
def fnExactMeetsRow : OpenClaim := { program := "ytipoepnmklaahaa", sum := "75709f9073ee6b3c91d094173751f765777a52ac15e36e808b3d90245be2a9ad", func := "loop.example/g00081/laws.FnExactMeets", spec := "fnExactMeets", unfollowed := true, recurses := true, apart := false }
def FnExactMeetsSaid : Prop := fnExactMeetsRow.holds Try.pinned (OpenSpec.ofChange fnExactMeetsSpec)

/-- ITS FALSE NEIGHBOUR: 'it returns false'. Refute it at one input. -/
def fnExactMeetsWrong : ChangeSpec := { name := "fnExactMeets", fn := fun _ => fun
  | [d1, d2] => { results := [.lit (.bool false)], args := [d1, d2] }
  | _ => none }
def FnExactMeetsWrongFalsely : Prop := fnExactMeetsRow.holds Try.pinned (OpenSpec.ofChange fnExactMeetsWrong)

/- THE SECOND FORM. 'bulk': how many values and letters a reading holds, each counted each time it is reached (what is shared counts as often as it is met; a slice's spare places count too). A statement '..UptoSaid' is the law's where the arguments, and the package variables that the reading takes, are together of bulk at most 1048576: NARROWER than '..Said'. Prove '..Said' where nothing that the law and all that it calls make is longer than what came in: it says more and counts as full. Else prove '..UptoSaid'. A law counts once. -/
mutual
def uptoBulk {H : Type} : DataW H → Nat
  | .lit (.string bytes) => bytes.length + 1
  | .lit _ => 1
  | .nil => 1
  | .ptr d => uptoBulk d + 1
  | .slice elems spare => uptoBulkAll elems + uptoBulkAll spare + 1
  | .agg parts => uptoBulkAll parts + 1
  | .iface _ d => uptoBulk d + 1
  | .map entries => uptoBulkEntries entries + 1
  | .held _ => 1
def uptoBulkAll {H : Type} : List (DataW H) → Nat
  | [] => 0
  | d :: r => uptoBulk d + uptoBulkAll r
def uptoBulkEntries {H : Type} : List (Lit × DataW H) → Nat
  | [] => 0
  | x :: r => uptoBulkEntry x + uptoBulkEntries r
def uptoBulkEntry {H : Type} : Lit × DataW H → Nat
  | (.string bytes, d) => bytes.length + uptoBulk d + 1
  | (_, d) => uptoBulk d + 1
 end
def uptoSmall : (H : Type) → List (DataW H) → Bool := fun _ ds => decide (uptoBulkAll ds ≤ 1048576)
def OpenSpec.upto (s : _root_.Go.ChangeSpec) : _root_.Go.OpenSpec := { _root_.Go.OpenSpec.ofChange s with cond := some uptoSmall }

/-- 'laws.FnExactPartOf', WHERE WHAT IT READS IS OF BULK AT MOST 1048576: true; the input reads as it did. -/
def fnExactPartOfUptoRow : OpenClaim := { program := "ytipoepnmklaahaa", sum := "75709f9073ee6b3c91d094173751f765777a52ac15e36e808b3d90245be2a9ad", func := "loop.example/g00081/laws.FnExactPartOf", spec := "fnExactPartOf", apart := false, narrowed := true }
def FnExactPartOfUptoSaid : Prop := fnExactPartOfUptoRow.holds Try.pinned (OpenSpec.upto fnExactPartOfSpec)

/-- 'laws.FnExactJoinBits', WHERE WHAT IT READS IS OF BULK AT MOST 1048576: true; the input reads as it did. -/
def fnExactJoinBitsUptoRow : OpenClaim := { program := "ytipoepnmklaahaa", sum := "75709f9073ee6b3c91d094173751f765777a52ac15e36e808b3d90245be2a9ad", func := "loop.example/g00081/laws.FnExactJoinBits", spec := "fnExactJoinBits", apart := false, narrowed := true }
def FnExactJoinBitsUptoSaid : Prop := fnExactJoinBitsUptoRow.holds Try.pinned (OpenSpec.upto fnExactJoinBitsSpec)

/-- 'laws.FnExactRepeatBits', WHERE WHAT IT READS IS OF BULK AT MOST 1048576: true; the input reads as it did. -/
def fnExactRepeatBitsUptoRow : OpenClaim := { program := "ytipoepnmklaahaa", sum := "75709f9073ee6b3c91d094173751f765777a52ac15e36e808b3d90245be2a9ad", func := "loop.example/g00081/laws.FnExactRepeatBits", spec := "fnExactRepeatBits", apart := false, narrowed := true }
def FnExactRepeatBitsUptoSaid : Prop := fnExactRepeatBitsUptoRow.holds Try.pinned (OpenSpec.upto fnExactRepeatBitsSpec)

/-- 'laws.FnExactWidenBits', WHERE WHAT IT READS IS OF BULK AT MOST 1048576: true; the input reads as it did. -/
def fnExactWidenBitsUptoRow : OpenClaim := { program := "ytipoepnmklaahaa", sum := "75709f9073ee6b3c91d094173751f765777a52ac15e36e808b3d90245be2a9ad", func := "loop.example/g00081/laws.FnExactWidenBits", spec := "fnExactWidenBits", apart := false, narrowed := true }
def FnExactWidenBitsUptoSaid : Prop := fnExactWidenBitsUptoRow.holds Try.pinned (OpenSpec.upto fnExactWidenBitsSpec)

/-- 'laws.FnExactTurnBits', WHERE WHAT IT READS IS OF BULK AT MOST 1048576: true; the input reads as it did. -/
def fnExactTurnBitsUptoRow : OpenClaim := { program := "ytipoepnmklaahaa", sum := "75709f9073ee6b3c91d094173751f765777a52ac15e36e808b3d90245be2a9ad", func := "loop.example/g00081/laws.FnExactTurnBits", spec := "fnExactTurnBits", apart := false, narrowed := true }
def FnExactTurnBitsUptoSaid : Prop := fnExactTurnBitsUptoRow.holds Try.pinned (OpenSpec.upto fnExactTurnBitsSpec)

/-- 'laws.FnExactNextBits', WHERE WHAT IT READS IS OF BULK AT MOST 1048576: true; the input reads as it did. -/
def fnExactNextBitsUptoRow : OpenClaim := { program := "ytipoepnmklaahaa", sum := "75709f9073ee6b3c91d094173751f765777a52ac15e36e808b3d90245be2a9ad", func := "loop.example/g00081/laws.FnExactNextBits", spec := "fnExactNextBits", apart := false, narrowed := true }
def FnExactNextBitsUptoSaid : Prop := fnExactNextBitsUptoRow.holds Try.pinned (OpenSpec.upto fnExactNextBitsSpec)

/-- 'laws.FnExactTreeOk', WHERE WHAT IT READS IS OF BULK AT MOST 1048576: true; the input reads as it did. -/
def fnExactTreeOkUptoRow : OpenClaim := { program := "ytipoepnmklaahaa", sum := "75709f9073ee6b3c91d094173751f765777a52ac15e36e808b3d90245be2a9ad", func := "loop.example/g00081/laws.FnExactTreeOk", spec := "fnExactTreeOk", recurses := true, apart := false, narrowed := true }
def FnExactTreeOkUptoSaid : Prop := fnExactTreeOkUptoRow.holds Try.pinned (OpenSpec.upto fnExactTreeOkSpec)

/-- 'laws.FnExactDepthOf', WHERE WHAT IT READS IS OF BULK AT MOST 1048576: true; the input reads as it did. -/
def fnExactDepthOfUptoRow : OpenClaim := { program := "ytipoepnmklaahaa", sum := "75709f9073ee6b3c91d094173751f765777a52ac15e36e808b3d90245be2a9ad", func := "loop.example/g00081/laws.FnExactDepthOf", spec := "fnExactDepthOf", recurses := true, apart := false, narrowed := true }
def FnExactDepthOfUptoSaid : Prop := fnExactDepthOfUptoRow.holds Try.pinned (OpenSpec.upto fnExactDepthOfSpec)

/-- 'laws.FnExactWriteTree', WHERE WHAT IT READS IS OF BULK AT MOST 1048576: true; the input reads as it did. -/
def fnExactWriteTreeUptoRow : OpenClaim := { program := "ytipoepnmklaahaa", sum := "75709f9073ee6b3c91d094173751f765777a52ac15e36e808b3d90245be2a9ad", func := "loop.example/g00081/laws.FnExactWriteTree", spec := "fnExactWriteTree", inPlace := ["internal/abi.NoEscape"], recurses := true, apart := false, narrowed := true }
def FnExactWriteTreeUptoSaid : Prop := fnExactWriteTreeUptoRow.holds Try.pinned (OpenSpec.upto fnExactWriteTreeSpec)

/-- 'laws.FnExactReadTree', WHERE WHAT IT READS IS OF BULK AT MOST 1048576: true; the input reads as it did. -/
def fnExactReadTreeUptoRow : OpenClaim := { program := "ytipoepnmklaahaa", sum := "75709f9073ee6b3c91d094173751f765777a52ac15e36e808b3d90245be2a9ad", func := "loop.example/g00081/laws.FnExactReadTree", spec := "fnExactReadTree", apart := false, narrowed := true }
def FnExactReadTreeUptoSaid : Prop := fnExactReadTreeUptoRow.holds Try.pinned (OpenSpec.upto fnExactReadTreeSpec)

/-- 'laws.FnTreeBack', WHERE WHAT IT READS IS OF BULK AT MOST 1048576: true; the input reads as it did. -/
def fnTreeBackUptoRow : OpenClaim := { program := "ytipoepnmklaahaa", sum := "75709f9073ee6b3c91d094173751f765777a52ac15e36e808b3d90245be2a9ad", func := "loop.example/g00081/laws.FnTreeBack", spec := "fnTreeBack", inPlace := ["internal/abi.NoEscape"], recurses := true, apart := false, narrowed := true }
def FnTreeBackUptoSaid : Prop := fnTreeBackUptoRow.holds Try.pinned (OpenSpec.upto fnTreeBackSpec)

/-- 'laws.FnExactMeets', WHERE WHAT IT READS IS OF BULK AT MOST 1048576: true; the input reads as it did. -/
def fnExactMeetsUptoRow : OpenClaim := { program := "ytipoepnmklaahaa", sum := "75709f9073ee6b3c91d094173751f765777a52ac15e36e808b3d90245be2a9ad", func := "loop.example/g00081/laws.FnExactMeets", spec := "fnExactMeets", unfollowed := true, recurses := true, apart := false, narrowed := true }
def FnExactMeetsUptoSaid : Prop := fnExactMeetsUptoRow.holds Try.pinned (OpenSpec.upto fnExactMeetsSpec)

end Rows
end Go.Proofs.Ytipoepnmklaahaa
