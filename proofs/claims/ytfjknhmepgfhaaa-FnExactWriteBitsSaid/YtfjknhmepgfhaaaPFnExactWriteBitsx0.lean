-- Written by a program of this session (a turned copy of the kit's printer); Lean checks it.
import Derived.Test.YtfjknhmepgfhaaaProg
import Derived.Below
import Derived.Deep.Draws
import Derived.Deep.AppendLies
import Derived.Maps.AppendAt
import Derived.OwnWalk
import Derived.Laws.BytesArg
import Derived.Laws.MakeOwn
import Derived.Laws.OwnMore
import Derived.Deep.OwnRows
import Derived.Tactics
import Derived.Lib.ConvBytes
import Derived.Laws.Slices
import Derived.WalkKit
import Derived.KernelRfl
import Derived.RowKit3
import Derived.Deep.LoopGhost
import Derived.Deep.QuietTactic
import Derived.BigQuiet
import Derived.WideLaws
import Derived.Deep.DeepCutAuto
import Derived.Deep.CutBlock
import Derived.Deep.RegionHeld3
import Derived.Laws.Rows
import Derived.Lib.AppendStr
import Derived.ArgAppend
import Derived.Laws.IdiomCopy
import Derived.OrdersHeld
import Derived.Laws.BitsLemmas
import Derived.RowKit
import Derived.Shelf.Abstract
import Derived.Lib.SliceRun
import Derived.Test.YtfjknhmepgfhaaaIdx
import Derived.Test.YtfjknhmepgfhaaaWWords
import Derived.Test.YtfjknhmepgfhaaaWLast
import Derived.Test.YtfjknhmepgfhaaaWTab
import Derived.Test.YtfjknhmepgfhaaaWQPut
import Derived.Test.YtfjknhmepgfhaaaWApart
import Derived.Test.YtfjknhmepgfhaaaWArr
import Derived.Test.YtfjknhmepgfhaaaWZeros
import Derived.Test.YtfjknhmepgfhaaaWFoot
import Derived.Test.YtfjknhmepgfhaaaWKept
import Derived.Test.YtfjknhmepgfhaaaWShare
import Derived.Test.YtfjknhmepgfhaaaWN
import Derived.Test.YtfjknhmepgfhaaaWFootNe
import Derived.Test.YtfjknhmepgfhaaaWRepsOne
import Derived.Test.YtfjknhmepgfhaaaWGuard
import Derived.Test.YtfjknhmepgfhaaaWNEv
import Derived.Test.YtfjknhmepgfhaaaWMore
namespace Go.Proofs.Ytfjknhmepgfhaaa.PFnExactWriteBits
open Go.RowKit Go.Proofs.YtfjknhmepgfhaaaW.PrintWords Go.Proofs.YtfjknhmepgfhaaaW.PrintLast Go.Proofs.YtfjknhmepgfhaaaW.PrintMore
attribute [local go_sem] max2_int min2_int max_two min_two max_three min_three max_four min_four   -- for this text's walks alone
set_option linter.unusedVariables false
set_option linter.unusedSimpArgs false

theorem bne_nil_ (l : List UInt8) : (l != ([] : List UInt8)) = !l.isEmpty := by cases l <;> rfl


def errW : Option Int → Value
  | none => .nilIface
  | some c => .iface 0 (.int .i64 c)
theorem errW_none : errW none = .nilIface := rfl
theorem errW_some (c : Int) : errW (some c) = .iface 0 (.int .i64 c) := rfl

theorem info5 : (Try.prog.info? 5).map (fun i => (i.zero, i.size, i.bytes)) = some (some (.int .u8 0), 1, 1) := by kernel_rfl
theorem info76 : (Try.prog.info? 76).map (fun i => (i.zero, i.size, i.bytes)) = some (some (.int .u64 0), 1, 8) := by kernel_rfl
-- the values' own types

end Go.Proofs.Ytfjknhmepgfhaaa.PFnExactWriteBits
