-- Written by a program of this session (a turned copy of the kit's printer); Lean checks it.
import Derived.Test.YtipoepnmklaahaaProg
import Derived.Below
import Derived.Deep.Draws
import Derived.Deep.AppendLies
import Derived.Maps.AppendAt
import Derived.OwnWalk
import Derived.Laws.BytesArg
import Derived.Laws.MakeOwn
import Derived.Laws.OwnMore
import Derived.Deep.OwnRows
import Derived.Tactics
import Derived.Lib.ConvBytes
import Derived.Laws.Slices
import Derived.WalkKit
import Derived.KernelRfl
import Derived.RowKit3
import Derived.Deep.LoopGhost
import Derived.Deep.QuietTactic
import Derived.BigQuiet
import Derived.WideLaws
import Derived.Deep.DeepCutAuto
import Derived.Deep.CutBlock
import Derived.Deep.RegionHeld3
import Derived.Laws.Rows
import Derived.Lib.AppendStr
import Derived.ArgAppend
import Derived.Laws.IdiomCopy
import Derived.OrdersHeld
import Derived.Laws.BitsLemmas
import Derived.RowKit
import Derived.Shelf.Abstract
import Derived.Lib.SliceRun
import Derived.Test.YtipoepnmklaahaaIdx
import Derived.Test.YtipoepnmklaahaaWWords
import Derived.Test.YtipoepnmklaahaaWLast
import Derived.Test.YtipoepnmklaahaaWTab
import Derived.Test.YtipoepnmklaahaaWFour
import Derived.Test.YtipoepnmklaahaaWQPut
import Derived.Test.YtipoepnmklaahaaWApart
import Derived.Test.YtipoepnmklaahaaWArr
import Derived.Test.YtipoepnmklaahaaWZeros
import Derived.Test.YtipoepnmklaahaaWFoot
import Derived.Test.YtipoepnmklaahaaWKept
import Derived.Test.YtipoepnmklaahaaWShare
import Derived.Test.YtipoepnmklaahaaWN
import Derived.Test.YtipoepnmklaahaaWFootNe
import Derived.Test.YtipoepnmklaahaaWAt
import Derived.Test.YtipoepnmklaahaaWEqStruct
import Derived.Test.YtipoepnmklaahaaWRepsOne
import Derived.Test.YtipoepnmklaahaaWInv
import Derived.Test.YtipoepnmklaahaaWInvWords
import Derived.Test.YtipoepnmklaahaaWGuard
import Derived.Test.YtipoepnmklaahaaWNEv
import Derived.Test.YtipoepnmklaahaaWMore
namespace Go.Proofs.Ytipoepnmklaahaa.PFnExactJoinBits
open Go.RowKit Go.Proofs.YtipoepnmklaahaaW.PrintWords Go.Proofs.YtipoepnmklaahaaW.PrintLast Go.Proofs.YtipoepnmklaahaaW.PrintMore
attribute [local go_sem] max2_int min2_int max_two min_two max_three min_three max_four min_four   -- for this text's walks alone
set_option linter.unusedVariables false
set_option linter.unusedSimpArgs false

theorem bne_nil_ (l : List UInt8) : (l != ([] : List UInt8)) = !l.isEmpty := by cases l <;> rfl


def errW : Option Int → Value
  | none => .nilIface
  | some c => .iface 0 (.int .i64 c)
theorem errW_none : errW none = .nilIface := rfl
theorem errW_some (c : Int) : errW (some c) = .iface 0 (.int .i64 c) := rfl

theorem info5 : (Try.prog.info? 5).map (fun i => (i.zero, i.size, i.bytes)) = some (some (.int .u8 0), 1, 1) := by kernel_rfl
theorem info87 : (Try.prog.info? 87).map (fun i => (i.zero, i.size, i.bytes)) = some (some (.int .u64 0), 1, 8) := by kernel_rfl
-- the values' own types

end Go.Proofs.Ytipoepnmklaahaa.PFnExactJoinBits
