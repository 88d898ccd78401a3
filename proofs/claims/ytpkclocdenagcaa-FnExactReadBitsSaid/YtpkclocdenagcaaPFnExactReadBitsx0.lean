-- Written by a program of this session (a turned copy of the kit's printer); Lean checks it.
import Derived.Test.YtpkclocdenagcaaProg
import Derived.Test.YtpkclocdenagcaaLaw
import Derived.Test.YtpkclocdenagcaaShort
import Derived.Lib.Bytealg
import Derived.Lib.OthersKept
import Derived.Below
import Derived.Deep.Draws
import Derived.Deep.AppendLies
import Derived.Maps.AppendAt
import Derived.OwnWalk
import Derived.Laws.BytesArg
import Derived.Laws.MakeOwn
import Derived.Laws.OwnMore
import Derived.Deep.OwnRows
import Derived.Tactics
import Derived.Lib.ConvBytes
import Derived.Laws.Slices
import Derived.WalkKit
import Derived.KernelRfl
import Derived.RowKit3
import Derived.Deep.LoopGhost
import Derived.Deep.QuietTactic
import Derived.BigQuiet
import Derived.WideLaws
import Derived.Deep.DeepCutAuto
import Derived.Deep.CutBlock
import Derived.Deep.RegionHeld3
import Derived.Laws.Rows
import Derived.Lib.AppendStr
import Derived.ArgAppend
import Derived.Laws.IdiomCopy
import Derived.OrdersHeld
import Derived.Laws.BitsLemmas
import Derived.RowKit
import Derived.Shelf.Abstract
import Derived.Lib.SliceRun
import Derived.Test.YtpkclocdenagcaaIdx
import Derived.Test.YtpkclocdenagcaaWWords
import Derived.Test.YtpkclocdenagcaaWLast
import Derived.Test.YtpkclocdenagcaaWTab
import Derived.Test.YtpkclocdenagcaaWQPut
import Derived.Test.YtpkclocdenagcaaWApart
import Derived.Test.YtpkclocdenagcaaWArr
import Derived.Test.YtpkclocdenagcaaWZeros
import Derived.Test.YtpkclocdenagcaaWFoot
import Derived.Test.YtpkclocdenagcaaWKept
import Derived.Test.YtpkclocdenagcaaWShare
import Derived.Test.YtpkclocdenagcaaWN
import Derived.Test.YtpkclocdenagcaaWFootNe
import Derived.Test.YtpkclocdenagcaaWRepsOne
import Derived.Test.YtpkclocdenagcaaWGuard
import Derived.Test.YtpkclocdenagcaaWNEv
import Derived.Test.YtpkclocdenagcaaWMore
namespace Go.Proofs.Ytpkclocdenagcaa.PFnExactReadBits
open Go.RowKit Go.Proofs.YtpkclocdenagcaaW.PrintWords Go.Proofs.YtpkclocdenagcaaW.PrintLast Go.Proofs.YtpkclocdenagcaaW.PrintMore
attribute [local go_sem] max2_int min2_int max_two min_two max_three min_three max_four min_four   -- for this text's walks alone
set_option linter.unusedVariables false
set_option linter.unusedSimpArgs false

theorem bne_nil_ (l : List UInt8) : (l != ([] : List UInt8)) = !l.isEmpty := by cases l <;> rfl


def errW : Option Int → Value
  | none => .nilIface
  | some c => .iface 0 (.int .i64 c)
theorem errW_none : errW none = .nilIface := rfl
theorem errW_some (c : Int) : errW (some c) = .iface 0 (.int .i64 c) := rfl

theorem info5 : (Try.prog.info? 5).map (fun i => (i.zero, i.size, i.bytes)) = some (some (.int .u8 0), 1, 1) := by kernel_rfl
theorem info66 : (Try.prog.info? 66).map (fun i => (i.zero, i.size, i.bytes)) = some (some (.int .u64 0), 1, 8) := by kernel_rfl
-- the values' own types

end Go.Proofs.Ytpkclocdenagcaa.PFnExactReadBits
