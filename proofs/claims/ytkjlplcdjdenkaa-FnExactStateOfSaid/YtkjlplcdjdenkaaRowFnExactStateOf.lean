/- The row of the law FnExactStateOf: its arguments are opened, and the printed contract of the law's own function answers. -/
import Derived.Test.YtkjlplcdjdenkaaRows
import Derived.Test.YtkjlplcdjdenkaaPFnExactStateOfx4
import Derived.Test.YtkjlplcdjdenkaaPureFnExactStateOf
import Derived.Test.YtkjlplcdjdenkaaOpener
import Derived.WalkKit
import Derived.ProofKit
import Derived.OpenShut
import Derived.ShutString
import Derived.ChangeOld
import Derived.Below
import Derived.SizedLaws
namespace Go.Proofs.Ytkjlplcdjdenkaa.fnExactStateOf
open Go.ChangeShapes Go.WideShapes Go.ChangeAt Go.RowKit Go.Proofs.Ytkjlplcdjdenkaa.Opener Go.Proofs.Ytkjlplcdjdenkaa.PFnExactStateOf Go.Proofs.YtkjlplcdjdenkaaW.PrintWords
set_option linter.unusedVariables false
theorem own : ownKnob Try.prog.godebug = none := by kernel_rfl
theorem laidOut : laidOutB Try.prog = true := by kernel_rfl
theorem op212 : Opens Try.prog 212 (Kd.int .u64) (QI .u64) := Opens.int Try.underlying212 (by kernel_rfl)
theorem op148 : Opens Try.prog 148 (Kd.slice 212 (Kd.int .u64)) (QL (QI .u64)) := Opens.slice Try.underlying148 (by kernel_rfl) op212
theorem op2 : Opens Try.prog 2 (Kd.int .i64) (QI .i64) := Opens.int Try.underlying2 (by kernel_rfl)
theorem op161r : Opens Try.prog 161 (Kd.pair (Kd.int .i64) (Kd.slice 212 (Kd.int .u64))) (QP (QI .i64) (QL (QI .u64))) := Opens.struct Try.underlying161 2 (by kernel_rfl) rfl (OpensFs.cons rfl op2 (OpensFs.one rfl op148))
theorem op161k : Opens Try.prog 161 k161 (QF (QP (QI .i64) (QL (QI .u64))) (fun x : S161 => (x.f0, x.f1))) := Opens.iso (fun x : S161 => (x.f0, x.f1)) (fun y => ⟨y.1, y.2⟩) (fun _ => rfl) op161r
theorem op191r : Opens Try.prog 191 (Kd.pair (Kd.int .i64) (Kd.pair (Kd.int .i64) k161)) (QP (QI .i64) (QP (QI .i64) (QF (QP (QI .i64) (QL (QI .u64))) (fun x : S161 => (x.f0, x.f1))))) := Opens.struct Try.underlying191 4 (by kernel_rfl) rfl (OpensFs.cons rfl op2 (OpensFs.cons rfl op2 (OpensFs.one rfl op161k)))
theorem op191k : Opens Try.prog 191 k191 (QF (QP (QI .i64) (QP (QI .i64) (QF (QP (QI .i64) (QL (QI .u64))) (fun x : S161 => (x.f0, x.f1))))) (fun x : S191 => (x.f0, x.f1, x.f2))) := Opens.iso (fun x : S191 => (x.f0, x.f1, x.f2)) (fun y => ⟨y.1, y.2.1, y.2.2⟩) (fun _ => rfl) op191r
theorem op72 : Opens Try.prog 72 (Kd.slice 191 k191) (QL (QF (QP (QI .i64) (QP (QI .i64) (QF (QP (QI .i64) (QL (QI .u64))) (fun x : S161 => (x.f0, x.f1))))) (fun x : S191 => (x.f0, x.f1, x.f2)))) := Opens.slice Try.underlying72 (by kernel_rfl) op191k
theorem op117r : Opens Try.prog 117 (Kd.pair (Kd.int .i64) (Kd.pair (Kd.int .i64) (Kd.slice 191 k191))) (QP (QI .i64) (QP (QI .i64) (QL (QF (QP (QI .i64) (QP (QI .i64) (QF (QP (QI .i64) (QL (QI .u64))) (fun x : S161 => (x.f0, x.f1))))) (fun x : S191 => (x.f0, x.f1, x.f2)))))) := Opens.struct Try.underlying117 3 (by kernel_rfl) rfl (OpensFs.cons rfl op2 (OpensFs.cons rfl op2 (OpensFs.one rfl op72)))
theorem op117k : Opens Try.prog 117 k117 (QF (QP (QI .i64) (QP (QI .i64) (QL (QF (QP (QI .i64) (QP (QI .i64) (QF (QP (QI .i64) (QL (QI .u64))) (fun x : S161 => (x.f0, x.f1))))) (fun x : S191 => (x.f0, x.f1, x.f2)))))) (fun x : S117 => (x.f0, x.f1, x.f2))) := Opens.iso (fun x : S117 => (x.f0, x.f1, x.f2)) (fun y => ⟨y.1, y.2.1, y.2.2⟩) (fun _ => rfl) op117r
theorem op22 : Opens Try.prog 22 (Kd.slice 117 k117) (QL (QF (QP (QI .i64) (QP (QI .i64) (QL (QF (QP (QI .i64) (QP (QI .i64) (QF (QP (QI .i64) (QL (QI .u64))) (fun x : S161 => (x.f0, x.f1))))) (fun x : S191 => (x.f0, x.f1, x.f2)))))) (fun x : S117 => (x.f0, x.f1, x.f2)))) := Opens.slice Try.underlying22 (by kernel_rfl) op117k
set_option maxRecDepth 100000 in
theorem lifted (os : Os) (started : os.Started) (H : Type) (enc : TypeId × Value → H) :
    ReturnsInHanded {} Try.checked os 3 .any (Rows.fnExactStateOfSpec.pre6 enc Try.prog Try.f3 Rows.fnExactStateOfRow.domain false) (Rows.fnExactStateOfSpec.post enc Try.prog Try.f3 false true false false) := by
  refine returnsInHanded_of_change_sized (C := Try.checked) own started (by kernel_rfl) Try.func3
    (ChangeSpec.witness6 (enc := enc) (C := Try.checked) false ⟨#[], #[.slice none 0 0, .int .i64 0], []⟩ 8 (by kernel_rfl) (by kernel_rfl) (by kernel_rfl) (by kernel_rfl)) ?_
  intro W base args ds gs before hval0 hW hcnd hsz0 _
  have hval : ∀ (j : Nat) t v, Try.f3.params[j]? = some t → args[j]? = some v → Value.okWide Try.prog W .any base t v := hval0
  have hW' := hW
  obtain ⟨p, q, hA0, hV, rfl, hfz, hnd⟩ := hW
  have hA : DataW.TrodAll enc Try.prog W 0 (fun _ => true) true Try.f3.params.toList args.toList ds p := hA0
  rw [Try.params3] at hA hval
  obtain ⟨v0, vs0, d0, ds0, p0, q0, hargs, rfl, rfl, h0, r0⟩ := trodAll_cons hA
  obtain ⟨v1, vs1, d1, ds1, p1, q1, rfl, rfl, rfl, h1, r1⟩ := trodAll_cons r0
  obtain ⟨rfl, rfl, rfl⟩ := trodAll_nil r1
  obtain rfl : args = #[v0, v1] := by cases args; simp_all
  obtain ⟨rfl, rfl⟩ := trodVars_none hV
  have k0 := h0
  have lt0 : ∀ x ∈ p0, x.block < W.heap.size := by obtain ⟨m, hm⟩ := k0; exact DataW.trod_lt m _ _ _ hm
  obtain ⟨y0, hK0, hq0⟩ := trod_agg op22 h0
  obtain ⟨a0, len0, cap0, rfl⟩ := okWide_slice Try.underlying22 (hval 0 22 v0 rfl rfl)
  obtain ⟨A0, c0, e0, hc0, hr0⟩ := hK0
  simp only [Value.cells, List.cons.injEq, Value.slice.injEq, and_true] at e0
  obtain ⟨rfl, rfl, rfl⟩ := e0
  have k1 := h1
  have lt1 : ∀ x ∈ p1, x.block < W.heap.size := by obtain ⟨m, hm⟩ := k1; exact DataW.trod_lt m _ _ _ hm
  obtain ⟨y1, hK1, hq1⟩ := trod_agg op2 h1
  obtain ⟨a1, rfl⟩ := okWide_int Try.underlying2 (hval 1 2 v1 rfl rfl)
  obtain rfl : a1 = y1 := by have e : [_] = [_] := hK1; simpa [Value.cells] using e
  clear hA0 hval0 hsz0
  obtain ⟨k, h⟩ := Pure.FnExactStateOf (y0) (a1) (hq0.2) (hq0.1) (hq1)
  refine (PFnExactStateOf.laws_FnExactStateOf.calls k _ _ (y0) (a1) true W hr0 hc0 h rfl).mono fun e W' ⟨he, bel0⟩ => ?_
  have bel : Below W.heap.size W W' := bel0
  subst he
  exact ⟨_, rfl, _, _, _, [], _, [], hW', trodAll_mk1 (shut_bool Try.underlying4 _), (trodAll_cons_mk (Below.trod laidOut (by kernel_rfl) (of_decide_eq_true (by kernel_rfl)) k0 bel lt0) (trodAll_cons_mk (Below.trod laidOut (by kernel_rfl) (of_decide_eq_true (by kernel_rfl)) k1 bel lt1) trodAll_mk0)), rfl, bel.frame _, fun h => by cases h⟩
theorem over : Rows.fnExactStateOfRow.holds Try.pinned (OpenSpec.ofChange Rows.fnExactStateOfSpec) :=
  OpenClaim.holds_of_wide 3 Try.f3 rfl rfl rfl rfl rfl rfl rfl ⟨rfl, rfl, rfl, rfl, rfl⟩ rfl rfl rfl rfl rfl (by kernel_rfl) Try.func3 (by kernel_rfl)
    (of_decide_eq_true (by kernel_rfl)) (by unfold Func.isWrapper; first | (rw [if_pos (by decide +kernel)]; kernel_rfl) | (rw [if_neg (by decide +kernel)]; exact ⟨rfl, rfl⟩))
    (fun os started H enc _ => lifted os started H enc)
theorem proved : Rows.FnExactStateOfSaid := over
#print axioms proved
end Go.Proofs.Ytkjlplcdjdenkaa.fnExactStateOf
namespace Go.Proofs.Ytkjlplcdjdenkaa
/-- The row, under a short name, for the claim. -/
theorem fnExactStateOf_holds : Rows.FnExactStateOfSaid := fnExactStateOf.proved
end Go.Proofs.Ytkjlplcdjdenkaa
