/- The row of the law FnExactClassAt: its arguments are opened, and the printed contract of the law's own function answers. -/
import Derived.Test.YtkjlplcdjdenkaaRows
import Derived.Test.YtkjlplcdjdenkaaPFnExactClassAtx4
import Derived.Test.YtkjlplcdjdenkaaPureFnExactClassAt
import Derived.Test.YtkjlplcdjdenkaaOpener
import Derived.WalkKit
import Derived.ProofKit
import Derived.OpenShut
import Derived.ShutString
import Derived.ChangeOld
import Derived.Below
import Derived.SizedLaws
namespace Go.Proofs.Ytkjlplcdjdenkaa.fnExactClassAt
open Go.ChangeShapes Go.WideShapes Go.ChangeAt Go.RowKit Go.Proofs.Ytkjlplcdjdenkaa.Opener Go.Proofs.Ytkjlplcdjdenkaa.PFnExactClassAt Go.Proofs.YtkjlplcdjdenkaaW.PrintWords
set_option linter.unusedVariables false
theorem own : ownKnob Try.prog.godebug = none := by kernel_rfl
theorem laidOut : laidOutB Try.prog = true := by kernel_rfl
theorem op2 : Opens Try.prog 2 (Kd.int .i64) (QI .i64) := Opens.int Try.underlying2 (by kernel_rfl)
theorem op55 : Opens Try.prog 55 (Kd.slice 2 (Kd.int .i64)) (QL (QI .i64)) := Opens.slice Try.underlying55 (by kernel_rfl) op2
theorem op212 : Opens Try.prog 212 (Kd.int .u64) (QI .u64) := Opens.int Try.underlying212 (by kernel_rfl)
theorem op148 : Opens Try.prog 148 (Kd.slice 212 (Kd.int .u64)) (QL (QI .u64)) := Opens.slice Try.underlying148 (by kernel_rfl) op212
theorem op161r : Opens Try.prog 161 (Kd.pair (Kd.int .i64) (Kd.slice 212 (Kd.int .u64))) (QP (QI .i64) (QL (QI .u64))) := Opens.struct Try.underlying161 2 (by kernel_rfl) rfl (OpensFs.cons rfl op2 (OpensFs.one rfl op148))
theorem op161k : Opens Try.prog 161 k161 (QF (QP (QI .i64) (QL (QI .u64))) (fun x : S161 => (x.f0, x.f1))) := Opens.iso (fun x : S161 => (x.f0, x.f1)) (fun y => ⟨y.1, y.2⟩) (fun _ => rfl) op161r
theorem op4 : Opens Try.prog 4 Kd.bool QB := Opens.bool Try.underlying4 (by kernel_rfl)
theorem op203r : Opens Try.prog 203 (Kd.pair (Kd.slice 2 (Kd.int .i64)) (Kd.pair Kd.bool k161)) (QP (QL (QI .i64)) (QP QB (QF (QP (QI .i64) (QL (QI .u64))) (fun x : S161 => (x.f0, x.f1))))) := Opens.struct Try.underlying203 4 (by kernel_rfl) rfl (OpensFs.cons rfl op55 (OpensFs.cons rfl op4 (OpensFs.one rfl op161k)))
theorem op203k : Opens Try.prog 203 k203 (QF (QP (QL (QI .i64)) (QP QB (QF (QP (QI .i64) (QL (QI .u64))) (fun x : S161 => (x.f0, x.f1))))) (fun x : S203 => (x.f0, x.f1, x.f2))) := Opens.iso (fun x : S203 => (x.f0, x.f1, x.f2)) (fun y => ⟨y.1, y.2.1, y.2.2⟩) (fun _ => rfl) op203r
theorem op99 : Opens Try.prog 99 (Kd.slice 203 k203) (QL (QF (QP (QL (QI .i64)) (QP QB (QF (QP (QI .i64) (QL (QI .u64))) (fun x : S161 => (x.f0, x.f1))))) (fun x : S203 => (x.f0, x.f1, x.f2)))) := Opens.slice Try.underlying99 (by kernel_rfl) op203k
theorem op52 : Opens Try.prog 52 (Kd.slice 55 (Kd.slice 2 (Kd.int .i64))) (QL (QL (QI .i64))) := Opens.slice Try.underlying52 (by kernel_rfl) op55
theorem op61 : Opens Try.prog 61 (Kd.slice 55 (Kd.slice 2 (Kd.int .i64))) (QL (QL (QI .i64))) := Opens.struct Try.underlying61 1 (by kernel_rfl) rfl (OpensFs.one rfl op52)
theorem op101 : Opens Try.prog 101 (Kd.pair (Kd.slice 55 (Kd.slice 2 (Kd.int .i64))) (Kd.pair (Kd.slice 203 k203) (Kd.slice 2 (Kd.int .i64)))) (QP (QL (QL (QI .i64))) (QP (QL (QF (QP (QL (QI .i64)) (QP QB (QF (QP (QI .i64) (QL (QI .u64))) (fun x : S161 => (x.f0, x.f1))))) (fun x : S203 => (x.f0, x.f1, x.f2)))) (QL (QI .i64)))) := Opens.struct Try.underlying101 3 (by kernel_rfl) rfl (OpensFs.cons rfl op61 (OpensFs.cons rfl op99 (OpensFs.one rfl op55)))
set_option maxRecDepth 100000 in
theorem lifted (os : Os) (started : os.Started) (H : Type) (enc : TypeId × Value → H) :
    ReturnsInHanded {} Try.checked os 13 .any (Rows.fnExactClassAtSpec.pre6 enc Try.prog Try.f13 Rows.fnExactClassAtRow.domain false) (Rows.fnExactClassAtSpec.post enc Try.prog Try.f13 false true false false) := by
  refine returnsInHanded_of_change_sized (C := Try.checked) own started (by kernel_rfl) Try.func13
    (ChangeSpec.witness6 (enc := enc) (C := Try.checked) false ⟨#[], #[.agg #[.slice none 0 0, .slice none 0 0, .slice none 0 0], .int .i64 0], []⟩ 8 (by kernel_rfl) (by kernel_rfl) (by kernel_rfl) (by kernel_rfl)) ?_
  intro W base args ds gs before hval0 hW hcnd hsz0 _
  have hval : ∀ (j : Nat) t v, Try.f13.params[j]? = some t → args[j]? = some v → Value.okWide Try.prog W .any base t v := hval0
  have hW' := hW
  obtain ⟨p, q, hA0, hV, rfl, hfz, hnd⟩ := hW
  have hA : DataW.TrodAll enc Try.prog W 0 (fun _ => true) true Try.f13.params.toList args.toList ds p := hA0
  rw [Try.params13] at hA hval
  obtain ⟨v0, vs0, d0, ds0, p0, q0, hargs, rfl, rfl, h0, r0⟩ := trodAll_cons hA
  obtain ⟨v1, vs1, d1, ds1, p1, q1, rfl, rfl, rfl, h1, r1⟩ := trodAll_cons r0
  obtain ⟨rfl, rfl, rfl⟩ := trodAll_nil r1
  obtain rfl : args = #[v0, v1] := by cases args; simp_all
  obtain ⟨rfl, rfl⟩ := trodVars_none hV
  have k0 := h0
  have lt0 : ∀ x ∈ p0, x.block < W.heap.size := by obtain ⟨m, hm⟩ := k0; exact DataW.trod_lt m _ _ _ hm
  obtain ⟨y0, hK0, hq0⟩ := trod_agg op101 h0
  obtain ⟨cs0, rfl, _⟩ := okWide_struct Try.underlying101 (hval 0 101 v0 rfl rfl)
  obtain ⟨_, _, e0, ⟨A0_0, c0_0, rfl, hc0_0, hr0_0⟩, ⟨_, _, rfl, ⟨A0_1, c0_1, rfl, hc0_1, hr0_1⟩, ⟨A0_2, c0_2, rfl, hc0_2, hr0_2⟩⟩⟩ := hK0
  obtain rfl : cs0 = #[.slice A0_0 y0.1.length c0_0, .slice A0_1 y0.2.1.length c0_1, .slice A0_2 y0.2.2.length c0_2] := by cases cs0; simpa [Value.cells] using e0
  have k1 := h1
  have lt1 : ∀ x ∈ p1, x.block < W.heap.size := by obtain ⟨m, hm⟩ := k1; exact DataW.trod_lt m _ _ _ hm
  obtain ⟨y1, hK1, hq1⟩ := trod_agg op2 h1
  obtain ⟨a1, rfl⟩ := okWide_int Try.underlying2 (hval 1 2 v1 rfl rfl)
  obtain rfl : a1 = y1 := by have e : [_] = [_] := hK1; simpa [Value.cells] using e
  clear hA0 hval0 hsz0
  obtain ⟨k, h⟩ := Pure.FnExactClassAt (y0.1) (y0.2.1) (y0.2.2) (a1) (hq0.1.2) (hq0.1.1) (hq0.2.1.2) (hq0.2.1.1) (hq0.2.2.2) (hq0.2.2.1) (hq1)
  refine (PFnExactClassAt.laws_FnExactClassAt.calls k _ _ (y0.1) _ _ (y0.2.1) _ _ (y0.2.2) (a1) true W hr0_0 hc0_0 hr0_1 hc0_1 hr0_2 hc0_2 h rfl).mono fun e W' ⟨he, bel0⟩ => ?_
  have bel : Below W.heap.size W W' := bel0
  subst he
  exact ⟨_, rfl, _, _, _, [], _, [], hW', trodAll_mk1 (shut_bool Try.underlying4 _), (trodAll_cons_mk (Below.trod laidOut (by kernel_rfl) (of_decide_eq_true (by kernel_rfl)) k0 bel lt0) (trodAll_cons_mk (Below.trod laidOut (by kernel_rfl) (of_decide_eq_true (by kernel_rfl)) k1 bel lt1) trodAll_mk0)), rfl, bel.frame _, fun h => by cases h⟩
theorem over : Rows.fnExactClassAtRow.holds Try.pinned (OpenSpec.ofChange Rows.fnExactClassAtSpec) :=
  OpenClaim.holds_of_wide 13 Try.f13 rfl rfl rfl rfl rfl rfl rfl ⟨rfl, rfl, rfl, rfl, rfl⟩ rfl rfl rfl rfl rfl (by kernel_rfl) Try.func13 (by kernel_rfl)
    (of_decide_eq_true (by kernel_rfl)) (by unfold Func.isWrapper; first | (rw [if_pos (by decide +kernel)]; kernel_rfl) | (rw [if_neg (by decide +kernel)]; exact ⟨rfl, rfl⟩))
    (fun os started H enc _ => lifted os started H enc)
theorem proved : Rows.FnExactClassAtSaid := over
#print axioms proved
end Go.Proofs.Ytkjlplcdjdenkaa.fnExactClassAt
namespace Go.Proofs.Ytkjlplcdjdenkaa
/-- The row, under a short name, for the claim. -/
theorem fnExactClassAt_holds : Rows.FnExactClassAtSaid := fnExactClassAt.proved
end Go.Proofs.Ytkjlplcdjdenkaa
