/- The row of the law FnExactUnit: its arguments are opened, and the printed contract of the law's own function answers. -/
import Derived.Test.YtpkclocdenagcaaRows
import Derived.Test.YtpkclocdenagcaaPFnExactUnitx8
import Derived.Test.YtpkclocdenagcaaPureFnExactUnit
import Derived.Test.YtpkclocdenagcaaOpener
import Derived.WalkKit
import Derived.ProofKit
import Derived.OpenShut
import Derived.ShutString
import Derived.ChangeOld
import Derived.Below
import Derived.SizedLaws
namespace Go.Proofs.Ytpkclocdenagcaa.fnExactUnit
open Go.ChangeShapes Go.WideShapes Go.ChangeAt Go.RowKit Go.Proofs.Ytpkclocdenagcaa.Opener Go.Proofs.Ytpkclocdenagcaa.PFnExactUnit Go.Proofs.YtpkclocdenagcaaW.PrintWords
set_option linter.unusedVariables false
theorem own : ownKnob Try.prog.godebug = none := by kernel_rfl
theorem laidOut : laidOutB Try.prog = true := by kernel_rfl
theorem op2 : Opens Try.prog 2 (Kd.int .i64) (QI .i64) := Opens.int Try.underlying2 (by kernel_rfl)
theorem op33 : Opens Try.prog 33 (Kd.slice 2 (Kd.int .i64)) (QL (QI .i64)) := Opens.slice Try.underlying33 (by kernel_rfl) op2
theorem op30 : Opens Try.prog 30 (Kd.slice 33 (Kd.slice 2 (Kd.int .i64))) (QL (QL (QI .i64))) := Opens.slice Try.underlying30 (by kernel_rfl) op33
theorem op32 : Opens Try.prog 32 (Kd.pair (Kd.int .i64) (Kd.slice 33 (Kd.slice 2 (Kd.int .i64)))) (QP (QI .i64) (QL (QL (QI .i64)))) := Opens.struct Try.underlying32 2 (by kernel_rfl) rfl (OpensFs.cons rfl op2 (OpensFs.one rfl op30))
set_option maxRecDepth 100000 in
theorem lifted (os : Os) (started : os.Started) (H : Type) (enc : TypeId × Value → H) :
    ReturnsInHanded {} Try.checked os 4 .any (Rows.fnExactUnitSpec.pre6 enc Try.prog Try.f4 Rows.fnExactUnitRow.domain false) (Rows.fnExactUnitSpec.post enc Try.prog Try.f4 false true false false) := by
  refine returnsInHanded_of_change_sized (C := Try.checked) own started (by kernel_rfl) Try.func4
    (ChangeSpec.witness6 (enc := enc) (C := Try.checked) false ⟨#[], #[.agg #[.int .i64 0, .slice none 0 0], .slice none 0 0], []⟩ 8 (by kernel_rfl) (by kernel_rfl) (by kernel_rfl) (by kernel_rfl)) ?_
  intro W base args ds gs before hval0 hW hcnd hsz0 _
  have hval : ∀ (j : Nat) t v, Try.f4.params[j]? = some t → args[j]? = some v → Value.okWide Try.prog W .any base t v := hval0
  have hW' := hW
  obtain ⟨p, q, hA0, hV, rfl, hfz, hnd⟩ := hW
  have hA : DataW.TrodAll enc Try.prog W 0 (fun _ => true) true Try.f4.params.toList args.toList ds p := hA0
  rw [Try.params4] at hA hval
  obtain ⟨v0, vs0, d0, ds0, p0, q0, hargs, rfl, rfl, h0, r0⟩ := trodAll_cons hA
  obtain ⟨v1, vs1, d1, ds1, p1, q1, rfl, rfl, rfl, h1, r1⟩ := trodAll_cons r0
  obtain ⟨rfl, rfl, rfl⟩ := trodAll_nil r1
  obtain rfl : args = #[v0, v1] := by cases args; simp_all
  obtain ⟨rfl, rfl⟩ := trodVars_none hV
  have k0 := h0
  have lt0 : ∀ x ∈ p0, x.block < W.heap.size := by obtain ⟨m, hm⟩ := k0; exact DataW.trod_lt m _ _ _ hm
  obtain ⟨y0, hK0, hq0⟩ := trod_agg op32 h0
  obtain ⟨cs0, rfl, _⟩ := okWide_struct Try.underlying32 (hval 0 32 v0 rfl rfl)
  obtain ⟨_, _, e0, rfl, ⟨A0_1, c0_1, rfl, hc0_1, hr0_1⟩⟩ := hK0
  obtain rfl : cs0 = #[.int .i64 y0.1, .slice A0_1 y0.2.length c0_1] := by cases cs0; simpa [Value.cells] using e0
  have k1 := h1
  have lt1 : ∀ x ∈ p1, x.block < W.heap.size := by obtain ⟨m, hm⟩ := k1; exact DataW.trod_lt m _ _ _ hm
  obtain ⟨y1, hK1, hq1⟩ := trod_agg op33 h1
  obtain ⟨a1, len1, cap1, rfl⟩ := okWide_slice Try.underlying33 (hval 1 33 v1 rfl rfl)
  obtain ⟨A1, c1, e1, hc1, hr1⟩ := hK1
  simp only [Value.cells, List.cons.injEq, Value.slice.injEq, and_true] at e1
  obtain ⟨rfl, rfl, rfl⟩ := e1
  clear hA0 hval0 hsz0
  obtain ⟨k, h⟩ := Pure.FnExactUnit (y0.1) (y0.2) (y1) (hq0.1) (hq0.2.2) (hq0.2.1) (hq1.2) (hq1.1)
  refine (PFnExactUnit.laws_FnExactUnit.calls k (y0.1) _ _ (y0.2) _ _ (y1) true W hr0_1 hc0_1 hr1 hc1 h).mono fun e W' ⟨he, bel0⟩ => ?_
  have bel : Below W.heap.size W W' := bel0
  subst he
  exact ⟨_, rfl, _, _, _, [], _, [], hW', trodAll_mk1 (shut_bool Try.underlying4 _), (trodAll_cons_mk (Below.trod laidOut (by kernel_rfl) (of_decide_eq_true (by kernel_rfl)) k0 bel lt0) (trodAll_cons_mk (Below.trod laidOut (by kernel_rfl) (of_decide_eq_true (by kernel_rfl)) k1 bel lt1) trodAll_mk0)), rfl, bel.frame _, fun h => by cases h⟩
theorem over : Rows.fnExactUnitRow.holds Try.pinned (OpenSpec.ofChange Rows.fnExactUnitSpec) :=
  OpenClaim.holds_of_wide 4 Try.f4 rfl rfl rfl rfl rfl rfl rfl ⟨rfl, rfl, rfl, rfl, rfl⟩ rfl rfl rfl rfl rfl (by kernel_rfl) Try.func4 (by kernel_rfl)
    (of_decide_eq_true (by kernel_rfl)) (by unfold Func.isWrapper; first | (rw [if_pos (by decide +kernel)]; kernel_rfl) | (rw [if_neg (by decide +kernel)]; exact ⟨rfl, rfl⟩))
    (fun os started H enc _ => lifted os started H enc)
theorem proved : Rows.FnExactUnitSaid := over
#print axioms proved
end Go.Proofs.Ytpkclocdenagcaa.fnExactUnit
namespace Go.Proofs.Ytpkclocdenagcaa
/-- The row, under a short name, for the claim. -/
theorem fnExactUnit_holds : Rows.FnExactUnitSaid := fnExactUnit.proved
end Go.Proofs.Ytpkclocdenagcaa
