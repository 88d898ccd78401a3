/- The row of the law FnExactSettle: its arguments are opened, and the printed contract of the law's own function answers. -/
import Derived.Test.YtpkclocdenagcaaRows
import Derived.Test.YtpkclocdenagcaaPFnExactSettlex8
import Derived.Test.YtpkclocdenagcaaPureFnExactSettle
import Derived.Test.YtpkclocdenagcaaOpener
import Derived.WalkKit
import Derived.ProofKit
import Derived.OpenShut
import Derived.ShutString
import Derived.ChangeOld
import Derived.Below
import Derived.SizedLaws
namespace Go.Proofs.Ytpkclocdenagcaa.fnExactSettle
open Go.ChangeShapes Go.WideShapes Go.ChangeAt Go.RowKit Go.Proofs.Ytpkclocdenagcaa.Opener Go.Proofs.Ytpkclocdenagcaa.PFnExactSettle Go.Proofs.YtpkclocdenagcaaW.PrintWords
set_option linter.unusedVariables false
theorem own : ownKnob Try.prog.godebug = none := by kernel_rfl
theorem laidOut : laidOutB Try.prog = true := by kernel_rfl
theorem op2 : Opens Try.prog 2 (Kd.int .i64) (QI .i64) := Opens.int Try.underlying2 (by kernel_rfl)
theorem op33 : Opens Try.prog 33 (Kd.slice 2 (Kd.int .i64)) (QL (QI .i64)) := Opens.slice Try.underlying33 (by kernel_rfl) op2
theorem op30 : Opens Try.prog 30 (Kd.slice 33 (Kd.slice 2 (Kd.int .i64))) (QL (QL (QI .i64))) := Opens.slice Try.underlying30 (by kernel_rfl) op33
theorem op32 : Opens Try.prog 32 (Kd.pair (Kd.int .i64) (Kd.slice 33 (Kd.slice 2 (Kd.int .i64)))) (QP (QI .i64) (QL (QL (QI .i64)))) := Opens.struct Try.underlying32 2 (by kernel_rfl) rfl (OpensFs.cons rfl op2 (OpensFs.one rfl op30))
set_option maxRecDepth 100000 in
theorem lifted (os : Os) (started : os.Started) (H : Type) (enc : TypeId × Value → H) :
    ReturnsInHanded {} Try.checked os 6 .any (Rows.fnExactSettleSpec.pre6 enc Try.prog Try.f6 Rows.fnExactSettleRow.domain false) (Rows.fnExactSettleSpec.post enc Try.prog Try.f6 false true false false) := by
  refine returnsInHanded_of_change_sized (C := Try.checked) own started (by kernel_rfl) Try.func6
    (ChangeSpec.witness6 (enc := enc) (C := Try.checked) false ⟨#[], #[.agg #[.int .i64 0, .slice none 0 0], .int .i64 0], []⟩ 8 (by kernel_rfl) (by kernel_rfl) (by kernel_rfl) (by kernel_rfl)) ?_
  intro W base args ds gs before hval0 hW hcnd hsz0 _
  have hval : ∀ (j : Nat) t v, Try.f6.params[j]? = some t → args[j]? = some v → Value.okWide Try.prog W .any base t v := hval0
  have hW' := hW
  obtain ⟨p, q, hA0, hV, rfl, hfz, hnd⟩ := hW
  have hA : DataW.TrodAll enc Try.prog W 0 (fun _ => true) true Try.f6.params.toList args.toList ds p := hA0
  rw [Try.params6] at hA hval
  obtain ⟨v0, vs0, d0, ds0, p0, q0, hargs, rfl, rfl, h0, r0⟩ := trodAll_cons hA
  obtain ⟨v1, vs1, d1, ds1, p1, q1, rfl, rfl, rfl, h1, r1⟩ := trodAll_cons r0
  obtain ⟨rfl, rfl, rfl⟩ := trodAll_nil r1
  obtain rfl : args = #[v0, v1] := by cases args; simp_all
  obtain ⟨rfl, rfl⟩ := trodVars_none hV
  have k0 := h0
  have lt0 : ∀ x ∈ p0, x.block < W.heap.size := by obtain ⟨m, hm⟩ := k0; exact DataW.trod_lt m _ _ _ hm
  obtain ⟨y0, hK0, hq0⟩ := trod_agg op32 h0
  obtain ⟨cs0, rfl, _⟩ := okWide_struct Try.underlying32 (hval 0 32 v0 rfl rfl)
  obtain ⟨_, _, e0, rfl, ⟨A0_1, c0_1, rfl, hc0_1, hr0_1⟩⟩ := hK0
  obtain rfl : cs0 = #[.int .i64 y0.1, .slice A0_1 y0.2.length c0_1] := by cases cs0; simpa [Value.cells] using e0
  have k1 := h1
  have lt1 : ∀ x ∈ p1, x.block < W.heap.size := by obtain ⟨m, hm⟩ := k1; exact DataW.trod_lt m _ _ _ hm
  obtain ⟨y1, hK1, hq1⟩ := trod_agg op2 h1
  obtain ⟨a1, rfl⟩ := okWide_int Try.underlying2 (hval 1 2 v1 rfl rfl)
  obtain rfl : a1 = y1 := by have e : [_] = [_] := hK1; simpa [Value.cells] using e
  clear hA0 hval0 hsz0
  obtain ⟨k, h⟩ := Pure.FnExactSettle (y0.1) (y0.2) (a1) (hq0.1) (hq0.2.2) (hq0.2.1) (hq1)
  refine (PFnExactSettle.laws_FnExactSettle.calls k (y0.1) _ _ (y0.2) (a1) true W hr0_1 hc0_1 h).mono fun e W' ⟨he, bel0⟩ => ?_
  have bel : Below W.heap.size W W' := bel0
  subst he
  exact ⟨_, rfl, _, _, _, [], _, [], hW', trodAll_mk1 (shut_bool Try.underlying4 _), (trodAll_cons_mk (Below.trod laidOut (by kernel_rfl) (of_decide_eq_true (by kernel_rfl)) k0 bel lt0) (trodAll_cons_mk (Below.trod laidOut (by kernel_rfl) (of_decide_eq_true (by kernel_rfl)) k1 bel lt1) trodAll_mk0)), rfl, bel.frame _, fun h => by cases h⟩
theorem over : Rows.fnExactSettleRow.holds Try.pinned (OpenSpec.ofChange Rows.fnExactSettleSpec) :=
  OpenClaim.holds_of_wide 6 Try.f6 rfl rfl rfl rfl rfl rfl rfl ⟨rfl, rfl, rfl, rfl, rfl⟩ rfl rfl rfl rfl rfl (by kernel_rfl) Try.func6 (by kernel_rfl)
    (of_decide_eq_true (by kernel_rfl)) (by unfold Func.isWrapper; first | (rw [if_pos (by decide +kernel)]; kernel_rfl) | (rw [if_neg (by decide +kernel)]; exact ⟨rfl, rfl⟩))
    (fun os started H enc _ => lifted os started H enc)
theorem proved : Rows.FnExactSettleSaid := over
#print axioms proved
end Go.Proofs.Ytpkclocdenagcaa.fnExactSettle
namespace Go.Proofs.Ytpkclocdenagcaa
/-- The row, under a short name, for the claim. -/
theorem fnExactSettle_holds : Rows.FnExactSettleSaid := fnExactSettle.proved
end Go.Proofs.Ytpkclocdenagcaa
