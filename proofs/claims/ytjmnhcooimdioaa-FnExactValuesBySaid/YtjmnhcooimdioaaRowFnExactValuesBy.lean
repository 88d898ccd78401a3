/- The row of the law FnExactValuesBy: its arguments are opened, and the printed contract of the law's own function answers. -/
import Derived.Test.YtjmnhcooimdioaaRows
import Derived.Test.YtjmnhcooimdioaaPFnExactValuesByx9
import Derived.Test.YtjmnhcooimdioaaPureFnExactValuesBy
import Derived.Test.YtjmnhcooimdioaaOpener
import Derived.WalkKit
import Derived.ProofKit
import Derived.OpenShut
import Derived.ShutString
import Derived.ChangeOld
import Derived.Below
import Derived.SizedLaws
namespace Go.Proofs.Ytjmnhcooimdioaa.fnExactValuesBy
open Go.ChangeShapes Go.WideShapes Go.ChangeAt Go.RowKit Go.Proofs.Ytjmnhcooimdioaa.Opener Go.Proofs.Ytjmnhcooimdioaa.PFnExactValuesBy Go.Proofs.YtjmnhcooimdioaaW.PrintWords
set_option linter.unusedVariables false
theorem own : ownKnob Try.prog.godebug = none := by kernel_rfl
theorem laidOut : laidOutB Try.prog = true := by kernel_rfl
theorem op2 : Opens Try.prog 2 (Kd.int .i64) (QI .i64) := Opens.int Try.underlying2 (by kernel_rfl)
theorem op9 : Opens Try.prog 9 Kd.string QS := Opens.string Try.underlying9 (by kernel_rfl)
theorem op142r : Opens Try.prog 142 (Kd.pair Kd.string (Kd.int .i64)) (QP QS (QI .i64)) := Opens.struct Try.underlying142 2 (by kernel_rfl) rfl (OpensFs.cons rfl op9 (OpensFs.one rfl op2))
theorem op142k : Opens Try.prog 142 k142 (QF (QP QS (QI .i64)) (fun x : S142 => (x.f0, x.f1))) := Opens.iso (fun x : S142 => (x.f0, x.f1)) (fun y => ⟨y.1, y.2⟩) (fun _ => rfl) op142r
theorem op46 : Opens Try.prog 46 (Kd.slice 142 k142) (QL (QF (QP QS (QI .i64)) (fun x : S142 => (x.f0, x.f1)))) := Opens.slice Try.underlying46 (by kernel_rfl) op142k
theorem op4 : Opens Try.prog 4 Kd.bool QB := Opens.bool Try.underlying4 (by kernel_rfl)
theorem op43 : Opens Try.prog 43 (Kd.slice 4 Kd.bool) (QL QB) := Opens.slice Try.underlying43 (by kernel_rfl) op4
set_option maxRecDepth 100000 in
theorem lifted (os : Os) (started : os.Started) (H : Type) (enc : TypeId × Value → H) :
    ReturnsInHanded {} Try.checked os 5 .any (Rows.fnExactValuesBySpec.pre6 enc Try.prog Try.f5 Rows.fnExactValuesByRow.domain false) (Rows.fnExactValuesBySpec.post enc Try.prog Try.f5 false true false false) := by
  refine returnsInHanded_of_change_sized (C := Try.checked) own started (by kernel_rfl) Try.func5
    (ChangeSpec.witness6 (enc := enc) (C := Try.checked) false ⟨#[], #[.slice none 0 0, .slice none 0 0], []⟩ 8 (by kernel_rfl) (by kernel_rfl) (by kernel_rfl) (by kernel_rfl)) ?_
  intro W base args ds gs before hval0 hW hcnd hsz0 _
  have hval : ∀ (j : Nat) t v, Try.f5.params[j]? = some t → args[j]? = some v → Value.okWide Try.prog W .any base t v := hval0
  have hW' := hW
  obtain ⟨p, q, hA0, hV, rfl, hfz, hnd⟩ := hW
  have hA : DataW.TrodAll enc Try.prog W 0 (fun _ => true) true Try.f5.params.toList args.toList ds p := hA0
  rw [Try.params5] at hA hval
  obtain ⟨v0, vs0, d0, ds0, p0, q0, hargs, rfl, rfl, h0, r0⟩ := trodAll_cons hA
  obtain ⟨v1, vs1, d1, ds1, p1, q1, rfl, rfl, rfl, h1, r1⟩ := trodAll_cons r0
  obtain ⟨rfl, rfl, rfl⟩ := trodAll_nil r1
  obtain rfl : args = #[v0, v1] := by cases args; simp_all
  obtain ⟨rfl, rfl⟩ := trodVars_none hV
  have k0 := h0
  have lt0 : ∀ x ∈ p0, x.block < W.heap.size := by obtain ⟨m, hm⟩ := k0; exact DataW.trod_lt m _ _ _ hm
  obtain ⟨y0, hK0, hq0⟩ := trod_agg op46 h0
  obtain ⟨a0, len0, cap0, rfl⟩ := okWide_slice Try.underlying46 (hval 0 46 v0 rfl rfl)
  obtain ⟨A0, c0, e0, hc0, hr0⟩ := hK0
  simp only [Value.cells, List.cons.injEq, Value.slice.injEq, and_true] at e0
  obtain ⟨rfl, rfl, rfl⟩ := e0
  have k1 := h1
  have lt1 : ∀ x ∈ p1, x.block < W.heap.size := by obtain ⟨m, hm⟩ := k1; exact DataW.trod_lt m _ _ _ hm
  obtain ⟨y1, hK1, hq1⟩ := trod_agg op43 h1
  obtain ⟨a1, len1, cap1, rfl⟩ := okWide_slice Try.underlying43 (hval 1 43 v1 rfl rfl)
  obtain ⟨A1, c1, e1, hc1, hr1⟩ := hK1
  simp only [Value.cells, List.cons.injEq, Value.slice.injEq, and_true] at e1
  obtain ⟨rfl, rfl, rfl⟩ := e1
  clear hA0 hval0 hsz0
  obtain ⟨k, h⟩ := Pure.FnExactValuesBy (y0) (y1) (hq0.2) (hq0.1) (hq1.2) (hq1.1)
  refine (PFnExactValuesBy.laws_FnExactValuesBy.calls k _ _ (y0) _ _ (y1) true W hr0 hc0 hr1 hc1 h).mono fun e W' ⟨he, bel0⟩ => ?_
  have bel : Below W.heap.size W W' := bel0
  subst he
  exact ⟨_, rfl, _, _, _, [], _, [], hW', trodAll_mk1 (shut_bool Try.underlying4 _), (trodAll_cons_mk (Below.trod laidOut (by kernel_rfl) (of_decide_eq_true (by kernel_rfl)) k0 bel lt0) (trodAll_cons_mk (Below.trod laidOut (by kernel_rfl) (of_decide_eq_true (by kernel_rfl)) k1 bel lt1) trodAll_mk0)), rfl, bel.frame _, fun h => by cases h⟩
theorem over : Rows.fnExactValuesByRow.holds Try.pinned (OpenSpec.ofChange Rows.fnExactValuesBySpec) :=
  OpenClaim.holds_of_wide 5 Try.f5 rfl rfl rfl rfl rfl rfl rfl ⟨rfl, rfl, rfl, rfl, rfl⟩ rfl rfl rfl rfl rfl (by kernel_rfl) Try.func5 (by kernel_rfl)
    (of_decide_eq_true (by kernel_rfl)) (by unfold Func.isWrapper; first | (rw [if_pos (by decide +kernel)]; kernel_rfl) | (rw [if_neg (by decide +kernel)]; exact ⟨rfl, rfl⟩))
    (fun os started H enc _ => lifted os started H enc)
theorem proved : Rows.FnExactValuesBySaid := over
#print axioms proved
end Go.Proofs.Ytjmnhcooimdioaa.fnExactValuesBy
namespace Go.Proofs.Ytjmnhcooimdioaa
/-- The row, under a short name, for the claim. -/
theorem fnExactValuesBy_holds : Rows.FnExactValuesBySaid := fnExactValuesBy.proved
end Go.Proofs.Ytjmnhcooimdioaa
