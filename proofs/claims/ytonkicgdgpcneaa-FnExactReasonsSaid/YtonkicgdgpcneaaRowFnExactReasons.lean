/- The row of the law FnExactReasons: its arguments are opened, and the printed contract of the law's own function answers. -/
import Derived.Test.YtonkicgdgpcneaaRows
import Derived.Test.YtonkicgdgpcneaaPFnExactReasonsx10
import Derived.Test.YtonkicgdgpcneaaPureFnExactReasons
import Derived.Test.YtonkicgdgpcneaaOpener
import Derived.WalkKit
import Derived.ProofKit
import Derived.OpenShut
import Derived.ShutString
import Derived.ChangeOld
import Derived.Below
import Derived.SizedLaws
namespace Go.Proofs.Ytonkicgdgpcneaa.fnExactReasons
open Go.ChangeShapes Go.WideShapes Go.ChangeAt Go.RowKit Go.Proofs.Ytonkicgdgpcneaa.Opener Go.Proofs.Ytonkicgdgpcneaa.PFnExactReasons Go.Proofs.YtonkicgdgpcneaaW.PrintWords
set_option linter.unusedVariables false
theorem own : ownKnob Try.prog.godebug = none := by kernel_rfl
theorem laidOut : laidOutB Try.prog = true := by kernel_rfl
theorem op2 : Opens Try.prog 2 (Kd.int .i64) (QI .i64) := Opens.int Try.underlying2 (by kernel_rfl)
theorem op105r : Opens Try.prog 105 (Kd.pair (Kd.int .i64) (Kd.pair (Kd.int .i64) (Kd.int .i64))) (QP (QI .i64) (QP (QI .i64) (QI .i64))) := Opens.struct Try.underlying105 3 (by kernel_rfl) rfl (OpensFs.cons rfl op2 (OpensFs.cons rfl op2 (OpensFs.one rfl op2)))
theorem op105k : Opens Try.prog 105 k105 (QF (QP (QI .i64) (QP (QI .i64) (QI .i64))) (fun x : S105 => (x.f0, x.f1, x.f2))) := Opens.iso (fun x : S105 => (x.f0, x.f1, x.f2)) (fun y => ⟨y.1, y.2.1, y.2.2⟩) (fun _ => rfl) op105r
theorem op22 : Opens Try.prog 22 (Kd.slice 105 k105) (QL (QF (QP (QI .i64) (QP (QI .i64) (QI .i64))) (fun x : S105 => (x.f0, x.f1, x.f2)))) := Opens.slice Try.underlying22 (by kernel_rfl) op105k
theorem op24 : Opens Try.prog 24 (Kd.pair (Kd.int .i64) (Kd.slice 105 k105)) (QP (QI .i64) (QL (QF (QP (QI .i64) (QP (QI .i64) (QI .i64))) (fun x : S105 => (x.f0, x.f1, x.f2))))) := Opens.struct Try.underlying24 2 (by kernel_rfl) rfl (OpensFs.cons rfl op2 (OpensFs.one rfl op22))
set_option maxRecDepth 100000 in
theorem lifted (os : Os) (started : os.Started) (H : Type) (enc : TypeId × Value → H) :
    ReturnsInHanded {} Try.checked os 3 .any (Rows.fnExactReasonsSpec.pre6 enc Try.prog Try.f3 Rows.fnExactReasonsRow.domain false) (Rows.fnExactReasonsSpec.post enc Try.prog Try.f3 false true false false) := by
  refine returnsInHanded_of_change_sized (C := Try.checked) own started (by kernel_rfl) Try.func3
    (ChangeSpec.witness6 (enc := enc) (C := Try.checked) false ⟨#[], #[.agg #[.int .i64 0, .slice none 0 0], .int .i64 0, .int .i64 0], []⟩ 8 (by kernel_rfl) (by kernel_rfl) (by kernel_rfl) (by kernel_rfl)) ?_
  intro W base args ds gs before hval0 hW hcnd hsz0 _
  have hval : ∀ (j : Nat) t v, Try.f3.params[j]? = some t → args[j]? = some v → Value.okWide Try.prog W .any base t v := hval0
  have hW' := hW
  obtain ⟨p, q, hA0, hV, rfl, hfz, hnd⟩ := hW
  have hA : DataW.TrodAll enc Try.prog W 0 (fun _ => true) true Try.f3.params.toList args.toList ds p := hA0
  rw [Try.params3] at hA hval
  obtain ⟨v0, vs0, d0, ds0, p0, q0, hargs, rfl, rfl, h0, r0⟩ := trodAll_cons hA
  obtain ⟨v1, vs1, d1, ds1, p1, q1, rfl, rfl, rfl, h1, r1⟩ := trodAll_cons r0
  obtain ⟨v2, vs2, d2, ds2, p2, q2, rfl, rfl, rfl, h2, r2⟩ := trodAll_cons r1
  obtain ⟨rfl, rfl, rfl⟩ := trodAll_nil r2
  obtain rfl : args = #[v0, v1, v2] := by cases args; simp_all
  obtain ⟨rfl, rfl⟩ := trodVars_none hV
  have k0 := h0
  have lt0 : ∀ x ∈ p0, x.block < W.heap.size := by obtain ⟨m, hm⟩ := k0; exact DataW.trod_lt m _ _ _ hm
  obtain ⟨y0, hK0, hq0⟩ := trod_agg op24 h0
  obtain ⟨cs0, rfl, _⟩ := okWide_struct Try.underlying24 (hval 0 24 v0 rfl rfl)
  obtain ⟨_, _, e0, rfl, ⟨A0_1, c0_1, rfl, hc0_1, hr0_1⟩⟩ := hK0
  obtain rfl : cs0 = #[.int .i64 y0.1, .slice A0_1 y0.2.length c0_1] := by cases cs0; simpa [Value.cells] using e0
  have k1 := h1
  have lt1 : ∀ x ∈ p1, x.block < W.heap.size := by obtain ⟨m, hm⟩ := k1; exact DataW.trod_lt m _ _ _ hm
  obtain ⟨y1, hK1, hq1⟩ := trod_agg op2 h1
  obtain ⟨a1, rfl⟩ := okWide_int Try.underlying2 (hval 1 2 v1 rfl rfl)
  obtain rfl : a1 = y1 := by have e : [_] = [_] := hK1; simpa [Value.cells] using e
  have k2 := h2
  have lt2 : ∀ x ∈ p2, x.block < W.heap.size := by obtain ⟨m, hm⟩ := k2; exact DataW.trod_lt m _ _ _ hm
  obtain ⟨y2, hK2, hq2⟩ := trod_agg op2 h2
  obtain ⟨a2, rfl⟩ := okWide_int Try.underlying2 (hval 2 2 v2 rfl rfl)
  obtain rfl : a2 = y2 := by have e : [_] = [_] := hK2; simpa [Value.cells] using e
  clear hA0 hval0 hsz0
  obtain ⟨k, h⟩ := Pure.FnExactReasons (y0.1) (y0.2) (a1) (a2) (hq0.1) (hq0.2.2) (hq0.2.1) (hq1) (hq2)
  refine (PFnExactReasons.laws_FnExactReasons.calls k (y0.1) _ _ (y0.2) (a1) (a2) true W hr0_1 hc0_1 h rfl).mono fun e W' ⟨he, bel0⟩ => ?_
  have bel : Below W.heap.size W W' := bel0
  subst he
  exact ⟨_, rfl, _, _, _, [], _, [], hW', trodAll_mk1 (shut_bool Try.underlying4 _), (trodAll_cons_mk (Below.trod laidOut (by kernel_rfl) (of_decide_eq_true (by kernel_rfl)) k0 bel lt0) (trodAll_cons_mk (Below.trod laidOut (by kernel_rfl) (of_decide_eq_true (by kernel_rfl)) k1 bel lt1) (trodAll_cons_mk (Below.trod laidOut (by kernel_rfl) (of_decide_eq_true (by kernel_rfl)) k2 bel lt2) trodAll_mk0))), rfl, bel.frame _, fun h => by cases h⟩
theorem over : Rows.fnExactReasonsRow.holds Try.pinned (OpenSpec.ofChange Rows.fnExactReasonsSpec) :=
  OpenClaim.holds_of_wide 3 Try.f3 rfl rfl rfl rfl rfl rfl rfl ⟨rfl, rfl, rfl, rfl, rfl⟩ rfl rfl rfl rfl rfl (by kernel_rfl) Try.func3 (by kernel_rfl)
    (of_decide_eq_true (by kernel_rfl)) (by unfold Func.isWrapper; first | (rw [if_pos (by decide +kernel)]; kernel_rfl) | (rw [if_neg (by decide +kernel)]; exact ⟨rfl, rfl⟩))
    (fun os started H enc _ => lifted os started H enc)
theorem proved : Rows.FnExactReasonsSaid := over
#print axioms proved
end Go.Proofs.Ytonkicgdgpcneaa.fnExactReasons
namespace Go.Proofs.Ytonkicgdgpcneaa
/-- The row, under a short name, for the claim. -/
theorem fnExactReasons_holds : Rows.FnExactReasonsSaid := fnExactReasons.proved
end Go.Proofs.Ytonkicgdgpcneaa
