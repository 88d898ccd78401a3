/- The row of the law FnExactDepthOf: its arguments are opened, and the printed contract of the law's own function answers. -/
import Derived.Test.YtipoepnmklaahaaRows
import Derived.Test.YtipoepnmklaahaaPFnExactDepthOfx6
import Derived.Test.YtipoepnmklaahaaPureFnExactDepthOf
import Derived.Test.YtipoepnmklaahaaOpener
import Derived.WalkKit
import Derived.ProofKit
import Derived.OpenShut
import Derived.ShutString
import Derived.ChangeOld
import Derived.Below
import Derived.SizedLaws
namespace Go.Proofs.Ytipoepnmklaahaa.fnExactDepthOf
open Go.ChangeShapes Go.WideShapes Go.ChangeAt Go.RowKit Go.Proofs.Ytipoepnmklaahaa.Opener Go.Proofs.Ytipoepnmklaahaa.PFnExactDepthOf Go.Proofs.YtipoepnmklaahaaW.PrintWords
set_option linter.unusedVariables false
theorem own : ownKnob Try.prog.godebug = none := by kernel_rfl
theorem laidOut : laidOutB Try.prog = true := by kernel_rfl
theorem op2 : Opens Try.prog 2 (Kd.int .i64) (QI .i64) := Opens.int Try.underlying2 (by kernel_rfl)
theorem op109 : Opens Try.prog 109 (Kd.slice 2 (Kd.int .i64)) (QL (QI .i64)) := Opens.slice Try.underlying109 (by kernel_rfl) op2
theorem op9 : Opens Try.prog 9 Kd.string QS := Opens.string Try.underlying9 (by kernel_rfl)
theorem op140r : Opens Try.prog 140 (Kd.pair Kd.string (Kd.slice 2 (Kd.int .i64))) (QP QS (QL (QI .i64))) := Opens.struct Try.underlying140 2 (by kernel_rfl) rfl (OpensFs.cons rfl op9 (OpensFs.one rfl op109))
theorem op140k : Opens Try.prog 140 k140 (QF (QP QS (QL (QI .i64))) (fun x : S140 => (x.f0, x.f1))) := Opens.iso (fun x : S140 => (x.f0, x.f1)) (fun y => ⟨y.1, y.2⟩) (fun _ => rfl) op140r
theorem op41 : Opens Try.prog 41 (Kd.slice 140 k140) (QL (QF (QP QS (QL (QI .i64))) (fun x : S140 => (x.f0, x.f1)))) := Opens.slice Try.underlying41 (by kernel_rfl) op140k
theorem op43 : Opens Try.prog 43 (Kd.slice 140 k140) (QL (QF (QP QS (QL (QI .i64))) (fun x : S140 => (x.f0, x.f1)))) := Opens.struct Try.underlying43 1 (by kernel_rfl) rfl (OpensFs.one rfl op41)
set_option maxRecDepth 100000 in
theorem lifted (os : Os) (started : os.Started) (H : Type) (enc : TypeId × Value → H) :
    ReturnsInHanded {} Try.checked os 10 .any (Rows.fnExactDepthOfSpec.pre6 enc Try.prog Try.f10 Rows.fnExactDepthOfRow.domain false) (Rows.fnExactDepthOfSpec.post enc Try.prog Try.f10 false true false false) := by
  refine returnsInHanded_of_change_sized (C := Try.checked) own started (by kernel_rfl) Try.func10
    (ChangeSpec.witness6 (enc := enc) (C := Try.checked) false ⟨#[], #[.agg #[.slice none 0 0]], []⟩ 8 (by kernel_rfl) (by kernel_rfl) (by kernel_rfl) (by kernel_rfl)) ?_
  intro W base args ds gs before hval0 hW hcnd hsz0 _
  have hval : ∀ (j : Nat) t v, Try.f10.params[j]? = some t → args[j]? = some v → Value.okWide Try.prog W .any base t v := hval0
  have hW' := hW
  obtain ⟨p, q, hA0, hV, rfl, hfz, hnd⟩ := hW
  have hA : DataW.TrodAll enc Try.prog W 0 (fun _ => true) true Try.f10.params.toList args.toList ds p := hA0
  rw [Try.params10] at hA hval
  obtain ⟨v0, vs0, d0, ds0, p0, q0, hargs, rfl, rfl, h0, r0⟩ := trodAll_cons hA
  obtain ⟨rfl, rfl, rfl⟩ := trodAll_nil r0
  obtain rfl : args = #[v0] := by cases args; simp_all
  obtain ⟨rfl, rfl⟩ := trodVars_none hV
  have k0 := h0
  have lt0 : ∀ x ∈ p0, x.block < W.heap.size := by obtain ⟨m, hm⟩ := k0; exact DataW.trod_lt m _ _ _ hm
  obtain ⟨y0, hK0, hq0⟩ := trod_agg op43 h0
  obtain ⟨cs0, rfl, _⟩ := okWide_struct Try.underlying43 (hval 0 43 v0 rfl rfl)
  obtain ⟨A0_0, c0_0, e0, hc0_0, hr0_0⟩ := hK0
  obtain rfl : cs0 = #[.slice A0_0 y0.length c0_0] := by cases cs0; simpa [Value.cells] using e0
  clear hA0 hval0 hsz0
  obtain ⟨k, h⟩ := Pure.FnExactDepthOf (y0) (hq0.2) (hq0.1)
  refine (PFnExactDepthOf.laws_FnExactDepthOf.calls k _ _ (y0) true W hr0_0 hc0_0 h rfl).mono fun e W' ⟨he, bel0⟩ => ?_
  have bel : Below W.heap.size W W' := bel0
  subst he
  exact ⟨_, rfl, _, _, _, [], _, [], hW', trodAll_mk1 (shut_bool Try.underlying4 _), (trodAll_cons_mk (Below.trod laidOut (by kernel_rfl) (of_decide_eq_true (by kernel_rfl)) k0 bel lt0) trodAll_mk0), rfl, bel.frame _, fun h => by cases h⟩
theorem over : Rows.fnExactDepthOfRow.holds Try.pinned (OpenSpec.ofChange Rows.fnExactDepthOfSpec) :=
  OpenClaim.holds_of_wide 10 Try.f10 rfl rfl rfl rfl rfl rfl rfl ⟨rfl, rfl, rfl, rfl, rfl⟩ rfl rfl rfl rfl rfl (by kernel_rfl) Try.func10 (by kernel_rfl)
    (of_decide_eq_true (by kernel_rfl)) (by unfold Func.isWrapper; first | (rw [if_pos (by decide +kernel)]; kernel_rfl) | (rw [if_neg (by decide +kernel)]; exact ⟨rfl, rfl⟩))
    (fun os started H enc _ => lifted os started H enc)
theorem proved : Rows.FnExactDepthOfSaid := over
#print axioms proved
end Go.Proofs.Ytipoepnmklaahaa.fnExactDepthOf
namespace Go.Proofs.Ytipoepnmklaahaa
/-- The row, under a short name, for the claim. -/
theorem fnExactDepthOf_holds : Rows.FnExactDepthOfSaid := fnExactDepthOf.proved
end Go.Proofs.Ytipoepnmklaahaa
