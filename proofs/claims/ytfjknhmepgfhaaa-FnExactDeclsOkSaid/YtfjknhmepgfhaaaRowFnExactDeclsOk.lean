/- The row of the law FnExactDeclsOk: its arguments are opened, and the printed contract of the law's own function answers. -/
import Derived.Test.YtfjknhmepgfhaaaRows
import Derived.Test.YtfjknhmepgfhaaaPFnExactDeclsOkx4
import Derived.Test.YtfjknhmepgfhaaaPureFnExactDeclsOk
import Derived.Test.YtfjknhmepgfhaaaOpener
import Derived.WalkKit
import Derived.ProofKit
import Derived.OpenShut
import Derived.ShutString
import Derived.ChangeOld
import Derived.Below
import Derived.SizedLaws
namespace Go.Proofs.Ytfjknhmepgfhaaa.fnExactDeclsOk
open Go.ChangeShapes Go.WideShapes Go.ChangeAt Go.RowKit Go.Proofs.Ytfjknhmepgfhaaa.Opener Go.Proofs.Ytfjknhmepgfhaaa.PFnExactDeclsOk Go.Proofs.YtfjknhmepgfhaaaW.PrintWords
set_option linter.unusedVariables false
theorem own : ownKnob Try.prog.godebug = none := by kernel_rfl
theorem laidOut : laidOutB Try.prog = true := by kernel_rfl
theorem op2 : Opens Try.prog 2 (Kd.int .i64) (QI .i64) := Opens.int Try.underlying2 (by kernel_rfl)
theorem op9 : Opens Try.prog 9 Kd.string QS := Opens.string Try.underlying9 (by kernel_rfl)
theorem op86 : Opens Try.prog 86 (Kd.pair Kd.string (Kd.int .i64)) (QP QS (QI .i64)) := Opens.struct Try.underlying86 2 (by kernel_rfl) rfl (OpensFs.cons rfl op9 (OpensFs.one rfl op2))
theorem op86k : Opens Try.prog 86 k86 (QF (QP QS (QI .i64)) (fun x : S86 => (x.f0, x.f1))) := Opens.iso (fun x : S86 => (x.f0, x.f1)) (fun y => ⟨y.1, y.2⟩) (fun _ => rfl) op86
theorem op40 : Opens Try.prog 40 (Kd.slice 86 k86) (QL (QF (QP QS (QI .i64)) (fun x : S86 => (x.f0, x.f1)))) := Opens.slice Try.underlying40 (by kernel_rfl) op86k
set_option maxRecDepth 100000 in
theorem lifted (os : Os) (started : os.Started) (H : Type) (enc : TypeId × Value → H) :
    ReturnsInHanded {} Try.checked os 9 .any (Rows.fnExactDeclsOkSpec.pre6 enc Try.prog Try.f9 Rows.fnExactDeclsOkRow.domain false) (Rows.fnExactDeclsOkSpec.post enc Try.prog Try.f9 false true false false) := by
  refine returnsInHanded_of_change_sized (C := Try.checked) own started (by kernel_rfl) Try.func9
    (ChangeSpec.witness6 (enc := enc) (C := Try.checked) false ⟨#[], #[.slice none 0 0], []⟩ 8 (by kernel_rfl) (by kernel_rfl) (by kernel_rfl) (by kernel_rfl)) ?_
  intro W base args ds gs before hval0 hW hcnd hsz0 _
  have hval : ∀ (j : Nat) t v, Try.f9.params[j]? = some t → args[j]? = some v → Value.okWide Try.prog W .any base t v := hval0
  have hW' := hW
  obtain ⟨p, q, hA0, hV, rfl, hfz, hnd⟩ := hW
  have hA : DataW.TrodAll enc Try.prog W 0 (fun _ => true) true Try.f9.params.toList args.toList ds p := hA0
  rw [Try.params9] at hA hval
  obtain ⟨v0, vs0, d0, ds0, p0, q0, hargs, rfl, rfl, h0, r0⟩ := trodAll_cons hA
  obtain ⟨rfl, rfl, rfl⟩ := trodAll_nil r0
  obtain rfl : args = #[v0] := by cases args; simp_all
  obtain ⟨rfl, rfl⟩ := trodVars_none hV
  have k0 := h0
  have lt0 : ∀ x ∈ p0, x.block < W.heap.size := by obtain ⟨m, hm⟩ := k0; exact DataW.trod_lt m _ _ _ hm
  obtain ⟨y0, hK0, hq0⟩ := trod_agg op40 h0
  obtain ⟨a0, len0, cap0, rfl⟩ := okWide_slice Try.underlying40 (hval 0 40 v0 rfl rfl)
  obtain ⟨A0, c0, e0, hc0, hr0⟩ := hK0
  simp only [Value.cells, List.cons.injEq, Value.slice.injEq, and_true] at e0
  obtain ⟨rfl, rfl, rfl⟩ := e0
  clear hA0 hval0 hsz0
  obtain ⟨k, h⟩ := Pure.FnExactDeclsOk (y0) (hq0.2) (hq0.1)
  refine (PFnExactDeclsOk.laws_FnExactDeclsOk.calls k _ _ (y0) true W hr0 hc0 h rfl).mono fun e W' ⟨he, bel0⟩ => ?_
  have bel : Below W.heap.size W W' := bel0
  subst he
  exact ⟨_, rfl, _, _, _, [], _, [], hW', trodAll_mk1 (shut_bool Try.underlying4 _), (trodAll_cons_mk (Below.trod laidOut (by kernel_rfl) (of_decide_eq_true (by kernel_rfl)) k0 bel lt0) trodAll_mk0), rfl, bel.frame _, fun h => by cases h⟩
theorem over : Rows.fnExactDeclsOkRow.holds Try.pinned (OpenSpec.ofChange Rows.fnExactDeclsOkSpec) :=
  OpenClaim.holds_of_wide 9 Try.f9 rfl rfl rfl rfl rfl rfl rfl ⟨rfl, rfl, rfl, rfl, rfl⟩ rfl rfl rfl rfl rfl (by kernel_rfl) Try.func9 (by kernel_rfl)
    (of_decide_eq_true (by kernel_rfl)) (by unfold Func.isWrapper; first | (rw [if_pos (by decide +kernel)]; kernel_rfl) | (rw [if_neg (by decide +kernel)]; exact ⟨rfl, rfl⟩))
    (fun os started H enc _ => lifted os started H enc)
theorem proved : Rows.FnExactDeclsOkSaid := over
#print axioms proved
end Go.Proofs.Ytfjknhmepgfhaaa.fnExactDeclsOk
namespace Go.Proofs.Ytfjknhmepgfhaaa
/-- The row, under a short name, for the claim. -/
theorem fnExactDeclsOk_holds : Rows.FnExactDeclsOkSaid := fnExactDeclsOk.proved
end Go.Proofs.Ytfjknhmepgfhaaa
