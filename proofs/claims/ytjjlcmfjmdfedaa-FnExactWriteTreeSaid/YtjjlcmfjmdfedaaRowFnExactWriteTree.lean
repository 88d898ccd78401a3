/- The row of the law FnExactWriteTree: its arguments are opened, and the printed contract of the law's own function answers. -/
import Derived.Test.YtjjlcmfjmdfedaaRows
import Derived.Test.YtjjlcmfjmdfedaaPFnExactWriteTreex6
import Derived.Test.YtjjlcmfjmdfedaaPureFnExactWriteTree
import Derived.Test.YtjjlcmfjmdfedaaOpener
import Derived.WalkKit
import Derived.ProofKit
import Derived.OpenShut
import Derived.ShutString
import Derived.ChangeOld
import Derived.Below
import Derived.SizedLaws
namespace Go.Proofs.Ytjjlcmfjmdfedaa.fnExactWriteTree
open Go.ChangeShapes Go.WideShapes Go.ChangeAt Go.RowKit Go.Proofs.Ytjjlcmfjmdfedaa.Opener Go.Proofs.Ytjjlcmfjmdfedaa.PFnExactWriteTree Go.Proofs.YtjjlcmfjmdfedaaW.PrintWords
set_option linter.unusedVariables false
theorem own : ownKnob Try.prog.godebug = none := by kernel_rfl
theorem laidOut : laidOutB Try.prog = true := by kernel_rfl
theorem op2 : Opens Try.prog 2 (Kd.int .i64) (QI .i64) := Opens.int Try.underlying2 (by kernel_rfl)
theorem op60 : Opens Try.prog 60 (Kd.slice 2 (Kd.int .i64)) (QL (QI .i64)) := Opens.slice Try.underlying60 (by kernel_rfl) op2
theorem op9 : Opens Try.prog 9 Kd.string QS := Opens.string Try.underlying9 (by kernel_rfl)
theorem op80r : Opens Try.prog 80 (Kd.pair Kd.string (Kd.slice 2 (Kd.int .i64))) (QP QS (QL (QI .i64))) := Opens.struct Try.underlying80 2 (by kernel_rfl) rfl (OpensFs.cons rfl op9 (OpensFs.one rfl op60))
theorem op80k : Opens Try.prog 80 k80 (QF (QP QS (QL (QI .i64))) (fun x : S80 => (x.f0, x.f1))) := Opens.iso (fun x : S80 => (x.f0, x.f1)) (fun y => ⟨y.1, y.2⟩) (fun _ => rfl) op80r
theorem op22 : Opens Try.prog 22 (Kd.slice 80 k80) (QL (QF (QP QS (QL (QI .i64))) (fun x : S80 => (x.f0, x.f1)))) := Opens.slice Try.underlying22 (by kernel_rfl) op80k
theorem op24 : Opens Try.prog 24 (Kd.slice 80 k80) (QL (QF (QP QS (QL (QI .i64))) (fun x : S80 => (x.f0, x.f1)))) := Opens.struct Try.underlying24 1 (by kernel_rfl) rfl (OpensFs.one rfl op22)
set_option maxRecDepth 100000 in
theorem lifted (os : Os) (started : os.Started) (H : Type) (enc : TypeId × Value → H) :
    ReturnsInHanded {} Try.checked os 3 .any (Rows.fnExactWriteTreeSpec.pre6 enc Try.prog Try.f3 Rows.fnExactWriteTreeRow.domain false) (Rows.fnExactWriteTreeSpec.post enc Try.prog Try.f3 false true false false) := by
  refine returnsInHanded_of_change_sized (C := Try.checked) own started (by kernel_rfl) Try.func3
    (ChangeSpec.witness6 (enc := enc) (C := Try.checked) false ⟨#[], #[.agg #[.slice none 0 0]], []⟩ 8 (by kernel_rfl) (by kernel_rfl) (by kernel_rfl) (by kernel_rfl)) ?_
  intro W base args ds gs before hval0 hW hcnd hsz0 _
  have hval : ∀ (j : Nat) t v, Try.f3.params[j]? = some t → args[j]? = some v → Value.okWide Try.prog W .any base t v := hval0
  have hW' := hW
  obtain ⟨p, q, hA0, hV, rfl, hfz, hnd⟩ := hW
  have hA : DataW.TrodAll enc Try.prog W 0 (fun _ => true) true Try.f3.params.toList args.toList ds p := hA0
  rw [Try.params3] at hA hval
  obtain ⟨v0, vs0, d0, ds0, p0, q0, hargs, rfl, rfl, h0, r0⟩ := trodAll_cons hA
  obtain ⟨rfl, rfl, rfl⟩ := trodAll_nil r0
  obtain rfl : args = #[v0] := by cases args; simp_all
  obtain ⟨rfl, rfl⟩ := trodVars_none hV
  have k0 := h0
  have lt0 : ∀ x ∈ p0, x.block < W.heap.size := by obtain ⟨m, hm⟩ := k0; exact DataW.trod_lt m _ _ _ hm
  obtain ⟨y0, hK0, hq0⟩ := trod_agg op24 h0
  obtain ⟨cs0, rfl, _⟩ := okWide_struct Try.underlying24 (hval 0 24 v0 rfl rfl)
  obtain ⟨A0_0, c0_0, e0, hc0_0, hr0_0⟩ := hK0
  obtain rfl : cs0 = #[.slice A0_0 y0.length c0_0] := by cases cs0; simpa [Value.cells] using e0
  clear hA0 hval0 hsz0
  obtain ⟨k, h⟩ := Pure.FnExactWriteTree (y0) (hq0.2) (hq0.1)
  refine (PFnExactWriteTree.laws_FnExactWriteTree.calls k _ _ (y0) true W hr0_0 hc0_0 h rfl).mono fun e W' ⟨he, bel0⟩ => ?_
  have bel : Below W.heap.size W W' := bel0
  subst he
  exact ⟨_, rfl, _, _, _, [], _, [], hW', trodAll_mk1 (shut_bool Try.underlying4 _), (trodAll_cons_mk (Below.trod laidOut (by kernel_rfl) (of_decide_eq_true (by kernel_rfl)) k0 bel lt0) trodAll_mk0), rfl, bel.frame _, fun h => by cases h⟩
theorem over : Rows.fnExactWriteTreeRow.holds Try.pinned (OpenSpec.ofChange Rows.fnExactWriteTreeSpec) :=
  OpenClaim.holds_of_wide 3 Try.f3 rfl rfl rfl rfl rfl rfl rfl ⟨rfl, rfl, rfl, rfl, rfl⟩ rfl rfl rfl rfl rfl (by kernel_rfl) Try.func3 (by kernel_rfl)
    (of_decide_eq_true (by kernel_rfl)) (by unfold Func.isWrapper; first | (rw [if_pos (by decide +kernel)]; kernel_rfl) | (rw [if_neg (by decide +kernel)]; exact ⟨rfl, rfl⟩))
    (fun os started H enc _ => lifted os started H enc)
theorem proved : Rows.FnExactWriteTreeSaid := over
#print axioms proved
end Go.Proofs.Ytjjlcmfjmdfedaa.fnExactWriteTree
namespace Go.Proofs.Ytjjlcmfjmdfedaa
/-- The row, under a short name, for the claim. -/
theorem fnExactWriteTree_holds : Rows.FnExactWriteTreeSaid := fnExactWriteTree.proved
end Go.Proofs.Ytjjlcmfjmdfedaa
