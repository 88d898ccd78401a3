/- The row of the law FnExactWriteBits: its arguments are opened, and the printed contract of the law's own function answers. -/
import Derived.Test.YtfjknhmepgfhaaaRows
import Derived.Test.YtfjknhmepgfhaaaPFnExactWriteBitsx4
import Derived.Test.YtfjknhmepgfhaaaPureFnExactWriteBits
import Derived.Test.YtfjknhmepgfhaaaOpener
import Derived.WalkKit
import Derived.ProofKit
import Derived.OpenShut
import Derived.ShutString
import Derived.ChangeOld
import Derived.Below
import Derived.SizedLaws
namespace Go.Proofs.Ytfjknhmepgfhaaa.fnExactWriteBits
open Go.ChangeShapes Go.WideShapes Go.ChangeAt Go.RowKit Go.Proofs.Ytfjknhmepgfhaaa.Opener Go.Proofs.Ytfjknhmepgfhaaa.PFnExactWriteBits Go.Proofs.YtfjknhmepgfhaaaW.PrintWords
set_option linter.unusedVariables false
theorem own : ownKnob Try.prog.godebug = none := by kernel_rfl
theorem laidOut : laidOutB Try.prog = true := by kernel_rfl
theorem op76 : Opens Try.prog 76 (Kd.int .u64) (QI .u64) := Opens.int Try.underlying76 (by kernel_rfl)
theorem op23 : Opens Try.prog 23 (Kd.slice 76 (Kd.int .u64)) (QL (QI .u64)) := Opens.slice Try.underlying23 (by kernel_rfl) op76
theorem op2 : Opens Try.prog 2 (Kd.int .i64) (QI .i64) := Opens.int Try.underlying2 (by kernel_rfl)
theorem op25 : Opens Try.prog 25 (Kd.pair (Kd.int .i64) (Kd.slice 76 (Kd.int .u64))) (QP (QI .i64) (QL (QI .u64))) := Opens.struct Try.underlying25 2 (by kernel_rfl) rfl (OpensFs.cons rfl op2 (OpensFs.one rfl op23))
set_option maxRecDepth 100000 in
theorem lifted (os : Os) (started : os.Started) (H : Type) (enc : TypeId × Value → H) :
    ReturnsInHanded {} Try.checked os 7 .any (Rows.fnExactWriteBitsSpec.pre6 enc Try.prog Try.f7 Rows.fnExactWriteBitsRow.domain false) (Rows.fnExactWriteBitsSpec.post enc Try.prog Try.f7 false true false false) := by
  refine returnsInHanded_of_change_sized (C := Try.checked) own started (by kernel_rfl) Try.func7
    (ChangeSpec.witness6 (enc := enc) (C := Try.checked) false ⟨#[], #[.agg #[.int .i64 0, .slice none 0 0]], []⟩ 8 (by kernel_rfl) (by kernel_rfl) (by kernel_rfl) (by kernel_rfl)) ?_
  intro W base args ds gs before hval0 hW hcnd hsz0 _
  have hval : ∀ (j : Nat) t v, Try.f7.params[j]? = some t → args[j]? = some v → Value.okWide Try.prog W .any base t v := hval0
  have hW' := hW
  obtain ⟨p, q, hA0, hV, rfl, hfz, hnd⟩ := hW
  have hA : DataW.TrodAll enc Try.prog W 0 (fun _ => true) true Try.f7.params.toList args.toList ds p := hA0
  rw [Try.params7] at hA hval
  obtain ⟨v0, vs0, d0, ds0, p0, q0, hargs, rfl, rfl, h0, r0⟩ := trodAll_cons hA
  obtain ⟨rfl, rfl, rfl⟩ := trodAll_nil r0
  obtain rfl : args = #[v0] := by cases args; simp_all
  obtain ⟨rfl, rfl⟩ := trodVars_none hV
  have k0 := h0
  have lt0 : ∀ x ∈ p0, x.block < W.heap.size := by obtain ⟨m, hm⟩ := k0; exact DataW.trod_lt m _ _ _ hm
  obtain ⟨y0, hK0, hq0⟩ := trod_agg op25 h0
  obtain ⟨cs0, rfl, _⟩ := okWide_struct Try.underlying25 (hval 0 25 v0 rfl rfl)
  obtain ⟨_, _, e0, rfl, ⟨A0_1, c0_1, rfl, hc0_1, hr0_1⟩⟩ := hK0
  obtain rfl : cs0 = #[.int .i64 y0.1, .slice A0_1 y0.2.length c0_1] := by cases cs0; simpa [Value.cells] using e0
  clear hA0 hval0 hsz0
  obtain ⟨k, h⟩ := Pure.FnExactWriteBits (y0.1) (y0.2) (hq0.1) (hq0.2.2) (hq0.2.1)
  refine (PFnExactWriteBits.laws_FnExactWriteBits.calls k (y0.1) _ _ (y0.2) true W hr0_1 hc0_1 h).mono fun e W' ⟨he, bel0⟩ => ?_
  have bel : Below W.heap.size W W' := bel0
  subst he
  exact ⟨_, rfl, _, _, _, [], _, [], hW', trodAll_mk1 (shut_bool Try.underlying4 _), (trodAll_cons_mk (Below.trod laidOut (by kernel_rfl) (of_decide_eq_true (by kernel_rfl)) k0 bel lt0) trodAll_mk0), rfl, bel.frame _, fun h => by cases h⟩
theorem over : Rows.fnExactWriteBitsRow.holds Try.pinned (OpenSpec.ofChange Rows.fnExactWriteBitsSpec) :=
  OpenClaim.holds_of_wide 7 Try.f7 rfl rfl rfl rfl rfl rfl rfl ⟨rfl, rfl, rfl, rfl, rfl⟩ rfl rfl rfl rfl rfl (by kernel_rfl) Try.func7 (by kernel_rfl)
    (of_decide_eq_true (by kernel_rfl)) (by unfold Func.isWrapper; first | (rw [if_pos (by decide +kernel)]; kernel_rfl) | (rw [if_neg (by decide +kernel)]; exact ⟨rfl, rfl⟩))
    (fun os started H enc _ => lifted os started H enc)
theorem proved : Rows.FnExactWriteBitsSaid := over
#print axioms proved
end Go.Proofs.Ytfjknhmepgfhaaa.fnExactWriteBits
namespace Go.Proofs.Ytfjknhmepgfhaaa
/-- The row, under a short name, for the claim. -/
theorem fnExactWriteBits_holds : Rows.FnExactWriteBitsSaid := fnExactWriteBits.proved
end Go.Proofs.Ytfjknhmepgfhaaa
