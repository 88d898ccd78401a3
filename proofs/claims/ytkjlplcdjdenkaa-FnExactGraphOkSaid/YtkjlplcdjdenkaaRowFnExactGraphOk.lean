/- The row of the law FnExactGraphOk: its arguments are opened, and the printed contract of the law's own function answers. -/
import Derived.Test.YtkjlplcdjdenkaaRows
import Derived.Test.YtkjlplcdjdenkaaPFnExactGraphOkx6
import Derived.Test.YtkjlplcdjdenkaaPureFnExactGraphOk
import Derived.Test.YtkjlplcdjdenkaaOpener
import Derived.WalkKit
import Derived.ProofKit
import Derived.OpenShut
import Derived.ShutString
import Derived.ChangeOld
import Derived.Below
import Derived.SizedLaws
namespace Go.Proofs.Ytkjlplcdjdenkaa.fnExactGraphOk
open Go.ChangeShapes Go.WideShapes Go.ChangeAt Go.RowKit Go.Proofs.Ytkjlplcdjdenkaa.Opener Go.Proofs.Ytkjlplcdjdenkaa.PFnExactGraphOk Go.Proofs.YtkjlplcdjdenkaaW.PrintWords
set_option linter.unusedVariables false
theorem own : ownKnob Try.prog.godebug = none := by kernel_rfl
theorem laidOut : laidOutB Try.prog = true := by kernel_rfl
theorem op212 : Opens Try.prog 212 (Kd.int .u64) (QI .u64) := Opens.int Try.underlying212 (by kernel_rfl)
theorem op148 : Opens Try.prog 148 (Kd.slice 212 (Kd.int .u64)) (QL (QI .u64)) := Opens.slice Try.underlying148 (by kernel_rfl) op212
theorem op2 : Opens Try.prog 2 (Kd.int .i64) (QI .i64) := Opens.int Try.underlying2 (by kernel_rfl)
theorem op161r : Opens Try.prog 161 (Kd.pair (Kd.int .i64) (Kd.slice 212 (Kd.int .u64))) (QP (QI .i64) (QL (QI .u64))) := Opens.struct Try.underlying161 2 (by kernel_rfl) rfl (OpensFs.cons rfl op2 (OpensFs.one rfl op148))
theorem op161k : Opens Try.prog 161 k161 (QF (QP (QI .i64) (QL (QI .u64))) (fun x : S161 => (x.f0, x.f1))) := Opens.iso (fun x : S161 => (x.f0, x.f1)) (fun y => ⟨y.1, y.2⟩) (fun _ => rfl) op161r
theorem op191r : Opens Try.prog 191 (Kd.pair (Kd.int .i64) (Kd.pair (Kd.int .i64) k161)) (QP (QI .i64) (QP (QI .i64) (QF (QP (QI .i64) (QL (QI .u64))) (fun x : S161 => (x.f0, x.f1))))) := Opens.struct Try.underlying191 4 (by kernel_rfl) rfl (OpensFs.cons rfl op2 (OpensFs.cons rfl op2 (OpensFs.one rfl op161k)))
theorem op191k : Opens Try.prog 191 k191 (QF (QP (QI .i64) (QP (QI .i64) (QF (QP (QI .i64) (QL (QI .u64))) (fun x : S161 => (x.f0, x.f1))))) (fun x : S191 => (x.f0, x.f1, x.f2))) := Opens.iso (fun x : S191 => (x.f0, x.f1, x.f2)) (fun y => ⟨y.1, y.2.1, y.2.2⟩) (fun _ => rfl) op191r
theorem op72 : Opens Try.prog 72 (Kd.slice 191 k191) (QL (QF (QP (QI .i64) (QP (QI .i64) (QF (QP (QI .i64) (QL (QI .u64))) (fun x : S161 => (x.f0, x.f1))))) (fun x : S191 => (x.f0, x.f1, x.f2)))) := Opens.slice Try.underlying72 (by kernel_rfl) op191k
theorem op55 : Opens Try.prog 55 (Kd.slice 2 (Kd.int .i64)) (QL (QI .i64)) := Opens.slice Try.underlying55 (by kernel_rfl) op2
theorem op74 : Opens Try.prog 74 (Kd.pair (Kd.slice 2 (Kd.int .i64)) (Kd.slice 191 k191)) (QP (QL (QI .i64)) (QL (QF (QP (QI .i64) (QP (QI .i64) (QF (QP (QI .i64) (QL (QI .u64))) (fun x : S161 => (x.f0, x.f1))))) (fun x : S191 => (x.f0, x.f1, x.f2))))) := Opens.struct Try.underlying74 2 (by kernel_rfl) rfl (OpensFs.cons rfl op55 (OpensFs.one rfl op72))
set_option maxRecDepth 100000 in
theorem lifted (os : Os) (started : os.Started) (H : Type) (enc : TypeId × Value → H) :
    ReturnsInHanded {} Try.checked os 9 .any (Rows.fnExactGraphOkSpec.pre6 enc Try.prog Try.f9 Rows.fnExactGraphOkRow.domain false) (Rows.fnExactGraphOkSpec.post enc Try.prog Try.f9 false true false false) := by
  refine returnsInHanded_of_change_sized (C := Try.checked) own started (by kernel_rfl) Try.func9
    (ChangeSpec.witness6 (enc := enc) (C := Try.checked) false ⟨#[], #[.agg #[.slice none 0 0, .slice none 0 0]], []⟩ 8 (by kernel_rfl) (by kernel_rfl) (by kernel_rfl) (by kernel_rfl)) ?_
  intro W base args ds gs before hval0 hW hcnd hsz0 _
  have hval : ∀ (j : Nat) t v, Try.f9.params[j]? = some t → args[j]? = some v → Value.okWide Try.prog W .any base t v := hval0
  have hW' := hW
  obtain ⟨p, q, hA0, hV, rfl, hfz, hnd⟩ := hW
  have hA : DataW.TrodAll enc Try.prog W 0 (fun _ => true) true Try.f9.params.toList args.toList ds p := hA0
  rw [Try.params9] at hA hval
  obtain ⟨v0, vs0, d0, ds0, p0, q0, hargs, rfl, rfl, h0, r0⟩ := trodAll_cons hA
  obtain ⟨rfl, rfl, rfl⟩ := trodAll_nil r0
  obtain rfl : args = #[v0] := by cases args; simp_all
  obtain ⟨rfl, rfl⟩ := trodVars_none hV
  have k0 := h0
  have lt0 : ∀ x ∈ p0, x.block < W.heap.size := by obtain ⟨m, hm⟩ := k0; exact DataW.trod_lt m _ _ _ hm
  obtain ⟨y0, hK0, hq0⟩ := trod_agg op74 h0
  obtain ⟨cs0, rfl, _⟩ := okWide_struct Try.underlying74 (hval 0 74 v0 rfl rfl)
  obtain ⟨_, _, e0, ⟨A0_0, c0_0, rfl, hc0_0, hr0_0⟩, ⟨A0_1, c0_1, rfl, hc0_1, hr0_1⟩⟩ := hK0
  obtain rfl : cs0 = #[.slice A0_0 y0.1.length c0_0, .slice A0_1 y0.2.length c0_1] := by cases cs0; simpa [Value.cells] using e0
  clear hA0 hval0 hsz0
  obtain ⟨k, h⟩ := Pure.FnExactGraphOk (y0.1) (y0.2) (hq0.1.2) (hq0.1.1) (hq0.2.2) (hq0.2.1)
  refine (PFnExactGraphOk.laws_FnExactGraphOk.calls k _ _ (y0.1) _ _ (y0.2) true W hr0_0 hc0_0 hr0_1 hc0_1 h rfl).mono fun e W' ⟨he, bel0⟩ => ?_
  have bel : Below W.heap.size W W' := bel0
  subst he
  exact ⟨_, rfl, _, _, _, [], _, [], hW', trodAll_mk1 (shut_bool Try.underlying4 _), (trodAll_cons_mk (Below.trod laidOut (by kernel_rfl) (of_decide_eq_true (by kernel_rfl)) k0 bel lt0) trodAll_mk0), rfl, bel.frame _, fun h => by cases h⟩
theorem over : Rows.fnExactGraphOkRow.holds Try.pinned (OpenSpec.ofChange Rows.fnExactGraphOkSpec) :=
  OpenClaim.holds_of_wide 9 Try.f9 rfl rfl rfl rfl rfl rfl rfl ⟨rfl, rfl, rfl, rfl, rfl⟩ rfl rfl rfl rfl rfl (by kernel_rfl) Try.func9 (by kernel_rfl)
    (of_decide_eq_true (by kernel_rfl)) (by unfold Func.isWrapper; first | (rw [if_pos (by decide +kernel)]; kernel_rfl) | (rw [if_neg (by decide +kernel)]; exact ⟨rfl, rfl⟩))
    (fun os started H enc _ => lifted os started H enc)
theorem proved : Rows.FnExactGraphOkSaid := over
#print axioms proved
end Go.Proofs.Ytkjlplcdjdenkaa.fnExactGraphOk
namespace Go.Proofs.Ytkjlplcdjdenkaa
/-- The row, under a short name, for the claim. -/
theorem fnExactGraphOk_holds : Rows.FnExactGraphOkSaid := fnExactGraphOk.proved
end Go.Proofs.Ytkjlplcdjdenkaa
