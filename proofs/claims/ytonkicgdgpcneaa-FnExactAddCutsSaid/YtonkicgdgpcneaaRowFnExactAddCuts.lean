/- The row of the law FnExactAddCuts: its arguments are opened, and the printed contract of the law's own function answers. -/
import Derived.Test.YtonkicgdgpcneaaRows
import Derived.Test.YtonkicgdgpcneaaPFnExactAddCutsx12
import Derived.Test.YtonkicgdgpcneaaPureFnExactAddCuts
import Derived.Test.YtonkicgdgpcneaaOpener
import Derived.WalkKit
import Derived.ProofKit
import Derived.OpenShut
import Derived.ShutString
import Derived.ChangeOld
import Derived.Below
import Derived.SizedLaws
namespace Go.Proofs.Ytonkicgdgpcneaa.fnExactAddCuts
open Go.ChangeShapes Go.WideShapes Go.ChangeAt Go.RowKit Go.Proofs.Ytonkicgdgpcneaa.Opener Go.Proofs.Ytonkicgdgpcneaa.PFnExactAddCuts Go.Proofs.YtonkicgdgpcneaaW.PrintWords
set_option linter.unusedVariables false
theorem own : ownKnob Try.prog.godebug = none := by kernel_rfl
theorem laidOut : laidOutB Try.prog = true := by kernel_rfl
theorem op2 : Opens Try.prog 2 (Kd.int .i64) (QI .i64) := Opens.int Try.underlying2 (by kernel_rfl)
theorem op9 : Opens Try.prog 9 Kd.string QS := Opens.string Try.underlying9 (by kernel_rfl)
theorem op85r : Opens Try.prog 85 (Kd.pair Kd.string (Kd.int .i64)) (QP QS (QI .i64)) := Opens.struct Try.underlying85 2 (by kernel_rfl) rfl (OpensFs.cons rfl op9 (OpensFs.one rfl op2))
theorem op85k : Opens Try.prog 85 k85 (QF (QP QS (QI .i64)) (fun x : S85 => (x.f0, x.f1))) := Opens.iso (fun x : S85 => (x.f0, x.f1)) (fun y => ⟨y.1, y.2⟩) (fun _ => rfl) op85r
theorem op38 : Opens Try.prog 38 (Kd.slice 85 k85) (QL (QF (QP QS (QI .i64)) (fun x : S85 => (x.f0, x.f1)))) := Opens.slice Try.underlying38 (by kernel_rfl) op85k
theorem op26 : Opens Try.prog 26 (Kd.slice 2 (Kd.int .i64)) (QL (QI .i64)) := Opens.slice Try.underlying26 (by kernel_rfl) op2
theorem op39 : Opens Try.prog 39 (Kd.slice 26 (Kd.slice 2 (Kd.int .i64))) (QL (QL (QI .i64))) := Opens.slice Try.underlying39 (by kernel_rfl) op26
theorem op41 : Opens Try.prog 41 (Kd.slice 26 (Kd.slice 2 (Kd.int .i64))) (QL (QL (QI .i64))) := Opens.struct Try.underlying41 1 (by kernel_rfl) rfl (OpensFs.one rfl op39)
set_option maxRecDepth 100000 in
theorem lifted (os : Os) (started : os.Started) (H : Type) (enc : TypeId × Value → H) :
    ReturnsInHanded {} Try.checked os 4 .any (Rows.fnExactAddCutsSpec.pre6 enc Try.prog Try.f4 Rows.fnExactAddCutsRow.domain false) (Rows.fnExactAddCutsSpec.post enc Try.prog Try.f4 false true false false) := by
  refine returnsInHanded_of_change_sized (C := Try.checked) own started (by kernel_rfl) Try.func4
    (ChangeSpec.witness6 (enc := enc) (C := Try.checked) false ⟨#[], #[.slice none 0 0, .agg #[.slice none 0 0], .agg #[.slice none 0 0]], []⟩ 8 (by kernel_rfl) (by kernel_rfl) (by kernel_rfl) (by kernel_rfl)) ?_
  intro W base args ds gs before hval0 hW hcnd hsz0 _
  have hval : ∀ (j : Nat) t v, Try.f4.params[j]? = some t → args[j]? = some v → Value.okWide Try.prog W .any base t v := hval0
  have hW' := hW
  obtain ⟨p, q, hA0, hV, rfl, hfz, hnd⟩ := hW
  have hA : DataW.TrodAll enc Try.prog W 0 (fun _ => true) true Try.f4.params.toList args.toList ds p := hA0
  rw [Try.params4] at hA hval
  obtain ⟨v0, vs0, d0, ds0, p0, q0, hargs, rfl, rfl, h0, r0⟩ := trodAll_cons hA
  obtain ⟨v1, vs1, d1, ds1, p1, q1, rfl, rfl, rfl, h1, r1⟩ := trodAll_cons r0
  obtain ⟨v2, vs2, d2, ds2, p2, q2, rfl, rfl, rfl, h2, r2⟩ := trodAll_cons r1
  obtain ⟨rfl, rfl, rfl⟩ := trodAll_nil r2
  obtain rfl : args = #[v0, v1, v2] := by cases args; simp_all
  obtain ⟨rfl, rfl⟩ := trodVars_none hV
  have k0 := h0
  have lt0 : ∀ x ∈ p0, x.block < W.heap.size := by obtain ⟨m, hm⟩ := k0; exact DataW.trod_lt m _ _ _ hm
  obtain ⟨y0, hK0, hq0⟩ := trod_agg op38 h0
  obtain ⟨a0, len0, cap0, rfl⟩ := okWide_slice Try.underlying38 (hval 0 38 v0 rfl rfl)
  obtain ⟨A0, c0, e0, hc0, hr0⟩ := hK0
  simp only [Value.cells, List.cons.injEq, Value.slice.injEq, and_true] at e0
  obtain ⟨rfl, rfl, rfl⟩ := e0
  have k1 := h1
  have lt1 : ∀ x ∈ p1, x.block < W.heap.size := by obtain ⟨m, hm⟩ := k1; exact DataW.trod_lt m _ _ _ hm
  obtain ⟨y1, hK1, hq1⟩ := trod_agg op41 h1
  obtain ⟨cs1, rfl, _⟩ := okWide_struct Try.underlying41 (hval 1 41 v1 rfl rfl)
  obtain ⟨A1_0, c1_0, e1, hc1_0, hr1_0⟩ := hK1
  obtain rfl : cs1 = #[.slice A1_0 y1.length c1_0] := by cases cs1; simpa [Value.cells] using e1
  have k2 := h2
  have lt2 : ∀ x ∈ p2, x.block < W.heap.size := by obtain ⟨m, hm⟩ := k2; exact DataW.trod_lt m _ _ _ hm
  obtain ⟨y2, hK2, hq2⟩ := trod_agg op41 h2
  obtain ⟨cs2, rfl, _⟩ := okWide_struct Try.underlying41 (hval 2 41 v2 rfl rfl)
  obtain ⟨A2_0, c2_0, e2, hc2_0, hr2_0⟩ := hK2
  obtain rfl : cs2 = #[.slice A2_0 y2.length c2_0] := by cases cs2; simpa [Value.cells] using e2
  clear hA0 hval0 hsz0
  obtain ⟨k, h⟩ := Pure.FnExactAddCuts (y0) (y1) (y2) (hq0.2) (hq0.1) (hq1.2) (hq1.1) (hq2.2) (hq2.1)
  refine (PFnExactAddCuts.laws_FnExactAddCuts.calls k _ _ (y0) _ _ (y1) _ _ (y2) true W hr0 hc0 hr1_0 hc1_0 hr2_0 hc2_0 h).mono fun e W' ⟨he, bel0⟩ => ?_
  have bel : Below W.heap.size W W' := bel0
  subst he
  exact ⟨_, rfl, _, _, _, [], _, [], hW', trodAll_mk1 (shut_bool Try.underlying4 _), (trodAll_cons_mk (Below.trod laidOut (by kernel_rfl) (of_decide_eq_true (by kernel_rfl)) k0 bel lt0) (trodAll_cons_mk (Below.trod laidOut (by kernel_rfl) (of_decide_eq_true (by kernel_rfl)) k1 bel lt1) (trodAll_cons_mk (Below.trod laidOut (by kernel_rfl) (of_decide_eq_true (by kernel_rfl)) k2 bel lt2) trodAll_mk0))), rfl, bel.frame _, fun h => by cases h⟩
theorem over : Rows.fnExactAddCutsRow.holds Try.pinned (OpenSpec.ofChange Rows.fnExactAddCutsSpec) :=
  OpenClaim.holds_of_wide 4 Try.f4 rfl rfl rfl rfl rfl rfl rfl ⟨rfl, rfl, rfl, rfl, rfl⟩ rfl rfl rfl rfl rfl (by kernel_rfl) Try.func4 (by kernel_rfl)
    (of_decide_eq_true (by kernel_rfl)) (by unfold Func.isWrapper; first | (rw [if_pos (by decide +kernel)]; kernel_rfl) | (rw [if_neg (by decide +kernel)]; exact ⟨rfl, rfl⟩))
    (fun os started H enc _ => lifted os started H enc)
theorem proved : Rows.FnExactAddCutsSaid := over
#print axioms proved
end Go.Proofs.Ytonkicgdgpcneaa.fnExactAddCuts
namespace Go.Proofs.Ytonkicgdgpcneaa
/-- The row, under a short name, for the claim. -/
theorem fnExactAddCuts_holds : Rows.FnExactAddCutsSaid := fnExactAddCuts.proved
end Go.Proofs.Ytonkicgdgpcneaa
