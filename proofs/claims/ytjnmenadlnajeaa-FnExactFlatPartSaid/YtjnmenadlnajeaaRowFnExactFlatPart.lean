/- The row of the law FnExactFlatPart: its arguments are opened, and the printed contract of the law's own function answers. -/
import Derived.Test.YtjnmenadlnajeaaRows
import Derived.Test.YtjnmenadlnajeaaPFnExactFlatPartx19
import Derived.Test.YtjnmenadlnajeaaPureFnExactFlatPart
import Derived.Test.YtjnmenadlnajeaaOpener
import Derived.WalkKit
import Derived.ProofKit
import Derived.OpenShut
import Derived.ShutString
import Derived.ChangeOld
import Derived.Below
import Derived.SizedLaws
namespace Go.Proofs.Ytjnmenadlnajeaa.fnExactFlatPart
open Go.ChangeShapes Go.WideShapes Go.ChangeAt Go.RowKit Go.Proofs.Ytjnmenadlnajeaa.Opener Go.Proofs.Ytjnmenadlnajeaa.PFnExactFlatPart Go.Proofs.YtjnmenadlnajeaaW.PrintWords
set_option linter.unusedVariables false
theorem own : ownKnob Try.prog.godebug = none := by kernel_rfl
theorem laidOut : laidOutB Try.prog = true := by kernel_rfl
theorem op2 : Opens Try.prog 2 (Kd.int .i64) (QI .i64) := Opens.int Try.underlying2 (by kernel_rfl)
theorem op9 : Opens Try.prog 9 Kd.string QS := Opens.string Try.underlying9 (by kernel_rfl)
theorem op55r : Opens Try.prog 55 (Kd.pair Kd.string (Kd.int .i64)) (QP QS (QI .i64)) := Opens.struct Try.underlying55 2 (by kernel_rfl) rfl (OpensFs.cons rfl op9 (OpensFs.one rfl op2))
theorem op55k : Opens Try.prog 55 k55 (QF (QP QS (QI .i64)) (fun x : S55 => (x.f0, x.f1))) := Opens.iso (fun x : S55 => (x.f0, x.f1)) (fun y => ⟨y.1, y.2⟩) (fun _ => rfl) op55r
theorem op22 : Opens Try.prog 22 (Kd.slice 55 k55) (QL (QF (QP QS (QI .i64)) (fun x : S55 => (x.f0, x.f1)))) := Opens.slice Try.underlying22 (by kernel_rfl) op55k
theorem op93 : Opens Try.prog 93 (Kd.int .u64) (QI .u64) := Opens.int Try.underlying93 (by kernel_rfl)
theorem op39 : Opens Try.prog 39 (Kd.slice 93 (Kd.int .u64)) (QL (QI .u64)) := Opens.slice Try.underlying39 (by kernel_rfl) op93
theorem op57r : Opens Try.prog 57 (Kd.pair (Kd.int .i64) (Kd.slice 93 (Kd.int .u64))) (QP (QI .i64) (QL (QI .u64))) := Opens.struct Try.underlying57 2 (by kernel_rfl) rfl (OpensFs.cons rfl op2 (OpensFs.one rfl op39))
theorem op57k : Opens Try.prog 57 k57 (QF (QP (QI .i64) (QL (QI .u64))) (fun x : S57 => (x.f0, x.f1))) := Opens.iso (fun x : S57 => (x.f0, x.f1)) (fun y => ⟨y.1, y.2⟩) (fun _ => rfl) op57r
theorem op59r : Opens Try.prog 59 (Kd.pair (Kd.int .i64) (Kd.pair (Kd.int .i64) (Kd.pair (Kd.int .i64) k57))) (QP (QI .i64) (QP (QI .i64) (QP (QI .i64) (QF (QP (QI .i64) (QL (QI .u64))) (fun x : S57 => (x.f0, x.f1)))))) := Opens.struct Try.underlying59 5 (by kernel_rfl) rfl (OpensFs.cons rfl op2 (OpensFs.cons rfl op2 (OpensFs.cons rfl op2 (OpensFs.one rfl op57k))))
theorem op59k : Opens Try.prog 59 k59 (QF (QP (QI .i64) (QP (QI .i64) (QP (QI .i64) (QF (QP (QI .i64) (QL (QI .u64))) (fun x : S57 => (x.f0, x.f1)))))) (fun x : S59 => (x.f0, x.f1, x.f2, x.f3))) := Opens.iso (fun x : S59 => (x.f0, x.f1, x.f2, x.f3)) (fun y => ⟨y.1, y.2.1, y.2.2.1, y.2.2.2⟩) (fun _ => rfl) op59r
theorem op23 : Opens Try.prog 23 (Kd.slice 59 k59) (QL (QF (QP (QI .i64) (QP (QI .i64) (QP (QI .i64) (QF (QP (QI .i64) (QL (QI .u64))) (fun x : S57 => (x.f0, x.f1)))))) (fun x : S59 => (x.f0, x.f1, x.f2, x.f3)))) := Opens.slice Try.underlying23 (by kernel_rfl) op59k
set_option maxRecDepth 100000 in
theorem lifted (os : Os) (started : os.Started) (H : Type) (enc : TypeId × Value → H) :
    ReturnsInHanded {} Try.checked os 5 .any (Rows.fnExactFlatPartSpec.pre6 enc Try.prog Try.f5 Rows.fnExactFlatPartRow.domain false) (Rows.fnExactFlatPartSpec.post enc Try.prog Try.f5 false true false false) := by
  refine returnsInHanded_of_change_sized (C := Try.checked) own started (by kernel_rfl) Try.func5
    (ChangeSpec.witness6 (enc := enc) (C := Try.checked) false ⟨#[], #[.slice none 0 0, .slice none 0 0, .int .i64 0, .int .i64 0], []⟩ 8 (by kernel_rfl) (by kernel_rfl) (by kernel_rfl) (by kernel_rfl)) ?_
  intro W base args ds gs before hval0 hW hcnd hsz0 _
  have hval : ∀ (j : Nat) t v, Try.f5.params[j]? = some t → args[j]? = some v → Value.okWide Try.prog W .any base t v := hval0
  have hW' := hW
  obtain ⟨p, q, hA0, hV, rfl, hfz, hnd⟩ := hW
  have hA : DataW.TrodAll enc Try.prog W 0 (fun _ => true) true Try.f5.params.toList args.toList ds p := hA0
  rw [Try.params5] at hA hval
  obtain ⟨v0, vs0, d0, ds0, p0, q0, hargs, rfl, rfl, h0, r0⟩ := trodAll_cons hA
  obtain ⟨v1, vs1, d1, ds1, p1, q1, rfl, rfl, rfl, h1, r1⟩ := trodAll_cons r0
  obtain ⟨v2, vs2, d2, ds2, p2, q2, rfl, rfl, rfl, h2, r2⟩ := trodAll_cons r1
  obtain ⟨v3, vs3, d3, ds3, p3, q3, rfl, rfl, rfl, h3, r3⟩ := trodAll_cons r2
  obtain ⟨rfl, rfl, rfl⟩ := trodAll_nil r3
  obtain rfl : args = #[v0, v1, v2, v3] := by cases args; simp_all
  obtain ⟨rfl, rfl⟩ := trodVars_none hV
  have k0 := h0
  have lt0 : ∀ x ∈ p0, x.block < W.heap.size := by obtain ⟨m, hm⟩ := k0; exact DataW.trod_lt m _ _ _ hm
  obtain ⟨y0, hK0, hq0⟩ := trod_agg op22 h0
  obtain ⟨a0, len0, cap0, rfl⟩ := okWide_slice Try.underlying22 (hval 0 22 v0 rfl rfl)
  obtain ⟨A0, c0, e0, hc0, hr0⟩ := hK0
  simp only [Value.cells, List.cons.injEq, Value.slice.injEq, and_true] at e0
  obtain ⟨rfl, rfl, rfl⟩ := e0
  have k1 := h1
  have lt1 : ∀ x ∈ p1, x.block < W.heap.size := by obtain ⟨m, hm⟩ := k1; exact DataW.trod_lt m _ _ _ hm
  obtain ⟨y1, hK1, hq1⟩ := trod_agg op23 h1
  obtain ⟨a1, len1, cap1, rfl⟩ := okWide_slice Try.underlying23 (hval 1 23 v1 rfl rfl)
  obtain ⟨A1, c1, e1, hc1, hr1⟩ := hK1
  simp only [Value.cells, List.cons.injEq, Value.slice.injEq, and_true] at e1
  obtain ⟨rfl, rfl, rfl⟩ := e1
  have k2 := h2
  have lt2 : ∀ x ∈ p2, x.block < W.heap.size := by obtain ⟨m, hm⟩ := k2; exact DataW.trod_lt m _ _ _ hm
  obtain ⟨y2, hK2, hq2⟩ := trod_agg op2 h2
  obtain ⟨a2, rfl⟩ := okWide_int Try.underlying2 (hval 2 2 v2 rfl rfl)
  obtain rfl : a2 = y2 := by have e : [_] = [_] := hK2; simpa [Value.cells] using e
  have k3 := h3
  have lt3 : ∀ x ∈ p3, x.block < W.heap.size := by obtain ⟨m, hm⟩ := k3; exact DataW.trod_lt m _ _ _ hm
  obtain ⟨y3, hK3, hq3⟩ := trod_agg op2 h3
  obtain ⟨a3, rfl⟩ := okWide_int Try.underlying2 (hval 3 2 v3 rfl rfl)
  obtain rfl : a3 = y3 := by have e : [_] = [_] := hK3; simpa [Value.cells] using e
  clear hA0 hval0 hsz0
  obtain ⟨k, h⟩ := Pure.FnExactFlatPart (y0) (y1) (a2) (a3) (hq0.2) (hq0.1) (hq1.2) (hq1.1) (hq2) (hq3)
  refine (PFnExactFlatPart.laws_FnExactFlatPart.calls k _ _ (y0) _ _ (y1) (a2) (a3) true W hr0 hc0 hr1 hc1 h).mono fun e W' ⟨he, bel0⟩ => ?_
  have bel : Below W.heap.size W W' := bel0
  subst he
  exact ⟨_, rfl, _, _, _, [], _, [], hW', trodAll_mk1 (shut_bool Try.underlying4 _), (trodAll_cons_mk (Below.trod laidOut (by kernel_rfl) (of_decide_eq_true (by kernel_rfl)) k0 bel lt0) (trodAll_cons_mk (Below.trod laidOut (by kernel_rfl) (of_decide_eq_true (by kernel_rfl)) k1 bel lt1) (trodAll_cons_mk (Below.trod laidOut (by kernel_rfl) (of_decide_eq_true (by kernel_rfl)) k2 bel lt2) (trodAll_cons_mk (Below.trod laidOut (by kernel_rfl) (of_decide_eq_true (by kernel_rfl)) k3 bel lt3) trodAll_mk0)))), rfl, bel.frame _, fun h => by cases h⟩
theorem over : Rows.fnExactFlatPartRow.holds Try.pinned (OpenSpec.ofChange Rows.fnExactFlatPartSpec) :=
  OpenClaim.holds_of_wide 5 Try.f5 rfl rfl rfl rfl rfl rfl rfl ⟨rfl, rfl, rfl, rfl, rfl⟩ rfl rfl rfl rfl rfl (by kernel_rfl) Try.func5 (by kernel_rfl)
    (of_decide_eq_true (by kernel_rfl)) (by unfold Func.isWrapper; first | (rw [if_pos (by decide +kernel)]; kernel_rfl) | (rw [if_neg (by decide +kernel)]; exact ⟨rfl, rfl⟩))
    (fun os started H enc _ => lifted os started H enc)
theorem proved : Rows.FnExactFlatPartSaid := over
#print axioms proved
end Go.Proofs.Ytjnmenadlnajeaa.fnExactFlatPart
namespace Go.Proofs.Ytjnmenadlnajeaa
/-- The row, under a short name, for the claim. -/
theorem fnExactFlatPart_holds : Rows.FnExactFlatPartSaid := fnExactFlatPart.proved
end Go.Proofs.Ytjnmenadlnajeaa
