/- The program's ReadBits answers as the reference's ReadBits does, for all arguments. -/
import Derived.Test.YtpkclocdenagcaaPFnExactReadBitsx4
import Derived.Test.YtpkclocdenagcaaBits
import Derived.Test.YtpkclocdenagcaaLoops
namespace Go.Proofs.Ytpkclocdenagcaa.Pure
open Go Go.RowKit Go.Proofs.Ytpkclocdenagcaa.PFnExactReadBits Go.Proofs.YtpkclocdenagcaaW.PrintWords Go.Proofs.YtpkclocdenagcaaW.PrintLast Go.Proofs.YtpkclocdenagcaaW.PrintMore Go.Proofs.Ytpkclocdenagcaa.BitsLib Go.Proofs.Ytpkclocdenagcaa.Loops
set_option linter.unusedVariables false
set_option linter.unusedSimpArgs false
set_option maxRecDepth 4000

/-! S24 -/
structure S24 where
  f0 : Int
  f1 : List Int

/-! UpI_Bits -/
def UpI_Bits (c : Int) (x : S24) : Prop := ((x.f1.length : Int) ≤ c)

/-! eq_Uint64S -/
theorem eq_Uint64S (x : List Int) (h : ((x.length : Int) ≤ 1048576)) : Ev (fun k => laws_eqUint64S.f k x x) true := by
  have hl := h
  have main := up_loop x.length (fun _ => ()) (fun k _ i => laws_eqUint64S.l0 k x x i)
    (fun i hi r h2 => by
      obtain ⟨K2, h2⟩ := h2
      refine ⟨K2 + 1, fun k hk => ?_⟩
      obtain ⟨m, rfl⟩ : ∃ m, k = m + 1 := ⟨k - 1, by omega⟩
      have h2 := h2 m (by omega)
      dsimp only at h2 ⊢
      simp only [laws_eqUint64S.l0]
      rw [if_pos (by omega), if_pos (by omega), if_pos (by omega)]
      simp only [if_true]
      rw [wrap64_id (by omega) (by omega)]
      exact h2)
    true (Ev.step (f := fun _ => some true) (fun k => by
      simp only [laws_eqUint64S.l0]
      rw [if_neg (by omega)]) (Ev.now _))
  obtain ⟨K, h⟩ := main
  refine ⟨K, fun k hk => ?_⟩
  have h := h k hk
  dsimp only at h ⊢
  unfold laws_eqUint64S.f
  rw [if_pos rfl]
  exact h

/-! eq_Bits -/
theorem eq_Bits (x : S24) (h : UpI_Bits 1048576 x) : Ev (fun k => laws_eqBits.f k x.f0 x.f1 x.f0 x.f1) true := by
  unfold UpI_Bits at h
  have i1 := h
  obtain ⟨K1, e1⟩ := eq_Uint64S x.f1 i1
  refine ⟨K1, fun k hk => ?_⟩
  have e1 := e1 k (by omega)
  dsimp only at e1 ⊢
  simp only [laws_eqBits.f, e1, Option.bind_some, if_true, ↓reduceIte, bne_self_eq_false, Bool.false_eq_true]

/-! mark_Uint64S -/
theorem mark_Uint64S (x : List Int) (h : ((x.length : Int) ≤ 1048576)) (m : Int) (h0 : 0 ≤ m) (h1 : m ≤ 4611686018426339328) : ∃ (m' : Int) (x' : List Int), Ev (fun k => laws_markUint64S.f k x m) (m', x') ∧ m ≤ m' ∧ m' ≤ m + 1048576 ∧ Ev (fun k => laws_heldUint64S.f k x' m) m' := by
  have hl : (x.length : Int) ≤ 1048576 := h
  obtain ⟨conv, hconv⟩ : ∃ conv : Nat → Int, ∀ i, conv i = IntKind.u64.wrap (m + 1 * (i : Int)) := ⟨fun i => _, fun _ => rfl⟩
  have main := up_loop x.length (fun i => (m + 1 * (i : Int), filled conv x i)) (fun k s i => laws_markUint64S.l0 k s.2 s.1 i)
    (fun i hi r h2 => by
      obtain ⟨K2, h2⟩ := h2
      refine ⟨K2 + 1, fun k hk => ?_⟩
      obtain ⟨mm, rfl⟩ : ∃ mm, k = mm + 1 := ⟨k - 1, by omega⟩
      have h2 := h2 mm (by omega)
      dsimp only at h2 ⊢
      have hlen : i < (filled conv x i).length := by rw [filled_len _ _ (by omega)]; exact hi
      rw [← filled_set conv x hi, hconv] at h2
      simp (disch := first | omega | (simp only [List.length_set]; omega)) only [laws_markUint64S.l0, ↓if_pos, Option.bind_some, Int.toNat_natCast, wrap64_id]
      rw [show m + 1 * (i : Int) + 1 = m + 1 * ((i + 1 : Nat) : Int) by omega]
      exact h2)
    (m + 1 * (x.length : Int), (List.range x.length).map conv) (Ev.step (f := fun _ => some (m + 1 * (x.length : Int), (List.range x.length).map conv)) (fun k => by
      simp only [laws_markUint64S.l0]
      rw [if_neg (by rw [filled_len _ _ (Nat.le_refl _)]; omega), filled_all _ _ rfl]) (Ev.now _))
  simp only [filled_zero] at main
  refine ⟨m + 1 * (x.length : Int), (List.range x.length).map conv, Ev.congr (fun k => by unfold laws_markUint64S.f; simp) main, by omega, by omega, ?_⟩
  have hrd : ∀ i : Nat, i < x.length → rd ((List.range x.length).map conv) (i : Int) = conv i := fun i hi => by
    rw [rd_getD]
    rw [List.getD_eq_getElem?_getD, Int.toNat_natCast, List.getElem?_map, List.getElem?_range hi]; rfl
  have main2 := up_loop x.length (fun i => m + 1 * (i : Int)) (fun k s i => laws_heldUint64S.l0 k ((List.range x.length).map conv) s i)
    (fun i hi r h2 => by
      obtain ⟨K2, h2⟩ := h2
      refine ⟨K2 + 1, fun k hk => ?_⟩
      obtain ⟨mm, rfl⟩ : ∃ mm, k = mm + 1 := ⟨k - 1, by omega⟩
      have h2 := h2 mm (by omega)
      dsimp only at h2 ⊢
      have hr := hrd i hi
      rw [hconv] at hr
      simp (disch := omega) only [laws_heldUint64S.l0, List.length_map, List.length_range, ↓if_pos, hr, wrap64_id, ↓reduceIte, bne_self_eq_false, Bool.false_eq_true]
      rw [show m + 1 * (i : Int) + 1 = m + 1 * ((i + 1 : Nat) : Int) by omega]
      exact h2)
    (m + 1 * (x.length : Int)) (Ev.step (f := fun _ => some (m + 1 * (x.length : Int))) (fun k => by
      simp only [laws_heldUint64S.l0]
      rw [if_neg (by simp)]) (Ev.now _))
  exact Ev.congr (fun k => by unfold laws_heldUint64S.f; simp) main2

/-! mark_Bits -/
theorem mark_Bits (x : S24) (h : UpI_Bits 1048576 x) (m : Int) (h0 : 0 ≤ m) (h1 : m ≤ 4611686018426339327) : ∃ (m' : Int) (z0 : List Int), Ev (fun k => laws_markBits.f k x.f0 x.f1 m) (m', z0) ∧ m ≤ m' ∧ m' ≤ m + 1048577 ∧ Ev (fun k => laws_heldBits.f k x.f0 z0 m) m' := by
  unfold UpI_Bits at h
  have i1 := h
  obtain ⟨m1, z0, ⟨K1, e1⟩, l1, u1, ⟨L1, d1⟩⟩ := mark_Uint64S x.f1 i1 m (by omega) (by omega)
  refine ⟨m1, z0, ⟨K1, fun k hk => ?_⟩, by omega, by omega, ⟨L1, fun k hk => ?_⟩⟩
  · have e1 := e1 k (by omega); dsimp only at e1 ⊢; unfold laws_markBits.f; rw [e1]; simp only [Option.bind_some]
  · have d1 := d1 k (by omega); dsimp only at d1 ⊢; unfold laws_heldBits.f; rw [d1]; simp only [Option.bind_some]; rw [if_neg (by omega)]

/-! wordsFor -/
theorem wordsFor_eq (w : Int) (h0 : 0 ≤ w) (h1 : w ≤ 1000000000) : impl_wordsFor.f w = some ((w + 63) / 64) := by
  unfold impl_wordsFor.f
  rw [wrap64_id (x := w + 63) (by omega) (by omega), Int.tdiv_eq_ediv_of_nonneg (by omega), wrap64_id (by omega) (by omega)]

/-! packs -/
/-- ws is the row whose bits are z. -/
structure Packs (z : List Int) (ws : List Int) : Prop where
  right : Right (z.length : Int) ws
  bit : ∀ j, j < z.length → bitN ws j = decide (rd z (j : Int) = 1)
theorem Packs.uniq {z ws ws' : List Int} (h : Packs z ws) (k : Packs z ws') : ws = ws' :=
  h.right.ext k.right fun i hi => by rw [h.bit i (by omega), k.bit i (by omega)]
theorem packs_of {w : Int} {z ws : List Int} (hw : w = z.length) (h : Right w ws) (hb : ∀ j, j < z.length → bitN ws j = decide (rd z (j : Int) = 1)) : Packs z ws := by
  subst hw
  exact ⟨h, hb⟩

/-! l1From -/
theorem l1From_ev (z : List Int) (h01 : Bits01 z) (h1 : 1 ≤ z.length) (h2 : z.length ≤ 4096) :
    ∃ ws, Ev (fun k => spec_l1From.f k z) ((z.length : Int), ws, true) ∧ Packs z ws := by
  have ew := fun (_ : True) => words_of (z.length : Int) (by omega) (by omega)
  obtain ⟨ws, hI, hr⟩ := inv_loop z.length (fun i (ws : List Int) => (ws.length : Int) = ((z.length : Int) + 63) / 64 ∧ U64s ws ∧ ∀ j, bitN ws j = (decide (j < i) && decide (rd z (j : Int) = 1)))
    (fun k ws i => spec_l1From.l0 k z i (z.length : Int) ws)
    (fun i hi ws ⟨hl, hu, hb⟩ => by
      have hk : i / 64 < ws.length := by omega
      have hz := rd_01 h01 (i : Int)
      have e3 := fun (_ : True) => wrap_u64_id (x := rd z (i : Int)) (by omega) (by omega)
      have hzw : W64 (rd z (i : Int)) := by unfold W64; omega
      have hs := shl_nat hzw (i % 64)
      have ho := or_w64 (rd_w64 hu ((i / 64 : Nat) : Int)) hs.1
      refine ⟨ws.set (i / 64) (Go.bits .or .u64 (rd ws ((i / 64 : Nat) : Int)) (shl .u64 (rd z (i : Int)) ((i % 64 : Nat) : Int))), ⟨by simpa using hl, hu.set _ ho.1, fun j => ?_⟩, fun r h => Ev.step (fun k => ?_) h⟩
      · rw [bitN_set hk]
        by_cases hj : j / 64 = i / 64
        · have e4 : (rd ws ((i / 64 : Nat) : Int)).toNat.testBit (j % 64) = bitN ws j := by unfold bitN; rw [hj]; rfl
          rw [if_pos hj, ho.2, hs.2 _ (by omega), e4, hb, testBit_01 hz]
          by_cases hji : j = i
          · subst hji
            simp
          · have e5 : (decide (i % 64 ≤ j % 64) && decide (j % 64 - i % 64 = 0)) = false := by
              by_cases hle : i % 64 ≤ j % 64
              · rw [decide_eq_false (show ¬ j % 64 - i % 64 = 0 by omega)]; simp
              · rw [decide_eq_false hle]; simp
            rw [← Bool.and_assoc, e5]
            by_cases hlt : j < i
            · simp [hlt, show j < i + 1 by omega]
            · simp [hlt, show ¬ j < i + 1 by omega]
        · rw [if_neg hj, hb]
          have : j ≠ i := fun e => hj (by rw [e])
          by_cases hji : j < i
          · simp [hji, show j < i + 1 by omega]
          · simp [hji, show ¬ j < i + 1 by omega]
      · simp only [spec_l1From.l0]
        rw [if_pos (by omega), tdiv64 i (by omega), utmod64, e3 trivial, if_pos (by omega), if_pos (by omega), if_pos (by omega), if_pos (by omega), wrap_succ i (by omega), Int.toNat_natCast])
    (List.replicate (((z.length : Int) + 63) / 64).toNat 0) ⟨by simp; omega, U64s.replicate _, fun j => by rw [bitN_replicate]; simp⟩
  obtain ⟨hl, hu, hb⟩ := hI
  have hright : Right (z.length : Int) ws := ⟨by omega, by omega, by omega, hu, fun i hi => by rw [hb]; simp; omega⟩
  refine ⟨ws, ?_, hright, fun j hj => by rw [hb]; simp [hj]⟩
  have := hr ((z.length : Int), ws, true) (Ev.step (f := fun _ => some ((z.length : Int), ws, true)) (fun k => by simp only [spec_l1From.l0]; rw [if_neg (by omega)]) (Ev.now _))
  obtain ⟨K, hK⟩ := this
  refine ⟨K + 1, fun k hk => ?_⟩
  obtain ⟨m, rfl⟩ : ∃ m, k = m + 1 := ⟨k - 1, by omega⟩
  dsimp only
  unfold spec_l1From.f
  rw [if_neg (by omega), decide_eq_false (by omega)]
  simp only [spec_l1From.j0]
  rw [if_neg (by simp), ew trivial, if_pos (by omega), if_pos (by omega)]
  exact hK m (by omega)
theorem l1From_none (z : List Int) (h : z.length < 1 ∨ 4096 < z.length) : Ev (fun k => spec_l1From.f k z) (0, [], false) := by
  refine ⟨1, fun k hk => ?_⟩
  obtain ⟨m, rfl⟩ : ∃ m, k = m + 1 := ⟨k - 1, by omega⟩
  dsimp only
  unfold spec_l1From.f
  by_cases h1 : (z.length : Int) < 1
  · rw [if_pos h1]; simp [spec_l1From.j0]
  · rw [if_neg h1, decide_eq_true (by omega)]; simp [spec_l1From.j0]

/-! zeroBits -/
theorem zeroBits_eq (w : Int) (h0 : 0 ≤ w) (h1 : w ≤ 1000000) : impl_zeroBits.f w = some (w, List.replicate ((w + 63) / 64).toNat 0) := by
  unfold impl_zeroBits.f
  rw [wordsFor_eq w h0 (by omega)]
  simp only [Option.bind_some]
  rw [if_pos (by omega), if_pos (by omega)]

/-! rdq -/
theorem rd_q (z : List Int) (j : Nat) : rd z (j : Int) = (z[j]?).getD 0 := by rw [rd_getD, List.getD_eq_getElem?_getD, Int.toNat_natCast]
theorem bitI_one (l : List Int) (i : Nat) : decide (bitI l i = 1) = bitN l i := by unfold bitI; cases bitN l i <;> simp
theorem Bits01.append {a b : List Int} (ha : Bits01 a) (hb : Bits01 b) : Bits01 (a ++ b) := fun x hx => (List.mem_append.1 hx).elim (ha x) (hb x)
theorem Bits01.sub {a b : List Int} (ha : Bits01 a) (h : ∀ x ∈ b, x ∈ a) : Bits01 b := fun x hx => ha x (h x hx)
/-- What a call that tells bits is asked: both tell the same. -/
def Agree (f g : Nat → Option (Int × List Int × Bool)) : Prop := ∃ w ws ok, ws.length ≤ 1048576 ∧ Ev f (w, ws, ok) ∧ Ev g (w, ws, ok)

/-! l1Turned -/
theorem l1Turned_ev (z : List Int) (hl : z.length ≤ 1048576) : Ev (fun k => spec_l1Turned.f k z) z.reverse := by
  have main := down_loop z.length (fun i => (z.drop i).reverse) (fun k s i => spec_l1Turned.l0 k z s i)
    (fun i hi r h => Ev.step (fun k => by
      simp only [spec_l1Turned.l0]
      rw [if_pos (by omega), if_pos (by omega), if_pos (by omega), if_pos (by simp; omega), wrap64_id (by omega) (by omega)]
      have e : (z.drop (i + 1)).reverse ++ [rd z (i : Int)] = (z.drop i).reverse := by
        rw [List.drop_eq_getElem_cons hi, List.reverse_cons, rd_q, List.getElem?_eq_getElem hi]; rfl
      rw [e]) h)
    z.reverse (Ev.step (f := fun _ => some z.reverse) (fun k => by simp only [spec_l1Turned.l0]; rw [if_neg (by omega)]; rfl) (Ev.now _))
  refine Ev.congr (fun k => ?_) main
  unfold spec_l1Turned.f
  rw [wrap64_id (by omega) (by omega), List.drop_length]; rfl

/-! visits -/
/-- How many of the first spots hold. -/
def pre (A : Nat → Bool) : Nat → Nat
  | 0 => 0
  | j + 1 => pre A j + if A j = true then 1 else 0
theorem pre_mono (A : Nat → Bool) {a : Nat} : ∀ {b : Nat}, a ≤ b → pre A a ≤ pre A b
  | 0, h => by rw [show a = 0 by omega]; exact Nat.le_refl _
  | b + 1, h => by
    by_cases e : a = b + 1
    · rw [e]; exact Nat.le_refl _
    · have := pre_mono A (show a ≤ b by omega)
      rw [pre]
      omega
theorem pre_none (A : Nat → Bool) (a : Nat) : ∀ d, (∀ j, a ≤ j → j < a + d → A j = false) → pre A (a + d) = pre A a
  | 0, _ => rfl
  | d + 1, h => by
    have h1 := pre_none A a d (fun j h1 h2 => h j h1 (by omega))
    rw [← Nat.add_assoc, pre, h1, h (a + d) (by omega) (by omega)]
    simp
/-- A walk over n spots from the front, in steps, that reads each time the spot as far from the end: how often it reads, and how often it stands on a spot that does not hold. -/
def vis (A : Nat → Bool) (wd : Nat → Nat) (n : Nat) : Nat → Nat → Option (Nat × Nat)
  | 0, _ => none
  | k + 1, p => if p < n then (if A (n - 1 - p) = true then (vis A wd n k (p + wd p)).map (fun r => (r.1 + 1, r.2 + if A p = true then 0 else 1)) else none) else some (0, 0)
structure Steps (A : Nat → Bool) (wd : Nat → Nat) (n : Nat) : Prop where
  pos : ∀ p, p < n → 1 ≤ wd p
  fit : ∀ p, p < n → p + wd p ≤ n
  one : ∀ p, p < n → A p = true → wd p = 1
  none : ∀ p, p < n → A p = false → ∀ j, p ≤ j → j < p + wd p → A j = false
theorem vis_reads {A : Nat → Bool} {wd : Nat → Nat} {n : Nat} (h : Steps A wd n) : ∀ k p m z, p ≤ n → vis A wd n k p = some (m, z) → m ≤ pre A (n - p)
  | 0, p, m, z, _, e => by cases e
  | k + 1, p, m, z, hp, e => by
    rw [vis] at e
    by_cases c : p < n
    · rw [if_pos c] at e
      by_cases a : A (n - 1 - p) = true
      · rw [if_pos a] at e
        obtain ⟨⟨m', z'⟩, e1, e2⟩ := Option.map_eq_some_iff.1 e
        obtain ⟨e3, e4⟩ := Prod.mk.inj e2
        have h1 := h.pos p c
        have h2 := vis_reads h k (p + wd p) m' z' (h.fit p c) e1
        have h3 := pre_mono A (show n - (p + wd p) ≤ n - 1 - p by omega)
        have h4 : pre A (n - p) = pre A (n - 1 - p) + 1 := by rw [show n - p = (n - 1 - p) + 1 by omega, pre, if_pos a]
        dsimp only at e3
        omega
      · rw [if_neg a] at e; cases e
    · rw [if_neg c] at e
      obtain ⟨e3, e4⟩ := Prod.mk.inj (Option.some.inj e)
      omega
theorem vis_stands {A : Nat → Bool} {wd : Nat → Nat} {n : Nat} (h : Steps A wd n) : ∀ k p m z, p ≤ n → vis A wd n k p = some (m, z) → m + pre A p = pre A n + z
  | 0, p, m, z, _, e => by cases e
  | k + 1, p, m, z, hp, e => by
    rw [vis] at e
    by_cases c : p < n
    · rw [if_pos c] at e
      by_cases a : A (n - 1 - p) = true
      · rw [if_pos a] at e
        obtain ⟨⟨m', z'⟩, e1, e2⟩ := Option.map_eq_some_iff.1 e
        obtain ⟨e3, e4⟩ := Prod.mk.inj e2
        have h2 := vis_stands h k (p + wd p) m' z' (h.fit p c) e1
        dsimp only at e3 e4
        by_cases b : A p = true
        · rw [h.one p c b, pre, if_pos b] at h2
          rw [if_pos b] at e4
          omega
        · have b' : A p = false := by simpa using b
          have h3 := pre_none A p (wd p) (h.none p c b')
          rw [if_neg b] at e4
          omega
      · rw [if_neg a] at e; cases e
    · rw [if_neg c] at e
      obtain ⟨e3, e4⟩ := Prod.mk.inj (Option.some.inj e)
      rw [show p = n by omega]
      omega
theorem vis_all {A : Nat → Bool} {wd : Nat → Nat} {n : Nat} (h : Steps A wd n) : ∀ k p m, p ≤ n → vis A wd n k p = some (m, 0) → ∀ j, p ≤ j → j < n → A j = true
  | 0, p, m, _, e => by cases e
  | k + 1, p, m, hp, e => fun j hj hn => by
    rw [vis, if_pos (by omega)] at e
    by_cases a : A (n - 1 - p) = true
    · rw [if_pos a] at e
      obtain ⟨⟨m', z'⟩, e1, e2⟩ := Option.map_eq_some_iff.1 e
      obtain ⟨e3, e4⟩ := Prod.mk.inj e2
      dsimp only at e3 e4
      by_cases b : A p = true
      · rw [h.one p (by omega) b] at e1
        rw [if_pos b] at e4
        have e5 : z' = 0 := by omega
        subst e5
        by_cases c : j = p
        · rw [c]; exact b
        · exact vis_all h k (p + 1) m' (by omega) e1 j (by omega) hn
      · rw [if_neg b] at e4
        omega
    · rw [if_neg a] at e; cases e
/-- If all that it reads holds, then all holds. -/
theorem vis_holds {A : Nat → Bool} {wd : Nat → Nat} {n : Nat} (h : Steps A wd n) {k : Nat} {r : Nat × Nat} (e : vis A wd n k 0 = some r) : ∀ j, j < n → A j = true := by
  obtain ⟨m, z⟩ := r
  have h1 := vis_reads h k 0 m z (by omega) e
  have h2 := vis_stands h k 0 m z (by omega) e
  rw [Nat.sub_zero] at h1
  rw [pre] at h2
  have h3 : z = 0 := by omega
  subst h3
  exact fun j hj => vis_all h k 0 m (by omega) e j (by omega) hj

/-! utfSteps -/
theorem decode_steps (s : ByteArray) (p : Nat) (h : p < s.size) : 1 ≤ (Utf8.decode s p).2 ∧ p + (Utf8.decode s p).2 ≤ s.size ∧ ((s.get! p).toNat < 128 → (Utf8.decode s p).2 = 1) ∧ ∀ j, p < j → j < p + (Utf8.decode s p).2 → 128 ≤ (s.get! j).toNat := by
  have e0 : s.get! (p + 0) = s.get! p := rfl
  simp only [Utf8.decode, e0]
  have fin : ∀ c : Nat, (1 ≤ ((c, 1) : Nat × Nat).2 ∧ p + ((c, 1) : Nat × Nat).2 ≤ s.size ∧ ((s.get! p).toNat < 128 → ((c, 1) : Nat × Nat).2 = 1) ∧ ∀ j, p < j → j < p + ((c, 1) : Nat × Nat).2 → 128 ≤ (s.get! j).toNat) := fun c => ⟨Nat.le_refl _, by dsimp only; omega, fun _ => rfl, fun j h1 h2 => by dsimp only at h2; omega⟩
  by_cases c0 : (s.get! p).toNat < 128
  · rw [if_pos c0]
    exact fin _
  · rw [if_neg c0]
    have lead : ∀ q : Prop, ((s.get! p).toNat < 128 → q) := fun q hq => absurd hq c0
    have far : ∀ (w : Nat) (c : Nat), 1 ≤ w → p + w ≤ s.size → (∀ i, 1 ≤ i → i < w → (s.get! (p + i)).toNat / 64 = 2) → (1 ≤ ((c, w) : Nat × Nat).2 ∧ p + ((c, w) : Nat × Nat).2 ≤ s.size ∧ ((s.get! p).toNat < 128 → ((c, w) : Nat × Nat).2 = 1) ∧ ∀ j, p < j → j < p + ((c, w) : Nat × Nat).2 → 128 ≤ (s.get! j).toNat) := fun w c h1 h2 h3 => ⟨h1, h2, lead _, fun j g1 g2 => by
      dsimp only at g2
      have := h3 (j - p) (by omega) (by omega)
      rw [show p + (j - p) = j by omega] at this
      omega⟩
    split
    · rename_i c1
      simp only [Bool.and_eq_true, decide_eq_true_eq, beq_iff_eq] at c1
      split
      · exact far 2 _ (by omega) (by omega) (fun i h1 h2 => by rw [show i = 1 by omega]; exact c1.2.2)
      · exact fin _
    · split
      · rename_i c2
        simp only [Bool.and_eq_true, decide_eq_true_eq, beq_iff_eq] at c2
        split
        · refine far 3 _ (by omega) (by omega) (fun i h1 h2 => ?_)
          obtain rfl | rfl : i = 1 ∨ i = 2 := by omega
          · exact c2.1.2.2
          · exact c2.2.2
        · exact fin _
      · split
        · rename_i c3
          simp only [Bool.and_eq_true, decide_eq_true_eq, beq_iff_eq] at c3
          split
          · refine far 4 _ (by omega) (by omega) (fun i h1 h2 => ?_)
            obtain rfl | rfl | rfl : i = 1 ∨ i = 2 ∨ i = 3 := by omega
            · exact c3.1.1.2.2
            · exact c3.1.2.2
            · exact c3.2.2
          · exact fin _
        · exact fin _
theorem utf_steps (s : ByteArray) (A : Nat → Bool) (hA : ∀ j, j < s.size → A j = true → (s.get! j).toNat < 128) : Steps A (fun p => (Utf8.decode s p).2) s.size :=
  ⟨fun p h => (decode_steps s p h).1, fun p h => (decode_steps s p h).2.1, fun p h a => (decode_steps s p h).2.2.1 (hA p h a), fun p h a j h1 h2 => by
    by_cases c : j = p
    · rw [c]; exact a
    · have h3 := (decode_steps s p h).2.2.2 j (by omega) h2
      have h4 := (decode_steps s p h).2.1
      cases hj : A j with
      | false => rfl
      | true => have := hA j (by omega) hj; omega⟩

/-! digitBits -/
theorem digit_step {each n p : Nat} (he : each = 1 ∨ each = 4) (v : Nat → Int) (ws : List Int) (hl : ws.length = (each * n + 63) / 64) (hu : U64s ws) (hp : p < n) (hv : 0 ≤ v (n - 1 - p) ∧ v (n - 1 - p) < 2 ^ each)
    (hb : ∀ j, bitN ws j = (decide (j < each * p) && (v (n - 1 - j / each)).toNat.testBit (j % each))) :
    U64s (ws.set (each * p / 64) (Go.bits .or .u64 (rd ws ((each * p / 64 : Nat) : Int)) (shl .u64 (v (n - 1 - p)) ((each * p % 64 : Nat) : Int)))) ∧
    ∀ j, bitN (ws.set (each * p / 64) (Go.bits .or .u64 (rd ws ((each * p / 64 : Nat) : Int)) (shl .u64 (v (n - 1 - p)) ((each * p % 64 : Nat) : Int)))) j = (decide (j < each * (p + 1)) && (v (n - 1 - j / each)).toNat.testBit (j % each)) := by
  have h16 : v (n - 1 - p) < 16 := by rcases he with rfl | rfl <;> omega
  have ho := or_lay hu (show W64 (v (n - 1 - p)) by unfold W64; omega) (each * p / 64) (each * p % 64) (by rcases he with rfl | rfl <;> omega) (Nat.mod_lt _ (by decide))
  refine ⟨ho.1, fun j => ?_⟩
  rw [ho.2 j, hb j]
  obtain ⟨x, hx⟩ : ∃ x, x = v (n - 1 - p) := ⟨_, rfl⟩
  by_cases c1 : j < each * p
  · have e1 : (decide (j / 64 = each * p / 64) && decide (each * p % 64 ≤ j % 64)) = false := by
      rw [← Bool.decide_and]
      exact decide_eq_false (by omega)
    rw [e1, decide_eq_true c1, decide_eq_true (show j < each * (p + 1) by rw [Nat.mul_succ]; omega)]
    simp
  · rw [decide_eq_false c1]
    by_cases c2 : j < each * (p + 1)
    · have e2 : j / each = p := by rcases he with rfl | rfl <;> omega
      have e3 : j / 64 = each * p / 64 ∧ each * p % 64 ≤ j % 64 ∧ j % 64 - each * p % 64 = j % each := by rcases he with rfl | rfl <;> omega
      rw [decide_eq_true c2, e2, decide_eq_true e3.1, decide_eq_true e3.2.1, e3.2.2]
      simp
    · rw [decide_eq_false c2]
      by_cases c3 : j / 64 = each * p / 64 ∧ each * p % 64 ≤ j % 64
      · have hge : each ≤ j % 64 - each * p % 64 := by rw [Nat.mul_succ] at c2; omega
        have hlt : (v (n - 1 - p)).toNat < 2 ^ (j % 64 - each * p % 64) := by
          refine Nat.lt_of_lt_of_le (m := 2 ^ each) ?_ (Nat.pow_le_pow_right (by decide) hge)
          rcases he with rfl | rfl <;> omega
        rw [Nat.testBit_lt_two_pow hlt]
        simp
      · rw [← Bool.decide_and, decide_eq_false c3]
        simp
/-- The digits' bits, from the highest one on. -/
def digitsBits (each : Nat) (v : Nat → Int) (m : Nat) : List Int := (List.range m).map fun t => if (v (t / each)).toNat.testBit (each - 1 - t % each) then 1 else 0
theorem digitsBits_len (each : Nat) (v : Nat → Int) (m : Nat) : (digitsBits each v m).length = m := by simp [digitsBits]
theorem digitsBits_succ (each : Nat) (v : Nat → Int) (m : Nat) : digitsBits each v m ++ [if (v (m / each)).toNat.testBit (each - 1 - m % each) then 1 else 0] = digitsBits each v (m + 1) := by simp [digitsBits, List.range_succ]
theorem digitsBits_01 (each : Nat) (v : Nat → Int) (m : Nat) : Bits01 (digitsBits each v m).reverse := fun x hx => by
  obtain ⟨t, _, rfl⟩ := List.mem_map.1 (List.mem_reverse.1 hx)
  split
  · exact .inr rfl
  · exact .inl rfl

/-! digitPacks -/
theorem digits_packs {each n : Nat} (he : each = 1 ∨ each = 4) (h1 : 1 ≤ n) (h2 : each * n ≤ 4096) (v : Nat → Int) (ws : List Int) (hl : ws.length = (each * n + 63) / 64) (hu : U64s ws)
    (hb : ∀ j, bitN ws j = (decide (j < each * n) && (v (n - 1 - j / each)).toNat.testBit (j % each))) : Packs (digitsBits each v (each * n)).reverse ws := by
  have hz : (digitsBits each v (each * n)).reverse.length = each * n := by rw [List.length_reverse, digitsBits_len]
  refine packs_of (w := ((each * n : Nat) : Int)) (by rw [hz]) ⟨by rcases he with rfl | rfl <;> omega, by omega, by omega, hu, fun i hi => by rw [hb, decide_eq_false (by omega)]; rfl⟩ (fun j hj => ?_)
  rw [hz] at hj
  have e1 : rd (digitsBits each v (each * n)).reverse (j : Int) = if (v (n - 1 - j / each)).toNat.testBit (j % each) then 1 else 0 := by
    unfold rd
    rw [List.getD_eq_getElem?_getD, Int.toNat_natCast, List.getElem?_reverse (by rw [digitsBits_len]; exact hj), digitsBits_len]
    have e2 : (each * n - 1 - j) / each = n - 1 - j / each ∧ each - 1 - (each * n - 1 - j) % each = j % each := by rcases he with rfl | rfl <;> omega
    unfold digitsBits
    rw [List.getElem?_map, List.getElem?_range (by omega), Option.map_some, Option.getD_some, e2.1, e2.2]
  rw [hb j, decide_eq_true hj, e1]
  cases (v (n - 1 - j / each)).toNat.testBit (j % each) <;> rfl

/-! readBits -/
def hexI (c : Int) : Int := Lib.indexByte impl_ReadBits.hexB.data.toList c.toNat.toUInt8
theorem hex_all : ∀ c : Fin 256, spec_l1Hex.f ((c.val : Nat) : Int) = some (hexI ((c.val : Nat) : Int)) := by decide +kernel
theorem hex_eq (c : Int) (h : 0 ≤ c ∧ c ≤ 255) : spec_l1Hex.f c = some (hexI c) := by
  obtain ⟨n, rfl⟩ := Int.eq_ofNat_of_zero_le h.1
  exact hex_all ⟨n, by omega⟩
theorem hex_lt : ∀ c : Fin 256, 0 ≤ hexI ((c.val : Nat) : Int) → hexI ((c.val : Nat) : Int) < 16 ∧ c.val < 128 := by decide +kernel
theorem nib_bits : ∀ (n : Fin 16) (k : Fin 4), (Go.bits .and .i64 (shr .i64 ((n.val : Nat) : Int) (((k.val : Nat) : Int))) 1) % 256 = if n.val.testBit k.val then 1 else 0 := by decide +kernel
def digV (d : ByteArray) (j : Nat) : Int := hexI (bt d (j : Int))
def digA (e : Nat) (d : ByteArray) (j : Nat) : Bool := decide (0 ≤ digV d j) && decide (digV d j < 2 ^ e)
theorem bt_get (d : ByteArray) (j : Nat) (h : j < d.size) : bt d (j : Int) = ((d.get! j).toNat : Int) := by
  unfold bt
  rw [dif_pos (show (j : Int).toNat < d.size by omega)]
  simp only [Int.toNat_natCast]
  rw [← get_at d j h]
  rfl
theorem digV_lt (d : ByteArray) (j : Nat) (h : 0 ≤ digV d j) : digV d j < 16 ∧ bt d (j : Int) < 128 := by
  have hr := bt_range d (j : Int)
  obtain ⟨n, hn⟩ := Int.eq_ofNat_of_zero_le hr.1
  unfold digV at h ⊢
  rw [hn] at h hr ⊢
  have := hex_lt ⟨n, by omega⟩ h
  exact ⟨this.1, by have := this.2; dsimp only at this; omega⟩
theorem digSteps (e : Nat) (d : ByteArray) : Steps (digA e d) (fun p => (Utf8.decode d p).2) d.size := utf_steps d _ fun j hj h => by
  unfold digA at h
  simp only [Bool.and_eq_true, decide_eq_true_eq] at h
  have h1 := (digV_lt d j h.1).2
  rw [bt_get d j hj] at h1
  omega
theorem dg_eq (d : ByteArray) (p : Nat) (hp : p < d.size) (hd : d.size ≤ 4096) : impl_ReadBits.pl d p = ((d.size - 1 - p : Nat) : Int) ∧ impl_ReadBits.dg d p = digV d (d.size - 1 - p) := by
  have h1 : impl_ReadBits.pl d p = ((d.size - 1 - p : Nat) : Int) := by
    unfold impl_ReadBits.pl
    rw [wrap64_id (x := (d.size : Int) - 1) (by omega) (by omega), wrap64_id (by omega) (by omega)]
    omega
  refine ⟨h1, ?_⟩
  unfold impl_ReadBits.dg digV hexI
  rw [h1]
theorem shl_e {e : Nat} (he : e = 1 ∨ e = 4) : shl .i64 1 (e : Int) = 2 ^ e := by rcases he with rfl | rfl <;> rfl
/-- One round at a spot whose digit holds. -/
theorem l0_good {e : Nat} (he : e = 1 ∨ e = 4) (d : ByteArray) (hd : e * d.size ≤ 4096) (wd : Int) (ws : List Int) (hl : ws.length = (e * d.size + 63) / 64) (p : Nat) (hp : p < d.size) (ha : digA e d (d.size - 1 - p) = true) (k : Nat) :
    impl_ReadBits.l0 (k + 1) (e : Int) d wd ws p = impl_ReadBits.l0 k (e : Int) d wd (ws.set (e * p / 64) (Go.bits .or .u64 (rd ws ((e * p / 64 : Nat) : Int)) (shl .u64 (digV d (d.size - 1 - p)) ((e * p % 64 : Nat) : Int)))) (p + (Utf8.decode d p).2) := by
  have hd2 : d.size ≤ 4096 := by rcases he with rfl | rfl <;> omega
  have hep : e * p ≤ 4096 := by rcases he with rfl | rfl <;> omega
  have hq : ((e * p / 64 : Nat) : Int) < (ws.length : Int) := by rcases he with rfl | rfl <;> omega
  have f2 : ((d.size - 1 - p : Nat) : Int) < (d.size : Int) := by omega
  have ea : wrap64 ((e : Int) * (p : Int)) = ((e * p : Nat) : Int) := by
    rw [← Int.natCast_mul, wrap64_id (by omega) (by omega)]
  have ed := tdiv64 (e * p) (by omega)
  have f5 : (0 : Int) ≤ ((e * p / 64 : Nat) : Int) := Int.natCast_nonneg _
  have f6 : (0 : Int) ≤ ((e * p % 64 : Nat) : Int) := Int.natCast_nonneg _
  unfold digA at ha
  simp only [Bool.and_eq_true, decide_eq_true_eq] at ha
  have h16 := (digV_lt d _ ha.1).1
  have e12 := dg_eq d p hp hd2
  obtain ⟨v, hv⟩ : ∃ v, v = digV d (d.size - 1 - p) := ⟨_, rfl⟩
  rw [← hv] at e12 ha h16 ⊢
  clear hv
  have hu : IntKind.u64.wrap v = v := wrap_u64_id ha.1 (Int.lt_trans h16 (by decide))
  have f3 : ¬ v < 0 := Int.not_lt.2 ha.1
  have f4 : ¬ v ≥ 2 ^ e := Int.not_le.2 ha.2
  simp only [impl_ReadBits.l0]
  rw [if_pos hp, e12.1, e12.2, if_pos (Int.natCast_nonneg _), if_pos f2, if_neg f3, shl_e he, if_neg f4, ea, ed, tmod64, if_pos f5, if_pos hq, if_pos f6, hu, Int.toNat_natCast]
theorem l0_bad {e : Nat} (he : e = 1 ∨ e = 4) (d : ByteArray) (hd : d.size ≤ 4096) (wd : Int) (ws : List Int) (p : Nat) (hp : p < d.size) (ha : digA e d (d.size - 1 - p) = false) (k : Nat) :
    impl_ReadBits.l0 (k + 1) (e : Int) d wd ws p = some (0, [], false) := by
  have f2 : ((d.size - 1 - p : Nat) : Int) < (d.size : Int) := by omega
  obtain ⟨e1, e2⟩ := dg_eq d p hp hd
  unfold digA at ha
  simp only [impl_ReadBits.l0]
  rw [if_pos hp, e1, e2, if_pos (Int.natCast_nonneg _), if_pos f2]
  by_cases c : digV d (d.size - 1 - p) < 0
  · rw [if_pos c]
  · rw [if_neg c, shl_e he]
    by_cases c2 : digV d (d.size - 1 - p) < 2 ^ e
    · rw [decide_eq_true (Int.not_lt.1 c), decide_eq_true c2] at ha
      cases ha
    · rw [if_pos (Int.not_lt.1 c2)]
/-- The loop falls, or all that it reads holds. -/
theorem l0_falls {e : Nat} (he : e = 1 ∨ e = 4) (d : ByteArray) (hd : e * d.size ≤ 4096) (wd : Int) : ∀ m p, d.size - p ≤ m → p ≤ d.size → ∀ ws : List Int, ws.length = (e * d.size + 63) / 64 →
    Ev (fun k => impl_ReadBits.l0 k (e : Int) d wd ws p) (0, [], false) ∨ ∃ k r, vis (digA e d) (fun p => (Utf8.decode d p).2) d.size k p = some r := by
  have hd2 : d.size ≤ 4096 := by rcases he with rfl | rfl <;> omega
  intro m
  induction m with
  | zero =>
    intro p hm hp ws hl
    exact .inr ⟨1, (0, 0), by rw [vis, if_neg (by omega)]⟩
  | succ m ih =>
    intro p hm hp ws hl
    by_cases c : p < d.size
    · cases ha : digA e d (d.size - 1 - p) with
      | false => exact .inl ⟨1, fun k hk => by
          obtain ⟨q, rfl⟩ : ∃ q, k = q + 1 := ⟨k - 1, by omega⟩
          exact l0_bad he d hd2 wd ws p c ha q⟩
      | true =>
        have h1 := (digSteps e d).pos p c
        have h2 := (digSteps e d).fit p c
        try dsimp only at h1 h2
        rcases ih (p + (Utf8.decode d p).2) (by omega) h2 (ws.set (e * p / 64) (Go.bits .or .u64 (rd ws ((e * p / 64 : Nat) : Int)) (shl .u64 (digV d (d.size - 1 - p)) ((e * p % 64 : Nat) : Int)))) (by rw [List.length_set]; exact hl) with h3 | ⟨k, r, h3⟩
        · exact .inl (Ev.step (fun k => l0_good he d hd wd ws hl p c ha k) h3)
        · exact .inr ⟨k + 1, _, by rw [vis, if_pos c, if_pos ha, h3]; rfl⟩
    · exact .inr ⟨1, (0, 0), by rw [vis, if_neg c]⟩
theorem l0_all {e : Nat} (he : e = 1 ∨ e = 4) (d : ByteArray) (hd : e * d.size ≤ 4096) (wd : Int) (ha : ∀ j, j < d.size → digA e d j = true) : ∀ m p, d.size - p = m → p ≤ d.size → ∀ ws : List Int, ws.length = (e * d.size + 63) / 64 → U64s ws →
    (∀ j, bitN ws j = (decide (j < e * p) && (digV d (d.size - 1 - j / e)).toNat.testBit (j % e))) →
    ∃ ws', Ev (fun k => impl_ReadBits.l0 k (e : Int) d wd ws p) (wd, ws', true) ∧ ws'.length = (e * d.size + 63) / 64 ∧ U64s ws' ∧ ∀ j, bitN ws' j = (decide (j < e * d.size) && (digV d (d.size - 1 - j / e)).toNat.testBit (j % e)) := by
  intro m
  induction m with
  | zero =>
    intro p hm hp ws hl hu hb
    have : p = d.size := by omega
    subst this
    refine ⟨ws, Ev.step (f := fun _ => some (wd, ws, true)) (fun k => ?_) (Ev.now _), hl, hu, hb⟩
    simp only [impl_ReadBits.l0]
    rw [if_neg (by omega)]
  | succ m ih =>
    intro p hm hp ws hl hu hb
    have c : p < d.size := by omega
    have hv := ha (d.size - 1 - p) (by omega)
    have hv2 := hv
    unfold digA at hv2
    simp only [Bool.and_eq_true, decide_eq_true_eq] at hv2
    have hs := digit_step he (digV d) ws hl hu c hv2 hb
    have h1 := (digSteps e d).one p c (ha p c)
    try dsimp only at h1
    obtain ⟨ws', h2, h3⟩ := ih (p + 1) (by omega) (by omega) _ (by rw [List.length_set]; exact hl) hs.1 hs.2
    refine ⟨ws', Ev.step (fun k => ?_) h2, h3⟩
    have h4 := l0_good he d hd wd ws hl p c hv k
    rw [h1] at h4
    exact h4
theorem bt_list (s : ByteArray) (i : Nat) : bt s (i : Int) = ((s.data.toList.getD i 0).toNat : Int) := by
  unfold bt
  by_cases h : i < s.size
  · have h2 : i < s.data.toList.length := by simpa using h
    rw [dif_pos (show (i : Int).toNat < s.size by omega), List.getD_eq_getElem?_getD, List.getElem?_eq_getElem h2]
    rfl
  · have h2 : s.data.toList.length ≤ i := by simpa using h
    rw [dif_neg (show ¬ (i : Int).toNat < s.size by omega), List.getD_eq_getElem?_getD, List.getElem?_eq_none h2]
    rfl
theorem ext_size (s : ByteArray) (h : 2 ≤ s.size) : (s.extract 2 s.size).size = s.size - 2 := by
  have h1 := congrArg List.length (Lib.extract_data s 2 s.size)
  rw [List.length_take, List.length_drop, Array.length_toList, Array.length_toList] at h1
  have h2 : s.data.size = s.size := rfl
  have h3 : (s.extract 2 s.size).data.size = (s.extract 2 s.size).size := rfl
  omega
theorem ext_bt (s : ByteArray) (j : Nat) (h : j + 2 < s.size) : bt s ((j : Int) + 2) = bt (s.extract 2 s.size) (j : Int) := by
  have e : (j : Int) + 2 = ((j + 2 : Nat) : Int) := by omega
  rw [e, bt_list, bt_list, Lib.extract_data, List.getD_eq_getElem?_getD, List.getD_eq_getElem?_getD, List.getElem?_take_of_lt (by omega), List.getElem?_drop, Nat.add_comm 2 j]
/-- What kind of digits a text says. -/
def KindE (s : ByteArray) (e : Nat) : Prop := (bt s 1 = 98 ∧ e = 1) ∨ (bt s 1 = 120 ∧ e = 4)
theorem spec_nib (s : ByteArray) (V : Nat → Int) (i : Nat) (x5 v : Int) (hv : v = V i) (h0 : 0 ≤ v) (h16 : v < 16) (hi : 4 * i ≤ 100000) (c : Nat) (hc : c ≤ 3) (r : Int × List Int × Bool)
    (h : Ev (fun k => spec_ReadBits.l1 k s (digitsBits 4 V (4 * i + (3 - c) + 1)) x5 v ((c : Int) - 1)) r) : Ev (fun k => spec_ReadBits.l1 k s (digitsBits 4 V (4 * i + (3 - c))) x5 v (c : Int)) r := by
  have hu : IntKind.u64.wrap (c : Int) = (c : Int) := wrap_u64_id (by omega) (by omega)
  have hw : wrap64 ((c : Int) - 1) = (c : Int) - 1 := wrap64_id (by omega) (by omega)
  have hb : (Go.bits .and .i64 (shr .i64 v (c : Int)) 1) % 256 = if (V ((4 * i + (3 - c)) / 4)).toNat.testBit (4 - 1 - (4 * i + (3 - c)) % 4) then 1 else 0 := by
    have e1 : (4 * i + (3 - c)) / 4 = i ∧ 4 - 1 - (4 * i + (3 - c)) % 4 = c := by omega
    rw [e1.1, e1.2, ← hv]
    obtain ⟨n, rfl⟩ := Int.eq_ofNat_of_zero_le h0
    have := nib_bits ⟨n, by omega⟩ ⟨c, by omega⟩
    exact this
  refine Ev.step (fun k => ?_) h
  simp only [spec_ReadBits.l1]
  rw [if_pos (by omega), hu, if_pos (by omega), if_pos (by rw [digitsBits_len]; omega), hb, digitsBits_succ, hw]
theorem spec_good (s : ByteArray) (h3 : 3 ≤ s.size) (h4 : s.size ≤ 4098) (e : Nat) (hk : KindE s e) (i : Nat) (hi : i + 2 < s.size) (ha : digA e (s.extract 2 s.size) i = true) (r : Int × List Int × Bool)
    (h : Ev (fun k => spec_ReadBits.l0 k s (digitsBits e (digV (s.extract 2 s.size)) (e * (i + 1))) (((i + 1 : Nat) : Int) + 2)) r) : Ev (fun k => spec_ReadBits.l0 k s (digitsBits e (digV (s.extract 2 s.size)) (e * i)) ((i : Int) + 2)) r := by
  have hb := ext_bt s i hi
  have hr := bt_range s ((i : Int) + 2)
  have hx := hex_eq _ hr
  have hw : wrap64 ((i : Int) + 2 + 1) = ((i + 1 : Nat) : Int) + 2 := by rw [wrap64_id (by omega) (by omega)]; omega
  have f1 : (i : Int) + 2 < (s.size : Int) := by omega
  have f2 : (0 : Int) ≤ (i : Int) + 2 := by omega
  have f3 : (1 : Int) < (s.size : Int) := by omega
  unfold digA at ha
  simp only [Bool.and_eq_true, decide_eq_true_eq] at ha
  have h16 := (digV_lt _ _ ha.1).1
  rw [hb] at hx
  have hx2 : spec_l1Hex.f (bt s ((i : Int) + 2)) = some (digV (s.extract 2 s.size) i) := by rw [hb]; exact hx
  clear hx hb hr
  generalize hV : digV (s.extract 2 s.size) = V at h ha h16 hx2 ⊢
  clear hV
  rcases hk with ⟨hc, rfl⟩ | ⟨hc, rfl⟩
  · have hd : decide (V i > 1) = false := decide_eq_false (by have := ha.2; omega)
    have hap : digitsBits 1 V (1 * i) ++ [V i % 256] = digitsBits 1 V (1 * (i + 1)) := by
      rw [show 1 * (i + 1) = 1 * i + 1 by omega, ← digitsBits_succ]
      have e1 : 1 * i / 1 = i ∧ 1 - 1 - 1 * i % 1 = 0 := by omega
      rw [e1.1, e1.2]
      have h01 : V i = 0 ∨ V i = 1 := by have := ha.2; omega
      rcases h01 with e2 | e2 <;> rw [e2] <;> rfl
    have f4 : (digitsBits 1 V (1 * i)).length < 140737488355328 := by rw [digitsBits_len]; omega
    have h1 : Ev (fun k => spec_ReadBits.j2 k s (digitsBits 1 V (1 * i)) ((i : Int) + 2) (V i) false) r := by
      refine Ev.step (fun k => ?_) h
      simp only [spec_ReadBits.j2]
      rw [if_neg (by decide), if_pos f3, if_pos hc, if_pos f4, hap, hw]
    refine Ev.step (fun k => ?_) h1
    simp only [spec_ReadBits.l0]
    rw [if_pos f1, if_pos f2, hx2, Option.bind_some, if_neg (Int.not_lt.2 ha.1), if_pos f3, if_pos hc, hd]
  · have hc98 : ¬ bt s 1 = 98 := by rw [hc]; decide
    have g4 : Ev (fun k => spec_ReadBits.l1 k s (digitsBits 4 V (4 * i + 4)) ((i : Int) + 2) (V i) (-1)) r := by
      refine Ev.step (fun k => ?_) h
      simp only [spec_ReadBits.l1]
      rw [if_neg (by decide), hw, show 4 * (i + 1) = 4 * i + 4 by omega]
    have g3 := spec_nib s V i ((i : Int) + 2) (V i) rfl ha.1 h16 (by omega) 0 (by omega) r g4
    have g2 := spec_nib s V i ((i : Int) + 2) (V i) rfl ha.1 h16 (by omega) 1 (by omega) r g3
    have g1 := spec_nib s V i ((i : Int) + 2) (V i) rfl ha.1 h16 (by omega) 2 (by omega) r g2
    have g0 := spec_nib s V i ((i : Int) + 2) (V i) rfl ha.1 h16 (by omega) 3 (by omega) r g1
    have h1 : Ev (fun k => spec_ReadBits.j2 k s (digitsBits 4 V (4 * i)) ((i : Int) + 2) (V i) false) r := by
      refine Ev.step (fun k => ?_) g0
      simp only [spec_ReadBits.j2]
      rw [if_neg (by decide), if_pos f3, if_neg hc98]
      rfl
    refine Ev.step (fun k => ?_) h1
    simp only [spec_ReadBits.l0]
    rw [if_pos f1, if_pos f2, hx2, Option.bind_some, if_neg (Int.not_lt.2 ha.1), if_pos f3, if_neg hc98]
theorem spec_bad (s : ByteArray) (h3 : 3 ≤ s.size) (e : Nat) (hk : KindE s e) (i : Nat) (hi : i + 2 < s.size) (ha : digA e (s.extract 2 s.size) i = false) (L : List Int) : Ev (fun k => spec_ReadBits.l0 k s L ((i : Int) + 2)) (0, [], false) := by
  have hb := ext_bt s i hi
  have hr := bt_range s ((i : Int) + 2)
  have hx := hex_eq _ hr
  have f1 : (i : Int) + 2 < (s.size : Int) := by omega
  have f2 : (0 : Int) ≤ (i : Int) + 2 := by omega
  have f3 : (1 : Int) < (s.size : Int) := by omega
  rw [hb] at hx
  have hx2 : spec_l1Hex.f (bt s ((i : Int) + 2)) = some (digV (s.extract 2 s.size) i) := by rw [hb]; exact hx
  have h16 := digV_lt (s.extract 2 s.size) i
  unfold digA at ha
  clear hx hb hr
  generalize digV (s.extract 2 s.size) i = v at ha hx2 h16
  have out : ∀ x5 : Int, Ev (fun k => spec_ReadBits.j2 k s L x5 v true) (0, [], false) := fun x5 => Ev.step (f := fun _ => some (0, [], false)) (fun k => by simp only [spec_ReadBits.j2]; rw [if_pos trivial]) (Ev.now _)
  by_cases c : v < 0
  · refine Ev.step (fun k => ?_) (out ((i : Int) + 2))
    simp only [spec_ReadBits.l0]
    rw [if_pos f1, if_pos f2, hx2, Option.bind_some, if_pos c]
  · rw [decide_eq_true (Int.not_lt.1 c), Bool.true_and] at ha
    have c2 := of_decide_eq_false ha
    have h := (h16 (Int.not_lt.1 c)).1
    rcases hk with ⟨hc, rfl⟩ | ⟨hc, rfl⟩
    · have hd : decide (v > 1) = true := decide_eq_true (by omega)
      refine Ev.step (fun k => ?_) (out ((i : Int) + 2))
      simp only [spec_ReadBits.l0]
      rw [if_pos f1, if_pos f2, hx2, Option.bind_some, if_neg c, if_pos f3, if_pos hc, hd]
    · exact absurd h c2
theorem spec_loop (s : ByteArray) (h3 : 3 ≤ s.size) (h4 : s.size ≤ 4098) (e : Nat) (hk : KindE s e) : ∀ m i, s.size - 2 - i = m → i ≤ s.size - 2 →
    (Ev (fun k => spec_ReadBits.l0 k s (digitsBits e (digV (s.extract 2 s.size)) (e * i)) ((i : Int) + 2)) (0, [], false) ∧ ∃ j, j < s.size - 2 ∧ digA e (s.extract 2 s.size) j = false) ∨
    ((∀ j, i ≤ j → j < s.size - 2 → digA e (s.extract 2 s.size) j = true) ∧ ∀ r, Ev (fun k => spec_ReadBits.l0 k s (digitsBits e (digV (s.extract 2 s.size)) (e * (s.size - 2))) (s.size : Int)) r → Ev (fun k => spec_ReadBits.l0 k s (digitsBits e (digV (s.extract 2 s.size)) (e * i)) ((i : Int) + 2)) r) := by
  intro m
  induction m with
  | zero =>
    intro i hm hi
    have : i = s.size - 2 := by omega
    subst this
    refine .inr ⟨fun j h1 h2 => by omega, fun r h => ?_⟩
    have e1 : ((s.size - 2 : Nat) : Int) + 2 = (s.size : Int) := by omega
    rw [e1]
    exact h
  | succ m ih =>
    intro i hm hi
    cases ha : digA e (s.extract 2 s.size) i with
    | false => exact .inl ⟨spec_bad s h3 e hk i (by omega) ha _, i, by omega, ha⟩
    | true =>
      rcases ih (i + 1) (by omega) (by omega) with ⟨h1, h2⟩ | ⟨h1, h2⟩
      · exact .inl ⟨spec_good s h3 h4 e hk i (by omega) ha _ h1, h2⟩
      · refine .inr ⟨fun j g1 g2 => ?_, fun r h => spec_good s h3 h4 e hk i (by omega) ha _ (h2 r h)⟩
        by_cases c : j = i
        · rw [c]; exact ha
        · exact h1 j (by omega) g2
theorem readBits_none (s : ByteArray) (h : Ev (fun k => spec_ReadBits.f k s) (0, [], false)) (h2 : Ev (fun k => impl_ReadBits.f k s) (0, [], false)) : ∃ (w : Int) (ws : List Int) (ok : Bool), Ev (fun k => spec_ReadBits.f k s) (w, ws, ok) ∧ Ev (fun k => impl_ReadBits.f k s) (w, ws, ok) ∧ UpI_Bits 1048576 ⟨w, ws⟩ :=
  ⟨0, [], false, h, h2, by unfold UpI_Bits; simp⟩
theorem readBits_agree (s : ByteArray) (u : (s.size : Int) ≤ 1048576) : ∃ (w : Int) (ws : List Int) (ok : Bool), Ev (fun k => spec_ReadBits.f k s) (w, ws, ok) ∧ Ev (fun k => impl_ReadBits.f k s) (w, ws, ok) ∧ UpI_Bits 1048576 ⟨w, ws⟩ := by
  have jt : Ev (fun k => spec_ReadBits.j0 k s true) (0, [], false) := Ev.step (f := fun _ => some (0, [], false)) (fun k => by simp only [spec_ReadBits.j0]; rw [if_pos trivial]) (Ev.now _)
  have iN : impl_ReadBits.f = fun k a0 => impl_ReadBits.f k a0 := rfl
  by_cases c3 : (s.size : Int) < 3
  · exact readBits_none s (Ev.congr (fun k => by unfold spec_ReadBits.f; rw [if_pos c3]) jt) (Ev.congr (fun k => by unfold impl_ReadBits.f; rw [if_pos c3]) (Ev.now _))
  · have p0 : (0 : Int) < (s.size : Int) := by omega
    have p1 : (1 : Int) < (s.size : Int) := by omega
    by_cases c35 : bt s 0 = 35
    · have kind : KindE s 1 ∨ KindE s 4 ∨ (bt s 1 ≠ 98 ∧ bt s 1 ≠ 120) := by
        by_cases a : bt s 1 = 98
        · exact .inl (.inl ⟨a, rfl⟩)
        · by_cases b : bt s 1 = 120
          · exact .inr (.inl (.inr ⟨b, rfl⟩))
          · exact .inr (.inr ⟨a, b⟩)
      have good : ∀ e : Nat, (e = 1 ∨ e = 4) → KindE s e → ∃ (w : Int) (ws : List Int) (ok : Bool), Ev (fun k => spec_ReadBits.f k s) (w, ws, ok) ∧ Ev (fun k => impl_ReadBits.f k s) (w, ws, ok) ∧ UpI_Bits 1048576 ⟨w, ws⟩ := by
        intro e he hk
        have fi : ∀ k, impl_ReadBits.f k s = impl_ReadBits.g k (s.extract 2 s.size) (e : Int) := fun k => by
          unfold impl_ReadBits.f
          rw [if_neg c3, if_pos c35]
          rcases hk with ⟨hc, rfl⟩ | ⟨hc, rfl⟩
          · rw [if_pos hc]; rfl
          · rw [if_neg (by rw [hc]; decide), if_pos hc]; rfl
        have hn := ext_size s (by omega)
        have hmul : wrap64 ((e : Int) * ((s.extract 2 s.size).size : Int)) = ((e * (s.size - 2) : Nat) : Int) := by
          rw [hn, ← Int.natCast_mul]
          exact wrap64_id (by omega) (by rcases he with rfl | rfl <;> omega)
        have gbig : 4096 < e * (s.size - 2) → Ev (fun k => impl_ReadBits.f k s) (0, [], false) := fun hb => Ev.congr (fun k => by rw [fi]; unfold impl_ReadBits.g; rw [hmul, if_pos (by omega)]) (Ev.now _)
        by_cases c4 : (s.size : Int) > 4098
        · exact readBits_none s (Ev.congr (fun k => by unfold spec_ReadBits.f; rw [if_neg c3, if_pos c4]) jt) (gbig (by rcases he with rfl | rfl <;> omega))
        · have sf : ∀ r, Ev (fun k => spec_ReadBits.l0 k s (digitsBits e (digV (s.extract 2 s.size)) (e * 0)) (((0 : Nat) : Int) + 2)) r → Ev (fun k => spec_ReadBits.f k s) r := fun r h => by
            have h1 : Ev (fun k => spec_ReadBits.j0 k s false) r := by
              refine Ev.step (fun k => ?_) h
              simp only [spec_ReadBits.j0]
              rw [if_neg (by decide)]
              rfl
            refine Ev.congr (fun k => ?_) h1
            unfold spec_ReadBits.f
            rw [if_neg c3, if_neg c4, if_pos p0, if_pos c35, if_pos p1]
            rcases hk with ⟨hc, _⟩ | ⟨hc, _⟩
            · rw [if_pos hc]
            · rw [if_neg (by rw [hc]; decide), hc]; rfl
          have gi : ¬ 4096 < e * (s.size - 2) → ∀ r, Ev (fun k => impl_ReadBits.l0 k (e : Int) (s.extract 2 s.size) ((e * (s.size - 2) : Nat) : Int) (List.replicate (e * (s.size - 2) + 63) 0 |>.take ((e * (s.size - 2) + 63) / 64)) 0) r → Ev (fun k => impl_ReadBits.f k s) r := fun hb r h => by
            refine Ev.congr (fun k => ?_) h
            rw [fi]
            unfold impl_ReadBits.g
            rw [hmul, if_neg (by omega), zeroBits_eq _ (by omega) (by omega), Option.bind_some]
            have e1 : ((((e * (s.size - 2) : Nat) : Int) + 63) / 64).toNat = (e * (s.size - 2) + 63) / 64 := by omega
            rw [e1, List.take_replicate, Nat.min_eq_left (by omega)]
          rcases spec_loop s (by omega) (by omega) e hk (s.size - 2) 0 (by omega) (by omega) with ⟨h1, j, h2, h3⟩ | ⟨h1, h2⟩
          · refine readBits_none s (sf _ h1) ?_
            by_cases hb : 4096 < e * (s.size - 2)
            · exact gbig hb
            · refine gi hb _ ?_
              rcases l0_falls he (s.extract 2 s.size) (by rw [hn]; omega) ((e * (s.size - 2) : Nat) : Int) (s.size - 2) 0 (by rw [hn]; omega) (by omega) (List.replicate (e * (s.size - 2) + 63) 0 |>.take ((e * (s.size - 2) + 63) / 64)) (by rw [hn, List.length_take, List.length_replicate]; omega) with h4 | ⟨k, r, h4⟩
              · exact h4
              · have := vis_holds (digSteps e (s.extract 2 s.size)) h4 j (by rw [hn]; exact h2)
                rw [this] at h3
                cases h3
          · have hlen : (digitsBits e (digV (s.extract 2 s.size)) (e * (s.size - 2))).length = e * (s.size - 2) := digitsBits_len _ _ _
            obtain ⟨K1, t1⟩ := Ev.binds (l1Turned_ev (digitsBits e (digV (s.extract 2 s.size)) (e * (s.size - 2))) (by rw [hlen]; rcases he with rfl | rfl <;> omega))
            have spec_end : ∀ w ws ok, Ev (fun k => spec_l1From.f k (digitsBits e (digV (s.extract 2 s.size)) (e * (s.size - 2))).reverse) (w, ws, ok) → Ev (fun k => spec_ReadBits.f k s) (w, ws, ok) := fun w ws ok h => by
              obtain ⟨K2, t2⟩ := Ev.binds h
              refine sf _ (h2 _ ⟨K1 + K2 + 1, fun k hk => ?_⟩)
              obtain ⟨m, rfl⟩ : ∃ m, k = m + 1 := ⟨k - 1, by omega⟩
              dsimp only
              simp only [spec_ReadBits.l0]
              rw [if_neg (by omega), t1 m (by omega), t2 m (by omega)]
            by_cases hb : 4096 < e * (s.size - 2)
            · exact readBits_none s (spec_end _ _ _ (l1From_none _ (.inr (by rw [List.length_reverse, hlen]; exact hb)))) (gbig hb)
            · have hz : (digitsBits e (digV (s.extract 2 s.size)) (e * (s.size - 2))).reverse.length = e * (s.size - 2) := by rw [List.length_reverse, hlen]
              obtain ⟨ws, f1, f2⟩ := l1From_ev _ (digitsBits_01 e (digV (s.extract 2 s.size)) (e * (s.size - 2))) (by rw [hz]; rcases he with rfl | rfl <;> omega) (by rw [hz]; omega)
              rw [hz] at f1
              obtain ⟨ws', i1, i2, i3, i4⟩ := l0_all he (s.extract 2 s.size) (by rw [hn]; omega) ((e * (s.size - 2) : Nat) : Int) (fun j hj => h1 j (by omega) (by rw [← hn]; exact hj)) (s.size - 2) 0 (by rw [hn]; omega) (by omega) (List.replicate (e * (s.size - 2) + 63) 0 |>.take ((e * (s.size - 2) + 63) / 64)) (by rw [hn, List.length_take, List.length_replicate]; omega) (by rw [List.take_replicate]; exact U64s.replicate _) (fun j => by rw [List.take_replicate, bitN_replicate]; simp)
              rw [hn] at i2 i4
              have hp := digits_packs he (by omega) (by omega) (digV (s.extract 2 s.size)) ws' i2 i3 i4
              have := hp.uniq f2
              subst this
              exact ⟨_, ws', true, spec_end _ _ _ f1, gi hb _ i1, by unfold UpI_Bits; dsimp only; rw [i2]; omega⟩
      rcases kind with h | h | ⟨h1, h2⟩
      · exact good 1 (.inl rfl) h
      · exact good 4 (.inr rfl) h
      · refine readBits_none s ?_ (Ev.congr (fun k => by unfold impl_ReadBits.f; rw [if_neg c3, if_pos c35, if_neg h1, if_neg h2]) (Ev.now _))
        by_cases c4 : (s.size : Int) > 4098
        · exact Ev.congr (fun k => by unfold spec_ReadBits.f; rw [if_neg c3, if_pos c4]) jt
        · exact Ev.congr (fun k => by unfold spec_ReadBits.f; rw [if_neg c3, if_neg c4, if_pos p0, if_pos c35, if_pos p1, if_neg h1, bne_iff_ne.2 h2]) jt
    · refine readBits_none s ?_ (Ev.congr (fun k => by unfold impl_ReadBits.f; rw [if_neg c3, if_neg c35]) (Ev.now _))
      by_cases c4 : (s.size : Int) > 4098
      · exact Ev.congr (fun k => by unfold spec_ReadBits.f; rw [if_neg c3, if_pos c4]) jt
      · exact Ev.congr (fun k => by unfold spec_ReadBits.f; rw [if_neg c3, if_neg c4, if_pos p0, if_neg c35]) jt
-- SAYS: The program's ReadBits answers as the reference's ReadBits does, for all arguments.
theorem FnExactReadBits (a0 : ByteArray) (q0 : a0.size ≤ maxLen) : ∃ k, laws_FnExactReadBits.f k a0 = some true := by
  by_cases b0 : (a0.size : Int) > 1048576
  · have c0 := eq_true b0
    exact ⟨1 + 1 + 1 + 1, by simp (disch := omega) only [laws_FnExactReadBits.f, laws_FnExactReadBits.j0, laws_FnExactReadBits.j1, ↓reduceIte, c0]⟩
  have c0 := eq_false b0
  have u0 : (a0.size : Int) ≤ 1048576 := by omega
  obtain ⟨y0_0, y0_1, y1, e1, e2, v0⟩ := readBits_agree a0 u0
  obtain ⟨Khs, hs⟩ := Ev.binds (e1)
  obtain ⟨Khi, hi⟩ := Ev.binds (e2)
  obtain ⟨Kf0_, f0_⟩ := Ev.binds (eq_Bits (⟨y0_0, y0_1⟩ : S24) v0)
  obtain ⟨M0, N0_0, G0_, O0, A0, H0_⟩ := mark_Bits (⟨y0_0, y0_1⟩ : S24) v0 1 (by omega) (by omega)
  obtain ⟨Kx0_, x0_⟩ := Ev.binds (G0_)
  obtain ⟨Kz0_, z0_⟩ := Ev.binds (H0_)
  have cn0 := eq_false (show ¬ M0 < 0 by omega)
  exact ⟨Khs + Khi + Kf0_ + Kx0_ + Kz0_ + 1 + 1 + 1 + 1, by simp (disch := omega) only [laws_FnExactReadBits.f, laws_FnExactReadBits.j0, laws_FnExactReadBits.j1, ↓hs, ↓hi, ↓f0_, ↓x0_, ↓z0_, ↓reduceIte, c0, cn0, bne_self_eq_false, Bool.false_eq_true, Bool.not_true, Bool.not_false]⟩

end Go.Proofs.Ytpkclocdenagcaa.Pure
