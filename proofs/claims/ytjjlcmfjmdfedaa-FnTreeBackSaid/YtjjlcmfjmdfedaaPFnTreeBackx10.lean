-- Written by a program of this session (a turned copy of the kit's printer); Lean checks it.
-- half the depth
import Derived.Test.YtjjlcmfjmdfedaaPFnTreeBackx0
import Derived.Test.YtjjlcmfjmdfedaaPFnTreeBackx7
import Derived.Test.YtjjlcmfjmdfedaaPFnTreeBackx9
namespace Go.Proofs.Ytjjlcmfjmdfedaa.PFnTreeBack
open Go.RowKit Go.Proofs.YtjjlcmfjmdfedaaW.PrintWords Go.Proofs.YtjjlcmfjmdfedaaW.PrintLast Go.Proofs.YtjjlcmfjmdfedaaW.PrintMore
attribute [local go_sem] max2_int min2_int max_two min_two max_three min_three max_four min_four   -- for this text's walks alone
set_option linter.unusedVariables false
set_option linter.unusedSimpArgs false

/-! ### spec_DrawReadTree: function 18 -/
mutual
def spec_DrawReadTree.l0 : Nat → ByteArray → Int → Option (ByteArray)
 | 0, _, _ => none
 | k + 1, x4, x6 => if x6 > 0 then (if x4.size + 2 ≤ 9223372036854775807 then (spec_DrawReadTree.l0 k (x4 ++ (⟨#[97, 32]⟩ : ByteArray)) (wrap64 (x6 - 1))) else (none)) else (if x4.size + 1 ≤ 9223372036854775807 then (some (x4 ++ (⟨#[41]⟩ : ByteArray))) else (none))
def spec_DrawReadTree.l1 : Nat → ByteArray → List Int → Int → Option (ByteArray)
 | 0, _, _, _ => none
 | k + 1, x4, x272000, x272001 => (spec_l1Rd_below.f x272000 x272001 2).bind fun bt299 => (if (x4.size : Int) < (wrap64 (20000 + bt299.1)) then (if x4.size + 50 ≤ 9223372036854775807 then (spec_DrawReadTree.l1 k (x4 ++ (⟨#[32, 32, 32, 32, 32, 32, 32, 32, 32, 32, 32, 32, 32, 32, 32, 32, 32, 32, 32, 32, 32, 32, 32, 32, 32, 32, 32, 32, 32, 32, 32, 32, 32, 32, 32, 32, 32, 32, 32, 32, 32, 32, 32, 32, 32, 32, 32, 32, 32, 32]⟩ : ByteArray)) x272000 bt299.2) else (none)) else (some x4))
end
def spec_DrawReadTree.f (k : Nat) (l0 : List Int) : Option (ByteArray) := (spec_l1Open.f l0).bind fun bt269 => ((spec_l1Rd_below.f bt269.1 bt269.2 (mn 5 (wrap64 (1 + (wrap64 ((bt269.1.length : Int) / 8)))))).bind fun bt272 => ((spec_l2Grow.f k bt269.1 bt272.2 (wrap64 (1 + bt272.1))).bind fun bt274 => ((spec_l1Rd_below.f bt269.1 bt274.2 12).bind fun bt276 => (if bt276.1 = 0 then ((spec_l1Rd_below.f bt269.1 bt276.2 (wrap64 ((bt274.1.size : Int) + 1))).bind fun bt278 => (if 0 ≤ bt278.1 then (if bt278.1 ≤ (bt274.1.size : Int) then ((some (([(⟨#[41]⟩ : ByteArray), (⟨#[40]⟩ : ByteArray), (⟨#[32, 98]⟩ : ByteArray), (⟨#[9]⟩ : ByteArray), (⟨#[59]⟩ : ByteArray), (⟨#[10]⟩ : ByteArray)] : List ByteArray) : List ByteArray)).bind fun y280 => ((spec_l1Rd_below.f bt269.1 bt278.2 6).bind fun bt283 => (if 0 ≤ bt283.1 then (if bt283.1 < (y280.length : Int) then (if (bt274.1.extract 0 (bt278.1 : Int).toNat).size + (rdOf ByteArray.empty y280 bt283.1).size ≤ 9223372036854775807 then (if ((bt274.1.extract 0 (bt278.1 : Int).toNat) ++ (rdOf ByteArray.empty y280 bt283.1)).size + (bt274.1.extract (bt278.1 : Int).toNat bt274.1.size).size ≤ 9223372036854775807 then (some (((bt274.1.extract 0 (bt278.1 : Int).toNat) ++ (rdOf ByteArray.empty y280 bt283.1)) ++ (bt274.1.extract (bt278.1 : Int).toNat bt274.1.size))) else (none)) else (none)) else (none)) else (none)))) else (none)) else (none))) else (if bt276.1 = 1 then ((spec_l1Rd_below.f bt269.1 bt276.2 (wrap64 ((bt274.1.size : Int) + 1))).bind fun bt286 => (if 0 ≤ bt286.1 then (if bt286.1 ≤ (bt274.1.size : Int) then (some (bt274.1.extract 0 (bt286.1 : Int).toNat)) else (none)) else (none))) else (if bt276.1 = 2 then ((spec_l1Rd_below.f bt269.1 bt276.2 3).bind fun bt288 => ((spec_l2Chain.f k (wrap64 (100 + bt288.1))).bind fun t290 => (some t290))) else (if bt276.1 = 3 then ((spec_l1Rd_below.f bt269.1 bt276.2 3).bind fun bt291 => (spec_DrawReadTree.l0 k (⟨#[40]⟩ : ByteArray) (wrap64 (1998 + bt291.1)))) else (if bt276.1 = 4 then ((some (([(⟨#[]⟩ : ByteArray), (⟨#[32]⟩ : ByteArray), (⟨#[59, 97]⟩ : ByteArray), (⟨#[97, 32, 98]⟩ : ByteArray), (⟨#[97, 41]⟩ : ByteArray), (⟨#[97, 59, 98]⟩ : ByteArray), (⟨#[40, 97, 59, 41, 10, 41]⟩ : ByteArray), (⟨#[97, 59, 1]⟩ : ByteArray)] : List ByteArray) : List ByteArray)).bind fun y293 => ((spec_l1Rd_below.f bt269.1 bt276.2 8).bind fun bt296 => (if 0 ≤ bt296.1 then (if bt296.1 < (y293.length : Int) then (some (rdOf ByteArray.empty y293 bt296.1)) else (none)) else (none)))) else (if bt276.1 = 5 then (spec_DrawReadTree.l1 k bt274.1 bt269.1 bt276.2) else (some bt274.1))))))))))
def spec_DrawReadTree.T6 : Bool × List (List Nat × List Nat) := (true, [([], []), ([], []), ([0, 1], [0, 1]), ([], []), ([], []), ([4], [4]), ([3, 5], [3, 5]), ([6], [6]), ([2, 7], [2, 7]), ([], []), ([], []), ([9, 10], [9, 10]), ([8, 11], [8, 11]), ([12, 5, 0, 1, 2, 3, 4, 5, 6, 7, 8, 9, 10, 11, 12], [0, 9, 12])])
def spec_DrawReadTree.B6 : List Nat := [0, 0, 3, 0, 0, 16, 56, 120, 255, 0, 0, 1536, 4095, 8191]
theorem spec_DrawReadTree.tab6 : rtab .any (opsOf Try.f18 6) = spec_DrawReadTree.T6 := by kernel_rfl
theorem spec_DrawReadTree.bits6 : waitsOk spec_DrawReadTree.T6.2 spec_DrawReadTree.B6 = true := by kernel_rfl
set_option maxHeartbeats 8000000 in
set_option maxRecDepth 100000 in
theorem spec_DrawReadTree.calls (k : Nat) (A0 : Option Addr) (c0 : Nat) (l0 : List Int) (r : ByteArray) (w : World) (hr0 : Kd.C (Kd.int .u8) w A0 l0.length l0) (hc0 : l0.length ≤ c0) (h : spec_DrawReadTree.f k l0 = some r) :
  Calls Try.prog 18 #[.slice A0 l0.length c0] w fun e w' => e = .returned (.string r) ∧ Below w.heap.size w w' := by
 have HR0 := Aside0.mk hr0; have HC0 := Aside0.mk hc0; clear hr0 hc0; have HB := Aside0.mk (Below.refl w.heap.size w); have H : ((spec_l1Open.f l0).bind fun bt269 => ((spec_l1Rd_below.f bt269.1 bt269.2 (mn 5 (wrap64 (1 + (wrap64 ((bt269.1.length : Int) / 8)))))).bind fun bt272 => ((spec_l2Grow.f k bt269.1 bt272.2 (wrap64 (1 + bt272.1))).bind fun bt274 => ((spec_l1Rd_below.f bt269.1 bt274.2 12).bind fun bt276 => (if bt276.1 = 0 then ((spec_l1Rd_below.f bt269.1 bt276.2 (wrap64 ((bt274.1.size : Int) + 1))).bind fun bt278 => (if 0 ≤ bt278.1 then (if bt278.1 ≤ (bt274.1.size : Int) then ((some (([(⟨#[41]⟩ : ByteArray), (⟨#[40]⟩ : ByteArray), (⟨#[32, 98]⟩ : ByteArray), (⟨#[9]⟩ : ByteArray), (⟨#[59]⟩ : ByteArray), (⟨#[10]⟩ : ByteArray)] : List ByteArray) : List ByteArray)).bind fun y280 => ((spec_l1Rd_below.f bt269.1 bt278.2 6).bind fun bt283 => (if 0 ≤ bt283.1 then (if bt283.1 < (y280.length : Int) then (if (bt274.1.extract 0 (bt278.1 : Int).toNat).size + (rdOf ByteArray.empty y280 bt283.1).size ≤ 9223372036854775807 then (if ((bt274.1.extract 0 (bt278.1 : Int).toNat) ++ (rdOf ByteArray.empty y280 bt283.1)).size + (bt274.1.extract (bt278.1 : Int).toNat bt274.1.size).size ≤ 9223372036854775807 then (some (((bt274.1.extract 0 (bt278.1 : Int).toNat) ++ (rdOf ByteArray.empty y280 bt283.1)) ++ (bt274.1.extract (bt278.1 : Int).toNat bt274.1.size))) else (none)) else (none)) else (none)) else (none)))) else (none)) else (none))) else (if bt276.1 = 1 then ((spec_l1Rd_below.f bt269.1 bt276.2 (wrap64 ((bt274.1.size : Int) + 1))).bind fun bt286 => (if 0 ≤ bt286.1 then (if bt286.1 ≤ (bt274.1.size : Int) then (some (bt274.1.extract 0 (bt286.1 : Int).toNat)) else (none)) else (none))) else (if bt276.1 = 2 then ((spec_l1Rd_below.f bt269.1 bt276.2 3).bind fun bt288 => ((spec_l2Chain.f k (wrap64 (100 + bt288.1))).bind fun t290 => (some t290))) else (if bt276.1 = 3 then ((spec_l1Rd_below.f bt269.1 bt276.2 3).bind fun bt291 => (spec_DrawReadTree.l0 k (⟨#[40]⟩ : ByteArray) (wrap64 (1998 + bt291.1)))) else (if bt276.1 = 4 then ((some (([(⟨#[]⟩ : ByteArray), (⟨#[32]⟩ : ByteArray), (⟨#[59, 97]⟩ : ByteArray), (⟨#[97, 32, 98]⟩ : ByteArray), (⟨#[97, 41]⟩ : ByteArray), (⟨#[97, 59, 98]⟩ : ByteArray), (⟨#[40, 97, 59, 41, 10, 41]⟩ : ByteArray), (⟨#[97, 59, 1]⟩ : ByteArray)] : List ByteArray) : List ByteArray)).bind fun y293 => ((spec_l1Rd_below.f bt269.1 bt276.2 8).bind fun bt296 => (if 0 ≤ bt296.1 then (if bt296.1 < (y293.length : Int) then (some (rdOf ByteArray.empty y293 bt296.1)) else (none)) else (none)))) else (if bt276.1 = 5 then (spec_DrawReadTree.l1 k bt274.1 bt269.1 bt276.2) else (some bt274.1))))))))))) = some r := h; clear h; replace H := Option.bind_eq_some_iff.mp H; obtain ⟨⟨t269, t270⟩, A20, H⟩ := H; replace H : ((spec_l1Rd_below.f t269 t270 (mn 5 (wrap64 (1 + (wrap64 ((t269.length : Int) / 8)))))).bind fun bt272 => ((spec_l2Grow.f k t269 bt272.2 (wrap64 (1 + bt272.1))).bind fun bt274 => ((spec_l1Rd_below.f t269 bt274.2 12).bind fun bt276 => (if bt276.1 = 0 then ((spec_l1Rd_below.f t269 bt276.2 (wrap64 ((bt274.1.size : Int) + 1))).bind fun bt278 => (if 0 ≤ bt278.1 then (if bt278.1 ≤ (bt274.1.size : Int) then ((some (([(⟨#[41]⟩ : ByteArray), (⟨#[40]⟩ : ByteArray), (⟨#[32, 98]⟩ : ByteArray), (⟨#[9]⟩ : ByteArray), (⟨#[59]⟩ : ByteArray), (⟨#[10]⟩ : ByteArray)] : List ByteArray) : List ByteArray)).bind fun y280 => ((spec_l1Rd_below.f t269 bt278.2 6).bind fun bt283 => (if 0 ≤ bt283.1 then (if bt283.1 < (y280.length : Int) then (if (bt274.1.extract 0 (bt278.1 : Int).toNat).size + (rdOf ByteArray.empty y280 bt283.1).size ≤ 9223372036854775807 then (if ((bt274.1.extract 0 (bt278.1 : Int).toNat) ++ (rdOf ByteArray.empty y280 bt283.1)).size + (bt274.1.extract (bt278.1 : Int).toNat bt274.1.size).size ≤ 9223372036854775807 then (some (((bt274.1.extract 0 (bt278.1 : Int).toNat) ++ (rdOf ByteArray.empty y280 bt283.1)) ++ (bt274.1.extract (bt278.1 : Int).toNat bt274.1.size))) else (none)) else (none)) else (none)) else (none)))) else (none)) else (none))) else (if bt276.1 = 1 then ((spec_l1Rd_below.f t269 bt276.2 (wrap64 ((bt274.1.size : Int) + 1))).bind fun bt286 => (if 0 ≤ bt286.1 then (if bt286.1 ≤ (bt274.1.size : Int) then (some (bt274.1.extract 0 (bt286.1 : Int).toNat)) else (none)) else (none))) else (if bt276.1 = 2 then ((spec_l1Rd_below.f t269 bt276.2 3).bind fun bt288 => ((spec_l2Chain.f k (wrap64 (100 + bt288.1))).bind fun t290 => (some t290))) else (if bt276.1 = 3 then ((spec_l1Rd_below.f t269 bt276.2 3).bind fun bt291 => (spec_DrawReadTree.l0 k (⟨#[40]⟩ : ByteArray) (wrap64 (1998 + bt291.1)))) else (if bt276.1 = 4 then ((some (([(⟨#[]⟩ : ByteArray), (⟨#[32]⟩ : ByteArray), (⟨#[59, 97]⟩ : ByteArray), (⟨#[97, 32, 98]⟩ : ByteArray), (⟨#[97, 41]⟩ : ByteArray), (⟨#[97, 59, 98]⟩ : ByteArray), (⟨#[40, 97, 59, 41, 10, 41]⟩ : ByteArray), (⟨#[97, 59, 1]⟩ : ByteArray)] : List ByteArray) : List ByteArray)).bind fun y293 => ((spec_l1Rd_below.f t269 bt276.2 8).bind fun bt296 => (if 0 ≤ bt296.1 then (if bt296.1 < (y293.length : Int) then (some (rdOf ByteArray.empty y293 bt296.1)) else (none)) else (none)))) else (if bt276.1 = 5 then (spec_DrawReadTree.l1 k bt274.1 t269 bt276.2) else (some bt274.1)))))))))) = some r := H; have A2 := Aside0.mk A20; clear A20; obtain ⟨ji3, hji3⟩ : ∃ j_ : Int, (mn 5 (wrap64 (1 + (wrap64 ((t269.length : Int) / 8))))) = j_ := ⟨_, rfl⟩
 replace H : ((spec_l1Rd_below.f t269 t270 (ji3)).bind fun bt272 => ((spec_l2Grow.f k t269 bt272.2 (wrap64 (1 + bt272.1))).bind fun bt274 => ((spec_l1Rd_below.f t269 bt274.2 12).bind fun bt276 => (if bt276.1 = 0 then ((spec_l1Rd_below.f t269 bt276.2 (wrap64 ((bt274.1.size : Int) + 1))).bind fun bt278 => (if 0 ≤ bt278.1 then (if bt278.1 ≤ (bt274.1.size : Int) then ((some (([(⟨#[41]⟩ : ByteArray), (⟨#[40]⟩ : ByteArray), (⟨#[32, 98]⟩ : ByteArray), (⟨#[9]⟩ : ByteArray), (⟨#[59]⟩ : ByteArray), (⟨#[10]⟩ : ByteArray)] : List ByteArray) : List ByteArray)).bind fun y280 => ((spec_l1Rd_below.f t269 bt278.2 6).bind fun bt283 => (if 0 ≤ bt283.1 then (if bt283.1 < (y280.length : Int) then (if (bt274.1.extract 0 (bt278.1 : Int).toNat).size + (rdOf ByteArray.empty y280 bt283.1).size ≤ 9223372036854775807 then (if ((bt274.1.extract 0 (bt278.1 : Int).toNat) ++ (rdOf ByteArray.empty y280 bt283.1)).size + (bt274.1.extract (bt278.1 : Int).toNat bt274.1.size).size ≤ 9223372036854775807 then (some (((bt274.1.extract 0 (bt278.1 : Int).toNat) ++ (rdOf ByteArray.empty y280 bt283.1)) ++ (bt274.1.extract (bt278.1 : Int).toNat bt274.1.size))) else (none)) else (none)) else (none)) else (none)))) else (none)) else (none))) else (if bt276.1 = 1 then ((spec_l1Rd_below.f t269 bt276.2 (wrap64 ((bt274.1.size : Int) + 1))).bind fun bt286 => (if 0 ≤ bt286.1 then (if bt286.1 ≤ (bt274.1.size : Int) then (some (bt274.1.extract 0 (bt286.1 : Int).toNat)) else (none)) else (none))) else (if bt276.1 = 2 then ((spec_l1Rd_below.f t269 bt276.2 3).bind fun bt288 => ((spec_l2Chain.f k (wrap64 (100 + bt288.1))).bind fun t290 => (some t290))) else (if bt276.1 = 3 then ((spec_l1Rd_below.f t269 bt276.2 3).bind fun bt291 => (spec_DrawReadTree.l0 k (⟨#[40]⟩ : ByteArray) (wrap64 (1998 + bt291.1)))) else (if bt276.1 = 4 then ((some (([(⟨#[]⟩ : ByteArray), (⟨#[32]⟩ : ByteArray), (⟨#[59, 97]⟩ : ByteArray), (⟨#[97, 32, 98]⟩ : ByteArray), (⟨#[97, 41]⟩ : ByteArray), (⟨#[97, 59, 98]⟩ : ByteArray), (⟨#[40, 97, 59, 41, 10, 41]⟩ : ByteArray), (⟨#[97, 59, 1]⟩ : ByteArray)] : List ByteArray) : List ByteArray)).bind fun y293 => ((spec_l1Rd_below.f t269 bt276.2 8).bind fun bt296 => (if 0 ≤ bt296.1 then (if bt296.1 < (y293.length : Int) then (some (rdOf ByteArray.empty y293 bt296.1)) else (none)) else (none)))) else (if bt276.1 = 5 then (spec_DrawReadTree.l1 k bt274.1 t269 bt276.2) else (some bt274.1)))))))))) = some r := by first | (rw [hji3] at H; exact H) | (simp only [hji3] at H ⊢; exact H)
 (try rw [hji3] at A2)
 (try (have hji3h : ji3 ≤ 5 := by (rw [← hji3]; unfold mn; (repeat' split) <;> omega)))
 (try (have hji3g : ji3 ≤ 64 := by omega))
 have hji3_ : (if (wrap64 (1 + (wrap64 ((t269.length : Int) / 8)))) < 5 then (wrap64 (1 + (wrap64 ((t269.length : Int) / 8)))) else 5) = ji3 := hji3; replace H := Option.bind_eq_some_iff.mp H; obtain ⟨⟨t272, t273⟩, A40, H⟩ := H; replace H : ((spec_l2Grow.f k t269 t273 (wrap64 (1 + t272))).bind fun bt274 => ((spec_l1Rd_below.f t269 bt274.2 12).bind fun bt276 => (if bt276.1 = 0 then ((spec_l1Rd_below.f t269 bt276.2 (wrap64 ((bt274.1.size : Int) + 1))).bind fun bt278 => (if 0 ≤ bt278.1 then (if bt278.1 ≤ (bt274.1.size : Int) then ((some (([(⟨#[41]⟩ : ByteArray), (⟨#[40]⟩ : ByteArray), (⟨#[32, 98]⟩ : ByteArray), (⟨#[9]⟩ : ByteArray), (⟨#[59]⟩ : ByteArray), (⟨#[10]⟩ : ByteArray)] : List ByteArray) : List ByteArray)).bind fun y280 => ((spec_l1Rd_below.f t269 bt278.2 6).bind fun bt283 => (if 0 ≤ bt283.1 then (if bt283.1 < (y280.length : Int) then (if (bt274.1.extract 0 (bt278.1 : Int).toNat).size + (rdOf ByteArray.empty y280 bt283.1).size ≤ 9223372036854775807 then (if ((bt274.1.extract 0 (bt278.1 : Int).toNat) ++ (rdOf ByteArray.empty y280 bt283.1)).size + (bt274.1.extract (bt278.1 : Int).toNat bt274.1.size).size ≤ 9223372036854775807 then (some (((bt274.1.extract 0 (bt278.1 : Int).toNat) ++ (rdOf ByteArray.empty y280 bt283.1)) ++ (bt274.1.extract (bt278.1 : Int).toNat bt274.1.size))) else (none)) else (none)) else (none)) else (none)))) else (none)) else (none))) else (if bt276.1 = 1 then ((spec_l1Rd_below.f t269 bt276.2 (wrap64 ((bt274.1.size : Int) + 1))).bind fun bt286 => (if 0 ≤ bt286.1 then (if bt286.1 ≤ (bt274.1.size : Int) then (some (bt274.1.extract 0 (bt286.1 : Int).toNat)) else (none)) else (none))) else (if bt276.1 = 2 then ((spec_l1Rd_below.f t269 bt276.2 3).bind fun bt288 => ((spec_l2Chain.f k (wrap64 (100 + bt288.1))).bind fun t290 => (some t290))) else (if bt276.1 = 3 then ((spec_l1Rd_below.f t269 bt276.2 3).bind fun bt291 => (spec_DrawReadTree.l0 k (⟨#[40]⟩ : ByteArray) (wrap64 (1998 + bt291.1)))) else (if bt276.1 = 4 then ((some (([(⟨#[]⟩ : ByteArray), (⟨#[32]⟩ : ByteArray), (⟨#[59, 97]⟩ : ByteArray), (⟨#[97, 32, 98]⟩ : ByteArray), (⟨#[97, 41]⟩ : ByteArray), (⟨#[97, 59, 98]⟩ : ByteArray), (⟨#[40, 97, 59, 41, 10, 41]⟩ : ByteArray), (⟨#[97, 59, 1]⟩ : ByteArray)] : List ByteArray) : List ByteArray)).bind fun y293 => ((spec_l1Rd_below.f t269 bt276.2 8).bind fun bt296 => (if 0 ≤ bt296.1 then (if bt296.1 < (y293.length : Int) then (some (rdOf ByteArray.empty y293 bt296.1)) else (none)) else (none)))) else (if bt276.1 = 5 then (spec_DrawReadTree.l1 k bt274.1 t269 bt276.2) else (some bt274.1))))))))) = some r := H; have A4 := Aside0.mk A40; clear A40; replace H := Option.bind_eq_some_iff.mp H; obtain ⟨⟨t274, t275⟩, A50, H⟩ := H; replace H : ((spec_l1Rd_below.f t269 t275 12).bind fun bt276 => (if bt276.1 = 0 then ((spec_l1Rd_below.f t269 bt276.2 (wrap64 ((t274.size : Int) + 1))).bind fun bt278 => (if 0 ≤ bt278.1 then (if bt278.1 ≤ (t274.size : Int) then ((some (([(⟨#[41]⟩ : ByteArray), (⟨#[40]⟩ : ByteArray), (⟨#[32, 98]⟩ : ByteArray), (⟨#[9]⟩ : ByteArray), (⟨#[59]⟩ : ByteArray), (⟨#[10]⟩ : ByteArray)] : List ByteArray) : List ByteArray)).bind fun y280 => ((spec_l1Rd_below.f t269 bt278.2 6).bind fun bt283 => (if 0 ≤ bt283.1 then (if bt283.1 < (y280.length : Int) then (if (t274.extract 0 (bt278.1 : Int).toNat).size + (rdOf ByteArray.empty y280 bt283.1).size ≤ 9223372036854775807 then (if ((t274.extract 0 (bt278.1 : Int).toNat) ++ (rdOf ByteArray.empty y280 bt283.1)).size + (t274.extract (bt278.1 : Int).toNat t274.size).size ≤ 9223372036854775807 then (some (((t274.extract 0 (bt278.1 : Int).toNat) ++ (rdOf ByteArray.empty y280 bt283.1)) ++ (t274.extract (bt278.1 : Int).toNat t274.size))) else (none)) else (none)) else (none)) else (none)))) else (none)) else (none))) else (if bt276.1 = 1 then ((spec_l1Rd_below.f t269 bt276.2 (wrap64 ((t274.size : Int) + 1))).bind fun bt286 => (if 0 ≤ bt286.1 then (if bt286.1 ≤ (t274.size : Int) then (some (t274.extract 0 (bt286.1 : Int).toNat)) else (none)) else (none))) else (if bt276.1 = 2 then ((spec_l1Rd_below.f t269 bt276.2 3).bind fun bt288 => ((spec_l2Chain.f k (wrap64 (100 + bt288.1))).bind fun t290 => (some t290))) else (if bt276.1 = 3 then ((spec_l1Rd_below.f t269 bt276.2 3).bind fun bt291 => (spec_DrawReadTree.l0 k (⟨#[40]⟩ : ByteArray) (wrap64 (1998 + bt291.1)))) else (if bt276.1 = 4 then ((some (([(⟨#[]⟩ : ByteArray), (⟨#[32]⟩ : ByteArray), (⟨#[59, 97]⟩ : ByteArray), (⟨#[97, 32, 98]⟩ : ByteArray), (⟨#[97, 41]⟩ : ByteArray), (⟨#[97, 59, 98]⟩ : ByteArray), (⟨#[40, 97, 59, 41, 10, 41]⟩ : ByteArray), (⟨#[97, 59, 1]⟩ : ByteArray)] : List ByteArray) : List ByteArray)).bind fun y293 => ((spec_l1Rd_below.f t269 bt276.2 8).bind fun bt296 => (if 0 ≤ bt296.1 then (if bt296.1 < (y293.length : Int) then (some (rdOf ByteArray.empty y293 bt296.1)) else (none)) else (none)))) else (if bt276.1 = 5 then (spec_DrawReadTree.l1 k t274 t269 bt276.2) else (some t274)))))))) = some r := H; have A5 := Aside0.mk A50; clear A50; replace H := Option.bind_eq_some_iff.mp H; obtain ⟨⟨t276, t277⟩, A60, H⟩ := H; replace H : (if t276 = 0 then ((spec_l1Rd_below.f t269 t277 (wrap64 ((t274.size : Int) + 1))).bind fun bt278 => (if 0 ≤ bt278.1 then (if bt278.1 ≤ (t274.size : Int) then ((some (([(⟨#[41]⟩ : ByteArray), (⟨#[40]⟩ : ByteArray), (⟨#[32, 98]⟩ : ByteArray), (⟨#[9]⟩ : ByteArray), (⟨#[59]⟩ : ByteArray), (⟨#[10]⟩ : ByteArray)] : List ByteArray) : List ByteArray)).bind fun y280 => ((spec_l1Rd_below.f t269 bt278.2 6).bind fun bt283 => (if 0 ≤ bt283.1 then (if bt283.1 < (y280.length : Int) then (if (t274.extract 0 (bt278.1 : Int).toNat).size + (rdOf ByteArray.empty y280 bt283.1).size ≤ 9223372036854775807 then (if ((t274.extract 0 (bt278.1 : Int).toNat) ++ (rdOf ByteArray.empty y280 bt283.1)).size + (t274.extract (bt278.1 : Int).toNat t274.size).size ≤ 9223372036854775807 then (some (((t274.extract 0 (bt278.1 : Int).toNat) ++ (rdOf ByteArray.empty y280 bt283.1)) ++ (t274.extract (bt278.1 : Int).toNat t274.size))) else (none)) else (none)) else (none)) else (none)))) else (none)) else (none))) else (if t276 = 1 then ((spec_l1Rd_below.f t269 t277 (wrap64 ((t274.size : Int) + 1))).bind fun bt286 => (if 0 ≤ bt286.1 then (if bt286.1 ≤ (t274.size : Int) then (some (t274.extract 0 (bt286.1 : Int).toNat)) else (none)) else (none))) else (if t276 = 2 then ((spec_l1Rd_below.f t269 t277 3).bind fun bt288 => ((spec_l2Chain.f k (wrap64 (100 + bt288.1))).bind fun t290 => (some t290))) else (if t276 = 3 then ((spec_l1Rd_below.f t269 t277 3).bind fun bt291 => (spec_DrawReadTree.l0 k (⟨#[40]⟩ : ByteArray) (wrap64 (1998 + bt291.1)))) else (if t276 = 4 then ((some (([(⟨#[]⟩ : ByteArray), (⟨#[32]⟩ : ByteArray), (⟨#[59, 97]⟩ : ByteArray), (⟨#[97, 32, 98]⟩ : ByteArray), (⟨#[97, 41]⟩ : ByteArray), (⟨#[97, 59, 98]⟩ : ByteArray), (⟨#[40, 97, 59, 41, 10, 41]⟩ : ByteArray), (⟨#[97, 59, 1]⟩ : ByteArray)] : List ByteArray) : List ByteArray)).bind fun y293 => ((spec_l1Rd_below.f t269 t277 8).bind fun bt296 => (if 0 ≤ bt296.1 then (if bt296.1 < (y293.length : Int) then (some (rdOf ByteArray.empty y293 bt296.1)) else (none)) else (none)))) else (if t276 = 5 then (spec_DrawReadTree.l1 k t274 t269 t277) else (some t274))))))) = some r := H; have A6 := Aside0.mk A60; clear A60
 by_cases c7 : t276 = 0
 ·rw [if_pos c7] at H
  have c7b0 : (t276 == 0) = true := beq_iff_eq.mpr c7; have c7b1 : (t276 != 0) = false := bne_eq_false_iff_eq.mpr c7; clear c7; replace H := Option.bind_eq_some_iff.mp H; obtain ⟨⟨t278, t279⟩, A80, H⟩ := H; replace H : (if 0 ≤ t278 then (if t278 ≤ (t274.size : Int) then ((some (([(⟨#[41]⟩ : ByteArray), (⟨#[40]⟩ : ByteArray), (⟨#[32, 98]⟩ : ByteArray), (⟨#[9]⟩ : ByteArray), (⟨#[59]⟩ : ByteArray), (⟨#[10]⟩ : ByteArray)] : List ByteArray) : List ByteArray)).bind fun y280 => ((spec_l1Rd_below.f t269 t279 6).bind fun bt283 => (if 0 ≤ bt283.1 then (if bt283.1 < (y280.length : Int) then (if (t274.extract 0 (t278 : Int).toNat).size + (rdOf ByteArray.empty y280 bt283.1).size ≤ 9223372036854775807 then (if ((t274.extract 0 (t278 : Int).toNat) ++ (rdOf ByteArray.empty y280 bt283.1)).size + (t274.extract (t278 : Int).toNat t274.size).size ≤ 9223372036854775807 then (some (((t274.extract 0 (t278 : Int).toNat) ++ (rdOf ByteArray.empty y280 bt283.1)) ++ (t274.extract (t278 : Int).toNat t274.size))) else (none)) else (none)) else (none)) else (none)))) else (none)) else (none)) = some r := H; have A8 := Aside0.mk A80; clear A80
  by_cases c9 : 0 ≤ t278
  ·rw [if_pos c9] at H
   have c9b0 := eq_true c9; have c9b1 : decide (0 ≤ t278) = true := decide_eq_true c9; clear c9
   by_cases c10 : t278 ≤ (t274.size : Int)
   ·rw [if_pos c10] at H
    have c10b0 := eq_true c10; have c10b1 : decide (t278 ≤ (t274.size : Int)) = true := decide_eq_true c10; clear c10; obtain ⟨y280, hy280⟩ : ∃ y_ : List ByteArray, y_ = (([(⟨#[41]⟩ : ByteArray), (⟨#[40]⟩ : ByteArray), (⟨#[32, 98]⟩ : ByteArray), (⟨#[9]⟩ : ByteArray), (⟨#[59]⟩ : ByteArray), (⟨#[10]⟩ : ByteArray)] : List ByteArray)) := ⟨_, rfl⟩
    replace H : ((spec_l1Rd_below.f t269 t279 6).bind fun bt283 => (if 0 ≤ bt283.1 then (if bt283.1 < (y280.length : Int) then (if (t274.extract 0 (t278 : Int).toNat).size + (rdOf ByteArray.empty y280 bt283.1).size ≤ 9223372036854775807 then (if ((t274.extract 0 (t278 : Int).toNat) ++ (rdOf ByteArray.empty y280 bt283.1)).size + (t274.extract (t278 : Int).toNat t274.size).size ≤ 9223372036854775807 then (some (((t274.extract 0 (t278 : Int).toNat) ++ (rdOf ByteArray.empty y280 bt283.1)) ++ (t274.extract (t278 : Int).toNat t274.size))) else (none)) else (none)) else (none)) else (none))) = some r := by first | (rw [hy280]; with_reducible exact H) | (have H2_ := (Option.bind_some _ _).symm.trans H; rw [hy280]; with_reducible exact H2_) | (have H2_ := (Option.bind_some _ _).symm.trans H; with_reducible exact H2_) | with_reducible exact H | (rw [hy280]; exact H) | exact H
    have Ny280 := Aside0.mk hy280; clear hy280; replace H := Option.bind_eq_some_iff.mp H; obtain ⟨⟨t283, t284⟩, A110, H⟩ := H; replace H : (if 0 ≤ t283 then (if t283 < (y280.length : Int) then (if (t274.extract 0 (t278 : Int).toNat).size + (rdOf ByteArray.empty y280 t283).size ≤ 9223372036854775807 then (if ((t274.extract 0 (t278 : Int).toNat) ++ (rdOf ByteArray.empty y280 t283)).size + (t274.extract (t278 : Int).toNat t274.size).size ≤ 9223372036854775807 then (some (((t274.extract 0 (t278 : Int).toNat) ++ (rdOf ByteArray.empty y280 t283)) ++ (t274.extract (t278 : Int).toNat t274.size))) else (none)) else (none)) else (none)) else (none)) = some r := H; have A11 := Aside0.mk A110; clear A110
    by_cases c12 : 0 ≤ t283
    ·rw [if_pos c12] at H
     have c12b0 : decide (0 ≤ t283) = true := decide_eq_true c12; clear c12
     by_cases c13 : t283 < (y280.length : Int)
     ·rw [if_pos c13] at H
      have c13b0 : decide (t283 < (y280.length : Int)) = true := decide_eq_true c13; clear c13
      by_cases c14 : (t274.extract 0 (t278 : Int).toNat).size + (rdOf ByteArray.empty y280 t283).size ≤ 9223372036854775807
      ·rw [if_pos c14] at H
       have c14b0 := eq_true c14; have c14b1 : decide ((t274.extract 0 (t278 : Int).toNat).size + (rdOf ByteArray.empty y280 t283).size ≤ 9223372036854775807) = true := decide_eq_true c14
       try have c14b2 : (9223372036854775807 < (t274.extract 0 (t278 : Int).toNat).size + (rdOf ByteArray.empty y280 t283).size) = False := eq_false (Nat.not_lt.2 c14)
       have c15b0 := eq_true (ode : 0 ≤ t278); have c16b0 := eq_true (ode : t278 ≤ (t274.size : Int))
       by_cases c17 : ((t274.extract 0 (t278 : Int).toNat) ++ (rdOf ByteArray.empty y280 t283)).size + (t274.extract (t278 : Int).toNat t274.size).size ≤ 9223372036854775807
       ·rw [if_pos c17] at H
        have c17b0 := eq_true c17; have c17b1 : decide (((t274.extract 0 (t278 : Int).toNat) ++ (rdOf ByteArray.empty y280 t283)).size + (t274.extract (t278 : Int).toNat t274.size).size ≤ 9223372036854775807) = true := decide_eq_true c17
        try have c17b2 : (9223372036854775807 < ((t274.extract 0 (t278 : Int).toNat) ++ (rdOf ByteArray.empty y280 t283)).size + (t274.extract (t278 : Int).toNat t274.size).size) = False := eq_false (Nat.not_lt.2 c17)
        obtain rfl := Option.some.inj H
        go_enter Try.func18, Try.ntmps18
        try go_wp2_with (first | ((with_reducible refine gate_callee (f := 36) rfl ?_); refine goesL_ (some 8) rfl rfl Try.func36 (by kernel_rfl) rfl #[.slice A0 l0.length c0] rfl ma ?_; (with_reducible refine (spec_l1Open.calls _ _ l0 t269 t270 w _ ?side1 ?side2 ?side3 A2.out).mono ?_); (case side1 => repeat (first | (with_reducible first | exact HB.out | apply below_alloc | apply pw_below_drewN | apply below_drew1) | exact HB.out)); (case side2 => exact HR0.out); (case side3 => exact HC0.out); rintro e w18 ⟨g271, rfl, hi, hb, hb2⟩; refine ⟨_, rfl, ?_⟩; have n0_ := Aside0.mk (hb); have n1_ := Aside0.mk (hi); clear HB; have HB := n0_; have HI271 := n1_; clear n0_ n1_; (try clear hb); (try clear hb2); (try clear hk); (try clear hi); obtain ⟨ASz19_0, cSz19_0, HGz19, hgz19, HSz19_0⟩ := HI271.out; have hcz19_0 := cellS73_0 HGz19; have hcz19_1 := cellS73_1 HGz19; have hfz19_1 := blk_frozen HGz19 1; clear HGz19 hgz19) | ((with_reducible refine gate_callee (f := 38) rfl ?_); refine goesL_ (some 19) rfl rfl Try.func38 (by kernel_rfl) rfl #[.pointer (some ⟨g271, 0, none⟩), .int .i64 ji3] rfl (by (try simp only [List.map_toArray, List.map_cons, List.map_nil]); first | done | (simp only [hji3]; rfl) | rfl | (simp only [List.length_drop, List.length_take]; rfl)) ?_; (with_reducible refine (spec_l1Rd_below.calls g271 t269 t270 ji3 t272 t273 w _ ?side1 ?side2 A4.out).mono ?_); (case side1 => repeat (first | (with_reducible first | exact HI271.out | apply IsS73.alloc | apply IsS73.drewN | apply IsS73.drew | apply IsS73.set_1) | exact HI271.out)); (case side2 => repeat (first | (with_reducible first | exact HB.out | apply below_alloc | apply pw_below_drewN | apply below_drew1 | refine below_set ?_ (IsS73.ge HI271.out)) | exact HB.out)); rintro e w20 ⟨rfl, hi, hb, hk⟩; refine ⟨_, rfl, ?_⟩; have n0_ := Aside0.mk (hb); have n1_ := Aside0.mk (hi); clear HB; clear HI271; have HB := n0_; have HI271 := n1_; clear n0_ n1_; (try clear hb); (try clear hb2); (try clear hk); (try clear hi)) | ((with_reducible refine gate_callee (f := 37) rfl ?_); refine goesL_ (some 21) rfl rfl Try.func37 (by kernel_rfl) rfl #[.pointer (some ⟨g271, 0, none⟩), .int .i64 (wrap64 (1 + t272))] rfl ma ?_; (with_reducible refine (spec_l2Grow.calls k g271 t269 t273 (wrap64 (1 + t272)) t274 t275 w _ ?side1 ?side2 A5.out).mono ?_); (case side1 => repeat (first | (with_reducible first | exact HI271.out | apply IsS73.alloc | apply IsS73.drewN | apply IsS73.drew | apply IsS73.set_1) | exact HI271.out)); (case side2 => repeat (first | (with_reducible first | exact HB.out | apply below_alloc | apply pw_below_drewN | apply below_drew1 | refine below_set ?_ (IsS73.ge HI271.out)) | exact HB.out)); rintro e w21 ⟨rfl, hi, hb, hk⟩; refine ⟨_, rfl, ?_⟩; have n0_ := Aside0.mk (hb); have n1_ := Aside0.mk (hi); clear HB; clear HI271; have HB := n0_; have HI271 := n1_; clear n0_ n1_; (try clear hb); (try clear hb2); (try clear hk); (try clear hi)) | ((with_reducible refine gate_callee (f := 38) rfl ?_); refine goesL_ (some 23) rfl rfl Try.func38 (by kernel_rfl) rfl #[.pointer (some ⟨g271, 0, none⟩), .int .i64 12] rfl ma ?_; (with_reducible refine (spec_l1Rd_below.calls g271 t269 t275 12 t276 t277 w _ ?side1 ?side2 A6.out).mono ?_); (case side1 => repeat (first | (with_reducible first | exact HI271.out | apply IsS73.alloc | apply IsS73.drewN | apply IsS73.drew | apply IsS73.set_1) | exact HI271.out)); (case side2 => repeat (first | (with_reducible first | exact HB.out | apply below_alloc | apply pw_below_drewN | apply below_drew1 | refine below_set ?_ (IsS73.ge HI271.out)) | exact HB.out)); rintro e w22 ⟨rfl, hi, hb, hk⟩; refine ⟨_, rfl, ?_⟩; have n0_ := Aside0.mk (hb); have n1_ := Aside0.mk (hi); clear HB; clear HI271; have HB := n0_; have HI271 := n1_; clear n0_ n1_; (try clear hb); (try clear hb2); (try clear hk); (try clear hi)) | ((with_reducible refine gate_callee (f := 38) rfl ?_); refine goesL_ (some 30) rfl rfl Try.func38 (by kernel_rfl) rfl #[.pointer (some ⟨g271, 0, none⟩), .int .i64 (wrap64 ((t274.size : Int) + 1))] rfl ma ?_; (with_reducible refine (spec_l1Rd_below.calls g271 t269 t277 (wrap64 ((t274.size : Int) + 1)) t278 t279 w _ ?side1 ?side2 A8.out).mono ?_); (case side1 => repeat (first | (with_reducible first | exact HI271.out | apply IsS73.alloc | apply IsS73.drewN | apply IsS73.drew | apply IsS73.set_1) | exact HI271.out)); (case side2 => repeat (first | (with_reducible first | exact HB.out | apply below_alloc | apply pw_below_drewN | apply below_drew1 | refine below_set ?_ (IsS73.ge HI271.out)) | exact HB.out)); rintro e w23 ⟨rfl, hi, hb, hk⟩; refine ⟨_, rfl, ?_⟩; have n0_ := Aside0.mk (hb); have n1_ := Aside0.mk (hi); clear HB; clear HI271; have HB := n0_; have HI271 := n1_; clear n0_ n1_; (try clear hb); (try clear hb2); (try clear hk); (try clear hi)))
        have pi285 : (0 ≤ (t283 : Int)) = True := eq_true (ode); have qi285 : (t283 < (y280.length : Int)) = True := eq_true (ode); have n0_ := Aside0.mk (IsS73.drew HI271.out); have n1_ := Aside0.mk (below_drew1 HB.out); clear HI271; clear HB; have HI271 := n0_; have HB := n1_; clear n0_ n1_; refine start_ (n := 14) (S := fun w' => True) (ds := []) (tf 0 14) (by kernel_rfl) rfl rfl trivial (fun hHeld => ?_); refine with_tabW spec_DrawReadTree.tab6 spec_DrawReadTree.bits6 (fun HT_ HW_ => ?_); generalize w23.drew = w24 at HI271 HB hHeld ⊢; refine pu HT_ 0 31 13 ?_; refine pu HT_ 1 32 12 ?_; refine pq HT_ 4 35 14 19 ?_; refine pq HT_ 9 40 14 531 ?_; refine pq HT_ 10 41 14 1555 ?_; refine inv_at [2, 3, 5, 6, 7, 8, 11, 12, 13] (fun a0_ b a w' => ∃ (v281 : Value) (adz_v281 : Addr) (m6_ : Value), a = putSel a0_ b [(2, 33, .string (t274.extract 0 (t278 : Int).toNat)), (3, 34, v281), (5, 36, .int .i64 t283), (6, 37, m6_), (7, 38, .string (rdOf ByteArray.empty y280 t283)), (8, 39, .string ((t274.extract 0 (t278 : Int).toNat) ++ (rdOf ByteArray.empty y280 t283))), (11, 42, .string (t274.extract (t278 : Int).toNat t274.size)), (12, 43, .string (((t274.extract 0 (t278 : Int).toNat) ++ (rdOf ByteArray.empty y280 t283)) ++ (t274.extract (t278 : Int).toNat t274.size))), (13, 4, .string (((t274.extract 0 (t278 : Int).toNat) ++ (rdOf ByteArray.empty y280 t283)) ++ (t274.extract (t278 : Int).toNat t274.size)))] ∧ (b 5 = false → IsS73 w w' g271 t269 t279) ∧ (Below w.heap.size w w') ∧ (b 3 = true → Kd.R Kd.string 9 w' w.heap.size (fun _ => True) v281 y280) ∧ (b 3 = true → ∃ c_, (v281 : Value) = .slice (some adz_v281) y280.length c_) ∧ (b 5 = true → IsS73 w w' g271 t269 t284) ∧ (b 6 = true → (m6_ : Value) = .pointer (some (adz_v281.add (t283).toNat)))) HT_.out HW_.out (by kernel_rfl) (by kernel_rfl) ?_ ?_ ?_
        ·exact ⟨.bool false, ⟨0, 0, none⟩, .bool false, by simp only [putSel, Bool.false_eq_true, if_false], fun _ => HI271.out, HB.out, fun h_ => absurd h_ (by decide), fun h_ => absurd h_ (by decide), fun h_ => absurd h_ (by decide), fun h_ => absurd h_ (by decide)⟩
        ·skip
         clear HB HI271; refine steps_cons ?_ ?_
         ·rintro b a w' ⟨v281, adz_v281, m6_, ha, Q_HI271, Q_HB, Q_HO282, Q_HA_HO282, Q_HI271_e5, Q_X6_⟩ hb_ hon hoff
          refine ⟨_, rfl, fun K hK => ?_⟩
          have e31 : a.tmps[31]? = some (.string t274) := by rw [ha]; exact (putSel_off rfl).trans rfl
          have e32 : a.tmps[32]? = some (.int .i64 t278) := by rw [ha]; exact (putSel_off rfl).trans rfl
          replace ha := Aside0.mk ha; have HB := Aside0.mk Q_HB; refine value_ (w1 := w') (v := .string (t274.extract 0 (t278 : Int).toNat)) (by rfl) rfl ?_ ?_
          ·go_simp
           (try simp only [i64_w])
           try rfl
          refine hK.out _ _ ⟨v281, adz_v281, m6_, (by rw [ha.out]; exact putSel_upk 0 hb_ rfl rfl rfl), Q_HI271, Q_HB, Q_HO282, Q_HA_HO282, Q_HI271_e5, Q_X6_⟩
         refine steps_cons ?_ ?_
         ·rintro b a w' ⟨v281, adz_v281, m6_, ha, Q_HI271, Q_HB, Q_HO282, Q_HA_HO282, Q_HI271_e5, Q_X6_⟩ hb_ hon hoff
          refine ⟨_, rfl, fun K hK => ?_⟩; replace ha := Aside0.mk ha; have HB := Aside0.mk Q_HB
          refine Kd.R_lit_step Kd.string _ 9 ?hg (N := 34) ?hd (xs := ([(⟨#[41]⟩ : ByteArray), (⟨#[40]⟩ : ByteArray), (⟨#[32, 98]⟩ : ByteArray), (⟨#[9]⟩ : ByteArray), (⟨#[59]⟩ : ByteArray), (⟨#[10]⟩ : ByteArray)] : List ByteArray)) (inner := [.string (⟨#[41]⟩ : ByteArray), .string (⟨#[40]⟩ : ByteArray), .string (⟨#[32, 98]⟩ : ByteArray), .string (⟨#[9]⟩ : ByteArray), .string (⟨#[59]⟩ : ByteArray), .string (⟨#[10]⟩ : ByteArray)]) (ok := fun _ => True) (okp := fun _ => True) ?hr ?hp (fun _ hk => hk) trivial (Below.refl _ _) (Nat.le_refl _) (by simp) ?_; (case hd => rfl); (case hg => rfl); (case hr => first | (go_simp; done) | (go_simp; rfl)); (case hp => exact (Reps.one (show Kd.M Kd.string _ _ _ (⟨#[41]⟩ : ByteArray) [.string (⟨#[41]⟩ : ByteArray)] from rfl) (Reps.one (show Kd.M Kd.string _ _ _ (⟨#[40]⟩ : ByteArray) [.string (⟨#[40]⟩ : ByteArray)] from rfl) (Reps.one (show Kd.M Kd.string _ _ _ (⟨#[32, 98]⟩ : ByteArray) [.string (⟨#[32, 98]⟩ : ByteArray)] from rfl) (Reps.one (show Kd.M Kd.string _ _ _ (⟨#[9]⟩ : ByteArray) [.string (⟨#[9]⟩ : ByteArray)] from rfl) (Reps.one (show Kd.M Kd.string _ _ _ (⟨#[59]⟩ : ByteArray) [.string (⟨#[59]⟩ : ByteArray)] from rfl) (Reps.one (show Kd.M Kd.string _ _ _ (⟨#[10]⟩ : ByteArray) [.string (⟨#[10]⟩ : ByteArray)] from rfl) (Reps.none _ _))))))))
          intro v281 w25 ho26 hb hg_ hnew_
          clear hg_ hnew_
          (first | rw [← Ny280.out] at ho26 | (simp only [Int.reduceToNat] at ho26; rw [← Ny280.out] at ho26))
          have n0_ := Aside0.mk (Kd.R_lower ho26 (below_size (bl HB))); have n2_ := Aside0.mk (below_step (bl HB) hb)
          have z_HI271 := fun (h0_ : b 5 = false) => (show IsS73 w w25 g271 t269 t279 from by first | exact (IsS73.below (by repeat (first | (with_reducible first | exact (Q_HI271 h0_) | apply IsS73.alloc | apply IsS73.drewN | apply IsS73.drew | apply IsS73.set_1) | exact (Q_HI271 h0_))) hb))
          have z_HI271_e5 := fun (h0_ : b 5 = true) => (show IsS73 w w25 g271 t269 t284 from by first | exact (IsS73.below (by repeat (first | (with_reducible first | exact (Q_HI271_e5 h0_) | apply IsS73.alloc | apply IsS73.drewN | apply IsS73.drew | apply IsS73.set_1) | exact (Q_HI271_e5 h0_))) hb))
          clear HB; have HO282 := n0_; have HB := n2_; clear n0_ n2_; clear hb ho26; obtain ⟨Ao27, co27, eo27⟩ := Kd.R_slice HO282.out
          subst eo27
          obtain ⟨ado27, fo27, _⟩ := Kd.at_string (Kd.R_reads' HO282.out).2.2 0 (by decide) (by rw [Ny280.out]; simp)
          cases fo27
          refine hK.out _ _ ⟨.slice (some ado27) y280.length co27, ado27, m6_, (by rw [ha.out]; exact putSel_upk 1 hb_ rfl rfl rfl), z_HI271, (bl HB), fun _ => (rl HO282), fun _ => ⟨_, rfl⟩, z_HI271_e5, fun h0_ => absurd ((hoff 6 (by kernel_rfl)).symm.trans h0_) (by decide)⟩
         refine steps_cons ?_ ?_
         ·rintro b a w' ⟨v281, adz_v281, m6_, ha, Q_HI271, Q_HB, Q_HO282, Q_HA_HO282, Q_HI271_e5, Q_X6_⟩ hb_ hon hoff
          refine ⟨_, rfl, fun K hK => ?_⟩
          have e35 : a.tmps[35]? = some (.pointer (some ⟨g271, 0, none⟩)) := by rw [ha]; exact (putSel_off rfl).trans rfl
          replace ha := Aside0.mk ha; have HI271 := Aside0.mk (Q_HI271 hb_); have HB := Aside0.mk Q_HB; refine goes_ Try.func38 (by kernel_rfl) rfl #[.pointer (some ⟨g271, 0, none⟩), .int .i64 6] (by rfl) rfl rfl (by first | (simp only [List.map_toArray, List.map_cons, List.map_nil, Act.eval, Array.getD_eq_getD_getElem?, Option.getD_some, e35]; done) | (simp only [List.map_toArray, List.map_cons, List.map_nil, Act.eval, Array.getD_eq_getD_getElem?, Option.getD_some, e35]; rfl)) ?_
          (with_reducible refine (spec_l1Rd_below.calls g271 t269 t279 6 t283 t284 w _ ?side1 ?side2 A11.out).mono ?_); (case side1 => repeat (first | (with_reducible first | exact HI271.out | apply IsS73.alloc | apply IsS73.drewN | apply IsS73.drew | apply IsS73.set_1) | exact HI271.out))
          (case side2 => repeat (first | (with_reducible first | exact HB.out | apply below_alloc | apply pw_below_drewN | apply below_drew1 | refine below_set ?_ (IsS73.ge HI271.out)) | exact HB.out)); rintro e w25 ⟨rfl, hi, hb, hk⟩; refine ⟨_, rfl, ?_⟩; have n0_ := Aside0.mk (hb); have n1_ := Aside0.mk (hi)
          have z_HO282 := fun (h0_ : b 3 = true) => (show Kd.R Kd.string 9 w25 w.heap.size (fun _ => True) v281 y280 from by first | exact (Kd.R_mono (Kd.R_keep (IsS73.apart (show IsS73 w _ g271 t269 t279 from by repeat (first | (with_reducible first | exact HI271.out | apply IsS73.alloc | apply IsS73.drewN | apply IsS73.drew | apply IsS73.set_1) | exact HI271.out)) (by (with_reducible repeat (first | apply Kd.R_alloc | apply Kd.R_drewN | apply Kd.R_drew)); exact (Q_HO282 h0_)) (by decide)) hk (fun _ h => h.2)) (fun _ h => h.1)) | exact Kd.R_mono (Kd.R_mono (Kd.R_keep (IsS73.apart (show IsS73 w _ g271 t269 t279 from by repeat (first | (with_reducible first | exact HI271.out | apply IsS73.alloc | apply IsS73.drewN | apply IsS73.drew | apply IsS73.set_1) | exact HI271.out)) (by (with_reducible repeat (first | apply Kd.R_alloc | apply Kd.R_drewN | apply Kd.R_drew)); exact (Q_HO282 h0_)) (by decide)) hk (fun _ h => h.2)) (fun _ h => h.1)) (fun _ h_ => by first | trivial | exact h_ | exact h_.1))
          clear HB; clear HI271; have HB := n0_; have HI271 := n1_; clear n0_ n1_; (try clear hb)
          (try clear hb2); (try clear hk)
          (try clear hi); refine hK.out _ _ ⟨v281, adz_v281, m6_, (by rw [ha.out]; exact putSel_upk 2 hb_ rfl rfl rfl), fun h0_ => absurd ((up_self b 5).symm.trans h0_) (by decide), (bs HB ⟨IsS73.ge HI271.out⟩), z_HO282, Q_HA_HO282, fun _ => (by repeat (first | (with_reducible first | exact HI271.out | apply IsS73.alloc | apply IsS73.drewN | apply IsS73.drew | apply IsS73.set_1) | exact HI271.out)), fun h0_ => absurd ((hoff 6 (by kernel_rfl)).symm.trans h0_) (by decide)⟩
         refine steps_cons ?_ ?_
         ·rintro b a w' ⟨v281, adz_v281, m6_, ha, Q_HI271, Q_HB, Q_HO282, Q_HA_HO282, Q_HI271_e5, Q_X6_⟩ hb_ hon hoff
          refine ⟨_, rfl, fun K hK => ?_⟩
          have e34 : a.tmps[34]? = some (v281) := by rw [ha]; exact putSel_on (e := (3, 34, v281)) 1 rfl rfl (hon 3 (by kernel_rfl)) rfl
          have e36 : a.tmps[36]? = some (.int .i64 t283) := by rw [ha]; exact putSel_on (e := (5, 36, .int .i64 t283)) 2 rfl rfl (hon 5 (by kernel_rfl)) rfl
          replace ha := Aside0.mk ha; have HB := Aside0.mk Q_HB; have HO282 := Aside0.mk (Q_HO282 (hon 3 (by kernel_rfl))); have HA_HO282 := Aside0.mk (Q_HA_HO282 (hon 3 (by kernel_rfl))); have HI271 := Aside0.mk (Q_HI271_e5 (hon 5 (by kernel_rfl))); obtain ⟨c_, hv_⟩ := HA_HO282.out; rw [hv_] at e34; refine value_ (w1 := w') (v := .pointer (some (adz_v281.add (t283).toNat))) (by rfl) rfl ?_ ?_
          ·go_simp
           (try simp only [i64_w])
           try rfl
          refine hK.out _ _ ⟨v281, adz_v281, (.pointer (some (adz_v281.add (t283).toNat))), (by rw [ha.out]; exact putSel_upk 3 hb_ rfl rfl rfl), fun h0_ => absurd ((hon 5 (by kernel_rfl)).symm.trans h0_) (by decide), Q_HB, Q_HO282, Q_HA_HO282, Q_HI271_e5, fun _ => rfl⟩
         refine steps_cons ?_ ?_
         ·rintro b a w' ⟨v281, adz_v281, m6_, ha, Q_HI271, Q_HB, Q_HO282, Q_HA_HO282, Q_HI271_e5, Q_X6_⟩ hb_ hon hoff
          refine ⟨_, rfl, fun K hK => ?_⟩
          have e37 : a.tmps[37]? = some (m6_) := by rw [ha]; exact putSel_on (e := (6, 37, m6_)) 3 rfl rfl (hon 6 (by kernel_rfl)) rfl
          rw [Q_X6_ (hon 6 (by kernel_rfl))] at e37; replace ha := Aside0.mk ha; have HB := Aside0.mk Q_HB; have HO282 := Aside0.mk (Q_HO282 (hon 3 (by kernel_rfl))); have HA_HO282 := Aside0.mk (Q_HA_HO282 (hon 3 (by kernel_rfl))); have HI271 := Aside0.mk (Q_HI271_e5 (hon 5 (by kernel_rfl))); obtain ⟨c_, hv_⟩ := HA_HO282.out; have hF_ := HO282.out; rw [hv_] at hF_; obtain ⟨ad_, ea_, hx_⟩ := Kd.at_string (Kd.R_reads' hF_).2.2 t283 (of_eq_true pi285) (of_eq_true qi285)
          cases ea_
          refine value_ (w1 := w') (v := .string (rdOf ByteArray.empty y280 t283)) (by rfl) rfl ?_ ?_
          ·go_simp
           (try simp only [i64_w])
           try rfl
          refine hK.out _ _ ⟨v281, adz_v281, m6_, (by rw [ha.out]; exact putSel_upk 4 hb_ rfl rfl rfl), fun h0_ => absurd ((hon 5 (by kernel_rfl)).symm.trans h0_) (by decide), Q_HB, Q_HO282, Q_HA_HO282, Q_HI271_e5, Q_X6_⟩
         refine steps_cons ?_ ?_
         ·rintro b a w' ⟨v281, adz_v281, m6_, ha, Q_HI271, Q_HB, Q_HO282, Q_HA_HO282, Q_HI271_e5, Q_X6_⟩ hb_ hon hoff
          refine ⟨_, rfl, fun K hK => ?_⟩
          have e33 : a.tmps[33]? = some (.string (t274.extract 0 (t278 : Int).toNat)) := by rw [ha]; exact putSel_on (e := (2, 33, .string (t274.extract 0 (t278 : Int).toNat))) 0 rfl rfl (hon 2 (by kernel_rfl)) rfl
          have e38 : a.tmps[38]? = some (.string (rdOf ByteArray.empty y280 t283)) := by rw [ha]; exact putSel_on (e := (7, 38, .string (rdOf ByteArray.empty y280 t283))) 4 rfl rfl (hon 7 (by kernel_rfl)) rfl
          replace ha := Aside0.mk ha; have HB := Aside0.mk Q_HB; have HO282 := Aside0.mk (Q_HO282 (hon 3 (by kernel_rfl))); have HA_HO282 := Aside0.mk (Q_HA_HO282 (hon 3 (by kernel_rfl))); have HI271 := Aside0.mk (Q_HI271_e5 (hon 5 (by kernel_rfl))); refine value_ (w1 := w') (v := .string ((t274.extract 0 (t278 : Int).toNat) ++ (rdOf ByteArray.empty y280 t283))) (by rfl) rfl ?_ ?_
          ·go_simp
           (try simp only [i64_w])
           try rfl
           try ((have hE_ : (t274.extract 0 (t278 : Int).toNat).size = (t278 : Int).toNat := by (rw [ByteArray.size_extract, Nat.sub_zero]; exact Nat.min_eq_left (Int.toNat_le.2 (of_eq_true c10b0)))); have h1_ := c14; (try rw [ByteArray.size_append] at h1_); rw [hE_] at h1_; (try rw [ByteArray.size_extract, Nat.min_self] at h1_); exact h1_)
          refine hK.out _ _ ⟨v281, adz_v281, m6_, (by rw [ha.out]; exact putSel_upk 5 hb_ rfl rfl rfl), fun h0_ => absurd ((hon 5 (by kernel_rfl)).symm.trans h0_) (by decide), Q_HB, Q_HO282, Q_HA_HO282, Q_HI271_e5, Q_X6_⟩
         refine steps_cons ?_ ?_
         ·rintro b a w' ⟨v281, adz_v281, m6_, ha, Q_HI271, Q_HB, Q_HO282, Q_HA_HO282, Q_HI271_e5, Q_X6_⟩ hb_ hon hoff
          refine ⟨_, rfl, fun K hK => ?_⟩
          have e40 : a.tmps[40]? = some (.string t274) := by rw [ha]; exact (putSel_off rfl).trans rfl
          have e41 : a.tmps[41]? = some (.int .i64 t278) := by rw [ha]; exact (putSel_off rfl).trans rfl
          replace ha := Aside0.mk ha; have HB := Aside0.mk Q_HB; refine value_ (w1 := w') (v := .string (t274.extract (t278 : Int).toNat t274.size)) (by rfl) rfl ?_ ?_
          ·go_simp
           (try simp only [i64_w])
           try rfl
          refine hK.out _ _ ⟨v281, adz_v281, m6_, (by rw [ha.out]; exact putSel_upk 6 hb_ rfl rfl rfl), Q_HI271, Q_HB, Q_HO282, Q_HA_HO282, Q_HI271_e5, Q_X6_⟩
         refine steps_cons ?_ ?_
         ·rintro b a w' ⟨v281, adz_v281, m6_, ha, Q_HI271, Q_HB, Q_HO282, Q_HA_HO282, Q_HI271_e5, Q_X6_⟩ hb_ hon hoff
          refine ⟨_, rfl, fun K hK => ?_⟩
          have e39 : a.tmps[39]? = some (.string ((t274.extract 0 (t278 : Int).toNat) ++ (rdOf ByteArray.empty y280 t283))) := by rw [ha]; exact putSel_on (e := (8, 39, .string ((t274.extract 0 (t278 : Int).toNat) ++ (rdOf ByteArray.empty y280 t283)))) 5 rfl rfl (hon 8 (by kernel_rfl)) rfl
          have e42 : a.tmps[42]? = some (.string (t274.extract (t278 : Int).toNat t274.size)) := by rw [ha]; exact putSel_on (e := (11, 42, .string (t274.extract (t278 : Int).toNat t274.size))) 6 rfl rfl (hon 11 (by kernel_rfl)) rfl
          replace ha := Aside0.mk ha; have HB := Aside0.mk Q_HB; have HO282 := Aside0.mk (Q_HO282 (hon 3 (by kernel_rfl))); have HA_HO282 := Aside0.mk (Q_HA_HO282 (hon 3 (by kernel_rfl))); have HI271 := Aside0.mk (Q_HI271_e5 (hon 5 (by kernel_rfl))); refine value_ (w1 := w') (v := .string (((t274.extract 0 (t278 : Int).toNat) ++ (rdOf ByteArray.empty y280 t283)) ++ (t274.extract (t278 : Int).toNat t274.size))) (by rfl) rfl ?_ ?_
          ·go_simp
           (try simp only [i64_w])
           try rfl
           try ((have hE_ : (t274.extract 0 (t278 : Int).toNat).size = (t278 : Int).toNat := by (rw [ByteArray.size_extract, Nat.sub_zero]; exact Nat.min_eq_left (Int.toNat_le.2 (of_eq_true c10b0)))); have h1_ := c17; (try rw [ByteArray.size_append] at h1_); rw [hE_] at h1_; (try rw [ByteArray.size_extract, Nat.min_self] at h1_); exact h1_)
          refine hK.out _ _ ⟨v281, adz_v281, m6_, (by rw [ha.out]; exact putSel_upk 7 hb_ rfl rfl rfl), fun h0_ => absurd ((hon 5 (by kernel_rfl)).symm.trans h0_) (by decide), Q_HB, Q_HO282, Q_HA_HO282, Q_HI271_e5, Q_X6_⟩
         refine steps_cons ?_ ?_
         ·rintro b a w' ⟨v281, adz_v281, m6_, ha, Q_HI271, Q_HB, Q_HO282, Q_HA_HO282, Q_HI271_e5, Q_X6_⟩ hb_ hon hoff
          refine ⟨_, rfl, fun K hK => ?_⟩
          have e43 : a.tmps[43]? = some (.string (((t274.extract 0 (t278 : Int).toNat) ++ (rdOf ByteArray.empty y280 t283)) ++ (t274.extract (t278 : Int).toNat t274.size))) := by rw [ha]; exact putSel_on (e := (12, 43, .string (((t274.extract 0 (t278 : Int).toNat) ++ (rdOf ByteArray.empty y280 t283)) ++ (t274.extract (t278 : Int).toNat t274.size)))) 7 rfl rfl (hon 12 (by kernel_rfl)) rfl
          replace ha := Aside0.mk ha; have HB := Aside0.mk Q_HB; have HO282 := Aside0.mk (Q_HO282 (hon 3 (by kernel_rfl))); have HA_HO282 := Aside0.mk (Q_HA_HO282 (hon 3 (by kernel_rfl))); have HI271 := Aside0.mk (Q_HI271_e5 (hon 5 (by kernel_rfl))); refine value_ (w1 := w') (v := .string (((t274.extract 0 (t278 : Int).toNat) ++ (rdOf ByteArray.empty y280 t283)) ++ (t274.extract (t278 : Int).toNat t274.size))) (by rfl) rfl ?_ ?_
          ·go_simp
           (try simp only [i64_w])
           try rfl
           try ((have hE_ : (t274.extract 0 (t278 : Int).toNat).size = (t278 : Int).toNat := by (rw [ByteArray.size_extract, Nat.sub_zero]; exact Nat.min_eq_left (Int.toNat_le.2 (of_eq_true c10b0)))); have h1_ := c17; (try rw [ByteArray.size_append] at h1_); rw [hE_] at h1_; (try rw [ByteArray.size_extract, Nat.min_self] at h1_); exact h1_)
          refine hK.out _ _ ⟨v281, adz_v281, m6_, (by rw [ha.out]; exact putSel_upk 8 hb_ rfl rfl rfl), fun h0_ => absurd ((hon 5 (by kernel_rfl)).symm.trans h0_) (by decide), Q_HB, Q_HO282, Q_HA_HO282, Q_HI271_e5, Q_X6_⟩
         exact steps_nil
        rintro b a w29 hall ⟨v281, adz_v281, m6_, ha, Q_HI271, Q_HB, Q_HO282, Q_HA_HO282, Q_HI271_e5, Q_X6_⟩; clear HB HI271; have hb2_ := hall 2 (by kernel_rfl); have hb3_ := hall 3 (by kernel_rfl); have hb5_ := hall 5 (by kernel_rfl); have hb6_ := hall 6 (by kernel_rfl); have hb7_ := hall 7 (by kernel_rfl); have hb8_ := hall 8 (by kernel_rfl); have hb11_ := hall 11 (by kernel_rfl); have hb12_ := hall 12 (by kernel_rfl); have hb13_ := hall 13 (by kernel_rfl)
        subst ha
        obtain rfl := Q_X6_ hb6_
        simp only [putSel, hb2_, hb3_, hb5_, hb6_, hb7_, hb8_, hb11_, hb12_, hb13_, if_true, Act.put, List.setIfInBounds_toArray, List.set_cons_zero, List.set_cons_succ]
        clear Q_HI271; have HB := Aside0.mk Q_HB; clear Q_HB; have HO282 := Aside0.mk (Q_HO282 hb3_); clear Q_HO282; have HA_HO282 := Aside0.mk (Q_HA_HO282 hb3_); clear Q_HA_HO282; have HI271 := Aside0.mk (Q_HI271_e5 hb5_); clear Q_HI271_e5; clear hall hb2_ hb3_ hb5_ hb6_ hb7_ hb8_ hb11_ hb12_ hb13_; obtain ⟨co30, eo30⟩ := HA_HO282.out; clear HA_HO282
        subst eo30
        try go_wp2
        go_ret
        exact ⟨by first | rfl | (simp [errW_none, errW_some] <;> rfl) | (simp only [← hji3]; first | rfl | (simp [errW_none, errW_some] <;> rfl)) | (simp [*, errW_none, errW_some] <;> rfl), bs HB ⟨IsS73.ge HI271.out⟩⟩
       ·rw [if_neg c17] at H
        exact absurd H (by simp)
      ·rw [if_neg c14] at H
       exact absurd H (by simp)
     ·rw [if_neg c13] at H
      exact absurd H (by simp)
    ·rw [if_neg c12] at H
     exact absurd H (by simp)
   ·rw [if_neg c10] at H
    exact absurd H (by simp)
  ·rw [if_neg c9] at H
   exact absurd H (by simp)
 ·rw [if_neg c7] at H
  have c7b0 : (t276 == 0) = false := beq_eq_false_iff_ne.mpr c7; have c7b1 : (t276 != 0) = true := bne_iff_ne.mpr c7
  by_cases c31 : t276 = 1
  ·rw [if_pos c31] at H
   have c31b0 : (t276 == 1) = true := beq_iff_eq.mpr c31; have c31b1 : (t276 != 1) = false := bne_eq_false_iff_eq.mpr c31; clear c31; replace H := Option.bind_eq_some_iff.mp H; obtain ⟨⟨t286, t287⟩, A320, H⟩ := H; replace H : (if 0 ≤ t286 then (if t286 ≤ (t274.size : Int) then (some (t274.extract 0 (t286 : Int).toNat)) else (none)) else (none)) = some r := H; have A32 := Aside0.mk A320; clear A320
   by_cases c33 : 0 ≤ t286
   ·rw [if_pos c33] at H
    have c33b0 := eq_true c33; have c33b1 : decide (0 ≤ t286) = true := decide_eq_true c33; clear c33
    by_cases c34 : t286 ≤ (t274.size : Int)
    ·rw [if_pos c34] at H
     have c34b0 := eq_true c34; have c34b1 : decide (t286 ≤ (t274.size : Int)) = true := decide_eq_true c34; clear c34; obtain rfl := Option.some.inj H
     go_enter Try.func18, Try.ntmps18
     go_wp2_with (first | ((with_reducible refine gate_callee (f := 36) rfl ?_); refine goesL_ (some 8) rfl rfl Try.func36 (by kernel_rfl) rfl #[.slice A0 l0.length c0] rfl ma ?_; (with_reducible refine (spec_l1Open.calls _ _ l0 t269 t270 w _ ?side1 ?side2 ?side3 A2.out).mono ?_); (case side1 => repeat (first | (with_reducible first | exact HB.out | apply below_alloc | apply pw_below_drewN | apply below_drew1) | exact HB.out)); (case side2 => exact HR0.out); (case side3 => exact HC0.out); rintro e w35 ⟨g271, rfl, hi, hb, hb2⟩; refine ⟨_, rfl, ?_⟩; have n0_ := Aside0.mk (hb); have n1_ := Aside0.mk (hi); clear HB; have HB := n0_; have HI271 := n1_; clear n0_ n1_; (try clear hb); (try clear hb2); (try clear hk); (try clear hi); obtain ⟨ASz36_0, cSz36_0, HGz36, hgz36, HSz36_0⟩ := HI271.out; have hcz36_0 := cellS73_0 HGz36; have hcz36_1 := cellS73_1 HGz36; have hfz36_1 := blk_frozen HGz36 1; clear HGz36 hgz36) | ((with_reducible refine gate_callee (f := 38) rfl ?_); refine goesL_ (some 19) rfl rfl Try.func38 (by kernel_rfl) rfl #[.pointer (some ⟨g271, 0, none⟩), .int .i64 ji3] rfl (by (try simp only [List.map_toArray, List.map_cons, List.map_nil]); first | done | (simp only [hji3]; rfl) | rfl | (simp only [List.length_drop, List.length_take]; rfl)) ?_; (with_reducible refine (spec_l1Rd_below.calls g271 t269 t270 ji3 t272 t273 w _ ?side1 ?side2 A4.out).mono ?_); (case side1 => repeat (first | (with_reducible first | exact HI271.out | apply IsS73.alloc | apply IsS73.drewN | apply IsS73.drew | apply IsS73.set_1) | exact HI271.out)); (case side2 => repeat (first | (with_reducible first | exact HB.out | apply below_alloc | apply pw_below_drewN | apply below_drew1 | refine below_set ?_ (IsS73.ge HI271.out)) | exact HB.out)); rintro e w37 ⟨rfl, hi, hb, hk⟩; refine ⟨_, rfl, ?_⟩; have n0_ := Aside0.mk (hb); have n1_ := Aside0.mk (hi); clear HB; clear HI271; have HB := n0_; have HI271 := n1_; clear n0_ n1_; (try clear hb); (try clear hb2); (try clear hk); (try clear hi)) | ((with_reducible refine gate_callee (f := 37) rfl ?_); refine goesL_ (some 21) rfl rfl Try.func37 (by kernel_rfl) rfl #[.pointer (some ⟨g271, 0, none⟩), .int .i64 (wrap64 (1 + t272))] rfl ma ?_; (with_reducible refine (spec_l2Grow.calls k g271 t269 t273 (wrap64 (1 + t272)) t274 t275 w _ ?side1 ?side2 A5.out).mono ?_); (case side1 => repeat (first | (with_reducible first | exact HI271.out | apply IsS73.alloc | apply IsS73.drewN | apply IsS73.drew | apply IsS73.set_1) | exact HI271.out)); (case side2 => repeat (first | (with_reducible first | exact HB.out | apply below_alloc | apply pw_below_drewN | apply below_drew1 | refine below_set ?_ (IsS73.ge HI271.out)) | exact HB.out)); rintro e w38 ⟨rfl, hi, hb, hk⟩; refine ⟨_, rfl, ?_⟩; have n0_ := Aside0.mk (hb); have n1_ := Aside0.mk (hi); clear HB; clear HI271; have HB := n0_; have HI271 := n1_; clear n0_ n1_; (try clear hb); (try clear hb2); (try clear hk); (try clear hi)) | ((with_reducible refine gate_callee (f := 38) rfl ?_); refine goesL_ (some 23) rfl rfl Try.func38 (by kernel_rfl) rfl #[.pointer (some ⟨g271, 0, none⟩), .int .i64 12] rfl ma ?_; (with_reducible refine (spec_l1Rd_below.calls g271 t269 t275 12 t276 t277 w _ ?side1 ?side2 A6.out).mono ?_); (case side1 => repeat (first | (with_reducible first | exact HI271.out | apply IsS73.alloc | apply IsS73.drewN | apply IsS73.drew | apply IsS73.set_1) | exact HI271.out)); (case side2 => repeat (first | (with_reducible first | exact HB.out | apply below_alloc | apply pw_below_drewN | apply below_drew1 | refine below_set ?_ (IsS73.ge HI271.out)) | exact HB.out)); rintro e w39 ⟨rfl, hi, hb, hk⟩; refine ⟨_, rfl, ?_⟩; have n0_ := Aside0.mk (hb); have n1_ := Aside0.mk (hi); clear HB; clear HI271; have HB := n0_; have HI271 := n1_; clear n0_ n1_; (try clear hb); (try clear hb2); (try clear hk); (try clear hi)) | ((with_reducible refine gate_callee (f := 38) rfl ?_); refine goesL_ (some 51) rfl rfl Try.func38 (by kernel_rfl) rfl #[.pointer (some ⟨g271, 0, none⟩), .int .i64 (wrap64 ((t274.size : Int) + 1))] rfl ma ?_; (with_reducible refine (spec_l1Rd_below.calls g271 t269 t277 (wrap64 ((t274.size : Int) + 1)) t286 t287 w _ ?side1 ?side2 A32.out).mono ?_); (case side1 => repeat (first | (with_reducible first | exact HI271.out | apply IsS73.alloc | apply IsS73.drewN | apply IsS73.drew | apply IsS73.set_1) | exact HI271.out)); (case side2 => repeat (first | (with_reducible first | exact HB.out | apply below_alloc | apply pw_below_drewN | apply below_drew1 | refine below_set ?_ (IsS73.ge HI271.out)) | exact HB.out)); rintro e w40 ⟨rfl, hi, hb, hk⟩; refine ⟨_, rfl, ?_⟩; have n0_ := Aside0.mk (hb); have n1_ := Aside0.mk (hi); clear HB; clear HI271; have HB := n0_; have HI271 := n1_; clear n0_ n1_; (try clear hb); (try clear hb2); (try clear hk); (try clear hi)))
     go_ret
     exact ⟨by first | rfl | (simp [errW_none, errW_some] <;> rfl) | (simp only [← hji3]; first | rfl | (simp [errW_none, errW_some] <;> rfl)) | (simp [*, errW_none, errW_some] <;> rfl), bs HB ⟨IsS73.ge HI271.out⟩⟩
    ·rw [if_neg c34] at H
     exact absurd H (by simp)
   ·rw [if_neg c33] at H
    exact absurd H (by simp)
  ·rw [if_neg c31] at H
   have c31b0 : (t276 == 1) = false := beq_eq_false_iff_ne.mpr c31; have c31b1 : (t276 != 1) = true := bne_iff_ne.mpr c31
   by_cases c41 : t276 = 2
   ·rw [if_pos c41] at H
    have c41b0 : (t276 == 2) = true := beq_iff_eq.mpr c41; have c41b1 : (t276 != 2) = false := bne_eq_false_iff_eq.mpr c41; clear c41; replace H := Option.bind_eq_some_iff.mp H; obtain ⟨⟨t288, t289⟩, A420, H⟩ := H; replace H : ((spec_l2Chain.f k (wrap64 (100 + t288))).bind fun t290 => (some t290)) = some r := H; have A42 := Aside0.mk A420; clear A420; replace H := Option.bind_eq_some_iff.mp H; obtain ⟨t290, A430, H⟩ := H; replace H : (some t290) = some r := H; have A43 := Aside0.mk A430; clear A430; obtain rfl := Option.some.inj H
    go_enter Try.func18, Try.ntmps18
    go_wp2_with (first | ((with_reducible refine gate_callee (f := 36) rfl ?_); refine goesL_ (some 8) rfl rfl Try.func36 (by kernel_rfl) rfl #[.slice A0 l0.length c0] rfl ma ?_; (with_reducible refine (spec_l1Open.calls _ _ l0 t269 t270 w _ ?side1 ?side2 ?side3 A2.out).mono ?_); (case side1 => repeat (first | (with_reducible first | exact HB.out | apply below_alloc | apply pw_below_drewN | apply below_drew1) | exact HB.out)); (case side2 => exact HR0.out); (case side3 => exact HC0.out); rintro e w44 ⟨g271, rfl, hi, hb, hb2⟩; refine ⟨_, rfl, ?_⟩; have n0_ := Aside0.mk (hb); have n1_ := Aside0.mk (hi); clear HB; have HB := n0_; have HI271 := n1_; clear n0_ n1_; (try clear hb); (try clear hb2); (try clear hk); (try clear hi); obtain ⟨ASz45_0, cSz45_0, HGz45, hgz45, HSz45_0⟩ := HI271.out; have hcz45_0 := cellS73_0 HGz45; have hcz45_1 := cellS73_1 HGz45; have hfz45_1 := blk_frozen HGz45 1; clear HGz45 hgz45) | ((with_reducible refine gate_callee (f := 38) rfl ?_); refine goesL_ (some 19) rfl rfl Try.func38 (by kernel_rfl) rfl #[.pointer (some ⟨g271, 0, none⟩), .int .i64 ji3] rfl (by (try simp only [List.map_toArray, List.map_cons, List.map_nil]); first | done | (simp only [hji3]; rfl) | rfl | (simp only [List.length_drop, List.length_take]; rfl)) ?_; (with_reducible refine (spec_l1Rd_below.calls g271 t269 t270 ji3 t272 t273 w _ ?side1 ?side2 A4.out).mono ?_); (case side1 => repeat (first | (with_reducible first | exact HI271.out | apply IsS73.alloc | apply IsS73.drewN | apply IsS73.drew | apply IsS73.set_1) | exact HI271.out)); (case side2 => repeat (first | (with_reducible first | exact HB.out | apply below_alloc | apply pw_below_drewN | apply below_drew1 | refine below_set ?_ (IsS73.ge HI271.out)) | exact HB.out)); rintro e w46 ⟨rfl, hi, hb, hk⟩; refine ⟨_, rfl, ?_⟩; have n0_ := Aside0.mk (hb); have n1_ := Aside0.mk (hi); clear HB; clear HI271; have HB := n0_; have HI271 := n1_; clear n0_ n1_; (try clear hb); (try clear hb2); (try clear hk); (try clear hi)) | ((with_reducible refine gate_callee (f := 37) rfl ?_); refine goesL_ (some 21) rfl rfl Try.func37 (by kernel_rfl) rfl #[.pointer (some ⟨g271, 0, none⟩), .int .i64 (wrap64 (1 + t272))] rfl ma ?_; (with_reducible refine (spec_l2Grow.calls k g271 t269 t273 (wrap64 (1 + t272)) t274 t275 w _ ?side1 ?side2 A5.out).mono ?_); (case side1 => repeat (first | (with_reducible first | exact HI271.out | apply IsS73.alloc | apply IsS73.drewN | apply IsS73.drew | apply IsS73.set_1) | exact HI271.out)); (case side2 => repeat (first | (with_reducible first | exact HB.out | apply below_alloc | apply pw_below_drewN | apply below_drew1 | refine below_set ?_ (IsS73.ge HI271.out)) | exact HB.out)); rintro e w47 ⟨rfl, hi, hb, hk⟩; refine ⟨_, rfl, ?_⟩; have n0_ := Aside0.mk (hb); have n1_ := Aside0.mk (hi); clear HB; clear HI271; have HB := n0_; have HI271 := n1_; clear n0_ n1_; (try clear hb); (try clear hb2); (try clear hk); (try clear hi)) | ((with_reducible refine gate_callee (f := 38) rfl ?_); refine goesL_ (some 23) rfl rfl Try.func38 (by kernel_rfl) rfl #[.pointer (some ⟨g271, 0, none⟩), .int .i64 12] rfl ma ?_; (with_reducible refine (spec_l1Rd_below.calls g271 t269 t275 12 t276 t277 w _ ?side1 ?side2 A6.out).mono ?_); (case side1 => repeat (first | (with_reducible first | exact HI271.out | apply IsS73.alloc | apply IsS73.drewN | apply IsS73.drew | apply IsS73.set_1) | exact HI271.out)); (case side2 => repeat (first | (with_reducible first | exact HB.out | apply below_alloc | apply pw_below_drewN | apply below_drew1 | refine below_set ?_ (IsS73.ge HI271.out)) | exact HB.out)); rintro e w48 ⟨rfl, hi, hb, hk⟩; refine ⟨_, rfl, ?_⟩; have n0_ := Aside0.mk (hb); have n1_ := Aside0.mk (hi); clear HB; clear HI271; have HB := n0_; have HI271 := n1_; clear n0_ n1_; (try clear hb); (try clear hb2); (try clear hk); (try clear hi)) | ((with_reducible refine gate_callee (f := 38) rfl ?_); refine goesL_ (some 56) rfl rfl Try.func38 (by kernel_rfl) rfl #[.pointer (some ⟨g271, 0, none⟩), .int .i64 3] rfl ma ?_; (with_reducible refine (spec_l1Rd_below.calls g271 t269 t277 3 t288 t289 w _ ?side1 ?side2 A42.out).mono ?_); (case side1 => repeat (first | (with_reducible first | exact HI271.out | apply IsS73.alloc | apply IsS73.drewN | apply IsS73.drew | apply IsS73.set_1) | exact HI271.out)); (case side2 => repeat (first | (with_reducible first | exact HB.out | apply below_alloc | apply pw_below_drewN | apply below_drew1 | refine below_set ?_ (IsS73.ge HI271.out)) | exact HB.out)); rintro e w49 ⟨rfl, hi, hb, hk⟩; refine ⟨_, rfl, ?_⟩; have n0_ := Aside0.mk (hb); have n1_ := Aside0.mk (hi); clear HB; clear HI271; have HB := n0_; have HI271 := n1_; clear n0_ n1_; (try clear hb); (try clear hb2); (try clear hk); (try clear hi)) | ((with_reducible refine gate_callee (f := 39) rfl ?_); refine goesL_ (some 58) rfl rfl Try.func39 (by kernel_rfl) rfl #[.int .i64 (wrap64 (100 + t288))] rfl ma ?_; (with_reducible refine (spec_l2Chain.calls k (wrap64 (100 + t288)) t290 _ A43.out).mono ?_); rintro e w' ⟨rfl, ⟨nd, rfl⟩⟩; refine ⟨_, rfl, ?_⟩))
    go_ret
    exact ⟨by first | rfl | (simp [errW_none, errW_some] <;> rfl) | (simp only [← hji3]; first | rfl | (simp [errW_none, errW_some] <;> rfl)) | (simp [*, errW_none, errW_some] <;> rfl), bs HB ⟨IsS73.ge HI271.out⟩⟩
   ·rw [if_neg c41] at H
    have c41b0 : (t276 == 2) = false := beq_eq_false_iff_ne.mpr c41; have c41b1 : (t276 != 2) = true := bne_iff_ne.mpr c41
    by_cases c50 : t276 = 3
    ·rw [if_pos c50] at H
     have c50b0 : (t276 == 3) = true := beq_iff_eq.mpr c50; have c50b1 : (t276 != 3) = false := bne_eq_false_iff_eq.mpr c50; clear c50; replace H := Option.bind_eq_some_iff.mp H; obtain ⟨⟨t291, t292⟩, A510, H⟩ := H; replace H : (spec_DrawReadTree.l0 k (⟨#[40]⟩ : ByteArray) (wrap64 (1998 + t291))) = some r := H; have A51 := Aside0.mk A510; clear A510; have H' := Aside0.mk H; clear H
     go_enter Try.func18, Try.ntmps18
     go_wp2_with (first | ((with_reducible refine gate_callee (f := 36) rfl ?_); refine goesL_ (some 8) rfl rfl Try.func36 (by kernel_rfl) rfl #[.slice A0 l0.length c0] rfl ma ?_; (with_reducible refine (spec_l1Open.calls _ _ l0 t269 t270 w _ ?side1 ?side2 ?side3 A2.out).mono ?_); (case side1 => repeat (first | (with_reducible first | exact HB.out | apply below_alloc | apply pw_below_drewN | apply below_drew1) | exact HB.out)); (case side2 => exact HR0.out); (case side3 => exact HC0.out); rintro e w52 ⟨g271, rfl, hi, hb, hb2⟩; refine ⟨_, rfl, ?_⟩; have n0_ := Aside0.mk (hb); have n1_ := Aside0.mk (hi); clear HB; have HB := n0_; have HI271 := n1_; clear n0_ n1_; (try clear hb); (try clear hb2); (try clear hk); (try clear hi); obtain ⟨ASz53_0, cSz53_0, HGz53, hgz53, HSz53_0⟩ := HI271.out; have hcz53_0 := cellS73_0 HGz53; have hcz53_1 := cellS73_1 HGz53; have hfz53_1 := blk_frozen HGz53 1; clear HGz53 hgz53) | ((with_reducible refine gate_callee (f := 38) rfl ?_); refine goesL_ (some 19) rfl rfl Try.func38 (by kernel_rfl) rfl #[.pointer (some ⟨g271, 0, none⟩), .int .i64 ji3] rfl (by (try simp only [List.map_toArray, List.map_cons, List.map_nil]); first | done | (simp only [hji3]; rfl) | rfl | (simp only [List.length_drop, List.length_take]; rfl)) ?_; (with_reducible refine (spec_l1Rd_below.calls g271 t269 t270 ji3 t272 t273 w _ ?side1 ?side2 A4.out).mono ?_); (case side1 => repeat (first | (with_reducible first | exact HI271.out | apply IsS73.alloc | apply IsS73.drewN | apply IsS73.drew | apply IsS73.set_1) | exact HI271.out)); (case side2 => repeat (first | (with_reducible first | exact HB.out | apply below_alloc | apply pw_below_drewN | apply below_drew1 | refine below_set ?_ (IsS73.ge HI271.out)) | exact HB.out)); rintro e w54 ⟨rfl, hi, hb, hk⟩; refine ⟨_, rfl, ?_⟩; have n0_ := Aside0.mk (hb); have n1_ := Aside0.mk (hi); clear HB; clear HI271; have HB := n0_; have HI271 := n1_; clear n0_ n1_; (try clear hb); (try clear hb2); (try clear hk); (try clear hi)) | ((with_reducible refine gate_callee (f := 37) rfl ?_); refine goesL_ (some 21) rfl rfl Try.func37 (by kernel_rfl) rfl #[.pointer (some ⟨g271, 0, none⟩), .int .i64 (wrap64 (1 + t272))] rfl ma ?_; (with_reducible refine (spec_l2Grow.calls k g271 t269 t273 (wrap64 (1 + t272)) t274 t275 w _ ?side1 ?side2 A5.out).mono ?_); (case side1 => repeat (first | (with_reducible first | exact HI271.out | apply IsS73.alloc | apply IsS73.drewN | apply IsS73.drew | apply IsS73.set_1) | exact HI271.out)); (case side2 => repeat (first | (with_reducible first | exact HB.out | apply below_alloc | apply pw_below_drewN | apply below_drew1 | refine below_set ?_ (IsS73.ge HI271.out)) | exact HB.out)); rintro e w55 ⟨rfl, hi, hb, hk⟩; refine ⟨_, rfl, ?_⟩; have n0_ := Aside0.mk (hb); have n1_ := Aside0.mk (hi); clear HB; clear HI271; have HB := n0_; have HI271 := n1_; clear n0_ n1_; (try clear hb); (try clear hb2); (try clear hk); (try clear hi)) | ((with_reducible refine gate_callee (f := 38) rfl ?_); refine goesL_ (some 23) rfl rfl Try.func38 (by kernel_rfl) rfl #[.pointer (some ⟨g271, 0, none⟩), .int .i64 12] rfl ma ?_; (with_reducible refine (spec_l1Rd_below.calls g271 t269 t275 12 t276 t277 w _ ?side1 ?side2 A6.out).mono ?_); (case side1 => repeat (first | (with_reducible first | exact HI271.out | apply IsS73.alloc | apply IsS73.drewN | apply IsS73.drew | apply IsS73.set_1) | exact HI271.out)); (case side2 => repeat (first | (with_reducible first | exact HB.out | apply below_alloc | apply pw_below_drewN | apply below_drew1 | refine below_set ?_ (IsS73.ge HI271.out)) | exact HB.out)); rintro e w56 ⟨rfl, hi, hb, hk⟩; refine ⟨_, rfl, ?_⟩; have n0_ := Aside0.mk (hb); have n1_ := Aside0.mk (hi); clear HB; clear HI271; have HB := n0_; have HI271 := n1_; clear n0_ n1_; (try clear hb); (try clear hb2); (try clear hk); (try clear hi)) | ((with_reducible refine gate_callee (f := 38) rfl ?_); refine goesL_ (some 62) rfl rfl Try.func38 (by kernel_rfl) rfl #[.pointer (some ⟨g271, 0, none⟩), .int .i64 3] rfl ma ?_; (with_reducible refine (spec_l1Rd_below.calls g271 t269 t277 3 t291 t292 w _ ?side1 ?side2 A51.out).mono ?_); (case side1 => repeat (first | (with_reducible first | exact HI271.out | apply IsS73.alloc | apply IsS73.drewN | apply IsS73.drew | apply IsS73.set_1) | exact HI271.out)); (case side2 => repeat (first | (with_reducible first | exact HB.out | apply below_alloc | apply pw_below_drewN | apply below_drew1 | refine below_set ?_ (IsS73.ge HI271.out)) | exact HB.out)); rintro e w57 ⟨rfl, hi, hb, hk⟩; refine ⟨_, rfl, ?_⟩; have n0_ := Aside0.mk (hb); have n1_ := Aside0.mk (hi); clear HB; clear HI271; have HB := n0_; have HI271 := n1_; clear n0_ n1_; (try clear hb); (try clear hb2); (try clear hk); (try clear hi)))
     go_loopg [4, 6] k (fun kq v4 v6 w' => ∃ (x4_1 : ByteArray) (x6_1 : Int), v4 = .string x4_1 ∧ v6 = .int .i64 x6_1 ∧ Aside0 (spec_DrawReadTree.l0 kq x4_1 x6_1 = some r) ∧ Aside0 (kq ≤ k) ∧ Aside0 (Below w.heap.size w w'))
     case atStart => exact ⟨((⟨#[40]⟩ : ByteArray)), (wrap64 (1998 + t291)), au, au, H', ⟨Nat.le_refl _⟩, ⟨bs HB ⟨IsS73.ge HI271.out⟩⟩⟩
     case round =>
      clear H'
      try clear c1
      try clear p2
      try clear qi2
      try clear c3
      try clear c4
      try clear c5
      try clear p6
      try clear c7
      try clear c7b0
      try clear c7b1
      try clear c9
      try clear c9b0
      try clear c9b1
      try clear c10
      try clear c10b0
      try clear c10b1
      try clear c12
      try clear c12b0
      try clear c13
      try clear c13b0
      try clear c14
      try clear c14b0
      try clear c14b1
      try clear c14b2
      try clear c15
      try clear c15b0
      try clear c16
      try clear c16b0
      try clear c17
      try clear c17b0
      try clear c17b1
      try clear c17b2
      try clear c18
      try clear qi28
      try clear c31
      try clear c31b0
      try clear c31b1
      try clear c33
      try clear c33b0
      try clear c33b1
      try clear c34
      try clear c34b0
      try clear c34b1
      try clear c36
      try clear c37
      try clear c38
      try clear c39
      try clear c41
      try clear c41b0
      try clear c41b1
      try clear c50
      try clear c50b0
      try clear c50b1
      try clear hcz19_0
      try clear hcz19_1
      try clear hcz36_0
      try clear hcz36_1
      try clear hcz45_0
      try clear hcz45_1
      try clear hcz53_0
      try clear hcz53_1
      try clear hfz19_1
      try clear hfz36_1
      try clear hfz45_1
      try clear hfz53_1
      obtain ⟨x4_1, x6_1, rfl, rfl, HA, HK1, HB⟩ := hrel
      cases gk with
      | zero => exact absurd HA.out (by simp [spec_DrawReadTree.l0])
      | succ k1 =>
       have H := HA.out; clear HA
       simp only [spec_DrawReadTree.l0] at H
       by_cases c58 : x6_1 > 0
       ·rw [if_pos c58] at H
        have c58b0 : decide (0 < x6_1) = true := decide_eq_true c58; clear c58
        by_cases c59 : x4_1.size + 2 ≤ 9223372036854775807
        ·rw [if_pos c59] at H
         have c59b0 := eq_true c59; have c59b1 : decide (x4_1.size + 2 ≤ 9223372036854775807) = true := decide_eq_true c59
         try have c59b2 : (9223372036854775807 < x4_1.size + 2) = False := eq_false (Nat.not_lt.2 c59)
         have H' := Aside0.mk H; clear H
         go_wp2
         go_roundg k1
         case measure => have := HK1.out; omega
         case rel => exact ⟨(x4_1 ++ (⟨#[97, 32]⟩ : ByteArray)), (wrap64 (x6_1 - 1)), au, au, H', ⟨by have := HK1.out; omega⟩, ⟨bl HB⟩⟩
        ·rw [if_neg c59] at H
         exact absurd H (by simp)
       ·rw [if_neg c58] at H
        have c58b0 : decide (0 < x6_1) = false := decide_eq_false c58; clear c58
        by_cases c60 : x4_1.size + 1 ≤ 9223372036854775807
        ·rw [if_pos c60] at H
         have c60b0 := eq_true c60; have c60b1 : decide (x4_1.size + 1 ≤ 9223372036854775807) = true := decide_eq_true c60
         try have c60b2 : (9223372036854775807 < x4_1.size + 1) = False := eq_false (Nat.not_lt.2 c60)
         obtain rfl := Option.some.inj H
         go_wp2
         go_ret
         exact ⟨by first | rfl | (simp [errW_none, errW_some] <;> rfl) | (simp only [← hji3]; first | rfl | (simp [errW_none, errW_some] <;> rfl)) | (simp [*, errW_none, errW_some] <;> rfl), bl HB⟩
        ·rw [if_neg c60] at H
         exact absurd H (by simp)
    ·rw [if_neg c50] at H
     have c50b0 : (t276 == 3) = false := beq_eq_false_iff_ne.mpr c50; have c50b1 : (t276 != 3) = true := bne_iff_ne.mpr c50
     by_cases c61 : t276 = 4
     ·rw [if_pos c61] at H
      have c61b0 : (t276 == 4) = true := beq_iff_eq.mpr c61; have c61b1 : (t276 != 4) = false := bne_eq_false_iff_eq.mpr c61; clear c61; obtain ⟨y293, hy293⟩ : ∃ y_ : List ByteArray, y_ = (([(⟨#[]⟩ : ByteArray), (⟨#[32]⟩ : ByteArray), (⟨#[59, 97]⟩ : ByteArray), (⟨#[97, 32, 98]⟩ : ByteArray), (⟨#[97, 41]⟩ : ByteArray), (⟨#[97, 59, 98]⟩ : ByteArray), (⟨#[40, 97, 59, 41, 10, 41]⟩ : ByteArray), (⟨#[97, 59, 1]⟩ : ByteArray)] : List ByteArray)) := ⟨_, rfl⟩
      replace H : ((spec_l1Rd_below.f t269 t277 8).bind fun bt296 => (if 0 ≤ bt296.1 then (if bt296.1 < (y293.length : Int) then (some (rdOf ByteArray.empty y293 bt296.1)) else (none)) else (none))) = some r := by first | (rw [hy293]; with_reducible exact H) | (have H2_ := (Option.bind_some _ _).symm.trans H; rw [hy293]; with_reducible exact H2_) | (have H2_ := (Option.bind_some _ _).symm.trans H; with_reducible exact H2_) | with_reducible exact H | (rw [hy293]; exact H) | exact H
      have Ny293 := Aside0.mk hy293; clear hy293; replace H := Option.bind_eq_some_iff.mp H; obtain ⟨⟨t296, t297⟩, A620, H⟩ := H; replace H : (if 0 ≤ t296 then (if t296 < (y293.length : Int) then (some (rdOf ByteArray.empty y293 t296)) else (none)) else (none)) = some r := H; have A62 := Aside0.mk A620; clear A620
      by_cases c63 : 0 ≤ t296
      ·rw [if_pos c63] at H
       have c63b0 : decide (0 ≤ t296) = true := decide_eq_true c63; clear c63
       by_cases c64 : t296 < (y293.length : Int)
       ·rw [if_pos c64] at H
        have c64b0 : decide (t296 < (y293.length : Int)) = true := decide_eq_true c64; clear c64; obtain rfl := Option.some.inj H
        go_enter Try.func18, Try.ntmps18
        go_wp2_with (first | ((with_reducible refine gate_callee (f := 36) rfl ?_); refine goesL_ (some 8) rfl rfl Try.func36 (by kernel_rfl) rfl #[.slice A0 l0.length c0] rfl ma ?_; (with_reducible refine (spec_l1Open.calls _ _ l0 t269 t270 w _ ?side1 ?side2 ?side3 A2.out).mono ?_); (case side1 => repeat (first | (with_reducible first | exact HB.out | apply below_alloc | apply pw_below_drewN | apply below_drew1) | exact HB.out)); (case side2 => exact HR0.out); (case side3 => exact HC0.out); rintro e w65 ⟨g271, rfl, hi, hb, hb2⟩; refine ⟨_, rfl, ?_⟩; have n0_ := Aside0.mk (hb); have n1_ := Aside0.mk (hi); clear HB; have HB := n0_; have HI271 := n1_; clear n0_ n1_; (try clear hb); (try clear hb2); (try clear hk); (try clear hi); obtain ⟨ASz66_0, cSz66_0, HGz66, hgz66, HSz66_0⟩ := HI271.out; have hcz66_0 := cellS73_0 HGz66; have hcz66_1 := cellS73_1 HGz66; have hfz66_1 := blk_frozen HGz66 1; clear HGz66 hgz66) | ((with_reducible refine gate_callee (f := 38) rfl ?_); refine goesL_ (some 19) rfl rfl Try.func38 (by kernel_rfl) rfl #[.pointer (some ⟨g271, 0, none⟩), .int .i64 ji3] rfl (by (try simp only [List.map_toArray, List.map_cons, List.map_nil]); first | done | (simp only [hji3]; rfl) | rfl | (simp only [List.length_drop, List.length_take]; rfl)) ?_; (with_reducible refine (spec_l1Rd_below.calls g271 t269 t270 ji3 t272 t273 w _ ?side1 ?side2 A4.out).mono ?_); (case side1 => repeat (first | (with_reducible first | exact HI271.out | apply IsS73.alloc | apply IsS73.drewN | apply IsS73.drew | apply IsS73.set_1) | exact HI271.out)); (case side2 => repeat (first | (with_reducible first | exact HB.out | apply below_alloc | apply pw_below_drewN | apply below_drew1 | refine below_set ?_ (IsS73.ge HI271.out)) | exact HB.out)); rintro e w67 ⟨rfl, hi, hb, hk⟩; refine ⟨_, rfl, ?_⟩; have n0_ := Aside0.mk (hb); have n1_ := Aside0.mk (hi); clear HB; clear HI271; have HB := n0_; have HI271 := n1_; clear n0_ n1_; (try clear hb); (try clear hb2); (try clear hk); (try clear hi)) | ((with_reducible refine gate_callee (f := 37) rfl ?_); refine goesL_ (some 21) rfl rfl Try.func37 (by kernel_rfl) rfl #[.pointer (some ⟨g271, 0, none⟩), .int .i64 (wrap64 (1 + t272))] rfl ma ?_; (with_reducible refine (spec_l2Grow.calls k g271 t269 t273 (wrap64 (1 + t272)) t274 t275 w _ ?side1 ?side2 A5.out).mono ?_); (case side1 => repeat (first | (with_reducible first | exact HI271.out | apply IsS73.alloc | apply IsS73.drewN | apply IsS73.drew | apply IsS73.set_1) | exact HI271.out)); (case side2 => repeat (first | (with_reducible first | exact HB.out | apply below_alloc | apply pw_below_drewN | apply below_drew1 | refine below_set ?_ (IsS73.ge HI271.out)) | exact HB.out)); rintro e w68 ⟨rfl, hi, hb, hk⟩; refine ⟨_, rfl, ?_⟩; have n0_ := Aside0.mk (hb); have n1_ := Aside0.mk (hi); clear HB; clear HI271; have HB := n0_; have HI271 := n1_; clear n0_ n1_; (try clear hb); (try clear hb2); (try clear hk); (try clear hi)) | ((with_reducible refine gate_callee (f := 38) rfl ?_); refine goesL_ (some 23) rfl rfl Try.func38 (by kernel_rfl) rfl #[.pointer (some ⟨g271, 0, none⟩), .int .i64 12] rfl ma ?_; (with_reducible refine (spec_l1Rd_below.calls g271 t269 t275 12 t276 t277 w _ ?side1 ?side2 A6.out).mono ?_); (case side1 => repeat (first | (with_reducible first | exact HI271.out | apply IsS73.alloc | apply IsS73.drewN | apply IsS73.drew | apply IsS73.set_1) | exact HI271.out)); (case side2 => repeat (first | (with_reducible first | exact HB.out | apply below_alloc | apply pw_below_drewN | apply below_drew1 | refine below_set ?_ (IsS73.ge HI271.out)) | exact HB.out)); rintro e w69 ⟨rfl, hi, hb, hk⟩; refine ⟨_, rfl, ?_⟩; have n0_ := Aside0.mk (hb); have n1_ := Aside0.mk (hi); clear HB; clear HI271; have HB := n0_; have HI271 := n1_; clear n0_ n1_; (try clear hb); (try clear hb2); (try clear hk); (try clear hi)) | ((with_reducible refine gate_dst (N := 74) rfl ?_); refine Kd.R_lit Kd.string _ 9 ?hg (N := 74) ?hd (xs := ([(⟨#[]⟩ : ByteArray), (⟨#[32]⟩ : ByteArray), (⟨#[59, 97]⟩ : ByteArray), (⟨#[97, 32, 98]⟩ : ByteArray), (⟨#[97, 41]⟩ : ByteArray), (⟨#[97, 59, 98]⟩ : ByteArray), (⟨#[40, 97, 59, 41, 10, 41]⟩ : ByteArray), (⟨#[97, 59, 1]⟩ : ByteArray)] : List ByteArray)) (inner := [.string (⟨#[]⟩ : ByteArray), .string (⟨#[32]⟩ : ByteArray), .string (⟨#[59, 97]⟩ : ByteArray), .string (⟨#[97, 32, 98]⟩ : ByteArray), .string (⟨#[97, 41]⟩ : ByteArray), .string (⟨#[97, 59, 98]⟩ : ByteArray), .string (⟨#[40, 97, 59, 41, 10, 41]⟩ : ByteArray), .string (⟨#[97, 59, 1]⟩ : ByteArray)]) (ok := fun _ => True) (okp := fun _ => True) ?hr ?hp (fun _ hk => hk) trivial (Below.refl _ _) (Nat.le_refl _) (by simp) ?_; (case hd => rfl); (case hg => rfl); (case hr => first | (go_simp; done) | (go_simp; rfl)); (case hp => exact (Reps.one (show Kd.M Kd.string _ _ _ (⟨#[]⟩ : ByteArray) [.string (⟨#[]⟩ : ByteArray)] from rfl) (Reps.one (show Kd.M Kd.string _ _ _ (⟨#[32]⟩ : ByteArray) [.string (⟨#[32]⟩ : ByteArray)] from rfl) (Reps.one (show Kd.M Kd.string _ _ _ (⟨#[59, 97]⟩ : ByteArray) [.string (⟨#[59, 97]⟩ : ByteArray)] from rfl) (Reps.one (show Kd.M Kd.string _ _ _ (⟨#[97, 32, 98]⟩ : ByteArray) [.string (⟨#[97, 32, 98]⟩ : ByteArray)] from rfl) (Reps.one (show Kd.M Kd.string _ _ _ (⟨#[97, 41]⟩ : ByteArray) [.string (⟨#[97, 41]⟩ : ByteArray)] from rfl) (Reps.one (show Kd.M Kd.string _ _ _ (⟨#[97, 59, 98]⟩ : ByteArray) [.string (⟨#[97, 59, 98]⟩ : ByteArray)] from rfl) (Reps.one (show Kd.M Kd.string _ _ _ (⟨#[40, 97, 59, 41, 10, 41]⟩ : ByteArray) [.string (⟨#[40, 97, 59, 41, 10, 41]⟩ : ByteArray)] from rfl) (Reps.one (show Kd.M Kd.string _ _ _ (⟨#[97, 59, 1]⟩ : ByteArray) [.string (⟨#[97, 59, 1]⟩ : ByteArray)] from rfl) (Reps.none _ _)))))))))); intro v294 w70 ho71 hb hg_ hnew_; clear hg_ hnew_; (first | rw [← Ny293.out] at ho71 | (simp only [Int.reduceToNat] at ho71; rw [← Ny293.out] at ho71)); have n0_ := Aside0.mk (Kd.R_lower ho71 (below_size (bs HB ⟨IsS73.ge HI271.out⟩))); have n1_ := Aside0.mk (IsS73.below (by repeat (first | (with_reducible first | exact HI271.out | apply IsS73.alloc | apply IsS73.drewN | apply IsS73.drew | apply IsS73.set_1) | exact HI271.out)) hb); have n2_ := Aside0.mk (below_step (bs HB ⟨IsS73.ge HI271.out⟩) hb); clear HI271; clear HB; have HO295 := n0_; have HI271 := n1_; have HB := n2_; clear n0_ n1_ n2_; clear hb ho71) | ((with_reducible refine gate_callee (f := 38) rfl ?_); refine goesL_ (some 76) rfl rfl Try.func38 (by kernel_rfl) rfl #[.pointer (some ⟨g271, 0, none⟩), .int .i64 8] rfl ma ?_; (with_reducible refine (spec_l1Rd_below.calls g271 t269 t277 8 t296 t297 w _ ?side1 ?side2 A62.out).mono ?_); (case side1 => repeat (first | (with_reducible first | exact HI271.out | apply IsS73.alloc | apply IsS73.drewN | apply IsS73.drew | apply IsS73.set_1) | exact HI271.out)); (case side2 => repeat (first | (with_reducible first | exact HB.out | apply below_alloc | apply pw_below_drewN | apply below_drew1 | refine below_set ?_ (IsS73.ge HI271.out)) | exact HB.out)); rintro e w72 ⟨rfl, hi, hb, hk⟩; refine ⟨_, rfl, ?_⟩; have n0_ := Aside0.mk (Kd.R_mono (Kd.R_keep (IsS73.apart (show IsS73 w _ g271 t269 t277 from by repeat (first | (with_reducible first | exact HI271.out | apply IsS73.alloc | apply IsS73.drewN | apply IsS73.drew | apply IsS73.set_1) | exact HI271.out)) (rl HO295) (by decide)) hk (fun _ h => h.2)) (fun _ h => h.1)); have n1_ := Aside0.mk (hb); have n2_ := Aside0.mk (hi); clear HO295; clear HB; clear HI271; have HO295 := n0_; have HB := n1_; have HI271 := n2_; clear n0_ n1_ n2_; (try clear hb); (try clear hb2); (try clear hk); (try clear hi); obtain ⟨Ao73, co73, eo73⟩ := Kd.R_slice HO295.out; subst eo73; have p298 : 0 ≤ (t296 : Int) := ode; have q298 : t296 < (y293.length : Int) := ode; obtain ⟨ad298, e298, hx298_0⟩ := Kd.at_string (Kd.R_reads' HO295.out).2.2 t296 p298 q298; cases e298; replace p298 := eq_true p298; replace q298 := eq_true q298))
        go_ret
        exact ⟨by first | rfl | (simp [errW_none, errW_some] <;> rfl) | (simp only [← hji3]; first | rfl | (simp [errW_none, errW_some] <;> rfl)) | (simp [*, errW_none, errW_some] <;> rfl), bs HB ⟨IsS73.ge HI271.out⟩⟩
       ·rw [if_neg c64] at H
        exact absurd H (by simp)
      ·rw [if_neg c63] at H
       exact absurd H (by simp)
     ·rw [if_neg c61] at H
      have c61b0 : (t276 == 4) = false := beq_eq_false_iff_ne.mpr c61; have c61b1 : (t276 != 4) = true := bne_iff_ne.mpr c61
      by_cases c74 : t276 = 5
      ·rw [if_pos c74] at H
       have c74b0 : (t276 == 5) = true := beq_iff_eq.mpr c74; have c74b1 : (t276 != 5) = false := bne_eq_false_iff_eq.mpr c74; clear c74; have H' := Aside0.mk H; clear H
       go_enter Try.func18, Try.ntmps18
       go_wp2_with (first | ((with_reducible refine gate_callee (f := 36) rfl ?_); refine goesL_ (some 8) rfl rfl Try.func36 (by kernel_rfl) rfl #[.slice A0 l0.length c0] rfl ma ?_; (with_reducible refine (spec_l1Open.calls _ _ l0 t269 t270 w _ ?side1 ?side2 ?side3 A2.out).mono ?_); (case side1 => repeat (first | (with_reducible first | exact HB.out | apply below_alloc | apply pw_below_drewN | apply below_drew1) | exact HB.out)); (case side2 => exact HR0.out); (case side3 => exact HC0.out); rintro e w75 ⟨g271, rfl, hi, hb, hb2⟩; refine ⟨_, rfl, ?_⟩; have n0_ := Aside0.mk (hb); have n1_ := Aside0.mk (hi); clear HB; have HB := n0_; have HI271 := n1_; clear n0_ n1_; (try clear hb); (try clear hb2); (try clear hk); (try clear hi); obtain ⟨ASz76_0, cSz76_0, HGz76, hgz76, HSz76_0⟩ := HI271.out; have hcz76_0 := cellS73_0 HGz76; have hcz76_1 := cellS73_1 HGz76; have hfz76_1 := blk_frozen HGz76 1; clear HGz76 hgz76) | ((with_reducible refine gate_callee (f := 38) rfl ?_); refine goesL_ (some 19) rfl rfl Try.func38 (by kernel_rfl) rfl #[.pointer (some ⟨g271, 0, none⟩), .int .i64 ji3] rfl (by (try simp only [List.map_toArray, List.map_cons, List.map_nil]); first | done | (simp only [hji3]; rfl) | rfl | (simp only [List.length_drop, List.length_take]; rfl)) ?_; (with_reducible refine (spec_l1Rd_below.calls g271 t269 t270 ji3 t272 t273 w _ ?side1 ?side2 A4.out).mono ?_); (case side1 => repeat (first | (with_reducible first | exact HI271.out | apply IsS73.alloc | apply IsS73.drewN | apply IsS73.drew | apply IsS73.set_1) | exact HI271.out)); (case side2 => repeat (first | (with_reducible first | exact HB.out | apply below_alloc | apply pw_below_drewN | apply below_drew1 | refine below_set ?_ (IsS73.ge HI271.out)) | exact HB.out)); rintro e w77 ⟨rfl, hi, hb, hk⟩; refine ⟨_, rfl, ?_⟩; have n0_ := Aside0.mk (hb); have n1_ := Aside0.mk (hi); clear HB; clear HI271; have HB := n0_; have HI271 := n1_; clear n0_ n1_; (try clear hb); (try clear hb2); (try clear hk); (try clear hi)) | ((with_reducible refine gate_callee (f := 37) rfl ?_); refine goesL_ (some 21) rfl rfl Try.func37 (by kernel_rfl) rfl #[.pointer (some ⟨g271, 0, none⟩), .int .i64 (wrap64 (1 + t272))] rfl ma ?_; (with_reducible refine (spec_l2Grow.calls k g271 t269 t273 (wrap64 (1 + t272)) t274 t275 w _ ?side1 ?side2 A5.out).mono ?_); (case side1 => repeat (first | (with_reducible first | exact HI271.out | apply IsS73.alloc | apply IsS73.drewN | apply IsS73.drew | apply IsS73.set_1) | exact HI271.out)); (case side2 => repeat (first | (with_reducible first | exact HB.out | apply below_alloc | apply pw_below_drewN | apply below_drew1 | refine below_set ?_ (IsS73.ge HI271.out)) | exact HB.out)); rintro e w78 ⟨rfl, hi, hb, hk⟩; refine ⟨_, rfl, ?_⟩; have n0_ := Aside0.mk (hb); have n1_ := Aside0.mk (hi); clear HB; clear HI271; have HB := n0_; have HI271 := n1_; clear n0_ n1_; (try clear hb); (try clear hb2); (try clear hk); (try clear hi)) | ((with_reducible refine gate_callee (f := 38) rfl ?_); refine goesL_ (some 23) rfl rfl Try.func38 (by kernel_rfl) rfl #[.pointer (some ⟨g271, 0, none⟩), .int .i64 12] rfl ma ?_; (with_reducible refine (spec_l1Rd_below.calls g271 t269 t275 12 t276 t277 w _ ?side1 ?side2 A6.out).mono ?_); (case side1 => repeat (first | (with_reducible first | exact HI271.out | apply IsS73.alloc | apply IsS73.drewN | apply IsS73.drew | apply IsS73.set_1) | exact HI271.out)); (case side2 => repeat (first | (with_reducible first | exact HB.out | apply below_alloc | apply pw_below_drewN | apply below_drew1 | refine below_set ?_ (IsS73.ge HI271.out)) | exact HB.out)); rintro e w79 ⟨rfl, hi, hb, hk⟩; refine ⟨_, rfl, ?_⟩; have n0_ := Aside0.mk (hb); have n1_ := Aside0.mk (hi); clear HB; clear HI271; have HB := n0_; have HI271 := n1_; clear n0_ n1_; (try clear hb); (try clear hb2); (try clear hk); (try clear hi)))
       go_loopg [4] k (fun kq v4 w' => ∃ (x4_1 : ByteArray) (x272001_1 : Int), v4 = .string x4_1 ∧ Aside0 (spec_DrawReadTree.l1 kq x4_1 t269 x272001_1 = some r) ∧ Aside0 (kq ≤ k) ∧ Aside0 (IsS73 w w' g271 t269 x272001_1) ∧ Aside0 (Below w.heap.size w w'))
       case atStart => exact ⟨(t274), (t277), au, H', ⟨Nat.le_refl _⟩, ⟨by repeat (first | (with_reducible first | exact HI271.out | apply IsS73.alloc | apply IsS73.drewN | apply IsS73.drew | apply IsS73.set_1) | exact HI271.out)⟩, ⟨bs HB ⟨IsS73.ge HI271.out⟩⟩⟩
       case round =>
        clear H'
        try clear c1
        try clear p2
        try clear q2
        try clear hx2
        try clear qi2
        try clear c3
        try clear c4
        try clear c5
        try clear c6
        try clear p6
        try clear c7
        try clear c7b0
        try clear c7b1
        try clear c9
        try clear c9b0
        try clear c9b1
        try clear c10
        try clear c10b0
        try clear c10b1
        try clear c12
        try clear c12b0
        try clear c13
        try clear c13b0
        try clear c14
        try clear c14b0
        try clear c14b1
        try clear c14b2
        try clear c15
        try clear c15b0
        try clear c16
        try clear c16b0
        try clear c17
        try clear c17b0
        try clear c17b1
        try clear c17b2
        try clear c18
        try clear qi28
        try clear p29
        try clear q29
        try clear hx29
        try clear c31
        try clear c31b0
        try clear c31b1
        try clear c33
        try clear c33b0
        try clear c33b1
        try clear c34
        try clear c34b0
        try clear c34b1
        try clear c36
        try clear c37
        try clear c38
        try clear c39
        try clear c41
        try clear c41b0
        try clear c41b1
        try clear c50
        try clear c50b0
        try clear c50b1
        try clear c58
        try clear c58b0
        try clear c59
        try clear c59b0
        try clear c59b1
        try clear c59b2
        try clear c60
        try clear c60b0
        try clear c60b1
        try clear c60b2
        try clear c61
        try clear c61b0
        try clear c61b1
        try clear c63
        try clear c63b0
        try clear c64
        try clear c64b0
        try clear p64
        try clear c74
        try clear c74b0
        try clear c74b1
        try clear hcz19_0
        try clear hcz19_1
        try clear hcz36_0
        try clear hcz36_1
        try clear hcz45_0
        try clear hcz45_1
        try clear hcz53_0
        try clear hcz53_1
        try clear hcz66_0
        try clear hcz66_1
        try clear hcz76_0
        try clear hcz76_1
        try clear hfz19_1
        try clear hfz36_1
        try clear hfz45_1
        try clear hfz53_1
        try clear hfz66_1
        try clear hfz76_1
        try clear hx298_0
        try clear p2
        try clear p298
        try clear p6
        try clear q298
        obtain ⟨x4_1, x272001_1, rfl, HA, HK1, HI271, HB⟩ := hrel
        cases gk with
        | zero => exact absurd HA.out (by simp [spec_DrawReadTree.l1])
        | succ k1 =>
         have H := HA.out; clear HA
         simp only [spec_DrawReadTree.l1] at H
         replace H := Option.bind_eq_some_iff.mp H; obtain ⟨⟨t299, t300⟩, A800, H⟩ := H; replace H : (if (x4_1.size : Int) < (wrap64 (20000 + t299)) then (if x4_1.size + 50 ≤ 9223372036854775807 then (spec_DrawReadTree.l1 k1 (x4_1 ++ (⟨#[32, 32, 32, 32, 32, 32, 32, 32, 32, 32, 32, 32, 32, 32, 32, 32, 32, 32, 32, 32, 32, 32, 32, 32, 32, 32, 32, 32, 32, 32, 32, 32, 32, 32, 32, 32, 32, 32, 32, 32, 32, 32, 32, 32, 32, 32, 32, 32, 32, 32]⟩ : ByteArray)) t269 t300) else (none)) else (some x4_1)) = some r := H; have A80 := Aside0.mk A800; clear A800
         by_cases c81 : (x4_1.size : Int) < (wrap64 (20000 + t299))
         ·rw [if_pos c81] at H
          have c81b0 : decide ((x4_1.size : Int) < (wrap64 (20000 + t299))) = true := decide_eq_true c81; clear c81
          by_cases c82 : x4_1.size + 50 ≤ 9223372036854775807
          ·rw [if_pos c82] at H
           have c82b0 := eq_true c82; have c82b1 : decide (x4_1.size + 50 ≤ 9223372036854775807) = true := decide_eq_true c82
           try have c82b2 : (9223372036854775807 < x4_1.size + 50) = False := eq_false (Nat.not_lt.2 c82)
           have H' := Aside0.mk H; clear H
           go_wp2_with (first | ((with_reducible refine gate_callee (f := 38) rfl ?_); refine goesL_ (some 84) rfl rfl Try.func38 (by kernel_rfl) rfl #[.pointer (some ⟨g271, 0, none⟩), .int .i64 2] rfl ma ?_; (with_reducible refine (spec_l1Rd_below.calls g271 t269 x272001_1 2 t299 t300 w _ ?side1 ?side2 A80.out).mono ?_); (case side1 => repeat (first | (with_reducible first | exact HI271.out | apply IsS73.alloc | apply IsS73.drewN | apply IsS73.drew | apply IsS73.set_1) | exact HI271.out)); (case side2 => repeat (first | (with_reducible first | exact HB.out | apply below_alloc | apply pw_below_drewN | apply below_drew1 | refine below_set ?_ (IsS73.ge HI271.out)) | exact HB.out)); rintro e w83 ⟨rfl, hi, hb, hk⟩; refine ⟨_, rfl, ?_⟩; have n0_ := Aside0.mk (hb); have n1_ := Aside0.mk (hi); clear HB; clear HI271; have HB := n0_; have HI271 := n1_; clear n0_ n1_; (try clear hb); (try clear hb2); (try clear hk); (try clear hi)))
           go_roundg k1
           case measure => have := HK1.out; omega
           case rel => exact ⟨(x4_1 ++ (⟨#[32, 32, 32, 32, 32, 32, 32, 32, 32, 32, 32, 32, 32, 32, 32, 32, 32, 32, 32, 32, 32, 32, 32, 32, 32, 32, 32, 32, 32, 32, 32, 32, 32, 32, 32, 32, 32, 32, 32, 32, 32, 32, 32, 32, 32, 32, 32, 32, 32, 32]⟩ : ByteArray)), (t300), au, H', ⟨by have := HK1.out; omega⟩, ⟨by repeat (first | (with_reducible first | exact HI271.out | apply IsS73.alloc | apply IsS73.drewN | apply IsS73.drew | apply IsS73.set_1) | exact HI271.out)⟩, ⟨bs HB ⟨IsS73.ge HI271.out⟩⟩⟩
          ·rw [if_neg c82] at H
           exact absurd H (by simp)
         ·rw [if_neg c81] at H
          have c81b0 : decide ((x4_1.size : Int) < (wrap64 (20000 + t299))) = false := decide_eq_false c81; clear c81; obtain rfl := Option.some.inj H
          go_wp2_with (first | ((with_reducible refine gate_callee (f := 38) rfl ?_); refine goesL_ (some 84) rfl rfl Try.func38 (by kernel_rfl) rfl #[.pointer (some ⟨g271, 0, none⟩), .int .i64 2] rfl ma ?_; (with_reducible refine (spec_l1Rd_below.calls g271 t269 x272001_1 2 t299 t300 w _ ?side1 ?side2 A80.out).mono ?_); (case side1 => repeat (first | (with_reducible first | exact HI271.out | apply IsS73.alloc | apply IsS73.drewN | apply IsS73.drew | apply IsS73.set_1) | exact HI271.out)); (case side2 => repeat (first | (with_reducible first | exact HB.out | apply below_alloc | apply pw_below_drewN | apply below_drew1 | refine below_set ?_ (IsS73.ge HI271.out)) | exact HB.out)); rintro e w84 ⟨rfl, hi, hb, hk⟩; refine ⟨_, rfl, ?_⟩; have n0_ := Aside0.mk (hb); have n1_ := Aside0.mk (hi); clear HB; clear HI271; have HB := n0_; have HI271 := n1_; clear n0_ n1_; (try clear hb); (try clear hb2); (try clear hk); (try clear hi)))
          go_ret
          exact ⟨by first | rfl | (simp [errW_none, errW_some] <;> rfl) | (simp only [← hji3]; first | rfl | (simp [errW_none, errW_some] <;> rfl)) | (simp [*, errW_none, errW_some] <;> rfl), bs HB ⟨IsS73.ge HI271.out⟩⟩
      ·rw [if_neg c74] at H
       have c74b0 : (t276 == 5) = false := beq_eq_false_iff_ne.mpr c74; have c74b1 : (t276 != 5) = true := bne_iff_ne.mpr c74; obtain rfl := Option.some.inj H
       go_enter Try.func18, Try.ntmps18
       go_wp2_with (first | ((with_reducible refine gate_callee (f := 36) rfl ?_); refine goesL_ (some 8) rfl rfl Try.func36 (by kernel_rfl) rfl #[.slice A0 l0.length c0] rfl ma ?_; (with_reducible refine (spec_l1Open.calls _ _ l0 t269 t270 w _ ?side1 ?side2 ?side3 A2.out).mono ?_); (case side1 => repeat (first | (with_reducible first | exact HB.out | apply below_alloc | apply pw_below_drewN | apply below_drew1) | exact HB.out)); (case side2 => exact HR0.out); (case side3 => exact HC0.out); rintro e w85 ⟨g271, rfl, hi, hb, hb2⟩; refine ⟨_, rfl, ?_⟩; have n0_ := Aside0.mk (hb); have n1_ := Aside0.mk (hi); clear HB; have HB := n0_; have HI271 := n1_; clear n0_ n1_; (try clear hb); (try clear hb2); (try clear hk); (try clear hi); obtain ⟨ASz86_0, cSz86_0, HGz86, hgz86, HSz86_0⟩ := HI271.out; have hcz86_0 := cellS73_0 HGz86; have hcz86_1 := cellS73_1 HGz86; have hfz86_1 := blk_frozen HGz86 1; clear HGz86 hgz86) | ((with_reducible refine gate_callee (f := 38) rfl ?_); refine goesL_ (some 19) rfl rfl Try.func38 (by kernel_rfl) rfl #[.pointer (some ⟨g271, 0, none⟩), .int .i64 ji3] rfl (by (try simp only [List.map_toArray, List.map_cons, List.map_nil]); first | done | (simp only [hji3]; rfl) | rfl | (simp only [List.length_drop, List.length_take]; rfl)) ?_; (with_reducible refine (spec_l1Rd_below.calls g271 t269 t270 ji3 t272 t273 w _ ?side1 ?side2 A4.out).mono ?_); (case side1 => repeat (first | (with_reducible first | exact HI271.out | apply IsS73.alloc | apply IsS73.drewN | apply IsS73.drew | apply IsS73.set_1) | exact HI271.out)); (case side2 => repeat (first | (with_reducible first | exact HB.out | apply below_alloc | apply pw_below_drewN | apply below_drew1 | refine below_set ?_ (IsS73.ge HI271.out)) | exact HB.out)); rintro e w87 ⟨rfl, hi, hb, hk⟩; refine ⟨_, rfl, ?_⟩; have n0_ := Aside0.mk (hb); have n1_ := Aside0.mk (hi); clear HB; clear HI271; have HB := n0_; have HI271 := n1_; clear n0_ n1_; (try clear hb); (try clear hb2); (try clear hk); (try clear hi)) | ((with_reducible refine gate_callee (f := 37) rfl ?_); refine goesL_ (some 21) rfl rfl Try.func37 (by kernel_rfl) rfl #[.pointer (some ⟨g271, 0, none⟩), .int .i64 (wrap64 (1 + t272))] rfl ma ?_; (with_reducible refine (spec_l2Grow.calls k g271 t269 t273 (wrap64 (1 + t272)) t274 t275 w _ ?side1 ?side2 A5.out).mono ?_); (case side1 => repeat (first | (with_reducible first | exact HI271.out | apply IsS73.alloc | apply IsS73.drewN | apply IsS73.drew | apply IsS73.set_1) | exact HI271.out)); (case side2 => repeat (first | (with_reducible first | exact HB.out | apply below_alloc | apply pw_below_drewN | apply below_drew1 | refine below_set ?_ (IsS73.ge HI271.out)) | exact HB.out)); rintro e w88 ⟨rfl, hi, hb, hk⟩; refine ⟨_, rfl, ?_⟩; have n0_ := Aside0.mk (hb); have n1_ := Aside0.mk (hi); clear HB; clear HI271; have HB := n0_; have HI271 := n1_; clear n0_ n1_; (try clear hb); (try clear hb2); (try clear hk); (try clear hi)) | ((with_reducible refine gate_callee (f := 38) rfl ?_); refine goesL_ (some 23) rfl rfl Try.func38 (by kernel_rfl) rfl #[.pointer (some ⟨g271, 0, none⟩), .int .i64 12] rfl ma ?_; (with_reducible refine (spec_l1Rd_below.calls g271 t269 t275 12 t276 t277 w _ ?side1 ?side2 A6.out).mono ?_); (case side1 => repeat (first | (with_reducible first | exact HI271.out | apply IsS73.alloc | apply IsS73.drewN | apply IsS73.drew | apply IsS73.set_1) | exact HI271.out)); (case side2 => repeat (first | (with_reducible first | exact HB.out | apply below_alloc | apply pw_below_drewN | apply below_drew1 | refine below_set ?_ (IsS73.ge HI271.out)) | exact HB.out)); rintro e w89 ⟨rfl, hi, hb, hk⟩; refine ⟨_, rfl, ?_⟩; have n0_ := Aside0.mk (hb); have n1_ := Aside0.mk (hi); clear HB; clear HI271; have HB := n0_; have HI271 := n1_; clear n0_ n1_; (try clear hb); (try clear hb2); (try clear hk); (try clear hi)))
       go_ret
       exact ⟨by first | rfl | (simp [errW_none, errW_some] <;> rfl) | (simp only [← hji3]; first | rfl | (simp [errW_none, errW_some] <;> rfl)) | (simp [*, errW_none, errW_some] <;> rfl), bs HB ⟨IsS73.ge HI271.out⟩⟩

end Go.Proofs.Ytjjlcmfjmdfedaa.PFnTreeBack
