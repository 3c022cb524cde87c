import Derived.Laws.Bits64b
import Derived.Lib.BitFns
import Derived.Lib.ItoaNum
import Derived.Test.YtjbpchebabhoeaaWMore
import Derived.Test.YtjbpchebabhoeaaBnFaddSums0
import Derived.Test.YtjbpchebabhoeaaBnFaddSums1
section
namespace Go.Proofs.Ytjbpchebabhoeaa.P
open Go.RowKit Go.Proofs.YtjbpchebabhoeaaW.PrintWords Go.Proofs.YtjbpchebabhoeaaW.PrintLast Go.Proofs.YtjbpchebabhoeaaW.PrintMore Go.Proofs.Ytjbpchebabhoeaa.X
attribute [local go_sem] max2_int min2_int max_two min_two max_three min_three max_four min_four
set_option linter.unusedVariables false
set_option linter.unusedSimpArgs false
mutual
def vernierref06_Round.j0 : Nat → Bool → List Int → List Int → Int → Int → Int → Option (Int × Int)
  | 0, _, _, _, _, _, _ => none
  | k + 1, x0, x1, x2, x3, x4, x13 => vernierref06_Round.l0 k x0 x1 x2 x3 x4 x13 0 ([] : List Int) ([] : List Int) 0
def vernierref06_Round.l0 : Nat → Bool → List Int → List Int → Int → Int → Int → Int → List Int → List Int → Int → Option (Int × Int)
  | 0, _, _, _, _, _, _, _, _, _, _ => none
  | k + 1, x0, x1, x2, x3, x4, x13, x14, x15, x16, x17 => if x17 < 9 then (if x17 = 0 then (vernierref06_Round.j2 k x0 x1 x2 x3 x4 x13 x14 x15 x16 x17 true) else (vernierref06_Round.j2 k x0 x1 x2 x3 x4 x13 x14 x15 x16 x17 (decide (x14 ≥ 9007199254740992)))) else (vernierref06_Round.j2 k x0 x1 x2 x3 x4 x13 x14 x15 x16 x17 false)
def vernierref06_Round.j2 : Nat → Bool → List Int → List Int → Int → Int → Int → Int → List Int → List Int → Int → Bool → Option (Int × Int)
  | 0, _, _, _, _, _, _, _, _, _, _, _ => none
  | k + 1, x0, x1, x2, x3, x4, x13, x14, x15, x16, x17, x57 => if x57 = true then (if x17 > 0 then ((vernierref06_shift.f k x1 x2 (wrap64 (x3 - (wrap64 (x13 + 1))))).bind fun bt460 => ((vernierref01_Few.f k bt460.1 bt460.2).bind fun bt466 => (vernierref06_Round.l0 k x0 x1 x2 x3 x4 (wrap64 (x13 + 1)) bt466.1 bt466.2 bt460.2 (wrap64 (x17 + 1))))) else ((vernierref06_shift.f k x1 x2 (wrap64 (x3 - x13))).bind fun bt470 => ((vernierref01_Few.f k bt470.1 bt470.2).bind fun bt476 => (vernierref06_Round.l0 k x0 x1 x2 x3 x4 x13 bt476.1 bt476.2 bt470.2 (wrap64 (x17 + 1)))))) else ((vernierref06_shift.f k x1 x2 (wrap64 (x3 + 1022))).bind fun bt480 => ((vernierref01_Cmp.f k bt480.1 bt480.2).bind fun t486 => ((vernierref01_Shl.f k x15 1).bind fun t487 => ((vernierref01_Cmp.f k t487 x16).bind fun t490 => (if x4 = 1 then (vernierref06_Round.j3 k x0 x4 x13 x14 (decide ((x15.length : Int) > 0)) (decide (t486 < 0)) (decide (t490 ≥ 0))) else (if x4 = 2 then (vernierref06_Round.j3 k x0 x4 x13 x14 (decide ((x15.length : Int) > 0)) (decide (t486 < 0)) false) else (if x4 = 3 then (if (x15.length : Int) > 0 then (vernierref06_Round.j3 k x0 x4 x13 x14 (decide ((x15.length : Int) > 0)) (decide (t486 < 0)) (!x0)) else (vernierref06_Round.j3 k x0 x4 x13 x14 (decide ((x15.length : Int) > 0)) (decide (t486 < 0)) false)) else (if x4 = 4 then (if (x15.length : Int) > 0 then (vernierref06_Round.j3 k x0 x4 x13 x14 (decide ((x15.length : Int) > 0)) (decide (t486 < 0)) x0) else (vernierref06_Round.j3 k x0 x4 x13 x14 (decide ((x15.length : Int) > 0)) (decide (t486 < 0)) false)) else (if t490 > 0 then (vernierref06_Round.j3 k x0 x4 x13 x14 (decide ((x15.length : Int) > 0)) (decide (t486 < 0)) true) else (if t490 = 0 then (vernierref06_Round.j3 k x0 x4 x13 x14 (decide ((x15.length : Int) > 0)) (decide (t486 < 0)) ((Int.tmod x14 2) == 1)) else (vernierref06_Round.j3 k x0 x4 x13 x14 (decide ((x15.length : Int) > 0)) (decide (t486 < 0)) false)))))))))))
def vernierref06_Round.j3 : Nat → Bool → Int → Int → Int → Bool → Bool → Bool → Option (Int × Int)
  | 0, _, _, _, _, _, _, _ => none
  | k + 1, x0, x4, x13, x14, x20, x23, x25 => if x25 = true then (vernierref06_Round.j4 k x0 x4 x13 (IntKind.u64.wrap (x14 + 1)) x20 x23) else (vernierref06_Round.j4 k x0 x4 x13 x14 x20 x23)
def vernierref06_Round.j4 : Nat → Bool → Int → Int → Int → Bool → Bool → Option (Int × Int)
  | 0, _, _, _, _, _, _ => none
  | k + 1, x0, x4, x13, x14, x20, x23 => if x20 = true then (if x23 = true then (vernierref06_Round.j5 k x0 x4 x13 x14 24) else (vernierref06_Round.j5 k x0 x4 x13 x14 16)) else (vernierref06_Round.j5 k x0 x4 x13 x14 0)
def vernierref06_Round.j5 : Nat → Bool → Int → Int → Int → Int → Option (Int × Int)
  | 0, _, _, _, _, _ => none
  | k + 1, x0, x4, x13, x14, x26 => if x14 ≥ 9007199254740992 then (vernierref06_Round.j6 k x0 x4 (wrap64 (x13 + 1)) (IntKind.u64.wrap (Int.tdiv x14 2)) x26) else (vernierref06_Round.j6 k x0 x4 x13 x14 x26)
def vernierref06_Round.j6 : Nat → Bool → Int → Int → Int → Int → Option (Int × Int)
  | 0, _, _, _, _, _ => none
  | k + 1, x0, x4, x13, x14, x26 => if x14 ≥ 4503599627370496 then (vernierref06_Round.j7 k x0 x4 x13 x14 x26 (decide (x13 > 971))) else (vernierref06_Round.j7 k x0 x4 x13 x14 x26 false)
def vernierref06_Round.j7 : Nat → Bool → Int → Int → Int → Int → Bool → Option (Int × Int)
  | 0, _, _, _, _, _, _ => none
  | k + 1, x0, x4, x13, x14, x26, x146 => if x146 = true then ((vernierref06_big.f k x0 x4).bind fun bt491 => (some (bt491.1, bt491.2))) else (if x14 < 4503599627370496 then ((vernierref06_Zero.f x0).bind fun t493 => (some (IntKind.u64.wrap (t493 + x14), x26))) else ((vernierref06_Zero.f x0).bind fun t494 => (some (IntKind.u64.wrap ((IntKind.u64.wrap ((IntKind.u64.wrap (t494 + (IntKind.u64.wrap ((IntKind.u64.wrap (wrap64 (x13 + 1075))) * 4503599627370496)))) + x14)) - 4503599627370496), x26))))
end
def vernierref06_Round.f (k : Nat) (a0 : Bool) (l1 : List Int) (l2 : List Int) (a3 : Int) (a4 : Int) : Option (Int × Int) := (vernierref01_Bits.f k l1).bind fun t450 => ((vernierref01_Bits.f k l2).bind fun t451 => (if (wrap64 ((wrap64 (t450 - t451)) + a3)) > 2000 then ((vernierref06_big.f k a0 a4).bind fun bt452 => (some (bt452.1, bt452.2))) else (if (wrap64 ((wrap64 (t450 - t451)) + a3)) < (-3000) then (vernierref06_Round.j0 k a0 (([1] : List Int)) (([1] : List Int)) (-3000) a4 (-1074)) else (vernierref06_Round.j0 k a0 l1 l2 a3 a4 (mx (wrap64 ((wrap64 ((wrap64 (t450 - t451)) + a3)) - 54)) (-1074))))))
theorem vernierref06_Round.mono_l : ∀ k, (∀ y0 y1 y2 y3 y4 y5, LeO (vernierref06_Round.j0 k y0 y1 y2 y3 y4 y5) (vernierref06_Round.j0 (k + 1) y0 y1 y2 y3 y4 y5)) ∧ (∀ y0 y1 y2 y3 y4 y5 y6 y7 y8 y9, LeO (vernierref06_Round.l0 k y0 y1 y2 y3 y4 y5 y6 y7 y8 y9) (vernierref06_Round.l0 (k + 1) y0 y1 y2 y3 y4 y5 y6 y7 y8 y9)) ∧ (∀ y0 y1 y2 y3 y4 y5 y6 y7 y8 y9 y10, LeO (vernierref06_Round.j2 k y0 y1 y2 y3 y4 y5 y6 y7 y8 y9 y10) (vernierref06_Round.j2 (k + 1) y0 y1 y2 y3 y4 y5 y6 y7 y8 y9 y10)) ∧ (∀ y0 y1 y2 y3 y4 y5 y6, LeO (vernierref06_Round.j3 k y0 y1 y2 y3 y4 y5 y6) (vernierref06_Round.j3 (k + 1) y0 y1 y2 y3 y4 y5 y6)) ∧ (∀ y0 y1 y2 y3 y4 y5, LeO (vernierref06_Round.j4 k y0 y1 y2 y3 y4 y5) (vernierref06_Round.j4 (k + 1) y0 y1 y2 y3 y4 y5)) ∧ (∀ y0 y1 y2 y3 y4, LeO (vernierref06_Round.j5 k y0 y1 y2 y3 y4) (vernierref06_Round.j5 (k + 1) y0 y1 y2 y3 y4)) ∧ (∀ y0 y1 y2 y3 y4, LeO (vernierref06_Round.j6 k y0 y1 y2 y3 y4) (vernierref06_Round.j6 (k + 1) y0 y1 y2 y3 y4)) ∧ (∀ y0 y1 y2 y3 y4 y5, LeO (vernierref06_Round.j7 k y0 y1 y2 y3 y4 y5) (vernierref06_Round.j7 (k + 1) y0 y1 y2 y3 y4 y5))
  | 0 => ⟨fun _ _ _ _ _ _ r h => by simp [vernierref06_Round.j0] at h, fun _ _ _ _ _ _ _ _ _ _ r h => by simp [vernierref06_Round.l0] at h, fun _ _ _ _ _ _ _ _ _ _ _ r h => by simp [vernierref06_Round.j2] at h, fun _ _ _ _ _ _ _ r h => by simp [vernierref06_Round.j3] at h, fun _ _ _ _ _ _ r h => by simp [vernierref06_Round.j4] at h, fun _ _ _ _ _ r h => by simp [vernierref06_Round.j5] at h, fun _ _ _ _ _ r h => by simp [vernierref06_Round.j6] at h, fun _ _ _ _ _ _ r h => by simp [vernierref06_Round.j7] at h⟩
  | k + 1 => by
    obtain ⟨ih0, ih1, ih2, ih3, ih4, ih5, ih6, ih7⟩ := vernierref06_Round.mono_l k
    refine ⟨?_, ?_, ?_, ?_, ?_, ?_, ?_, ?_⟩
    · intro y0 y1 y2 y3 y4 y5
      unfold vernierref06_Round.j0
      repeat' first
      | (with_reducible exact ih0 _ _ _ _ _ _)
      | (with_reducible exact ih1 _ _ _ _ _ _ _ _ _ _)
      | (with_reducible exact ih2 _ _ _ _ _ _ _ _ _ _ _)
      | (with_reducible exact ih3 _ _ _ _ _ _ _)
      | (with_reducible exact ih4 _ _ _ _ _ _)
      | (with_reducible exact ih5 _ _ _ _ _)
      | (with_reducible exact ih6 _ _ _ _ _)
      | (with_reducible exact ih7 _ _ _ _ _ _)
      | (with_reducible exact vernierref01_Bits.mono _ _)
      | (with_reducible exact vernierref01_Cmp.mono _ _ _)
      | (with_reducible exact vernierref01_Few.mono _ _ _)
      | (with_reducible exact vernierref01_Shl.mono _ _ _)
      | (with_reducible exact vernierref06_big.mono _ _ _)
      | (with_reducible exact vernierref06_shift.mono _ _ _ _)
      | (with_reducible exact LeO.refl _)
      | (with_reducible exact LeO.none _)
      | (with_reducible refine LeO.ite ?_ ?_)
      | (with_reducible refine LeO.bind ?_ (fun _ => ?_))
      | exact ih0 _ _ _ _ _ _
      | exact ih1 _ _ _ _ _ _ _ _ _ _
      | exact ih2 _ _ _ _ _ _ _ _ _ _ _
      | exact ih3 _ _ _ _ _ _ _
      | exact ih4 _ _ _ _ _ _
      | exact ih5 _ _ _ _ _
      | exact ih6 _ _ _ _ _
      | exact ih7 _ _ _ _ _ _
      | exact vernierref01_Bits.mono _ _
      | exact vernierref01_Cmp.mono _ _ _
      | exact vernierref01_Few.mono _ _ _
      | exact vernierref01_Shl.mono _ _ _
      | exact vernierref06_big.mono _ _ _
      | exact vernierref06_shift.mono _ _ _ _
      | exact LeO.none _
      | refine LeO.ite ?_ ?_
      | refine LeO.bind ?_ (fun _ => ?_)
    · intro y0 y1 y2 y3 y4 y5 y6 y7 y8 y9
      unfold vernierref06_Round.l0
      repeat' first
      | (with_reducible exact ih0 _ _ _ _ _ _)
      | (with_reducible exact ih1 _ _ _ _ _ _ _ _ _ _)
      | (with_reducible exact ih2 _ _ _ _ _ _ _ _ _ _ _)
      | (with_reducible exact ih3 _ _ _ _ _ _ _)
      | (with_reducible exact ih4 _ _ _ _ _ _)
      | (with_reducible exact ih5 _ _ _ _ _)
      | (with_reducible exact ih6 _ _ _ _ _)
      | (with_reducible exact ih7 _ _ _ _ _ _)
      | (with_reducible exact vernierref01_Bits.mono _ _)
      | (with_reducible exact vernierref01_Cmp.mono _ _ _)
      | (with_reducible exact vernierref01_Few.mono _ _ _)
      | (with_reducible exact vernierref01_Shl.mono _ _ _)
      | (with_reducible exact vernierref06_big.mono _ _ _)
      | (with_reducible exact vernierref06_shift.mono _ _ _ _)
      | (with_reducible exact LeO.refl _)
      | (with_reducible exact LeO.none _)
      | (with_reducible refine LeO.ite ?_ ?_)
      | (with_reducible refine LeO.bind ?_ (fun _ => ?_))
      | exact ih0 _ _ _ _ _ _
      | exact ih1 _ _ _ _ _ _ _ _ _ _
      | exact ih2 _ _ _ _ _ _ _ _ _ _ _
      | exact ih3 _ _ _ _ _ _ _
      | exact ih4 _ _ _ _ _ _
      | exact ih5 _ _ _ _ _
      | exact ih6 _ _ _ _ _
      | exact ih7 _ _ _ _ _ _
      | exact vernierref01_Bits.mono _ _
      | exact vernierref01_Cmp.mono _ _ _
      | exact vernierref01_Few.mono _ _ _
      | exact vernierref01_Shl.mono _ _ _
      | exact vernierref06_big.mono _ _ _
      | exact vernierref06_shift.mono _ _ _ _
      | exact LeO.none _
      | refine LeO.ite ?_ ?_
      | refine LeO.bind ?_ (fun _ => ?_)
    · intro y0 y1 y2 y3 y4 y5 y6 y7 y8 y9 y10
      unfold vernierref06_Round.j2
      repeat' first
      | (with_reducible exact ih0 _ _ _ _ _ _)
      | (with_reducible exact ih1 _ _ _ _ _ _ _ _ _ _)
      | (with_reducible exact ih2 _ _ _ _ _ _ _ _ _ _ _)
      | (with_reducible exact ih3 _ _ _ _ _ _ _)
      | (with_reducible exact ih4 _ _ _ _ _ _)
      | (with_reducible exact ih5 _ _ _ _ _)
      | (with_reducible exact ih6 _ _ _ _ _)
      | (with_reducible exact ih7 _ _ _ _ _ _)
      | (with_reducible exact vernierref01_Bits.mono _ _)
      | (with_reducible exact vernierref01_Cmp.mono _ _ _)
      | (with_reducible exact vernierref01_Few.mono _ _ _)
      | (with_reducible exact vernierref01_Shl.mono _ _ _)
      | (with_reducible exact vernierref06_big.mono _ _ _)
      | (with_reducible exact vernierref06_shift.mono _ _ _ _)
      | (with_reducible exact LeO.refl _)
      | (with_reducible exact LeO.none _)
      | (with_reducible refine LeO.ite ?_ ?_)
      | (with_reducible refine LeO.bind ?_ (fun _ => ?_))
      | exact ih0 _ _ _ _ _ _
      | exact ih1 _ _ _ _ _ _ _ _ _ _
      | exact ih2 _ _ _ _ _ _ _ _ _ _ _
      | exact ih3 _ _ _ _ _ _ _
      | exact ih4 _ _ _ _ _ _
      | exact ih5 _ _ _ _ _
      | exact ih6 _ _ _ _ _
      | exact ih7 _ _ _ _ _ _
      | exact vernierref01_Bits.mono _ _
      | exact vernierref01_Cmp.mono _ _ _
      | exact vernierref01_Few.mono _ _ _
      | exact vernierref01_Shl.mono _ _ _
      | exact vernierref06_big.mono _ _ _
      | exact vernierref06_shift.mono _ _ _ _
      | exact LeO.none _
      | refine LeO.ite ?_ ?_
      | refine LeO.bind ?_ (fun _ => ?_)
    · intro y0 y1 y2 y3 y4 y5 y6
      unfold vernierref06_Round.j3
      repeat' first
      | (with_reducible exact ih0 _ _ _ _ _ _)
      | (with_reducible exact ih1 _ _ _ _ _ _ _ _ _ _)
      | (with_reducible exact ih2 _ _ _ _ _ _ _ _ _ _ _)
      | (with_reducible exact ih3 _ _ _ _ _ _ _)
      | (with_reducible exact ih4 _ _ _ _ _ _)
      | (with_reducible exact ih5 _ _ _ _ _)
      | (with_reducible exact ih6 _ _ _ _ _)
      | (with_reducible exact ih7 _ _ _ _ _ _)
      | (with_reducible exact vernierref01_Bits.mono _ _)
      | (with_reducible exact vernierref01_Cmp.mono _ _ _)
      | (with_reducible exact vernierref01_Few.mono _ _ _)
      | (with_reducible exact vernierref01_Shl.mono _ _ _)
      | (with_reducible exact vernierref06_big.mono _ _ _)
      | (with_reducible exact vernierref06_shift.mono _ _ _ _)
      | (with_reducible exact LeO.refl _)
      | (with_reducible exact LeO.none _)
      | (with_reducible refine LeO.ite ?_ ?_)
      | (with_reducible refine LeO.bind ?_ (fun _ => ?_))
      | exact ih0 _ _ _ _ _ _
      | exact ih1 _ _ _ _ _ _ _ _ _ _
      | exact ih2 _ _ _ _ _ _ _ _ _ _ _
      | exact ih3 _ _ _ _ _ _ _
      | exact ih4 _ _ _ _ _ _
      | exact ih5 _ _ _ _ _
      | exact ih6 _ _ _ _ _
      | exact ih7 _ _ _ _ _ _
      | exact vernierref01_Bits.mono _ _
      | exact vernierref01_Cmp.mono _ _ _
      | exact vernierref01_Few.mono _ _ _
      | exact vernierref01_Shl.mono _ _ _
      | exact vernierref06_big.mono _ _ _
      | exact vernierref06_shift.mono _ _ _ _
      | exact LeO.none _
      | refine LeO.ite ?_ ?_
      | refine LeO.bind ?_ (fun _ => ?_)
    · intro y0 y1 y2 y3 y4 y5
      unfold vernierref06_Round.j4
      repeat' first
      | (with_reducible exact ih0 _ _ _ _ _ _)
      | (with_reducible exact ih1 _ _ _ _ _ _ _ _ _ _)
      | (with_reducible exact ih2 _ _ _ _ _ _ _ _ _ _ _)
      | (with_reducible exact ih3 _ _ _ _ _ _ _)
      | (with_reducible exact ih4 _ _ _ _ _ _)
      | (with_reducible exact ih5 _ _ _ _ _)
      | (with_reducible exact ih6 _ _ _ _ _)
      | (with_reducible exact ih7 _ _ _ _ _ _)
      | (with_reducible exact vernierref01_Bits.mono _ _)
      | (with_reducible exact vernierref01_Cmp.mono _ _ _)
      | (with_reducible exact vernierref01_Few.mono _ _ _)
      | (with_reducible exact vernierref01_Shl.mono _ _ _)
      | (with_reducible exact vernierref06_big.mono _ _ _)
      | (with_reducible exact vernierref06_shift.mono _ _ _ _)
      | (with_reducible exact LeO.refl _)
      | (with_reducible exact LeO.none _)
      | (with_reducible refine LeO.ite ?_ ?_)
      | (with_reducible refine LeO.bind ?_ (fun _ => ?_))
      | exact ih0 _ _ _ _ _ _
      | exact ih1 _ _ _ _ _ _ _ _ _ _
      | exact ih2 _ _ _ _ _ _ _ _ _ _ _
      | exact ih3 _ _ _ _ _ _ _
      | exact ih4 _ _ _ _ _ _
      | exact ih5 _ _ _ _ _
      | exact ih6 _ _ _ _ _
      | exact ih7 _ _ _ _ _ _
      | exact vernierref01_Bits.mono _ _
      | exact vernierref01_Cmp.mono _ _ _
      | exact vernierref01_Few.mono _ _ _
      | exact vernierref01_Shl.mono _ _ _
      | exact vernierref06_big.mono _ _ _
      | exact vernierref06_shift.mono _ _ _ _
      | exact LeO.none _
      | refine LeO.ite ?_ ?_
      | refine LeO.bind ?_ (fun _ => ?_)
    · intro y0 y1 y2 y3 y4
      unfold vernierref06_Round.j5
      repeat' first
      | (with_reducible exact ih0 _ _ _ _ _ _)
      | (with_reducible exact ih1 _ _ _ _ _ _ _ _ _ _)
      | (with_reducible exact ih2 _ _ _ _ _ _ _ _ _ _ _)
      | (with_reducible exact ih3 _ _ _ _ _ _ _)
      | (with_reducible exact ih4 _ _ _ _ _ _)
      | (with_reducible exact ih5 _ _ _ _ _)
      | (with_reducible exact ih6 _ _ _ _ _)
      | (with_reducible exact ih7 _ _ _ _ _ _)
      | (with_reducible exact vernierref01_Bits.mono _ _)
      | (with_reducible exact vernierref01_Cmp.mono _ _ _)
      | (with_reducible exact vernierref01_Few.mono _ _ _)
      | (with_reducible exact vernierref01_Shl.mono _ _ _)
      | (with_reducible exact vernierref06_big.mono _ _ _)
      | (with_reducible exact vernierref06_shift.mono _ _ _ _)
      | (with_reducible exact LeO.refl _)
      | (with_reducible exact LeO.none _)
      | (with_reducible refine LeO.ite ?_ ?_)
      | (with_reducible refine LeO.bind ?_ (fun _ => ?_))
      | exact ih0 _ _ _ _ _ _
      | exact ih1 _ _ _ _ _ _ _ _ _ _
      | exact ih2 _ _ _ _ _ _ _ _ _ _ _
      | exact ih3 _ _ _ _ _ _ _
      | exact ih4 _ _ _ _ _ _
      | exact ih5 _ _ _ _ _
      | exact ih6 _ _ _ _ _
      | exact ih7 _ _ _ _ _ _
      | exact vernierref01_Bits.mono _ _
      | exact vernierref01_Cmp.mono _ _ _
      | exact vernierref01_Few.mono _ _ _
      | exact vernierref01_Shl.mono _ _ _
      | exact vernierref06_big.mono _ _ _
      | exact vernierref06_shift.mono _ _ _ _
      | exact LeO.none _
      | refine LeO.ite ?_ ?_
      | refine LeO.bind ?_ (fun _ => ?_)
    · intro y0 y1 y2 y3 y4
      unfold vernierref06_Round.j6
      repeat' first
      | (with_reducible exact ih0 _ _ _ _ _ _)
      | (with_reducible exact ih1 _ _ _ _ _ _ _ _ _ _)
      | (with_reducible exact ih2 _ _ _ _ _ _ _ _ _ _ _)
      | (with_reducible exact ih3 _ _ _ _ _ _ _)
      | (with_reducible exact ih4 _ _ _ _ _ _)
      | (with_reducible exact ih5 _ _ _ _ _)
      | (with_reducible exact ih6 _ _ _ _ _)
      | (with_reducible exact ih7 _ _ _ _ _ _)
      | (with_reducible exact vernierref01_Bits.mono _ _)
      | (with_reducible exact vernierref01_Cmp.mono _ _ _)
      | (with_reducible exact vernierref01_Few.mono _ _ _)
      | (with_reducible exact vernierref01_Shl.mono _ _ _)
      | (with_reducible exact vernierref06_big.mono _ _ _)
      | (with_reducible exact vernierref06_shift.mono _ _ _ _)
      | (with_reducible exact LeO.refl _)
      | (with_reducible exact LeO.none _)
      | (with_reducible refine LeO.ite ?_ ?_)
      | (with_reducible refine LeO.bind ?_ (fun _ => ?_))
      | exact ih0 _ _ _ _ _ _
      | exact ih1 _ _ _ _ _ _ _ _ _ _
      | exact ih2 _ _ _ _ _ _ _ _ _ _ _
      | exact ih3 _ _ _ _ _ _ _
      | exact ih4 _ _ _ _ _ _
      | exact ih5 _ _ _ _ _
      | exact ih6 _ _ _ _ _
      | exact ih7 _ _ _ _ _ _
      | exact vernierref01_Bits.mono _ _
      | exact vernierref01_Cmp.mono _ _ _
      | exact vernierref01_Few.mono _ _ _
      | exact vernierref01_Shl.mono _ _ _
      | exact vernierref06_big.mono _ _ _
      | exact vernierref06_shift.mono _ _ _ _
      | exact LeO.none _
      | refine LeO.ite ?_ ?_
      | refine LeO.bind ?_ (fun _ => ?_)
    · intro y0 y1 y2 y3 y4 y5
      unfold vernierref06_Round.j7
      repeat' first
      | (with_reducible exact ih0 _ _ _ _ _ _)
      | (with_reducible exact ih1 _ _ _ _ _ _ _ _ _ _)
      | (with_reducible exact ih2 _ _ _ _ _ _ _ _ _ _ _)
      | (with_reducible exact ih3 _ _ _ _ _ _ _)
      | (with_reducible exact ih4 _ _ _ _ _ _)
      | (with_reducible exact ih5 _ _ _ _ _)
      | (with_reducible exact ih6 _ _ _ _ _)
      | (with_reducible exact ih7 _ _ _ _ _ _)
      | (with_reducible exact vernierref01_Bits.mono _ _)
      | (with_reducible exact vernierref01_Cmp.mono _ _ _)
      | (with_reducible exact vernierref01_Few.mono _ _ _)
      | (with_reducible exact vernierref01_Shl.mono _ _ _)
      | (with_reducible exact vernierref06_big.mono _ _ _)
      | (with_reducible exact vernierref06_shift.mono _ _ _ _)
      | (with_reducible exact LeO.refl _)
      | (with_reducible exact LeO.none _)
      | (with_reducible refine LeO.ite ?_ ?_)
      | (with_reducible refine LeO.bind ?_ (fun _ => ?_))
      | exact ih0 _ _ _ _ _ _
      | exact ih1 _ _ _ _ _ _ _ _ _ _
      | exact ih2 _ _ _ _ _ _ _ _ _ _ _
      | exact ih3 _ _ _ _ _ _ _
      | exact ih4 _ _ _ _ _ _
      | exact ih5 _ _ _ _ _
      | exact ih6 _ _ _ _ _
      | exact ih7 _ _ _ _ _ _
      | exact vernierref01_Bits.mono _ _
      | exact vernierref01_Cmp.mono _ _ _
      | exact vernierref01_Few.mono _ _ _
      | exact vernierref01_Shl.mono _ _ _
      | exact vernierref06_big.mono _ _ _
      | exact vernierref06_shift.mono _ _ _ _
      | exact LeO.none _
      | refine LeO.ite ?_ ?_
      | refine LeO.bind ?_ (fun _ => ?_)
theorem vernierref06_Round.mono : ∀ a0 a1 a2 a3 a4 k, LeO (vernierref06_Round.f k a0 a1 a2 a3 a4) (vernierref06_Round.f (k + 1) a0 a1 a2 a3 a4) := by
  intro a0 a1 a2 a3 a4 k
  obtain ⟨ih0, ih1, ih2, ih3, ih4, ih5, ih6, ih7⟩ := vernierref06_Round.mono_l k
  unfold vernierref06_Round.f
  repeat' first
      | (with_reducible exact ih0 _ _ _ _ _ _)
      | (with_reducible exact ih1 _ _ _ _ _ _ _ _ _ _)
      | (with_reducible exact ih2 _ _ _ _ _ _ _ _ _ _ _)
      | (with_reducible exact ih3 _ _ _ _ _ _ _)
      | (with_reducible exact ih4 _ _ _ _ _ _)
      | (with_reducible exact ih5 _ _ _ _ _)
      | (with_reducible exact ih6 _ _ _ _ _)
      | (with_reducible exact ih7 _ _ _ _ _ _)
      | (with_reducible exact vernierref01_Bits.mono _ _)
      | (with_reducible exact vernierref01_Cmp.mono _ _ _)
      | (with_reducible exact vernierref01_Few.mono _ _ _)
      | (with_reducible exact vernierref01_Shl.mono _ _ _)
      | (with_reducible exact vernierref06_big.mono _ _ _)
      | (with_reducible exact vernierref06_shift.mono _ _ _ _)
      | (with_reducible exact LeO.refl _)
      | (with_reducible exact LeO.none _)
      | (with_reducible refine LeO.ite ?_ ?_)
      | (with_reducible refine LeO.bind ?_ (fun _ => ?_))
      | exact ih0 _ _ _ _ _ _
      | exact ih1 _ _ _ _ _ _ _ _ _ _
      | exact ih2 _ _ _ _ _ _ _ _ _ _ _
      | exact ih3 _ _ _ _ _ _ _
      | exact ih4 _ _ _ _ _ _
      | exact ih5 _ _ _ _ _
      | exact ih6 _ _ _ _ _
      | exact ih7 _ _ _ _ _ _
      | exact vernierref01_Bits.mono _ _
      | exact vernierref01_Cmp.mono _ _ _
      | exact vernierref01_Few.mono _ _ _
      | exact vernierref01_Shl.mono _ _ _
      | exact vernierref06_big.mono _ _ _
      | exact vernierref06_shift.mono _ _ _ _
      | exact LeO.none _
      | refine LeO.ite ?_ ?_
      | refine LeO.bind ?_ (fun _ => ?_)
set_option maxHeartbeats 8000000 in
set_option maxRecDepth 100000 in
theorem vernierref06_Round.calls (k : Nat) (a0 : Bool) (P1_ : Nat → Prop) (A1 : Option Addr) (c1 : Nat) (l1 : List Int) (P2_ : Nat → Prop) (A2 : Option Addr) (c2 : Nat) (l2 : List Int) (a3 : Int) (a4 : Int) (r1 : Int) (r2 : Int) (w : World) (hs1 : Kd.V (Kd.int .i64) 3 w w.heap.size (fun k_ => P1_ k_) (.slice A1 l1.length c1) l1) (hs2 : Kd.V (Kd.int .i64) 3 w w.heap.size (fun k_ => P2_ k_) (.slice A2 l2.length c2) l2) (h : vernierref06_Round.f k a0 l1 l2 a3 a4 = some (r1, r2)) :
    Calls Try.prog 97 #[.bool a0, .slice A1 l1.length c1, .slice A2 l2.length c2, .int .i64 a3, .int .i64 a4] w fun e w' => e = .returned (.tuple #[.int .u64 r1, .int .i64 r2]) ∧ Below w.heap.size w w' := by
  have HO1 := Aside0.mk (show Kd.V (Kd.int .i64) 3 w w.heap.size (fun k_ => ((P1_ k_ ∨ P2_ k_) ∨ w.heap.size ≤ k_)) (.slice A1 l1.length c1) l1 from Kd.V_mono hs1 (fun k_ hk => .inl (.inl hk)))
  have HO2 := Aside0.mk (show Kd.V (Kd.int .i64) 3 w w.heap.size (fun k_ => ((P1_ k_ ∨ P2_ k_) ∨ w.heap.size ≤ k_)) (.slice A2 l2.length c2) l2 from Kd.V_mono hs2 (fun k_ hk => .inl (.inr hk)))
  have HB := Aside0.mk (Below.refl w.heap.size w)
  have H : ((vernierref01_Bits.f k l1).bind fun t450 => ((vernierref01_Bits.f k l2).bind fun t451 => (if (wrap64 ((wrap64 (t450 - t451)) + a3)) > 2000 then ((vernierref06_big.f k a0 a4).bind fun bt452 => (some (bt452.1, bt452.2))) else (if (wrap64 ((wrap64 (t450 - t451)) + a3)) < (-3000) then (vernierref06_Round.j0 k a0 (([1] : List Int)) (([1] : List Int)) (-3000) a4 (-1074)) else (vernierref06_Round.j0 k a0 l1 l2 a3 a4 (mx (wrap64 ((wrap64 ((wrap64 (t450 - t451)) + a3)) - 54)) (-1074))))))) = some (r1, r2) := h
  clear h
  replace H := Option.bind_eq_some_iff.mp H
  obtain ⟨t450, A60, H⟩ := H
  replace H : ((vernierref01_Bits.f k l2).bind fun t451 => (if (wrap64 ((wrap64 (t450 - t451)) + a3)) > 2000 then ((vernierref06_big.f k a0 a4).bind fun bt452 => (some (bt452.1, bt452.2))) else (if (wrap64 ((wrap64 (t450 - t451)) + a3)) < (-3000) then (vernierref06_Round.j0 k a0 (([1] : List Int)) (([1] : List Int)) (-3000) a4 (-1074)) else (vernierref06_Round.j0 k a0 l1 l2 a3 a4 (mx (wrap64 ((wrap64 ((wrap64 (t450 - t451)) + a3)) - 54)) (-1074)))))) = some (r1, r2) := H
  have A6 := Aside0.mk A60
  clear A60
  replace H := Option.bind_eq_some_iff.mp H
  obtain ⟨t451, A70, H⟩ := H
  replace H : (if (wrap64 ((wrap64 (t450 - t451)) + a3)) > 2000 then ((vernierref06_big.f k a0 a4).bind fun bt452 => (some (bt452.1, bt452.2))) else (if (wrap64 ((wrap64 (t450 - t451)) + a3)) < (-3000) then (vernierref06_Round.j0 k a0 (([1] : List Int)) (([1] : List Int)) (-3000) a4 (-1074)) else (vernierref06_Round.j0 k a0 l1 l2 a3 a4 (mx (wrap64 ((wrap64 ((wrap64 (t450 - t451)) + a3)) - 54)) (-1074))))) = some (r1, r2) := H
  have A7 := Aside0.mk A70
  clear A70
  obtain ⟨ji8, hji8⟩ : ∃ j_ : Int, (mx (wrap64 ((wrap64 ((wrap64 (t450 - t451)) + a3)) - 54)) (-1074)) = j_ := ⟨_, rfl⟩
  replace H : (if (wrap64 ((wrap64 (t450 - t451)) + a3)) > 2000 then ((vernierref06_big.f k a0 a4).bind fun bt452 => (some (bt452.1, bt452.2))) else (if (wrap64 ((wrap64 (t450 - t451)) + a3)) < (-3000) then (vernierref06_Round.j0 k a0 (([1] : List Int)) (([1] : List Int)) (-3000) a4 (-1074)) else (vernierref06_Round.j0 k a0 l1 l2 a3 a4 ji8))) = some (r1, r2) := by first | (rw [hji8] at H; exact H) | (simp only [hji8] at H ⊢; exact H)
  (try rw [hji8] at A6)
  (try rw [hji8] at A7)
  have hji8_ : (if (wrap64 ((wrap64 ((wrap64 (t450 - t451)) + a3)) - 54)) < (-1074) then (-1074) else (wrap64 ((wrap64 ((wrap64 (t450 - t451)) + a3)) - 54))) = ji8 := hji8
  (try (have hji8n := hji8_; simp only [Int.ofNat_lt] at hji8n))
  by_cases c9 : (wrap64 ((wrap64 (t450 - t451)) + a3)) > 2000
  · rw [if_pos c9] at H
    have c9b0 : decide (2000 < (wrap64 ((wrap64 (t450 - t451)) + a3))) = true := decide_eq_true c9
    clear c9
    replace H := Option.bind_eq_some_iff.mp H
    obtain ⟨⟨t452, t453⟩, A100, H⟩ := H
    replace H : (some (t452, t453)) = some (r1, r2) := H
    have A10 := Aside0.mk A100
    clear A100
    simp only [Option.some.injEq, Prod.mk.injEq] at H
    obtain ⟨rfl, rfl⟩ := H
    go_enter Try.func97, Try.ntmps97
    go_wp2_with (first | ((with_reducible refine gate_callee (f := 66) rfl ?_); refine goesL_ (some 28) rfl rfl Try.func66 (by kernel_rfl) rfl #[.slice A1 l1.length c1] rfl (by (try simp only [List.map_toArray, List.map_cons, List.map_nil]); first | done | rfl | (simp only [List.length_drop, List.length_take]; rfl)) ?_; (with_reducible refine (vernierref01_Bits.calls k _ _ l1 t450 _ ?side1 ?side2 A6.out).mono ?_); (case side1 => repeat (first | exact (Kd.V_reads' HO1.out).2.2 | (with_reducible refine Kd.C_alloc ?_ _) | (with_reducible refine Kd.C_drewN ?_ _) | (with_reducible refine Kd.C_drew ?_))); (case side2 => exact (Kd.V_reads' HO1.out).2.1); rintro e w' ⟨rfl, ⟨nd, rfl⟩⟩; refine ⟨_, rfl, ?_⟩) | ((with_reducible refine gate_callee (f := 66) rfl ?_); refine goesL_ (some 30) rfl rfl Try.func66 (by kernel_rfl) rfl #[.slice A2 l2.length c2] rfl (by (try simp only [List.map_toArray, List.map_cons, List.map_nil]); first | done | rfl | (simp only [List.length_drop, List.length_take]; rfl)) ?_; (with_reducible refine (vernierref01_Bits.calls k _ _ l2 t451 _ ?side1 ?side2 A7.out).mono ?_); (case side1 => repeat (first | exact (Kd.V_reads' HO2.out).2.2 | (with_reducible refine Kd.C_alloc ?_ _) | (with_reducible refine Kd.C_drewN ?_ _) | (with_reducible refine Kd.C_drew ?_))); (case side2 => exact (Kd.V_reads' HO2.out).2.1); rintro e w' ⟨rfl, ⟨nd, rfl⟩⟩; refine ⟨_, rfl, ?_⟩) | ((with_reducible refine gate_callee (f := 105) rfl ?_); refine goesL_ (some 41) rfl rfl Try.func105 (by kernel_rfl) rfl #[.bool a0, .int .i64 a4] rfl (by (try simp only [List.map_toArray, List.map_cons, List.map_nil]); first | done | rfl | (simp only [List.length_drop, List.length_take]; rfl)) ?_; (with_reducible refine (vernierref06_big.calls k a0 a4 t452 t453 _ A10.out).mono ?_); rintro e w' ⟨rfl, ⟨nd, rfl⟩⟩; refine ⟨_, rfl, ?_⟩))
    go_ret2
    exact ⟨by first | rfl | (simp [errW_none, errW_some] <;> rfl) | (simp only [← hji8]; first | rfl | (simp [errW_none, errW_some] <;> rfl)) | (simp [*, errW_none, errW_some] <;> rfl), by repeat (first | (with_reducible first | exact HB.out | apply below_alloc | apply pw_below_drewN | apply below_drew1) | exact HB.out)⟩
  · rw [if_neg c9] at H
    have c9b0 : decide (2000 < (wrap64 ((wrap64 (t450 - t451)) + a3))) = false := decide_eq_false c9
    clear c9
    have HC11 := Aside0.mk H
    clear H
    go_enter Try.func97, Try.ntmps97
    go_upto_if 45 with (first | ((with_reducible refine gate_callee (f := 66) rfl ?_); refine goesL_ (some 28) rfl rfl Try.func66 (by kernel_rfl) rfl #[.slice A1 l1.length c1] rfl (by (try simp only [List.map_toArray, List.map_cons, List.map_nil]); first | done | rfl | (simp only [List.length_drop, List.length_take]; rfl)) ?_; (with_reducible refine (vernierref01_Bits.calls k _ _ l1 t450 _ ?side1 ?side2 A6.out).mono ?_); (case side1 => repeat (first | exact (Kd.V_reads' HO1.out).2.2 | (with_reducible refine Kd.C_alloc ?_ _) | (with_reducible refine Kd.C_drewN ?_ _) | (with_reducible refine Kd.C_drew ?_))); (case side2 => exact (Kd.V_reads' HO1.out).2.1); rintro e w' ⟨rfl, ⟨nd, rfl⟩⟩; refine ⟨_, rfl, ?_⟩) | ((with_reducible refine gate_callee (f := 66) rfl ?_); refine goesL_ (some 30) rfl rfl Try.func66 (by kernel_rfl) rfl #[.slice A2 l2.length c2] rfl (by (try simp only [List.map_toArray, List.map_cons, List.map_nil]); first | done | rfl | (simp only [List.length_drop, List.length_take]; rfl)) ?_; (with_reducible refine (vernierref01_Bits.calls k _ _ l2 t451 _ ?side1 ?side2 A7.out).mono ?_); (case side1 => repeat (first | exact (Kd.V_reads' HO2.out).2.2 | (with_reducible refine Kd.C_alloc ?_ _) | (with_reducible refine Kd.C_drewN ?_ _) | (with_reducible refine Kd.C_drew ?_))); (case side2 => exact (Kd.V_reads' HO2.out).2.1); rintro e w' ⟨rfl, ⟨nd, rfl⟩⟩; refine ⟨_, rfl, ?_⟩))
    (try simp only [Act.put, List.setIfInBounds_toArray, List.set_cons_zero, List.set_cons_succ])
    go_cut [1, 2, 3, 13] (fun v1 v2 v3 v13 wc => ∃ (kq : Nat) (x1_10 : List Int) (x2_10 : List Int) (x3_10 : Int) (x13_10 : Int), v3 = .int .i64 x3_10 ∧ v13 = .int .i64 x13_10 ∧ Aside0 (vernierref06_Round.j0 kq a0 x1_10 x2_10 x3_10 a4 x13_10 = some (r1, r2)) ∧ Aside0 (kq ≤ k) ∧ Aside0 (Kd.V (Kd.int .i64) 3 wc w.heap.size (fun k_ => ((P1_ k_ ∨ P2_ k_) ∨ w.heap.size ≤ k_)) v1 x1_10) ∧ Aside0 (Kd.V (Kd.int .i64) 3 wc w.heap.size (fun k_ => ((P1_ k_ ∨ P2_ k_) ∨ w.heap.size ≤ k_)) v2 x2_10) ∧ Aside0 (Below w.heap.size w wc))
    case first => as_aux_lemma =>
      have H := HC11.out
      clear HC11
      by_cases c12 : (wrap64 ((wrap64 (t450 - t451)) + a3)) < (-3000)
      · rw [if_pos c12] at H
        have c12b0 : decide ((wrap64 ((wrap64 (t450 - t451)) + a3)) < (-3000)) = true := decide_eq_true c12
        clear c12
        (first | rw [c12b0] | (simp only [i64_w, i32_w]; rw [c12b0]) | skip)
        obtain ⟨y454, hy454⟩ : ∃ y_ : List Int, y_ = (([1] : List Int)) := ⟨_, rfl⟩
        replace H : (vernierref06_Round.j0 k a0 y454 (([1] : List Int)) (-3000) a4 (-1074)) = some (r1, r2) := by first | (rw [hy454]; with_reducible exact H) | (have H2_ := (Option.bind_some _ _).symm.trans H; rw [hy454]; with_reducible exact H2_) | (have H2_ := (Option.bind_some _ _).symm.trans H; with_reducible exact H2_) | with_reducible exact H | (rw [hy454]; exact H) | exact H
        have Ny454 := Aside0.mk hy454
        clear hy454
        obtain ⟨y457, hy457⟩ : ∃ y_ : List Int, y_ = (([1] : List Int)) := ⟨_, rfl⟩
        replace H : (vernierref06_Round.j0 k a0 y454 y457 (-3000) a4 (-1074)) = some (r1, r2) := by first | (rw [hy457]; with_reducible exact H) | (have H2_ := (Option.bind_some _ _).symm.trans H; rw [hy457]; with_reducible exact H2_) | (have H2_ := (Option.bind_some _ _).symm.trans H; with_reducible exact H2_) | with_reducible exact H | (rw [hy457]; exact H) | exact H
        have Ny457 := Aside0.mk hy457
        clear hy457
        have H' := Aside0.mk H
        clear H
        go_wp2_with (first | ((with_reducible refine gate_dst (N := 46) rfl ?_); refine Kd.R_lit (Kd.int .i64) _ 3 ?hg (N := 46) ?hd (xs := ([1] : List Int)) (inner := [.int .i64 1]) (ok := fun _ => True) (okp := fun _ => True) ?hr ?hp (fun _ hk => hk) trivial (Below.refl _ _) (Nat.le_refl _) (by simp) ?_; (case hd => rfl); (case hg => rfl); (case hr => first | (go_simp; done) | (go_simp; rfl)); (case hp => exact (Reps.one (show Kd.M (Kd.int .i64) _ _ _ 1 [.int .i64 1] from rfl) (Reps.none _ _))); intro v455 w13 ho14 hb hg_ hnew_; clear hg_ hnew_; (first | rw [← Ny454.out] at ho14 | (simp only [Int.reduceToNat] at ho14; rw [← Ny454.out] at ho14)); have n0_ := Aside0.mk (Kd.V_elder' (by (with_reducible repeat (first | apply Kd.V_alloc | apply Kd.V_drewN | apply Kd.V_drew)); exact HO1.out) (Kd.R_base ho14) hb); have n1_ := Aside0.mk (Kd.V_elder' (by (with_reducible repeat (first | apply Kd.V_alloc | apply Kd.V_drewN | apply Kd.V_drew)); exact HO2.out) (Kd.R_base ho14) hb); have n2_ := Aside0.mk (Kd.R_lower (Kd.R_newM (M := fun k_ => (w.heap.size ≤ k_)) ho14 (below_size (by repeat (first | (with_reducible first | exact HB.out | apply below_alloc | apply pw_below_drewN | apply below_drew1) | exact HB.out))) (fun k_ h_ => h_)) (below_size (by repeat (first | (with_reducible first | exact HB.out | apply below_alloc | apply pw_below_drewN | apply below_drew1) | exact HB.out)))); have n3_ := Aside0.mk (below_step (by repeat (first | (with_reducible first | exact HB.out | apply below_alloc | apply pw_below_drewN | apply below_drew1) | exact HB.out)) hb); clear HO1; clear HO2; clear HB; have HO1 := n0_; have HO2 := n1_; have HO456 := n2_; have HB := n3_; clear n0_ n1_ n2_ n3_; clear hb ho14) | ((with_reducible refine gate_dst (N := 47) rfl ?_); refine Kd.R_lit (Kd.int .i64) _ 3 ?hg (N := 47) ?hd (xs := ([1] : List Int)) (inner := [.int .i64 1]) (ok := fun _ => True) (okp := fun _ => True) ?hr ?hp (fun _ hk => hk) trivial (Below.refl _ _) (Nat.le_refl _) (by simp) ?_; (case hd => rfl); (case hg => rfl); (case hr => first | (go_simp; done) | (go_simp; rfl)); (case hp => exact (Reps.one (show Kd.M (Kd.int .i64) _ _ _ 1 [.int .i64 1] from rfl) (Reps.none _ _))); intro v458 w15 ho16 hb hg_ hnew_; clear hg_ hnew_; (first | rw [← Ny457.out] at ho16 | (simp only [Int.reduceToNat] at ho16; rw [← Ny457.out] at ho16)); have n0_ := Aside0.mk (Kd.V_elder' (by (with_reducible repeat (first | apply Kd.V_alloc | apply Kd.V_drewN | apply Kd.V_drew)); exact HO1.out) (Kd.R_base ho16) hb); have n1_ := Aside0.mk (Kd.V_elder' (by (with_reducible repeat (first | apply Kd.V_alloc | apply Kd.V_drewN | apply Kd.V_drew)); exact HO2.out) (Kd.R_base ho16) hb); have n2_ := Aside0.mk (Kd.R_elder' (by (with_reducible repeat (first | apply Kd.R_alloc | apply Kd.R_drewN | apply Kd.R_drew)); exact HO456.out) (Kd.R_base ho16) hb); have n3_ := Aside0.mk (Kd.R_lower (Kd.R_new' (Kd.R_newM (M := fun k_ => (w.heap.size ≤ k_)) ho16 (below_size (by repeat (first | (with_reducible first | exact HB.out | apply below_alloc | apply pw_below_drewN | apply below_drew1) | exact HB.out))) (fun k_ h_ => h_)) (Kd.R_lt (by (with_reducible repeat (first | apply Kd.R_alloc | apply Kd.R_drewN | apply Kd.R_drew)); exact HO456.out))) (below_size (by repeat (first | (with_reducible first | exact HB.out | apply below_alloc | apply pw_below_drewN | apply below_drew1) | exact HB.out)))); have n4_ := Aside0.mk (below_step (by repeat (first | (with_reducible first | exact HB.out | apply below_alloc | apply pw_below_drewN | apply below_drew1) | exact HB.out)) hb); clear HO1; clear HO2; clear HO456; clear HB; have HO1 := n0_; have HO2 := n1_; have HO456 := n2_; have HO459 := n3_; have HB := n4_; clear n0_ n1_ n2_ n3_ n4_; clear hb ho16))
        go_meet
        case rel => exact ⟨_, (y454), (y457), ((-3000)), ((-1074)), (by first | rfl | (simp; done) | (simp [*]; done)), (by first | rfl | (simp; done) | (simp [*]; done)), H', ⟨by first | omega | exact Nat.le_refl _⟩, ⟨Kd.V_mono (Kd.R_V (by (with_reducible repeat (first | apply Kd.R_alloc | apply Kd.R_drewN | apply Kd.R_drew)); exact Kd.R_mono HO456.out (fun _ hk => hk.1.1))) (fun k_ hk => by first | exact ⟨(.inr (hk.1)), hk.2⟩ | exact (.inr (hk)))⟩, ⟨Kd.V_mono (Kd.R_V (by (with_reducible repeat (first | apply Kd.R_alloc | apply Kd.R_drewN | apply Kd.R_drew)); exact Kd.R_mono HO459.out (fun _ hk => hk.1.1))) (fun k_ hk => by first | exact ⟨(.inr (hk.1)), hk.2⟩ | exact (.inr (hk)))⟩, ⟨by repeat (first | (with_reducible first | exact HB.out | apply below_alloc | apply pw_below_drewN | apply below_drew1) | exact HB.out)⟩⟩
      · rw [if_neg c12] at H
        have c12b0 : decide ((wrap64 ((wrap64 (t450 - t451)) + a3)) < (-3000)) = false := decide_eq_false c12
        clear c12
        (first | rw [c12b0] | (simp only [i64_w, i32_w]; rw [c12b0]) | skip)
        have H' := Aside0.mk H
        clear H
        go_wp2
        go_meet
        case rel => exact ⟨_, (l1), (l2), (a3), (ji8), (by first | rfl | (simp; done) | (simp [*]; done)), (by first | rfl | (simp; done) | (simp only [← hji8] <;> (first | rfl | simp)) | (simp [*]; done)), H', ⟨by first | omega | exact Nat.le_refl _⟩, ⟨by (with_reducible repeat (first | apply Kd.V_alloc | apply Kd.V_drewN | apply Kd.V_drew)); exact HO1.out⟩, ⟨by (with_reducible repeat (first | apply Kd.V_alloc | apply Kd.V_drewN | apply Kd.V_drew)); exact HO2.out⟩, ⟨by repeat (first | (with_reducible first | exact HB.out | apply below_alloc | apply pw_below_drewN | apply below_drew1) | exact HB.out)⟩⟩
    case rest => as_aux_lemma =>
      clear HC11
      try clear c1
      try clear c2
      try clear p2
      try clear c6
      try clear p6
      try clear c9
      try clear c9b0
      try clear c10
      try clear c12
      try clear c12b0
      obtain ⟨kq, x1_10, x2_10, x3_10, x13_10, rfl, rfl, HA, HJ10, HO_1, HO_2, HB⟩ := hcut
      cases kq with
      | zero => exact absurd HA.out (by simp [vernierref06_Round.j0])
      | succ kj10 =>
        have H := HA.out
        clear HA
        simp only [vernierref06_Round.j0] at H
        have H' := Aside0.mk H
        clear H
        go_wp2
        go_loopg [13, 14, 15, 16, 17] kj10 (fun kq v13 v14 v15 v16 v17 w' => ∃ (x13_2 : Int) (x14_2 : Int) (x15_2 : List Int) (x16_2 : List Int) (x17_2 : Int), v13 = .int .i64 x13_2 ∧ v14 = .int .u64 x14_2 ∧ v17 = .int .i64 x17_2 ∧ Aside0 (vernierref06_Round.l0 kq a0 x1_10 x2_10 x3_10 a4 x13_2 x14_2 x15_2 x16_2 x17_2 = some (r1, r2)) ∧ Aside0 (kq ≤ kj10) ∧ Aside0 (Kd.V (Kd.int .i64) 3 w' w.heap.size (fun k_ => ((P1_ k_ ∨ P2_ k_) ∨ w.heap.size ≤ k_)) u1 x1_10) ∧ Aside0 (Kd.V (Kd.int .i64) 3 w' w.heap.size (fun k_ => ((P1_ k_ ∨ P2_ k_) ∨ w.heap.size ≤ k_)) u2 x2_10) ∧ Aside0 (Kd.V (Kd.int .i64) 3 w' w.heap.size (fun k_ => ((P1_ k_ ∨ P2_ k_) ∨ w.heap.size ≤ k_)) v15 x15_2) ∧ Aside0 (Kd.V (Kd.int .i64) 3 w' w.heap.size (fun k_ => ((P1_ k_ ∨ P2_ k_) ∨ w.heap.size ≤ k_)) v16 x16_2) ∧ Aside0 (Below w.heap.size w w'))
        case atStart => exact ⟨(x13_10), (0), (([] : List Int)), (([] : List Int)), (0), (by first | rfl | (simp; done) | (simp [*]; done)), (by first | rfl | (simp; done) | (simp [*]; done)), (by first | rfl | (simp; done) | (simp [*]; done)), H', ⟨Nat.le_refl _⟩, ⟨by (with_reducible repeat (first | apply Kd.V_alloc | apply Kd.V_drewN | apply Kd.V_drew)); exact HO_1.out⟩, ⟨by (with_reducible repeat (first | apply Kd.V_alloc | apply Kd.V_drewN | apply Kd.V_drew)); exact HO_2.out⟩, ⟨Kd.R_V (Kd.R_nil _ _ _ 0 _)⟩, ⟨Kd.R_V (Kd.R_nil _ _ _ 0 _)⟩, ⟨by repeat (first | (with_reducible first | exact HB.out | apply below_alloc | apply pw_below_drewN | apply below_drew1) | exact HB.out)⟩⟩
        case round =>
          clear H'
          try clear c1
          try clear c2
          try clear p2
          try clear c6
          try clear p6
          try clear c9
          try clear c9b0
          try clear c10
          try clear c12
          try clear c12b0
          try clear p2
          try clear p6
          obtain ⟨x13_2, x14_2, x15_2, x16_2, x17_2, rfl, rfl, rfl, HA, HK2, HO_1, HO_2, HO_15, HO_16, HB⟩ := hrel
          cases gk with
          | zero => exact absurd HA.out (by simp [vernierref06_Round.l0])
          | succ k2 =>
            have H := HA.out
            clear HA
            simp only [vernierref06_Round.l0] at H
            have HC17 := Aside0.mk H
            clear H
            go_upto_region 11 with (fail)
            go_cut [57] (fun v57 wc => ∃ (kq : Nat) (x57_16 : Bool), v57 = .bool x57_16 ∧ Aside0 (vernierref06_Round.j2 kq a0 x1_10 x2_10 x3_10 a4 x13_2 x14_2 x15_2 x16_2 x17_2 x57_16 = some (r1, r2)) ∧ Aside0 (kq ≤ k2) ∧ Aside0 (Kd.V (Kd.int .i64) 3 wc w.heap.size (fun k_ => ((P1_ k_ ∨ P2_ k_) ∨ w.heap.size ≤ k_)) u1 x1_10) ∧ Aside0 (Kd.V (Kd.int .i64) 3 wc w.heap.size (fun k_ => ((P1_ k_ ∨ P2_ k_) ∨ w.heap.size ≤ k_)) u2 x2_10) ∧ Aside0 (Kd.V (Kd.int .i64) 3 wc w.heap.size (fun k_ => ((P1_ k_ ∨ P2_ k_) ∨ w.heap.size ≤ k_)) u15 x15_2) ∧ Aside0 (Kd.V (Kd.int .i64) 3 wc w.heap.size (fun k_ => ((P1_ k_ ∨ P2_ k_) ∨ w.heap.size ≤ k_)) u16 x16_2) ∧ Aside0 (Below w.heap.size w wc))
            case first => as_aux_lemma =>
              have H := HC17.out
              clear HC17
              by_cases c18 : x17_2 < 9
              · rw [if_pos c18] at H
                have c18b0 : decide (x17_2 < 9) = true := decide_eq_true c18
                clear c18
                (first | rw [c18b0] | (simp only [i64_w, i32_w]; rw [c18b0]) | skip)
                by_cases c19 : x17_2 = 0
                · rw [if_pos c19] at H
                  have c19b0 : (x17_2 == 0) = true := beq_iff_eq.mpr c19
                  have c19b1 : (x17_2 != 0) = false := bne_eq_false_iff_eq.mpr c19
                  clear c19
                  have H' := Aside0.mk H
                  clear H
                  go_wp2
                  go_meet
                  case rel => exact ⟨_, (true), (by first | rfl | (simp; done) | (simp [*]; done)), H', ⟨by have := HJ10.out; have := HK2.out; first | omega | exact Nat.le_refl _⟩, ⟨by (with_reducible repeat (first | apply Kd.V_alloc | apply Kd.V_drewN | apply Kd.V_drew)); exact HO_1.out⟩, ⟨by (with_reducible repeat (first | apply Kd.V_alloc | apply Kd.V_drewN | apply Kd.V_drew)); exact HO_2.out⟩, ⟨by (with_reducible repeat (first | apply Kd.V_alloc | apply Kd.V_drewN | apply Kd.V_drew)); exact HO_15.out⟩, ⟨by (with_reducible repeat (first | apply Kd.V_alloc | apply Kd.V_drewN | apply Kd.V_drew)); exact HO_16.out⟩, ⟨by repeat (first | (with_reducible first | exact HB.out | apply below_alloc | apply pw_below_drewN | apply below_drew1) | exact HB.out)⟩⟩
                · rw [if_neg c19] at H
                  have c19b0 : (x17_2 == 0) = false := beq_eq_false_iff_ne.mpr c19
                  have c19b1 : (x17_2 != 0) = true := bne_iff_ne.mpr c19
                  have H' := Aside0.mk H
                  clear H
                  go_wp2
                  go_meet
                  case rel => exact ⟨_, (decide (x14_2 ≥ 9007199254740992)), (by first | rfl | (simp; done) | (simp [*]; done)), H', ⟨by have := HJ10.out; have := HK2.out; first | omega | exact Nat.le_refl _⟩, ⟨by (with_reducible repeat (first | apply Kd.V_alloc | apply Kd.V_drewN | apply Kd.V_drew)); exact HO_1.out⟩, ⟨by (with_reducible repeat (first | apply Kd.V_alloc | apply Kd.V_drewN | apply Kd.V_drew)); exact HO_2.out⟩, ⟨by (with_reducible repeat (first | apply Kd.V_alloc | apply Kd.V_drewN | apply Kd.V_drew)); exact HO_15.out⟩, ⟨by (with_reducible repeat (first | apply Kd.V_alloc | apply Kd.V_drewN | apply Kd.V_drew)); exact HO_16.out⟩, ⟨by repeat (first | (with_reducible first | exact HB.out | apply below_alloc | apply pw_below_drewN | apply below_drew1) | exact HB.out)⟩⟩
              · rw [if_neg c18] at H
                have c18b0 : decide (x17_2 < 9) = false := decide_eq_false c18
                clear c18
                (first | rw [c18b0] | (simp only [i64_w, i32_w]; rw [c18b0]) | skip)
                have H' := Aside0.mk H
                clear H
                go_wp2
                go_meet
                case rel => exact ⟨_, (false), (by first | rfl | (simp; done) | (simp [*]; done)), H', ⟨by have := HJ10.out; have := HK2.out; first | omega | exact Nat.le_refl _⟩, ⟨by (with_reducible repeat (first | apply Kd.V_alloc | apply Kd.V_drewN | apply Kd.V_drew)); exact HO_1.out⟩, ⟨by (with_reducible repeat (first | apply Kd.V_alloc | apply Kd.V_drewN | apply Kd.V_drew)); exact HO_2.out⟩, ⟨by (with_reducible repeat (first | apply Kd.V_alloc | apply Kd.V_drewN | apply Kd.V_drew)); exact HO_15.out⟩, ⟨by (with_reducible repeat (first | apply Kd.V_alloc | apply Kd.V_drewN | apply Kd.V_drew)); exact HO_16.out⟩, ⟨by repeat (first | (with_reducible first | exact HB.out | apply below_alloc | apply pw_below_drewN | apply below_drew1) | exact HB.out)⟩⟩
            case rest => as_aux_lemma =>
              clear HC17
              try clear c1
              try clear c2
              try clear p2
              try clear c6
              try clear p6
              try clear c9
              try clear c9b0
              try clear c10
              try clear c12
              try clear c12b0
              try clear c18
              try clear c18b0
              try clear c19
              try clear c19b0
              try clear c19b1
              try clear p2
              try clear p6
              obtain ⟨kq, x57_16, rfl, HA, HJ16, HO_1, HO_2, HO_15, HO_16, HB⟩ := hcut
              cases kq with
              | zero => exact absurd HA.out (by simp [vernierref06_Round.j2])
              | succ kj16 =>
                have H := HA.out
                clear HA
                simp only [vernierref06_Round.j2] at H
                by_cases c20 : x57_16 = true
                · subst c20
                  have H1 : (if x17_2 > 0 then ((vernierref06_shift.f kj16 x1_10 x2_10 (wrap64 (x3_10 - (wrap64 (x13_2 + 1))))).bind fun bt460 => ((vernierref01_Few.f kj16 bt460.1 bt460.2).bind fun bt466 => (vernierref06_Round.l0 kj16 a0 x1_10 x2_10 x3_10 a4 (wrap64 (x13_2 + 1)) bt466.1 bt466.2 bt460.2 (wrap64 (x17_2 + 1))))) else ((vernierref06_shift.f kj16 x1_10 x2_10 (wrap64 (x3_10 - x13_2))).bind fun bt470 => ((vernierref01_Few.f kj16 bt470.1 bt470.2).bind fun bt476 => (vernierref06_Round.l0 kj16 a0 x1_10 x2_10 x3_10 a4 x13_2 bt476.1 bt476.2 bt470.2 (wrap64 (x17_2 + 1)))))) = some (r1, r2) := by rw [if_pos rfl] at H; exact H
                  clear H
                  have H := H1
                  clear H1
                  by_cases c21 : x17_2 > 0
                  · rw [if_pos c21] at H
                    have c21b0 : decide (0 < x17_2) = true := decide_eq_true c21
                    clear c21
                    replace H := Option.bind_eq_some_iff.mp H
                    obtain ⟨⟨t460, t463⟩, A220, H⟩ := H
                    replace H : ((vernierref01_Few.f kj16 t460 t463).bind fun bt466 => (vernierref06_Round.l0 kj16 a0 x1_10 x2_10 x3_10 a4 (wrap64 (x13_2 + 1)) bt466.1 bt466.2 t463 (wrap64 (x17_2 + 1)))) = some (r1, r2) := H
                    have A22 := Aside0.mk A220
                    clear A220
                    replace H := Option.bind_eq_some_iff.mp H
                    obtain ⟨⟨t466, t467⟩, A230, H⟩ := H
                    replace H : (vernierref06_Round.l0 kj16 a0 x1_10 x2_10 x3_10 a4 (wrap64 (x13_2 + 1)) t466 t467 t463 (wrap64 (x17_2 + 1))) = some (r1, r2) := H
                    have A23 := Aside0.mk A230
                    clear A230
                    have H' := Aside0.mk H
                    clear H
                    obtain ⟨Ao24, co24, eo24⟩ := Kd.V_slice HO_1.out
                    subst eo24
                    obtain ⟨Ao25, co25, eo25⟩ := Kd.V_slice HO_2.out
                    subst eo25
                    go_wp2_with (first | ((with_reducible refine gate_callee (f := 106) rfl ?_); refine goesL_ (some 70) rfl rfl Try.func106 (by kernel_rfl) rfl #[.slice Ao24 x1_10.length co24, .slice Ao25 x2_10.length co25, .int .i64 (wrap64 (x3_10 - (wrap64 (x13_2 + 1))))] rfl (by (try simp only [List.map_toArray, List.map_cons, List.map_nil]); first | done | rfl | (simp only [List.length_drop, List.length_take]; rfl)) ?_; (with_reducible refine (vernierref06_shift.calls kj16 (fun k_ => ((P1_ k_ ∨ P2_ k_) ∨ w.heap.size ≤ k_)) _ _ x1_10 (fun k_ => ((P1_ k_ ∨ P2_ k_) ∨ w.heap.size ≤ k_)) _ _ x2_10 (wrap64 (x3_10 - (wrap64 (x13_2 + 1)))) t460 t463 _ ?side1 ?side2 A22.out).mono ?_); (case side1 => exact HO_1.out); (case side2 => exact HO_2.out); rintro e w26 ⟨v461, v464, rfl, ho0, ho1, hb⟩; refine ⟨_, rfl, ?_⟩; have n0_ := Aside0.mk (Kd.V_below (by (with_reducible repeat (first | apply Kd.V_alloc | apply Kd.V_drewN | apply Kd.V_drew)); exact HO_1.out) hb); have n1_ := Aside0.mk (Kd.V_below (by (with_reducible repeat (first | apply Kd.V_alloc | apply Kd.V_drewN | apply Kd.V_drew)); exact HO_2.out) hb); have n2_ := Aside0.mk (Kd.V_below (by (with_reducible repeat (first | apply Kd.V_alloc | apply Kd.V_drewN | apply Kd.V_drew)); exact HO_15.out) hb); have n3_ := Aside0.mk (Kd.V_below (by (with_reducible repeat (first | apply Kd.V_alloc | apply Kd.V_drewN | apply Kd.V_drew)); exact HO_16.out) hb); have n4_ := Aside0.mk (Kd.V_lower (Kd.V_mono (ok' := fun k_ => ((P1_ k_ ∨ P2_ k_) ∨ w.heap.size ≤ k_)) ho0 (fun k_ hk_ => Or.elim hk_ (fun hs_ => Or.elim hs_ (fun hs_ => hs_) (fun hs_ => hs_)) (fun hn_ => (.inr (Nat.le_trans (below_size (by repeat (first | (with_reducible first | exact HB.out | apply below_alloc | apply pw_below_drewN | apply below_drew1) | exact HB.out))) hn_))))) (below_size (by repeat (first | (with_reducible first | exact HB.out | apply below_alloc | apply pw_below_drewN | apply below_drew1) | exact HB.out)))); have n5_ := Aside0.mk (Kd.V_lower (Kd.V_mono (ok' := fun k_ => ((P1_ k_ ∨ P2_ k_) ∨ w.heap.size ≤ k_)) ho1 (fun k_ hk_ => Or.elim hk_ (fun hs_ => Or.elim hs_ (fun hs_ => hs_) (fun hs_ => hs_)) (fun hn_ => (.inr (Nat.le_trans (below_size (by repeat (first | (with_reducible first | exact HB.out | apply below_alloc | apply pw_below_drewN | apply below_drew1) | exact HB.out))) hn_))))) (below_size (by repeat (first | (with_reducible first | exact HB.out | apply below_alloc | apply pw_below_drewN | apply below_drew1) | exact HB.out)))); have n6_ := Aside0.mk (below_step (by repeat (first | (with_reducible first | exact HB.out | apply below_alloc | apply pw_below_drewN | apply below_drew1) | exact HB.out)) hb); clear HO_1; clear HO_2; clear HO_15; clear HO_16; clear HB; have HO_1 := n0_; have HO_2 := n1_; have HO_15 := n2_; have HO_16 := n3_; have HO462 := n4_; have HO465 := n5_; have HB := n6_; clear n0_ n1_ n2_ n3_ n4_ n5_ n6_; (try clear hb); (try clear hb2); (try clear hk); (try clear hi); (try clear ho0); (try clear ho1); obtain ⟨Ao27, co27, eo27⟩ := Kd.V_slice HO462.out; subst eo27; obtain ⟨Ao28, co28, eo28⟩ := Kd.V_slice HO465.out; subst eo28) | ((with_reducible refine gate_callee (f := 107) rfl ?_); refine goesL_ (some 76) rfl rfl Try.func107 (by kernel_rfl) rfl #[.slice Ao27 t460.length co27, .slice Ao28 t463.length co28] rfl (by (try simp only [List.map_toArray, List.map_cons, List.map_nil]); first | done | rfl | (simp only [List.length_drop, List.length_take]; rfl)) ?_; (with_reducible refine (vernierref01_Few.calls kj16 (fun k_ => ((P1_ k_ ∨ P2_ k_) ∨ w.heap.size ≤ k_)) _ _ t460 _ _ t463 t466 t467 _ ?side1 ?side2 ?side3 A23.out).mono ?_); (case side1 => exact HO462.out); (case side2 => repeat (first | exact (Kd.V_reads' HO465.out).2.2 | (with_reducible refine Kd.C_alloc ?_ _) | (with_reducible refine Kd.C_drewN ?_ _) | (with_reducible refine Kd.C_drew ?_))); (case side3 => exact (Kd.V_reads' HO465.out).2.1); rintro e w29 ⟨v468, rfl, ho0, hb⟩; refine ⟨_, rfl, ?_⟩; have n0_ := Aside0.mk (Kd.V_below (by (with_reducible repeat (first | apply Kd.V_alloc | apply Kd.V_drewN | apply Kd.V_drew)); exact HO_1.out) hb); have n1_ := Aside0.mk (Kd.V_below (by (with_reducible repeat (first | apply Kd.V_alloc | apply Kd.V_drewN | apply Kd.V_drew)); exact HO_2.out) hb); have n2_ := Aside0.mk (Kd.V_below (by (with_reducible repeat (first | apply Kd.V_alloc | apply Kd.V_drewN | apply Kd.V_drew)); exact HO_15.out) hb); have n3_ := Aside0.mk (Kd.V_below (by (with_reducible repeat (first | apply Kd.V_alloc | apply Kd.V_drewN | apply Kd.V_drew)); exact HO_16.out) hb); have n4_ := Aside0.mk (Kd.V_below (by (with_reducible repeat (first | apply Kd.V_alloc | apply Kd.V_drewN | apply Kd.V_drew)); exact HO462.out) hb); have n5_ := Aside0.mk (Kd.V_below (by (with_reducible repeat (first | apply Kd.V_alloc | apply Kd.V_drewN | apply Kd.V_drew)); exact HO465.out) hb); have n6_ := Aside0.mk (Kd.V_lower (Kd.V_mono (ok' := fun k_ => ((P1_ k_ ∨ P2_ k_) ∨ w.heap.size ≤ k_)) ho0 (fun k_ hk_ => Or.elim hk_ (fun hs_ => hs_) (fun hn_ => (.inr (Nat.le_trans (below_size (by repeat (first | (with_reducible first | exact HB.out | apply below_alloc | apply pw_below_drewN | apply below_drew1) | exact HB.out))) hn_))))) (below_size (by repeat (first | (with_reducible first | exact HB.out | apply below_alloc | apply pw_below_drewN | apply below_drew1) | exact HB.out)))); have n7_ := Aside0.mk (below_step (by repeat (first | (with_reducible first | exact HB.out | apply below_alloc | apply pw_below_drewN | apply below_drew1) | exact HB.out)) hb); clear HO_1; clear HO_2; clear HO_15; clear HO_16; clear HO462; clear HO465; clear HB; have HO_1 := n0_; have HO_2 := n1_; have HO_15 := n2_; have HO_16 := n3_; have HO462 := n4_; have HO465 := n5_; have HO469 := n6_; have HB := n7_; clear n0_ n1_ n2_ n3_ n4_ n5_ n6_ n7_; (try clear hb); (try clear hb2); (try clear hk); (try clear hi); (try clear ho0)))
                    go_roundg kj16
                    case measure => have := HJ10.out; have := HK2.out; have := HJ16.out; omega
                    case rel => exact ⟨(wrap64 (x13_2 + 1)), (t466), (t467), (t463), (wrap64 (x17_2 + 1)), (by first | rfl | (simp; done) | (simp [*]; done)), (by first | rfl | (simp; done) | (simp [*]; done)), (by first | rfl | (simp; done) | (simp [*]; done)), H', ⟨by have := HJ10.out; have := HK2.out; have := HJ16.out; omega⟩, ⟨by (with_reducible repeat (first | apply Kd.V_alloc | apply Kd.V_drewN | apply Kd.V_drew)); exact HO_1.out⟩, ⟨by (with_reducible repeat (first | apply Kd.V_alloc | apply Kd.V_drewN | apply Kd.V_drew)); exact HO_2.out⟩, ⟨by (with_reducible repeat (first | apply Kd.V_alloc | apply Kd.V_drewN | apply Kd.V_drew)); exact HO469.out⟩, ⟨by (with_reducible repeat (first | apply Kd.V_alloc | apply Kd.V_drewN | apply Kd.V_drew)); exact HO465.out⟩, ⟨by repeat (first | (with_reducible first | exact HB.out | apply below_alloc | apply pw_below_drewN | apply below_drew1) | exact HB.out)⟩⟩
                  · rw [if_neg c21] at H
                    have c21b0 : decide (0 < x17_2) = false := decide_eq_false c21
                    clear c21
                    replace H := Option.bind_eq_some_iff.mp H
                    obtain ⟨⟨t470, t473⟩, A300, H⟩ := H
                    replace H : ((vernierref01_Few.f kj16 t470 t473).bind fun bt476 => (vernierref06_Round.l0 kj16 a0 x1_10 x2_10 x3_10 a4 x13_2 bt476.1 bt476.2 t473 (wrap64 (x17_2 + 1)))) = some (r1, r2) := H
                    have A30 := Aside0.mk A300
                    clear A300
                    replace H := Option.bind_eq_some_iff.mp H
                    obtain ⟨⟨t476, t477⟩, A310, H⟩ := H
                    replace H : (vernierref06_Round.l0 kj16 a0 x1_10 x2_10 x3_10 a4 x13_2 t476 t477 t473 (wrap64 (x17_2 + 1))) = some (r1, r2) := H
                    have A31 := Aside0.mk A310
                    clear A310
                    have H' := Aside0.mk H
                    clear H
                    obtain ⟨Ao32, co32, eo32⟩ := Kd.V_slice HO_1.out
                    subst eo32
                    obtain ⟨Ao33, co33, eo33⟩ := Kd.V_slice HO_2.out
                    subst eo33
                    go_wp2_with (first | ((with_reducible refine gate_callee (f := 106) rfl ?_); refine goesL_ (some 70) rfl rfl Try.func106 (by kernel_rfl) rfl #[.slice Ao32 x1_10.length co32, .slice Ao33 x2_10.length co33, .int .i64 (wrap64 (x3_10 - x13_2))] rfl (by (try simp only [List.map_toArray, List.map_cons, List.map_nil]); first | done | rfl | (simp only [List.length_drop, List.length_take]; rfl)) ?_; (with_reducible refine (vernierref06_shift.calls kj16 (fun k_ => ((P1_ k_ ∨ P2_ k_) ∨ w.heap.size ≤ k_)) _ _ x1_10 (fun k_ => ((P1_ k_ ∨ P2_ k_) ∨ w.heap.size ≤ k_)) _ _ x2_10 (wrap64 (x3_10 - x13_2)) t470 t473 _ ?side1 ?side2 A30.out).mono ?_); (case side1 => exact HO_1.out); (case side2 => exact HO_2.out); rintro e w34 ⟨v471, v474, rfl, ho0, ho1, hb⟩; refine ⟨_, rfl, ?_⟩; have n0_ := Aside0.mk (Kd.V_below (by (with_reducible repeat (first | apply Kd.V_alloc | apply Kd.V_drewN | apply Kd.V_drew)); exact HO_1.out) hb); have n1_ := Aside0.mk (Kd.V_below (by (with_reducible repeat (first | apply Kd.V_alloc | apply Kd.V_drewN | apply Kd.V_drew)); exact HO_2.out) hb); have n2_ := Aside0.mk (Kd.V_below (by (with_reducible repeat (first | apply Kd.V_alloc | apply Kd.V_drewN | apply Kd.V_drew)); exact HO_15.out) hb); have n3_ := Aside0.mk (Kd.V_below (by (with_reducible repeat (first | apply Kd.V_alloc | apply Kd.V_drewN | apply Kd.V_drew)); exact HO_16.out) hb); have n4_ := Aside0.mk (Kd.V_lower (Kd.V_mono (ok' := fun k_ => ((P1_ k_ ∨ P2_ k_) ∨ w.heap.size ≤ k_)) ho0 (fun k_ hk_ => Or.elim hk_ (fun hs_ => Or.elim hs_ (fun hs_ => hs_) (fun hs_ => hs_)) (fun hn_ => (.inr (Nat.le_trans (below_size (by repeat (first | (with_reducible first | exact HB.out | apply below_alloc | apply pw_below_drewN | apply below_drew1) | exact HB.out))) hn_))))) (below_size (by repeat (first | (with_reducible first | exact HB.out | apply below_alloc | apply pw_below_drewN | apply below_drew1) | exact HB.out)))); have n5_ := Aside0.mk (Kd.V_lower (Kd.V_mono (ok' := fun k_ => ((P1_ k_ ∨ P2_ k_) ∨ w.heap.size ≤ k_)) ho1 (fun k_ hk_ => Or.elim hk_ (fun hs_ => Or.elim hs_ (fun hs_ => hs_) (fun hs_ => hs_)) (fun hn_ => (.inr (Nat.le_trans (below_size (by repeat (first | (with_reducible first | exact HB.out | apply below_alloc | apply pw_below_drewN | apply below_drew1) | exact HB.out))) hn_))))) (below_size (by repeat (first | (with_reducible first | exact HB.out | apply below_alloc | apply pw_below_drewN | apply below_drew1) | exact HB.out)))); have n6_ := Aside0.mk (below_step (by repeat (first | (with_reducible first | exact HB.out | apply below_alloc | apply pw_below_drewN | apply below_drew1) | exact HB.out)) hb); clear HO_1; clear HO_2; clear HO_15; clear HO_16; clear HB; have HO_1 := n0_; have HO_2 := n1_; have HO_15 := n2_; have HO_16 := n3_; have HO472 := n4_; have HO475 := n5_; have HB := n6_; clear n0_ n1_ n2_ n3_ n4_ n5_ n6_; (try clear hb); (try clear hb2); (try clear hk); (try clear hi); (try clear ho0); (try clear ho1); obtain ⟨Ao35, co35, eo35⟩ := Kd.V_slice HO472.out; subst eo35; obtain ⟨Ao36, co36, eo36⟩ := Kd.V_slice HO475.out; subst eo36) | ((with_reducible refine gate_callee (f := 107) rfl ?_); refine goesL_ (some 76) rfl rfl Try.func107 (by kernel_rfl) rfl #[.slice Ao35 t470.length co35, .slice Ao36 t473.length co36] rfl (by (try simp only [List.map_toArray, List.map_cons, List.map_nil]); first | done | rfl | (simp only [List.length_drop, List.length_take]; rfl)) ?_; (with_reducible refine (vernierref01_Few.calls kj16 (fun k_ => ((P1_ k_ ∨ P2_ k_) ∨ w.heap.size ≤ k_)) _ _ t470 _ _ t473 t476 t477 _ ?side1 ?side2 ?side3 A31.out).mono ?_); (case side1 => exact HO472.out); (case side2 => repeat (first | exact (Kd.V_reads' HO475.out).2.2 | (with_reducible refine Kd.C_alloc ?_ _) | (with_reducible refine Kd.C_drewN ?_ _) | (with_reducible refine Kd.C_drew ?_))); (case side3 => exact (Kd.V_reads' HO475.out).2.1); rintro e w37 ⟨v478, rfl, ho0, hb⟩; refine ⟨_, rfl, ?_⟩; have n0_ := Aside0.mk (Kd.V_below (by (with_reducible repeat (first | apply Kd.V_alloc | apply Kd.V_drewN | apply Kd.V_drew)); exact HO_1.out) hb); have n1_ := Aside0.mk (Kd.V_below (by (with_reducible repeat (first | apply Kd.V_alloc | apply Kd.V_drewN | apply Kd.V_drew)); exact HO_2.out) hb); have n2_ := Aside0.mk (Kd.V_below (by (with_reducible repeat (first | apply Kd.V_alloc | apply Kd.V_drewN | apply Kd.V_drew)); exact HO_15.out) hb); have n3_ := Aside0.mk (Kd.V_below (by (with_reducible repeat (first | apply Kd.V_alloc | apply Kd.V_drewN | apply Kd.V_drew)); exact HO_16.out) hb); have n4_ := Aside0.mk (Kd.V_below (by (with_reducible repeat (first | apply Kd.V_alloc | apply Kd.V_drewN | apply Kd.V_drew)); exact HO472.out) hb); have n5_ := Aside0.mk (Kd.V_below (by (with_reducible repeat (first | apply Kd.V_alloc | apply Kd.V_drewN | apply Kd.V_drew)); exact HO475.out) hb); have n6_ := Aside0.mk (Kd.V_lower (Kd.V_mono (ok' := fun k_ => ((P1_ k_ ∨ P2_ k_) ∨ w.heap.size ≤ k_)) ho0 (fun k_ hk_ => Or.elim hk_ (fun hs_ => hs_) (fun hn_ => (.inr (Nat.le_trans (below_size (by repeat (first | (with_reducible first | exact HB.out | apply below_alloc | apply pw_below_drewN | apply below_drew1) | exact HB.out))) hn_))))) (below_size (by repeat (first | (with_reducible first | exact HB.out | apply below_alloc | apply pw_below_drewN | apply below_drew1) | exact HB.out)))); have n7_ := Aside0.mk (below_step (by repeat (first | (with_reducible first | exact HB.out | apply below_alloc | apply pw_below_drewN | apply below_drew1) | exact HB.out)) hb); clear HO_1; clear HO_2; clear HO_15; clear HO_16; clear HO472; clear HO475; clear HB; have HO_1 := n0_; have HO_2 := n1_; have HO_15 := n2_; have HO_16 := n3_; have HO472 := n4_; have HO475 := n5_; have HO479 := n6_; have HB := n7_; clear n0_ n1_ n2_ n3_ n4_ n5_ n6_ n7_; (try clear hb); (try clear hb2); (try clear hk); (try clear hi); (try clear ho0)))
                    go_roundg kj16
                    case measure => have := HJ10.out; have := HK2.out; have := HJ16.out; omega
                    case rel => exact ⟨(x13_2), (t476), (t477), (t473), (wrap64 (x17_2 + 1)), (by first | rfl | (simp; done) | (simp [*]; done)), (by first | rfl | (simp; done) | (simp [*]; done)), (by first | rfl | (simp; done) | (simp [*]; done)), H', ⟨by have := HJ10.out; have := HK2.out; have := HJ16.out; omega⟩, ⟨by (with_reducible repeat (first | apply Kd.V_alloc | apply Kd.V_drewN | apply Kd.V_drew)); exact HO_1.out⟩, ⟨by (with_reducible repeat (first | apply Kd.V_alloc | apply Kd.V_drewN | apply Kd.V_drew)); exact HO_2.out⟩, ⟨by (with_reducible repeat (first | apply Kd.V_alloc | apply Kd.V_drewN | apply Kd.V_drew)); exact HO479.out⟩, ⟨by (with_reducible repeat (first | apply Kd.V_alloc | apply Kd.V_drewN | apply Kd.V_drew)); exact HO475.out⟩, ⟨by repeat (first | (with_reducible first | exact HB.out | apply below_alloc | apply pw_below_drewN | apply below_drew1) | exact HB.out)⟩⟩
                · replace c20 := Bool.eq_false_iff.mpr c20
                  subst c20
                  have H1 : ((vernierref06_shift.f kj16 x1_10 x2_10 (wrap64 (x3_10 + 1022))).bind fun bt480 => ((vernierref01_Cmp.f kj16 bt480.1 bt480.2).bind fun t486 => ((vernierref01_Shl.f kj16 x15_2 1).bind fun t487 => ((vernierref01_Cmp.f kj16 t487 x16_2).bind fun t490 => (if a4 = 1 then (vernierref06_Round.j3 kj16 a0 a4 x13_2 x14_2 (decide ((x15_2.length : Int) > 0)) (decide (t486 < 0)) (decide (t490 ≥ 0))) else (if a4 = 2 then (vernierref06_Round.j3 kj16 a0 a4 x13_2 x14_2 (decide ((x15_2.length : Int) > 0)) (decide (t486 < 0)) false) else (if a4 = 3 then (if (x15_2.length : Int) > 0 then (vernierref06_Round.j3 kj16 a0 a4 x13_2 x14_2 (decide ((x15_2.length : Int) > 0)) (decide (t486 < 0)) (!a0)) else (vernierref06_Round.j3 kj16 a0 a4 x13_2 x14_2 (decide ((x15_2.length : Int) > 0)) (decide (t486 < 0)) false)) else (if a4 = 4 then (if (x15_2.length : Int) > 0 then (vernierref06_Round.j3 kj16 a0 a4 x13_2 x14_2 (decide ((x15_2.length : Int) > 0)) (decide (t486 < 0)) a0) else (vernierref06_Round.j3 kj16 a0 a4 x13_2 x14_2 (decide ((x15_2.length : Int) > 0)) (decide (t486 < 0)) false)) else (if t490 > 0 then (vernierref06_Round.j3 kj16 a0 a4 x13_2 x14_2 (decide ((x15_2.length : Int) > 0)) (decide (t486 < 0)) true) else (if t490 = 0 then (vernierref06_Round.j3 kj16 a0 a4 x13_2 x14_2 (decide ((x15_2.length : Int) > 0)) (decide (t486 < 0)) ((Int.tmod x14_2 2) == 1)) else (vernierref06_Round.j3 kj16 a0 a4 x13_2 x14_2 (decide ((x15_2.length : Int) > 0)) (decide (t486 < 0)) false))))))))))) = some (r1, r2) := by rw [if_neg (show ¬ (false = true) by decide)] at H; exact H
                  clear H
                  have H := H1
                  clear H1
                  replace H := Option.bind_eq_some_iff.mp H
                  obtain ⟨⟨t480, t483⟩, A380, H⟩ := H
                  replace H : ((vernierref01_Cmp.f kj16 t480 t483).bind fun t486 => ((vernierref01_Shl.f kj16 x15_2 1).bind fun t487 => ((vernierref01_Cmp.f kj16 t487 x16_2).bind fun t490 => (if a4 = 1 then (vernierref06_Round.j3 kj16 a0 a4 x13_2 x14_2 (decide ((x15_2.length : Int) > 0)) (decide (t486 < 0)) (decide (t490 ≥ 0))) else (if a4 = 2 then (vernierref06_Round.j3 kj16 a0 a4 x13_2 x14_2 (decide ((x15_2.length : Int) > 0)) (decide (t486 < 0)) false) else (if a4 = 3 then (if (x15_2.length : Int) > 0 then (vernierref06_Round.j3 kj16 a0 a4 x13_2 x14_2 (decide ((x15_2.length : Int) > 0)) (decide (t486 < 0)) (!a0)) else (vernierref06_Round.j3 kj16 a0 a4 x13_2 x14_2 (decide ((x15_2.length : Int) > 0)) (decide (t486 < 0)) false)) else (if a4 = 4 then (if (x15_2.length : Int) > 0 then (vernierref06_Round.j3 kj16 a0 a4 x13_2 x14_2 (decide ((x15_2.length : Int) > 0)) (decide (t486 < 0)) a0) else (vernierref06_Round.j3 kj16 a0 a4 x13_2 x14_2 (decide ((x15_2.length : Int) > 0)) (decide (t486 < 0)) false)) else (if t490 > 0 then (vernierref06_Round.j3 kj16 a0 a4 x13_2 x14_2 (decide ((x15_2.length : Int) > 0)) (decide (t486 < 0)) true) else (if t490 = 0 then (vernierref06_Round.j3 kj16 a0 a4 x13_2 x14_2 (decide ((x15_2.length : Int) > 0)) (decide (t486 < 0)) ((Int.tmod x14_2 2) == 1)) else (vernierref06_Round.j3 kj16 a0 a4 x13_2 x14_2 (decide ((x15_2.length : Int) > 0)) (decide (t486 < 0)) false)))))))))) = some (r1, r2) := H
                  have A38 := Aside0.mk A380
                  clear A380
                  replace H := Option.bind_eq_some_iff.mp H
                  obtain ⟨t486, A390, H⟩ := H
                  replace H : ((vernierref01_Shl.f kj16 x15_2 1).bind fun t487 => ((vernierref01_Cmp.f kj16 t487 x16_2).bind fun t490 => (if a4 = 1 then (vernierref06_Round.j3 kj16 a0 a4 x13_2 x14_2 (decide ((x15_2.length : Int) > 0)) (decide (t486 < 0)) (decide (t490 ≥ 0))) else (if a4 = 2 then (vernierref06_Round.j3 kj16 a0 a4 x13_2 x14_2 (decide ((x15_2.length : Int) > 0)) (decide (t486 < 0)) false) else (if a4 = 3 then (if (x15_2.length : Int) > 0 then (vernierref06_Round.j3 kj16 a0 a4 x13_2 x14_2 (decide ((x15_2.length : Int) > 0)) (decide (t486 < 0)) (!a0)) else (vernierref06_Round.j3 kj16 a0 a4 x13_2 x14_2 (decide ((x15_2.length : Int) > 0)) (decide (t486 < 0)) false)) else (if a4 = 4 then (if (x15_2.length : Int) > 0 then (vernierref06_Round.j3 kj16 a0 a4 x13_2 x14_2 (decide ((x15_2.length : Int) > 0)) (decide (t486 < 0)) a0) else (vernierref06_Round.j3 kj16 a0 a4 x13_2 x14_2 (decide ((x15_2.length : Int) > 0)) (decide (t486 < 0)) false)) else (if t490 > 0 then (vernierref06_Round.j3 kj16 a0 a4 x13_2 x14_2 (decide ((x15_2.length : Int) > 0)) (decide (t486 < 0)) true) else (if t490 = 0 then (vernierref06_Round.j3 kj16 a0 a4 x13_2 x14_2 (decide ((x15_2.length : Int) > 0)) (decide (t486 < 0)) ((Int.tmod x14_2 2) == 1)) else (vernierref06_Round.j3 kj16 a0 a4 x13_2 x14_2 (decide ((x15_2.length : Int) > 0)) (decide (t486 < 0)) false))))))))) = some (r1, r2) := H
                  have A39 := Aside0.mk A390
                  clear A390
                  replace H := Option.bind_eq_some_iff.mp H
                  obtain ⟨t487, A400, H⟩ := H
                  replace H : ((vernierref01_Cmp.f kj16 t487 x16_2).bind fun t490 => (if a4 = 1 then (vernierref06_Round.j3 kj16 a0 a4 x13_2 x14_2 (decide ((x15_2.length : Int) > 0)) (decide (t486 < 0)) (decide (t490 ≥ 0))) else (if a4 = 2 then (vernierref06_Round.j3 kj16 a0 a4 x13_2 x14_2 (decide ((x15_2.length : Int) > 0)) (decide (t486 < 0)) false) else (if a4 = 3 then (if (x15_2.length : Int) > 0 then (vernierref06_Round.j3 kj16 a0 a4 x13_2 x14_2 (decide ((x15_2.length : Int) > 0)) (decide (t486 < 0)) (!a0)) else (vernierref06_Round.j3 kj16 a0 a4 x13_2 x14_2 (decide ((x15_2.length : Int) > 0)) (decide (t486 < 0)) false)) else (if a4 = 4 then (if (x15_2.length : Int) > 0 then (vernierref06_Round.j3 kj16 a0 a4 x13_2 x14_2 (decide ((x15_2.length : Int) > 0)) (decide (t486 < 0)) a0) else (vernierref06_Round.j3 kj16 a0 a4 x13_2 x14_2 (decide ((x15_2.length : Int) > 0)) (decide (t486 < 0)) false)) else (if t490 > 0 then (vernierref06_Round.j3 kj16 a0 a4 x13_2 x14_2 (decide ((x15_2.length : Int) > 0)) (decide (t486 < 0)) true) else (if t490 = 0 then (vernierref06_Round.j3 kj16 a0 a4 x13_2 x14_2 (decide ((x15_2.length : Int) > 0)) (decide (t486 < 0)) ((Int.tmod x14_2 2) == 1)) else (vernierref06_Round.j3 kj16 a0 a4 x13_2 x14_2 (decide ((x15_2.length : Int) > 0)) (decide (t486 < 0)) false)))))))) = some (r1, r2) := H
                  have A40 := Aside0.mk A400
                  clear A400
                  replace H := Option.bind_eq_some_iff.mp H
                  obtain ⟨t490, A410, H⟩ := H
                  replace H : (if a4 = 1 then (vernierref06_Round.j3 kj16 a0 a4 x13_2 x14_2 (decide ((x15_2.length : Int) > 0)) (decide (t486 < 0)) (decide (t490 ≥ 0))) else (if a4 = 2 then (vernierref06_Round.j3 kj16 a0 a4 x13_2 x14_2 (decide ((x15_2.length : Int) > 0)) (decide (t486 < 0)) false) else (if a4 = 3 then (if (x15_2.length : Int) > 0 then (vernierref06_Round.j3 kj16 a0 a4 x13_2 x14_2 (decide ((x15_2.length : Int) > 0)) (decide (t486 < 0)) (!a0)) else (vernierref06_Round.j3 kj16 a0 a4 x13_2 x14_2 (decide ((x15_2.length : Int) > 0)) (decide (t486 < 0)) false)) else (if a4 = 4 then (if (x15_2.length : Int) > 0 then (vernierref06_Round.j3 kj16 a0 a4 x13_2 x14_2 (decide ((x15_2.length : Int) > 0)) (decide (t486 < 0)) a0) else (vernierref06_Round.j3 kj16 a0 a4 x13_2 x14_2 (decide ((x15_2.length : Int) > 0)) (decide (t486 < 0)) false)) else (if t490 > 0 then (vernierref06_Round.j3 kj16 a0 a4 x13_2 x14_2 (decide ((x15_2.length : Int) > 0)) (decide (t486 < 0)) true) else (if t490 = 0 then (vernierref06_Round.j3 kj16 a0 a4 x13_2 x14_2 (decide ((x15_2.length : Int) > 0)) (decide (t486 < 0)) ((Int.tmod x14_2 2) == 1)) else (vernierref06_Round.j3 kj16 a0 a4 x13_2 x14_2 (decide ((x15_2.length : Int) > 0)) (decide (t486 < 0)) false))))))) = some (r1, r2) := H
                  have A41 := Aside0.mk A410
                  clear A410
                  have HC42 := Aside0.mk H
                  clear H
                  obtain ⟨Ao43, co43, eo43⟩ := Kd.V_slice HO_15.out
                  subst eo43
                  obtain ⟨Ao44, co44, eo44⟩ := Kd.V_slice HO_1.out
                  subst eo44
                  obtain ⟨Ao45, co45, eo45⟩ := Kd.V_slice HO_2.out
                  subst eo45
                  go_upto_block 2 with (first | ((with_reducible refine gate_callee (f := 106) rfl ?_); refine goesL_ (some 88) rfl rfl Try.func106 (by kernel_rfl) rfl #[.slice Ao44 x1_10.length co44, .slice Ao45 x2_10.length co45, .int .i64 (wrap64 (x3_10 + 1022))] rfl (by (try simp only [List.map_toArray, List.map_cons, List.map_nil]); first | done | rfl | (simp only [List.length_drop, List.length_take]; rfl)) ?_; (with_reducible refine (vernierref06_shift.calls kj16 (fun k_ => ((P1_ k_ ∨ P2_ k_) ∨ w.heap.size ≤ k_)) _ _ x1_10 (fun k_ => ((P1_ k_ ∨ P2_ k_) ∨ w.heap.size ≤ k_)) _ _ x2_10 (wrap64 (x3_10 + 1022)) t480 t483 _ ?side1 ?side2 A38.out).mono ?_); (case side1 => exact HO_1.out); (case side2 => exact HO_2.out); rintro e w46 ⟨v481, v484, rfl, ho0, ho1, hb⟩; refine ⟨_, rfl, ?_⟩; have n0_ := Aside0.mk (Kd.V_below (by (with_reducible repeat (first | apply Kd.V_alloc | apply Kd.V_drewN | apply Kd.V_drew)); exact HO_1.out) hb); have n1_ := Aside0.mk (Kd.V_below (by (with_reducible repeat (first | apply Kd.V_alloc | apply Kd.V_drewN | apply Kd.V_drew)); exact HO_2.out) hb); have n2_ := Aside0.mk (Kd.V_below (by (with_reducible repeat (first | apply Kd.V_alloc | apply Kd.V_drewN | apply Kd.V_drew)); exact HO_15.out) hb); have n3_ := Aside0.mk (Kd.V_below (by (with_reducible repeat (first | apply Kd.V_alloc | apply Kd.V_drewN | apply Kd.V_drew)); exact HO_16.out) hb); have n4_ := Aside0.mk (Kd.V_lower (Kd.V_mono (ok' := fun k_ => ((P1_ k_ ∨ P2_ k_) ∨ w.heap.size ≤ k_)) ho0 (fun k_ hk_ => Or.elim hk_ (fun hs_ => Or.elim hs_ (fun hs_ => hs_) (fun hs_ => hs_)) (fun hn_ => (.inr (Nat.le_trans (below_size (by repeat (first | (with_reducible first | exact HB.out | apply below_alloc | apply pw_below_drewN | apply below_drew1) | exact HB.out))) hn_))))) (below_size (by repeat (first | (with_reducible first | exact HB.out | apply below_alloc | apply pw_below_drewN | apply below_drew1) | exact HB.out)))); have n5_ := Aside0.mk (Kd.V_lower (Kd.V_mono (ok' := fun k_ => ((P1_ k_ ∨ P2_ k_) ∨ w.heap.size ≤ k_)) ho1 (fun k_ hk_ => Or.elim hk_ (fun hs_ => Or.elim hs_ (fun hs_ => hs_) (fun hs_ => hs_)) (fun hn_ => (.inr (Nat.le_trans (below_size (by repeat (first | (with_reducible first | exact HB.out | apply below_alloc | apply pw_below_drewN | apply below_drew1) | exact HB.out))) hn_))))) (below_size (by repeat (first | (with_reducible first | exact HB.out | apply below_alloc | apply pw_below_drewN | apply below_drew1) | exact HB.out)))); have n6_ := Aside0.mk (below_step (by repeat (first | (with_reducible first | exact HB.out | apply below_alloc | apply pw_below_drewN | apply below_drew1) | exact HB.out)) hb); clear HO_1; clear HO_2; clear HO_15; clear HO_16; clear HB; have HO_1 := n0_; have HO_2 := n1_; have HO_15 := n2_; have HO_16 := n3_; have HO482 := n4_; have HO485 := n5_; have HB := n6_; clear n0_ n1_ n2_ n3_ n4_ n5_ n6_; (try clear hb); (try clear hb2); (try clear hk); (try clear hi); (try clear ho0); (try clear ho1); obtain ⟨Ao47, co47, eo47⟩ := Kd.V_slice HO482.out; subst eo47; obtain ⟨Ao48, co48, eo48⟩ := Kd.V_slice HO485.out; subst eo48) | ((with_reducible refine gate_callee (f := 68) rfl ?_); refine goesL_ (some 93) rfl rfl Try.func68 (by kernel_rfl) rfl #[.slice Ao47 t480.length co47, .slice Ao48 t483.length co48] rfl (by (try simp only [List.map_toArray, List.map_cons, List.map_nil]); first | done | rfl | (simp only [List.length_drop, List.length_take]; rfl)) ?_; (with_reducible refine (vernierref01_Cmp.calls kj16 _ _ t480 _ _ t483 t486 _ ?side1 ?side2 ?side3 ?side4 A39.out).mono ?_); (case side1 => repeat (first | exact (Kd.V_reads' HO482.out).2.2 | (with_reducible refine Kd.C_alloc ?_ _) | (with_reducible refine Kd.C_drewN ?_ _) | (with_reducible refine Kd.C_drew ?_))); (case side2 => exact (Kd.V_reads' HO482.out).2.1); (case side3 => repeat (first | exact (Kd.V_reads' HO485.out).2.2 | (with_reducible refine Kd.C_alloc ?_ _) | (with_reducible refine Kd.C_drewN ?_ _) | (with_reducible refine Kd.C_drew ?_))); (case side4 => exact (Kd.V_reads' HO485.out).2.1); rintro e w' ⟨rfl, ⟨nd, rfl⟩⟩; refine ⟨_, rfl, ?_⟩) | ((with_reducible refine gate_callee (f := 23) rfl ?_); refine goesL_ (some 96) rfl rfl Try.func23 (by kernel_rfl) rfl #[.slice Ao43 x15_2.length co43, .int .i64 1] rfl (by (try simp only [List.map_toArray, List.map_cons, List.map_nil]); first | done | rfl | (simp only [List.length_drop, List.length_take]; rfl)) ?_; (with_reducible refine (vernierref01_Shl.calls kj16 _ _ x15_2 1 t487 _ ?side1 ?side2 A40.out).mono ?_); (case side1 => repeat (first | exact (Kd.V_reads' HO_15.out).2.2 | (with_reducible refine Kd.C_alloc ?_ _) | (with_reducible refine Kd.C_drewN ?_ _) | (with_reducible refine Kd.C_drew ?_))); (case side2 => exact (Kd.V_reads' HO_15.out).2.1); rintro e w49 ⟨v488, rfl, ho0, hb⟩; refine ⟨_, rfl, ?_⟩; have n0_ := Aside0.mk (Kd.V_elder' (by (with_reducible repeat (first | apply Kd.V_alloc | apply Kd.V_drewN | apply Kd.V_drew)); exact HO_1.out) (Kd.R_base ho0) hb); have n1_ := Aside0.mk (Kd.V_elder' (by (with_reducible repeat (first | apply Kd.V_alloc | apply Kd.V_drewN | apply Kd.V_drew)); exact HO_2.out) (Kd.R_base ho0) hb); have n2_ := Aside0.mk (Kd.V_elder' (by (with_reducible repeat (first | apply Kd.V_alloc | apply Kd.V_drewN | apply Kd.V_drew)); exact HO_15.out) (Kd.R_base ho0) hb); have n3_ := Aside0.mk (Kd.V_elder' (by (with_reducible repeat (first | apply Kd.V_alloc | apply Kd.V_drewN | apply Kd.V_drew)); exact HO_16.out) (Kd.R_base ho0) hb); have n4_ := Aside0.mk (Kd.V_elder' (by (with_reducible repeat (first | apply Kd.V_alloc | apply Kd.V_drewN | apply Kd.V_drew)); exact HO482.out) (Kd.R_base ho0) hb); have n5_ := Aside0.mk (Kd.V_elder' (by (with_reducible repeat (first | apply Kd.V_alloc | apply Kd.V_drewN | apply Kd.V_drew)); exact HO485.out) (Kd.R_base ho0) hb); have n6_ := Aside0.mk (Kd.R_lower (Kd.R_newM (M := fun k_ => (w.heap.size ≤ k_)) ho0 (below_size (by repeat (first | (with_reducible first | exact HB.out | apply below_alloc | apply pw_below_drewN | apply below_drew1) | exact HB.out))) (fun k_ h_ => h_)) (below_size (by repeat (first | (with_reducible first | exact HB.out | apply below_alloc | apply pw_below_drewN | apply below_drew1) | exact HB.out)))); have n7_ := Aside0.mk (below_step (by repeat (first | (with_reducible first | exact HB.out | apply below_alloc | apply pw_below_drewN | apply below_drew1) | exact HB.out)) hb); clear HO_1; clear HO_2; clear HO_15; clear HO_16; clear HO482; clear HO485; clear HB; have HO_1 := n0_; have HO_2 := n1_; have HO_15 := n2_; have HO_16 := n3_; have HO482 := n4_; have HO485 := n5_; have HO489 := n6_; have HB := n7_; clear n0_ n1_ n2_ n3_ n4_ n5_ n6_ n7_; (try clear hb); (try clear hb2); (try clear hk); (try clear hi); (try clear ho0); obtain ⟨Ao50, co50, eo50⟩ := Kd.R_slice HO489.out; subst eo50; obtain ⟨Ao51, co51, eo51⟩ := Kd.V_slice HO_16.out; subst eo51) | ((with_reducible refine gate_callee (f := 68) rfl ?_); refine goesL_ (some 98) rfl rfl Try.func68 (by kernel_rfl) rfl #[.slice Ao50 t487.length co50, .slice Ao51 x16_2.length co51] rfl (by (try simp only [List.map_toArray, List.map_cons, List.map_nil]); first | done | rfl | (simp only [List.length_drop, List.length_take]; rfl)) ?_; (with_reducible refine (vernierref01_Cmp.calls kj16 _ _ t487 _ _ x16_2 t490 _ ?side1 ?side2 ?side3 ?side4 A41.out).mono ?_); (case side1 => repeat (first | exact (Kd.R_reads' HO489.out).2.2 | (with_reducible refine Kd.C_alloc ?_ _) | (with_reducible refine Kd.C_drewN ?_ _) | (with_reducible refine Kd.C_drew ?_))); (case side2 => exact (Kd.R_reads' HO489.out).2.1); (case side3 => repeat (first | exact (Kd.V_reads' HO_16.out).2.2 | (with_reducible refine Kd.C_alloc ?_ _) | (with_reducible refine Kd.C_drewN ?_ _) | (with_reducible refine Kd.C_drew ?_))); (case side4 => exact (Kd.V_reads' HO_16.out).2.1); rintro e w' ⟨rfl, ⟨nd, rfl⟩⟩; refine ⟨_, rfl, ?_⟩))
                  (try simp only [Act.put, List.setIfInBounds_toArray, List.set_cons_zero, List.set_cons_succ])
                  go_cut [25] (fun v25 wc => ∃ (kq : Nat) (x25_41 : Bool), v25 = .bool x25_41 ∧ Aside0 (vernierref06_Round.j3 kq a0 a4 x13_2 x14_2 (decide ((x15_2.length : Int) > 0)) (decide (t486 < 0)) x25_41 = some (r1, r2)) ∧ Aside0 (kq ≤ kj16) ∧ Aside0 (Below w.heap.size w wc))
                  case first => as_aux_lemma =>
                    have H := HC42.out
                    clear HC42
                    by_cases c52 : a4 = 1
                    · rw [if_pos c52] at H
                      have c52b0 : (a4 == 1) = true := beq_iff_eq.mpr c52
                      have c52b1 : (a4 != 1) = false := bne_eq_false_iff_eq.mpr c52
                      clear c52
                      (first | rw [c52b0] | (simp only [i64_w, i32_w]; rw [c52b0]) | skip)
                      have H' := Aside0.mk H
                      clear H
                      go_wp2
                      go_meet
                      case rel => exact ⟨_, (decide (t490 ≥ 0)), (by first | rfl | (simp; done) | (simp [*]; done)), H', ⟨by have := HJ10.out; have := HK2.out; have := HJ16.out; first | omega | exact Nat.le_refl _⟩, ⟨by repeat (first | (with_reducible first | exact HB.out | apply below_alloc | apply pw_below_drewN | apply below_drew1) | exact HB.out)⟩⟩
                    · rw [if_neg c52] at H
                      have c52b0 : (a4 == 1) = false := beq_eq_false_iff_ne.mpr c52
                      have c52b1 : (a4 != 1) = true := bne_iff_ne.mpr c52
                      (first | rw [c52b0] | (simp only [i64_w, i32_w]; rw [c52b0]) | skip)
                      by_cases c53 : a4 = 2
                      · rw [if_pos c53] at H
                        have c53b0 : (a4 == 2) = true := beq_iff_eq.mpr c53
                        have c53b1 : (a4 != 2) = false := bne_eq_false_iff_eq.mpr c53
                        clear c53
                        have H' := Aside0.mk H
                        clear H
                        go_wp2
                        go_meet
                        case rel => exact ⟨_, (false), (by first | rfl | (simp; done) | (simp [*]; done)), H', ⟨by have := HJ10.out; have := HK2.out; have := HJ16.out; first | omega | exact Nat.le_refl _⟩, ⟨by repeat (first | (with_reducible first | exact HB.out | apply below_alloc | apply pw_below_drewN | apply below_drew1) | exact HB.out)⟩⟩
                      · rw [if_neg c53] at H
                        have c53b0 : (a4 == 2) = false := beq_eq_false_iff_ne.mpr c53
                        have c53b1 : (a4 != 2) = true := bne_iff_ne.mpr c53
                        by_cases c54 : a4 = 3
                        · rw [if_pos c54] at H
                          have c54b0 : (a4 == 3) = true := beq_iff_eq.mpr c54
                          have c54b1 : (a4 != 3) = false := bne_eq_false_iff_eq.mpr c54
                          clear c54
                          by_cases c55 : (x15_2.length : Int) > 0
                          · rw [if_pos c55] at H
                            have c55b0 : decide (0 < (x15_2.length : Int)) = true := decide_eq_true c55
                            have c55b1 : decide (0 < x15_2.length) = true := decide_eq_true (by omega)
                            clear c55
                            have H' := Aside0.mk H
                            clear H
                            go_wp2
                            first | go_meet | (refine Met.intro ?_; go_step; (repeat apply Exists.intro); refine ⟨?rel, (by first | (rw [c55b1]; done) | (rw [c55b1]; rfl) | ((try rw [c55b1]); done) | ((try rw [c55b1]); rfl))⟩)
                            case rel => exact ⟨_, (!a0), (by first | rfl | (simp; done) | (simp [*]; done)), H', ⟨by have := HJ10.out; have := HK2.out; have := HJ16.out; first | omega | exact Nat.le_refl _⟩, ⟨by repeat (first | (with_reducible first | exact HB.out | apply below_alloc | apply pw_below_drewN | apply below_drew1) | exact HB.out)⟩⟩
                          · rw [if_neg c55] at H
                            have c55b0 : decide (0 < (x15_2.length : Int)) = false := decide_eq_false c55
                            have c55b1 : decide (0 < x15_2.length) = false := decide_eq_false (by omega)
                            clear c55
                            have H' := Aside0.mk H
                            clear H
                            go_wp2
                            first | go_meet | (refine Met.intro ?_; go_step; (repeat apply Exists.intro); refine ⟨?rel, (by first | (rw [c55b1]; done) | (rw [c55b1]; rfl) | ((try rw [c55b1]); done) | ((try rw [c55b1]); rfl))⟩)
                            case rel => exact ⟨_, (false), (by first | rfl | (simp; done) | (simp [*]; done)), H', ⟨by have := HJ10.out; have := HK2.out; have := HJ16.out; first | omega | exact Nat.le_refl _⟩, ⟨by repeat (first | (with_reducible first | exact HB.out | apply below_alloc | apply pw_below_drewN | apply below_drew1) | exact HB.out)⟩⟩
                        · rw [if_neg c54] at H
                          have c54b0 : (a4 == 3) = false := beq_eq_false_iff_ne.mpr c54
                          have c54b1 : (a4 != 3) = true := bne_iff_ne.mpr c54
                          by_cases c56 : a4 = 4
                          · rw [if_pos c56] at H
                            have c56b0 : (a4 == 4) = true := beq_iff_eq.mpr c56
                            have c56b1 : (a4 != 4) = false := bne_eq_false_iff_eq.mpr c56
                            clear c56
                            by_cases c57 : (x15_2.length : Int) > 0
                            · rw [if_pos c57] at H
                              have c57b0 : decide (0 < (x15_2.length : Int)) = true := decide_eq_true c57
                              have c57b1 : decide (0 < x15_2.length) = true := decide_eq_true (by omega)
                              clear c57
                              have H' := Aside0.mk H
                              clear H
                              go_wp2
                              first | go_meet | (refine Met.intro ?_; go_step; (repeat apply Exists.intro); refine ⟨?rel, (by first | (rw [c57b1]; done) | (rw [c57b1]; rfl) | ((try rw [c57b1]); done) | ((try rw [c57b1]); rfl))⟩)
                              case rel => exact ⟨_, (a0), (by first | rfl | (simp; done) | (simp [*]; done)), H', ⟨by have := HJ10.out; have := HK2.out; have := HJ16.out; first | omega | exact Nat.le_refl _⟩, ⟨by repeat (first | (with_reducible first | exact HB.out | apply below_alloc | apply pw_below_drewN | apply below_drew1) | exact HB.out)⟩⟩
                            · rw [if_neg c57] at H
                              have c57b0 : decide (0 < (x15_2.length : Int)) = false := decide_eq_false c57
                              have c57b1 : decide (0 < x15_2.length) = false := decide_eq_false (by omega)
                              clear c57
                              have H' := Aside0.mk H
                              clear H
                              go_wp2
                              first | go_meet | (refine Met.intro ?_; go_step; (repeat apply Exists.intro); refine ⟨?rel, (by first | (rw [c57b1]; done) | (rw [c57b1]; rfl) | ((try rw [c57b1]); done) | ((try rw [c57b1]); rfl))⟩)
                              case rel => exact ⟨_, (false), (by first | rfl | (simp; done) | (simp [*]; done)), H', ⟨by have := HJ10.out; have := HK2.out; have := HJ16.out; first | omega | exact Nat.le_refl _⟩, ⟨by repeat (first | (with_reducible first | exact HB.out | apply below_alloc | apply pw_below_drewN | apply below_drew1) | exact HB.out)⟩⟩
                          · rw [if_neg c56] at H
                            have c56b0 : (a4 == 4) = false := beq_eq_false_iff_ne.mpr c56
                            have c56b1 : (a4 != 4) = true := bne_iff_ne.mpr c56
                            by_cases c58 : t490 > 0
                            · rw [if_pos c58] at H
                              have c58b0 : decide (0 < t490) = true := decide_eq_true c58
                              clear c58
                              have H' := Aside0.mk H
                              clear H
                              go_wp2
                              go_meet
                              case rel => exact ⟨_, (true), (by first | rfl | (simp; done) | (simp [*]; done)), H', ⟨by have := HJ10.out; have := HK2.out; have := HJ16.out; first | omega | exact Nat.le_refl _⟩, ⟨by repeat (first | (with_reducible first | exact HB.out | apply below_alloc | apply pw_below_drewN | apply below_drew1) | exact HB.out)⟩⟩
                            · rw [if_neg c58] at H
                              have c58b0 : decide (0 < t490) = false := decide_eq_false c58
                              clear c58
                              by_cases c59 : t490 = 0
                              · rw [if_pos c59] at H
                                have c59b0 : (t490 == 0) = true := beq_iff_eq.mpr c59
                                have c59b1 : (t490 != 0) = false := bne_eq_false_iff_eq.mpr c59
                                clear c59
                                have H' := Aside0.mk H
                                clear H
                                go_wp2
                                go_meet
                                case rel => exact ⟨_, (((Int.tmod x14_2 2) == 1)), (by first | rfl | (simp; done) | (simp [*]; done)), H', ⟨by have := HJ10.out; have := HK2.out; have := HJ16.out; first | omega | exact Nat.le_refl _⟩, ⟨by repeat (first | (with_reducible first | exact HB.out | apply below_alloc | apply pw_below_drewN | apply below_drew1) | exact HB.out)⟩⟩
                              · rw [if_neg c59] at H
                                have c59b0 : (t490 == 0) = false := beq_eq_false_iff_ne.mpr c59
                                have c59b1 : (t490 != 0) = true := bne_iff_ne.mpr c59
                                have H' := Aside0.mk H
                                clear H
                                go_wp2
                                go_meet
                                case rel => exact ⟨_, (false), (by first | rfl | (simp; done) | (simp [*]; done)), H', ⟨by have := HJ10.out; have := HK2.out; have := HJ16.out; first | omega | exact Nat.le_refl _⟩, ⟨by repeat (first | (with_reducible first | exact HB.out | apply below_alloc | apply pw_below_drewN | apply below_drew1) | exact HB.out)⟩⟩
                  case rest => as_aux_lemma =>
                    clear HC42
                    try clear c1
                    try clear c2
                    try clear p2
                    try clear c5
                    try clear c6
                    try clear p6
                    try clear c9
                    try clear c9b0
                    try clear c10
                    try clear c12
                    try clear c12b0
                    try clear c18
                    try clear c18b0
                    try clear c19
                    try clear c19b0
                    try clear c19b1
                    try clear c20
                    try clear c21
                    try clear c21b0
                    try clear c23
                    try clear c52
                    try clear c52b0
                    try clear c52b1
                    try clear c53
                    try clear c53b0
                    try clear c53b1
                    try clear c54
                    try clear c54b0
                    try clear c54b1
                    try clear c55
                    try clear c55b0
                    try clear c55b1
                    try clear c56
                    try clear c56b0
                    try clear c56b1
                    try clear c57
                    try clear c57b0
                    try clear c57b1
                    try clear c58
                    try clear c58b0
                    try clear c59
                    try clear c59b0
                    try clear c59b1
                    try clear p2
                    try clear p6
                    obtain ⟨kq, x25_41, rfl, HA, HJ41, HB⟩ := hcut
                    cases kq with
                    | zero => exact absurd HA.out (by simp [vernierref06_Round.j3])
                    | succ kj41 =>
                      have H := HA.out
                      clear HA
                      simp only [vernierref06_Round.j3] at H
                      have HC60 := Aside0.mk H
                      clear H
                      go_upto_if 130 with (fail)
                      go_cut [14] (fun v14 wc => ∃ (kq : Nat) (x14_59 : Int), v14 = .int .u64 x14_59 ∧ Aside0 (vernierref06_Round.j4 kq a0 a4 x13_2 x14_59 (decide ((x15_2.length : Int) > 0)) (decide (t486 < 0)) = some (r1, r2)) ∧ Aside0 (kq ≤ kj41) ∧ Aside0 (Below w.heap.size w wc))
                      case first => as_aux_lemma =>
                        have H := HC60.out
                        clear HC60
                        by_cases c61 : x25_41 = true
                        · subst c61
                          have H1 : (vernierref06_Round.j4 kj41 a0 a4 x13_2 (IntKind.u64.wrap (x14_2 + 1)) (decide ((x15_2.length : Int) > 0)) (decide (t486 < 0))) = some (r1, r2) := by rw [if_pos rfl] at H; exact H
                          clear H
                          have H := H1
                          clear H1
                          have H' := Aside0.mk H
                          clear H
                          go_wp2
                          go_meet
                          case rel => exact ⟨_, (IntKind.u64.wrap (x14_2 + 1)), (by first | rfl | (simp; done) | (simp [*]; done)), H', ⟨by have := HJ10.out; have := HK2.out; have := HJ16.out; have := HJ41.out; first | omega | exact Nat.le_refl _⟩, ⟨by repeat (first | (with_reducible first | exact HB.out | apply below_alloc | apply pw_below_drewN | apply below_drew1) | exact HB.out)⟩⟩
                        · replace c61 := Bool.eq_false_iff.mpr c61
                          subst c61
                          have H1 : (vernierref06_Round.j4 kj41 a0 a4 x13_2 x14_2 (decide ((x15_2.length : Int) > 0)) (decide (t486 < 0))) = some (r1, r2) := by rw [if_neg (show ¬ (false = true) by decide)] at H; exact H
                          clear H
                          have H := H1
                          clear H1
                          have H' := Aside0.mk H
                          clear H
                          go_wp2
                          go_meet
                          case rel => exact ⟨_, (x14_2), (by first | rfl | (simp; done) | (simp [*]; done)), H', ⟨by have := HJ10.out; have := HK2.out; have := HJ16.out; have := HJ41.out; first | omega | exact Nat.le_refl _⟩, ⟨by repeat (first | (with_reducible first | exact HB.out | apply below_alloc | apply pw_below_drewN | apply below_drew1) | exact HB.out)⟩⟩
                      case rest => as_aux_lemma =>
                        clear HC60
                        try clear c1
                        try clear c2
                        try clear p2
                        try clear c5
                        try clear c6
                        try clear p6
                        try clear c9
                        try clear c9b0
                        try clear c10
                        try clear c12
                        try clear c12b0
                        try clear c18
                        try clear c18b0
                        try clear c19
                        try clear c19b0
                        try clear c19b1
                        try clear c20
                        try clear c21
                        try clear c21b0
                        try clear c23
                        try clear c52
                        try clear c52b0
                        try clear c52b1
                        try clear c53
                        try clear c53b0
                        try clear c53b1
                        try clear c54
                        try clear c54b0
                        try clear c54b1
                        try clear c55
                        try clear c55b0
                        try clear c55b1
                        try clear c56
                        try clear c56b0
                        try clear c56b1
                        try clear c57
                        try clear c57b0
                        try clear c57b1
                        try clear c58
                        try clear c58b0
                        try clear c59
                        try clear c59b0
                        try clear c59b1
                        try clear c61
                        try clear p2
                        try clear p6
                        obtain ⟨kq, x14_59, rfl, HA, HJ59, HB⟩ := hcut
                        cases kq with
                        | zero => exact absurd HA.out (by simp [vernierref06_Round.j4])
                        | succ kj59 =>
                          have H := HA.out
                          clear HA
                          simp only [vernierref06_Round.j4] at H
                          have HC62 := Aside0.mk H
                          clear H
                          go_upto_if 133 with (fail)
                          go_cut [26] (fun v26 wc => ∃ (kq : Nat) (x26_61 : Int), v26 = .int .i64 x26_61 ∧ Aside0 (vernierref06_Round.j5 kq a0 a4 x13_2 x14_59 x26_61 = some (r1, r2)) ∧ Aside0 (kq ≤ kj59) ∧ Aside0 (Below w.heap.size w wc))
                          case first => as_aux_lemma =>
                            have H := HC62.out
                            clear HC62
                            by_cases c63 : (decide ((x15_2.length : Int) > 0)) = true
                            · rw [if_pos c63] at H
                              have c63b0 : (decide ((x15_2.length : Int) > 0)) = true := c63
                              (try (have c63b0m : decide (0 < x15_2.length) = true := decide_eq_true (by have := of_decide_eq_true c63b0; omega)))
                              (try (have c63p := of_decide_eq_true c63b0; (try simp only [gt_iff_lt, Int.natCast_pos, Int.not_lt, Nat.not_lt] at c63p)))
                              clear c63
                              (first | rw [c63b0] | (simp only [i64_w, i32_w]; rw [c63b0]) | skip)
                              by_cases c64 : (decide (t486 < 0)) = true
                              · rw [if_pos c64] at H
                                have c64b0 : (decide (t486 < 0)) = true := c64
                                (try (have c64p := of_decide_eq_true c64b0; (try simp only [gt_iff_lt, Int.natCast_pos, Int.not_lt, Nat.not_lt] at c64p)))
                                clear c64
                                have H' := Aside0.mk H
                                clear H
                                go_wp2
                                first | go_meet | (refine Met.intro ?_; go_step; (repeat apply Exists.intro); refine ⟨?rel, (by first | (rw [c64b0]; done) | (rw [c64b0]; rfl) | (rw [c63b0]; done) | (rw [c63b0]; rfl) | (rw [c63b0m]; done) | (rw [c63b0m]; rfl) | ((try rw [c63b0m]); (try rw [c63b0]); (try rw [c64b0]); done) | ((try rw [c63b0m]); (try rw [c63b0]); (try rw [c64b0]); rfl))⟩)
                                case rel => exact ⟨_, (24), (by first | rfl | (simp; done) | (simp [*]; done)), H', ⟨by have := HJ10.out; have := HK2.out; have := HJ16.out; have := HJ41.out; have := HJ59.out; first | omega | exact Nat.le_refl _⟩, ⟨by repeat (first | (with_reducible first | exact HB.out | apply below_alloc | apply pw_below_drewN | apply below_drew1) | exact HB.out)⟩⟩
                              · rw [if_neg c64] at H
                                have c64b0 : (decide (t486 < 0)) = false := by simpa using c64
                                (try (have c64p := of_decide_eq_false c64b0; (try simp only [gt_iff_lt, Int.natCast_pos, Int.not_lt, Nat.not_lt] at c64p)))
                                clear c64
                                have H' := Aside0.mk H
                                clear H
                                go_wp2
                                first | go_meet | (refine Met.intro ?_; go_step; (repeat apply Exists.intro); refine ⟨?rel, (by first | (rw [c64b0]; done) | (rw [c64b0]; rfl) | (rw [c63b0]; done) | (rw [c63b0]; rfl) | (rw [c63b0m]; done) | (rw [c63b0m]; rfl) | ((try rw [c63b0m]); (try rw [c63b0]); (try rw [c64b0]); done) | ((try rw [c63b0m]); (try rw [c63b0]); (try rw [c64b0]); rfl))⟩)
                                case rel => exact ⟨_, (16), (by first | rfl | (simp; done) | (simp [*]; done)), H', ⟨by have := HJ10.out; have := HK2.out; have := HJ16.out; have := HJ41.out; have := HJ59.out; first | omega | exact Nat.le_refl _⟩, ⟨by repeat (first | (with_reducible first | exact HB.out | apply below_alloc | apply pw_below_drewN | apply below_drew1) | exact HB.out)⟩⟩
                            · rw [if_neg c63] at H
                              have c63b0 : (decide ((x15_2.length : Int) > 0)) = false := by simpa using c63
                              (try (have c63b0m : decide (0 < x15_2.length) = false := decide_eq_false (by have := of_decide_eq_false c63b0; omega)))
                              (try (have c63p := of_decide_eq_false c63b0; (try simp only [gt_iff_lt, Int.natCast_pos, Int.not_lt, Nat.not_lt] at c63p)))
                              clear c63
                              (first | rw [c63b0] | (simp only [i64_w, i32_w]; rw [c63b0]) | skip)
                              have H' := Aside0.mk H
                              clear H
                              go_wp2
                              first | go_meet | (refine Met.intro ?_; go_step; (repeat apply Exists.intro); refine ⟨?rel, (by first | (rw [c63b0]; done) | (rw [c63b0]; rfl) | (rw [c63b0m]; done) | (rw [c63b0m]; rfl) | ((try rw [c63b0m]); (try rw [c63b0]); done) | ((try rw [c63b0m]); (try rw [c63b0]); rfl))⟩)
                              case rel => exact ⟨_, (0), (by first | rfl | (simp; done) | (simp [*]; done)), H', ⟨by have := HJ10.out; have := HK2.out; have := HJ16.out; have := HJ41.out; have := HJ59.out; first | omega | exact Nat.le_refl _⟩, ⟨by repeat (first | (with_reducible first | exact HB.out | apply below_alloc | apply pw_below_drewN | apply below_drew1) | exact HB.out)⟩⟩
                          case rest => as_aux_lemma =>
                            clear HC62
                            try clear c1
                            try clear c2
                            try clear p2
                            try clear c5
                            try clear c6
                            try clear p6
                            try clear c9
                            try clear c9b0
                            try clear c10
                            try clear c12
                            try clear c12b0
                            try clear c18
                            try clear c18b0
                            try clear c19
                            try clear c19b0
                            try clear c19b1
                            try clear c20
                            try clear c21
                            try clear c21b0
                            try clear c23
                            try clear c52
                            try clear c52b0
                            try clear c52b1
                            try clear c53
                            try clear c53b0
                            try clear c53b1
                            try clear c54
                            try clear c54b0
                            try clear c54b1
                            try clear c55
                            try clear c55b0
                            try clear c55b1
                            try clear c56
                            try clear c56b0
                            try clear c56b1
                            try clear c57
                            try clear c57b0
                            try clear c57b1
                            try clear c58
                            try clear c58b0
                            try clear c59
                            try clear c59b0
                            try clear c59b1
                            try clear c61
                            try clear c63
                            try clear c63b0
                            try clear c64
                            try clear c64b0
                            try clear p64
                            try clear p2
                            try clear p6
                            obtain ⟨kq, x26_61, rfl, HA, HJ61, HB⟩ := hcut
                            cases kq with
                            | zero => exact absurd HA.out (by simp [vernierref06_Round.j5])
                            | succ kj61 =>
                              have H := HA.out
                              clear HA
                              simp only [vernierref06_Round.j5] at H
                              have HC65 := Aside0.mk H
                              clear H
                              go_upto_if 136 with (fail)
                              go_cut [13, 14] (fun v13 v14 wc => ∃ (kq : Nat) (x13_64 : Int) (x14_64 : Int), v13 = .int .i64 x13_64 ∧ v14 = .int .u64 x14_64 ∧ Aside0 (vernierref06_Round.j6 kq a0 a4 x13_64 x14_64 x26_61 = some (r1, r2)) ∧ Aside0 (kq ≤ kj61) ∧ Aside0 (Below w.heap.size w wc))
                              case first => as_aux_lemma =>
                                have H := HC65.out
                                clear HC65
                                by_cases c66 : x14_59 ≥ 9007199254740992
                                · rw [if_pos c66] at H
                                  have c66b0 : decide (9007199254740992 ≤ x14_59) = true := decide_eq_true c66
                                  clear c66
                                  (first | rw [c66b0] | (simp only [i64_w, i32_w]; rw [c66b0]) | skip)
                                  have H' := Aside0.mk H
                                  clear H
                                  go_wp2
                                  go_meet
                                  case rel => exact ⟨_, (wrap64 (x13_2 + 1)), (IntKind.u64.wrap (Int.tdiv x14_59 2)), (by first | rfl | (simp; done) | (simp [*]; done)), (by first | rfl | (simp; done) | (simp [*]; done)), H', ⟨by have := HJ10.out; have := HK2.out; have := HJ16.out; have := HJ41.out; have := HJ59.out; have := HJ61.out; first | omega | exact Nat.le_refl _⟩, ⟨by repeat (first | (with_reducible first | exact HB.out | apply below_alloc | apply pw_below_drewN | apply below_drew1) | exact HB.out)⟩⟩
                                · rw [if_neg c66] at H
                                  have c66b0 : decide (9007199254740992 ≤ x14_59) = false := decide_eq_false c66
                                  clear c66
                                  (first | rw [c66b0] | (simp only [i64_w, i32_w]; rw [c66b0]) | skip)
                                  have H' := Aside0.mk H
                                  clear H
                                  go_wp2
                                  go_meet
                                  case rel => exact ⟨_, (x13_2), (x14_59), (by first | rfl | (simp; done) | (simp [*]; done)), (by first | rfl | (simp; done) | (simp [*]; done)), H', ⟨by have := HJ10.out; have := HK2.out; have := HJ16.out; have := HJ41.out; have := HJ59.out; have := HJ61.out; first | omega | exact Nat.le_refl _⟩, ⟨by repeat (first | (with_reducible first | exact HB.out | apply below_alloc | apply pw_below_drewN | apply below_drew1) | exact HB.out)⟩⟩
                              case rest => as_aux_lemma =>
                                clear HC65
                                try clear c1
                                try clear c2
                                try clear p2
                                try clear c5
                                try clear c6
                                try clear p6
                                try clear c9
                                try clear c9b0
                                try clear c10
                                try clear c12
                                try clear c12b0
                                try clear c18
                                try clear c18b0
                                try clear c19
                                try clear c19b0
                                try clear c19b1
                                try clear c20
                                try clear c21
                                try clear c21b0
                                try clear c23
                                try clear c52
                                try clear c52b0
                                try clear c52b1
                                try clear c53
                                try clear c53b0
                                try clear c53b1
                                try clear c54
                                try clear c54b0
                                try clear c54b1
                                try clear c55
                                try clear c55b0
                                try clear c55b1
                                try clear c56
                                try clear c56b0
                                try clear c56b1
                                try clear c57
                                try clear c57b0
                                try clear c57b1
                                try clear c58
                                try clear c58b0
                                try clear c59
                                try clear c59b0
                                try clear c59b1
                                try clear c61
                                try clear c63
                                try clear c63b0
                                try clear c64
                                try clear c64b0
                                try clear p64
                                try clear c66
                                try clear c66b0
                                try clear p2
                                try clear p6
                                try clear p64
                                obtain ⟨kq, x13_64, x14_64, rfl, rfl, HA, HJ64, HB⟩ := hcut
                                cases kq with
                                | zero => exact absurd HA.out (by simp [vernierref06_Round.j6])
                                | succ kj64 =>
                                  have H := HA.out
                                  clear HA
                                  simp only [vernierref06_Round.j6] at H
                                  have HC67 := Aside0.mk H
                                  clear H
                                  go_upto_region 42 with (fail)
                                  go_cut [146] (fun v146 wc => ∃ (kq : Nat) (x146_66 : Bool), v146 = .bool x146_66 ∧ Aside0 (vernierref06_Round.j7 kq a0 a4 x13_64 x14_64 x26_61 x146_66 = some (r1, r2)) ∧ Aside0 (kq ≤ kj64) ∧ Aside0 (Below w.heap.size w wc))
                                  case first => as_aux_lemma =>
                                    have H := HC67.out
                                    clear HC67
                                    by_cases c68 : x14_64 ≥ 4503599627370496
                                    · rw [if_pos c68] at H
                                      have c68b0 : decide (4503599627370496 ≤ x14_64) = true := decide_eq_true c68
                                      clear c68
                                      (first | rw [c68b0] | (simp only [i64_w, i32_w]; rw [c68b0]) | skip)
                                      have H' := Aside0.mk H
                                      clear H
                                      go_wp2
                                      go_meet
                                      case rel => exact ⟨_, (decide (x13_64 > 971)), (by first | rfl | (simp; done) | (simp [*]; done)), H', ⟨by have := HJ10.out; have := HK2.out; have := HJ16.out; have := HJ41.out; have := HJ59.out; have := HJ61.out; have := HJ64.out; first | omega | exact Nat.le_refl _⟩, ⟨by repeat (first | (with_reducible first | exact HB.out | apply below_alloc | apply pw_below_drewN | apply below_drew1) | exact HB.out)⟩⟩
                                    · rw [if_neg c68] at H
                                      have c68b0 : decide (4503599627370496 ≤ x14_64) = false := decide_eq_false c68
                                      clear c68
                                      (first | rw [c68b0] | (simp only [i64_w, i32_w]; rw [c68b0]) | skip)
                                      have H' := Aside0.mk H
                                      clear H
                                      go_wp2
                                      go_meet
                                      case rel => exact ⟨_, (false), (by first | rfl | (simp; done) | (simp [*]; done)), H', ⟨by have := HJ10.out; have := HK2.out; have := HJ16.out; have := HJ41.out; have := HJ59.out; have := HJ61.out; have := HJ64.out; first | omega | exact Nat.le_refl _⟩, ⟨by repeat (first | (with_reducible first | exact HB.out | apply below_alloc | apply pw_below_drewN | apply below_drew1) | exact HB.out)⟩⟩
                                  case rest => as_aux_lemma =>
                                    clear HC67
                                    try clear c1
                                    try clear c2
                                    try clear p2
                                    try clear c5
                                    try clear c6
                                    try clear p6
                                    try clear c9
                                    try clear c9b0
                                    try clear c10
                                    try clear c12
                                    try clear c12b0
                                    try clear c18
                                    try clear c18b0
                                    try clear c19
                                    try clear c19b0
                                    try clear c19b1
                                    try clear c20
                                    try clear c21
                                    try clear c21b0
                                    try clear c23
                                    try clear c52
                                    try clear c52b0
                                    try clear c52b1
                                    try clear c53
                                    try clear c53b0
                                    try clear c53b1
                                    try clear c54
                                    try clear c54b0
                                    try clear c54b1
                                    try clear c55
                                    try clear c55b0
                                    try clear c55b1
                                    try clear c56
                                    try clear c56b0
                                    try clear c56b1
                                    try clear c57
                                    try clear c57b0
                                    try clear c57b1
                                    try clear c58
                                    try clear c58b0
                                    try clear c59
                                    try clear c59b0
                                    try clear c59b1
                                    try clear c61
                                    try clear c63
                                    try clear c63b0
                                    try clear c64
                                    try clear c64b0
                                    try clear p64
                                    try clear c66
                                    try clear c66b0
                                    try clear c68
                                    try clear c68b0
                                    try clear p2
                                    try clear p6
                                    try clear p64
                                    obtain ⟨kq, x146_66, rfl, HA, HJ66, HB⟩ := hcut
                                    cases kq with
                                    | zero => exact absurd HA.out (by simp [vernierref06_Round.j7])
                                    | succ kj66 =>
                                      have H := HA.out
                                      clear HA
                                      simp only [vernierref06_Round.j7] at H
                                      by_cases c69 : x146_66 = true
                                      · subst c69
                                        have H1 : ((vernierref06_big.f kj66 a0 a4).bind fun bt491 => (some (bt491.1, bt491.2))) = some (r1, r2) := by rw [if_pos rfl] at H; exact H
                                        clear H
                                        have H := H1
                                        clear H1
                                        replace H := Option.bind_eq_some_iff.mp H
                                        obtain ⟨⟨t491, t492⟩, A700, H⟩ := H
                                        replace H : (some (t491, t492)) = some (r1, r2) := H
                                        have A70 := Aside0.mk A700
                                        clear A700
                                        simp only [Option.some.injEq, Prod.mk.injEq] at H
                                        obtain ⟨rfl, rfl⟩ := H
                                        go_wp2_with (first | ((with_reducible refine gate_callee (f := 105) rfl ?_); refine goesL_ (some 149) rfl rfl Try.func105 (by kernel_rfl) rfl #[.bool a0, .int .i64 a4] rfl (by (try simp only [List.map_toArray, List.map_cons, List.map_nil]); first | done | rfl | (simp only [List.length_drop, List.length_take]; rfl)) ?_; (with_reducible refine (vernierref06_big.calls kj66 a0 a4 t491 t492 _ A70.out).mono ?_); rintro e w' ⟨rfl, ⟨nd, rfl⟩⟩; refine ⟨_, rfl, ?_⟩))
                                        go_ret2
                                        exact ⟨by first | rfl | (simp [errW_none, errW_some] <;> rfl) | (simp only [← hji8]; first | rfl | (simp [errW_none, errW_some] <;> rfl)) | (simp [*, errW_none, errW_some] <;> rfl), by repeat (first | (with_reducible first | exact HB.out | apply below_alloc | apply pw_below_drewN | apply below_drew1) | exact HB.out)⟩
                                      · replace c69 := Bool.eq_false_iff.mpr c69
                                        subst c69
                                        have H1 : (if x14_64 < 4503599627370496 then ((vernierref06_Zero.f a0).bind fun t493 => (some (IntKind.u64.wrap (t493 + x14_64), x26_61))) else ((vernierref06_Zero.f a0).bind fun t494 => (some (IntKind.u64.wrap ((IntKind.u64.wrap ((IntKind.u64.wrap (t494 + (IntKind.u64.wrap ((IntKind.u64.wrap (wrap64 (x13_64 + 1075))) * 4503599627370496)))) + x14_64)) - 4503599627370496), x26_61)))) = some (r1, r2) := by rw [if_neg (show ¬ (false = true) by decide)] at H; exact H
                                        clear H
                                        have H := H1
                                        clear H1
                                        by_cases c71 : x14_64 < 4503599627370496
                                        · rw [if_pos c71] at H
                                          have c71b0 : decide (x14_64 < 4503599627370496) = true := decide_eq_true c71
                                          clear c71
                                          replace H := Option.bind_eq_some_iff.mp H
                                          obtain ⟨t493, A720, H⟩ := H
                                          replace H : (some (IntKind.u64.wrap (t493 + x14_64), x26_61)) = some (r1, r2) := H
                                          have A72 := Aside0.mk A720
                                          clear A720
                                          simp only [Option.some.injEq, Prod.mk.injEq] at H
                                          obtain ⟨rfl, rfl⟩ := H
                                          go_wp2_with (first | ((with_reducible refine gate_callee (f := 96) rfl ?_); refine goesL_ (some 155) rfl rfl Try.func96 (by kernel_rfl) rfl #[.bool a0] rfl (by (try simp only [List.map_toArray, List.map_cons, List.map_nil]); first | done | rfl | (simp only [List.length_drop, List.length_take]; rfl)) ?_; (with_reducible refine (vernierref06_Zero.calls a0 t493 _ A72.out).mono ?_); rintro e w' ⟨rfl, ⟨nd, rfl⟩⟩; refine ⟨_, rfl, ?_⟩))
                                          go_ret2
                                          exact ⟨by first | rfl | (simp [errW_none, errW_some] <;> rfl) | (simp only [← hji8]; first | rfl | (simp [errW_none, errW_some] <;> rfl)) | (simp [*, errW_none, errW_some] <;> rfl), by repeat (first | (with_reducible first | exact HB.out | apply below_alloc | apply pw_below_drewN | apply below_drew1) | exact HB.out)⟩
                                        · rw [if_neg c71] at H
                                          have c71b0 : decide (x14_64 < 4503599627370496) = false := decide_eq_false c71
                                          clear c71
                                          replace H := Option.bind_eq_some_iff.mp H
                                          obtain ⟨t494, A730, H⟩ := H
                                          replace H : (some (IntKind.u64.wrap ((IntKind.u64.wrap ((IntKind.u64.wrap (t494 + (IntKind.u64.wrap ((IntKind.u64.wrap (wrap64 (x13_64 + 1075))) * 4503599627370496)))) + x14_64)) - 4503599627370496), x26_61)) = some (r1, r2) := H
                                          have A73 := Aside0.mk A730
                                          clear A730
                                          simp only [Option.some.injEq, Prod.mk.injEq] at H
                                          obtain ⟨rfl, rfl⟩ := H
                                          go_wp2_with (first | ((with_reducible refine gate_callee (f := 96) rfl ?_); refine goesL_ (some 160) rfl rfl Try.func96 (by kernel_rfl) rfl #[.bool a0] rfl (by (try simp only [List.map_toArray, List.map_cons, List.map_nil]); first | done | rfl | (simp only [List.length_drop, List.length_take]; rfl)) ?_; (with_reducible refine (vernierref06_Zero.calls a0 t494 _ A73.out).mono ?_); rintro e w' ⟨rfl, ⟨nd, rfl⟩⟩; refine ⟨_, rfl, ?_⟩))
                                          go_ret2
                                          exact ⟨by first | rfl | (simp [errW_none, errW_some] <;> rfl) | (simp only [← hji8]; first | rfl | (simp [errW_none, errW_some] <;> rfl)) | (simp [*, errW_none, errW_some] <;> rfl), by repeat (first | (with_reducible first | exact HB.out | apply below_alloc | apply pw_below_drewN | apply below_drew1) | exact HB.out)⟩
end Go.Proofs.Ytjbpchebabhoeaa.P
end
section
namespace Go.Proofs.Ytjbpchebabhoeaa.P
open Go.RowKit Go.Proofs.YtjbpchebabhoeaaW.PrintWords Go.Proofs.YtjbpchebabhoeaaW.PrintLast Go.Proofs.YtjbpchebabhoeaaW.PrintMore Go.Proofs.Ytjbpchebabhoeaa.X
attribute [local go_sem] max2_int min2_int max_two min_two max_three min_three max_four min_four
set_option linter.unusedVariables false
set_option linter.unusedSimpArgs false
def vernierref06_one.f  : Option (List Int) := some (([1] : List Int))
set_option maxHeartbeats 8000000 in
set_option maxRecDepth 100000 in
theorem vernierref06_one.calls  (r : List Int) (w : World) (h : vernierref06_one.f  = some r) :
    Calls Try.prog 98 #[] w fun e w' => ∃ v0_ : Value, e = .returned (v0_) ∧ Kd.R (Kd.int .i64) 3 w' w.heap.size (fun _ => True) v0_ r ∧ Below w.heap.size w w' := by
  have HB := Aside0.mk (Below.refl w.heap.size w)
  have H : (some (([1] : List Int))) = some r := h
  clear h
  obtain ⟨y495, hy495⟩ : ∃ y_ : List Int, y_ = (([1] : List Int)) := ⟨_, rfl⟩
  replace H : (some y495) = some r := by first | (rw [hy495]; with_reducible exact H) | (have H2_ := (Option.bind_some _ _).symm.trans H; rw [hy495]; with_reducible exact H2_) | (have H2_ := (Option.bind_some _ _).symm.trans H; with_reducible exact H2_) | with_reducible exact H | (rw [hy495]; exact H) | exact H
  have Ny495 := Aside0.mk hy495
  clear hy495
  obtain rfl := Option.some.inj H
  go_enter Try.func98, Try.ntmps98
  go_wp2_with (first | ((with_reducible refine gate_dst (N := 1) rfl ?_); refine Kd.R_lit (Kd.int .i64) _ 3 ?hg (N := 1) ?hd (xs := ([1] : List Int)) (inner := [.int .i64 1]) (ok := fun _ => True) (okp := fun _ => True) ?hr ?hp (fun _ hk => hk) trivial (Below.refl _ _) (Nat.le_refl _) (by simp) ?_; (case hd => rfl); (case hg => rfl); (case hr => first | (go_simp; done) | (go_simp; rfl)); (case hp => exact (Reps.one (show Kd.M (Kd.int .i64) _ _ _ 1 [.int .i64 1] from rfl) (Reps.none _ _))); intro v496 w1 ho2 hb hg_ hnew_; clear hg_ hnew_; (first | rw [← Ny495.out] at ho2 | (simp only [Int.reduceToNat] at ho2; rw [← Ny495.out] at ho2)); have n0_ := Aside0.mk (Kd.R_lower ho2 (below_size (by repeat (first | (with_reducible first | exact HB.out | apply below_alloc | apply pw_below_drewN | apply below_drew1) | exact HB.out)))); have n1_ := Aside0.mk (below_step (by repeat (first | (with_reducible first | exact HB.out | apply below_alloc | apply pw_below_drewN | apply below_drew1) | exact HB.out)) hb); clear HB; have HO497 := n0_; have HB := n1_; clear n0_ n1_; clear hb ho2))
  go_ret
  exact ⟨_, by first | rfl | (simp [errW_none, errW_some] <;> rfl) | (simp [*, errW_none, errW_some] <;> rfl), by (with_reducible repeat (first | apply Kd.R_alloc | apply Kd.R_drewN | apply Kd.R_drew)); exact HO497.out, by repeat (first | (with_reducible first | exact HB.out | apply below_alloc | apply pw_below_drewN | apply below_drew1) | exact HB.out)⟩
end Go.Proofs.Ytjbpchebabhoeaa.P
end
section
namespace Go.Proofs.Ytjbpchebabhoeaa.P
open Go.RowKit Go.Proofs.YtjbpchebabhoeaaW.PrintWords Go.Proofs.YtjbpchebabhoeaaW.PrintLast Go.Proofs.YtjbpchebabhoeaaW.PrintMore Go.Proofs.Ytjbpchebabhoeaa.X
attribute [local go_sem] max2_int min2_int max_two min_two max_three min_three max_four min_four
set_option linter.unusedVariables false
set_option linter.unusedSimpArgs false
def vernierref06_sum.j0 : Nat → Bool → Bool → Int → Int → List Int → Bool → Option (Int × Int)
  | 0, _, _, _, _, _, _ => none
  | k + 1, x0, x3, x6, x16, x17, x18 => if (x17.length : Int) = 0 then (if (x0 == x3) = true then ((vernierref06_Zero.f x0).bind fun t511 => (some (t511, 0))) else ((vernierref06_Zero.f (x6 == 4)).bind fun t512 => (some (t512, 0)))) else ((vernierref06_one.f).bind fun t513 => ((vernierref06_Round.f k x18 x17 t513 x16 x6).bind fun bt516 => (some (bt516.1, bt516.2))))
def vernierref06_sum.f (k : Nat) (a0 : Bool) (l1 : List Int) (a2 : Int) (a3 : Bool) (l4 : List Int) (a5 : Int) (a6 : Int) : Option (Int × Int) := (vernierref01_Shl.f k l1 (wrap64 (a2 - (mn a2 a5)))).bind fun t498 => ((vernierref01_Shl.f k l4 (wrap64 (a5 - (mn a2 a5)))).bind fun t501 => ((vernierref01_Add.f k t498 t501).bind fun t504 => (if (!(a0 == a3)) = true then ((vernierref01_Sub.f k t498 t501).bind fun t507 => ((vernierref01_Cmp.f k t498 t501).bind fun t510 => (if t510 < 0 then (vernierref06_sum.j0 k a0 a3 a6 (mn a2 a5) t507 a3) else (vernierref06_sum.j0 k a0 a3 a6 (mn a2 a5) t507 a0)))) else (vernierref06_sum.j0 k a0 a3 a6 (mn a2 a5) t504 a0))))
theorem vernierref06_sum.mono_l : ∀ k, (∀ y0 y1 y2 y3 y4 y5, LeO (vernierref06_sum.j0 k y0 y1 y2 y3 y4 y5) (vernierref06_sum.j0 (k + 1) y0 y1 y2 y3 y4 y5))
  | 0 => fun _ _ _ _ _ _ r h => by simp [vernierref06_sum.j0] at h
  | k + 1 => by
    have ih0 := vernierref06_sum.mono_l k
    · intro y0 y1 y2 y3 y4 y5
      unfold vernierref06_sum.j0
      repeat' first
      | (with_reducible exact ih0 _ _ _ _ _ _)
      | (with_reducible exact vernierref01_Add.mono _ _ _)
      | (with_reducible exact vernierref01_Cmp.mono _ _ _)
      | (with_reducible exact vernierref01_Shl.mono _ _ _)
      | (with_reducible exact vernierref01_Sub.mono _ _ _)
      | (with_reducible exact vernierref06_Round.mono _ _ _ _ _ _)
      | (with_reducible exact LeO.refl _)
      | (with_reducible exact LeO.none _)
      | (with_reducible refine LeO.ite ?_ ?_)
      | (with_reducible refine LeO.bind ?_ (fun _ => ?_))
      | exact ih0 _ _ _ _ _ _
      | exact vernierref01_Add.mono _ _ _
      | exact vernierref01_Cmp.mono _ _ _
      | exact vernierref01_Shl.mono _ _ _
      | exact vernierref01_Sub.mono _ _ _
      | exact vernierref06_Round.mono _ _ _ _ _ _
      | exact LeO.none _
      | refine LeO.ite ?_ ?_
      | refine LeO.bind ?_ (fun _ => ?_)
theorem vernierref06_sum.mono : ∀ a0 a1 a2 a3 a4 a5 a6 k, LeO (vernierref06_sum.f k a0 a1 a2 a3 a4 a5 a6) (vernierref06_sum.f (k + 1) a0 a1 a2 a3 a4 a5 a6) := by
  intro a0 a1 a2 a3 a4 a5 a6 k
  have ih0 := vernierref06_sum.mono_l k
  unfold vernierref06_sum.f
  repeat' first
      | (with_reducible exact ih0 _ _ _ _ _ _)
      | (with_reducible exact vernierref01_Add.mono _ _ _)
      | (with_reducible exact vernierref01_Cmp.mono _ _ _)
      | (with_reducible exact vernierref01_Shl.mono _ _ _)
      | (with_reducible exact vernierref01_Sub.mono _ _ _)
      | (with_reducible exact vernierref06_Round.mono _ _ _ _ _ _)
      | (with_reducible exact LeO.refl _)
      | (with_reducible exact LeO.none _)
      | (with_reducible refine LeO.ite ?_ ?_)
      | (with_reducible refine LeO.bind ?_ (fun _ => ?_))
      | exact ih0 _ _ _ _ _ _
      | exact vernierref01_Add.mono _ _ _
      | exact vernierref01_Cmp.mono _ _ _
      | exact vernierref01_Shl.mono _ _ _
      | exact vernierref01_Sub.mono _ _ _
      | exact vernierref06_Round.mono _ _ _ _ _ _
      | exact LeO.none _
      | refine LeO.ite ?_ ?_
      | refine LeO.bind ?_ (fun _ => ?_)
set_option maxHeartbeats 8000000 in
set_option maxRecDepth 100000 in
theorem vernierref06_sum.calls (k : Nat) (a0 : Bool) (A1 : Option Addr) (c1 : Nat) (l1 : List Int) (a2 : Int) (a3 : Bool) (A4 : Option Addr) (c4 : Nat) (l4 : List Int) (a5 : Int) (a6 : Int) (r1 : Int) (r2 : Int) (w : World) (hr1 : Kd.C (Kd.int .i64) w A1 l1.length l1) (hc1 : l1.length ≤ c1) (hr4 : Kd.C (Kd.int .i64) w A4 l4.length l4) (hc4 : l4.length ≤ c4) (h : vernierref06_sum.f k a0 l1 a2 a3 l4 a5 a6 = some (r1, r2)) :
    Calls Try.prog 84 #[.bool a0, .slice A1 l1.length c1, .int .i64 a2, .bool a3, .slice A4 l4.length c4, .int .i64 a5, .int .i64 a6] w fun e w' => e = .returned (.tuple #[.int .u64 r1, .int .i64 r2]) ∧ Below w.heap.size w w' := by
  have HR1 := Aside0.mk hr1
  have HC1 := Aside0.mk hc1
  clear hr1 hc1
  have HR4 := Aside0.mk hr4
  have HC4 := Aside0.mk hc4
  clear hr4 hc4
  have HB := Aside0.mk (Below.refl w.heap.size w)
  have H : ((vernierref01_Shl.f k l1 (wrap64 (a2 - (mn a2 a5)))).bind fun t498 => ((vernierref01_Shl.f k l4 (wrap64 (a5 - (mn a2 a5)))).bind fun t501 => ((vernierref01_Add.f k t498 t501).bind fun t504 => (if (!(a0 == a3)) = true then ((vernierref01_Sub.f k t498 t501).bind fun t507 => ((vernierref01_Cmp.f k t498 t501).bind fun t510 => (if t510 < 0 then (vernierref06_sum.j0 k a0 a3 a6 (mn a2 a5) t507 a3) else (vernierref06_sum.j0 k a0 a3 a6 (mn a2 a5) t507 a0)))) else (vernierref06_sum.j0 k a0 a3 a6 (mn a2 a5) t504 a0))))) = some (r1, r2) := h
  clear h
  obtain ⟨ji8, hji8⟩ : ∃ j_ : Int, (mn a2 a5) = j_ := ⟨_, rfl⟩
  replace H : ((vernierref01_Shl.f k l1 (wrap64 (a2 - (ji8)))).bind fun t498 => ((vernierref01_Shl.f k l4 (wrap64 (a5 - (ji8)))).bind fun t501 => ((vernierref01_Add.f k t498 t501).bind fun t504 => (if (!(a0 == a3)) = true then ((vernierref01_Sub.f k t498 t501).bind fun t507 => ((vernierref01_Cmp.f k t498 t501).bind fun t510 => (if t510 < 0 then (vernierref06_sum.j0 k a0 a3 a6 ji8 t507 a3) else (vernierref06_sum.j0 k a0 a3 a6 ji8 t507 a0)))) else (vernierref06_sum.j0 k a0 a3 a6 ji8 t504 a0))))) = some (r1, r2) := by first | (rw [hji8] at H; exact H) | (simp only [hji8] at H ⊢; exact H)
  have hji8_ : (if a5 < a2 then a5 else a2) = ji8 := hji8
  (try (have hji8n := hji8_; simp only [Int.ofNat_lt] at hji8n))
  replace H := Option.bind_eq_some_iff.mp H
  obtain ⟨t498, A90, H⟩ := H
  replace H : ((vernierref01_Shl.f k l4 (wrap64 (a5 - (ji8)))).bind fun t501 => ((vernierref01_Add.f k t498 t501).bind fun t504 => (if (!(a0 == a3)) = true then ((vernierref01_Sub.f k t498 t501).bind fun t507 => ((vernierref01_Cmp.f k t498 t501).bind fun t510 => (if t510 < 0 then (vernierref06_sum.j0 k a0 a3 a6 ji8 t507 a3) else (vernierref06_sum.j0 k a0 a3 a6 ji8 t507 a0)))) else (vernierref06_sum.j0 k a0 a3 a6 ji8 t504 a0)))) = some (r1, r2) := H
  have A9 := Aside0.mk A90
  clear A90
  replace H := Option.bind_eq_some_iff.mp H
  obtain ⟨t501, A100, H⟩ := H
  replace H : ((vernierref01_Add.f k t498 t501).bind fun t504 => (if (!(a0 == a3)) = true then ((vernierref01_Sub.f k t498 t501).bind fun t507 => ((vernierref01_Cmp.f k t498 t501).bind fun t510 => (if t510 < 0 then (vernierref06_sum.j0 k a0 a3 a6 ji8 t507 a3) else (vernierref06_sum.j0 k a0 a3 a6 ji8 t507 a0)))) else (vernierref06_sum.j0 k a0 a3 a6 ji8 t504 a0))) = some (r1, r2) := H
  have A10 := Aside0.mk A100
  clear A100
  replace H := Option.bind_eq_some_iff.mp H
  obtain ⟨t504, A110, H⟩ := H
  replace H : (if (!(a0 == a3)) = true then ((vernierref01_Sub.f k t498 t501).bind fun t507 => ((vernierref01_Cmp.f k t498 t501).bind fun t510 => (if t510 < 0 then (vernierref06_sum.j0 k a0 a3 a6 ji8 t507 a3) else (vernierref06_sum.j0 k a0 a3 a6 ji8 t507 a0)))) else (vernierref06_sum.j0 k a0 a3 a6 ji8 t504 a0)) = some (r1, r2) := H
  have A11 := Aside0.mk A110
  clear A110
  have HC12 := Aside0.mk H
  clear H
  go_enter Try.func84, Try.ntmps84
  go_upto_if 38 with (first | ((with_reducible refine gate_callee (f := 23) rfl ?_); refine goesL_ (some 26) rfl rfl Try.func23 (by kernel_rfl) rfl #[.slice A1 l1.length c1, .int .i64 (wrap64 (a2 - (ji8)))] rfl (by (try simp only [List.map_toArray, List.map_cons, List.map_nil]); first | done | (simp only [hji8]; rfl) | rfl | (simp only [List.length_drop, List.length_take]; rfl)) ?_; (with_reducible refine (vernierref01_Shl.calls k _ _ l1 (wrap64 (a2 - (ji8))) t498 _ ?side1 ?side2 A9.out).mono ?_); (case side1 => repeat (first | exact HR1.out | (with_reducible refine Kd.C_alloc ?_ _) | (with_reducible refine Kd.C_drewN ?_ _) | (with_reducible refine Kd.C_drew ?_))); (case side2 => exact HC1.out); rintro e w13 ⟨v499, rfl, ho0, hb⟩; refine ⟨_, rfl, ?_⟩; have n0_ := Aside0.mk (Kd.R_lower ho0 (below_size (by repeat (first | (with_reducible first | exact HB.out | apply below_alloc | apply pw_below_drewN | apply below_drew1) | exact HB.out)))); have n1_ := Aside0.mk (below_step (by repeat (first | (with_reducible first | exact HB.out | apply below_alloc | apply pw_below_drewN | apply below_drew1) | exact HB.out)) hb); clear HB; have HO500 := n0_; have HB := n1_; clear n0_ n1_; (try clear hb); (try clear hb2); (try clear hk); (try clear hi); (try clear ho0)) | ((with_reducible refine gate_callee (f := 23) rfl ?_); refine goesL_ (some 31) rfl rfl Try.func23 (by kernel_rfl) rfl #[.slice A4 l4.length c4, .int .i64 (wrap64 (a5 - (ji8)))] rfl (by (try simp only [List.map_toArray, List.map_cons, List.map_nil]); first | done | (simp only [hji8]; rfl) | rfl | (simp only [List.length_drop, List.length_take]; rfl)) ?_; (with_reducible refine (vernierref01_Shl.calls k _ _ l4 (wrap64 (a5 - (ji8))) t501 _ ?side1 ?side2 A10.out).mono ?_); (case side1 => repeat (first | exact (Kd.C_below HR4.out HB.out) | (with_reducible refine Kd.C_alloc ?_ _) | (with_reducible refine Kd.C_drewN ?_ _) | (with_reducible refine Kd.C_drew ?_))); (case side2 => exact HC4.out); rintro e w14 ⟨v502, rfl, ho0, hb⟩; refine ⟨_, rfl, ?_⟩; have n0_ := Aside0.mk (Kd.R_elder' (by (with_reducible repeat (first | apply Kd.R_alloc | apply Kd.R_drewN | apply Kd.R_drew)); exact HO500.out) (Kd.R_base ho0) hb); have n1_ := Aside0.mk (Kd.R_lower (Kd.R_new' ho0 (Kd.R_lt (by (with_reducible repeat (first | apply Kd.R_alloc | apply Kd.R_drewN | apply Kd.R_drew)); exact HO500.out))) (below_size (by repeat (first | (with_reducible first | exact HB.out | apply below_alloc | apply pw_below_drewN | apply below_drew1) | exact HB.out)))); have n2_ := Aside0.mk (below_step (by repeat (first | (with_reducible first | exact HB.out | apply below_alloc | apply pw_below_drewN | apply below_drew1) | exact HB.out)) hb); clear HO500; clear HB; have HO500 := n0_; have HO503 := n1_; have HB := n2_; clear n0_ n1_ n2_; (try clear hb); (try clear hb2); (try clear hk); (try clear hi); (try clear ho0); obtain ⟨Ao15, co15, eo15⟩ := Kd.R_slice HO500.out; subst eo15; obtain ⟨Ao16, co16, eo16⟩ := Kd.R_slice HO503.out; subst eo16) | ((with_reducible refine gate_callee (f := 67) rfl ?_); refine goesL_ (some 34) rfl rfl Try.func67 (by kernel_rfl) rfl #[.slice Ao15 t498.length co15, .slice Ao16 t501.length co16] rfl (by (try simp only [List.map_toArray, List.map_cons, List.map_nil]); first | done | rfl | (simp only [List.length_drop, List.length_take]; rfl)) ?_; (with_reducible refine (vernierref01_Add.calls k _ _ t498 _ _ t501 t504 _ ?side1 ?side2 ?side3 ?side4 A11.out).mono ?_); (case side1 => repeat (first | exact (Kd.R_reads' HO500.out).2.2 | (with_reducible refine Kd.C_alloc ?_ _) | (with_reducible refine Kd.C_drewN ?_ _) | (with_reducible refine Kd.C_drew ?_))); (case side2 => exact (Kd.R_reads' HO500.out).2.1); (case side3 => repeat (first | exact (Kd.R_reads' HO503.out).2.2 | (with_reducible refine Kd.C_alloc ?_ _) | (with_reducible refine Kd.C_drewN ?_ _) | (with_reducible refine Kd.C_drew ?_))); (case side4 => exact (Kd.R_reads' HO503.out).2.1); rintro e w17 ⟨v505, rfl, ho0, hb⟩; refine ⟨_, rfl, ?_⟩; have n0_ := Aside0.mk (Kd.R_elder' (by (with_reducible repeat (first | apply Kd.R_alloc | apply Kd.R_drewN | apply Kd.R_drew)); exact HO500.out) (Kd.R_base ho0) hb); have n1_ := Aside0.mk (Kd.R_elder' (by (with_reducible repeat (first | apply Kd.R_alloc | apply Kd.R_drewN | apply Kd.R_drew)); exact HO503.out) (Kd.R_base ho0) hb); have n2_ := Aside0.mk (Kd.R_lower (Kd.R_new' (Kd.R_new' ho0 (Kd.R_lt (by (with_reducible repeat (first | apply Kd.R_alloc | apply Kd.R_drewN | apply Kd.R_drew)); exact HO500.out))) (Kd.R_lt (by (with_reducible repeat (first | apply Kd.R_alloc | apply Kd.R_drewN | apply Kd.R_drew)); exact HO503.out))) (below_size (by repeat (first | (with_reducible first | exact HB.out | apply below_alloc | apply pw_below_drewN | apply below_drew1) | exact HB.out)))); have n3_ := Aside0.mk (below_step (by repeat (first | (with_reducible first | exact HB.out | apply below_alloc | apply pw_below_drewN | apply below_drew1) | exact HB.out)) hb); clear HO500; clear HO503; clear HB; have HO500 := n0_; have HO503 := n1_; have HO506 := n2_; have HB := n3_; clear n0_ n1_ n2_ n3_; (try clear hb); (try clear hb2); (try clear hk); (try clear hi); (try clear ho0)))
  (try simp only [Act.put, List.setIfInBounds_toArray, List.set_cons_zero, List.set_cons_succ])
  go_cut [17, 18] (fun v17 v18 wc => ∃ (kq : Nat) (x17_11 : List Int) (x18_11 : Bool), v18 = .bool x18_11 ∧ Aside0 (vernierref06_sum.j0 kq a0 a3 a6 ji8 x17_11 x18_11 = some (r1, r2)) ∧ Aside0 (kq ≤ k) ∧ Aside0 (Kd.R (Kd.int .i64) 3 wc w.heap.size (fun _ => True) v17 x17_11) ∧ Aside0 (Below w.heap.size w wc))
  case first =>
    have H := HC12.out
    clear HC12
    by_cases c18 : (!(a0 == a3)) = true
    · rw [if_pos c18] at H
      have c18b0 : (!(a0 == a3)) = true := c18
      clear c18
      (first | rw [c18b0] | (simp only [i64_w, i32_w]; rw [c18b0]) | skip)
      replace H := Option.bind_eq_some_iff.mp H
      obtain ⟨t507, A190, H⟩ := H
      replace H : ((vernierref01_Cmp.f k t498 t501).bind fun t510 => (if t510 < 0 then (vernierref06_sum.j0 k a0 a3 a6 ji8 t507 a3) else (vernierref06_sum.j0 k a0 a3 a6 ji8 t507 a0))) = some (r1, r2) := H
      have A19 := Aside0.mk A190
      clear A190
      replace H := Option.bind_eq_some_iff.mp H
      obtain ⟨t510, A200, H⟩ := H
      replace H : (if t510 < 0 then (vernierref06_sum.j0 k a0 a3 a6 ji8 t507 a3) else (vernierref06_sum.j0 k a0 a3 a6 ji8 t507 a0)) = some (r1, r2) := H
      have A20 := Aside0.mk A200
      clear A200
      by_cases c21 : t510 < 0
      · rw [if_pos c21] at H
        have c21b0 : decide (t510 < 0) = true := decide_eq_true c21
        clear c21
        have H' := Aside0.mk H
        clear H
        go_wp2_with (first | ((with_reducible refine gate_callee (f := 69) rfl ?_); refine goesL_ (some 41) rfl rfl Try.func69 (by kernel_rfl) rfl #[.slice Ao15 t498.length co15, .slice Ao16 t501.length co16] rfl (by (try simp only [List.map_toArray, List.map_cons, List.map_nil]); first | done | rfl | (simp only [List.length_drop, List.length_take]; rfl)) ?_; (with_reducible refine (vernierref01_Sub.calls k (fun k_ => some k_ = (.slice Ao15 t498.length co15 : Value).ownBlock) _ _ t498 (fun k_ => some k_ = (.slice Ao16 t501.length co16 : Value).ownBlock) _ _ t501 t507 _ ?side1 ?side2 A19.out).mono ?_); (case side1 => exact Kd.R_V (Kd.R_tight rfl (HO500.out))); (case side2 => exact Kd.R_V (Kd.R_tight rfl (HO503.out))); rintro e w22 ⟨v508, rfl, ho0, hb⟩; refine ⟨_, rfl, ?_⟩; have n0_ := Aside0.mk (Kd.R_elder' (by (with_reducible repeat (first | apply Kd.R_alloc | apply Kd.R_drewN | apply Kd.R_drew)); exact HO500.out) (Kd.R_base ho0) hb); have n1_ := Aside0.mk (Kd.R_elder' (by (with_reducible repeat (first | apply Kd.R_alloc | apply Kd.R_drewN | apply Kd.R_drew)); exact HO503.out) (Kd.R_base ho0) hb); have n2_ := Aside0.mk (Kd.R_elder' (by (with_reducible repeat (first | apply Kd.R_alloc | apply Kd.R_drewN | apply Kd.R_drew)); exact HO506.out) (Kd.R_base ho0) hb); have n3_ := Aside0.mk (Kd.R_lower (Kd.R_new' (Kd.R_new' (Kd.R_new' (Kd.R_mono (ok' := fun k_ => True) ho0 (fun _ hk_ => trivial)) (Kd.R_lt (by (with_reducible repeat (first | apply Kd.R_alloc | apply Kd.R_drewN | apply Kd.R_drew)); exact HO500.out))) (Kd.R_lt (by (with_reducible repeat (first | apply Kd.R_alloc | apply Kd.R_drewN | apply Kd.R_drew)); exact HO503.out))) (Kd.R_lt (by (with_reducible repeat (first | apply Kd.R_alloc | apply Kd.R_drewN | apply Kd.R_drew)); exact HO506.out))) (below_size (by repeat (first | (with_reducible first | exact HB.out | apply below_alloc | apply pw_below_drewN | apply below_drew1) | exact HB.out)))); have n4_ := Aside0.mk (below_step (by repeat (first | (with_reducible first | exact HB.out | apply below_alloc | apply pw_below_drewN | apply below_drew1) | exact HB.out)) hb); clear HO500; clear HO503; clear HO506; clear HB; have HO500 := n0_; have HO503 := n1_; have HO506 := n2_; have HO509 := n3_; have HB := n4_; clear n0_ n1_ n2_ n3_ n4_; (try clear hb); (try clear hb2); (try clear hk); (try clear hi); (try clear ho0)) | ((with_reducible refine gate_callee (f := 68) rfl ?_); refine goesL_ (some 44) rfl rfl Try.func68 (by kernel_rfl) rfl #[.slice Ao15 t498.length co15, .slice Ao16 t501.length co16] rfl (by (try simp only [List.map_toArray, List.map_cons, List.map_nil]); first | done | rfl | (simp only [List.length_drop, List.length_take]; rfl)) ?_; (with_reducible refine (vernierref01_Cmp.calls k _ _ t498 _ _ t501 t510 _ ?side1 ?side2 ?side3 ?side4 A20.out).mono ?_); (case side1 => repeat (first | exact (Kd.R_reads' HO500.out).2.2 | (with_reducible refine Kd.C_alloc ?_ _) | (with_reducible refine Kd.C_drewN ?_ _) | (with_reducible refine Kd.C_drew ?_))); (case side2 => exact (Kd.R_reads' HO500.out).2.1); (case side3 => repeat (first | exact (Kd.R_reads' HO503.out).2.2 | (with_reducible refine Kd.C_alloc ?_ _) | (with_reducible refine Kd.C_drewN ?_ _) | (with_reducible refine Kd.C_drew ?_))); (case side4 => exact (Kd.R_reads' HO503.out).2.1); rintro e w' ⟨rfl, ⟨nd, rfl⟩⟩; refine ⟨_, rfl, ?_⟩))
        go_meet
        case rel => exact ⟨_, (t507), (a3), (by first | rfl | (simp; done) | (simp [*]; done)), H', ⟨by first | omega | exact Nat.le_refl _⟩, ⟨by (with_reducible repeat (first | apply Kd.R_alloc | apply Kd.R_drewN | apply Kd.R_drew)); exact Kd.R_mono HO509.out (fun _ hk => trivial)⟩, ⟨by repeat (first | (with_reducible first | exact HB.out | apply below_alloc | apply pw_below_drewN | apply below_drew1) | exact HB.out)⟩⟩
      · rw [if_neg c21] at H
        have c21b0 : decide (t510 < 0) = false := decide_eq_false c21
        clear c21
        have H' := Aside0.mk H
        clear H
        go_wp2_with (first | ((with_reducible refine gate_callee (f := 69) rfl ?_); refine goesL_ (some 41) rfl rfl Try.func69 (by kernel_rfl) rfl #[.slice Ao15 t498.length co15, .slice Ao16 t501.length co16] rfl (by (try simp only [List.map_toArray, List.map_cons, List.map_nil]); first | done | rfl | (simp only [List.length_drop, List.length_take]; rfl)) ?_; (with_reducible refine (vernierref01_Sub.calls k (fun k_ => some k_ = (.slice Ao15 t498.length co15 : Value).ownBlock) _ _ t498 (fun k_ => some k_ = (.slice Ao16 t501.length co16 : Value).ownBlock) _ _ t501 t507 _ ?side1 ?side2 A19.out).mono ?_); (case side1 => exact Kd.R_V (Kd.R_tight rfl (HO500.out))); (case side2 => exact Kd.R_V (Kd.R_tight rfl (HO503.out))); rintro e w23 ⟨v508, rfl, ho0, hb⟩; refine ⟨_, rfl, ?_⟩; have n0_ := Aside0.mk (Kd.R_elder' (by (with_reducible repeat (first | apply Kd.R_alloc | apply Kd.R_drewN | apply Kd.R_drew)); exact HO500.out) (Kd.R_base ho0) hb); have n1_ := Aside0.mk (Kd.R_elder' (by (with_reducible repeat (first | apply Kd.R_alloc | apply Kd.R_drewN | apply Kd.R_drew)); exact HO503.out) (Kd.R_base ho0) hb); have n2_ := Aside0.mk (Kd.R_elder' (by (with_reducible repeat (first | apply Kd.R_alloc | apply Kd.R_drewN | apply Kd.R_drew)); exact HO506.out) (Kd.R_base ho0) hb); have n3_ := Aside0.mk (Kd.R_lower (Kd.R_new' (Kd.R_new' (Kd.R_new' (Kd.R_mono (ok' := fun k_ => True) ho0 (fun _ hk_ => trivial)) (Kd.R_lt (by (with_reducible repeat (first | apply Kd.R_alloc | apply Kd.R_drewN | apply Kd.R_drew)); exact HO500.out))) (Kd.R_lt (by (with_reducible repeat (first | apply Kd.R_alloc | apply Kd.R_drewN | apply Kd.R_drew)); exact HO503.out))) (Kd.R_lt (by (with_reducible repeat (first | apply Kd.R_alloc | apply Kd.R_drewN | apply Kd.R_drew)); exact HO506.out))) (below_size (by repeat (first | (with_reducible first | exact HB.out | apply below_alloc | apply pw_below_drewN | apply below_drew1) | exact HB.out)))); have n4_ := Aside0.mk (below_step (by repeat (first | (with_reducible first | exact HB.out | apply below_alloc | apply pw_below_drewN | apply below_drew1) | exact HB.out)) hb); clear HO500; clear HO503; clear HO506; clear HB; have HO500 := n0_; have HO503 := n1_; have HO506 := n2_; have HO509 := n3_; have HB := n4_; clear n0_ n1_ n2_ n3_ n4_; (try clear hb); (try clear hb2); (try clear hk); (try clear hi); (try clear ho0)) | ((with_reducible refine gate_callee (f := 68) rfl ?_); refine goesL_ (some 44) rfl rfl Try.func68 (by kernel_rfl) rfl #[.slice Ao15 t498.length co15, .slice Ao16 t501.length co16] rfl (by (try simp only [List.map_toArray, List.map_cons, List.map_nil]); first | done | rfl | (simp only [List.length_drop, List.length_take]; rfl)) ?_; (with_reducible refine (vernierref01_Cmp.calls k _ _ t498 _ _ t501 t510 _ ?side1 ?side2 ?side3 ?side4 A20.out).mono ?_); (case side1 => repeat (first | exact (Kd.R_reads' HO500.out).2.2 | (with_reducible refine Kd.C_alloc ?_ _) | (with_reducible refine Kd.C_drewN ?_ _) | (with_reducible refine Kd.C_drew ?_))); (case side2 => exact (Kd.R_reads' HO500.out).2.1); (case side3 => repeat (first | exact (Kd.R_reads' HO503.out).2.2 | (with_reducible refine Kd.C_alloc ?_ _) | (with_reducible refine Kd.C_drewN ?_ _) | (with_reducible refine Kd.C_drew ?_))); (case side4 => exact (Kd.R_reads' HO503.out).2.1); rintro e w' ⟨rfl, ⟨nd, rfl⟩⟩; refine ⟨_, rfl, ?_⟩))
        go_meet
        case rel => exact ⟨_, (t507), (a0), (by first | rfl | (simp; done) | (simp [*]; done)), H', ⟨by first | omega | exact Nat.le_refl _⟩, ⟨by (with_reducible repeat (first | apply Kd.R_alloc | apply Kd.R_drewN | apply Kd.R_drew)); exact Kd.R_mono HO509.out (fun _ hk => trivial)⟩, ⟨by repeat (first | (with_reducible first | exact HB.out | apply below_alloc | apply pw_below_drewN | apply below_drew1) | exact HB.out)⟩⟩
    · rw [if_neg c18] at H
      have c18b0 : (!(a0 == a3)) = false := by simpa using c18
      clear c18
      (first | rw [c18b0] | (simp only [i64_w, i32_w]; rw [c18b0]) | skip)
      have H' := Aside0.mk H
      clear H
      go_wp2
      go_meet
      case rel => exact ⟨_, (t504), (a0), (by first | rfl | (simp; done) | (simp [*]; done)), H', ⟨by first | omega | exact Nat.le_refl _⟩, ⟨by (with_reducible repeat (first | apply Kd.R_alloc | apply Kd.R_drewN | apply Kd.R_drew)); exact Kd.R_mono HO506.out (fun _ hk => trivial)⟩, ⟨by repeat (first | (with_reducible first | exact HB.out | apply below_alloc | apply pw_below_drewN | apply below_drew1) | exact HB.out)⟩⟩
  case rest =>
    clear HC12
    try clear c1
    try clear c2
    try clear p2
    try clear c4
    try clear c6
    try clear p6
    try clear c8
    try clear c18
    try clear c18b0
    try clear c21
    try clear c21b0
    try clear c23
    obtain ⟨kq, x17_11, x18_11, rfl, HA, HJ11, HO_17, HB⟩ := hcut
    cases kq with
    | zero => exact absurd HA.out (by simp [vernierref06_sum.j0])
    | succ kj11 =>
      have H := HA.out
      clear HA
      simp only [vernierref06_sum.j0] at H
      by_cases c24 : (x17_11.length : Int) = 0
      · rw [if_pos c24] at H
        have c24b0 : ((x17_11.length : Int) == 0) = true := beq_iff_eq.mpr c24
        have c24b1 : ((x17_11.length : Int) != 0) = false := bne_eq_false_iff_eq.mpr c24
        clear c24
        by_cases c25 : (a0 == a3) = true
        · rw [if_pos c25] at H
          have c25b0 : (a0 == a3) = true := c25
          (try (have c25b1 : decide (a0 = a3) = true := by simpa using c25))
          (try (have c25b2 : (a0 == a3) = true := by simpa using c25))
          clear c25
          replace H := Option.bind_eq_some_iff.mp H
          obtain ⟨t511, A260, H⟩ := H
          replace H : (some (t511, 0)) = some (r1, r2) := H
          have A26 := Aside0.mk A260
          clear A260
          simp only [Option.some.injEq, Prod.mk.injEq] at H
          obtain ⟨rfl, rfl⟩ := H
          obtain ⟨Ao27, co27, eo27⟩ := Kd.R_slice HO_17.out
          subst eo27
          go_wp2_with (first | ((with_reducible refine gate_callee (f := 96) rfl ?_); refine goesL_ (some 54) rfl rfl Try.func96 (by kernel_rfl) rfl #[.bool a0] rfl (by (try simp only [List.map_toArray, List.map_cons, List.map_nil]); first | done | rfl | (simp only [List.length_drop, List.length_take]; rfl)) ?_; (with_reducible refine (vernierref06_Zero.calls a0 t511 _ A26.out).mono ?_); rintro e w' ⟨rfl, ⟨nd, rfl⟩⟩; refine ⟨_, rfl, ?_⟩))
          go_ret2
          exact ⟨by first | rfl | (simp [errW_none, errW_some] <;> rfl) | (simp only [← hji8]; first | rfl | (simp [errW_none, errW_some] <;> rfl)) | (simp [*, errW_none, errW_some] <;> rfl), by repeat (first | (with_reducible first | exact HB.out | apply below_alloc | apply pw_below_drewN | apply below_drew1) | exact HB.out)⟩
        · rw [if_neg c25] at H
          have c25b0 : (a0 == a3) = false := by simpa using c25
          (try (have c25b1 : decide (a0 = a3) = false := by simpa using c25))
          (try (have c25b2 : (a0 == a3) = false := by simpa using c25))
          (try (have c25b3 : ¬ (a0 = a3) := by simpa using c25))
          clear c25
          replace H := Option.bind_eq_some_iff.mp H
          obtain ⟨t512, A280, H⟩ := H
          replace H : (some (t512, 0)) = some (r1, r2) := H
          have A28 := Aside0.mk A280
          clear A280
          simp only [Option.some.injEq, Prod.mk.injEq] at H
          obtain ⟨rfl, rfl⟩ := H
          obtain ⟨Ao29, co29, eo29⟩ := Kd.R_slice HO_17.out
          subst eo29
          go_wp2_with (first | ((with_reducible refine gate_callee (f := 96) rfl ?_); refine goesL_ (some 57) rfl rfl Try.func96 (by kernel_rfl) rfl #[.bool (a6 == 4)] rfl (by (try simp only [List.map_toArray, List.map_cons, List.map_nil]); first | done | rfl | (simp only [List.length_drop, List.length_take]; rfl)) ?_; (with_reducible refine (vernierref06_Zero.calls (a6 == 4) t512 _ A28.out).mono ?_); rintro e w' ⟨rfl, ⟨nd, rfl⟩⟩; refine ⟨_, rfl, ?_⟩))
          go_ret2
          exact ⟨by first | rfl | (simp [errW_none, errW_some] <;> rfl) | (simp only [← hji8]; first | rfl | (simp [errW_none, errW_some] <;> rfl)) | (simp [*, errW_none, errW_some] <;> rfl), by repeat (first | (with_reducible first | exact HB.out | apply below_alloc | apply pw_below_drewN | apply below_drew1) | exact HB.out)⟩
      · rw [if_neg c24] at H
        have c24b0 : ((x17_11.length : Int) == 0) = false := beq_eq_false_iff_ne.mpr c24
        have c24b1 : ((x17_11.length : Int) != 0) = true := bne_iff_ne.mpr c24
        have c24b2 : ¬ (x17_11 = []) := fun h_ => c24 (by rw [h_]; rfl)
        replace H := Option.bind_eq_some_iff.mp H
        obtain ⟨t513, A300, H⟩ := H
        replace H : ((vernierref06_Round.f kj11 x18_11 x17_11 t513 ji8 a6).bind fun bt516 => (some (bt516.1, bt516.2))) = some (r1, r2) := H
        have A30 := Aside0.mk A300
        clear A300
        replace H := Option.bind_eq_some_iff.mp H
        obtain ⟨⟨t516, t517⟩, A310, H⟩ := H
        replace H : (some (t516, t517)) = some (r1, r2) := H
        have A31 := Aside0.mk A310
        clear A310
        simp only [Option.some.injEq, Prod.mk.injEq] at H
        obtain ⟨rfl, rfl⟩ := H
        obtain ⟨Ao32, co32, eo32⟩ := Kd.R_slice HO_17.out
        subst eo32
        go_wp2_with (first | ((with_reducible refine gate_callee (f := 98) rfl ?_); refine goesL_ (some 60) rfl rfl Try.func98 (by kernel_rfl) rfl #[] rfl (by (try simp only [List.map_toArray, List.map_cons, List.map_nil]); first | done | rfl | (simp only [List.length_drop, List.length_take]; rfl)) ?_; (with_reducible refine (vernierref06_one.calls  t513 _ A30.out).mono ?_); rintro e w33 ⟨v514, rfl, ho0, hb⟩; refine ⟨_, rfl, ?_⟩; have n0_ := Aside0.mk (Kd.R_elder' (by (with_reducible repeat (first | apply Kd.R_alloc | apply Kd.R_drewN | apply Kd.R_drew)); exact HO_17.out) (Kd.R_base ho0) hb); have n1_ := Aside0.mk (Kd.R_lower (Kd.R_new' ho0 (Kd.R_lt (by (with_reducible repeat (first | apply Kd.R_alloc | apply Kd.R_drewN | apply Kd.R_drew)); exact HO_17.out))) (below_size (by repeat (first | (with_reducible first | exact HB.out | apply below_alloc | apply pw_below_drewN | apply below_drew1) | exact HB.out)))); have n2_ := Aside0.mk (below_step (by repeat (first | (with_reducible first | exact HB.out | apply below_alloc | apply pw_below_drewN | apply below_drew1) | exact HB.out)) hb); clear HO_17; clear HB; have HO_17 := n0_; have HO515 := n1_; have HB := n2_; clear n0_ n1_ n2_; (try clear hb); (try clear hb2); (try clear hk); (try clear hi); (try clear ho0); obtain ⟨Ao34, co34, eo34⟩ := Kd.R_slice HO515.out; subst eo34) | ((with_reducible refine gate_callee (f := 97) rfl ?_); refine goesL_ (some 63) rfl rfl Try.func97 (by kernel_rfl) rfl #[.bool x18_11, .slice Ao32 x17_11.length co32, .slice Ao34 t513.length co34, .int .i64 ji8, .int .i64 a6] rfl (by (try simp only [List.map_toArray, List.map_cons, List.map_nil]); first | done | (simp only [hji8]; rfl) | rfl | (simp only [List.length_drop, List.length_take]; rfl)) ?_; (with_reducible refine (vernierref06_Round.calls kj11 x18_11 (fun k_ => some k_ = (.slice Ao32 x17_11.length co32 : Value).ownBlock) _ _ x17_11 (fun k_ => some k_ = (.slice Ao34 t513.length co34 : Value).ownBlock) _ _ t513 ji8 a6 t516 t517 _ ?side1 ?side2 A31.out).mono ?_); (case side1 => exact Kd.R_V (Kd.R_tight rfl (HO_17.out))); (case side2 => exact Kd.R_V (Kd.R_tight rfl (HO515.out))); rintro e w35 ⟨rfl, hb⟩; refine ⟨_, rfl, ?_⟩; have n0_ := Aside0.mk (Kd.R_below (by (with_reducible repeat (first | apply Kd.R_alloc | apply Kd.R_drewN | apply Kd.R_drew)); exact HO_17.out) hb); have n1_ := Aside0.mk (Kd.R_below (by (with_reducible repeat (first | apply Kd.R_alloc | apply Kd.R_drewN | apply Kd.R_drew)); exact HO515.out) hb); have n2_ := Aside0.mk (below_step (by repeat (first | (with_reducible first | exact HB.out | apply below_alloc | apply pw_below_drewN | apply below_drew1) | exact HB.out)) hb); clear HO_17; clear HO515; clear HB; have HO_17 := n0_; have HO515 := n1_; have HB := n2_; clear n0_ n1_ n2_; (try clear hb); (try clear hb2); (try clear hk); (try clear hi)))
        go_ret2
        exact ⟨by first | rfl | (simp [errW_none, errW_some] <;> rfl) | (simp only [← hji8]; first | rfl | (simp [errW_none, errW_some] <;> rfl)) | (simp [*, errW_none, errW_some] <;> rfl), by repeat (first | (with_reducible first | exact HB.out | apply below_alloc | apply pw_below_drewN | apply below_drew1) | exact HB.out)⟩
end Go.Proofs.Ytjbpchebabhoeaa.P
end
section
namespace Go.Proofs.Ytjbpchebabhoeaa.P
open Go.RowKit Go.Proofs.YtjbpchebabhoeaaW.PrintWords Go.Proofs.YtjbpchebabhoeaaW.PrintLast Go.Proofs.YtjbpchebabhoeaaW.PrintMore Go.Proofs.Ytjbpchebabhoeaa.X
attribute [local go_sem] max2_int min2_int max_two min_two max_three min_three max_four min_four
set_option linter.unusedVariables false
set_option linter.unusedSimpArgs false
mutual
def vernierref01_Of.l0 : Nat → List Int → List Int → Int → Option (List Int)
  | 0, _, _, _ => none
  | k + 1, x0, x3, x4 => if x4 < (x0.length : Int) then (if 0 ≤ x4 then (vernierref01_Of.l1 k x0 x3 x4 (rd x0 x4) 0) else (none)) else ((vernierref01_cut.f k x3).bind fun t162 => (some t162))
def vernierref01_Of.l1 : Nat → List Int → List Int → Int → Int → Int → Option (List Int)
  | 0, _, _, _, _, _ => none
  | k + 1, x0, x3, x4, x5, x6 => if x6 < 4 then (if x3.length < 17592186044416 then (vernierref01_Of.l1 k x0 (x3 ++ [wrap64 (Int.tmod x5 65536)]) x4 (IntKind.u64.wrap (Int.tdiv x5 65536)) (wrap64 (x6 + 1))) else (none)) else (vernierref01_Of.l0 k x0 x3 (wrap64 (x4 + 1)))
end
def vernierref01_Of.f (k : Nat) (l0 : List Int) : Option (List Int) := vernierref01_Of.l0 k l0 ([] : List Int) 0
theorem vernierref01_Of.mono_l : ∀ k, (∀ y0 y1 y2, LeO (vernierref01_Of.l0 k y0 y1 y2) (vernierref01_Of.l0 (k + 1) y0 y1 y2)) ∧ (∀ y0 y1 y2 y3 y4, LeO (vernierref01_Of.l1 k y0 y1 y2 y3 y4) (vernierref01_Of.l1 (k + 1) y0 y1 y2 y3 y4))
  | 0 => ⟨fun _ _ _ r h => by simp [vernierref01_Of.l0] at h, fun _ _ _ _ _ r h => by simp [vernierref01_Of.l1] at h⟩
  | k + 1 => by
    obtain ⟨ih0, ih1⟩ := vernierref01_Of.mono_l k
    refine ⟨?_, ?_⟩
    · intro y0 y1 y2
      unfold vernierref01_Of.l0
      repeat' first
      | (with_reducible exact ih0 _ _ _)
      | (with_reducible exact ih1 _ _ _ _ _)
      | (with_reducible exact vernierref01_cut.mono _ _)
      | (with_reducible exact LeO.refl _)
      | (with_reducible exact LeO.none _)
      | (with_reducible refine LeO.ite ?_ ?_)
      | (with_reducible refine LeO.bind ?_ (fun _ => ?_))
      | exact ih0 _ _ _
      | exact ih1 _ _ _ _ _
      | exact vernierref01_cut.mono _ _
      | exact LeO.none _
      | refine LeO.ite ?_ ?_
      | refine LeO.bind ?_ (fun _ => ?_)
    · intro y0 y1 y2 y3 y4
      unfold vernierref01_Of.l1
      repeat' first
      | (with_reducible exact ih0 _ _ _)
      | (with_reducible exact ih1 _ _ _ _ _)
      | (with_reducible exact vernierref01_cut.mono _ _)
      | (with_reducible exact LeO.refl _)
      | (with_reducible exact LeO.none _)
      | (with_reducible refine LeO.ite ?_ ?_)
      | (with_reducible refine LeO.bind ?_ (fun _ => ?_))
      | exact ih0 _ _ _
      | exact ih1 _ _ _ _ _
      | exact vernierref01_cut.mono _ _
      | exact LeO.none _
      | refine LeO.ite ?_ ?_
      | refine LeO.bind ?_ (fun _ => ?_)
theorem vernierref01_Of.mono : ∀ a0 k, LeO (vernierref01_Of.f k a0) (vernierref01_Of.f (k + 1) a0) := by
  intro a0 k
  obtain ⟨ih0, ih1⟩ := vernierref01_Of.mono_l k
  unfold vernierref01_Of.f
  repeat' first
      | (with_reducible exact ih0 _ _ _)
      | (with_reducible exact ih1 _ _ _ _ _)
      | (with_reducible exact vernierref01_cut.mono _ _)
      | (with_reducible exact LeO.refl _)
      | (with_reducible exact LeO.none _)
      | (with_reducible refine LeO.ite ?_ ?_)
      | (with_reducible refine LeO.bind ?_ (fun _ => ?_))
      | exact ih0 _ _ _
      | exact ih1 _ _ _ _ _
      | exact vernierref01_cut.mono _ _
      | exact LeO.none _
      | refine LeO.ite ?_ ?_
      | refine LeO.bind ?_ (fun _ => ?_)
set_option maxHeartbeats 8000000 in
set_option maxRecDepth 100000 in
theorem vernierref01_Of.calls (k : Nat) (A0 : Option Addr) (c0 : Nat) (l0 : List Int) (r : List Int) (w : World) (hr0 : Kd.C (Kd.int .u64) w A0 l0.length l0) (hc0 : l0.length ≤ c0) (h : vernierref01_Of.f k l0 = some r) :
    Calls Try.prog 19 #[.slice A0 l0.length c0] w fun e w' => ∃ v0_ : Value, e = .returned (v0_) ∧ Kd.R (Kd.int .i64) 3 w' w.heap.size (fun _ => True) v0_ r ∧ Below w.heap.size w w' := by
  have HR0 := Aside0.mk hr0
  have HC0 := Aside0.mk hc0
  clear hr0 hc0
  have HB := Aside0.mk (Below.refl w.heap.size w)
  have H : (vernierref01_Of.l0 k l0 ([] : List Int) 0) = some r := h
  clear h
  have H' := Aside0.mk H
  clear H
  go_enter Try.func19, Try.ntmps19
  go_wp2
  go_loopg [3, 4] k (fun kq v3 v4 w' => ∃ (x3_1 : List Int) (x4_1 : Int), v4 = .int .i64 x4_1 ∧ Aside0 (vernierref01_Of.l0 kq l0 x3_1 x4_1 = some r) ∧ Aside0 (kq ≤ k) ∧ Aside0 (Kd.R (Kd.int .i64) 3 w' w.heap.size (fun _ => True) v3 x3_1) ∧ Aside0 (Below w.heap.size w w'))
  case atStart => exact ⟨(([] : List Int)), (0), (by first | rfl | (simp; done) | (simp [*]; done)), H', ⟨Nat.le_refl _⟩, ⟨by first | exact Kd.R_nil _ _ _ _ _ | exact Kd.N_nil _ _ _ _ _ | exact Kd.V_nil _ _ _ _ _ | exact Kd.Q_nil _ _ _ _ _ | exact Kd.S_nil _ _ _ _ _⟩, ⟨by repeat (first | (with_reducible first | exact HB.out | apply below_alloc | apply pw_below_drewN | apply below_drew1) | exact HB.out)⟩⟩
  case round =>
    clear H'
    try clear c1
    obtain ⟨x3_1, x4_1, rfl, HA, HK1, HO_3, HB⟩ := hrel
    cases gk with
    | zero => exact absurd HA.out (by simp [vernierref01_Of.l0])
    | succ k1 =>
      have H := HA.out
      clear HA
      simp only [vernierref01_Of.l0] at H
      by_cases c2 : x4_1 < (l0.length : Int)
      · rw [if_pos c2] at H
        have c2b0 : decide (x4_1 < (l0.length : Int)) = true := decide_eq_true c2
        clear c2
        by_cases c3 : 0 ≤ x4_1
        · rw [if_pos c3] at H
          have c3b0 : decide (0 ≤ x4_1) = true := decide_eq_true c3
          clear c3
          have H' := Aside0.mk H
          clear H
          have p165 : 0 ≤ (x4_1 : Int) := of_decide_eq_true (by first | (with_reducible assumption) | assumption)
          have q165 : x4_1 < (l0.length : Int) := of_decide_eq_true (by first | (with_reducible assumption) | assumption)
          obtain ⟨ad165, e165, hx165_0⟩ := Kd.at_int HR0.out x4_1 p165 q165
          cases e165
          replace hx165_0 := (HB.out.cell (World.block_lt_of_cell? w _ hx165_0)).trans hx165_0
          replace p165 := eq_true p165
          replace q165 := eq_true q165
          (try (have q165n := q165; simp only [Int.ofNat_lt] at q165n))
          (try (have q165d := q165; simp only [List.length_drop] at q165d))
          go_wp2
          go_loopg [3, 5, 6] k1 (fun kq v3 v5 v6 w' => ∃ (x3_2 : List Int) (x5_2 : Int) (x6_2 : Int), v5 = .int .u64 x5_2 ∧ v6 = .int .i64 x6_2 ∧ Aside0 (vernierref01_Of.l1 kq l0 x3_2 x4_1 x5_2 x6_2 = some r) ∧ Aside0 (kq ≤ k1) ∧ Aside0 (Kd.R (Kd.int .i64) 3 w' w.heap.size (fun _ => True) v3 x3_2) ∧ Aside0 (Below w.heap.size w w'))
          case atStart => exact ⟨(x3_1), (rd l0 x4_1), (0), (by first | rfl | (simp; done) | (simp [*]; done)), (by first | rfl | (simp; done) | (simp [*]; done)), H', ⟨Nat.le_refl _⟩, ⟨by (with_reducible repeat (first | apply Kd.R_alloc | apply Kd.R_drewN | apply Kd.R_drew)); exact HO_3.out⟩, ⟨by repeat (first | (with_reducible first | exact HB.out | apply below_alloc | apply pw_below_drewN | apply below_drew1) | exact HB.out)⟩⟩
          case round =>
            clear H'
            try clear c1
            try clear p1
            try clear q1
            try clear hx1
            try clear c2
            try clear c2b0
            try clear p2
            try clear c3
            try clear c3b0
            try clear hx165_0
            try clear p165
            try clear q165
            obtain ⟨x3_2, x5_2, x6_2, rfl, rfl, HA, HK2, HO_3, HB⟩ := hrel
            cases gk with
            | zero => exact absurd HA.out (by simp [vernierref01_Of.l1])
            | succ k2 =>
              have H := HA.out
              clear HA
              simp only [vernierref01_Of.l1] at H
              by_cases c4 : x6_2 < 4
              · rw [if_pos c4] at H
                have c4b0 : decide (x6_2 < 4) = true := decide_eq_true c4
                clear c4
                by_cases c5 : x3_2.length < 17592186044416
                · rw [if_pos c5] at H
                  have LMc5 := Aside0.mk c5
                  clear c5
                  obtain ⟨y166, hy166⟩ : ∃ y_ : List Int, y_ = (x3_2 ++ [wrap64 (Int.tmod x5_2 65536)]) := ⟨_, rfl⟩
                  replace H : (vernierref01_Of.l1 k2 l0 y166 x4_1 (IntKind.u64.wrap (Int.tdiv x5_2 65536)) (wrap64 (x6_2 + 1))) = some r := by first | (rw [hy166]; with_reducible exact H) | (have H2_ := (Option.bind_some _ _).symm.trans H; rw [hy166]; with_reducible exact H2_) | (have H2_ := (Option.bind_some _ _).symm.trans H; with_reducible exact H2_) | with_reducible exact H | (rw [hy166]; exact H) | exact H
                  have Ny166 := Aside0.mk hy166
                  clear hy166
                  have H' := Aside0.mk H
                  clear H
                  go_wp2_with (first | ((with_reducible refine gate_builtin (b := .append) (xs := #[.tmp 21, .tmp 25]) rfl ?_); at_builtin; refine Kd.R_append (Kd.int .i64) (w0 := w) w.heap.size rfl (.tmp 21) (.tmp 25) 33 3 (.int .i64 0) 8 rfl Try.underlying33 info3 rfl (by decide) (by omega) u3 x3_2 (wrap64 (Int.tmod x5_2 65536)) [.int .i64 (wrap64 (Int.tmod x5_2 65536))] (fun _ => True) (fun _ => False) rfl rfl ?aP (fun _ hk => hk.elim) ?aF ?aO ?aB ?aS ?aL ?_; (case aP => exact rfl); (case aB => exact (by repeat (first | (with_reducible first | exact HB.out | apply below_alloc | apply pw_below_drewN | apply below_drew1) | exact HB.out))); (case aF => exact (fun _ _ => trivial)); (case aO => exact (by (with_reducible repeat (first | apply Kd.R_alloc | apply Kd.R_drewN | apply Kd.R_drew)); exact HO_3.out)); (case aS => exact (below_size (by repeat (first | (with_reducible first | exact HB.out | apply below_alloc | apply pw_below_drewN | apply below_drew1) | exact HB.out)))); (case aL => have := LMc5.out; omega); intro v167 w6 ho hb hg hat; rw [← Ny166.out] at ho; have n0_ := Aside0.mk (hb); have n1_ := Aside0.mk (ho); clear HB; clear HO_3; have HB := n0_; have HO168 := n1_; clear n0_ n1_; clear ho hb hg hat))
                  go_roundg k2
                  case measure => have := HK1.out; have := HK2.out; omega
                  case rel => exact ⟨(y166), (IntKind.u64.wrap (Int.tdiv x5_2 65536)), (wrap64 (x6_2 + 1)), (by first | rfl | (simp; done) | (simp [*]; done)), (by first | rfl | (simp; done) | (simp [*]; done)), H', ⟨by have := HK1.out; have := HK2.out; omega⟩, ⟨by (with_reducible repeat (first | apply Kd.R_alloc | apply Kd.R_drewN | apply Kd.R_drew)); exact HO168.out⟩, ⟨by repeat (first | (with_reducible first | exact HB.out | apply below_alloc | apply pw_below_drewN | apply below_drew1) | exact HB.out)⟩⟩
                · rw [if_neg c5] at H
                  exact absurd H (by simp)
              · rw [if_neg c4] at H
                have c4b0 : decide (x6_2 < 4) = false := decide_eq_false c4
                clear c4
                have H' := Aside0.mk H
                clear H
                go_wp2
                go_roundg k2
                case measure => have := HK1.out; have := HK2.out; omega
                case rel => exact ⟨(x3_2), (wrap64 (x4_1 + 1)), (by first | rfl | (simp; done) | (simp [*]; done)), H', ⟨by have := HK1.out; have := HK2.out; omega⟩, ⟨by (with_reducible repeat (first | apply Kd.R_alloc | apply Kd.R_drewN | apply Kd.R_drew)); exact HO_3.out⟩, ⟨by repeat (first | (with_reducible first | exact HB.out | apply below_alloc | apply pw_below_drewN | apply below_drew1) | exact HB.out)⟩⟩
        · rw [if_neg c3] at H
          exact absurd H (by simp)
      · rw [if_neg c2] at H
        have c2b0 : decide (x4_1 < (l0.length : Int)) = false := decide_eq_false c2
        clear c2
        replace H := Option.bind_eq_some_iff.mp H
        obtain ⟨t162, A70, H⟩ := H
        replace H : (some t162) = some r := H
        have A7 := Aside0.mk A70
        clear A70
        obtain rfl := Option.some.inj H
        obtain ⟨Ao8, co8, eo8⟩ := Kd.R_slice HO_3.out
        subst eo8
        go_wp2_with (first | ((with_reducible refine gate_callee (f := 63) rfl ?_); refine goesL_ (some 30) rfl rfl Try.func63 (by kernel_rfl) rfl #[.slice Ao8 x3_1.length co8] rfl (by (try simp only [List.map_toArray, List.map_cons, List.map_nil]); first | done | rfl | (simp only [List.length_drop, List.length_take]; rfl)) ?_; (with_reducible refine (vernierref01_cut.calls k1 (fun k_ => some k_ = (.slice Ao8 x3_1.length co8 : Value).ownBlock) (.slice Ao8 x3_1.length co8) x3_1 t162 w _ ?side1 ?side2 A7.out).mono ?_); (case side1 => repeat (first | (with_reducible first | exact HB.out | apply below_alloc | apply pw_below_drewN | apply below_drew1) | exact HB.out)); (case side2 => exact Kd.R_tight rfl HO_3.out); rintro e w9 ⟨v163, rfl, ho0, hb, hkp⟩; refine ⟨_, rfl, ?_⟩; have n0_ := Aside0.mk (Kd.R_mono (ok' := fun k_ => True) ho0 (fun k_ hk_ => trivial)); have n1_ := Aside0.mk (hb); clear HB; clear HO_3; have HO164 := n0_; have HB := n1_; clear n0_ n1_; (try clear hb); (try clear hkp); (try clear ho0)))
        go_ret
        exact ⟨_, by first | rfl | (simp [errW_none, errW_some] <;> rfl) | (simp [*, errW_none, errW_some] <;> rfl), by (with_reducible repeat (first | apply Kd.R_alloc | apply Kd.R_drewN | apply Kd.R_drew)); exact HO164.out, by repeat (first | (with_reducible first | exact HB.out | apply below_alloc | apply pw_below_drewN | apply below_drew1) | exact HB.out)⟩
end Go.Proofs.Ytjbpchebabhoeaa.P
end
section
namespace Go.Proofs.Ytjbpchebabhoeaa.P
open Go.RowKit Go.Proofs.YtjbpchebabhoeaaW.PrintWords Go.Proofs.YtjbpchebabhoeaaW.PrintLast Go.Proofs.YtjbpchebabhoeaaW.PrintMore Go.Proofs.Ytjbpchebabhoeaa.X
attribute [local go_sem] max2_int min2_int max_two min_two max_three min_three max_four min_four
set_option linter.unusedVariables false
set_option linter.unusedSimpArgs false
def vernierref01_Word.f (k : Nat) (a0 : Int) : Option (List Int) := (vernierref01_Of.f k (([a0] : List Int))).bind fun t521 => (some t521)
theorem vernierref01_Word.mono : ∀ a0 k, LeO (vernierref01_Word.f k a0) (vernierref01_Word.f (k + 1) a0) := by
  intro a0 k
  unfold vernierref01_Word.f
  repeat' first
      | (with_reducible exact vernierref01_Of.mono _ _)
      | (with_reducible exact LeO.refl _)
      | (with_reducible exact LeO.none _)
      | (with_reducible refine LeO.ite ?_ ?_)
      | (with_reducible refine LeO.bind ?_ (fun _ => ?_))
      | exact vernierref01_Of.mono _ _
      | exact LeO.none _
      | refine LeO.ite ?_ ?_
      | refine LeO.bind ?_ (fun _ => ?_)
set_option maxHeartbeats 8000000 in
set_option maxRecDepth 100000 in
theorem vernierref01_Word.calls (k : Nat) (a0 : Int) (r : List Int) (w : World) (h : vernierref01_Word.f k a0 = some r) :
    Calls Try.prog 85 #[.int .u64 a0] w fun e w' => ∃ v0_ : Value, e = .returned (v0_) ∧ Kd.R (Kd.int .i64) 3 w' w.heap.size (fun _ => True) v0_ r ∧ Below w.heap.size w w' := by
  have HB := Aside0.mk (Below.refl w.heap.size w)
  have H : ((vernierref01_Of.f k (([a0] : List Int))).bind fun t521 => (some t521)) = some r := h
  clear h
  obtain ⟨y518, hy518⟩ : ∃ y_ : List Int, y_ = (([a0] : List Int)) := ⟨_, rfl⟩
  replace H : ((vernierref01_Of.f k y518).bind fun t521 => (some t521)) = some r := by first | (rw [hy518]; with_reducible exact H) | (have H2_ := (Option.bind_some _ _).symm.trans H; rw [hy518]; with_reducible exact H2_) | (have H2_ := (Option.bind_some _ _).symm.trans H; with_reducible exact H2_) | with_reducible exact H | (rw [hy518]; exact H) | exact H
  have Ny518 := Aside0.mk hy518
  clear hy518
  replace H := Option.bind_eq_some_iff.mp H
  obtain ⟨t521, A20, H⟩ := H
  replace H : (some t521) = some r := H
  have A2 := Aside0.mk A20
  clear A20
  obtain rfl := Option.some.inj H
  go_enter Try.func85, Try.ntmps85
  go_wp2_with (first | ((with_reducible refine gate_dst (N := 4) rfl ?_); refine Kd.R_lit (Kd.int .u64) _ 55 ?hg (N := 4) ?hd (xs := ([a0] : List Int)) (inner := [.int .u64 a0]) (ok := fun _ => True) (okp := fun _ => True) ?hr ?hp (fun _ hk => hk) trivial (Below.refl _ _) (Nat.le_refl _) (by simp) ?_; (case hd => rfl); (case hg => rfl); (case hr => first | (go_simp; done) | (go_simp; rfl)); (case hp => exact (Reps.one (show Kd.M (Kd.int .u64) _ _ _ a0 [.int .u64 a0] from rfl) (Reps.none _ _))); intro v519 w3 ho4 hb hg_ hnew_; clear hg_ hnew_; (first | rw [← Ny518.out] at ho4 | (simp only [Int.reduceToNat] at ho4; rw [← Ny518.out] at ho4)); have n0_ := Aside0.mk (Kd.R_lower ho4 (below_size (by repeat (first | (with_reducible first | exact HB.out | apply below_alloc | apply pw_below_drewN | apply below_drew1) | exact HB.out)))); have n1_ := Aside0.mk (below_step (by repeat (first | (with_reducible first | exact HB.out | apply below_alloc | apply pw_below_drewN | apply below_drew1) | exact HB.out)) hb); clear HB; have HO520 := n0_; have HB := n1_; clear n0_ n1_; clear hb ho4; obtain ⟨Ao5, co5, eo5⟩ := Kd.R_slice HO520.out; subst eo5) | ((with_reducible refine gate_callee (f := 19) rfl ?_); refine goesL_ (some 5) rfl rfl Try.func19 (by kernel_rfl) rfl #[.slice Ao5 y518.length co5] rfl (by (try simp only [List.map_toArray, List.map_cons, List.map_nil]); first | done | rfl | (simp only [List.length_drop, List.length_take]; rfl)) ?_; (with_reducible refine (vernierref01_Of.calls k _ _ y518 t521 _ ?side1 ?side2 A2.out).mono ?_); (case side1 => repeat (first | exact (Kd.R_reads' HO520.out).2.2 | (with_reducible refine Kd.C_alloc ?_ _) | (with_reducible refine Kd.C_drewN ?_ _) | (with_reducible refine Kd.C_drew ?_))); (case side2 => exact (Kd.R_reads' HO520.out).2.1); rintro e w6 ⟨v522, rfl, ho0, hb⟩; refine ⟨_, rfl, ?_⟩; have n0_ := Aside0.mk (Kd.R_below (by (with_reducible repeat (first | apply Kd.R_alloc | apply Kd.R_drewN | apply Kd.R_drew)); exact HO520.out) hb); have n1_ := Aside0.mk (Kd.R_lower ho0 (below_size (by repeat (first | (with_reducible first | exact HB.out | apply below_alloc | apply pw_below_drewN | apply below_drew1) | exact HB.out)))); have n2_ := Aside0.mk (below_step (by repeat (first | (with_reducible first | exact HB.out | apply below_alloc | apply pw_below_drewN | apply below_drew1) | exact HB.out)) hb); clear HO520; clear HB; have HO520 := n0_; have HO523 := n1_; have HB := n2_; clear n0_ n1_ n2_; (try clear hb); (try clear hb2); (try clear hk); (try clear hi); (try clear ho0)))
  go_ret
  exact ⟨_, by first | rfl | (simp [errW_none, errW_some] <;> rfl) | (simp [*, errW_none, errW_some] <;> rfl), by (with_reducible repeat (first | apply Kd.R_alloc | apply Kd.R_drewN | apply Kd.R_drew)); exact HO523.out, by repeat (first | (with_reducible first | exact HB.out | apply below_alloc | apply pw_below_drewN | apply below_drew1) | exact HB.out)⟩
end Go.Proofs.Ytjbpchebabhoeaa.P
end
section
namespace Go.Proofs.Ytjbpchebabhoeaa.P
open Go.RowKit Go.Proofs.YtjbpchebabhoeaaW.PrintWords Go.Proofs.YtjbpchebabhoeaaW.PrintLast Go.Proofs.YtjbpchebabhoeaaW.PrintMore Go.Proofs.Ytjbpchebabhoeaa.X
attribute [local go_sem] max2_int min2_int max_two min_two max_three min_three max_four min_four
set_option linter.unusedVariables false
set_option linter.unusedSimpArgs false
mutual
def vernierref06_Add.j0 : Nat → Int → Int → Int → Int → Int → Bool → Option (Int × Int)
  | 0, _, _, _, _, _, _ => none
  | k + 1, x0, x1, x2, x8, x9, x20 => if x20 = true then (some (9221120237041090560, 0)) else (if x8 = 2 then (if x9 = 2 then (vernierref06_Add.j1 k x0 x1 x2 x8 x9 (x0 != x1)) else (vernierref06_Add.j1 k x0 x1 x2 x8 x9 false)) else (vernierref06_Add.j1 k x0 x1 x2 x8 x9 false))
def vernierref06_Add.j1 : Nat → Int → Int → Int → Int → Int → Bool → Option (Int × Int)
  | 0, _, _, _, _, _, _ => none
  | k + 1, x0, x1, x2, x8, x9, x27 => if x27 = true then (some (9221120237041090560, 1)) else (if x8 = 2 then (some (x0, 0)) else (if x9 = 2 then (some (x1, 0)) else ((vernierref06_Split.f x0).bind fun bt526 => ((vernierref06_Split.f x1).bind fun bt529 => ((vernierref01_Word.f k bt526.2.1).bind fun t532 => ((vernierref01_Word.f k bt529.2.1).bind fun t535 => ((vernierref06_sum.f k bt526.1 t532 bt526.2.2 bt529.1 t535 bt529.2.2 x2).bind fun bt538 => (some (bt538.1, bt538.2)))))))))
end
def vernierref06_Add.f (k : Nat) (a0 : Int) (a1 : Int) (a2 : Int) : Option (Int × Int) := (vernierref06_Class.f k a0).bind fun t524 => ((vernierref06_Class.f k a1).bind fun t525 => (if t524 = 3 then (vernierref06_Add.j0 k a0 a1 a2 t524 t525 true) else (vernierref06_Add.j0 k a0 a1 a2 t524 t525 (t525 == 3))))
theorem vernierref06_Add.mono_l : ∀ k, (∀ y0 y1 y2 y3 y4 y5, LeO (vernierref06_Add.j0 k y0 y1 y2 y3 y4 y5) (vernierref06_Add.j0 (k + 1) y0 y1 y2 y3 y4 y5)) ∧ (∀ y0 y1 y2 y3 y4 y5, LeO (vernierref06_Add.j1 k y0 y1 y2 y3 y4 y5) (vernierref06_Add.j1 (k + 1) y0 y1 y2 y3 y4 y5))
  | 0 => ⟨fun _ _ _ _ _ _ r h => by simp [vernierref06_Add.j0] at h, fun _ _ _ _ _ _ r h => by simp [vernierref06_Add.j1] at h⟩
  | k + 1 => by
    obtain ⟨ih0, ih1⟩ := vernierref06_Add.mono_l k
    refine ⟨?_, ?_⟩
    · intro y0 y1 y2 y3 y4 y5
      unfold vernierref06_Add.j0
      repeat' first
      | (with_reducible exact ih0 _ _ _ _ _ _)
      | (with_reducible exact ih1 _ _ _ _ _ _)
      | (with_reducible exact vernierref01_Word.mono _ _)
      | (with_reducible exact vernierref06_Class.mono _ _)
      | (with_reducible exact vernierref06_sum.mono _ _ _ _ _ _ _ _)
      | (with_reducible exact LeO.refl _)
      | (with_reducible exact LeO.none _)
      | (with_reducible refine LeO.ite ?_ ?_)
      | (with_reducible refine LeO.bind ?_ (fun _ => ?_))
      | exact ih0 _ _ _ _ _ _
      | exact ih1 _ _ _ _ _ _
      | exact vernierref01_Word.mono _ _
      | exact vernierref06_Class.mono _ _
      | exact vernierref06_sum.mono _ _ _ _ _ _ _ _
      | exact LeO.none _
      | refine LeO.ite ?_ ?_
      | refine LeO.bind ?_ (fun _ => ?_)
    · intro y0 y1 y2 y3 y4 y5
      unfold vernierref06_Add.j1
      repeat' first
      | (with_reducible exact ih0 _ _ _ _ _ _)
      | (with_reducible exact ih1 _ _ _ _ _ _)
      | (with_reducible exact vernierref01_Word.mono _ _)
      | (with_reducible exact vernierref06_Class.mono _ _)
      | (with_reducible exact vernierref06_sum.mono _ _ _ _ _ _ _ _)
      | (with_reducible exact LeO.refl _)
      | (with_reducible exact LeO.none _)
      | (with_reducible refine LeO.ite ?_ ?_)
      | (with_reducible refine LeO.bind ?_ (fun _ => ?_))
      | exact ih0 _ _ _ _ _ _
      | exact ih1 _ _ _ _ _ _
      | exact vernierref01_Word.mono _ _
      | exact vernierref06_Class.mono _ _
      | exact vernierref06_sum.mono _ _ _ _ _ _ _ _
      | exact LeO.none _
      | refine LeO.ite ?_ ?_
      | refine LeO.bind ?_ (fun _ => ?_)
theorem vernierref06_Add.mono : ∀ a0 a1 a2 k, LeO (vernierref06_Add.f k a0 a1 a2) (vernierref06_Add.f (k + 1) a0 a1 a2) := by
  intro a0 a1 a2 k
  obtain ⟨ih0, ih1⟩ := vernierref06_Add.mono_l k
  unfold vernierref06_Add.f
  repeat' first
      | (with_reducible exact ih0 _ _ _ _ _ _)
      | (with_reducible exact ih1 _ _ _ _ _ _)
      | (with_reducible exact vernierref01_Word.mono _ _)
      | (with_reducible exact vernierref06_Class.mono _ _)
      | (with_reducible exact vernierref06_sum.mono _ _ _ _ _ _ _ _)
      | (with_reducible exact LeO.refl _)
      | (with_reducible exact LeO.none _)
      | (with_reducible refine LeO.ite ?_ ?_)
      | (with_reducible refine LeO.bind ?_ (fun _ => ?_))
      | exact ih0 _ _ _ _ _ _
      | exact ih1 _ _ _ _ _ _
      | exact vernierref01_Word.mono _ _
      | exact vernierref06_Class.mono _ _
      | exact vernierref06_sum.mono _ _ _ _ _ _ _ _
      | exact LeO.none _
      | refine LeO.ite ?_ ?_
      | refine LeO.bind ?_ (fun _ => ?_)
set_option maxHeartbeats 8000000 in
set_option maxRecDepth 100000 in
theorem vernierref06_Add.calls (k : Nat) (a0 : Int) (a1 : Int) (a2 : Int) (r1 : Int) (r2 : Int) (w : World) (h : vernierref06_Add.f k a0 a1 a2 = some (r1, r2)) :
    Calls Try.prog 48 #[.int .u64 a0, .int .u64 a1, .int .i64 a2] w fun e w' => e = .returned (.tuple #[.int .u64 r1, .int .i64 r2]) ∧ Below w.heap.size w w' := by
  have HB := Aside0.mk (Below.refl w.heap.size w)
  have H : ((vernierref06_Class.f k a0).bind fun t524 => ((vernierref06_Class.f k a1).bind fun t525 => (if t524 = 3 then (vernierref06_Add.j0 k a0 a1 a2 t524 t525 true) else (vernierref06_Add.j0 k a0 a1 a2 t524 t525 (t525 == 3))))) = some (r1, r2) := h
  clear h
  replace H := Option.bind_eq_some_iff.mp H
  obtain ⟨t524, A40, H⟩ := H
  replace H : ((vernierref06_Class.f k a1).bind fun t525 => (if t524 = 3 then (vernierref06_Add.j0 k a0 a1 a2 t524 t525 true) else (vernierref06_Add.j0 k a0 a1 a2 t524 t525 (t525 == 3)))) = some (r1, r2) := H
  have A4 := Aside0.mk A40
  clear A40
  replace H := Option.bind_eq_some_iff.mp H
  obtain ⟨t525, A50, H⟩ := H
  replace H : (if t524 = 3 then (vernierref06_Add.j0 k a0 a1 a2 t524 t525 true) else (vernierref06_Add.j0 k a0 a1 a2 t524 t525 (t525 == 3))) = some (r1, r2) := H
  have A5 := Aside0.mk A50
  clear A50
  have HC6 := Aside0.mk H
  clear H
  go_enter Try.func48, Try.ntmps48
  go_upto_region 2 with (first | ((with_reducible refine gate_callee (f := 82) rfl ?_); refine goesL_ (some 17) rfl rfl Try.func82 (by kernel_rfl) rfl #[.int .u64 a0] rfl (by (try simp only [List.map_toArray, List.map_cons, List.map_nil]); first | done | rfl | (simp only [List.length_drop, List.length_take]; rfl)) ?_; (with_reducible refine (vernierref06_Class.calls k a0 t524 _ A4.out).mono ?_); rintro e w' ⟨rfl, ⟨nd, rfl⟩⟩; refine ⟨_, rfl, ?_⟩) | ((with_reducible refine gate_callee (f := 82) rfl ?_); refine goesL_ (some 19) rfl rfl Try.func82 (by kernel_rfl) rfl #[.int .u64 a1] rfl (by (try simp only [List.map_toArray, List.map_cons, List.map_nil]); first | done | rfl | (simp only [List.length_drop, List.length_take]; rfl)) ?_; (with_reducible refine (vernierref06_Class.calls k a1 t525 _ A5.out).mono ?_); rintro e w' ⟨rfl, ⟨nd, rfl⟩⟩; refine ⟨_, rfl, ?_⟩))
  (try simp only [Act.put, List.setIfInBounds_toArray, List.set_cons_zero, List.set_cons_succ])
  go_cut [20] (fun v20 wc => ∃ (kq : Nat) (x20_5 : Bool), v20 = .bool x20_5 ∧ Aside0 (vernierref06_Add.j0 kq a0 a1 a2 t524 t525 x20_5 = some (r1, r2)) ∧ Aside0 (kq ≤ k) ∧ Aside0 (Below w.heap.size w wc))
  case first =>
    have H := HC6.out
    clear HC6
    by_cases c7 : t524 = 3
    · rw [if_pos c7] at H
      have c7b0 : (t524 == 3) = true := beq_iff_eq.mpr c7
      have c7b1 : (t524 != 3) = false := bne_eq_false_iff_eq.mpr c7
      clear c7
      (first | rw [c7b0] | (simp only [i64_w, i32_w]; rw [c7b0]) | skip)
      have H' := Aside0.mk H
      clear H
      go_wp2
      go_meet
      case rel => exact ⟨_, (true), (by first | rfl | (simp; done) | (simp [*]; done)), H', ⟨by first | omega | exact Nat.le_refl _⟩, ⟨by repeat (first | (with_reducible first | exact HB.out | apply below_alloc | apply pw_below_drewN | apply below_drew1) | exact HB.out)⟩⟩
    · rw [if_neg c7] at H
      have c7b0 : (t524 == 3) = false := beq_eq_false_iff_ne.mpr c7
      have c7b1 : (t524 != 3) = true := bne_iff_ne.mpr c7
      (first | rw [c7b0] | (simp only [i64_w, i32_w]; rw [c7b0]) | skip)
      have H' := Aside0.mk H
      clear H
      go_wp2
      go_meet
      case rel => exact ⟨_, ((t525 == 3)), (by first | rfl | (simp; done) | (simp [*]; done)), H', ⟨by first | omega | exact Nat.le_refl _⟩, ⟨by repeat (first | (with_reducible first | exact HB.out | apply below_alloc | apply pw_below_drewN | apply below_drew1) | exact HB.out)⟩⟩
  case rest =>
    clear HC6
    try clear p2
    try clear c4
    try clear c7
    try clear c7b0
    try clear c7b1
    obtain ⟨kq, x20_5, rfl, HA, HJ5, HB⟩ := hcut
    cases kq with
    | zero => exact absurd HA.out (by simp [vernierref06_Add.j0])
    | succ kj5 =>
      have H := HA.out
      clear HA
      simp only [vernierref06_Add.j0] at H
      by_cases c8 : x20_5 = true
      · subst c8
        have H1 : (some (9221120237041090560, 0)) = some (r1, r2) := by rw [if_pos rfl] at H; exact H
        clear H
        have H := H1
        clear H1
        simp only [Option.some.injEq, Prod.mk.injEq] at H
        obtain ⟨rfl, rfl⟩ := H
        go_wp2
        go_ret2
        exact ⟨by first | rfl | (simp [errW_none, errW_some] <;> rfl) | (simp [*, errW_none, errW_some] <;> rfl), by repeat (first | (with_reducible first | exact HB.out | apply below_alloc | apply pw_below_drewN | apply below_drew1) | exact HB.out)⟩
      · replace c8 := Bool.eq_false_iff.mpr c8
        subst c8
        have H1 : (if t524 = 2 then (if t525 = 2 then (vernierref06_Add.j1 kj5 a0 a1 a2 t524 t525 (a0 != a1)) else (vernierref06_Add.j1 kj5 a0 a1 a2 t524 t525 false)) else (vernierref06_Add.j1 kj5 a0 a1 a2 t524 t525 false)) = some (r1, r2) := by rw [if_neg (show ¬ (false = true) by decide)] at H; exact H
        clear H
        have H := H1
        clear H1
        have HC9 := Aside0.mk H
        clear H
        go_upto_region 4 with (fail)
        go_cut [27] (fun v27 wc => ∃ (kq : Nat) (x27_8 : Bool), v27 = .bool x27_8 ∧ Aside0 (vernierref06_Add.j1 kq a0 a1 a2 t524 t525 x27_8 = some (r1, r2)) ∧ Aside0 (kq ≤ kj5) ∧ Aside0 (Below w.heap.size w wc))
        case first =>
          have H := HC9.out
          clear HC9
          by_cases c10 : t524 = 2
          · rw [if_pos c10] at H
            have c10b0 : (t524 == 2) = true := beq_iff_eq.mpr c10
            have c10b1 : (t524 != 2) = false := bne_eq_false_iff_eq.mpr c10
            clear c10
            (first | rw [c10b0] | (simp only [i64_w, i32_w]; rw [c10b0]) | skip)
            by_cases c11 : t525 = 2
            · rw [if_pos c11] at H
              have c11b0 : (t525 == 2) = true := beq_iff_eq.mpr c11
              have c11b1 : (t525 != 2) = false := bne_eq_false_iff_eq.mpr c11
              clear c11
              have H' := Aside0.mk H
              clear H
              go_wp2
              go_meet
              case rel => exact ⟨_, ((a0 != a1)), (by first | rfl | (simp; done) | (simp [*]; done)), H', ⟨by have := HJ5.out; first | omega | exact Nat.le_refl _⟩, ⟨by repeat (first | (with_reducible first | exact HB.out | apply below_alloc | apply pw_below_drewN | apply below_drew1) | exact HB.out)⟩⟩
            · rw [if_neg c11] at H
              have c11b0 : (t525 == 2) = false := beq_eq_false_iff_ne.mpr c11
              have c11b1 : (t525 != 2) = true := bne_iff_ne.mpr c11
              have H' := Aside0.mk H
              clear H
              go_wp2
              go_meet
              case rel => exact ⟨_, (false), (by first | rfl | (simp; done) | (simp [*]; done)), H', ⟨by have := HJ5.out; first | omega | exact Nat.le_refl _⟩, ⟨by repeat (first | (with_reducible first | exact HB.out | apply below_alloc | apply pw_below_drewN | apply below_drew1) | exact HB.out)⟩⟩
          · rw [if_neg c10] at H
            have c10b0 : (t524 == 2) = false := beq_eq_false_iff_ne.mpr c10
            have c10b1 : (t524 != 2) = true := bne_iff_ne.mpr c10
            (first | rw [c10b0] | (simp only [i64_w, i32_w]; rw [c10b0]) | skip)
            have H' := Aside0.mk H
            clear H
            go_wp2
            go_meet
            case rel => exact ⟨_, (false), (by first | rfl | (simp; done) | (simp [*]; done)), H', ⟨by have := HJ5.out; first | omega | exact Nat.le_refl _⟩, ⟨by repeat (first | (with_reducible first | exact HB.out | apply below_alloc | apply pw_below_drewN | apply below_drew1) | exact HB.out)⟩⟩
        case rest =>
          clear HC9
          try clear c1
          try clear p2
          try clear c4
          try clear c7
          try clear c7b0
          try clear c7b1
          try clear c8
          try clear c10
          try clear c10b0
          try clear c10b1
          try clear c11
          try clear c11b0
          try clear c11b1
          try clear p2
          obtain ⟨kq, x27_8, rfl, HA, HJ8, HB⟩ := hcut
          cases kq with
          | zero => exact absurd HA.out (by simp [vernierref06_Add.j1])
          | succ kj8 =>
            have H := HA.out
            clear HA
            simp only [vernierref06_Add.j1] at H
            by_cases c12 : x27_8 = true
            · subst c12
              have H1 : (some (9221120237041090560, 1)) = some (r1, r2) := by rw [if_pos rfl] at H; exact H
              clear H
              have H := H1
              clear H1
              simp only [Option.some.injEq, Prod.mk.injEq] at H
              obtain ⟨rfl, rfl⟩ := H
              go_wp2
              go_ret2
              exact ⟨by first | rfl | (simp [errW_none, errW_some] <;> rfl) | (simp [*, errW_none, errW_some] <;> rfl), by repeat (first | (with_reducible first | exact HB.out | apply below_alloc | apply pw_below_drewN | apply below_drew1) | exact HB.out)⟩
            · replace c12 := Bool.eq_false_iff.mpr c12
              subst c12
              have H1 : (if t524 = 2 then (some (a0, 0)) else (if t525 = 2 then (some (a1, 0)) else ((vernierref06_Split.f a0).bind fun bt526 => ((vernierref06_Split.f a1).bind fun bt529 => ((vernierref01_Word.f kj8 bt526.2.1).bind fun t532 => ((vernierref01_Word.f kj8 bt529.2.1).bind fun t535 => ((vernierref06_sum.f kj8 bt526.1 t532 bt526.2.2 bt529.1 t535 bt529.2.2 a2).bind fun bt538 => (some (bt538.1, bt538.2))))))))) = some (r1, r2) := by rw [if_neg (show ¬ (false = true) by decide)] at H; exact H
              clear H
              have H := H1
              clear H1
              by_cases c13 : t524 = 2
              · rw [if_pos c13] at H
                have c13b0 : (t524 == 2) = true := beq_iff_eq.mpr c13
                have c13b1 : (t524 != 2) = false := bne_eq_false_iff_eq.mpr c13
                clear c13
                simp only [Option.some.injEq, Prod.mk.injEq] at H
                obtain ⟨rfl, rfl⟩ := H
                go_wp2
                go_ret2
                exact ⟨by first | rfl | (simp [errW_none, errW_some] <;> rfl) | (simp [*, errW_none, errW_some] <;> rfl), by repeat (first | (with_reducible first | exact HB.out | apply below_alloc | apply pw_below_drewN | apply below_drew1) | exact HB.out)⟩
              · rw [if_neg c13] at H
                have c13b0 : (t524 == 2) = false := beq_eq_false_iff_ne.mpr c13
                have c13b1 : (t524 != 2) = true := bne_iff_ne.mpr c13
                by_cases c14 : t525 = 2
                · rw [if_pos c14] at H
                  have c14b0 : (t525 == 2) = true := beq_iff_eq.mpr c14
                  have c14b1 : (t525 != 2) = false := bne_eq_false_iff_eq.mpr c14
                  clear c14
                  simp only [Option.some.injEq, Prod.mk.injEq] at H
                  obtain ⟨rfl, rfl⟩ := H
                  go_wp2
                  go_ret2
                  exact ⟨by first | rfl | (simp [errW_none, errW_some] <;> rfl) | (simp [*, errW_none, errW_some] <;> rfl), by repeat (first | (with_reducible first | exact HB.out | apply below_alloc | apply pw_below_drewN | apply below_drew1) | exact HB.out)⟩
                · rw [if_neg c14] at H
                  have c14b0 : (t525 == 2) = false := beq_eq_false_iff_ne.mpr c14
                  have c14b1 : (t525 != 2) = true := bne_iff_ne.mpr c14
                  replace H := Option.bind_eq_some_iff.mp H
                  obtain ⟨⟨t526, t527, t528⟩, A150, H⟩ := H
                  replace H : ((vernierref06_Split.f a1).bind fun bt529 => ((vernierref01_Word.f kj8 t527).bind fun t532 => ((vernierref01_Word.f kj8 bt529.2.1).bind fun t535 => ((vernierref06_sum.f kj8 t526 t532 t528 bt529.1 t535 bt529.2.2 a2).bind fun bt538 => (some (bt538.1, bt538.2)))))) = some (r1, r2) := H
                  have A15 := Aside0.mk A150
                  clear A150
                  replace H := Option.bind_eq_some_iff.mp H
                  obtain ⟨⟨t529, t530, t531⟩, A160, H⟩ := H
                  replace H : ((vernierref01_Word.f kj8 t527).bind fun t532 => ((vernierref01_Word.f kj8 t530).bind fun t535 => ((vernierref06_sum.f kj8 t526 t532 t528 t529 t535 t531 a2).bind fun bt538 => (some (bt538.1, bt538.2))))) = some (r1, r2) := H
                  have A16 := Aside0.mk A160
                  clear A160
                  replace H := Option.bind_eq_some_iff.mp H
                  obtain ⟨t532, A170, H⟩ := H
                  replace H : ((vernierref01_Word.f kj8 t530).bind fun t535 => ((vernierref06_sum.f kj8 t526 t532 t528 t529 t535 t531 a2).bind fun bt538 => (some (bt538.1, bt538.2)))) = some (r1, r2) := H
                  have A17 := Aside0.mk A170
                  clear A170
                  replace H := Option.bind_eq_some_iff.mp H
                  obtain ⟨t535, A180, H⟩ := H
                  replace H : ((vernierref06_sum.f kj8 t526 t532 t528 t529 t535 t531 a2).bind fun bt538 => (some (bt538.1, bt538.2))) = some (r1, r2) := H
                  have A18 := Aside0.mk A180
                  clear A180
                  replace H := Option.bind_eq_some_iff.mp H
                  obtain ⟨⟨t538, t539⟩, A190, H⟩ := H
                  replace H : (some (t538, t539)) = some (r1, r2) := H
                  have A19 := Aside0.mk A190
                  clear A190
                  simp only [Option.some.injEq, Prod.mk.injEq] at H
                  obtain ⟨rfl, rfl⟩ := H
                  go_wp2_with (first | ((with_reducible refine gate_callee (f := 83) rfl ?_); refine goesL_ (some 49) rfl rfl Try.func83 (by kernel_rfl) rfl #[.int .u64 a0] rfl (by (try simp only [List.map_toArray, List.map_cons, List.map_nil]); first | done | rfl | (simp only [List.length_drop, List.length_take]; rfl)) ?_; (with_reducible refine (vernierref06_Split.calls a0 t526 t527 t528 _ A15.out).mono ?_); rintro e w' ⟨rfl, ⟨nd, rfl⟩⟩; refine ⟨_, rfl, ?_⟩) | ((with_reducible refine gate_callee (f := 83) rfl ?_); refine goesL_ (some 55) rfl rfl Try.func83 (by kernel_rfl) rfl #[.int .u64 a1] rfl (by (try simp only [List.map_toArray, List.map_cons, List.map_nil]); first | done | rfl | (simp only [List.length_drop, List.length_take]; rfl)) ?_; (with_reducible refine (vernierref06_Split.calls a1 t529 t530 t531 _ A16.out).mono ?_); rintro e w' ⟨rfl, ⟨nd, rfl⟩⟩; refine ⟨_, rfl, ?_⟩) | ((with_reducible refine gate_callee (f := 85) rfl ?_); refine goesL_ (some 61) rfl rfl Try.func85 (by kernel_rfl) rfl #[.int .u64 t527] rfl (by (try simp only [List.map_toArray, List.map_cons, List.map_nil]); first | done | rfl | (simp only [List.length_drop, List.length_take]; rfl)) ?_; (with_reducible refine (vernierref01_Word.calls kj8 t527 t532 _ A17.out).mono ?_); rintro e w20 ⟨v533, rfl, ho0, hb⟩; refine ⟨_, rfl, ?_⟩; have n0_ := Aside0.mk (Kd.R_lower ho0 (below_size (by repeat (first | (with_reducible first | exact HB.out | apply below_alloc | apply pw_below_drewN | apply below_drew1) | exact HB.out)))); have n1_ := Aside0.mk (below_step (by repeat (first | (with_reducible first | exact HB.out | apply below_alloc | apply pw_below_drewN | apply below_drew1) | exact HB.out)) hb); clear HB; have HO534 := n0_; have HB := n1_; clear n0_ n1_; (try clear hb); (try clear hb2); (try clear hk); (try clear hi); (try clear ho0)) | ((with_reducible refine gate_callee (f := 85) rfl ?_); refine goesL_ (some 65) rfl rfl Try.func85 (by kernel_rfl) rfl #[.int .u64 t530] rfl (by (try simp only [List.map_toArray, List.map_cons, List.map_nil]); first | done | rfl | (simp only [List.length_drop, List.length_take]; rfl)) ?_; (with_reducible refine (vernierref01_Word.calls kj8 t530 t535 _ A18.out).mono ?_); rintro e w21 ⟨v536, rfl, ho0, hb⟩; refine ⟨_, rfl, ?_⟩; have n0_ := Aside0.mk (Kd.R_elder' (by (with_reducible repeat (first | apply Kd.R_alloc | apply Kd.R_drewN | apply Kd.R_drew)); exact HO534.out) (Kd.R_base ho0) hb); have n1_ := Aside0.mk (Kd.R_lower (Kd.R_new' ho0 (Kd.R_lt (by (with_reducible repeat (first | apply Kd.R_alloc | apply Kd.R_drewN | apply Kd.R_drew)); exact HO534.out))) (below_size (by repeat (first | (with_reducible first | exact HB.out | apply below_alloc | apply pw_below_drewN | apply below_drew1) | exact HB.out)))); have n2_ := Aside0.mk (below_step (by repeat (first | (with_reducible first | exact HB.out | apply below_alloc | apply pw_below_drewN | apply below_drew1) | exact HB.out)) hb); clear HO534; clear HB; have HO534 := n0_; have HO537 := n1_; have HB := n2_; clear n0_ n1_ n2_; (try clear hb); (try clear hb2); (try clear hk); (try clear hi); (try clear ho0); obtain ⟨Ao22, co22, eo22⟩ := Kd.R_slice HO534.out; subst eo22; obtain ⟨Ao23, co23, eo23⟩ := Kd.R_slice HO537.out; subst eo23) | ((with_reducible refine gate_callee (f := 84) rfl ?_); refine goesL_ (some 68) rfl rfl Try.func84 (by kernel_rfl) rfl #[.bool t526, .slice Ao22 t532.length co22, .int .i64 t528, .bool t529, .slice Ao23 t535.length co23, .int .i64 t531, .int .i64 a2] rfl (by (try simp only [List.map_toArray, List.map_cons, List.map_nil]); first | done | rfl | (simp only [List.length_drop, List.length_take]; rfl)) ?_; (with_reducible refine (vernierref06_sum.calls kj8 t526 _ _ t532 t528 t529 _ _ t535 t531 a2 t538 t539 _ ?side1 ?side2 ?side3 ?side4 A19.out).mono ?_); (case side1 => repeat (first | exact (Kd.R_reads' HO534.out).2.2 | (with_reducible refine Kd.C_alloc ?_ _) | (with_reducible refine Kd.C_drewN ?_ _) | (with_reducible refine Kd.C_drew ?_))); (case side2 => exact (Kd.R_reads' HO534.out).2.1); (case side3 => repeat (first | exact (Kd.R_reads' HO537.out).2.2 | (with_reducible refine Kd.C_alloc ?_ _) | (with_reducible refine Kd.C_drewN ?_ _) | (with_reducible refine Kd.C_drew ?_))); (case side4 => exact (Kd.R_reads' HO537.out).2.1); rintro e w24 ⟨rfl, hb⟩; refine ⟨_, rfl, ?_⟩; have n0_ := Aside0.mk (Kd.R_below (by (with_reducible repeat (first | apply Kd.R_alloc | apply Kd.R_drewN | apply Kd.R_drew)); exact HO534.out) hb); have n1_ := Aside0.mk (Kd.R_below (by (with_reducible repeat (first | apply Kd.R_alloc | apply Kd.R_drewN | apply Kd.R_drew)); exact HO537.out) hb); have n2_ := Aside0.mk (below_step (by repeat (first | (with_reducible first | exact HB.out | apply below_alloc | apply pw_below_drewN | apply below_drew1) | exact HB.out)) hb); clear HO534; clear HO537; clear HB; have HO534 := n0_; have HO537 := n1_; have HB := n2_; clear n0_ n1_ n2_; (try clear hb); (try clear hb2); (try clear hk); (try clear hi)))
                  go_ret2
                  exact ⟨by first | rfl | (simp [errW_none, errW_some] <;> rfl) | (simp [*, errW_none, errW_some] <;> rfl), by repeat (first | (with_reducible first | exact HB.out | apply below_alloc | apply pw_below_drewN | apply below_drew1) | exact HB.out)⟩
end Go.Proofs.Ytjbpchebabhoeaa.P
end
section
namespace Go.Proofs.Ytjbpchebabhoeaa.P
open Go.RowKit Go.Proofs.YtjbpchebabhoeaaW.PrintWords Go.Proofs.YtjbpchebabhoeaaW.PrintLast Go.Proofs.YtjbpchebabhoeaaW.PrintMore Go.Proofs.Ytjbpchebabhoeaa.X
attribute [local go_sem] max2_int min2_int max_two min_two max_three min_three max_four min_four
set_option linter.unusedVariables false
set_option linter.unusedSimpArgs false
def fadd_Sum.l0 : Nat → Int → Int → Int → List Int → Int → Int → Option (Int × Int)
  | 0, _, _, _, _, _, _ => none
  | k + 1, x0, x6, x7, x11, x12, x13 => if x13 < x12 then (if 0 ≤ x13 then (if x13 < (x11.length : Int) then ((fadd_Add.f k x6 (rd x11 x13) x0).bind fun bt541 => (fadd_Sum.l0 k x0 bt541.1 (Go.bits .or .i64 x7 bt541.2) x11 x12 (wrap64 (x13 + 1)))) else (none)) else (none)) else (some (x6, x7))
def fadd_Sum.f (k : Nat) (a0 : Int) (l1 : List Int) : Option (Int × Int) := fadd_Sum.l0 k a0 0 0 l1 (l1.length : Int) 0
theorem fadd_Sum.mono_l : ∀ k, (∀ y0 y1 y2 y3 y4 y5, LeO (fadd_Sum.l0 k y0 y1 y2 y3 y4 y5) (fadd_Sum.l0 (k + 1) y0 y1 y2 y3 y4 y5))
  | 0 => fun _ _ _ _ _ _ r h => by simp [fadd_Sum.l0] at h
  | k + 1 => by
    have ih0 := fadd_Sum.mono_l k
    · intro y0 y1 y2 y3 y4 y5
      unfold fadd_Sum.l0
      repeat' first
      | (with_reducible exact ih0 _ _ _ _ _ _)
      | (with_reducible exact fadd_Add.mono _ _ _ _)
      | (with_reducible exact LeO.refl _)
      | (with_reducible exact LeO.none _)
      | (with_reducible refine LeO.ite ?_ ?_)
      | (with_reducible refine LeO.bind ?_ (fun _ => ?_))
      | exact ih0 _ _ _ _ _ _
      | exact fadd_Add.mono _ _ _ _
      | exact LeO.none _
      | refine LeO.ite ?_ ?_
      | refine LeO.bind ?_ (fun _ => ?_)
theorem fadd_Sum.mono : ∀ a0 a1 k, LeO (fadd_Sum.f k a0 a1) (fadd_Sum.f (k + 1) a0 a1) := by
  intro a0 a1 k
  have ih0 := fadd_Sum.mono_l k
  unfold fadd_Sum.f
  repeat' first
      | (with_reducible exact ih0 _ _ _ _ _ _)
      | (with_reducible exact fadd_Add.mono _ _ _ _)
      | (with_reducible exact LeO.refl _)
      | (with_reducible exact LeO.none _)
      | (with_reducible refine LeO.ite ?_ ?_)
      | (with_reducible refine LeO.bind ?_ (fun _ => ?_))
      | exact ih0 _ _ _ _ _ _
      | exact fadd_Add.mono _ _ _ _
      | exact LeO.none _
      | refine LeO.ite ?_ ?_
      | refine LeO.bind ?_ (fun _ => ?_)
set_option maxHeartbeats 8000000 in
set_option maxRecDepth 100000 in
theorem fadd_Sum.calls (k : Nat) (a0 : Int) (A1 : Option Addr) (c1 : Nat) (l1 : List Int) (r1 : Int) (r2 : Int) (w : World) (hr1 : Kd.C (Kd.int .u64) w A1 l1.length l1) (hc1 : l1.length ≤ c1) (h : fadd_Sum.f k a0 l1 = some (r1, r2)) :
    Calls Try.prog 49 #[.int .i64 a0, .slice A1 l1.length c1] w fun e w' => e = .returned (.tuple #[.int .u64 r1, .int .i64 r2]) ∧ Below w.heap.size w w' := by
  have HR1 := Aside0.mk hr1
  have HC1 := Aside0.mk hc1
  clear hr1 hc1
  have HB := Aside0.mk (Below.refl w.heap.size w)
  have H : (fadd_Sum.l0 k a0 0 0 l1 (l1.length : Int) 0) = some (r1, r2) := h
  clear h
  have H' := Aside0.mk H
  clear H
  go_enter Try.func49, Try.ntmps49
  go_wp2
  go_loopg [6, 7, 13] k (fun kq v6 v7 v13 w' => ∃ (x6_1 : Int) (x7_1 : Int) (x13_1 : Int), v6 = .int .u64 x6_1 ∧ v7 = .int .i64 x7_1 ∧ v13 = .int .i64 x13_1 ∧ Aside0 (fadd_Sum.l0 kq a0 x6_1 x7_1 l1 (l1.length : Int) x13_1 = some (r1, r2)) ∧ Aside0 (kq ≤ k) ∧ Aside0 (Below w.heap.size w w'))
  case atStart => exact ⟨(0), (0), (0), (by first | rfl | (simp; done) | (simp [*]; done)), (by first | rfl | (simp; done) | (simp [*]; done)), (by first | rfl | (simp; done) | (simp [*]; done)), H', ⟨Nat.le_refl _⟩, ⟨by repeat (first | (with_reducible first | exact HB.out | apply below_alloc | apply pw_below_drewN | apply below_drew1) | exact HB.out)⟩⟩
  case round =>
    clear H'
    try clear c1
    try clear p2
    obtain ⟨x6_1, x7_1, x13_1, rfl, rfl, rfl, HA, HK1, HB⟩ := hrel
    cases gk with
    | zero => exact absurd HA.out (by simp [fadd_Sum.l0])
    | succ k1 =>
      have H := HA.out
      clear HA
      simp only [fadd_Sum.l0] at H
      by_cases c3 : x13_1 < (l1.length : Int)
      · rw [if_pos c3] at H
        have c3b0 : decide (x13_1 < (l1.length : Int)) = true := decide_eq_true c3
        clear c3
        by_cases c4 : 0 ≤ x13_1
        · rw [if_pos c4] at H
          have c4b0 : decide (0 ≤ x13_1) = true := decide_eq_true c4
          clear c4
          by_cases c5 : x13_1 < (l1.length : Int)
          · rw [if_pos c5] at H
            have c5b0 : decide (x13_1 < (l1.length : Int)) = true := decide_eq_true c5
            clear c5
            replace H := Option.bind_eq_some_iff.mp H
            obtain ⟨⟨t541, t542⟩, A60, H⟩ := H
            replace H : (fadd_Sum.l0 k1 a0 t541 (Go.bits .or .i64 x7_1 t542) l1 (l1.length : Int) (wrap64 (x13_1 + 1))) = some (r1, r2) := H
            have A6 := Aside0.mk A60
            clear A60
            have H' := Aside0.mk H
            clear H
            have p540 : 0 ≤ (x13_1 : Int) := of_decide_eq_true (by first | (with_reducible assumption) | assumption)
            have q540 : x13_1 < (l1.length : Int) := of_decide_eq_true (by first | (with_reducible assumption) | assumption)
            obtain ⟨ad540, e540, hx540_0⟩ := Kd.at_int HR1.out x13_1 p540 q540
            cases e540
            replace hx540_0 := (HB.out.cell (World.block_lt_of_cell? w _ hx540_0)).trans hx540_0
            replace p540 := eq_true p540
            replace q540 := eq_true q540
            (try (have q540n := q540; simp only [Int.ofNat_lt] at q540n))
            (try (have q540d := q540; simp only [List.length_drop] at q540d))
            go_wp2_with (first | ((with_reducible refine gate_callee (f := 46) rfl ?_); refine goesL_ (some 21) rfl rfl Try.func46 (by kernel_rfl) rfl #[.int .u64 x6_1, .int .u64 (rd l1 x13_1), .int .i64 a0] rfl (by (try simp only [List.map_toArray, List.map_cons, List.map_nil]); first | done | rfl | (simp only [List.length_drop, List.length_take]; rfl)) ?_; (with_reducible refine (fadd_Add.calls k1 x6_1 (rd l1 x13_1) a0 t541 t542 _ A6.out).mono ?_); rintro e w7 ⟨rfl, hb⟩; refine ⟨_, rfl, ?_⟩; have n0_ := Aside0.mk (below_step (by repeat (first | (with_reducible first | exact HB.out | apply below_alloc | apply pw_below_drewN | apply below_drew1) | exact HB.out)) hb); clear HB; have HB := n0_; clear n0_; (try clear hb); (try clear hb2); (try clear hk); (try clear hi)))
            go_roundg k1
            case measure => have := HK1.out; omega
            case rel => exact ⟨(t541), (Go.bits .or .i64 x7_1 t542), (wrap64 (x13_1 + 1)), (by first | rfl | (simp; done) | (simp [*]; done)), (by first | rfl | (simp; done) | (simp [*]; done)), (by first | rfl | (simp; done) | (simp [*]; done)), H', ⟨by have := HK1.out; omega⟩, ⟨by repeat (first | (with_reducible first | exact HB.out | apply below_alloc | apply pw_below_drewN | apply below_drew1) | exact HB.out)⟩⟩
          · rw [if_neg c5] at H
            exact absurd H (by simp)
        · rw [if_neg c4] at H
          exact absurd H (by simp)
      · rw [if_neg c3] at H
        have c3b0 : decide (x13_1 < (l1.length : Int)) = false := decide_eq_false c3
        clear c3
        simp only [Option.some.injEq, Prod.mk.injEq] at H
        obtain ⟨rfl, rfl⟩ := H
        go_wp2
        go_ret2
        exact ⟨by first | rfl | (simp [errW_none, errW_some] <;> rfl) | (simp [*, errW_none, errW_some] <;> rfl), by repeat (first | (with_reducible first | exact HB.out | apply below_alloc | apply pw_below_drewN | apply below_drew1) | exact HB.out)⟩
end Go.Proofs.Ytjbpchebabhoeaa.P
end
section
namespace Go.Proofs.Ytjbpchebabhoeaa.P
open Go.RowKit Go.Proofs.YtjbpchebabhoeaaW.PrintWords Go.Proofs.YtjbpchebabhoeaaW.PrintLast Go.Proofs.YtjbpchebabhoeaaW.PrintMore Go.Proofs.Ytjbpchebabhoeaa.X
attribute [local go_sem] max2_int min2_int max_two min_two max_three min_three max_four min_four
set_option linter.unusedVariables false
set_option linter.unusedSimpArgs false
def vernierlaw07_FaddSums.l0 : Nat → Int → List Int → Int → Int → Int → Option (Bool)
  | 0, _, _, _, _, _ => none
  | k + 1, x0, x1, x5, x6, x7 => if x7 < (x1.length : Int) then (if 0 ≤ x7 then ((vernierref06_Add.f k x5 (rd x1 x7) x0).bind fun bt545 => (vernierlaw07_FaddSums.l0 k x0 x1 bt545.1 (Go.bits .or .i64 x6 bt545.2) (wrap64 (x7 + 1)))) else (none)) else ((fadd_Sum.f k x0 x1).bind fun bt547 => (if bt547.1 = x5 then (some (bt547.2 == x6)) else (some false)))
def vernierlaw07_FaddSums.f (k : Nat) (a0 : Int) (l1 : List Int) : Option (Bool) := (vernierlaw07_alive.f k).bind fun t543 => (if t543 = true then (vernierlaw07_FaddSums.l0 k a0 l1 0 0 0) else (some false))
theorem vernierlaw07_FaddSums.mono_l : ∀ k, (∀ y0 y1 y2 y3 y4, LeO (vernierlaw07_FaddSums.l0 k y0 y1 y2 y3 y4) (vernierlaw07_FaddSums.l0 (k + 1) y0 y1 y2 y3 y4))
  | 0 => fun _ _ _ _ _ r h => by simp [vernierlaw07_FaddSums.l0] at h
  | k + 1 => by
    have ih0 := vernierlaw07_FaddSums.mono_l k
    · intro y0 y1 y2 y3 y4
      unfold vernierlaw07_FaddSums.l0
      repeat' first
      | (with_reducible exact ih0 _ _ _ _ _)
      | (with_reducible exact fadd_Sum.mono _ _ _)
      | (with_reducible exact vernierlaw07_alive.mono _)
      | (with_reducible exact vernierref06_Add.mono _ _ _ _)
      | (with_reducible exact LeO.refl _)
      | (with_reducible exact LeO.none _)
      | (with_reducible refine LeO.ite ?_ ?_)
      | (with_reducible refine LeO.bind ?_ (fun _ => ?_))
      | exact ih0 _ _ _ _ _
      | exact fadd_Sum.mono _ _ _
      | exact vernierlaw07_alive.mono _
      | exact vernierref06_Add.mono _ _ _ _
      | exact LeO.none _
      | refine LeO.ite ?_ ?_
      | refine LeO.bind ?_ (fun _ => ?_)
theorem vernierlaw07_FaddSums.mono : ∀ a0 a1 k, LeO (vernierlaw07_FaddSums.f k a0 a1) (vernierlaw07_FaddSums.f (k + 1) a0 a1) := by
  intro a0 a1 k
  have ih0 := vernierlaw07_FaddSums.mono_l k
  unfold vernierlaw07_FaddSums.f
  repeat' first
      | (with_reducible exact ih0 _ _ _ _ _)
      | (with_reducible exact fadd_Sum.mono _ _ _)
      | (with_reducible exact vernierlaw07_alive.mono _)
      | (with_reducible exact vernierref06_Add.mono _ _ _ _)
      | (with_reducible exact LeO.refl _)
      | (with_reducible exact LeO.none _)
      | (with_reducible refine LeO.ite ?_ ?_)
      | (with_reducible refine LeO.bind ?_ (fun _ => ?_))
      | exact ih0 _ _ _ _ _
      | exact fadd_Sum.mono _ _ _
      | exact vernierlaw07_alive.mono _
      | exact vernierref06_Add.mono _ _ _ _
      | exact LeO.none _
      | refine LeO.ite ?_ ?_
      | refine LeO.bind ?_ (fun _ => ?_)
set_option maxHeartbeats 8000000 in
set_option maxRecDepth 100000 in
theorem vernierlaw07_FaddSums.calls (k : Nat) (a0 : Int) (A1 : Option Addr) (c1 : Nat) (l1 : List Int) (r : Bool) (w : World) (hr1 : Kd.C (Kd.int .u64) w A1 l1.length l1) (hc1 : l1.length ≤ c1) (h : vernierlaw07_FaddSums.f k a0 l1 = some r) :
    Calls Try.prog 10 #[.int .i64 a0, .slice A1 l1.length c1] w fun e w' => e = .returned (.bool r) ∧ Below w.heap.size w w' := by
  have HR1 := Aside0.mk hr1
  have HC1 := Aside0.mk hc1
  clear hr1 hc1
  have HB := Aside0.mk (Below.refl w.heap.size w)
  have H : ((vernierlaw07_alive.f k).bind fun t543 => (if t543 = true then (vernierlaw07_FaddSums.l0 k a0 l1 0 0 0) else (some false))) = some r := h
  clear h
  replace H := Option.bind_eq_some_iff.mp H
  obtain ⟨t543, A30, H⟩ := H
  replace H : (if t543 = true then (vernierlaw07_FaddSums.l0 k a0 l1 0 0 0) else (some false)) = some r := H
  have A3 := Aside0.mk A30
  clear A30
  by_cases c4 : t543 = true
  · subst c4
    have H1 : (vernierlaw07_FaddSums.l0 k a0 l1 0 0 0) = some r := by rw [if_pos rfl] at H; exact H
    clear H
    have H := H1
    clear H1
    have H' := Aside0.mk H
    clear H
    go_enter Try.func10, Try.ntmps10
    go_wp2_with (first | ((with_reducible refine gate_callee (f := 45) rfl ?_); refine goesL_ (some 11) rfl rfl Try.func45 (by kernel_rfl) rfl #[] rfl (by (try simp only [List.map_toArray, List.map_cons, List.map_nil]); first | done | rfl | (simp only [List.length_drop, List.length_take]; rfl)) ?_; (with_reducible refine (vernierlaw07_alive.calls k  true _ A3.out).mono ?_); rintro e w5 ⟨rfl, hb⟩; refine ⟨_, rfl, ?_⟩; have n0_ := Aside0.mk (below_step (by repeat (first | (with_reducible first | exact HB.out | apply below_alloc | apply pw_below_drewN | apply below_drew1) | exact HB.out)) hb); clear HB; have HB := n0_; clear n0_; (try clear hb); (try clear hb2); (try clear hk); (try clear hi)))
    go_loopg [5, 6, 7] k (fun kq v5 v6 v7 w' => ∃ (x5_1 : Int) (x6_1 : Int) (x7_1 : Int), v5 = .int .u64 x5_1 ∧ v6 = .int .i64 x6_1 ∧ v7 = .int .i64 x7_1 ∧ Aside0 (vernierlaw07_FaddSums.l0 kq a0 l1 x5_1 x6_1 x7_1 = some r) ∧ Aside0 (kq ≤ k) ∧ Aside0 (Below w.heap.size w w'))
    case atStart => exact ⟨(0), (0), (0), (by first | rfl | (simp; done) | (simp [*]; done)), (by first | rfl | (simp; done) | (simp [*]; done)), (by first | rfl | (simp; done) | (simp [*]; done)), H', ⟨Nat.le_refl _⟩, ⟨by repeat (first | (with_reducible first | exact HB.out | apply below_alloc | apply pw_below_drewN | apply below_drew1) | exact HB.out)⟩⟩
    case round =>
      clear H'
      try clear c1
      try clear p2
      try clear c4
      obtain ⟨x5_1, x6_1, x7_1, rfl, rfl, rfl, HA, HK1, HB⟩ := hrel
      cases gk with
      | zero => exact absurd HA.out (by simp [vernierlaw07_FaddSums.l0])
      | succ k1 =>
        have H := HA.out
        clear HA
        simp only [vernierlaw07_FaddSums.l0] at H
        by_cases c6 : x7_1 < (l1.length : Int)
        · rw [if_pos c6] at H
          have c6b0 : decide (x7_1 < (l1.length : Int)) = true := decide_eq_true c6
          clear c6
          by_cases c7 : 0 ≤ x7_1
          · rw [if_pos c7] at H
            have c7b0 : decide (0 ≤ x7_1) = true := decide_eq_true c7
            clear c7
            replace H := Option.bind_eq_some_iff.mp H
            obtain ⟨⟨t545, t546⟩, A80, H⟩ := H
            replace H : (vernierlaw07_FaddSums.l0 k1 a0 l1 t545 (Go.bits .or .i64 x6_1 t546) (wrap64 (x7_1 + 1))) = some r := H
            have A8 := Aside0.mk A80
            clear A80
            have H' := Aside0.mk H
            clear H
            have p544 : 0 ≤ (x7_1 : Int) := of_decide_eq_true (by first | (with_reducible assumption) | assumption)
            have q544 : x7_1 < (l1.length : Int) := of_decide_eq_true (by first | (with_reducible assumption) | assumption)
            obtain ⟨ad544, e544, hx544_0⟩ := Kd.at_int HR1.out x7_1 p544 q544
            cases e544
            replace hx544_0 := (HB.out.cell (World.block_lt_of_cell? w _ hx544_0)).trans hx544_0
            replace p544 := eq_true p544
            replace q544 := eq_true q544
            (try (have q544n := q544; simp only [Int.ofNat_lt] at q544n))
            (try (have q544d := q544; simp only [List.length_drop] at q544d))
            go_wp2_with (first | ((with_reducible refine gate_callee (f := 48) rfl ?_); refine goesL_ (some 26) rfl rfl Try.func48 (by kernel_rfl) rfl #[.int .u64 x5_1, .int .u64 (rd l1 x7_1), .int .i64 a0] rfl (by (try simp only [List.map_toArray, List.map_cons, List.map_nil]); first | done | rfl | (simp only [List.length_drop, List.length_take]; rfl)) ?_; (with_reducible refine (vernierref06_Add.calls k1 x5_1 (rd l1 x7_1) a0 t545 t546 _ A8.out).mono ?_); rintro e w9 ⟨rfl, hb⟩; refine ⟨_, rfl, ?_⟩; have n0_ := Aside0.mk (below_step (by repeat (first | (with_reducible first | exact HB.out | apply below_alloc | apply pw_below_drewN | apply below_drew1) | exact HB.out)) hb); clear HB; have HB := n0_; clear n0_; (try clear hb); (try clear hb2); (try clear hk); (try clear hi)))
            go_roundg k1
            case measure => have := HK1.out; omega
            case rel => exact ⟨(t545), (Go.bits .or .i64 x6_1 t546), (wrap64 (x7_1 + 1)), (by first | rfl | (simp; done) | (simp [*]; done)), (by first | rfl | (simp; done) | (simp [*]; done)), (by first | rfl | (simp; done) | (simp [*]; done)), H', ⟨by have := HK1.out; omega⟩, ⟨by repeat (first | (with_reducible first | exact HB.out | apply below_alloc | apply pw_below_drewN | apply below_drew1) | exact HB.out)⟩⟩
          · rw [if_neg c7] at H
            exact absurd H (by simp)
        · rw [if_neg c6] at H
          have c6b0 : decide (x7_1 < (l1.length : Int)) = false := decide_eq_false c6
          clear c6
          replace H := Option.bind_eq_some_iff.mp H
          obtain ⟨⟨t547, t548⟩, A100, H⟩ := H
          replace H : (if t547 = x5_1 then (some (t548 == x6_1)) else (some false)) = some r := H
          have A10 := Aside0.mk A100
          clear A100
          by_cases c11 : t547 = x5_1
          · rw [if_pos c11] at H
            have c11b0 : (t547 == x5_1) = true := beq_iff_eq.mpr c11
            have c11b1 : (t547 != x5_1) = false := bne_eq_false_iff_eq.mpr c11
            clear c11
            obtain rfl := Option.some.inj H
            go_wp2_with (first | ((with_reducible refine gate_callee (f := 49) rfl ?_); refine goesL_ (some 35) rfl rfl Try.func49 (by kernel_rfl) rfl #[.int .i64 a0, .slice A1 l1.length c1] rfl (by (try simp only [List.map_toArray, List.map_cons, List.map_nil]); first | done | rfl | (simp only [List.length_drop, List.length_take]; rfl)) ?_; (with_reducible refine (fadd_Sum.calls k1 a0 _ _ l1 t547 t548 _ ?side1 ?side2 A10.out).mono ?_); (case side1 => repeat (first | exact (Kd.C_below HR1.out HB.out) | (with_reducible refine Kd.C_alloc ?_ _) | (with_reducible refine Kd.C_drewN ?_ _) | (with_reducible refine Kd.C_drew ?_))); (case side2 => exact HC1.out); rintro e w12 ⟨rfl, hb⟩; refine ⟨_, rfl, ?_⟩; have n0_ := Aside0.mk (below_step (by repeat (first | (with_reducible first | exact HB.out | apply below_alloc | apply pw_below_drewN | apply below_drew1) | exact HB.out)) hb); clear HB; have HB := n0_; clear n0_; (try clear hb); (try clear hb2); (try clear hk); (try clear hi)))
            go_ret
            exact ⟨by first | rfl | (simp [errW_none, errW_some] <;> rfl) | (simp [*, errW_none, errW_some] <;> rfl), by repeat (first | (with_reducible first | exact HB.out | apply below_alloc | apply pw_below_drewN | apply below_drew1) | exact HB.out)⟩
          · rw [if_neg c11] at H
            have c11b0 : (t547 == x5_1) = false := beq_eq_false_iff_ne.mpr c11
            have c11b1 : (t547 != x5_1) = true := bne_iff_ne.mpr c11
            obtain rfl := Option.some.inj H
            go_wp2_with (first | ((with_reducible refine gate_callee (f := 49) rfl ?_); refine goesL_ (some 35) rfl rfl Try.func49 (by kernel_rfl) rfl #[.int .i64 a0, .slice A1 l1.length c1] rfl (by (try simp only [List.map_toArray, List.map_cons, List.map_nil]); first | done | rfl | (simp only [List.length_drop, List.length_take]; rfl)) ?_; (with_reducible refine (fadd_Sum.calls k1 a0 _ _ l1 t547 t548 _ ?side1 ?side2 A10.out).mono ?_); (case side1 => repeat (first | exact (Kd.C_below HR1.out HB.out) | (with_reducible refine Kd.C_alloc ?_ _) | (with_reducible refine Kd.C_drewN ?_ _) | (with_reducible refine Kd.C_drew ?_))); (case side2 => exact HC1.out); rintro e w13 ⟨rfl, hb⟩; refine ⟨_, rfl, ?_⟩; have n0_ := Aside0.mk (below_step (by repeat (first | (with_reducible first | exact HB.out | apply below_alloc | apply pw_below_drewN | apply below_drew1) | exact HB.out)) hb); clear HB; have HB := n0_; clear n0_; (try clear hb); (try clear hb2); (try clear hk); (try clear hi)))
            go_ret
            exact ⟨by first | rfl | (simp [errW_none, errW_some] <;> rfl) | (simp [*, errW_none, errW_some] <;> rfl), by repeat (first | (with_reducible first | exact HB.out | apply below_alloc | apply pw_below_drewN | apply below_drew1) | exact HB.out)⟩
  · replace c4 := Bool.eq_false_iff.mpr c4
    subst c4
    have H1 : (some false) = some r := by rw [if_neg (show ¬ (false = true) by decide)] at H; exact H
    clear H
    have H := H1
    clear H1
    obtain rfl := Option.some.inj H
    go_enter Try.func10, Try.ntmps10
    go_wp2_with (first | ((with_reducible refine gate_callee (f := 45) rfl ?_); refine goesL_ (some 11) rfl rfl Try.func45 (by kernel_rfl) rfl #[] rfl (by (try simp only [List.map_toArray, List.map_cons, List.map_nil]); first | done | rfl | (simp only [List.length_drop, List.length_take]; rfl)) ?_; (with_reducible refine (vernierlaw07_alive.calls k  false _ A3.out).mono ?_); rintro e w14 ⟨rfl, hb⟩; refine ⟨_, rfl, ?_⟩; have n0_ := Aside0.mk (below_step (by repeat (first | (with_reducible first | exact HB.out | apply below_alloc | apply pw_below_drewN | apply below_drew1) | exact HB.out)) hb); clear HB; have HB := n0_; clear n0_; (try clear hb); (try clear hb2); (try clear hk); (try clear hi)))
    go_ret
    exact ⟨by first | rfl | (simp [errW_none, errW_some] <;> rfl) | (simp [*, errW_none, errW_some] <;> rfl), by repeat (first | (with_reducible first | exact HB.out | apply below_alloc | apply pw_below_drewN | apply below_drew1) | exact HB.out)⟩
def vernierlaw07_FaddSums.Pure : Prop := ∀ (a0 : Int) (l1 : List Int), (Lit.int .i64 a0).wf = true → l1.length ≤ maxLen → l1.length * 8 ≤ 140737488351232 → (∀ x ∈ l1, (Lit.int .u64 x).wf = true) → ∃ k, vernierlaw07_FaddSums.f k a0 l1 = some true
theorem vernierlaw07_FaddSums.walk (P : vernierlaw07_FaddSums.Pure) (a0 : Int) (a1 : Option Addr) (len1 cap1 : Nat) (z1 : List Int) (w : World) (w0 : (Lit.int .i64 a0).wf = true) (w1 : (a1 = none ∧ len1 = 0 ∧ cap1 = 0 ∧ z1 = []) ∨ ∃ x, a1 = some x ∧ len1 ≤ cap1 ∧ cap1 ≤ maxLen ∧ z1.length = cap1 ∧ (∀ i, i < z1.length → w.cell? (x.add i) = some (.int .u64 (z1.getD i 0))) ∧ ∀ n ∈ z1, (Lit.int .u64 n).wf = true) (y1 : len1 * 8 ≤ 140737488351232) :
    Calls Try.prog 10 #[.int .i64 a0, .slice a1 len1 cap1] w fun e w' => e = .returned (.bool true) ∧ Below w.heap.size w w' := by
  obtain ⟨l1, rfl, hr1, hm1, hw1, hc1⟩ := ReadsInt.ofRowC w1
  obtain ⟨k, h⟩ := P a0 l1 w0 hm1 y1 hw1
  refine (vernierlaw07_FaddSums.calls k a0 _ _ l1 true w (Kd.C_of_reads (d := (0 : Int)) (h1 := fun _ => rfl) hr1) hc1 h).mono ?_
  rintro e w' ⟨rfl, hd⟩
  exact ⟨rfl, hd⟩
end Go.Proofs.Ytjbpchebabhoeaa.P
end
section
namespace Go.Proofs.Ytjbpchebabhoeaa.Dg
def val (b : Nat) : List Int → Nat
  | [] => 0
  | x :: xs => x.toNat + b * val b xs
def Wf (b : Nat) (xs : List Int) : Prop := ∀ x ∈ xs, 0 ≤ x ∧ x < (b : Int)
def digs (b : Nat) (n : Nat) : List Int :=
  if _h : n = 0 ∨ b ≤ 1 then [] else ((n % b : Nat) : Int) :: digs b (n / b)
termination_by n
decreasing_by exact Nat.div_lt_self (by omega) (by omega)
theorem digs_zero (b : Nat) : digs b 0 = [] := by rw [digs]; simp
theorem digs_pos {b n : Nat} (hb : 1 < b) (hn : 0 < n) : digs b n = ((n % b : Nat) : Int) :: digs b (n / b) := by
  rw [digs, dif_neg (by omega)]
theorem val_digs {b : Nat} (hb : 1 < b) : ∀ n : Nat, val b (digs b n) = n := by
  intro n
  induction n using Nat.strongRecOn with
  | _ n ih =>
    rcases Nat.eq_zero_or_pos n with rfl | hn
    · rw [digs_zero]; rfl
    · rw [digs_pos hb hn]
      simp only [val]
      rw [ih (n / b) (Nat.div_lt_self hn hb)]
      have := Nat.mod_add_div n b
      omega
theorem wf_digs {b : Nat} (hb : 1 < b) : ∀ n : Nat, Wf b (digs b n) := by
  intro n
  induction n using Nat.strongRecOn with
  | _ n ih =>
    rcases Nat.eq_zero_or_pos n with rfl | hn
    · rw [digs_zero]; intro x hx; cases hx
    · rw [digs_pos hb hn]
      intro x hx
      rcases List.mem_cons.1 hx with rfl | hx
      · have := Nat.mod_lt n (show b > 0 by omega)
        omega
      · exact ih _ (Nat.div_lt_self hn hb) x hx
theorem Wf.nil (b : Nat) : Wf b [] := fun x hx => by cases hx
theorem Wf.cons {b : Nat} {x : Int} {xs : List Int} (h0 : 0 ≤ x) (h1 : x < b) (h : Wf b xs) : Wf b (x :: xs) := by
  intro y hy
  rcases List.mem_cons.1 hy with rfl | hy
  · exact ⟨h0, h1⟩
  · exact h y hy
theorem Wf.head {b : Nat} {x : Int} {xs : List Int} (h : Wf b (x :: xs)) : 0 ≤ x ∧ x < b := h x (by simp)
theorem Wf.tail {b : Nat} {x : Int} {xs : List Int} (h : Wf b (x :: xs)) : Wf b xs := fun y hy => h y (by simp [hy])
theorem Wf.append {b : Nat} {xs ys : List Int} (h : Wf b xs) (k : Wf b ys) : Wf b (xs ++ ys) := by
  intro y hy
  rcases List.mem_append.1 hy with hy | hy
  · exact h y hy
  · exact k y hy
theorem Wf.left {b : Nat} {xs ys : List Int} (h : Wf b (xs ++ ys)) : Wf b xs := fun y hy => h y (by simp [hy])
theorem Wf.right {b : Nat} {xs ys : List Int} (h : Wf b (xs ++ ys)) : Wf b ys := fun y hy => h y (by simp [hy])
theorem Wf.take {b : Nat} {xs : List Int} (h : Wf b xs) (n : Nat) : Wf b (xs.take n) := fun y hy => h y (List.mem_of_mem_take hy)
theorem Wf.drop {b : Nat} {xs : List Int} (h : Wf b xs) (n : Nat) : Wf b (xs.drop n) := fun y hy => h y (List.mem_of_mem_drop hy)
theorem Wf.zeros {b : Nat} (hb : 0 < b) (n : Nat) : Wf b (List.replicate n 0) := by
  intro y hy
  rw [List.eq_of_mem_replicate hy]
  omega
theorem Wf.set {b : Nat} {xs : List Int} (h : Wf b xs) (i : Nat) {y : Int} (h0 : 0 ≤ y) (h1 : y < b) : Wf b (xs.set i y) := by
  intro z hz
  rcases List.mem_or_eq_of_mem_set hz with hz | rfl
  · exact h z hz
  · exact ⟨h0, h1⟩
theorem Wf.getD {b : Nat} {xs : List Int} (hb : 0 < b) (h : Wf b xs) (i : Nat) : 0 ≤ xs.getD i 0 ∧ xs.getD i 0 < b := by
  rw [List.getD_eq_getElem?_getD]
  by_cases hi : i < xs.length
  · rw [List.getElem?_eq_getElem hi]
    exact h _ (List.getElem_mem hi)
  · rw [List.getElem?_eq_none (by omega)]
    simp
    omega
theorem val_nil (b : Nat) : val b [] = 0 := rfl
theorem val_cons (b : Nat) (x : Int) (xs : List Int) : val b (x :: xs) = x.toNat + b * val b xs := rfl
theorem val_append (b : Nat) (xs ys : List Int) : val b (xs ++ ys) = val b xs + b ^ xs.length * val b ys := by
  induction xs with
  | nil => simp [val]
  | cons x xs ih =>
    simp only [List.cons_append, val, List.length_cons, ih]
    rw [Nat.mul_add, Nat.pow_succ, ← Nat.mul_assoc, Nat.mul_comm (b ^ xs.length) b]
    omega
theorem val_zeros (b n : Nat) : val b (List.replicate n 0) = 0 := by
  induction n with
  | zero => rfl
  | succ n ih => simp [List.replicate_succ, val, ih]
theorem val_lt {b : Nat} {xs : List Int} (h : Wf b xs) : val b xs < b ^ xs.length := by
  induction xs with
  | nil => simp [val]
  | cons x xs ih =>
    have := ih h.tail
    have h1 := h.head
    simp only [val, List.length_cons]
    rw [Nat.pow_succ, Nat.mul_comm (b ^ xs.length) b]
    have h2 : b * (val b xs + 1) ≤ b * b ^ xs.length := Nat.mul_le_mul_left b this
    rw [Nat.mul_add] at h2
    omega
theorem digs_val {b : Nat} (hb : 1 < b) : ∀ {xs : List Int}, Wf b xs → (xs ≠ [] → 0 < xs.getD (xs.length - 1) 0) → digs b (val b xs) = xs := by
  intro xs
  induction xs with
  | nil => intro _ _; simp [val, digs_zero]
  | cons x xs ih =>
    intro h hl
    have h1 := h.head
    have hpos : 0 < val b (x :: xs) := by
      rcases Nat.eq_zero_or_pos (val b (x :: xs)) with h0 | h0
      · exfalso
        have hl' := hl (by simp)
        have key : ∀ (ys : List Int), Wf b ys → val b ys = 0 → ∀ i, ys.getD i 0 = 0 := by
          intro ys
          induction ys with
          | nil => intro _ _ i; simp
          | cons y ys ihy =>
            intro hy h0 i
            simp only [val] at h0
            have hy1 := hy.head
            have h00 : val b ys = 0 := by
              rcases Nat.eq_zero_or_pos (val b ys) with h | h
              · exact h
              · have := Nat.mul_pos (show 0 < b by omega) h
                omega
            cases i with
            | zero => simp; omega
            | succ i => simpa using ihy hy.tail h00 i
        rw [key _ h h0] at hl'
        omega
      · exact h0
    rw [digs_pos hb hpos]
    simp only [val]
    have e1 : (x.toNat + b * val b xs) % b = x.toNat := by
      rw [Nat.add_mul_mod_self_left]
      exact Nat.mod_eq_of_lt (by omega)
    have e2 : (x.toNat + b * val b xs) / b = val b xs := by
      rw [Nat.add_mul_div_left _ _ (by omega), Nat.div_eq_of_lt (by omega)]
      omega
    rw [e1, e2, ih h.tail ?_]
    · congr 1
      omega
    · intro hne
      have := hl (by simp)
      cases xs with
      | nil => exact absurd rfl hne
      | cons y ys => simpa using this
theorem digs_last {b : Nat} (hb : 1 < b) : ∀ n : Nat, digs b n ≠ [] → 0 < (digs b n).getD ((digs b n).length - 1) 0 := by
  intro n
  induction n using Nat.strongRecOn with
  | _ n ih =>
    rcases Nat.eq_zero_or_pos n with rfl | hn
    · rw [digs_zero]; intro h; exact absurd rfl h
    · intro _
      rw [digs_pos hb hn]
      have hlt := Nat.div_lt_self hn hb
      by_cases h0 : n / b = 0
      · rw [h0, digs_zero]
        simp
        have := Nat.mod_add_div n b
        rw [h0] at this
        simp at this
        omega
      · have hq := Nat.pos_of_ne_zero h0
        have := ih (n / b) hlt (by rw [digs_pos hb hq]; simp)
        have hl : 0 < (digs b (n / b)).length := by rw [digs_pos hb hq]; simp
        rw [show ((n % b : Nat) : Int) :: digs b (n / b) = [((n % b : Nat) : Int)] ++ digs b (n / b) from rfl]
        rw [List.getD_eq_getElem?_getD] at this ⊢
        rw [List.getElem?_append_right (by simp; omega)]
        simpa using this
theorem val_take_zeros {b : Nat} {xs : List Int} {n : Nat} (h : ∀ i, n ≤ i → i < xs.length → xs.getD i 0 = 0) : val b (xs.take n) = val b xs := by
  have hz : ∀ (ys : List Int), (∀ i, i < ys.length → ys.getD i 0 = 0) → val b ys = 0 := by
    intro ys
    induction ys with
    | nil => intro _; rfl
    | cons y ys ih =>
      intro h
      have h0 := h 0 (by simp)
      simp at h0
      have := ih (fun i hi => by simpa using h (i + 1) (by simp; omega))
      simp [val, h0, this]
  by_cases hn : n ≤ xs.length
  · have e := val_append b (xs.take n) (xs.drop n)
    rw [List.take_append_drop] at e
    rw [e, hz (xs.drop n)]
    · simp
    · intro i hi
      simp at hi
      have := h (n + i) (by omega) (by omega)
      rw [List.getD_eq_getElem?_getD] at this ⊢
      rw [List.getElem?_drop]
      exact this
  · rw [List.take_of_length_le (by omega)]
theorem digs_length_le {b : Nat} (hb : 1 < b) : ∀ (k n : Nat), n < b ^ k → (digs b n).length ≤ k := by
  intro k
  induction k with
  | zero => intro n h; simp at h; subst h; rw [digs_zero]; simp
  | succ k ih =>
    intro n h
    rcases Nat.eq_zero_or_pos n with rfl | hn
    · rw [digs_zero]; simp
    · rw [digs_pos hb hn]
      have : n / b < b ^ k := by
        rw [Nat.div_lt_iff_lt_mul (by omega)]
        rwa [Nat.pow_succ] at h
      have := ih _ this
      simp
      omega
theorem le_of_digs_length {b : Nat} (hb : 1 < b) (n : Nat) : n < b ^ (digs b n).length := by
  have := val_lt (wf_digs hb n)
  rwa [val_digs hb] at this
theorem pow_le_of_digs {b : Nat} (hb : 1 < b) : ∀ (n : Nat), 0 < n → b ^ ((digs b n).length - 1) ≤ n := by
  intro n
  induction n using Nat.strongRecOn with
  | _ n ih =>
    intro hn
    rw [digs_pos hb hn]
    simp
    rcases Nat.eq_zero_or_pos (n / b) with h0 | h0
    · rw [h0, digs_zero]; simp; omega
    · have h1 := ih (n / b) (Nat.div_lt_self hn hb) h0
      have hl : 0 < (digs b (n / b)).length := by rw [digs_pos hb h0]; simp
      obtain ⟨m, hm⟩ : ∃ m, (digs b (n / b)).length = m + 1 := ⟨(digs b (n / b)).length - 1, by omega⟩
      rw [hm] at h1 ⊢
      simp at h1
      rw [Nat.pow_succ]
      exact Nat.le_trans (Nat.mul_le_mul_right b h1) (Nat.div_mul_le_self n b)
theorem digs_inj {b : Nat} (hb : 1 < b) {n m : Nat} (h : digs b n = digs b m) : n = m := by
  have := congrArg (val b) h
  rwa [val_digs hb, val_digs hb] at this
theorem digs_eq_nil {b : Nat} (hb : 1 < b) {n : Nat} : digs b n = [] ↔ n = 0 := by
  constructor
  · intro h
    apply digs_inj hb
    rw [h, digs_zero]
  · rintro rfl
    exact digs_zero b
theorem val_drop (b : Nat) (l : List Int) (i : Nat) : val b (l.drop i) = (l.getD i 0).toNat + b * val b (l.drop (i + 1)) := by
  by_cases h : i < l.length
  · rw [List.drop_eq_getElem_cons h, val_cons, List.getD_eq_getElem?_getD, List.getElem?_eq_getElem h]
    rfl
  · rw [List.drop_eq_nil_of_le (by omega), List.drop_eq_nil_of_le (by omega), List.getD_eq_getElem?_getD, List.getElem?_eq_none (by omega)]
    rfl
theorem val_split (b : Nat) (l : List Int) (i : Nat) : val b l = val b (l.take i) + b ^ i * val b (l.drop i) := by
  by_cases h : i ≤ l.length
  · have e := val_append b (l.take i) (l.drop i)
    rw [List.take_append_drop, List.length_take, Nat.min_eq_left h] at e
    exact e
  · rw [List.take_of_length_le (by omega), List.drop_eq_nil_of_le (by omega), val_nil, Nat.mul_zero, Nat.add_zero]
theorem val_take_succ (b : Nat) (l : List Int) (i : Nat) : val b (l.take (i + 1)) = val b (l.take i) + b ^ i * (l.getD i 0).toNat := by
  by_cases h : i < l.length
  · rw [List.take_succ_eq_append_getElem h, val_append, List.length_take, Nat.min_eq_left (by omega), List.getD_eq_getElem?_getD, List.getElem?_eq_getElem h]
    simp [val]
  · rw [List.take_of_length_le (by omega), List.take_of_length_le (by omega), List.getD_eq_getElem?_getD, List.getElem?_eq_none (by omega)]
    simp
theorem val_set {b : Nat} {l : List Int} {i : Nat} (h : i < l.length) (x : Int) : val b (l.set i x) + b ^ i * (l.getD i 0).toNat = val b l + b ^ i * x.toNat := by
  induction l generalizing i with
  | nil => simp at h
  | cons y ys ih =>
    cases i with
    | zero => simp [val]; omega
    | succ i =>
      have := ih (i := i) (by simpa using h)
      have e : (y :: ys).getD (i + 1) 0 = ys.getD i 0 := by simp
      rw [e, List.set_cons_succ, val_cons, val_cons, Nat.pow_succ, Nat.mul_comm (b ^ i) b, Nat.mul_assoc, Nat.mul_assoc]
      have h2 := congrArg (b * ·) this
      simp only [Nat.mul_add] at h2
      omega
theorem getD_toNat {b : Nat} (hb : 0 < b) {l : List Int} (h : Wf b l) (i : Nat) : ((l.getD i 0).toNat : Int) = l.getD i 0 ∧ (l.getD i 0).toNat < b := by
  have := h.getD hb i
  omega
theorem getD_ge {l : List Int} {i : Nat} (h : l.length ≤ i) : l.getD i 0 = 0 := by
  rw [List.getD_eq_getElem?_getD, List.getElem?_eq_none h]; rfl
theorem digs_take {b : Nat} (hb : 1 < b) {l : List Int} (h : Wf b l) {i : Nat} (hi : i ≤ l.length) (hz : ∀ j, i ≤ j → j < l.length → l.getD j 0 = 0) (hl : i ≠ 0 → l.getD (i - 1) 0 ≠ 0) : digs b (val b l) = l.take i := by
  have e := val_take_zeros (b := b) hz
  rw [← e]
  apply digs_val hb (h.take i)
  intro hne
  have hi0 : i ≠ 0 := by rintro rfl; simp at hne
  have hlen : (l.take i).length = i := by rw [List.length_take, Nat.min_eq_left hi]
  rw [hlen]
  have h1 : (l.take i).getD (i - 1) 0 = l.getD (i - 1) 0 := by
    rw [List.getD_eq_getElem?_getD, List.getD_eq_getElem?_getD, List.getElem?_take_of_lt (by omega)]
  rw [h1]
  have h2 := h.getD (by omega) (i - 1)
  have h3 := hl hi0
  omega
theorem digs_len_mono {b : Nat} (hb : 1 < b) {n m : Nat} (h : n ≤ m) : (digs b n).length ≤ (digs b m).length :=
  digs_length_le hb _ _ (Nat.lt_of_le_of_lt h (le_of_digs_length hb m))
end Go.Proofs.Ytjbpchebabhoeaa.Dg
end
section
set_option linter.unusedVariables false
set_option linter.unusedSimpArgs false
namespace Go.Proofs.Ytjbpchebabhoeaa.Bt
open Go.RowKit Go.Proofs.YtjbpchebabhoeaaW.PrintWords
theorem w64 {x : Int} (h0 : -9223372036854775808 ≤ x) (h1 : x < 9223372036854775808) : wrap64 x = x := by unfold wrap64; omega
theorem u64 (x : Int) : IntKind.u64.wrap x = x % 18446744073709551616 := IntKind.wrap_u64 x
theorem u64_in {x : Int} (h0 : 0 ≤ x) (h1 : x < 18446744073709551616) : IntKind.u64.wrap x = x := by rw [u64]; omega
theorem and_mask (k : Nat) (hk : k ≤ 64) {x : Int} (h0 : 0 ≤ x) (h1 : x < 18446744073709551616) : bits .and .u64 x (((2 ^ k - 1 : Nat)) : Int) = x % ((2 ^ k : Nat) : Int) := by
  obtain ⟨n, rfl⟩ := Int.eq_ofNat_of_zero_le h0
  have hp : 2 ^ k ≤ 2 ^ 64 := Nat.pow_le_pow_right (by omega) hk
  rw [bits_and_u64_nat n (2 ^ k - 1) (by omega) (by omega), Nat.and_two_pow_sub_one_eq_mod]
  rfl
theorem and_2047 {x : Int} (h0 : 0 ≤ x) (h1 : x < 18446744073709551616) : bits .and .u64 x 2047 = x % 2048 := and_mask 11 (by omega) h0 h1
theorem and_frac {x : Int} (h0 : 0 ≤ x) (h1 : x < 18446744073709551616) : bits .and .u64 x 4503599627370495 = x % 4503599627370496 := and_mask 52 (by omega) h0 h1
theorem and_1 {x : Int} (h0 : 0 ≤ x) (h1 : x < 18446744073709551616) : bits .and .u64 x 1 = x % 2 := and_mask 1 (by omega) h0 h1
theorem and_m32 {x : Int} (h0 : 0 ≤ x) (h1 : x < 18446744073709551616) : bits .and .u64 x 4294967295 = x % 4294967296 := and_mask 32 (by omega) h0 h1
theorem testBit63 (n : Nat) (h : n < 18446744073709551616) : n.testBit 63 = decide (9223372036854775808 ≤ n) := by
  rw [Nat.testBit_eq_decide_div_mod_eq]
  have : n / 2 ^ 63 = if 9223372036854775808 ≤ n then 1 else 0 := by
    split
    · omega
    · omega
  rw [this]
  split <;> simp_all
theorem and_63 (n : Nat) : n &&& 2 ^ 63 = if n.testBit 63 then 2 ^ 63 else 0 := by
  apply Nat.eq_of_testBit_eq
  intro i
  rw [Nat.testBit_and, Nat.testBit_two_pow]
  by_cases hi : 63 = i
  · subst hi
    by_cases hb : n.testBit 63 = true
    · rw [if_pos hb, hb]; rfl
    · rw [if_neg hb]; simp at hb; rw [hb]; rfl
  · have : decide (63 = i) = false := by simp [hi]
    rw [this, Bool.and_false]
    split
    · rw [Nat.testBit_two_pow, this]
    · simp
theorem and_sign {x : Int} (h0 : 0 ≤ x) (h1 : x < 18446744073709551616) : bits .and .u64 x 9223372036854775808 = if 9223372036854775808 ≤ x then 9223372036854775808 else 0 := by
  obtain ⟨n, rfl⟩ := Int.eq_ofNat_of_zero_le h0
  have e := bits_and_u64_nat n (2 ^ 63) (by omega) (by decide)
  rw [and_63, testBit63 n (by omega)] at e
  refine Eq.trans e ?_
  by_cases h : 9223372036854775808 ≤ n
  · rw [if_pos (show decide (9223372036854775808 ≤ n) = true by simpa using h), if_pos (by omega)]; rfl
  · rw [if_neg (show ¬ decide (9223372036854775808 ≤ n) = true by simpa using h), if_neg (by omega)]; rfl
theorem or_add_nat (k a b : Nat) (hb : b < 2 ^ k) (h : 2 ^ k * a + b < 18446744073709551616) : bits .or .u64 ((2 ^ k * a : Nat) : Int) (b : Int) = ((2 ^ k * a + b : Nat) : Int) := by
  rw [bits_or_u64_nat _ _ (by omega) (by omega), Nat.two_pow_add_eq_or_of_lt hb]
theorem or_comm_nat (a b : Nat) (ha : a < 18446744073709551616) (hb : b < 18446744073709551616) : bits .or .u64 (a : Int) (b : Int) = bits .or .u64 (b : Int) (a : Int) := by
  rw [bits_or_u64_nat a b ha hb, bits_or_u64_nat b a hb ha, Nat.or_comm]
theorem or_hidden {x : Int} (h0 : 0 ≤ x) (h1 : x < 4503599627370496) : bits .or .u64 x 4503599627370496 = x + 4503599627370496 := by
  obtain ⟨n, rfl⟩ := Int.eq_ofNat_of_zero_le h0
  have e := or_add_nat 52 1 n (by omega) (by omega)
  have c := or_comm_nat n 4503599627370496 (by omega) (by omega)
  refine Eq.trans c ?_
  refine Eq.trans e ?_
  omega
theorem or_sign {z x : Int} (hz : z = 0 ∨ z = 9223372036854775808) (h0 : 0 ≤ x) (h1 : x < 9223372036854775808) : bits .or .u64 z x = z + x := by
  obtain ⟨n, rfl⟩ := Int.eq_ofNat_of_zero_le h0
  rcases hz with rfl | rfl
  · have e := or_add_nat 63 0 n (by omega) (by omega)
    refine Eq.trans e ?_
    omega
  · have e := or_add_nat 63 1 n (by omega) (by omega)
    refine Eq.trans e ?_
    omega
theorem or_52 {z x : Int} (hz0 : 0 ≤ z) (hz : z % 4503599627370496 = 0) (hz1 : z < 18446744073709551616) (h0 : 0 ≤ x) (h1 : x < 4503599627370496) : bits .or .u64 z x = z + x := by
  obtain ⟨n, rfl⟩ := Int.eq_ofNat_of_zero_le h0
  obtain ⟨m, rfl⟩ := Int.eq_ofNat_of_zero_le hz0
  have e := or_add_nat 52 (m / 4503599627370496) n (by omega) (by omega)
  have e2 : 2 ^ 52 * (m / 4503599627370496) = m := by omega
  rw [e2] at e
  refine Eq.trans e ?_
  omega
theorem xor_nat (a b : Nat) (ha : a < 18446744073709551616) (hb : b < 18446744073709551616) : bits .xor .u64 (a : Int) (b : Int) = ((a ^^^ b : Nat) : Int) := by
  have hx : a ^^^ b < 2 ^ 64 := Nat.xor_lt_two_pow (by omega) (by omega)
  have h1 : (BitVec.ofInt 64 (a : Int)).toNat = a := by
    rw [BitVec.ofInt_natCast, BitVec.toNat_ofNat]; exact Nat.mod_eq_of_lt (by omega)
  have h2 : (BitVec.ofInt 64 (b : Int)).toNat = b := by
    rw [BitVec.ofInt_natCast, BitVec.toNat_ofNat]; exact Nat.mod_eq_of_lt (by omega)
  show IntKind.u64.wrap ((BitVec.ofInt 64 (a : Int) ^^^ BitVec.ofInt 64 (b : Int)).toNat : Int) = _
  rw [BitVec.toNat_xor, h1, h2, u64]
  omega
theorem andNot_nat (a b : Nat) (ha : a < 18446744073709551616) (hb : b < 18446744073709551616) : bits .andNot .u64 (a : Int) (b : Int) = ((a &&& (18446744073709551615 - b) : Nat) : Int) := by
  have hx : a &&& (18446744073709551615 - b) < 2 ^ 64 := Nat.and_lt_two_pow _ (by omega)
  have h1 : (BitVec.ofInt 64 (a : Int)).toNat = a := by
    rw [BitVec.ofInt_natCast, BitVec.toNat_ofNat]; exact Nat.mod_eq_of_lt (by omega)
  have h2 : (BitVec.ofInt 64 (b : Int)).toNat = b := by
    rw [BitVec.ofInt_natCast, BitVec.toNat_ofNat]; exact Nat.mod_eq_of_lt (by omega)
  show IntKind.u64.wrap ((BitVec.ofInt 64 (a : Int) &&& ~~~BitVec.ofInt 64 (b : Int)).toNat : Int) = _
  rw [BitVec.toNat_and, BitVec.toNat_not, h1, h2, u64]
  have e : 2 ^ 64 - 1 - b = 18446744073709551615 - b := by omega
  rw [e]
  omega
theorem andNot_sign {x : Int} (h0 : 0 ≤ x) (h1 : x < 18446744073709551616) : bits .andNot .u64 x 9223372036854775808 = x % 9223372036854775808 := by
  obtain ⟨n, rfl⟩ := Int.eq_ofNat_of_zero_le h0
  have e := andNot_nat n 9223372036854775808 (by omega) (by omega)
  have e2 : n &&& (18446744073709551615 - 9223372036854775808) = n % 2 ^ 63 := by
    rw [show 18446744073709551615 - 9223372036854775808 = 2 ^ 63 - 1 from rfl, Nat.and_two_pow_sub_one_eq_mod]
  rw [e2] at e
  refine Eq.trans e ?_
  omega
theorem xor_split (n : Nat) (h : n < 9223372036854775808) : n ^^^ 9223372036854775808 = n + 9223372036854775808 := by
  have e := Nat.two_pow_add_eq_or_of_lt (i := 63) (a := 1) (b := n) (by omega)
  rw [show n + 9223372036854775808 = 2 ^ 63 * 1 + n by omega, e, Nat.mul_one]
  change n ^^^ 2 ^ 63 = 2 ^ 63 ||| n
  apply Nat.eq_of_testBit_eq
  intro i
  rw [Nat.testBit_xor, Nat.testBit_or, Nat.testBit_two_pow]
  by_cases hi : 63 = i
  · subst hi
    have : n.testBit 63 = false := Nat.testBit_lt_two_pow (by omega)
    rw [this]; rfl
  · have : decide (63 = i) = false := by simp [hi]
    rw [this, Bool.xor_false, Bool.false_or]
theorem xor_sign {x : Int} (h0 : 0 ≤ x) (h1 : x < 18446744073709551616) : bits .xor .u64 x 9223372036854775808 = if 9223372036854775808 ≤ x then x - 9223372036854775808 else x + 9223372036854775808 := by
  obtain ⟨n, rfl⟩ := Int.eq_ofNat_of_zero_le h0
  have e := xor_nat n 9223372036854775808 (by omega) (by omega)
  refine Eq.trans e ?_
  by_cases h : 9223372036854775808 ≤ n
  · rw [if_pos (by omega)]
    have e1 := xor_split (n - 9223372036854775808) (by omega)
    have e2 : n ^^^ 9223372036854775808 = n - 9223372036854775808 := by
      rw [show n = (n - 9223372036854775808) ^^^ 9223372036854775808 by rw [e1]; omega, Nat.xor_assoc, Nat.xor_self, Nat.xor_zero, e1]
      omega
    rw [e2]; omega
  · rw [if_neg (by omega), xor_split n (by omega)]; omega
theorem xor_and_sign {x y : Int} (hx0 : 0 ≤ x) (hx1 : x < 18446744073709551616) (hy0 : 0 ≤ y) (hy1 : y < 18446744073709551616) :
    bits .and .u64 (bits .xor .u64 x y) 9223372036854775808 = if (9223372036854775808 ≤ x) = (9223372036854775808 ≤ y) then 0 else 9223372036854775808 := by
  obtain ⟨n, rfl⟩ := Int.eq_ofNat_of_zero_le hx0
  obtain ⟨m, rfl⟩ := Int.eq_ofNat_of_zero_le hy0
  have hx : n ^^^ m < 2 ^ 64 := Nat.xor_lt_two_pow (by omega) (by omega)
  rw [xor_nat n m (by omega) (by omega), and_sign (by omega) (by omega)]
  have t := testBit63 (n ^^^ m) (by omega)
  rw [Nat.testBit_xor, testBit63 n (by omega), testBit63 m (by omega)] at t
  by_cases h1 : 9223372036854775808 ≤ n <;> by_cases h2 : 9223372036854775808 ≤ m
  · rw [decide_eq_true h1, decide_eq_true h2] at t
    have := of_decide_eq_false t.symm
    rw [if_neg (by omega), if_pos (propext ⟨fun _ => by omega, fun _ => by omega⟩)]
  · rw [decide_eq_true h1, decide_eq_false h2] at t
    have := of_decide_eq_true t.symm
    rw [if_pos (by omega), if_neg (fun e => h2 (by have : (9223372036854775808 : Int) ≤ (m : Int) := e ▸ (show (9223372036854775808 : Int) ≤ (n : Int) by omega); omega))]
  · rw [decide_eq_false h1, decide_eq_true h2] at t
    have := of_decide_eq_true t.symm
    rw [if_pos (by omega), if_neg (fun e => h1 (by have : (9223372036854775808 : Int) ≤ (n : Int) := e ▸ (show (9223372036854775808 : Int) ≤ (m : Int) by omega); omega))]
  · rw [decide_eq_false h1, decide_eq_false h2] at t
    have := of_decide_eq_false t.symm
    rw [if_neg (by omega), if_pos (propext ⟨fun _ => by omega, fun _ => by omega⟩)]
theorem shl_u64 {x n : Int} (hn0 : 0 ≤ n) (hn : n ≤ 64) : shl .u64 x n = (x * (2 ^ n.toNat : Nat)) % 18446744073709551616 := by
  unfold shl
  rw [Nat.min_eq_left (show n.toNat ≤ IntKind.u64.bits from by show n.toNat ≤ 64; omega), u64]
  rw [Int.natCast_pow]; rfl
theorem shl_far {x n : Int} (hn : 64 ≤ n) : shl .u64 x n = 0 := by
  unfold shl
  rw [Nat.min_eq_right (show IntKind.u64.bits ≤ n.toNat from by show 64 ≤ n.toNat; omega), u64]
  show x * 2 ^ 64 % 18446744073709551616 = 0
  omega
theorem shr_u64 {x n : Int} (hn0 : 0 ≤ n) (hn : n ≤ 64) : shr .u64 x n = x / (2 ^ n.toNat : Nat) := by
  unfold shr
  rw [Nat.min_eq_left (show n.toNat ≤ IntKind.u64.bits from by show n.toNat ≤ 64; omega)]
  rw [Int.natCast_pow]; rfl
theorem shr_far {x n : Int} (h0 : 0 ≤ x) (h1 : x < 18446744073709551616) (hn : 64 ≤ n) : shr .u64 x n = 0 := by
  unfold shr
  rw [Nat.min_eq_right (show IntKind.u64.bits ≤ n.toNat from by show 64 ≤ n.toNat; omega)]
  show x / 2 ^ 64 = 0
  omega
def blen (n : Nat) : Nat := if n = 0 then 0 else n.log2 + 1
theorem blen_zero : blen 0 = 0 := rfl
theorem blen_le {n k : Nat} (h : n < 2 ^ k) : blen n ≤ k := by
  unfold blen
  split
  · omega
  · rename_i h0
    have := (Nat.log2_lt h0).2 h
    omega
theorem lt_blen (n : Nat) : n < 2 ^ blen n := by
  unfold blen
  split
  · omega
  · exact Nat.lt_log2_self
theorem blen_ge {n : Nat} (h : 0 < n) : 2 ^ (blen n - 1) ≤ n := by
  unfold blen
  rw [if_neg (by omega)]
  simpa using Nat.log2_self_le (by omega)
theorem blen_pos {n : Nat} (h : 0 < n) : 0 < blen n := by unfold blen; rw [if_neg (by omega)]; omega
theorem blen_eq {n k : Nat} (h0 : 2 ^ k ≤ n) (h1 : n < 2 ^ (k + 1)) : blen n = k + 1 := by
  have a := blen_le h1
  have hp : 0 < n := Nat.lt_of_lt_of_le (Nat.two_pow_pos k) h0
  have b := lt_blen n
  have c : k < blen n := by
    have := Nat.lt_of_le_of_lt h0 b
    exact (Nat.pow_lt_pow_iff_right (by omega)).1 this
  omega
theorem blen_lt_iff {n k : Nat} : blen n ≤ k ↔ n < 2 ^ k := by
  constructor
  · intro h
    exact Nat.lt_of_lt_of_le (lt_blen n) (Nat.pow_le_pow_right (by omega) h)
  · exact blen_le
theorem blen_mul_pow {n : Nat} (h : 0 < n) (k : Nat) : blen (n * 2 ^ k) = blen n + k := by
  have h1 := lt_blen n
  have h2 := blen_ge h
  have h3 := blen_pos h
  obtain ⟨m, hm⟩ : ∃ m, blen n = m + 1 := ⟨blen n - 1, by omega⟩
  rw [hm] at h1 h2 ⊢
  simp at h2
  rw [show m + 1 + k = (m + k) + 1 by omega]
  apply blen_eq
  · rw [Nat.pow_add]; exact Nat.mul_le_mul_right _ h2
  · rw [show m + k + 1 = (m + 1) + k by omega, Nat.pow_add]
    exact Nat.mul_lt_mul_of_pos_right h1 (Nat.two_pow_pos k)
theorem blen_mono {n m : Nat} (h : n ≤ m) : blen n ≤ blen m := blen_le (Nat.lt_of_le_of_lt h (lt_blen m))
theorem bitLen_eq (n : Nat) (h : n < 18446744073709551616) : Lib.bitLen n = blen n := by
  rcases Nat.eq_zero_or_pos n with rfl | hp
  · rfl
  · have := Lib.bitLenAux_bounds 64 n (by omega) (by omega)
    unfold Lib.bitLen
    obtain ⟨m, hm⟩ : ∃ m, Lib.bitLenAux 64 n = m + 1 := ⟨Lib.bitLenAux 64 n - 1, by omega⟩
    rw [hm] at this ⊢
    simp at this
    exact (blen_eq this.1 this.2).symm
end Go.Proofs.Ytjbpchebabhoeaa.Bt
end
section
set_option linter.unusedVariables false
set_option linter.unusedSimpArgs false
namespace Go.Proofs.Ytjbpchebabhoeaa.Rf
open Go.RowKit Go.Proofs.Ytjbpchebabhoeaa.P Go.Proofs.Ytjbpchebabhoeaa.X Go.Proofs.Ytjbpchebabhoeaa.Bt Go.Proofs.Ytjbpchebabhoeaa.Dg Go.Proofs.YtjbpchebabhoeaaW.PrintWords
abbrev W16 (l : List Int) : Prop := Wf 65536 l
def D (n : Nat) : List Int := digs 65536 n
theorem D_wf (n : Nat) : W16 (D n) := wf_digs (by omega) n
theorem D_val (n : Nat) : val 65536 (D n) = n := val_digs (by omega) n
theorem D_zero : D 0 = [] := digs_zero _
theorem D_nil {n : Nat} : D n = [] ↔ n = 0 := digs_eq_nil (by omega)
theorem D_len0 {n : Nat} : (D n).length = 0 ↔ n = 0 := by rw [List.length_eq_zero_iff]; exact D_nil
theorem D_inj {n m : Nat} (h : D n = D m) : n = m := digs_inj (by omega) h
def Few_ (l : List Int) : Prop := l.length ≤ 1099511627776
theorem few_D {n k : Nat} (h : n < 65536 ^ k) (hk : k ≤ 1099511627776) : Few_ (D n) := Nat.le_trans (digs_length_le (by omega) k n h) hk
theorem rd_nat (l : List Int) (i : Nat) : rd l (i : Int) = l.getD i 0 := by simp [rd]
theorem dig_bound {l : List Int} (h : W16 l) (i : Nat) : 0 ≤ l.getD i 0 ∧ l.getD i 0 < 65536 := by
  have := h.getD (by omega) i
  omega
theorem snoc_wf {l : List Int} (h : W16 l) {x : Int} (h0 : 0 ≤ x) (h1 : x < 65536) : W16 (l ++ [x]) := h.append (Wf.cons h0 (by omega) (Wf.nil _))
theorem val_snoc (l : List Int) (x : Int) : val 65536 (l ++ [x]) = val 65536 l + 65536 ^ l.length * x.toNat := by rw [val_append, val_cons, val_nil, Nat.mul_zero, Nat.add_zero]
theorem cut_loop {l : List Int} (h : W16 l) (hf : l.length ≤ 4611686018427387904) : ∀ (i k : Nat), i ≤ l.length → i < k → (∀ j, i ≤ j → j < l.length → l.getD j 0 = 0) → vernierref01_cut.l0 k l i = some (D (val 65536 l)) := by
  intro i
  induction i with
  | zero =>
    intro k hi hk hz
    obtain ⟨k, rfl⟩ : ∃ m, k = m + 1 := ⟨k - 1, by omega⟩
    simp only [vernierref01_cut.l0]
    rw [if_neg (by omega), if_pos (by omega), if_pos (by omega)]
    unfold D
    rw [digs_take (by omega) h hi hz (fun h => absurd rfl h)]
    rfl
  | succ i ih =>
    intro k hi hk hz
    obtain ⟨k, rfl⟩ : ∃ m, k = m + 1 := ⟨k - 1, by omega⟩
    simp only [vernierref01_cut.l0]
    rw [if_pos (by omega), w64 (by omega) (by omega), show (((i + 1 : Nat) : Int) - 1) = (i : Int) by omega, if_pos (by omega), if_pos (by omega), rd_nat]
    by_cases e : l.getD i 0 = 0
    · rw [if_pos e]
      refine ih k (by omega) (by omega) (fun j h1 h2 => ?_)
      by_cases hj : j = i
      · subst hj; exact e
      · exact hz j (by omega) h2
    · rw [if_neg e, if_pos (by omega), if_pos (by omega), Int.toNat_natCast]
      unfold D
      rw [digs_take (by omega) h hi hz (fun _ => e)]
theorem cut_f {l : List Int} (h : W16 l) (hf : l.length ≤ 4611686018427387904) {k : Nat} (hk : l.length < k) : vernierref01_cut.f k l = some (D (val 65536 l)) :=
  cut_loop h hf l.length k (Nat.le_refl _) hk (fun j h1 h2 => absurd h1 (by omega))
theorem tmod_dig {x : Int} (h0 : 0 ≤ x) : Int.tmod x 65536 = x % 65536 := Int.tmod_eq_emod_of_nonneg h0
theorem tdiv_dig {x : Int} (h0 : 0 ≤ x) : Int.tdiv x 65536 = x / 65536 := Int.tdiv_eq_ediv_of_nonneg h0
theorem Add_loop {a b : List Int} (ha : W16 a) (hb : W16 b) (fa : Few_ a) (fb : Few_ b) (d : Nat) : ∀ (i : Nat) (out : List Int) (c : Int) (k : Nat), i + d = max a.length b.length + 1 → 3 * d + i + 10 < k → out.length = i → W16 out → 0 ≤ c → c ≤ 1 →
    (max a.length b.length + 1 = i → c = 0) →
    val 65536 out + 65536 ^ i * (c.toNat + val 65536 (a.drop i) + val 65536 (b.drop i)) = val 65536 a + val 65536 b →
    vernierref01_Add.l0 k a b out c i = some (D (val 65536 a + val 65536 b)) := by
  unfold Few_ at fa fb
  induction d with
  | zero =>
    intro i out c k hi hk hl hw h0 h1 hc hv
    obtain ⟨k, rfl⟩ : ∃ m, k = m + 2 := ⟨k - 2, by omega⟩
    simp only [vernierref01_Add.l0]
    have hc0 := hc (by omega)
    subst hc0
    rw [if_neg (by omega), if_neg (by omega), decide_eq_false (by omega)]
    simp only [vernierref01_Add.j1]
    rw [if_neg (by decide), cut_f hw (by omega) (by omega)]
    rw [List.drop_eq_nil_of_le (by omega), List.drop_eq_nil_of_le (by omega)] at hv
    simp only [val_nil, Int.toNat_zero, Nat.add_zero, Nat.mul_zero] at hv
    rw [hv]; rfl
  | succ d ih =>
    intro i out c k hi hk hl hw h0 h1 hc hv
    obtain ⟨k, rfl⟩ : ∃ m, k = m + 2 := ⟨k - 2, by omega⟩
    have da := dig_bound ha i
    have db := dig_bound hb i
    rw [val_drop 65536 a i, val_drop 65536 b i] at hv
    have step : ∀ s : Int, s = c + a.getD i 0 + b.getD i 0 → vernierref01_Add.l0 k a b (out ++ [s % 65536]) (s / 65536) ((i : Int) + 1) = some (D (val 65536 a + val 65536 b)) := by
      intro s hs
      have := ih (i + 1) (out ++ [s % 65536]) (s / 65536) k (by omega) (by omega) (by simp [hl]) (snoc_wf hw (by omega) (by omega)) (by omega) (by omega) ?_ ?_
      · rw [← this]; congr 1
      · intro he
        have ga : a.getD i 0 = 0 := getD_ge (by omega)
        have gb : b.getD i 0 = 0 := getD_ge (by omega)
        omega
      · rw [val_snoc, hl, ← hv]
        have e : c.toNat + ((a.getD i 0).toNat + 65536 * val 65536 (a.drop (i + 1))) + ((b.getD i 0).toNat + 65536 * val 65536 (b.drop (i + 1))) = (s % 65536).toNat + 65536 * ((s / 65536).toNat + val 65536 (a.drop (i + 1)) + val 65536 (b.drop (i + 1))) := by omega
        rw [e]
        generalize (s / 65536).toNat + val 65536 (a.drop (i + 1)) + val 65536 (b.drop (i + 1)) = Z
        rw [Nat.pow_succ, Nat.mul_add, Nat.mul_assoc, Nat.add_assoc]
    have jt : vernierref01_Add.j1 (k + 1) a b out c i true = some (D (val 65536 a + val 65536 b)) := by
      simp only [vernierref01_Add.j1]
      rw [if_true]
      have hlen : out.length < 17592186044416 := by omega
      by_cases h1' : (i : Int) < (a.length : Int)
      · rw [if_pos h1', if_pos (by omega)]
        by_cases h2' : (i : Int) < (b.length : Int)
        · rw [if_pos h2', if_pos hlen, rd_nat, rd_nat, w64 (x := c + a.getD i 0) (by omega) (by omega), w64 (x := c + a.getD i 0 + b.getD i 0) (by omega) (by omega), tmod_dig (by omega), tdiv_dig (by omega), w64 (x := (i : Int) + 1) (by omega) (by omega), w64 (by omega) (by omega)]
          exact step _ rfl
        · have gb : b.getD i 0 = 0 := getD_ge (by omega)
          rw [if_neg h2', if_pos hlen, rd_nat, w64 (x := c + a.getD i 0) (by omega) (by omega), tmod_dig (by omega), tdiv_dig (by omega), w64 (x := (i : Int) + 1) (by omega) (by omega), w64 (by omega) (by omega)]
          exact step _ (by omega)
      · have ga : a.getD i 0 = 0 := getD_ge (by omega)
        rw [if_neg h1']
        by_cases h2' : (i : Int) < (b.length : Int)
        · rw [if_pos h2', if_pos (by omega), if_pos hlen, rd_nat, w64 (x := c + b.getD i 0) (by omega) (by omega), tmod_dig (by omega), tdiv_dig (by omega), w64 (x := (i : Int) + 1) (by omega) (by omega), w64 (by omega) (by omega)]
          exact step _ (by omega)
        · have gb : b.getD i 0 = 0 := getD_ge (by omega)
          rw [if_neg h2', if_pos hlen, tmod_dig (by omega), tdiv_dig (by omega), w64 (x := (i : Int) + 1) (by omega) (by omega), w64 (by omega) (by omega)]
          exact step _ (by omega)
    simp only [vernierref01_Add.l0]
    by_cases h1' : (i : Int) < (a.length : Int)
    · rw [if_pos h1']; exact jt
    · rw [if_neg h1']
      by_cases h2' : (i : Int) < (b.length : Int)
      · rw [if_pos h2']; exact jt
      · rw [if_neg h2']
        by_cases h3 : c > 0
        · rw [decide_eq_true h3]; exact jt
        · rw [decide_eq_false h3]
          simp only [vernierref01_Add.j1]
          rw [if_neg (by decide), cut_f hw (by omega) (by omega)]
          rw [← val_drop, ← val_drop, List.drop_eq_nil_of_le (by omega), List.drop_eq_nil_of_le (by omega)] at hv
          obtain rfl : c = 0 := by omega
          simp only [val_nil, Int.toNat_zero, Nat.add_zero, Nat.mul_zero] at hv
          rw [hv]; rfl
theorem Add_f {a b : List Int} (ha : W16 a) (hb : W16 b) (fa : Few_ a) (fb : Few_ b) {k : Nat} (hk : 3 * max a.length b.length + 20 < k) : vernierref01_Add.f k a b = some (D (val 65536 a + val 65536 b)) := by
  unfold vernierref01_Add.f
  exact Add_loop ha hb fa fb (max a.length b.length + 1) 0 [] 0 k (by omega) (by omega) rfl (Wf.nil _) (by omega) (by omega) (fun h => by omega) (by simp [val_nil])
theorem Cmp_loop {a b : List Int} (ha : W16 a) (hb : W16 b) (hl : a.length = b.length) (hf : a.length ≤ 4611686018427387904) : ∀ (i k : Nat), i ≤ a.length → i < k → val 65536 (a.drop i) = val 65536 (b.drop i) →
    vernierref01_Cmp.l0 k a b ((i : Int) - 1) = some (if val 65536 a < val 65536 b then -1 else if val 65536 b < val 65536 a then 1 else 0) := by
  intro i
  induction i with
  | zero =>
    intro k hi hk he
    obtain ⟨k, rfl⟩ : ∃ m, k = m + 1 := ⟨k - 1, by omega⟩
    simp only [vernierref01_Cmp.l0]
    rw [List.drop_zero, List.drop_zero] at he
    rw [if_neg (by omega), he, if_neg (by omega), if_neg (by omega)]
  | succ i ih =>
    intro k hi hk he
    obtain ⟨k, rfl⟩ : ∃ m, k = m + 1 := ⟨k - 1, by omega⟩
    simp only [vernierref01_Cmp.l0]
    rw [show (((i + 1 : Nat) : Int) - 1) = (i : Int) by omega, if_pos (by omega), if_pos (by omega), if_pos (by omega), if_pos (by omega), rd_nat, rd_nat]
    have sa := val_split 65536 a (i + 1)
    have sb := val_split 65536 b (i + 1)
    have ta := val_take_succ 65536 a i
    have tb := val_take_succ 65536 b i
    have la : val 65536 (a.take i) < 65536 ^ i := by have := val_lt (ha.take i); rwa [List.length_take, Nat.min_eq_left (by omega)] at this
    have lb : val 65536 (b.take i) < 65536 ^ i := by have := val_lt (hb.take i); rwa [List.length_take, Nat.min_eq_left (by omega)] at this
    rw [ta, he] at sa
    rw [tb] at sb
    have ga := getD_toNat (by omega) ha i
    have gb := getD_toNat (by omega) hb i
    generalize 65536 ^ (i + 1) * val 65536 (b.drop (i + 1)) = T at sa sb
    by_cases h1 : a.getD i 0 < b.getD i 0
    · rw [if_pos h1]
      have h2 : (a.getD i 0).toNat + 1 ≤ (b.getD i 0).toNat := by omega
      have h3 := Nat.mul_le_mul_left (65536 ^ i) h2
      rw [Nat.mul_add] at h3
      rw [if_pos (by omega)]
    · rw [if_neg h1]
      by_cases h2 : a.getD i 0 > b.getD i 0
      · rw [if_pos h2]
        have h4 : (b.getD i 0).toNat + 1 ≤ (a.getD i 0).toNat := by omega
        have h3 := Nat.mul_le_mul_left (65536 ^ i) h4
        rw [Nat.mul_add] at h3
        rw [if_neg (by omega), if_pos (by omega)]
      · rw [if_neg h2, w64 (by omega) (by omega)]
        refine ih k (by omega) (by omega) ?_
        rw [val_drop 65536 a i, val_drop 65536 b i, he, show a.getD i 0 = b.getD i 0 by omega]
def sign3 (n m : Nat) : Int := if n < m then -1 else if m < n then 1 else 0
theorem Cmp_f (n m : Nat) (fn : Few_ (D n)) (fm : Few_ (D m)) {k : Nat} (hk : (D n).length < k) : vernierref01_Cmp.f k (D n) (D m) = some (sign3 n m) := by
  unfold Few_ at fn fm
  unfold vernierref01_Cmp.f sign3
  by_cases h : ((D n).length : Int) = ((D m).length : Int)
  · rw [if_pos h, w64 (by omega) (by omega)]
    have := Cmp_loop (D_wf n) (D_wf m) (by omega) (by omega) (D n).length k (Nat.le_refl _) hk (by rw [List.drop_eq_nil_of_le (Nat.le_refl _), List.drop_eq_nil_of_le (by omega)])
    rw [D_val, D_val] at this
    exact this
  · rw [if_neg h]
    have hlen : ∀ u v : Nat, (D u).length < (D v).length → u < v := by
      intro u v hl
      apply Nat.lt_of_not_le
      intro hle
      have := digs_len_mono (b := 65536) (by omega) hle
      unfold D at hl
      omega
    by_cases h1 : ((D n).length : Int) < ((D m).length : Int)
    · rw [if_pos h1, if_pos (hlen n m (by omega))]
    · rw [if_neg h1]
      have := hlen m n (by omega)
      rw [if_neg (by omega), if_pos this]
theorem Sub_loop {a b : List Int} (ha : W16 a) (hb : W16 b) (fa : Few_ a) (hlen : b.length ≤ a.length) (hge : val 65536 b ≤ val 65536 a) (d : Nat) : ∀ (i : Nat) (out : List Int) (c : Int) (k : Nat), i + d = a.length → d + a.length + 5 < k → out.length = i → W16 out → -1 ≤ c → c ≤ 0 →
    (val 65536 out : Int) + (65536 ^ i : Nat) * (c + val 65536 (a.drop i) - val 65536 (b.drop i)) = (val 65536 a : Int) - val 65536 b →
    vernierref01_Sub.l0 k a b out c i = some (D (val 65536 a - val 65536 b)) := by
  unfold Few_ at fa
  induction d with
  | zero =>
    intro i out c k hi hk hl hw h0 h1 hv
    obtain ⟨k, rfl⟩ : ∃ m, k = m + 1 := ⟨k - 1, by omega⟩
    simp only [vernierref01_Sub.l0]
    rw [if_neg (by omega), cut_f hw (by omega) (by omega)]
    rw [List.drop_eq_nil_of_le (by omega), List.drop_eq_nil_of_le (by omega)] at hv
    simp only [val_nil] at hv
    have hlt := val_lt hw
    rw [hl] at hlt
    have hc : c = 0 := by
      rcases (show c = 0 ∨ c = -1 by omega) with h | h
      · exact h
      · exfalso
        subst h
        have e : ((65536 ^ i : Nat) : Int) * (-1 + ((0 : Nat) : Int) - ((0 : Nat) : Int)) = -((65536 ^ i : Nat) : Int) := by
          rw [show (-1 + ((0 : Nat) : Int) - ((0 : Nat) : Int)) = -1 by omega, Int.mul_neg, Int.mul_one]
        rw [e] at hv
        omega
    subst hc
    rw [show ((0 : Int) + ((0 : Nat) : Int) - ((0 : Nat) : Int)) = 0 by omega, Int.mul_zero] at hv
    rw [show val 65536 out = val 65536 a - val 65536 b by omega]
    rfl
  | succ d ih =>
    intro i out c k hi hk hl hw h0 h1 hv
    obtain ⟨k, rfl⟩ : ∃ m, k = m + 1 := ⟨k - 1, by omega⟩
    have da := dig_bound ha i
    have db := dig_bound hb i
    have ga := (getD_toNat (by omega) ha i).1
    have gb := (getD_toNat (by omega) hb i).1
    rw [val_drop 65536 a i, val_drop 65536 b i] at hv
    have step : ∀ s r : Int, s = c + a.getD i 0 - b.getD i 0 → r = (s % 65536) → vernierref01_Sub.l0 k a b (out ++ [r]) ((s - r) / 65536) ((i : Int) + 1) = some (D (val 65536 a - val 65536 b)) := by
      intro s r hs hr
      have := ih (i + 1) (out ++ [r]) ((s - r) / 65536) k (by omega) (by omega) (by simp [hl]) (snoc_wf hw (by omega) (by omega)) (by omega) (by omega) ?_
      · rw [← this]; congr 1
      · rw [val_snoc, hl, ← hv, Int.natCast_add, Int.natCast_add, Int.natCast_add, Int.natCast_mul, Int.natCast_mul, Int.natCast_mul, ga, gb, Int.toNat_of_nonneg (show 0 ≤ r by omega), Nat.pow_succ, Int.natCast_mul]
        have e : c + (a.getD i 0 + ((65536 : Nat) : Int) * (val 65536 (a.drop (i + 1)) : Int)) - (b.getD i 0 + ((65536 : Nat) : Int) * (val 65536 (b.drop (i + 1)) : Int)) = r + ((65536 : Nat) : Int) * ((s - r) / 65536 + (val 65536 (a.drop (i + 1)) : Int) - (val 65536 (b.drop (i + 1)) : Int)) := by omega
        rw [e, Int.mul_add, Int.mul_assoc, Int.add_assoc]
    have hlen2 : out.length < 17592186044416 := by omega
    have md : ∀ s : Int, -65537 ≤ s → s ≤ 65536 → Int.tmod (wrap64 (Int.tmod s 65536 + 65536)) 65536 = s % 65536 := by
      intro s hs0 hs1
      have h2 : -65536 < Int.tmod s 65536 ∧ Int.tmod s 65536 < 65536 ∧ (Int.tmod s 65536) % 65536 = s % 65536 := by
        refine ⟨?_, ?_, ?_⟩
        · have := Int.lt_tmod_of_pos s (show (0 : Int) < 65536 by omega); omega
        · exact Int.tmod_lt_of_pos s (by omega)
        · have := Int.tmod_add_mul_tdiv s 65536; omega
      rw [w64 (by omega) (by omega), tmod_dig (by omega)]
      omega
    have dv : ∀ s : Int, s % 65536 = 0 → Int.tdiv s 65536 = s / 65536 := by
      intro s hs
      exact Int.tdiv_eq_ediv_of_dvd (Int.dvd_of_emod_eq_zero hs)
    simp only [vernierref01_Sub.l0]
    rw [if_pos (by omega), if_pos (by omega)]
    by_cases h2' : (i : Int) < (b.length : Int)
    · rw [if_pos h2', if_pos hlen2, rd_nat, rd_nat, w64 (x := c + a.getD i 0) (by omega) (by omega), w64 (x := c + a.getD i 0 - b.getD i 0) (by omega) (by omega), md _ (by omega) (by omega), w64 (x := (i : Int) + 1) (by omega) (by omega), w64 (x := c + a.getD i 0 - b.getD i 0 - (c + a.getD i 0 - b.getD i 0) % 65536) (by omega) (by omega), dv _ (by omega), w64 (by omega) (by omega)]
      exact step _ _ rfl rfl
    · have gb0 : b.getD i 0 = 0 := getD_ge (by omega)
      rw [if_neg h2', if_pos hlen2, rd_nat, w64 (x := c + a.getD i 0) (by omega) (by omega), md _ (by omega) (by omega), w64 (x := (i : Int) + 1) (by omega) (by omega), w64 (x := c + a.getD i 0 - (c + a.getD i 0) % 65536) (by omega) (by omega), dv _ (by omega), w64 (by omega) (by omega)]
      exact step _ _ (by omega) rfl
theorem Sub_f (n m : Nat) (fn : Few_ (D n)) (fm : Few_ (D m)) {k : Nat} (hk : 3 * ((D n).length + (D m).length) + 20 < k) : vernierref01_Sub.f k (D n) (D m) = some (D (if n < m then m - n else n - m)) := by
  unfold vernierref01_Sub.f
  rw [Cmp_f n m fn fm (by omega)]
  simp only [Option.bind_some]
  obtain ⟨k, rfl⟩ : ∃ q, k = q + 1 := ⟨k - 1, by omega⟩
  have go : ∀ u v : Nat, Few_ (D u) → v ≤ u → (D u).length ≤ (D n).length + (D m).length → vernierref01_Sub.j0 (k + 1) (D u) (D v) = some (D (u - v)) := by
    intro u v fu h hl
    simp only [vernierref01_Sub.j0]
    have := Sub_loop (D_wf u) (D_wf v) fu (digs_len_mono (by omega) h) (by rw [D_val, D_val]; exact h) (D u).length 0 [] 0 k (by omega) (by omega) rfl (Wf.nil _) (by omega) (by omega) (by
      rw [List.drop_zero, List.drop_zero, val_nil, Nat.pow_zero]; omega)
    rw [D_val, D_val] at this
    exact this
  unfold sign3
  by_cases h : n < m
  · rw [if_pos h, if_pos (by omega), if_pos h]; exact go m n fm (by omega) (by omega)
  · rw [if_neg h, if_neg h]
    by_cases h2 : m < n
    · rw [if_pos h2, if_neg (by omega)]; exact go n m fn (by omega) (by omega)
    · rw [if_neg h2, if_neg (by omega)]; exact go n m fn (by omega) (by omega)
end Go.Proofs.Ytjbpchebabhoeaa.Rf
end
