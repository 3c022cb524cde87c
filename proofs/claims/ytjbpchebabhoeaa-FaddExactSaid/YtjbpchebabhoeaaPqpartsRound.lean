/- The machine side of the laws, written by a program of this session over the kit's own print. -/
import Derived.Test.YtjbpchebabhoeaaP0
import Derived.Test.YtjbpchebabhoeaaPqpartsZero
import Derived.Test.YtjbpchebabhoeaaPqpartswidelen
import Derived.Test.YtjbpchebabhoeaaPqpartswidecut
import Derived.Test.YtjbpchebabhoeaaPqpartsup
import Derived.Test.YtjbpchebabhoeaaPqpartsover
import Derived.Test.YtjbpchebabhoeaaPqpartsput
namespace Go.Proofs.Ytjbpchebabhoeaa.P
open Go.RowKit Go.Proofs.YtjbpchebabhoeaaW.PrintWords Go.Proofs.YtjbpchebabhoeaaW.PrintLast Go.Proofs.YtjbpchebabhoeaaW.PrintMore Go.Proofs.Ytjbpchebabhoeaa.X
attribute [local go_sem] max2_int min2_int max_two min_two max_three min_three max_four min_four   -- for this text's walks alone
set_option linter.unusedVariables false
set_option linter.unusedSimpArgs false

/-! ### parts_Round: function 95 -/
mutual
def parts_Round.j0 : Nat → Bool → Int → Bool → Int → Int → Int → Int → Option (Int × Int)
  | 0, _, _, _, _, _, _, _ => none
  | k + 1, x0, x3, x4, x5, x15, x375000, x375001 => (parts_wide_cut.f k x375000 x375001 (wrap64 ((mx (wrap64 ((wrap64 ((wrap64 (x3 + x15)) - 1)) - 52)) (-1074)) - x3))).bind fun bt377 => (if bt377.2.2 = true then (parts_Round.j1 k x0 x3 x5 x15 (mx (wrap64 ((wrap64 ((wrap64 (x3 + x15)) - 1)) - 52)) (-1074)) bt377.1 bt377.2.1 true) else (parts_Round.j1 k x0 x3 x5 x15 (mx (wrap64 ((wrap64 ((wrap64 (x3 + x15)) - 1)) - 52)) (-1074)) bt377.1 bt377.2.1 x4))
def parts_Round.j1 : Nat → Bool → Int → Int → Int → Int → Int → Bool → Bool → Option (Int × Int)
  | 0, _, _, _, _, _, _, _, _ => none
  | k + 1, x0, x3, x5, x15, x16, x17, x18, x19 => if x18 = true then (parts_Round.j2 k x0 x3 x5 x15 x16 x17 x18 x19 0 true) else (parts_Round.j2 k x0 x3 x5 x15 x16 x17 x18 x19 0 x19)
def parts_Round.j2 : Nat → Bool → Int → Int → Int → Int → Int → Bool → Bool → Int → Bool → Option (Int × Int)
  | 0, _, _, _, _, _, _, _, _, _, _ => none
  | k + 1, x0, x3, x5, x15, x16, x17, x18, x19, x20, x64 => if x64 = true then (if (wrap64 ((wrap64 (x3 + x15)) - 1)) < (-1022) then (parts_Round.j3 k x0 x5 x16 x17 x18 x19 (Go.bits .or .i64 16 8)) else (parts_Round.j3 k x0 x5 x16 x17 x18 x19 16)) else (parts_Round.j3 k x0 x5 x16 x17 x18 x19 x20)
def parts_Round.j3 : Nat → Bool → Int → Int → Int → Bool → Bool → Int → Option (Int × Int)
  | 0, _, _, _, _, _, _, _ => none
  | k + 1, x0, x5, x16, x17, x18, x19, x20 => (parts_up.f x0 x17 x18 x19 x5).bind fun t380 => (if t380 = true then (parts_Round.j4 k x0 x5 x16 (IntKind.u64.wrap (x17 + 1)) x20) else (parts_Round.j4 k x0 x5 x16 x17 x20))
def parts_Round.j4 : Nat → Bool → Int → Int → Int → Int → Option (Int × Int)
  | 0, _, _, _, _, _ => none
  | k + 1, x0, x5, x16, x17, x20 => if x17 = 9007199254740992 then (parts_Round.j5 k x0 x5 (wrap64 (x16 + 1)) 4503599627370496 x20) else (parts_Round.j5 k x0 x5 x16 x17 x20)
def parts_Round.j5 : Nat → Bool → Int → Int → Int → Int → Option (Int × Int)
  | 0, _, _, _, _, _ => none
  | k + 1, x0, x5, x16, x17, x20 => if x17 ≥ 4503599627370496 then (parts_Round.j6 k x0 x5 x16 x17 x20 (decide ((wrap64 (x16 + 1075)) ≥ 2047))) else (parts_Round.j6 k x0 x5 x16 x17 x20 false)
def parts_Round.j6 : Nat → Bool → Int → Int → Int → Int → Bool → Option (Int × Int)
  | 0, _, _, _, _, _, _ => none
  | k + 1, x0, x5, x16, x17, x20, x90 => if x90 = true then ((parts_over.f k x0 x5).bind fun bt381 => (some (bt381.1, bt381.2))) else ((parts_put.f x0 x17 x16).bind fun t383 => (some (t383, x20)))
end
def parts_Round.f (k : Nat) (a0 : Bool) (a1 : Int) (a2 : Int) (a3 : Int) (a4 : Bool) (a5 : Int) : Option (Int × Int) := (parts_wide_len.f a1 a2).bind fun t375 => (if t375 = 0 then ((parts_Zero.f a0).bind fun t376 => (some (t376, 0))) else (if a4 = true then (if t375 ≥ 55 then (parts_Round.j0 k a0 (mn (mx a3 (-16384)) 16384) true a5 t375 a1 a2) else (parts_Round.j0 k a0 (mn (mx a3 (-16384)) 16384) (decide ((mn (mx a3 (-16384)) 16384) ≤ (-1080))) a5 t375 a1 a2)) else (parts_Round.j0 k a0 (mn (mx a3 (-16384)) 16384) false a5 t375 a1 a2)))
theorem parts_Round.mono_l : ∀ k, (∀ y0 y1 y2 y3 y4 y5 y6, LeO (parts_Round.j0 k y0 y1 y2 y3 y4 y5 y6) (parts_Round.j0 (k + 1) y0 y1 y2 y3 y4 y5 y6)) ∧ (∀ y0 y1 y2 y3 y4 y5 y6 y7, LeO (parts_Round.j1 k y0 y1 y2 y3 y4 y5 y6 y7) (parts_Round.j1 (k + 1) y0 y1 y2 y3 y4 y5 y6 y7)) ∧ (∀ y0 y1 y2 y3 y4 y5 y6 y7 y8 y9, LeO (parts_Round.j2 k y0 y1 y2 y3 y4 y5 y6 y7 y8 y9) (parts_Round.j2 (k + 1) y0 y1 y2 y3 y4 y5 y6 y7 y8 y9)) ∧ (∀ y0 y1 y2 y3 y4 y5 y6, LeO (parts_Round.j3 k y0 y1 y2 y3 y4 y5 y6) (parts_Round.j3 (k + 1) y0 y1 y2 y3 y4 y5 y6)) ∧ (∀ y0 y1 y2 y3 y4, LeO (parts_Round.j4 k y0 y1 y2 y3 y4) (parts_Round.j4 (k + 1) y0 y1 y2 y3 y4)) ∧ (∀ y0 y1 y2 y3 y4, LeO (parts_Round.j5 k y0 y1 y2 y3 y4) (parts_Round.j5 (k + 1) y0 y1 y2 y3 y4)) ∧ (∀ y0 y1 y2 y3 y4 y5, LeO (parts_Round.j6 k y0 y1 y2 y3 y4 y5) (parts_Round.j6 (k + 1) y0 y1 y2 y3 y4 y5))
  | 0 => ⟨fun _ _ _ _ _ _ _ r h => by simp [parts_Round.j0] at h, fun _ _ _ _ _ _ _ _ r h => by simp [parts_Round.j1] at h, fun _ _ _ _ _ _ _ _ _ _ r h => by simp [parts_Round.j2] at h, fun _ _ _ _ _ _ _ r h => by simp [parts_Round.j3] at h, fun _ _ _ _ _ r h => by simp [parts_Round.j4] at h, fun _ _ _ _ _ r h => by simp [parts_Round.j5] at h, fun _ _ _ _ _ _ r h => by simp [parts_Round.j6] at h⟩
  | k + 1 => by
    obtain ⟨ih0, ih1, ih2, ih3, ih4, ih5, ih6⟩ := parts_Round.mono_l k
    refine ⟨?_, ?_, ?_, ?_, ?_, ?_, ?_⟩
    · intro y0 y1 y2 y3 y4 y5 y6
      unfold parts_Round.j0
      repeat' first
      | (with_reducible exact ih0 _ _ _ _ _ _ _)
      | (with_reducible exact ih1 _ _ _ _ _ _ _ _)
      | (with_reducible exact ih2 _ _ _ _ _ _ _ _ _ _)
      | (with_reducible exact ih3 _ _ _ _ _ _ _)
      | (with_reducible exact ih4 _ _ _ _ _)
      | (with_reducible exact ih5 _ _ _ _ _)
      | (with_reducible exact ih6 _ _ _ _ _ _)
      | (with_reducible exact parts_over.mono _ _ _)
      | (with_reducible exact parts_wide_cut.mono _ _ _ _)
      | (with_reducible exact LeO.refl _)
      | (with_reducible exact LeO.none _)
      | (with_reducible refine LeO.ite ?_ ?_)
      | (with_reducible refine LeO.bind ?_ (fun _ => ?_))
      | exact ih0 _ _ _ _ _ _ _
      | exact ih1 _ _ _ _ _ _ _ _
      | exact ih2 _ _ _ _ _ _ _ _ _ _
      | exact ih3 _ _ _ _ _ _ _
      | exact ih4 _ _ _ _ _
      | exact ih5 _ _ _ _ _
      | exact ih6 _ _ _ _ _ _
      | exact parts_over.mono _ _ _
      | exact parts_wide_cut.mono _ _ _ _
      | exact LeO.none _
      | refine LeO.ite ?_ ?_
      | refine LeO.bind ?_ (fun _ => ?_)
    · intro y0 y1 y2 y3 y4 y5 y6 y7
      unfold parts_Round.j1
      repeat' first
      | (with_reducible exact ih0 _ _ _ _ _ _ _)
      | (with_reducible exact ih1 _ _ _ _ _ _ _ _)
      | (with_reducible exact ih2 _ _ _ _ _ _ _ _ _ _)
      | (with_reducible exact ih3 _ _ _ _ _ _ _)
      | (with_reducible exact ih4 _ _ _ _ _)
      | (with_reducible exact ih5 _ _ _ _ _)
      | (with_reducible exact ih6 _ _ _ _ _ _)
      | (with_reducible exact parts_over.mono _ _ _)
      | (with_reducible exact parts_wide_cut.mono _ _ _ _)
      | (with_reducible exact LeO.refl _)
      | (with_reducible exact LeO.none _)
      | (with_reducible refine LeO.ite ?_ ?_)
      | (with_reducible refine LeO.bind ?_ (fun _ => ?_))
      | exact ih0 _ _ _ _ _ _ _
      | exact ih1 _ _ _ _ _ _ _ _
      | exact ih2 _ _ _ _ _ _ _ _ _ _
      | exact ih3 _ _ _ _ _ _ _
      | exact ih4 _ _ _ _ _
      | exact ih5 _ _ _ _ _
      | exact ih6 _ _ _ _ _ _
      | exact parts_over.mono _ _ _
      | exact parts_wide_cut.mono _ _ _ _
      | exact LeO.none _
      | refine LeO.ite ?_ ?_
      | refine LeO.bind ?_ (fun _ => ?_)
    · intro y0 y1 y2 y3 y4 y5 y6 y7 y8 y9
      unfold parts_Round.j2
      repeat' first
      | (with_reducible exact ih0 _ _ _ _ _ _ _)
      | (with_reducible exact ih1 _ _ _ _ _ _ _ _)
      | (with_reducible exact ih2 _ _ _ _ _ _ _ _ _ _)
      | (with_reducible exact ih3 _ _ _ _ _ _ _)
      | (with_reducible exact ih4 _ _ _ _ _)
      | (with_reducible exact ih5 _ _ _ _ _)
      | (with_reducible exact ih6 _ _ _ _ _ _)
      | (with_reducible exact parts_over.mono _ _ _)
      | (with_reducible exact parts_wide_cut.mono _ _ _ _)
      | (with_reducible exact LeO.refl _)
      | (with_reducible exact LeO.none _)
      | (with_reducible refine LeO.ite ?_ ?_)
      | (with_reducible refine LeO.bind ?_ (fun _ => ?_))
      | exact ih0 _ _ _ _ _ _ _
      | exact ih1 _ _ _ _ _ _ _ _
      | exact ih2 _ _ _ _ _ _ _ _ _ _
      | exact ih3 _ _ _ _ _ _ _
      | exact ih4 _ _ _ _ _
      | exact ih5 _ _ _ _ _
      | exact ih6 _ _ _ _ _ _
      | exact parts_over.mono _ _ _
      | exact parts_wide_cut.mono _ _ _ _
      | exact LeO.none _
      | refine LeO.ite ?_ ?_
      | refine LeO.bind ?_ (fun _ => ?_)
    · intro y0 y1 y2 y3 y4 y5 y6
      unfold parts_Round.j3
      repeat' first
      | (with_reducible exact ih0 _ _ _ _ _ _ _)
      | (with_reducible exact ih1 _ _ _ _ _ _ _ _)
      | (with_reducible exact ih2 _ _ _ _ _ _ _ _ _ _)
      | (with_reducible exact ih3 _ _ _ _ _ _ _)
      | (with_reducible exact ih4 _ _ _ _ _)
      | (with_reducible exact ih5 _ _ _ _ _)
      | (with_reducible exact ih6 _ _ _ _ _ _)
      | (with_reducible exact parts_over.mono _ _ _)
      | (with_reducible exact parts_wide_cut.mono _ _ _ _)
      | (with_reducible exact LeO.refl _)
      | (with_reducible exact LeO.none _)
      | (with_reducible refine LeO.ite ?_ ?_)
      | (with_reducible refine LeO.bind ?_ (fun _ => ?_))
      | exact ih0 _ _ _ _ _ _ _
      | exact ih1 _ _ _ _ _ _ _ _
      | exact ih2 _ _ _ _ _ _ _ _ _ _
      | exact ih3 _ _ _ _ _ _ _
      | exact ih4 _ _ _ _ _
      | exact ih5 _ _ _ _ _
      | exact ih6 _ _ _ _ _ _
      | exact parts_over.mono _ _ _
      | exact parts_wide_cut.mono _ _ _ _
      | exact LeO.none _
      | refine LeO.ite ?_ ?_
      | refine LeO.bind ?_ (fun _ => ?_)
    · intro y0 y1 y2 y3 y4
      unfold parts_Round.j4
      repeat' first
      | (with_reducible exact ih0 _ _ _ _ _ _ _)
      | (with_reducible exact ih1 _ _ _ _ _ _ _ _)
      | (with_reducible exact ih2 _ _ _ _ _ _ _ _ _ _)
      | (with_reducible exact ih3 _ _ _ _ _ _ _)
      | (with_reducible exact ih4 _ _ _ _ _)
      | (with_reducible exact ih5 _ _ _ _ _)
      | (with_reducible exact ih6 _ _ _ _ _ _)
      | (with_reducible exact parts_over.mono _ _ _)
      | (with_reducible exact parts_wide_cut.mono _ _ _ _)
      | (with_reducible exact LeO.refl _)
      | (with_reducible exact LeO.none _)
      | (with_reducible refine LeO.ite ?_ ?_)
      | (with_reducible refine LeO.bind ?_ (fun _ => ?_))
      | exact ih0 _ _ _ _ _ _ _
      | exact ih1 _ _ _ _ _ _ _ _
      | exact ih2 _ _ _ _ _ _ _ _ _ _
      | exact ih3 _ _ _ _ _ _ _
      | exact ih4 _ _ _ _ _
      | exact ih5 _ _ _ _ _
      | exact ih6 _ _ _ _ _ _
      | exact parts_over.mono _ _ _
      | exact parts_wide_cut.mono _ _ _ _
      | exact LeO.none _
      | refine LeO.ite ?_ ?_
      | refine LeO.bind ?_ (fun _ => ?_)
    · intro y0 y1 y2 y3 y4
      unfold parts_Round.j5
      repeat' first
      | (with_reducible exact ih0 _ _ _ _ _ _ _)
      | (with_reducible exact ih1 _ _ _ _ _ _ _ _)
      | (with_reducible exact ih2 _ _ _ _ _ _ _ _ _ _)
      | (with_reducible exact ih3 _ _ _ _ _ _ _)
      | (with_reducible exact ih4 _ _ _ _ _)
      | (with_reducible exact ih5 _ _ _ _ _)
      | (with_reducible exact ih6 _ _ _ _ _ _)
      | (with_reducible exact parts_over.mono _ _ _)
      | (with_reducible exact parts_wide_cut.mono _ _ _ _)
      | (with_reducible exact LeO.refl _)
      | (with_reducible exact LeO.none _)
      | (with_reducible refine LeO.ite ?_ ?_)
      | (with_reducible refine LeO.bind ?_ (fun _ => ?_))
      | exact ih0 _ _ _ _ _ _ _
      | exact ih1 _ _ _ _ _ _ _ _
      | exact ih2 _ _ _ _ _ _ _ _ _ _
      | exact ih3 _ _ _ _ _ _ _
      | exact ih4 _ _ _ _ _
      | exact ih5 _ _ _ _ _
      | exact ih6 _ _ _ _ _ _
      | exact parts_over.mono _ _ _
      | exact parts_wide_cut.mono _ _ _ _
      | exact LeO.none _
      | refine LeO.ite ?_ ?_
      | refine LeO.bind ?_ (fun _ => ?_)
    · intro y0 y1 y2 y3 y4 y5
      unfold parts_Round.j6
      repeat' first
      | (with_reducible exact ih0 _ _ _ _ _ _ _)
      | (with_reducible exact ih1 _ _ _ _ _ _ _ _)
      | (with_reducible exact ih2 _ _ _ _ _ _ _ _ _ _)
      | (with_reducible exact ih3 _ _ _ _ _ _ _)
      | (with_reducible exact ih4 _ _ _ _ _)
      | (with_reducible exact ih5 _ _ _ _ _)
      | (with_reducible exact ih6 _ _ _ _ _ _)
      | (with_reducible exact parts_over.mono _ _ _)
      | (with_reducible exact parts_wide_cut.mono _ _ _ _)
      | (with_reducible exact LeO.refl _)
      | (with_reducible exact LeO.none _)
      | (with_reducible refine LeO.ite ?_ ?_)
      | (with_reducible refine LeO.bind ?_ (fun _ => ?_))
      | exact ih0 _ _ _ _ _ _ _
      | exact ih1 _ _ _ _ _ _ _ _
      | exact ih2 _ _ _ _ _ _ _ _ _ _
      | exact ih3 _ _ _ _ _ _ _
      | exact ih4 _ _ _ _ _
      | exact ih5 _ _ _ _ _
      | exact ih6 _ _ _ _ _ _
      | exact parts_over.mono _ _ _
      | exact parts_wide_cut.mono _ _ _ _
      | exact LeO.none _
      | refine LeO.ite ?_ ?_
      | refine LeO.bind ?_ (fun _ => ?_)
theorem parts_Round.mono : ∀ a0 a1 a2 a3 a4 a5 k, LeO (parts_Round.f k a0 a1 a2 a3 a4 a5) (parts_Round.f (k + 1) a0 a1 a2 a3 a4 a5) := by
  intro a0 a1 a2 a3 a4 a5 k
  obtain ⟨ih0, ih1, ih2, ih3, ih4, ih5, ih6⟩ := parts_Round.mono_l k
  unfold parts_Round.f
  repeat' first
      | (with_reducible exact ih0 _ _ _ _ _ _ _)
      | (with_reducible exact ih1 _ _ _ _ _ _ _ _)
      | (with_reducible exact ih2 _ _ _ _ _ _ _ _ _ _)
      | (with_reducible exact ih3 _ _ _ _ _ _ _)
      | (with_reducible exact ih4 _ _ _ _ _)
      | (with_reducible exact ih5 _ _ _ _ _)
      | (with_reducible exact ih6 _ _ _ _ _ _)
      | (with_reducible exact parts_over.mono _ _ _)
      | (with_reducible exact parts_wide_cut.mono _ _ _ _)
      | (with_reducible exact LeO.refl _)
      | (with_reducible exact LeO.none _)
      | (with_reducible refine LeO.ite ?_ ?_)
      | (with_reducible refine LeO.bind ?_ (fun _ => ?_))
      | exact ih0 _ _ _ _ _ _ _
      | exact ih1 _ _ _ _ _ _ _ _
      | exact ih2 _ _ _ _ _ _ _ _ _ _
      | exact ih3 _ _ _ _ _ _ _
      | exact ih4 _ _ _ _ _
      | exact ih5 _ _ _ _ _
      | exact ih6 _ _ _ _ _ _
      | exact parts_over.mono _ _ _
      | exact parts_wide_cut.mono _ _ _ _
      | exact LeO.none _
      | refine LeO.ite ?_ ?_
      | refine LeO.bind ?_ (fun _ => ?_)
set_option maxHeartbeats 8000000 in
set_option maxRecDepth 100000 in
theorem parts_Round.calls (k : Nat) (a0 : Bool) (a1 : Int) (a2 : Int) (a3 : Int) (a4 : Bool) (a5 : Int) (r1 : Int) (r2 : Int) (w : World) (h : parts_Round.f k a0 a1 a2 a3 a4 a5 = some (r1, r2)) :
    Calls Try.prog 95 #[.bool a0, .int .u64 a1, .int .u64 a2, .int .i64 a3, .bool a4, .int .i64 a5] w fun e w' => e = .returned (.tuple #[.int .u64 r1, .int .i64 r2]) ∧ Below w.heap.size w w' := by
  have hu121 := Try.underlying121
  have HB := Aside0.mk (Below.refl w.heap.size w)
  have H : ((parts_wide_len.f a1 a2).bind fun t375 => (if t375 = 0 then ((parts_Zero.f a0).bind fun t376 => (some (t376, 0))) else (if a4 = true then (if t375 ≥ 55 then (parts_Round.j0 k a0 (mn (mx a3 (-16384)) 16384) true a5 t375 a1 a2) else (parts_Round.j0 k a0 (mn (mx a3 (-16384)) 16384) (decide ((mn (mx a3 (-16384)) 16384) ≤ (-1080))) a5 t375 a1 a2)) else (parts_Round.j0 k a0 (mn (mx a3 (-16384)) 16384) false a5 t375 a1 a2)))) = some (r1, r2) := h
  clear h
  replace H := Option.bind_eq_some_iff.mp H
  obtain ⟨t375, A70, H⟩ := H
  replace H : (if t375 = 0 then ((parts_Zero.f a0).bind fun t376 => (some (t376, 0))) else (if a4 = true then (if t375 ≥ 55 then (parts_Round.j0 k a0 (mn (mx a3 (-16384)) 16384) true a5 t375 a1 a2) else (parts_Round.j0 k a0 (mn (mx a3 (-16384)) 16384) (decide ((mn (mx a3 (-16384)) 16384) ≤ (-1080))) a5 t375 a1 a2)) else (parts_Round.j0 k a0 (mn (mx a3 (-16384)) 16384) false a5 t375 a1 a2))) = some (r1, r2) := H
  have A7 := Aside0.mk A70
  clear A70
  obtain ⟨ji8, hji8⟩ : ∃ j_ : Int, (mx a3 (-16384)) = j_ := ⟨_, rfl⟩
  replace H : (if t375 = 0 then ((parts_Zero.f a0).bind fun t376 => (some (t376, 0))) else (if a4 = true then (if t375 ≥ 55 then (parts_Round.j0 k a0 (mn (ji8) 16384) true a5 t375 a1 a2) else (parts_Round.j0 k a0 (mn (ji8) 16384) (decide ((mn (ji8) 16384) ≤ (-1080))) a5 t375 a1 a2)) else (parts_Round.j0 k a0 (mn (ji8) 16384) false a5 t375 a1 a2))) = some (r1, r2) := by first | (rw [hji8] at H; exact H) | (simp only [hji8] at H ⊢; exact H)
  (try rw [hji8] at A7)
  have hji8_ : (if a3 < (-16384) then (-16384) else a3) = ji8 := hji8
  (try (have hji8n := hji8_; simp only [Int.ofNat_lt] at hji8n))
  obtain ⟨ji9, hji9⟩ : ∃ j_ : Int, (mn (ji8) 16384) = j_ := ⟨_, rfl⟩
  replace H : (if t375 = 0 then ((parts_Zero.f a0).bind fun t376 => (some (t376, 0))) else (if a4 = true then (if t375 ≥ 55 then (parts_Round.j0 k a0 ji9 true a5 t375 a1 a2) else (parts_Round.j0 k a0 ji9 (decide ((ji9) ≤ (-1080))) a5 t375 a1 a2)) else (parts_Round.j0 k a0 ji9 false a5 t375 a1 a2))) = some (r1, r2) := by first | (rw [hji9] at H; exact H) | (simp only [hji9] at H ⊢; exact H)
  (try rw [hji9] at A7)
  have hji9_ : (if 16384 < (ji8) then 16384 else (ji8)) = ji9 := hji9
  (try (have hji9n := hji9_; simp only [Int.ofNat_lt] at hji9n))
  by_cases c10 : t375 = 0
  · rw [if_pos c10] at H
    have c10b0 : (t375 == 0) = true := beq_iff_eq.mpr c10
    have c10b1 : (t375 != 0) = false := bne_eq_false_iff_eq.mpr c10
    clear c10
    replace H := Option.bind_eq_some_iff.mp H
    obtain ⟨t376, A110, H⟩ := H
    replace H : (some (t376, 0)) = some (r1, r2) := H
    have A11 := Aside0.mk A110
    clear A110
    simp only [Option.some.injEq, Prod.mk.injEq] at H
    obtain ⟨rfl, rfl⟩ := H
    go_enter Try.func95, Try.ntmps95
    go_wp2_with (first | ((with_reducible refine gate_dst (N := 14) rfl ?_); refine box_event ?hg (N := 14) ?hd (cs := #[.int .u64 0, .int .u64 0]) (t := 121) ?hr ?_; (case hd => rfl); (case hg => rfl); (case hr => first | (go_simp; done) | (go_simp; rfl)); intro gb374 hg w12 hbox hb; have n0_ := Aside0.mk (below_step (by repeat (first | (with_reducible first | exact HB.out | apply below_alloc | apply pw_below_drewN | apply below_drew1) | exact HB.out)) hb); have n1_ := Aside0.mk (hbox); have n2_ := Aside0.mk ((by rw [hg]; exact (below_size (by repeat (first | (with_reducible first | exact HB.out | apply below_alloc | apply pw_below_drewN | apply below_drew1) | exact HB.out))) : w.heap.size ≤ gb374)); have n3_ := Aside0.mk ((by rw [hg]; exact (below_size (by repeat (first | (with_reducible first | exact HB.out | apply below_alloc | apply pw_below_drewN | apply below_drew1) | exact HB.out))) : w.heap.size ≤ gb374)); clear HB; have HB := n0_; have BK374 := n1_; have GW374 := n2_; have GE374 := n3_; clear n0_ n1_ n2_ n3_; clear hb hbox hg; have hcz13_0 : w12.cell? ⟨gb374, 0, none⟩ = some (.int .u64 0) := (blk_cell BK374.out 0).trans rfl; have hcz13_1 : w12.cell? ⟨gb374, 1, none⟩ = some (.int .u64 0) := (blk_cell BK374.out 1).trans rfl; have hfz13_0 := blk_frozen BK374.out 0; have hfz13_1 := blk_frozen BK374.out 1) | ((with_reducible refine gate_callee (f := 100) rfl ?_); refine goesL_ (some 25) rfl rfl Try.func100 (by kernel_rfl) rfl #[.agg #[.int .u64 a1, .int .u64 a2]] rfl (by (try simp only [List.map_toArray, List.map_cons, List.map_nil]); first | done | rfl | (simp only [List.length_drop, List.length_take]; rfl)) ?_; (with_reducible refine (parts_wide_len.calls a1 a2 t375 _ A7.out).mono ?_); rintro e w14 ⟨rfl, hb⟩; refine ⟨_, rfl, ?_⟩; have n0_ := Aside0.mk (blk_below (g := gb374) (o := .cells #[.int .u64 a1, .int .u64 a2] 121 (0, 0)) (by (with_reducible repeat (first | refine blk_drewN ?_ _ | refine blk_drew ?_ | refine blk_alloc ?_ _)); refine blk_put (cs := #[.int .u64 a1, .int .u64 0]) ?_ 1 _ rfl; (with_reducible repeat (first | refine blk_drewN ?_ _ | refine blk_drew ?_ | refine blk_alloc ?_ _)); refine blk_put (cs := #[.int .u64 0, .int .u64 0]) ?_ 0 _ rfl; (with_reducible repeat (first | refine blk_drewN ?_ _ | refine blk_drew ?_ | refine blk_alloc ?_ _)); exact BK374.out) hb); have n1_ := Aside0.mk (below_step (by repeat (first | (with_reducible first | exact HB.out | apply below_alloc | apply pw_below_drewN | apply below_drew1 | refine below_set ?_ GE374.out) | exact HB.out)) hb); clear BK374; clear HB; have BK374 := n0_; have HB := n1_; clear n0_ n1_; (try clear hb); (try clear hb2); (try clear hk); (try clear hi)) | ((with_reducible refine gate_callee (f := 91) rfl ?_); refine goesL_ (some 32) rfl rfl Try.func91 (by kernel_rfl) rfl #[.bool a0] rfl (by (try simp only [List.map_toArray, List.map_cons, List.map_nil]); first | done | rfl | (simp only [List.length_drop, List.length_take]; rfl)) ?_; (with_reducible refine (parts_Zero.calls a0 t376 _ A11.out).mono ?_); rintro e w' ⟨rfl, ⟨nd, rfl⟩⟩; refine ⟨_, rfl, ?_⟩))
    go_ret2
    exact ⟨by first | rfl | (simp [errW_none, errW_some] <;> rfl) | (simp only [← hji8, ← hji9]; first | rfl | (simp [errW_none, errW_some] <;> rfl)) | (simp [*, errW_none, errW_some] <;> rfl), by repeat (first | (with_reducible first | exact HB.out | apply below_alloc | apply pw_below_drewN | apply below_drew1 | refine below_set ?_ GE374.out) | exact HB.out)⟩
  · rw [if_neg c10] at H
    have c10b0 : (t375 == 0) = false := beq_eq_false_iff_ne.mpr c10
    have c10b1 : (t375 != 0) = true := bne_iff_ne.mpr c10
    have HC15 := Aside0.mk H
    clear H
    go_enter Try.func95, Try.ntmps95
    go_upto_region 6 with (first | ((with_reducible refine gate_dst (N := 14) rfl ?_); refine box_event ?hg (N := 14) ?hd (cs := #[.int .u64 0, .int .u64 0]) (t := 121) ?hr ?_; (case hd => rfl); (case hg => rfl); (case hr => first | (go_simp; done) | (go_simp; rfl)); intro gb374 hg w16 hbox hb; have n0_ := Aside0.mk (below_step (by repeat (first | (with_reducible first | exact HB.out | apply below_alloc | apply pw_below_drewN | apply below_drew1) | exact HB.out)) hb); have n1_ := Aside0.mk (hbox); have n2_ := Aside0.mk ((by rw [hg]; exact (below_size (by repeat (first | (with_reducible first | exact HB.out | apply below_alloc | apply pw_below_drewN | apply below_drew1) | exact HB.out))) : w.heap.size ≤ gb374)); have n3_ := Aside0.mk ((by rw [hg]; exact (below_size (by repeat (first | (with_reducible first | exact HB.out | apply below_alloc | apply pw_below_drewN | apply below_drew1) | exact HB.out))) : w.heap.size ≤ gb374)); clear HB; have HB := n0_; have BK374 := n1_; have GW374 := n2_; have GE374 := n3_; clear n0_ n1_ n2_ n3_; clear hb hbox hg; have hcz17_0 : w16.cell? ⟨gb374, 0, none⟩ = some (.int .u64 0) := (blk_cell BK374.out 0).trans rfl; have hcz17_1 : w16.cell? ⟨gb374, 1, none⟩ = some (.int .u64 0) := (blk_cell BK374.out 1).trans rfl; have hfz17_0 := blk_frozen BK374.out 0; have hfz17_1 := blk_frozen BK374.out 1) | ((with_reducible refine gate_callee (f := 100) rfl ?_); refine goesL_ (some 25) rfl rfl Try.func100 (by kernel_rfl) rfl #[.agg #[.int .u64 a1, .int .u64 a2]] rfl (by (try simp only [List.map_toArray, List.map_cons, List.map_nil]); first | done | rfl | (simp only [List.length_drop, List.length_take]; rfl)) ?_; (with_reducible refine (parts_wide_len.calls a1 a2 t375 _ A7.out).mono ?_); rintro e w18 ⟨rfl, hb⟩; refine ⟨_, rfl, ?_⟩; have n0_ := Aside0.mk (blk_below (g := gb374) (o := .cells #[.int .u64 a1, .int .u64 a2] 121 (0, 0)) (by (with_reducible repeat (first | refine blk_drewN ?_ _ | refine blk_drew ?_ | refine blk_alloc ?_ _)); refine blk_put (cs := #[.int .u64 a1, .int .u64 0]) ?_ 1 _ rfl; (with_reducible repeat (first | refine blk_drewN ?_ _ | refine blk_drew ?_ | refine blk_alloc ?_ _)); refine blk_put (cs := #[.int .u64 0, .int .u64 0]) ?_ 0 _ rfl; (with_reducible repeat (first | refine blk_drewN ?_ _ | refine blk_drew ?_ | refine blk_alloc ?_ _)); exact BK374.out) hb); have n1_ := Aside0.mk (below_step (by repeat (first | (with_reducible first | exact HB.out | apply below_alloc | apply pw_below_drewN | apply below_drew1 | refine below_set ?_ GE374.out) | exact HB.out)) hb); clear BK374; clear HB; have BK374 := n0_; have HB := n1_; clear n0_ n1_; (try clear hb); (try clear hb2); (try clear hk); (try clear hi)))
    (try simp only [Act.put, List.setIfInBounds_toArray, List.set_cons_zero, List.set_cons_succ])
    go_cut [4] (fun v4 wc => ∃ (kq : Nat) (x4_14 : Bool), v4 = .bool x4_14 ∧ Aside0 (parts_Round.j0 kq a0 ji9 x4_14 a5 t375 a1 a2 = some (r1, r2)) ∧ Aside0 (kq ≤ k) ∧ Aside0 (wc.heap[gb374]? = some (.cells #[.int .u64 a1, .int .u64 a2] 121 (0, 0))) ∧ Aside0 (Below w.heap.size w wc))
    case first =>
      have H := HC15.out
      clear HC15
      by_cases c19 : a4 = true
      · subst c19
        have H1 : (if t375 ≥ 55 then (parts_Round.j0 k a0 ji9 true a5 t375 a1 a2) else (parts_Round.j0 k a0 ji9 (decide ((ji9) ≤ (-1080))) a5 t375 a1 a2)) = some (r1, r2) := by rw [if_pos rfl] at H; exact H
        clear H
        have H := H1
        clear H1
        by_cases c20 : t375 ≥ 55
        · rw [if_pos c20] at H
          have c20b0 : decide (55 ≤ t375) = true := decide_eq_true c20
          clear c20
          (first | rw [c20b0] | (simp only [i64_w, i32_w]; rw [c20b0]) | skip)
          have H' := Aside0.mk H
          clear H
          go_wp2
          go_meet
          case rel => exact ⟨_, (true), (by first | rfl | (simp; done) | (simp [*]; done)), H', ⟨by first | omega | exact Nat.le_refl _⟩, ⟨by (with_reducible repeat (first | refine blk_drewN ?_ _ | refine blk_drew ?_ | refine blk_alloc ?_ _)); exact BK374.out⟩, ⟨by repeat (first | (with_reducible first | exact HB.out | apply below_alloc | apply pw_below_drewN | apply below_drew1 | refine below_set ?_ GE374.out) | exact HB.out)⟩⟩
        · rw [if_neg c20] at H
          have c20b0 : decide (55 ≤ t375) = false := decide_eq_false c20
          clear c20
          (first | rw [c20b0] | (simp only [i64_w, i32_w]; rw [c20b0]) | skip)
          have H' := Aside0.mk H
          clear H
          go_wp2
          go_meet
          case rel => exact ⟨_, (decide ((ji9) ≤ (-1080))), (by first | rfl | (simp; done) | (simp only [← hji9] <;> (first | rfl | simp)) | (simp [*]; done)), H', ⟨by first | omega | exact Nat.le_refl _⟩, ⟨by (with_reducible repeat (first | refine blk_drewN ?_ _ | refine blk_drew ?_ | refine blk_alloc ?_ _)); exact BK374.out⟩, ⟨by repeat (first | (with_reducible first | exact HB.out | apply below_alloc | apply pw_below_drewN | apply below_drew1 | refine below_set ?_ GE374.out) | exact HB.out)⟩⟩
      · replace c19 := Bool.eq_false_iff.mpr c19
        subst c19
        have H1 : (parts_Round.j0 k a0 ji9 false a5 t375 a1 a2) = some (r1, r2) := by rw [if_neg (show ¬ (false = true) by decide)] at H; exact H
        clear H
        have H := H1
        clear H1
        have H' := Aside0.mk H
        clear H
        go_wp2
        go_meet
        case rel => exact ⟨_, (false), (by first | rfl | (simp; done) | (simp [*]; done)), H', ⟨by first | omega | exact Nat.le_refl _⟩, ⟨by (with_reducible repeat (first | refine blk_drewN ?_ _ | refine blk_drew ?_ | refine blk_alloc ?_ _)); exact BK374.out⟩, ⟨by repeat (first | (with_reducible first | exact HB.out | apply below_alloc | apply pw_below_drewN | apply below_drew1 | refine below_set ?_ GE374.out) | exact HB.out)⟩⟩
    case rest =>
      clear HC15
      try clear c1
      try clear c2
      try clear p2
      try clear c9
      try clear c10
      try clear c10b0
      try clear c10b1
      try clear c19
      try clear c20
      try clear c20b0
      try clear hcz13_0
      try clear hcz13_1
      try clear hcz17_0
      try clear hcz17_1
      try clear hfz13_0
      try clear hfz13_1
      try clear hfz17_0
      try clear hfz17_1
      obtain ⟨kq, x4_14, rfl, HA, HJ14, BK374, HB⟩ := hcut
      cases kq with
      | zero => exact absurd HA.out (by simp [parts_Round.j0])
      | succ kj14 =>
        have H := HA.out
        clear HA
        simp only [parts_Round.j0] at H
        obtain ⟨ji21, hji21⟩ : ∃ j_ : Int, (mx (wrap64 ((wrap64 ((wrap64 (ji9 + t375)) - 1)) - 52)) (-1074)) = j_ := ⟨_, rfl⟩
        replace H : ((parts_wide_cut.f kj14 a1 a2 (wrap64 ((ji21) - ji9))).bind fun bt377 => (if bt377.2.2 = true then (parts_Round.j1 kj14 a0 ji9 a5 t375 ji21 bt377.1 bt377.2.1 true) else (parts_Round.j1 kj14 a0 ji9 a5 t375 ji21 bt377.1 bt377.2.1 x4_14))) = some (r1, r2) := by first | (rw [hji21] at H; exact H) | (simp only [hji21] at H ⊢; exact H)
        have hji21_ : (if (wrap64 ((wrap64 ((wrap64 (ji9 + t375)) - 1)) - 52)) < (-1074) then (-1074) else (wrap64 ((wrap64 ((wrap64 (ji9 + t375)) - 1)) - 52))) = ji21 := hji21
        (try (have hji21n := hji21_; simp only [Int.ofNat_lt] at hji21n))
        replace H := Option.bind_eq_some_iff.mp H
        obtain ⟨⟨t377, t378, t379⟩, A220, H⟩ := H
        replace H : (if t379 = true then (parts_Round.j1 kj14 a0 ji9 a5 t375 ji21 t377 t378 true) else (parts_Round.j1 kj14 a0 ji9 a5 t375 ji21 t377 t378 x4_14)) = some (r1, r2) := H
        have A22 := Aside0.mk A220
        clear A220
        have HC23 := Aside0.mk H
        clear H
        have hcz24_0 : wc.cell? ⟨gb374, 0, none⟩ = some (.int .u64 a1) := (blk_cell BK374.out 0).trans rfl
        have hcz24_1 : wc.cell? ⟨gb374, 1, none⟩ = some (.int .u64 a2) := (blk_cell BK374.out 1).trans rfl
        have hfz24_0 := blk_frozen BK374.out 0
        have hfz24_1 := blk_frozen BK374.out 1
        go_upto_region 9 with (first | ((with_reducible refine gate_callee (f := 101) rfl ?_); refine goesL_ (some 53) rfl rfl Try.func101 (by kernel_rfl) rfl #[.agg #[.int .u64 a1, .int .u64 a2], .int .i64 (wrap64 ((ji21) - ji9))] rfl (by (try simp only [List.map_toArray, List.map_cons, List.map_nil]); first | done | (simp only [hji21, hji9]; rfl) | rfl | (simp only [List.length_drop, List.length_take]; rfl)) ?_; (with_reducible refine (parts_wide_cut.calls kj14 a1 a2 (wrap64 ((ji21) - ji9)) t377 t378 t379 _ A22.out).mono ?_); rintro e w25 ⟨rfl, hb⟩; refine ⟨_, rfl, ?_⟩; have n0_ := Aside0.mk (blk_below (g := gb374) (o := .cells #[.int .u64 a1, .int .u64 a2] 121 (0, 0)) (by (with_reducible repeat (first | refine blk_drewN ?_ _ | refine blk_drew ?_ | refine blk_alloc ?_ _)); exact BK374.out) hb); have n1_ := Aside0.mk (below_step (by repeat (first | (with_reducible first | exact HB.out | apply below_alloc | apply pw_below_drewN | apply below_drew1 | refine below_set ?_ GE374.out) | exact HB.out)) hb); clear BK374; clear HB; have BK374 := n0_; have HB := n1_; clear n0_ n1_; (try clear hb); (try clear hb2); (try clear hk); (try clear hi)))
        (try simp only [Act.put, List.setIfInBounds_toArray, List.set_cons_zero, List.set_cons_succ])
        go_cut [19] (fun v19 wc => ∃ (kq : Nat) (x19_22 : Bool), v19 = .bool x19_22 ∧ Aside0 (parts_Round.j1 kq a0 ji9 a5 t375 ji21 t377 t378 x19_22 = some (r1, r2)) ∧ Aside0 (kq ≤ kj14) ∧ Aside0 (wc.heap[gb374]? = some (.cells #[.int .u64 a1, .int .u64 a2] 121 (0, 0))) ∧ Aside0 (Below w.heap.size w wc))
        case first =>
          have H := HC23.out
          clear HC23
          by_cases c26 : t379 = true
          · subst c26
            have H1 : (parts_Round.j1 kj14 a0 ji9 a5 t375 ji21 t377 t378 true) = some (r1, r2) := by rw [if_pos rfl] at H; exact H
            clear H
            have H := H1
            clear H1
            have H' := Aside0.mk H
            clear H
            go_wp2
            go_meet
            case rel => exact ⟨_, (true), (by first | rfl | (simp; done) | (simp [*]; done)), H', ⟨by have := HJ14.out; first | omega | exact Nat.le_refl _⟩, ⟨by (with_reducible repeat (first | refine blk_drewN ?_ _ | refine blk_drew ?_ | refine blk_alloc ?_ _)); exact BK374.out⟩, ⟨by repeat (first | (with_reducible first | exact HB.out | apply below_alloc | apply pw_below_drewN | apply below_drew1 | refine below_set ?_ GE374.out) | exact HB.out)⟩⟩
          · replace c26 := Bool.eq_false_iff.mpr c26
            subst c26
            have H1 : (parts_Round.j1 kj14 a0 ji9 a5 t375 ji21 t377 t378 x4_14) = some (r1, r2) := by rw [if_neg (show ¬ (false = true) by decide)] at H; exact H
            clear H
            have H := H1
            clear H1
            have H' := Aside0.mk H
            clear H
            go_wp2
            go_meet
            case rel => exact ⟨_, (x4_14), (by first | rfl | (simp; done) | (simp [*]; done)), H', ⟨by have := HJ14.out; first | omega | exact Nat.le_refl _⟩, ⟨by (with_reducible repeat (first | refine blk_drewN ?_ _ | refine blk_drew ?_ | refine blk_alloc ?_ _)); exact BK374.out⟩, ⟨by repeat (first | (with_reducible first | exact HB.out | apply below_alloc | apply pw_below_drewN | apply below_drew1 | refine below_set ?_ GE374.out) | exact HB.out)⟩⟩
        case rest =>
          clear HC23
          try clear c1
          try clear c2
          try clear p2
          try clear p6
          try clear c9
          try clear c10
          try clear c10b0
          try clear c10b1
          try clear c19
          try clear c20
          try clear c20b0
          try clear c26
          try clear hcz13_0
          try clear hcz13_1
          try clear hcz17_0
          try clear hcz17_1
          try clear hcz24_0
          try clear hcz24_1
          try clear hfz13_0
          try clear hfz13_1
          try clear hfz17_0
          try clear hfz17_1
          try clear hfz24_0
          try clear hfz24_1
          try clear p2
          obtain ⟨kq, x19_22, rfl, HA, HJ22, BK374, HB⟩ := hcut
          cases kq with
          | zero => exact absurd HA.out (by simp [parts_Round.j1])
          | succ kj22 =>
            have H := HA.out
            clear HA
            simp only [parts_Round.j1] at H
            have HC27 := Aside0.mk H
            clear H
            go_upto_region 11 with (fail)
            go_cut [64] (fun v64 wc => ∃ (kq : Nat) (x64_26 : Bool), v64 = .bool x64_26 ∧ Aside0 (parts_Round.j2 kq a0 ji9 a5 t375 ji21 t377 t378 x19_22 0 x64_26 = some (r1, r2)) ∧ Aside0 (kq ≤ kj22) ∧ Aside0 (wc.heap[gb374]? = some (.cells #[.int .u64 a1, .int .u64 a2] 121 (0, 0))) ∧ Aside0 (Below w.heap.size w wc))
            case first =>
              have H := HC27.out
              clear HC27
              by_cases c28 : t378 = true
              · subst c28
                have H1 : (parts_Round.j2 kj22 a0 ji9 a5 t375 ji21 t377 true x19_22 0 true) = some (r1, r2) := by rw [if_pos rfl] at H; exact H
                clear H
                have H := H1
                clear H1
                have H' := Aside0.mk H
                clear H
                go_wp2
                go_meet
                case rel => exact ⟨_, (true), (by first | rfl | (simp; done) | (simp [*]; done)), H', ⟨by have := HJ14.out; have := HJ22.out; first | omega | exact Nat.le_refl _⟩, ⟨by (with_reducible repeat (first | refine blk_drewN ?_ _ | refine blk_drew ?_ | refine blk_alloc ?_ _)); exact BK374.out⟩, ⟨by repeat (first | (with_reducible first | exact HB.out | apply below_alloc | apply pw_below_drewN | apply below_drew1 | refine below_set ?_ GE374.out) | exact HB.out)⟩⟩
              · replace c28 := Bool.eq_false_iff.mpr c28
                subst c28
                have H1 : (parts_Round.j2 kj22 a0 ji9 a5 t375 ji21 t377 false x19_22 0 x19_22) = some (r1, r2) := by rw [if_neg (show ¬ (false = true) by decide)] at H; exact H
                clear H
                have H := H1
                clear H1
                have H' := Aside0.mk H
                clear H
                go_wp2
                go_meet
                case rel => exact ⟨_, (x19_22), (by first | rfl | (simp; done) | (simp [*]; done)), H', ⟨by have := HJ14.out; have := HJ22.out; first | omega | exact Nat.le_refl _⟩, ⟨by (with_reducible repeat (first | refine blk_drewN ?_ _ | refine blk_drew ?_ | refine blk_alloc ?_ _)); exact BK374.out⟩, ⟨by repeat (first | (with_reducible first | exact HB.out | apply below_alloc | apply pw_below_drewN | apply below_drew1 | refine below_set ?_ GE374.out) | exact HB.out)⟩⟩
            case rest =>
              clear HC27
              try clear c1
              try clear c2
              try clear p2
              try clear p6
              try clear c9
              try clear c10
              try clear c10b0
              try clear c10b1
              try clear c19
              try clear c20
              try clear c20b0
              try clear c26
              try clear c28
              try clear hcz13_0
              try clear hcz13_1
              try clear hcz17_0
              try clear hcz17_1
              try clear hcz24_0
              try clear hcz24_1
              try clear hfz13_0
              try clear hfz13_1
              try clear hfz17_0
              try clear hfz17_1
              try clear hfz24_0
              try clear hfz24_1
              try clear p2
              try clear p6
              obtain ⟨kq, x64_26, rfl, HA, HJ26, BK374, HB⟩ := hcut
              cases kq with
              | zero => exact absurd HA.out (by simp [parts_Round.j2])
              | succ kj26 =>
                have H := HA.out
                clear HA
                simp only [parts_Round.j2] at H
                have HC29 := Aside0.mk H
                clear H
                go_upto_if 64 with (fail)
                go_cut [20] (fun v20 wc => ∃ (kq : Nat) (x20_28 : Int), v20 = .int .i64 x20_28 ∧ Aside0 (parts_Round.j3 kq a0 a5 ji21 t377 t378 x19_22 x20_28 = some (r1, r2)) ∧ Aside0 (kq ≤ kj26) ∧ Aside0 (wc.heap[gb374]? = some (.cells #[.int .u64 a1, .int .u64 a2] 121 (0, 0))) ∧ Aside0 (Below w.heap.size w wc))
                case first =>
                  have H := HC29.out
                  clear HC29
                  by_cases c30 : x64_26 = true
                  · subst c30
                    have H1 : (if (wrap64 ((wrap64 (ji9 + t375)) - 1)) < (-1022) then (parts_Round.j3 kj26 a0 a5 ji21 t377 t378 x19_22 (Go.bits .or .i64 16 8)) else (parts_Round.j3 kj26 a0 a5 ji21 t377 t378 x19_22 16)) = some (r1, r2) := by rw [if_pos rfl] at H; exact H
                    clear H
                    have H := H1
                    clear H1
                    by_cases c31 : (wrap64 ((wrap64 (ji9 + t375)) - 1)) < (-1022)
                    · rw [if_pos c31] at H
                      have c31b0 : decide ((wrap64 ((wrap64 (ji9 + t375)) - 1)) < (-1022)) = true := decide_eq_true c31
                      clear c31
                      (first | rw [c31b0] | (simp only [i64_w, i32_w]; rw [c31b0]) | skip)
                      have H' := Aside0.mk H
                      clear H
                      go_wp2
                      go_meet
                      case rel => exact ⟨_, (Go.bits .or .i64 16 8), (by first | rfl | (simp; done) | (simp [*]; done)), H', ⟨by have := HJ14.out; have := HJ22.out; have := HJ26.out; first | omega | exact Nat.le_refl _⟩, ⟨by (with_reducible repeat (first | refine blk_drewN ?_ _ | refine blk_drew ?_ | refine blk_alloc ?_ _)); exact BK374.out⟩, ⟨by repeat (first | (with_reducible first | exact HB.out | apply below_alloc | apply pw_below_drewN | apply below_drew1 | refine below_set ?_ GE374.out) | exact HB.out)⟩⟩
                    · rw [if_neg c31] at H
                      have c31b0 : decide ((wrap64 ((wrap64 (ji9 + t375)) - 1)) < (-1022)) = false := decide_eq_false c31
                      clear c31
                      (first | rw [c31b0] | (simp only [i64_w, i32_w]; rw [c31b0]) | skip)
                      have H' := Aside0.mk H
                      clear H
                      go_wp2
                      go_meet
                      case rel => exact ⟨_, (16), (by first | rfl | (simp; done) | (simp [*]; done)), H', ⟨by have := HJ14.out; have := HJ22.out; have := HJ26.out; first | omega | exact Nat.le_refl _⟩, ⟨by (with_reducible repeat (first | refine blk_drewN ?_ _ | refine blk_drew ?_ | refine blk_alloc ?_ _)); exact BK374.out⟩, ⟨by repeat (first | (with_reducible first | exact HB.out | apply below_alloc | apply pw_below_drewN | apply below_drew1 | refine below_set ?_ GE374.out) | exact HB.out)⟩⟩
                  · replace c30 := Bool.eq_false_iff.mpr c30
                    subst c30
                    have H1 : (parts_Round.j3 kj26 a0 a5 ji21 t377 t378 x19_22 0) = some (r1, r2) := by rw [if_neg (show ¬ (false = true) by decide)] at H; exact H
                    clear H
                    have H := H1
                    clear H1
                    have H' := Aside0.mk H
                    clear H
                    go_wp2
                    go_meet
                    case rel => exact ⟨_, (0), (by first | rfl | (simp; done) | (simp [*]; done)), H', ⟨by have := HJ14.out; have := HJ22.out; have := HJ26.out; first | omega | exact Nat.le_refl _⟩, ⟨by (with_reducible repeat (first | refine blk_drewN ?_ _ | refine blk_drew ?_ | refine blk_alloc ?_ _)); exact BK374.out⟩, ⟨by repeat (first | (with_reducible first | exact HB.out | apply below_alloc | apply pw_below_drewN | apply below_drew1 | refine below_set ?_ GE374.out) | exact HB.out)⟩⟩
                case rest =>
                  clear HC29
                  try clear c1
                  try clear c2
                  try clear p2
                  try clear c3
                  try clear p6
                  try clear c9
                  try clear c10
                  try clear c10b0
                  try clear c10b1
                  try clear c19
                  try clear c20
                  try clear c20b0
                  try clear c26
                  try clear c28
                  try clear c30
                  try clear c31
                  try clear c31b0
                  try clear hcz13_0
                  try clear hcz13_1
                  try clear hcz17_0
                  try clear hcz17_1
                  try clear hcz24_0
                  try clear hcz24_1
                  try clear hfz13_0
                  try clear hfz13_1
                  try clear hfz17_0
                  try clear hfz17_1
                  try clear hfz24_0
                  try clear hfz24_1
                  try clear p2
                  try clear p6
                  obtain ⟨kq, x20_28, rfl, HA, HJ28, BK374, HB⟩ := hcut
                  cases kq with
                  | zero => exact absurd HA.out (by simp [parts_Round.j3])
                  | succ kj28 =>
                    have H := HA.out
                    clear HA
                    simp only [parts_Round.j3] at H
                    replace H := Option.bind_eq_some_iff.mp H
                    obtain ⟨t380, A320, H⟩ := H
                    replace H : (if t380 = true then (parts_Round.j4 kj28 a0 a5 ji21 (IntKind.u64.wrap (t377 + 1)) x20_28) else (parts_Round.j4 kj28 a0 a5 ji21 t377 x20_28)) = some (r1, r2) := H
                    have A32 := Aside0.mk A320
                    clear A320
                    have HC33 := Aside0.mk H
                    clear H
                    go_upto_if 77 with (first | ((with_reducible refine gate_callee (f := 102) rfl ?_); refine goesL_ (some 77) rfl rfl Try.func102 (by kernel_rfl) rfl #[.bool a0, .int .u64 t377, .bool t378, .bool x19_22, .int .i64 a5] rfl (by (try simp only [List.map_toArray, List.map_cons, List.map_nil]); first | done | rfl | (simp only [List.length_drop, List.length_take]; rfl)) ?_; (with_reducible refine (parts_up.calls a0 t377 t378 x19_22 a5 t380 _ A32.out).mono ?_); rintro e w' ⟨rfl, ⟨nd, rfl⟩⟩; refine ⟨_, rfl, ?_⟩))
                    (try simp only [Act.put, List.setIfInBounds_toArray, List.set_cons_zero, List.set_cons_succ])
                    go_cut [17] (fun v17 wc => ∃ (kq : Nat) (x17_32 : Int), v17 = .int .u64 x17_32 ∧ Aside0 (parts_Round.j4 kq a0 a5 ji21 x17_32 x20_28 = some (r1, r2)) ∧ Aside0 (kq ≤ kj28) ∧ Aside0 (wc.heap[gb374]? = some (.cells #[.int .u64 a1, .int .u64 a2] 121 (0, 0))) ∧ Aside0 (Below w.heap.size w wc))
                    case first =>
                      have H := HC33.out
                      clear HC33
                      by_cases c34 : t380 = true
                      · subst c34
                        have H1 : (parts_Round.j4 kj28 a0 a5 ji21 (IntKind.u64.wrap (t377 + 1)) x20_28) = some (r1, r2) := by rw [if_pos rfl] at H; exact H
                        clear H
                        have H := H1
                        clear H1
                        have H' := Aside0.mk H
                        clear H
                        go_wp2
                        go_meet
                        case rel => exact ⟨_, (IntKind.u64.wrap (t377 + 1)), (by first | rfl | (simp; done) | (simp [*]; done)), H', ⟨by have := HJ14.out; have := HJ22.out; have := HJ26.out; have := HJ28.out; first | omega | exact Nat.le_refl _⟩, ⟨by (with_reducible repeat (first | refine blk_drewN ?_ _ | refine blk_drew ?_ | refine blk_alloc ?_ _)); exact BK374.out⟩, ⟨by repeat (first | (with_reducible first | exact HB.out | apply below_alloc | apply pw_below_drewN | apply below_drew1 | refine below_set ?_ GE374.out) | exact HB.out)⟩⟩
                      · replace c34 := Bool.eq_false_iff.mpr c34
                        subst c34
                        have H1 : (parts_Round.j4 kj28 a0 a5 ji21 t377 x20_28) = some (r1, r2) := by rw [if_neg (show ¬ (false = true) by decide)] at H; exact H
                        clear H
                        have H := H1
                        clear H1
                        have H' := Aside0.mk H
                        clear H
                        go_wp2
                        go_meet
                        case rel => exact ⟨_, (t377), (by first | rfl | (simp; done) | (simp [*]; done)), H', ⟨by have := HJ14.out; have := HJ22.out; have := HJ26.out; have := HJ28.out; first | omega | exact Nat.le_refl _⟩, ⟨by (with_reducible repeat (first | refine blk_drewN ?_ _ | refine blk_drew ?_ | refine blk_alloc ?_ _)); exact BK374.out⟩, ⟨by repeat (first | (with_reducible first | exact HB.out | apply below_alloc | apply pw_below_drewN | apply below_drew1 | refine below_set ?_ GE374.out) | exact HB.out)⟩⟩
                    case rest =>
                      clear HC33
                      try clear c1
                      try clear c2
                      try clear p2
                      try clear c3
                      try clear p6
                      try clear c9
                      try clear c10
                      try clear c10b0
                      try clear c10b1
                      try clear c19
                      try clear c20
                      try clear c20b0
                      try clear c26
                      try clear c28
                      try clear c30
                      try clear c31
                      try clear c31b0
                      try clear c34
                      try clear hcz13_0
                      try clear hcz13_1
                      try clear hcz17_0
                      try clear hcz17_1
                      try clear hcz24_0
                      try clear hcz24_1
                      try clear hfz13_0
                      try clear hfz13_1
                      try clear hfz17_0
                      try clear hfz17_1
                      try clear hfz24_0
                      try clear hfz24_1
                      try clear p2
                      try clear p6
                      obtain ⟨kq, x17_32, rfl, HA, HJ32, BK374, HB⟩ := hcut
                      cases kq with
                      | zero => exact absurd HA.out (by simp [parts_Round.j4])
                      | succ kj32 =>
                        have H := HA.out
                        clear HA
                        simp only [parts_Round.j4] at H
                        have HC35 := Aside0.mk H
                        clear H
                        go_upto_if 81 with (fail)
                        go_cut [16, 17] (fun v16 v17 wc => ∃ (kq : Nat) (x16_34 : Int) (x17_34 : Int), v16 = .int .i64 x16_34 ∧ v17 = .int .u64 x17_34 ∧ Aside0 (parts_Round.j5 kq a0 a5 x16_34 x17_34 x20_28 = some (r1, r2)) ∧ Aside0 (kq ≤ kj32) ∧ Aside0 (wc.heap[gb374]? = some (.cells #[.int .u64 a1, .int .u64 a2] 121 (0, 0))) ∧ Aside0 (Below w.heap.size w wc))
                        case first =>
                          have H := HC35.out
                          clear HC35
                          by_cases c36 : x17_32 = 9007199254740992
                          · rw [if_pos c36] at H
                            have c36b0 : (x17_32 == 9007199254740992) = true := beq_iff_eq.mpr c36
                            have c36b1 : (x17_32 != 9007199254740992) = false := bne_eq_false_iff_eq.mpr c36
                            clear c36
                            (first | rw [c36b0] | (simp only [i64_w, i32_w]; rw [c36b0]) | skip)
                            have H' := Aside0.mk H
                            clear H
                            go_wp2
                            go_meet
                            case rel => exact ⟨_, (wrap64 (ji21 + 1)), (4503599627370496), (by first | rfl | (simp; done) | (simp only [← hji21] <;> (first | rfl | simp)) | (simp [*]; done)), (by first | rfl | (simp; done) | (simp [*]; done)), H', ⟨by have := HJ14.out; have := HJ22.out; have := HJ26.out; have := HJ28.out; have := HJ32.out; first | omega | exact Nat.le_refl _⟩, ⟨by (with_reducible repeat (first | refine blk_drewN ?_ _ | refine blk_drew ?_ | refine blk_alloc ?_ _)); exact BK374.out⟩, ⟨by repeat (first | (with_reducible first | exact HB.out | apply below_alloc | apply pw_below_drewN | apply below_drew1 | refine below_set ?_ GE374.out) | exact HB.out)⟩⟩
                          · rw [if_neg c36] at H
                            have c36b0 : (x17_32 == 9007199254740992) = false := beq_eq_false_iff_ne.mpr c36
                            have c36b1 : (x17_32 != 9007199254740992) = true := bne_iff_ne.mpr c36
                            (first | rw [c36b0] | (simp only [i64_w, i32_w]; rw [c36b0]) | skip)
                            have H' := Aside0.mk H
                            clear H
                            go_wp2
                            go_meet
                            case rel => exact ⟨_, (ji21), (x17_32), (by first | rfl | (simp; done) | (simp only [← hji21] <;> (first | rfl | simp)) | (simp [*]; done)), (by first | rfl | (simp; done) | (simp [*]; done)), H', ⟨by have := HJ14.out; have := HJ22.out; have := HJ26.out; have := HJ28.out; have := HJ32.out; first | omega | exact Nat.le_refl _⟩, ⟨by (with_reducible repeat (first | refine blk_drewN ?_ _ | refine blk_drew ?_ | refine blk_alloc ?_ _)); exact BK374.out⟩, ⟨by repeat (first | (with_reducible first | exact HB.out | apply below_alloc | apply pw_below_drewN | apply below_drew1 | refine below_set ?_ GE374.out) | exact HB.out)⟩⟩
                        case rest =>
                          clear HC35
                          try clear c1
                          try clear c2
                          try clear p2
                          try clear c3
                          try clear p6
                          try clear c9
                          try clear c10
                          try clear c10b0
                          try clear c10b1
                          try clear c19
                          try clear c20
                          try clear c20b0
                          try clear c26
                          try clear c28
                          try clear c30
                          try clear c31
                          try clear c31b0
                          try clear c34
                          try clear c36
                          try clear c36b0
                          try clear c36b1
                          try clear hcz13_0
                          try clear hcz13_1
                          try clear hcz17_0
                          try clear hcz17_1
                          try clear hcz24_0
                          try clear hcz24_1
                          try clear hfz13_0
                          try clear hfz13_1
                          try clear hfz17_0
                          try clear hfz17_1
                          try clear hfz24_0
                          try clear hfz24_1
                          try clear p2
                          try clear p6
                          obtain ⟨kq, x16_34, x17_34, rfl, rfl, HA, HJ34, BK374, HB⟩ := hcut
                          cases kq with
                          | zero => exact absurd HA.out (by simp [parts_Round.j5])
                          | succ kj34 =>
                            have H := HA.out
                            clear HA
                            simp only [parts_Round.j5] at H
                            have HC37 := Aside0.mk H
                            clear H
                            go_upto_region 19 with (fail)
                            go_cut [90] (fun v90 wc => ∃ (kq : Nat) (x90_36 : Bool), v90 = .bool x90_36 ∧ Aside0 (parts_Round.j6 kq a0 a5 x16_34 x17_34 x20_28 x90_36 = some (r1, r2)) ∧ Aside0 (kq ≤ kj34) ∧ Aside0 (wc.heap[gb374]? = some (.cells #[.int .u64 a1, .int .u64 a2] 121 (0, 0))) ∧ Aside0 (Below w.heap.size w wc))
                            case first =>
                              have H := HC37.out
                              clear HC37
                              by_cases c38 : x17_34 ≥ 4503599627370496
                              · rw [if_pos c38] at H
                                have c38b0 : decide (4503599627370496 ≤ x17_34) = true := decide_eq_true c38
                                clear c38
                                (first | rw [c38b0] | (simp only [i64_w, i32_w]; rw [c38b0]) | skip)
                                have H' := Aside0.mk H
                                clear H
                                go_wp2
                                go_meet
                                case rel => exact ⟨_, (decide ((wrap64 (x16_34 + 1075)) ≥ 2047)), (by first | rfl | (simp; done) | (simp [*]; done)), H', ⟨by have := HJ14.out; have := HJ22.out; have := HJ26.out; have := HJ28.out; have := HJ32.out; have := HJ34.out; first | omega | exact Nat.le_refl _⟩, ⟨by (with_reducible repeat (first | refine blk_drewN ?_ _ | refine blk_drew ?_ | refine blk_alloc ?_ _)); exact BK374.out⟩, ⟨by repeat (first | (with_reducible first | exact HB.out | apply below_alloc | apply pw_below_drewN | apply below_drew1 | refine below_set ?_ GE374.out) | exact HB.out)⟩⟩
                              · rw [if_neg c38] at H
                                have c38b0 : decide (4503599627370496 ≤ x17_34) = false := decide_eq_false c38
                                clear c38
                                (first | rw [c38b0] | (simp only [i64_w, i32_w]; rw [c38b0]) | skip)
                                have H' := Aside0.mk H
                                clear H
                                go_wp2
                                go_meet
                                case rel => exact ⟨_, (false), (by first | rfl | (simp; done) | (simp [*]; done)), H', ⟨by have := HJ14.out; have := HJ22.out; have := HJ26.out; have := HJ28.out; have := HJ32.out; have := HJ34.out; first | omega | exact Nat.le_refl _⟩, ⟨by (with_reducible repeat (first | refine blk_drewN ?_ _ | refine blk_drew ?_ | refine blk_alloc ?_ _)); exact BK374.out⟩, ⟨by repeat (first | (with_reducible first | exact HB.out | apply below_alloc | apply pw_below_drewN | apply below_drew1 | refine below_set ?_ GE374.out) | exact HB.out)⟩⟩
                            case rest =>
                              clear HC37
                              try clear c1
                              try clear c2
                              try clear p2
                              try clear c3
                              try clear p6
                              try clear c9
                              try clear c10
                              try clear c10b0
                              try clear c10b1
                              try clear c19
                              try clear c20
                              try clear c20b0
                              try clear c26
                              try clear c28
                              try clear c30
                              try clear c31
                              try clear c31b0
                              try clear c34
                              try clear c36
                              try clear c36b0
                              try clear c36b1
                              try clear c38
                              try clear c38b0
                              try clear hcz13_0
                              try clear hcz13_1
                              try clear hcz17_0
                              try clear hcz17_1
                              try clear hcz24_0
                              try clear hcz24_1
                              try clear hfz13_0
                              try clear hfz13_1
                              try clear hfz17_0
                              try clear hfz17_1
                              try clear hfz24_0
                              try clear hfz24_1
                              try clear p2
                              try clear p6
                              obtain ⟨kq, x90_36, rfl, HA, HJ36, BK374, HB⟩ := hcut
                              cases kq with
                              | zero => exact absurd HA.out (by simp [parts_Round.j6])
                              | succ kj36 =>
                                have H := HA.out
                                clear HA
                                simp only [parts_Round.j6] at H
                                by_cases c39 : x90_36 = true
                                · subst c39
                                  have H1 : ((parts_over.f kj36 a0 a5).bind fun bt381 => (some (bt381.1, bt381.2))) = some (r1, r2) := by rw [if_pos rfl] at H; exact H
                                  clear H
                                  have H := H1
                                  clear H1
                                  replace H := Option.bind_eq_some_iff.mp H
                                  obtain ⟨⟨t381, t382⟩, A400, H⟩ := H
                                  replace H : (some (t381, t382)) = some (r1, r2) := H
                                  have A40 := Aside0.mk A400
                                  clear A400
                                  simp only [Option.some.injEq, Prod.mk.injEq] at H
                                  obtain ⟨rfl, rfl⟩ := H
                                  go_wp2_with (first | ((with_reducible refine gate_callee (f := 103) rfl ?_); refine goesL_ (some 93) rfl rfl Try.func103 (by kernel_rfl) rfl #[.bool a0, .int .i64 a5] rfl (by (try simp only [List.map_toArray, List.map_cons, List.map_nil]); first | done | rfl | (simp only [List.length_drop, List.length_take]; rfl)) ?_; (with_reducible refine (parts_over.calls kj36 a0 a5 t381 t382 _ A40.out).mono ?_); rintro e w' ⟨rfl, ⟨nd, rfl⟩⟩; refine ⟨_, rfl, ?_⟩))
                                  go_ret2
                                  exact ⟨by first | rfl | (simp [errW_none, errW_some] <;> rfl) | (simp only [← hji8, ← hji9, ← hji21]; first | rfl | (simp [errW_none, errW_some] <;> rfl)) | (simp [*, errW_none, errW_some] <;> rfl), by repeat (first | (with_reducible first | exact HB.out | apply below_alloc | apply pw_below_drewN | apply below_drew1 | refine below_set ?_ GE374.out) | exact HB.out)⟩
                                · replace c39 := Bool.eq_false_iff.mpr c39
                                  subst c39
                                  have H1 : ((parts_put.f a0 x17_34 x16_34).bind fun t383 => (some (t383, x20_28))) = some (r1, r2) := by rw [if_neg (show ¬ (false = true) by decide)] at H; exact H
                                  clear H
                                  have H := H1
                                  clear H1
                                  replace H := Option.bind_eq_some_iff.mp H
                                  obtain ⟨t383, A410, H⟩ := H
                                  replace H : (some (t383, x20_28)) = some (r1, r2) := H
                                  have A41 := Aside0.mk A410
                                  clear A410
                                  simp only [Option.some.injEq, Prod.mk.injEq] at H
                                  obtain ⟨rfl, rfl⟩ := H
                                  go_wp2_with (first | ((with_reducible refine gate_callee (f := 104) rfl ?_); refine goesL_ (some 99) rfl rfl Try.func104 (by kernel_rfl) rfl #[.bool a0, .int .u64 x17_34, .int .i64 x16_34] rfl (by (try simp only [List.map_toArray, List.map_cons, List.map_nil]); first | done | rfl | (simp only [List.length_drop, List.length_take]; rfl)) ?_; (with_reducible refine (parts_put.calls a0 x17_34 x16_34 t383 _ A41.out).mono ?_); rintro e w' ⟨rfl, ⟨nd, rfl⟩⟩; refine ⟨_, rfl, ?_⟩))
                                  go_ret2
                                  exact ⟨by first | rfl | (simp [errW_none, errW_some] <;> rfl) | (simp only [← hji8, ← hji9, ← hji21]; first | rfl | (simp [errW_none, errW_some] <;> rfl)) | (simp [*, errW_none, errW_some] <;> rfl), by repeat (first | (with_reducible first | exact HB.out | apply below_alloc | apply pw_below_drewN | apply below_drew1 | refine below_set ?_ GE374.out) | exact HB.out)⟩

end Go.Proofs.Ytjbpchebabhoeaa.P
