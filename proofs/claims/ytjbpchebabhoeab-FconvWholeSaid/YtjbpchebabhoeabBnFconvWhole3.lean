/- Part 3 of what the law FconvWhole rests on: printed walks of its functions, and plain laws of what they compute. For every input that their premises tell. -/
import Derived.Laws.Bits64b
import Derived.Lib.BitFns
import Derived.Lib.ItoaNum
import Derived.Test.YtjbpchebabhoeabVFconvWholeMore
import Derived.Test.YtjbpchebabhoeabBnFconvWhole0
import Derived.Test.YtjbpchebabhoeabBnFconvWhole1
import Derived.Test.YtjbpchebabhoeabBnFconvWhole2
section
namespace Go.Proofs.Ytjbpchebabhoeab.P
open Go.RowKit Go.Proofs.YtjbpchebabhoeabW.PrintWords Go.Proofs.YtjbpchebabhoeabW.PrintLast Go.Proofs.YtjbpchebabhoeabW.PrintMore Go.Proofs.Ytjbpchebabhoeab.X
attribute [local go_sem] max2_int min2_int max_two min_two max_three min_three max_four min_four
set_option linter.unusedVariables false
set_option linter.unusedSimpArgs false
mutual
def vernierlaw13_FconvWhole.j0 : Nat → Int → Int → Int → Int → Int → List Int → Int → Option (Bool)
  | 0, _, _, _, _, _, _, _ => none
  | k + 1, x0, x5, x6, x7, x8, x10, x12 => (vernierref06_Split.f x5).bind fun bt371 => (if x6 = x12 then (if (!(bt371.1 == (decide (x0 ≥ 9223372036854775808)))) = true then (vernierlaw13_FconvWhole.j1 k x7 x8 x10 x12 bt371.1 true) else ((vernierref01_Word.f k bt371.2.1).bind fun t374 => ((vernierref01_Shl.f k t374 (wrap64 (bt371.2.2 - (mn bt371.2.2 0)))).bind fun t377 => ((vernierref01_Shl.f k x10 (wrap64 (-(mn bt371.2.2 0)))).bind fun t380 => ((vernierref01_Cmp.f k t377 t380).bind fun t383 => (vernierlaw13_FconvWhole.j1 k x7 x8 x10 x12 bt371.1 (t383 != 0))))))) else (vernierlaw13_FconvWhole.j1 k x7 x8 x10 x12 bt371.1 true))
def vernierlaw13_FconvWhole.j1 : Nat → Int → Int → List Int → Int → Bool → Bool → Option (Bool)
  | 0, _, _, _, _, _, _ => none
  | k + 1, x7, x8, x10, x12, x13, x101 => if x101 = true then (some false) else ((vernierref01_Shl.f k (([1] : List Int)) 62).bind fun t387 => ((vernierref01_Cmp.f k x10 t387).bind fun t390 => (if t390 > 0 then (if x7 = 0 then (some (x8 == 1)) else (some false)) else ((vernierref01_Limbs.f k x10).bind fun t391 => (if (t391.length : Int) > 0 then (if 0 < (t391.length : Int) then (if x13 = true then (if x7 = (wrap64 (-(wrap64 (rd t391 0)))) then (some (x8 == x12)) else (some false)) else (if x7 = (wrap64 (rd t391 0)) then (some (x8 == x12)) else (some false))) else (none)) else (if x13 = true then (if x7 = (-0) then (some (x8 == x12)) else (some false)) else (if x7 = 0 then (some (x8 == x12)) else (some false))))))))
end
def vernierlaw13_FconvWhole.f (k : Nat) (a0 : Int) (a1 : Int) : Option (Bool) := (vernierlaw13_alive.f k).bind fun t361 => (if t361 = true then ((fconv_Whole.f k a0 a1).bind fun bt362 => ((fconv_ToInt.f k a0 a1).bind fun bt364 => ((vernierref06_Class.f k a0).bind fun t366 => (if t366 > 1 then (if bt364.1 = 0 then (if bt364.2 = 1 then (if bt362.2 = 0 then (if t366 = 3 then (if bt362.1 = 9221120237041090560 then (some true) else (if t366 = 2 then (some (bt362.1 == a0)) else (some false))) else (if t366 = 2 then (some (bt362.1 == a0)) else (some false))) else (some false)) else (some false)) else (some false)) else ((vernierlaw13_whole.f k a0 a1).bind fun bt367 => (if bt367.2 = true then (vernierlaw13_FconvWhole.j0 k a0 bt362.1 bt362.2 bt364.1 bt364.2 bt367.1 16) else (vernierlaw13_FconvWhole.j0 k a0 bt362.1 bt362.2 bt364.1 bt364.2 bt367.1 0))))))) else (some false))
theorem vernierlaw13_FconvWhole.mono_l : ∀ k, (∀ y0 y1 y2 y3 y4 y5 y6, LeO (vernierlaw13_FconvWhole.j0 k y0 y1 y2 y3 y4 y5 y6) (vernierlaw13_FconvWhole.j0 (k + 1) y0 y1 y2 y3 y4 y5 y6)) ∧ (∀ y0 y1 y2 y3 y4 y5, LeO (vernierlaw13_FconvWhole.j1 k y0 y1 y2 y3 y4 y5) (vernierlaw13_FconvWhole.j1 (k + 1) y0 y1 y2 y3 y4 y5))
  | 0 => ⟨fun _ _ _ _ _ _ _ r h => by simp [vernierlaw13_FconvWhole.j0] at h, fun _ _ _ _ _ _ r h => by simp [vernierlaw13_FconvWhole.j1] at h⟩
  | k + 1 => by
    obtain ⟨ih0, ih1⟩ := vernierlaw13_FconvWhole.mono_l k
    refine ⟨?_, ?_⟩
    · intro y0 y1 y2 y3 y4 y5 y6
      unfold vernierlaw13_FconvWhole.j0
      repeat' first
      | (with_reducible exact ih0 _ _ _ _ _ _ _)
      | (with_reducible exact ih1 _ _ _ _ _ _)
      | (with_reducible exact fconv_ToInt.mono _ _ _)
      | (with_reducible exact fconv_Whole.mono _ _ _)
      | (with_reducible exact vernierlaw13_alive.mono _)
      | (with_reducible exact vernierlaw13_whole.mono _ _ _)
      | (with_reducible exact vernierref01_Cmp.mono _ _ _)
      | (with_reducible exact vernierref01_Limbs.mono _ _)
      | (with_reducible exact vernierref01_Shl.mono _ _ _)
      | (with_reducible exact vernierref01_Word.mono _ _)
      | (with_reducible exact vernierref06_Class.mono _ _)
      | (with_reducible exact LeO.refl _)
      | (with_reducible exact LeO.none _)
      | (with_reducible refine LeO.ite ?_ ?_)
      | (with_reducible refine LeO.bind ?_ (fun _ => ?_))
      | exact ih0 _ _ _ _ _ _ _
      | exact ih1 _ _ _ _ _ _
      | exact fconv_ToInt.mono _ _ _
      | exact fconv_Whole.mono _ _ _
      | exact vernierlaw13_alive.mono _
      | exact vernierlaw13_whole.mono _ _ _
      | exact vernierref01_Cmp.mono _ _ _
      | exact vernierref01_Limbs.mono _ _
      | exact vernierref01_Shl.mono _ _ _
      | exact vernierref01_Word.mono _ _
      | exact vernierref06_Class.mono _ _
      | exact LeO.none _
      | refine LeO.ite ?_ ?_
      | refine LeO.bind ?_ (fun _ => ?_)
    · intro y0 y1 y2 y3 y4 y5
      unfold vernierlaw13_FconvWhole.j1
      repeat' first
      | (with_reducible exact ih0 _ _ _ _ _ _ _)
      | (with_reducible exact ih1 _ _ _ _ _ _)
      | (with_reducible exact fconv_ToInt.mono _ _ _)
      | (with_reducible exact fconv_Whole.mono _ _ _)
      | (with_reducible exact vernierlaw13_alive.mono _)
      | (with_reducible exact vernierlaw13_whole.mono _ _ _)
      | (with_reducible exact vernierref01_Cmp.mono _ _ _)
      | (with_reducible exact vernierref01_Limbs.mono _ _)
      | (with_reducible exact vernierref01_Shl.mono _ _ _)
      | (with_reducible exact vernierref01_Word.mono _ _)
      | (with_reducible exact vernierref06_Class.mono _ _)
      | (with_reducible exact LeO.refl _)
      | (with_reducible exact LeO.none _)
      | (with_reducible refine LeO.ite ?_ ?_)
      | (with_reducible refine LeO.bind ?_ (fun _ => ?_))
      | exact ih0 _ _ _ _ _ _ _
      | exact ih1 _ _ _ _ _ _
      | exact fconv_ToInt.mono _ _ _
      | exact fconv_Whole.mono _ _ _
      | exact vernierlaw13_alive.mono _
      | exact vernierlaw13_whole.mono _ _ _
      | exact vernierref01_Cmp.mono _ _ _
      | exact vernierref01_Limbs.mono _ _
      | exact vernierref01_Shl.mono _ _ _
      | exact vernierref01_Word.mono _ _
      | exact vernierref06_Class.mono _ _
      | exact LeO.none _
      | refine LeO.ite ?_ ?_
      | refine LeO.bind ?_ (fun _ => ?_)
theorem vernierlaw13_FconvWhole.mono : ∀ a0 a1 k, LeO (vernierlaw13_FconvWhole.f k a0 a1) (vernierlaw13_FconvWhole.f (k + 1) a0 a1) := by
  intro a0 a1 k
  obtain ⟨ih0, ih1⟩ := vernierlaw13_FconvWhole.mono_l k
  unfold vernierlaw13_FconvWhole.f
  repeat' first
      | (with_reducible exact ih0 _ _ _ _ _ _ _)
      | (with_reducible exact ih1 _ _ _ _ _ _)
      | (with_reducible exact fconv_ToInt.mono _ _ _)
      | (with_reducible exact fconv_Whole.mono _ _ _)
      | (with_reducible exact vernierlaw13_alive.mono _)
      | (with_reducible exact vernierlaw13_whole.mono _ _ _)
      | (with_reducible exact vernierref01_Cmp.mono _ _ _)
      | (with_reducible exact vernierref01_Limbs.mono _ _)
      | (with_reducible exact vernierref01_Shl.mono _ _ _)
      | (with_reducible exact vernierref01_Word.mono _ _)
      | (with_reducible exact vernierref06_Class.mono _ _)
      | (with_reducible exact LeO.refl _)
      | (with_reducible exact LeO.none _)
      | (with_reducible refine LeO.ite ?_ ?_)
      | (with_reducible refine LeO.bind ?_ (fun _ => ?_))
      | exact ih0 _ _ _ _ _ _ _
      | exact ih1 _ _ _ _ _ _
      | exact fconv_ToInt.mono _ _ _
      | exact fconv_Whole.mono _ _ _
      | exact vernierlaw13_alive.mono _
      | exact vernierlaw13_whole.mono _ _ _
      | exact vernierref01_Cmp.mono _ _ _
      | exact vernierref01_Limbs.mono _ _
      | exact vernierref01_Shl.mono _ _ _
      | exact vernierref01_Word.mono _ _
      | exact vernierref06_Class.mono _ _
      | exact LeO.none _
      | refine LeO.ite ?_ ?_
      | refine LeO.bind ?_ (fun _ => ?_)
set_option maxHeartbeats 8000000 in
set_option maxRecDepth 100000 in
theorem vernierlaw13_FconvWhole.calls (k : Nat) (a0 : Int) (a1 : Int) (r : Bool) (w : World) (h : vernierlaw13_FconvWhole.f k a0 a1 = some r) :
    Calls Try.prog 3 #[.int .u64 a0, .int .i64 a1] w fun e w' => e = .returned (.bool r) ∧ Below w.heap.size w w' := by
  have HB := Aside0.mk (Below.refl w.heap.size w)
  have H : ((vernierlaw13_alive.f k).bind fun t361 => (if t361 = true then ((fconv_Whole.f k a0 a1).bind fun bt362 => ((fconv_ToInt.f k a0 a1).bind fun bt364 => ((vernierref06_Class.f k a0).bind fun t366 => (if t366 > 1 then (if bt364.1 = 0 then (if bt364.2 = 1 then (if bt362.2 = 0 then (if t366 = 3 then (if bt362.1 = 9221120237041090560 then (some true) else (if t366 = 2 then (some (bt362.1 == a0)) else (some false))) else (if t366 = 2 then (some (bt362.1 == a0)) else (some false))) else (some false)) else (some false)) else (some false)) else ((vernierlaw13_whole.f k a0 a1).bind fun bt367 => (if bt367.2 = true then (vernierlaw13_FconvWhole.j0 k a0 bt362.1 bt362.2 bt364.1 bt364.2 bt367.1 16) else (vernierlaw13_FconvWhole.j0 k a0 bt362.1 bt362.2 bt364.1 bt364.2 bt367.1 0))))))) else (some false))) = some r := h
  clear h
  replace H := Option.bind_eq_some_iff.mp H
  obtain ⟨t361, A30, H⟩ := H
  replace H : (if t361 = true then ((fconv_Whole.f k a0 a1).bind fun bt362 => ((fconv_ToInt.f k a0 a1).bind fun bt364 => ((vernierref06_Class.f k a0).bind fun t366 => (if t366 > 1 then (if bt364.1 = 0 then (if bt364.2 = 1 then (if bt362.2 = 0 then (if t366 = 3 then (if bt362.1 = 9221120237041090560 then (some true) else (if t366 = 2 then (some (bt362.1 == a0)) else (some false))) else (if t366 = 2 then (some (bt362.1 == a0)) else (some false))) else (some false)) else (some false)) else (some false)) else ((vernierlaw13_whole.f k a0 a1).bind fun bt367 => (if bt367.2 = true then (vernierlaw13_FconvWhole.j0 k a0 bt362.1 bt362.2 bt364.1 bt364.2 bt367.1 16) else (vernierlaw13_FconvWhole.j0 k a0 bt362.1 bt362.2 bt364.1 bt364.2 bt367.1 0))))))) else (some false)) = some r := H
  have A3 := Aside0.mk A30
  clear A30
  by_cases c4 : t361 = true
  · subst c4
    have H1 : ((fconv_Whole.f k a0 a1).bind fun bt362 => ((fconv_ToInt.f k a0 a1).bind fun bt364 => ((vernierref06_Class.f k a0).bind fun t366 => (if t366 > 1 then (if bt364.1 = 0 then (if bt364.2 = 1 then (if bt362.2 = 0 then (if t366 = 3 then (if bt362.1 = 9221120237041090560 then (some true) else (if t366 = 2 then (some (bt362.1 == a0)) else (some false))) else (if t366 = 2 then (some (bt362.1 == a0)) else (some false))) else (some false)) else (some false)) else (some false)) else ((vernierlaw13_whole.f k a0 a1).bind fun bt367 => (if bt367.2 = true then (vernierlaw13_FconvWhole.j0 k a0 bt362.1 bt362.2 bt364.1 bt364.2 bt367.1 16) else (vernierlaw13_FconvWhole.j0 k a0 bt362.1 bt362.2 bt364.1 bt364.2 bt367.1 0))))))) = some r := by rw [if_pos rfl] at H; exact H
    clear H
    have H := H1
    clear H1
    replace H := Option.bind_eq_some_iff.mp H
    obtain ⟨⟨t362, t363⟩, A50, H⟩ := H
    replace H : ((fconv_ToInt.f k a0 a1).bind fun bt364 => ((vernierref06_Class.f k a0).bind fun t366 => (if t366 > 1 then (if bt364.1 = 0 then (if bt364.2 = 1 then (if t363 = 0 then (if t366 = 3 then (if t362 = 9221120237041090560 then (some true) else (if t366 = 2 then (some (t362 == a0)) else (some false))) else (if t366 = 2 then (some (t362 == a0)) else (some false))) else (some false)) else (some false)) else (some false)) else ((vernierlaw13_whole.f k a0 a1).bind fun bt367 => (if bt367.2 = true then (vernierlaw13_FconvWhole.j0 k a0 t362 t363 bt364.1 bt364.2 bt367.1 16) else (vernierlaw13_FconvWhole.j0 k a0 t362 t363 bt364.1 bt364.2 bt367.1 0)))))) = some r := H
    have A5 := Aside0.mk A50
    clear A50
    replace H := Option.bind_eq_some_iff.mp H
    obtain ⟨⟨t364, t365⟩, A60, H⟩ := H
    replace H : ((vernierref06_Class.f k a0).bind fun t366 => (if t366 > 1 then (if t364 = 0 then (if t365 = 1 then (if t363 = 0 then (if t366 = 3 then (if t362 = 9221120237041090560 then (some true) else (if t366 = 2 then (some (t362 == a0)) else (some false))) else (if t366 = 2 then (some (t362 == a0)) else (some false))) else (some false)) else (some false)) else (some false)) else ((vernierlaw13_whole.f k a0 a1).bind fun bt367 => (if bt367.2 = true then (vernierlaw13_FconvWhole.j0 k a0 t362 t363 t364 t365 bt367.1 16) else (vernierlaw13_FconvWhole.j0 k a0 t362 t363 t364 t365 bt367.1 0))))) = some r := H
    have A6 := Aside0.mk A60
    clear A60
    replace H := Option.bind_eq_some_iff.mp H
    obtain ⟨t366, A70, H⟩ := H
    replace H : (if t366 > 1 then (if t364 = 0 then (if t365 = 1 then (if t363 = 0 then (if t366 = 3 then (if t362 = 9221120237041090560 then (some true) else (if t366 = 2 then (some (t362 == a0)) else (some false))) else (if t366 = 2 then (some (t362 == a0)) else (some false))) else (some false)) else (some false)) else (some false)) else ((vernierlaw13_whole.f k a0 a1).bind fun bt367 => (if bt367.2 = true then (vernierlaw13_FconvWhole.j0 k a0 t362 t363 t364 t365 bt367.1 16) else (vernierlaw13_FconvWhole.j0 k a0 t362 t363 t364 t365 bt367.1 0)))) = some r := H
    have A7 := Aside0.mk A70
    clear A70
    by_cases c8 : t366 > 1
    · rw [if_pos c8] at H
      have c8b0 : decide (1 < t366) = true := decide_eq_true c8
      clear c8
      by_cases c9 : t364 = 0
      · rw [if_pos c9] at H
        have c9b0 : (t364 == 0) = true := beq_iff_eq.mpr c9
        have c9b1 : (t364 != 0) = false := bne_eq_false_iff_eq.mpr c9
        clear c9
        by_cases c10 : t365 = 1
        · rw [if_pos c10] at H
          have c10b0 : (t365 == 1) = true := beq_iff_eq.mpr c10
          have c10b1 : (t365 != 1) = false := bne_eq_false_iff_eq.mpr c10
          clear c10
          by_cases c11 : t363 = 0
          · rw [if_pos c11] at H
            have c11b0 : (t363 == 0) = true := beq_iff_eq.mpr c11
            have c11b1 : (t363 != 0) = false := bne_eq_false_iff_eq.mpr c11
            clear c11
            by_cases c12 : t366 = 3
            · rw [if_pos c12] at H
              have c12b0 : (t366 == 3) = true := beq_iff_eq.mpr c12
              have c12b1 : (t366 != 3) = false := bne_eq_false_iff_eq.mpr c12
              clear c12
              by_cases c13 : t362 = 9221120237041090560
              · rw [if_pos c13] at H
                have c13b0 : (t362 == 9221120237041090560) = true := beq_iff_eq.mpr c13
                have c13b1 : (t362 != 9221120237041090560) = false := bne_eq_false_iff_eq.mpr c13
                clear c13
                obtain rfl := Option.some.inj H
                go_enter Try.func3, Try.ntmps3
                go_wp2_with (first | ((with_reducible refine gate_callee (f := 4) rfl ?_); refine goesL_ (some 19) rfl rfl Try.func4 (by kernel_rfl) rfl #[] rfl ar_ ?_; (with_reducible refine (vernierlaw13_alive.calls k  true _ A3.out).mono ?_); rintro e w14 ⟨rfl, hb⟩; refine ⟨_, rfl, ?_⟩; have n0_ := Aside0.mk (below_step (dn_ HB) hb); clear HB; have HB := n0_; clear n0_; (try clear hb); (try clear hk)) | ((with_reducible refine gate_callee (f := 5) rfl ?_); refine goesL_ (some 24) rfl rfl Try.func5 (by kernel_rfl) rfl #[.int .u64 a0, .int .i64 a1] rfl ar_ ?_; (with_reducible refine (fconv_Whole.calls k a0 a1 t362 t363 _ A5.out).mono ?_); rintro e w15 ⟨rfl, hb⟩; refine ⟨_, rfl, ?_⟩; have n0_ := Aside0.mk (below_step (dn_ HB) hb); clear HB; have HB := n0_; clear n0_; (try clear hb); (try clear hk)) | ((with_reducible refine gate_callee (f := 6) rfl ?_); refine goesL_ (some 30) rfl rfl Try.func6 (by kernel_rfl) rfl #[.int .u64 a0, .int .i64 a1] rfl ar_ ?_; (with_reducible refine (fconv_ToInt.calls k a0 a1 t364 t365 _ A6.out).mono ?_); rintro e w16 ⟨rfl, hb⟩; refine ⟨_, rfl, ?_⟩; have n0_ := Aside0.mk (below_step (dn_ HB) hb); clear HB; have HB := n0_; clear n0_; (try clear hb); (try clear hk)) | ((with_reducible refine gate_callee (f := 7) rfl ?_); refine goesL_ (some 34) rfl rfl Try.func7 (by kernel_rfl) rfl #[.int .u64 a0] rfl ar_ ?_; (with_reducible refine (vernierref06_Class.calls k a0 t366 _ A7.out).mono ?_); rintro e w' ⟨rfl, ⟨nd, rfl⟩⟩; refine ⟨_, rfl, ?_⟩))
                go_ret
                exact ⟨er_, dn_ HB⟩
              · rw [if_neg c13] at H
                have c13b0 : (t362 == 9221120237041090560) = false := beq_eq_false_iff_ne.mpr c13
                have c13b1 : (t362 != 9221120237041090560) = true := bne_iff_ne.mpr c13
                by_cases c17 : t366 = 2
                · rw [if_pos c17] at H
                  have c17b0 : (t366 == 2) = true := beq_iff_eq.mpr c17
                  have c17b1 : (t366 != 2) = false := bne_eq_false_iff_eq.mpr c17
                  clear c17
                  obtain rfl := Option.some.inj H
                  go_enter Try.func3, Try.ntmps3
                  go_wp2_with (first | ((with_reducible refine gate_callee (f := 4) rfl ?_); refine goesL_ (some 19) rfl rfl Try.func4 (by kernel_rfl) rfl #[] rfl ar_ ?_; (with_reducible refine (vernierlaw13_alive.calls k  true _ A3.out).mono ?_); rintro e w18 ⟨rfl, hb⟩; refine ⟨_, rfl, ?_⟩; have n0_ := Aside0.mk (below_step (dn_ HB) hb); clear HB; have HB := n0_; clear n0_; (try clear hb); (try clear hk)) | ((with_reducible refine gate_callee (f := 5) rfl ?_); refine goesL_ (some 24) rfl rfl Try.func5 (by kernel_rfl) rfl #[.int .u64 a0, .int .i64 a1] rfl ar_ ?_; (with_reducible refine (fconv_Whole.calls k a0 a1 t362 t363 _ A5.out).mono ?_); rintro e w19 ⟨rfl, hb⟩; refine ⟨_, rfl, ?_⟩; have n0_ := Aside0.mk (below_step (dn_ HB) hb); clear HB; have HB := n0_; clear n0_; (try clear hb); (try clear hk)) | ((with_reducible refine gate_callee (f := 6) rfl ?_); refine goesL_ (some 30) rfl rfl Try.func6 (by kernel_rfl) rfl #[.int .u64 a0, .int .i64 a1] rfl ar_ ?_; (with_reducible refine (fconv_ToInt.calls k a0 a1 t364 t365 _ A6.out).mono ?_); rintro e w20 ⟨rfl, hb⟩; refine ⟨_, rfl, ?_⟩; have n0_ := Aside0.mk (below_step (dn_ HB) hb); clear HB; have HB := n0_; clear n0_; (try clear hb); (try clear hk)) | ((with_reducible refine gate_callee (f := 7) rfl ?_); refine goesL_ (some 34) rfl rfl Try.func7 (by kernel_rfl) rfl #[.int .u64 a0] rfl ar_ ?_; (with_reducible refine (vernierref06_Class.calls k a0 t366 _ A7.out).mono ?_); rintro e w' ⟨rfl, ⟨nd, rfl⟩⟩; refine ⟨_, rfl, ?_⟩))
                  go_ret
                  exact ⟨er_, dn_ HB⟩
                · rw [if_neg c17] at H
                  have c17b0 : (t366 == 2) = false := beq_eq_false_iff_ne.mpr c17
                  have c17b1 : (t366 != 2) = true := bne_iff_ne.mpr c17
                  obtain rfl := Option.some.inj H
                  go_enter Try.func3, Try.ntmps3
                  go_wp2_with (first | ((with_reducible refine gate_callee (f := 4) rfl ?_); refine goesL_ (some 19) rfl rfl Try.func4 (by kernel_rfl) rfl #[] rfl ar_ ?_; (with_reducible refine (vernierlaw13_alive.calls k  true _ A3.out).mono ?_); rintro e w21 ⟨rfl, hb⟩; refine ⟨_, rfl, ?_⟩; have n0_ := Aside0.mk (below_step (dn_ HB) hb); clear HB; have HB := n0_; clear n0_; (try clear hb); (try clear hk)) | ((with_reducible refine gate_callee (f := 5) rfl ?_); refine goesL_ (some 24) rfl rfl Try.func5 (by kernel_rfl) rfl #[.int .u64 a0, .int .i64 a1] rfl ar_ ?_; (with_reducible refine (fconv_Whole.calls k a0 a1 t362 t363 _ A5.out).mono ?_); rintro e w22 ⟨rfl, hb⟩; refine ⟨_, rfl, ?_⟩; have n0_ := Aside0.mk (below_step (dn_ HB) hb); clear HB; have HB := n0_; clear n0_; (try clear hb); (try clear hk)) | ((with_reducible refine gate_callee (f := 6) rfl ?_); refine goesL_ (some 30) rfl rfl Try.func6 (by kernel_rfl) rfl #[.int .u64 a0, .int .i64 a1] rfl ar_ ?_; (with_reducible refine (fconv_ToInt.calls k a0 a1 t364 t365 _ A6.out).mono ?_); rintro e w23 ⟨rfl, hb⟩; refine ⟨_, rfl, ?_⟩; have n0_ := Aside0.mk (below_step (dn_ HB) hb); clear HB; have HB := n0_; clear n0_; (try clear hb); (try clear hk)) | ((with_reducible refine gate_callee (f := 7) rfl ?_); refine goesL_ (some 34) rfl rfl Try.func7 (by kernel_rfl) rfl #[.int .u64 a0] rfl ar_ ?_; (with_reducible refine (vernierref06_Class.calls k a0 t366 _ A7.out).mono ?_); rintro e w' ⟨rfl, ⟨nd, rfl⟩⟩; refine ⟨_, rfl, ?_⟩))
                  go_ret
                  exact ⟨er_, dn_ HB⟩
            · rw [if_neg c12] at H
              have c12b0 : (t366 == 3) = false := beq_eq_false_iff_ne.mpr c12
              have c12b1 : (t366 != 3) = true := bne_iff_ne.mpr c12
              by_cases c24 : t366 = 2
              · rw [if_pos c24] at H
                have c24b0 : (t366 == 2) = true := beq_iff_eq.mpr c24
                have c24b1 : (t366 != 2) = false := bne_eq_false_iff_eq.mpr c24
                clear c24
                obtain rfl := Option.some.inj H
                go_enter Try.func3, Try.ntmps3
                go_wp2_with (first | ((with_reducible refine gate_callee (f := 4) rfl ?_); refine goesL_ (some 19) rfl rfl Try.func4 (by kernel_rfl) rfl #[] rfl ar_ ?_; (with_reducible refine (vernierlaw13_alive.calls k  true _ A3.out).mono ?_); rintro e w25 ⟨rfl, hb⟩; refine ⟨_, rfl, ?_⟩; have n0_ := Aside0.mk (below_step (dn_ HB) hb); clear HB; have HB := n0_; clear n0_; (try clear hb); (try clear hk)) | ((with_reducible refine gate_callee (f := 5) rfl ?_); refine goesL_ (some 24) rfl rfl Try.func5 (by kernel_rfl) rfl #[.int .u64 a0, .int .i64 a1] rfl ar_ ?_; (with_reducible refine (fconv_Whole.calls k a0 a1 t362 t363 _ A5.out).mono ?_); rintro e w26 ⟨rfl, hb⟩; refine ⟨_, rfl, ?_⟩; have n0_ := Aside0.mk (below_step (dn_ HB) hb); clear HB; have HB := n0_; clear n0_; (try clear hb); (try clear hk)) | ((with_reducible refine gate_callee (f := 6) rfl ?_); refine goesL_ (some 30) rfl rfl Try.func6 (by kernel_rfl) rfl #[.int .u64 a0, .int .i64 a1] rfl ar_ ?_; (with_reducible refine (fconv_ToInt.calls k a0 a1 t364 t365 _ A6.out).mono ?_); rintro e w27 ⟨rfl, hb⟩; refine ⟨_, rfl, ?_⟩; have n0_ := Aside0.mk (below_step (dn_ HB) hb); clear HB; have HB := n0_; clear n0_; (try clear hb); (try clear hk)) | ((with_reducible refine gate_callee (f := 7) rfl ?_); refine goesL_ (some 34) rfl rfl Try.func7 (by kernel_rfl) rfl #[.int .u64 a0] rfl ar_ ?_; (with_reducible refine (vernierref06_Class.calls k a0 t366 _ A7.out).mono ?_); rintro e w' ⟨rfl, ⟨nd, rfl⟩⟩; refine ⟨_, rfl, ?_⟩))
                go_ret
                exact ⟨er_, dn_ HB⟩
              · rw [if_neg c24] at H
                have c24b0 : (t366 == 2) = false := beq_eq_false_iff_ne.mpr c24
                have c24b1 : (t366 != 2) = true := bne_iff_ne.mpr c24
                obtain rfl := Option.some.inj H
                go_enter Try.func3, Try.ntmps3
                go_wp2_with (first | ((with_reducible refine gate_callee (f := 4) rfl ?_); refine goesL_ (some 19) rfl rfl Try.func4 (by kernel_rfl) rfl #[] rfl ar_ ?_; (with_reducible refine (vernierlaw13_alive.calls k  true _ A3.out).mono ?_); rintro e w28 ⟨rfl, hb⟩; refine ⟨_, rfl, ?_⟩; have n0_ := Aside0.mk (below_step (dn_ HB) hb); clear HB; have HB := n0_; clear n0_; (try clear hb); (try clear hk)) | ((with_reducible refine gate_callee (f := 5) rfl ?_); refine goesL_ (some 24) rfl rfl Try.func5 (by kernel_rfl) rfl #[.int .u64 a0, .int .i64 a1] rfl ar_ ?_; (with_reducible refine (fconv_Whole.calls k a0 a1 t362 t363 _ A5.out).mono ?_); rintro e w29 ⟨rfl, hb⟩; refine ⟨_, rfl, ?_⟩; have n0_ := Aside0.mk (below_step (dn_ HB) hb); clear HB; have HB := n0_; clear n0_; (try clear hb); (try clear hk)) | ((with_reducible refine gate_callee (f := 6) rfl ?_); refine goesL_ (some 30) rfl rfl Try.func6 (by kernel_rfl) rfl #[.int .u64 a0, .int .i64 a1] rfl ar_ ?_; (with_reducible refine (fconv_ToInt.calls k a0 a1 t364 t365 _ A6.out).mono ?_); rintro e w30 ⟨rfl, hb⟩; refine ⟨_, rfl, ?_⟩; have n0_ := Aside0.mk (below_step (dn_ HB) hb); clear HB; have HB := n0_; clear n0_; (try clear hb); (try clear hk)) | ((with_reducible refine gate_callee (f := 7) rfl ?_); refine goesL_ (some 34) rfl rfl Try.func7 (by kernel_rfl) rfl #[.int .u64 a0] rfl ar_ ?_; (with_reducible refine (vernierref06_Class.calls k a0 t366 _ A7.out).mono ?_); rintro e w' ⟨rfl, ⟨nd, rfl⟩⟩; refine ⟨_, rfl, ?_⟩))
                go_ret
                exact ⟨er_, dn_ HB⟩
          · rw [if_neg c11] at H
            have c11b0 : (t363 == 0) = false := beq_eq_false_iff_ne.mpr c11
            have c11b1 : (t363 != 0) = true := bne_iff_ne.mpr c11
            obtain rfl := Option.some.inj H
            go_enter Try.func3, Try.ntmps3
            go_wp2_with (first | ((with_reducible refine gate_callee (f := 4) rfl ?_); refine goesL_ (some 19) rfl rfl Try.func4 (by kernel_rfl) rfl #[] rfl ar_ ?_; (with_reducible refine (vernierlaw13_alive.calls k  true _ A3.out).mono ?_); rintro e w31 ⟨rfl, hb⟩; refine ⟨_, rfl, ?_⟩; have n0_ := Aside0.mk (below_step (dn_ HB) hb); clear HB; have HB := n0_; clear n0_; (try clear hb); (try clear hk)) | ((with_reducible refine gate_callee (f := 5) rfl ?_); refine goesL_ (some 24) rfl rfl Try.func5 (by kernel_rfl) rfl #[.int .u64 a0, .int .i64 a1] rfl ar_ ?_; (with_reducible refine (fconv_Whole.calls k a0 a1 t362 t363 _ A5.out).mono ?_); rintro e w32 ⟨rfl, hb⟩; refine ⟨_, rfl, ?_⟩; have n0_ := Aside0.mk (below_step (dn_ HB) hb); clear HB; have HB := n0_; clear n0_; (try clear hb); (try clear hk)) | ((with_reducible refine gate_callee (f := 6) rfl ?_); refine goesL_ (some 30) rfl rfl Try.func6 (by kernel_rfl) rfl #[.int .u64 a0, .int .i64 a1] rfl ar_ ?_; (with_reducible refine (fconv_ToInt.calls k a0 a1 t364 t365 _ A6.out).mono ?_); rintro e w33 ⟨rfl, hb⟩; refine ⟨_, rfl, ?_⟩; have n0_ := Aside0.mk (below_step (dn_ HB) hb); clear HB; have HB := n0_; clear n0_; (try clear hb); (try clear hk)) | ((with_reducible refine gate_callee (f := 7) rfl ?_); refine goesL_ (some 34) rfl rfl Try.func7 (by kernel_rfl) rfl #[.int .u64 a0] rfl ar_ ?_; (with_reducible refine (vernierref06_Class.calls k a0 t366 _ A7.out).mono ?_); rintro e w' ⟨rfl, ⟨nd, rfl⟩⟩; refine ⟨_, rfl, ?_⟩))
            go_ret
            exact ⟨er_, dn_ HB⟩
        · rw [if_neg c10] at H
          have c10b0 : (t365 == 1) = false := beq_eq_false_iff_ne.mpr c10
          have c10b1 : (t365 != 1) = true := bne_iff_ne.mpr c10
          obtain rfl := Option.some.inj H
          go_enter Try.func3, Try.ntmps3
          go_wp2_with (first | ((with_reducible refine gate_callee (f := 4) rfl ?_); refine goesL_ (some 19) rfl rfl Try.func4 (by kernel_rfl) rfl #[] rfl ar_ ?_; (with_reducible refine (vernierlaw13_alive.calls k  true _ A3.out).mono ?_); rintro e w34 ⟨rfl, hb⟩; refine ⟨_, rfl, ?_⟩; have n0_ := Aside0.mk (below_step (dn_ HB) hb); clear HB; have HB := n0_; clear n0_; (try clear hb); (try clear hk)) | ((with_reducible refine gate_callee (f := 5) rfl ?_); refine goesL_ (some 24) rfl rfl Try.func5 (by kernel_rfl) rfl #[.int .u64 a0, .int .i64 a1] rfl ar_ ?_; (with_reducible refine (fconv_Whole.calls k a0 a1 t362 t363 _ A5.out).mono ?_); rintro e w35 ⟨rfl, hb⟩; refine ⟨_, rfl, ?_⟩; have n0_ := Aside0.mk (below_step (dn_ HB) hb); clear HB; have HB := n0_; clear n0_; (try clear hb); (try clear hk)) | ((with_reducible refine gate_callee (f := 6) rfl ?_); refine goesL_ (some 30) rfl rfl Try.func6 (by kernel_rfl) rfl #[.int .u64 a0, .int .i64 a1] rfl ar_ ?_; (with_reducible refine (fconv_ToInt.calls k a0 a1 t364 t365 _ A6.out).mono ?_); rintro e w36 ⟨rfl, hb⟩; refine ⟨_, rfl, ?_⟩; have n0_ := Aside0.mk (below_step (dn_ HB) hb); clear HB; have HB := n0_; clear n0_; (try clear hb); (try clear hk)) | ((with_reducible refine gate_callee (f := 7) rfl ?_); refine goesL_ (some 34) rfl rfl Try.func7 (by kernel_rfl) rfl #[.int .u64 a0] rfl ar_ ?_; (with_reducible refine (vernierref06_Class.calls k a0 t366 _ A7.out).mono ?_); rintro e w' ⟨rfl, ⟨nd, rfl⟩⟩; refine ⟨_, rfl, ?_⟩))
          go_ret
          exact ⟨er_, dn_ HB⟩
      · rw [if_neg c9] at H
        have c9b0 : (t364 == 0) = false := beq_eq_false_iff_ne.mpr c9
        have c9b1 : (t364 != 0) = true := bne_iff_ne.mpr c9
        obtain rfl := Option.some.inj H
        go_enter Try.func3, Try.ntmps3
        go_wp2_with (first | ((with_reducible refine gate_callee (f := 4) rfl ?_); refine goesL_ (some 19) rfl rfl Try.func4 (by kernel_rfl) rfl #[] rfl ar_ ?_; (with_reducible refine (vernierlaw13_alive.calls k  true _ A3.out).mono ?_); rintro e w37 ⟨rfl, hb⟩; refine ⟨_, rfl, ?_⟩; have n0_ := Aside0.mk (below_step (dn_ HB) hb); clear HB; have HB := n0_; clear n0_; (try clear hb); (try clear hk)) | ((with_reducible refine gate_callee (f := 5) rfl ?_); refine goesL_ (some 24) rfl rfl Try.func5 (by kernel_rfl) rfl #[.int .u64 a0, .int .i64 a1] rfl ar_ ?_; (with_reducible refine (fconv_Whole.calls k a0 a1 t362 t363 _ A5.out).mono ?_); rintro e w38 ⟨rfl, hb⟩; refine ⟨_, rfl, ?_⟩; have n0_ := Aside0.mk (below_step (dn_ HB) hb); clear HB; have HB := n0_; clear n0_; (try clear hb); (try clear hk)) | ((with_reducible refine gate_callee (f := 6) rfl ?_); refine goesL_ (some 30) rfl rfl Try.func6 (by kernel_rfl) rfl #[.int .u64 a0, .int .i64 a1] rfl ar_ ?_; (with_reducible refine (fconv_ToInt.calls k a0 a1 t364 t365 _ A6.out).mono ?_); rintro e w39 ⟨rfl, hb⟩; refine ⟨_, rfl, ?_⟩; have n0_ := Aside0.mk (below_step (dn_ HB) hb); clear HB; have HB := n0_; clear n0_; (try clear hb); (try clear hk)) | ((with_reducible refine gate_callee (f := 7) rfl ?_); refine goesL_ (some 34) rfl rfl Try.func7 (by kernel_rfl) rfl #[.int .u64 a0] rfl ar_ ?_; (with_reducible refine (vernierref06_Class.calls k a0 t366 _ A7.out).mono ?_); rintro e w' ⟨rfl, ⟨nd, rfl⟩⟩; refine ⟨_, rfl, ?_⟩))
        go_ret
        exact ⟨er_, dn_ HB⟩
    · rw [if_neg c8] at H
      have c8b0 : decide (1 < t366) = false := decide_eq_false c8
      clear c8
      replace H := Option.bind_eq_some_iff.mp H
      obtain ⟨⟨t367, t368⟩, A400, H⟩ := H
      replace H : (if t368 = true then (vernierlaw13_FconvWhole.j0 k a0 t362 t363 t364 t365 t367 16) else (vernierlaw13_FconvWhole.j0 k a0 t362 t363 t364 t365 t367 0)) = some r := H
      have A40 := Aside0.mk A400
      clear A400
      have HC41 := Aside0.mk H
      clear H
      go_enter Try.func3, Try.ntmps3
      go_upto_if 70 with (first | ((with_reducible refine gate_callee (f := 4) rfl ?_); refine goesL_ (some 19) rfl rfl Try.func4 (by kernel_rfl) rfl #[] rfl ar_ ?_; (with_reducible refine (vernierlaw13_alive.calls k  true _ A3.out).mono ?_); rintro e w42 ⟨rfl, hb⟩; refine ⟨_, rfl, ?_⟩; have n0_ := Aside0.mk (below_step (dn_ HB) hb); clear HB; have HB := n0_; clear n0_; (try clear hb); (try clear hk)) | ((with_reducible refine gate_callee (f := 5) rfl ?_); refine goesL_ (some 24) rfl rfl Try.func5 (by kernel_rfl) rfl #[.int .u64 a0, .int .i64 a1] rfl ar_ ?_; (with_reducible refine (fconv_Whole.calls k a0 a1 t362 t363 _ A5.out).mono ?_); rintro e w43 ⟨rfl, hb⟩; refine ⟨_, rfl, ?_⟩; have n0_ := Aside0.mk (below_step (dn_ HB) hb); clear HB; have HB := n0_; clear n0_; (try clear hb); (try clear hk)) | ((with_reducible refine gate_callee (f := 6) rfl ?_); refine goesL_ (some 30) rfl rfl Try.func6 (by kernel_rfl) rfl #[.int .u64 a0, .int .i64 a1] rfl ar_ ?_; (with_reducible refine (fconv_ToInt.calls k a0 a1 t364 t365 _ A6.out).mono ?_); rintro e w44 ⟨rfl, hb⟩; refine ⟨_, rfl, ?_⟩; have n0_ := Aside0.mk (below_step (dn_ HB) hb); clear HB; have HB := n0_; clear n0_; (try clear hb); (try clear hk)) | ((with_reducible refine gate_callee (f := 7) rfl ?_); refine goesL_ (some 34) rfl rfl Try.func7 (by kernel_rfl) rfl #[.int .u64 a0] rfl ar_ ?_; (with_reducible refine (vernierref06_Class.calls k a0 t366 _ A7.out).mono ?_); rintro e w' ⟨rfl, ⟨nd, rfl⟩⟩; refine ⟨_, rfl, ?_⟩) | ((with_reducible refine gate_callee (f := 8) rfl ?_); refine goesL_ (some 67) rfl rfl Try.func8 (by kernel_rfl) rfl #[.int .u64 a0, .int .i64 a1] rfl ar_ ?_; (with_reducible refine (vernierlaw13_whole.calls k a0 a1 t367 t368 _ A40.out).mono ?_); rintro e w45 ⟨v369, rfl, ho0, hb⟩; refine ⟨_, rfl, ?_⟩; have n0_ := Aside0.mk (Kd.R_lower ho0 (below_size (dn_ HB))); have n1_ := Aside0.mk (below_step (dn_ HB) hb); clear HB; have HO370 := n0_; have HB := n1_; clear n0_ n1_; (try clear hb); (try clear hk); (try clear ho0)))
      (try simp only [Act.put, List.setIfInBounds_toArray, List.set_cons_zero, List.set_cons_succ])
      go_cut [12] (fun v12 wc => ∃ (kq : Nat) (x12_40 : Int), v12 = .int .i64 x12_40 ∧ Aside0 (vernierlaw13_FconvWhole.j0 kq a0 t362 t363 t364 t365 t367 x12_40 = some r) ∧ Aside0 (kq ≤ k) ∧ Aside0 (Kd.R (Kd.int .i64) 3 wc w.heap.size (fun _ => True) v369 t367) ∧ Aside0 (Below w.heap.size w wc))
      case first =>
        have H := HC41.out
        clear HC41
        by_cases c46 : t368 = true
        · subst c46
          have H1 : (vernierlaw13_FconvWhole.j0 k a0 t362 t363 t364 t365 t367 16) = some r := by rw [if_pos rfl] at H; exact H
          clear H
          have H := H1
          clear H1
          have H' := Aside0.mk H
          clear H
          go_wp2
          go_meet
          case rel => exact ⟨_, (16), (by first | rfl | (simp; done) | (simp [*]; done)), H', ⟨by first | omega | exact Nat.le_refl _⟩, ⟨by (with_reducible repeat (first | apply Kd.R_alloc | apply Kd.R_drewN | apply Kd.R_drew)); exact HO370.out⟩, ⟨dn_ HB⟩⟩
        · replace c46 := Bool.eq_false_iff.mpr c46
          subst c46
          have H1 : (vernierlaw13_FconvWhole.j0 k a0 t362 t363 t364 t365 t367 0) = some r := by rw [if_neg (show ¬ (false = true) by decide)] at H; exact H
          clear H
          have H := H1
          clear H1
          have H' := Aside0.mk H
          clear H
          go_wp2
          go_meet
          case rel => exact ⟨_, (0), (by first | rfl | (simp; done) | (simp [*]; done)), H', ⟨by first | omega | exact Nat.le_refl _⟩, ⟨by (with_reducible repeat (first | apply Kd.R_alloc | apply Kd.R_drewN | apply Kd.R_drew)); exact HO370.out⟩, ⟨dn_ HB⟩⟩
      case rest =>
        clear HC41
        try clear c1
        try clear c2
        try clear p2
        try clear c3
        try clear c4
        try clear c5
        try clear c6
        try clear c7
        try clear c8
        try clear c8b0
        try clear c9
        try clear c9b0
        try clear c9b1
        try clear c10
        try clear c10b0
        try clear c10b1
        try clear c11
        try clear c11b0
        try clear c11b1
        try clear c12
        try clear c12b0
        try clear c12b1
        try clear c13
        try clear c13b0
        try clear c13b1
        try clear c17
        try clear c17b0
        try clear c17b1
        try clear c24
        try clear c24b0
        try clear c24b1
        try clear c46
        obtain ⟨kq, x12_40, rfl, HA, HJ40, HO_10, HB⟩ := hcut
        cases kq with
        | zero => exact absurd HA.out (by simp [vernierlaw13_FconvWhole.j0])
        | succ kj40 =>
          have H := HA.out
          clear HA
          simp only [vernierlaw13_FconvWhole.j0] at H
          replace H := Option.bind_eq_some_iff.mp H
          obtain ⟨⟨t371, t372, t373⟩, A470, H⟩ := H
          replace H : (if t363 = x12_40 then (if (!(t371 == (decide (a0 ≥ 9223372036854775808)))) = true then (vernierlaw13_FconvWhole.j1 kj40 t364 t365 t367 x12_40 t371 true) else ((vernierref01_Word.f kj40 t372).bind fun t374 => ((vernierref01_Shl.f kj40 t374 (wrap64 (t373 - (mn t373 0)))).bind fun t377 => ((vernierref01_Shl.f kj40 t367 (wrap64 (-(mn t373 0)))).bind fun t380 => ((vernierref01_Cmp.f kj40 t377 t380).bind fun t383 => (vernierlaw13_FconvWhole.j1 kj40 t364 t365 t367 x12_40 t371 (t383 != 0))))))) else (vernierlaw13_FconvWhole.j1 kj40 t364 t365 t367 x12_40 t371 true)) = some r := H
          have A47 := Aside0.mk A470
          clear A470
          obtain ⟨ji48, hji48⟩ : ∃ j_ : Int, (mn t373 0) = j_ := ⟨_, rfl⟩
          replace H : (if t363 = x12_40 then (if (!(t371 == (decide (a0 ≥ 9223372036854775808)))) = true then (vernierlaw13_FconvWhole.j1 kj40 t364 t365 t367 x12_40 t371 true) else ((vernierref01_Word.f kj40 t372).bind fun t374 => ((vernierref01_Shl.f kj40 t374 (wrap64 (t373 - (ji48)))).bind fun t377 => ((vernierref01_Shl.f kj40 t367 (wrap64 (-(ji48)))).bind fun t380 => ((vernierref01_Cmp.f kj40 t377 t380).bind fun t383 => (vernierlaw13_FconvWhole.j1 kj40 t364 t365 t367 x12_40 t371 (t383 != 0))))))) else (vernierlaw13_FconvWhole.j1 kj40 t364 t365 t367 x12_40 t371 true)) = some r := by first | (rw [hji48] at H; exact H) | (simp only [hji48] at H ⊢; exact H)
          (try rw [hji48] at A47)
          (try (have hji48h : ji48 ≤ 0 := by (rw [← hji48]; unfold mn; (repeat' split) <;> omega)))
          (try (have hji48g : ji48 ≤ 64 := by omega))
          have hji48_ : (if 0 < t373 then 0 else t373) = ji48 := hji48
          (try (have hji48n := hji48_; simp only [Int.ofNat_lt] at hji48n))
          have HC49 := Aside0.mk H
          clear H
          go_upto_region 14 with (first | ((with_reducible refine gate_callee (f := 9) rfl ?_); refine goesL_ (some 73) rfl rfl Try.func9 (by kernel_rfl) rfl #[.int .u64 t362] rfl ar_ ?_; (with_reducible refine (vernierref06_Split.calls t362 t371 t372 t373 _ A47.out).mono ?_); rintro e w' ⟨rfl, ⟨nd, rfl⟩⟩; refine ⟨_, rfl, ?_⟩))
          (try simp only [Act.put, List.setIfInBounds_toArray, List.set_cons_zero, List.set_cons_succ])
          go_cut [101] (fun v101 wc => ∃ (kq : Nat) (x101_48 : Bool), v101 = .bool x101_48 ∧ Aside0 (vernierlaw13_FconvWhole.j1 kq t364 t365 t367 x12_40 t371 x101_48 = some r) ∧ Aside0 (kq ≤ kj40) ∧ Aside0 (Kd.R (Kd.int .i64) 3 wc w.heap.size (fun _ => True) v369 t367) ∧ Aside0 (Below w.heap.size w wc))
          case first =>
            have H := HC49.out
            clear HC49
            by_cases c50 : t363 = x12_40
            · rw [if_pos c50] at H
              have c50b0 : (t363 == x12_40) = true := beq_iff_eq.mpr c50
              have c50b1 : (t363 != x12_40) = false := bne_eq_false_iff_eq.mpr c50
              clear c50
              (first | rw [c50b0] | (simp only [i64_w, i32_w]; rw [c50b0]) | skip)
              by_cases c51 : (!(t371 == (decide (a0 ≥ 9223372036854775808)))) = true
              · rw [if_pos c51] at H
                have c51b0 : (!(t371 == (decide (a0 ≥ 9223372036854775808)))) = true := c51
                clear c51
                have H' := Aside0.mk H
                clear H
                go_wp2
                go_meet
                case rel => exact ⟨_, (true), (by first | rfl | (simp; done) | (simp [*]; done)), H', ⟨by have := HJ40.out; first | omega | exact Nat.le_refl _⟩, ⟨by (with_reducible repeat (first | apply Kd.R_alloc | apply Kd.R_drewN | apply Kd.R_drew)); exact HO_10.out⟩, ⟨dn_ HB⟩⟩
              · rw [if_neg c51] at H
                have c51b0 : (!(t371 == (decide (a0 ≥ 9223372036854775808)))) = false := by simpa using c51
                clear c51
                replace H := Option.bind_eq_some_iff.mp H
                obtain ⟨t374, A520, H⟩ := H
                replace H : ((vernierref01_Shl.f kj40 t374 (wrap64 (t373 - (ji48)))).bind fun t377 => ((vernierref01_Shl.f kj40 t367 (wrap64 (-(ji48)))).bind fun t380 => ((vernierref01_Cmp.f kj40 t377 t380).bind fun t383 => (vernierlaw13_FconvWhole.j1 kj40 t364 t365 t367 x12_40 t371 (t383 != 0))))) = some r := H
                have A52 := Aside0.mk A520
                clear A520
                replace H := Option.bind_eq_some_iff.mp H
                obtain ⟨t377, A530, H⟩ := H
                replace H : ((vernierref01_Shl.f kj40 t367 (wrap64 (-(ji48)))).bind fun t380 => ((vernierref01_Cmp.f kj40 t377 t380).bind fun t383 => (vernierlaw13_FconvWhole.j1 kj40 t364 t365 t367 x12_40 t371 (t383 != 0)))) = some r := H
                have A53 := Aside0.mk A530
                clear A530
                replace H := Option.bind_eq_some_iff.mp H
                obtain ⟨t380, A540, H⟩ := H
                replace H : ((vernierref01_Cmp.f kj40 t377 t380).bind fun t383 => (vernierlaw13_FconvWhole.j1 kj40 t364 t365 t367 x12_40 t371 (t383 != 0))) = some r := H
                have A54 := Aside0.mk A540
                clear A540
                replace H := Option.bind_eq_some_iff.mp H
                obtain ⟨t383, A550, H⟩ := H
                replace H : (vernierlaw13_FconvWhole.j1 kj40 t364 t365 t367 x12_40 t371 (t383 != 0)) = some r := H
                have A55 := Aside0.mk A550
                clear A550
                have H' := Aside0.mk H
                clear H
                go_wp2_with (first | (go_at_call 12; (with_reducible refine (vernierref01_Word.calls kj40 t372 t374 _ A52.out).mono ?_); rintro e w56 ⟨v375, rfl, ho0, hb⟩; have n0_ := Aside0.mk (Kd.R_elder' (up_ HO_10) (Kd.R_base ho0) hb); have n1_ := Aside0.mk (Kd.R_lower (Kd.R_new' ho0 (Kd.R_lt (up_ HO_10))) (below_size (dn_ HB))); have n2_ := Aside0.mk (below_step (dn_ HB) hb); clear HO_10; clear HB; have HO_10 := n0_; have HO376 := n1_; have HB := n2_; clear n0_ n1_ n2_; (try clear hb); (try clear hk); (try clear ho0); obtain ⟨Ao57, co57, eo57⟩ := Kd.R_slice HO376.out; subst eo57) | (go_at_call 11; (with_reducible refine (vernierref01_Shl.calls kj40 _ _ t374 (wrap64 (t373 - (ji48))) t377 _ ?side1 ?side2 A53.out).mono ?_); (case side1 => exact cs_ (Kd.R_reads' HO376.out).2.2); (case side2 => exact (Kd.R_reads' HO376.out).2.1); rintro e w58 ⟨v378, rfl, ho0, hb⟩; have n0_ := Aside0.mk (Kd.R_elder' (up_ HO_10) (Kd.R_base ho0) hb); have n1_ := Aside0.mk (Kd.R_elder' (up_ HO376) (Kd.R_base ho0) hb); have n2_ := Aside0.mk (Kd.R_lower (Kd.R_new' (Kd.R_new' ho0 (Kd.R_lt (up_ HO_10))) (Kd.R_lt (up_ HO376))) (below_size (dn_ HB))); have n3_ := Aside0.mk (below_step (dn_ HB) hb); clear HO_10; clear HO376; clear HB; have HO_10 := n0_; have HO376 := n1_; have HO379 := n2_; have HB := n3_; clear n0_ n1_ n2_ n3_; (try clear hb); (try clear hk); (try clear ho0); obtain ⟨Ao59, co59, eo59⟩ := Kd.R_slice HO_10.out; subst eo59) | (go_at_call 11; (with_reducible refine (vernierref01_Shl.calls kj40 _ _ t367 (wrap64 (-(ji48))) t380 _ ?side1 ?side2 A54.out).mono ?_); (case side1 => exact cs_ (Kd.R_reads' HO_10.out).2.2); (case side2 => exact (Kd.R_reads' HO_10.out).2.1); rintro e w60 ⟨v381, rfl, ho0, hb⟩; have n0_ := Aside0.mk (Kd.R_elder' (up_ HO_10) (Kd.R_base ho0) hb); have n1_ := Aside0.mk (Kd.R_elder' (up_ HO376) (Kd.R_base ho0) hb); have n2_ := Aside0.mk (Kd.R_elder' (up_ HO379) (Kd.R_base ho0) hb); have n3_ := Aside0.mk (Kd.R_lower (Kd.R_new' (Kd.R_new' (Kd.R_new' ho0 (Kd.R_lt (up_ HO_10))) (Kd.R_lt (up_ HO376))) (Kd.R_lt (up_ HO379))) (below_size (dn_ HB))); have n4_ := Aside0.mk (below_step (dn_ HB) hb); clear HO_10; clear HO376; clear HO379; clear HB; have HO_10 := n0_; have HO376 := n1_; have HO379 := n2_; have HO382 := n3_; have HB := n4_; clear n0_ n1_ n2_ n3_ n4_; (try clear hb); (try clear hk); (try clear ho0); obtain ⟨Ao61, co61, eo61⟩ := Kd.R_slice HO379.out; subst eo61; obtain ⟨Ao62, co62, eo62⟩ := Kd.R_slice HO382.out; subst eo62) | (go_at_call 10; (with_reducible refine (vernierref01_Cmp.calls kj40 _ _ t377 _ _ t380 t383 _ ?side1 ?side2 ?side3 ?side4 A55.out).mono ?_); (case side1 => exact cs_ (Kd.R_reads' HO379.out).2.2); (case side2 => exact (Kd.R_reads' HO379.out).2.1); (case side3 => exact cs_ (Kd.R_reads' HO382.out).2.2); (case side4 => exact (Kd.R_reads' HO382.out).2.1); rintro e w' ⟨rfl, ⟨nd, rfl⟩⟩))
                go_meet
                case rel => exact ⟨_, ((t383 != 0)), (by first | rfl | (simp; done) | (simp [*]; done)), H', ⟨by have := HJ40.out; first | omega | exact Nat.le_refl _⟩, ⟨by (with_reducible repeat (first | apply Kd.R_alloc | apply Kd.R_drewN | apply Kd.R_drew)); exact Kd.R_mono HO_10.out (fun _ hk => trivial)⟩, ⟨dn_ HB⟩⟩
            · rw [if_neg c50] at H
              have c50b0 : (t363 == x12_40) = false := beq_eq_false_iff_ne.mpr c50
              have c50b1 : (t363 != x12_40) = true := bne_iff_ne.mpr c50
              (first | rw [c50b0] | (simp only [i64_w, i32_w]; rw [c50b0]) | skip)
              have H' := Aside0.mk H
              clear H
              go_wp2
              go_meet
              case rel => exact ⟨_, (true), (by first | rfl | (simp; done) | (simp [*]; done)), H', ⟨by have := HJ40.out; first | omega | exact Nat.le_refl _⟩, ⟨by (with_reducible repeat (first | apply Kd.R_alloc | apply Kd.R_drewN | apply Kd.R_drew)); exact HO_10.out⟩, ⟨dn_ HB⟩⟩
          case rest =>
            clear HC49
            try clear c1
            try clear c2
            try clear p2
            try clear c3
            try clear c4
            try clear c5
            try clear c6
            try clear p6
            try clear c7
            try clear c8
            try clear c8b0
            try clear c9
            try clear c9b0
            try clear c9b1
            try clear c10
            try clear c10b0
            try clear c10b1
            try clear c11
            try clear c11b0
            try clear c11b1
            try clear c12
            try clear c12b0
            try clear c12b1
            try clear c13
            try clear c13b0
            try clear c13b1
            try clear c17
            try clear c17b0
            try clear c17b1
            try clear c24
            try clear c24b0
            try clear c24b1
            try clear c46
            try clear c50
            try clear c50b0
            try clear c50b1
            try clear c51
            try clear c51b0
            try clear p2
            obtain ⟨kq, x101_48, rfl, HA, HJ48, HO_10, HB⟩ := hcut
            cases kq with
            | zero => exact absurd HA.out (by simp [vernierlaw13_FconvWhole.j1])
            | succ kj48 =>
              have H := HA.out
              clear HA
              simp only [vernierlaw13_FconvWhole.j1] at H
              by_cases c63 : x101_48 = true
              · subst c63
                have H1 : (some false) = some r := by rw [if_pos rfl] at H; exact H
                clear H
                have H := H1
                clear H1
                obtain rfl := Option.some.inj H
                go_wp2
                go_ret
                exact ⟨by first | rfl | (simp [errW_none, errW_some] <;> rfl) | (simp only [← hji48]; first | rfl | (simp [errW_none, errW_some] <;> rfl)) | (simp [*, errW_none, errW_some] <;> rfl), dn_ HB⟩
              · replace c63 := Bool.eq_false_iff.mpr c63
                subst c63
                have H1 : ((vernierref01_Shl.f kj48 (([1] : List Int)) 62).bind fun t387 => ((vernierref01_Cmp.f kj48 t367 t387).bind fun t390 => (if t390 > 0 then (if t364 = 0 then (some (t365 == 1)) else (some false)) else ((vernierref01_Limbs.f kj48 t367).bind fun t391 => (if (t391.length : Int) > 0 then (if 0 < (t391.length : Int) then (if t371 = true then (if t364 = (wrap64 (-(wrap64 (rd t391 0)))) then (some (t365 == x12_40)) else (some false)) else (if t364 = (wrap64 (rd t391 0)) then (some (t365 == x12_40)) else (some false))) else (none)) else (if t371 = true then (if t364 = (-0) then (some (t365 == x12_40)) else (some false)) else (if t364 = 0 then (some (t365 == x12_40)) else (some false)))))))) = some r := by rw [if_neg (show ¬ (false = true) by decide)] at H; exact H
                clear H
                have H := H1
                clear H1
                obtain ⟨y384, hy384⟩ : ∃ y_ : List Int, y_ = (([1] : List Int)) := ⟨_, rfl⟩
                replace H : ((vernierref01_Shl.f kj48 y384 62).bind fun t387 => ((vernierref01_Cmp.f kj48 t367 t387).bind fun t390 => (if t390 > 0 then (if t364 = 0 then (some (t365 == 1)) else (some false)) else ((vernierref01_Limbs.f kj48 t367).bind fun t391 => (if (t391.length : Int) > 0 then (if 0 < (t391.length : Int) then (if t371 = true then (if t364 = (wrap64 (-(wrap64 (rd t391 0)))) then (some (t365 == x12_40)) else (some false)) else (if t364 = (wrap64 (rd t391 0)) then (some (t365 == x12_40)) else (some false))) else (none)) else (if t371 = true then (if t364 = (-0) then (some (t365 == x12_40)) else (some false)) else (if t364 = 0 then (some (t365 == x12_40)) else (some false)))))))) = some r := by first | (rw [hy384]; with_reducible exact H) | (have H2_ := (Option.bind_some _ _).symm.trans H; rw [hy384]; with_reducible exact H2_) | (have H2_ := (Option.bind_some _ _).symm.trans H; with_reducible exact H2_) | with_reducible exact H | (rw [hy384]; exact H) | exact H
                have Ny384 := Aside0.mk hy384
                clear hy384
                replace H := Option.bind_eq_some_iff.mp H
                obtain ⟨t387, A640, H⟩ := H
                replace H : ((vernierref01_Cmp.f kj48 t367 t387).bind fun t390 => (if t390 > 0 then (if t364 = 0 then (some (t365 == 1)) else (some false)) else ((vernierref01_Limbs.f kj48 t367).bind fun t391 => (if (t391.length : Int) > 0 then (if 0 < (t391.length : Int) then (if t371 = true then (if t364 = (wrap64 (-(wrap64 (rd t391 0)))) then (some (t365 == x12_40)) else (some false)) else (if t364 = (wrap64 (rd t391 0)) then (some (t365 == x12_40)) else (some false))) else (none)) else (if t371 = true then (if t364 = (-0) then (some (t365 == x12_40)) else (some false)) else (if t364 = 0 then (some (t365 == x12_40)) else (some false))))))) = some r := H
                have A64 := Aside0.mk A640
                clear A640
                replace H := Option.bind_eq_some_iff.mp H
                obtain ⟨t390, A650, H⟩ := H
                replace H : (if t390 > 0 then (if t364 = 0 then (some (t365 == 1)) else (some false)) else ((vernierref01_Limbs.f kj48 t367).bind fun t391 => (if (t391.length : Int) > 0 then (if 0 < (t391.length : Int) then (if t371 = true then (if t364 = (wrap64 (-(wrap64 (rd t391 0)))) then (some (t365 == x12_40)) else (some false)) else (if t364 = (wrap64 (rd t391 0)) then (some (t365 == x12_40)) else (some false))) else (none)) else (if t371 = true then (if t364 = (-0) then (some (t365 == x12_40)) else (some false)) else (if t364 = 0 then (some (t365 == x12_40)) else (some false)))))) = some r := H
                have A65 := Aside0.mk A650
                clear A650
                by_cases c66 : t390 > 0
                · rw [if_pos c66] at H
                  have c66b0 : decide (0 < t390) = true := decide_eq_true c66
                  clear c66
                  by_cases c67 : t364 = 0
                  · rw [if_pos c67] at H
                    have c67b0 : (t364 == 0) = true := beq_iff_eq.mpr c67
                    have c67b1 : (t364 != 0) = false := bne_eq_false_iff_eq.mpr c67
                    clear c67
                    obtain rfl := Option.some.inj H
                    go_wp2_with (first | ((with_reducible refine gate_dst (N := 103) rfl ?_); refine Kd.R_lit (Kd.int .i64) _ 3 ?hg (N := 103) ?hd (xs := ([1] : List Int)) (inner := [.int .i64 1]) (ok := fun _ => True) (okp := fun _ => True) ?hr ?hp (fun _ hk => hk) trivial (Below.refl _ _) (Nat.le_refl _) (by simp) ?_; (case hd => rfl); (case hg => rfl); (case hr => first | (go_simp; done) | (go_simp; rfl)); (case hp => exact (Reps.one (show Kd.M (Kd.int .i64) _ _ _ 1 [.int .i64 1] from rfl) (Reps.none _ _))); intro v385 w68 ho69 hb hg_ hnew_; clear hg_ hnew_; (first | rw [← Ny384.out] at ho69 | (simp only [Int.reduceToNat] at ho69; rw [← Ny384.out] at ho69)); have n0_ := Aside0.mk (Kd.R_elder' (up_ HO_10) (Kd.R_base ho69) hb); have n1_ := Aside0.mk (Kd.R_lower (Kd.R_new' ho69 (Kd.R_lt (up_ HO_10))) (below_size (dn_ HB))); have n2_ := Aside0.mk (below_step (dn_ HB) hb); clear HO_10; clear HB; have HO_10 := n0_; have HO386 := n1_; have HB := n2_; clear n0_ n1_ n2_; clear hb ho69; obtain ⟨Ao70, co70, eo70⟩ := Kd.R_slice HO386.out; subst eo70) | ((with_reducible refine gate_callee (f := 11) rfl ?_); refine goesL_ (some 104) rfl rfl Try.func11 (by kernel_rfl) rfl #[.slice Ao70 y384.length co70, .int .i64 62] rfl ar_ ?_; (with_reducible refine (vernierref01_Shl.calls kj48 _ _ y384 62 t387 _ ?side1 ?side2 A64.out).mono ?_); (case side1 => exact cs_ (Kd.R_reads' HO386.out).2.2); (case side2 => exact (Kd.R_reads' HO386.out).2.1); rintro e w71 ⟨v388, rfl, ho0, hb⟩; refine ⟨_, rfl, ?_⟩; have n0_ := Aside0.mk (Kd.R_elder' (up_ HO_10) (Kd.R_base ho0) hb); have n1_ := Aside0.mk (Kd.R_elder' (up_ HO386) (Kd.R_base ho0) hb); have n2_ := Aside0.mk (Kd.R_lower (Kd.R_new' (Kd.R_new' ho0 (Kd.R_lt (up_ HO_10))) (Kd.R_lt (up_ HO386))) (below_size (dn_ HB))); have n3_ := Aside0.mk (below_step (dn_ HB) hb); clear HO_10; clear HO386; clear HB; have HO_10 := n0_; have HO386 := n1_; have HO389 := n2_; have HB := n3_; clear n0_ n1_ n2_ n3_; (try clear hb); (try clear hk); (try clear ho0); obtain ⟨Ao72, co72, eo72⟩ := Kd.R_slice HO_10.out; subst eo72; obtain ⟨Ao73, co73, eo73⟩ := Kd.R_slice HO389.out; subst eo73) | ((with_reducible refine gate_callee (f := 10) rfl ?_); refine goesL_ (some 105) rfl rfl Try.func10 (by kernel_rfl) rfl #[.slice Ao72 t367.length co72, .slice Ao73 t387.length co73] rfl ar_ ?_; (with_reducible refine (vernierref01_Cmp.calls kj48 _ _ t367 _ _ t387 t390 _ ?side1 ?side2 ?side3 ?side4 A65.out).mono ?_); (case side1 => exact cs_ (Kd.R_reads' HO_10.out).2.2); (case side2 => exact (Kd.R_reads' HO_10.out).2.1); (case side3 => exact cs_ (Kd.R_reads' HO389.out).2.2); (case side4 => exact (Kd.R_reads' HO389.out).2.1); rintro e w' ⟨rfl, ⟨nd, rfl⟩⟩; refine ⟨_, rfl, ?_⟩))
                    go_ret
                    exact ⟨by first | rfl | (simp [errW_none, errW_some] <;> rfl) | (simp only [← hji48]; first | rfl | (simp [errW_none, errW_some] <;> rfl)) | (simp [*, errW_none, errW_some] <;> rfl), dn_ HB⟩
                  · rw [if_neg c67] at H
                    have c67b0 : (t364 == 0) = false := beq_eq_false_iff_ne.mpr c67
                    have c67b1 : (t364 != 0) = true := bne_iff_ne.mpr c67
                    obtain rfl := Option.some.inj H
                    go_wp2_with (first | ((with_reducible refine gate_dst (N := 103) rfl ?_); refine Kd.R_lit (Kd.int .i64) _ 3 ?hg (N := 103) ?hd (xs := ([1] : List Int)) (inner := [.int .i64 1]) (ok := fun _ => True) (okp := fun _ => True) ?hr ?hp (fun _ hk => hk) trivial (Below.refl _ _) (Nat.le_refl _) (by simp) ?_; (case hd => rfl); (case hg => rfl); (case hr => first | (go_simp; done) | (go_simp; rfl)); (case hp => exact (Reps.one (show Kd.M (Kd.int .i64) _ _ _ 1 [.int .i64 1] from rfl) (Reps.none _ _))); intro v385 w74 ho75 hb hg_ hnew_; clear hg_ hnew_; (first | rw [← Ny384.out] at ho75 | (simp only [Int.reduceToNat] at ho75; rw [← Ny384.out] at ho75)); have n0_ := Aside0.mk (Kd.R_elder' (up_ HO_10) (Kd.R_base ho75) hb); have n1_ := Aside0.mk (Kd.R_lower (Kd.R_new' ho75 (Kd.R_lt (up_ HO_10))) (below_size (dn_ HB))); have n2_ := Aside0.mk (below_step (dn_ HB) hb); clear HO_10; clear HB; have HO_10 := n0_; have HO386 := n1_; have HB := n2_; clear n0_ n1_ n2_; clear hb ho75; obtain ⟨Ao76, co76, eo76⟩ := Kd.R_slice HO386.out; subst eo76) | ((with_reducible refine gate_callee (f := 11) rfl ?_); refine goesL_ (some 104) rfl rfl Try.func11 (by kernel_rfl) rfl #[.slice Ao76 y384.length co76, .int .i64 62] rfl ar_ ?_; (with_reducible refine (vernierref01_Shl.calls kj48 _ _ y384 62 t387 _ ?side1 ?side2 A64.out).mono ?_); (case side1 => exact cs_ (Kd.R_reads' HO386.out).2.2); (case side2 => exact (Kd.R_reads' HO386.out).2.1); rintro e w77 ⟨v388, rfl, ho0, hb⟩; refine ⟨_, rfl, ?_⟩; have n0_ := Aside0.mk (Kd.R_elder' (up_ HO_10) (Kd.R_base ho0) hb); have n1_ := Aside0.mk (Kd.R_elder' (up_ HO386) (Kd.R_base ho0) hb); have n2_ := Aside0.mk (Kd.R_lower (Kd.R_new' (Kd.R_new' ho0 (Kd.R_lt (up_ HO_10))) (Kd.R_lt (up_ HO386))) (below_size (dn_ HB))); have n3_ := Aside0.mk (below_step (dn_ HB) hb); clear HO_10; clear HO386; clear HB; have HO_10 := n0_; have HO386 := n1_; have HO389 := n2_; have HB := n3_; clear n0_ n1_ n2_ n3_; (try clear hb); (try clear hk); (try clear ho0); obtain ⟨Ao78, co78, eo78⟩ := Kd.R_slice HO_10.out; subst eo78; obtain ⟨Ao79, co79, eo79⟩ := Kd.R_slice HO389.out; subst eo79) | ((with_reducible refine gate_callee (f := 10) rfl ?_); refine goesL_ (some 105) rfl rfl Try.func10 (by kernel_rfl) rfl #[.slice Ao78 t367.length co78, .slice Ao79 t387.length co79] rfl ar_ ?_; (with_reducible refine (vernierref01_Cmp.calls kj48 _ _ t367 _ _ t387 t390 _ ?side1 ?side2 ?side3 ?side4 A65.out).mono ?_); (case side1 => exact cs_ (Kd.R_reads' HO_10.out).2.2); (case side2 => exact (Kd.R_reads' HO_10.out).2.1); (case side3 => exact cs_ (Kd.R_reads' HO389.out).2.2); (case side4 => exact (Kd.R_reads' HO389.out).2.1); rintro e w' ⟨rfl, ⟨nd, rfl⟩⟩; refine ⟨_, rfl, ?_⟩))
                    go_ret
                    exact ⟨by first | rfl | (simp [errW_none, errW_some] <;> rfl) | (simp only [← hji48]; first | rfl | (simp [errW_none, errW_some] <;> rfl)) | (simp [*, errW_none, errW_some] <;> rfl), dn_ HB⟩
                · rw [if_neg c66] at H
                  have c66b0 : decide (0 < t390) = false := decide_eq_false c66
                  clear c66
                  replace H := Option.bind_eq_some_iff.mp H
                  obtain ⟨t391, A800, H⟩ := H
                  replace H : (if (t391.length : Int) > 0 then (if 0 < (t391.length : Int) then (if t371 = true then (if t364 = (wrap64 (-(wrap64 (rd t391 0)))) then (some (t365 == x12_40)) else (some false)) else (if t364 = (wrap64 (rd t391 0)) then (some (t365 == x12_40)) else (some false))) else (none)) else (if t371 = true then (if t364 = (-0) then (some (t365 == x12_40)) else (some false)) else (if t364 = 0 then (some (t365 == x12_40)) else (some false)))) = some r := H
                  have A80 := Aside0.mk A800
                  clear A800
                  by_cases c81 : (t391.length : Int) > 0
                  · rw [if_pos c81] at H
                    have c81b0 : decide (0 < (t391.length : Int)) = true := decide_eq_true c81
                    have c81b1 : decide (0 < t391.length) = true := decide_eq_true (by omega)
                    clear c81
                    by_cases c82 : 0 < (t391.length : Int)
                    · rw [if_pos c82] at H
                      have c82b0 : decide (0 < (t391.length : Int)) = true := decide_eq_true c82
                      have c82b1 : decide (0 < t391.length) = true := decide_eq_true (by omega)
                      clear c82
                      by_cases c83 : t371 = true
                      · subst c83
                        have H1 : (if t364 = (wrap64 (-(wrap64 (rd t391 0)))) then (some (t365 == x12_40)) else (some false)) = some r := by rw [if_pos rfl] at H; exact H
                        clear H
                        have H := H1
                        clear H1
                        by_cases c84 : t364 = (wrap64 (-(wrap64 (rd t391 0))))
                        · rw [if_pos c84] at H
                          have c84b0 : (t364 == (wrap64 (-(wrap64 (rd t391 0))))) = true := beq_iff_eq.mpr c84
                          have c84b1 : (t364 != (wrap64 (-(wrap64 (rd t391 0))))) = false := bne_eq_false_iff_eq.mpr c84
                          clear c84
                          obtain rfl := Option.some.inj H
                          go_wp2_with (first | ((with_reducible refine gate_dst (N := 103) rfl ?_); refine Kd.R_lit (Kd.int .i64) _ 3 ?hg (N := 103) ?hd (xs := ([1] : List Int)) (inner := [.int .i64 1]) (ok := fun _ => True) (okp := fun _ => True) ?hr ?hp (fun _ hk => hk) trivial (Below.refl _ _) (Nat.le_refl _) (by simp) ?_; (case hd => rfl); (case hg => rfl); (case hr => first | (go_simp; done) | (go_simp; rfl)); (case hp => exact (Reps.one (show Kd.M (Kd.int .i64) _ _ _ 1 [.int .i64 1] from rfl) (Reps.none _ _))); intro v385 w85 ho86 hb hg_ hnew_; clear hg_ hnew_; (first | rw [← Ny384.out] at ho86 | (simp only [Int.reduceToNat] at ho86; rw [← Ny384.out] at ho86)); have n0_ := Aside0.mk (Kd.R_elder' (up_ HO_10) (Kd.R_base ho86) hb); have n1_ := Aside0.mk (Kd.R_lower (Kd.R_new' ho86 (Kd.R_lt (up_ HO_10))) (below_size (dn_ HB))); have n2_ := Aside0.mk (below_step (dn_ HB) hb); clear HO_10; clear HB; have HO_10 := n0_; have HO386 := n1_; have HB := n2_; clear n0_ n1_ n2_; clear hb ho86; obtain ⟨Ao87, co87, eo87⟩ := Kd.R_slice HO386.out; subst eo87) | ((with_reducible refine gate_callee (f := 11) rfl ?_); refine goesL_ (some 104) rfl rfl Try.func11 (by kernel_rfl) rfl #[.slice Ao87 y384.length co87, .int .i64 62] rfl ar_ ?_; (with_reducible refine (vernierref01_Shl.calls kj48 _ _ y384 62 t387 _ ?side1 ?side2 A64.out).mono ?_); (case side1 => exact cs_ (Kd.R_reads' HO386.out).2.2); (case side2 => exact (Kd.R_reads' HO386.out).2.1); rintro e w88 ⟨v388, rfl, ho0, hb⟩; refine ⟨_, rfl, ?_⟩; have n0_ := Aside0.mk (Kd.R_elder' (up_ HO_10) (Kd.R_base ho0) hb); have n1_ := Aside0.mk (Kd.R_elder' (up_ HO386) (Kd.R_base ho0) hb); have n2_ := Aside0.mk (Kd.R_lower (Kd.R_new' (Kd.R_new' ho0 (Kd.R_lt (up_ HO_10))) (Kd.R_lt (up_ HO386))) (below_size (dn_ HB))); have n3_ := Aside0.mk (below_step (dn_ HB) hb); clear HO_10; clear HO386; clear HB; have HO_10 := n0_; have HO386 := n1_; have HO389 := n2_; have HB := n3_; clear n0_ n1_ n2_ n3_; (try clear hb); (try clear hk); (try clear ho0); obtain ⟨Ao89, co89, eo89⟩ := Kd.R_slice HO_10.out; subst eo89; obtain ⟨Ao90, co90, eo90⟩ := Kd.R_slice HO389.out; subst eo90) | ((with_reducible refine gate_callee (f := 10) rfl ?_); refine goesL_ (some 105) rfl rfl Try.func10 (by kernel_rfl) rfl #[.slice Ao89 t367.length co89, .slice Ao90 t387.length co90] rfl ar_ ?_; (with_reducible refine (vernierref01_Cmp.calls kj48 _ _ t367 _ _ t387 t390 _ ?side1 ?side2 ?side3 ?side4 A65.out).mono ?_); (case side1 => exact cs_ (Kd.R_reads' HO_10.out).2.2); (case side2 => exact (Kd.R_reads' HO_10.out).2.1); (case side3 => exact cs_ (Kd.R_reads' HO389.out).2.2); (case side4 => exact (Kd.R_reads' HO389.out).2.1); rintro e w' ⟨rfl, ⟨nd, rfl⟩⟩; refine ⟨_, rfl, ?_⟩) | ((with_reducible refine gate_callee (f := 13) rfl ?_); refine goesL_ (some 114) rfl rfl Try.func13 (by kernel_rfl) rfl #[.slice Ao89 t367.length co89] rfl ar_ ?_; (with_reducible refine (vernierref01_Limbs.calls kj48 _ _ t367 t391 _ ?side1 ?side2 A80.out).mono ?_); (case side1 => exact cs_ (Kd.R_reads' HO_10.out).2.2); (case side2 => exact (Kd.R_reads' HO_10.out).2.1); rintro e w91 ⟨v392, rfl, ho0, hb⟩; refine ⟨_, rfl, ?_⟩; have n0_ := Aside0.mk (Kd.R_below (up_ HO_10) hb); have n1_ := Aside0.mk (Kd.R_below (up_ HO386) hb); have n2_ := Aside0.mk (Kd.R_below (up_ HO389) hb); have n3_ := Aside0.mk (Kd.R_lower ho0 (below_size (dn_ HB))); have n4_ := Aside0.mk (below_step (dn_ HB) hb); clear HO_10; clear HO386; clear HO389; clear HB; have HO_10 := n0_; have HO386 := n1_; have HO389 := n2_; have HO393 := n3_; have HB := n4_; clear n0_ n1_ n2_ n3_ n4_; (try clear hb); (try clear hk); (try clear ho0); obtain ⟨Ao92, co92, eo92⟩ := Kd.R_slice HO393.out; subst eo92; have p394 : 0 ≤ (0 : Int) := (by omega); have q394 : 0 < (t391.length : Int) := of_decide_eq_true as_; obtain ⟨ad394, e394, hx394_0⟩ := Kd.at_int (Kd.R_reads' HO393.out).2.2 0 p394 q394; cases e394; have qi394 : (0 < t391.length) = True := eq_true (by omega); (try rw [show ((0 : Int)).toNat = 0 from rfl] at hx394_0); (try rw [Addr.add_zero'] at hx394_0); replace p394 := eq_true p394; replace q394 := eq_true q394))
                          go_ret
                          exact ⟨by first | rfl | (simp [errW_none, errW_some] <;> rfl) | (simp only [← hji48]; first | rfl | (simp [errW_none, errW_some] <;> rfl)) | (simp [*, errW_none, errW_some] <;> rfl), dn_ HB⟩
                        · rw [if_neg c84] at H
                          have c84b0 : (t364 == (wrap64 (-(wrap64 (rd t391 0))))) = false := beq_eq_false_iff_ne.mpr c84
                          have c84b1 : (t364 != (wrap64 (-(wrap64 (rd t391 0))))) = true := bne_iff_ne.mpr c84
                          obtain rfl := Option.some.inj H
                          go_wp2_with (first | ((with_reducible refine gate_dst (N := 103) rfl ?_); refine Kd.R_lit (Kd.int .i64) _ 3 ?hg (N := 103) ?hd (xs := ([1] : List Int)) (inner := [.int .i64 1]) (ok := fun _ => True) (okp := fun _ => True) ?hr ?hp (fun _ hk => hk) trivial (Below.refl _ _) (Nat.le_refl _) (by simp) ?_; (case hd => rfl); (case hg => rfl); (case hr => first | (go_simp; done) | (go_simp; rfl)); (case hp => exact (Reps.one (show Kd.M (Kd.int .i64) _ _ _ 1 [.int .i64 1] from rfl) (Reps.none _ _))); intro v385 w93 ho94 hb hg_ hnew_; clear hg_ hnew_; (first | rw [← Ny384.out] at ho94 | (simp only [Int.reduceToNat] at ho94; rw [← Ny384.out] at ho94)); have n0_ := Aside0.mk (Kd.R_elder' (up_ HO_10) (Kd.R_base ho94) hb); have n1_ := Aside0.mk (Kd.R_lower (Kd.R_new' ho94 (Kd.R_lt (up_ HO_10))) (below_size (dn_ HB))); have n2_ := Aside0.mk (below_step (dn_ HB) hb); clear HO_10; clear HB; have HO_10 := n0_; have HO386 := n1_; have HB := n2_; clear n0_ n1_ n2_; clear hb ho94; obtain ⟨Ao95, co95, eo95⟩ := Kd.R_slice HO386.out; subst eo95) | ((with_reducible refine gate_callee (f := 11) rfl ?_); refine goesL_ (some 104) rfl rfl Try.func11 (by kernel_rfl) rfl #[.slice Ao95 y384.length co95, .int .i64 62] rfl ar_ ?_; (with_reducible refine (vernierref01_Shl.calls kj48 _ _ y384 62 t387 _ ?side1 ?side2 A64.out).mono ?_); (case side1 => exact cs_ (Kd.R_reads' HO386.out).2.2); (case side2 => exact (Kd.R_reads' HO386.out).2.1); rintro e w96 ⟨v388, rfl, ho0, hb⟩; refine ⟨_, rfl, ?_⟩; have n0_ := Aside0.mk (Kd.R_elder' (up_ HO_10) (Kd.R_base ho0) hb); have n1_ := Aside0.mk (Kd.R_elder' (up_ HO386) (Kd.R_base ho0) hb); have n2_ := Aside0.mk (Kd.R_lower (Kd.R_new' (Kd.R_new' ho0 (Kd.R_lt (up_ HO_10))) (Kd.R_lt (up_ HO386))) (below_size (dn_ HB))); have n3_ := Aside0.mk (below_step (dn_ HB) hb); clear HO_10; clear HO386; clear HB; have HO_10 := n0_; have HO386 := n1_; have HO389 := n2_; have HB := n3_; clear n0_ n1_ n2_ n3_; (try clear hb); (try clear hk); (try clear ho0); obtain ⟨Ao97, co97, eo97⟩ := Kd.R_slice HO_10.out; subst eo97; obtain ⟨Ao98, co98, eo98⟩ := Kd.R_slice HO389.out; subst eo98) | ((with_reducible refine gate_callee (f := 10) rfl ?_); refine goesL_ (some 105) rfl rfl Try.func10 (by kernel_rfl) rfl #[.slice Ao97 t367.length co97, .slice Ao98 t387.length co98] rfl ar_ ?_; (with_reducible refine (vernierref01_Cmp.calls kj48 _ _ t367 _ _ t387 t390 _ ?side1 ?side2 ?side3 ?side4 A65.out).mono ?_); (case side1 => exact cs_ (Kd.R_reads' HO_10.out).2.2); (case side2 => exact (Kd.R_reads' HO_10.out).2.1); (case side3 => exact cs_ (Kd.R_reads' HO389.out).2.2); (case side4 => exact (Kd.R_reads' HO389.out).2.1); rintro e w' ⟨rfl, ⟨nd, rfl⟩⟩; refine ⟨_, rfl, ?_⟩) | ((with_reducible refine gate_callee (f := 13) rfl ?_); refine goesL_ (some 114) rfl rfl Try.func13 (by kernel_rfl) rfl #[.slice Ao97 t367.length co97] rfl ar_ ?_; (with_reducible refine (vernierref01_Limbs.calls kj48 _ _ t367 t391 _ ?side1 ?side2 A80.out).mono ?_); (case side1 => exact cs_ (Kd.R_reads' HO_10.out).2.2); (case side2 => exact (Kd.R_reads' HO_10.out).2.1); rintro e w99 ⟨v392, rfl, ho0, hb⟩; refine ⟨_, rfl, ?_⟩; have n0_ := Aside0.mk (Kd.R_below (up_ HO_10) hb); have n1_ := Aside0.mk (Kd.R_below (up_ HO386) hb); have n2_ := Aside0.mk (Kd.R_below (up_ HO389) hb); have n3_ := Aside0.mk (Kd.R_lower ho0 (below_size (dn_ HB))); have n4_ := Aside0.mk (below_step (dn_ HB) hb); clear HO_10; clear HO386; clear HO389; clear HB; have HO_10 := n0_; have HO386 := n1_; have HO389 := n2_; have HO393 := n3_; have HB := n4_; clear n0_ n1_ n2_ n3_ n4_; (try clear hb); (try clear hk); (try clear ho0); obtain ⟨Ao100, co100, eo100⟩ := Kd.R_slice HO393.out; subst eo100; have p394 : 0 ≤ (0 : Int) := (by omega); have q394 : 0 < (t391.length : Int) := of_decide_eq_true as_; obtain ⟨ad394, e394, hx394_0⟩ := Kd.at_int (Kd.R_reads' HO393.out).2.2 0 p394 q394; cases e394; have qi394 : (0 < t391.length) = True := eq_true (by omega); (try rw [show ((0 : Int)).toNat = 0 from rfl] at hx394_0); (try rw [Addr.add_zero'] at hx394_0); replace p394 := eq_true p394; replace q394 := eq_true q394))
                          go_ret
                          exact ⟨by first | rfl | (simp [errW_none, errW_some] <;> rfl) | (simp only [← hji48]; first | rfl | (simp [errW_none, errW_some] <;> rfl)) | (simp [*, errW_none, errW_some] <;> rfl), dn_ HB⟩
                      · replace c83 := Bool.eq_false_iff.mpr c83
                        subst c83
                        have H1 : (if t364 = (wrap64 (rd t391 0)) then (some (t365 == x12_40)) else (some false)) = some r := by rw [if_neg (show ¬ (false = true) by decide)] at H; exact H
                        clear H
                        have H := H1
                        clear H1
                        by_cases c101 : t364 = (wrap64 (rd t391 0))
                        · rw [if_pos c101] at H
                          have c101b0 : (t364 == (wrap64 (rd t391 0))) = true := beq_iff_eq.mpr c101
                          have c101b1 : (t364 != (wrap64 (rd t391 0))) = false := bne_eq_false_iff_eq.mpr c101
                          clear c101
                          obtain rfl := Option.some.inj H
                          go_wp2_with (first | ((with_reducible refine gate_dst (N := 103) rfl ?_); refine Kd.R_lit (Kd.int .i64) _ 3 ?hg (N := 103) ?hd (xs := ([1] : List Int)) (inner := [.int .i64 1]) (ok := fun _ => True) (okp := fun _ => True) ?hr ?hp (fun _ hk => hk) trivial (Below.refl _ _) (Nat.le_refl _) (by simp) ?_; (case hd => rfl); (case hg => rfl); (case hr => first | (go_simp; done) | (go_simp; rfl)); (case hp => exact (Reps.one (show Kd.M (Kd.int .i64) _ _ _ 1 [.int .i64 1] from rfl) (Reps.none _ _))); intro v385 w102 ho103 hb hg_ hnew_; clear hg_ hnew_; (first | rw [← Ny384.out] at ho103 | (simp only [Int.reduceToNat] at ho103; rw [← Ny384.out] at ho103)); have n0_ := Aside0.mk (Kd.R_elder' (up_ HO_10) (Kd.R_base ho103) hb); have n1_ := Aside0.mk (Kd.R_lower (Kd.R_new' ho103 (Kd.R_lt (up_ HO_10))) (below_size (dn_ HB))); have n2_ := Aside0.mk (below_step (dn_ HB) hb); clear HO_10; clear HB; have HO_10 := n0_; have HO386 := n1_; have HB := n2_; clear n0_ n1_ n2_; clear hb ho103; obtain ⟨Ao104, co104, eo104⟩ := Kd.R_slice HO386.out; subst eo104) | ((with_reducible refine gate_callee (f := 11) rfl ?_); refine goesL_ (some 104) rfl rfl Try.func11 (by kernel_rfl) rfl #[.slice Ao104 y384.length co104, .int .i64 62] rfl ar_ ?_; (with_reducible refine (vernierref01_Shl.calls kj48 _ _ y384 62 t387 _ ?side1 ?side2 A64.out).mono ?_); (case side1 => exact cs_ (Kd.R_reads' HO386.out).2.2); (case side2 => exact (Kd.R_reads' HO386.out).2.1); rintro e w105 ⟨v388, rfl, ho0, hb⟩; refine ⟨_, rfl, ?_⟩; have n0_ := Aside0.mk (Kd.R_elder' (up_ HO_10) (Kd.R_base ho0) hb); have n1_ := Aside0.mk (Kd.R_elder' (up_ HO386) (Kd.R_base ho0) hb); have n2_ := Aside0.mk (Kd.R_lower (Kd.R_new' (Kd.R_new' ho0 (Kd.R_lt (up_ HO_10))) (Kd.R_lt (up_ HO386))) (below_size (dn_ HB))); have n3_ := Aside0.mk (below_step (dn_ HB) hb); clear HO_10; clear HO386; clear HB; have HO_10 := n0_; have HO386 := n1_; have HO389 := n2_; have HB := n3_; clear n0_ n1_ n2_ n3_; (try clear hb); (try clear hk); (try clear ho0); obtain ⟨Ao106, co106, eo106⟩ := Kd.R_slice HO_10.out; subst eo106; obtain ⟨Ao107, co107, eo107⟩ := Kd.R_slice HO389.out; subst eo107) | ((with_reducible refine gate_callee (f := 10) rfl ?_); refine goesL_ (some 105) rfl rfl Try.func10 (by kernel_rfl) rfl #[.slice Ao106 t367.length co106, .slice Ao107 t387.length co107] rfl ar_ ?_; (with_reducible refine (vernierref01_Cmp.calls kj48 _ _ t367 _ _ t387 t390 _ ?side1 ?side2 ?side3 ?side4 A65.out).mono ?_); (case side1 => exact cs_ (Kd.R_reads' HO_10.out).2.2); (case side2 => exact (Kd.R_reads' HO_10.out).2.1); (case side3 => exact cs_ (Kd.R_reads' HO389.out).2.2); (case side4 => exact (Kd.R_reads' HO389.out).2.1); rintro e w' ⟨rfl, ⟨nd, rfl⟩⟩; refine ⟨_, rfl, ?_⟩) | ((with_reducible refine gate_callee (f := 13) rfl ?_); refine goesL_ (some 114) rfl rfl Try.func13 (by kernel_rfl) rfl #[.slice Ao106 t367.length co106] rfl ar_ ?_; (with_reducible refine (vernierref01_Limbs.calls kj48 _ _ t367 t391 _ ?side1 ?side2 A80.out).mono ?_); (case side1 => exact cs_ (Kd.R_reads' HO_10.out).2.2); (case side2 => exact (Kd.R_reads' HO_10.out).2.1); rintro e w108 ⟨v392, rfl, ho0, hb⟩; refine ⟨_, rfl, ?_⟩; have n0_ := Aside0.mk (Kd.R_below (up_ HO_10) hb); have n1_ := Aside0.mk (Kd.R_below (up_ HO386) hb); have n2_ := Aside0.mk (Kd.R_below (up_ HO389) hb); have n3_ := Aside0.mk (Kd.R_lower ho0 (below_size (dn_ HB))); have n4_ := Aside0.mk (below_step (dn_ HB) hb); clear HO_10; clear HO386; clear HO389; clear HB; have HO_10 := n0_; have HO386 := n1_; have HO389 := n2_; have HO393 := n3_; have HB := n4_; clear n0_ n1_ n2_ n3_ n4_; (try clear hb); (try clear hk); (try clear ho0); obtain ⟨Ao109, co109, eo109⟩ := Kd.R_slice HO393.out; subst eo109; have p394 : 0 ≤ (0 : Int) := (by omega); have q394 : 0 < (t391.length : Int) := of_decide_eq_true as_; obtain ⟨ad394, e394, hx394_0⟩ := Kd.at_int (Kd.R_reads' HO393.out).2.2 0 p394 q394; cases e394; have qi394 : (0 < t391.length) = True := eq_true (by omega); (try rw [show ((0 : Int)).toNat = 0 from rfl] at hx394_0); (try rw [Addr.add_zero'] at hx394_0); replace p394 := eq_true p394; replace q394 := eq_true q394))
                          go_ret
                          exact ⟨by first | rfl | (simp [errW_none, errW_some] <;> rfl) | (simp only [← hji48]; first | rfl | (simp [errW_none, errW_some] <;> rfl)) | (simp [*, errW_none, errW_some] <;> rfl), dn_ HB⟩
                        · rw [if_neg c101] at H
                          have c101b0 : (t364 == (wrap64 (rd t391 0))) = false := beq_eq_false_iff_ne.mpr c101
                          have c101b1 : (t364 != (wrap64 (rd t391 0))) = true := bne_iff_ne.mpr c101
                          obtain rfl := Option.some.inj H
                          go_wp2_with (first | ((with_reducible refine gate_dst (N := 103) rfl ?_); refine Kd.R_lit (Kd.int .i64) _ 3 ?hg (N := 103) ?hd (xs := ([1] : List Int)) (inner := [.int .i64 1]) (ok := fun _ => True) (okp := fun _ => True) ?hr ?hp (fun _ hk => hk) trivial (Below.refl _ _) (Nat.le_refl _) (by simp) ?_; (case hd => rfl); (case hg => rfl); (case hr => first | (go_simp; done) | (go_simp; rfl)); (case hp => exact (Reps.one (show Kd.M (Kd.int .i64) _ _ _ 1 [.int .i64 1] from rfl) (Reps.none _ _))); intro v385 w110 ho111 hb hg_ hnew_; clear hg_ hnew_; (first | rw [← Ny384.out] at ho111 | (simp only [Int.reduceToNat] at ho111; rw [← Ny384.out] at ho111)); have n0_ := Aside0.mk (Kd.R_elder' (up_ HO_10) (Kd.R_base ho111) hb); have n1_ := Aside0.mk (Kd.R_lower (Kd.R_new' ho111 (Kd.R_lt (up_ HO_10))) (below_size (dn_ HB))); have n2_ := Aside0.mk (below_step (dn_ HB) hb); clear HO_10; clear HB; have HO_10 := n0_; have HO386 := n1_; have HB := n2_; clear n0_ n1_ n2_; clear hb ho111; obtain ⟨Ao112, co112, eo112⟩ := Kd.R_slice HO386.out; subst eo112) | ((with_reducible refine gate_callee (f := 11) rfl ?_); refine goesL_ (some 104) rfl rfl Try.func11 (by kernel_rfl) rfl #[.slice Ao112 y384.length co112, .int .i64 62] rfl ar_ ?_; (with_reducible refine (vernierref01_Shl.calls kj48 _ _ y384 62 t387 _ ?side1 ?side2 A64.out).mono ?_); (case side1 => exact cs_ (Kd.R_reads' HO386.out).2.2); (case side2 => exact (Kd.R_reads' HO386.out).2.1); rintro e w113 ⟨v388, rfl, ho0, hb⟩; refine ⟨_, rfl, ?_⟩; have n0_ := Aside0.mk (Kd.R_elder' (up_ HO_10) (Kd.R_base ho0) hb); have n1_ := Aside0.mk (Kd.R_elder' (up_ HO386) (Kd.R_base ho0) hb); have n2_ := Aside0.mk (Kd.R_lower (Kd.R_new' (Kd.R_new' ho0 (Kd.R_lt (up_ HO_10))) (Kd.R_lt (up_ HO386))) (below_size (dn_ HB))); have n3_ := Aside0.mk (below_step (dn_ HB) hb); clear HO_10; clear HO386; clear HB; have HO_10 := n0_; have HO386 := n1_; have HO389 := n2_; have HB := n3_; clear n0_ n1_ n2_ n3_; (try clear hb); (try clear hk); (try clear ho0); obtain ⟨Ao114, co114, eo114⟩ := Kd.R_slice HO_10.out; subst eo114; obtain ⟨Ao115, co115, eo115⟩ := Kd.R_slice HO389.out; subst eo115) | ((with_reducible refine gate_callee (f := 10) rfl ?_); refine goesL_ (some 105) rfl rfl Try.func10 (by kernel_rfl) rfl #[.slice Ao114 t367.length co114, .slice Ao115 t387.length co115] rfl ar_ ?_; (with_reducible refine (vernierref01_Cmp.calls kj48 _ _ t367 _ _ t387 t390 _ ?side1 ?side2 ?side3 ?side4 A65.out).mono ?_); (case side1 => exact cs_ (Kd.R_reads' HO_10.out).2.2); (case side2 => exact (Kd.R_reads' HO_10.out).2.1); (case side3 => exact cs_ (Kd.R_reads' HO389.out).2.2); (case side4 => exact (Kd.R_reads' HO389.out).2.1); rintro e w' ⟨rfl, ⟨nd, rfl⟩⟩; refine ⟨_, rfl, ?_⟩) | ((with_reducible refine gate_callee (f := 13) rfl ?_); refine goesL_ (some 114) rfl rfl Try.func13 (by kernel_rfl) rfl #[.slice Ao114 t367.length co114] rfl ar_ ?_; (with_reducible refine (vernierref01_Limbs.calls kj48 _ _ t367 t391 _ ?side1 ?side2 A80.out).mono ?_); (case side1 => exact cs_ (Kd.R_reads' HO_10.out).2.2); (case side2 => exact (Kd.R_reads' HO_10.out).2.1); rintro e w116 ⟨v392, rfl, ho0, hb⟩; refine ⟨_, rfl, ?_⟩; have n0_ := Aside0.mk (Kd.R_below (up_ HO_10) hb); have n1_ := Aside0.mk (Kd.R_below (up_ HO386) hb); have n2_ := Aside0.mk (Kd.R_below (up_ HO389) hb); have n3_ := Aside0.mk (Kd.R_lower ho0 (below_size (dn_ HB))); have n4_ := Aside0.mk (below_step (dn_ HB) hb); clear HO_10; clear HO386; clear HO389; clear HB; have HO_10 := n0_; have HO386 := n1_; have HO389 := n2_; have HO393 := n3_; have HB := n4_; clear n0_ n1_ n2_ n3_ n4_; (try clear hb); (try clear hk); (try clear ho0); obtain ⟨Ao117, co117, eo117⟩ := Kd.R_slice HO393.out; subst eo117; have p394 : 0 ≤ (0 : Int) := (by omega); have q394 : 0 < (t391.length : Int) := of_decide_eq_true as_; obtain ⟨ad394, e394, hx394_0⟩ := Kd.at_int (Kd.R_reads' HO393.out).2.2 0 p394 q394; cases e394; have qi394 : (0 < t391.length) = True := eq_true (by omega); (try rw [show ((0 : Int)).toNat = 0 from rfl] at hx394_0); (try rw [Addr.add_zero'] at hx394_0); replace p394 := eq_true p394; replace q394 := eq_true q394))
                          go_ret
                          exact ⟨by first | rfl | (simp [errW_none, errW_some] <;> rfl) | (simp only [← hji48]; first | rfl | (simp [errW_none, errW_some] <;> rfl)) | (simp [*, errW_none, errW_some] <;> rfl), dn_ HB⟩
                    · rw [if_neg c82] at H
                      exact absurd H (by simp)
                  · rw [if_neg c81] at H
                    have c81b0 : decide (0 < (t391.length : Int)) = false := decide_eq_false c81
                    have c81b1 : decide (0 < t391.length) = false := decide_eq_false (by omega)
                    clear c81
                    by_cases c118 : t371 = true
                    · subst c118
                      have H1 : (if t364 = (-0) then (some (t365 == x12_40)) else (some false)) = some r := by rw [if_pos rfl] at H; exact H
                      clear H
                      have H := H1
                      clear H1
                      by_cases c119 : t364 = (-0)
                      · rw [if_pos c119] at H
                        have c119b0 : (t364 == (-0)) = true := beq_iff_eq.mpr c119
                        have c119b0z : (t364 == 0) = true := by have h_ := c119b0; rwa [Int.neg_zero] at h_
                        have c119b1 : (t364 != (-0)) = false := bne_eq_false_iff_eq.mpr c119
                        have c119b1z : (t364 != 0) = false := by have h_ := c119b1; rwa [Int.neg_zero] at h_
                        clear c119
                        obtain rfl := Option.some.inj H
                        go_wp2_with (first | ((with_reducible refine gate_dst (N := 103) rfl ?_); refine Kd.R_lit (Kd.int .i64) _ 3 ?hg (N := 103) ?hd (xs := ([1] : List Int)) (inner := [.int .i64 1]) (ok := fun _ => True) (okp := fun _ => True) ?hr ?hp (fun _ hk => hk) trivial (Below.refl _ _) (Nat.le_refl _) (by simp) ?_; (case hd => rfl); (case hg => rfl); (case hr => first | (go_simp; done) | (go_simp; rfl)); (case hp => exact (Reps.one (show Kd.M (Kd.int .i64) _ _ _ 1 [.int .i64 1] from rfl) (Reps.none _ _))); intro v385 w120 ho121 hb hg_ hnew_; clear hg_ hnew_; (first | rw [← Ny384.out] at ho121 | (simp only [Int.reduceToNat] at ho121; rw [← Ny384.out] at ho121)); have n0_ := Aside0.mk (Kd.R_elder' (up_ HO_10) (Kd.R_base ho121) hb); have n1_ := Aside0.mk (Kd.R_lower (Kd.R_new' ho121 (Kd.R_lt (up_ HO_10))) (below_size (dn_ HB))); have n2_ := Aside0.mk (below_step (dn_ HB) hb); clear HO_10; clear HB; have HO_10 := n0_; have HO386 := n1_; have HB := n2_; clear n0_ n1_ n2_; clear hb ho121; obtain ⟨Ao122, co122, eo122⟩ := Kd.R_slice HO386.out; subst eo122) | ((with_reducible refine gate_callee (f := 11) rfl ?_); refine goesL_ (some 104) rfl rfl Try.func11 (by kernel_rfl) rfl #[.slice Ao122 y384.length co122, .int .i64 62] rfl ar_ ?_; (with_reducible refine (vernierref01_Shl.calls kj48 _ _ y384 62 t387 _ ?side1 ?side2 A64.out).mono ?_); (case side1 => exact cs_ (Kd.R_reads' HO386.out).2.2); (case side2 => exact (Kd.R_reads' HO386.out).2.1); rintro e w123 ⟨v388, rfl, ho0, hb⟩; refine ⟨_, rfl, ?_⟩; have n0_ := Aside0.mk (Kd.R_elder' (up_ HO_10) (Kd.R_base ho0) hb); have n1_ := Aside0.mk (Kd.R_elder' (up_ HO386) (Kd.R_base ho0) hb); have n2_ := Aside0.mk (Kd.R_lower (Kd.R_new' (Kd.R_new' ho0 (Kd.R_lt (up_ HO_10))) (Kd.R_lt (up_ HO386))) (below_size (dn_ HB))); have n3_ := Aside0.mk (below_step (dn_ HB) hb); clear HO_10; clear HO386; clear HB; have HO_10 := n0_; have HO386 := n1_; have HO389 := n2_; have HB := n3_; clear n0_ n1_ n2_ n3_; (try clear hb); (try clear hk); (try clear ho0); obtain ⟨Ao124, co124, eo124⟩ := Kd.R_slice HO_10.out; subst eo124; obtain ⟨Ao125, co125, eo125⟩ := Kd.R_slice HO389.out; subst eo125) | ((with_reducible refine gate_callee (f := 10) rfl ?_); refine goesL_ (some 105) rfl rfl Try.func10 (by kernel_rfl) rfl #[.slice Ao124 t367.length co124, .slice Ao125 t387.length co125] rfl ar_ ?_; (with_reducible refine (vernierref01_Cmp.calls kj48 _ _ t367 _ _ t387 t390 _ ?side1 ?side2 ?side3 ?side4 A65.out).mono ?_); (case side1 => exact cs_ (Kd.R_reads' HO_10.out).2.2); (case side2 => exact (Kd.R_reads' HO_10.out).2.1); (case side3 => exact cs_ (Kd.R_reads' HO389.out).2.2); (case side4 => exact (Kd.R_reads' HO389.out).2.1); rintro e w' ⟨rfl, ⟨nd, rfl⟩⟩; refine ⟨_, rfl, ?_⟩) | ((with_reducible refine gate_callee (f := 13) rfl ?_); refine goesL_ (some 114) rfl rfl Try.func13 (by kernel_rfl) rfl #[.slice Ao124 t367.length co124] rfl ar_ ?_; (with_reducible refine (vernierref01_Limbs.calls kj48 _ _ t367 t391 _ ?side1 ?side2 A80.out).mono ?_); (case side1 => exact cs_ (Kd.R_reads' HO_10.out).2.2); (case side2 => exact (Kd.R_reads' HO_10.out).2.1); rintro e w126 ⟨v392, rfl, ho0, hb⟩; refine ⟨_, rfl, ?_⟩; have n0_ := Aside0.mk (Kd.R_below (up_ HO_10) hb); have n1_ := Aside0.mk (Kd.R_below (up_ HO386) hb); have n2_ := Aside0.mk (Kd.R_below (up_ HO389) hb); have n3_ := Aside0.mk (Kd.R_lower ho0 (below_size (dn_ HB))); have n4_ := Aside0.mk (below_step (dn_ HB) hb); clear HO_10; clear HO386; clear HO389; clear HB; have HO_10 := n0_; have HO386 := n1_; have HO389 := n2_; have HO393 := n3_; have HB := n4_; clear n0_ n1_ n2_ n3_ n4_; (try clear hb); (try clear hk); (try clear ho0); obtain ⟨Ao127, co127, eo127⟩ := Kd.R_slice HO393.out; subst eo127))
                        go_ret
                        exact ⟨by first | rfl | (simp [errW_none, errW_some] <;> rfl) | (simp only [← hji48]; first | rfl | (simp [errW_none, errW_some] <;> rfl)) | (simp [*, errW_none, errW_some] <;> rfl), dn_ HB⟩
                      · rw [if_neg c119] at H
                        have c119b0 : (t364 == (-0)) = false := beq_eq_false_iff_ne.mpr c119
                        have c119b0z : (t364 == 0) = false := by have h_ := c119b0; rwa [Int.neg_zero] at h_
                        have c119b1 : (t364 != (-0)) = true := bne_iff_ne.mpr c119
                        have c119b1z : (t364 != 0) = true := by have h_ := c119b1; rwa [Int.neg_zero] at h_
                        obtain rfl := Option.some.inj H
                        go_wp2_with (first | ((with_reducible refine gate_dst (N := 103) rfl ?_); refine Kd.R_lit (Kd.int .i64) _ 3 ?hg (N := 103) ?hd (xs := ([1] : List Int)) (inner := [.int .i64 1]) (ok := fun _ => True) (okp := fun _ => True) ?hr ?hp (fun _ hk => hk) trivial (Below.refl _ _) (Nat.le_refl _) (by simp) ?_; (case hd => rfl); (case hg => rfl); (case hr => first | (go_simp; done) | (go_simp; rfl)); (case hp => exact (Reps.one (show Kd.M (Kd.int .i64) _ _ _ 1 [.int .i64 1] from rfl) (Reps.none _ _))); intro v385 w128 ho129 hb hg_ hnew_; clear hg_ hnew_; (first | rw [← Ny384.out] at ho129 | (simp only [Int.reduceToNat] at ho129; rw [← Ny384.out] at ho129)); have n0_ := Aside0.mk (Kd.R_elder' (up_ HO_10) (Kd.R_base ho129) hb); have n1_ := Aside0.mk (Kd.R_lower (Kd.R_new' ho129 (Kd.R_lt (up_ HO_10))) (below_size (dn_ HB))); have n2_ := Aside0.mk (below_step (dn_ HB) hb); clear HO_10; clear HB; have HO_10 := n0_; have HO386 := n1_; have HB := n2_; clear n0_ n1_ n2_; clear hb ho129; obtain ⟨Ao130, co130, eo130⟩ := Kd.R_slice HO386.out; subst eo130) | ((with_reducible refine gate_callee (f := 11) rfl ?_); refine goesL_ (some 104) rfl rfl Try.func11 (by kernel_rfl) rfl #[.slice Ao130 y384.length co130, .int .i64 62] rfl ar_ ?_; (with_reducible refine (vernierref01_Shl.calls kj48 _ _ y384 62 t387 _ ?side1 ?side2 A64.out).mono ?_); (case side1 => exact cs_ (Kd.R_reads' HO386.out).2.2); (case side2 => exact (Kd.R_reads' HO386.out).2.1); rintro e w131 ⟨v388, rfl, ho0, hb⟩; refine ⟨_, rfl, ?_⟩; have n0_ := Aside0.mk (Kd.R_elder' (up_ HO_10) (Kd.R_base ho0) hb); have n1_ := Aside0.mk (Kd.R_elder' (up_ HO386) (Kd.R_base ho0) hb); have n2_ := Aside0.mk (Kd.R_lower (Kd.R_new' (Kd.R_new' ho0 (Kd.R_lt (up_ HO_10))) (Kd.R_lt (up_ HO386))) (below_size (dn_ HB))); have n3_ := Aside0.mk (below_step (dn_ HB) hb); clear HO_10; clear HO386; clear HB; have HO_10 := n0_; have HO386 := n1_; have HO389 := n2_; have HB := n3_; clear n0_ n1_ n2_ n3_; (try clear hb); (try clear hk); (try clear ho0); obtain ⟨Ao132, co132, eo132⟩ := Kd.R_slice HO_10.out; subst eo132; obtain ⟨Ao133, co133, eo133⟩ := Kd.R_slice HO389.out; subst eo133) | ((with_reducible refine gate_callee (f := 10) rfl ?_); refine goesL_ (some 105) rfl rfl Try.func10 (by kernel_rfl) rfl #[.slice Ao132 t367.length co132, .slice Ao133 t387.length co133] rfl ar_ ?_; (with_reducible refine (vernierref01_Cmp.calls kj48 _ _ t367 _ _ t387 t390 _ ?side1 ?side2 ?side3 ?side4 A65.out).mono ?_); (case side1 => exact cs_ (Kd.R_reads' HO_10.out).2.2); (case side2 => exact (Kd.R_reads' HO_10.out).2.1); (case side3 => exact cs_ (Kd.R_reads' HO389.out).2.2); (case side4 => exact (Kd.R_reads' HO389.out).2.1); rintro e w' ⟨rfl, ⟨nd, rfl⟩⟩; refine ⟨_, rfl, ?_⟩) | ((with_reducible refine gate_callee (f := 13) rfl ?_); refine goesL_ (some 114) rfl rfl Try.func13 (by kernel_rfl) rfl #[.slice Ao132 t367.length co132] rfl ar_ ?_; (with_reducible refine (vernierref01_Limbs.calls kj48 _ _ t367 t391 _ ?side1 ?side2 A80.out).mono ?_); (case side1 => exact cs_ (Kd.R_reads' HO_10.out).2.2); (case side2 => exact (Kd.R_reads' HO_10.out).2.1); rintro e w134 ⟨v392, rfl, ho0, hb⟩; refine ⟨_, rfl, ?_⟩; have n0_ := Aside0.mk (Kd.R_below (up_ HO_10) hb); have n1_ := Aside0.mk (Kd.R_below (up_ HO386) hb); have n2_ := Aside0.mk (Kd.R_below (up_ HO389) hb); have n3_ := Aside0.mk (Kd.R_lower ho0 (below_size (dn_ HB))); have n4_ := Aside0.mk (below_step (dn_ HB) hb); clear HO_10; clear HO386; clear HO389; clear HB; have HO_10 := n0_; have HO386 := n1_; have HO389 := n2_; have HO393 := n3_; have HB := n4_; clear n0_ n1_ n2_ n3_ n4_; (try clear hb); (try clear hk); (try clear ho0); obtain ⟨Ao135, co135, eo135⟩ := Kd.R_slice HO393.out; subst eo135))
                        go_ret
                        exact ⟨by first | rfl | (simp [errW_none, errW_some] <;> rfl) | (simp only [← hji48]; first | rfl | (simp [errW_none, errW_some] <;> rfl)) | (simp [*, errW_none, errW_some] <;> rfl), dn_ HB⟩
                    · replace c118 := Bool.eq_false_iff.mpr c118
                      subst c118
                      have H1 : (if t364 = 0 then (some (t365 == x12_40)) else (some false)) = some r := by rw [if_neg (show ¬ (false = true) by decide)] at H; exact H
                      clear H
                      have H := H1
                      clear H1
                      by_cases c136 : t364 = 0
                      · rw [if_pos c136] at H
                        have c136b0 : (t364 == 0) = true := beq_iff_eq.mpr c136
                        have c136b1 : (t364 != 0) = false := bne_eq_false_iff_eq.mpr c136
                        clear c136
                        obtain rfl := Option.some.inj H
                        go_wp2_with (first | ((with_reducible refine gate_dst (N := 103) rfl ?_); refine Kd.R_lit (Kd.int .i64) _ 3 ?hg (N := 103) ?hd (xs := ([1] : List Int)) (inner := [.int .i64 1]) (ok := fun _ => True) (okp := fun _ => True) ?hr ?hp (fun _ hk => hk) trivial (Below.refl _ _) (Nat.le_refl _) (by simp) ?_; (case hd => rfl); (case hg => rfl); (case hr => first | (go_simp; done) | (go_simp; rfl)); (case hp => exact (Reps.one (show Kd.M (Kd.int .i64) _ _ _ 1 [.int .i64 1] from rfl) (Reps.none _ _))); intro v385 w137 ho138 hb hg_ hnew_; clear hg_ hnew_; (first | rw [← Ny384.out] at ho138 | (simp only [Int.reduceToNat] at ho138; rw [← Ny384.out] at ho138)); have n0_ := Aside0.mk (Kd.R_elder' (up_ HO_10) (Kd.R_base ho138) hb); have n1_ := Aside0.mk (Kd.R_lower (Kd.R_new' ho138 (Kd.R_lt (up_ HO_10))) (below_size (dn_ HB))); have n2_ := Aside0.mk (below_step (dn_ HB) hb); clear HO_10; clear HB; have HO_10 := n0_; have HO386 := n1_; have HB := n2_; clear n0_ n1_ n2_; clear hb ho138; obtain ⟨Ao139, co139, eo139⟩ := Kd.R_slice HO386.out; subst eo139) | ((with_reducible refine gate_callee (f := 11) rfl ?_); refine goesL_ (some 104) rfl rfl Try.func11 (by kernel_rfl) rfl #[.slice Ao139 y384.length co139, .int .i64 62] rfl ar_ ?_; (with_reducible refine (vernierref01_Shl.calls kj48 _ _ y384 62 t387 _ ?side1 ?side2 A64.out).mono ?_); (case side1 => exact cs_ (Kd.R_reads' HO386.out).2.2); (case side2 => exact (Kd.R_reads' HO386.out).2.1); rintro e w140 ⟨v388, rfl, ho0, hb⟩; refine ⟨_, rfl, ?_⟩; have n0_ := Aside0.mk (Kd.R_elder' (up_ HO_10) (Kd.R_base ho0) hb); have n1_ := Aside0.mk (Kd.R_elder' (up_ HO386) (Kd.R_base ho0) hb); have n2_ := Aside0.mk (Kd.R_lower (Kd.R_new' (Kd.R_new' ho0 (Kd.R_lt (up_ HO_10))) (Kd.R_lt (up_ HO386))) (below_size (dn_ HB))); have n3_ := Aside0.mk (below_step (dn_ HB) hb); clear HO_10; clear HO386; clear HB; have HO_10 := n0_; have HO386 := n1_; have HO389 := n2_; have HB := n3_; clear n0_ n1_ n2_ n3_; (try clear hb); (try clear hk); (try clear ho0); obtain ⟨Ao141, co141, eo141⟩ := Kd.R_slice HO_10.out; subst eo141; obtain ⟨Ao142, co142, eo142⟩ := Kd.R_slice HO389.out; subst eo142) | ((with_reducible refine gate_callee (f := 10) rfl ?_); refine goesL_ (some 105) rfl rfl Try.func10 (by kernel_rfl) rfl #[.slice Ao141 t367.length co141, .slice Ao142 t387.length co142] rfl ar_ ?_; (with_reducible refine (vernierref01_Cmp.calls kj48 _ _ t367 _ _ t387 t390 _ ?side1 ?side2 ?side3 ?side4 A65.out).mono ?_); (case side1 => exact cs_ (Kd.R_reads' HO_10.out).2.2); (case side2 => exact (Kd.R_reads' HO_10.out).2.1); (case side3 => exact cs_ (Kd.R_reads' HO389.out).2.2); (case side4 => exact (Kd.R_reads' HO389.out).2.1); rintro e w' ⟨rfl, ⟨nd, rfl⟩⟩; refine ⟨_, rfl, ?_⟩) | ((with_reducible refine gate_callee (f := 13) rfl ?_); refine goesL_ (some 114) rfl rfl Try.func13 (by kernel_rfl) rfl #[.slice Ao141 t367.length co141] rfl ar_ ?_; (with_reducible refine (vernierref01_Limbs.calls kj48 _ _ t367 t391 _ ?side1 ?side2 A80.out).mono ?_); (case side1 => exact cs_ (Kd.R_reads' HO_10.out).2.2); (case side2 => exact (Kd.R_reads' HO_10.out).2.1); rintro e w143 ⟨v392, rfl, ho0, hb⟩; refine ⟨_, rfl, ?_⟩; have n0_ := Aside0.mk (Kd.R_below (up_ HO_10) hb); have n1_ := Aside0.mk (Kd.R_below (up_ HO386) hb); have n2_ := Aside0.mk (Kd.R_below (up_ HO389) hb); have n3_ := Aside0.mk (Kd.R_lower ho0 (below_size (dn_ HB))); have n4_ := Aside0.mk (below_step (dn_ HB) hb); clear HO_10; clear HO386; clear HO389; clear HB; have HO_10 := n0_; have HO386 := n1_; have HO389 := n2_; have HO393 := n3_; have HB := n4_; clear n0_ n1_ n2_ n3_ n4_; (try clear hb); (try clear hk); (try clear ho0); obtain ⟨Ao144, co144, eo144⟩ := Kd.R_slice HO393.out; subst eo144))
                        go_ret
                        exact ⟨by first | rfl | (simp [errW_none, errW_some] <;> rfl) | (simp only [← hji48]; first | rfl | (simp [errW_none, errW_some] <;> rfl)) | (simp [*, errW_none, errW_some] <;> rfl), dn_ HB⟩
                      · rw [if_neg c136] at H
                        have c136b0 : (t364 == 0) = false := beq_eq_false_iff_ne.mpr c136
                        have c136b1 : (t364 != 0) = true := bne_iff_ne.mpr c136
                        obtain rfl := Option.some.inj H
                        go_wp2_with (first | ((with_reducible refine gate_dst (N := 103) rfl ?_); refine Kd.R_lit (Kd.int .i64) _ 3 ?hg (N := 103) ?hd (xs := ([1] : List Int)) (inner := [.int .i64 1]) (ok := fun _ => True) (okp := fun _ => True) ?hr ?hp (fun _ hk => hk) trivial (Below.refl _ _) (Nat.le_refl _) (by simp) ?_; (case hd => rfl); (case hg => rfl); (case hr => first | (go_simp; done) | (go_simp; rfl)); (case hp => exact (Reps.one (show Kd.M (Kd.int .i64) _ _ _ 1 [.int .i64 1] from rfl) (Reps.none _ _))); intro v385 w145 ho146 hb hg_ hnew_; clear hg_ hnew_; (first | rw [← Ny384.out] at ho146 | (simp only [Int.reduceToNat] at ho146; rw [← Ny384.out] at ho146)); have n0_ := Aside0.mk (Kd.R_elder' (up_ HO_10) (Kd.R_base ho146) hb); have n1_ := Aside0.mk (Kd.R_lower (Kd.R_new' ho146 (Kd.R_lt (up_ HO_10))) (below_size (dn_ HB))); have n2_ := Aside0.mk (below_step (dn_ HB) hb); clear HO_10; clear HB; have HO_10 := n0_; have HO386 := n1_; have HB := n2_; clear n0_ n1_ n2_; clear hb ho146; obtain ⟨Ao147, co147, eo147⟩ := Kd.R_slice HO386.out; subst eo147) | ((with_reducible refine gate_callee (f := 11) rfl ?_); refine goesL_ (some 104) rfl rfl Try.func11 (by kernel_rfl) rfl #[.slice Ao147 y384.length co147, .int .i64 62] rfl ar_ ?_; (with_reducible refine (vernierref01_Shl.calls kj48 _ _ y384 62 t387 _ ?side1 ?side2 A64.out).mono ?_); (case side1 => exact cs_ (Kd.R_reads' HO386.out).2.2); (case side2 => exact (Kd.R_reads' HO386.out).2.1); rintro e w148 ⟨v388, rfl, ho0, hb⟩; refine ⟨_, rfl, ?_⟩; have n0_ := Aside0.mk (Kd.R_elder' (up_ HO_10) (Kd.R_base ho0) hb); have n1_ := Aside0.mk (Kd.R_elder' (up_ HO386) (Kd.R_base ho0) hb); have n2_ := Aside0.mk (Kd.R_lower (Kd.R_new' (Kd.R_new' ho0 (Kd.R_lt (up_ HO_10))) (Kd.R_lt (up_ HO386))) (below_size (dn_ HB))); have n3_ := Aside0.mk (below_step (dn_ HB) hb); clear HO_10; clear HO386; clear HB; have HO_10 := n0_; have HO386 := n1_; have HO389 := n2_; have HB := n3_; clear n0_ n1_ n2_ n3_; (try clear hb); (try clear hk); (try clear ho0); obtain ⟨Ao149, co149, eo149⟩ := Kd.R_slice HO_10.out; subst eo149; obtain ⟨Ao150, co150, eo150⟩ := Kd.R_slice HO389.out; subst eo150) | ((with_reducible refine gate_callee (f := 10) rfl ?_); refine goesL_ (some 105) rfl rfl Try.func10 (by kernel_rfl) rfl #[.slice Ao149 t367.length co149, .slice Ao150 t387.length co150] rfl ar_ ?_; (with_reducible refine (vernierref01_Cmp.calls kj48 _ _ t367 _ _ t387 t390 _ ?side1 ?side2 ?side3 ?side4 A65.out).mono ?_); (case side1 => exact cs_ (Kd.R_reads' HO_10.out).2.2); (case side2 => exact (Kd.R_reads' HO_10.out).2.1); (case side3 => exact cs_ (Kd.R_reads' HO389.out).2.2); (case side4 => exact (Kd.R_reads' HO389.out).2.1); rintro e w' ⟨rfl, ⟨nd, rfl⟩⟩; refine ⟨_, rfl, ?_⟩) | ((with_reducible refine gate_callee (f := 13) rfl ?_); refine goesL_ (some 114) rfl rfl Try.func13 (by kernel_rfl) rfl #[.slice Ao149 t367.length co149] rfl ar_ ?_; (with_reducible refine (vernierref01_Limbs.calls kj48 _ _ t367 t391 _ ?side1 ?side2 A80.out).mono ?_); (case side1 => exact cs_ (Kd.R_reads' HO_10.out).2.2); (case side2 => exact (Kd.R_reads' HO_10.out).2.1); rintro e w151 ⟨v392, rfl, ho0, hb⟩; refine ⟨_, rfl, ?_⟩; have n0_ := Aside0.mk (Kd.R_below (up_ HO_10) hb); have n1_ := Aside0.mk (Kd.R_below (up_ HO386) hb); have n2_ := Aside0.mk (Kd.R_below (up_ HO389) hb); have n3_ := Aside0.mk (Kd.R_lower ho0 (below_size (dn_ HB))); have n4_ := Aside0.mk (below_step (dn_ HB) hb); clear HO_10; clear HO386; clear HO389; clear HB; have HO_10 := n0_; have HO386 := n1_; have HO389 := n2_; have HO393 := n3_; have HB := n4_; clear n0_ n1_ n2_ n3_ n4_; (try clear hb); (try clear hk); (try clear ho0); obtain ⟨Ao152, co152, eo152⟩ := Kd.R_slice HO393.out; subst eo152))
                        go_ret
                        exact ⟨by first | rfl | (simp [errW_none, errW_some] <;> rfl) | (simp only [← hji48]; first | rfl | (simp [errW_none, errW_some] <;> rfl)) | (simp [*, errW_none, errW_some] <;> rfl), dn_ HB⟩
  · replace c4 := Bool.eq_false_iff.mpr c4
    subst c4
    have H1 : (some false) = some r := by rw [if_neg (show ¬ (false = true) by decide)] at H; exact H
    clear H
    have H := H1
    clear H1
    obtain rfl := Option.some.inj H
    go_enter Try.func3, Try.ntmps3
    go_wp2_with (first | ((with_reducible refine gate_callee (f := 4) rfl ?_); refine goesL_ (some 19) rfl rfl Try.func4 (by kernel_rfl) rfl #[] rfl ar_ ?_; (with_reducible refine (vernierlaw13_alive.calls k  false _ A3.out).mono ?_); rintro e w153 ⟨rfl, hb⟩; refine ⟨_, rfl, ?_⟩; have n0_ := Aside0.mk (below_step (dn_ HB) hb); clear HB; have HB := n0_; clear n0_; (try clear hb); (try clear hk)))
    go_ret
    exact ⟨er_, dn_ HB⟩
def vernierlaw13_FconvWhole.Pure : Prop := ∀ (a0 : Int) (a1 : Int), (Lit.int .u64 a0).wf = true → (Lit.int .i64 a1).wf = true → ∃ k, vernierlaw13_FconvWhole.f k a0 a1 = some true
theorem vernierlaw13_FconvWhole.walk (P : vernierlaw13_FconvWhole.Pure) (a0 : Int) (a1 : Int) (w : World) (w0 : (Lit.int .u64 a0).wf = true) (w1 : (Lit.int .i64 a1).wf = true) :
    Calls Try.prog 3 #[.int .u64 a0, .int .i64 a1] w fun e w' => e = .returned (.bool true) ∧ Below w.heap.size w w' := by
  obtain ⟨k, h⟩ := P a0 a1 w0 w1
  refine (vernierlaw13_FconvWhole.calls k a0 a1 true w h).mono ?_
  rintro e w' ⟨rfl, hd⟩
  exact ⟨rfl, hd⟩
end Go.Proofs.Ytjbpchebabhoeab.P
end
section
set_option linter.unusedVariables false
set_option linter.unusedSimpArgs false
namespace Go.Proofs.Ytjbpchebabhoeab.Bt
open Go.RowKit Go.Proofs.YtjbpchebabhoeabW.PrintWords
theorem w64 {x : Int} (h0 : -9223372036854775808 ≤ x) (h1 : x < 9223372036854775808) : wrap64 x = x := by unfold wrap64; omega
theorem u64 (x : Int) : IntKind.u64.wrap x = x % 18446744073709551616 := IntKind.wrap_u64 x
theorem u64_in {x : Int} (h0 : 0 ≤ x) (h1 : x < 18446744073709551616) : IntKind.u64.wrap x = x := by rw [u64]; omega
theorem and_mask (k : Nat) (hk : k ≤ 64) {x : Int} (h0 : 0 ≤ x) (h1 : x < 18446744073709551616) : bits .and .u64 x (((2 ^ k - 1 : Nat)) : Int) = x % ((2 ^ k : Nat) : Int) := by
  obtain ⟨n, rfl⟩ := Int.eq_ofNat_of_zero_le h0
  have hp : 2 ^ k ≤ 2 ^ 64 := Nat.pow_le_pow_right (by omega) hk
  rw [bits_and_u64_nat n (2 ^ k - 1) (by omega) (by omega), Nat.and_two_pow_sub_one_eq_mod]
  rfl
theorem and_2047 {x : Int} (h0 : 0 ≤ x) (h1 : x < 18446744073709551616) : bits .and .u64 x 2047 = x % 2048 := and_mask 11 (by omega) h0 h1
theorem and_frac {x : Int} (h0 : 0 ≤ x) (h1 : x < 18446744073709551616) : bits .and .u64 x 4503599627370495 = x % 4503599627370496 := and_mask 52 (by omega) h0 h1
theorem and_1 {x : Int} (h0 : 0 ≤ x) (h1 : x < 18446744073709551616) : bits .and .u64 x 1 = x % 2 := and_mask 1 (by omega) h0 h1
theorem and_m32 {x : Int} (h0 : 0 ≤ x) (h1 : x < 18446744073709551616) : bits .and .u64 x 4294967295 = x % 4294967296 := and_mask 32 (by omega) h0 h1
theorem testBit63 (n : Nat) (h : n < 18446744073709551616) : n.testBit 63 = decide (9223372036854775808 ≤ n) := by
  rw [Nat.testBit_eq_decide_div_mod_eq]
  have : n / 2 ^ 63 = if 9223372036854775808 ≤ n then 1 else 0 := by
    split
    · omega
    · omega
  rw [this]
  split <;> simp_all
theorem and_63 (n : Nat) : n &&& 2 ^ 63 = if n.testBit 63 then 2 ^ 63 else 0 := by
  apply Nat.eq_of_testBit_eq
  intro i
  rw [Nat.testBit_and, Nat.testBit_two_pow]
  by_cases hi : 63 = i
  · subst hi
    by_cases hb : n.testBit 63 = true
    · rw [if_pos hb, hb]; rfl
    · rw [if_neg hb]; simp at hb; rw [hb]; rfl
  · have : decide (63 = i) = false := by simp [hi]
    rw [this, Bool.and_false]
    split
    · rw [Nat.testBit_two_pow, this]
    · simp
theorem and_sign {x : Int} (h0 : 0 ≤ x) (h1 : x < 18446744073709551616) : bits .and .u64 x 9223372036854775808 = if 9223372036854775808 ≤ x then 9223372036854775808 else 0 := by
  obtain ⟨n, rfl⟩ := Int.eq_ofNat_of_zero_le h0
  have e := bits_and_u64_nat n (2 ^ 63) (by omega) (by decide)
  rw [and_63, testBit63 n (by omega)] at e
  refine Eq.trans e ?_
  by_cases h : 9223372036854775808 ≤ n
  · rw [if_pos (show decide (9223372036854775808 ≤ n) = true by simpa using h), if_pos (by omega)]; rfl
  · rw [if_neg (show ¬ decide (9223372036854775808 ≤ n) = true by simpa using h), if_neg (by omega)]; rfl
theorem or_add_nat (k a b : Nat) (hb : b < 2 ^ k) (h : 2 ^ k * a + b < 18446744073709551616) : bits .or .u64 ((2 ^ k * a : Nat) : Int) (b : Int) = ((2 ^ k * a + b : Nat) : Int) := by
  rw [bits_or_u64_nat _ _ (by omega) (by omega), Nat.two_pow_add_eq_or_of_lt hb]
theorem or_comm_nat (a b : Nat) (ha : a < 18446744073709551616) (hb : b < 18446744073709551616) : bits .or .u64 (a : Int) (b : Int) = bits .or .u64 (b : Int) (a : Int) := by
  rw [bits_or_u64_nat a b ha hb, bits_or_u64_nat b a hb ha, Nat.or_comm]
theorem or_hidden {x : Int} (h0 : 0 ≤ x) (h1 : x < 4503599627370496) : bits .or .u64 x 4503599627370496 = x + 4503599627370496 := by
  obtain ⟨n, rfl⟩ := Int.eq_ofNat_of_zero_le h0
  have e := or_add_nat 52 1 n (by omega) (by omega)
  have c := or_comm_nat n 4503599627370496 (by omega) (by omega)
  refine Eq.trans c ?_
  refine Eq.trans e ?_
  omega
theorem or_sign {z x : Int} (hz : z = 0 ∨ z = 9223372036854775808) (h0 : 0 ≤ x) (h1 : x < 9223372036854775808) : bits .or .u64 z x = z + x := by
  obtain ⟨n, rfl⟩ := Int.eq_ofNat_of_zero_le h0
  rcases hz with rfl | rfl
  · have e := or_add_nat 63 0 n (by omega) (by omega)
    refine Eq.trans e ?_
    omega
  · have e := or_add_nat 63 1 n (by omega) (by omega)
    refine Eq.trans e ?_
    omega
theorem or_52 {z x : Int} (hz0 : 0 ≤ z) (hz : z % 4503599627370496 = 0) (hz1 : z < 18446744073709551616) (h0 : 0 ≤ x) (h1 : x < 4503599627370496) : bits .or .u64 z x = z + x := by
  obtain ⟨n, rfl⟩ := Int.eq_ofNat_of_zero_le h0
  obtain ⟨m, rfl⟩ := Int.eq_ofNat_of_zero_le hz0
  have e := or_add_nat 52 (m / 4503599627370496) n (by omega) (by omega)
  have e2 : 2 ^ 52 * (m / 4503599627370496) = m := by omega
  rw [e2] at e
  refine Eq.trans e ?_
  omega
theorem xor_nat (a b : Nat) (ha : a < 18446744073709551616) (hb : b < 18446744073709551616) : bits .xor .u64 (a : Int) (b : Int) = ((a ^^^ b : Nat) : Int) := by
  have hx : a ^^^ b < 2 ^ 64 := Nat.xor_lt_two_pow (by omega) (by omega)
  have h1 : (BitVec.ofInt 64 (a : Int)).toNat = a := by
    rw [BitVec.ofInt_natCast, BitVec.toNat_ofNat]; exact Nat.mod_eq_of_lt (by omega)
  have h2 : (BitVec.ofInt 64 (b : Int)).toNat = b := by
    rw [BitVec.ofInt_natCast, BitVec.toNat_ofNat]; exact Nat.mod_eq_of_lt (by omega)
  show IntKind.u64.wrap ((BitVec.ofInt 64 (a : Int) ^^^ BitVec.ofInt 64 (b : Int)).toNat : Int) = _
  rw [BitVec.toNat_xor, h1, h2, u64]
  omega
theorem andNot_nat (a b : Nat) (ha : a < 18446744073709551616) (hb : b < 18446744073709551616) : bits .andNot .u64 (a : Int) (b : Int) = ((a &&& (18446744073709551615 - b) : Nat) : Int) := by
  have hx : a &&& (18446744073709551615 - b) < 2 ^ 64 := Nat.and_lt_two_pow _ (by omega)
  have h1 : (BitVec.ofInt 64 (a : Int)).toNat = a := by
    rw [BitVec.ofInt_natCast, BitVec.toNat_ofNat]; exact Nat.mod_eq_of_lt (by omega)
  have h2 : (BitVec.ofInt 64 (b : Int)).toNat = b := by
    rw [BitVec.ofInt_natCast, BitVec.toNat_ofNat]; exact Nat.mod_eq_of_lt (by omega)
  show IntKind.u64.wrap ((BitVec.ofInt 64 (a : Int) &&& ~~~BitVec.ofInt 64 (b : Int)).toNat : Int) = _
  rw [BitVec.toNat_and, BitVec.toNat_not, h1, h2, u64]
  have e : 2 ^ 64 - 1 - b = 18446744073709551615 - b := by omega
  rw [e]
  omega
theorem andNot_sign {x : Int} (h0 : 0 ≤ x) (h1 : x < 18446744073709551616) : bits .andNot .u64 x 9223372036854775808 = x % 9223372036854775808 := by
  obtain ⟨n, rfl⟩ := Int.eq_ofNat_of_zero_le h0
  have e := andNot_nat n 9223372036854775808 (by omega) (by omega)
  have e2 : n &&& (18446744073709551615 - 9223372036854775808) = n % 2 ^ 63 := by
    rw [show 18446744073709551615 - 9223372036854775808 = 2 ^ 63 - 1 from rfl, Nat.and_two_pow_sub_one_eq_mod]
  rw [e2] at e
  refine Eq.trans e ?_
  omega
theorem xor_split (n : Nat) (h : n < 9223372036854775808) : n ^^^ 9223372036854775808 = n + 9223372036854775808 := by
  have e := Nat.two_pow_add_eq_or_of_lt (i := 63) (a := 1) (b := n) (by omega)
  rw [show n + 9223372036854775808 = 2 ^ 63 * 1 + n by omega, e, Nat.mul_one]
  change n ^^^ 2 ^ 63 = 2 ^ 63 ||| n
  apply Nat.eq_of_testBit_eq
  intro i
  rw [Nat.testBit_xor, Nat.testBit_or, Nat.testBit_two_pow]
  by_cases hi : 63 = i
  · subst hi
    have : n.testBit 63 = false := Nat.testBit_lt_two_pow (by omega)
    rw [this]; rfl
  · have : decide (63 = i) = false := by simp [hi]
    rw [this, Bool.xor_false, Bool.false_or]
theorem xor_sign {x : Int} (h0 : 0 ≤ x) (h1 : x < 18446744073709551616) : bits .xor .u64 x 9223372036854775808 = if 9223372036854775808 ≤ x then x - 9223372036854775808 else x + 9223372036854775808 := by
  obtain ⟨n, rfl⟩ := Int.eq_ofNat_of_zero_le h0
  have e := xor_nat n 9223372036854775808 (by omega) (by omega)
  refine Eq.trans e ?_
  by_cases h : 9223372036854775808 ≤ n
  · rw [if_pos (by omega)]
    have e1 := xor_split (n - 9223372036854775808) (by omega)
    have e2 : n ^^^ 9223372036854775808 = n - 9223372036854775808 := by
      rw [show n = (n - 9223372036854775808) ^^^ 9223372036854775808 by rw [e1]; omega, Nat.xor_assoc, Nat.xor_self, Nat.xor_zero, e1]
      omega
    rw [e2]; omega
  · rw [if_neg (by omega), xor_split n (by omega)]; omega
theorem xor_and_sign {x y : Int} (hx0 : 0 ≤ x) (hx1 : x < 18446744073709551616) (hy0 : 0 ≤ y) (hy1 : y < 18446744073709551616) :
    bits .and .u64 (bits .xor .u64 x y) 9223372036854775808 = if (9223372036854775808 ≤ x) = (9223372036854775808 ≤ y) then 0 else 9223372036854775808 := by
  obtain ⟨n, rfl⟩ := Int.eq_ofNat_of_zero_le hx0
  obtain ⟨m, rfl⟩ := Int.eq_ofNat_of_zero_le hy0
  have hx : n ^^^ m < 2 ^ 64 := Nat.xor_lt_two_pow (by omega) (by omega)
  rw [xor_nat n m (by omega) (by omega), and_sign (by omega) (by omega)]
  have t := testBit63 (n ^^^ m) (by omega)
  rw [Nat.testBit_xor, testBit63 n (by omega), testBit63 m (by omega)] at t
  by_cases h1 : 9223372036854775808 ≤ n <;> by_cases h2 : 9223372036854775808 ≤ m
  · rw [decide_eq_true h1, decide_eq_true h2] at t
    have := of_decide_eq_false t.symm
    rw [if_neg (by omega), if_pos (propext ⟨fun _ => by omega, fun _ => by omega⟩)]
  · rw [decide_eq_true h1, decide_eq_false h2] at t
    have := of_decide_eq_true t.symm
    rw [if_pos (by omega), if_neg (fun e => h2 (by have : (9223372036854775808 : Int) ≤ (m : Int) := e ▸ (show (9223372036854775808 : Int) ≤ (n : Int) by omega); omega))]
  · rw [decide_eq_false h1, decide_eq_true h2] at t
    have := of_decide_eq_true t.symm
    rw [if_pos (by omega), if_neg (fun e => h1 (by have : (9223372036854775808 : Int) ≤ (n : Int) := e ▸ (show (9223372036854775808 : Int) ≤ (m : Int) by omega); omega))]
  · rw [decide_eq_false h1, decide_eq_false h2] at t
    have := of_decide_eq_false t.symm
    rw [if_neg (by omega), if_pos (propext ⟨fun _ => by omega, fun _ => by omega⟩)]
theorem shl_u64 {x n : Int} (hn0 : 0 ≤ n) (hn : n ≤ 64) : shl .u64 x n = (x * (2 ^ n.toNat : Nat)) % 18446744073709551616 := by
  unfold shl
  rw [Nat.min_eq_left (show n.toNat ≤ IntKind.u64.bits from by show n.toNat ≤ 64; omega), u64]
  rw [Int.natCast_pow]; rfl
theorem shl_far {x n : Int} (hn : 64 ≤ n) : shl .u64 x n = 0 := by
  unfold shl
  rw [Nat.min_eq_right (show IntKind.u64.bits ≤ n.toNat from by show 64 ≤ n.toNat; omega), u64]
  show x * 2 ^ 64 % 18446744073709551616 = 0
  omega
theorem shr_u64 {x n : Int} (hn0 : 0 ≤ n) (hn : n ≤ 64) : shr .u64 x n = x / (2 ^ n.toNat : Nat) := by
  unfold shr
  rw [Nat.min_eq_left (show n.toNat ≤ IntKind.u64.bits from by show n.toNat ≤ 64; omega)]
  rw [Int.natCast_pow]; rfl
theorem shr_far {x n : Int} (h0 : 0 ≤ x) (h1 : x < 18446744073709551616) (hn : 64 ≤ n) : shr .u64 x n = 0 := by
  unfold shr
  rw [Nat.min_eq_right (show IntKind.u64.bits ≤ n.toNat from by show 64 ≤ n.toNat; omega)]
  show x / 2 ^ 64 = 0
  omega
def blen (n : Nat) : Nat := if n = 0 then 0 else n.log2 + 1
theorem blen_zero : blen 0 = 0 := rfl
theorem blen_le {n k : Nat} (h : n < 2 ^ k) : blen n ≤ k := by
  unfold blen
  split
  · omega
  · rename_i h0
    have := (Nat.log2_lt h0).2 h
    omega
theorem lt_blen (n : Nat) : n < 2 ^ blen n := by
  unfold blen
  split
  · omega
  · exact Nat.lt_log2_self
theorem blen_ge {n : Nat} (h : 0 < n) : 2 ^ (blen n - 1) ≤ n := by
  unfold blen
  rw [if_neg (by omega)]
  simpa using Nat.log2_self_le (by omega)
theorem blen_pos {n : Nat} (h : 0 < n) : 0 < blen n := by unfold blen; rw [if_neg (by omega)]; omega
theorem blen_eq {n k : Nat} (h0 : 2 ^ k ≤ n) (h1 : n < 2 ^ (k + 1)) : blen n = k + 1 := by
  have a := blen_le h1
  have hp : 0 < n := Nat.lt_of_lt_of_le (Nat.two_pow_pos k) h0
  have b := lt_blen n
  have c : k < blen n := by
    have := Nat.lt_of_le_of_lt h0 b
    exact (Nat.pow_lt_pow_iff_right (by omega)).1 this
  omega
theorem blen_lt_iff {n k : Nat} : blen n ≤ k ↔ n < 2 ^ k := by
  constructor
  · intro h
    exact Nat.lt_of_lt_of_le (lt_blen n) (Nat.pow_le_pow_right (by omega) h)
  · exact blen_le
theorem blen_mul_pow {n : Nat} (h : 0 < n) (k : Nat) : blen (n * 2 ^ k) = blen n + k := by
  have h1 := lt_blen n
  have h2 := blen_ge h
  have h3 := blen_pos h
  obtain ⟨m, hm⟩ : ∃ m, blen n = m + 1 := ⟨blen n - 1, by omega⟩
  rw [hm] at h1 h2 ⊢
  simp at h2
  rw [show m + 1 + k = (m + k) + 1 by omega]
  apply blen_eq
  · rw [Nat.pow_add]; exact Nat.mul_le_mul_right _ h2
  · rw [show m + k + 1 = (m + 1) + k by omega, Nat.pow_add]
    exact Nat.mul_lt_mul_of_pos_right h1 (Nat.two_pow_pos k)
theorem blen_mono {n m : Nat} (h : n ≤ m) : blen n ≤ blen m := blen_le (Nat.lt_of_le_of_lt h (lt_blen m))
theorem bitLen_eq (n : Nat) (h : n < 18446744073709551616) : Lib.bitLen n = blen n := by
  rcases Nat.eq_zero_or_pos n with rfl | hp
  · rfl
  · have := Lib.bitLenAux_bounds 64 n (by omega) (by omega)
    unfold Lib.bitLen
    obtain ⟨m, hm⟩ : ∃ m, Lib.bitLenAux 64 n = m + 1 := ⟨Lib.bitLenAux 64 n - 1, by omega⟩
    rw [hm] at this ⊢
    simp at this
    exact (blen_eq this.1 this.2).symm
end Go.Proofs.Ytjbpchebabhoeab.Bt
end
section
set_option linter.unusedVariables false
set_option linter.unusedSimpArgs false
namespace Go.Proofs.Ytjbpchebabhoeab.Fl
open Go.RowKit Go.Proofs.Ytjbpchebabhoeab.P Go.Proofs.Ytjbpchebabhoeab.X Go.Proofs.Ytjbpchebabhoeab.Bt Go.Proofs.YtjbpchebabhoeabW.PrintWords
def Word (a : Int) : Prop := 0 ≤ a ∧ a < 18446744073709551616
def cls (a : Int) : Int := if a / 4503599627370496 % 2048 = 2047 then (if a % 4503599627370496 = 0 then 2 else 3) else (if a / 4503599627370496 % 2048 = 0 then (if a % 4503599627370496 = 0 then 0 else 1) else 1)
def sgn (a : Int) : Bool := decide (9223372036854775808 ≤ a)
def sig (a : Int) : Nat := if a / 4503599627370496 % 2048 = 0 then (a % 4503599627370496).toNat else (a % 4503599627370496).toNat + 4503599627370496
def xpo (a : Int) : Int := if a / 4503599627370496 % 2048 = 0 then -1074 else a / 4503599627370496 % 2048 - 1075
def sgv (neg : Bool) : Int := if neg = true then 9223372036854775808 else 0
theorem Class_f {k : Nat} (hk : 1 ≤ k) {a : Int} (h : Word a) : parts_Class.f k a = some (cls a) := by
  obtain ⟨k, rfl⟩ : ∃ m, k = m + 1 := ⟨k - 1, by omega⟩
  obtain ⟨h0, h1⟩ := h
  unfold parts_Class.f cls
  rw [and_2047 (by omega) (by omega), and_frac h0 h1]
  by_cases e : a / 4503599627370496 % 2048 = 2047
  · rw [if_pos e, if_pos e]
    simp only [parts_Class.j0]
    by_cases f : a % 4503599627370496 = 0
    · rw [f]; simp [e]
    · rw [if_pos (by simpa using f), if_neg f]
  · rw [if_neg e, if_neg e]
    simp only [parts_Class.j0]
    rw [if_neg (by decide), if_neg e]
    split
    · split <;> rfl
    · rfl
theorem sign_ne {a : Int} (h : Word a) : ((Go.bits .and .u64 a 9223372036854775808) != 0) = sgn a := by
  rw [and_sign h.1 h.2]
  unfold sgn
  by_cases e : 9223372036854775808 ≤ a
  · rw [if_pos e, decide_eq_true e]; rfl
  · rw [if_neg e, decide_eq_false e]; rfl
theorem Split_f {a : Int} (h : Word a) (hf : a / 4503599627370496 % 2048 ≠ 2047) : parts_Split.f a = some (sgn a, (sig a : Int), xpo a, 0) := by
  have hs := sign_ne h
  obtain ⟨h0, h1⟩ := h
  unfold parts_Split.f sig xpo
  rw [and_2047 (by omega) (by omega), w64 (x := a / 4503599627370496 % 2048) (by omega) (by omega), and_frac h0 h1, if_neg hf, hs]
  by_cases e : a / 4503599627370496 % 2048 = 0
  · rw [if_pos e, if_pos e, if_pos e, Int.toNat_of_nonneg (by omega)]
  · rw [if_neg e, if_neg e, if_neg e, or_hidden (by omega) (by omega), w64 (by omega) (by omega)]
    have : ((a % 4503599627370496).toNat + 4503599627370496 : Nat) = (a % 4503599627370496 + 4503599627370496 : Int) := by omega
    rw [this]
theorem Split_inf {a : Int} (h : Word a) (hf : a / 4503599627370496 % 2048 = 2047) : parts_Split.f a = some (false, 0, 0, 23) := by
  obtain ⟨h0, h1⟩ := h
  unfold parts_Split.f
  rw [and_2047 (by omega) (by omega), w64 (x := a / 4503599627370496 % 2048) (by omega) (by omega), if_pos hf]
theorem Zero_f (neg : Bool) : parts_Zero.f neg = some (sgv neg) := by cases neg <;> rfl
theorem sgv_or (neg : Bool) : sgv neg = 0 ∨ sgv neg = 9223372036854775808 := by cases neg <;> simp [sgv]
theorem Inf_f (neg : Bool) : parts_Inf.f neg = some (sgv neg + 9218868437227405312) := by
  unfold parts_Inf.f
  rw [Zero_f]
  simp only [Option.bind_some]
  rw [or_sign (sgv_or neg) (by omega) (by omega)]
theorem two_words (hi lo n m B : Nat) (hW : 2 ^ n * 2 ^ m = B) (hl : lo < B) :
    (hi * B + lo) / 2 ^ n = hi * 2 ^ m + lo / 2 ^ n ∧ lo / 2 ^ n < 2 ^ m ∧ (hi * 2 ^ m + lo / 2 ^ n) / B = hi / 2 ^ n ∧ (hi * 2 ^ m + lo / 2 ^ n) % B = hi % 2 ^ n * 2 ^ m + lo / 2 ^ n ∧ hi * 2 ^ m % B = 2 ^ m * (hi % 2 ^ n) ∧ 2 ^ m * (hi % 2 ^ n) + lo / 2 ^ n < B := by
  have hn0 := Nat.two_pow_pos n
  have hm0 := Nat.two_pow_pos m
  have hlo : lo / 2 ^ n < 2 ^ m := by rw [Nat.div_lt_iff_lt_mul hn0, Nat.mul_comm, hW]; exact hl
  have h2 : hi % 2 ^ n < 2 ^ n := Nat.mod_lt _ hn0
  have h3 : (hi % 2 ^ n + 1) * 2 ^ m ≤ 2 ^ n * 2 ^ m := Nat.mul_le_mul_right _ h2
  rw [hW, Nat.add_mul] at h3
  refine ⟨?_, hlo, ?_, ?_, ?_, ?_⟩
  · rw [← hW, show hi * (2 ^ n * 2 ^ m) + lo = lo + 2 ^ n * (hi * 2 ^ m) by rw [Nat.add_comm, Nat.mul_left_comm], Nat.add_mul_div_left _ _ hn0, Nat.add_comm]
  · rw [← hW, Nat.mul_comm (2 ^ n), ← Nat.div_div_eq_div_mul, Nat.add_comm, Nat.add_mul_div_right _ _ hm0, Nat.div_eq_of_lt hlo, Nat.zero_add]
  · have h1 : hi * 2 ^ m = B * (hi / 2 ^ n) + hi % 2 ^ n * 2 ^ m := by
      conv => lhs; rw [← Nat.div_add_mod hi (2 ^ n)]
      rw [Nat.add_mul, ← hW, Nat.mul_right_comm]
    rw [h1, Nat.add_assoc, Nat.mul_add_mod]
    apply Nat.mod_eq_of_lt
    omega
  · rw [← hW, Nat.mul_comm hi, Nat.mul_comm (2 ^ n), Nat.mul_mod_mul_left]
  · rw [Nat.mul_comm]; omega
theorem shr_f {N hi lo : Nat} (hN : N = hi * 18446744073709551616 + lo) (hh : hi < 18446744073709551616) (hl : lo < 18446744073709551616) (n : Nat) (hn : n < 9223372036854775808) :
    parts_wide_shr.f hi lo n = some (((N / 2 ^ n / 18446744073709551616 : Nat) : Int), ((N / 2 ^ n % 18446744073709551616 : Nat) : Int)) := by
  unfold parts_wide_shr.f
  by_cases a : (n : Int) ≥ 128
  · rw [if_pos a]
    have hN : N < 2 ^ n := by
      have : 2 ^ 128 ≤ 2 ^ n := Nat.pow_le_pow_right (by omega) (by omega)
      omega
    rw [Nat.div_eq_of_lt hN]; rfl
  · rw [if_neg a]
    by_cases b : (n : Int) ≥ 64
    · rw [if_pos b, w64 (by omega) (by omega), if_pos (by omega), shr_u64 (by omega) (by omega)]
      have e : N / 2 ^ n = hi / 2 ^ (n - 64) := by
        have e0 : 2 ^ n = 2 ^ 64 * 2 ^ (n - 64) := by rw [← Nat.pow_add, show 64 + (n - 64) = n by omega]
        rw [e0, ← Nat.div_div_eq_div_mul, show N / 2 ^ 64 = hi by omega]
      have hlt : hi / 2 ^ (n - 64) < 18446744073709551616 := Nat.lt_of_le_of_lt (Nat.div_le_self _ _) hh
      rw [e, Nat.div_eq_of_lt hlt, Nat.mod_eq_of_lt hlt]
      rw [show ((n : Int) - 64).toNat = n - 64 by omega, Int.natCast_ediv]
      rfl
    · rw [if_neg b]
      by_cases c : (n : Int) = 0
      · rw [if_pos c]
        obtain rfl : n = 0 := by omega
        simp only [Nat.pow_zero, Nat.div_one]
        have e1 : N / 18446744073709551616 = hi := by omega
        have e2 : N % 18446744073709551616 = lo := by omega
        rw [e1, e2]
      · rw [if_neg c, if_pos (by omega), w64 (by omega) (by omega), if_pos (by omega), shr_u64 (by omega) (by omega), shr_u64 (by omega) (by omega), shl_u64 (by omega) (by omega)]
        obtain ⟨m, hm⟩ : ∃ m, n + m = 64 := ⟨64 - n, by omega⟩
        have hmn : ((64 : Int) - n).toNat = m := by omega
        rw [hmn, show ((n : Int)).toNat = n by omega]
        have hW : 2 ^ n * 2 ^ m = 18446744073709551616 := by rw [← Nat.pow_add, hm]
        obtain ⟨e, hlo, e1, e2, e3, e4⟩ := two_words hi lo n m _ hW hl
        rw [← hN] at e
        have e5 : (hi : Int) * ((2 ^ m : Nat) : Int) % 18446744073709551616 = ((2 ^ m * (hi % 2 ^ n) : Nat) : Int) := by
          rw [← e3, ← Int.natCast_mul]
          omega
        have hb := or_add_nat m (hi % 2 ^ n) (lo / 2 ^ n) hlo e4
        have hc := or_comm_nat (lo / 2 ^ n) (2 ^ m * (hi % 2 ^ n)) (by omega) (by omega)
        rw [e, e1, e2, e5, Int.natCast_ediv hi, ← Int.natCast_ediv lo, hc, hb, Nat.mul_comm (hi % 2 ^ n)]
theorem len_f {N hi lo : Nat} (hN : N = hi * 18446744073709551616 + lo) (hh : hi < 18446744073709551616) (hl : lo < 18446744073709551616) : parts_wide_len.f hi lo = some ((blen N : Nat) : Int) := by
  unfold parts_wide_len.f bits_Len64.f
  rw [if_pos (show 0 ≤ (lo : Int) ∧ (lo : Int) ≤ 18446744073709551615 by omega), if_pos (show 0 ≤ (hi : Int) ∧ (hi : Int) ≤ 18446744073709551615 by omega)]
  simp only [Option.bind_some, Int.toNat_natCast]
  rw [bitLen_eq hi hh, bitLen_eq lo hl]
  by_cases e : (hi : Int) = 0
  · rw [if_pos e]
    obtain rfl : hi = 0 := by omega
    rw [hN, Nat.zero_mul, Nat.zero_add]
  · rw [if_neg e]
    have h1 := blen_le (n := hi) (k := 64) (by omega)
    rw [w64 (by omega) (by omega)]
    have hp : 0 < hi := by omega
    have h2 := blen_ge hp
    have h3 := lt_blen hi
    have h4 := blen_pos hp
    obtain ⟨m, hm⟩ : ∃ m, blen hi = m + 1 := ⟨blen hi - 1, by omega⟩
    rw [hm] at h2 h3 ⊢
    rw [Nat.add_sub_cancel] at h2
    have e2 : blen N = (64 + m) + 1 := by
      apply blen_eq
      · rw [Nat.pow_add, Nat.mul_comm]
        have := Nat.mul_le_mul_right (2 ^ 64) h2
        omega
      · rw [show 64 + m + 1 = 64 + (m + 1) by omega, Nat.pow_add, Nat.mul_comm]
        have := Nat.mul_le_mul_right (2 ^ 64) h3
        rw [Nat.succ_mul] at this
        omega
    rw [e2]
    congr 1
theorem bit_step (N i : Nat) : N % 2 ^ (i + 1) = N % 2 ^ i + 2 ^ i * (N / 2 ^ i % 2) := Nat.mod_pow_succ
theorem low_ne {N i m : Nat} (h0 : N % 2 ^ i = 0) (hb : N / 2 ^ i % 2 = 1) (him : i < m) : N % 2 ^ m ≠ 0 := by
  have h := bit_step N i
  rw [h0, hb, Nat.zero_add, Nat.mul_one] at h
  intro hz
  have hd : 2 ^ (i + 1) ∣ 2 ^ m := Nat.pow_dvd_pow 2 (by omega)
  have : N % 2 ^ (i + 1) = 0 := Nat.mod_eq_zero_of_dvd (Nat.dvd_trans hd (Nat.dvd_of_mod_eq_zero hz))
  have := Nat.two_pow_pos i
  omega
theorem low_eq {N i : Nat} (h0 : N % 2 ^ i = 0) (hb : N / 2 ^ i % 2 = 0) : N % 2 ^ (i + 1) = 0 := by
  rw [bit_step, h0, hb, Nat.zero_add, Nat.mul_zero]
theorem par (N : Nat) : ((N % 18446744073709551616 : Nat) : Int) % 2 = ((N % 2 : Nat) : Int) := by omega
theorem cut_loop {N hi lo : Nat} (hN : N = hi * 18446744073709551616 + lo) (hh : hi < 18446744073709551616) (hl : lo < 18446744073709551616) (q : Int) (half : Bool) (m : Nat) (hm : m ≤ 128) (d : Nat) : ∀ (i k : Nat), i + d = m → d < k → N % 2 ^ i = 0 →
    parts_wide_cut.l0 k q half m i hi lo = some (q, half, decide (N % 2 ^ m ≠ 0)) := by
  induction d with
  | zero =>
    intro i k hi' hk h0
    obtain ⟨k, rfl⟩ : ∃ m, k = m + 1 := ⟨k - 1, by omega⟩
    obtain rfl : i = m := by omega
    simp only [parts_wide_cut.l0]
    rw [if_neg (by omega), decide_eq_false (fun h => h h0)]
  | succ d ih =>
    intro i k hi' hk h0
    obtain ⟨k, rfl⟩ : ∃ m, k = m + 1 := ⟨k - 1, by omega⟩
    simp only [parts_wide_cut.l0]
    rw [if_pos (by omega), shr_f hN hh hl i (by omega)]
    simp only [Option.bind_some]
    rw [and_1 (by omega) (by omega), par]
    by_cases e : ((N / 2 ^ i % 2 : Nat) : Int) = 1
    · rw [if_pos e, decide_eq_true (low_ne h0 (by omega) (by omega))]
    · rw [if_neg e, w64 (by omega) (by omega)]
      exact ih (i + 1) k (by omega) (by omega) (low_eq h0 (by omega))
theorem cut_f {N hi lo : Nat} (hN : N = hi * 18446744073709551616 + lo) (hh : hi < 18446744073709551616) (hl : lo < 18446744073709551616) (n : Nat) (hn0 : 0 < n) (hn : n < 9223372036854775808) {k : Nat} (hk : 200 ≤ k) :
    parts_wide_cut.f k hi lo n = some (((N / 2 ^ n % 18446744073709551616 : Nat) : Int), decide (N / 2 ^ (n - 1) % 2 = 1), decide (N % 2 ^ (n - 1) ≠ 0)) := by
  unfold parts_wide_cut.f
  rw [if_neg (by omega), shr_f hN hh hl n hn, w64 (by omega) (by omega), show ((n : Int) - 1) = ((n - 1 : Nat) : Int) by omega, shr_f hN hh hl (n - 1) (by omega)]
  simp only [Option.bind_some]
  rw [and_1 (by omega) (by omega), par]
  have hm : mn ((n - 1 : Nat) : Int) 128 = ((min (n - 1) 128 : Nat) : Int) := by unfold mn; split <;> omega
  rw [hm]
  have e1 : (((N / 2 ^ (n - 1) % 2 : Nat) : Int) == 1) = decide (N / 2 ^ (n - 1) % 2 = 1) := by
    rw [Bool.eq_iff_iff, beq_iff_eq, decide_eq_true_iff]
    omega
  have e2 : decide (N % 2 ^ (min (n - 1) 128) ≠ 0) = decide (N % 2 ^ (n - 1) ≠ 0) := by
    by_cases hc : n - 1 ≤ 128
    · rw [Nat.min_eq_left hc]
    · rw [Nat.min_eq_right (by omega)]
      have hN : N < 2 ^ 128 := by omega
      have hN2 : N < 2 ^ (n - 1) := Nat.lt_of_lt_of_le hN (Nat.pow_le_pow_right (by omega) (by omega))
      rw [Nat.mod_eq_of_lt hN, Nat.mod_eq_of_lt hN2]
  rw [e1]
  have hl := cut_loop hN hh hl ((N / 2 ^ n % 18446744073709551616 : Nat) : Int) (decide (N / 2 ^ (n - 1) % 2 = 1)) (min (n - 1) 128) (by omega) (min (n - 1) 128) 0 k (by omega) (by omega) (by rw [Nat.pow_zero, Nat.mod_one])
  rw [e2] at hl
  exact hl
theorem cut_up {hi lo : Nat} (hl : lo < 18446744073709551616) (n : Nat) (hn : n < 64) (k : Nat) (h : lo * 2 ^ n < 18446744073709551616) :
    parts_wide_cut.f k hi lo (-(n : Int)) = some (((lo * 2 ^ n : Nat) : Int), false, false) := by
  unfold parts_wide_cut.f
  rw [if_pos (by omega), w64 (by omega) (by omega), if_pos (by omega), shl_u64 (by omega) (by omega)]
  rw [show (- -(n : Int)).toNat = n by omega, ← Int.natCast_mul]
  congr 2
  omega
end Go.Proofs.Ytjbpchebabhoeab.Fl
end
section
set_option linter.unusedVariables false
set_option linter.unusedSimpArgs false
namespace Go.Proofs.Ytjbpchebabhoeab.Fl
open Go.RowKit Go.Proofs.Ytjbpchebabhoeab.P Go.Proofs.Ytjbpchebabhoeab.X Go.Proofs.Ytjbpchebabhoeab.Bt Go.Proofs.YtjbpchebabhoeabW.PrintWords
def upf (neg : Bool) (q : Nat) (half rest : Bool) (mode : Int) : Bool :=
  if mode = 1 then half else if mode = 2 then false else if mode = 3 then (if neg = true then false else (if half = true then true else rest)) else if mode = 4 then (if neg = true then (if half = true then true else rest) else false)
  else (if half = true then (if rest = true then true else decide (q % 2 = 1)) else false)
theorem up_f (neg : Bool) (q : Nat) (hq : q < 18446744073709551616) (half rest : Bool) (mode : Int) : parts_up.f neg q half rest mode = some (upf neg q half rest mode) := by
  unfold parts_up.f upf
  rw [and_1 (by omega) (by omega)]
  have e : ((q : Int) % 2 == 1) = decide (q % 2 = 1) := by
    rw [Bool.eq_iff_iff, beq_iff_eq, decide_eq_true_iff]
    omega
  rw [e]
  repeat' split
  all_goals rfl
def far (neg : Bool) (mode : Int) : Bool := if mode < 2 then true else if mode > 4 then true else if mode = 3 then !neg else if mode = 4 then neg else false
def ovr (neg : Bool) (mode : Int) : Int × Int := (sgv neg + (if far neg mode = true then 9218868437227405312 else 9218868437227405311), 20)
theorem greatest_f (neg : Bool) : parts_greatest.f neg = some (sgv neg + 9218868437227405311) := by
  unfold parts_greatest.f
  rw [Inf_f]
  simp only [Option.bind_some]
  rw [u64_in (by rcases sgv_or neg with h | h <;> rw [h] <;> omega) (by rcases sgv_or neg with h | h <;> rw [h] <;> omega)]
  congr 1
  omega
theorem over_f {k : Nat} (hk : 1 ≤ k) (neg : Bool) (mode : Int) : parts_over.f k neg mode = some (ovr neg mode) := by
  obtain ⟨k, rfl⟩ : ∃ m, k = m + 1 := ⟨k - 1, by omega⟩
  have h1 : parts_over.j0 (k + 1) neg true = some (sgv neg + 9218868437227405312, 20) := by
    simp only [parts_over.j0]; rw [if_true, Inf_f]; rfl
  have h2 : parts_over.j0 (k + 1) neg false = some (sgv neg + 9218868437227405311, 20) := by
    simp only [parts_over.j0]; rw [if_neg (by decide), greatest_f]; rfl
  unfold parts_over.f ovr far
  by_cases a : mode < 2
  · rw [if_pos a, if_pos a, h1]; rfl
  · rw [if_neg a, if_neg a]
    by_cases b : mode > 4
    · rw [if_pos b, if_pos b, h1]; rfl
    · rw [if_neg b, if_neg b]
      by_cases c : mode = 3
      · rw [if_pos c, if_pos c]
        cases neg
        · rw [if_neg (by decide), h1]; rfl
        · rw [if_pos rfl, if_neg (by omega), h2]; rfl
      · rw [if_neg c, if_neg c]
        by_cases d : mode = 4
        · rw [if_pos d, if_pos d]
          cases neg
          · rw [h2]; rfl
          · rw [h1]; rfl
        · rw [if_neg d, if_neg d, h2]; rfl
def pk (neg : Bool) (q : Nat) (e : Int) : Int := sgv neg + (if q < 4503599627370496 then (q : Int) else (e + 1075) * 4503599627370496 + ((q : Int) - 4503599627370496))
theorem put_f (neg : Bool) (q : Nat) (hq : q < 9007199254740992) (e : Int) (he0 : q < 4503599627370496 ∨ -1075 ≤ e) (he : q < 4503599627370496 ∨ e < 972) : parts_put.f neg q e = some (pk neg q e) := by
  unfold parts_put.f pk
  rw [Zero_f]
  simp only [Option.bind_some]
  by_cases c : (q : Int) < 4503599627370496
  · rw [if_pos c, if_pos (by omega), or_sign (sgv_or neg) (by omega) (by omega)]
  · rw [if_neg c, if_neg (by omega)]
    have he1 : -1075 ≤ e := by omega
    have he2 : e < 972 := by omega
    rw [w64 (by omega) (by omega), u64_in (x := e + 1075) (by omega) (by omega), u64_in (by omega) (by omega), and_frac (by omega) (by omega), or_sign (sgv_or neg) (by omega) (by omega)]
    rw [or_52 (by rcases sgv_or neg with h | h <;> rw [h] <;> omega) (by rcases sgv_or neg with h | h <;> rw [h] <;> omega) (by rcases sgv_or neg with h | h <;> rw [h] <;> omega) (by omega) (by omega)]
    congr 1
    omega
def fin (neg : Bool) (q : Nat) (e : Int) (half rest tiny : Bool) (mode : Int) : Int × Int :=
  let q1 := if upf neg q half rest mode = true then q + 1 else q
  let q2 := if q1 = 9007199254740992 then 4503599627370496 else q1
  let e2 := if q1 = 9007199254740992 then e + 1 else e
  if 4503599627370496 ≤ q2 ∧ 972 ≤ e2 then ovr neg mode else (pk neg q2 e2, if half = true ∨ rest = true then (if tiny = true then 24 else 16) else 0)
theorem tail_f {k : Nat} (hk : 10 ≤ k) (neg : Bool) (exp mode n : Int) (e : Int) (q : Nat) (half rest : Bool) (hq : q < 9007199254740992) (hx0 : -100000 ≤ exp) (hx1 : exp ≤ 100000) (hn0 : 0 ≤ n) (hn : n ≤ 1000) (he0 : -1074 ≤ e) (he : e ≤ 200000) :
    parts_Round.j1 k neg exp mode n e q half rest = some (fin neg q e half rest (decide (exp + n - 1 < -1022)) mode) := by
  have tail3 : ∀ (k : Nat) (fl : Int), 8 ≤ k → fl = (if half = true ∨ rest = true then (if decide (exp + n - 1 < -1022) = true then 24 else 16) else 0) →
      parts_Round.j3 k neg mode e q half rest fl = some (fin neg q e half rest (decide (exp + n - 1 < -1022)) mode) := by
    intro k fl hk hfl
    obtain ⟨k, rfl⟩ : ∃ m, k = m + 4 := ⟨k - 4, by omega⟩
    simp only [parts_Round.j3]
    rw [up_f neg q (by omega)]
    simp only [Option.bind_some]
    have j4 : ∀ q1 : Nat, q1 ≤ 9007199254740992 → parts_Round.j4 (k + 3) neg mode e q1 fl = some (if 4503599627370496 ≤ (if q1 = 9007199254740992 then 4503599627370496 else q1) ∧ 972 ≤ (if q1 = 9007199254740992 then e + 1 else e) then ovr neg mode else (pk neg (if q1 = 9007199254740992 then 4503599627370496 else q1) (if q1 = 9007199254740992 then e + 1 else e), fl)) := by
      intro q1 hq1
      simp only [parts_Round.j4]
      have j5 : ∀ (q2 : Nat) (e2 : Int), q2 < 9007199254740992 → -1074 ≤ e2 → e2 ≤ 300000 → parts_Round.j5 (k + 2) neg mode e2 q2 fl = some (if 4503599627370496 ≤ q2 ∧ 972 ≤ e2 then ovr neg mode else (pk neg q2 e2, fl)) := by
        intro q2 e2 hq2 h1 h2
        simp only [parts_Round.j5]
        have j6t : parts_Round.j6 (k + 1) neg mode e2 q2 fl true = some (ovr neg mode) := by
          simp only [parts_Round.j6]
          rw [if_true]
          by_cases hk0 : 1 ≤ k
          · rw [over_f hk0]; rfl
          · omega
        have j6f : (q2 < 4503599627370496 ∨ e2 < 972) → parts_Round.j6 (k + 1) neg mode e2 q2 fl false = some (pk neg q2 e2, fl) := by
          intro h
          simp only [parts_Round.j6]
          rw [if_neg (by decide), put_f neg q2 hq2 e2 (by omega) h]
          rfl
        by_cases c : (q2 : Int) ≥ 4503599627370496
        · rw [if_pos c, w64 (by omega) (by omega)]
          by_cases d : e2 + 1075 ≥ 2047
          · rw [decide_eq_true d, j6t, if_pos (by omega)]
          · rw [decide_eq_false d, j6f (by omega), if_neg (by omega)]
        · rw [if_neg c, j6f (by omega), if_neg (by omega)]
      by_cases c : (q1 : Int) = 9007199254740992
      · have c2 : q1 = 9007199254740992 := by omega
        rw [if_pos c, w64 (by omega) (by omega)]
        have := j5 4503599627370496 (e + 1) (by omega) (by omega) (by omega)
        rw [if_pos c2, if_pos c2]
        exact this
      · have c2 : ¬ q1 = 9007199254740992 := by omega
        rw [if_neg c, if_neg c2, if_neg c2]
        exact j5 q1 e (by omega) (by omega) (by omega)
    unfold fin
    rw [← hfl]
    by_cases u : upf neg q half rest mode = true
    · rw [if_pos u, u64_in (by omega) (by omega)]
      have := j4 (q + 1) (by omega)
      simp only [if_pos u]
      exact this
    · rw [if_neg u]
      simp only [if_neg u]
      exact j4 q (by omega)
  obtain ⟨k, rfl⟩ : ∃ m, k = m + 2 := ⟨k - 2, by omega⟩
  simp only [parts_Round.j1]
  have j2 : ∀ b : Bool, b = (if half = true then true else rest) → parts_Round.j2 (k + 1) neg exp mode n e q half rest 0 b = some (fin neg q e half rest (decide (exp + n - 1 < -1022)) mode) := by
    intro b hb
    simp only [parts_Round.j2]
    rw [w64 (x := exp + n) (by omega) (by omega), w64 (by omega) (by omega)]
    cases b with
    | true =>
      have h : half = true ∨ rest = true := by
        by_cases hh : half = true
        · exact .inl hh
        · rw [if_neg hh] at hb; exact .inr hb.symm
      rw [if_pos rfl]
      by_cases t : exp + n - 1 < -1022
      · rw [if_pos t]
        exact tail3 k _ (by omega) (by rw [if_pos h, if_pos (decide_eq_true t)]; rfl)
      · rw [if_neg t]
        exact tail3 k _ (by omega) (by rw [if_pos h, if_neg (by rw [decide_eq_false t]; decide)])
    | false =>
      have h : ¬ (half = true ∨ rest = true) := by
        rintro (hh | hh)
        · rw [if_pos hh] at hb; cases hb
        · by_cases hf : half = true
          · rw [if_pos hf] at hb; cases hb
          · rw [if_neg hf, hh] at hb; cases hb
      rw [if_neg (by decide)]
      exact tail3 k _ (by omega) (by rw [if_neg h])
  by_cases h : half = true
  · rw [if_pos h]; exact j2 true (by rw [if_pos h])
  · rw [if_neg h]; exact j2 rest (by rw [if_neg h])
def R (neg : Bool) (N : Nat) (exp : Int) (more : Bool) (mode : Int) : Int × Int :=
  let e := max (exp + blen N - 53) (-1074)
  if e ≤ exp then fin neg (N * 2 ^ (exp - e).toNat) e false more (decide (exp + blen N - 1 < -1022)) mode
  else fin neg (N / 2 ^ (e - exp).toNat) e (decide (N / 2 ^ ((e - exp).toNat - 1) % 2 = 1)) (decide (N % 2 ^ ((e - exp).toNat - 1) ≠ 0) || more) (decide (exp + blen N - 1 < -1022)) mode
def clamp (x : Int) : Int := mn (mx x (-16384)) 16384
theorem clamp_in {x : Int} (h0 : -16384 ≤ x) (h1 : x ≤ 16384) : clamp x = x := by
  unfold clamp mn mx
  split <;> split at * <;> omega
theorem clamp_bound (x : Int) : -16384 ≤ clamp x ∧ clamp x ≤ 16384 := by
  unfold clamp mn mx
  split <;> split at * <;> omega
theorem mul_pow_lt {N a b : Nat} (h : N < 2 ^ a) : N * 2 ^ b < 2 ^ (a + b) := by
  rw [Nat.pow_add]
  exact Nat.mul_lt_mul_of_pos_right h (Nat.two_pow_pos b)
theorem div_pow_lt {N a b : Nat} (h : N < 2 ^ (a + b)) : N / 2 ^ b < 2 ^ a := by
  rw [Nat.div_lt_iff_lt_mul (Nat.two_pow_pos b), ← Nat.pow_add]
  exact h
theorem Round_f {N hi lo : Nat} (hN : N = hi * 18446744073709551616 + lo) (hh : hi < 18446744073709551616) (hl : lo < 18446744073709551616) (hp : 0 < N) (neg : Bool) (exp : Int) (more : Bool) (mode : Int) {k : Nat} (hk : 220 ≤ k) :
    parts_Round.f k neg hi lo exp more mode = some (R neg N (clamp exp) (more && (decide (55 ≤ blen N) || decide (clamp exp ≤ -1080))) mode) := by
  unfold parts_Round.f
  have hb0 := blen_pos hp
  have hb1 : blen N ≤ 128 := blen_le (by omega)
  have hlt := lt_blen N
  rw [len_f hN hh hl]
  simp only [Option.bind_some]
  rw [if_neg (by omega)]
  obtain ⟨c0, c1⟩ := clamp_bound exp
  change (if more = true then (if ((blen N : Nat) : Int) ≥ 55 then (parts_Round.j0 k neg (clamp exp) true mode (blen N : Nat) hi lo) else (parts_Round.j0 k neg (clamp exp) (decide (clamp exp ≤ -1080)) mode (blen N : Nat) hi lo)) else (parts_Round.j0 k neg (clamp exp) false mode (blen N : Nat) hi lo)) = _
  generalize clamp exp = x at c0 c1
  have j0 : ∀ b : Bool, parts_Round.j0 k neg x b mode (blen N : Nat) hi lo = some (R neg N x b mode) := by
    intro b
    obtain ⟨k, rfl⟩ : ∃ m, k = m + 1 := ⟨k - 1, by omega⟩
    simp only [parts_Round.j0]
    rw [w64 (x := x + (blen N : Nat)) (by omega) (by omega), w64 (x := x + (blen N : Nat) - 1) (by omega) (by omega), w64 (x := x + (blen N : Nat) - 1 - 52) (by omega) (by omega)]
    have hm : mx (x + (blen N : Nat) - 1 - 52) (-1074) = max (x + (blen N : Nat) - 53) (-1074) := by
      unfold mx; split <;> omega
    rw [hm]
    unfold R
    generalize he : max (x + (blen N : Nat) - 53) (-1074) = e
    have e0 : -1074 ≤ e := by omega
    have e1 : x + (blen N : Nat) - 53 ≤ e := by omega
    have e2 : e ≤ 200000 := by omega
    rw [w64 (by omega) (by omega)]
    by_cases c : e ≤ x
    · simp only [if_pos c]
      obtain ⟨s, hs⟩ : ∃ s : Nat, x - e = s := ⟨(x - e).toNat, by omega⟩
      rw [show e - x = -(s : Int) by omega, hs, Int.toNat_natCast]
      have hn : blen N + s ≤ 53 := by omega
      have hN2 : N * 2 ^ s < 2 ^ (blen N + s) := mul_pow_lt hlt
      have hN3 : 2 ^ (blen N + s) ≤ 2 ^ 53 := Nat.pow_le_pow_right (by omega) hn
      have hNs : N ≤ N * 2 ^ s := Nat.le_mul_of_pos_right _ (Nat.two_pow_pos s)
      have hlo : lo = N := by omega
      rw [cut_up hl s (by omega) k (by rw [hlo]; omega)]
      simp only [Option.bind_some]
      rw [if_neg (by decide), hlo]
      have := tail_f (k := k) (by omega) neg x mode (blen N : Nat) e (N * 2 ^ s) false b (by omega) (by omega) (by omega) (by omega) (by omega) e0 e2
      exact this
    · simp only [if_neg c]
      obtain ⟨s, hs⟩ : ∃ s : Nat, e - x = s := ⟨(e - x).toNat, by omega⟩
      rw [hs, Int.toNat_natCast, cut_f hN hh hl s (by omega) (by omega) (by omega)]
      simp only [Option.bind_some]
      have hq : N / 2 ^ s < 2 ^ 53 := div_pow_lt (Nat.lt_of_lt_of_le hlt (Nat.pow_le_pow_right (by omega) (by omega)))
      rw [Nat.mod_eq_of_lt (show N / 2 ^ s < 18446744073709551616 by omega)]
      have ht := fun r : Bool => tail_f (k := k) (by omega) neg x mode (blen N : Nat) e (N / 2 ^ s) (decide (N / 2 ^ (s - 1) % 2 = 1)) r (by omega) (by omega) (by omega) (by omega) (by omega) e0 e2
      by_cases d : decide (N % 2 ^ (s - 1) ≠ 0) = true
      · rw [if_pos d, d, Bool.true_or]; exact ht true
      · rw [if_neg d, eq_false_of_ne_true d, Bool.false_or]; exact ht b
  cases more with
  | false =>
    rw [if_neg (by decide), Bool.false_and]; exact j0 false
  | true =>
    rw [if_pos rfl, Bool.true_and]
    by_cases d : ((blen N : Nat) : Int) ≥ 55
    · rw [if_pos d, decide_eq_true (show 55 ≤ blen N by omega), Bool.true_or]; exact j0 true
    · rw [if_neg d, decide_eq_false (show ¬ 55 ≤ blen N by omega), Bool.false_or]; exact j0 _
end Go.Proofs.Ytjbpchebabhoeab.Fl
end
section
set_option linter.unusedVariables false
set_option linter.unusedSimpArgs false
namespace Go.Proofs.Ytjbpchebabhoeab.Fl
open Go.RowKit Go.Proofs.Ytjbpchebabhoeab.P Go.Proofs.Ytjbpchebabhoeab.X Go.Proofs.Ytjbpchebabhoeab.Bt Go.Proofs.YtjbpchebabhoeabW.PrintWords
def Can (q : Nat) (e : Int) : Prop := q < 9007199254740992 ∧ -1074 ≤ e ∧ (e = -1074 ∨ 4503599627370496 ≤ q) ∧ e ≤ 971
theorem upf_no (neg : Bool) (q : Nat) (mode : Int) : upf neg q false false mode = false := by
  unfold upf
  repeat' split
  all_goals first | rfl | simp_all
theorem fin_no (neg : Bool) (q : Nat) (e : Int) (tiny : Bool) (mode : Int) (hq : q < 9007199254740992) (he : e ≤ 971) : fin neg q e false false tiny mode = (pk neg q e, 0) := by
  unfold fin
  rw [upf_no]
  simp only [Bool.false_eq_true, if_false, or_self]
  rw [if_neg (show ¬ q = 9007199254740992 by omega), if_neg (show ¬ q = 9007199254740992 by omega), if_neg (by omega)]
theorem blen_can {q : Nat} {e : Int} (h : Can q e) : max (e + blen q - 53) (-1074) = e := by
  obtain ⟨h1, h2, h3, h4⟩ := h
  have a := blen_le (n := q) (k := 53) (by omega)
  rcases h3 with h3 | h3
  · omega
  · have : blen q = 52 + 1 := blen_eq (by omega) (by omega)
    omega
theorem R_exact (neg : Bool) {N : Nat} (hp : 0 < N) (exp : Int) {q : Nat} {e : Int} (h : Can q e) (hv : (∃ s : Nat, e = exp + s ∧ N = q * 2 ^ s) ∨ (∃ s : Nat, exp = e + s ∧ q = N * 2 ^ s)) (mode : Int) :
    R neg N exp false mode = (pk neg q e, 0) := by
  have hc := blen_can h
  unfold R
  rcases hv with ⟨s, rfl, rfl⟩ | ⟨s, rfl, rfl⟩
  · have hq : 0 < q := Nat.pos_of_ne_zero (fun h0 => by subst h0; simp at hp)
    rw [blen_mul_pow hq]
    have e1 : exp + ((blen q + s : Nat) : Int) - 53 = exp + s + blen q - 53 := by omega
    simp only [e1, hc]
    by_cases c : exp + (s : Int) ≤ exp
    · rw [if_pos c]
      obtain rfl : s = 0 := by omega
      rw [show (exp - (exp + ((0 : Nat) : Int))).toNat = 0 by omega, Nat.pow_zero, Nat.mul_one, Nat.mul_one]
      exact fin_no _ _ _ _ _ h.1 h.2.2.2
    · rw [if_neg c, show (exp + (s : Int) - exp).toNat = s by omega]
      obtain ⟨t, rfl⟩ : ∃ t, s = t + 1 := ⟨s - 1, by omega⟩
      rw [Nat.mul_div_cancel _ (Nat.two_pow_pos _), Nat.add_sub_cancel]
      have e2 : q * 2 ^ (t + 1) = q * 2 * 2 ^ t := by rw [Nat.pow_succ, Nat.mul_comm (2 ^ t), Nat.mul_assoc]
      have e3 : q * 2 ^ (t + 1) / 2 ^ t % 2 = 0 := by rw [e2, Nat.mul_div_cancel _ (Nat.two_pow_pos _)]; omega
      have e4 : q * 2 ^ (t + 1) % 2 ^ t = 0 := by rw [e2]; exact Nat.mul_mod_left _ _
      rw [e3, e4]
      exact fin_no _ _ _ _ _ h.1 h.2.2.2
  · rw [blen_mul_pow hp] at hc
    have e1 : e + (s : Int) + (blen N : Int) - 53 = e + ((blen N + s : Nat) : Int) - 53 := by omega
    simp only [e1, hc]
    rw [if_pos (by omega), show (e + (s : Int) - e).toNat = s by omega]
    exact fin_no _ _ _ _ _ h.1 h.2.2.2
theorem R_sticky (neg : Bool) {N : Nat} (hb : 55 ≤ blen N) (exp : Int) (j r : Nat) (hr : r < 2 ^ j) (mode : Int) :
    R neg N (exp + j) (decide (r ≠ 0)) mode = R neg (N * 2 ^ j + r) exp false mode := by
  have hp : 0 < N := Nat.pos_of_ne_zero (fun h0 => by subst h0; rw [blen_zero] at hb; omega)
  have hj := Nat.two_pow_pos j
  have hbl : blen (N * 2 ^ j + r) = blen N + j := by
    have h1 := blen_ge hp
    have h2 := lt_blen N
    obtain ⟨m, hm⟩ : ∃ m, blen N = m + 1 := ⟨blen N - 1, by omega⟩
    rw [hm] at h1 h2 ⊢
    rw [Nat.add_sub_cancel] at h1
    rw [show m + 1 + j = (m + j) + 1 by omega]
    apply blen_eq
    · rw [Nat.pow_add]
      exact Nat.le_trans (Nat.mul_le_mul_right _ h1) (Nat.le_add_right _ _)
    · rw [show m + j + 1 = m + 1 + j by omega, Nat.pow_add]
      have := Nat.mul_le_mul_right (2 ^ j) (show N + 1 ≤ 2 ^ (m + 1) from h2)
      rw [Nat.add_mul, Nat.one_mul] at this
      omega
  unfold R
  rw [hbl]
  have e1 : exp + (j : Int) + (blen N : Int) - 53 = exp + ((blen N + j : Nat) : Int) - 53 := by omega
  have e2 : exp + (j : Int) + (blen N : Int) - 1 = exp + ((blen N + j : Nat) : Int) - 1 := by omega
  simp only [e1, e2]
  generalize he : max (exp + ((blen N + j : Nat) : Int) - 53) (-1074) = e
  have h0 : exp + j + 2 ≤ e := by omega
  rw [if_neg (by omega), if_neg (by omega)]
  obtain ⟨s, hs⟩ : ∃ s : Nat, e - (exp + j) = ((s + 1 : Nat) : Int) := ⟨(e - (exp + j)).toNat - 1, by omega⟩
  have hs2 : e - exp = ((s + j + 1 : Nat) : Int) := by omega
  rw [hs, hs2, Int.toNat_natCast, Int.toNat_natCast, Nat.add_sub_cancel, Nat.add_sub_cancel]
  have d1 : ∀ t : Nat, (N * 2 ^ j + r) / 2 ^ (t + j) = N / 2 ^ t := by
    intro t
    rw [Nat.add_comm t j, Nat.pow_add, ← Nat.div_div_eq_div_mul, Nat.add_comm, Nat.add_mul_div_right _ _ hj, Nat.div_eq_of_lt hr, Nat.zero_add]
  rw [show s + j + 1 = (s + 1) + j by omega, d1, d1]
  have m1 : (N * 2 ^ j + r) % 2 ^ (s + j) = N % 2 ^ s * 2 ^ j + r := by
    have h := Nat.div_add_mod N (2 ^ s)
    have e3 : N * 2 ^ j + r = 2 ^ (s + j) * (N / 2 ^ s) + (N % 2 ^ s * 2 ^ j + r) := by
      conv => lhs; rw [← h]
      rw [Nat.add_mul, Nat.pow_add, Nat.mul_right_comm, Nat.add_assoc]
    rw [e3, Nat.mul_add_mod]
    apply Nat.mod_eq_of_lt
    have h2 : N % 2 ^ s < 2 ^ s := Nat.mod_lt _ (Nat.two_pow_pos s)
    have h3 := Nat.mul_le_mul_right (2 ^ j) (show N % 2 ^ s + 1 ≤ 2 ^ s from h2)
    rw [Nat.add_mul, Nat.one_mul, ← Nat.pow_add] at h3
    omega
  rw [m1]
  have b1 : (decide (N % 2 ^ s ≠ 0) || decide (r ≠ 0)) = (decide (N % 2 ^ s * 2 ^ j + r ≠ 0) || false) := by
    rw [Bool.or_false]
    by_cases h1 : N % 2 ^ s = 0
    · rw [h1, Nat.zero_mul, Nat.zero_add, decide_eq_false (fun h => h rfl), Bool.false_or]
    · have : N % 2 ^ s * 2 ^ j ≠ 0 := Nat.mul_ne_zero h1 (by omega)
      rw [decide_eq_true h1, Bool.true_or, decide_eq_true (by omega)]
  rw [b1]
def Finite (a : Int) : Prop := Word a ∧ a / 4503599627370496 % 2048 ≠ 2047
theorem sig_lt {a : Int} (h : Finite a) : sig a < 9007199254740992 := by
  obtain ⟨⟨h0, h1⟩, h2⟩ := h
  unfold sig
  split <;> omega
theorem can_word {a : Int} (h : Finite a) : Can (sig a) (xpo a) := by
  have hs := sig_lt h
  obtain ⟨⟨h0, h1⟩, h2⟩ := h
  refine ⟨hs, ?_⟩
  unfold sig xpo
  split
  · exact ⟨by omega, .inl rfl, by omega⟩
  · exact ⟨by omega, .inr (by omega), by omega⟩
theorem pk_word {a : Int} (h : Finite a) : pk (sgn a) (sig a) (xpo a) = a := by
  obtain ⟨⟨h0, h1⟩, h2⟩ := h
  unfold pk sgn sgv sig xpo
  have hs : (if decide (9223372036854775808 ≤ a) = true then (9223372036854775808 : Int) else 0) = a - a % 9223372036854775808 := by
    by_cases s : 9223372036854775808 ≤ a
    · rw [if_pos (decide_eq_true s)]; omega
    · rw [if_neg (by rw [decide_eq_false s]; decide)]; omega
  rw [hs]
  by_cases e : a / 4503599627370496 % 2048 = 0
  · rw [if_pos e, if_pos e, if_pos (by omega)]
    omega
  · rw [if_neg e, if_neg e, if_neg (by omega)]
    omega
theorem mag_lt {a b : Int} (ha : Finite a) (hb : Finite b) : a % 9223372036854775808 < b % 9223372036854775808 ↔ (xpo a < xpo b ∨ (xpo a = xpo b ∧ sig a < sig b)) := by
  obtain ⟨⟨a0, a1⟩, a2⟩ := ha
  obtain ⟨⟨b0, b1⟩, b2⟩ := hb
  unfold sig xpo
  split <;> split <;> omega
theorem mag_eq {a b : Int} (ha : Finite a) (hb : Finite b) : a % 9223372036854775808 = b % 9223372036854775808 ↔ (xpo a = xpo b ∧ sig a = sig b) := by
  obtain ⟨⟨a0, a1⟩, a2⟩ := ha
  obtain ⟨⟨b0, b1⟩, b2⟩ := hb
  unfold sig xpo
  split <;> split <;> omega
theorem sig_zero {a : Int} (ha : Finite a) : sig a = 0 ↔ a % 9223372036854775808 = 0 := by
  obtain ⟨⟨a0, a1⟩, a2⟩ := ha
  unfold sig
  split <;> omega
theorem cls_fin {a : Int} (ha : Finite a) : cls a = 0 ∨ cls a = 1 := by
  unfold cls
  rw [if_neg ha.2]
  split
  · split
    · exact .inl rfl
    · exact .inr rfl
  · exact .inr rfl
theorem half_rest (N s : Nat) (hs : 0 < s) : ((2 ^ s < N % 2 ^ s * 2) ↔ (N / 2 ^ (s - 1) % 2 = 1 ∧ N % 2 ^ (s - 1) ≠ 0)) ∧ ((2 ^ s = N % 2 ^ s * 2) ↔ (N / 2 ^ (s - 1) % 2 = 1 ∧ N % 2 ^ (s - 1) = 0)) ∧ (N % 2 ^ s = 0 ↔ (¬ N / 2 ^ (s - 1) % 2 = 1 ∧ N % 2 ^ (s - 1) = 0)) := by
  obtain ⟨t, rfl⟩ : ∃ t, s = t + 1 := ⟨s - 1, by omega⟩
  rw [Nat.add_sub_cancel, bit_step, Nat.pow_succ]
  have h1 : N % 2 ^ t < 2 ^ t := Nat.mod_lt _ (Nat.two_pow_pos t)
  have h2 : N / 2 ^ t % 2 = 0 ∨ N / 2 ^ t % 2 = 1 := by omega
  have h3 := Nat.two_pow_pos t
  generalize N % 2 ^ t = r at *
  generalize 2 ^ t = P at *
  rcases h2 with h2 | h2 <;> rw [h2]
  · rw [Nat.mul_zero]; omega
  · rw [Nat.mul_one]; omega
theorem word_pk (s : Bool) {q : Nat} {e : Int} (h : Can q e) : Finite (pk s q e) ∧ sgn (pk s q e) = s ∧ sig (pk s q e) = q ∧ xpo (pk s q e) = e := by
  obtain ⟨h1, h2, h3, h4⟩ := h
  unfold pk
  have hs := sgv_or s
  have hs2 : (sgv s = 0 ∧ s = false) ∨ (sgv s = 9223372036854775808 ∧ s = true) := by cases s <;> simp [sgv]
  by_cases c : q < 4503599627370496
  · rw [if_pos c]
    obtain rfl : e = -1074 := by omega
    unfold Finite Word sgn sig xpo
    rcases hs2 with ⟨hs, rfl⟩ | ⟨hs, rfl⟩ <;> rw [hs]
    · refine ⟨⟨by omega, by omega⟩, decide_eq_false (by omega), ?_, ?_⟩ <;> split <;> omega
    · refine ⟨⟨by omega, by omega⟩, decide_eq_true (by omega), ?_, ?_⟩ <;> split <;> omega
  · rw [if_neg c]
    unfold Finite Word sgn sig xpo
    rcases hs2 with ⟨hs, rfl⟩ | ⟨hs, rfl⟩ <;> rw [hs]
    · refine ⟨⟨by omega, by omega⟩, decide_eq_false (by omega), ?_, ?_⟩ <;> split <;> omega
    · refine ⟨⟨by omega, by omega⟩, decide_eq_true (by omega), ?_, ?_⟩ <;> split <;> omega
end Go.Proofs.Ytjbpchebabhoeab.Fl
end
section
set_option linter.unusedVariables false
set_option linter.unusedSimpArgs false
namespace Go.Proofs.Ytjbpchebabhoeab.Fl
open Go.RowKit Go.Proofs.Ytjbpchebabhoeab.P Go.Proofs.Ytjbpchebabhoeab.X Go.Proofs.Ytjbpchebabhoeab.Bt Go.Proofs.YtjbpchebabhoeabW.PrintWords
def sumR (na : Bool) (A : Nat) (nb : Bool) (B : Nat) (E mode : Int) : Int × Int :=
  if na = nb then (if A + B = 0 then (sgv na, 0) else R na (A + B) E false mode)
  else if A = B then (sgv (decide (mode = 4)), 0) else if A < B then R nb (B - A) E false mode else R na (A - B) E false mode
theorem sumR_comm (na : Bool) (A : Nat) (nb : Bool) (B : Nat) (E mode : Int) : sumR na A nb B E mode = sumR nb B na A E mode := by
  unfold sumR
  by_cases h : na = nb
  · subst h
    rw [if_pos rfl, if_pos rfl, Nat.add_comm]
  · rw [if_neg h, if_neg (Ne.symm h)]
    by_cases e : A = B
    · rw [if_pos e, if_pos e.symm]
    · rw [if_neg e, if_neg (Ne.symm e)]
      by_cases l : A < B
      · rw [if_pos l, if_neg (by omega)]
      · rw [if_neg l, if_pos (by omega)]
def addspec (a b mode : Int) : Int × Int :=
  sumR (sgn a) (sig a * 2 ^ (xpo a - min (xpo a) (xpo b)).toNat) (sgn b) (sig b * 2 ^ (xpo b - min (xpo a) (xpo b)).toNat) (min (xpo a) (xpo b)) mode
theorem addspec_comm (a b mode : Int) : addspec a b mode = addspec b a mode := by
  unfold addspec
  rw [sumR_comm, show min (xpo a) (xpo b) = min (xpo b) (xpo a) by omega]
theorem lift_f {m n : Nat} (hm : m < 9007199254740992) (hn : n ≤ 62) : fadd_lift.f m n = some (((m * 2 ^ n / 18446744073709551616 : Nat) : Int), ((m * 2 ^ n % 18446744073709551616 : Nat) : Int)) := by
  unfold fadd_lift.f
  by_cases h : (n : Int) = 0
  · rw [if_pos h]
    obtain rfl : n = 0 := by omega
    rw [Nat.pow_zero, Nat.mul_one, Nat.div_eq_of_lt (by omega), Nat.mod_eq_of_lt (by omega)]
    rfl
  · rw [if_neg h, w64 (by omega) (by omega), if_pos (by omega), if_pos (by omega), shr_u64 (by omega) (by omega), shl_u64 (by omega) (by omega)]
    obtain ⟨t, ht⟩ : ∃ t, n + t = 64 := ⟨64 - n, by omega⟩
    rw [show ((64 : Int) - n).toNat = t by omega, show ((n : Int)).toNat = n by omega]
    have e0 : 2 ^ n * 2 ^ t = 18446744073709551616 := by rw [← Nat.pow_add, ht]
    have e1 : m * 2 ^ n / 18446744073709551616 = m / 2 ^ t := by
      rw [← e0, Nat.mul_comm m, Nat.mul_div_mul_left _ _ (Nat.two_pow_pos n)]
    have e2 : (((m * 2 ^ n : Nat) : Int) % 18446744073709551616) = ((m * 2 ^ n % 18446744073709551616 : Nat) : Int) := by omega
    rw [e1, Int.natCast_ediv, ← Int.natCast_mul, e2]
theorem join_plus {T hi lo s : Nat} (hT : T = hi * 18446744073709551616 + lo + s) (hl : lo < 18446744073709551616) (hs : s < 18446744073709551616) (hb : T < 18446744073709551616 * 18446744073709551616) (more : Bool) :
    fadd_join.f hi lo s false more = some (((T / 18446744073709551616 : Nat) : Int), ((T % 18446744073709551616 : Nat) : Int)) := by
  unfold fadd_join.f bits_Add64.f
  rw [if_neg (by decide), if_pos (by omega)]
  simp only [Option.bind_some]
  rw [u64]
  congr 2 <;> omega
theorem join_minus {T hi lo s : Nat} (more : Bool) (hT : T + s + (if more = true then 1 else 0) = hi * 18446744073709551616 + lo) (hh : hi < 18446744073709551616) (hl : lo < 18446744073709551616) (hs : s < 18446744073709551616) :
    fadd_join.f hi lo s true more = some (((T / 18446744073709551616 : Nat) : Int), ((T % 18446744073709551616 : Nat) : Int)) := by
  unfold fadd_join.f bits_Sub64.f
  rw [if_pos rfl]
  cases more with
  | true =>
    rw [if_pos rfl, if_pos (by omega)]
    simp only [Option.bind_some]
    rw [if_pos rfl] at hT
    rw [u64]
    split <;> congr 2 <;> omega
  | false =>
    rw [if_neg (by decide), if_pos (by omega)]
    simp only [Option.bind_some]
    rw [if_neg (by decide)] at hT
    rw [u64]
    split <;> congr 2 <;> omega
theorem words_ (T : Nat) : T = T / 18446744073709551616 * 18446744073709551616 + T % 18446744073709551616 := by omega
theorem Round_T {T : Nat} (hp : 0 < T) (hT : T < 83076749736557242056487941267521536) (neg : Bool) (exp : Int) (h0 : -16384 ≤ exp) (h1 : exp ≤ 16384) (more : Bool) (hm : more = true → 55 ≤ blen T) (mode : Int) {k : Nat} (hk : 220 ≤ k) :
    ((parts_Round.f k neg ((T / 18446744073709551616 : Nat) : Int) ((T % 18446744073709551616 : Nat) : Int) exp more mode).bind fun bt => (some (bt.1, bt.2))) = some (R neg T exp more mode) := by
  rw [Round_f (words_ T) (by omega) (by omega) hp neg exp more mode hk, clamp_in h0 h1]
  cases more with
  | false => rfl
  | true => rw [decide_eq_true (hm rfl)]; rfl
theorem sum_f {a b : Int} (ha : Finite a) (hb : Finite b) (hm : 0 < sig a) (hle : xpo b < xpo a ∨ (xpo a = xpo b ∧ sig b ≤ sig a)) (hne : sgn a ≠ sgn b → ¬ (xpo a = xpo b ∧ sig a = sig b)) (mode : Int) {k : Nat} (hk : 250 ≤ k) :
    fadd_sum.f k a b mode = some (sumR (sgn a) (sig a * 2 ^ (xpo a - xpo b).toNat) (sgn b) (sig b) (xpo b) mode) := by
  have ca := can_word ha
  have cb := can_word hb
  obtain ⟨ca1, ca2, ca3, ca4⟩ := ca
  obtain ⟨cb1, cb2, cb3, cb4⟩ := cb
  unfold fadd_sum.f
  rw [Split_f ha.1 ha.2, Split_f hb.1 hb.2]
  simp only [Option.bind_some]
  obtain ⟨d, hd⟩ : ∃ d : Nat, xpo a - xpo b = d := ⟨(xpo a - xpo b).toNat, by omega⟩
  rw [hd, Int.toNat_natCast, w64 (x := (d : Int)) (by omega) (by omega)]
  have hd2 : d ≤ 2045 := by omega
  generalize sig a = m at *
  generalize sig b = c at *
  generalize hx : xpo a = x at *
  generalize hy : xpo b = y at *
  generalize sgn a = na at *
  generalize sgn b = nb at *
  have hAB : c ≤ m * 2 ^ d := by
    rcases Nat.eq_zero_or_pos d with h0 | h0
    · subst h0; rw [Nat.pow_zero, Nat.mul_one]; omega
    · have h1 : 2 ^ 1 ≤ 2 ^ d := Nat.pow_le_pow_right (by omega) h0
      have h2 : m * 2 ^ 1 ≤ m * 2 ^ d := Nat.mul_le_mul_left _ h1
      omega
  have hAB2 : na ≠ nb → c < m * 2 ^ d := by
    intro h
    have h0 := hne h
    rcases Nat.eq_zero_or_pos d with h1 | h1
    · subst h1; rw [Nat.pow_zero, Nat.mul_one]; omega
    · have h2 : 2 ^ 1 ≤ 2 ^ d := Nat.pow_le_pow_right (by omega) h1
      have h3 : m * 2 ^ 1 ≤ m * 2 ^ d := Nat.mul_le_mul_left _ h2
      omega
  have hpos : 0 < m * 2 ^ d := Nat.mul_pos hm (Nat.two_pow_pos d)
  have goal1 : na = nb → sumR na (m * 2 ^ d) nb c y mode = R na (m * 2 ^ d + c) y false mode := by
    intro h; unfold sumR; rw [if_pos h, if_neg (by omega)]
  have goal2 : na ≠ nb → sumR na (m * 2 ^ d) nb c y mode = R na (m * 2 ^ d - c) y false mode := by
    intro h; unfold sumR; have := hAB2 h; rw [if_neg h, if_neg (by omega), if_neg (by omega)]
  by_cases near : (d : Int) ≤ 60
  · rw [if_pos near, lift_f ca1 (by omega)]
    simp only [Option.bind_some]
    have hA : m * 2 ^ d < 2 ^ 53 * 2 ^ 60 := Nat.mul_lt_mul_of_lt_of_le ca1 (Nat.pow_le_pow_right (by omega) (by omega)) (Nat.two_pow_pos 60)
    have hw := words_ (m * 2 ^ d)
    by_cases h : na = nb
    · have hs : (!(na == nb)) = false := by rw [h]; cases nb <;> rfl
      rw [hs, join_plus (T := m * 2 ^ d + c) (by omega) (by omega) (by omega) (by omega)]
      simp only [Option.bind_some]
      rw [Round_T (by omega) (by omega) na y (by omega) (by omega) false (by simp) mode (by omega), goal1 h]
    · have hs : (!(na == nb)) = true := by cases na <;> cases nb <;> simp at h ⊢
      have hlt := hAB2 h
      rw [hs, join_minus (T := m * 2 ^ d - c) false (by rw [if_neg (by decide)]; omega) (by omega) (by omega) (by omega)]
      simp only [Option.bind_some]
      rw [Round_T (by omega) (by omega) na y (by omega) (by omega) false (by simp) mode (by omega), goal2 h]
  · have hlf : fadd_lift.f (m : Int) 62 = some (((m * 2 ^ 62 / 18446744073709551616 : Nat) : Int), ((m * 2 ^ 62 % 18446744073709551616 : Nat) : Int)) := lift_f ca1 (n := 62) (by omega)
    rw [if_neg near, hlf]
    simp only [Option.bind_some]
    have hbig : 4503599627370496 ≤ m := by omega
    rw [w64 (x := (d : Int) - 62) (by omega) (by omega)]
    have hw := words_ (m * 2 ^ 62)
    obtain ⟨M, hM⟩ : ∃ M, M = m * 2 ^ 62 := ⟨_, rfl⟩
    have hM1 : M < 41538374868278621028243970633760768 := by omega
    have hM0 : 20769187434139310514121985316880384 ≤ M := by omega
    rw [← hM] at hw ⊢
    by_cases s0 : mn ((d : Int) - 62) 116 ≤ 0
    ·
      rw [if_pos s0]
      have hd3 : d = 61 ∨ d = 62 := by unfold mn at s0; split at s0 <;> omega
      have hmn : mn ((d : Int) - 62) 116 = (d : Int) - 62 := by unfold mn; split <;> omega
      rw [hmn, w64 (x := -((d : Int) - 62)) (by omega) (by omega), if_pos (by omega), shl_u64 (by omega) (by omega), w64 (x := x - 62) (by omega) (by omega)]
      obtain ⟨t, ht⟩ : ∃ t : Nat, d + t = 62 := ⟨62 - d, by omega⟩
      have ht1 : t = 0 ∨ t = 1 := by omega
      rw [show (-((d : Int) - 62)).toNat = t by omega]
      have e0 : (c : Int) * ((2 ^ t : Nat) : Int) % 18446744073709551616 = ((c * 2 ^ t : Nat) : Int) := by
        rcases ht1 with rfl | rfl
        · rw [Nat.pow_zero, Nat.mul_one]; omega
        · rw [Nat.pow_one]; omega
      have e2 : M = m * 2 ^ d * 2 ^ t := by rw [hM, Nat.mul_assoc, ← Nat.pow_add, ht]
      have e3 : x - 62 + (t : Int) = y := by omega
      rw [e0]
      have key : ∀ Z : Nat, 10384593717069655257060992658440192 ≤ Z * 2 ^ t → R na (Z * 2 ^ t) (x - 62) false mode = R na Z y false mode := by
        intro Z hZ
        have hst := R_sticky na (N := Z) (by
          have h2 : Z * 2 ^ t ≤ 2 * Z := by rcases ht1 with rfl | rfl <;> omega
          have : 2 ^ 54 ≤ Z := by omega
          have h3 := lt_blen Z
          have h4 := Nat.lt_of_le_of_lt this h3
          have := (Nat.pow_lt_pow_iff_right (by omega : 1 < 2)).1 h4
          omega) (x - 62) t 0 (Nat.two_pow_pos t) mode
        rw [decide_eq_false (fun h => h rfl), e3, Nat.add_zero] at hst
        exact hst.symm
      have e1 : c * 2 ^ t ≤ 2 * c := by rcases ht1 with rfl | rfl <;> omega
      obtain ⟨C, hC⟩ : ∃ C, C = c * 2 ^ t := ⟨_, rfl⟩
      rw [← hC] at e1 ⊢
      by_cases h : na = nb
      · have hs : (!(na == nb)) = false := by rw [h]; cases nb <;> rfl
        rw [hs, join_plus (T := M + C) (by omega) (by omega) (by omega) (by omega)]
        simp only [Option.bind_some]
        rw [Round_T (by omega) (by omega) na (x - 62) (by omega) (by omega) false (by simp) mode (by omega), goal1 h]
        have := key (m * 2 ^ d + c) (by rw [Nat.add_mul, ← e2, ← hC]; omega)
        rw [Nat.add_mul, ← e2, ← hC] at this
        rw [this]
      · have hs : (!(na == nb)) = true := by cases na <;> cases nb <;> simp at h ⊢
        rw [hs, join_minus (T := M - C) false (by rw [if_neg (by decide)]; omega) (by omega) (by omega) (by omega)]
        simp only [Option.bind_some]
        rw [Round_T (by omega) (by omega) na (x - 62) (by omega) (by omega) false (by simp) mode (by omega), goal2 h]
        have := key (m * 2 ^ d - c) (by rw [Nat.sub_mul, ← e2, ← hC]; omega)
        rw [Nat.sub_mul, ← e2, ← hC] at this
        rw [this]
    ·
      rw [if_neg s0]
      have hd3 : 63 ≤ d := by unfold mn at s0; split at s0 <;> omega
      obtain ⟨j, hj⟩ : ∃ j : Nat, d = 62 + j := ⟨d - 62, by omega⟩
      have hj1 : 1 ≤ j := by omega
      have e2 : m * 2 ^ d = M * 2 ^ j := by rw [hM, hj, Nat.pow_add, Nat.mul_assoc]
      have e4 : x - 62 = y + (j : Int) := by omega
      have hjp := Nat.two_pow_pos j
      obtain ⟨cq, hcq⟩ : ∃ q, q = c / 2 ^ j := ⟨_, rfl⟩
      obtain ⟨cr, hcr⟩ : ∃ r, r = c % 2 ^ j := ⟨_, rfl⟩
      have hc1 : cq ≤ c := by rw [hcq]; exact Nat.div_le_self _ _
      have hc2 : cr < 2 ^ j := by rw [hcr]; exact Nat.mod_lt _ hjp
      have hc3 : cq * 2 ^ j + cr = c := by rw [hcq, hcr, Nat.mul_comm]; exact Nat.div_add_mod c (2 ^ j)
      have hbl : ∀ Z, 10384593717069655257060992658440192 ≤ Z → 55 ≤ blen Z := by
        intro Z hZ
        have : 2 ^ 54 ≤ Z := by omega
        have h4 := Nat.lt_of_le_of_lt this (lt_blen Z)
        have := (Nat.pow_lt_pow_iff_right (by omega : 1 < 2)).1 h4
        omega
      have main : ∀ more : Bool, more = decide (cr ≠ 0) →
          ((fadd_join.f ((M / 18446744073709551616 : Nat) : Int) ((M % 18446744073709551616 : Nat) : Int) (cq : Int) (!(na == nb)) more).bind fun bt => ((parts_Round.f k na bt.1 bt.2 (x - 62) more mode).bind fun bu => (some (bu.1, bu.2)))) = some (sumR na (m * 2 ^ d) nb c y mode) := by
        intro more hmore
        by_cases h : na = nb
        · have hs : (!(na == nb)) = false := by rw [h]; cases nb <;> rfl
          rw [hs, join_plus (T := M + cq) (by omega) (by omega) (by omega) (by omega)]
          simp only [Option.bind_some]
          have hb := hbl (M + cq) (by omega)
          rw [Round_T (by omega) (by omega) na (x - 62) (by omega) (by omega) more (fun _ => hb) mode (by omega), goal1 h]
          have hst := R_sticky na hb y j cr hc2 mode
          rw [hmore, e4, hst, Nat.add_mul, ← e2, Nat.add_assoc, hc3]
        · have hs : (!(na == nb)) = true := by cases na <;> cases nb <;> simp at h ⊢
          by_cases h0 : cr = 0
          · rw [decide_eq_false (fun h => h h0)] at hmore
            subst hmore
            rw [hs, join_minus (T := M - cq) false (by rw [if_neg (by decide)]; omega) (by omega) (by omega) (by omega)]
            simp only [Option.bind_some]
            have hb := hbl (M - cq) (by omega)
            rw [Round_T (by omega) (by omega) na (x - 62) (by omega) (by omega) false (fun _ => hb) mode (by omega), goal2 h]
            have hst := R_sticky na hb y j 0 hjp mode
            rw [decide_eq_false (fun h => h rfl)] at hst
            rw [e4, hst, Nat.add_zero, Nat.sub_mul, ← e2, show cq * 2 ^ j = c by omega]
          · rw [decide_eq_true h0] at hmore
            subst hmore
            rw [hs, join_minus (T := M - cq - 1) true (by rw [if_pos rfl]; omega) (by omega) (by omega) (by omega)]
            simp only [Option.bind_some]
            have hb := hbl (M - cq - 1) (by omega)
            rw [Round_T (by omega) (by omega) na (x - 62) (by omega) (by omega) true (fun _ => hb) mode (by omega), goal2 h]
            have hst := R_sticky na hb y j (2 ^ j - cr) (by omega) mode
            rw [decide_eq_true (show 2 ^ j - cr ≠ 0 by omega)] at hst
            rw [e4, hst, Nat.sub_mul, Nat.sub_mul, ← e2, Nat.one_mul]
            have h9 : cq * 2 ^ j + 2 ^ j ≤ m * 2 ^ d := by
              have h10 : cq + 1 ≤ M := by omega
              have h11 := Nat.mul_le_mul_right (2 ^ j) h10
              rw [← e2, Nat.add_mul, Nat.one_mul] at h11
              exact h11
            have : m * 2 ^ d - cq * 2 ^ j - 2 ^ j + (2 ^ j - cr) = m * 2 ^ d - c := by omega
            rw [this]
      by_cases s1 : mn ((d : Int) - 62) 116 < 64
      · rw [if_pos s1]
        have hmn : mn ((d : Int) - 62) 116 = (j : Int) := by unfold mn at s1 ⊢; split at s1 <;> split <;> omega
        have hj2 : j < 64 := by omega
        rw [hmn, w64 (x := (64 : Int) - j) (by omega) (by omega), if_pos (by omega), if_pos (by omega), w64 (x := x - 62) (by omega) (by omega), shr_u64 (by omega) (by omega), shl_u64 (by omega) (by omega)]
        obtain ⟨t, ht⟩ : ∃ t, j + t = 64 := ⟨64 - j, by omega⟩
        rw [show ((64 : Int) - j).toNat = t by omega, Int.toNat_natCast]
        have e5 : 2 ^ j * 2 ^ t = 18446744073709551616 := by rw [← Nat.pow_add, ht]
        have e6 : (c : Int) * ((2 ^ t : Nat) : Int) % 18446744073709551616 = ((2 ^ t * cr : Nat) : Int) := by
          have h1 : c * 2 ^ t % 18446744073709551616 = 2 ^ t * cr := by
            rw [← e5, Nat.mul_comm c, Nat.mul_comm (2 ^ j), Nat.mul_mod_mul_left, hcr]
          rw [← h1, ← Int.natCast_mul]
          omega
        have e7 : (((2 ^ t * cr : Nat) : Int) != 0) = decide (cr ≠ 0) := by
          by_cases h0 : cr = 0
          · rw [h0, Nat.mul_zero]; rfl
          · rw [decide_eq_true h0]
            have : 0 < 2 ^ t * cr := Nat.mul_pos (Nat.two_pow_pos t) (by omega)
            rw [bne_iff_ne]
            omega
        rw [e6, e7, ← Int.natCast_ediv, ← hcq]
        exact main _ rfl
      · rw [if_neg s1]
        have hj2 : 64 ≤ j := by unfold mn at s1; split at s1 <;> omega
        have hjb : 2 ^ 64 ≤ 2 ^ j := Nat.pow_le_pow_right (by omega) hj2
        have e5 : cq = 0 := by rw [hcq]; exact Nat.div_eq_of_lt (by omega)
        have e6 : cr = c := by rw [hcr]; exact Nat.mod_eq_of_lt (by omega)
        rw [w64 (x := x - 62) (by omega) (by omega)]
        have e7 : ((c : Int) != 0) = decide (cr ≠ 0) := by
          rw [e6]
          by_cases h0 : c = 0
          · subst h0; rfl
          · rw [decide_eq_true h0, bne_iff_ne]; omega
        have := main _ rfl
        rw [e5] at this
        rw [e7]
        exact this
end Go.Proofs.Ytjbpchebabhoeab.Fl
end
section
set_option linter.unusedVariables false
set_option linter.unusedSimpArgs false
namespace Go.Proofs.Ytjbpchebabhoeab.Fl
open Go.RowKit Go.Proofs.Ytjbpchebabhoeab.P Go.Proofs.Ytjbpchebabhoeab.X Go.Proofs.Ytjbpchebabhoeab.Bt Go.Proofs.YtjbpchebabhoeabW.PrintWords
theorem odd_fin {a b : Int} (ha : Finite a) (hb : Finite b) {k : Nat} (hk : 5 ≤ k) : fadd_odd.f k a b = some (0, 0, false) := by
  unfold fadd_odd.f
  rw [Class_f (by omega) ha.1, Class_f (by omega) hb.1]
  simp only [Option.bind_some]
  have h1 := cls_fin ha
  have h2 := cls_fin hb
  rw [if_neg (by omega)]
  have e : (cls b == 3) = false := by rw [beq_eq_false_iff_ne]; omega
  obtain ⟨k, rfl⟩ : ∃ m, k = m + 2 := ⟨k - 2, by omega⟩
  rw [e]
  simp only [fadd_odd.j0]
  rw [if_neg (by decide), if_neg (by omega)]
  simp only [fadd_odd.j1]
  rw [if_neg (by decide), if_neg (by omega), if_neg (by omega)]
theorem nought_f {a b : Int} (ha : Word a) (hb : Word b) (mode : Int) : fadd_nought.f a b mode = some (if sgn a = sgn b then sgv (sgn a) else sgv (decide (mode = 4))) := by
  unfold fadd_nought.f
  rw [and_sign ha.1 ha.2, and_sign hb.1 hb.2, Zero_f]
  have e : (mode == 4) = decide (mode = 4) := by
    rw [Bool.eq_iff_iff, beq_iff_eq, decide_eq_true_iff]
  rw [e]
  unfold sgn
  by_cases h1 : 9223372036854775808 ≤ a <;> by_cases h2 : 9223372036854775808 ≤ b
  · rw [if_pos h1, if_pos h2, if_pos rfl, decide_eq_true h1, decide_eq_true h2, if_pos rfl]; rfl
  · rw [if_pos h1, if_neg h2, if_neg (by decide), decide_eq_true h1, decide_eq_false h2, if_neg (by decide)]; rfl
  · rw [if_neg h1, if_pos h2, if_neg (by decide), decide_eq_false h1, decide_eq_true h2, if_neg (by decide)]; rfl
  · rw [if_neg h1, if_neg h2, if_pos rfl, decide_eq_false h1, decide_eq_false h2, if_pos rfl]; rfl
theorem word_eq {a b : Int} (ha : Word a) (hb : Word b) (h : a % 9223372036854775808 = b % 9223372036854775808) (hs : sgn a = sgn b) : a = b := by
  unfold sgn at hs
  have := decide_eq_decide.1 hs
  obtain ⟨a0, a1⟩ := ha
  obtain ⟨b0, b1⟩ := hb
  omega
theorem Add_f {a b : Int} (ha : Finite a) (hb : Finite b) (mode : Int) {k : Nat} (hk : 260 ≤ k) : fadd_Add.f k a b mode = some (addspec a b mode) := by
  unfold fadd_Add.f
  rw [odd_fin ha hb (by omega)]
  simp only [Option.bind_some]
  rw [if_neg (by decide), andNot_sign ha.1.1 ha.1.2, andNot_sign hb.1.1 hb.1.2]
  obtain ⟨k, rfl⟩ : ∃ m, k = m + 1 := ⟨k - 1, by omega⟩
  have jt : (a % 9223372036854775808 = b % 9223372036854775808 ∧ a ≠ b ∨ a % 9223372036854775808 = 0 ∧ b % 9223372036854775808 = 0) → fadd_Add.j0 (k + 1) a b mode (a % 9223372036854775808) (b % 9223372036854775808) true = some (addspec a b mode) := by
    intro h
    simp only [fadd_Add.j0]
    rw [if_true, nought_f ha.1 hb.1]
    simp only [Option.bind_some]
    have hm : a % 9223372036854775808 = b % 9223372036854775808 := by omega
    obtain ⟨hx, hs⟩ := (mag_eq ha hb).1 hm
    unfold addspec
    rw [← hx, ← hs, show min (xpo a) (xpo a) = xpo a by omega, show (xpo a - xpo a).toNat = 0 by omega, Nat.pow_zero, Nat.mul_one]
    unfold sumR
    by_cases hg : sgn a = sgn b
    · rw [if_pos hg, if_pos hg]
      have hz : a % 9223372036854775808 = 0 := by
        rcases h with ⟨h1, h2⟩ | h
        · exact absurd (word_eq ha.1 hb.1 hm hg) h2
        · exact h.1
      rw [(sig_zero ha).2 hz]
      rfl
    · rw [if_neg hg, if_neg hg, if_pos rfl]
  have jf : ¬ (a % 9223372036854775808 = b % 9223372036854775808 ∧ a ≠ b ∨ a % 9223372036854775808 = 0 ∧ b % 9223372036854775808 = 0) → fadd_Add.j0 (k + 1) a b mode (a % 9223372036854775808) (b % 9223372036854775808) false = some (addspec a b mode) := by
    intro h
    simp only [fadd_Add.j0]
    rw [if_neg (by decide)]
    have hne : ∀ u v : Int, Finite u → Finite v → (u % 9223372036854775808 = v % 9223372036854775808 → u = v) → sgn u ≠ sgn v → ¬ (xpo u = xpo v ∧ sig u = sig v) := by
      intro u v hu hv huv hg hm
      have := huv ((mag_eq hu hv).2 hm)
      subst this
      exact hg rfl
    have hfin : ∀ u v : Int, Finite u → Finite v → xpo v ≤ xpo u → sumR (sgn u) (sig u * 2 ^ (xpo u - xpo v).toNat) (sgn v) (sig v) (xpo v) mode = addspec u v mode := by
      intro u v hu hv hx
      unfold addspec
      rw [show min (xpo u) (xpo v) = xpo v by omega, show (xpo v - xpo v).toNat = 0 by omega, Nat.pow_zero, Nat.mul_one]
    by_cases hlt : a % 9223372036854775808 < b % 9223372036854775808
    · rw [if_pos hlt]
      have hl := (mag_lt ha hb).1 hlt
      have hb0 : 0 < sig b := Nat.pos_of_ne_zero (fun h0 => by have := (sig_zero hb).1 h0; obtain ⟨⟨a0, _⟩, _⟩ := ha; omega)
      rw [sum_f hb ha hb0 (by omega) (hne b a hb ha (by omega)) mode (by omega), hfin b a hb ha (by omega), addspec_comm]
      rfl
    · rw [if_neg hlt]
      have hle : xpo b < xpo a ∨ (xpo a = xpo b ∧ sig b ≤ sig a) := by
        by_cases he : a % 9223372036854775808 = b % 9223372036854775808
        · have := (mag_eq ha hb).1 he; omega
        · have := (mag_lt hb ha).1 (by omega); omega
      have ha0 : 0 < sig a := Nat.pos_of_ne_zero (fun h0 => by have := (sig_zero ha).1 h0; obtain ⟨⟨b0, _⟩, _⟩ := hb; omega)
      rw [sum_f ha hb ha0 hle (hne a b ha hb (fun e => by apply Classical.byContradiction; intro hn; exact h (.inl ⟨e, hn⟩))) mode (by omega), hfin a b ha hb (by omega)]
      rfl
  have bz : ∀ x : Int, (x == 0) = decide (x = 0) := fun x => by rw [Bool.eq_iff_iff, beq_iff_eq, decide_eq_true_iff]
  by_cases h1 : a % 9223372036854775808 = b % 9223372036854775808
  · rw [if_pos h1]
    by_cases h2 : a = b
    · rw [if_pos h2]
      by_cases h3 : a % 9223372036854775808 = 0
      · rw [if_pos h3, bz, decide_eq_true (by omega)]; exact jt (.inr ⟨h3, by omega⟩)
      · rw [if_neg h3]; exact jf (by omega)
    · rw [if_neg h2]; exact jt (.inl ⟨h1, h2⟩)
  · rw [if_neg h1]
    by_cases h3 : a % 9223372036854775808 = 0
    · rw [if_pos h3, bz, decide_eq_false (by omega)]; exact jf (by omega)
    · rw [if_neg h3]; exact jf (by omega)
theorem finite_flip {b : Int} (hb : Finite b) : Finite (bits .xor .u64 b 9223372036854775808) ∧ sgn (bits .xor .u64 b 9223372036854775808) = !sgn b ∧ sig (bits .xor .u64 b 9223372036854775808) = sig b ∧ xpo (bits .xor .u64 b 9223372036854775808) = xpo b := by
  obtain ⟨⟨b0, b1⟩, b2⟩ := hb
  rw [xor_sign b0 b1]
  unfold Finite Word sgn sig xpo
  by_cases h : 9223372036854775808 ≤ b
  · rw [if_pos h, decide_eq_true h, decide_eq_false (by omega)]
    refine ⟨⟨by omega, by omega⟩, rfl, ?_, ?_⟩
    · split <;> split <;> omega
    · split <;> split <;> omega
  · rw [if_neg h, decide_eq_false h, decide_eq_true (by omega)]
    refine ⟨⟨by omega, by omega⟩, rfl, ?_, ?_⟩
    · split <;> split <;> omega
    · split <;> split <;> omega
theorem Sub_f {a b : Int} (ha : Finite a) (hb : Finite b) (mode : Int) {k : Nat} (hk : 260 ≤ k) : fadd_Sub.f k a b mode = some (addspec a (bits .xor .u64 b 9223372036854775808) mode) := by
  unfold fadd_Sub.f
  rw [Class_f (by omega) hb.1]
  simp only [Option.bind_some]
  have := cls_fin hb
  rw [if_neg (by omega), Add_f ha (finite_flip hb).1 mode hk]
  rfl
def vv (a : Int) : Int := (if sgn a = true then -1 else 1) * ((sig a * 2 ^ (xpo a + 1074).toNat : Nat) : Int)
theorem add_exact {a b c : Int} (ha : Finite a) (hb : Finite b) (hc : Finite c) (hv : vv a + vv b = vv c) (h0 : 0 < sig c) (mode : Int) : addspec a b mode = (c, 0) := by
  have ca := can_word ha
  have cb := can_word hb
  have cc := can_word hc
  have hp := pk_word hc
  unfold addspec
  generalize hE : min (xpo a) (xpo b) = E
  obtain ⟨e, he⟩ : ∃ e : Nat, E = -1074 + e := ⟨(E + 1074).toNat, by have := ca.2.1; have := cb.2.1; omega⟩
  have hA : sig a * 2 ^ (xpo a + 1074).toNat = sig a * 2 ^ (xpo a - E).toNat * 2 ^ e := by
    rw [Nat.mul_assoc, ← Nat.pow_add]; congr 2; omega
  have hB : sig b * 2 ^ (xpo b + 1074).toNat = sig b * 2 ^ (xpo b - E).toNat * 2 ^ e := by
    rw [Nat.mul_assoc, ← Nat.pow_add]; congr 2; omega
  unfold vv at hv
  rw [hA, hB] at hv
  generalize sig a * 2 ^ (xpo a - E).toNat = A at *
  generalize sig b * 2 ^ (xpo b - E).toNat = B at *
  obtain ⟨f, hf⟩ : ∃ f : Nat, xpo c = -1074 + f := ⟨(xpo c + 1074).toNat, by have := cc.2.1; omega⟩
  have hf2 : (xpo c + 1074).toNat = f := by omega
  rw [hf2] at hv
  have hep := Nat.two_pow_pos e
  have hfp := Nat.two_pow_pos f
  have hCpos : 0 < sig c * 2 ^ f := Nat.mul_pos h0 hfp
  have main : ∀ (N : Nat) (s : Bool), s = sgn c → N * 2 ^ e = sig c * 2 ^ f → R s N E false mode = (c, 0) := by
    intro N s hs hN
    subst hs
    have hNp : 0 < N := Nat.pos_of_ne_zero (fun h => by subst h; rw [Nat.zero_mul] at hN; omega)
    rw [R_exact (sgn c) hNp E cc ?_ mode, hp]
    by_cases hle : e ≤ f
    · refine .inl ⟨f - e, by omega, ?_⟩
      have : sig c * 2 ^ f = sig c * 2 ^ (f - e) * 2 ^ e := by rw [Nat.mul_assoc, ← Nat.pow_add]; congr 2; omega
      rw [this] at hN
      exact Nat.eq_of_mul_eq_mul_right hep hN
    · refine .inr ⟨e - f, by omega, ?_⟩
      have : N * 2 ^ e = N * 2 ^ (e - f) * 2 ^ f := by rw [Nat.mul_assoc, ← Nat.pow_add]; congr 2; omega
      rw [this] at hN
      exact (Nat.eq_of_mul_eq_mul_right hfp hN).symm
  have hAB : (A + B) * 2 ^ e = A * 2 ^ e + B * 2 ^ e := Nat.add_mul _ _ _
  have hAm : (A - B) * 2 ^ e = A * 2 ^ e - B * 2 ^ e := Nat.sub_mul _ _ _
  have hBm : (B - A) * 2 ^ e = B * 2 ^ e - A * 2 ^ e := Nat.sub_mul _ _ _
  have hlt : A < B ↔ A * 2 ^ e < B * 2 ^ e := (Nat.mul_lt_mul_right hep).symm
  have hz : A + B = 0 → A * 2 ^ e = 0 ∧ B * 2 ^ e = 0 := fun h => by
    obtain ⟨rfl, rfl⟩ : A = 0 ∧ B = 0 := by omega
    simp
  have heq : A = B → A * 2 ^ e = B * 2 ^ e := fun h => by rw [h]
  unfold sumR
  generalize A * 2 ^ e = A' at *
  generalize B * 2 ^ e = B' at *
  generalize sig c * 2 ^ f = C' at *
  generalize hsa : sgn a = sa at *
  generalize hsb : sgn b = sb at *
  generalize hsc : sgn c = sc at *
  cases sa <;> cases sb <;> cases sc <;> simp only [if_true, if_false, Bool.false_eq_true, Int.one_mul, Int.neg_mul] at hv
  · rw [if_pos rfl, if_neg (fun h => by have := hz h; omega)]; exact main _ _ rfl (by omega)
  · omega
  · rw [if_neg (by decide), if_neg (fun h => by have := heq h; omega), if_neg (fun h => by have := hlt.1 h; omega)]; exact main _ _ rfl (by omega)
  · rw [if_neg (by decide), if_neg (fun h => by have := heq h; omega), if_pos (hlt.2 (by omega))]; exact main _ _ rfl (by omega)
  · rw [if_neg (by decide), if_neg (fun h => by have := heq h; omega), if_pos (hlt.2 (by omega))]; exact main _ _ rfl (by omega)
  · rw [if_neg (by decide), if_neg (fun h => by have := heq h; omega), if_neg (fun h => by have := hlt.1 h; omega)]; exact main _ _ rfl (by omega)
  · omega
  · rw [if_pos rfl, if_neg (fun h => by have := hz h; omega)]; exact main _ _ rfl (by omega)
end Go.Proofs.Ytjbpchebabhoeab.Fl
end
section
set_option linter.unusedVariables false
set_option linter.unusedSimpArgs false
namespace Go.Proofs.Ytjbpchebabhoeab.Rf
open Go.RowKit Go.Proofs.Ytjbpchebabhoeab.P Go.Proofs.Ytjbpchebabhoeab.X Go.Proofs.Ytjbpchebabhoeab.Bt Go.Proofs.Ytjbpchebabhoeab.Fl Go.Proofs.YtjbpchebabhoeabW.PrintWords
theorem Class06 {k : Nat} (hk : 1 ≤ k) {a : Int} (h : Word a) : vernierref06_Class.f k a = some (cls a) := by
  obtain ⟨k, rfl⟩ : ∃ m, k = m + 1 := ⟨k - 1, by omega⟩
  obtain ⟨h0, h1⟩ := h
  unfold vernierref06_Class.f cls
  rw [Int.tdiv_eq_ediv_of_nonneg h0, u64_in (by omega) (by omega), Int.tmod_eq_emod_of_nonneg (by omega), Int.tmod_eq_emod_of_nonneg h0]
  by_cases e : a / 4503599627370496 % 2048 = 2047
  · rw [if_pos e, if_pos e, e]
    by_cases f : a % 4503599627370496 = 0
    · rw [if_pos f, decide_eq_false (by omega)]; simp only [vernierref06_Class.j0]; rw [if_neg (by decide), if_true]
    · rw [if_neg f, decide_eq_true (by omega)]; simp only [vernierref06_Class.j0]; rw [if_true]
  · rw [if_neg e, if_neg e]
    simp only [vernierref06_Class.j0]
    rw [if_neg (by decide), if_neg e]
    by_cases f : a / 4503599627370496 % 2048 = 0
    · rw [if_pos f, if_pos f]; split <;> rfl
    · rw [if_neg f, if_neg f]
theorem Split06 {a : Int} (h : Finite a) : vernierref06_Split.f a = some (sgn a, (sig a : Int), xpo a) := by
  obtain ⟨⟨h0, h1⟩, h2⟩ := h
  unfold vernierref06_Split.f sig xpo sgn
  rw [Int.tdiv_eq_ediv_of_nonneg h0, u64_in (x := a / 4503599627370496) (by omega) (by omega), Int.tmod_eq_emod_of_nonneg (by omega), Int.tmod_eq_emod_of_nonneg h0, w64 (x := a / 4503599627370496 % 2048) (by omega) (by omega)]
  have e : decide (a ≥ 9223372036854775808) = decide (9223372036854775808 ≤ a) := rfl
  rw [e]
  by_cases c : a / 4503599627370496 % 2048 = 0
  · rw [if_pos c, if_pos c, if_pos c, Int.toNat_of_nonneg (by omega)]
  · rw [if_neg c, if_neg c, if_neg c, u64_in (by omega) (by omega), w64 (by omega) (by omega)]
    congr 3
    omega
theorem fin_of {a : Int} (h : Word a) (hc : cls a ≠ 3) (hc2 : cls a ≠ 2) : Finite a := by
  refine ⟨h, fun h2 => ?_⟩
  unfold cls at hc hc2
  rw [if_pos h2] at hc hc2
  split at hc <;> simp_all
end Go.Proofs.Ytjbpchebabhoeab.Rf
end
section
namespace Go.Proofs.Ytjbpchebabhoeab.Dg
def val (b : Nat) : List Int → Nat
  | [] => 0
  | x :: xs => x.toNat + b * val b xs
def Wf (b : Nat) (xs : List Int) : Prop := ∀ x ∈ xs, 0 ≤ x ∧ x < (b : Int)
def digs (b : Nat) (n : Nat) : List Int :=
  if _h : n = 0 ∨ b ≤ 1 then [] else ((n % b : Nat) : Int) :: digs b (n / b)
termination_by n
decreasing_by exact Nat.div_lt_self (by omega) (by omega)
theorem digs_zero (b : Nat) : digs b 0 = [] := by rw [digs]; simp
theorem digs_pos {b n : Nat} (hb : 1 < b) (hn : 0 < n) : digs b n = ((n % b : Nat) : Int) :: digs b (n / b) := by
  rw [digs, dif_neg (by omega)]
theorem val_digs {b : Nat} (hb : 1 < b) : ∀ n : Nat, val b (digs b n) = n := by
  intro n
  induction n using Nat.strongRecOn with
  | _ n ih =>
    rcases Nat.eq_zero_or_pos n with rfl | hn
    · rw [digs_zero]; rfl
    · rw [digs_pos hb hn]
      simp only [val]
      rw [ih (n / b) (Nat.div_lt_self hn hb)]
      have := Nat.mod_add_div n b
      omega
theorem wf_digs {b : Nat} (hb : 1 < b) : ∀ n : Nat, Wf b (digs b n) := by
  intro n
  induction n using Nat.strongRecOn with
  | _ n ih =>
    rcases Nat.eq_zero_or_pos n with rfl | hn
    · rw [digs_zero]; intro x hx; cases hx
    · rw [digs_pos hb hn]
      intro x hx
      rcases List.mem_cons.1 hx with rfl | hx
      · have := Nat.mod_lt n (show b > 0 by omega)
        omega
      · exact ih _ (Nat.div_lt_self hn hb) x hx
theorem Wf.nil (b : Nat) : Wf b [] := fun x hx => by cases hx
theorem Wf.cons {b : Nat} {x : Int} {xs : List Int} (h0 : 0 ≤ x) (h1 : x < b) (h : Wf b xs) : Wf b (x :: xs) := by
  intro y hy
  rcases List.mem_cons.1 hy with rfl | hy
  · exact ⟨h0, h1⟩
  · exact h y hy
theorem Wf.head {b : Nat} {x : Int} {xs : List Int} (h : Wf b (x :: xs)) : 0 ≤ x ∧ x < b := h x (by simp)
theorem Wf.tail {b : Nat} {x : Int} {xs : List Int} (h : Wf b (x :: xs)) : Wf b xs := fun y hy => h y (by simp [hy])
theorem Wf.append {b : Nat} {xs ys : List Int} (h : Wf b xs) (k : Wf b ys) : Wf b (xs ++ ys) := by
  intro y hy
  rcases List.mem_append.1 hy with hy | hy
  · exact h y hy
  · exact k y hy
theorem Wf.left {b : Nat} {xs ys : List Int} (h : Wf b (xs ++ ys)) : Wf b xs := fun y hy => h y (by simp [hy])
theorem Wf.right {b : Nat} {xs ys : List Int} (h : Wf b (xs ++ ys)) : Wf b ys := fun y hy => h y (by simp [hy])
theorem Wf.take {b : Nat} {xs : List Int} (h : Wf b xs) (n : Nat) : Wf b (xs.take n) := fun y hy => h y (List.mem_of_mem_take hy)
theorem Wf.drop {b : Nat} {xs : List Int} (h : Wf b xs) (n : Nat) : Wf b (xs.drop n) := fun y hy => h y (List.mem_of_mem_drop hy)
theorem Wf.zeros {b : Nat} (hb : 0 < b) (n : Nat) : Wf b (List.replicate n 0) := by
  intro y hy
  rw [List.eq_of_mem_replicate hy]
  omega
theorem Wf.set {b : Nat} {xs : List Int} (h : Wf b xs) (i : Nat) {y : Int} (h0 : 0 ≤ y) (h1 : y < b) : Wf b (xs.set i y) := by
  intro z hz
  rcases List.mem_or_eq_of_mem_set hz with hz | rfl
  · exact h z hz
  · exact ⟨h0, h1⟩
theorem Wf.getD {b : Nat} {xs : List Int} (hb : 0 < b) (h : Wf b xs) (i : Nat) : 0 ≤ xs.getD i 0 ∧ xs.getD i 0 < b := by
  rw [List.getD_eq_getElem?_getD]
  by_cases hi : i < xs.length
  · rw [List.getElem?_eq_getElem hi]
    exact h _ (List.getElem_mem hi)
  · rw [List.getElem?_eq_none (by omega)]
    simp
    omega
theorem val_nil (b : Nat) : val b [] = 0 := rfl
theorem val_cons (b : Nat) (x : Int) (xs : List Int) : val b (x :: xs) = x.toNat + b * val b xs := rfl
theorem val_append (b : Nat) (xs ys : List Int) : val b (xs ++ ys) = val b xs + b ^ xs.length * val b ys := by
  induction xs with
  | nil => simp [val]
  | cons x xs ih =>
    simp only [List.cons_append, val, List.length_cons, ih]
    rw [Nat.mul_add, Nat.pow_succ, ← Nat.mul_assoc, Nat.mul_comm (b ^ xs.length) b]
    omega
theorem val_zeros (b n : Nat) : val b (List.replicate n 0) = 0 := by
  induction n with
  | zero => rfl
  | succ n ih => simp [List.replicate_succ, val, ih]
theorem val_lt {b : Nat} {xs : List Int} (h : Wf b xs) : val b xs < b ^ xs.length := by
  induction xs with
  | nil => simp [val]
  | cons x xs ih =>
    have := ih h.tail
    have h1 := h.head
    simp only [val, List.length_cons]
    rw [Nat.pow_succ, Nat.mul_comm (b ^ xs.length) b]
    have h2 : b * (val b xs + 1) ≤ b * b ^ xs.length := Nat.mul_le_mul_left b this
    rw [Nat.mul_add] at h2
    omega
theorem digs_val {b : Nat} (hb : 1 < b) : ∀ {xs : List Int}, Wf b xs → (xs ≠ [] → 0 < xs.getD (xs.length - 1) 0) → digs b (val b xs) = xs := by
  intro xs
  induction xs with
  | nil => intro _ _; simp [val, digs_zero]
  | cons x xs ih =>
    intro h hl
    have h1 := h.head
    have hpos : 0 < val b (x :: xs) := by
      rcases Nat.eq_zero_or_pos (val b (x :: xs)) with h0 | h0
      · exfalso
        have hl' := hl (by simp)
        have key : ∀ (ys : List Int), Wf b ys → val b ys = 0 → ∀ i, ys.getD i 0 = 0 := by
          intro ys
          induction ys with
          | nil => intro _ _ i; simp
          | cons y ys ihy =>
            intro hy h0 i
            simp only [val] at h0
            have hy1 := hy.head
            have h00 : val b ys = 0 := by
              rcases Nat.eq_zero_or_pos (val b ys) with h | h
              · exact h
              · have := Nat.mul_pos (show 0 < b by omega) h
                omega
            cases i with
            | zero => simp; omega
            | succ i => simpa using ihy hy.tail h00 i
        rw [key _ h h0] at hl'
        omega
      · exact h0
    rw [digs_pos hb hpos]
    simp only [val]
    have e1 : (x.toNat + b * val b xs) % b = x.toNat := by
      rw [Nat.add_mul_mod_self_left]
      exact Nat.mod_eq_of_lt (by omega)
    have e2 : (x.toNat + b * val b xs) / b = val b xs := by
      rw [Nat.add_mul_div_left _ _ (by omega), Nat.div_eq_of_lt (by omega)]
      omega
    rw [e1, e2, ih h.tail ?_]
    · congr 1
      omega
    · intro hne
      have := hl (by simp)
      cases xs with
      | nil => exact absurd rfl hne
      | cons y ys => simpa using this
theorem digs_last {b : Nat} (hb : 1 < b) : ∀ n : Nat, digs b n ≠ [] → 0 < (digs b n).getD ((digs b n).length - 1) 0 := by
  intro n
  induction n using Nat.strongRecOn with
  | _ n ih =>
    rcases Nat.eq_zero_or_pos n with rfl | hn
    · rw [digs_zero]; intro h; exact absurd rfl h
    · intro _
      rw [digs_pos hb hn]
      have hlt := Nat.div_lt_self hn hb
      by_cases h0 : n / b = 0
      · rw [h0, digs_zero]
        simp
        have := Nat.mod_add_div n b
        rw [h0] at this
        simp at this
        omega
      · have hq := Nat.pos_of_ne_zero h0
        have := ih (n / b) hlt (by rw [digs_pos hb hq]; simp)
        have hl : 0 < (digs b (n / b)).length := by rw [digs_pos hb hq]; simp
        rw [show ((n % b : Nat) : Int) :: digs b (n / b) = [((n % b : Nat) : Int)] ++ digs b (n / b) from rfl]
        rw [List.getD_eq_getElem?_getD] at this ⊢
        rw [List.getElem?_append_right (by simp; omega)]
        simpa using this
theorem val_take_zeros {b : Nat} {xs : List Int} {n : Nat} (h : ∀ i, n ≤ i → i < xs.length → xs.getD i 0 = 0) : val b (xs.take n) = val b xs := by
  have hz : ∀ (ys : List Int), (∀ i, i < ys.length → ys.getD i 0 = 0) → val b ys = 0 := by
    intro ys
    induction ys with
    | nil => intro _; rfl
    | cons y ys ih =>
      intro h
      have h0 := h 0 (by simp)
      simp at h0
      have := ih (fun i hi => by simpa using h (i + 1) (by simp; omega))
      simp [val, h0, this]
  by_cases hn : n ≤ xs.length
  · have e := val_append b (xs.take n) (xs.drop n)
    rw [List.take_append_drop] at e
    rw [e, hz (xs.drop n)]
    · simp
    · intro i hi
      simp at hi
      have := h (n + i) (by omega) (by omega)
      rw [List.getD_eq_getElem?_getD] at this ⊢
      rw [List.getElem?_drop]
      exact this
  · rw [List.take_of_length_le (by omega)]
theorem digs_length_le {b : Nat} (hb : 1 < b) : ∀ (k n : Nat), n < b ^ k → (digs b n).length ≤ k := by
  intro k
  induction k with
  | zero => intro n h; simp at h; subst h; rw [digs_zero]; simp
  | succ k ih =>
    intro n h
    rcases Nat.eq_zero_or_pos n with rfl | hn
    · rw [digs_zero]; simp
    · rw [digs_pos hb hn]
      have : n / b < b ^ k := by
        rw [Nat.div_lt_iff_lt_mul (by omega)]
        rwa [Nat.pow_succ] at h
      have := ih _ this
      simp
      omega
theorem le_of_digs_length {b : Nat} (hb : 1 < b) (n : Nat) : n < b ^ (digs b n).length := by
  have := val_lt (wf_digs hb n)
  rwa [val_digs hb] at this
theorem pow_le_of_digs {b : Nat} (hb : 1 < b) : ∀ (n : Nat), 0 < n → b ^ ((digs b n).length - 1) ≤ n := by
  intro n
  induction n using Nat.strongRecOn with
  | _ n ih =>
    intro hn
    rw [digs_pos hb hn]
    simp
    rcases Nat.eq_zero_or_pos (n / b) with h0 | h0
    · rw [h0, digs_zero]; simp; omega
    · have h1 := ih (n / b) (Nat.div_lt_self hn hb) h0
      have hl : 0 < (digs b (n / b)).length := by rw [digs_pos hb h0]; simp
      obtain ⟨m, hm⟩ : ∃ m, (digs b (n / b)).length = m + 1 := ⟨(digs b (n / b)).length - 1, by omega⟩
      rw [hm] at h1 ⊢
      simp at h1
      rw [Nat.pow_succ]
      exact Nat.le_trans (Nat.mul_le_mul_right b h1) (Nat.div_mul_le_self n b)
theorem digs_inj {b : Nat} (hb : 1 < b) {n m : Nat} (h : digs b n = digs b m) : n = m := by
  have := congrArg (val b) h
  rwa [val_digs hb, val_digs hb] at this
theorem digs_eq_nil {b : Nat} (hb : 1 < b) {n : Nat} : digs b n = [] ↔ n = 0 := by
  constructor
  · intro h
    apply digs_inj hb
    rw [h, digs_zero]
  · rintro rfl
    exact digs_zero b
theorem val_drop (b : Nat) (l : List Int) (i : Nat) : val b (l.drop i) = (l.getD i 0).toNat + b * val b (l.drop (i + 1)) := by
  by_cases h : i < l.length
  · rw [List.drop_eq_getElem_cons h, val_cons, List.getD_eq_getElem?_getD, List.getElem?_eq_getElem h]
    rfl
  · rw [List.drop_eq_nil_of_le (by omega), List.drop_eq_nil_of_le (by omega), List.getD_eq_getElem?_getD, List.getElem?_eq_none (by omega)]
    rfl
theorem val_split (b : Nat) (l : List Int) (i : Nat) : val b l = val b (l.take i) + b ^ i * val b (l.drop i) := by
  by_cases h : i ≤ l.length
  · have e := val_append b (l.take i) (l.drop i)
    rw [List.take_append_drop, List.length_take, Nat.min_eq_left h] at e
    exact e
  · rw [List.take_of_length_le (by omega), List.drop_eq_nil_of_le (by omega), val_nil, Nat.mul_zero, Nat.add_zero]
theorem val_take_succ (b : Nat) (l : List Int) (i : Nat) : val b (l.take (i + 1)) = val b (l.take i) + b ^ i * (l.getD i 0).toNat := by
  by_cases h : i < l.length
  · rw [List.take_succ_eq_append_getElem h, val_append, List.length_take, Nat.min_eq_left (by omega), List.getD_eq_getElem?_getD, List.getElem?_eq_getElem h]
    simp [val]
  · rw [List.take_of_length_le (by omega), List.take_of_length_le (by omega), List.getD_eq_getElem?_getD, List.getElem?_eq_none (by omega)]
    simp
theorem val_set {b : Nat} {l : List Int} {i : Nat} (h : i < l.length) (x : Int) : val b (l.set i x) + b ^ i * (l.getD i 0).toNat = val b l + b ^ i * x.toNat := by
  induction l generalizing i with
  | nil => simp at h
  | cons y ys ih =>
    cases i with
    | zero => simp [val]; omega
    | succ i =>
      have := ih (i := i) (by simpa using h)
      have e : (y :: ys).getD (i + 1) 0 = ys.getD i 0 := by simp
      rw [e, List.set_cons_succ, val_cons, val_cons, Nat.pow_succ, Nat.mul_comm (b ^ i) b, Nat.mul_assoc, Nat.mul_assoc]
      have h2 := congrArg (b * ·) this
      simp only [Nat.mul_add] at h2
      omega
theorem getD_toNat {b : Nat} (hb : 0 < b) {l : List Int} (h : Wf b l) (i : Nat) : ((l.getD i 0).toNat : Int) = l.getD i 0 ∧ (l.getD i 0).toNat < b := by
  have := h.getD hb i
  omega
theorem getD_ge {l : List Int} {i : Nat} (h : l.length ≤ i) : l.getD i 0 = 0 := by
  rw [List.getD_eq_getElem?_getD, List.getElem?_eq_none h]; rfl
theorem digs_take {b : Nat} (hb : 1 < b) {l : List Int} (h : Wf b l) {i : Nat} (hi : i ≤ l.length) (hz : ∀ j, i ≤ j → j < l.length → l.getD j 0 = 0) (hl : i ≠ 0 → l.getD (i - 1) 0 ≠ 0) : digs b (val b l) = l.take i := by
  have e := val_take_zeros (b := b) hz
  rw [← e]
  apply digs_val hb (h.take i)
  intro hne
  have hi0 : i ≠ 0 := by rintro rfl; simp at hne
  have hlen : (l.take i).length = i := by rw [List.length_take, Nat.min_eq_left hi]
  rw [hlen]
  have h1 : (l.take i).getD (i - 1) 0 = l.getD (i - 1) 0 := by
    rw [List.getD_eq_getElem?_getD, List.getD_eq_getElem?_getD, List.getElem?_take_of_lt (by omega)]
  rw [h1]
  have h2 := h.getD (by omega) (i - 1)
  have h3 := hl hi0
  omega
theorem digs_len_mono {b : Nat} (hb : 1 < b) {n m : Nat} (h : n ≤ m) : (digs b n).length ≤ (digs b m).length :=
  digs_length_le hb _ _ (Nat.lt_of_le_of_lt h (le_of_digs_length hb m))
end Go.Proofs.Ytjbpchebabhoeab.Dg
end
section
set_option linter.unusedVariables false
set_option linter.unusedSimpArgs false
namespace Go.Proofs.Ytjbpchebabhoeab.Rf
open Go.RowKit Go.Proofs.Ytjbpchebabhoeab.P Go.Proofs.Ytjbpchebabhoeab.X Go.Proofs.Ytjbpchebabhoeab.Bt Go.Proofs.Ytjbpchebabhoeab.Dg Go.Proofs.YtjbpchebabhoeabW.PrintWords
abbrev W16 (l : List Int) : Prop := Wf 65536 l
def D (n : Nat) : List Int := digs 65536 n
theorem D_wf (n : Nat) : W16 (D n) := wf_digs (by omega) n
theorem D_val (n : Nat) : val 65536 (D n) = n := val_digs (by omega) n
theorem D_zero : D 0 = [] := digs_zero _
theorem D_nil {n : Nat} : D n = [] ↔ n = 0 := digs_eq_nil (by omega)
theorem D_len0 {n : Nat} : (D n).length = 0 ↔ n = 0 := by rw [List.length_eq_zero_iff]; exact D_nil
theorem D_inj {n m : Nat} (h : D n = D m) : n = m := digs_inj (by omega) h
theorem D_one : D 1 = [1] := by
  unfold D
  rw [digs_pos (by omega) (by omega), show 1 / 65536 = 0 from rfl, digs_zero]
  rfl
theorem len_le {n t : Nat} (h : n < 2 ^ (16 * t)) : (D n).length ≤ t := by
  apply digs_length_le (by omega)
  rw [show (65536 : Nat) = 2 ^ 16 from rfl, ← Nat.pow_mul]
  exact h
def Few_ (l : List Int) : Prop := l.length ≤ 1099511627776
theorem few_D {n k : Nat} (h : n < 65536 ^ k) (hk : k ≤ 1099511627776) : Few_ (D n) := Nat.le_trans (digs_length_le (by omega) k n h) hk
theorem rd_nat (l : List Int) (i : Nat) : rd l (i : Int) = l.getD i 0 := by simp [rd]
theorem dig_bound {l : List Int} (h : W16 l) (i : Nat) : 0 ≤ l.getD i 0 ∧ l.getD i 0 < 65536 := by
  have := h.getD (by omega) i
  omega
theorem snoc_wf {l : List Int} (h : W16 l) {x : Int} (h0 : 0 ≤ x) (h1 : x < 65536) : W16 (l ++ [x]) := h.append (Wf.cons h0 (by omega) (Wf.nil _))
theorem val_snoc (l : List Int) (x : Int) : val 65536 (l ++ [x]) = val 65536 l + 65536 ^ l.length * x.toNat := by rw [val_append, val_cons, val_nil, Nat.mul_zero, Nat.add_zero]
theorem cut_loop {l : List Int} (h : W16 l) (hf : l.length ≤ 4611686018427387904) : ∀ (i k : Nat), i ≤ l.length → i < k → (∀ j, i ≤ j → j < l.length → l.getD j 0 = 0) → vernierref01_cut.l0 k l i = some (D (val 65536 l)) := by
  intro i
  induction i with
  | zero =>
    intro k hi hk hz
    obtain ⟨k, rfl⟩ : ∃ m, k = m + 1 := ⟨k - 1, by omega⟩
    simp only [vernierref01_cut.l0]
    rw [if_neg (by omega), if_pos (by omega), if_pos (by omega)]
    unfold D
    rw [digs_take (by omega) h hi hz (fun h => absurd rfl h)]
    rfl
  | succ i ih =>
    intro k hi hk hz
    obtain ⟨k, rfl⟩ : ∃ m, k = m + 1 := ⟨k - 1, by omega⟩
    simp only [vernierref01_cut.l0]
    rw [if_pos (by omega), w64 (by omega) (by omega), show (((i + 1 : Nat) : Int) - 1) = (i : Int) by omega, if_pos (by omega), if_pos (by omega), rd_nat]
    by_cases e : l.getD i 0 = 0
    · rw [if_pos e]
      refine ih k (by omega) (by omega) (fun j h1 h2 => ?_)
      by_cases hj : j = i
      · subst hj; exact e
      · exact hz j (by omega) h2
    · rw [if_neg e, if_pos (by omega), if_pos (by omega), Int.toNat_natCast]
      unfold D
      rw [digs_take (by omega) h hi hz (fun _ => e)]
theorem cut_f {l : List Int} (h : W16 l) (hf : l.length ≤ 4611686018427387904) {k : Nat} (hk : l.length < k) : vernierref01_cut.f k l = some (D (val 65536 l)) :=
  cut_loop h hf l.length k (Nat.le_refl _) hk (fun j h1 h2 => absurd h1 (by omega))
theorem tmod_dig {x : Int} (h0 : 0 ≤ x) : Int.tmod x 65536 = x % 65536 := Int.tmod_eq_emod_of_nonneg h0
theorem tdiv_dig {x : Int} (h0 : 0 ≤ x) : Int.tdiv x 65536 = x / 65536 := Int.tdiv_eq_ediv_of_nonneg h0
theorem Add_loop {a b : List Int} (ha : W16 a) (hb : W16 b) (fa : Few_ a) (fb : Few_ b) (d : Nat) : ∀ (i : Nat) (out : List Int) (c : Int) (k : Nat), i + d = max a.length b.length + 1 → 3 * d + i + 10 < k → out.length = i → W16 out → 0 ≤ c → c ≤ 1 →
    (max a.length b.length + 1 = i → c = 0) →
    val 65536 out + 65536 ^ i * (c.toNat + val 65536 (a.drop i) + val 65536 (b.drop i)) = val 65536 a + val 65536 b →
    vernierref01_Add.l0 k a b out c i = some (D (val 65536 a + val 65536 b)) := by
  unfold Few_ at fa fb
  induction d with
  | zero =>
    intro i out c k hi hk hl hw h0 h1 hc hv
    obtain ⟨k, rfl⟩ : ∃ m, k = m + 2 := ⟨k - 2, by omega⟩
    simp only [vernierref01_Add.l0]
    have hc0 := hc (by omega)
    subst hc0
    rw [if_neg (by omega), if_neg (by omega), decide_eq_false (by omega)]
    simp only [vernierref01_Add.j1]
    rw [if_neg (by decide), cut_f hw (by omega) (by omega)]
    rw [List.drop_eq_nil_of_le (by omega), List.drop_eq_nil_of_le (by omega)] at hv
    simp only [val_nil, Int.toNat_zero, Nat.add_zero, Nat.mul_zero] at hv
    rw [hv]; rfl
  | succ d ih =>
    intro i out c k hi hk hl hw h0 h1 hc hv
    obtain ⟨k, rfl⟩ : ∃ m, k = m + 2 := ⟨k - 2, by omega⟩
    have da := dig_bound ha i
    have db := dig_bound hb i
    rw [val_drop 65536 a i, val_drop 65536 b i] at hv
    have step : ∀ s : Int, s = c + a.getD i 0 + b.getD i 0 → vernierref01_Add.l0 k a b (out ++ [s % 65536]) (s / 65536) ((i : Int) + 1) = some (D (val 65536 a + val 65536 b)) := by
      intro s hs
      have := ih (i + 1) (out ++ [s % 65536]) (s / 65536) k (by omega) (by omega) (by simp [hl]) (snoc_wf hw (by omega) (by omega)) (by omega) (by omega) ?_ ?_
      · rw [← this]; congr 1
      · intro he
        have ga : a.getD i 0 = 0 := getD_ge (by omega)
        have gb : b.getD i 0 = 0 := getD_ge (by omega)
        omega
      · rw [val_snoc, hl, ← hv]
        have e : c.toNat + ((a.getD i 0).toNat + 65536 * val 65536 (a.drop (i + 1))) + ((b.getD i 0).toNat + 65536 * val 65536 (b.drop (i + 1))) = (s % 65536).toNat + 65536 * ((s / 65536).toNat + val 65536 (a.drop (i + 1)) + val 65536 (b.drop (i + 1))) := by omega
        rw [e]
        generalize (s / 65536).toNat + val 65536 (a.drop (i + 1)) + val 65536 (b.drop (i + 1)) = Z
        rw [Nat.pow_succ, Nat.mul_add, Nat.mul_assoc, Nat.add_assoc]
    have jt : vernierref01_Add.j1 (k + 1) a b out c i true = some (D (val 65536 a + val 65536 b)) := by
      simp only [vernierref01_Add.j1]
      rw [if_true]
      have hlen : out.length < 17592186044416 := by omega
      by_cases h1' : (i : Int) < (a.length : Int)
      · rw [if_pos h1', if_pos (by omega)]
        by_cases h2' : (i : Int) < (b.length : Int)
        · rw [if_pos h2', if_pos hlen, rd_nat, rd_nat, w64 (x := c + a.getD i 0) (by omega) (by omega), w64 (x := c + a.getD i 0 + b.getD i 0) (by omega) (by omega), tmod_dig (by omega), tdiv_dig (by omega), w64 (x := (i : Int) + 1) (by omega) (by omega), w64 (by omega) (by omega)]
          exact step _ rfl
        · have gb : b.getD i 0 = 0 := getD_ge (by omega)
          rw [if_neg h2', if_pos hlen, rd_nat, w64 (x := c + a.getD i 0) (by omega) (by omega), tmod_dig (by omega), tdiv_dig (by omega), w64 (x := (i : Int) + 1) (by omega) (by omega), w64 (by omega) (by omega)]
          exact step _ (by omega)
      · have ga : a.getD i 0 = 0 := getD_ge (by omega)
        rw [if_neg h1']
        by_cases h2' : (i : Int) < (b.length : Int)
        · rw [if_pos h2', if_pos (by omega), if_pos hlen, rd_nat, w64 (x := c + b.getD i 0) (by omega) (by omega), tmod_dig (by omega), tdiv_dig (by omega), w64 (x := (i : Int) + 1) (by omega) (by omega), w64 (by omega) (by omega)]
          exact step _ (by omega)
        · have gb : b.getD i 0 = 0 := getD_ge (by omega)
          rw [if_neg h2', if_pos hlen, tmod_dig (by omega), tdiv_dig (by omega), w64 (x := (i : Int) + 1) (by omega) (by omega), w64 (by omega) (by omega)]
          exact step _ (by omega)
    simp only [vernierref01_Add.l0]
    by_cases h1' : (i : Int) < (a.length : Int)
    · rw [if_pos h1']; exact jt
    · rw [if_neg h1']
      by_cases h2' : (i : Int) < (b.length : Int)
      · rw [if_pos h2']; exact jt
      · rw [if_neg h2']
        by_cases h3 : c > 0
        · rw [decide_eq_true h3]; exact jt
        · rw [decide_eq_false h3]
          simp only [vernierref01_Add.j1]
          rw [if_neg (by decide), cut_f hw (by omega) (by omega)]
          rw [← val_drop, ← val_drop, List.drop_eq_nil_of_le (by omega), List.drop_eq_nil_of_le (by omega)] at hv
          obtain rfl : c = 0 := by omega
          simp only [val_nil, Int.toNat_zero, Nat.add_zero, Nat.mul_zero] at hv
          rw [hv]; rfl
theorem Add_f {a b : List Int} (ha : W16 a) (hb : W16 b) (fa : Few_ a) (fb : Few_ b) {k : Nat} (hk : 3 * max a.length b.length + 20 < k) : vernierref01_Add.f k a b = some (D (val 65536 a + val 65536 b)) := by
  unfold vernierref01_Add.f
  exact Add_loop ha hb fa fb (max a.length b.length + 1) 0 [] 0 k (by omega) (by omega) rfl (Wf.nil _) (by omega) (by omega) (fun h => by omega) (by simp [val_nil])
theorem Cmp_loop {a b : List Int} (ha : W16 a) (hb : W16 b) (hl : a.length = b.length) (hf : a.length ≤ 4611686018427387904) : ∀ (i k : Nat), i ≤ a.length → i < k → val 65536 (a.drop i) = val 65536 (b.drop i) →
    vernierref01_Cmp.l0 k a b ((i : Int) - 1) = some (if val 65536 a < val 65536 b then -1 else if val 65536 b < val 65536 a then 1 else 0) := by
  intro i
  induction i with
  | zero =>
    intro k hi hk he
    obtain ⟨k, rfl⟩ : ∃ m, k = m + 1 := ⟨k - 1, by omega⟩
    simp only [vernierref01_Cmp.l0]
    rw [List.drop_zero, List.drop_zero] at he
    rw [if_neg (by omega), he, if_neg (by omega), if_neg (by omega)]
  | succ i ih =>
    intro k hi hk he
    obtain ⟨k, rfl⟩ : ∃ m, k = m + 1 := ⟨k - 1, by omega⟩
    simp only [vernierref01_Cmp.l0]
    rw [show (((i + 1 : Nat) : Int) - 1) = (i : Int) by omega, if_pos (by omega), if_pos (by omega), if_pos (by omega), if_pos (by omega), rd_nat, rd_nat]
    have sa := val_split 65536 a (i + 1)
    have sb := val_split 65536 b (i + 1)
    have ta := val_take_succ 65536 a i
    have tb := val_take_succ 65536 b i
    have la : val 65536 (a.take i) < 65536 ^ i := by have := val_lt (ha.take i); rwa [List.length_take, Nat.min_eq_left (by omega)] at this
    have lb : val 65536 (b.take i) < 65536 ^ i := by have := val_lt (hb.take i); rwa [List.length_take, Nat.min_eq_left (by omega)] at this
    rw [ta, he] at sa
    rw [tb] at sb
    have ga := getD_toNat (by omega) ha i
    have gb := getD_toNat (by omega) hb i
    generalize 65536 ^ (i + 1) * val 65536 (b.drop (i + 1)) = T at sa sb
    by_cases h1 : a.getD i 0 < b.getD i 0
    · rw [if_pos h1]
      have h2 : (a.getD i 0).toNat + 1 ≤ (b.getD i 0).toNat := by omega
      have h3 := Nat.mul_le_mul_left (65536 ^ i) h2
      rw [Nat.mul_add] at h3
      rw [if_pos (by omega)]
    · rw [if_neg h1]
      by_cases h2 : a.getD i 0 > b.getD i 0
      · rw [if_pos h2]
        have h4 : (b.getD i 0).toNat + 1 ≤ (a.getD i 0).toNat := by omega
        have h3 := Nat.mul_le_mul_left (65536 ^ i) h4
        rw [Nat.mul_add] at h3
        rw [if_neg (by omega), if_pos (by omega)]
      · rw [if_neg h2, w64 (by omega) (by omega)]
        refine ih k (by omega) (by omega) ?_
        rw [val_drop 65536 a i, val_drop 65536 b i, he, show a.getD i 0 = b.getD i 0 by omega]
def sign3 (n m : Nat) : Int := if n < m then -1 else if m < n then 1 else 0
theorem Cmp_f (n m : Nat) (fn : Few_ (D n)) (fm : Few_ (D m)) {k : Nat} (hk : (D n).length < k) : vernierref01_Cmp.f k (D n) (D m) = some (sign3 n m) := by
  unfold Few_ at fn fm
  unfold vernierref01_Cmp.f sign3
  by_cases h : ((D n).length : Int) = ((D m).length : Int)
  · rw [if_pos h, w64 (by omega) (by omega)]
    have := Cmp_loop (D_wf n) (D_wf m) (by omega) (by omega) (D n).length k (Nat.le_refl _) hk (by rw [List.drop_eq_nil_of_le (Nat.le_refl _), List.drop_eq_nil_of_le (by omega)])
    rw [D_val, D_val] at this
    exact this
  · rw [if_neg h]
    have hlen : ∀ u v : Nat, (D u).length < (D v).length → u < v := by
      intro u v hl
      apply Nat.lt_of_not_le
      intro hle
      have := digs_len_mono (b := 65536) (by omega) hle
      unfold D at hl
      omega
    by_cases h1 : ((D n).length : Int) < ((D m).length : Int)
    · rw [if_pos h1, if_pos (hlen n m (by omega))]
    · rw [if_neg h1]
      have := hlen m n (by omega)
      rw [if_neg (by omega), if_pos this]
theorem Sub_loop {a b : List Int} (ha : W16 a) (hb : W16 b) (fa : Few_ a) (hlen : b.length ≤ a.length) (hge : val 65536 b ≤ val 65536 a) (d : Nat) : ∀ (i : Nat) (out : List Int) (c : Int) (k : Nat), i + d = a.length → d + a.length + 5 < k → out.length = i → W16 out → -1 ≤ c → c ≤ 0 →
    (val 65536 out : Int) + (65536 ^ i : Nat) * (c + val 65536 (a.drop i) - val 65536 (b.drop i)) = (val 65536 a : Int) - val 65536 b →
    vernierref01_Sub.l0 k a b out c i = some (D (val 65536 a - val 65536 b)) := by
  unfold Few_ at fa
  induction d with
  | zero =>
    intro i out c k hi hk hl hw h0 h1 hv
    obtain ⟨k, rfl⟩ : ∃ m, k = m + 1 := ⟨k - 1, by omega⟩
    simp only [vernierref01_Sub.l0]
    rw [if_neg (by omega), cut_f hw (by omega) (by omega)]
    rw [List.drop_eq_nil_of_le (by omega), List.drop_eq_nil_of_le (by omega)] at hv
    simp only [val_nil] at hv
    have hlt := val_lt hw
    rw [hl] at hlt
    have hc : c = 0 := by
      rcases (show c = 0 ∨ c = -1 by omega) with h | h
      · exact h
      · exfalso
        subst h
        have e : ((65536 ^ i : Nat) : Int) * (-1 + ((0 : Nat) : Int) - ((0 : Nat) : Int)) = -((65536 ^ i : Nat) : Int) := by
          rw [show (-1 + ((0 : Nat) : Int) - ((0 : Nat) : Int)) = -1 by omega, Int.mul_neg, Int.mul_one]
        rw [e] at hv
        omega
    subst hc
    rw [show ((0 : Int) + ((0 : Nat) : Int) - ((0 : Nat) : Int)) = 0 by omega, Int.mul_zero] at hv
    rw [show val 65536 out = val 65536 a - val 65536 b by omega]
    rfl
  | succ d ih =>
    intro i out c k hi hk hl hw h0 h1 hv
    obtain ⟨k, rfl⟩ : ∃ m, k = m + 1 := ⟨k - 1, by omega⟩
    have da := dig_bound ha i
    have db := dig_bound hb i
    have ga := (getD_toNat (by omega) ha i).1
    have gb := (getD_toNat (by omega) hb i).1
    rw [val_drop 65536 a i, val_drop 65536 b i] at hv
    have step : ∀ s r : Int, s = c + a.getD i 0 - b.getD i 0 → r = (s % 65536) → vernierref01_Sub.l0 k a b (out ++ [r]) ((s - r) / 65536) ((i : Int) + 1) = some (D (val 65536 a - val 65536 b)) := by
      intro s r hs hr
      have := ih (i + 1) (out ++ [r]) ((s - r) / 65536) k (by omega) (by omega) (by simp [hl]) (snoc_wf hw (by omega) (by omega)) (by omega) (by omega) ?_
      · rw [← this]; congr 1
      · rw [val_snoc, hl, ← hv, Int.natCast_add, Int.natCast_add, Int.natCast_add, Int.natCast_mul, Int.natCast_mul, Int.natCast_mul, ga, gb, Int.toNat_of_nonneg (show 0 ≤ r by omega), Nat.pow_succ, Int.natCast_mul]
        have e : c + (a.getD i 0 + ((65536 : Nat) : Int) * (val 65536 (a.drop (i + 1)) : Int)) - (b.getD i 0 + ((65536 : Nat) : Int) * (val 65536 (b.drop (i + 1)) : Int)) = r + ((65536 : Nat) : Int) * ((s - r) / 65536 + (val 65536 (a.drop (i + 1)) : Int) - (val 65536 (b.drop (i + 1)) : Int)) := by omega
        rw [e, Int.mul_add, Int.mul_assoc, Int.add_assoc]
    have hlen2 : out.length < 17592186044416 := by omega
    have md : ∀ s : Int, -65537 ≤ s → s ≤ 65536 → Int.tmod (wrap64 (Int.tmod s 65536 + 65536)) 65536 = s % 65536 := by
      intro s hs0 hs1
      have h2 : -65536 < Int.tmod s 65536 ∧ Int.tmod s 65536 < 65536 ∧ (Int.tmod s 65536) % 65536 = s % 65536 := by
        refine ⟨?_, ?_, ?_⟩
        · have := Int.lt_tmod_of_pos s (show (0 : Int) < 65536 by omega); omega
        · exact Int.tmod_lt_of_pos s (by omega)
        · have := Int.tmod_add_mul_tdiv s 65536; omega
      rw [w64 (by omega) (by omega), tmod_dig (by omega)]
      omega
    have dv : ∀ s : Int, s % 65536 = 0 → Int.tdiv s 65536 = s / 65536 := by
      intro s hs
      exact Int.tdiv_eq_ediv_of_dvd (Int.dvd_of_emod_eq_zero hs)
    simp only [vernierref01_Sub.l0]
    rw [if_pos (by omega), if_pos (by omega)]
    by_cases h2' : (i : Int) < (b.length : Int)
    · rw [if_pos h2', if_pos hlen2, rd_nat, rd_nat, w64 (x := c + a.getD i 0) (by omega) (by omega), w64 (x := c + a.getD i 0 - b.getD i 0) (by omega) (by omega), md _ (by omega) (by omega), w64 (x := (i : Int) + 1) (by omega) (by omega), w64 (x := c + a.getD i 0 - b.getD i 0 - (c + a.getD i 0 - b.getD i 0) % 65536) (by omega) (by omega), dv _ (by omega), w64 (by omega) (by omega)]
      exact step _ _ rfl rfl
    · have gb0 : b.getD i 0 = 0 := getD_ge (by omega)
      rw [if_neg h2', if_pos hlen2, rd_nat, w64 (x := c + a.getD i 0) (by omega) (by omega), md _ (by omega) (by omega), w64 (x := (i : Int) + 1) (by omega) (by omega), w64 (x := c + a.getD i 0 - (c + a.getD i 0) % 65536) (by omega) (by omega), dv _ (by omega), w64 (by omega) (by omega)]
      exact step _ _ (by omega) rfl
theorem Sub_f (n m : Nat) (fn : Few_ (D n)) (fm : Few_ (D m)) {k : Nat} (hk : 3 * ((D n).length + (D m).length) + 20 < k) : vernierref01_Sub.f k (D n) (D m) = some (D (if n < m then m - n else n - m)) := by
  unfold vernierref01_Sub.f
  rw [Cmp_f n m fn fm (by omega)]
  simp only [Option.bind_some]
  obtain ⟨k, rfl⟩ : ∃ q, k = q + 1 := ⟨k - 1, by omega⟩
  have go : ∀ u v : Nat, Few_ (D u) → v ≤ u → (D u).length ≤ (D n).length + (D m).length → vernierref01_Sub.j0 (k + 1) (D u) (D v) = some (D (u - v)) := by
    intro u v fu h hl
    simp only [vernierref01_Sub.j0]
    have := Sub_loop (D_wf u) (D_wf v) fu (digs_len_mono (by omega) h) (by rw [D_val, D_val]; exact h) (D u).length 0 [] 0 k (by omega) (by omega) rfl (Wf.nil _) (by omega) (by omega) (by
      rw [List.drop_zero, List.drop_zero, val_nil, Nat.pow_zero]; omega)
    rw [D_val, D_val] at this
    exact this
  unfold sign3
  by_cases h : n < m
  · rw [if_pos h, if_pos (by omega), if_pos h]; exact go m n fm (by omega) (by omega)
  · rw [if_neg h, if_neg h]
    by_cases h2 : m < n
    · rw [if_pos h2, if_neg (by omega)]; exact go n m fn (by omega) (by omega)
    · rw [if_neg h2, if_neg (by omega)]; exact go n m fn (by omega) (by omega)
end Go.Proofs.Ytjbpchebabhoeab.Rf
end
section
set_option linter.unusedVariables false
set_option linter.unusedSimpArgs false
namespace Go.Proofs.Ytjbpchebabhoeab.Rf
open Go.RowKit Go.Proofs.Ytjbpchebabhoeab.P Go.Proofs.Ytjbpchebabhoeab.X Go.Proofs.Ytjbpchebabhoeab.Bt Go.Proofs.Ytjbpchebabhoeab.Dg Go.Proofs.YtjbpchebabhoeabW.PrintWords
theorem mul_bound {x y c o : Nat} (hx : x < 65536) (hy : y < 65536) (hc : c < 65536) (ho : o < 65536) : c + o + x * y < 4294967296 := by
  have h1 : x * y ≤ 65535 * 65535 := Nat.mul_le_mul (by omega) (by omega)
  omega
theorem Mul_inner {a b : List Int} (ha : W16 a) (hb : W16 b) (fa : Few_ a) (fb : Few_ b) (i : Nat) (hi : i < a.length) (V Kout : Nat) (res : List Int) (hV : V < 65536 ^ (i + 1 + b.length))
    (H : ∀ out : List Int, W16 out → out.length = a.length + b.length + 1 → val 65536 out = V → ∀ k, Kout < k → vernierref01_Mul.l0 k a b out ((i : Int) + 1) = some res) (d : Nat) :
    ∀ (j : Nat) (out : List Int) (c : Int) (k : Nat), j + d = b.length + 1 → Kout + 2 * d + 5 < k → W16 out → out.length = a.length + b.length + 1 → 0 ≤ c → c < 65536 →
      val 65536 out + 65536 ^ (i + j) * (c.toNat + (a.getD i 0).toNat * val 65536 (b.drop j)) = V →
      vernierref01_Mul.l1 k a b out i c j = some res := by
  unfold Few_ at fa fb
  have over : ∀ (j : Nat) (out : List Int) (k : Nat), Kout + 1 < k → W16 out → out.length = a.length + b.length + 1 → val 65536 out = V → vernierref01_Mul.j2 k a b out i 0 j false = some res := by
    intro j out k hk hw hl hv
    obtain ⟨k, rfl⟩ : ∃ m, k = m + 1 := ⟨k - 1, by omega⟩
    simp only [vernierref01_Mul.j2]
    rw [if_neg (by decide), w64 (by omega) (by omega)]
    exact H out hw hl hv k (by omega)
  have none_left : ∀ (j : Nat) (out : List Int) (c : Int), b.length < j → 0 ≤ c → val 65536 out + 65536 ^ (i + j) * (c.toNat + (a.getD i 0).toNat * val 65536 (b.drop j)) = V → c = 0 ∧ val 65536 out = V := by
    intro j out c hj h0 hv
    rw [List.drop_eq_nil_of_le (by omega), val_nil, Nat.mul_zero, Nat.add_zero] at hv
    have hp : 65536 ^ (i + 1 + b.length) ≤ 65536 ^ (i + j) := Nat.pow_le_pow_right (by omega) (by omega)
    rcases Nat.eq_zero_or_pos c.toNat with h | h
    · rw [h, Nat.mul_zero, Nat.add_zero] at hv
      exact ⟨by omega, hv⟩
    · have := Nat.le_mul_of_pos_right (65536 ^ (i + j)) h
      omega
  induction d with
  | zero =>
    intro j out c k hj hk hw hl h0 h1 hv
    obtain ⟨k, rfl⟩ : ∃ m, k = m + 1 := ⟨k - 1, by omega⟩
    obtain ⟨rfl, hv2⟩ := none_left j out c (by omega) h0 hv
    simp only [vernierref01_Mul.l1]
    rw [if_neg (by omega), decide_eq_false (by omega)]
    exact over j out k (by omega) hw hl hv2
  | succ d ih =>
    intro j out c k hj hk hw hl h0 h1 hv
    obtain ⟨k, rfl⟩ : ∃ m, k = m + 2 := ⟨k - 2, by omega⟩
    have da := getD_toNat (by omega) ha i
    have db := getD_toNat (by omega) hb j
    have dout := getD_toNat (by omega) hw (i + j)
    have mb := mul_bound da.2 db.2 (c := c.toNat) (by omega) dout.2
    rw [val_drop 65536 b j] at hv
    have step : ∀ s : Nat, s = c.toNat + (out.getD (i + j) 0).toNat + (a.getD i 0).toNat * (b.getD j 0).toNat →
        vernierref01_Mul.l1 k a b (out.set (i + j) (((s % 65536 : Nat) : Int))) i ((s / 65536 : Nat) : Int) ((j : Int) + 1) = some res := by
      intro s hs
      have := ih (j + 1) (out.set (i + j) (((s % 65536 : Nat) : Int))) ((s / 65536 : Nat) : Int) k (by omega) (by omega) (hw.set _ (by omega) (by omega)) (by rw [List.length_set]; exact hl) (by omega) (by omega) ?_
      · rw [← this]; congr 1
      · have hset := val_set (b := 65536) (l := out) (i := i + j) (by omega) (((s % 65536 : Nat) : Int))
        rw [Int.toNat_natCast] at hset
        rw [Int.toNat_natCast, ← hv]
        generalize val 65536 (out.set (i + j) _) = O' at *
        generalize val 65536 out = O at *
        generalize val 65536 (b.drop (j + 1)) = Z at *
        generalize (out.getD (i + j) 0).toNat = o at *
        generalize (a.getD i 0).toNat = x at *
        generalize (b.getD j 0).toNat = y at *
        generalize c.toNat = cc at *
        rw [show i + (j + 1) = i + j + 1 by omega, Nat.pow_succ]
        generalize 65536 ^ (i + j) = P at *
        have e1 : s = s % 65536 + 65536 * (s / 65536) := by omega
        have e2 : P * s = P * (s % 65536) + P * 65536 * (s / 65536) := by
          conv => lhs; rw [e1]
          rw [Nat.mul_add, Nat.mul_assoc]
        have e3 : P * s = P * cc + P * o + P * (x * y) := by rw [hs, Nat.mul_add, Nat.mul_add]
        have e4 : P * 65536 * (s / 65536 + x * Z) = P * 65536 * (s / 65536) + P * (65536 * (x * Z)) := by rw [Nat.mul_add, Nat.mul_assoc P 65536 (x * Z)]
        have e5 : P * (cc + x * (y + 65536 * Z)) = P * cc + P * (x * y) + P * (65536 * (x * Z)) := by
          rw [Nat.mul_add x, Nat.mul_add, Nat.mul_add, Nat.mul_left_comm x 65536 Z, Nat.add_assoc]
        rw [e4, e5]
        omega
    have jt : vernierref01_Mul.j2 (k + 1) a b out i c j true = some res := by
      simp only [vernierref01_Mul.j2]
      have cidx : (((i : Int) + j).toNat) = i + j := by omega
      rw [if_true, w64 (x := (i : Int) + j) (by omega) (by omega), if_pos (by omega), if_pos (by omega)]
      rw [show ((i : Int) + (j : Int)) = ((i + j : Nat) : Int) by omega, rd_nat, Int.toNat_natCast]
      have hco : c + out.getD (i + j) 0 = ((c.toNat + (out.getD (i + j) 0).toNat : Nat) : Int) := by omega
      by_cases hjb : (j : Int) < (b.length : Int)
      · rw [if_pos hjb, if_pos (by omega), if_pos (by omega), if_pos (by omega), rd_nat, rd_nat]
        have hxy : a.getD i 0 * b.getD j 0 = (((a.getD i 0).toNat * (b.getD j 0).toNat : Nat) : Int) := by rw [Int.natCast_mul, da.1, db.1]
        rw [hxy, hco, w64 (x := ((c.toNat + (out.getD (i + j) 0).toNat : Nat) : Int)) (by omega) (by omega), w64 (x := (((a.getD i 0).toNat * (b.getD j 0).toNat : Nat) : Int)) (by omega) (by omega), ← Int.natCast_add, w64 (x := ((c.toNat + (out.getD (i + j) 0).toNat + (a.getD i 0).toNat * (b.getD j 0).toNat : Nat) : Int)) (by omega) (by omega), tmod_dig (by omega), tdiv_dig (by omega), w64 (x := (j : Int) + 1) (by omega) (by omega), w64 (by omega) (by omega)]
        have := step _ rfl
        exact this
      · have hb0 : b.getD j 0 = 0 := getD_ge (by omega)
        rw [if_neg hjb, hco, w64 (x := ((c.toNat + (out.getD (i + j) 0).toNat : Nat) : Int)) (by omega) (by omega), tmod_dig (by omega), tdiv_dig (by omega), w64 (x := (j : Int) + 1) (by omega) (by omega), w64 (by omega) (by omega)]
        have := step (c.toNat + (out.getD (i + j) 0).toNat) (by rw [hb0]; simp)
        exact this
    simp only [vernierref01_Mul.l1]
    by_cases hjb : (j : Int) < (b.length : Int)
    · rw [if_pos hjb]; exact jt
    · rw [if_neg hjb]
      by_cases hc : c > 0
      · rw [decide_eq_true hc]; exact jt
      · rw [decide_eq_false hc]
        obtain rfl : c = 0 := by omega
        rw [← val_drop, List.drop_eq_nil_of_le (by omega), val_nil, Nat.mul_zero, Int.toNat_zero, Nat.add_zero, Nat.mul_zero, Nat.add_zero] at hv
        exact over j out (k + 1) (by omega) hw hl hv
theorem Mul_outer {a b : List Int} (ha : W16 a) (hb : W16 b) (fa : Few_ a) (fb : Few_ b) (d : Nat) : ∀ (i : Nat) (out : List Int) (k : Nat), i + d = a.length → d * (2 * b.length + 12) + a.length + b.length + 5 < k → W16 out → out.length = a.length + b.length + 1 →
    val 65536 out = val 65536 (a.take i) * val 65536 b → vernierref01_Mul.l0 k a b out i = some (D (val 65536 a * val 65536 b)) := by
  have fa' := fa
  have fb' := fb
  unfold Few_ at fa' fb'
  induction d with
  | zero =>
    intro i out k hi hk hw hl hv
    obtain ⟨k, rfl⟩ : ∃ m, k = m + 1 := ⟨k - 1, by omega⟩
    simp only [vernierref01_Mul.l0]
    rw [if_neg (by omega), cut_f hw (by omega) (by omega), hv, List.take_of_length_le (by omega)]
    rfl
  | succ d ih =>
    intro i out k hi hk hw hl hv
    rw [Nat.succ_mul] at hk
    obtain ⟨k, rfl⟩ : ∃ m, k = m + 1 := ⟨k - 1, by omega⟩
    simp only [vernierref01_Mul.l0]
    rw [if_pos (by omega)]
    have hV : val 65536 (a.take (i + 1)) * val 65536 b < 65536 ^ (i + 1 + b.length) := by
      have h1 := val_lt (ha.take (i + 1))
      have h2 := val_lt hb
      rw [List.length_take, Nat.min_eq_left (by omega)] at h1
      rw [Nat.pow_add]
      exact Nat.mul_lt_mul'' h1 h2
    refine Mul_inner ha hb fa fb i (by omega) (val 65536 (a.take (i + 1)) * val 65536 b) (d * (2 * b.length + 12) + a.length + b.length + 5) _ hV ?_ (b.length + 1) 0 out 0 k (by omega) (by omega) hw hl (by omega) (by omega) ?_
    · intro out' hw' hl' hv' k' hk'
      exact ih (i + 1) out' k' (by omega) hk' hw' hl' hv'
    · rw [hv, List.drop_zero, Nat.add_zero, Int.toNat_zero, Nat.zero_add, val_take_succ, Nat.add_mul, Nat.mul_assoc]
theorem Mul_f {a b : List Int} (ha : W16 a) (hb : W16 b) (fa : Few_ a) (fb : Few_ b) {k : Nat} (hk : a.length * (2 * b.length + 12) + a.length + b.length + 5 < k) : vernierref01_Mul.f k a b = some (D (val 65536 a * val 65536 b)) := by
  have fa' := fa
  have fb' := fb
  unfold Few_ at fa' fb'
  unfold vernierref01_Mul.f
  rw [w64 (x := (a.length : Int) + b.length) (by omega) (by omega), w64 (by omega) (by omega), if_pos (by omega), if_pos (by omega)]
  have e : ((a.length : Int) + b.length + 1).toNat = a.length + b.length + 1 := by omega
  rw [e]
  exact Mul_outer ha hb fa fb a.length 0 _ k (by omega) hk (Wf.zeros (by omega) _) (by simp) (by rw [val_zeros]; simp [val_nil])
theorem pow16 (s : Nat) : 2 ^ s = 65536 ^ (s / 16) * 2 ^ (s % 16) := by
  have : (65536 : Nat) = 2 ^ 16 := rfl
  rw [this, ← Nat.pow_mul, ← Nat.pow_add]
  congr 1
  omega
theorem pow_small {t : Nat} (h : t < 16) : 2 ^ t < 65536 := by
  have := (Nat.pow_lt_pow_iff_right (by omega : 1 < 2)).2 h
  exact this
theorem Shl_loop (n : Nat) (fn : (D n).length ≤ 549755813888) (s : Nat) (hs : s ≤ 1099511627776) (d : Nat) : ∀ (t k : Nat), t + d = s % 16 → d + 20 * (D n).length + s + 100 < k →
    vernierref01_Shl.l0 k (D n) s (List.replicate (s / 16) 0) ((2 ^ t : Nat) : Int) t = some (D (n * 2 ^ s)) := by
  induction d with
  | zero =>
    intro t k ht hk
    obtain ⟨k, rfl⟩ : ∃ m, k = m + 1 := ⟨k - 1, by omega⟩
    simp only [vernierref01_Shl.l0]
    have hm : Int.tmod (s : Int) 16 = ((s % 16 : Nat) : Int) := by rw [Int.tmod_eq_emod_of_nonneg (by omega)]; omega
    rw [hm, if_neg (by omega)]
    have hp := pow_small (t := t) (by omega)
    have hp0 := Nat.two_pow_pos t
    have w1 : W16 [((2 ^ t : Nat) : Int)] := Wf.cons (by omega) (by omega) (Wf.nil _)
    rw [Mul_f (D_wf n) w1 (by unfold Few_; omega) (by unfold Few_; simp) (by simp only [List.length_singleton]; omega), D_val]
    simp only [Option.bind_some]
    have e1 : val 65536 [((2 ^ t : Nat) : Int)] = 2 ^ t := by rw [val_cons, val_nil, Int.toNat_natCast, Nat.mul_zero, Nat.add_zero]
    rw [e1]
    have hl : (D (n * 2 ^ t)).length ≤ (D n).length + 1 := by
      apply digs_length_le (by omega)
      have h1 := le_of_digs_length (b := 65536) (by omega) n
      rw [Nat.pow_succ]
      exact Nat.mul_lt_mul'' h1 hp
    rw [List.length_replicate, if_pos (by omega), cut_f ((Wf.zeros (by omega) _).append (D_wf _)) (by rw [List.length_append, List.length_replicate]; omega) (by rw [List.length_append, List.length_replicate]; omega), val_append, val_zeros, List.length_replicate, D_val, Nat.zero_add]
    have : 65536 ^ (s / 16) * (n * 2 ^ t) = n * 2 ^ s := by
      rw [pow16 s, show s % 16 = t by omega, Nat.mul_left_comm]
    rw [this]
    rfl
  | succ d ih =>
    intro t k ht hk
    obtain ⟨k, rfl⟩ : ∃ m, k = m + 1 := ⟨k - 1, by omega⟩
    simp only [vernierref01_Shl.l0]
    have hm : Int.tmod (s : Int) 16 = ((s % 16 : Nat) : Int) := by rw [Int.tmod_eq_emod_of_nonneg (by omega)]; omega
    have hp := pow_small (t := t) (by omega)
    have hp0 := Nat.two_pow_pos t
    rw [hm, if_pos (by omega), w64 (by omega) (by omega), w64 (by omega) (by omega)]
    have := ih (t + 1) k (by omega) (by omega)
    rw [← this]
    congr 1
    rw [Nat.pow_succ]
    omega
theorem Shl_f (n s : Nat) (fn : (D n).length ≤ 549755813888) (hs : s ≤ 1099511627776) {k : Nat} (hk : 20 * (D n).length + s + 200 < k) : vernierref01_Shl.f k (D n) s = some (D (n * 2 ^ s)) := by
  unfold vernierref01_Shl.f
  have hd : Int.tdiv (s : Int) 16 = ((s / 16 : Nat) : Int) := by rw [Int.tdiv_eq_ediv_of_nonneg (by omega)]; omega
  rw [hd, w64 (by omega) (by omega), if_pos (by omega), if_pos (by omega), Int.toNat_natCast]
  have := Shl_loop n fn s hs (s % 16) 0 k (by omega) (by omega)
  exact this
theorem len_shl (n s : Nat) : (D (n * 2 ^ s)).length ≤ (D n).length + s / 16 + 1 := by
  apply digs_length_le (by omega)
  have h1 := le_of_digs_length (b := 65536) (by omega) n
  have h2 : 2 ^ s < 65536 ^ (s / 16 + 1) := by
    rw [pow16 s, Nat.pow_succ]
    exact Nat.mul_lt_mul_of_pos_left (pow_small (by omega)) (Nat.pow_pos (by omega))
  rw [Nat.add_assoc, Nat.pow_add]
  exact Nat.mul_lt_mul'' h1 h2
end Go.Proofs.Ytjbpchebabhoeab.Rf
end
section
set_option linter.unusedVariables false
set_option linter.unusedSimpArgs false
namespace Go.Proofs.Ytjbpchebabhoeab.Rf
open Go.RowKit Go.Proofs.Ytjbpchebabhoeab.P Go.Proofs.Ytjbpchebabhoeab.X Go.Proofs.Ytjbpchebabhoeab.Bt Go.Proofs.Ytjbpchebabhoeab.Dg Go.Proofs.YtjbpchebabhoeabW.PrintWords
theorem digs_drop {b : Nat} (hb : 1 < b) : ∀ (i n : Nat), (digs b n).drop i = digs b (n / b ^ i) := by
  intro i
  induction i with
  | zero => intro n; simp
  | succ i ih =>
    intro n
    rcases Nat.eq_zero_or_pos n with rfl | hp
    · rw [digs_zero]; simp [digs_zero]
    · rw [digs_pos hb hp, List.drop_succ_cons, ih, Nat.div_div_eq_div_mul, Nat.pow_succ, Nat.mul_comm]
theorem digs_getD {b : Nat} (hb : 1 < b) (i n : Nat) : (digs b n).getD i 0 = ((n / b ^ i % b : Nat) : Int) := by
  have h := digs_drop hb i n
  rcases Nat.eq_zero_or_pos (n / b ^ i) with h0 | hp
  · rw [h0, digs_zero] at h
    have hl : (digs b n).length ≤ i := by rw [List.drop_eq_nil_iff] at h; exact h
    rw [getD_ge hl, h0, Nat.zero_mod]
    rfl
  · rw [digs_pos hb hp] at h
    have h2 : ((digs b n).drop i).getD 0 0 = ((n / b ^ i % b : Nat) : Int) := by rw [h]; rfl
    rw [← h2]
    simp only [List.getD_eq_getElem?_getD, List.getElem?_drop, Nat.add_zero]
abbrev B64 : Nat := 18446744073709551616
theorem Limbs_loop (n : Nat) (fn : (D n).length ≤ 17592186044416) (d : Nat) : ∀ (i : Nat) (out : List Int) (k : Nat), (D n).length ≤ i + d → 6 * d + 10 < k → 4 * out.length ≤ i →  i ≤ (D n).length + 3 →
    vernierref01_Limbs.l0 k (D n) out i = some (out ++ digs B64 (n / 65536 ^ i)) := by
  induction d using Nat.strongRecOn with
  | _ d ih =>
    intro i out k hd hk ho hi
    obtain ⟨k, rfl⟩ : ∃ m, k = m + 6 := ⟨k - 6, by omega⟩
    by_cases c : i < (D n).length
    · have hnz : 0 < n / 65536 ^ i := by
        rcases Nat.eq_zero_or_pos (n / 65536 ^ i) with h0 | hp
        · have h := digs_drop (b := 65536) (by omega) i n
          rw [h0, digs_zero, List.drop_eq_nil_iff] at h
          unfold D at c
          omega
        · exact hp
      have dig : ∀ j : Nat, rd (D n) ((j : Nat) : Int) = ((n / 65536 ^ j % 65536 : Nat) : Int) := by
        intro j; rw [rd_nat]; exact digs_getD (by omega) j n
      have dz : ∀ j : Nat, (D n).length ≤ j → n / 65536 ^ j % 65536 = 0 := by
        intro j hj
        have h := digs_getD (b := 65536) (by omega) j n
        unfold D at hj
        rw [getD_ge hj] at h
        omega
      have step : ∀ (k : Nat) (x6 : Nat) (X : Nat), X * 65536 + 65535 < 18446744073709551616 → x6 ≤ 3 → vernierref01_Limbs.l1 (k + 1) (D n) out i X x6 = vernierref01_Limbs.l1 k (D n) out i ((X * 65536 + n / 65536 ^ (i + x6) % 65536 : Nat) : Int) ((x6 : Int) - 1) := by
        intro k x6 X hX hx
        simp only [vernierref01_Limbs.l1]
        have hm : n / 65536 ^ (i + x6) % 65536 < 65536 := Nat.mod_lt _ (by omega)
        rw [if_pos (by omega), w64 (x := (i : Int) + x6) (by omega) (by omega), w64 (x := (x6 : Int) - 1) (by omega) (by omega), u64_in (x := (X : Int) * 65536) (by omega) (by omega)]
        have e := dig (i + x6)
        rw [show ((i + x6 : Nat) : Int) = (i : Int) + x6 by omega] at e
        by_cases g : ((i : Int) + x6) < ((D n).length : Int)
        · rw [if_pos g, if_pos (by omega), e, u64_in (x := ((n / 65536 ^ (i + x6) % 65536 : Nat) : Int)) (by omega) (by omega), u64_in (x := (X : Int) * 65536 + ((n / 65536 ^ (i + x6) % 65536 : Nat) : Int)) (by omega) (by omega), Int.natCast_add, Int.natCast_mul]
          rfl
        · rw [if_neg g, dz (i + x6) (by omega), Nat.add_zero, Int.natCast_mul]
          rfl
      simp only [vernierref01_Limbs.l0]
      rw [if_pos (by omega)]
      have hm3 : n / 65536 ^ (i + 3) % 65536 < 65536 := Nat.mod_lt _ (by omega)
      have hm2 : n / 65536 ^ (i + 2) % 65536 < 65536 := Nat.mod_lt _ (by omega)
      have hm1 : n / 65536 ^ (i + 1) % 65536 < 65536 := Nat.mod_lt _ (by omega)
      have hm0 : n / 65536 ^ (i + 0) % 65536 < 65536 := Nat.mod_lt _ (by omega)
      have s3 := step (k + 4) 3 0 (by omega) (by omega)
      have s2 := step (k + 3) 2 (0 * 65536 + n / 65536 ^ (i + 3) % 65536) (by omega) (by omega)
      have s1 := step (k + 2) 1 ((0 * 65536 + n / 65536 ^ (i + 3) % 65536) * 65536 + n / 65536 ^ (i + 2) % 65536) (by omega) (by omega)
      have s0 := step (k + 1) 0 (((0 * 65536 + n / 65536 ^ (i + 3) % 65536) * 65536 + n / 65536 ^ (i + 2) % 65536) * 65536 + n / 65536 ^ (i + 1) % 65536) (by omega) (by omega)
      have e1 : vernierref01_Limbs.l1 (k + 5) (D n) out i 0 3 = _ := s3
      rw [e1]
      have e2 := s2
      rw [show ((2 : Nat) : Int) = ((3 : Nat) : Int) - 1 from rfl] at e2
      rw [e2]
      have e3 := s1
      rw [show ((1 : Nat) : Int) = ((3 : Nat) : Int) - 1 - 1 from rfl] at e3
      rw [e3]
      have e4 := s0
      rw [show ((0 : Nat) : Int) = ((3 : Nat) : Int) - 1 - 1 - 1 from rfl] at e4
      rw [e4]
      simp only [vernierref01_Limbs.l1]
      rw [if_neg (by omega), if_pos (by omega), w64 (x := (i : Int) + 4) (by omega) (by omega)]
      have hp4 : ∀ j : Nat, n / 65536 ^ (i + j) = n / 65536 ^ i / 65536 ^ j := by intro j; rw [Nat.pow_add, Nat.div_div_eq_div_mul]
      have hx : (((0 * 65536 + n / 65536 ^ (i + 3) % 65536) * 65536 + n / 65536 ^ (i + 2) % 65536) * 65536 + n / 65536 ^ (i + 1) % 65536) * 65536 + n / 65536 ^ (i + 0) % 65536 = n / 65536 ^ i % B64 := by
        rw [hp4 3, hp4 2, hp4 1, hp4 0]
        generalize n / 65536 ^ i = m
        rw [show (65536 : Nat) ^ 3 = 281474976710656 from rfl, show (65536 : Nat) ^ 2 = 4294967296 from rfl, Nat.pow_one, Nat.pow_zero, Nat.div_one]
        show _ = m % 18446744073709551616
        omega
      rw [hx]
      have hn4 : n / 65536 ^ (i + 4) = n / 65536 ^ i / B64 := hp4 4
      have hrec := ih (d - 4) (by omega) (i + 4) (out ++ [((n / 65536 ^ i % B64 : Nat) : Int)]) k (by omega) (by omega) (by rw [List.length_append]; simp only [List.length_singleton]; omega) (by omega)
      rw [show ((i + 4 : Nat) : Int) = (i : Int) + 4 by omega] at hrec
      rw [digs_pos (b := B64) (by decide) hnz, ← hn4]
      rw [hrec, List.append_assoc]
      rfl
    · simp only [vernierref01_Limbs.l0]
      rw [if_neg (by omega)]
      have h := digs_drop (b := 65536) (by omega) i n
      rw [List.drop_eq_nil_iff.2 (show (digs 65536 n).length ≤ i by unfold D at c; omega)] at h
      have h0 : n / 65536 ^ i = 0 := (digs_eq_nil (b := 65536) (by omega)).1 h.symm
      rw [h0, digs_zero, List.append_nil]
theorem Limbs_f (n : Nat) (fn : (D n).length ≤ 17592186044416) {k : Nat} (hk : 6 * (D n).length + 20 < k) : vernierref01_Limbs.f k (D n) = some (digs B64 n) := by
  unfold vernierref01_Limbs.f
  have := Limbs_loop n fn (D n).length 0 [] k (by omega) (by omega) (by simp) (by omega)
  rw [Nat.pow_zero, Nat.div_one, List.nil_append] at this
  exact this
theorem Shr_down {l : List Int} (hw : W16 l) (fl : l.length ≤ 35184372088832) {P : Nat} (hP : 0 < P) (hP2 : P ≤ 65536) : ∀ (i : Nat) (out : List Int) (r k : Nat), i ≤ l.length → i + l.length + 10 < k → W16 out → out.length = l.length → r = val 65536 (l.drop i) % P →
    val 65536 (out.drop i) = val 65536 (l.drop i) / P → vernierref01_Shr.l1 k l P out r ((i : Int) - 1) = some (D (val 65536 l / P)) := by
  intro i
  induction i with
  | zero =>
    intro out r k hi hk hwo hlo hr hv
    obtain ⟨k, rfl⟩ : ∃ m, k = m + 1 := ⟨k - 1, by omega⟩
    simp only [vernierref01_Shr.l1]
    rw [if_neg (by omega), cut_f hwo (by omega) (by omega)]
    rw [List.drop_zero, List.drop_zero] at hv
    rw [hv]; rfl
  | succ i ih =>
    intro out r k hi hk hwo hlo hr hv
    obtain ⟨k, rfl⟩ : ∃ m, k = m + 1 := ⟨k - 1, by omega⟩
    simp only [vernierref01_Shr.l1]
    have hr2 : r < P := by rw [hr]; exact Nat.mod_lt _ hP
    have hd := getD_toNat (b := 65536) (by omega) hw i
    rw [show (((i + 1 : Nat) : Int) - 1) = (i : Int) by omega, if_pos (by omega), if_pos (by omega), if_pos (by omega), if_neg (by omega), if_pos (by omega), rd_nat, ← hd.1]
    generalize hx : (l.getD i 0).toNat = x at *
    have hx2 : x < 65536 := hd.2
    have hcur : r * 65536 + x < P * 65536 := by
      have : (r + 1) * 65536 ≤ P * 65536 := Nat.mul_le_mul_right _ hr2
      omega
    have hcur2 : P * 65536 ≤ 65536 * 65536 := Nat.mul_le_mul_right _ hP2
    rw [w64 (x := (r : Int) * 65536) (by omega) (by omega), w64 (x := (r : Int) * 65536 + x) (by omega) (by omega)]
    have e1 : Int.tdiv ((r : Int) * 65536 + x) P = (((r * 65536 + x) / P : Nat) : Int) := by
      rw [Int.tdiv_eq_ediv_of_nonneg (by omega), Int.natCast_ediv, Int.natCast_add, Int.natCast_mul]; rfl
    have e2 : Int.tmod ((r : Int) * 65536 + x) P = (((r * 65536 + x) % P : Nat) : Int) := by
      rw [Int.tmod_eq_emod_of_nonneg (by omega), Int.natCast_emod, Int.natCast_add, Int.natCast_mul]; rfl
    have hq : (r * 65536 + x) / P < 65536 := by rw [Nat.div_lt_iff_lt_mul hP, Nat.mul_comm 65536]; exact hcur
    have hrm : (r * 65536 + x) % P < P := Nat.mod_lt _ hP
    rw [e1, e2]
    obtain ⟨Q, hQ⟩ : ∃ Q, (r * 65536 + x) / P = Q := ⟨_, rfl⟩
    obtain ⟨M, hM⟩ : ∃ M, (r * 65536 + x) % P = M := ⟨_, rfl⟩
    rw [hQ] at hq ⊢
    rw [hM] at hrm ⊢
    rw [w64 (by omega) (by omega), w64 (by omega) (by omega), Int.toNat_natCast]
    have hV := val_drop 65536 l i
    rw [hx] at hV
    have hdm := Nat.div_add_mod (val 65536 (l.drop (i + 1))) P
    rw [← hr, ← hv] at hdm
    have hV2 : val 65536 (l.drop i) = P * (65536 * val 65536 (out.drop (i + 1))) + (r * 65536 + x) := by
      rw [hV, ← hdm, Nat.mul_add, Nat.mul_left_comm]; omega
    refine ih _ _ k (by omega) (by omega) (hwo.set i (by omega) (by omega)) (by rw [List.length_set]; exact hlo) ?_ ?_
    · rw [hV2, Nat.mul_add_mod, hM]
    · rw [hV2, Nat.mul_add_div hP, hQ, val_drop, List.getD_eq_getElem?_getD, List.getElem?_set_self (by omega), List.drop_set_of_lt (by omega)]
      simp only [Option.getD_some, Int.toNat_natCast]
      omega
theorem Shr_up (n s : Nat) (fn : (D n).length ≤ 35184372088832) (hs : s ≤ 281474976710656) (hsl : s / 16 < (D n).length) (d : Nat) : ∀ (t k : Nat), t + d = s % 16 → d + 2 * (D n).length + 20 < k →
    vernierref01_Shr.l0 k (D n) s ((2 ^ t : Nat) : Int) t = some (D (n / 2 ^ s)) := by
  induction d with
  | zero =>
    intro t k ht hk
    obtain ⟨k, rfl⟩ : ∃ m, k = m + 1 := ⟨k - 1, by omega⟩
    simp only [vernierref01_Shr.l0]
    have hm : Int.tmod (s : Int) 16 = ((s % 16 : Nat) : Int) := by rw [Int.tmod_eq_emod_of_nonneg (by omega)]; omega
    have hd : Int.tdiv (s : Int) 16 = ((s / 16 : Nat) : Int) := by rw [Int.tdiv_eq_ediv_of_nonneg (by omega)]; omega
    have hlen : ((D n).drop (s / 16)).length = (D n).length - s / 16 := List.length_drop
    rw [hm, hd, w64 (x := ((s / 16 : Nat) : Int)) (by omega) (by omega), if_neg (by omega), if_pos (by omega), if_pos (by omega), Int.toNat_natCast, if_pos (by omega), Int.toNat_natCast, if_pos (by omega), w64 (by omega) (by omega)]
    have hP2 : 2 ^ t ≤ 65536 := by
      have := Nat.pow_le_pow_right (show 0 < 2 by omega) (show t ≤ 16 by omega)
      exact this
    have := Shr_down (l := (D n).drop (s / 16)) ((D_wf n).drop _) (by omega) (Nat.two_pow_pos t) hP2 ((D n).drop (s / 16)).length (List.replicate ((D n).drop (s / 16)).length 0) 0 k (Nat.le_refl _) (by omega) (Wf.zeros (by omega) _) (by rw [List.length_replicate])
      (by rw [List.drop_length, val_nil, Nat.zero_mod]) (by rw [List.drop_length, val_nil, List.drop_of_length_le (by rw [List.length_replicate]; exact Nat.le_refl _), val_nil, Nat.zero_div])
    rw [show ((0 : Nat) : Int) = 0 from rfl] at this
    rw [this]
    congr 2
    unfold D
    rw [digs_drop (by omega), val_digs (by omega), Nat.div_div_eq_div_mul, show s = 16 * (s / 16) + t by omega, Nat.pow_add, Nat.pow_mul, show (16 * (s / 16) + t) / 16 = s / 16 by omega]
  | succ d ih =>
    intro t k ht hk
    obtain ⟨k, rfl⟩ : ∃ m, k = m + 1 := ⟨k - 1, by omega⟩
    simp only [vernierref01_Shr.l0]
    have hm : Int.tmod (s : Int) 16 = ((s % 16 : Nat) : Int) := by rw [Int.tmod_eq_emod_of_nonneg (by omega)]; omega
    have hp : 2 ^ (t + 1) ≤ 2 ^ 16 := Nat.pow_le_pow_right (by omega) (by omega)
    have he : 2 ^ (t + 1) = 2 * 2 ^ t := by rw [Nat.pow_succ, Nat.mul_comm]
    rw [hm, if_pos (by omega), w64 (x := (t : Int) + 1) (by omega) (by omega), w64 (by omega) (by omega)]
    have := ih (t + 1) k (by omega) (by omega)
    rw [← this, he]
    rfl
theorem Shr_f (n s : Nat) (fn : (D n).length ≤ 35184372088832) (hs : s ≤ 281474976710656) {k : Nat} (hk : 2 * (D n).length + 50 < k) : vernierref01_Shr.f k (D n) s = some (D (n / 2 ^ s)) := by
  unfold vernierref01_Shr.f
  have hd : Int.tdiv (s : Int) 16 = ((s / 16 : Nat) : Int) := by rw [Int.tdiv_eq_ediv_of_nonneg (by omega)]; omega
  rw [hd, w64 (by omega) (by omega)]
  by_cases c : ((s / 16 : Nat) : Int) ≥ ((D n).length : Int)
  · rw [if_pos c]
    have h := digs_drop (b := 65536) (by omega) (s / 16) n
    rw [List.drop_eq_nil_iff.2 (show (digs 65536 n).length ≤ s / 16 by unfold D at c; omega)] at h
    have h0 : n / 65536 ^ (s / 16) = 0 := (digs_eq_nil (b := 65536) (by omega)).1 h.symm
    have h1 : n / 2 ^ s = 0 := by
      conv => lhs; rw [show s = 16 * (s / 16) + s % 16 by omega, Nat.pow_add, ← Nat.div_div_eq_div_mul, Nat.pow_mul]
      rw [show (2 : Nat) ^ 16 = 65536 from rfl, h0, Nat.zero_div]
    rw [h1, D_zero]
  · rw [if_neg c]
    have := Shr_up n s fn hs (by omega) (s % 16) 0 k (by omega) (by omega)
    exact this
end Go.Proofs.Ytjbpchebabhoeab.Rf
end
section
set_option linter.unusedVariables false
set_option linter.unusedSimpArgs false
namespace Go.Proofs.Ytjbpchebabhoeab.Rf
open Go.RowKit Go.Proofs.Ytjbpchebabhoeab.P Go.Proofs.Ytjbpchebabhoeab.X Go.Proofs.Ytjbpchebabhoeab.Bt Go.Proofs.Ytjbpchebabhoeab.Dg Go.Proofs.YtjbpchebabhoeabW.PrintWords
theorem Of_inner (l : List Int) (i : Nat) (hi : i < l.length) (V K : Nat) (res : List Int)
    (H : ∀ out : List Int, W16 out → out.length = 4 * i + 4 → val 65536 out = V → ∀ k, K < k → vernierref01_Of.l0 k l out ((i : Int) + 1) = some res) (hl : 4 * l.length ≤ 17592186044416) (d : Nat) :
    ∀ (j X : Nat) (out : List Int) (k : Nat), j + d = 4 → X < 65536 ^ d → W16 out → out.length = 4 * i + j → val 65536 out + 65536 ^ out.length * X = V → K + d + 1 < k →
      vernierref01_Of.l1 k l out i X j = some res := by
  induction d with
  | zero =>
    intro j X out k hj hX hw hlen hv hk
    obtain ⟨k, rfl⟩ : ∃ m, k = m + 1 := ⟨k - 1, by omega⟩
    simp only [vernierref01_Of.l1]
    rw [Nat.pow_zero] at hX
    obtain rfl : X = 0 := by omega
    rw [if_neg (by omega), w64 (by omega) (by omega)]
    exact H out hw (by omega) (by omega) k (by omega)
  | succ d ih =>
    intro j X out k hj hX hw hlen hv hk
    obtain ⟨k, rfl⟩ : ∃ m, k = m + 1 := ⟨k - 1, by omega⟩
    simp only [vernierref01_Of.l1]
    have hX64 : X < 65536 ^ 4 := Nat.lt_of_lt_of_le hX (Nat.pow_le_pow_right (by omega) (by omega))
    have h1 : Int.tmod (X : Int) 65536 = ((X % 65536 : Nat) : Int) := by rw [tmod_dig (by omega)]; omega
    have h2 : Int.tdiv (X : Int) 65536 = ((X / 65536 : Nat) : Int) := by rw [tdiv_dig (by omega)]; omega
    rw [if_pos (by omega), if_pos (by omega), h1, h2, w64 (by omega) (by omega), u64_in (by omega) (by omega), w64 (by omega) (by omega)]
    refine ih (j + 1) (X / 65536) _ k (by omega) ?_ (snoc_wf hw (by omega) (by omega)) ?_ ?_ (by omega)
    · rw [Nat.div_lt_iff_lt_mul (by omega)]; rw [Nat.pow_succ] at hX; exact hX
    · rw [List.length_append]; simp only [List.length_singleton]; omega
    · rw [val_snoc, List.length_append, ← hv]
      simp only [List.length_singleton]
      rw [Nat.pow_succ, Int.toNat_natCast, Nat.mul_assoc, Nat.add_assoc, ← Nat.mul_add]
      congr 2
      omega
theorem Of_loop {l : List Int} (h : Wf 18446744073709551616 l) (hl : 4 * l.length ≤ 17592186044416) (d : Nat) : ∀ (i : Nat) (out : List Int) (k : Nat), i + d = l.length → 8 * d + 4 * l.length + 5 < k → W16 out → out.length = 4 * i →
    val 65536 out + 65536 ^ (4 * i) * val 18446744073709551616 (l.drop i) = val 18446744073709551616 l → vernierref01_Of.l0 k l out i = some (D (val 18446744073709551616 l)) := by
  induction d with
  | zero =>
    intro i out k hi hk hw hlen hv
    obtain ⟨k, rfl⟩ : ∃ m, k = m + 1 := ⟨k - 1, by omega⟩
    simp only [vernierref01_Of.l0]
    rw [if_neg (by omega), cut_f hw (by omega) (by omega)]
    rw [List.drop_of_length_le (by omega), val_nil, Nat.mul_zero, Nat.add_zero] at hv
    rw [hv]; rfl
  | succ d ih =>
    intro i out k hi hk hw hlen hv
    obtain ⟨k, rfl⟩ : ∃ m, k = m + 1 := ⟨k - 1, by omega⟩
    simp only [vernierref01_Of.l0]
    have hx := h.getD (by omega) i
    obtain ⟨X, hX⟩ := Int.eq_ofNat_of_zero_le hx.1
    have hdrop : l.drop i = l.getD i 0 :: l.drop (i + 1) := by
      rw [List.drop_eq_getElem_cons (by omega), List.getD_eq_getElem?_getD, List.getElem?_eq_getElem (by omega)]; rfl
    rw [hdrop, val_cons, hX, Int.toNat_natCast] at hv
    rw [if_pos (by omega), if_pos (by omega), rd_nat, hX]
    refine Of_inner l i (by omega) (val 65536 out + 65536 ^ (4 * i) * X) (8 * d + 4 * l.length + 5) _ ?_ hl 4 0 X out k (by omega) (by rw [hX] at hx; omega) hw (by omega) (by rw [hlen]) (by omega)
    intro out2 hw2 hlen2 hv2 k2 hk2
    refine ih (i + 1) out2 k2 (by omega) hk2 hw2 (by omega) ?_
    rw [hv2, ← hv, show 4 * (i + 1) = 4 * i + 4 by omega, Nat.pow_add, Nat.mul_add, Nat.mul_assoc, Nat.add_assoc, show (65536 : Nat) ^ 4 = 18446744073709551616 from rfl]
theorem Of_f {l : List Int} (h : Wf 18446744073709551616 l) (hl : 4 * l.length ≤ 17592186044416) {k : Nat} (hk : 12 * l.length + 5 < k) : vernierref01_Of.f k l = some (D (val 18446744073709551616 l)) := by
  unfold vernierref01_Of.f
  exact Of_loop h hl l.length 0 [] k (by omega) (by omega) (Wf.nil _) rfl (by simp [val_nil])
theorem Word_f (n : Nat) (h : n < 18446744073709551616) {k : Nat} (hk : 50 ≤ k) : vernierref01_Word.f k (n : Int) = some (D n) := by
  unfold vernierref01_Word.f
  rw [Of_f (Wf.cons (by omega) (by omega) (Wf.nil _)) (by simp) (by simp; omega)]
  simp only [Option.bind_some, val_cons, val_nil, Int.toNat_natCast, Nat.mul_zero, Nat.add_zero]
end Go.Proofs.Ytjbpchebabhoeab.Rf
end
section
set_option linter.unusedVariables false
set_option linter.unusedSimpArgs false
namespace Go.Proofs.Ytjbpchebabhoeab.Rf
open Go.RowKit Go.Proofs.Ytjbpchebabhoeab.P Go.Proofs.Ytjbpchebabhoeab.X Go.Proofs.Ytjbpchebabhoeab.Bt Go.Proofs.Ytjbpchebabhoeab.Dg Go.Proofs.Ytjbpchebabhoeab.Fl Go.Proofs.YtjbpchebabhoeabW.PrintWords
def near (neg : Bool) (m s : Nat) (mode : Int) : Nat := m / 2 ^ s + (if upf neg (m / 2 ^ s) (decide (m / 2 ^ (s - 1) % 2 = 1)) (decide (m % 2 ^ (s - 1) ≠ 0)) mode = true then 1 else 0)
def wq (a mode : Int) : Nat := if 0 ≤ xpo a then sig a * 2 ^ (xpo a).toNat else near (sgn a) (sig a) (-xpo a).toNat mode
def wo (a : Int) : Bool := if 0 ≤ xpo a then false else decide (sig a % 2 ^ (-xpo a).toNat ≠ 0)
theorem near_le (neg : Bool) {m s : Nat} (hm : m < 9007199254740992) (hs : 0 < s) (mode : Int) : near neg m s mode ≤ 4503599627370496 := by
  have h : m / 2 ^ s < 2 ^ 52 := by
    rw [Nat.div_lt_iff_lt_mul (Nat.two_pow_pos s)]
    have : 2 ^ 1 ≤ 2 ^ s := Nat.pow_le_pow_right (by omega) hs
    have := Nat.mul_le_mul_left (2 ^ 52) this
    omega
  unfold near
  split <;> omega
theorem half_all (m s : Nat) (hs : 0 < s) : ∃ H Rr : Bool, decide (m / 2 ^ (s - 1) % 2 = 1) = H ∧ decide (m % 2 ^ (s - 1) ≠ 0) = Rr ∧ (2 ^ s < m % 2 ^ s * 2 ↔ (H = true ∧ Rr = true)) ∧ (2 ^ s = m % 2 ^ s * 2 ↔ (H = true ∧ ¬ Rr = true)) ∧ (m % 2 ^ s = 0 ↔ (¬ H = true ∧ ¬ Rr = true)) := by
  obtain ⟨g1, g2, g3⟩ := half_rest m s hs
  refine ⟨_, _, rfl, rfl, ?_, ?_, ?_⟩
  · rw [g1, decide_eq_true_iff, decide_eq_true_iff]
  · rw [g2, decide_eq_true_iff, decide_eq_true_iff, Decidable.not_not]
  · rw [g3, decide_eq_true_iff, decide_eq_true_iff, Decidable.not_not]
theorem up13 (neg : Bool) (q : Nat) (hq : q < 18446744073709551616) (half rest : Bool) (mode : Int) (h : half = true ∨ rest = true) : fconv_up.f neg half rest q mode = some (upf neg q half rest mode) := by
  unfold fconv_up.f upf
  rw [and_1 (by omega) (by omega)]
  have e : ((q : Int) % 2 == 1) = decide (q % 2 = 1) := by
    rw [Bool.eq_iff_iff, beq_iff_eq, decide_eq_true_iff]
    omega
  rw [e]
  by_cases m1 : mode = 1
  · rw [if_pos m1, if_pos m1]
  · rw [if_neg m1, if_neg m1]
    by_cases m2 : mode = 2
    · rw [if_pos m2, if_pos m2]
    · rw [if_neg m2, if_neg m2]
      by_cases m3 : mode = 3
      · rw [if_pos m3, if_pos m3]
        revert h; cases neg <;> cases half <;> cases rest <;> simp
      · rw [if_neg m3, if_neg m3]
        by_cases m4 : mode = 4
        · rw [if_pos m4, if_pos m4]
          revert h; cases neg <;> cases half <;> cases rest <;> simp
        · rw [if_neg m4, if_neg m4]
          cases half <;> cases rest <;> rfl
theorem near_f (neg : Bool) {m s : Nat} (hm : m < 9007199254740992) (hs : 0 < s) (hs2 : s ≤ 2000) (mode : Int) {k : Nat} (hk : 2 ≤ k) :
    fconv_near.f k neg m s mode = some (((near neg m s mode : Nat) : Int), decide (m % 2 ^ s ≠ 0)) := by
  obtain ⟨k, rfl⟩ : ∃ t, k = t + 1 := ⟨k - 1, by omega⟩
  obtain ⟨T, hT0, hT1, hT2, hT3, hT4, hT5⟩ : ∃ T : Nat, 0 < T ∧ T ≤ 63 ∧ mn (s : Int) 63 = (T : Int) ∧ m / 2 ^ T = m / 2 ^ s ∧ m / 2 ^ (T - 1) % 2 = m / 2 ^ (s - 1) % 2 ∧ m % 2 ^ (T - 1) = m % 2 ^ (s - 1) := by
    by_cases c : s ≤ 63
    · refine ⟨s, hs, c, ?_, rfl, rfl, rfl⟩
      unfold mn; rw [if_neg (by omega)]
    · have h53 : ∀ t, 53 ≤ t → m < 2 ^ t := fun t ht => Nat.lt_of_lt_of_le (show m < 2 ^ 53 from hm) (Nat.pow_le_pow_right (by omega) ht)
      refine ⟨63, by omega, by omega, ?_, ?_, ?_, ?_⟩
      · unfold mn; rw [if_pos (by omega)]; rfl
      · rw [Nat.div_eq_of_lt (h53 63 (by omega)), Nat.div_eq_of_lt (h53 s (by omega))]
      · rw [Nat.div_eq_of_lt (h53 (63 - 1) (by omega)), Nat.div_eq_of_lt (h53 (s - 1) (by omega))]
      · rw [Nat.mod_eq_of_lt (h53 (63 - 1) (by omega)), Nat.mod_eq_of_lt (h53 (s - 1) (by omega))]
  obtain ⟨H, Rr, hH, hR, hgt, heq, hz⟩ := half_all m s hs
  have hq : m / 2 ^ s < 9007199254740992 := Nat.lt_of_le_of_lt (Nat.div_le_self _ _) hm
  unfold fconv_near.f
  rw [hT2, if_pos (by omega), w64 (by omega) (by omega), if_pos (by omega)]
  have e1 : (m : Int) / 2 ^ ((T : Int)).toNat = ((m / 2 ^ s : Nat) : Int) := by rw [Int.toNat_natCast, ← hT3, Int.natCast_ediv, Int.natCast_pow]; rfl
  have e2 : bits .and .u64 (shr .u64 (m : Int) ((T : Int) - 1)) 1 = ((m / 2 ^ (s - 1) % 2 : Nat) : Int) := by
    have hd : m / 2 ^ (T - 1) ≤ m := Nat.div_le_self _ _
    rw [shr_u64 (by omega) (by omega), show ((T : Int) - 1).toNat = T - 1 by omega, ← Int.natCast_ediv, ← hT4]
    generalize m / 2 ^ (T - 1) = y at hd ⊢
    clear e1 hq hT3 hT4 hT5
    rw [and_1 (by omega) (by omega)]
    omega
  have e3 : bits .and .u64 (m : Int) (IntKind.u64.wrap ((shl .u64 1 ((T : Int) - 1)) - 1)) = ((m % 2 ^ (s - 1) : Nat) : Int) := by
    have hp : 2 ^ (T - 1) ≤ 2 ^ 62 := Nat.pow_le_pow_right (by omega) (by omega)
    have hp0 := Nat.two_pow_pos (T - 1)
    rw [shl_u64 (by omega) (by omega), show ((T : Int) - 1).toNat = T - 1 by omega, Int.one_mul, Int.emod_eq_of_lt (by omega) (by omega), u64_in (by omega) (by omega), show ((2 ^ (T - 1) : Nat) : Int) - 1 = ((2 ^ (T - 1) - 1 : Nat) : Int) by omega, and_mask (T - 1) (by omega) (by omega) (by omega), ← Int.natCast_emod, hT5]
  rw [e1, e2, e3]
  have f2 : (((m / 2 ^ (s - 1) % 2 : Nat) : Int) == 1) = H := by
    rw [← hH, Bool.eq_iff_iff, beq_iff_eq, decide_eq_true_iff]; omega
  have f3 : (((m % 2 ^ (s - 1) : Nat) : Int) != 0) = Rr := by
    rw [← hR, Bool.eq_iff_iff, bne_iff_ne, decide_eq_true_iff]; omega
  rw [f2, f3]
  have hother : decide (m % 2 ^ s ≠ 0) = (H || Rr) := by
    rw [Bool.eq_iff_iff, decide_eq_true_iff, Ne, hz]
    cases H <;> cases Rr <;> simp
  have hn : near neg m s mode = m / 2 ^ s + (if upf neg (m / 2 ^ s) H Rr mode = true then 1 else 0) := by unfold near; rw [hH, hR]
  rw [hother, hn]
  have j0f : (H = true ∨ Rr = true) → fconv_near.j0 (k + 1) neg mode ((m / 2 ^ s : Nat) : Int) H Rr false = some (((m / 2 ^ s + (if upf neg (m / 2 ^ s) H Rr mode = true then 1 else 0) : Nat) : Int), true) := by
    intro h
    simp only [fconv_near.j0]
    rw [if_neg (by decide), up13 neg (m / 2 ^ s) (by omega) H Rr mode h]
    simp only [Option.bind_some]
    clear hn hT3 e1 hgt heq hz hother
    generalize m / 2 ^ s = y at hq ⊢
    by_cases u : upf neg y H Rr mode = true
    · rw [if_pos u, if_pos u, u64_in (by omega) (by omega)]; rfl
    · rw [if_neg u, if_neg u]; rfl
  by_cases c : H = true
  · rw [if_pos (by have := decide_eq_true_iff.1 (hH.trans c); omega), j0f (.inl c), c]; rfl
  · have c2 : H = false := by cases H <;> simp_all
    rw [if_neg (fun h => c (by rw [← hH, decide_eq_true_iff]; omega))]
    by_cases d : Rr = true
    · have := j0f (.inr d)
      rw [d] at this ⊢
      rw [c2] at this ⊢
      exact this
    · have d2 : Rr = false := by cases Rr <;> simp_all
      rw [c2, d2]
      simp only [fconv_near.j0]
      rw [upf_no]
      rfl
end Go.Proofs.Ytjbpchebabhoeab.Rf
end
section
set_option linter.unusedVariables false
set_option linter.unusedSimpArgs false
namespace Go.Proofs.Ytjbpchebabhoeab.Rf
open Go.RowKit Go.Proofs.Ytjbpchebabhoeab.P Go.Proofs.Ytjbpchebabhoeab.X Go.Proofs.Ytjbpchebabhoeab.Bt Go.Proofs.Ytjbpchebabhoeab.Dg Go.Proofs.Ytjbpchebabhoeab.Fl Go.Proofs.YtjbpchebabhoeabW.PrintWords
theorem sig_len {n : Nat} (h : n < 18446744073709551616) : (D n).length ≤ 4 := digs_length_le (by omega) 4 n h
theorem near_mode (neg : Bool) (q : Nat) (H Rr : Bool) (r P : Nat) (mode : Int) (hq : q < 9007199254740992) (hgt : P < r * 2 ↔ (H = true ∧ Rr = true)) (heq : P = r * 2 ↔ (H = true ∧ ¬ Rr = true)) (hz : r = 0 ↔ (¬ H = true ∧ ¬ Rr = true)) {k : Nat} (hk : 1000 ≤ k) :
    (if mode = 1 then (if sign3 (r * 2) P ≥ 0 then ((vernierref01_Add.f k (D q) (([1] : List Int))).bind fun t329 => (some (t329, decide (((D r).length : Int) > 0)))) else (some (D q, decide (((D r).length : Int) > 0)))) else (if mode = 2 then (some (D q, decide (((D r).length : Int) > 0))) else (if mode = 3 then (if ((D r).length : Int) > 0 then (if neg = true then (some (D q, decide (((D r).length : Int) > 0))) else ((vernierref01_Add.f k (D q) (([1] : List Int))).bind fun t335 => (some (t335, decide (((D r).length : Int) > 0))))) else (some (D q, decide (((D r).length : Int) > 0)))) else (if mode = 4 then (if ((D r).length : Int) > 0 then (if neg = true then ((vernierref01_Add.f k (D q) (([1] : List Int))).bind fun t341 => (some (t341, decide (((D r).length : Int) > 0)))) else (some (D q, decide (((D r).length : Int) > 0)))) else (some (D q, decide (((D r).length : Int) > 0)))) else (if sign3 (r * 2) P > 0 then ((vernierref01_Add.f k (D q) (([1] : List Int))).bind fun t347 => (some (t347, decide (((D r).length : Int) > 0)))) else (if sign3 (r * 2) P = 0 then (if ((D q).length : Int) > 0 then (if 0 < ((D q).length : Int) then (if (Int.tmod (rd (D q) 0) 2) = 1 then ((vernierref01_Add.f k (D q) (([1] : List Int))).bind fun t354 => (some (t354, decide (((D r).length : Int) > 0)))) else (some (D q, decide (((D r).length : Int) > 0)))) else (none)) else (some (D q, decide (((D r).length : Int) > 0)))) else (some (D q, decide (((D r).length : Int) > 0)))))))))
    = some (D (q + (if upf neg q H Rr mode = true then 1 else 0)), decide (r ≠ 0)) := by
  have hlq := sig_len (n := q) (by omega)
  have hadd := Add_f (a := D q) (b := D 1) (D_wf q) (D_wf 1) (by unfold Few_; omega) (by unfold Few_; rw [D_one]; decide) (k := k) (by rw [D_one]; simp only [List.length_singleton]; omega)
  rw [D_val, D_val, D_one] at hadd
  have hlen0 : (((D r).length : Int) > 0) ↔ r ≠ 0 := by
    have := D_len0 (n := r)
    omega
  rw [hadd]
  simp only [Option.bind_some]
  have ho : decide (((D r).length : Int) > 0) = decide (r ≠ 0) := decide_eq_decide.2 hlen0
  rw [ho]
  have s3 : sign3 (r * 2) P = if H = true then (if Rr = true then 1 else 0) else -1 := by
    unfold sign3
    by_cases g1 : H = true
    · rw [if_pos g1]
      by_cases g2 : Rr = true
      · have := hgt.2 ⟨g1, g2⟩
        rw [if_pos g2, if_neg (by omega), if_pos this]
      · have := heq.2 ⟨g1, g2⟩
        rw [if_neg g2, if_neg (by omega), if_neg (by omega)]
    · have a : ¬ P < r * 2 := fun h => g1 (hgt.1 h).1
      have b : ¬ P = r * 2 := fun h => g1 (heq.1 h).1
      rw [if_neg g1, if_pos (by omega)]
  rw [s3]
  generalize decide (r ≠ 0) = o
  have T : some (D (q + 1), o) = some (D (q + (if true = true then 1 else 0)), o) := rfl
  have F : some (D q, o) = some (D (q + (if false = true then 1 else 0)), o) := rfl
  unfold upf
  by_cases m1 : mode = 1
  · rw [if_pos m1, if_pos m1]
    cases H <;> cases Rr <;> rfl
  · rw [if_neg m1, if_neg m1]
    by_cases m2 : mode = 2
    · rw [if_pos m2, if_pos m2]; rfl
    · rw [if_neg m2, if_neg m2]
      by_cases m3 : mode = 3
      · rw [if_pos m3, if_pos m3]
        by_cases c : ((D r).length : Int) > 0
        · rw [if_pos c]
          have hne := hlen0.1 c
          rw [Ne, hz] at hne
          revert hne
          cases H <;> cases Rr <;> cases neg <;> simp
        · rw [if_neg c]
          have hne : r = 0 := Classical.byContradiction fun h => c (hlen0.2 h)
          rw [hz] at hne
          revert hne
          cases H <;> cases Rr <;> cases neg <;> simp
      · rw [if_neg m3, if_neg m3]
        by_cases m4 : mode = 4
        · rw [if_pos m4, if_pos m4]
          by_cases c : ((D r).length : Int) > 0
          · rw [if_pos c]
            have hne := hlen0.1 c
            rw [Ne, hz] at hne
            revert hne
            cases H <;> cases Rr <;> cases neg <;> simp
          · rw [if_neg c]
            have hne : r = 0 := Classical.byContradiction fun h => c (hlen0.2 h)
            rw [hz] at hne
            revert hne
            cases H <;> cases Rr <;> cases neg <;> simp
        · rw [if_neg m4, if_neg m4]
          have hrd : rd (D q) 0 = ((q % 65536 : Nat) : Int) := by
            have := digs_getD (b := 65536) (by omega) 0 q
            rw [Nat.pow_zero, Nat.div_one] at this
            rw [← this]; exact rd_nat (D q) 0
          have hqlen : ((D q).length : Int) > 0 ↔ q ≠ 0 := by
            have := D_len0 (n := q)
            omega
          have hmid : (if ((D q).length : Int) > 0 then (if 0 < ((D q).length : Int) then (if (Int.tmod (rd (D q) 0) 2) = 1 then (some (D (q + 1), o)) else (some (D q, o))) else (none)) else (some (D q, o))) = some (D (q + (if decide (q % 2 = 1) = true then 1 else 0)), o) := by
            rw [hrd, Int.tmod_eq_emod_of_nonneg (by omega)]
            by_cases z : ((D q).length : Int) > 0
            · rw [if_pos z, if_pos z]
              by_cases y : q % 2 = 1
              · rw [if_pos (by omega), decide_eq_true y]; rfl
              · rw [if_neg (by omega), decide_eq_false y]; rfl
            · rw [if_neg z]
              have : q = 0 := Classical.byContradiction fun h => z (hqlen.2 h)
              rw [decide_eq_false (by omega)]; rfl
          cases H <;> cases Rr
          · rw [if_neg (by decide), if_neg (by decide)]; rfl
          · rw [if_neg (by decide), if_neg (by decide)]; rfl
          · rw [if_neg (by decide), if_pos (by decide), hmid]; rfl
          · rw [if_pos (by decide)]; rfl
theorem wq_len {a : Int} (fa : Finite a) (mode : Int) : (D (wq a mode)).length ≤ 200 := by
  obtain ⟨c1, c2, c3, c4⟩ := can_word fa
  have hl := sig_len (n := sig a) (by omega)
  unfold wq
  by_cases c : 0 ≤ xpo a
  · rw [if_pos c]
    have := len_shl (sig a) (xpo a).toNat
    omega
  · rw [if_neg c]
    have h1 := near_le (sgn a) c1 (s := (-xpo a).toNat) (by omega) mode
    have := sig_len (n := near (sgn a) (sig a) (-xpo a).toNat mode) (by omega)
    omega
theorem whole06 {a : Int} (fa : Finite a) (mode : Int) {k : Nat} (hk : 100000 ≤ k) : vernierlaw13_whole.f k a mode = some (D (wq a mode), wo a) := by
  obtain ⟨c1, c2, c3, c4⟩ := can_word fa
  unfold vernierlaw13_whole.f wq wo
  rw [Split06 fa]
  clear fa c3
  generalize sgn a = neg
  generalize sig a = m at *
  generalize xpo a = x at *
  have hl := sig_len (n := m) (by omega)
  simp only [Option.bind_some]
  rw [Word_f m (by omega) (by omega)]
  simp only [Option.bind_some]
  by_cases c : 0 ≤ x
  · rw [if_pos c, if_pos c, if_pos c]
    obtain ⟨x, hx⟩ := Int.eq_ofNat_of_zero_le c
    rw [hx, Shl_f m x (by omega) (by omega) (by omega), Int.toNat_natCast]
    rfl
  · rw [if_neg c, if_neg c, if_neg c]
    obtain ⟨s, hs⟩ := Int.eq_ofNat_of_zero_le (show 0 ≤ -x by omega)
    rw [hs, w64 (by omega) (by omega), Int.toNat_natCast, Shr_f m s (by omega) (by omega) (by omega), Option.bind_some]
    have hlq : (D (m / 2 ^ s)).length ≤ 4 := sig_len (Nat.lt_of_le_of_lt (Nat.div_le_self _ _) (by omega))
    have hls := len_shl (m / 2 ^ s) s
    rw [Shl_f (m / 2 ^ s) s (by omega) (by omega) (by omega), Option.bind_some]
    rw [Sub_f _ _ (by unfold Few_; omega) (by unfold Few_; omega) (by omega), Option.bind_some]
    have hdm := Nat.div_add_mod m (2 ^ s)
    have hrest : (if m < m / 2 ^ s * 2 ^ s then m / 2 ^ s * 2 ^ s - m else m - m / 2 ^ s * 2 ^ s) = m % 2 ^ s := by
      rw [Nat.mul_comm] at hdm
      generalize m / 2 ^ s * 2 ^ s = u at *
      generalize m % 2 ^ s = v at *
      rw [if_neg (by omega)]; omega
    rw [hrest]
    have hlr : (D (m % 2 ^ s)).length ≤ 4 := sig_len (Nat.lt_of_le_of_lt (Nat.mod_le _ _) (by omega))
    have hs1 := Shl_f (m % 2 ^ s) 1 (by omega) (by omega) (k := k) (by omega)
    rw [show ((1 : Nat) : Int) = 1 from rfl, Nat.pow_one] at hs1
    have hs2 := Shl_f 1 s (by rw [D_one]; decide) (by omega) (k := k) (by rw [D_one]; simp only [List.length_singleton]; omega)
    rw [D_one, Nat.one_mul] at hs2
    rw [hs1, Option.bind_some, hs2, Option.bind_some]
    have hl1 := len_shl (m % 2 ^ s) 1
    rw [Nat.pow_one] at hl1
    have hl2 := len_shl 1 s
    rw [D_one, Nat.one_mul] at hl2
    simp only [List.length_singleton] at hl2
    rw [Cmp_f _ _ (by unfold Few_; omega) (by unfold Few_; omega) (by omega), Option.bind_some]
    obtain ⟨H, Rr, hH, hR, hgt, heq, hz⟩ := half_all m s (by omega)
    unfold near
    rw [hH, hR]
    exact near_mode (neg) (m / 2 ^ s) H Rr (m % 2 ^ s) (2 ^ s) mode (Nat.lt_of_le_of_lt (Nat.div_le_self _ _) c1) hgt heq hz (by omega)
end Go.Proofs.Ytjbpchebabhoeab.Rf
end
section
set_option linter.unusedVariables false
set_option linter.unusedSimpArgs false
namespace Go.Proofs.Ytjbpchebabhoeab.Rf
open Go.RowKit Go.Proofs.Ytjbpchebabhoeab.P Go.Proofs.Ytjbpchebabhoeab.X Go.Proofs.Ytjbpchebabhoeab.Bt Go.Proofs.Ytjbpchebabhoeab.Dg Go.Proofs.Ytjbpchebabhoeab.Fl Go.Proofs.YtjbpchebabhoeabW.PrintWords
theorem Round_nought (neg : Bool) (mode : Int) (k : Nat) : parts_Round.f k neg 0 0 0 false mode = some (sgv neg, 0) := by
  unfold parts_Round.f
  have := len_f (N := 0) (hi := 0) (lo := 0) rfl (by omega) (by omega)
  rw [blen_zero] at this
  have h2 : parts_wide_len.f 0 0 = some 0 := this
  rw [h2]
  simp only [Option.bind_some]
  rw [if_true, Zero_f]
  rfl
theorem Round_small (neg : Bool) {q : Nat} (hp : 0 < q) (hq : q ≤ 4503599627370496) : ∃ (q2 t : Nat), t ≤ 53 ∧ q2 = q * 2 ^ t ∧ Fl.Can q2 (-(t : Int)) ∧ ∀ k, 220 ≤ k → parts_Round.f k neg 0 q 0 false 0 = some (pk neg q2 (-(t : Int)), 0) := by
  have hb : blen q ≤ 53 := blen_le (by omega)
  have hl := lt_blen q
  have hg := blen_ge hp
  have hbp := blen_pos hp
  obtain ⟨t, ht⟩ : ∃ t, t = 53 - blen q := ⟨_, rfl⟩
  have h1 : q * 2 ^ t < 2 ^ 53 := by
    have := mul_pow_lt (b := t) hl
    rw [show blen q + t = 53 by omega] at this
    exact this
  have h2 : 2 ^ 52 ≤ q * 2 ^ t := by
    have := Nat.mul_le_mul_right (2 ^ t) hg
    rw [← Nat.pow_add, show blen q - 1 + t = 52 by omega] at this
    exact this
  have hc : Fl.Can (q * 2 ^ t) (-(t : Int)) := ⟨h1, by omega, .inr h2, by omega⟩
  refine ⟨q * 2 ^ t, t, by omega, rfl, hc, fun k hk => ?_⟩
  have hR := Round_f (N := q) (hi := 0) (lo := q) (by omega) (by omega) (by omega) hp neg 0 false 0 hk
  rw [clamp_in (by omega) (by omega), Bool.false_and, R_exact neg hp 0 hc (.inr ⟨t, by omega, rfl⟩) 0] at hR
  exact hR
theorem sgv_fin (neg : Bool) : Finite (sgv neg) ∧ sgn (sgv neg) = neg ∧ sig (sgv neg) = 0 := by
  cases neg
  · exact ⟨⟨⟨by decide, by decide⟩, by decide⟩, by decide, by decide⟩
  · exact ⟨⟨⟨by decide, by decide⟩, by decide⟩, by decide, by decide⟩
theorem Whole_f {a : Int} (fa : Finite a) (mode : Int) : ∃ w, Finite w ∧ sgn w = sgn a ∧ sig w * 2 ^ (xpo w - min (xpo w) 0).toNat = wq a mode * 2 ^ (-(min (xpo w) 0)).toNat ∧ ∀ k, 300 ≤ k → fconv_Whole.f k a mode = some (w, if wo a = true then 16 else 0) := by
  obtain ⟨c1, c2, c3, c4⟩ := can_word fa
  have hcl := cls_fin fa
  have hnf : a / 4503599627370496 % 2048 ≠ 2047 := fa.2
  have hz0 := sig_zero fa
  have start : ∀ k, 300 ≤ k → fconv_Whole.f k a mode = (if cls a = 3 then (some (9221120237041090560, 0)) else (if cls a = 1 then (if xpo a < 0 then ((fconv_near.f k (sgn a) (sig a : Int) (wrap64 (-xpo a)) mode).bind fun bt135 => (if bt135.2 = true then ((parts_Round.f k (sgn a) 0 bt135.1 0 false 0).bind fun bt137 => (some (bt137.1, 16))) else ((parts_Round.f k (sgn a) 0 bt135.1 0 false 0).bind fun bt139 => (some (bt139.1, 0))))) else (some (a, 0))) else (some (a, 0)))) := by
    intro k hk
    unfold fconv_Whole.f
    rw [Split_f fa.1 hnf, Class_f (by omega) fa.1]
    rfl
  by_cases c : 0 ≤ xpo a
  · have h1 : wo a = false := by unfold wo; rw [if_pos c]
    have h2 : wq a mode = sig a * 2 ^ (xpo a).toNat := by unfold wq; rw [if_pos c]
    refine ⟨a, fa, rfl, ?_, fun k hk => ?_⟩
    · rw [h2, show min (xpo a) 0 = 0 by omega, Int.sub_zero]
      simp
    · rw [start k hk, h1, if_neg (show ¬ cls a = 3 by omega), if_neg (show ¬ xpo a < 0 by omega), if_neg (show ¬ false = true by decide)]
      split <;> rfl
  · obtain ⟨s, hs⟩ := Int.eq_ofNat_of_zero_le (show 0 ≤ -xpo a by omega)
    have hwq : wq a mode = near (sgn a) (sig a) s mode := by unfold wq; rw [if_neg c, hs, Int.toNat_natCast]
    have hwo : wo a = decide (sig a % 2 ^ s ≠ 0) := by unfold wo; rw [if_neg c, hs, Int.toNat_natCast]
    rw [hwq, hwo]
    by_cases z : cls a = 0
    · have hs0 : sig a = 0 := by
        rw [hz0]
        unfold cls at z
        have := fa.1.1
        have := fa.1.2
        repeat' split at z
        all_goals omega
      have hn : near (sgn a) (sig a) s mode = 0 := by
        unfold near
        rw [hs0]
        simp [upf_no]
      refine ⟨a, fa, rfl, ?_, fun k hk => ?_⟩
      · rw [hn, hs0]; simp
      · rw [start k hk, hs0, if_neg (show ¬ cls a = 3 by omega), if_neg (show ¬ cls a = 1 by omega)]
        simp
    · have o : cls a = 1 := by omega
      have hle := near_le (sgn a) c1 (s := s) (by omega) mode
      have hnr := fun k (hk : 300 ≤ k) => near_f (sgn a) c1 (s := s) (by omega) (by omega) mode (k := k) (by omega)
      have fin1 : ∀ w, (∀ k, 300 ≤ k → parts_Round.f k (sgn a) 0 ((near (sgn a) (sig a) s mode : Nat) : Int) 0 false 0 = some (w, 0)) → ∀ k, 300 ≤ k → fconv_Whole.f k a mode = some (w, if decide (sig a % 2 ^ s ≠ 0) = true then 16 else 0) := by
        intro w hw k hk
        rw [start k hk, if_neg (show ¬ cls a = 3 by omega), if_pos o, if_pos (show xpo a < 0 by omega), hs, w64 (by omega) (by omega), hnr k hk, Option.bind_some]
        rw [hw k hk]
        cases decide (sig a % 2 ^ s ≠ 0) <;> rfl
      generalize near (sgn a) (sig a) s mode = q at *
      rcases Nat.eq_zero_or_pos q with rfl | hp
      · obtain ⟨g1, g2, g3⟩ := sgv_fin (sgn a)
        refine ⟨sgv (sgn a), g1, g2, ?_, fin1 _ fun k hk => Round_nought _ _ k⟩
        rw [g3]; simp
      · obtain ⟨q2, t, ht, hq2, hc, hr⟩ := Round_small (sgn a) hp hle
        obtain ⟨w1, w2, w3, w4⟩ := word_pk (sgn a) hc
        refine ⟨_, w1, w2, ?_, fin1 _ fun k hk => hr k (by omega)⟩
        rw [w3, w4, show min (-(t : Int)) 0 = -(t : Int) by omega, show (-(t : Int) - -(t : Int)).toNat = 0 by omega, show (- -(t : Int)).toNat = t by omega, Nat.pow_zero, Nat.mul_one, hq2]
end Go.Proofs.Ytjbpchebabhoeab.Rf
end
section
set_option linter.unusedVariables false
set_option linter.unusedSimpArgs false
namespace Go.Proofs.Ytjbpchebabhoeab.Rf
open Go.RowKit Go.Proofs.Ytjbpchebabhoeab.P Go.Proofs.Ytjbpchebabhoeab.X Go.Proofs.Ytjbpchebabhoeab.Bt Go.Proofs.Ytjbpchebabhoeab.Dg Go.Proofs.Ytjbpchebabhoeab.Fl Go.Proofs.YtjbpchebabhoeabW.PrintWords
theorem fin_sign (neg : Bool) (q : Nat) (e : Int) (half rest tiny : Bool) (mode : Int) (h0 : 0 < q) (hq : q < 9007199254740992) (he : -1074 ≤ e) : sgv neg < (fin neg q e half rest tiny mode).1 ∧ (fin neg q e half rest tiny mode).1 < sgv neg + 9223372036854775808 := by
  have key : ∀ (q2 : Nat) (e2 fl : Int), 0 < q2 → q2 < 9007199254740992 → -1074 ≤ e2 → sgv neg < (if 4503599627370496 ≤ q2 ∧ 972 ≤ e2 then ovr neg mode else (pk neg q2 e2, fl)).1 ∧ (if 4503599627370496 ≤ q2 ∧ 972 ≤ e2 then ovr neg mode else (pk neg q2 e2, fl)).1 < sgv neg + 9223372036854775808 := by
    intro q2 e2 fl h0 h1 h2
    by_cases c : 4503599627370496 ≤ q2 ∧ 972 ≤ e2
    · rw [if_pos c]
      unfold ovr
      simp only
      split <;> omega
    · rw [if_neg c]
      unfold pk
      simp only
      split <;> omega
  unfold fin
  simp only
  have hq0 : 0 < (if upf neg q half rest mode = true then q + 1 else q) := by split <;> omega
  have hq1 : (if upf neg q half rest mode = true then q + 1 else q) ≤ 9007199254740992 := by split <;> omega
  generalize (if upf neg q half rest mode = true then q + 1 else q) = q1 at *
  apply key
  · split <;> omega
  · split <;> omega
  · split <;> omega
theorem R_sign (neg : Bool) {N : Nat} (hp : 0 < N) (exp mode : Int) (h : -1074 ≤ exp) : sgv neg < (R neg N exp false mode).1 ∧ (R neg N exp false mode).1 < sgv neg + 9223372036854775808 := by
  have hlt := lt_blen N
  have hge := blen_ge hp
  have hb := blen_pos hp
  unfold R
  generalize he : max (exp + (blen N : Int) - 53) (-1074) = e at *
  simp only
  by_cases c : e ≤ exp
  · rw [if_pos c]
    obtain ⟨s, hs⟩ := Int.eq_ofNat_of_zero_le (show 0 ≤ exp - e by omega)
    rw [hs, Int.toNat_natCast]
    refine fin_sign _ _ _ _ _ _ _ (Nat.mul_pos hp (Nat.two_pow_pos _)) ?_ (by omega)
    have h1 := mul_pow_lt (b := s) hlt
    have h2 : 2 ^ (blen N + s) ≤ 2 ^ 53 := Nat.pow_le_pow_right (by omega) (by omega)
    exact Nat.lt_of_lt_of_le h1 h2
  · rw [if_neg c]
    obtain ⟨s, hs⟩ := Int.eq_ofNat_of_zero_le (show 0 ≤ e - exp by omega)
    rw [hs, Int.toNat_natCast]
    refine fin_sign _ _ _ _ _ _ _ ?_ ?_ (by omega)
    · rw [Nat.div_pos_iff]
      exact ⟨Nat.two_pow_pos _, Nat.le_trans (Nat.pow_le_pow_right (by omega) (by omega)) hge⟩
    · have h2 : N < 2 ^ (53 + s) := Nat.lt_of_lt_of_le hlt (Nat.pow_le_pow_right (by omega) (by omega))
      exact div_pow_lt h2
theorem finite_abs {b : Int} (hb : Finite b) : Finite (b % 9223372036854775808) ∧ sgn (b % 9223372036854775808) = false ∧ sig (b % 9223372036854775808) = sig b ∧ xpo (b % 9223372036854775808) = xpo b := by
  obtain ⟨⟨b0, b1⟩, b2⟩ := hb
  unfold Finite Word sgn sig xpo
  refine ⟨⟨⟨by omega, by omega⟩, by omega⟩, decide_eq_false (by omega), ?_, ?_⟩
  · repeat' split
    all_goals omega
  · repeat' split
    all_goals omega
theorem over_62 {w : Int} (fw : Finite w) {q : Nat} (hv : sig w * 2 ^ (xpo w - min (xpo w) 0).toNat = q * 2 ^ (-(min (xpo w) 0)).toNat) :
    ∃ d : Int, (∀ k, 300 ≤ k → ∃ f, fadd_Sub.f k (w % 9223372036854775808) 4886405595696988160 0 = some (d, f)) ∧ ((d ≠ 0 ∧ ((d / 9223372036854775808) == 0) = true) ↔ 4611686018427387904 < q) := by
  obtain ⟨a1, a2, a3, a4⟩ := finite_abs fw
  have fl : Finite 4886405595696988160 := ⟨⟨by omega, by omega⟩, by omega⟩
  have ls : sgn 4886405595696988160 = false := by decide
  have lg : sig 4886405595696988160 = 4503599627370496 := by decide
  have lx : xpo 4886405595696988160 = 10 := by decide
  obtain ⟨b1, b2, b3, b4⟩ := finite_flip fl
  rw [ls] at b2
  rw [lg] at b3
  rw [lx] at b4
  refine ⟨(addspec (w % 9223372036854775808) (bits .xor .u64 4886405595696988160 9223372036854775808) 0).1, fun k hk => ⟨_, Fl.Sub_f a1 fl 0 (by omega)⟩, ?_⟩
  obtain ⟨c1, c2, c3, c4⟩ := can_word fw
  unfold addspec
  rw [a2, a3, a4, b2, b3, b4]
  generalize sig w = m at *
  generalize xpo w = x at *
  clear fw a1 a2 a3 a4 fl ls lg lx b1 b2 b3 b4
  obtain ⟨E, hE⟩ : ∃ E, min x 10 = E := ⟨_, rfl⟩
  obtain ⟨l, hl⟩ : ∃ l, min x 0 = l := ⟨_, rfl⟩
  rw [hE]
  rw [hl] at hv
  obtain ⟨u, hu⟩ := Int.eq_ofNat_of_zero_le (show 0 ≤ x - E by omega)
  obtain ⟨v, hv2⟩ := Int.eq_ofNat_of_zero_le (show 0 ≤ 10 - E by omega)
  obtain ⟨y, hy⟩ := Int.eq_ofNat_of_zero_le (show 0 ≤ E - l by omega)
  obtain ⟨z, hz⟩ := Int.eq_ofNat_of_zero_le (show 0 ≤ -l by omega)
  rw [hu, hv2, Int.toNat_natCast, Int.toNat_natCast]
  rw [show x - l = ((u + y : Nat) : Int) by omega, hz, Int.toNat_natCast, Int.toNat_natCast] at hv
  have hA : m * 2 ^ u * 2 ^ y = q * 2 ^ z := by rw [← hv, Nat.pow_add, Nat.mul_assoc]
  have hB : 4503599627370496 * 2 ^ v * 2 ^ y = 4611686018427387904 * 2 ^ z := by
    rw [Nat.mul_assoc, ← Nat.pow_add, show v + y = 10 + z by omega, Nat.pow_add, ← Nat.mul_assoc]
  generalize m * 2 ^ u = A at *
  generalize 4503599627370496 * 2 ^ v = B at *
  have hy0 := Nat.two_pow_pos y
  have hz0 := Nat.two_pow_pos z
  have lt1 : A < B ↔ q < 4611686018427387904 := by
    rw [← Nat.mul_lt_mul_right hy0, hA, hB, Nat.mul_lt_mul_right hz0]
  have lt2 : B < A ↔ 4611686018427387904 < q := by
    rw [← Nat.mul_lt_mul_right hy0, hA, hB, Nat.mul_lt_mul_right hz0]
  unfold sumR
  rw [if_neg (by decide)]
  by_cases g : A = B
  · rw [if_pos g]
    have e : sgv (decide ((0 : Int) = 4)) = 0 := rfl
    rw [e]
    constructor
    · intro h; exact absurd rfl h.1
    · intro h; have := lt2.2 h; omega
  · rw [if_neg g]
    by_cases h : A < B
    · rw [if_pos h]
      have hs := R_sign (!false) (N := B - A) (by omega) E 0 (by omega)
      have e : sgv (!false) = 9223372036854775808 := rfl
      rw [e] at hs
      generalize (R (!false) (B - A) E false 0).1 = d at *
      constructor
      · intro hh
        have := beq_iff_eq.1 hh.2
        omega
      · intro hh; have := lt2.2 hh; omega
    · rw [if_neg h]
      have hs := R_sign false (N := A - B) (by omega) E 0 (by omega)
      have e : sgv false = 0 := rfl
      rw [e] at hs
      generalize (R false (A - B) E false 0).1 = d at *
      constructor
      · intro hh; exact lt2.1 (by omega)
      · intro hh
        exact ⟨by omega, beq_iff_eq.2 (by omega)⟩
end Go.Proofs.Ytjbpchebabhoeab.Rf
end
section
set_option linter.unusedVariables false
set_option linter.unusedSimpArgs false
namespace Go.Proofs.Ytjbpchebabhoeab.Rf
open Go.RowKit Go.Proofs.Ytjbpchebabhoeab.P Go.Proofs.Ytjbpchebabhoeab.X Go.Proofs.Ytjbpchebabhoeab.Bt Go.Proofs.Ytjbpchebabhoeab.Dg Go.Proofs.Ytjbpchebabhoeab.Fl Go.Proofs.YtjbpchebabhoeabW.PrintWords
theorem limit_f {k : Nat} (hk : 300 ≤ k) : fconv_FromInt.f k 4611686018427387904 0 = some (4886405595696988160, 0) := by
  unfold fconv_FromInt.f
  have hc : Fl.Can 4503599627370496 10 := ⟨by omega, by omega, .inr (by omega), by omega⟩
  have hR := Round_f (N := 4611686018427387904) (hi := 0) (lo := 4611686018427387904) (by omega) (by omega) (by omega) (by omega) false 0 false 0 (k := k) (by omega)
  rw [clamp_in (by omega) (by omega), Bool.false_and, R_exact false (by omega) 0 hc (.inl ⟨10, by omega, by omega⟩) 0] at hR
  have h2 : parts_Round.f k false 0 4611686018427387904 0 false 0 = some (4886405595696988160, 0) := hR
  rw [if_neg (by omega), if_neg (by omega), u64_in (by omega) (by omega), decide_eq_false (by omega), h2]
  rfl
def asInt (a mode : Int) : Int × Int := if 4611686018427387904 < wq a mode then (0, 1) else (if sgn a = true then -(wq a mode : Int) else (wq a mode : Int), if wo a = true then 16 else 0)
theorem int_tail (k : Nat) (fl : Int) (neg : Bool) (m q : Nat) (x : Int) (hm : m < 9007199254740992) (h0 : -1074 ≤ x) (h3 : x = -1074 ∨ 4503599627370496 ≤ m) (h4 : x ≤ 971) (hv : m * 2 ^ (x - min x 0).toNat = q * 2 ^ (-(min x 0)).toNat) (hq : q ≤ 4611686018427387904) :
    fconv_ToInt.j0 (k + 1) fl neg m x false = some (if neg = true then -(q : Int) else (q : Int), fl) := by
  simp only [fconv_ToInt.j0]
  rw [if_neg (by decide)]
  by_cases c : x ≥ 0
  · rw [if_pos c, if_pos c]
    rw [show min x 0 = 0 by omega, Int.sub_zero, Int.neg_zero, show (0 : Int).toNat = 0 from rfl, Nat.pow_zero, Nat.mul_one] at hv
    obtain ⟨s, hs⟩ := Int.eq_ofNat_of_zero_le c
    rw [hs, Int.toNat_natCast] at hv
    have hs10 : s ≤ 10 := by
      apply Classical.byContradiction
      intro h
      have h1 : 2 ^ 11 ≤ 2 ^ s := Nat.pow_le_pow_right (by omega) (by omega)
      have h2 := Nat.mul_le_mul (show 4503599627370496 ≤ m by omega) h1
      omega
    rw [hs, shl_u64 (by omega) (by omega), Int.toNat_natCast, ← Int.natCast_mul, hv, Int.emod_eq_of_lt (by omega) (by omega), w64 (x := (q : Int)) (by omega) (by omega), w64 (by omega) (by omega)]
    cases neg <;> rfl
  · rw [if_neg c]
    rw [show min x 0 = x by omega, Int.sub_self, show (0 : Int).toNat = 0 from rfl, Nat.pow_zero, Nat.mul_one] at hv
    obtain ⟨s, hs⟩ := Int.eq_ofNat_of_zero_le (show 0 ≤ -x by omega)
    rw [hs, Int.toNat_natCast] at hv
    rw [hs, w64 (by omega) (by omega)]
    by_cases d : (s : Int) < 64
    · rw [if_pos d, if_pos (by omega), shr_u64 (by omega) (by omega), Int.toNat_natCast, ← Int.natCast_ediv, hv, Nat.mul_div_cancel _ (Nat.two_pow_pos s), w64 (x := (q : Int)) (by omega) (by omega), w64 (by omega) (by omega)]
      cases neg <;> rfl
    · rw [if_neg d]
      have hq0 : q = 0 := by
        apply Classical.byContradiction
        intro h
        have h1 : 2 ^ 53 ≤ 2 ^ s := Nat.pow_le_pow_right (by omega) (by omega)
        have h2 := Nat.mul_le_mul (show 1 ≤ q by omega) h1
        omega
      rw [hq0]
      cases neg <;> rfl
theorem ToInt_f {a : Int} (fa : Finite a) (mode : Int) {k : Nat} (hk : 400 ≤ k) : fconv_ToInt.f k a mode = some (asInt a mode) := by
  obtain ⟨w, fw, ws, wv, wf⟩ := Whole_f fa mode
  obtain ⟨d, hd, hd2⟩ := over_62 fw wv
  obtain ⟨k, rfl⟩ : ∃ t, k = t + 1 := ⟨k - 1, by omega⟩
  obtain ⟨f, hf⟩ := hd (k + 1) (by omega)
  have hcl := cls_fin fa
  obtain ⟨c1, c2, c3, c4⟩ := can_word fw
  unfold fconv_ToInt.f
  rw [Class_f (by omega) fa.1, Option.bind_some, if_neg (by omega), wf (k + 1) (by omega), Option.bind_some, limit_f (by omega), Option.bind_some]
  rw [Split_f fw.1 fw.2, Option.bind_some, andNot_sign fw.1.1 fw.1.2, hf, Option.bind_some]
  unfold asInt
  generalize wq a mode = q at *
  generalize (if wo a = true then (16 : Int) else 0) = fl at *
  rw [← ws]
  generalize sgn w = neg at *
  generalize sig w = m at *
  generalize xpo w = x at *
  have jt : fconv_ToInt.j0 (k + 1) fl neg m x true = some (0, 1) := by
    simp only [fconv_ToInt.j0]
    rw [if_true]
  by_cases g : 4611686018427387904 < q
  · obtain ⟨h1, h2⟩ := hd2.2 g
    rw [if_pos g, if_neg h1, h2]
    exact jt
  · rw [if_neg g]
    have tl := int_tail k fl neg m q x c1 c2 c3 c4 wv (by omega)
    by_cases h : d = 0
    · rw [if_pos h]; exact tl
    · rw [if_neg h]
      have : ((d / 9223372036854775808) == 0) = false := by
        cases hh : ((d / 9223372036854775808) == 0) with
        | false => rfl
        | true => exact absurd (hd2.1 ⟨h, hh⟩) g
      rw [this]; exact tl
end Go.Proofs.Ytjbpchebabhoeab.Rf
end
section
set_option linter.unusedVariables false
set_option linter.unusedSimpArgs false
namespace Go.Proofs.Ytjbpchebabhoeab.Rf
open Go.RowKit Go.Proofs.Ytjbpchebabhoeab.P Go.Proofs.Ytjbpchebabhoeab.X Go.Proofs.Ytjbpchebabhoeab.Bt Go.Proofs.Ytjbpchebabhoeab.Dg Go.Proofs.Ytjbpchebabhoeab.Fl Go.Proofs.YtjbpchebabhoeabW.PrintWords
theorem alive13 {k : Nat} (hk : 400 ≤ k) : vernierlaw13_alive.f k = some true := by
  unfold vernierlaw13_alive.f
  have h1 : Finite 4612811918334230528 := ⟨⟨by omega, by omega⟩, by omega⟩
  have h2 : Rf.asInt 4612811918334230528 0 = (2, 16) := by decide +kernel
  rw [ToInt_f h1 0 hk, h2]
  rfl
theorem j1_13 (k : Nat) (hk : 10000 ≤ k) (neg : Bool) (q : Nat) (fl : Int) (hl : (D q).length ≤ 200) (n g : Int) (hng : (n, g) = if 4611686018427387904 < q then (0, 1) else (if neg = true then -(q : Int) else (q : Int), fl)) :
    vernierlaw13_FconvWhole.j1 (k + 1) n g (D q) fl neg false = some true := by
  simp only [vernierlaw13_FconvWhole.j1]
  have hs := Shl_f 1 62 (by rw [D_one]; decide) (by omega) (k := k) (by rw [D_one]; simp only [List.length_singleton]; omega)
  rw [D_one] at hs
  have hs2 : vernierref01_Shl.f k [1] 62 = some (D 4611686018427387904) := hs
  have hl2 : (D 4611686018427387904).length ≤ 4 := digs_length_le (by omega) 4 _ (by decide)
  rw [if_neg (by decide), hs2, Option.bind_some, Cmp_f _ _ (by unfold Few_; omega) (by unfold Few_; omega) (by omega), Option.bind_some]
  unfold sign3
  by_cases c : 4611686018427387904 < q
  · rw [if_pos c] at hng
    rw [if_neg (show ¬ q < 4611686018427387904 by omega), if_pos c, if_pos (show (1 : Int) > 0 by decide)]
    rw [(Prod.mk.inj hng).1, (Prod.mk.inj hng).2, if_pos rfl]
    rfl
  · rw [if_neg c] at hng
    rw [if_neg (show ¬ (if q < 4611686018427387904 then (-1 : Int) else if 4611686018427387904 < q then 1 else 0) > 0 by rw [if_neg c]; split <;> decide), Limbs_f q (by omega) (by omega), Option.bind_some]
    obtain ⟨e1, e2⟩ := Prod.mk.inj hng
    rw [e1, e2]
    rcases Nat.eq_zero_or_pos q with rfl | hp
    · rw [digs_zero, if_neg (by decide)]
      cases neg <;> simp
    · have hd : digs B64 q = [(q : Int)] := by
        rw [digs_pos (by decide) hp, Nat.div_eq_of_lt (show q < B64 by show q < 18446744073709551616; omega), digs_zero, Nat.mod_eq_of_lt (show q < B64 by show q < 18446744073709551616; omega)]
      rw [hd, if_pos (show (([(q : Int)].length : Nat) : Int) > 0 by simp), if_pos (show 0 < (([(q : Int)].length : Nat) : Int) by simp)]
      have hr : rd [(q : Int)] 0 = q := rfl
      rw [hr, w64 (x := (q : Int)) (by omega) (by omega), w64 (by omega) (by omega)]
      cases neg <;> simp
end Go.Proofs.Ytjbpchebabhoeab.Rf
namespace Go.Proofs.Ytjbpchebabhoeab.Pure
open Go.RowKit Go.Proofs.Ytjbpchebabhoeab.P Go.Proofs.Ytjbpchebabhoeab.Fl Go.Proofs.Ytjbpchebabhoeab.Rf Go.Proofs.Ytjbpchebabhoeab.Bt Go.Proofs.Ytjbpchebabhoeab.Dg Go.Proofs.YtjbpchebabhoeabW.PrintWords
theorem FconvWhole : vernierlaw13_FconvWhole.Pure := by
  intro a mode h0 h1
  have ha : Word a := by
    have b : 0 ≤ a ∧ a ≤ 18446744073709551615 := by simpa [Lit.wf, IntKind.min, IntKind.max, IntKind.signed, IntKind.bits] using h0
    exact ⟨b.1, by omega⟩
  refine ⟨200002, ?_⟩
  unfold vernierlaw13_FconvWhole.f
  rw [alive13 (by omega), Option.bind_some, if_pos rfl]
  by_cases c3 : cls a = 3 ∨ cls a = 2
  · have hinf : a / 4503599627370496 % 2048 = 2047 := by
      unfold cls at c3
      apply Classical.byContradiction
      intro h
      rw [if_neg h] at c3
      by_cases h2 : a / 4503599627370496 % 2048 = 0
      · rw [if_pos h2] at c3
        split at c3 <;> omega
      · rw [if_neg h2] at c3; omega
    have hw : fconv_Whole.f 200002 a mode = some (if cls a = 3 then 9221120237041090560 else a, 0) := by
      unfold fconv_Whole.f
      rw [Split_inf ha hinf, Option.bind_some, Class_f (by omega) ha, Option.bind_some]
      by_cases c : cls a = 3
      · rw [if_pos c, if_pos c]
      · rw [if_neg c, if_neg c, if_neg (by omega)]
    have ht : fconv_ToInt.f 200002 a mode = some (0, 1) := by
      unfold fconv_ToInt.f
      rw [Class_f (by omega) ha, Option.bind_some, if_pos (by omega)]
    rw [hw, Option.bind_some, ht, Option.bind_some, Class06 (by omega) ha, Option.bind_some, if_pos (by omega), if_pos rfl, if_pos rfl, if_pos rfl]
    by_cases c : cls a = 3
    · rw [if_pos c, if_pos c, if_pos rfl]
    · rw [if_neg c, if_neg c, if_pos (by omega), beq_self_eq_true]
  · have hc := cls_fin (fin_of ha (by omega) (by omega))
    have fa := fin_of ha (by omega) (by omega)
    obtain ⟨w, fw, ws, wv, wf⟩ := Whole_f fa mode
    rw [wf _ (by omega), Option.bind_some, ToInt_f fa mode (by omega), Option.bind_some, Class06 (by omega) ha, Option.bind_some, if_neg (by omega), whole06 fa mode (by omega), Option.bind_some]
    have hl := wq_len fa mode
    have main : ∀ fl : Int, (if wo a = true then (16 : Int) else 0) = fl → vernierlaw13_FconvWhole.j0 200002 a w (if wo a = true then 16 else 0) (Rf.asInt a mode).1 (Rf.asInt a mode).2 (D (wq a mode)) fl = some true := by
      intro fl hfl
      have hj := j1_13 200000 (by omega) (sgn a) (wq a mode) fl hl (Rf.asInt a mode).1 (Rf.asInt a mode).2 (by unfold Rf.asInt; rw [hfl])
      show vernierlaw13_FconvWhole.j0 (200001 + 1) a w (if wo a = true then 16 else 0) (Rf.asInt a mode).1 (Rf.asInt a mode).2 (D (wq a mode)) fl = some true
      rw [vernierlaw13_FconvWhole.j0, Split06 fw, Option.bind_some, if_pos hfl]
      obtain ⟨c1, c2, c3', c4⟩ := can_word fw
      rw [ws]
      have hn : ¬ (!(sgn a == (decide (a ≥ 9223372036854775808)))) = true := by
        have : sgn a = decide (a ≥ 9223372036854775808) := rfl
        rw [this]; simp
      rw [if_neg hn]
      clear hn fw fa
      generalize sig w = m at *
      generalize xpo w = x at *
      generalize wq a mode = q at *
      have hml := sig_len (n := m) (by omega)
      have hmn : mn x 0 = min x 0 := by unfold mn; split <;> omega
      rw [hmn, Word_f m (by omega) (by omega), Option.bind_some]
      obtain ⟨l, hl2⟩ : ∃ l, min x 0 = l := ⟨_, rfl⟩
      rw [hl2] at wv ⊢
      obtain ⟨u, hu⟩ := Int.eq_ofNat_of_zero_le (show 0 ≤ x - l by omega)
      obtain ⟨v, hv⟩ := Int.eq_ofNat_of_zero_le (show 0 ≤ -l by omega)
      rw [hu, hv, Int.toNat_natCast, Int.toNat_natCast] at wv
      rw [hu, hv, w64 (by omega) (by omega), w64 (by omega) (by omega), Shl_f m u (by omega) (by omega) (by omega), Option.bind_some, Shl_f q v (by omega) (by omega) (by omega), Option.bind_some, wv]
      have hls := len_shl q v
      rw [Cmp_f _ _ (by unfold Few_; omega) (by unfold Few_; omega) (by omega), Option.bind_some]
      have hs : (sign3 (q * 2 ^ v) (q * 2 ^ v) != 0) = false := by
        unfold sign3
        rw [if_neg (Nat.lt_irrefl _), if_neg (Nat.lt_irrefl _)]; rfl
      rw [hs]
      exact hj
    by_cases o : wo a = true
    · rw [if_pos o]
      exact main 16 (by rw [if_pos o])
    · rw [if_neg o]
      exact main 0 (by rw [if_neg o])
end Go.Proofs.Ytjbpchebabhoeab.Pure
end
