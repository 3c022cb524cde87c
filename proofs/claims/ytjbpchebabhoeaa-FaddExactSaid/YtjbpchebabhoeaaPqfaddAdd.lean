/- The machine side of the laws, written by a program of this session over the kit's own print. -/
import Derived.Test.YtjbpchebabhoeaaP0
import Derived.Test.YtjbpchebabhoeaaPqfaddodd
import Derived.Test.YtjbpchebabhoeaaPqfaddnought
import Derived.Test.YtjbpchebabhoeaaPqfaddsum
namespace Go.Proofs.Ytjbpchebabhoeaa.P
open Go.RowKit Go.Proofs.YtjbpchebabhoeaaW.PrintWords Go.Proofs.YtjbpchebabhoeaaW.PrintLast Go.Proofs.YtjbpchebabhoeaaW.PrintMore Go.Proofs.Ytjbpchebabhoeaa.X
attribute [local go_sem] max2_int min2_int max_two min_two max_three min_three max_four min_four   -- for this text's walks alone
set_option linter.unusedVariables false
set_option linter.unusedSimpArgs false

/-! ### fadd_Add: function 46 -/
def fadd_Add.j0 : Nat → Int → Int → Int → Int → Int → Bool → Option (Int × Int)
  | 0, _, _, _, _, _, _ => none
  | k + 1, x0, x1, x2, x11, x12, x42 => if x42 = true then ((fadd_nought.f x0 x1 x2).bind fun t415 => (some (t415, 0))) else (if x11 < x12 then ((fadd_sum.f k x1 x0 x2).bind fun bt416 => (some (bt416.1, bt416.2))) else ((fadd_sum.f k x0 x1 x2).bind fun bt418 => (some (bt418.1, bt418.2))))
def fadd_Add.f (k : Nat) (a0 : Int) (a1 : Int) (a2 : Int) : Option (Int × Int) := (fadd_odd.f k a0 a1).bind fun bt412 => (if bt412.2.2 = true then (some (bt412.1, bt412.2.1)) else (if (Go.bits .andNot .u64 a0 9223372036854775808) = (Go.bits .andNot .u64 a1 9223372036854775808) then (if a0 = a1 then (if (Go.bits .andNot .u64 a0 9223372036854775808) = 0 then (fadd_Add.j0 k a0 a1 a2 (Go.bits .andNot .u64 a0 9223372036854775808) (Go.bits .andNot .u64 a1 9223372036854775808) ((Go.bits .andNot .u64 a1 9223372036854775808) == 0)) else (fadd_Add.j0 k a0 a1 a2 (Go.bits .andNot .u64 a0 9223372036854775808) (Go.bits .andNot .u64 a1 9223372036854775808) false)) else (fadd_Add.j0 k a0 a1 a2 (Go.bits .andNot .u64 a0 9223372036854775808) (Go.bits .andNot .u64 a1 9223372036854775808) true)) else (if (Go.bits .andNot .u64 a0 9223372036854775808) = 0 then (fadd_Add.j0 k a0 a1 a2 (Go.bits .andNot .u64 a0 9223372036854775808) (Go.bits .andNot .u64 a1 9223372036854775808) ((Go.bits .andNot .u64 a1 9223372036854775808) == 0)) else (fadd_Add.j0 k a0 a1 a2 (Go.bits .andNot .u64 a0 9223372036854775808) (Go.bits .andNot .u64 a1 9223372036854775808) false))))
theorem fadd_Add.mono_l : ∀ k, (∀ y0 y1 y2 y3 y4 y5, LeO (fadd_Add.j0 k y0 y1 y2 y3 y4 y5) (fadd_Add.j0 (k + 1) y0 y1 y2 y3 y4 y5))
  | 0 => fun _ _ _ _ _ _ r h => by simp [fadd_Add.j0] at h
  | k + 1 => by
    have ih0 := fadd_Add.mono_l k
    · intro y0 y1 y2 y3 y4 y5
      unfold fadd_Add.j0
      repeat' first
      | (with_reducible exact ih0 _ _ _ _ _ _)
      | (with_reducible exact fadd_odd.mono _ _ _)
      | (with_reducible exact fadd_sum.mono _ _ _ _)
      | (with_reducible exact LeO.refl _)
      | (with_reducible exact LeO.none _)
      | (with_reducible refine LeO.ite ?_ ?_)
      | (with_reducible refine LeO.bind ?_ (fun _ => ?_))
      | exact ih0 _ _ _ _ _ _
      | exact fadd_odd.mono _ _ _
      | exact fadd_sum.mono _ _ _ _
      | exact LeO.none _
      | refine LeO.ite ?_ ?_
      | refine LeO.bind ?_ (fun _ => ?_)
theorem fadd_Add.mono : ∀ a0 a1 a2 k, LeO (fadd_Add.f k a0 a1 a2) (fadd_Add.f (k + 1) a0 a1 a2) := by
  intro a0 a1 a2 k
  have ih0 := fadd_Add.mono_l k
  unfold fadd_Add.f
  repeat' first
      | (with_reducible exact ih0 _ _ _ _ _ _)
      | (with_reducible exact fadd_odd.mono _ _ _)
      | (with_reducible exact fadd_sum.mono _ _ _ _)
      | (with_reducible exact LeO.refl _)
      | (with_reducible exact LeO.none _)
      | (with_reducible refine LeO.ite ?_ ?_)
      | (with_reducible refine LeO.bind ?_ (fun _ => ?_))
      | exact ih0 _ _ _ _ _ _
      | exact fadd_odd.mono _ _ _
      | exact fadd_sum.mono _ _ _ _
      | exact LeO.none _
      | refine LeO.ite ?_ ?_
      | refine LeO.bind ?_ (fun _ => ?_)
set_option maxHeartbeats 8000000 in
set_option maxRecDepth 100000 in
theorem fadd_Add.calls (k : Nat) (a0 : Int) (a1 : Int) (a2 : Int) (r1 : Int) (r2 : Int) (w : World) (h : fadd_Add.f k a0 a1 a2 = some (r1, r2)) :
    Calls Try.prog 46 #[.int .u64 a0, .int .u64 a1, .int .i64 a2] w fun e w' => e = .returned (.tuple #[.int .u64 r1, .int .i64 r2]) ∧ Below w.heap.size w w' := by
  have HB := Aside0.mk (Below.refl w.heap.size w)
  have H : ((fadd_odd.f k a0 a1).bind fun bt412 => (if bt412.2.2 = true then (some (bt412.1, bt412.2.1)) else (if (Go.bits .andNot .u64 a0 9223372036854775808) = (Go.bits .andNot .u64 a1 9223372036854775808) then (if a0 = a1 then (if (Go.bits .andNot .u64 a0 9223372036854775808) = 0 then (fadd_Add.j0 k a0 a1 a2 (Go.bits .andNot .u64 a0 9223372036854775808) (Go.bits .andNot .u64 a1 9223372036854775808) ((Go.bits .andNot .u64 a1 9223372036854775808) == 0)) else (fadd_Add.j0 k a0 a1 a2 (Go.bits .andNot .u64 a0 9223372036854775808) (Go.bits .andNot .u64 a1 9223372036854775808) false)) else (fadd_Add.j0 k a0 a1 a2 (Go.bits .andNot .u64 a0 9223372036854775808) (Go.bits .andNot .u64 a1 9223372036854775808) true)) else (if (Go.bits .andNot .u64 a0 9223372036854775808) = 0 then (fadd_Add.j0 k a0 a1 a2 (Go.bits .andNot .u64 a0 9223372036854775808) (Go.bits .andNot .u64 a1 9223372036854775808) ((Go.bits .andNot .u64 a1 9223372036854775808) == 0)) else (fadd_Add.j0 k a0 a1 a2 (Go.bits .andNot .u64 a0 9223372036854775808) (Go.bits .andNot .u64 a1 9223372036854775808) false))))) = some (r1, r2) := h
  clear h
  replace H := Option.bind_eq_some_iff.mp H
  obtain ⟨⟨t412, t413, t414⟩, A40, H⟩ := H
  replace H : (if t414 = true then (some (t412, t413)) else (if (Go.bits .andNot .u64 a0 9223372036854775808) = (Go.bits .andNot .u64 a1 9223372036854775808) then (if a0 = a1 then (if (Go.bits .andNot .u64 a0 9223372036854775808) = 0 then (fadd_Add.j0 k a0 a1 a2 (Go.bits .andNot .u64 a0 9223372036854775808) (Go.bits .andNot .u64 a1 9223372036854775808) ((Go.bits .andNot .u64 a1 9223372036854775808) == 0)) else (fadd_Add.j0 k a0 a1 a2 (Go.bits .andNot .u64 a0 9223372036854775808) (Go.bits .andNot .u64 a1 9223372036854775808) false)) else (fadd_Add.j0 k a0 a1 a2 (Go.bits .andNot .u64 a0 9223372036854775808) (Go.bits .andNot .u64 a1 9223372036854775808) true)) else (if (Go.bits .andNot .u64 a0 9223372036854775808) = 0 then (fadd_Add.j0 k a0 a1 a2 (Go.bits .andNot .u64 a0 9223372036854775808) (Go.bits .andNot .u64 a1 9223372036854775808) ((Go.bits .andNot .u64 a1 9223372036854775808) == 0)) else (fadd_Add.j0 k a0 a1 a2 (Go.bits .andNot .u64 a0 9223372036854775808) (Go.bits .andNot .u64 a1 9223372036854775808) false)))) = some (r1, r2) := H
  have A4 := Aside0.mk A40
  clear A40
  by_cases c5 : t414 = true
  · subst c5
    have H1 : (some (t412, t413)) = some (r1, r2) := by rw [if_pos rfl] at H; exact H
    clear H
    have H := H1
    clear H1
    simp only [Option.some.injEq, Prod.mk.injEq] at H
    obtain ⟨rfl, rfl⟩ := H
    go_enter Try.func46, Try.ntmps46
    go_wp2_with (first | ((with_reducible refine gate_callee (f := 78) rfl ?_); refine goesL_ (some 16) rfl rfl Try.func78 (by kernel_rfl) rfl #[.int .u64 a0, .int .u64 a1] rfl (by (try simp only [List.map_toArray, List.map_cons, List.map_nil]); first | done | rfl | (simp only [List.length_drop, List.length_take]; rfl)) ?_; (with_reducible refine (fadd_odd.calls k a0 a1 t412 t413 true _ A4.out).mono ?_); rintro e w' ⟨rfl, ⟨nd, rfl⟩⟩; refine ⟨_, rfl, ?_⟩))
    go_ret2
    exact ⟨by first | rfl | (simp [errW_none, errW_some] <;> rfl) | (simp [*, errW_none, errW_some] <;> rfl), by repeat (first | (with_reducible first | exact HB.out | apply below_alloc | apply pw_below_drewN | apply below_drew1) | exact HB.out)⟩
  · replace c5 := Bool.eq_false_iff.mpr c5
    subst c5
    have H1 : (if (Go.bits .andNot .u64 a0 9223372036854775808) = (Go.bits .andNot .u64 a1 9223372036854775808) then (if a0 = a1 then (if (Go.bits .andNot .u64 a0 9223372036854775808) = 0 then (fadd_Add.j0 k a0 a1 a2 (Go.bits .andNot .u64 a0 9223372036854775808) (Go.bits .andNot .u64 a1 9223372036854775808) ((Go.bits .andNot .u64 a1 9223372036854775808) == 0)) else (fadd_Add.j0 k a0 a1 a2 (Go.bits .andNot .u64 a0 9223372036854775808) (Go.bits .andNot .u64 a1 9223372036854775808) false)) else (fadd_Add.j0 k a0 a1 a2 (Go.bits .andNot .u64 a0 9223372036854775808) (Go.bits .andNot .u64 a1 9223372036854775808) true)) else (if (Go.bits .andNot .u64 a0 9223372036854775808) = 0 then (fadd_Add.j0 k a0 a1 a2 (Go.bits .andNot .u64 a0 9223372036854775808) (Go.bits .andNot .u64 a1 9223372036854775808) ((Go.bits .andNot .u64 a1 9223372036854775808) == 0)) else (fadd_Add.j0 k a0 a1 a2 (Go.bits .andNot .u64 a0 9223372036854775808) (Go.bits .andNot .u64 a1 9223372036854775808) false))) = some (r1, r2) := by rw [if_neg (show ¬ (false = true) by decide)] at H; exact H
    clear H
    have H := H1
    clear H1
    have HC6 := Aside0.mk H
    clear H
    go_enter Try.func46, Try.ntmps46
    go_upto_region 5 with (first | ((with_reducible refine gate_callee (f := 78) rfl ?_); refine goesL_ (some 16) rfl rfl Try.func78 (by kernel_rfl) rfl #[.int .u64 a0, .int .u64 a1] rfl (by (try simp only [List.map_toArray, List.map_cons, List.map_nil]); first | done | rfl | (simp only [List.length_drop, List.length_take]; rfl)) ?_; (with_reducible refine (fadd_odd.calls k a0 a1 t412 t413 false _ A4.out).mono ?_); rintro e w' ⟨rfl, ⟨nd, rfl⟩⟩; refine ⟨_, rfl, ?_⟩))
    (try simp only [Act.put, List.setIfInBounds_toArray, List.set_cons_zero, List.set_cons_succ])
    go_cut [42] (fun v42 wc => ∃ (kq : Nat) (x42_5 : Bool), v42 = .bool x42_5 ∧ Aside0 (fadd_Add.j0 kq a0 a1 a2 (Go.bits .andNot .u64 a0 9223372036854775808) (Go.bits .andNot .u64 a1 9223372036854775808) x42_5 = some (r1, r2)) ∧ Aside0 (kq ≤ k) ∧ Aside0 (Below w.heap.size w wc))
    case first =>
      have H := HC6.out
      clear HC6
      by_cases c7 : (Go.bits .andNot .u64 a0 9223372036854775808) = (Go.bits .andNot .u64 a1 9223372036854775808)
      · rw [if_pos c7] at H
        have c7b0 : ((Go.bits .andNot .u64 a0 9223372036854775808) == (Go.bits .andNot .u64 a1 9223372036854775808)) = true := beq_iff_eq.mpr c7
        have c7b1 : ((Go.bits .andNot .u64 a0 9223372036854775808) != (Go.bits .andNot .u64 a1 9223372036854775808)) = false := bne_eq_false_iff_eq.mpr c7
        clear c7
        (first | rw [c7b0] | (simp only [i64_w, i32_w]; rw [c7b0]) | skip)
        by_cases c8 : a0 = a1
        · rw [if_pos c8] at H
          have c8b0 : (a0 == a1) = true := beq_iff_eq.mpr c8
          have c8b1 : (a0 != a1) = false := bne_eq_false_iff_eq.mpr c8
          clear c8
          by_cases c9 : (Go.bits .andNot .u64 a0 9223372036854775808) = 0
          · rw [if_pos c9] at H
            have c9b0 : ((Go.bits .andNot .u64 a0 9223372036854775808) == 0) = true := beq_iff_eq.mpr c9
            have c9b1 : ((Go.bits .andNot .u64 a0 9223372036854775808) != 0) = false := bne_eq_false_iff_eq.mpr c9
            clear c9
            have H' := Aside0.mk H
            clear H
            go_wp2
            go_meet
            case rel => exact ⟨_, (((Go.bits .andNot .u64 a1 9223372036854775808) == 0)), (by first | rfl | (simp; done) | (simp [*]; done)), H', ⟨by first | omega | exact Nat.le_refl _⟩, ⟨by repeat (first | (with_reducible first | exact HB.out | apply below_alloc | apply pw_below_drewN | apply below_drew1) | exact HB.out)⟩⟩
          · rw [if_neg c9] at H
            have c9b0 : ((Go.bits .andNot .u64 a0 9223372036854775808) == 0) = false := beq_eq_false_iff_ne.mpr c9
            have c9b1 : ((Go.bits .andNot .u64 a0 9223372036854775808) != 0) = true := bne_iff_ne.mpr c9
            have H' := Aside0.mk H
            clear H
            go_wp2
            go_meet
            case rel => exact ⟨_, (false), (by first | rfl | (simp; done) | (simp [*]; done)), H', ⟨by first | omega | exact Nat.le_refl _⟩, ⟨by repeat (first | (with_reducible first | exact HB.out | apply below_alloc | apply pw_below_drewN | apply below_drew1) | exact HB.out)⟩⟩
        · rw [if_neg c8] at H
          have c8b0 : (a0 == a1) = false := beq_eq_false_iff_ne.mpr c8
          have c8b1 : (a0 != a1) = true := bne_iff_ne.mpr c8
          have H' := Aside0.mk H
          clear H
          go_wp2
          go_meet
          case rel => exact ⟨_, (true), (by first | rfl | (simp; done) | (simp [*]; done)), H', ⟨by first | omega | exact Nat.le_refl _⟩, ⟨by repeat (first | (with_reducible first | exact HB.out | apply below_alloc | apply pw_below_drewN | apply below_drew1) | exact HB.out)⟩⟩
      · rw [if_neg c7] at H
        have c7b0 : ((Go.bits .andNot .u64 a0 9223372036854775808) == (Go.bits .andNot .u64 a1 9223372036854775808)) = false := beq_eq_false_iff_ne.mpr c7
        have c7b1 : ((Go.bits .andNot .u64 a0 9223372036854775808) != (Go.bits .andNot .u64 a1 9223372036854775808)) = true := bne_iff_ne.mpr c7
        (first | rw [c7b0] | (simp only [i64_w, i32_w]; rw [c7b0]) | skip)
        by_cases c10 : (Go.bits .andNot .u64 a0 9223372036854775808) = 0
        · rw [if_pos c10] at H
          have c10b0 : ((Go.bits .andNot .u64 a0 9223372036854775808) == 0) = true := beq_iff_eq.mpr c10
          have c10b1 : ((Go.bits .andNot .u64 a0 9223372036854775808) != 0) = false := bne_eq_false_iff_eq.mpr c10
          clear c10
          have H' := Aside0.mk H
          clear H
          go_wp2
          go_meet
          case rel => exact ⟨_, (((Go.bits .andNot .u64 a1 9223372036854775808) == 0)), (by first | rfl | (simp; done) | (simp [*]; done)), H', ⟨by first | omega | exact Nat.le_refl _⟩, ⟨by repeat (first | (with_reducible first | exact HB.out | apply below_alloc | apply pw_below_drewN | apply below_drew1) | exact HB.out)⟩⟩
        · rw [if_neg c10] at H
          have c10b0 : ((Go.bits .andNot .u64 a0 9223372036854775808) == 0) = false := beq_eq_false_iff_ne.mpr c10
          have c10b1 : ((Go.bits .andNot .u64 a0 9223372036854775808) != 0) = true := bne_iff_ne.mpr c10
          have H' := Aside0.mk H
          clear H
          go_wp2
          go_meet
          case rel => exact ⟨_, (false), (by first | rfl | (simp; done) | (simp [*]; done)), H', ⟨by first | omega | exact Nat.le_refl _⟩, ⟨by repeat (first | (with_reducible first | exact HB.out | apply below_alloc | apply pw_below_drewN | apply below_drew1) | exact HB.out)⟩⟩
    case rest =>
      clear HC6
      try clear c1
      try clear p2
      try clear c4
      try clear c5
      try clear c7
      try clear c7b0
      try clear c7b1
      try clear c8
      try clear c8b0
      try clear c8b1
      try clear c9
      try clear c9b0
      try clear c9b1
      try clear c10
      try clear c10b0
      try clear c10b1
      obtain ⟨kq, x42_5, rfl, HA, HJ5, HB⟩ := hcut
      cases kq with
      | zero => exact absurd HA.out (by simp [fadd_Add.j0])
      | succ kj5 =>
        have H := HA.out
        clear HA
        simp only [fadd_Add.j0] at H
        by_cases c11 : x42_5 = true
        · subst c11
          have H1 : ((fadd_nought.f a0 a1 a2).bind fun t415 => (some (t415, 0))) = some (r1, r2) := by rw [if_pos rfl] at H; exact H
          clear H
          have H := H1
          clear H1
          replace H := Option.bind_eq_some_iff.mp H
          obtain ⟨t415, A120, H⟩ := H
          replace H : (some (t415, 0)) = some (r1, r2) := H
          have A12 := Aside0.mk A120
          clear A120
          simp only [Option.some.injEq, Prod.mk.injEq] at H
          obtain ⟨rfl, rfl⟩ := H
          go_wp2_with (first | ((with_reducible refine gate_callee (f := 79) rfl ?_); refine goesL_ (some 46) rfl rfl Try.func79 (by kernel_rfl) rfl #[.int .u64 a0, .int .u64 a1, .int .i64 a2] rfl (by (try simp only [List.map_toArray, List.map_cons, List.map_nil]); first | done | rfl | (simp only [List.length_drop, List.length_take]; rfl)) ?_; (with_reducible refine (fadd_nought.calls a0 a1 a2 t415 _ A12.out).mono ?_); rintro e w' ⟨rfl, ⟨nd, rfl⟩⟩; refine ⟨_, rfl, ?_⟩))
          go_ret2
          exact ⟨by first | rfl | (simp [errW_none, errW_some] <;> rfl) | (simp [*, errW_none, errW_some] <;> rfl), by repeat (first | (with_reducible first | exact HB.out | apply below_alloc | apply pw_below_drewN | apply below_drew1) | exact HB.out)⟩
        · replace c11 := Bool.eq_false_iff.mpr c11
          subst c11
          have H1 : (if (Go.bits .andNot .u64 a0 9223372036854775808) < (Go.bits .andNot .u64 a1 9223372036854775808) then ((fadd_sum.f kj5 a1 a0 a2).bind fun bt416 => (some (bt416.1, bt416.2))) else ((fadd_sum.f kj5 a0 a1 a2).bind fun bt418 => (some (bt418.1, bt418.2)))) = some (r1, r2) := by rw [if_neg (show ¬ (false = true) by decide)] at H; exact H
          clear H
          have H := H1
          clear H1
          by_cases c13 : (Go.bits .andNot .u64 a0 9223372036854775808) < (Go.bits .andNot .u64 a1 9223372036854775808)
          · rw [if_pos c13] at H
            have c13b0 : decide ((Go.bits .andNot .u64 a0 9223372036854775808) < (Go.bits .andNot .u64 a1 9223372036854775808)) = true := decide_eq_true c13
            clear c13
            replace H := Option.bind_eq_some_iff.mp H
            obtain ⟨⟨t416, t417⟩, A140, H⟩ := H
            replace H : (some (t416, t417)) = some (r1, r2) := H
            have A14 := Aside0.mk A140
            clear A140
            simp only [Option.some.injEq, Prod.mk.injEq] at H
            obtain ⟨rfl, rfl⟩ := H
            go_wp2_with (first | ((with_reducible refine gate_callee (f := 80) rfl ?_); refine goesL_ (some 55) rfl rfl Try.func80 (by kernel_rfl) rfl #[.int .u64 a1, .int .u64 a0, .int .i64 a2] rfl (by (try simp only [List.map_toArray, List.map_cons, List.map_nil]); first | done | rfl | (simp only [List.length_drop, List.length_take]; rfl)) ?_; (with_reducible refine (fadd_sum.calls kj5 a1 a0 a2 t416 t417 _ A14.out).mono ?_); rintro e w15 ⟨rfl, hb⟩; refine ⟨_, rfl, ?_⟩; have n0_ := Aside0.mk (below_step (by repeat (first | (with_reducible first | exact HB.out | apply below_alloc | apply pw_below_drewN | apply below_drew1) | exact HB.out)) hb); clear HB; have HB := n0_; clear n0_; (try clear hb); (try clear hb2); (try clear hk); (try clear hi)))
            go_ret2
            exact ⟨by first | rfl | (simp [errW_none, errW_some] <;> rfl) | (simp [*, errW_none, errW_some] <;> rfl), by repeat (first | (with_reducible first | exact HB.out | apply below_alloc | apply pw_below_drewN | apply below_drew1) | exact HB.out)⟩
          · rw [if_neg c13] at H
            have c13b0 : decide ((Go.bits .andNot .u64 a0 9223372036854775808) < (Go.bits .andNot .u64 a1 9223372036854775808)) = false := decide_eq_false c13
            clear c13
            replace H := Option.bind_eq_some_iff.mp H
            obtain ⟨⟨t418, t419⟩, A160, H⟩ := H
            replace H : (some (t418, t419)) = some (r1, r2) := H
            have A16 := Aside0.mk A160
            clear A160
            simp only [Option.some.injEq, Prod.mk.injEq] at H
            obtain ⟨rfl, rfl⟩ := H
            go_wp2_with (first | ((with_reducible refine gate_callee (f := 80) rfl ?_); refine goesL_ (some 55) rfl rfl Try.func80 (by kernel_rfl) rfl #[.int .u64 a0, .int .u64 a1, .int .i64 a2] rfl (by (try simp only [List.map_toArray, List.map_cons, List.map_nil]); first | done | rfl | (simp only [List.length_drop, List.length_take]; rfl)) ?_; (with_reducible refine (fadd_sum.calls kj5 a0 a1 a2 t418 t419 _ A16.out).mono ?_); rintro e w17 ⟨rfl, hb⟩; refine ⟨_, rfl, ?_⟩; have n0_ := Aside0.mk (below_step (by repeat (first | (with_reducible first | exact HB.out | apply below_alloc | apply pw_below_drewN | apply below_drew1) | exact HB.out)) hb); clear HB; have HB := n0_; clear n0_; (try clear hb); (try clear hb2); (try clear hk); (try clear hi)))
            go_ret2
            exact ⟨by first | rfl | (simp [errW_none, errW_some] <;> rfl) | (simp [*, errW_none, errW_some] <;> rfl), by repeat (first | (with_reducible first | exact HB.out | apply below_alloc | apply pw_below_drewN | apply below_drew1) | exact HB.out)⟩

end Go.Proofs.Ytjbpchebabhoeaa.P
