/- The machine side of the laws, written by a program of this session over the kit's own print. -/
import Derived.Test.YtjbpchebabhoeaaP0
namespace Go.Proofs.Ytjbpchebabhoeaa.P
open Go.RowKit Go.Proofs.YtjbpchebabhoeaaW.PrintWords Go.Proofs.YtjbpchebabhoeaaW.PrintLast Go.Proofs.YtjbpchebabhoeaaW.PrintMore Go.Proofs.Ytjbpchebabhoeaa.X
attribute [local go_sem] max2_int min2_int max_two min_two max_three min_three max_four min_four   -- for this text's walks alone
set_option linter.unusedVariables false
set_option linter.unusedSimpArgs false

/-! ### parts_up: function 102 -/
def parts_up.f (a0 : Bool) (a1 : Int) (a2 : Bool) (a3 : Bool) (a4 : Int) : Option (Bool) := if a4 = 1 then (some a2) else (if a4 = 2 then (some false) else (if a4 = 3 then (if a0 = true then (some false) else (if a2 = true then (some true) else (some a3))) else (if a4 = 4 then (if a0 = true then (if a2 = true then (some true) else (some a3)) else (some false)) else (if a2 = true then (if a3 = true then (some true) else (some ((Go.bits .and .u64 a1 1) == 1))) else (some false)))))
set_option maxHeartbeats 8000000 in
set_option maxRecDepth 100000 in
theorem parts_up.calls (a0 : Bool) (a1 : Int) (a2 : Bool) (a3 : Bool) (a4 : Int) (r : Bool) (w : World) (h : parts_up.f a0 a1 a2 a3 a4 = some r) :
    Calls Try.prog 102 #[.bool a0, .int .u64 a1, .bool a2, .bool a3, .int .i64 a4] w fun e w' => e = .returned (.bool r) ∧ Drawn0 w w' := by
  have H : (if a4 = 1 then (some a2) else (if a4 = 2 then (some false) else (if a4 = 3 then (if a0 = true then (some false) else (if a2 = true then (some true) else (some a3))) else (if a4 = 4 then (if a0 = true then (if a2 = true then (some true) else (some a3)) else (some false)) else (if a2 = true then (if a3 = true then (some true) else (some ((Go.bits .and .u64 a1 1) == 1))) else (some false)))))) = some r := h
  clear h
  by_cases c6 : a4 = 1
  · rw [if_pos c6] at H
    have c6b0 : (a4 == 1) = true := beq_iff_eq.mpr c6
    have c6b1 : (a4 != 1) = false := bne_eq_false_iff_eq.mpr c6
    clear c6
    obtain rfl := Option.some.inj H
    go_enter Try.func102, Try.ntmps102
    go_wp2
    go_ret
    exact ⟨by first | rfl | (simp; done) | (simp [*]; done), by repeat (first | exact Drawn0.refl _ | apply Drawn0.step)⟩
  · rw [if_neg c6] at H
    have c6b0 : (a4 == 1) = false := beq_eq_false_iff_ne.mpr c6
    have c6b1 : (a4 != 1) = true := bne_iff_ne.mpr c6
    by_cases c7 : a4 = 2
    · rw [if_pos c7] at H
      have c7b0 : (a4 == 2) = true := beq_iff_eq.mpr c7
      have c7b1 : (a4 != 2) = false := bne_eq_false_iff_eq.mpr c7
      clear c7
      obtain rfl := Option.some.inj H
      go_enter Try.func102, Try.ntmps102
      go_wp2
      go_ret
      exact ⟨by first | rfl | (simp; done) | (simp [*]; done), by repeat (first | exact Drawn0.refl _ | apply Drawn0.step)⟩
    · rw [if_neg c7] at H
      have c7b0 : (a4 == 2) = false := beq_eq_false_iff_ne.mpr c7
      have c7b1 : (a4 != 2) = true := bne_iff_ne.mpr c7
      by_cases c8 : a4 = 3
      · rw [if_pos c8] at H
        have c8b0 : (a4 == 3) = true := beq_iff_eq.mpr c8
        have c8b1 : (a4 != 3) = false := bne_eq_false_iff_eq.mpr c8
        clear c8
        by_cases c9 : a0 = true
        · subst c9
          have H1 : (some false) = some r := by rw [if_pos rfl] at H; exact H
          clear H
          have H := H1
          clear H1
          obtain rfl := Option.some.inj H
          go_enter Try.func102, Try.ntmps102
          go_wp2
          go_ret
          exact ⟨by first | rfl | (simp; done) | (simp [*]; done), by repeat (first | exact Drawn0.refl _ | apply Drawn0.step)⟩
        · replace c9 := Bool.eq_false_iff.mpr c9
          subst c9
          have H1 : (if a2 = true then (some true) else (some a3)) = some r := by rw [if_neg (show ¬ (false = true) by decide)] at H; exact H
          clear H
          have H := H1
          clear H1
          by_cases c10 : a2 = true
          · subst c10
            have H1 : (some true) = some r := by rw [if_pos rfl] at H; exact H
            clear H
            have H := H1
            clear H1
            obtain rfl := Option.some.inj H
            go_enter Try.func102, Try.ntmps102
            go_wp2
            go_ret
            exact ⟨by first | rfl | (simp; done) | (simp [*]; done), by repeat (first | exact Drawn0.refl _ | apply Drawn0.step)⟩
          · replace c10 := Bool.eq_false_iff.mpr c10
            subst c10
            have H1 : (some a3) = some r := by rw [if_neg (show ¬ (false = true) by decide)] at H; exact H
            clear H
            have H := H1
            clear H1
            obtain rfl := Option.some.inj H
            go_enter Try.func102, Try.ntmps102
            go_wp2
            go_ret
            exact ⟨by first | rfl | (simp; done) | (simp [*]; done), by repeat (first | exact Drawn0.refl _ | apply Drawn0.step)⟩
      · rw [if_neg c8] at H
        have c8b0 : (a4 == 3) = false := beq_eq_false_iff_ne.mpr c8
        have c8b1 : (a4 != 3) = true := bne_iff_ne.mpr c8
        by_cases c11 : a4 = 4
        · rw [if_pos c11] at H
          have c11b0 : (a4 == 4) = true := beq_iff_eq.mpr c11
          have c11b1 : (a4 != 4) = false := bne_eq_false_iff_eq.mpr c11
          clear c11
          by_cases c12 : a0 = true
          · subst c12
            have H1 : (if a2 = true then (some true) else (some a3)) = some r := by rw [if_pos rfl] at H; exact H
            clear H
            have H := H1
            clear H1
            by_cases c13 : a2 = true
            · subst c13
              have H1 : (some true) = some r := by rw [if_pos rfl] at H; exact H
              clear H
              have H := H1
              clear H1
              obtain rfl := Option.some.inj H
              go_enter Try.func102, Try.ntmps102
              go_wp2
              go_ret
              exact ⟨by first | rfl | (simp; done) | (simp [*]; done), by repeat (first | exact Drawn0.refl _ | apply Drawn0.step)⟩
            · replace c13 := Bool.eq_false_iff.mpr c13
              subst c13
              have H1 : (some a3) = some r := by rw [if_neg (show ¬ (false = true) by decide)] at H; exact H
              clear H
              have H := H1
              clear H1
              obtain rfl := Option.some.inj H
              go_enter Try.func102, Try.ntmps102
              go_wp2
              go_ret
              exact ⟨by first | rfl | (simp; done) | (simp [*]; done), by repeat (first | exact Drawn0.refl _ | apply Drawn0.step)⟩
          · replace c12 := Bool.eq_false_iff.mpr c12
            subst c12
            have H1 : (some false) = some r := by rw [if_neg (show ¬ (false = true) by decide)] at H; exact H
            clear H
            have H := H1
            clear H1
            obtain rfl := Option.some.inj H
            go_enter Try.func102, Try.ntmps102
            go_wp2
            go_ret
            exact ⟨by first | rfl | (simp; done) | (simp [*]; done), by repeat (first | exact Drawn0.refl _ | apply Drawn0.step)⟩
        · rw [if_neg c11] at H
          have c11b0 : (a4 == 4) = false := beq_eq_false_iff_ne.mpr c11
          have c11b1 : (a4 != 4) = true := bne_iff_ne.mpr c11
          by_cases c14 : a2 = true
          · subst c14
            have H1 : (if a3 = true then (some true) else (some ((Go.bits .and .u64 a1 1) == 1))) = some r := by rw [if_pos rfl] at H; exact H
            clear H
            have H := H1
            clear H1
            by_cases c15 : a3 = true
            · subst c15
              have H1 : (some true) = some r := by rw [if_pos rfl] at H; exact H
              clear H
              have H := H1
              clear H1
              obtain rfl := Option.some.inj H
              go_enter Try.func102, Try.ntmps102
              go_wp2
              go_ret
              exact ⟨by first | rfl | (simp; done) | (simp [*]; done), by repeat (first | exact Drawn0.refl _ | apply Drawn0.step)⟩
            · replace c15 := Bool.eq_false_iff.mpr c15
              subst c15
              have H1 : (some ((Go.bits .and .u64 a1 1) == 1)) = some r := by rw [if_neg (show ¬ (false = true) by decide)] at H; exact H
              clear H
              have H := H1
              clear H1
              obtain rfl := Option.some.inj H
              go_enter Try.func102, Try.ntmps102
              go_wp2
              go_ret
              exact ⟨by first | rfl | (simp; done) | (simp [*]; done), by repeat (first | exact Drawn0.refl _ | apply Drawn0.step)⟩
          · replace c14 := Bool.eq_false_iff.mpr c14
            subst c14
            have H1 : (some false) = some r := by rw [if_neg (show ¬ (false = true) by decide)] at H; exact H
            clear H
            have H := H1
            clear H1
            obtain rfl := Option.some.inj H
            go_enter Try.func102, Try.ntmps102
            go_wp2
            go_ret
            exact ⟨by first | rfl | (simp; done) | (simp [*]; done), by repeat (first | exact Drawn0.refl _ | apply Drawn0.step)⟩

end Go.Proofs.Ytjbpchebabhoeaa.P
