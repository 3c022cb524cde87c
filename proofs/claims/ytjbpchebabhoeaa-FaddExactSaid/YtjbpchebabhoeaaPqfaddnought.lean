/- The machine side of the laws, written by a program of this session over the kit's own print. -/
import Derived.Test.YtjbpchebabhoeaaP0
import Derived.Test.YtjbpchebabhoeaaPqpartsZero
namespace Go.Proofs.Ytjbpchebabhoeaa.P
open Go.RowKit Go.Proofs.YtjbpchebabhoeaaW.PrintWords Go.Proofs.YtjbpchebabhoeaaW.PrintLast Go.Proofs.YtjbpchebabhoeaaW.PrintMore Go.Proofs.Ytjbpchebabhoeaa.X
attribute [local go_sem] max2_int min2_int max_two min_two max_three min_three max_four min_four   -- for this text's walks alone
set_option linter.unusedVariables false
set_option linter.unusedSimpArgs false

/-! ### fadd_nought: function 79 -/
def fadd_nought.f (a0 : Int) (a1 : Int) (a2 : Int) : Option (Int) := if (Go.bits .and .u64 a0 9223372036854775808) = (Go.bits .and .u64 a1 9223372036854775808) then (some (Go.bits .and .u64 a0 9223372036854775808)) else ((parts_Zero.f (a2 == 4)).bind fun t349 => (some t349))
set_option maxHeartbeats 8000000 in
set_option maxRecDepth 100000 in
theorem fadd_nought.calls (a0 : Int) (a1 : Int) (a2 : Int) (r : Int) (w : World) (h : fadd_nought.f a0 a1 a2 = some r) :
    Calls Try.prog 79 #[.int .u64 a0, .int .u64 a1, .int .i64 a2] w fun e w' => e = .returned (.int .u64 r) ∧ Drawn0 w w' := by
  have H : (if (Go.bits .and .u64 a0 9223372036854775808) = (Go.bits .and .u64 a1 9223372036854775808) then (some (Go.bits .and .u64 a0 9223372036854775808)) else ((parts_Zero.f (a2 == 4)).bind fun t349 => (some t349))) = some r := h
  clear h
  by_cases c4 : (Go.bits .and .u64 a0 9223372036854775808) = (Go.bits .and .u64 a1 9223372036854775808)
  · rw [if_pos c4] at H
    have c4b0 : ((Go.bits .and .u64 a0 9223372036854775808) == (Go.bits .and .u64 a1 9223372036854775808)) = true := beq_iff_eq.mpr c4
    have c4b1 : ((Go.bits .and .u64 a0 9223372036854775808) != (Go.bits .and .u64 a1 9223372036854775808)) = false := bne_eq_false_iff_eq.mpr c4
    clear c4
    obtain rfl := Option.some.inj H
    go_enter Try.func79, Try.ntmps79
    go_wp2
    go_ret
    exact ⟨by first | rfl | (simp; done) | (simp [*]; done), by repeat (first | exact Drawn0.refl _ | apply Drawn0.step)⟩
  · rw [if_neg c4] at H
    have c4b0 : ((Go.bits .and .u64 a0 9223372036854775808) == (Go.bits .and .u64 a1 9223372036854775808)) = false := beq_eq_false_iff_ne.mpr c4
    have c4b1 : ((Go.bits .and .u64 a0 9223372036854775808) != (Go.bits .and .u64 a1 9223372036854775808)) = true := bne_iff_ne.mpr c4
    replace H := Option.bind_eq_some_iff.mp H
    obtain ⟨t349, A50, H⟩ := H
    replace H : (some t349) = some r := H
    have A5 := Aside0.mk A50
    clear A50
    obtain rfl := Option.some.inj H
    go_enter Try.func79, Try.ntmps79
    go_wp2_with (first | ((with_reducible refine gate_callee (f := 91) rfl ?_); refine goesL_ (some 16) rfl rfl Try.func91 (by kernel_rfl) rfl #[.bool (a2 == 4)] rfl (by (try simp only [List.map_toArray, List.map_cons, List.map_nil]); first | done | rfl | (simp only [List.length_drop, List.length_take]; rfl)) ?_; (with_reducible refine (parts_Zero.calls (a2 == 4) t349 _ A5.out).mono ?_); rintro e w' ⟨rfl, ⟨nd, rfl⟩⟩; refine ⟨_, rfl, ?_⟩))
    go_ret
    exact ⟨by first | rfl | (simp; done) | (simp [*]; done), by repeat (first | exact Drawn0.refl _ | apply Drawn0.step)⟩

end Go.Proofs.Ytjbpchebabhoeaa.P
