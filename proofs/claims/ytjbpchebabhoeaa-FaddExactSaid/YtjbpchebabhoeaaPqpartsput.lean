/- The machine side of the laws, written by a program of this session over the kit's own print. -/
import Derived.Test.YtjbpchebabhoeaaP0
import Derived.Test.YtjbpchebabhoeaaPqpartsZero
namespace Go.Proofs.Ytjbpchebabhoeaa.P
open Go.RowKit Go.Proofs.YtjbpchebabhoeaaW.PrintWords Go.Proofs.YtjbpchebabhoeaaW.PrintLast Go.Proofs.YtjbpchebabhoeaaW.PrintMore Go.Proofs.Ytjbpchebabhoeaa.X
attribute [local go_sem] max2_int min2_int max_two min_two max_three min_three max_four min_four   -- for this text's walks alone
set_option linter.unusedVariables false
set_option linter.unusedSimpArgs false

/-! ### parts_put: function 104 -/
def parts_put.f (a0 : Bool) (a1 : Int) (a2 : Int) : Option (Int) := if a1 < 4503599627370496 then ((parts_Zero.f a0).bind fun t372 => (some (Go.bits .or .u64 t372 a1))) else ((parts_Zero.f a0).bind fun t373 => (some (Go.bits .or .u64 (Go.bits .or .u64 t373 (IntKind.u64.wrap ((IntKind.u64.wrap (wrap64 (a2 + 1075))) * 4503599627370496))) (Go.bits .and .u64 a1 4503599627370495))))
set_option maxHeartbeats 8000000 in
set_option maxRecDepth 100000 in
theorem parts_put.calls (a0 : Bool) (a1 : Int) (a2 : Int) (r : Int) (w : World) (h : parts_put.f a0 a1 a2 = some r) :
    Calls Try.prog 104 #[.bool a0, .int .u64 a1, .int .i64 a2] w fun e w' => e = .returned (.int .u64 r) ∧ Drawn0 w w' := by
  have H : (if a1 < 4503599627370496 then ((parts_Zero.f a0).bind fun t372 => (some (Go.bits .or .u64 t372 a1))) else ((parts_Zero.f a0).bind fun t373 => (some (Go.bits .or .u64 (Go.bits .or .u64 t373 (IntKind.u64.wrap ((IntKind.u64.wrap (wrap64 (a2 + 1075))) * 4503599627370496))) (Go.bits .and .u64 a1 4503599627370495))))) = some r := h
  clear h
  by_cases c4 : a1 < 4503599627370496
  · rw [if_pos c4] at H
    have c4b0 : decide (a1 < 4503599627370496) = true := decide_eq_true c4
    clear c4
    replace H := Option.bind_eq_some_iff.mp H
    obtain ⟨t372, A50, H⟩ := H
    replace H : (some (Go.bits .or .u64 t372 a1)) = some r := H
    have A5 := Aside0.mk A50
    clear A50
    obtain rfl := Option.some.inj H
    go_enter Try.func104, Try.ntmps104
    go_wp2_with (first | ((with_reducible refine gate_callee (f := 91) rfl ?_); refine goesL_ (some 10) rfl rfl Try.func91 (by kernel_rfl) rfl #[.bool a0] rfl (by (try simp only [List.map_toArray, List.map_cons, List.map_nil]); first | done | rfl | (simp only [List.length_drop, List.length_take]; rfl)) ?_; (with_reducible refine (parts_Zero.calls a0 t372 _ A5.out).mono ?_); rintro e w' ⟨rfl, ⟨nd, rfl⟩⟩; refine ⟨_, rfl, ?_⟩))
    go_ret
    exact ⟨by first | rfl | (simp; done) | (simp [*]; done), by repeat (first | exact Drawn0.refl _ | apply Drawn0.step)⟩
  · rw [if_neg c4] at H
    have c4b0 : decide (a1 < 4503599627370496) = false := decide_eq_false c4
    clear c4
    replace H := Option.bind_eq_some_iff.mp H
    obtain ⟨t373, A60, H⟩ := H
    replace H : (some (Go.bits .or .u64 (Go.bits .or .u64 t373 (IntKind.u64.wrap ((IntKind.u64.wrap (wrap64 (a2 + 1075))) * 4503599627370496))) (Go.bits .and .u64 a1 4503599627370495))) = some r := H
    have A6 := Aside0.mk A60
    clear A60
    obtain rfl := Option.some.inj H
    go_enter Try.func104, Try.ntmps104
    go_wp2_with (first | ((with_reducible refine gate_callee (f := 91) rfl ?_); refine goesL_ (some 14) rfl rfl Try.func91 (by kernel_rfl) rfl #[.bool a0] rfl (by (try simp only [List.map_toArray, List.map_cons, List.map_nil]); first | done | rfl | (simp only [List.length_drop, List.length_take]; rfl)) ?_; (with_reducible refine (parts_Zero.calls a0 t373 _ A6.out).mono ?_); rintro e w' ⟨rfl, ⟨nd, rfl⟩⟩; refine ⟨_, rfl, ?_⟩))
    go_ret
    exact ⟨by first | rfl | (simp; done) | (simp [*]; done), by repeat (first | exact Drawn0.refl _ | apply Drawn0.step)⟩

end Go.Proofs.Ytjbpchebabhoeaa.P
