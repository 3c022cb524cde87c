/- The machine side of the laws, written by a program of this session over the kit's own print. -/
import Derived.Test.YtjbpchebabhoeaaP0
namespace Go.Proofs.Ytjbpchebabhoeaa.P
open Go.RowKit Go.Proofs.YtjbpchebabhoeaaW.PrintWords Go.Proofs.YtjbpchebabhoeaaW.PrintLast Go.Proofs.YtjbpchebabhoeaaW.PrintMore Go.Proofs.Ytjbpchebabhoeaa.X
attribute [local go_sem] max2_int min2_int max_two min_two max_three min_three max_four min_four   -- for this text's walks alone
set_option linter.unusedVariables false
set_option linter.unusedSimpArgs false

/-! ### fadd_join: function 94 -/
def fadd_join.f (a0 : Int) (a1 : Int) (a2 : Int) (a3 : Bool) (a4 : Bool) : Option (Int × Int) := if a3 = true then (if a4 = true then ((bits_Sub64.f a1 a2 1).bind fun bt350 => (some (IntKind.u64.wrap (a0 - bt350.2), bt350.1))) else ((bits_Sub64.f a1 a2 0).bind fun bt352 => (some (IntKind.u64.wrap (a0 - bt352.2), bt352.1)))) else ((bits_Add64.f a1 a2 0).bind fun bt354 => (some (IntKind.u64.wrap (a0 + bt354.2), bt354.1)))
set_option maxHeartbeats 8000000 in
set_option maxRecDepth 100000 in
theorem fadd_join.calls (a0 : Int) (a1 : Int) (a2 : Int) (a3 : Bool) (a4 : Bool) (r1 : Int) (r2 : Int) (w : World) (h : fadd_join.f a0 a1 a2 a3 a4 = some (r1, r2)) :
    Calls Try.prog 94 #[.int .u64 a0, .int .u64 a1, .int .u64 a2, .bool a3, .bool a4] w fun e w' => e = .returned (.tuple #[.int .u64 r1, .int .u64 r2]) ∧ Drawn0 w w' := by
  have H : (if a3 = true then (if a4 = true then ((bits_Sub64.f a1 a2 1).bind fun bt350 => (some (IntKind.u64.wrap (a0 - bt350.2), bt350.1))) else ((bits_Sub64.f a1 a2 0).bind fun bt352 => (some (IntKind.u64.wrap (a0 - bt352.2), bt352.1)))) else ((bits_Add64.f a1 a2 0).bind fun bt354 => (some (IntKind.u64.wrap (a0 + bt354.2), bt354.1)))) = some (r1, r2) := h
  clear h
  by_cases c6 : a3 = true
  · subst c6
    have H1 : (if a4 = true then ((bits_Sub64.f a1 a2 1).bind fun bt350 => (some (IntKind.u64.wrap (a0 - bt350.2), bt350.1))) else ((bits_Sub64.f a1 a2 0).bind fun bt352 => (some (IntKind.u64.wrap (a0 - bt352.2), bt352.1)))) = some (r1, r2) := by rw [if_pos rfl] at H; exact H
    clear H
    have H := H1
    clear H1
    by_cases c7 : a4 = true
    · subst c7
      have H1 : ((bits_Sub64.f a1 a2 1).bind fun bt350 => (some (IntKind.u64.wrap (a0 - bt350.2), bt350.1))) = some (r1, r2) := by rw [if_pos rfl] at H; exact H
      clear H
      have H := H1
      clear H1
      replace H := Option.bind_eq_some_iff.mp H
      obtain ⟨⟨t350, t351⟩, A80, H⟩ := H
      replace H : (some (IntKind.u64.wrap (a0 - t351), t350)) = some (r1, r2) := H
      have A8 := Aside0.mk A80
      clear A80
      simp only [Option.some.injEq, Prod.mk.injEq] at H
      obtain ⟨rfl, rfl⟩ := H
      go_enter Try.func94, Try.ntmps94
      go_wp2_with (first | ((with_reducible refine gate_callee (f := 90) rfl ?_); refine goesXL_ (some 34) rfl rfl #[.int .u64 a1, .int .u64 a2, .int .u64 1] rfl (by (try simp only [List.map_toArray, List.map_cons, List.map_nil]); first | done | rfl | (simp only [List.length_drop, List.length_take]; rfl)) ?_; (with_reducible refine (bits_Sub64.calls a1 a2 1 t350 t351 _ A8.out).mono ?_); rintro e w' ⟨rfl, ⟨nd, rfl⟩⟩; refine ⟨_, rfl, ?_⟩))
      go_ret2
      exact ⟨by first | rfl | (simp; done) | (simp [*]; done), by repeat (first | exact Drawn0.refl _ | apply Drawn0.step)⟩
    · replace c7 := Bool.eq_false_iff.mpr c7
      subst c7
      have H1 : ((bits_Sub64.f a1 a2 0).bind fun bt352 => (some (IntKind.u64.wrap (a0 - bt352.2), bt352.1))) = some (r1, r2) := by rw [if_neg (show ¬ (false = true) by decide)] at H; exact H
      clear H
      have H := H1
      clear H1
      replace H := Option.bind_eq_some_iff.mp H
      obtain ⟨⟨t352, t353⟩, A90, H⟩ := H
      replace H : (some (IntKind.u64.wrap (a0 - t353), t352)) = some (r1, r2) := H
      have A9 := Aside0.mk A90
      clear A90
      simp only [Option.some.injEq, Prod.mk.injEq] at H
      obtain ⟨rfl, rfl⟩ := H
      go_enter Try.func94, Try.ntmps94
      go_wp2_with (first | ((with_reducible refine gate_callee (f := 90) rfl ?_); refine goesXL_ (some 34) rfl rfl #[.int .u64 a1, .int .u64 a2, .int .u64 0] rfl (by (try simp only [List.map_toArray, List.map_cons, List.map_nil]); first | done | rfl | (simp only [List.length_drop, List.length_take]; rfl)) ?_; (with_reducible refine (bits_Sub64.calls a1 a2 0 t352 t353 _ A9.out).mono ?_); rintro e w' ⟨rfl, ⟨nd, rfl⟩⟩; refine ⟨_, rfl, ?_⟩))
      go_ret2
      exact ⟨by first | rfl | (simp; done) | (simp [*]; done), by repeat (first | exact Drawn0.refl _ | apply Drawn0.step)⟩
  · replace c6 := Bool.eq_false_iff.mpr c6
    subst c6
    have H1 : ((bits_Add64.f a1 a2 0).bind fun bt354 => (some (IntKind.u64.wrap (a0 + bt354.2), bt354.1))) = some (r1, r2) := by rw [if_neg (show ¬ (false = true) by decide)] at H; exact H
    clear H
    have H := H1
    clear H1
    replace H := Option.bind_eq_some_iff.mp H
    obtain ⟨⟨t354, t355⟩, A100, H⟩ := H
    replace H : (some (IntKind.u64.wrap (a0 + t355), t354)) = some (r1, r2) := H
    have A10 := Aside0.mk A100
    clear A100
    simp only [Option.some.injEq, Prod.mk.injEq] at H
    obtain ⟨rfl, rfl⟩ := H
    go_enter Try.func94, Try.ntmps94
    go_wp2_with (first | ((with_reducible refine gate_callee (f := 58) rfl ?_); refine goesXL_ (some 22) rfl rfl #[.int .u64 a1, .int .u64 a2, .int .u64 0] rfl (by (try simp only [List.map_toArray, List.map_cons, List.map_nil]); first | done | rfl | (simp only [List.length_drop, List.length_take]; rfl)) ?_; (with_reducible refine (bits_Add64.calls a1 a2 0 t354 t355 _ A10.out).mono ?_); rintro e w' ⟨rfl, ⟨nd, rfl⟩⟩; refine ⟨_, rfl, ?_⟩))
    go_ret2
    exact ⟨by first | rfl | (simp; done) | (simp [*]; done), by repeat (first | exact Drawn0.refl _ | apply Drawn0.step)⟩

end Go.Proofs.Ytjbpchebabhoeaa.P
