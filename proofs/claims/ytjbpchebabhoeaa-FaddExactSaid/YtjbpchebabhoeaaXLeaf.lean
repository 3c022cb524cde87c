/- Functions of math/bits, by the shelf's contracts, in the form that the other texts ask. -/
import Derived.Test.YtjbpchebabhoeaaXExt
import Derived.Test.YtjbpchebabhoeaaXShelf
import Derived.Lib.BitFns
set_option linter.unusedVariables false
namespace Go.Proofs.Ytjbpchebabhoeaa.X
open Go.RowKit Go.Proofs.YtjbpchebabhoeaaW.PrintWords Go.Proofs.YtjbpchebabhoeaaW.PrintLast Go.Proofs.YtjbpchebabhoeaaW.PrintMore
def bits_Len64.f (a0 : Int) : Option (Int) := if 0 ≤ a0 ∧ a0 ≤ 18446744073709551615 then (some (Lib.bitLen a0.toNat)) else (none)
theorem bits_Len64.calls (a0 : Int) (r : Int) (w : World) (h : bits_Len64.f a0 = some r) :
    Calls Try.prog 57 #[.int .u64 a0] w fun e w' => e = .returned (.int .i64 r) ∧ Drawn0 w w' := by
  unfold bits_Len64.f at h
  split at h
  · rename_i hc
    obtain rfl := Option.some.inj h
    exact (Try.bits_Len64 a0 w hc.1 hc.2).mono fun e w' ⟨he, hw⟩ => ⟨he, by subst hw; exact Drawn0.refl _⟩
  · cases h
def bits_LeadingZeros64.f (a0 : Int) : Option (Int) := if 0 ≤ a0 ∧ a0 ≤ 18446744073709551615 then (some (64 - (Lib.bitLen a0.toNat : Int))) else (none)
theorem bits_LeadingZeros64.calls (a0 : Int) (r : Int) (w : World) (h : bits_LeadingZeros64.f a0 = some r) :
    Calls Try.prog 51 #[.int .u64 a0] w fun e w' => e = .returned (.int .i64 r) ∧ Drawn0 w w' := by
  unfold bits_LeadingZeros64.f at h
  split at h
  · rename_i hc
    obtain rfl := Option.some.inj h
    exact (Try.bits_LeadingZeros64 a0 w hc.1 hc.2).mono fun e w' ⟨he, hw⟩ => ⟨he, by subst hw; exact Drawn0.refl _⟩
  · cases h
def bits_Mul64.f (a0 : Int) (a1 : Int) : Option (Int × Int) := if 0 ≤ a0 ∧ a0 < 18446744073709551616 ∧ 0 ≤ a1 ∧ a1 < 18446744073709551616 then (some (a0 * a1 / 18446744073709551616, a0 * a1 % 18446744073709551616)) else (none)
theorem bits_Mul64.calls (a0 : Int) (a1 : Int) (r1 : Int) (r2 : Int) (w : World) (h : bits_Mul64.f a0 a1 = some (r1, r2)) :
    Calls Try.prog 89 #[.int .u64 a0, .int .u64 a1] w fun e w' => e = .returned (.tuple #[.int .u64 r1, .int .u64 r2]) ∧ Drawn0 w w' := by
  unfold bits_Mul64.f at h
  split at h
  · rename_i hc
    simp only [Option.some.injEq, Prod.mk.injEq] at h
    obtain ⟨rfl, rfl⟩ := h
    obtain ⟨h0, h1, h2, h3⟩ := hc
    obtain ⟨x, rfl⟩ := Int.eq_ofNat_of_zero_le h0
    obtain ⟨y, rfl⟩ := Int.eq_ofNat_of_zero_le h2
    refine (Try.bits_Mul64 x y (by omega) (by omega) w).mono fun e w' ⟨he, hw⟩ => ⟨?_, by subst hw; exact Drawn0.refl _⟩
    rw [he, Int.natCast_ediv, Int.natCast_emod, Int.natCast_mul]
    rfl
  · cases h
theorem field_45_0 (x0 x1 : Value) (w : World) : (Instr.field 45 (.agg #[x0, x1]) 0).run Try.prog w = .ok (x0) w := by kernel_rfl
attribute [go_sem] field_45_0
theorem field_45_1 (x0 x1 : Value) (w : World) : (Instr.field 45 (.agg #[x0, x1]) 1).run Try.prog w = .ok (x1) w := by kernel_rfl
attribute [go_sem] field_45_1
theorem field_121_1 (x0 x1 : Value) (w : World) : (Instr.field 121 (.agg #[x0, x1]) 1).run Try.prog w = .ok (x1) w := by kernel_rfl
attribute [go_sem] field_121_1
end Go.Proofs.Ytjbpchebabhoeaa.X
