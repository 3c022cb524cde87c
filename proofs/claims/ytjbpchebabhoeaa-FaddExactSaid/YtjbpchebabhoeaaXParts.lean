/- Numbers of 64 bits, taken apart and put together: what the printed functions of package parts answer, in plain numbers. -/
import Derived.Test.YtjbpchebabhoeaaXBits
import Derived.Test.YtjbpchebabhoeaaPqpartsClass
import Derived.Test.YtjbpchebabhoeaaPqpartsSplit
import Derived.Test.YtjbpchebabhoeaaPqpartsRound
set_option linter.unusedVariables false
set_option linter.unusedSimpArgs false
namespace Go.Proofs.Ytjbpchebabhoeaa.Fl
open Go.RowKit Go.Proofs.Ytjbpchebabhoeaa.P Go.Proofs.Ytjbpchebabhoeaa.X Go.Proofs.Ytjbpchebabhoeaa.Bt Go.Proofs.YtjbpchebabhoeaaW.PrintWords

def Word (a : Int) : Prop := 0 ≤ a ∧ a < 18446744073709551616
def cls (a : Int) : Int := if a / 4503599627370496 % 2048 = 2047 then (if a % 4503599627370496 = 0 then 2 else 3) else (if a / 4503599627370496 % 2048 = 0 then (if a % 4503599627370496 = 0 then 0 else 1) else 1)
def sgn (a : Int) : Bool := decide (9223372036854775808 ≤ a)
def sig (a : Int) : Nat := if a / 4503599627370496 % 2048 = 0 then (a % 4503599627370496).toNat else (a % 4503599627370496).toNat + 4503599627370496
def xpo (a : Int) : Int := if a / 4503599627370496 % 2048 = 0 then -1074 else a / 4503599627370496 % 2048 - 1075
def sgv (neg : Bool) : Int := if neg = true then 9223372036854775808 else 0

theorem Class_f {k : Nat} (hk : 1 ≤ k) {a : Int} (h : Word a) : parts_Class.f k a = some (cls a) := by
  obtain ⟨k, rfl⟩ : ∃ m, k = m + 1 := ⟨k - 1, by omega⟩
  obtain ⟨h0, h1⟩ := h
  unfold parts_Class.f cls
  rw [and_2047 (by omega) (by omega), and_frac h0 h1]
  by_cases e : a / 4503599627370496 % 2048 = 2047
  · rw [if_pos e, if_pos e]
    simp only [parts_Class.j0]
    by_cases f : a % 4503599627370496 = 0
    · rw [f]; simp [e]
    · rw [if_pos (by simpa using f), if_neg f]
  · rw [if_neg e, if_neg e]
    simp only [parts_Class.j0]
    rw [if_neg (by decide), if_neg e]
    split
    · split <;> rfl
    · rfl

theorem sign_ne {a : Int} (h : Word a) : ((Go.bits .and .u64 a 9223372036854775808) != 0) = sgn a := by
  rw [and_sign h.1 h.2]
  unfold sgn
  by_cases e : 9223372036854775808 ≤ a
  · rw [if_pos e, decide_eq_true e]; rfl
  · rw [if_neg e, decide_eq_false e]; rfl

theorem Split_f {a : Int} (h : Word a) (hf : a / 4503599627370496 % 2048 ≠ 2047) : parts_Split.f a = some (sgn a, (sig a : Int), xpo a, 0) := by
  have hs := sign_ne h
  obtain ⟨h0, h1⟩ := h
  unfold parts_Split.f sig xpo
  rw [and_2047 (by omega) (by omega), w64 (x := a / 4503599627370496 % 2048) (by omega) (by omega), and_frac h0 h1, if_neg hf, hs]
  by_cases e : a / 4503599627370496 % 2048 = 0
  · rw [if_pos e, if_pos e, if_pos e, Int.toNat_of_nonneg (by omega)]
  · rw [if_neg e, if_neg e, if_neg e, or_hidden (by omega) (by omega), w64 (by omega) (by omega)]
    have : ((a % 4503599627370496).toNat + 4503599627370496 : Nat) = (a % 4503599627370496 + 4503599627370496 : Int) := by omega
    rw [this]
theorem Split_inf {a : Int} (h : Word a) (hf : a / 4503599627370496 % 2048 = 2047) : parts_Split.f a = some (false, 0, 0, 23) := by
  obtain ⟨h0, h1⟩ := h
  unfold parts_Split.f
  rw [and_2047 (by omega) (by omega), w64 (x := a / 4503599627370496 % 2048) (by omega) (by omega), if_pos hf]

theorem Zero_f (neg : Bool) : parts_Zero.f neg = some (sgv neg) := by cases neg <;> rfl
theorem sgv_or (neg : Bool) : sgv neg = 0 ∨ sgv neg = 9223372036854775808 := by cases neg <;> simp [sgv]
theorem Inf_f (neg : Bool) : parts_Inf.f neg = some (sgv neg + 9218868437227405312) := by
  unfold parts_Inf.f
  rw [Zero_f]
  simp only [Option.bind_some]
  rw [or_sign (sgv_or neg) (by omega) (by omega)]

/-! ### a natural of two words -/
theorem two_words (hi lo n m B : Nat) (hW : 2 ^ n * 2 ^ m = B) (hl : lo < B) :
    (hi * B + lo) / 2 ^ n = hi * 2 ^ m + lo / 2 ^ n ∧ lo / 2 ^ n < 2 ^ m ∧ (hi * 2 ^ m + lo / 2 ^ n) / B = hi / 2 ^ n ∧ (hi * 2 ^ m + lo / 2 ^ n) % B = hi % 2 ^ n * 2 ^ m + lo / 2 ^ n ∧ hi * 2 ^ m % B = 2 ^ m * (hi % 2 ^ n) ∧ 2 ^ m * (hi % 2 ^ n) + lo / 2 ^ n < B := by
  have hn0 := Nat.two_pow_pos n
  have hm0 := Nat.two_pow_pos m
  have hlo : lo / 2 ^ n < 2 ^ m := by rw [Nat.div_lt_iff_lt_mul hn0, Nat.mul_comm, hW]; exact hl
  have h2 : hi % 2 ^ n < 2 ^ n := Nat.mod_lt _ hn0
  have h3 : (hi % 2 ^ n + 1) * 2 ^ m ≤ 2 ^ n * 2 ^ m := Nat.mul_le_mul_right _ h2
  rw [hW, Nat.add_mul] at h3
  refine ⟨?_, hlo, ?_, ?_, ?_, ?_⟩
  · rw [← hW, show hi * (2 ^ n * 2 ^ m) + lo = lo + 2 ^ n * (hi * 2 ^ m) by rw [Nat.add_comm, Nat.mul_left_comm], Nat.add_mul_div_left _ _ hn0, Nat.add_comm]
  · rw [← hW, Nat.mul_comm (2 ^ n), ← Nat.div_div_eq_div_mul, Nat.add_comm, Nat.add_mul_div_right _ _ hm0, Nat.div_eq_of_lt hlo, Nat.zero_add]
  · have h1 : hi * 2 ^ m = B * (hi / 2 ^ n) + hi % 2 ^ n * 2 ^ m := by
      conv => lhs; rw [← Nat.div_add_mod hi (2 ^ n)]
      rw [Nat.add_mul, ← hW, Nat.mul_right_comm]
    rw [h1, Nat.add_assoc, Nat.mul_add_mod]
    apply Nat.mod_eq_of_lt
    omega
  · rw [← hW, Nat.mul_comm hi, Nat.mul_comm (2 ^ n), Nat.mul_mod_mul_left]
  · rw [Nat.mul_comm]; omega

theorem shr_f {N hi lo : Nat} (hN : N = hi * 18446744073709551616 + lo) (hh : hi < 18446744073709551616) (hl : lo < 18446744073709551616) (n : Nat) (hn : n < 9223372036854775808) :
    parts_wide_shr.f hi lo n = some (((N / 2 ^ n / 18446744073709551616 : Nat) : Int), ((N / 2 ^ n % 18446744073709551616 : Nat) : Int)) := by
  unfold parts_wide_shr.f
  by_cases a : (n : Int) ≥ 128
  · rw [if_pos a]
    have hN : N < 2 ^ n := by
      have : 2 ^ 128 ≤ 2 ^ n := Nat.pow_le_pow_right (by omega) (by omega)
      omega
    rw [Nat.div_eq_of_lt hN]; rfl
  · rw [if_neg a]
    by_cases b : (n : Int) ≥ 64
    · rw [if_pos b, w64 (by omega) (by omega), if_pos (by omega), shr_u64 (by omega) (by omega)]
      have e : N / 2 ^ n = hi / 2 ^ (n - 64) := by
        have e0 : 2 ^ n = 2 ^ 64 * 2 ^ (n - 64) := by rw [← Nat.pow_add, show 64 + (n - 64) = n by omega]
        rw [e0, ← Nat.div_div_eq_div_mul, show N / 2 ^ 64 = hi by omega]
      have hlt : hi / 2 ^ (n - 64) < 18446744073709551616 := Nat.lt_of_le_of_lt (Nat.div_le_self _ _) hh
      rw [e, Nat.div_eq_of_lt hlt, Nat.mod_eq_of_lt hlt]
      rw [show ((n : Int) - 64).toNat = n - 64 by omega, Int.natCast_ediv]
      rfl
    · rw [if_neg b]
      by_cases c : (n : Int) = 0
      · rw [if_pos c]
        obtain rfl : n = 0 := by omega
        simp only [Nat.pow_zero, Nat.div_one]
        have e1 : N / 18446744073709551616 = hi := by omega
        have e2 : N % 18446744073709551616 = lo := by omega
        rw [e1, e2]
      · rw [if_neg c, if_pos (by omega), w64 (by omega) (by omega), if_pos (by omega), shr_u64 (by omega) (by omega), shr_u64 (by omega) (by omega), shl_u64 (by omega) (by omega)]
        obtain ⟨m, hm⟩ : ∃ m, n + m = 64 := ⟨64 - n, by omega⟩
        have hmn : ((64 : Int) - n).toNat = m := by omega
        rw [hmn, show ((n : Int)).toNat = n by omega]
        have hW : 2 ^ n * 2 ^ m = 18446744073709551616 := by rw [← Nat.pow_add, hm]
        obtain ⟨e, hlo, e1, e2, e3, e4⟩ := two_words hi lo n m _ hW hl
        rw [← hN] at e
        have e5 : (hi : Int) * ((2 ^ m : Nat) : Int) % 18446744073709551616 = ((2 ^ m * (hi % 2 ^ n) : Nat) : Int) := by
          rw [← e3, ← Int.natCast_mul]
          omega
        have hb := or_add_nat m (hi % 2 ^ n) (lo / 2 ^ n) hlo e4
        have hc := or_comm_nat (lo / 2 ^ n) (2 ^ m * (hi % 2 ^ n)) (by omega) (by omega)
        rw [e, e1, e2, e5, Int.natCast_ediv hi, ← Int.natCast_ediv lo, hc, hb, Nat.mul_comm (hi % 2 ^ n)]

theorem len_f {N hi lo : Nat} (hN : N = hi * 18446744073709551616 + lo) (hh : hi < 18446744073709551616) (hl : lo < 18446744073709551616) : parts_wide_len.f hi lo = some ((blen N : Nat) : Int) := by
  unfold parts_wide_len.f bits_Len64.f
  rw [if_pos (show 0 ≤ (lo : Int) ∧ (lo : Int) ≤ 18446744073709551615 by omega), if_pos (show 0 ≤ (hi : Int) ∧ (hi : Int) ≤ 18446744073709551615 by omega)]
  simp only [Option.bind_some, Int.toNat_natCast]
  rw [bitLen_eq hi hh, bitLen_eq lo hl]
  by_cases e : (hi : Int) = 0
  · rw [if_pos e]
    obtain rfl : hi = 0 := by omega
    rw [hN, Nat.zero_mul, Nat.zero_add]
  · rw [if_neg e]
    have h1 := blen_le (n := hi) (k := 64) (by omega)
    rw [w64 (by omega) (by omega)]
    have hp : 0 < hi := by omega
    have h2 := blen_ge hp
    have h3 := lt_blen hi
    have h4 := blen_pos hp
    obtain ⟨m, hm⟩ : ∃ m, blen hi = m + 1 := ⟨blen hi - 1, by omega⟩
    rw [hm] at h2 h3 ⊢
    rw [Nat.add_sub_cancel] at h2
    have e2 : blen N = (64 + m) + 1 := by
      apply blen_eq
      · rw [Nat.pow_add, Nat.mul_comm]
        have := Nat.mul_le_mul_right (2 ^ 64) h2
        omega
      · rw [show 64 + m + 1 = 64 + (m + 1) by omega, Nat.pow_add, Nat.mul_comm]
        have := Nat.mul_le_mul_right (2 ^ 64) h3
        rw [Nat.succ_mul] at this
        omega
    rw [e2]
    congr 1

theorem bit_step (N i : Nat) : N % 2 ^ (i + 1) = N % 2 ^ i + 2 ^ i * (N / 2 ^ i % 2) := Nat.mod_pow_succ
theorem low_ne {N i m : Nat} (h0 : N % 2 ^ i = 0) (hb : N / 2 ^ i % 2 = 1) (him : i < m) : N % 2 ^ m ≠ 0 := by
  have h := bit_step N i
  rw [h0, hb, Nat.zero_add, Nat.mul_one] at h
  intro hz
  have hd : 2 ^ (i + 1) ∣ 2 ^ m := Nat.pow_dvd_pow 2 (by omega)
  have : N % 2 ^ (i + 1) = 0 := Nat.mod_eq_zero_of_dvd (Nat.dvd_trans hd (Nat.dvd_of_mod_eq_zero hz))
  have := Nat.two_pow_pos i
  omega
theorem low_eq {N i : Nat} (h0 : N % 2 ^ i = 0) (hb : N / 2 ^ i % 2 = 0) : N % 2 ^ (i + 1) = 0 := by
  rw [bit_step, h0, hb, Nat.zero_add, Nat.mul_zero]
theorem par (N : Nat) : ((N % 18446744073709551616 : Nat) : Int) % 2 = ((N % 2 : Nat) : Int) := by omega

theorem cut_loop {N hi lo : Nat} (hN : N = hi * 18446744073709551616 + lo) (hh : hi < 18446744073709551616) (hl : lo < 18446744073709551616) (q : Int) (half : Bool) (m : Nat) (hm : m ≤ 128) (d : Nat) : ∀ (i k : Nat), i + d = m → d < k → N % 2 ^ i = 0 →
    parts_wide_cut.l0 k q half m i hi lo = some (q, half, decide (N % 2 ^ m ≠ 0)) := by
  induction d with
  | zero =>
    intro i k hi' hk h0
    obtain ⟨k, rfl⟩ : ∃ m, k = m + 1 := ⟨k - 1, by omega⟩
    obtain rfl : i = m := by omega
    simp only [parts_wide_cut.l0]
    rw [if_neg (by omega), decide_eq_false (fun h => h h0)]
  | succ d ih =>
    intro i k hi' hk h0
    obtain ⟨k, rfl⟩ : ∃ m, k = m + 1 := ⟨k - 1, by omega⟩
    simp only [parts_wide_cut.l0]
    rw [if_pos (by omega), shr_f hN hh hl i (by omega)]
    simp only [Option.bind_some]
    rw [and_1 (by omega) (by omega), par]
    by_cases e : ((N / 2 ^ i % 2 : Nat) : Int) = 1
    · rw [if_pos e, decide_eq_true (low_ne h0 (by omega) (by omega))]
    · rw [if_neg e, w64 (by omega) (by omega)]
      exact ih (i + 1) k (by omega) (by omega) (low_eq h0 (by omega))

/-- The whole part of a number by a power of two; whether the next bit is one, and any behind. -/
theorem cut_f {N hi lo : Nat} (hN : N = hi * 18446744073709551616 + lo) (hh : hi < 18446744073709551616) (hl : lo < 18446744073709551616) (n : Nat) (hn0 : 0 < n) (hn : n < 9223372036854775808) {k : Nat} (hk : 200 ≤ k) :
    parts_wide_cut.f k hi lo n = some (((N / 2 ^ n % 18446744073709551616 : Nat) : Int), decide (N / 2 ^ (n - 1) % 2 = 1), decide (N % 2 ^ (n - 1) ≠ 0)) := by
  unfold parts_wide_cut.f
  rw [if_neg (by omega), shr_f hN hh hl n hn, w64 (by omega) (by omega), show ((n : Int) - 1) = ((n - 1 : Nat) : Int) by omega, shr_f hN hh hl (n - 1) (by omega)]
  simp only [Option.bind_some]
  rw [and_1 (by omega) (by omega), par]
  have hm : mn ((n - 1 : Nat) : Int) 128 = ((min (n - 1) 128 : Nat) : Int) := by unfold mn; split <;> omega
  rw [hm]
  have e1 : (((N / 2 ^ (n - 1) % 2 : Nat) : Int) == 1) = decide (N / 2 ^ (n - 1) % 2 = 1) := by
    rw [Bool.eq_iff_iff, beq_iff_eq, decide_eq_true_iff]
    omega
  have e2 : decide (N % 2 ^ (min (n - 1) 128) ≠ 0) = decide (N % 2 ^ (n - 1) ≠ 0) := by
    by_cases hc : n - 1 ≤ 128
    · rw [Nat.min_eq_left hc]
    · rw [Nat.min_eq_right (by omega)]
      have hN : N < 2 ^ 128 := by omega
      have hN2 : N < 2 ^ (n - 1) := Nat.lt_of_lt_of_le hN (Nat.pow_le_pow_right (by omega) (by omega))
      rw [Nat.mod_eq_of_lt hN, Nat.mod_eq_of_lt hN2]
  rw [e1]
  have hl := cut_loop hN hh hl ((N / 2 ^ n % 18446744073709551616 : Nat) : Int) (decide (N / 2 ^ (n - 1) % 2 = 1)) (min (n - 1) 128) (by omega) (min (n - 1) 128) 0 k (by omega) (by omega) (by rw [Nat.pow_zero, Nat.mod_one])
  rw [e2] at hl
  exact hl
theorem cut_up {hi lo : Nat} (hl : lo < 18446744073709551616) (n : Nat) (hn : n < 64) (k : Nat) (h : lo * 2 ^ n < 18446744073709551616) :
    parts_wide_cut.f k hi lo (-(n : Int)) = some (((lo * 2 ^ n : Nat) : Int), false, false) := by
  unfold parts_wide_cut.f
  rw [if_pos (by omega), w64 (by omega) (by omega), if_pos (by omega), shl_u64 (by omega) (by omega)]
  rw [show (- -(n : Int)).toNat = n by omega, ← Int.natCast_mul]
  congr 2
  omega
end Go.Proofs.Ytjbpchebabhoeaa.Fl
