/- Plain facts on words of 64 bits: masks, shifts, wraps. No program here. -/
import Derived.Laws.Bits64b
import Derived.Lib.BitFns
import Derived.Lib.ItoaNum
import Derived.Test.YtjbpchebabhoeaaWMore
set_option linter.unusedVariables false
set_option linter.unusedSimpArgs false
namespace Go.Proofs.Ytjbpchebabhoeaa.Bt
open Go.RowKit Go.Proofs.YtjbpchebabhoeaaW.PrintWords

theorem w64 {x : Int} (h0 : -9223372036854775808 ≤ x) (h1 : x < 9223372036854775808) : wrap64 x = x := by unfold wrap64; omega
theorem u64 (x : Int) : IntKind.u64.wrap x = x % 18446744073709551616 := IntKind.wrap_u64 x
theorem u64_in {x : Int} (h0 : 0 ≤ x) (h1 : x < 18446744073709551616) : IntKind.u64.wrap x = x := by rw [u64]; omega

theorem and_mask (k : Nat) (hk : k ≤ 64) {x : Int} (h0 : 0 ≤ x) (h1 : x < 18446744073709551616) : bits .and .u64 x (((2 ^ k - 1 : Nat)) : Int) = x % ((2 ^ k : Nat) : Int) := by
  obtain ⟨n, rfl⟩ := Int.eq_ofNat_of_zero_le h0
  have hp : 2 ^ k ≤ 2 ^ 64 := Nat.pow_le_pow_right (by omega) hk
  rw [bits_and_u64_nat n (2 ^ k - 1) (by omega) (by omega), Nat.and_two_pow_sub_one_eq_mod]
  rfl
theorem and_2047 {x : Int} (h0 : 0 ≤ x) (h1 : x < 18446744073709551616) : bits .and .u64 x 2047 = x % 2048 := and_mask 11 (by omega) h0 h1
theorem and_frac {x : Int} (h0 : 0 ≤ x) (h1 : x < 18446744073709551616) : bits .and .u64 x 4503599627370495 = x % 4503599627370496 := and_mask 52 (by omega) h0 h1
theorem and_1 {x : Int} (h0 : 0 ≤ x) (h1 : x < 18446744073709551616) : bits .and .u64 x 1 = x % 2 := and_mask 1 (by omega) h0 h1
theorem and_m32 {x : Int} (h0 : 0 ≤ x) (h1 : x < 18446744073709551616) : bits .and .u64 x 4294967295 = x % 4294967296 := and_mask 32 (by omega) h0 h1

theorem testBit63 (n : Nat) (h : n < 18446744073709551616) : n.testBit 63 = decide (9223372036854775808 ≤ n) := by
  rw [Nat.testBit_eq_decide_div_mod_eq]
  have : n / 2 ^ 63 = if 9223372036854775808 ≤ n then 1 else 0 := by
    split
    · omega
    · omega
  rw [this]
  split <;> simp_all
theorem and_63 (n : Nat) : n &&& 2 ^ 63 = if n.testBit 63 then 2 ^ 63 else 0 := by
  apply Nat.eq_of_testBit_eq
  intro i
  rw [Nat.testBit_and, Nat.testBit_two_pow]
  by_cases hi : 63 = i
  · subst hi
    by_cases hb : n.testBit 63 = true
    · rw [if_pos hb, hb]; rfl
    · rw [if_neg hb]; simp at hb; rw [hb]; rfl
  · have : decide (63 = i) = false := by simp [hi]
    rw [this, Bool.and_false]
    split
    · rw [Nat.testBit_two_pow, this]
    · simp
theorem and_sign {x : Int} (h0 : 0 ≤ x) (h1 : x < 18446744073709551616) : bits .and .u64 x 9223372036854775808 = if 9223372036854775808 ≤ x then 9223372036854775808 else 0 := by
  obtain ⟨n, rfl⟩ := Int.eq_ofNat_of_zero_le h0
  have e := bits_and_u64_nat n (2 ^ 63) (by omega) (by decide)
  rw [and_63, testBit63 n (by omega)] at e
  refine Eq.trans e ?_
  by_cases h : 9223372036854775808 ≤ n
  · rw [if_pos (show decide (9223372036854775808 ≤ n) = true by simpa using h), if_pos (by omega)]; rfl
  · rw [if_neg (show ¬ decide (9223372036854775808 ≤ n) = true by simpa using h), if_neg (by omega)]; rfl

theorem or_add_nat (k a b : Nat) (hb : b < 2 ^ k) (h : 2 ^ k * a + b < 18446744073709551616) : bits .or .u64 ((2 ^ k * a : Nat) : Int) (b : Int) = ((2 ^ k * a + b : Nat) : Int) := by
  rw [bits_or_u64_nat _ _ (by omega) (by omega), Nat.two_pow_add_eq_or_of_lt hb]
theorem or_comm_nat (a b : Nat) (ha : a < 18446744073709551616) (hb : b < 18446744073709551616) : bits .or .u64 (a : Int) (b : Int) = bits .or .u64 (b : Int) (a : Int) := by
  rw [bits_or_u64_nat a b ha hb, bits_or_u64_nat b a hb ha, Nat.or_comm]
theorem or_hidden {x : Int} (h0 : 0 ≤ x) (h1 : x < 4503599627370496) : bits .or .u64 x 4503599627370496 = x + 4503599627370496 := by
  obtain ⟨n, rfl⟩ := Int.eq_ofNat_of_zero_le h0
  have e := or_add_nat 52 1 n (by omega) (by omega)
  have c := or_comm_nat n 4503599627370496 (by omega) (by omega)
  refine Eq.trans c ?_
  refine Eq.trans e ?_
  omega
theorem or_sign {z x : Int} (hz : z = 0 ∨ z = 9223372036854775808) (h0 : 0 ≤ x) (h1 : x < 9223372036854775808) : bits .or .u64 z x = z + x := by
  obtain ⟨n, rfl⟩ := Int.eq_ofNat_of_zero_le h0
  rcases hz with rfl | rfl
  · have e := or_add_nat 63 0 n (by omega) (by omega)
    refine Eq.trans e ?_
    omega
  · have e := or_add_nat 63 1 n (by omega) (by omega)
    refine Eq.trans e ?_
    omega
theorem or_52 {z x : Int} (hz0 : 0 ≤ z) (hz : z % 4503599627370496 = 0) (hz1 : z < 18446744073709551616) (h0 : 0 ≤ x) (h1 : x < 4503599627370496) : bits .or .u64 z x = z + x := by
  obtain ⟨n, rfl⟩ := Int.eq_ofNat_of_zero_le h0
  obtain ⟨m, rfl⟩ := Int.eq_ofNat_of_zero_le hz0
  have e := or_add_nat 52 (m / 4503599627370496) n (by omega) (by omega)
  have e2 : 2 ^ 52 * (m / 4503599627370496) = m := by omega
  rw [e2] at e
  refine Eq.trans e ?_
  omega

theorem xor_nat (a b : Nat) (ha : a < 18446744073709551616) (hb : b < 18446744073709551616) : bits .xor .u64 (a : Int) (b : Int) = ((a ^^^ b : Nat) : Int) := by
  have hx : a ^^^ b < 2 ^ 64 := Nat.xor_lt_two_pow (by omega) (by omega)
  have h1 : (BitVec.ofInt 64 (a : Int)).toNat = a := by
    rw [BitVec.ofInt_natCast, BitVec.toNat_ofNat]; exact Nat.mod_eq_of_lt (by omega)
  have h2 : (BitVec.ofInt 64 (b : Int)).toNat = b := by
    rw [BitVec.ofInt_natCast, BitVec.toNat_ofNat]; exact Nat.mod_eq_of_lt (by omega)
  show IntKind.u64.wrap ((BitVec.ofInt 64 (a : Int) ^^^ BitVec.ofInt 64 (b : Int)).toNat : Int) = _
  rw [BitVec.toNat_xor, h1, h2, u64]
  omega
theorem andNot_nat (a b : Nat) (ha : a < 18446744073709551616) (hb : b < 18446744073709551616) : bits .andNot .u64 (a : Int) (b : Int) = ((a &&& (18446744073709551615 - b) : Nat) : Int) := by
  have hx : a &&& (18446744073709551615 - b) < 2 ^ 64 := Nat.and_lt_two_pow _ (by omega)
  have h1 : (BitVec.ofInt 64 (a : Int)).toNat = a := by
    rw [BitVec.ofInt_natCast, BitVec.toNat_ofNat]; exact Nat.mod_eq_of_lt (by omega)
  have h2 : (BitVec.ofInt 64 (b : Int)).toNat = b := by
    rw [BitVec.ofInt_natCast, BitVec.toNat_ofNat]; exact Nat.mod_eq_of_lt (by omega)
  show IntKind.u64.wrap ((BitVec.ofInt 64 (a : Int) &&& ~~~BitVec.ofInt 64 (b : Int)).toNat : Int) = _
  rw [BitVec.toNat_and, BitVec.toNat_not, h1, h2, u64]
  have e : 2 ^ 64 - 1 - b = 18446744073709551615 - b := by omega
  rw [e]
  omega
theorem andNot_sign {x : Int} (h0 : 0 ≤ x) (h1 : x < 18446744073709551616) : bits .andNot .u64 x 9223372036854775808 = x % 9223372036854775808 := by
  obtain ⟨n, rfl⟩ := Int.eq_ofNat_of_zero_le h0
  have e := andNot_nat n 9223372036854775808 (by omega) (by omega)
  have e2 : n &&& (18446744073709551615 - 9223372036854775808) = n % 2 ^ 63 := by
    rw [show 18446744073709551615 - 9223372036854775808 = 2 ^ 63 - 1 from rfl, Nat.and_two_pow_sub_one_eq_mod]
  rw [e2] at e
  refine Eq.trans e ?_
  omega
theorem xor_split (n : Nat) (h : n < 9223372036854775808) : n ^^^ 9223372036854775808 = n + 9223372036854775808 := by
  have e := Nat.two_pow_add_eq_or_of_lt (i := 63) (a := 1) (b := n) (by omega)
  rw [show n + 9223372036854775808 = 2 ^ 63 * 1 + n by omega, e, Nat.mul_one]
  change n ^^^ 2 ^ 63 = 2 ^ 63 ||| n
  apply Nat.eq_of_testBit_eq
  intro i
  rw [Nat.testBit_xor, Nat.testBit_or, Nat.testBit_two_pow]
  by_cases hi : 63 = i
  · subst hi
    have : n.testBit 63 = false := Nat.testBit_lt_two_pow (by omega)
    rw [this]; rfl
  · have : decide (63 = i) = false := by simp [hi]
    rw [this, Bool.xor_false, Bool.false_or]
theorem xor_sign {x : Int} (h0 : 0 ≤ x) (h1 : x < 18446744073709551616) : bits .xor .u64 x 9223372036854775808 = if 9223372036854775808 ≤ x then x - 9223372036854775808 else x + 9223372036854775808 := by
  obtain ⟨n, rfl⟩ := Int.eq_ofNat_of_zero_le h0
  have e := xor_nat n 9223372036854775808 (by omega) (by omega)
  refine Eq.trans e ?_
  by_cases h : 9223372036854775808 ≤ n
  · rw [if_pos (by omega)]
    have e1 := xor_split (n - 9223372036854775808) (by omega)
    have e2 : n ^^^ 9223372036854775808 = n - 9223372036854775808 := by
      rw [show n = (n - 9223372036854775808) ^^^ 9223372036854775808 by rw [e1]; omega, Nat.xor_assoc, Nat.xor_self, Nat.xor_zero, e1]
      omega
    rw [e2]; omega
  · rw [if_neg (by omega), xor_split n (by omega)]; omega
/-- sign bits of a product -/
theorem xor_and_sign {x y : Int} (hx0 : 0 ≤ x) (hx1 : x < 18446744073709551616) (hy0 : 0 ≤ y) (hy1 : y < 18446744073709551616) :
    bits .and .u64 (bits .xor .u64 x y) 9223372036854775808 = if (9223372036854775808 ≤ x) = (9223372036854775808 ≤ y) then 0 else 9223372036854775808 := by
  obtain ⟨n, rfl⟩ := Int.eq_ofNat_of_zero_le hx0
  obtain ⟨m, rfl⟩ := Int.eq_ofNat_of_zero_le hy0
  have hx : n ^^^ m < 2 ^ 64 := Nat.xor_lt_two_pow (by omega) (by omega)
  rw [xor_nat n m (by omega) (by omega), and_sign (by omega) (by omega)]
  have t := testBit63 (n ^^^ m) (by omega)
  rw [Nat.testBit_xor, testBit63 n (by omega), testBit63 m (by omega)] at t
  by_cases h1 : 9223372036854775808 ≤ n <;> by_cases h2 : 9223372036854775808 ≤ m
  · rw [decide_eq_true h1, decide_eq_true h2] at t
    have := of_decide_eq_false t.symm
    rw [if_neg (by omega), if_pos (propext ⟨fun _ => by omega, fun _ => by omega⟩)]
  · rw [decide_eq_true h1, decide_eq_false h2] at t
    have := of_decide_eq_true t.symm
    rw [if_pos (by omega), if_neg (fun e => h2 (by have : (9223372036854775808 : Int) ≤ (m : Int) := e ▸ (show (9223372036854775808 : Int) ≤ (n : Int) by omega); omega))]
  · rw [decide_eq_false h1, decide_eq_true h2] at t
    have := of_decide_eq_true t.symm
    rw [if_pos (by omega), if_neg (fun e => h1 (by have : (9223372036854775808 : Int) ≤ (n : Int) := e ▸ (show (9223372036854775808 : Int) ≤ (m : Int) by omega); omega))]
  · rw [decide_eq_false h1, decide_eq_false h2] at t
    have := of_decide_eq_false t.symm
    rw [if_neg (by omega), if_pos (propext ⟨fun _ => by omega, fun _ => by omega⟩)]

theorem shl_u64 {x n : Int} (hn0 : 0 ≤ n) (hn : n ≤ 64) : shl .u64 x n = (x * (2 ^ n.toNat : Nat)) % 18446744073709551616 := by
  unfold shl
  rw [Nat.min_eq_left (show n.toNat ≤ IntKind.u64.bits from by show n.toNat ≤ 64; omega), u64]
  rw [Int.natCast_pow]; rfl
theorem shl_far {x n : Int} (hn : 64 ≤ n) : shl .u64 x n = 0 := by
  unfold shl
  rw [Nat.min_eq_right (show IntKind.u64.bits ≤ n.toNat from by show 64 ≤ n.toNat; omega), u64]
  show x * 2 ^ 64 % 18446744073709551616 = 0
  omega
theorem shr_u64 {x n : Int} (hn0 : 0 ≤ n) (hn : n ≤ 64) : shr .u64 x n = x / (2 ^ n.toNat : Nat) := by
  unfold shr
  rw [Nat.min_eq_left (show n.toNat ≤ IntKind.u64.bits from by show n.toNat ≤ 64; omega)]
  rw [Int.natCast_pow]; rfl
theorem shr_far {x n : Int} (h0 : 0 ≤ x) (h1 : x < 18446744073709551616) (hn : 64 ≤ n) : shr .u64 x n = 0 := by
  unfold shr
  rw [Nat.min_eq_right (show IntKind.u64.bits ≤ n.toNat from by show 64 ≤ n.toNat; omega)]
  show x / 2 ^ 64 = 0
  omega

/-- How many bits. -/
def blen (n : Nat) : Nat := if n = 0 then 0 else n.log2 + 1
theorem blen_zero : blen 0 = 0 := rfl
theorem blen_le {n k : Nat} (h : n < 2 ^ k) : blen n ≤ k := by
  unfold blen
  split
  · omega
  · rename_i h0
    have := (Nat.log2_lt h0).2 h
    omega
theorem lt_blen (n : Nat) : n < 2 ^ blen n := by
  unfold blen
  split
  · omega
  · exact Nat.lt_log2_self
theorem blen_ge {n : Nat} (h : 0 < n) : 2 ^ (blen n - 1) ≤ n := by
  unfold blen
  rw [if_neg (by omega)]
  simpa using Nat.log2_self_le (by omega)
theorem blen_pos {n : Nat} (h : 0 < n) : 0 < blen n := by unfold blen; rw [if_neg (by omega)]; omega
theorem blen_eq {n k : Nat} (h0 : 2 ^ k ≤ n) (h1 : n < 2 ^ (k + 1)) : blen n = k + 1 := by
  have a := blen_le h1
  have hp : 0 < n := Nat.lt_of_lt_of_le (Nat.two_pow_pos k) h0
  have b := lt_blen n
  have c : k < blen n := by
    have := Nat.lt_of_le_of_lt h0 b
    exact (Nat.pow_lt_pow_iff_right (by omega)).1 this
  omega
theorem blen_lt_iff {n k : Nat} : blen n ≤ k ↔ n < 2 ^ k := by
  constructor
  · intro h
    exact Nat.lt_of_lt_of_le (lt_blen n) (Nat.pow_le_pow_right (by omega) h)
  · exact blen_le
theorem blen_mul_pow {n : Nat} (h : 0 < n) (k : Nat) : blen (n * 2 ^ k) = blen n + k := by
  have h1 := lt_blen n
  have h2 := blen_ge h
  have h3 := blen_pos h
  obtain ⟨m, hm⟩ : ∃ m, blen n = m + 1 := ⟨blen n - 1, by omega⟩
  rw [hm] at h1 h2 ⊢
  simp at h2
  rw [show m + 1 + k = (m + k) + 1 by omega]
  apply blen_eq
  · rw [Nat.pow_add]; exact Nat.mul_le_mul_right _ h2
  · rw [show m + k + 1 = (m + 1) + k by omega, Nat.pow_add]
    exact Nat.mul_lt_mul_of_pos_right h1 (Nat.two_pow_pos k)
theorem blen_mono {n m : Nat} (h : n ≤ m) : blen n ≤ blen m := blen_le (Nat.lt_of_le_of_lt h (lt_blen m))
theorem bitLen_eq (n : Nat) (h : n < 18446744073709551616) : Lib.bitLen n = blen n := by
  rcases Nat.eq_zero_or_pos n with rfl | hp
  · rfl
  · have := Lib.bitLenAux_bounds 64 n (by omega) (by omega)
    unfold Lib.bitLen
    obtain ⟨m, hm⟩ : ∃ m, Lib.bitLenAux 64 n = m + 1 := ⟨Lib.bitLenAux 64 n - 1, by omega⟩
    rw [hm] at this ⊢
    simp at this
    exact (blen_eq this.1 this.2).symm
end Go.Proofs.Ytjbpchebabhoeaa.Bt
