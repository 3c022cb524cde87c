/- Rounding where nothing is lost, and where what lies far below is told by one bit. Plain numbers. -/
import Derived.Test.YtjbpchebabhoeaaXRound
set_option linter.unusedVariables false
set_option linter.unusedSimpArgs false
namespace Go.Proofs.Ytjbpchebabhoeaa.Fl
open Go.RowKit Go.Proofs.Ytjbpchebabhoeaa.P Go.Proofs.Ytjbpchebabhoeaa.X Go.Proofs.Ytjbpchebabhoeaa.Bt Go.Proofs.YtjbpchebabhoeaaW.PrintWords

/-- As a significand and an exponent are told. -/
def Can (q : Nat) (e : Int) : Prop := q < 9007199254740992 ∧ -1074 ≤ e ∧ (e = -1074 ∨ 4503599627370496 ≤ q) ∧ e ≤ 971

theorem upf_no (neg : Bool) (q : Nat) (mode : Int) : upf neg q false false mode = false := by
  unfold upf
  repeat' split
  all_goals first | rfl | simp_all
theorem fin_no (neg : Bool) (q : Nat) (e : Int) (tiny : Bool) (mode : Int) (hq : q < 9007199254740992) (he : e ≤ 971) : fin neg q e false false tiny mode = (pk neg q e, 0) := by
  unfold fin
  rw [upf_no]
  simp only [Bool.false_eq_true, if_false, or_self]
  rw [if_neg (show ¬ q = 9007199254740992 by omega), if_neg (show ¬ q = 9007199254740992 by omega), if_neg (by omega)]

theorem blen_can {q : Nat} {e : Int} (h : Can q e) : max (e + blen q - 53) (-1074) = e := by
  obtain ⟨h1, h2, h3, h4⟩ := h
  have a := blen_le (n := q) (k := 53) (by omega)
  rcases h3 with h3 | h3
  · omega
  · have : blen q = 52 + 1 := blen_eq (by omega) (by omega)
    omega

theorem R_exact (neg : Bool) {N : Nat} (hp : 0 < N) (exp : Int) {q : Nat} {e : Int} (h : Can q e) (hv : (∃ s : Nat, e = exp + s ∧ N = q * 2 ^ s) ∨ (∃ s : Nat, exp = e + s ∧ q = N * 2 ^ s)) (mode : Int) :
    R neg N exp false mode = (pk neg q e, 0) := by
  have hc := blen_can h
  unfold R
  rcases hv with ⟨s, rfl, rfl⟩ | ⟨s, rfl, rfl⟩
  · have hq : 0 < q := Nat.pos_of_ne_zero (fun h0 => by subst h0; simp at hp)
    rw [blen_mul_pow hq]
    have e1 : exp + ((blen q + s : Nat) : Int) - 53 = exp + s + blen q - 53 := by omega
    simp only [e1, hc]
    by_cases c : exp + (s : Int) ≤ exp
    · rw [if_pos c]
      obtain rfl : s = 0 := by omega
      rw [show (exp - (exp + ((0 : Nat) : Int))).toNat = 0 by omega, Nat.pow_zero, Nat.mul_one, Nat.mul_one]
      exact fin_no _ _ _ _ _ h.1 h.2.2.2
    · rw [if_neg c, show (exp + (s : Int) - exp).toNat = s by omega]
      obtain ⟨t, rfl⟩ : ∃ t, s = t + 1 := ⟨s - 1, by omega⟩
      rw [Nat.mul_div_cancel _ (Nat.two_pow_pos _), Nat.add_sub_cancel]
      have e2 : q * 2 ^ (t + 1) = q * 2 * 2 ^ t := by rw [Nat.pow_succ, Nat.mul_comm (2 ^ t), Nat.mul_assoc]
      have e3 : q * 2 ^ (t + 1) / 2 ^ t % 2 = 0 := by rw [e2, Nat.mul_div_cancel _ (Nat.two_pow_pos _)]; omega
      have e4 : q * 2 ^ (t + 1) % 2 ^ t = 0 := by rw [e2]; exact Nat.mul_mod_left _ _
      rw [e3, e4]
      exact fin_no _ _ _ _ _ h.1 h.2.2.2
  · rw [blen_mul_pow hp] at hc
    have e1 : e + (s : Int) + (blen N : Int) - 53 = e + ((blen N + s : Nat) : Int) - 53 := by omega
    simp only [e1, hc]
    rw [if_pos (by omega), show (e + (s : Int) - e).toNat = s by omega]
    exact fin_no _ _ _ _ _ h.1 h.2.2.2

theorem R_sticky (neg : Bool) {N : Nat} (hb : 55 ≤ blen N) (exp : Int) (j r : Nat) (hr : r < 2 ^ j) (mode : Int) :
    R neg N (exp + j) (decide (r ≠ 0)) mode = R neg (N * 2 ^ j + r) exp false mode := by
  have hp : 0 < N := Nat.pos_of_ne_zero (fun h0 => by subst h0; rw [blen_zero] at hb; omega)
  have hj := Nat.two_pow_pos j
  have hbl : blen (N * 2 ^ j + r) = blen N + j := by
    have h1 := blen_ge hp
    have h2 := lt_blen N
    obtain ⟨m, hm⟩ : ∃ m, blen N = m + 1 := ⟨blen N - 1, by omega⟩
    rw [hm] at h1 h2 ⊢
    rw [Nat.add_sub_cancel] at h1
    rw [show m + 1 + j = (m + j) + 1 by omega]
    apply blen_eq
    · rw [Nat.pow_add]
      exact Nat.le_trans (Nat.mul_le_mul_right _ h1) (Nat.le_add_right _ _)
    · rw [show m + j + 1 = m + 1 + j by omega, Nat.pow_add]
      have := Nat.mul_le_mul_right (2 ^ j) (show N + 1 ≤ 2 ^ (m + 1) from h2)
      rw [Nat.add_mul, Nat.one_mul] at this
      omega
  unfold R
  rw [hbl]
  have e1 : exp + (j : Int) + (blen N : Int) - 53 = exp + ((blen N + j : Nat) : Int) - 53 := by omega
  have e2 : exp + (j : Int) + (blen N : Int) - 1 = exp + ((blen N + j : Nat) : Int) - 1 := by omega
  simp only [e1, e2]
  generalize he : max (exp + ((blen N + j : Nat) : Int) - 53) (-1074) = e
  have h0 : exp + j + 2 ≤ e := by omega
  rw [if_neg (by omega), if_neg (by omega)]
  obtain ⟨s, hs⟩ : ∃ s : Nat, e - (exp + j) = ((s + 1 : Nat) : Int) := ⟨(e - (exp + j)).toNat - 1, by omega⟩
  have hs2 : e - exp = ((s + j + 1 : Nat) : Int) := by omega
  rw [hs, hs2, Int.toNat_natCast, Int.toNat_natCast, Nat.add_sub_cancel, Nat.add_sub_cancel]
  have d1 : ∀ t : Nat, (N * 2 ^ j + r) / 2 ^ (t + j) = N / 2 ^ t := by
    intro t
    rw [Nat.add_comm t j, Nat.pow_add, ← Nat.div_div_eq_div_mul, Nat.add_comm, Nat.add_mul_div_right _ _ hj, Nat.div_eq_of_lt hr, Nat.zero_add]
  rw [show s + j + 1 = (s + 1) + j by omega, d1, d1]
  have m1 : (N * 2 ^ j + r) % 2 ^ (s + j) = N % 2 ^ s * 2 ^ j + r := by
    have h := Nat.div_add_mod N (2 ^ s)
    have e3 : N * 2 ^ j + r = 2 ^ (s + j) * (N / 2 ^ s) + (N % 2 ^ s * 2 ^ j + r) := by
      conv => lhs; rw [← h]
      rw [Nat.add_mul, Nat.pow_add, Nat.mul_right_comm, Nat.add_assoc]
    rw [e3, Nat.mul_add_mod]
    apply Nat.mod_eq_of_lt
    have h2 : N % 2 ^ s < 2 ^ s := Nat.mod_lt _ (Nat.two_pow_pos s)
    have h3 := Nat.mul_le_mul_right (2 ^ j) (show N % 2 ^ s + 1 ≤ 2 ^ s from h2)
    rw [Nat.add_mul, Nat.one_mul, ← Nat.pow_add] at h3
    omega
  rw [m1]
  have b1 : (decide (N % 2 ^ s ≠ 0) || decide (r ≠ 0)) = (decide (N % 2 ^ s * 2 ^ j + r ≠ 0) || false) := by
    rw [Bool.or_false]
    by_cases h1 : N % 2 ^ s = 0
    · rw [h1, Nat.zero_mul, Nat.zero_add, decide_eq_false (fun h => h rfl), Bool.false_or]
    · have : N % 2 ^ s * 2 ^ j ≠ 0 := Nat.mul_ne_zero h1 (by omega)
      rw [decide_eq_true h1, Bool.true_or, decide_eq_true (by omega)]
  rw [b1]

/-! ### words -/
def Finite (a : Int) : Prop := Word a ∧ a / 4503599627370496 % 2048 ≠ 2047
theorem sig_lt {a : Int} (h : Finite a) : sig a < 9007199254740992 := by
  obtain ⟨⟨h0, h1⟩, h2⟩ := h
  unfold sig
  split <;> omega
theorem can_word {a : Int} (h : Finite a) : Can (sig a) (xpo a) := by
  have hs := sig_lt h
  obtain ⟨⟨h0, h1⟩, h2⟩ := h
  refine ⟨hs, ?_⟩
  unfold sig xpo
  split
  · exact ⟨by omega, .inl rfl, by omega⟩
  · exact ⟨by omega, .inr (by omega), by omega⟩
theorem pk_word {a : Int} (h : Finite a) : pk (sgn a) (sig a) (xpo a) = a := by
  obtain ⟨⟨h0, h1⟩, h2⟩ := h
  unfold pk sgn sgv sig xpo
  have hs : (if decide (9223372036854775808 ≤ a) = true then (9223372036854775808 : Int) else 0) = a - a % 9223372036854775808 := by
    by_cases s : 9223372036854775808 ≤ a
    · rw [if_pos (decide_eq_true s)]; omega
    · rw [if_neg (by rw [decide_eq_false s]; decide)]; omega
  rw [hs]
  by_cases e : a / 4503599627370496 % 2048 = 0
  · rw [if_pos e, if_pos e, if_pos (by omega)]
    omega
  · rw [if_neg e, if_neg e, if_neg (by omega)]
    omega
/-- Which one is greater, without its sign. -/
theorem mag_lt {a b : Int} (ha : Finite a) (hb : Finite b) : a % 9223372036854775808 < b % 9223372036854775808 ↔ (xpo a < xpo b ∨ (xpo a = xpo b ∧ sig a < sig b)) := by
  obtain ⟨⟨a0, a1⟩, a2⟩ := ha
  obtain ⟨⟨b0, b1⟩, b2⟩ := hb
  unfold sig xpo
  split <;> split <;> omega
theorem mag_eq {a b : Int} (ha : Finite a) (hb : Finite b) : a % 9223372036854775808 = b % 9223372036854775808 ↔ (xpo a = xpo b ∧ sig a = sig b) := by
  obtain ⟨⟨a0, a1⟩, a2⟩ := ha
  obtain ⟨⟨b0, b1⟩, b2⟩ := hb
  unfold sig xpo
  split <;> split <;> omega
theorem sig_zero {a : Int} (ha : Finite a) : sig a = 0 ↔ a % 9223372036854775808 = 0 := by
  obtain ⟨⟨a0, a1⟩, a2⟩ := ha
  unfold sig
  split <;> omega
theorem cls_fin {a : Int} (ha : Finite a) : cls a = 0 ∨ cls a = 1 := by
  unfold cls
  rw [if_neg ha.2]
  split
  · split
    · exact .inl rfl
    · exact .inr rfl
  · exact .inr rfl
end Go.Proofs.Ytjbpchebabhoeaa.Fl
