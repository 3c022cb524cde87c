/- Sums of two numbers of one exponent and few bits are exact: no flags, and taken away again they are gone. For all significands, exponents from 100 to 1899, and signs. -/
import Derived.Test.YtjbpchebabhoeaaXAdd
import Derived.Test.YtjbpchebabhoeaaPqvernierlaw07FaddExact
set_option linter.unusedVariables false
namespace Go.Proofs.Ytjbpchebabhoeaa.Fl
open Go.RowKit Go.Proofs.Ytjbpchebabhoeaa.P Go.Proofs.Ytjbpchebabhoeaa.X Go.Proofs.Ytjbpchebabhoeaa.Bt Go.Proofs.YtjbpchebabhoeaaW.PrintWords

/-- A word of a significand and an exponent. -/
theorem word_pk (s : Bool) {q : Nat} {e : Int} (h : Can q e) : Finite (pk s q e) ∧ sgn (pk s q e) = s ∧ sig (pk s q e) = q ∧ xpo (pk s q e) = e := by
  obtain ⟨h1, h2, h3, h4⟩ := h
  unfold pk
  have hs := sgv_or s
  have hs2 : (sgv s = 0 ∧ s = false) ∨ (sgv s = 9223372036854775808 ∧ s = true) := by cases s <;> simp [sgv]
  by_cases c : q < 4503599627370496
  · rw [if_pos c]
    obtain rfl : e = -1074 := by omega
    unfold Finite Word sgn sig xpo
    rcases hs2 with ⟨hs, rfl⟩ | ⟨hs, rfl⟩ <;> rw [hs]
    · refine ⟨⟨by omega, by omega⟩, decide_eq_false (by omega), ?_, ?_⟩ <;> split <;> omega
    · refine ⟨⟨by omega, by omega⟩, decide_eq_true (by omega), ?_, ?_⟩ <;> split <;> omega
  · rw [if_neg c]
    unfold Finite Word sgn sig xpo
    rcases hs2 with ⟨hs, rfl⟩ | ⟨hs, rfl⟩ <;> rw [hs]
    · refine ⟨⟨by omega, by omega⟩, decide_eq_false (by omega), ?_, ?_⟩ <;> split <;> omega
    · refine ⟨⟨by omega, by omega⟩, decide_eq_true (by omega), ?_, ?_⟩ <;> split <;> omega

/-- There is a word of any natural of at most 53 bits, times a power of two that is not too small or too great. -/
theorem exists_word (s : Bool) {N : Nat} (hN : 0 < N) (hb : blen N ≤ 53) (t : Nat) (ht : t + blen N ≤ 2098) : ∃ c, Finite c ∧ sgn c = s ∧ sig c * 2 ^ (xpo c + 1074).toNat = N * 2 ^ t ∧ 0 < sig c := by
  have hl := lt_blen N
  have hg := blen_ge hN
  have hp := blen_pos hN
  obtain ⟨u, hu⟩ : ∃ u, u = min (53 - blen N) t := ⟨_, rfl⟩
  have hq : N * 2 ^ u < 2 ^ 53 := by
    have h1 := mul_pow_lt (b := u) hl
    have h2 : 2 ^ (blen N + u) ≤ 2 ^ 53 := Nat.pow_le_pow_right (by omega) (by omega)
    omega
  have hc : Can (N * 2 ^ u) ((t : Int) - 1074 - u) := by
    refine ⟨by omega, by omega, ?_, by omega⟩
    by_cases h : t ≤ 53 - blen N
    · exact .inl (by omega)
    · right
      have h1 := Nat.mul_le_mul_right (2 ^ u) hg
      rw [← Nat.pow_add, show blen N - 1 + u = 52 by omega] at h1
      omega
  obtain ⟨w1, w2, w3, w4⟩ := word_pk s hc
  refine ⟨_, w1, w2, ?_, ?_⟩
  · rw [w3, w4, Nat.mul_assoc, ← Nat.pow_add]
    congr 2
    omega
  · rw [w3]; exact Nat.mul_pos hN (Nat.two_pow_pos u)

theorem vv_zero : Finite 0 ∧ vv 0 = 0 := by
  refine ⟨⟨⟨by omega, by omega⟩, by omega⟩, ?_⟩
  unfold vv sig
  simp
theorem vv_flip {b : Int} (hb : Finite b) : vv (bits .xor .u64 b 9223372036854775808) = - vv b := by
  obtain ⟨_, h1, h2, h3⟩ := finite_flip hb
  unfold vv
  rw [h1, h2, h3]
  cases sgn b <;> simp

/-- The law's two calls, of numbers of one exponent and few bits. -/
theorem exact_two {x : Nat} (hx0 : 100 ≤ x) (hx1 : x < 1900) {m c : Nat} (hm : m < 4294967296) (hc : c < 4294967296) {a b : Int} (ha : Finite a) (hb : Finite b)
    (sa : sig a = 4503599627370496 + m * 524288) (xa : xpo a = (x : Int) - 1075) (sb : sig b = 4503599627370496 + c * 524288) (xb : xpo b = (x : Int) - 1075) :
    ∃ s, addspec a b 0 = (s, 0) ∧ Finite s ∧ addspec s (bits .xor .u64 b 9223372036854775808) 0 = (a, 0) := by
  have hpos : 0 < sig a := by omega
  have va : vv a = (if sgn a = true then -1 else 1) * (((4503599627370496 + m * 524288) * 2 ^ (x - 1) : Nat) : Int) := by
    unfold vv; rw [sa, xa, show ((x : Int) - 1075 + 1074).toNat = x - 1 by omega]
  have vb : vv b = (if sgn b = true then -1 else 1) * (((4503599627370496 + c * 524288) * 2 ^ (x - 1) : Nat) : Int) := by
    unfold vv; rw [sb, xb, show ((x : Int) - 1075 + 1074).toNat = x - 1 by omega]
  have back : ∀ s, Finite s → vv s = vv a + vv b → addspec s (bits .xor .u64 b 9223372036854775808) 0 = (a, 0) := by
    intro s hs hv
    exact add_exact hs (finite_flip hb).1 ha (by rw [vv_flip hb, hv]; omega) hpos 0
  -- a word of a natural times the power
  have one : ∀ (g : Bool) (N t : Nat), 0 < N → blen N ≤ 53 → t + blen N ≤ 2098 → vv a + vv b = (if g = true then -1 else 1) * ((N * 2 ^ t : Nat) : Int) → ∃ s, addspec a b 0 = (s, 0) ∧ Finite s ∧ addspec s (bits .xor .u64 b 9223372036854775808) 0 = (a, 0) := by
    intro g N t hN hbl htl hv
    obtain ⟨s, h1, h2, h3, h4⟩ := exists_word g hN hbl t htl
    have hs : vv a + vv b = vv s := by unfold vv at hv ⊢; rw [hv, h2, h3]
    exact ⟨s, add_exact ha hb h1 hs h4 0, h1, back s h1 hs.symm⟩
  have zero : vv a + vv b = 0 → sgn a ≠ sgn b → sig a = sig b → ∃ s, addspec a b 0 = (s, 0) ∧ Finite s ∧ addspec s (bits .xor .u64 b 9223372036854775808) 0 = (a, 0) := by
    intro hv hg hsig
    refine ⟨0, ?_, vv_zero.1, back 0 vv_zero.1 (by rw [vv_zero.2, hv])⟩
    unfold addspec sumR
    rw [xa, xb, if_neg hg, hsig, if_pos rfl]
    rfl
  obtain ⟨y, rfl⟩ : ∃ y, x = y + 1 := ⟨x - 1, by omega⟩
  rw [Nat.add_sub_cancel] at va vb
  have bl : ∀ N, N < 9007199254740992 → blen N ≤ 53 := fun N h => blen_le h
  have sum2 : ∀ g : Bool, vv a = (if g = true then -1 else 1) * (((4503599627370496 + m * 524288) * 2 ^ y : Nat) : Int) → vv b = (if g = true then -1 else 1) * (((4503599627370496 + c * 524288) * 2 ^ y : Nat) : Int) → ∃ s, addspec a b 0 = (s, 0) ∧ Finite s ∧ addspec s (bits .xor .u64 b 9223372036854775808) 0 = (a, 0) := by
    intro g h1 h2
    refine one g (4503599627370496 + (m + c) * 262144) (y + 1) (by omega) (bl _ (by omega)) (by have := bl (4503599627370496 + (m + c) * 262144) (by omega); omega) ?_
    have e : (4503599627370496 + (m + c) * 262144) * 2 ^ (y + 1) = (4503599627370496 + m * 524288) * 2 ^ y + (4503599627370496 + c * 524288) * 2 ^ y := by
      rw [Nat.pow_succ, Nat.mul_comm (2 ^ y), ← Nat.mul_assoc, ← Nat.add_mul]; congr 1; omega
    rw [h1, h2, e]
    cases g <;> simp <;> omega
  have dif2 : ∀ g : Bool, vv a = (if g = true then -1 else 1) * (((4503599627370496 + m * 524288) * 2 ^ y : Nat) : Int) → vv b = (if g = true then 1 else -1) * (((4503599627370496 + c * 524288) * 2 ^ y : Nat) : Int) → sgn a ≠ sgn b → ∃ s, addspec a b 0 = (s, 0) ∧ Finite s ∧ addspec s (bits .xor .u64 b 9223372036854775808) 0 = (a, 0) := by
    intro g h1 h2 hg
    rcases Nat.lt_trichotomy m c with h | h | h
    · refine one (!g) ((c - m) * 524288) y (by omega) (bl _ (by omega)) (by have := bl ((c - m) * 524288) (by omega); omega) ?_
      have e : (4503599627370496 + c * 524288) * 2 ^ y = (c - m) * 524288 * 2 ^ y + (4503599627370496 + m * 524288) * 2 ^ y := by
        rw [← Nat.add_mul]; congr 1; omega
      rw [h1, h2, e]
      cases g <;> simp <;> omega
    · subst h
      refine zero ?_ hg (by omega)
      rw [h1, h2]
      cases g <;> simp <;> omega
    · refine one g ((m - c) * 524288) y (by omega) (bl _ (by omega)) (by have := bl ((m - c) * 524288) (by omega); omega) ?_
      have e : (4503599627370496 + m * 524288) * 2 ^ y = (m - c) * 524288 * 2 ^ y + (4503599627370496 + c * 524288) * 2 ^ y := by
        rw [← Nat.add_mul]; congr 1; omega
      rw [h1, h2, e]
      cases g <;> simp <;> omega
  cases hsa : sgn a <;> cases hsb : sgn b <;> rw [hsa] at va <;> rw [hsb] at vb
  · exact sum2 false va vb
  · exact dif2 false va vb (by rw [hsa, hsb]; decide)
  · exact dif2 true va vb (by rw [hsa, hsb]; decide)
  · exact sum2 true va vb

theorem alive_f {k : Nat} (hk : 270 ≤ k) : vernierlaw07_alive.f k = some true := by
  unfold vernierlaw07_alive.f
  have h1 : Finite 4607182418800017408 := ⟨⟨by omega, by omega⟩, by omega⟩
  have h2 : Finite 4611686018427387904 := ⟨⟨by omega, by omega⟩, by omega⟩
  rw [Add_f h1 h1 0 (by omega), add_exact h1 h1 h2 (by decide +kernel) (by decide +kernel) 0]
  rfl
end Go.Proofs.Ytjbpchebabhoeaa.Fl
namespace Go.Proofs.Ytjbpchebabhoeaa.Pure
open Go.RowKit Go.Proofs.Ytjbpchebabhoeaa.P Go.Proofs.Ytjbpchebabhoeaa.Fl Go.Proofs.Ytjbpchebabhoeaa.Bt Go.Proofs.YtjbpchebabhoeaaW.PrintWords

theorem FaddExact : vernierlaw07_FaddExact.Pure := by
  intro a0 a1 a2 a3 a4 h0 h1 h2
  have b0 : 0 ≤ a0 ∧ a0 ≤ 4294967295 := by simpa [Lit.wf, IntKind.min, IntKind.max, IntKind.signed, IntKind.bits] using h0
  have b1 : 0 ≤ a1 ∧ a1 ≤ 4294967295 := by simpa [Lit.wf, IntKind.min, IntKind.max, IntKind.signed, IntKind.bits] using h1
  have b2 : 0 ≤ a2 ∧ a2 ≤ 65535 := by simpa [Lit.wf, IntKind.min, IntKind.max, IntKind.signed, IntKind.bits] using h2
  refine ⟨300, ?_⟩
  unfold vernierlaw07_FaddExact.f
  rw [alive_f (by omega)]
  simp only [Option.bind_some]
  rw [if_true]
  have ht : Int.tmod (IntKind.u64.wrap a2) 1800 = a2 % 1800 := by
    rw [u64_in (by omega) (by omega)]; exact Int.tmod_eq_emod_of_nonneg (by omega)
  rw [ht, u64_in (x := 100 + a2 % 1800) (by omega) (by omega), u64_in (x := (100 + a2 % 1800) * 4503599627370496) (by omega) (by omega), u64_in (x := a0) (by omega) (by omega), u64_in (x := a1) (by omega) (by omega), u64_in (x := a0 * 524288) (by omega) (by omega), u64_in (x := a1 * 524288) (by omega) (by omega)]
  rw [u64_in (x := (100 + a2 % 1800) * 4503599627370496 + a0 * 524288) (by omega) (by omega), u64_in (x := (100 + a2 % 1800) * 4503599627370496 + a1 * 524288) (by omega) (by omega)]
  obtain ⟨x, hx⟩ : ∃ x : Nat, (x : Int) = 100 + a2 % 1800 := ⟨(100 + a2 % 1800).toNat, by omega⟩
  obtain ⟨m, rfl⟩ := Int.eq_ofNat_of_zero_le b0.1
  obtain ⟨c, rfl⟩ := Int.eq_ofNat_of_zero_le b1.1
  rw [← hx]
  have wm := u64_in (x := (x : Int) * 4503599627370496 + m * 524288 + 9223372036854775808) (by omega) (by omega)
  have wc := u64_in (x := (x : Int) * 4503599627370496 + c * 524288 + 9223372036854775808) (by omega) (by omega)
  have two : ∀ (g : Nat) (a b : Int), Finite a → Finite b → sig a = 4503599627370496 + m * 524288 → xpo a = (x : Int) - 1075 → sig b = 4503599627370496 + c * 524288 → xpo b = (x : Int) - 1075 →
      ((fadd_Add.f 299 a b 0).bind fun bt426 => ((fadd_Sub.f 299 bt426.1 b 0).bind fun bt428 => (if bt426.2 = 0 then (if bt428.2 = 0 then (some (bt428.1 == a)) else (some false)) else (some false)))) = some true := by
    intro g a b ha hb h1 h2 h3 h4
    obtain ⟨s, e1, e2, e3⟩ := exact_two (x := x) (by omega) (by omega) (m := m) (c := c) (by omega) (by omega) ha hb h1 h2 h3 h4
    rw [Add_f ha hb 0 (by omega), e1]
    simp only [Option.bind_some]
    rw [Sub_f e2 hb 0 (by omega), e3]
    simp
  have plain : ∀ n : Nat, n < 4294967296 → Finite ((x : Int) * 4503599627370496 + n * 524288) ∧ sig ((x : Int) * 4503599627370496 + n * 524288) = 4503599627370496 + n * 524288 ∧ xpo ((x : Int) * 4503599627370496 + n * 524288) = (x : Int) - 1075 := by
    intro n hn
    refine ⟨⟨⟨by omega, by omega⟩, by omega⟩, ?_, ?_⟩
    · unfold sig; rw [if_neg (by omega)]; omega
    · unfold xpo; rw [if_neg (by omega)]; omega
  have minus : ∀ n : Nat, n < 4294967296 → Finite ((x : Int) * 4503599627370496 + n * 524288 + 9223372036854775808) ∧ sig ((x : Int) * 4503599627370496 + n * 524288 + 9223372036854775808) = 4503599627370496 + n * 524288 ∧ xpo ((x : Int) * 4503599627370496 + n * 524288 + 9223372036854775808) = (x : Int) - 1075 := by
    intro n hn
    refine ⟨⟨⟨by omega, by omega⟩, by omega⟩, ?_, ?_⟩
    · unfold sig; rw [if_neg (by omega)]; omega
    · unfold xpo; rw [if_neg (by omega)]; omega
  have hm : m < 4294967296 := by omega
  have hc : c < 4294967296 := by omega
  obtain ⟨m1, m2, m3⟩ := plain m hm
  obtain ⟨n1, n2, n3⟩ := minus m hm
  obtain ⟨c1, c2, c3⟩ := plain c hc
  obtain ⟨d1, d2, d3⟩ := minus c hc
  cases a3 <;> cases a4
  · rw [if_neg (by decide)]
    simp only [vernierlaw07_FaddExact.j0]
    rw [if_neg (by decide)]
    exact two 0 _ _ m1 c1 m2 m3 c2 c3
  · rw [if_neg (by decide)]
    simp only [vernierlaw07_FaddExact.j0]
    rw [if_true, wc]
    exact two 0 _ _ m1 d1 m2 m3 d2 d3
  · rw [if_pos rfl, wm]
    simp only [vernierlaw07_FaddExact.j0]
    rw [if_neg (by decide)]
    exact two 0 _ _ n1 c1 n2 n3 c2 c3
  · rw [if_pos rfl, wm]
    simp only [vernierlaw07_FaddExact.j0]
    rw [if_true, wc]
    exact two 0 _ _ n1 d1 n2 n3 d2 d3
end Go.Proofs.Ytjbpchebabhoeaa.Pure
