/- Sums of finite numbers: what fadd.Add answers is the exact sum, rounded. Plain numbers. -/
import Derived.Test.YtjbpchebabhoeaaXExact
import Derived.Test.YtjbpchebabhoeaaPqfaddAdd
set_option linter.unusedVariables false
set_option linter.unusedSimpArgs false
namespace Go.Proofs.Ytjbpchebabhoeaa.Fl
open Go.RowKit Go.Proofs.Ytjbpchebabhoeaa.P Go.Proofs.Ytjbpchebabhoeaa.X Go.Proofs.Ytjbpchebabhoeaa.Bt Go.Proofs.YtjbpchebabhoeaaW.PrintWords

def sumR (na : Bool) (A : Nat) (nb : Bool) (B : Nat) (E mode : Int) : Int × Int :=
  if na = nb then (if A + B = 0 then (sgv na, 0) else R na (A + B) E false mode)
  else if A = B then (sgv (decide (mode = 4)), 0) else if A < B then R nb (B - A) E false mode else R na (A - B) E false mode
theorem sumR_comm (na : Bool) (A : Nat) (nb : Bool) (B : Nat) (E mode : Int) : sumR na A nb B E mode = sumR nb B na A E mode := by
  unfold sumR
  by_cases h : na = nb
  · subst h
    rw [if_pos rfl, if_pos rfl, Nat.add_comm]
  · rw [if_neg h, if_neg (Ne.symm h)]
    by_cases e : A = B
    · rw [if_pos e, if_pos e.symm]
    · rw [if_neg e, if_neg (Ne.symm e)]
      by_cases l : A < B
      · rw [if_pos l, if_neg (by omega)]
      · rw [if_neg l, if_pos (by omega)]

/-- The exact sum of two finite numbers, rounded. -/
def addspec (a b mode : Int) : Int × Int :=
  sumR (sgn a) (sig a * 2 ^ (xpo a - min (xpo a) (xpo b)).toNat) (sgn b) (sig b * 2 ^ (xpo b - min (xpo a) (xpo b)).toNat) (min (xpo a) (xpo b)) mode
theorem addspec_comm (a b mode : Int) : addspec a b mode = addspec b a mode := by
  unfold addspec
  rw [sumR_comm, show min (xpo a) (xpo b) = min (xpo b) (xpo a) by omega]

theorem lift_f {m n : Nat} (hm : m < 9007199254740992) (hn : n ≤ 62) : fadd_lift.f m n = some (((m * 2 ^ n / 18446744073709551616 : Nat) : Int), ((m * 2 ^ n % 18446744073709551616 : Nat) : Int)) := by
  unfold fadd_lift.f
  by_cases h : (n : Int) = 0
  · rw [if_pos h]
    obtain rfl : n = 0 := by omega
    rw [Nat.pow_zero, Nat.mul_one, Nat.div_eq_of_lt (by omega), Nat.mod_eq_of_lt (by omega)]
    rfl
  · rw [if_neg h, w64 (by omega) (by omega), if_pos (by omega), if_pos (by omega), shr_u64 (by omega) (by omega), shl_u64 (by omega) (by omega)]
    obtain ⟨t, ht⟩ : ∃ t, n + t = 64 := ⟨64 - n, by omega⟩
    rw [show ((64 : Int) - n).toNat = t by omega, show ((n : Int)).toNat = n by omega]
    have e0 : 2 ^ n * 2 ^ t = 18446744073709551616 := by rw [← Nat.pow_add, ht]
    have e1 : m * 2 ^ n / 18446744073709551616 = m / 2 ^ t := by
      rw [← e0, Nat.mul_comm m, Nat.mul_div_mul_left _ _ (Nat.two_pow_pos n)]
    have e2 : (((m * 2 ^ n : Nat) : Int) % 18446744073709551616) = ((m * 2 ^ n % 18446744073709551616 : Nat) : Int) := by omega
    rw [e1, Int.natCast_ediv, ← Int.natCast_mul, e2]

theorem join_plus {T hi lo s : Nat} (hT : T = hi * 18446744073709551616 + lo + s) (hl : lo < 18446744073709551616) (hs : s < 18446744073709551616) (hb : T < 18446744073709551616 * 18446744073709551616) (more : Bool) :
    fadd_join.f hi lo s false more = some (((T / 18446744073709551616 : Nat) : Int), ((T % 18446744073709551616 : Nat) : Int)) := by
  unfold fadd_join.f bits_Add64.f
  rw [if_neg (by decide), if_pos (by omega)]
  simp only [Option.bind_some]
  rw [u64]
  congr 2 <;> omega
theorem join_minus {T hi lo s : Nat} (more : Bool) (hT : T + s + (if more = true then 1 else 0) = hi * 18446744073709551616 + lo) (hh : hi < 18446744073709551616) (hl : lo < 18446744073709551616) (hs : s < 18446744073709551616) :
    fadd_join.f hi lo s true more = some (((T / 18446744073709551616 : Nat) : Int), ((T % 18446744073709551616 : Nat) : Int)) := by
  unfold fadd_join.f bits_Sub64.f
  rw [if_pos rfl]
  cases more with
  | true =>
    rw [if_pos rfl, if_pos (by omega)]
    simp only [Option.bind_some]
    rw [if_pos rfl] at hT
    rw [u64]
    split <;> congr 2 <;> omega
  | false =>
    rw [if_neg (by decide), if_pos (by omega)]
    simp only [Option.bind_some]
    rw [if_neg (by decide)] at hT
    rw [u64]
    split <;> congr 2 <;> omega

theorem words_ (T : Nat) : T = T / 18446744073709551616 * 18446744073709551616 + T % 18446744073709551616 := by omega

theorem Round_T {T : Nat} (hp : 0 < T) (hT : T < 83076749736557242056487941267521536) (neg : Bool) (exp : Int) (h0 : -16384 ≤ exp) (h1 : exp ≤ 16384) (more : Bool) (hm : more = true → 55 ≤ blen T) (mode : Int) {k : Nat} (hk : 220 ≤ k) :
    ((parts_Round.f k neg ((T / 18446744073709551616 : Nat) : Int) ((T % 18446744073709551616 : Nat) : Int) exp more mode).bind fun bt => (some (bt.1, bt.2))) = some (R neg T exp more mode) := by
  rw [Round_f (words_ T) (by omega) (by omega) hp neg exp more mode hk, clamp_in h0 h1]
  cases more with
  | false => rfl
  | true => rw [decide_eq_true (hm rfl)]; rfl

/-- The sum, the first one no less; and not the same with the other sign. -/
theorem sum_f {a b : Int} (ha : Finite a) (hb : Finite b) (hm : 0 < sig a) (hle : xpo b < xpo a ∨ (xpo a = xpo b ∧ sig b ≤ sig a)) (hne : sgn a ≠ sgn b → ¬ (xpo a = xpo b ∧ sig a = sig b)) (mode : Int) {k : Nat} (hk : 250 ≤ k) :
    fadd_sum.f k a b mode = some (sumR (sgn a) (sig a * 2 ^ (xpo a - xpo b).toNat) (sgn b) (sig b) (xpo b) mode) := by
  have ca := can_word ha
  have cb := can_word hb
  obtain ⟨ca1, ca2, ca3, ca4⟩ := ca
  obtain ⟨cb1, cb2, cb3, cb4⟩ := cb
  unfold fadd_sum.f
  rw [Split_f ha.1 ha.2, Split_f hb.1 hb.2]
  simp only [Option.bind_some]
  obtain ⟨d, hd⟩ : ∃ d : Nat, xpo a - xpo b = d := ⟨(xpo a - xpo b).toNat, by omega⟩
  rw [hd, Int.toNat_natCast, w64 (x := (d : Int)) (by omega) (by omega)]
  have hd2 : d ≤ 2045 := by omega
  generalize sig a = m at *
  generalize sig b = c at *
  generalize hx : xpo a = x at *
  generalize hy : xpo b = y at *
  generalize sgn a = na at *
  generalize sgn b = nb at *
  have hAB : c ≤ m * 2 ^ d := by
    rcases Nat.eq_zero_or_pos d with h0 | h0
    · subst h0; rw [Nat.pow_zero, Nat.mul_one]; omega
    · have h1 : 2 ^ 1 ≤ 2 ^ d := Nat.pow_le_pow_right (by omega) h0
      have h2 : m * 2 ^ 1 ≤ m * 2 ^ d := Nat.mul_le_mul_left _ h1
      omega
  have hAB2 : na ≠ nb → c < m * 2 ^ d := by
    intro h
    have h0 := hne h
    rcases Nat.eq_zero_or_pos d with h1 | h1
    · subst h1; rw [Nat.pow_zero, Nat.mul_one]; omega
    · have h2 : 2 ^ 1 ≤ 2 ^ d := Nat.pow_le_pow_right (by omega) h1
      have h3 : m * 2 ^ 1 ≤ m * 2 ^ d := Nat.mul_le_mul_left _ h2
      omega
  have hpos : 0 < m * 2 ^ d := Nat.mul_pos hm (Nat.two_pow_pos d)
  have goal1 : na = nb → sumR na (m * 2 ^ d) nb c y mode = R na (m * 2 ^ d + c) y false mode := by
    intro h; unfold sumR; rw [if_pos h, if_neg (by omega)]
  have goal2 : na ≠ nb → sumR na (m * 2 ^ d) nb c y mode = R na (m * 2 ^ d - c) y false mode := by
    intro h; unfold sumR; have := hAB2 h; rw [if_neg h, if_neg (by omega), if_neg (by omega)]
  by_cases near : (d : Int) ≤ 60
  · rw [if_pos near, lift_f ca1 (by omega)]
    simp only [Option.bind_some]
    have hA : m * 2 ^ d < 2 ^ 53 * 2 ^ 60 := Nat.mul_lt_mul_of_lt_of_le ca1 (Nat.pow_le_pow_right (by omega) (by omega)) (Nat.two_pow_pos 60)
    have hw := words_ (m * 2 ^ d)
    by_cases h : na = nb
    · have hs : (!(na == nb)) = false := by rw [h]; cases nb <;> rfl
      rw [hs, join_plus (T := m * 2 ^ d + c) (by omega) (by omega) (by omega) (by omega)]
      simp only [Option.bind_some]
      rw [Round_T (by omega) (by omega) na y (by omega) (by omega) false (by simp) mode (by omega), goal1 h]
    · have hs : (!(na == nb)) = true := by cases na <;> cases nb <;> simp at h ⊢
      have hlt := hAB2 h
      rw [hs, join_minus (T := m * 2 ^ d - c) false (by rw [if_neg (by decide)]; omega) (by omega) (by omega) (by omega)]
      simp only [Option.bind_some]
      rw [Round_T (by omega) (by omega) na y (by omega) (by omega) false (by simp) mode (by omega), goal2 h]
  · have hlf : fadd_lift.f (m : Int) 62 = some (((m * 2 ^ 62 / 18446744073709551616 : Nat) : Int), ((m * 2 ^ 62 % 18446744073709551616 : Nat) : Int)) := lift_f ca1 (n := 62) (by omega)
    rw [if_neg near, hlf]
    simp only [Option.bind_some]
    have hbig : 4503599627370496 ≤ m := by omega
    rw [w64 (x := (d : Int) - 62) (by omega) (by omega)]
    have hw := words_ (m * 2 ^ 62)
    obtain ⟨M, hM⟩ : ∃ M, M = m * 2 ^ 62 := ⟨_, rfl⟩
    have hM1 : M < 41538374868278621028243970633760768 := by omega
    have hM0 : 20769187434139310514121985316880384 ≤ M := by omega
    rw [← hM] at hw ⊢
    by_cases s0 : mn ((d : Int) - 62) 116 ≤ 0
    · -- 61 or 62
      rw [if_pos s0]
      have hd3 : d = 61 ∨ d = 62 := by unfold mn at s0; split at s0 <;> omega
      have hmn : mn ((d : Int) - 62) 116 = (d : Int) - 62 := by unfold mn; split <;> omega
      rw [hmn, w64 (x := -((d : Int) - 62)) (by omega) (by omega), if_pos (by omega), shl_u64 (by omega) (by omega), w64 (x := x - 62) (by omega) (by omega)]
      obtain ⟨t, ht⟩ : ∃ t : Nat, d + t = 62 := ⟨62 - d, by omega⟩
      have ht1 : t = 0 ∨ t = 1 := by omega
      rw [show (-((d : Int) - 62)).toNat = t by omega]
      have e0 : (c : Int) * ((2 ^ t : Nat) : Int) % 18446744073709551616 = ((c * 2 ^ t : Nat) : Int) := by
        rcases ht1 with rfl | rfl
        · rw [Nat.pow_zero, Nat.mul_one]; omega
        · rw [Nat.pow_one]; omega
      have e2 : M = m * 2 ^ d * 2 ^ t := by rw [hM, Nat.mul_assoc, ← Nat.pow_add, ht]
      have e3 : x - 62 + (t : Int) = y := by omega
      rw [e0]
      have key : ∀ Z : Nat, 10384593717069655257060992658440192 ≤ Z * 2 ^ t → R na (Z * 2 ^ t) (x - 62) false mode = R na Z y false mode := by
        intro Z hZ
        have hst := R_sticky na (N := Z) (by
          have h2 : Z * 2 ^ t ≤ 2 * Z := by rcases ht1 with rfl | rfl <;> omega
          have : 2 ^ 54 ≤ Z := by omega
          have h3 := lt_blen Z
          have h4 := Nat.lt_of_le_of_lt this h3
          have := (Nat.pow_lt_pow_iff_right (by omega : 1 < 2)).1 h4
          omega) (x - 62) t 0 (Nat.two_pow_pos t) mode
        rw [decide_eq_false (fun h => h rfl), e3, Nat.add_zero] at hst
        exact hst.symm
      have e1 : c * 2 ^ t ≤ 2 * c := by rcases ht1 with rfl | rfl <;> omega
      obtain ⟨C, hC⟩ : ∃ C, C = c * 2 ^ t := ⟨_, rfl⟩
      rw [← hC] at e1 ⊢
      by_cases h : na = nb
      · have hs : (!(na == nb)) = false := by rw [h]; cases nb <;> rfl
        rw [hs, join_plus (T := M + C) (by omega) (by omega) (by omega) (by omega)]
        simp only [Option.bind_some]
        rw [Round_T (by omega) (by omega) na (x - 62) (by omega) (by omega) false (by simp) mode (by omega), goal1 h]
        have := key (m * 2 ^ d + c) (by rw [Nat.add_mul, ← e2, ← hC]; omega)
        rw [Nat.add_mul, ← e2, ← hC] at this
        rw [this]
      · have hs : (!(na == nb)) = true := by cases na <;> cases nb <;> simp at h ⊢
        rw [hs, join_minus (T := M - C) false (by rw [if_neg (by decide)]; omega) (by omega) (by omega) (by omega)]
        simp only [Option.bind_some]
        rw [Round_T (by omega) (by omega) na (x - 62) (by omega) (by omega) false (by simp) mode (by omega), goal2 h]
        have := key (m * 2 ^ d - c) (by rw [Nat.sub_mul, ← e2, ← hC]; omega)
        rw [Nat.sub_mul, ← e2, ← hC] at this
        rw [this]
    · -- far below
      rw [if_neg s0]
      have hd3 : 63 ≤ d := by unfold mn at s0; split at s0 <;> omega
      obtain ⟨j, hj⟩ : ∃ j : Nat, d = 62 + j := ⟨d - 62, by omega⟩
      have hj1 : 1 ≤ j := by omega
      have e2 : m * 2 ^ d = M * 2 ^ j := by rw [hM, hj, Nat.pow_add, Nat.mul_assoc]
      have e4 : x - 62 = y + (j : Int) := by omega
      have hjp := Nat.two_pow_pos j
      obtain ⟨cq, hcq⟩ : ∃ q, q = c / 2 ^ j := ⟨_, rfl⟩
      obtain ⟨cr, hcr⟩ : ∃ r, r = c % 2 ^ j := ⟨_, rfl⟩
      have hc1 : cq ≤ c := by rw [hcq]; exact Nat.div_le_self _ _
      have hc2 : cr < 2 ^ j := by rw [hcr]; exact Nat.mod_lt _ hjp
      have hc3 : cq * 2 ^ j + cr = c := by rw [hcq, hcr, Nat.mul_comm]; exact Nat.div_add_mod c (2 ^ j)
      have hbl : ∀ Z, 10384593717069655257060992658440192 ≤ Z → 55 ≤ blen Z := by
        intro Z hZ
        have : 2 ^ 54 ≤ Z := by omega
        have h4 := Nat.lt_of_le_of_lt this (lt_blen Z)
        have := (Nat.pow_lt_pow_iff_right (by omega : 1 < 2)).1 h4
        omega
      -- what both ways come to
      have main : ∀ more : Bool, more = decide (cr ≠ 0) →
          ((fadd_join.f ((M / 18446744073709551616 : Nat) : Int) ((M % 18446744073709551616 : Nat) : Int) (cq : Int) (!(na == nb)) more).bind fun bt => ((parts_Round.f k na bt.1 bt.2 (x - 62) more mode).bind fun bu => (some (bu.1, bu.2)))) = some (sumR na (m * 2 ^ d) nb c y mode) := by
        intro more hmore
        by_cases h : na = nb
        · have hs : (!(na == nb)) = false := by rw [h]; cases nb <;> rfl
          rw [hs, join_plus (T := M + cq) (by omega) (by omega) (by omega) (by omega)]
          simp only [Option.bind_some]
          have hb := hbl (M + cq) (by omega)
          rw [Round_T (by omega) (by omega) na (x - 62) (by omega) (by omega) more (fun _ => hb) mode (by omega), goal1 h]
          have hst := R_sticky na hb y j cr hc2 mode
          rw [hmore, e4, hst, Nat.add_mul, ← e2, Nat.add_assoc, hc3]
        · have hs : (!(na == nb)) = true := by cases na <;> cases nb <;> simp at h ⊢
          by_cases h0 : cr = 0
          · rw [decide_eq_false (fun h => h h0)] at hmore
            subst hmore
            rw [hs, join_minus (T := M - cq) false (by rw [if_neg (by decide)]; omega) (by omega) (by omega) (by omega)]
            simp only [Option.bind_some]
            have hb := hbl (M - cq) (by omega)
            rw [Round_T (by omega) (by omega) na (x - 62) (by omega) (by omega) false (fun _ => hb) mode (by omega), goal2 h]
            have hst := R_sticky na hb y j 0 hjp mode
            rw [decide_eq_false (fun h => h rfl)] at hst
            rw [e4, hst, Nat.add_zero, Nat.sub_mul, ← e2, show cq * 2 ^ j = c by omega]
          · rw [decide_eq_true h0] at hmore
            subst hmore
            rw [hs, join_minus (T := M - cq - 1) true (by rw [if_pos rfl]; omega) (by omega) (by omega) (by omega)]
            simp only [Option.bind_some]
            have hb := hbl (M - cq - 1) (by omega)
            rw [Round_T (by omega) (by omega) na (x - 62) (by omega) (by omega) true (fun _ => hb) mode (by omega), goal2 h]
            have hst := R_sticky na hb y j (2 ^ j - cr) (by omega) mode
            rw [decide_eq_true (show 2 ^ j - cr ≠ 0 by omega)] at hst
            rw [e4, hst, Nat.sub_mul, Nat.sub_mul, ← e2, Nat.one_mul]
            have h9 : cq * 2 ^ j + 2 ^ j ≤ m * 2 ^ d := by
              have h10 : cq + 1 ≤ M := by omega
              have h11 := Nat.mul_le_mul_right (2 ^ j) h10
              rw [← e2, Nat.add_mul, Nat.one_mul] at h11
              exact h11
            have : m * 2 ^ d - cq * 2 ^ j - 2 ^ j + (2 ^ j - cr) = m * 2 ^ d - c := by omega
            rw [this]
      by_cases s1 : mn ((d : Int) - 62) 116 < 64
      · rw [if_pos s1]
        have hmn : mn ((d : Int) - 62) 116 = (j : Int) := by unfold mn at s1 ⊢; split at s1 <;> split <;> omega
        have hj2 : j < 64 := by omega
        rw [hmn, w64 (x := (64 : Int) - j) (by omega) (by omega), if_pos (by omega), if_pos (by omega), w64 (x := x - 62) (by omega) (by omega), shr_u64 (by omega) (by omega), shl_u64 (by omega) (by omega)]
        obtain ⟨t, ht⟩ : ∃ t, j + t = 64 := ⟨64 - j, by omega⟩
        rw [show ((64 : Int) - j).toNat = t by omega, Int.toNat_natCast]
        have e5 : 2 ^ j * 2 ^ t = 18446744073709551616 := by rw [← Nat.pow_add, ht]
        have e6 : (c : Int) * ((2 ^ t : Nat) : Int) % 18446744073709551616 = ((2 ^ t * cr : Nat) : Int) := by
          have h1 : c * 2 ^ t % 18446744073709551616 = 2 ^ t * cr := by
            rw [← e5, Nat.mul_comm c, Nat.mul_comm (2 ^ j), Nat.mul_mod_mul_left, hcr]
          rw [← h1, ← Int.natCast_mul]
          omega
        have e7 : (((2 ^ t * cr : Nat) : Int) != 0) = decide (cr ≠ 0) := by
          by_cases h0 : cr = 0
          · rw [h0, Nat.mul_zero]; rfl
          · rw [decide_eq_true h0]
            have : 0 < 2 ^ t * cr := Nat.mul_pos (Nat.two_pow_pos t) (by omega)
            rw [bne_iff_ne]
            omega
        rw [e6, e7, ← Int.natCast_ediv, ← hcq]
        exact main _ rfl
      · rw [if_neg s1]
        have hj2 : 64 ≤ j := by unfold mn at s1; split at s1 <;> omega
        have hjb : 2 ^ 64 ≤ 2 ^ j := Nat.pow_le_pow_right (by omega) hj2
        have e5 : cq = 0 := by rw [hcq]; exact Nat.div_eq_of_lt (by omega)
        have e6 : cr = c := by rw [hcr]; exact Nat.mod_eq_of_lt (by omega)
        rw [w64 (x := x - 62) (by omega) (by omega)]
        have e7 : ((c : Int) != 0) = decide (cr ≠ 0) := by
          rw [e6]
          by_cases h0 : c = 0
          · subst h0; rfl
          · rw [decide_eq_true h0, bne_iff_ne]; omega
        have := main _ rfl
        rw [e5] at this
        rw [e7]
        exact this
end Go.Proofs.Ytjbpchebabhoeaa.Fl
