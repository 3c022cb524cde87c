/- A number, rounded: what parts.Round answers, in plain numbers; and where nothing is lost. -/
import Derived.Test.YtjbpchebabhoeaaXParts
set_option linter.unusedVariables false
set_option linter.unusedSimpArgs false
namespace Go.Proofs.Ytjbpchebabhoeaa.Fl
open Go.RowKit Go.Proofs.Ytjbpchebabhoeaa.P Go.Proofs.Ytjbpchebabhoeaa.X Go.Proofs.Ytjbpchebabhoeaa.Bt Go.Proofs.YtjbpchebabhoeaaW.PrintWords

def upf (neg : Bool) (q : Nat) (half rest : Bool) (mode : Int) : Bool :=
  if mode = 1 then half else if mode = 2 then false else if mode = 3 then (if neg = true then false else (if half = true then true else rest)) else if mode = 4 then (if neg = true then (if half = true then true else rest) else false)
  else (if half = true then (if rest = true then true else decide (q % 2 = 1)) else false)
theorem up_f (neg : Bool) (q : Nat) (hq : q < 18446744073709551616) (half rest : Bool) (mode : Int) : parts_up.f neg q half rest mode = some (upf neg q half rest mode) := by
  unfold parts_up.f upf
  rw [and_1 (by omega) (by omega)]
  have e : ((q : Int) % 2 == 1) = decide (q % 2 = 1) := by
    rw [Bool.eq_iff_iff, beq_iff_eq, decide_eq_true_iff]
    omega
  rw [e]
  repeat' split
  all_goals rfl

def far (neg : Bool) (mode : Int) : Bool := if mode < 2 then true else if mode > 4 then true else if mode = 3 then !neg else if mode = 4 then neg else false
def ovr (neg : Bool) (mode : Int) : Int × Int := (sgv neg + (if far neg mode = true then 9218868437227405312 else 9218868437227405311), 20)
theorem greatest_f (neg : Bool) : parts_greatest.f neg = some (sgv neg + 9218868437227405311) := by
  unfold parts_greatest.f
  rw [Inf_f]
  simp only [Option.bind_some]
  rw [u64_in (by rcases sgv_or neg with h | h <;> rw [h] <;> omega) (by rcases sgv_or neg with h | h <;> rw [h] <;> omega)]
  congr 1
  omega
theorem over_f {k : Nat} (hk : 1 ≤ k) (neg : Bool) (mode : Int) : parts_over.f k neg mode = some (ovr neg mode) := by
  obtain ⟨k, rfl⟩ : ∃ m, k = m + 1 := ⟨k - 1, by omega⟩
  have h1 : parts_over.j0 (k + 1) neg true = some (sgv neg + 9218868437227405312, 20) := by
    simp only [parts_over.j0]; rw [if_true, Inf_f]; rfl
  have h2 : parts_over.j0 (k + 1) neg false = some (sgv neg + 9218868437227405311, 20) := by
    simp only [parts_over.j0]; rw [if_neg (by decide), greatest_f]; rfl
  unfold parts_over.f ovr far
  by_cases a : mode < 2
  · rw [if_pos a, if_pos a, h1]; rfl
  · rw [if_neg a, if_neg a]
    by_cases b : mode > 4
    · rw [if_pos b, if_pos b, h1]; rfl
    · rw [if_neg b, if_neg b]
      by_cases c : mode = 3
      · rw [if_pos c, if_pos c]
        cases neg
        · rw [if_neg (by decide), h1]; rfl
        · rw [if_pos rfl, if_neg (by omega), h2]; rfl
      · rw [if_neg c, if_neg c]
        by_cases d : mode = 4
        · rw [if_pos d, if_pos d]
          cases neg
          · rw [h2]; rfl
          · rw [h1]; rfl
        · rw [if_neg d, if_neg d, h2]; rfl

def pk (neg : Bool) (q : Nat) (e : Int) : Int := sgv neg + (if q < 4503599627370496 then (q : Int) else (e + 1075) * 4503599627370496 + ((q : Int) - 4503599627370496))
theorem put_f (neg : Bool) (q : Nat) (hq : q < 9007199254740992) (e : Int) (he0 : q < 4503599627370496 ∨ -1075 ≤ e) (he : q < 4503599627370496 ∨ e < 972) : parts_put.f neg q e = some (pk neg q e) := by
  unfold parts_put.f pk
  rw [Zero_f]
  simp only [Option.bind_some]
  by_cases c : (q : Int) < 4503599627370496
  · rw [if_pos c, if_pos (by omega), or_sign (sgv_or neg) (by omega) (by omega)]
  · rw [if_neg c, if_neg (by omega)]
    have he1 : -1075 ≤ e := by omega
    have he2 : e < 972 := by omega
    rw [w64 (by omega) (by omega), u64_in (x := e + 1075) (by omega) (by omega), u64_in (by omega) (by omega), and_frac (by omega) (by omega), or_sign (sgv_or neg) (by omega) (by omega)]
    rw [or_52 (by rcases sgv_or neg with h | h <;> rw [h] <;> omega) (by rcases sgv_or neg with h | h <;> rw [h] <;> omega) (by rcases sgv_or neg with h | h <;> rw [h] <;> omega) (by omega) (by omega)]
    congr 1
    omega

def fin (neg : Bool) (q : Nat) (e : Int) (half rest tiny : Bool) (mode : Int) : Int × Int :=
  let q1 := if upf neg q half rest mode = true then q + 1 else q
  let q2 := if q1 = 9007199254740992 then 4503599627370496 else q1
  let e2 := if q1 = 9007199254740992 then e + 1 else e
  if 4503599627370496 ≤ q2 ∧ 972 ≤ e2 then ovr neg mode else (pk neg q2 e2, if half = true ∨ rest = true then (if tiny = true then 24 else 16) else 0)

theorem tail_f {k : Nat} (hk : 10 ≤ k) (neg : Bool) (exp mode n : Int) (e : Int) (q : Nat) (half rest : Bool) (hq : q < 9007199254740992) (hx0 : -100000 ≤ exp) (hx1 : exp ≤ 100000) (hn0 : 0 ≤ n) (hn : n ≤ 1000) (he0 : -1074 ≤ e) (he : e ≤ 200000) :
    parts_Round.j1 k neg exp mode n e q half rest = some (fin neg q e half rest (decide (exp + n - 1 < -1022)) mode) := by
  have tail3 : ∀ (k : Nat) (fl : Int), 8 ≤ k → fl = (if half = true ∨ rest = true then (if decide (exp + n - 1 < -1022) = true then 24 else 16) else 0) →
      parts_Round.j3 k neg mode e q half rest fl = some (fin neg q e half rest (decide (exp + n - 1 < -1022)) mode) := by
    intro k fl hk hfl
    obtain ⟨k, rfl⟩ : ∃ m, k = m + 4 := ⟨k - 4, by omega⟩
    simp only [parts_Round.j3]
    rw [up_f neg q (by omega)]
    simp only [Option.bind_some]
    have j4 : ∀ q1 : Nat, q1 ≤ 9007199254740992 → parts_Round.j4 (k + 3) neg mode e q1 fl = some (if 4503599627370496 ≤ (if q1 = 9007199254740992 then 4503599627370496 else q1) ∧ 972 ≤ (if q1 = 9007199254740992 then e + 1 else e) then ovr neg mode else (pk neg (if q1 = 9007199254740992 then 4503599627370496 else q1) (if q1 = 9007199254740992 then e + 1 else e), fl)) := by
      intro q1 hq1
      simp only [parts_Round.j4]
      have j5 : ∀ (q2 : Nat) (e2 : Int), q2 < 9007199254740992 → -1074 ≤ e2 → e2 ≤ 300000 → parts_Round.j5 (k + 2) neg mode e2 q2 fl = some (if 4503599627370496 ≤ q2 ∧ 972 ≤ e2 then ovr neg mode else (pk neg q2 e2, fl)) := by
        intro q2 e2 hq2 h1 h2
        simp only [parts_Round.j5]
        have j6t : parts_Round.j6 (k + 1) neg mode e2 q2 fl true = some (ovr neg mode) := by
          simp only [parts_Round.j6]
          rw [if_true]
          by_cases hk0 : 1 ≤ k
          · rw [over_f hk0]; rfl
          · omega
        have j6f : (q2 < 4503599627370496 ∨ e2 < 972) → parts_Round.j6 (k + 1) neg mode e2 q2 fl false = some (pk neg q2 e2, fl) := by
          intro h
          simp only [parts_Round.j6]
          rw [if_neg (by decide), put_f neg q2 hq2 e2 (by omega) h]
          rfl
        by_cases c : (q2 : Int) ≥ 4503599627370496
        · rw [if_pos c, w64 (by omega) (by omega)]
          by_cases d : e2 + 1075 ≥ 2047
          · rw [decide_eq_true d, j6t, if_pos (by omega)]
          · rw [decide_eq_false d, j6f (by omega), if_neg (by omega)]
        · rw [if_neg c, j6f (by omega), if_neg (by omega)]
      by_cases c : (q1 : Int) = 9007199254740992
      · have c2 : q1 = 9007199254740992 := by omega
        rw [if_pos c, w64 (by omega) (by omega)]
        have := j5 4503599627370496 (e + 1) (by omega) (by omega) (by omega)
        rw [if_pos c2, if_pos c2]
        exact this
      · have c2 : ¬ q1 = 9007199254740992 := by omega
        rw [if_neg c, if_neg c2, if_neg c2]
        exact j5 q1 e (by omega) (by omega) (by omega)
    unfold fin
    rw [← hfl]
    by_cases u : upf neg q half rest mode = true
    · rw [if_pos u, u64_in (by omega) (by omega)]
      have := j4 (q + 1) (by omega)
      simp only [if_pos u]
      exact this
    · rw [if_neg u]
      simp only [if_neg u]
      exact j4 q (by omega)
  obtain ⟨k, rfl⟩ : ∃ m, k = m + 2 := ⟨k - 2, by omega⟩
  simp only [parts_Round.j1]
  have j2 : ∀ b : Bool, b = (if half = true then true else rest) → parts_Round.j2 (k + 1) neg exp mode n e q half rest 0 b = some (fin neg q e half rest (decide (exp + n - 1 < -1022)) mode) := by
    intro b hb
    simp only [parts_Round.j2]
    rw [w64 (x := exp + n) (by omega) (by omega), w64 (by omega) (by omega)]
    cases b with
    | true =>
      have h : half = true ∨ rest = true := by
        by_cases hh : half = true
        · exact .inl hh
        · rw [if_neg hh] at hb; exact .inr hb.symm
      rw [if_pos rfl]
      by_cases t : exp + n - 1 < -1022
      · rw [if_pos t]
        exact tail3 k _ (by omega) (by rw [if_pos h, if_pos (decide_eq_true t)]; rfl)
      · rw [if_neg t]
        exact tail3 k _ (by omega) (by rw [if_pos h, if_neg (by rw [decide_eq_false t]; decide)])
    | false =>
      have h : ¬ (half = true ∨ rest = true) := by
        rintro (hh | hh)
        · rw [if_pos hh] at hb; cases hb
        · by_cases hf : half = true
          · rw [if_pos hf] at hb; cases hb
          · rw [if_neg hf, hh] at hb; cases hb
      rw [if_neg (by decide)]
      exact tail3 k _ (by omega) (by rw [if_neg h])
  by_cases h : half = true
  · rw [if_pos h]; exact j2 true (by rw [if_pos h])
  · rw [if_neg h]; exact j2 rest (by rw [if_neg h])

def R (neg : Bool) (N : Nat) (exp : Int) (more : Bool) (mode : Int) : Int × Int :=
  let e := max (exp + blen N - 53) (-1074)
  if e ≤ exp then fin neg (N * 2 ^ (exp - e).toNat) e false more (decide (exp + blen N - 1 < -1022)) mode
  else fin neg (N / 2 ^ (e - exp).toNat) e (decide (N / 2 ^ ((e - exp).toNat - 1) % 2 = 1)) (decide (N % 2 ^ ((e - exp).toNat - 1) ≠ 0) || more) (decide (exp + blen N - 1 < -1022)) mode

def clamp (x : Int) : Int := mn (mx x (-16384)) 16384
theorem clamp_in {x : Int} (h0 : -16384 ≤ x) (h1 : x ≤ 16384) : clamp x = x := by
  unfold clamp mn mx
  split <;> split at * <;> omega
theorem clamp_bound (x : Int) : -16384 ≤ clamp x ∧ clamp x ≤ 16384 := by
  unfold clamp mn mx
  split <;> split at * <;> omega

theorem mul_pow_lt {N a b : Nat} (h : N < 2 ^ a) : N * 2 ^ b < 2 ^ (a + b) := by
  rw [Nat.pow_add]
  exact Nat.mul_lt_mul_of_pos_right h (Nat.two_pow_pos b)
theorem div_pow_lt {N a b : Nat} (h : N < 2 ^ (a + b)) : N / 2 ^ b < 2 ^ a := by
  rw [Nat.div_lt_iff_lt_mul (Nat.two_pow_pos b), ← Nat.pow_add]
  exact h

theorem Round_f {N hi lo : Nat} (hN : N = hi * 18446744073709551616 + lo) (hh : hi < 18446744073709551616) (hl : lo < 18446744073709551616) (hp : 0 < N) (neg : Bool) (exp : Int) (more : Bool) (mode : Int) {k : Nat} (hk : 220 ≤ k) :
    parts_Round.f k neg hi lo exp more mode = some (R neg N (clamp exp) (more && (decide (55 ≤ blen N) || decide (clamp exp ≤ -1080))) mode) := by
  unfold parts_Round.f
  have hb0 := blen_pos hp
  have hb1 : blen N ≤ 128 := blen_le (by omega)
  have hlt := lt_blen N
  rw [len_f hN hh hl]
  simp only [Option.bind_some]
  rw [if_neg (by omega)]
  obtain ⟨c0, c1⟩ := clamp_bound exp
  change (if more = true then (if ((blen N : Nat) : Int) ≥ 55 then (parts_Round.j0 k neg (clamp exp) true mode (blen N : Nat) hi lo) else (parts_Round.j0 k neg (clamp exp) (decide (clamp exp ≤ -1080)) mode (blen N : Nat) hi lo)) else (parts_Round.j0 k neg (clamp exp) false mode (blen N : Nat) hi lo)) = _
  generalize clamp exp = x at c0 c1
  have j0 : ∀ b : Bool, parts_Round.j0 k neg x b mode (blen N : Nat) hi lo = some (R neg N x b mode) := by
    intro b
    obtain ⟨k, rfl⟩ : ∃ m, k = m + 1 := ⟨k - 1, by omega⟩
    simp only [parts_Round.j0]
    rw [w64 (x := x + (blen N : Nat)) (by omega) (by omega), w64 (x := x + (blen N : Nat) - 1) (by omega) (by omega), w64 (x := x + (blen N : Nat) - 1 - 52) (by omega) (by omega)]
    have hm : mx (x + (blen N : Nat) - 1 - 52) (-1074) = max (x + (blen N : Nat) - 53) (-1074) := by
      unfold mx; split <;> omega
    rw [hm]
    unfold R
    generalize he : max (x + (blen N : Nat) - 53) (-1074) = e
    have e0 : -1074 ≤ e := by omega
    have e1 : x + (blen N : Nat) - 53 ≤ e := by omega
    have e2 : e ≤ 200000 := by omega
    rw [w64 (by omega) (by omega)]
    by_cases c : e ≤ x
    · simp only [if_pos c]
      obtain ⟨s, hs⟩ : ∃ s : Nat, x - e = s := ⟨(x - e).toNat, by omega⟩
      rw [show e - x = -(s : Int) by omega, hs, Int.toNat_natCast]
      have hn : blen N + s ≤ 53 := by omega
      have hN2 : N * 2 ^ s < 2 ^ (blen N + s) := mul_pow_lt hlt
      have hN3 : 2 ^ (blen N + s) ≤ 2 ^ 53 := Nat.pow_le_pow_right (by omega) hn
      have hNs : N ≤ N * 2 ^ s := Nat.le_mul_of_pos_right _ (Nat.two_pow_pos s)
      have hlo : lo = N := by omega
      rw [cut_up hl s (by omega) k (by rw [hlo]; omega)]
      simp only [Option.bind_some]
      rw [if_neg (by decide), hlo]
      have := tail_f (k := k) (by omega) neg x mode (blen N : Nat) e (N * 2 ^ s) false b (by omega) (by omega) (by omega) (by omega) (by omega) e0 e2
      exact this
    · simp only [if_neg c]
      obtain ⟨s, hs⟩ : ∃ s : Nat, e - x = s := ⟨(e - x).toNat, by omega⟩
      rw [hs, Int.toNat_natCast, cut_f hN hh hl s (by omega) (by omega) (by omega)]
      simp only [Option.bind_some]
      have hq : N / 2 ^ s < 2 ^ 53 := div_pow_lt (Nat.lt_of_lt_of_le hlt (Nat.pow_le_pow_right (by omega) (by omega)))
      rw [Nat.mod_eq_of_lt (show N / 2 ^ s < 18446744073709551616 by omega)]
      have ht := fun r : Bool => tail_f (k := k) (by omega) neg x mode (blen N : Nat) e (N / 2 ^ s) (decide (N / 2 ^ (s - 1) % 2 = 1)) r (by omega) (by omega) (by omega) (by omega) (by omega) e0 e2
      by_cases d : decide (N % 2 ^ (s - 1) ≠ 0) = true
      · rw [if_pos d, d, Bool.true_or]; exact ht true
      · rw [if_neg d, eq_false_of_ne_true d, Bool.false_or]; exact ht b
  cases more with
  | false =>
    rw [if_neg (by decide), Bool.false_and]; exact j0 false
  | true =>
    rw [if_pos rfl, Bool.true_and]
    by_cases d : ((blen N : Nat) : Int) ≥ 55
    · rw [if_pos d, decide_eq_true (show 55 ≤ blen N by omega), Bool.true_or]; exact j0 true
    · rw [if_neg d, decide_eq_false (show ¬ 55 ≤ blen N by omega), Bool.false_or]; exact j0 _
end Go.Proofs.Ytjbpchebabhoeaa.Fl
