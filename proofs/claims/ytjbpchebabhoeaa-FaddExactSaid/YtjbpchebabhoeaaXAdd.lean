/- fadd.Add and Sub of finite numbers; sums that are exact. Plain numbers. -/
import Derived.Test.YtjbpchebabhoeaaXFadd
import Derived.Test.YtjbpchebabhoeaaPqfaddSub
set_option linter.unusedVariables false
set_option linter.unusedSimpArgs false
namespace Go.Proofs.Ytjbpchebabhoeaa.Fl
open Go.RowKit Go.Proofs.Ytjbpchebabhoeaa.P Go.Proofs.Ytjbpchebabhoeaa.X Go.Proofs.Ytjbpchebabhoeaa.Bt Go.Proofs.YtjbpchebabhoeaaW.PrintWords

theorem odd_fin {a b : Int} (ha : Finite a) (hb : Finite b) {k : Nat} (hk : 5 ≤ k) : fadd_odd.f k a b = some (0, 0, false) := by
  unfold fadd_odd.f
  rw [Class_f (by omega) ha.1, Class_f (by omega) hb.1]
  simp only [Option.bind_some]
  have h1 := cls_fin ha
  have h2 := cls_fin hb
  rw [if_neg (by omega)]
  have e : (cls b == 3) = false := by rw [beq_eq_false_iff_ne]; omega
  obtain ⟨k, rfl⟩ : ∃ m, k = m + 2 := ⟨k - 2, by omega⟩
  rw [e]
  simp only [fadd_odd.j0]
  rw [if_neg (by decide), if_neg (by omega)]
  simp only [fadd_odd.j1]
  rw [if_neg (by decide), if_neg (by omega), if_neg (by omega)]

theorem nought_f {a b : Int} (ha : Word a) (hb : Word b) (mode : Int) : fadd_nought.f a b mode = some (if sgn a = sgn b then sgv (sgn a) else sgv (decide (mode = 4))) := by
  unfold fadd_nought.f
  rw [and_sign ha.1 ha.2, and_sign hb.1 hb.2, Zero_f]
  have e : (mode == 4) = decide (mode = 4) := by
    rw [Bool.eq_iff_iff, beq_iff_eq, decide_eq_true_iff]
  rw [e]
  unfold sgn
  by_cases h1 : 9223372036854775808 ≤ a <;> by_cases h2 : 9223372036854775808 ≤ b
  · rw [if_pos h1, if_pos h2, if_pos rfl, decide_eq_true h1, decide_eq_true h2, if_pos rfl]; rfl
  · rw [if_pos h1, if_neg h2, if_neg (by decide), decide_eq_true h1, decide_eq_false h2, if_neg (by decide)]; rfl
  · rw [if_neg h1, if_pos h2, if_neg (by decide), decide_eq_false h1, decide_eq_true h2, if_neg (by decide)]; rfl
  · rw [if_neg h1, if_neg h2, if_pos rfl, decide_eq_false h1, decide_eq_false h2, if_pos rfl]; rfl

theorem word_eq {a b : Int} (ha : Word a) (hb : Word b) (h : a % 9223372036854775808 = b % 9223372036854775808) (hs : sgn a = sgn b) : a = b := by
  unfold sgn at hs
  have := decide_eq_decide.1 hs
  obtain ⟨a0, a1⟩ := ha
  obtain ⟨b0, b1⟩ := hb
  omega

theorem Add_f {a b : Int} (ha : Finite a) (hb : Finite b) (mode : Int) {k : Nat} (hk : 260 ≤ k) : fadd_Add.f k a b mode = some (addspec a b mode) := by
  unfold fadd_Add.f
  rw [odd_fin ha hb (by omega)]
  simp only [Option.bind_some]
  rw [if_neg (by decide), andNot_sign ha.1.1 ha.1.2, andNot_sign hb.1.1 hb.1.2]
  obtain ⟨k, rfl⟩ : ∃ m, k = m + 1 := ⟨k - 1, by omega⟩
  have jt : (a % 9223372036854775808 = b % 9223372036854775808 ∧ a ≠ b ∨ a % 9223372036854775808 = 0 ∧ b % 9223372036854775808 = 0) → fadd_Add.j0 (k + 1) a b mode (a % 9223372036854775808) (b % 9223372036854775808) true = some (addspec a b mode) := by
    intro h
    simp only [fadd_Add.j0]
    rw [if_true, nought_f ha.1 hb.1]
    simp only [Option.bind_some]
    have hm : a % 9223372036854775808 = b % 9223372036854775808 := by omega
    obtain ⟨hx, hs⟩ := (mag_eq ha hb).1 hm
    unfold addspec
    rw [← hx, ← hs, show min (xpo a) (xpo a) = xpo a by omega, show (xpo a - xpo a).toNat = 0 by omega, Nat.pow_zero, Nat.mul_one]
    unfold sumR
    by_cases hg : sgn a = sgn b
    · rw [if_pos hg, if_pos hg]
      have hz : a % 9223372036854775808 = 0 := by
        rcases h with ⟨h1, h2⟩ | h
        · exact absurd (word_eq ha.1 hb.1 hm hg) h2
        · exact h.1
      rw [(sig_zero ha).2 hz]
      rfl
    · rw [if_neg hg, if_neg hg, if_pos rfl]
  have jf : ¬ (a % 9223372036854775808 = b % 9223372036854775808 ∧ a ≠ b ∨ a % 9223372036854775808 = 0 ∧ b % 9223372036854775808 = 0) → fadd_Add.j0 (k + 1) a b mode (a % 9223372036854775808) (b % 9223372036854775808) false = some (addspec a b mode) := by
    intro h
    simp only [fadd_Add.j0]
    rw [if_neg (by decide)]
    have hne : ∀ u v : Int, Finite u → Finite v → (u % 9223372036854775808 = v % 9223372036854775808 → u = v) → sgn u ≠ sgn v → ¬ (xpo u = xpo v ∧ sig u = sig v) := by
      intro u v hu hv huv hg hm
      have := huv ((mag_eq hu hv).2 hm)
      subst this
      exact hg rfl
    have hfin : ∀ u v : Int, Finite u → Finite v → xpo v ≤ xpo u → sumR (sgn u) (sig u * 2 ^ (xpo u - xpo v).toNat) (sgn v) (sig v) (xpo v) mode = addspec u v mode := by
      intro u v hu hv hx
      unfold addspec
      rw [show min (xpo u) (xpo v) = xpo v by omega, show (xpo v - xpo v).toNat = 0 by omega, Nat.pow_zero, Nat.mul_one]
    by_cases hlt : a % 9223372036854775808 < b % 9223372036854775808
    · rw [if_pos hlt]
      have hl := (mag_lt ha hb).1 hlt
      have hb0 : 0 < sig b := Nat.pos_of_ne_zero (fun h0 => by have := (sig_zero hb).1 h0; obtain ⟨⟨a0, _⟩, _⟩ := ha; omega)
      rw [sum_f hb ha hb0 (by omega) (hne b a hb ha (by omega)) mode (by omega), hfin b a hb ha (by omega), addspec_comm]
      rfl
    · rw [if_neg hlt]
      have hle : xpo b < xpo a ∨ (xpo a = xpo b ∧ sig b ≤ sig a) := by
        by_cases he : a % 9223372036854775808 = b % 9223372036854775808
        · have := (mag_eq ha hb).1 he; omega
        · have := (mag_lt hb ha).1 (by omega); omega
      have ha0 : 0 < sig a := Nat.pos_of_ne_zero (fun h0 => by have := (sig_zero ha).1 h0; obtain ⟨⟨b0, _⟩, _⟩ := hb; omega)
      rw [sum_f ha hb ha0 hle (hne a b ha hb (fun e => by apply Classical.byContradiction; intro hn; exact h (.inl ⟨e, hn⟩))) mode (by omega), hfin a b ha hb (by omega)]
      rfl
  have bz : ∀ x : Int, (x == 0) = decide (x = 0) := fun x => by rw [Bool.eq_iff_iff, beq_iff_eq, decide_eq_true_iff]
  by_cases h1 : a % 9223372036854775808 = b % 9223372036854775808
  · rw [if_pos h1]
    by_cases h2 : a = b
    · rw [if_pos h2]
      by_cases h3 : a % 9223372036854775808 = 0
      · rw [if_pos h3, bz, decide_eq_true (by omega)]; exact jt (.inr ⟨h3, by omega⟩)
      · rw [if_neg h3]; exact jf (by omega)
    · rw [if_neg h2]; exact jt (.inl ⟨h1, h2⟩)
  · rw [if_neg h1]
    by_cases h3 : a % 9223372036854775808 = 0
    · rw [if_pos h3, bz, decide_eq_false (by omega)]; exact jf (by omega)
    · rw [if_neg h3]; exact jf (by omega)

theorem finite_flip {b : Int} (hb : Finite b) : Finite (bits .xor .u64 b 9223372036854775808) ∧ sgn (bits .xor .u64 b 9223372036854775808) = !sgn b ∧ sig (bits .xor .u64 b 9223372036854775808) = sig b ∧ xpo (bits .xor .u64 b 9223372036854775808) = xpo b := by
  obtain ⟨⟨b0, b1⟩, b2⟩ := hb
  rw [xor_sign b0 b1]
  unfold Finite Word sgn sig xpo
  by_cases h : 9223372036854775808 ≤ b
  · rw [if_pos h, decide_eq_true h, decide_eq_false (by omega)]
    refine ⟨⟨by omega, by omega⟩, rfl, ?_, ?_⟩
    · split <;> split <;> omega
    · split <;> split <;> omega
  · rw [if_neg h, decide_eq_false h, decide_eq_true (by omega)]
    refine ⟨⟨by omega, by omega⟩, rfl, ?_, ?_⟩
    · split <;> split <;> omega
    · split <;> split <;> omega

theorem Sub_f {a b : Int} (ha : Finite a) (hb : Finite b) (mode : Int) {k : Nat} (hk : 260 ≤ k) : fadd_Sub.f k a b mode = some (addspec a (bits .xor .u64 b 9223372036854775808) mode) := by
  unfold fadd_Sub.f
  rw [Class_f (by omega) hb.1]
  simp only [Option.bind_some]
  have := cls_fin hb
  rw [if_neg (by omega), Add_f ha (finite_flip hb).1 mode hk]
  rfl

/-- A number's value, in the least steps. -/
def vv (a : Int) : Int := (if sgn a = true then -1 else 1) * ((sig a * 2 ^ (xpo a + 1074).toNat : Nat) : Int)

/-- Where the exact sum is a number other than 0, it is told, without flags. -/
theorem add_exact {a b c : Int} (ha : Finite a) (hb : Finite b) (hc : Finite c) (hv : vv a + vv b = vv c) (h0 : 0 < sig c) (mode : Int) : addspec a b mode = (c, 0) := by
  have ca := can_word ha
  have cb := can_word hb
  have cc := can_word hc
  have hp := pk_word hc
  unfold addspec
  generalize hE : min (xpo a) (xpo b) = E
  obtain ⟨e, he⟩ : ∃ e : Nat, E = -1074 + e := ⟨(E + 1074).toNat, by have := ca.2.1; have := cb.2.1; omega⟩
  -- both sides, in steps of E
  have hA : sig a * 2 ^ (xpo a + 1074).toNat = sig a * 2 ^ (xpo a - E).toNat * 2 ^ e := by
    rw [Nat.mul_assoc, ← Nat.pow_add]; congr 2; omega
  have hB : sig b * 2 ^ (xpo b + 1074).toNat = sig b * 2 ^ (xpo b - E).toNat * 2 ^ e := by
    rw [Nat.mul_assoc, ← Nat.pow_add]; congr 2; omega
  unfold vv at hv
  rw [hA, hB] at hv
  generalize sig a * 2 ^ (xpo a - E).toNat = A at *
  generalize sig b * 2 ^ (xpo b - E).toNat = B at *
  obtain ⟨f, hf⟩ : ∃ f : Nat, xpo c = -1074 + f := ⟨(xpo c + 1074).toNat, by have := cc.2.1; omega⟩
  have hf2 : (xpo c + 1074).toNat = f := by omega
  rw [hf2] at hv
  have hep := Nat.two_pow_pos e
  have hfp := Nat.two_pow_pos f
  have hCpos : 0 < sig c * 2 ^ f := Nat.mul_pos h0 hfp
  -- the magnitude and the sign of the sum
  have main : ∀ (N : Nat) (s : Bool), s = sgn c → N * 2 ^ e = sig c * 2 ^ f → R s N E false mode = (c, 0) := by
    intro N s hs hN
    subst hs
    have hNp : 0 < N := Nat.pos_of_ne_zero (fun h => by subst h; rw [Nat.zero_mul] at hN; omega)
    rw [R_exact (sgn c) hNp E cc ?_ mode, hp]
    by_cases hle : e ≤ f
    · refine .inl ⟨f - e, by omega, ?_⟩
      have : sig c * 2 ^ f = sig c * 2 ^ (f - e) * 2 ^ e := by rw [Nat.mul_assoc, ← Nat.pow_add]; congr 2; omega
      rw [this] at hN
      exact Nat.eq_of_mul_eq_mul_right hep hN
    · refine .inr ⟨e - f, by omega, ?_⟩
      have : N * 2 ^ e = N * 2 ^ (e - f) * 2 ^ f := by rw [Nat.mul_assoc, ← Nat.pow_add]; congr 2; omega
      rw [this] at hN
      exact (Nat.eq_of_mul_eq_mul_right hfp hN).symm
  have hAB : (A + B) * 2 ^ e = A * 2 ^ e + B * 2 ^ e := Nat.add_mul _ _ _
  have hAm : (A - B) * 2 ^ e = A * 2 ^ e - B * 2 ^ e := Nat.sub_mul _ _ _
  have hBm : (B - A) * 2 ^ e = B * 2 ^ e - A * 2 ^ e := Nat.sub_mul _ _ _
  have hlt : A < B ↔ A * 2 ^ e < B * 2 ^ e := (Nat.mul_lt_mul_right hep).symm
  have hz : A + B = 0 → A * 2 ^ e = 0 ∧ B * 2 ^ e = 0 := fun h => by
    obtain ⟨rfl, rfl⟩ : A = 0 ∧ B = 0 := by omega
    simp
  have heq : A = B → A * 2 ^ e = B * 2 ^ e := fun h => by rw [h]
  unfold sumR
  generalize A * 2 ^ e = A' at *
  generalize B * 2 ^ e = B' at *
  generalize sig c * 2 ^ f = C' at *
  generalize hsa : sgn a = sa at *
  generalize hsb : sgn b = sb at *
  generalize hsc : sgn c = sc at *
  cases sa <;> cases sb <;> cases sc <;> simp only [if_true, if_false, Bool.false_eq_true, Int.one_mul, Int.neg_mul] at hv
  · rw [if_pos rfl, if_neg (fun h => by have := hz h; omega)]; exact main _ _ rfl (by omega)
  · omega
  · rw [if_neg (by decide), if_neg (fun h => by have := heq h; omega), if_neg (fun h => by have := hlt.1 h; omega)]; exact main _ _ rfl (by omega)
  · rw [if_neg (by decide), if_neg (fun h => by have := heq h; omega), if_pos (hlt.2 (by omega))]; exact main _ _ rfl (by omega)
  · rw [if_neg (by decide), if_neg (fun h => by have := heq h; omega), if_pos (hlt.2 (by omega))]; exact main _ _ rfl (by omega)
  · rw [if_neg (by decide), if_neg (fun h => by have := heq h; omega), if_neg (fun h => by have := hlt.1 h; omega)]; exact main _ _ rfl (by omega)
  · omega
  · rw [if_pos rfl, if_neg (fun h => by have := hz h; omega)]; exact main _ _ rfl (by omega)
end Go.Proofs.Ytjbpchebabhoeaa.Fl
