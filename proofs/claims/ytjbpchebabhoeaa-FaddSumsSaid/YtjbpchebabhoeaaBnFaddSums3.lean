import Derived.Test.YtjbpchebabhoeaaBnFaddSums0
import Derived.Test.YtjbpchebabhoeaaBnFaddSums1
import Derived.Test.YtjbpchebabhoeaaBnFaddSums2
section
set_option linter.unusedVariables false
set_option linter.unusedSimpArgs false
namespace Go.Proofs.Ytjbpchebabhoeaa.Rf
open Go.RowKit Go.Proofs.Ytjbpchebabhoeaa.P Go.Proofs.Ytjbpchebabhoeaa.X Go.Proofs.Ytjbpchebabhoeaa.Bt Go.Proofs.Ytjbpchebabhoeaa.Dg Go.Proofs.YtjbpchebabhoeaaW.PrintWords
theorem mul_bound {x y c o : Nat} (hx : x < 65536) (hy : y < 65536) (hc : c < 65536) (ho : o < 65536) : c + o + x * y < 4294967296 := by
  have h1 : x * y ≤ 65535 * 65535 := Nat.mul_le_mul (by omega) (by omega)
  omega
theorem Mul_inner {a b : List Int} (ha : W16 a) (hb : W16 b) (fa : Few_ a) (fb : Few_ b) (i : Nat) (hi : i < a.length) (V Kout : Nat) (res : List Int) (hV : V < 65536 ^ (i + 1 + b.length))
    (H : ∀ out : List Int, W16 out → out.length = a.length + b.length + 1 → val 65536 out = V → ∀ k, Kout < k → vernierref01_Mul.l0 k a b out ((i : Int) + 1) = some res) (d : Nat) :
    ∀ (j : Nat) (out : List Int) (c : Int) (k : Nat), j + d = b.length + 1 → Kout + 2 * d + 5 < k → W16 out → out.length = a.length + b.length + 1 → 0 ≤ c → c < 65536 →
      val 65536 out + 65536 ^ (i + j) * (c.toNat + (a.getD i 0).toNat * val 65536 (b.drop j)) = V →
      vernierref01_Mul.l1 k a b out i c j = some res := by
  unfold Few_ at fa fb
  have over : ∀ (j : Nat) (out : List Int) (k : Nat), Kout + 1 < k → W16 out → out.length = a.length + b.length + 1 → val 65536 out = V → vernierref01_Mul.j2 k a b out i 0 j false = some res := by
    intro j out k hk hw hl hv
    obtain ⟨k, rfl⟩ : ∃ m, k = m + 1 := ⟨k - 1, by omega⟩
    simp only [vernierref01_Mul.j2]
    rw [if_neg (by decide), w64 (by omega) (by omega)]
    exact H out hw hl hv k (by omega)
  have none_left : ∀ (j : Nat) (out : List Int) (c : Int), b.length < j → 0 ≤ c → val 65536 out + 65536 ^ (i + j) * (c.toNat + (a.getD i 0).toNat * val 65536 (b.drop j)) = V → c = 0 ∧ val 65536 out = V := by
    intro j out c hj h0 hv
    rw [List.drop_eq_nil_of_le (by omega), val_nil, Nat.mul_zero, Nat.add_zero] at hv
    have hp : 65536 ^ (i + 1 + b.length) ≤ 65536 ^ (i + j) := Nat.pow_le_pow_right (by omega) (by omega)
    rcases Nat.eq_zero_or_pos c.toNat with h | h
    · rw [h, Nat.mul_zero, Nat.add_zero] at hv
      exact ⟨by omega, hv⟩
    · have := Nat.le_mul_of_pos_right (65536 ^ (i + j)) h
      omega
  induction d with
  | zero =>
    intro j out c k hj hk hw hl h0 h1 hv
    obtain ⟨k, rfl⟩ : ∃ m, k = m + 1 := ⟨k - 1, by omega⟩
    obtain ⟨rfl, hv2⟩ := none_left j out c (by omega) h0 hv
    simp only [vernierref01_Mul.l1]
    rw [if_neg (by omega), decide_eq_false (by omega)]
    exact over j out k (by omega) hw hl hv2
  | succ d ih =>
    intro j out c k hj hk hw hl h0 h1 hv
    obtain ⟨k, rfl⟩ : ∃ m, k = m + 2 := ⟨k - 2, by omega⟩
    have da := getD_toNat (by omega) ha i
    have db := getD_toNat (by omega) hb j
    have dout := getD_toNat (by omega) hw (i + j)
    have mb := mul_bound da.2 db.2 (c := c.toNat) (by omega) dout.2
    rw [val_drop 65536 b j] at hv
    have step : ∀ s : Nat, s = c.toNat + (out.getD (i + j) 0).toNat + (a.getD i 0).toNat * (b.getD j 0).toNat →
        vernierref01_Mul.l1 k a b (out.set (i + j) (((s % 65536 : Nat) : Int))) i ((s / 65536 : Nat) : Int) ((j : Int) + 1) = some res := by
      intro s hs
      have := ih (j + 1) (out.set (i + j) (((s % 65536 : Nat) : Int))) ((s / 65536 : Nat) : Int) k (by omega) (by omega) (hw.set _ (by omega) (by omega)) (by rw [List.length_set]; exact hl) (by omega) (by omega) ?_
      · rw [← this]; congr 1
      · have hset := val_set (b := 65536) (l := out) (i := i + j) (by omega) (((s % 65536 : Nat) : Int))
        rw [Int.toNat_natCast] at hset
        rw [Int.toNat_natCast, ← hv]
        generalize val 65536 (out.set (i + j) _) = O' at *
        generalize val 65536 out = O at *
        generalize val 65536 (b.drop (j + 1)) = Z at *
        generalize (out.getD (i + j) 0).toNat = o at *
        generalize (a.getD i 0).toNat = x at *
        generalize (b.getD j 0).toNat = y at *
        generalize c.toNat = cc at *
        rw [show i + (j + 1) = i + j + 1 by omega, Nat.pow_succ]
        generalize 65536 ^ (i + j) = P at *
        have e1 : s = s % 65536 + 65536 * (s / 65536) := by omega
        have e2 : P * s = P * (s % 65536) + P * 65536 * (s / 65536) := by
          conv => lhs; rw [e1]
          rw [Nat.mul_add, Nat.mul_assoc]
        have e3 : P * s = P * cc + P * o + P * (x * y) := by rw [hs, Nat.mul_add, Nat.mul_add]
        have e4 : P * 65536 * (s / 65536 + x * Z) = P * 65536 * (s / 65536) + P * (65536 * (x * Z)) := by rw [Nat.mul_add, Nat.mul_assoc P 65536 (x * Z)]
        have e5 : P * (cc + x * (y + 65536 * Z)) = P * cc + P * (x * y) + P * (65536 * (x * Z)) := by
          rw [Nat.mul_add x, Nat.mul_add, Nat.mul_add, Nat.mul_left_comm x 65536 Z, Nat.add_assoc]
        rw [e4, e5]
        omega
    have jt : vernierref01_Mul.j2 (k + 1) a b out i c j true = some res := by
      simp only [vernierref01_Mul.j2]
      have cidx : (((i : Int) + j).toNat) = i + j := by omega
      rw [if_true, w64 (x := (i : Int) + j) (by omega) (by omega), if_pos (by omega), if_pos (by omega)]
      rw [show ((i : Int) + (j : Int)) = ((i + j : Nat) : Int) by omega, rd_nat, Int.toNat_natCast]
      have hco : c + out.getD (i + j) 0 = ((c.toNat + (out.getD (i + j) 0).toNat : Nat) : Int) := by omega
      by_cases hjb : (j : Int) < (b.length : Int)
      · rw [if_pos hjb, if_pos (by omega), if_pos (by omega), if_pos (by omega), rd_nat, rd_nat]
        have hxy : a.getD i 0 * b.getD j 0 = (((a.getD i 0).toNat * (b.getD j 0).toNat : Nat) : Int) := by rw [Int.natCast_mul, da.1, db.1]
        rw [hxy, hco, w64 (x := ((c.toNat + (out.getD (i + j) 0).toNat : Nat) : Int)) (by omega) (by omega), w64 (x := (((a.getD i 0).toNat * (b.getD j 0).toNat : Nat) : Int)) (by omega) (by omega), ← Int.natCast_add, w64 (x := ((c.toNat + (out.getD (i + j) 0).toNat + (a.getD i 0).toNat * (b.getD j 0).toNat : Nat) : Int)) (by omega) (by omega), tmod_dig (by omega), tdiv_dig (by omega), w64 (x := (j : Int) + 1) (by omega) (by omega), w64 (by omega) (by omega)]
        have := step _ rfl
        exact this
      · have hb0 : b.getD j 0 = 0 := getD_ge (by omega)
        rw [if_neg hjb, hco, w64 (x := ((c.toNat + (out.getD (i + j) 0).toNat : Nat) : Int)) (by omega) (by omega), tmod_dig (by omega), tdiv_dig (by omega), w64 (x := (j : Int) + 1) (by omega) (by omega), w64 (by omega) (by omega)]
        have := step (c.toNat + (out.getD (i + j) 0).toNat) (by rw [hb0]; simp)
        exact this
    simp only [vernierref01_Mul.l1]
    by_cases hjb : (j : Int) < (b.length : Int)
    · rw [if_pos hjb]; exact jt
    · rw [if_neg hjb]
      by_cases hc : c > 0
      · rw [decide_eq_true hc]; exact jt
      · rw [decide_eq_false hc]
        obtain rfl : c = 0 := by omega
        rw [← val_drop, List.drop_eq_nil_of_le (by omega), val_nil, Nat.mul_zero, Int.toNat_zero, Nat.add_zero, Nat.mul_zero, Nat.add_zero] at hv
        exact over j out (k + 1) (by omega) hw hl hv
theorem Mul_outer {a b : List Int} (ha : W16 a) (hb : W16 b) (fa : Few_ a) (fb : Few_ b) (d : Nat) : ∀ (i : Nat) (out : List Int) (k : Nat), i + d = a.length → d * (2 * b.length + 12) + a.length + b.length + 5 < k → W16 out → out.length = a.length + b.length + 1 →
    val 65536 out = val 65536 (a.take i) * val 65536 b → vernierref01_Mul.l0 k a b out i = some (D (val 65536 a * val 65536 b)) := by
  have fa' := fa
  have fb' := fb
  unfold Few_ at fa' fb'
  induction d with
  | zero =>
    intro i out k hi hk hw hl hv
    obtain ⟨k, rfl⟩ : ∃ m, k = m + 1 := ⟨k - 1, by omega⟩
    simp only [vernierref01_Mul.l0]
    rw [if_neg (by omega), cut_f hw (by omega) (by omega), hv, List.take_of_length_le (by omega)]
    rfl
  | succ d ih =>
    intro i out k hi hk hw hl hv
    rw [Nat.succ_mul] at hk
    obtain ⟨k, rfl⟩ : ∃ m, k = m + 1 := ⟨k - 1, by omega⟩
    simp only [vernierref01_Mul.l0]
    rw [if_pos (by omega)]
    have hV : val 65536 (a.take (i + 1)) * val 65536 b < 65536 ^ (i + 1 + b.length) := by
      have h1 := val_lt (ha.take (i + 1))
      have h2 := val_lt hb
      rw [List.length_take, Nat.min_eq_left (by omega)] at h1
      rw [Nat.pow_add]
      exact Nat.mul_lt_mul'' h1 h2
    refine Mul_inner ha hb fa fb i (by omega) (val 65536 (a.take (i + 1)) * val 65536 b) (d * (2 * b.length + 12) + a.length + b.length + 5) _ hV ?_ (b.length + 1) 0 out 0 k (by omega) (by omega) hw hl (by omega) (by omega) ?_
    · intro out' hw' hl' hv' k' hk'
      exact ih (i + 1) out' k' (by omega) hk' hw' hl' hv'
    · rw [hv, List.drop_zero, Nat.add_zero, Int.toNat_zero, Nat.zero_add, val_take_succ, Nat.add_mul, Nat.mul_assoc]
theorem Mul_f {a b : List Int} (ha : W16 a) (hb : W16 b) (fa : Few_ a) (fb : Few_ b) {k : Nat} (hk : a.length * (2 * b.length + 12) + a.length + b.length + 5 < k) : vernierref01_Mul.f k a b = some (D (val 65536 a * val 65536 b)) := by
  have fa' := fa
  have fb' := fb
  unfold Few_ at fa' fb'
  unfold vernierref01_Mul.f
  rw [w64 (x := (a.length : Int) + b.length) (by omega) (by omega), w64 (by omega) (by omega), if_pos (by omega), if_pos (by omega)]
  have e : ((a.length : Int) + b.length + 1).toNat = a.length + b.length + 1 := by omega
  rw [e]
  exact Mul_outer ha hb fa fb a.length 0 _ k (by omega) hk (Wf.zeros (by omega) _) (by simp) (by rw [val_zeros]; simp [val_nil])
theorem pow16 (s : Nat) : 2 ^ s = 65536 ^ (s / 16) * 2 ^ (s % 16) := by
  have : (65536 : Nat) = 2 ^ 16 := rfl
  rw [this, ← Nat.pow_mul, ← Nat.pow_add]
  congr 1
  omega
theorem pow_small {t : Nat} (h : t < 16) : 2 ^ t < 65536 := by
  have := (Nat.pow_lt_pow_iff_right (by omega : 1 < 2)).2 h
  exact this
theorem Shl_loop (n : Nat) (fn : (D n).length ≤ 549755813888) (s : Nat) (hs : s ≤ 1099511627776) (d : Nat) : ∀ (t k : Nat), t + d = s % 16 → d + 20 * (D n).length + s + 100 < k →
    vernierref01_Shl.l0 k (D n) s (List.replicate (s / 16) 0) ((2 ^ t : Nat) : Int) t = some (D (n * 2 ^ s)) := by
  induction d with
  | zero =>
    intro t k ht hk
    obtain ⟨k, rfl⟩ : ∃ m, k = m + 1 := ⟨k - 1, by omega⟩
    simp only [vernierref01_Shl.l0]
    have hm : Int.tmod (s : Int) 16 = ((s % 16 : Nat) : Int) := by rw [Int.tmod_eq_emod_of_nonneg (by omega)]; omega
    rw [hm, if_neg (by omega)]
    have hp := pow_small (t := t) (by omega)
    have hp0 := Nat.two_pow_pos t
    have w1 : W16 [((2 ^ t : Nat) : Int)] := Wf.cons (by omega) (by omega) (Wf.nil _)
    rw [Mul_f (D_wf n) w1 (by unfold Few_; omega) (by unfold Few_; simp) (by simp only [List.length_singleton]; omega), D_val]
    simp only [Option.bind_some]
    have e1 : val 65536 [((2 ^ t : Nat) : Int)] = 2 ^ t := by rw [val_cons, val_nil, Int.toNat_natCast, Nat.mul_zero, Nat.add_zero]
    rw [e1]
    have hl : (D (n * 2 ^ t)).length ≤ (D n).length + 1 := by
      apply digs_length_le (by omega)
      have h1 := le_of_digs_length (b := 65536) (by omega) n
      rw [Nat.pow_succ]
      exact Nat.mul_lt_mul'' h1 hp
    rw [List.length_replicate, if_pos (by omega), cut_f ((Wf.zeros (by omega) _).append (D_wf _)) (by rw [List.length_append, List.length_replicate]; omega) (by rw [List.length_append, List.length_replicate]; omega), val_append, val_zeros, List.length_replicate, D_val, Nat.zero_add]
    have : 65536 ^ (s / 16) * (n * 2 ^ t) = n * 2 ^ s := by
      rw [pow16 s, show s % 16 = t by omega, Nat.mul_left_comm]
    rw [this]
    rfl
  | succ d ih =>
    intro t k ht hk
    obtain ⟨k, rfl⟩ : ∃ m, k = m + 1 := ⟨k - 1, by omega⟩
    simp only [vernierref01_Shl.l0]
    have hm : Int.tmod (s : Int) 16 = ((s % 16 : Nat) : Int) := by rw [Int.tmod_eq_emod_of_nonneg (by omega)]; omega
    have hp := pow_small (t := t) (by omega)
    have hp0 := Nat.two_pow_pos t
    rw [hm, if_pos (by omega), w64 (by omega) (by omega), w64 (by omega) (by omega)]
    have := ih (t + 1) k (by omega) (by omega)
    rw [← this]
    congr 1
    rw [Nat.pow_succ]
    omega
theorem Shl_f (n s : Nat) (fn : (D n).length ≤ 549755813888) (hs : s ≤ 1099511627776) {k : Nat} (hk : 20 * (D n).length + s + 200 < k) : vernierref01_Shl.f k (D n) s = some (D (n * 2 ^ s)) := by
  unfold vernierref01_Shl.f
  have hd : Int.tdiv (s : Int) 16 = ((s / 16 : Nat) : Int) := by rw [Int.tdiv_eq_ediv_of_nonneg (by omega)]; omega
  rw [hd, w64 (by omega) (by omega), if_pos (by omega), if_pos (by omega), Int.toNat_natCast]
  have := Shl_loop n fn s hs (s % 16) 0 k (by omega) (by omega)
  exact this
theorem len_shl (n s : Nat) : (D (n * 2 ^ s)).length ≤ (D n).length + s / 16 + 1 := by
  apply digs_length_le (by omega)
  have h1 := le_of_digs_length (b := 65536) (by omega) n
  have h2 : 2 ^ s < 65536 ^ (s / 16 + 1) := by
    rw [pow16 s, Nat.pow_succ]
    exact Nat.mul_lt_mul_of_pos_left (pow_small (by omega)) (Nat.pow_pos (by omega))
  rw [Nat.add_assoc, Nat.pow_add]
  exact Nat.mul_lt_mul'' h1 h2
theorem Bits_loop : ∀ (x : Nat) (n : Int) (k : Nat), blen x < k → 0 ≤ n → n + blen x ≤ 4611686018427387904 → x < 65536 → vernierref01_Bits.l0 k n x = some (n + blen x) := by
  intro x
  induction x using Nat.strongRecOn with
  | _ x ih =>
    intro n k hk h0 h1 hx
    obtain ⟨k, rfl⟩ : ∃ m, k = m + 1 := ⟨k - 1, by omega⟩
    simp only [vernierref01_Bits.l0]
    rcases Nat.eq_zero_or_pos x with rfl | hp
    · rw [if_neg (by omega), blen_zero]
      congr 1
      omega
    · have hb : blen x = blen (x / 2) + 1 := by
        have h1 := lt_blen (x / 2)
        rcases Nat.eq_zero_or_pos (x / 2) with h2 | h2
        · rw [h2, blen_zero, show x = 1 by omega]; rfl
        · have h3 := blen_ge h2
          have h4 := blen_pos h2
          obtain ⟨m, hm⟩ : ∃ m, blen (x / 2) = m + 1 := ⟨blen (x / 2) - 1, by omega⟩
          rw [hm] at h1 h3 ⊢
          rw [Nat.add_sub_cancel] at h3
          apply blen_eq
          · rw [Nat.pow_succ]; omega
          · rw [Nat.pow_succ]; omega
      have hd : Int.tdiv (x : Int) 2 = ((x / 2 : Nat) : Int) := by rw [Int.tdiv_eq_ediv_of_nonneg (by omega)]; omega
      have hbl : blen x ≤ 16 := blen_le (by omega)
      rw [if_pos (by omega), hd, w64 (by omega) (by omega), w64 (by omega) (by omega), ih (x / 2) (by omega) (n + 1) k (by omega) (by omega) (by omega) (by omega), hb]
      congr 1
      omega
theorem Bits_f (n : Nat) (fn : Few_ (D n)) {k : Nat} (hk : 20 < k) : vernierref01_Bits.f k (D n) = some ((blen n : Nat) : Int) := by
  unfold Few_ at fn
  unfold vernierref01_Bits.f
  rcases Nat.eq_zero_or_pos n with rfl | hp
  · rw [D_zero]; rfl
  · have hl : 0 < (D n).length := Nat.pos_of_ne_zero (fun h => by have := D_len0.1 h; omega)
    rw [if_neg (by omega), w64 (by omega) (by omega), if_pos (by omega), if_pos (by omega), w64 (by omega) (by omega)]
    obtain ⟨m, hm⟩ : ∃ m, (D n).length = m + 1 := ⟨(D n).length - 1, by omega⟩
    rw [hm, show (((m + 1 : Nat) : Int) - 1) = (m : Int) by omega, rd_nat]
    have hx := getD_toNat (by omega) (D_wf n) m
    have hlast := digs_last (b := 65536) (by omega) n (by intro h; unfold D at hl; rw [h] at hl; simp at hl)
    change 0 < (D n).getD ((D n).length - 1) 0 at hlast
    rw [hm, Nat.add_sub_cancel] at hlast
    have hs := val_split 65536 (D n) m
    rw [val_drop, List.drop_eq_nil_of_le (show (D n).length ≤ m + 1 by omega), val_nil, Nat.mul_zero, Nat.add_zero, D_val] at hs
    have ht : val 65536 ((D n).take m) < 65536 ^ m := by have := val_lt ((D_wf n).take m); rwa [List.length_take, Nat.min_eq_left (by omega)] at this
    rw [← hx.1]
    generalize ((D n).getD m 0).toNat = x at *
    have hx0 : 0 < x := by omega
    have hbl : blen x ≤ 16 := blen_le (by omega)
    rw [Bits_loop x _ k (by omega) (by omega) (by omega) (by omega)]
    have h1 := lt_blen x
    have h2 := blen_ge hx0
    have h3 := blen_pos hx0
    obtain ⟨q, hq⟩ : ∃ q, blen x = q + 1 := ⟨blen x - 1, by omega⟩
    rw [hq] at h1 h2 ⊢
    rw [Nat.add_sub_cancel] at h2
    have hP : 65536 ^ m = 2 ^ (16 * m) := by rw [Nat.pow_mul]
    rw [hP] at hs ht
    have : blen n = (16 * m + q) + 1 := by
      apply blen_eq
      · rw [Nat.pow_add, hs]
        exact Nat.le_trans (Nat.mul_le_mul_left _ h2) (Nat.le_add_left _ _)
      · rw [show 16 * m + q + 1 = 16 * m + (q + 1) by omega, Nat.pow_add, hs]
        have h4 := Nat.mul_le_mul_left (2 ^ (16 * m)) (show x + 1 ≤ 2 ^ (q + 1) from h1)
        rw [Nat.mul_add, Nat.mul_one] at h4
        omega
    rw [this]
    congr 1
theorem Few_loop (n m : Nat) (hm : 0 < m) (L : Nat) (hL : L ≤ 274877906944) (hl : (D n).length ≤ L) (hm2 : (D m).length + 5 ≤ L) (d : Nat) : ∀ (q r k : Nat), d ≤ 60 → 60 * L + 60 * d + 500 < k → r ≤ n → r < m * 2 ^ d → q * (m * 2 ^ d) + r = n → q < 2 ^ (60 - d) →
    vernierref01_Few.l0 k (D r) (D m) q ((d : Int) - 1) = some (((n / m : Nat) : Int), D (n % m)) := by
  induction d with
  | zero =>
    intro q r k hd hk hrn hr hv hq
    obtain ⟨k, rfl⟩ : ∃ m, k = m + 1 := ⟨k - 1, by omega⟩
    simp only [vernierref01_Few.l0]
    rw [Nat.pow_zero, Nat.mul_one] at hr hv
    rw [if_neg (by omega)]
    have e1 : n / m = q := by rw [← hv, Nat.mul_comm, Nat.mul_add_div hm, Nat.div_eq_of_lt hr, Nat.add_zero]
    have e2 : n % m = r := by rw [← hv, Nat.mul_comm, Nat.mul_add_mod, Nat.mod_eq_of_lt hr]
    rw [e1, e2]
  | succ d ih =>
    intro q r k hd hk hrn hr hv hq
    obtain ⟨k, rfl⟩ : ∃ m, k = m + 1 := ⟨k - 1, by omega⟩
    simp only [vernierref01_Few.l0]
    have hls := len_shl m d
    have hlr : (D r).length ≤ L := Nat.le_trans (digs_len_mono (by omega) hrn) hl
    rw [show (((d + 1 : Nat) : Int) - 1) = (d : Int) by omega, if_pos (by omega), Shl_f m d (by omega) (by omega) (by omega)]
    simp only [Option.bind_some]
    rw [Cmp_f r (m * 2 ^ d) (by unfold Few_; omega) (by unfold Few_; omega) (by omega)]
    simp only [Option.bind_some]
    have hq64 : q < 2 ^ 59 := Nat.lt_of_lt_of_le hq (Nat.pow_le_pow_right (by omega) (by omega))
    have h2q : 2 ^ (60 - d) = 2 * 2 ^ (60 - (d + 1)) := by rw [show 60 - d = 60 - (d + 1) + 1 by omega, Nat.pow_succ, Nat.mul_comm]
    have e2 : m * 2 ^ (d + 1) = m * 2 ^ d * 2 := by rw [Nat.pow_succ, Nat.mul_assoc]
    rw [e2] at hr hv
    generalize hM : m * 2 ^ d = M at *
    unfold sign3
    rw [w64 (x := (d : Int) - 1) (by omega) (by omega)]
    by_cases h : r < M
    · rw [if_pos h, if_neg (by omega), u64_in (by omega) (by omega)]
      have := ih (2 * q) r k (by omega) (by omega) hrn h (by rw [← hv]; rw [Nat.mul_comm 2 q, Nat.mul_assoc, Nat.mul_comm 2 M]) (by omega)
      rw [← this]; congr 1
    · rw [if_neg h, if_pos (by split <;> omega), Sub_f r M (by unfold Few_; omega) (by unfold Few_; omega) (by omega), if_neg h]
      simp only [Option.bind_some]
      rw [u64_in (x := 2 * (q : Int)) (by omega) (by omega), u64_in (by omega) (by omega)]
      have := ih (2 * q + 1) (r - M) k (by omega) (by omega) (by omega) (by omega) (by rw [← hv, Nat.add_mul, Nat.one_mul, Nat.mul_comm 2 q, Nat.mul_assoc, Nat.mul_comm 2 M]; omega) (by omega)
      rw [← this]; congr 1
theorem Few_f (n m : Nat) (hm : 0 < m) (h : n < m * 2 ^ 60) (L : Nat) (hL : L ≤ 274877906944) (hl : (D n).length ≤ L) (hm2 : (D m).length + 5 ≤ L) {k : Nat} (hk : 60 * L + 5000 < k) : vernierref01_Few.f k (D n) (D m) = some (((n / m : Nat) : Int), D (n % m)) := by
  unfold vernierref01_Few.f
  exact Few_loop n m hm L hL hl hm2 60 0 n k (by omega) (by omega) (Nat.le_refl _) h (by rw [Nat.zero_mul, Nat.zero_add]) (by decide)
end Go.Proofs.Ytjbpchebabhoeaa.Rf
end
section
set_option linter.unusedVariables false
set_option linter.unusedSimpArgs false
namespace Go.Proofs.Ytjbpchebabhoeaa.Fl
open Go.RowKit Go.Proofs.Ytjbpchebabhoeaa.P Go.Proofs.Ytjbpchebabhoeaa.X Go.Proofs.Ytjbpchebabhoeaa.Bt Go.Proofs.YtjbpchebabhoeaaW.PrintWords
def Word (a : Int) : Prop := 0 ≤ a ∧ a < 18446744073709551616
def cls (a : Int) : Int := if a / 4503599627370496 % 2048 = 2047 then (if a % 4503599627370496 = 0 then 2 else 3) else (if a / 4503599627370496 % 2048 = 0 then (if a % 4503599627370496 = 0 then 0 else 1) else 1)
def sgn (a : Int) : Bool := decide (9223372036854775808 ≤ a)
def sig (a : Int) : Nat := if a / 4503599627370496 % 2048 = 0 then (a % 4503599627370496).toNat else (a % 4503599627370496).toNat + 4503599627370496
def xpo (a : Int) : Int := if a / 4503599627370496 % 2048 = 0 then -1074 else a / 4503599627370496 % 2048 - 1075
def sgv (neg : Bool) : Int := if neg = true then 9223372036854775808 else 0
theorem Class_f {k : Nat} (hk : 1 ≤ k) {a : Int} (h : Word a) : parts_Class.f k a = some (cls a) := by
  obtain ⟨k, rfl⟩ : ∃ m, k = m + 1 := ⟨k - 1, by omega⟩
  obtain ⟨h0, h1⟩ := h
  unfold parts_Class.f cls
  rw [and_2047 (by omega) (by omega), and_frac h0 h1]
  by_cases e : a / 4503599627370496 % 2048 = 2047
  · rw [if_pos e, if_pos e]
    simp only [parts_Class.j0]
    by_cases f : a % 4503599627370496 = 0
    · rw [f]; simp [e]
    · rw [if_pos (by simpa using f), if_neg f]
  · rw [if_neg e, if_neg e]
    simp only [parts_Class.j0]
    rw [if_neg (by decide), if_neg e]
    split
    · split <;> rfl
    · rfl
theorem sign_ne {a : Int} (h : Word a) : ((Go.bits .and .u64 a 9223372036854775808) != 0) = sgn a := by
  rw [and_sign h.1 h.2]
  unfold sgn
  by_cases e : 9223372036854775808 ≤ a
  · rw [if_pos e, decide_eq_true e]; rfl
  · rw [if_neg e, decide_eq_false e]; rfl
theorem Split_f {a : Int} (h : Word a) (hf : a / 4503599627370496 % 2048 ≠ 2047) : parts_Split.f a = some (sgn a, (sig a : Int), xpo a, 0) := by
  have hs := sign_ne h
  obtain ⟨h0, h1⟩ := h
  unfold parts_Split.f sig xpo
  rw [and_2047 (by omega) (by omega), w64 (x := a / 4503599627370496 % 2048) (by omega) (by omega), and_frac h0 h1, if_neg hf, hs]
  by_cases e : a / 4503599627370496 % 2048 = 0
  · rw [if_pos e, if_pos e, if_pos e, Int.toNat_of_nonneg (by omega)]
  · rw [if_neg e, if_neg e, if_neg e, or_hidden (by omega) (by omega), w64 (by omega) (by omega)]
    have : ((a % 4503599627370496).toNat + 4503599627370496 : Nat) = (a % 4503599627370496 + 4503599627370496 : Int) := by omega
    rw [this]
theorem Split_inf {a : Int} (h : Word a) (hf : a / 4503599627370496 % 2048 = 2047) : parts_Split.f a = some (false, 0, 0, 23) := by
  obtain ⟨h0, h1⟩ := h
  unfold parts_Split.f
  rw [and_2047 (by omega) (by omega), w64 (x := a / 4503599627370496 % 2048) (by omega) (by omega), if_pos hf]
theorem Zero_f (neg : Bool) : parts_Zero.f neg = some (sgv neg) := by cases neg <;> rfl
theorem sgv_or (neg : Bool) : sgv neg = 0 ∨ sgv neg = 9223372036854775808 := by cases neg <;> simp [sgv]
theorem Inf_f (neg : Bool) : parts_Inf.f neg = some (sgv neg + 9218868437227405312) := by
  unfold parts_Inf.f
  rw [Zero_f]
  simp only [Option.bind_some]
  rw [or_sign (sgv_or neg) (by omega) (by omega)]
theorem two_words (hi lo n m B : Nat) (hW : 2 ^ n * 2 ^ m = B) (hl : lo < B) :
    (hi * B + lo) / 2 ^ n = hi * 2 ^ m + lo / 2 ^ n ∧ lo / 2 ^ n < 2 ^ m ∧ (hi * 2 ^ m + lo / 2 ^ n) / B = hi / 2 ^ n ∧ (hi * 2 ^ m + lo / 2 ^ n) % B = hi % 2 ^ n * 2 ^ m + lo / 2 ^ n ∧ hi * 2 ^ m % B = 2 ^ m * (hi % 2 ^ n) ∧ 2 ^ m * (hi % 2 ^ n) + lo / 2 ^ n < B := by
  have hn0 := Nat.two_pow_pos n
  have hm0 := Nat.two_pow_pos m
  have hlo : lo / 2 ^ n < 2 ^ m := by rw [Nat.div_lt_iff_lt_mul hn0, Nat.mul_comm, hW]; exact hl
  have h2 : hi % 2 ^ n < 2 ^ n := Nat.mod_lt _ hn0
  have h3 : (hi % 2 ^ n + 1) * 2 ^ m ≤ 2 ^ n * 2 ^ m := Nat.mul_le_mul_right _ h2
  rw [hW, Nat.add_mul] at h3
  refine ⟨?_, hlo, ?_, ?_, ?_, ?_⟩
  · rw [← hW, show hi * (2 ^ n * 2 ^ m) + lo = lo + 2 ^ n * (hi * 2 ^ m) by rw [Nat.add_comm, Nat.mul_left_comm], Nat.add_mul_div_left _ _ hn0, Nat.add_comm]
  · rw [← hW, Nat.mul_comm (2 ^ n), ← Nat.div_div_eq_div_mul, Nat.add_comm, Nat.add_mul_div_right _ _ hm0, Nat.div_eq_of_lt hlo, Nat.zero_add]
  · have h1 : hi * 2 ^ m = B * (hi / 2 ^ n) + hi % 2 ^ n * 2 ^ m := by
      conv => lhs; rw [← Nat.div_add_mod hi (2 ^ n)]
      rw [Nat.add_mul, ← hW, Nat.mul_right_comm]
    rw [h1, Nat.add_assoc, Nat.mul_add_mod]
    apply Nat.mod_eq_of_lt
    omega
  · rw [← hW, Nat.mul_comm hi, Nat.mul_comm (2 ^ n), Nat.mul_mod_mul_left]
  · rw [Nat.mul_comm]; omega
theorem shr_f {N hi lo : Nat} (hN : N = hi * 18446744073709551616 + lo) (hh : hi < 18446744073709551616) (hl : lo < 18446744073709551616) (n : Nat) (hn : n < 9223372036854775808) :
    parts_wide_shr.f hi lo n = some (((N / 2 ^ n / 18446744073709551616 : Nat) : Int), ((N / 2 ^ n % 18446744073709551616 : Nat) : Int)) := by
  unfold parts_wide_shr.f
  by_cases a : (n : Int) ≥ 128
  · rw [if_pos a]
    have hN : N < 2 ^ n := by
      have : 2 ^ 128 ≤ 2 ^ n := Nat.pow_le_pow_right (by omega) (by omega)
      omega
    rw [Nat.div_eq_of_lt hN]; rfl
  · rw [if_neg a]
    by_cases b : (n : Int) ≥ 64
    · rw [if_pos b, w64 (by omega) (by omega), if_pos (by omega), shr_u64 (by omega) (by omega)]
      have e : N / 2 ^ n = hi / 2 ^ (n - 64) := by
        have e0 : 2 ^ n = 2 ^ 64 * 2 ^ (n - 64) := by rw [← Nat.pow_add, show 64 + (n - 64) = n by omega]
        rw [e0, ← Nat.div_div_eq_div_mul, show N / 2 ^ 64 = hi by omega]
      have hlt : hi / 2 ^ (n - 64) < 18446744073709551616 := Nat.lt_of_le_of_lt (Nat.div_le_self _ _) hh
      rw [e, Nat.div_eq_of_lt hlt, Nat.mod_eq_of_lt hlt]
      rw [show ((n : Int) - 64).toNat = n - 64 by omega, Int.natCast_ediv]
      rfl
    · rw [if_neg b]
      by_cases c : (n : Int) = 0
      · rw [if_pos c]
        obtain rfl : n = 0 := by omega
        simp only [Nat.pow_zero, Nat.div_one]
        have e1 : N / 18446744073709551616 = hi := by omega
        have e2 : N % 18446744073709551616 = lo := by omega
        rw [e1, e2]
      · rw [if_neg c, if_pos (by omega), w64 (by omega) (by omega), if_pos (by omega), shr_u64 (by omega) (by omega), shr_u64 (by omega) (by omega), shl_u64 (by omega) (by omega)]
        obtain ⟨m, hm⟩ : ∃ m, n + m = 64 := ⟨64 - n, by omega⟩
        have hmn : ((64 : Int) - n).toNat = m := by omega
        rw [hmn, show ((n : Int)).toNat = n by omega]
        have hW : 2 ^ n * 2 ^ m = 18446744073709551616 := by rw [← Nat.pow_add, hm]
        obtain ⟨e, hlo, e1, e2, e3, e4⟩ := two_words hi lo n m _ hW hl
        rw [← hN] at e
        have e5 : (hi : Int) * ((2 ^ m : Nat) : Int) % 18446744073709551616 = ((2 ^ m * (hi % 2 ^ n) : Nat) : Int) := by
          rw [← e3, ← Int.natCast_mul]
          omega
        have hb := or_add_nat m (hi % 2 ^ n) (lo / 2 ^ n) hlo e4
        have hc := or_comm_nat (lo / 2 ^ n) (2 ^ m * (hi % 2 ^ n)) (by omega) (by omega)
        rw [e, e1, e2, e5, Int.natCast_ediv hi, ← Int.natCast_ediv lo, hc, hb, Nat.mul_comm (hi % 2 ^ n)]
theorem len_f {N hi lo : Nat} (hN : N = hi * 18446744073709551616 + lo) (hh : hi < 18446744073709551616) (hl : lo < 18446744073709551616) : parts_wide_len.f hi lo = some ((blen N : Nat) : Int) := by
  unfold parts_wide_len.f bits_Len64.f
  rw [if_pos (show 0 ≤ (lo : Int) ∧ (lo : Int) ≤ 18446744073709551615 by omega), if_pos (show 0 ≤ (hi : Int) ∧ (hi : Int) ≤ 18446744073709551615 by omega)]
  simp only [Option.bind_some, Int.toNat_natCast]
  rw [bitLen_eq hi hh, bitLen_eq lo hl]
  by_cases e : (hi : Int) = 0
  · rw [if_pos e]
    obtain rfl : hi = 0 := by omega
    rw [hN, Nat.zero_mul, Nat.zero_add]
  · rw [if_neg e]
    have h1 := blen_le (n := hi) (k := 64) (by omega)
    rw [w64 (by omega) (by omega)]
    have hp : 0 < hi := by omega
    have h2 := blen_ge hp
    have h3 := lt_blen hi
    have h4 := blen_pos hp
    obtain ⟨m, hm⟩ : ∃ m, blen hi = m + 1 := ⟨blen hi - 1, by omega⟩
    rw [hm] at h2 h3 ⊢
    rw [Nat.add_sub_cancel] at h2
    have e2 : blen N = (64 + m) + 1 := by
      apply blen_eq
      · rw [Nat.pow_add, Nat.mul_comm]
        have := Nat.mul_le_mul_right (2 ^ 64) h2
        omega
      · rw [show 64 + m + 1 = 64 + (m + 1) by omega, Nat.pow_add, Nat.mul_comm]
        have := Nat.mul_le_mul_right (2 ^ 64) h3
        rw [Nat.succ_mul] at this
        omega
    rw [e2]
    congr 1
theorem bit_step (N i : Nat) : N % 2 ^ (i + 1) = N % 2 ^ i + 2 ^ i * (N / 2 ^ i % 2) := Nat.mod_pow_succ
theorem low_ne {N i m : Nat} (h0 : N % 2 ^ i = 0) (hb : N / 2 ^ i % 2 = 1) (him : i < m) : N % 2 ^ m ≠ 0 := by
  have h := bit_step N i
  rw [h0, hb, Nat.zero_add, Nat.mul_one] at h
  intro hz
  have hd : 2 ^ (i + 1) ∣ 2 ^ m := Nat.pow_dvd_pow 2 (by omega)
  have : N % 2 ^ (i + 1) = 0 := Nat.mod_eq_zero_of_dvd (Nat.dvd_trans hd (Nat.dvd_of_mod_eq_zero hz))
  have := Nat.two_pow_pos i
  omega
theorem low_eq {N i : Nat} (h0 : N % 2 ^ i = 0) (hb : N / 2 ^ i % 2 = 0) : N % 2 ^ (i + 1) = 0 := by
  rw [bit_step, h0, hb, Nat.zero_add, Nat.mul_zero]
theorem par (N : Nat) : ((N % 18446744073709551616 : Nat) : Int) % 2 = ((N % 2 : Nat) : Int) := by omega
theorem cut_loop {N hi lo : Nat} (hN : N = hi * 18446744073709551616 + lo) (hh : hi < 18446744073709551616) (hl : lo < 18446744073709551616) (q : Int) (half : Bool) (m : Nat) (hm : m ≤ 128) (d : Nat) : ∀ (i k : Nat), i + d = m → d < k → N % 2 ^ i = 0 →
    parts_wide_cut.l0 k q half m i hi lo = some (q, half, decide (N % 2 ^ m ≠ 0)) := by
  induction d with
  | zero =>
    intro i k hi' hk h0
    obtain ⟨k, rfl⟩ : ∃ m, k = m + 1 := ⟨k - 1, by omega⟩
    obtain rfl : i = m := by omega
    simp only [parts_wide_cut.l0]
    rw [if_neg (by omega), decide_eq_false (fun h => h h0)]
  | succ d ih =>
    intro i k hi' hk h0
    obtain ⟨k, rfl⟩ : ∃ m, k = m + 1 := ⟨k - 1, by omega⟩
    simp only [parts_wide_cut.l0]
    rw [if_pos (by omega), shr_f hN hh hl i (by omega)]
    simp only [Option.bind_some]
    rw [and_1 (by omega) (by omega), par]
    by_cases e : ((N / 2 ^ i % 2 : Nat) : Int) = 1
    · rw [if_pos e, decide_eq_true (low_ne h0 (by omega) (by omega))]
    · rw [if_neg e, w64 (by omega) (by omega)]
      exact ih (i + 1) k (by omega) (by omega) (low_eq h0 (by omega))
theorem cut_f {N hi lo : Nat} (hN : N = hi * 18446744073709551616 + lo) (hh : hi < 18446744073709551616) (hl : lo < 18446744073709551616) (n : Nat) (hn0 : 0 < n) (hn : n < 9223372036854775808) {k : Nat} (hk : 200 ≤ k) :
    parts_wide_cut.f k hi lo n = some (((N / 2 ^ n % 18446744073709551616 : Nat) : Int), decide (N / 2 ^ (n - 1) % 2 = 1), decide (N % 2 ^ (n - 1) ≠ 0)) := by
  unfold parts_wide_cut.f
  rw [if_neg (by omega), shr_f hN hh hl n hn, w64 (by omega) (by omega), show ((n : Int) - 1) = ((n - 1 : Nat) : Int) by omega, shr_f hN hh hl (n - 1) (by omega)]
  simp only [Option.bind_some]
  rw [and_1 (by omega) (by omega), par]
  have hm : mn ((n - 1 : Nat) : Int) 128 = ((min (n - 1) 128 : Nat) : Int) := by unfold mn; split <;> omega
  rw [hm]
  have e1 : (((N / 2 ^ (n - 1) % 2 : Nat) : Int) == 1) = decide (N / 2 ^ (n - 1) % 2 = 1) := by
    rw [Bool.eq_iff_iff, beq_iff_eq, decide_eq_true_iff]
    omega
  have e2 : decide (N % 2 ^ (min (n - 1) 128) ≠ 0) = decide (N % 2 ^ (n - 1) ≠ 0) := by
    by_cases hc : n - 1 ≤ 128
    · rw [Nat.min_eq_left hc]
    · rw [Nat.min_eq_right (by omega)]
      have hN : N < 2 ^ 128 := by omega
      have hN2 : N < 2 ^ (n - 1) := Nat.lt_of_lt_of_le hN (Nat.pow_le_pow_right (by omega) (by omega))
      rw [Nat.mod_eq_of_lt hN, Nat.mod_eq_of_lt hN2]
  rw [e1]
  have hl := cut_loop hN hh hl ((N / 2 ^ n % 18446744073709551616 : Nat) : Int) (decide (N / 2 ^ (n - 1) % 2 = 1)) (min (n - 1) 128) (by omega) (min (n - 1) 128) 0 k (by omega) (by omega) (by rw [Nat.pow_zero, Nat.mod_one])
  rw [e2] at hl
  exact hl
theorem cut_up {hi lo : Nat} (hl : lo < 18446744073709551616) (n : Nat) (hn : n < 64) (k : Nat) (h : lo * 2 ^ n < 18446744073709551616) :
    parts_wide_cut.f k hi lo (-(n : Int)) = some (((lo * 2 ^ n : Nat) : Int), false, false) := by
  unfold parts_wide_cut.f
  rw [if_pos (by omega), w64 (by omega) (by omega), if_pos (by omega), shl_u64 (by omega) (by omega)]
  rw [show (- -(n : Int)).toNat = n by omega, ← Int.natCast_mul]
  congr 2
  omega
end Go.Proofs.Ytjbpchebabhoeaa.Fl
end
section
set_option linter.unusedVariables false
set_option linter.unusedSimpArgs false
namespace Go.Proofs.Ytjbpchebabhoeaa.Fl
open Go.RowKit Go.Proofs.Ytjbpchebabhoeaa.P Go.Proofs.Ytjbpchebabhoeaa.X Go.Proofs.Ytjbpchebabhoeaa.Bt Go.Proofs.YtjbpchebabhoeaaW.PrintWords
def upf (neg : Bool) (q : Nat) (half rest : Bool) (mode : Int) : Bool :=
  if mode = 1 then half else if mode = 2 then false else if mode = 3 then (if neg = true then false else (if half = true then true else rest)) else if mode = 4 then (if neg = true then (if half = true then true else rest) else false)
  else (if half = true then (if rest = true then true else decide (q % 2 = 1)) else false)
theorem up_f (neg : Bool) (q : Nat) (hq : q < 18446744073709551616) (half rest : Bool) (mode : Int) : parts_up.f neg q half rest mode = some (upf neg q half rest mode) := by
  unfold parts_up.f upf
  rw [and_1 (by omega) (by omega)]
  have e : ((q : Int) % 2 == 1) = decide (q % 2 = 1) := by
    rw [Bool.eq_iff_iff, beq_iff_eq, decide_eq_true_iff]
    omega
  rw [e]
  repeat' split
  all_goals rfl
def far (neg : Bool) (mode : Int) : Bool := if mode < 2 then true else if mode > 4 then true else if mode = 3 then !neg else if mode = 4 then neg else false
def ovr (neg : Bool) (mode : Int) : Int × Int := (sgv neg + (if far neg mode = true then 9218868437227405312 else 9218868437227405311), 20)
theorem greatest_f (neg : Bool) : parts_greatest.f neg = some (sgv neg + 9218868437227405311) := by
  unfold parts_greatest.f
  rw [Inf_f]
  simp only [Option.bind_some]
  rw [u64_in (by rcases sgv_or neg with h | h <;> rw [h] <;> omega) (by rcases sgv_or neg with h | h <;> rw [h] <;> omega)]
  congr 1
  omega
theorem over_f {k : Nat} (hk : 1 ≤ k) (neg : Bool) (mode : Int) : parts_over.f k neg mode = some (ovr neg mode) := by
  obtain ⟨k, rfl⟩ : ∃ m, k = m + 1 := ⟨k - 1, by omega⟩
  have h1 : parts_over.j0 (k + 1) neg true = some (sgv neg + 9218868437227405312, 20) := by
    simp only [parts_over.j0]; rw [if_true, Inf_f]; rfl
  have h2 : parts_over.j0 (k + 1) neg false = some (sgv neg + 9218868437227405311, 20) := by
    simp only [parts_over.j0]; rw [if_neg (by decide), greatest_f]; rfl
  unfold parts_over.f ovr far
  by_cases a : mode < 2
  · rw [if_pos a, if_pos a, h1]; rfl
  · rw [if_neg a, if_neg a]
    by_cases b : mode > 4
    · rw [if_pos b, if_pos b, h1]; rfl
    · rw [if_neg b, if_neg b]
      by_cases c : mode = 3
      · rw [if_pos c, if_pos c]
        cases neg
        · rw [if_neg (by decide), h1]; rfl
        · rw [if_pos rfl, if_neg (by omega), h2]; rfl
      · rw [if_neg c, if_neg c]
        by_cases d : mode = 4
        · rw [if_pos d, if_pos d]
          cases neg
          · rw [h2]; rfl
          · rw [h1]; rfl
        · rw [if_neg d, if_neg d, h2]; rfl
def pk (neg : Bool) (q : Nat) (e : Int) : Int := sgv neg + (if q < 4503599627370496 then (q : Int) else (e + 1075) * 4503599627370496 + ((q : Int) - 4503599627370496))
theorem put_f (neg : Bool) (q : Nat) (hq : q < 9007199254740992) (e : Int) (he0 : q < 4503599627370496 ∨ -1075 ≤ e) (he : q < 4503599627370496 ∨ e < 972) : parts_put.f neg q e = some (pk neg q e) := by
  unfold parts_put.f pk
  rw [Zero_f]
  simp only [Option.bind_some]
  by_cases c : (q : Int) < 4503599627370496
  · rw [if_pos c, if_pos (by omega), or_sign (sgv_or neg) (by omega) (by omega)]
  · rw [if_neg c, if_neg (by omega)]
    have he1 : -1075 ≤ e := by omega
    have he2 : e < 972 := by omega
    rw [w64 (by omega) (by omega), u64_in (x := e + 1075) (by omega) (by omega), u64_in (by omega) (by omega), and_frac (by omega) (by omega), or_sign (sgv_or neg) (by omega) (by omega)]
    rw [or_52 (by rcases sgv_or neg with h | h <;> rw [h] <;> omega) (by rcases sgv_or neg with h | h <;> rw [h] <;> omega) (by rcases sgv_or neg with h | h <;> rw [h] <;> omega) (by omega) (by omega)]
    congr 1
    omega
def fin (neg : Bool) (q : Nat) (e : Int) (half rest tiny : Bool) (mode : Int) : Int × Int :=
  let q1 := if upf neg q half rest mode = true then q + 1 else q
  let q2 := if q1 = 9007199254740992 then 4503599627370496 else q1
  let e2 := if q1 = 9007199254740992 then e + 1 else e
  if 4503599627370496 ≤ q2 ∧ 972 ≤ e2 then ovr neg mode else (pk neg q2 e2, if half = true ∨ rest = true then (if tiny = true then 24 else 16) else 0)
theorem tail_f {k : Nat} (hk : 10 ≤ k) (neg : Bool) (exp mode n : Int) (e : Int) (q : Nat) (half rest : Bool) (hq : q < 9007199254740992) (hx0 : -100000 ≤ exp) (hx1 : exp ≤ 100000) (hn0 : 0 ≤ n) (hn : n ≤ 1000) (he0 : -1074 ≤ e) (he : e ≤ 200000) :
    parts_Round.j1 k neg exp mode n e q half rest = some (fin neg q e half rest (decide (exp + n - 1 < -1022)) mode) := by
  have tail3 : ∀ (k : Nat) (fl : Int), 8 ≤ k → fl = (if half = true ∨ rest = true then (if decide (exp + n - 1 < -1022) = true then 24 else 16) else 0) →
      parts_Round.j3 k neg mode e q half rest fl = some (fin neg q e half rest (decide (exp + n - 1 < -1022)) mode) := by
    intro k fl hk hfl
    obtain ⟨k, rfl⟩ : ∃ m, k = m + 4 := ⟨k - 4, by omega⟩
    simp only [parts_Round.j3]
    rw [up_f neg q (by omega)]
    simp only [Option.bind_some]
    have j4 : ∀ q1 : Nat, q1 ≤ 9007199254740992 → parts_Round.j4 (k + 3) neg mode e q1 fl = some (if 4503599627370496 ≤ (if q1 = 9007199254740992 then 4503599627370496 else q1) ∧ 972 ≤ (if q1 = 9007199254740992 then e + 1 else e) then ovr neg mode else (pk neg (if q1 = 9007199254740992 then 4503599627370496 else q1) (if q1 = 9007199254740992 then e + 1 else e), fl)) := by
      intro q1 hq1
      simp only [parts_Round.j4]
      have j5 : ∀ (q2 : Nat) (e2 : Int), q2 < 9007199254740992 → -1074 ≤ e2 → e2 ≤ 300000 → parts_Round.j5 (k + 2) neg mode e2 q2 fl = some (if 4503599627370496 ≤ q2 ∧ 972 ≤ e2 then ovr neg mode else (pk neg q2 e2, fl)) := by
        intro q2 e2 hq2 h1 h2
        simp only [parts_Round.j5]
        have j6t : parts_Round.j6 (k + 1) neg mode e2 q2 fl true = some (ovr neg mode) := by
          simp only [parts_Round.j6]
          rw [if_true]
          by_cases hk0 : 1 ≤ k
          · rw [over_f hk0]; rfl
          · omega
        have j6f : (q2 < 4503599627370496 ∨ e2 < 972) → parts_Round.j6 (k + 1) neg mode e2 q2 fl false = some (pk neg q2 e2, fl) := by
          intro h
          simp only [parts_Round.j6]
          rw [if_neg (by decide), put_f neg q2 hq2 e2 (by omega) h]
          rfl
        by_cases c : (q2 : Int) ≥ 4503599627370496
        · rw [if_pos c, w64 (by omega) (by omega)]
          by_cases d : e2 + 1075 ≥ 2047
          · rw [decide_eq_true d, j6t, if_pos (by omega)]
          · rw [decide_eq_false d, j6f (by omega), if_neg (by omega)]
        · rw [if_neg c, j6f (by omega), if_neg (by omega)]
      by_cases c : (q1 : Int) = 9007199254740992
      · have c2 : q1 = 9007199254740992 := by omega
        rw [if_pos c, w64 (by omega) (by omega)]
        have := j5 4503599627370496 (e + 1) (by omega) (by omega) (by omega)
        rw [if_pos c2, if_pos c2]
        exact this
      · have c2 : ¬ q1 = 9007199254740992 := by omega
        rw [if_neg c, if_neg c2, if_neg c2]
        exact j5 q1 e (by omega) (by omega) (by omega)
    unfold fin
    rw [← hfl]
    by_cases u : upf neg q half rest mode = true
    · rw [if_pos u, u64_in (by omega) (by omega)]
      have := j4 (q + 1) (by omega)
      simp only [if_pos u]
      exact this
    · rw [if_neg u]
      simp only [if_neg u]
      exact j4 q (by omega)
  obtain ⟨k, rfl⟩ : ∃ m, k = m + 2 := ⟨k - 2, by omega⟩
  simp only [parts_Round.j1]
  have j2 : ∀ b : Bool, b = (if half = true then true else rest) → parts_Round.j2 (k + 1) neg exp mode n e q half rest 0 b = some (fin neg q e half rest (decide (exp + n - 1 < -1022)) mode) := by
    intro b hb
    simp only [parts_Round.j2]
    rw [w64 (x := exp + n) (by omega) (by omega), w64 (by omega) (by omega)]
    cases b with
    | true =>
      have h : half = true ∨ rest = true := by
        by_cases hh : half = true
        · exact .inl hh
        · rw [if_neg hh] at hb; exact .inr hb.symm
      rw [if_pos rfl]
      by_cases t : exp + n - 1 < -1022
      · rw [if_pos t]
        exact tail3 k _ (by omega) (by rw [if_pos h, if_pos (decide_eq_true t)]; rfl)
      · rw [if_neg t]
        exact tail3 k _ (by omega) (by rw [if_pos h, if_neg (by rw [decide_eq_false t]; decide)])
    | false =>
      have h : ¬ (half = true ∨ rest = true) := by
        rintro (hh | hh)
        · rw [if_pos hh] at hb; cases hb
        · by_cases hf : half = true
          · rw [if_pos hf] at hb; cases hb
          · rw [if_neg hf, hh] at hb; cases hb
      rw [if_neg (by decide)]
      exact tail3 k _ (by omega) (by rw [if_neg h])
  by_cases h : half = true
  · rw [if_pos h]; exact j2 true (by rw [if_pos h])
  · rw [if_neg h]; exact j2 rest (by rw [if_neg h])
def R (neg : Bool) (N : Nat) (exp : Int) (more : Bool) (mode : Int) : Int × Int :=
  let e := max (exp + blen N - 53) (-1074)
  if e ≤ exp then fin neg (N * 2 ^ (exp - e).toNat) e false more (decide (exp + blen N - 1 < -1022)) mode
  else fin neg (N / 2 ^ (e - exp).toNat) e (decide (N / 2 ^ ((e - exp).toNat - 1) % 2 = 1)) (decide (N % 2 ^ ((e - exp).toNat - 1) ≠ 0) || more) (decide (exp + blen N - 1 < -1022)) mode
def clamp (x : Int) : Int := mn (mx x (-16384)) 16384
theorem clamp_in {x : Int} (h0 : -16384 ≤ x) (h1 : x ≤ 16384) : clamp x = x := by
  unfold clamp mn mx
  split <;> split at * <;> omega
theorem clamp_bound (x : Int) : -16384 ≤ clamp x ∧ clamp x ≤ 16384 := by
  unfold clamp mn mx
  split <;> split at * <;> omega
theorem mul_pow_lt {N a b : Nat} (h : N < 2 ^ a) : N * 2 ^ b < 2 ^ (a + b) := by
  rw [Nat.pow_add]
  exact Nat.mul_lt_mul_of_pos_right h (Nat.two_pow_pos b)
theorem div_pow_lt {N a b : Nat} (h : N < 2 ^ (a + b)) : N / 2 ^ b < 2 ^ a := by
  rw [Nat.div_lt_iff_lt_mul (Nat.two_pow_pos b), ← Nat.pow_add]
  exact h
theorem Round_f {N hi lo : Nat} (hN : N = hi * 18446744073709551616 + lo) (hh : hi < 18446744073709551616) (hl : lo < 18446744073709551616) (hp : 0 < N) (neg : Bool) (exp : Int) (more : Bool) (mode : Int) {k : Nat} (hk : 220 ≤ k) :
    parts_Round.f k neg hi lo exp more mode = some (R neg N (clamp exp) (more && (decide (55 ≤ blen N) || decide (clamp exp ≤ -1080))) mode) := by
  unfold parts_Round.f
  have hb0 := blen_pos hp
  have hb1 : blen N ≤ 128 := blen_le (by omega)
  have hlt := lt_blen N
  rw [len_f hN hh hl]
  simp only [Option.bind_some]
  rw [if_neg (by omega)]
  obtain ⟨c0, c1⟩ := clamp_bound exp
  change (if more = true then (if ((blen N : Nat) : Int) ≥ 55 then (parts_Round.j0 k neg (clamp exp) true mode (blen N : Nat) hi lo) else (parts_Round.j0 k neg (clamp exp) (decide (clamp exp ≤ -1080)) mode (blen N : Nat) hi lo)) else (parts_Round.j0 k neg (clamp exp) false mode (blen N : Nat) hi lo)) = _
  generalize clamp exp = x at c0 c1
  have j0 : ∀ b : Bool, parts_Round.j0 k neg x b mode (blen N : Nat) hi lo = some (R neg N x b mode) := by
    intro b
    obtain ⟨k, rfl⟩ : ∃ m, k = m + 1 := ⟨k - 1, by omega⟩
    simp only [parts_Round.j0]
    rw [w64 (x := x + (blen N : Nat)) (by omega) (by omega), w64 (x := x + (blen N : Nat) - 1) (by omega) (by omega), w64 (x := x + (blen N : Nat) - 1 - 52) (by omega) (by omega)]
    have hm : mx (x + (blen N : Nat) - 1 - 52) (-1074) = max (x + (blen N : Nat) - 53) (-1074) := by
      unfold mx; split <;> omega
    rw [hm]
    unfold R
    generalize he : max (x + (blen N : Nat) - 53) (-1074) = e
    have e0 : -1074 ≤ e := by omega
    have e1 : x + (blen N : Nat) - 53 ≤ e := by omega
    have e2 : e ≤ 200000 := by omega
    rw [w64 (by omega) (by omega)]
    by_cases c : e ≤ x
    · simp only [if_pos c]
      obtain ⟨s, hs⟩ : ∃ s : Nat, x - e = s := ⟨(x - e).toNat, by omega⟩
      rw [show e - x = -(s : Int) by omega, hs, Int.toNat_natCast]
      have hn : blen N + s ≤ 53 := by omega
      have hN2 : N * 2 ^ s < 2 ^ (blen N + s) := mul_pow_lt hlt
      have hN3 : 2 ^ (blen N + s) ≤ 2 ^ 53 := Nat.pow_le_pow_right (by omega) hn
      have hNs : N ≤ N * 2 ^ s := Nat.le_mul_of_pos_right _ (Nat.two_pow_pos s)
      have hlo : lo = N := by omega
      rw [cut_up hl s (by omega) k (by rw [hlo]; omega)]
      simp only [Option.bind_some]
      rw [if_neg (by decide), hlo]
      have := tail_f (k := k) (by omega) neg x mode (blen N : Nat) e (N * 2 ^ s) false b (by omega) (by omega) (by omega) (by omega) (by omega) e0 e2
      exact this
    · simp only [if_neg c]
      obtain ⟨s, hs⟩ : ∃ s : Nat, e - x = s := ⟨(e - x).toNat, by omega⟩
      rw [hs, Int.toNat_natCast, cut_f hN hh hl s (by omega) (by omega) (by omega)]
      simp only [Option.bind_some]
      have hq : N / 2 ^ s < 2 ^ 53 := div_pow_lt (Nat.lt_of_lt_of_le hlt (Nat.pow_le_pow_right (by omega) (by omega)))
      rw [Nat.mod_eq_of_lt (show N / 2 ^ s < 18446744073709551616 by omega)]
      have ht := fun r : Bool => tail_f (k := k) (by omega) neg x mode (blen N : Nat) e (N / 2 ^ s) (decide (N / 2 ^ (s - 1) % 2 = 1)) r (by omega) (by omega) (by omega) (by omega) (by omega) e0 e2
      by_cases d : decide (N % 2 ^ (s - 1) ≠ 0) = true
      · rw [if_pos d, d, Bool.true_or]; exact ht true
      · rw [if_neg d, eq_false_of_ne_true d, Bool.false_or]; exact ht b
  cases more with
  | false =>
    rw [if_neg (by decide), Bool.false_and]; exact j0 false
  | true =>
    rw [if_pos rfl, Bool.true_and]
    by_cases d : ((blen N : Nat) : Int) ≥ 55
    · rw [if_pos d, decide_eq_true (show 55 ≤ blen N by omega), Bool.true_or]; exact j0 true
    · rw [if_neg d, decide_eq_false (show ¬ 55 ≤ blen N by omega), Bool.false_or]; exact j0 _
end Go.Proofs.Ytjbpchebabhoeaa.Fl
end
section
set_option linter.unusedVariables false
set_option linter.unusedSimpArgs false
namespace Go.Proofs.Ytjbpchebabhoeaa.Fl
open Go.RowKit Go.Proofs.Ytjbpchebabhoeaa.P Go.Proofs.Ytjbpchebabhoeaa.X Go.Proofs.Ytjbpchebabhoeaa.Bt Go.Proofs.YtjbpchebabhoeaaW.PrintWords
def Can (q : Nat) (e : Int) : Prop := q < 9007199254740992 ∧ -1074 ≤ e ∧ (e = -1074 ∨ 4503599627370496 ≤ q) ∧ e ≤ 971
theorem upf_no (neg : Bool) (q : Nat) (mode : Int) : upf neg q false false mode = false := by
  unfold upf
  repeat' split
  all_goals first | rfl | simp_all
theorem fin_no (neg : Bool) (q : Nat) (e : Int) (tiny : Bool) (mode : Int) (hq : q < 9007199254740992) (he : e ≤ 971) : fin neg q e false false tiny mode = (pk neg q e, 0) := by
  unfold fin
  rw [upf_no]
  simp only [Bool.false_eq_true, if_false, or_self]
  rw [if_neg (show ¬ q = 9007199254740992 by omega), if_neg (show ¬ q = 9007199254740992 by omega), if_neg (by omega)]
theorem blen_can {q : Nat} {e : Int} (h : Can q e) : max (e + blen q - 53) (-1074) = e := by
  obtain ⟨h1, h2, h3, h4⟩ := h
  have a := blen_le (n := q) (k := 53) (by omega)
  rcases h3 with h3 | h3
  · omega
  · have : blen q = 52 + 1 := blen_eq (by omega) (by omega)
    omega
theorem R_exact (neg : Bool) {N : Nat} (hp : 0 < N) (exp : Int) {q : Nat} {e : Int} (h : Can q e) (hv : (∃ s : Nat, e = exp + s ∧ N = q * 2 ^ s) ∨ (∃ s : Nat, exp = e + s ∧ q = N * 2 ^ s)) (mode : Int) :
    R neg N exp false mode = (pk neg q e, 0) := by
  have hc := blen_can h
  unfold R
  rcases hv with ⟨s, rfl, rfl⟩ | ⟨s, rfl, rfl⟩
  · have hq : 0 < q := Nat.pos_of_ne_zero (fun h0 => by subst h0; simp at hp)
    rw [blen_mul_pow hq]
    have e1 : exp + ((blen q + s : Nat) : Int) - 53 = exp + s + blen q - 53 := by omega
    simp only [e1, hc]
    by_cases c : exp + (s : Int) ≤ exp
    · rw [if_pos c]
      obtain rfl : s = 0 := by omega
      rw [show (exp - (exp + ((0 : Nat) : Int))).toNat = 0 by omega, Nat.pow_zero, Nat.mul_one, Nat.mul_one]
      exact fin_no _ _ _ _ _ h.1 h.2.2.2
    · rw [if_neg c, show (exp + (s : Int) - exp).toNat = s by omega]
      obtain ⟨t, rfl⟩ : ∃ t, s = t + 1 := ⟨s - 1, by omega⟩
      rw [Nat.mul_div_cancel _ (Nat.two_pow_pos _), Nat.add_sub_cancel]
      have e2 : q * 2 ^ (t + 1) = q * 2 * 2 ^ t := by rw [Nat.pow_succ, Nat.mul_comm (2 ^ t), Nat.mul_assoc]
      have e3 : q * 2 ^ (t + 1) / 2 ^ t % 2 = 0 := by rw [e2, Nat.mul_div_cancel _ (Nat.two_pow_pos _)]; omega
      have e4 : q * 2 ^ (t + 1) % 2 ^ t = 0 := by rw [e2]; exact Nat.mul_mod_left _ _
      rw [e3, e4]
      exact fin_no _ _ _ _ _ h.1 h.2.2.2
  · rw [blen_mul_pow hp] at hc
    have e1 : e + (s : Int) + (blen N : Int) - 53 = e + ((blen N + s : Nat) : Int) - 53 := by omega
    simp only [e1, hc]
    rw [if_pos (by omega), show (e + (s : Int) - e).toNat = s by omega]
    exact fin_no _ _ _ _ _ h.1 h.2.2.2
theorem R_sticky (neg : Bool) {N : Nat} (hb : 55 ≤ blen N) (exp : Int) (j r : Nat) (hr : r < 2 ^ j) (mode : Int) :
    R neg N (exp + j) (decide (r ≠ 0)) mode = R neg (N * 2 ^ j + r) exp false mode := by
  have hp : 0 < N := Nat.pos_of_ne_zero (fun h0 => by subst h0; rw [blen_zero] at hb; omega)
  have hj := Nat.two_pow_pos j
  have hbl : blen (N * 2 ^ j + r) = blen N + j := by
    have h1 := blen_ge hp
    have h2 := lt_blen N
    obtain ⟨m, hm⟩ : ∃ m, blen N = m + 1 := ⟨blen N - 1, by omega⟩
    rw [hm] at h1 h2 ⊢
    rw [Nat.add_sub_cancel] at h1
    rw [show m + 1 + j = (m + j) + 1 by omega]
    apply blen_eq
    · rw [Nat.pow_add]
      exact Nat.le_trans (Nat.mul_le_mul_right _ h1) (Nat.le_add_right _ _)
    · rw [show m + j + 1 = m + 1 + j by omega, Nat.pow_add]
      have := Nat.mul_le_mul_right (2 ^ j) (show N + 1 ≤ 2 ^ (m + 1) from h2)
      rw [Nat.add_mul, Nat.one_mul] at this
      omega
  unfold R
  rw [hbl]
  have e1 : exp + (j : Int) + (blen N : Int) - 53 = exp + ((blen N + j : Nat) : Int) - 53 := by omega
  have e2 : exp + (j : Int) + (blen N : Int) - 1 = exp + ((blen N + j : Nat) : Int) - 1 := by omega
  simp only [e1, e2]
  generalize he : max (exp + ((blen N + j : Nat) : Int) - 53) (-1074) = e
  have h0 : exp + j + 2 ≤ e := by omega
  rw [if_neg (by omega), if_neg (by omega)]
  obtain ⟨s, hs⟩ : ∃ s : Nat, e - (exp + j) = ((s + 1 : Nat) : Int) := ⟨(e - (exp + j)).toNat - 1, by omega⟩
  have hs2 : e - exp = ((s + j + 1 : Nat) : Int) := by omega
  rw [hs, hs2, Int.toNat_natCast, Int.toNat_natCast, Nat.add_sub_cancel, Nat.add_sub_cancel]
  have d1 : ∀ t : Nat, (N * 2 ^ j + r) / 2 ^ (t + j) = N / 2 ^ t := by
    intro t
    rw [Nat.add_comm t j, Nat.pow_add, ← Nat.div_div_eq_div_mul, Nat.add_comm, Nat.add_mul_div_right _ _ hj, Nat.div_eq_of_lt hr, Nat.zero_add]
  rw [show s + j + 1 = (s + 1) + j by omega, d1, d1]
  have m1 : (N * 2 ^ j + r) % 2 ^ (s + j) = N % 2 ^ s * 2 ^ j + r := by
    have h := Nat.div_add_mod N (2 ^ s)
    have e3 : N * 2 ^ j + r = 2 ^ (s + j) * (N / 2 ^ s) + (N % 2 ^ s * 2 ^ j + r) := by
      conv => lhs; rw [← h]
      rw [Nat.add_mul, Nat.pow_add, Nat.mul_right_comm, Nat.add_assoc]
    rw [e3, Nat.mul_add_mod]
    apply Nat.mod_eq_of_lt
    have h2 : N % 2 ^ s < 2 ^ s := Nat.mod_lt _ (Nat.two_pow_pos s)
    have h3 := Nat.mul_le_mul_right (2 ^ j) (show N % 2 ^ s + 1 ≤ 2 ^ s from h2)
    rw [Nat.add_mul, Nat.one_mul, ← Nat.pow_add] at h3
    omega
  rw [m1]
  have b1 : (decide (N % 2 ^ s ≠ 0) || decide (r ≠ 0)) = (decide (N % 2 ^ s * 2 ^ j + r ≠ 0) || false) := by
    rw [Bool.or_false]
    by_cases h1 : N % 2 ^ s = 0
    · rw [h1, Nat.zero_mul, Nat.zero_add, decide_eq_false (fun h => h rfl), Bool.false_or]
    · have : N % 2 ^ s * 2 ^ j ≠ 0 := Nat.mul_ne_zero h1 (by omega)
      rw [decide_eq_true h1, Bool.true_or, decide_eq_true (by omega)]
  rw [b1]
def Finite (a : Int) : Prop := Word a ∧ a / 4503599627370496 % 2048 ≠ 2047
theorem sig_lt {a : Int} (h : Finite a) : sig a < 9007199254740992 := by
  obtain ⟨⟨h0, h1⟩, h2⟩ := h
  unfold sig
  split <;> omega
theorem can_word {a : Int} (h : Finite a) : Can (sig a) (xpo a) := by
  have hs := sig_lt h
  obtain ⟨⟨h0, h1⟩, h2⟩ := h
  refine ⟨hs, ?_⟩
  unfold sig xpo
  split
  · exact ⟨by omega, .inl rfl, by omega⟩
  · exact ⟨by omega, .inr (by omega), by omega⟩
theorem pk_word {a : Int} (h : Finite a) : pk (sgn a) (sig a) (xpo a) = a := by
  obtain ⟨⟨h0, h1⟩, h2⟩ := h
  unfold pk sgn sgv sig xpo
  have hs : (if decide (9223372036854775808 ≤ a) = true then (9223372036854775808 : Int) else 0) = a - a % 9223372036854775808 := by
    by_cases s : 9223372036854775808 ≤ a
    · rw [if_pos (decide_eq_true s)]; omega
    · rw [if_neg (by rw [decide_eq_false s]; decide)]; omega
  rw [hs]
  by_cases e : a / 4503599627370496 % 2048 = 0
  · rw [if_pos e, if_pos e, if_pos (by omega)]
    omega
  · rw [if_neg e, if_neg e, if_neg (by omega)]
    omega
theorem mag_lt {a b : Int} (ha : Finite a) (hb : Finite b) : a % 9223372036854775808 < b % 9223372036854775808 ↔ (xpo a < xpo b ∨ (xpo a = xpo b ∧ sig a < sig b)) := by
  obtain ⟨⟨a0, a1⟩, a2⟩ := ha
  obtain ⟨⟨b0, b1⟩, b2⟩ := hb
  unfold sig xpo
  split <;> split <;> omega
theorem mag_eq {a b : Int} (ha : Finite a) (hb : Finite b) : a % 9223372036854775808 = b % 9223372036854775808 ↔ (xpo a = xpo b ∧ sig a = sig b) := by
  obtain ⟨⟨a0, a1⟩, a2⟩ := ha
  obtain ⟨⟨b0, b1⟩, b2⟩ := hb
  unfold sig xpo
  split <;> split <;> omega
theorem sig_zero {a : Int} (ha : Finite a) : sig a = 0 ↔ a % 9223372036854775808 = 0 := by
  obtain ⟨⟨a0, a1⟩, a2⟩ := ha
  unfold sig
  split <;> omega
theorem cls_fin {a : Int} (ha : Finite a) : cls a = 0 ∨ cls a = 1 := by
  unfold cls
  rw [if_neg ha.2]
  split
  · split
    · exact .inl rfl
    · exact .inr rfl
  · exact .inr rfl
end Go.Proofs.Ytjbpchebabhoeaa.Fl
end
section
set_option linter.unusedVariables false
set_option linter.unusedSimpArgs false
namespace Go.Proofs.Ytjbpchebabhoeaa.Fl
open Go.RowKit Go.Proofs.Ytjbpchebabhoeaa.P Go.Proofs.Ytjbpchebabhoeaa.X Go.Proofs.Ytjbpchebabhoeaa.Bt Go.Proofs.YtjbpchebabhoeaaW.PrintWords
def sumR (na : Bool) (A : Nat) (nb : Bool) (B : Nat) (E mode : Int) : Int × Int :=
  if na = nb then (if A + B = 0 then (sgv na, 0) else R na (A + B) E false mode)
  else if A = B then (sgv (decide (mode = 4)), 0) else if A < B then R nb (B - A) E false mode else R na (A - B) E false mode
theorem sumR_comm (na : Bool) (A : Nat) (nb : Bool) (B : Nat) (E mode : Int) : sumR na A nb B E mode = sumR nb B na A E mode := by
  unfold sumR
  by_cases h : na = nb
  · subst h
    rw [if_pos rfl, if_pos rfl, Nat.add_comm]
  · rw [if_neg h, if_neg (Ne.symm h)]
    by_cases e : A = B
    · rw [if_pos e, if_pos e.symm]
    · rw [if_neg e, if_neg (Ne.symm e)]
      by_cases l : A < B
      · rw [if_pos l, if_neg (by omega)]
      · rw [if_neg l, if_pos (by omega)]
def addspec (a b mode : Int) : Int × Int :=
  sumR (sgn a) (sig a * 2 ^ (xpo a - min (xpo a) (xpo b)).toNat) (sgn b) (sig b * 2 ^ (xpo b - min (xpo a) (xpo b)).toNat) (min (xpo a) (xpo b)) mode
theorem addspec_comm (a b mode : Int) : addspec a b mode = addspec b a mode := by
  unfold addspec
  rw [sumR_comm, show min (xpo a) (xpo b) = min (xpo b) (xpo a) by omega]
theorem lift_f {m n : Nat} (hm : m < 9007199254740992) (hn : n ≤ 62) : fadd_lift.f m n = some (((m * 2 ^ n / 18446744073709551616 : Nat) : Int), ((m * 2 ^ n % 18446744073709551616 : Nat) : Int)) := by
  unfold fadd_lift.f
  by_cases h : (n : Int) = 0
  · rw [if_pos h]
    obtain rfl : n = 0 := by omega
    rw [Nat.pow_zero, Nat.mul_one, Nat.div_eq_of_lt (by omega), Nat.mod_eq_of_lt (by omega)]
    rfl
  · rw [if_neg h, w64 (by omega) (by omega), if_pos (by omega), if_pos (by omega), shr_u64 (by omega) (by omega), shl_u64 (by omega) (by omega)]
    obtain ⟨t, ht⟩ : ∃ t, n + t = 64 := ⟨64 - n, by omega⟩
    rw [show ((64 : Int) - n).toNat = t by omega, show ((n : Int)).toNat = n by omega]
    have e0 : 2 ^ n * 2 ^ t = 18446744073709551616 := by rw [← Nat.pow_add, ht]
    have e1 : m * 2 ^ n / 18446744073709551616 = m / 2 ^ t := by
      rw [← e0, Nat.mul_comm m, Nat.mul_div_mul_left _ _ (Nat.two_pow_pos n)]
    have e2 : (((m * 2 ^ n : Nat) : Int) % 18446744073709551616) = ((m * 2 ^ n % 18446744073709551616 : Nat) : Int) := by omega
    rw [e1, Int.natCast_ediv, ← Int.natCast_mul, e2]
theorem join_plus {T hi lo s : Nat} (hT : T = hi * 18446744073709551616 + lo + s) (hl : lo < 18446744073709551616) (hs : s < 18446744073709551616) (hb : T < 18446744073709551616 * 18446744073709551616) (more : Bool) :
    fadd_join.f hi lo s false more = some (((T / 18446744073709551616 : Nat) : Int), ((T % 18446744073709551616 : Nat) : Int)) := by
  unfold fadd_join.f bits_Add64.f
  rw [if_neg (by decide), if_pos (by omega)]
  simp only [Option.bind_some]
  rw [u64]
  congr 2 <;> omega
theorem join_minus {T hi lo s : Nat} (more : Bool) (hT : T + s + (if more = true then 1 else 0) = hi * 18446744073709551616 + lo) (hh : hi < 18446744073709551616) (hl : lo < 18446744073709551616) (hs : s < 18446744073709551616) :
    fadd_join.f hi lo s true more = some (((T / 18446744073709551616 : Nat) : Int), ((T % 18446744073709551616 : Nat) : Int)) := by
  unfold fadd_join.f bits_Sub64.f
  rw [if_pos rfl]
  cases more with
  | true =>
    rw [if_pos rfl, if_pos (by omega)]
    simp only [Option.bind_some]
    rw [if_pos rfl] at hT
    rw [u64]
    split <;> congr 2 <;> omega
  | false =>
    rw [if_neg (by decide), if_pos (by omega)]
    simp only [Option.bind_some]
    rw [if_neg (by decide)] at hT
    rw [u64]
    split <;> congr 2 <;> omega
theorem words_ (T : Nat) : T = T / 18446744073709551616 * 18446744073709551616 + T % 18446744073709551616 := by omega
theorem Round_T {T : Nat} (hp : 0 < T) (hT : T < 83076749736557242056487941267521536) (neg : Bool) (exp : Int) (h0 : -16384 ≤ exp) (h1 : exp ≤ 16384) (more : Bool) (hm : more = true → 55 ≤ blen T) (mode : Int) {k : Nat} (hk : 220 ≤ k) :
    ((parts_Round.f k neg ((T / 18446744073709551616 : Nat) : Int) ((T % 18446744073709551616 : Nat) : Int) exp more mode).bind fun bt => (some (bt.1, bt.2))) = some (R neg T exp more mode) := by
  rw [Round_f (words_ T) (by omega) (by omega) hp neg exp more mode hk, clamp_in h0 h1]
  cases more with
  | false => rfl
  | true => rw [decide_eq_true (hm rfl)]; rfl
theorem sum_f {a b : Int} (ha : Finite a) (hb : Finite b) (hm : 0 < sig a) (hle : xpo b < xpo a ∨ (xpo a = xpo b ∧ sig b ≤ sig a)) (hne : sgn a ≠ sgn b → ¬ (xpo a = xpo b ∧ sig a = sig b)) (mode : Int) {k : Nat} (hk : 250 ≤ k) :
    fadd_sum.f k a b mode = some (sumR (sgn a) (sig a * 2 ^ (xpo a - xpo b).toNat) (sgn b) (sig b) (xpo b) mode) := by
  have ca := can_word ha
  have cb := can_word hb
  obtain ⟨ca1, ca2, ca3, ca4⟩ := ca
  obtain ⟨cb1, cb2, cb3, cb4⟩ := cb
  unfold fadd_sum.f
  rw [Split_f ha.1 ha.2, Split_f hb.1 hb.2]
  simp only [Option.bind_some]
  obtain ⟨d, hd⟩ : ∃ d : Nat, xpo a - xpo b = d := ⟨(xpo a - xpo b).toNat, by omega⟩
  rw [hd, Int.toNat_natCast, w64 (x := (d : Int)) (by omega) (by omega)]
  have hd2 : d ≤ 2045 := by omega
  generalize sig a = m at *
  generalize sig b = c at *
  generalize hx : xpo a = x at *
  generalize hy : xpo b = y at *
  generalize sgn a = na at *
  generalize sgn b = nb at *
  have hAB : c ≤ m * 2 ^ d := by
    rcases Nat.eq_zero_or_pos d with h0 | h0
    · subst h0; rw [Nat.pow_zero, Nat.mul_one]; omega
    · have h1 : 2 ^ 1 ≤ 2 ^ d := Nat.pow_le_pow_right (by omega) h0
      have h2 : m * 2 ^ 1 ≤ m * 2 ^ d := Nat.mul_le_mul_left _ h1
      omega
  have hAB2 : na ≠ nb → c < m * 2 ^ d := by
    intro h
    have h0 := hne h
    rcases Nat.eq_zero_or_pos d with h1 | h1
    · subst h1; rw [Nat.pow_zero, Nat.mul_one]; omega
    · have h2 : 2 ^ 1 ≤ 2 ^ d := Nat.pow_le_pow_right (by omega) h1
      have h3 : m * 2 ^ 1 ≤ m * 2 ^ d := Nat.mul_le_mul_left _ h2
      omega
  have hpos : 0 < m * 2 ^ d := Nat.mul_pos hm (Nat.two_pow_pos d)
  have goal1 : na = nb → sumR na (m * 2 ^ d) nb c y mode = R na (m * 2 ^ d + c) y false mode := by
    intro h; unfold sumR; rw [if_pos h, if_neg (by omega)]
  have goal2 : na ≠ nb → sumR na (m * 2 ^ d) nb c y mode = R na (m * 2 ^ d - c) y false mode := by
    intro h; unfold sumR; have := hAB2 h; rw [if_neg h, if_neg (by omega), if_neg (by omega)]
  by_cases near : (d : Int) ≤ 60
  · rw [if_pos near, lift_f ca1 (by omega)]
    simp only [Option.bind_some]
    have hA : m * 2 ^ d < 2 ^ 53 * 2 ^ 60 := Nat.mul_lt_mul_of_lt_of_le ca1 (Nat.pow_le_pow_right (by omega) (by omega)) (Nat.two_pow_pos 60)
    have hw := words_ (m * 2 ^ d)
    by_cases h : na = nb
    · have hs : (!(na == nb)) = false := by rw [h]; cases nb <;> rfl
      rw [hs, join_plus (T := m * 2 ^ d + c) (by omega) (by omega) (by omega) (by omega)]
      simp only [Option.bind_some]
      rw [Round_T (by omega) (by omega) na y (by omega) (by omega) false (by simp) mode (by omega), goal1 h]
    · have hs : (!(na == nb)) = true := by cases na <;> cases nb <;> simp at h ⊢
      have hlt := hAB2 h
      rw [hs, join_minus (T := m * 2 ^ d - c) false (by rw [if_neg (by decide)]; omega) (by omega) (by omega) (by omega)]
      simp only [Option.bind_some]
      rw [Round_T (by omega) (by omega) na y (by omega) (by omega) false (by simp) mode (by omega), goal2 h]
  · have hlf : fadd_lift.f (m : Int) 62 = some (((m * 2 ^ 62 / 18446744073709551616 : Nat) : Int), ((m * 2 ^ 62 % 18446744073709551616 : Nat) : Int)) := lift_f ca1 (n := 62) (by omega)
    rw [if_neg near, hlf]
    simp only [Option.bind_some]
    have hbig : 4503599627370496 ≤ m := by omega
    rw [w64 (x := (d : Int) - 62) (by omega) (by omega)]
    have hw := words_ (m * 2 ^ 62)
    obtain ⟨M, hM⟩ : ∃ M, M = m * 2 ^ 62 := ⟨_, rfl⟩
    have hM1 : M < 41538374868278621028243970633760768 := by omega
    have hM0 : 20769187434139310514121985316880384 ≤ M := by omega
    rw [← hM] at hw ⊢
    by_cases s0 : mn ((d : Int) - 62) 116 ≤ 0
    ·
      rw [if_pos s0]
      have hd3 : d = 61 ∨ d = 62 := by unfold mn at s0; split at s0 <;> omega
      have hmn : mn ((d : Int) - 62) 116 = (d : Int) - 62 := by unfold mn; split <;> omega
      rw [hmn, w64 (x := -((d : Int) - 62)) (by omega) (by omega), if_pos (by omega), shl_u64 (by omega) (by omega), w64 (x := x - 62) (by omega) (by omega)]
      obtain ⟨t, ht⟩ : ∃ t : Nat, d + t = 62 := ⟨62 - d, by omega⟩
      have ht1 : t = 0 ∨ t = 1 := by omega
      rw [show (-((d : Int) - 62)).toNat = t by omega]
      have e0 : (c : Int) * ((2 ^ t : Nat) : Int) % 18446744073709551616 = ((c * 2 ^ t : Nat) : Int) := by
        rcases ht1 with rfl | rfl
        · rw [Nat.pow_zero, Nat.mul_one]; omega
        · rw [Nat.pow_one]; omega
      have e2 : M = m * 2 ^ d * 2 ^ t := by rw [hM, Nat.mul_assoc, ← Nat.pow_add, ht]
      have e3 : x - 62 + (t : Int) = y := by omega
      rw [e0]
      have key : ∀ Z : Nat, 10384593717069655257060992658440192 ≤ Z * 2 ^ t → R na (Z * 2 ^ t) (x - 62) false mode = R na Z y false mode := by
        intro Z hZ
        have hst := R_sticky na (N := Z) (by
          have h2 : Z * 2 ^ t ≤ 2 * Z := by rcases ht1 with rfl | rfl <;> omega
          have : 2 ^ 54 ≤ Z := by omega
          have h3 := lt_blen Z
          have h4 := Nat.lt_of_le_of_lt this h3
          have := (Nat.pow_lt_pow_iff_right (by omega : 1 < 2)).1 h4
          omega) (x - 62) t 0 (Nat.two_pow_pos t) mode
        rw [decide_eq_false (fun h => h rfl), e3, Nat.add_zero] at hst
        exact hst.symm
      have e1 : c * 2 ^ t ≤ 2 * c := by rcases ht1 with rfl | rfl <;> omega
      obtain ⟨C, hC⟩ : ∃ C, C = c * 2 ^ t := ⟨_, rfl⟩
      rw [← hC] at e1 ⊢
      by_cases h : na = nb
      · have hs : (!(na == nb)) = false := by rw [h]; cases nb <;> rfl
        rw [hs, join_plus (T := M + C) (by omega) (by omega) (by omega) (by omega)]
        simp only [Option.bind_some]
        rw [Round_T (by omega) (by omega) na (x - 62) (by omega) (by omega) false (by simp) mode (by omega), goal1 h]
        have := key (m * 2 ^ d + c) (by rw [Nat.add_mul, ← e2, ← hC]; omega)
        rw [Nat.add_mul, ← e2, ← hC] at this
        rw [this]
      · have hs : (!(na == nb)) = true := by cases na <;> cases nb <;> simp at h ⊢
        rw [hs, join_minus (T := M - C) false (by rw [if_neg (by decide)]; omega) (by omega) (by omega) (by omega)]
        simp only [Option.bind_some]
        rw [Round_T (by omega) (by omega) na (x - 62) (by omega) (by omega) false (by simp) mode (by omega), goal2 h]
        have := key (m * 2 ^ d - c) (by rw [Nat.sub_mul, ← e2, ← hC]; omega)
        rw [Nat.sub_mul, ← e2, ← hC] at this
        rw [this]
    ·
      rw [if_neg s0]
      have hd3 : 63 ≤ d := by unfold mn at s0; split at s0 <;> omega
      obtain ⟨j, hj⟩ : ∃ j : Nat, d = 62 + j := ⟨d - 62, by omega⟩
      have hj1 : 1 ≤ j := by omega
      have e2 : m * 2 ^ d = M * 2 ^ j := by rw [hM, hj, Nat.pow_add, Nat.mul_assoc]
      have e4 : x - 62 = y + (j : Int) := by omega
      have hjp := Nat.two_pow_pos j
      obtain ⟨cq, hcq⟩ : ∃ q, q = c / 2 ^ j := ⟨_, rfl⟩
      obtain ⟨cr, hcr⟩ : ∃ r, r = c % 2 ^ j := ⟨_, rfl⟩
      have hc1 : cq ≤ c := by rw [hcq]; exact Nat.div_le_self _ _
      have hc2 : cr < 2 ^ j := by rw [hcr]; exact Nat.mod_lt _ hjp
      have hc3 : cq * 2 ^ j + cr = c := by rw [hcq, hcr, Nat.mul_comm]; exact Nat.div_add_mod c (2 ^ j)
      have hbl : ∀ Z, 10384593717069655257060992658440192 ≤ Z → 55 ≤ blen Z := by
        intro Z hZ
        have : 2 ^ 54 ≤ Z := by omega
        have h4 := Nat.lt_of_le_of_lt this (lt_blen Z)
        have := (Nat.pow_lt_pow_iff_right (by omega : 1 < 2)).1 h4
        omega
      have main : ∀ more : Bool, more = decide (cr ≠ 0) →
          ((fadd_join.f ((M / 18446744073709551616 : Nat) : Int) ((M % 18446744073709551616 : Nat) : Int) (cq : Int) (!(na == nb)) more).bind fun bt => ((parts_Round.f k na bt.1 bt.2 (x - 62) more mode).bind fun bu => (some (bu.1, bu.2)))) = some (sumR na (m * 2 ^ d) nb c y mode) := by
        intro more hmore
        by_cases h : na = nb
        · have hs : (!(na == nb)) = false := by rw [h]; cases nb <;> rfl
          rw [hs, join_plus (T := M + cq) (by omega) (by omega) (by omega) (by omega)]
          simp only [Option.bind_some]
          have hb := hbl (M + cq) (by omega)
          rw [Round_T (by omega) (by omega) na (x - 62) (by omega) (by omega) more (fun _ => hb) mode (by omega), goal1 h]
          have hst := R_sticky na hb y j cr hc2 mode
          rw [hmore, e4, hst, Nat.add_mul, ← e2, Nat.add_assoc, hc3]
        · have hs : (!(na == nb)) = true := by cases na <;> cases nb <;> simp at h ⊢
          by_cases h0 : cr = 0
          · rw [decide_eq_false (fun h => h h0)] at hmore
            subst hmore
            rw [hs, join_minus (T := M - cq) false (by rw [if_neg (by decide)]; omega) (by omega) (by omega) (by omega)]
            simp only [Option.bind_some]
            have hb := hbl (M - cq) (by omega)
            rw [Round_T (by omega) (by omega) na (x - 62) (by omega) (by omega) false (fun _ => hb) mode (by omega), goal2 h]
            have hst := R_sticky na hb y j 0 hjp mode
            rw [decide_eq_false (fun h => h rfl)] at hst
            rw [e4, hst, Nat.add_zero, Nat.sub_mul, ← e2, show cq * 2 ^ j = c by omega]
          · rw [decide_eq_true h0] at hmore
            subst hmore
            rw [hs, join_minus (T := M - cq - 1) true (by rw [if_pos rfl]; omega) (by omega) (by omega) (by omega)]
            simp only [Option.bind_some]
            have hb := hbl (M - cq - 1) (by omega)
            rw [Round_T (by omega) (by omega) na (x - 62) (by omega) (by omega) true (fun _ => hb) mode (by omega), goal2 h]
            have hst := R_sticky na hb y j (2 ^ j - cr) (by omega) mode
            rw [decide_eq_true (show 2 ^ j - cr ≠ 0 by omega)] at hst
            rw [e4, hst, Nat.sub_mul, Nat.sub_mul, ← e2, Nat.one_mul]
            have h9 : cq * 2 ^ j + 2 ^ j ≤ m * 2 ^ d := by
              have h10 : cq + 1 ≤ M := by omega
              have h11 := Nat.mul_le_mul_right (2 ^ j) h10
              rw [← e2, Nat.add_mul, Nat.one_mul] at h11
              exact h11
            have : m * 2 ^ d - cq * 2 ^ j - 2 ^ j + (2 ^ j - cr) = m * 2 ^ d - c := by omega
            rw [this]
      by_cases s1 : mn ((d : Int) - 62) 116 < 64
      · rw [if_pos s1]
        have hmn : mn ((d : Int) - 62) 116 = (j : Int) := by unfold mn at s1 ⊢; split at s1 <;> split <;> omega
        have hj2 : j < 64 := by omega
        rw [hmn, w64 (x := (64 : Int) - j) (by omega) (by omega), if_pos (by omega), if_pos (by omega), w64 (x := x - 62) (by omega) (by omega), shr_u64 (by omega) (by omega), shl_u64 (by omega) (by omega)]
        obtain ⟨t, ht⟩ : ∃ t, j + t = 64 := ⟨64 - j, by omega⟩
        rw [show ((64 : Int) - j).toNat = t by omega, Int.toNat_natCast]
        have e5 : 2 ^ j * 2 ^ t = 18446744073709551616 := by rw [← Nat.pow_add, ht]
        have e6 : (c : Int) * ((2 ^ t : Nat) : Int) % 18446744073709551616 = ((2 ^ t * cr : Nat) : Int) := by
          have h1 : c * 2 ^ t % 18446744073709551616 = 2 ^ t * cr := by
            rw [← e5, Nat.mul_comm c, Nat.mul_comm (2 ^ j), Nat.mul_mod_mul_left, hcr]
          rw [← h1, ← Int.natCast_mul]
          omega
        have e7 : (((2 ^ t * cr : Nat) : Int) != 0) = decide (cr ≠ 0) := by
          by_cases h0 : cr = 0
          · rw [h0, Nat.mul_zero]; rfl
          · rw [decide_eq_true h0]
            have : 0 < 2 ^ t * cr := Nat.mul_pos (Nat.two_pow_pos t) (by omega)
            rw [bne_iff_ne]
            omega
        rw [e6, e7, ← Int.natCast_ediv, ← hcq]
        exact main _ rfl
      · rw [if_neg s1]
        have hj2 : 64 ≤ j := by unfold mn at s1; split at s1 <;> omega
        have hjb : 2 ^ 64 ≤ 2 ^ j := Nat.pow_le_pow_right (by omega) hj2
        have e5 : cq = 0 := by rw [hcq]; exact Nat.div_eq_of_lt (by omega)
        have e6 : cr = c := by rw [hcr]; exact Nat.mod_eq_of_lt (by omega)
        rw [w64 (x := x - 62) (by omega) (by omega)]
        have e7 : ((c : Int) != 0) = decide (cr ≠ 0) := by
          rw [e6]
          by_cases h0 : c = 0
          · subst h0; rfl
          · rw [decide_eq_true h0, bne_iff_ne]; omega
        have := main _ rfl
        rw [e5] at this
        rw [e7]
        exact this
end Go.Proofs.Ytjbpchebabhoeaa.Fl
end
section
set_option linter.unusedVariables false
set_option linter.unusedSimpArgs false
namespace Go.Proofs.Ytjbpchebabhoeaa.Rf
open Go.RowKit Go.Proofs.Ytjbpchebabhoeaa.P Go.Proofs.Ytjbpchebabhoeaa.X Go.Proofs.Ytjbpchebabhoeaa.Bt Go.Proofs.Ytjbpchebabhoeaa.Dg Go.Proofs.Ytjbpchebabhoeaa.Fl Go.Proofs.YtjbpchebabhoeaaW.PrintWords
theorem D_one : D 1 = [1] := by
  unfold D
  rw [digs_pos (by omega) (by omega), show 1 / 65536 = 0 from rfl, digs_zero]
  rfl
theorem Zero06 (neg : Bool) : vernierref06_Zero.f neg = some (sgv neg) := by cases neg <;> rfl
theorem Inf06 (neg : Bool) : vernierref06_Inf.f neg = some (sgv neg + 9218868437227405312) := by
  unfold vernierref06_Inf.f
  rw [Zero06]
  simp only [Option.bind_some]
  rw [u64_in (by rcases sgv_or neg with h | h <;> rw [h] <;> omega) (by rcases sgv_or neg with h | h <;> rw [h] <;> omega)]
theorem big06 {k : Nat} (hk : 1 ≤ k) (neg : Bool) (mode : Int) : vernierref06_big.f k neg mode = some (ovr neg mode) := by
  obtain ⟨k, rfl⟩ : ∃ m, k = m + 1 := ⟨k - 1, by omega⟩
  have h1 : vernierref06_big.j0 (k + 1) neg true = some (sgv neg + 9218868437227405311, 20) := by
    simp only [vernierref06_big.j0]
    rw [if_true, Inf06]
    simp only [Option.bind_some]
    rw [u64_in (by rcases sgv_or neg with h | h <;> rw [h] <;> omega) (by rcases sgv_or neg with h | h <;> rw [h] <;> omega)]
    congr 2
    omega
  have h2 : vernierref06_big.j0 (k + 1) neg false = some (sgv neg + 9218868437227405312, 20) := by
    simp only [vernierref06_big.j0]; rw [if_neg (by decide), Inf06]; rfl
  unfold vernierref06_big.f
  by_cases a : mode = 2
  · subst a
    rw [if_pos rfl, h1]; simp [ovr, far]
  · rw [if_neg a]
    by_cases b : mode = 3
    · subst b
      rw [if_pos rfl]
      cases neg
      · rw [if_neg (by decide), if_neg (by decide), h2]; simp [ovr, far]
      · rw [if_pos rfl, h1]; simp [ovr, far]
    · rw [if_neg b]
      by_cases c : mode = 4
      · subst c
        rw [if_pos rfl]
        cases neg
        · change vernierref06_big.j0 (k + 1) false true = _; rw [h1]; simp [ovr, far]
        · change vernierref06_big.j0 (k + 1) true false = _; rw [h2]; simp [ovr, far]
      · rw [if_neg c, h2]
        have hf : far neg mode = true := by
          unfold far
          by_cases d : mode < 2
          · rw [if_pos d]
          · rw [if_neg d, if_pos (by omega)]
        unfold ovr
        rw [hf, if_pos rfl]
theorem tail06 {k : Nat} (hk : 10 ≤ k) (neg : Bool) (mode e : Int) (q : Nat) (half rest tiny inex : Bool) (hin : inex = decide (half = true ∨ rest = true)) (hq : q < 9007199254740992) (he0 : -1074 ≤ e) (he : e ≤ 200000) :
    vernierref06_Round.j3 k neg mode e q inex tiny (upf neg q half rest mode) = some (fin neg q e half rest tiny mode) := by
  have j7t : ∀ (k : Nat) (e2 : Int) (q2 : Nat) (fl : Int), 2 ≤ k → vernierref06_Round.j7 k neg mode e2 q2 fl true = some (ovr neg mode) := by
    intro k e2 q2 fl hk
    obtain ⟨k, rfl⟩ : ∃ m, k = m + 1 := ⟨k - 1, by omega⟩
    simp only [vernierref06_Round.j7]
    rw [if_true, big06 (by omega)]; rfl
  have j7f : ∀ (k : Nat) (e2 : Int) (q2 : Nat) (fl : Int), 2 ≤ k → q2 < 9007199254740992 → (q2 < 4503599627370496 ∨ e2 < 972) → -1074 ≤ e2 → vernierref06_Round.j7 k neg mode e2 q2 fl false = some (pk neg q2 e2, fl) := by
    intro k e2 q2 fl hk hq2 h he2
    obtain ⟨k, rfl⟩ : ∃ m, k = m + 1 := ⟨k - 1, by omega⟩
    simp only [vernierref06_Round.j7]
    rw [if_neg (by decide), Zero06]
    simp only [Option.bind_some]
    unfold pk
    have hs := sgv_or neg
    by_cases c : (q2 : Int) < 4503599627370496
    · rw [if_pos c, if_pos (by omega), u64_in (by omega) (by omega)]
    · have he3 : e2 < 972 := by omega
      rw [if_neg c, if_neg (by omega), w64 (by omega) (by omega), u64_in (x := e2 + 1075) (by omega) (by omega), u64_in (x := (e2 + 1075) * 4503599627370496) (by omega) (by omega)]
      rcases hs with hs | hs <;> rw [hs]
      · rw [u64_in (x := 0 + (e2 + 1075) * 4503599627370496) (by omega) (by omega), u64_in (x := 0 + (e2 + 1075) * 4503599627370496 + (q2 : Int)) (by omega) (by omega), u64_in (by omega) (by omega)]
        congr 2; omega
      · rw [u64_in (x := 9223372036854775808 + (e2 + 1075) * 4503599627370496) (by omega) (by omega), u64_in (x := 9223372036854775808 + (e2 + 1075) * 4503599627370496 + (q2 : Int)) (by omega) (by omega), u64_in (by omega) (by omega)]
        congr 2; omega
  have j5 : ∀ (k : Nat) (q1 : Nat) (fl : Int), 6 ≤ k → q1 ≤ 9007199254740992 → vernierref06_Round.j5 k neg mode e q1 fl = some (if 4503599627370496 ≤ (if q1 = 9007199254740992 then 4503599627370496 else q1) ∧ 972 ≤ (if q1 = 9007199254740992 then e + 1 else e) then ovr neg mode else (pk neg (if q1 = 9007199254740992 then 4503599627370496 else q1) (if q1 = 9007199254740992 then e + 1 else e), fl)) := by
    intro k q1 fl hk hq1
    obtain ⟨k, rfl⟩ : ∃ m, k = m + 2 := ⟨k - 2, by omega⟩
    simp only [vernierref06_Round.j5]
    have j6 : ∀ (q2 : Nat) (e2 : Int), q2 < 9007199254740992 → -1074 ≤ e2 → vernierref06_Round.j6 (k + 1) neg mode e2 q2 fl = some (if 4503599627370496 ≤ q2 ∧ 972 ≤ e2 then ovr neg mode else (pk neg q2 e2, fl)) := by
      intro q2 e2 hq2 he2
      simp only [vernierref06_Round.j6]
      by_cases c : (q2 : Int) ≥ 4503599627370496
      · rw [if_pos c]
        by_cases d : e2 > 971
        · rw [decide_eq_true d, j7t k e2 q2 fl (by omega), if_pos (by omega)]
        · rw [decide_eq_false d, j7f k e2 q2 fl (by omega) hq2 (by omega) he2, if_neg (by omega)]
      · rw [if_neg c, j7f k e2 q2 fl (by omega) hq2 (by omega) he2, if_neg (by omega)]
    by_cases c : (q1 : Int) ≥ 9007199254740992
    · have c2 : q1 = 9007199254740992 := by omega
      rw [if_pos c, w64 (by omega) (by omega), if_pos c2, if_pos c2]
      subst c2
      have hd : IntKind.u64.wrap (Int.tdiv ((9007199254740992 : Nat) : Int) 2) = ((4503599627370496 : Nat) : Int) := by decide
      rw [hd]
      exact j6 4503599627370496 (e + 1) (by omega) (by omega)
    · have c2 : ¬ q1 = 9007199254740992 := by omega
      rw [if_neg c, if_neg c2, if_neg c2]
      exact j6 q1 e (by omega) he0
  have j4 : ∀ (k : Nat) (q1 : Nat), 8 ≤ k → q1 ≤ 9007199254740992 → vernierref06_Round.j4 k neg mode e q1 inex tiny = some (if 4503599627370496 ≤ (if q1 = 9007199254740992 then 4503599627370496 else q1) ∧ 972 ≤ (if q1 = 9007199254740992 then e + 1 else e) then ovr neg mode else (pk neg (if q1 = 9007199254740992 then 4503599627370496 else q1) (if q1 = 9007199254740992 then e + 1 else e), if half = true ∨ rest = true then (if tiny = true then 24 else 16) else 0)) := by
    intro k q1 hk hq1
    obtain ⟨k, rfl⟩ : ∃ m, k = m + 1 := ⟨k - 1, by omega⟩
    simp only [vernierref06_Round.j4]
    by_cases h : half = true ∨ rest = true
    · rw [if_pos h, hin, decide_eq_true h, if_pos rfl]
      by_cases t : tiny = true
      · rw [if_pos t, if_pos t]; exact j5 k q1 24 (by omega) hq1
      · rw [if_neg t, if_neg t]; exact j5 k q1 16 (by omega) hq1
    · rw [if_neg h, hin, decide_eq_false h, if_neg (by decide)]; exact j5 k q1 0 (by omega) hq1
  obtain ⟨k, rfl⟩ : ∃ m, k = m + 1 := ⟨k - 1, by omega⟩
  simp only [vernierref06_Round.j3]
  unfold fin
  by_cases u : upf neg q half rest mode = true
  · rw [if_pos u, u64_in (by omega) (by omega)]
    simp only [if_pos u]
    exact j4 k (q + 1) (by omega) (by omega)
  · rw [if_neg u]
    simp only [if_neg u]
    exact j4 k q (by omega) (by omega)
theorem shift06 (n m : Nat) (s : Int) (fn : (D n).length ≤ 200000) (fm : (D m).length ≤ 200000) (h0 : -200000 ≤ s) (h1 : s ≤ 200000) {k : Nat} (hk : 10000000 ≤ k) :
    vernierref06_shift.f k (D n) (D m) s = some (D (n * 2 ^ s.toNat), D (m * 2 ^ (-s).toNat)) := by
  unfold vernierref06_shift.f
  by_cases h : s ≥ 0
  · rw [if_pos h]
    obtain ⟨t, rfl⟩ := Int.eq_ofNat_of_zero_le h
    rw [Shl_f n t (by omega) (by omega) (by omega), Int.toNat_natCast, show (-(t : Int)).toNat = 0 by omega, Nat.pow_zero, Nat.mul_one]
    rfl
  · rw [if_neg h]
    obtain ⟨t, ht⟩ := Int.eq_ofNat_of_zero_le (show 0 ≤ -s by omega)
    rw [w64 (by omega) (by omega), ht, Shl_f m t (by omega) (by omega) (by omega), Int.toNat_natCast, show s.toNat = 0 by omega, Nat.pow_zero, Nat.mul_one]
    rfl
theorem half_rest (N s : Nat) (hs : 0 < s) : ((2 ^ s < N % 2 ^ s * 2) ↔ (N / 2 ^ (s - 1) % 2 = 1 ∧ N % 2 ^ (s - 1) ≠ 0)) ∧ ((2 ^ s = N % 2 ^ s * 2) ↔ (N / 2 ^ (s - 1) % 2 = 1 ∧ N % 2 ^ (s - 1) = 0)) ∧ (N % 2 ^ s = 0 ↔ (¬ N / 2 ^ (s - 1) % 2 = 1 ∧ N % 2 ^ (s - 1) = 0)) := by
  obtain ⟨t, rfl⟩ : ∃ t, s = t + 1 := ⟨s - 1, by omega⟩
  rw [Nat.add_sub_cancel, bit_step, Nat.pow_succ]
  have h1 : N % 2 ^ t < 2 ^ t := Nat.mod_lt _ (Nat.two_pow_pos t)
  have h2 : N / 2 ^ t % 2 = 0 ∨ N / 2 ^ t % 2 = 1 := by omega
  have h3 := Nat.two_pow_pos t
  generalize N % 2 ^ t = r at *
  generalize 2 ^ t = P at *
  rcases h2 with h2 | h2 <;> rw [h2]
  · rw [Nat.mul_zero]; omega
  · rw [Nat.mul_one]; omega
theorem R_tiny (neg : Bool) {N : Nat} (hp : 0 < N) (exp mode : Int) (h : exp + blen N ≤ -1076) : R neg N exp false mode = fin neg 0 (-1074) false true true mode := by
  unfold R
  have he : max (exp + (blen N : Int) - 53) (-1074) = -1074 := by omega
  simp only [he]
  have hb := blen_pos hp
  have hlt := lt_blen N
  rw [if_neg (by omega)]
  obtain ⟨s, hs⟩ : ∃ s : Nat, -1074 - exp = ((s + 1 : Nat) : Int) := ⟨(-1074 - exp).toNat - 1, by omega⟩
  rw [hs, Int.toNat_natCast, Nat.add_sub_cancel]
  have h1 : N < 2 ^ s := Nat.lt_of_lt_of_le hlt (Nat.pow_le_pow_right (by omega) (by omega))
  have h2 : N < 2 ^ (s + 1) := Nat.lt_of_lt_of_le h1 (Nat.pow_le_pow_right (by omega) (by omega))
  rw [Nat.div_eq_of_lt h1, Nat.div_eq_of_lt h2, Nat.mod_eq_of_lt h1, decide_eq_true (show N ≠ 0 by omega), decide_eq_true (show exp + (blen N : Int) - 1 < -1022 by omega)]
  rfl
theorem R_huge (neg : Bool) {N : Nat} (hp : 0 < N) (exp mode : Int) (h : 1025 < exp + blen N) : R neg N exp false mode = ovr neg mode := by
  have hb := blen_pos hp
  have hlt := lt_blen N
  have hge := blen_ge hp
  have big : ∀ (q : Nat) (e : Int) (half rest tiny : Bool), 4503599627370496 ≤ q → q < 9007199254740992 → 972 ≤ e → fin neg q e half rest tiny mode = ovr neg mode := by
    intro q e half rest tiny h1 h2 h3
    unfold fin
    by_cases u : upf neg q half rest mode = true
    · simp only [if_pos u]
      rw [if_pos]
      constructor
      · split <;> omega
      · split <;> omega
    · simp only [if_neg u]
      rw [if_pos]
      constructor
      · split <;> omega
      · split <;> omega
  unfold R
  have he : max (exp + (blen N : Int) - 53) (-1074) = exp + blen N - 53 := by omega
  simp only [he]
  obtain ⟨m, hm⟩ : ∃ m, blen N = m + 1 := ⟨blen N - 1, by omega⟩
  rw [hm] at hlt hge h ⊢
  rw [Nat.add_sub_cancel] at hge
  by_cases c : exp + ((m + 1 : Nat) : Int) - 53 ≤ exp
  · rw [if_pos c]
    obtain ⟨s, hs⟩ : ∃ s : Nat, exp - (exp + ((m + 1 : Nat) : Int) - 53) = s := ⟨(exp - (exp + ((m + 1 : Nat) : Int) - 53)).toNat, by omega⟩
    rw [hs, Int.toNat_natCast]
    have h1 := Nat.mul_le_mul_right (2 ^ s) hge
    have h2 := mul_pow_lt (b := s) hlt
    rw [← Nat.pow_add, show m + s = 52 by omega] at h1
    rw [show m + 1 + s = 53 by omega] at h2
    exact big _ _ _ _ _ h1 h2 (by omega)
  · rw [if_neg c]
    obtain ⟨s, hs⟩ : ∃ s : Nat, exp + ((m + 1 : Nat) : Int) - 53 - exp = s := ⟨(exp + ((m + 1 : Nat) : Int) - 53 - exp).toNat, by omega⟩
    rw [hs, Int.toNat_natCast]
    have h1 : 4503599627370496 ≤ N / 2 ^ s := by
      rw [Nat.le_div_iff_mul_le (Nat.two_pow_pos s)]
      have : 2 ^ 52 * 2 ^ s ≤ N := by rw [← Nat.pow_add, show 52 + s = m by omega]; exact hge
      exact this
    have h2 : N / 2 ^ s < 2 ^ 53 := div_pow_lt (by rw [show 53 + s = m + 1 by omega]; exact hlt)
    exact big _ _ _ _ _ h1 h2 (by omega)
def qAt (N : Nat) (exp e : Int) : Nat := N * 2 ^ (exp - e).toNat / 2 ^ (e - exp).toNat
def rAt (N : Nat) (exp e : Int) : Nat := N * 2 ^ (exp - e).toNat % 2 ^ (e - exp).toNat
theorem qAt_lt {N : Nat} {exp e : Int} {t : Nat} (h : exp + blen N ≤ e + t) : qAt N exp e < 2 ^ t := by
  unfold qAt
  have hlt := lt_blen N
  by_cases c : e ≤ exp
  · rw [show (e - exp).toNat = 0 by omega, Nat.pow_zero, Nat.div_one]
    exact Nat.lt_of_lt_of_le (mul_pow_lt hlt) (Nat.pow_le_pow_right (by omega) (by omega))
  · rw [show (exp - e).toNat = 0 by omega, Nat.pow_zero, Nat.mul_one]
    exact div_pow_lt (Nat.lt_of_lt_of_le hlt (Nat.pow_le_pow_right (by omega) (by omega)))
theorem qAt_ge {N : Nat} (hp : 0 < N) {exp e : Int} {t : Nat} (h : e + t < exp + blen N) : 2 ^ t ≤ qAt N exp e := by
  unfold qAt
  have hge := blen_ge hp
  have hb := blen_pos hp
  by_cases c : e ≤ exp
  · rw [show (e - exp).toNat = 0 by omega, Nat.pow_zero, Nat.div_one]
    have h1 := Nat.mul_le_mul_right (2 ^ (exp - e).toNat) hge
    rw [← Nat.pow_add] at h1
    exact Nat.le_trans (Nat.pow_le_pow_right (by omega) (by omega)) h1
  · rw [show (exp - e).toNat = 0 by omega, Nat.pow_zero, Nat.mul_one, Nat.le_div_iff_mul_le (Nat.two_pow_pos _), ← Nat.pow_add]
    exact Nat.le_trans (Nat.pow_le_pow_right (by omega) (by omega)) hge
theorem len_le {n t : Nat} (h : n < 2 ^ (16 * t)) : (D n).length ≤ t := by
  apply digs_length_le (by omega)
  rw [show (65536 : Nat) = 2 ^ 16 from rfl, ← Nat.pow_mul]
  exact h
theorem len_pow (t : Nat) : (D (2 ^ t)).length ≤ t / 16 + 1 := by
  have := len_shl 1 t
  rw [Nat.one_mul, D_one] at this
  have h := len_le (n := 2 ^ t) (t := t / 16 + 1) (Nat.pow_lt_pow_right (by omega) (by omega))
  exact h
theorem last06 (neg : Bool) {N : Nat} (hp : 0 < N) (exp mode : Int) (hL : (D N).length ≤ 100000) (h0 : -100000 ≤ exp) (h1 : exp ≤ 100000) {e : Int} (he : e = max (exp + blen N - 53) (-1074)) (heb : e ≤ 100000) {k : Nat} (hk : 100000000 ≤ k) (t : Int) :
    vernierref06_Round.j2 k neg (D N) (D 1) exp mode e (qAt N exp e : Nat) (D (rAt N exp e)) (D (2 ^ (e - exp).toNat)) t false = some (R neg N exp false mode) := by
  obtain ⟨k, rfl⟩ : ∃ m, k = m + 1 := ⟨k - 1, by omega⟩
  simp only [vernierref06_Round.j2]
  have hlt := lt_blen N
  have hb := blen_pos hp
  have hge := blen_ge hp
  have hq : qAt N exp e < 2 ^ 53 := qAt_lt (by omega)
  have hls := len_shl N (exp + 1022).toNat
  have hls1 := len_shl 1 (-(exp + 1022)).toNat
  have hl1 : (D 1).length = 1 := by rw [D_one]; rfl
  rw [if_neg (by decide), w64 (by omega) (by omega), shift06 N 1 (exp + 1022) (by omega) (by omega) (by omega) (by omega) (by omega)]
  simp only [Option.bind_some]
  have hlp := len_pow (e - exp).toNat
  have hlr : (D (rAt N exp e)).length ≤ (e - exp).toNat / 16 + 1 := Nat.le_trans (digs_len_mono (by omega) (Nat.le_of_lt (Nat.mod_lt _ (Nat.two_pow_pos _)))) hlp
  have hls2 := len_shl (rAt N exp e) 1
  rw [Cmp_f _ _ (by unfold Few_; omega) (by unfold Few_; omega) (by omega)]
  simp only [Option.bind_some]
  have hs1 := Shl_f (rAt N exp e) 1 (by omega) (by omega) (k := k) (by omega)
  rw [show ((1 : Nat) : Int) = 1 from rfl] at hs1
  rw [hs1]
  simp only [Option.bind_some]
  rw [Cmp_f _ _ (by unfold Few_; omega) (by unfold Few_; omega) (by omega)]
  simp only [Option.bind_some]
  rw [Nat.pow_one]
  have htiny : decide (sign3 (N * 2 ^ (exp + 1022).toNat) (1 * 2 ^ (-(exp + 1022)).toNat) < 0) = decide (exp + (blen N : Int) - 1 < -1022) := by
    have hiff : N * 2 ^ (exp + 1022).toNat < 1 * 2 ^ (-(exp + 1022)).toNat ↔ exp + (blen N : Int) - 1 < -1022 := by
      rw [Nat.one_mul]
      by_cases c : 0 ≤ exp + 1022
      · rw [show (-(exp + 1022)).toNat = 0 by omega, Nat.pow_zero]
        have h2 : 0 < N * 2 ^ (exp + 1022).toNat := Nat.mul_pos hp (Nat.two_pow_pos _)
        constructor
        · intro h; omega
        · intro h; omega
      · rw [show (exp + 1022).toNat = 0 by omega, Nat.pow_zero, Nat.mul_one]
        constructor
        · intro h
          have := blen_le h
          omega
        · intro h
          exact Nat.lt_of_lt_of_le hlt (Nat.pow_le_pow_right (by omega) (by omega))
    unfold sign3
    by_cases c : N * 2 ^ (exp + 1022).toNat < 1 * 2 ^ (-(exp + 1022)).toNat
    · rw [if_pos c, decide_eq_true (hiff.1 c)]; rfl
    · rw [if_neg c, decide_eq_false (fun h => c (hiff.2 h))]
      split <;> rfl
  rw [htiny]
  generalize htn : decide (exp + (blen N : Int) - 1 < -1022) = tiny
  have hlen0 : ∀ n, (((D n).length : Int) > 0) ↔ n ≠ 0 := by
    intro n
    have := D_len0 (n := n)
    omega
  have modes : ∀ (half rest : Bool) (q r B : Nat), q < 9007199254740992 → (B < r * 2 ↔ (half = true ∧ rest = true)) → (B = r * 2 ↔ (half = true ∧ ¬ rest = true)) → (r = 0 ↔ (¬ half = true ∧ ¬ rest = true)) →
      (if mode = 1 then (vernierref06_Round.j3 k neg mode e q (decide (((D r).length : Int) > 0)) tiny (decide (sign3 (r * 2) B ≥ 0))) else (if mode = 2 then (vernierref06_Round.j3 k neg mode e q (decide (((D r).length : Int) > 0)) tiny false) else (if mode = 3 then (if ((D r).length : Int) > 0 then (vernierref06_Round.j3 k neg mode e q (decide (((D r).length : Int) > 0)) tiny (!neg)) else (vernierref06_Round.j3 k neg mode e q (decide (((D r).length : Int) > 0)) tiny false)) else (if mode = 4 then (if ((D r).length : Int) > 0 then (vernierref06_Round.j3 k neg mode e q (decide (((D r).length : Int) > 0)) tiny neg) else (vernierref06_Round.j3 k neg mode e q (decide (((D r).length : Int) > 0)) tiny false)) else (if sign3 (r * 2) B > 0 then (vernierref06_Round.j3 k neg mode e q (decide (((D r).length : Int) > 0)) tiny true) else (if sign3 (r * 2) B = 0 then (vernierref06_Round.j3 k neg mode e q (decide (((D r).length : Int) > 0)) tiny ((Int.tmod q 2) == 1)) else (vernierref06_Round.j3 k neg mode e q (decide (((D r).length : Int) > 0)) tiny false))))))) = some (fin neg q e half rest tiny mode) := by
    intro half rest q r B hq hgt heq hz
    have hin : decide (((D r).length : Int) > 0) = decide (half = true ∨ rest = true) := by
      rw [decide_eq_decide, hlen0, Ne, hz]
      cases half <;> cases rest <;> simp
    have tl := fun b (hb : b = upf neg q half rest mode) => (by rw [hb]; exact tail06 (k := k) (by omega) neg mode e q half rest tiny _ hin hq (by omega) (by omega) : vernierref06_Round.j3 k neg mode e q (decide (((D r).length : Int) > 0)) tiny b = some (fin neg q e half rest tiny mode))
    have s3 : sign3 (r * 2) B = if half = true then (if rest = true then 1 else 0) else -1 := by
      unfold sign3
      by_cases g1 : half = true
      · rw [if_pos g1]
        by_cases g2 : rest = true
        · have := hgt.2 ⟨g1, g2⟩
          rw [if_pos g2, if_neg (by omega), if_pos this]
        · have := heq.2 ⟨g1, g2⟩
          rw [if_neg g2, if_neg (by omega), if_neg (by omega)]
      · have a : ¬ B < r * 2 := fun h => g1 (hgt.1 h).1
        have b : ¬ B = r * 2 := fun h => g1 (heq.1 h).1
        rw [if_neg g1, if_pos (by omega)]
    by_cases m1 : mode = 1
    · rw [if_pos m1]
      refine tl _ ?_
      unfold upf
      rw [if_pos m1, s3]
      cases half <;> cases rest <;> decide
    · rw [if_neg m1]
      by_cases m2 : mode = 2
      · rw [if_pos m2]
        refine tl _ ?_
        unfold upf
        rw [if_neg m1, if_pos m2]
      · rw [if_neg m2]
        by_cases m3 : mode = 3
        · rw [if_pos m3]
          by_cases c : ((D r).length : Int) > 0
          · rw [if_pos c]
            refine tl _ ?_
            unfold upf
            rw [if_neg m1, if_neg m2, if_pos m3]
            have hne := (hlen0 r).1 c
            rw [Ne, hz] at hne
            revert hne
            cases half <;> cases rest <;> cases neg <;> simp
          · rw [if_neg c]
            refine tl _ ?_
            unfold upf
            rw [if_neg m1, if_neg m2, if_pos m3]
            have hne : r = 0 := by
              apply Classical.byContradiction
              intro h; exact c ((hlen0 r).2 h)
            rw [hz] at hne
            revert hne
            cases half <;> cases rest <;> cases neg <;> simp
        · rw [if_neg m3]
          by_cases m4 : mode = 4
          · rw [if_pos m4]
            by_cases c : ((D r).length : Int) > 0
            · rw [if_pos c]
              refine tl _ ?_
              unfold upf
              rw [if_neg m1, if_neg m2, if_neg m3, if_pos m4]
              have hne := (hlen0 r).1 c
              rw [Ne, hz] at hne
              revert hne
              cases half <;> cases rest <;> cases neg <;> simp
            · rw [if_neg c]
              refine tl _ ?_
              unfold upf
              rw [if_neg m1, if_neg m2, if_neg m3, if_pos m4]
              have hne : r = 0 := by
                apply Classical.byContradiction
                intro h; exact c ((hlen0 r).2 h)
              rw [hz] at hne
              revert hne
              cases half <;> cases rest <;> cases neg <;> simp
          · rw [if_neg m4, s3]
            have hodd : ((Int.tmod (q : Int) 2) == 1) = decide (q % 2 = 1) := by
              rw [Int.tmod_eq_emod_of_nonneg (by omega), Bool.eq_iff_iff, beq_iff_eq, decide_eq_true_iff]
              omega
            rw [hodd]
            have hup : upf neg q half rest mode = (if half = true then (if rest = true then true else decide (q % 2 = 1)) else false) := by
              unfold upf
              rw [if_neg m1, if_neg m2, if_neg m3, if_neg m4]
            cases half <;> cases rest
            · rw [if_neg (by decide), if_neg (by decide)]; exact tl _ (by rw [hup]; rfl)
            · rw [if_neg (by decide), if_neg (by decide)]; exact tl _ (by rw [hup]; rfl)
            · rw [if_neg (by decide), if_pos (by decide)]; exact tl _ (by rw [hup]; rfl)
            · rw [if_pos (by decide)]; exact tl _ (by rw [hup]; rfl)
  unfold R
  rw [← he]
  simp only
  by_cases c : e ≤ exp
  · rw [if_pos c]
    have e1 : qAt N exp e = N * 2 ^ (exp - e).toNat := by unfold qAt; rw [show (e - exp).toNat = 0 by omega, Nat.pow_zero, Nat.div_one]
    have e2 : rAt N exp e = 0 := by unfold rAt; rw [show (e - exp).toNat = 0 by omega, Nat.pow_zero, Nat.mod_one]
    rw [htn]
    rw [e1] at hq ⊢
    rw [e2]
    exact modes false false _ 0 _ hq (by have := Nat.two_pow_pos (e - exp).toNat; simp) (by have := Nat.two_pow_pos (e - exp).toNat; simp) (by simp)
  · rw [if_neg c]
    have e1 : qAt N exp e = N / 2 ^ (e - exp).toNat := by unfold qAt; rw [show (exp - e).toNat = 0 by omega, Nat.pow_zero, Nat.mul_one]
    have e2 : rAt N exp e = N % 2 ^ (e - exp).toNat := by unfold rAt; rw [show (exp - e).toNat = 0 by omega, Nat.pow_zero, Nat.mul_one]
    obtain ⟨g1, g2, g3⟩ := half_rest N (e - exp).toNat (by omega)
    rw [htn, Bool.or_false]
    rw [e1] at hq ⊢
    rw [e2]
    refine modes _ _ _ _ _ hq ?_ ?_ ?_
    · rw [g1, decide_eq_true_iff, decide_eq_true_iff]
    · rw [g2, decide_eq_true_iff, decide_eq_true_iff, Decidable.not_not]
    · rw [g3, decide_eq_true_iff, decide_eq_true_iff, Decidable.not_not]
end Go.Proofs.Ytjbpchebabhoeaa.Rf
end
section
set_option linter.unusedVariables false
set_option linter.unusedSimpArgs false
namespace Go.Proofs.Ytjbpchebabhoeaa.Rf
open Go.RowKit Go.Proofs.Ytjbpchebabhoeaa.P Go.Proofs.Ytjbpchebabhoeaa.X Go.Proofs.Ytjbpchebabhoeaa.Bt Go.Proofs.Ytjbpchebabhoeaa.Dg Go.Proofs.Ytjbpchebabhoeaa.Fl Go.Proofs.YtjbpchebabhoeaaW.PrintWords
theorem few06 (N : Nat) (exp e : Int) (hL : (D N).length ≤ 100000) (h0 : -100000 ≤ exp) (h1 : exp ≤ 100000) (he0 : -1074 ≤ e) (he1 : e ≤ 5000) (hn : exp + blen N ≤ e + 60) {k : Nat} (hk : 20000000 ≤ k) :
    vernierref01_Few.f k (D (N * 2 ^ (exp - e).toNat)) (D (1 * 2 ^ (-(exp - e)).toNat)) = some (((qAt N exp e : Nat) : Int), D (rAt N exp e)) := by
  rw [Nat.one_mul, show -(exp - e) = e - exp by omega]
  have hq : qAt N exp e < 2 ^ 60 := qAt_lt (by omega)
  have hl1 := len_shl N (exp - e).toNat
  have hl2 := len_pow (e - exp).toNat
  unfold qAt at hq
  rw [Nat.div_lt_iff_lt_mul (Nat.two_pow_pos _), Nat.mul_comm (2 ^ 60)] at hq
  exact Few_f _ _ (Nat.two_pow_pos _) hq 130000 (by omega) (by omega) (by omega) (by omega)
theorem loop06 (neg : Bool) {N : Nat} (hp : 0 < N) (exp mode : Int) (hL : (D N).length ≤ 100000) (h0 : -100000 ≤ exp) (h1 : exp ≤ 100000) (hn : exp + blen N ≤ 2001) (d : Nat) :
    ∀ (e : Int) (t k : Nat), t + d = 8 → e + d ≥ max (exp + blen N - 53) (-1074) + 5 → e ≤ max (exp + blen N - 53) (-1074) → -1074 ≤ e → exp + blen N ≤ e + 60 → 100000000 + 2 * d + 5 < k → t ≠ 0 →
    vernierref06_Round.l0 k neg (D N) (D 1) exp mode e (qAt N exp e : Nat) (D (rAt N exp e)) (D (2 ^ (e - exp).toNat)) t = some (R neg N exp false mode) := by
  induction d with
  | zero => intro e t k ht hed hle he0 hn2 hk ht0; omega
  | succ d ih =>
    intro e t k ht hed hle he0 hn2 hk ht0
    obtain ⟨k, rfl⟩ : ∃ m, k = m + 2 := ⟨k - 2, by omega⟩
    simp only [vernierref06_Round.l0]
    rw [if_pos (by omega), if_neg (by omega)]
    by_cases c : e = max (exp + blen N - 53) (-1074)
    · have hq : qAt N exp e < 2 ^ 53 := qAt_lt (by omega)
      rw [decide_eq_false (by omega)]
      exact last06 neg hp exp mode hL h0 h1 c (by omega) (by omega) _
    · have hq : 2 ^ 53 ≤ qAt N exp e := qAt_ge hp (by omega)
      rw [decide_eq_true (by omega)]
      simp only [vernierref06_Round.j2]
      rw [if_true, if_pos (by omega), w64 (x := e + 1) (by omega) (by omega), w64 (x := exp - (e + 1)) (by omega) (by omega), w64 (x := (t : Int) + 1) (by omega) (by omega),
        shift06 N 1 (exp - (e + 1)) (by omega) (by rw [D_one]; decide) (by omega) (by omega) (by omega)]
      simp only [Option.bind_some]
      rw [few06 N exp (e + 1) hL h0 h1 (by omega) (by omega) (by omega) (by omega)]
      simp only [Option.bind_some]
      have := ih (e + 1) (t + 1) k (by omega) (by omega) (by omega) (by omega) (by omega) (by omega) (by omega)
      rw [← this, Nat.one_mul, show -(exp - (e + 1)) = e + 1 - exp by omega]
      rfl
theorem start06 (neg : Bool) {N : Nat} (hp : 0 < N) (exp mode : Int) (hL : (D N).length ≤ 100000) (h0 : -100000 ≤ exp) (h1 : exp ≤ 100000) (hn : exp + blen N ≤ 2001) {e : Int} (he : e = max (exp + blen N - 55) (-1074)) {k : Nat} (hk : 110000000 ≤ k) :
    vernierref06_Round.j0 k neg (D N) (D 1) exp mode e = some (R neg N exp false mode) := by
  obtain ⟨k, rfl⟩ : ∃ m, k = m + 3 := ⟨k - 3, by omega⟩
  simp only [vernierref06_Round.j0, vernierref06_Round.l0, vernierref06_Round.j2]
  rw [if_pos (by omega), if_true, if_true, if_neg (by omega), w64 (x := exp - e) (by omega) (by omega),
    shift06 N 1 (exp - e) (by omega) (by rw [D_one]; decide) (by omega) (by omega) (by omega)]
  simp only [Option.bind_some]
  rw [few06 N exp e hL h0 h1 (by omega) (by omega) (by omega) (by omega)]
  simp only [Option.bind_some]
  have := loop06 neg hp exp mode hL h0 h1 hn 7 e 1 k (by omega) (by omega) (by omega) (by omega) (by omega) (by omega) (by omega)
  rw [← this, Nat.one_mul, show -(exp - e) = e - exp by omega, w64 (x := 0 + 1) (by omega) (by omega)]
  rfl
theorem Round06 (neg : Bool) {N : Nat} (hp : 0 < N) (exp mode : Int) (hL : (D N).length ≤ 100000) (h0 : -100000 ≤ exp) (h1 : exp ≤ 100000) {k : Nat} (hk : 110000000 ≤ k) :
    vernierref06_Round.f k neg (D N) [1] exp mode = some (R neg N exp false mode) := by
  unfold vernierref06_Round.f
  have hb1 : blen 1 = 1 := by decide
  have hb1_ : ∀ T, (D N).length ≤ T → blen N ≤ 16 * T := by
    intro T hT
    apply blen_le
    refine Nat.lt_of_lt_of_le (m := 65536 ^ (D N).length) ?_ ?_
    · have := val_lt (D_wf N)
      rw [D_val] at this
      exact this
    · rw [show (65536 : Nat) = 2 ^ 16 from rfl, ← Nat.pow_mul]
      exact Nat.pow_le_pow_right (by omega) (by omega)
  have hb := hb1_ 100000 hL
  have hbp := blen_pos hp
  rw [← D_one, Bits_f N (by unfold Few_; omega) (by omega), Bits_f 1 (by unfold Few_; rw [D_one]; decide) (by omega)]
  simp only [Option.bind_some]
  rw [hb1, w64 (x := (blen N : Int) - ((1 : Nat) : Int)) (by omega) (by omega), w64 (x := (blen N : Int) - ((1 : Nat) : Int) + exp) (by omega) (by omega)]
  by_cases c1 : (blen N : Int) - ((1 : Nat) : Int) + exp > 2000
  · rw [if_pos c1, big06 (by omega), R_huge neg hp exp mode (by omega)]
    rfl
  · rw [if_neg c1]
    by_cases c2 : (blen N : Int) - ((1 : Nat) : Int) + exp < -3000
    · rw [if_pos c2, start06 neg (N := 1) (by omega) (-3000) mode (by rw [D_one]; decide) (by omega) (by omega) (by omega) (by omega) (by omega),
        R_tiny neg (N := 1) (by omega) (-3000) mode (by omega), R_tiny neg hp exp mode (by omega)]
    · rw [if_neg c2, w64 (by omega) (by omega)]
      refine start06 neg hp exp mode hL h0 h1 (by omega) ?_ hk
      unfold mx
      split <;> omega
end Go.Proofs.Ytjbpchebabhoeaa.Rf
end
section
set_option linter.unusedVariables false
set_option linter.unusedSimpArgs false
namespace Go.Proofs.Ytjbpchebabhoeaa.Rf
open Go.RowKit Go.Proofs.Ytjbpchebabhoeaa.P Go.Proofs.Ytjbpchebabhoeaa.X Go.Proofs.Ytjbpchebabhoeaa.Bt Go.Proofs.Ytjbpchebabhoeaa.Dg Go.Proofs.YtjbpchebabhoeaaW.PrintWords
theorem Of_inner (l : List Int) (i : Nat) (hi : i < l.length) (V K : Nat) (res : List Int)
    (H : ∀ out : List Int, W16 out → out.length = 4 * i + 4 → val 65536 out = V → ∀ k, K < k → vernierref01_Of.l0 k l out ((i : Int) + 1) = some res) (hl : 4 * l.length ≤ 17592186044416) (d : Nat) :
    ∀ (j X : Nat) (out : List Int) (k : Nat), j + d = 4 → X < 65536 ^ d → W16 out → out.length = 4 * i + j → val 65536 out + 65536 ^ out.length * X = V → K + d + 1 < k →
      vernierref01_Of.l1 k l out i X j = some res := by
  induction d with
  | zero =>
    intro j X out k hj hX hw hlen hv hk
    obtain ⟨k, rfl⟩ : ∃ m, k = m + 1 := ⟨k - 1, by omega⟩
    simp only [vernierref01_Of.l1]
    rw [Nat.pow_zero] at hX
    obtain rfl : X = 0 := by omega
    rw [if_neg (by omega), w64 (by omega) (by omega)]
    exact H out hw (by omega) (by omega) k (by omega)
  | succ d ih =>
    intro j X out k hj hX hw hlen hv hk
    obtain ⟨k, rfl⟩ : ∃ m, k = m + 1 := ⟨k - 1, by omega⟩
    simp only [vernierref01_Of.l1]
    have hX64 : X < 65536 ^ 4 := Nat.lt_of_lt_of_le hX (Nat.pow_le_pow_right (by omega) (by omega))
    have h1 : Int.tmod (X : Int) 65536 = ((X % 65536 : Nat) : Int) := by rw [tmod_dig (by omega)]; omega
    have h2 : Int.tdiv (X : Int) 65536 = ((X / 65536 : Nat) : Int) := by rw [tdiv_dig (by omega)]; omega
    rw [if_pos (by omega), if_pos (by omega), h1, h2, w64 (by omega) (by omega), u64_in (by omega) (by omega), w64 (by omega) (by omega)]
    refine ih (j + 1) (X / 65536) _ k (by omega) ?_ (snoc_wf hw (by omega) (by omega)) ?_ ?_ (by omega)
    · rw [Nat.div_lt_iff_lt_mul (by omega)]; rw [Nat.pow_succ] at hX; exact hX
    · rw [List.length_append]; simp only [List.length_singleton]; omega
    · rw [val_snoc, List.length_append, ← hv]
      simp only [List.length_singleton]
      rw [Nat.pow_succ, Int.toNat_natCast, Nat.mul_assoc, Nat.add_assoc, ← Nat.mul_add]
      congr 2
      omega
theorem Of_loop {l : List Int} (h : Wf 18446744073709551616 l) (hl : 4 * l.length ≤ 17592186044416) (d : Nat) : ∀ (i : Nat) (out : List Int) (k : Nat), i + d = l.length → 8 * d + 4 * l.length + 5 < k → W16 out → out.length = 4 * i →
    val 65536 out + 65536 ^ (4 * i) * val 18446744073709551616 (l.drop i) = val 18446744073709551616 l → vernierref01_Of.l0 k l out i = some (D (val 18446744073709551616 l)) := by
  induction d with
  | zero =>
    intro i out k hi hk hw hlen hv
    obtain ⟨k, rfl⟩ : ∃ m, k = m + 1 := ⟨k - 1, by omega⟩
    simp only [vernierref01_Of.l0]
    rw [if_neg (by omega), cut_f hw (by omega) (by omega)]
    rw [List.drop_of_length_le (by omega), val_nil, Nat.mul_zero, Nat.add_zero] at hv
    rw [hv]; rfl
  | succ d ih =>
    intro i out k hi hk hw hlen hv
    obtain ⟨k, rfl⟩ : ∃ m, k = m + 1 := ⟨k - 1, by omega⟩
    simp only [vernierref01_Of.l0]
    have hx := h.getD (by omega) i
    obtain ⟨X, hX⟩ := Int.eq_ofNat_of_zero_le hx.1
    have hdrop : l.drop i = l.getD i 0 :: l.drop (i + 1) := by
      rw [List.drop_eq_getElem_cons (by omega), List.getD_eq_getElem?_getD, List.getElem?_eq_getElem (by omega)]; rfl
    rw [hdrop, val_cons, hX, Int.toNat_natCast] at hv
    rw [if_pos (by omega), if_pos (by omega), rd_nat, hX]
    refine Of_inner l i (by omega) (val 65536 out + 65536 ^ (4 * i) * X) (8 * d + 4 * l.length + 5) _ ?_ hl 4 0 X out k (by omega) (by rw [hX] at hx; omega) hw (by omega) (by rw [hlen]) (by omega)
    intro out2 hw2 hlen2 hv2 k2 hk2
    refine ih (i + 1) out2 k2 (by omega) hk2 hw2 (by omega) ?_
    rw [hv2, ← hv, show 4 * (i + 1) = 4 * i + 4 by omega, Nat.pow_add, Nat.mul_add, Nat.mul_assoc, Nat.add_assoc, show (65536 : Nat) ^ 4 = 18446744073709551616 from rfl]
theorem Of_f {l : List Int} (h : Wf 18446744073709551616 l) (hl : 4 * l.length ≤ 17592186044416) {k : Nat} (hk : 12 * l.length + 5 < k) : vernierref01_Of.f k l = some (D (val 18446744073709551616 l)) := by
  unfold vernierref01_Of.f
  exact Of_loop h hl l.length 0 [] k (by omega) (by omega) (Wf.nil _) rfl (by simp [val_nil])
theorem Word_f (n : Nat) (h : n < 18446744073709551616) {k : Nat} (hk : 50 ≤ k) : vernierref01_Word.f k (n : Int) = some (D n) := by
  unfold vernierref01_Word.f
  rw [Of_f (Wf.cons (by omega) (by omega) (Wf.nil _)) (by simp) (by simp; omega)]
  simp only [Option.bind_some, val_cons, val_nil, Int.toNat_natCast, Nat.mul_zero, Nat.add_zero]
end Go.Proofs.Ytjbpchebabhoeaa.Rf
end
section
namespace Go.Proofs.Ytjbpchebabhoeaa.P
open Go.RowKit Go.Proofs.YtjbpchebabhoeaaW.PrintWords Go.Proofs.YtjbpchebabhoeaaW.PrintLast Go.Proofs.YtjbpchebabhoeaaW.PrintMore Go.Proofs.Ytjbpchebabhoeaa.X
attribute [local go_sem] max2_int min2_int max_two min_two max_three min_three max_four min_four
set_option linter.unusedVariables false
set_option linter.unusedSimpArgs false
def fadd_Sub.f (k : Nat) (a0 : Int) (a1 : Int) (a2 : Int) : Option (Int × Int) := (parts_Class.f k a1).bind fun t422 => (if t422 = 3 then (some (9221120237041090560, 0)) else ((fadd_Add.f k a0 (Go.bits .xor .u64 a1 9223372036854775808) a2).bind fun bt423 => (some (bt423.1, bt423.2))))
theorem fadd_Sub.mono : ∀ a0 a1 a2 k, LeO (fadd_Sub.f k a0 a1 a2) (fadd_Sub.f (k + 1) a0 a1 a2) := by
  intro a0 a1 a2 k
  unfold fadd_Sub.f
  repeat' first
      | (with_reducible exact fadd_Add.mono _ _ _ _)
      | (with_reducible exact parts_Class.mono _ _)
      | (with_reducible exact LeO.refl _)
      | (with_reducible exact LeO.none _)
      | (with_reducible refine LeO.ite ?_ ?_)
      | (with_reducible refine LeO.bind ?_ (fun _ => ?_))
      | exact fadd_Add.mono _ _ _ _
      | exact parts_Class.mono _ _
      | exact LeO.none _
      | refine LeO.ite ?_ ?_
      | refine LeO.bind ?_ (fun _ => ?_)
set_option maxHeartbeats 8000000 in
set_option maxRecDepth 100000 in
theorem fadd_Sub.calls (k : Nat) (a0 : Int) (a1 : Int) (a2 : Int) (r1 : Int) (r2 : Int) (w : World) (h : fadd_Sub.f k a0 a1 a2 = some (r1, r2)) :
    Calls Try.prog 47 #[.int .u64 a0, .int .u64 a1, .int .i64 a2] w fun e w' => e = .returned (.tuple #[.int .u64 r1, .int .i64 r2]) ∧ Below w.heap.size w w' := by
  have HB := Aside0.mk (Below.refl w.heap.size w)
  have H : ((parts_Class.f k a1).bind fun t422 => (if t422 = 3 then (some (9221120237041090560, 0)) else ((fadd_Add.f k a0 (Go.bits .xor .u64 a1 9223372036854775808) a2).bind fun bt423 => (some (bt423.1, bt423.2))))) = some (r1, r2) := h
  clear h
  replace H := Option.bind_eq_some_iff.mp H
  obtain ⟨t422, A40, H⟩ := H
  replace H : (if t422 = 3 then (some (9221120237041090560, 0)) else ((fadd_Add.f k a0 (Go.bits .xor .u64 a1 9223372036854775808) a2).bind fun bt423 => (some (bt423.1, bt423.2)))) = some (r1, r2) := H
  have A4 := Aside0.mk A40
  clear A40
  by_cases c5 : t422 = 3
  · rw [if_pos c5] at H
    have c5b0 : (t422 == 3) = true := beq_iff_eq.mpr c5
    have c5b1 : (t422 != 3) = false := bne_eq_false_iff_eq.mpr c5
    clear c5
    simp only [Option.some.injEq, Prod.mk.injEq] at H
    obtain ⟨rfl, rfl⟩ := H
    go_enter Try.func47, Try.ntmps47
    go_wp2_with (first | ((with_reducible refine gate_callee (f := 81) rfl ?_); refine goesL_ (some 9) rfl rfl Try.func81 (by kernel_rfl) rfl #[.int .u64 a1] rfl (by (try simp only [List.map_toArray, List.map_cons, List.map_nil]); first | done | rfl | (simp only [List.length_drop, List.length_take]; rfl)) ?_; (with_reducible refine (parts_Class.calls k a1 t422 _ A4.out).mono ?_); rintro e w' ⟨rfl, ⟨nd, rfl⟩⟩; refine ⟨_, rfl, ?_⟩))
    go_ret2
    exact ⟨by first | rfl | (simp [errW_none, errW_some] <;> rfl) | (simp [*, errW_none, errW_some] <;> rfl), by repeat (first | (with_reducible first | exact HB.out | apply below_alloc | apply pw_below_drewN | apply below_drew1) | exact HB.out)⟩
  · rw [if_neg c5] at H
    have c5b0 : (t422 == 3) = false := beq_eq_false_iff_ne.mpr c5
    have c5b1 : (t422 != 3) = true := bne_iff_ne.mpr c5
    replace H := Option.bind_eq_some_iff.mp H
    obtain ⟨⟨t423, t424⟩, A60, H⟩ := H
    replace H : (some (t423, t424)) = some (r1, r2) := H
    have A6 := Aside0.mk A60
    clear A60
    simp only [Option.some.injEq, Prod.mk.injEq] at H
    obtain ⟨rfl, rfl⟩ := H
    go_enter Try.func47, Try.ntmps47
    go_wp2_with (first | ((with_reducible refine gate_callee (f := 81) rfl ?_); refine goesL_ (some 9) rfl rfl Try.func81 (by kernel_rfl) rfl #[.int .u64 a1] rfl (by (try simp only [List.map_toArray, List.map_cons, List.map_nil]); first | done | rfl | (simp only [List.length_drop, List.length_take]; rfl)) ?_; (with_reducible refine (parts_Class.calls k a1 t422 _ A4.out).mono ?_); rintro e w' ⟨rfl, ⟨nd, rfl⟩⟩; refine ⟨_, rfl, ?_⟩) | ((with_reducible refine gate_callee (f := 46) rfl ?_); refine goesL_ (some 15) rfl rfl Try.func46 (by kernel_rfl) rfl #[.int .u64 a0, .int .u64 (Go.bits .xor .u64 a1 9223372036854775808), .int .i64 a2] rfl (by (try simp only [List.map_toArray, List.map_cons, List.map_nil]); first | done | rfl | (simp only [List.length_drop, List.length_take]; rfl)) ?_; (with_reducible refine (fadd_Add.calls k a0 (Go.bits .xor .u64 a1 9223372036854775808) a2 t423 t424 _ A6.out).mono ?_); rintro e w7 ⟨rfl, hb⟩; refine ⟨_, rfl, ?_⟩; have n0_ := Aside0.mk (below_step (by repeat (first | (with_reducible first | exact HB.out | apply below_alloc | apply pw_below_drewN | apply below_drew1) | exact HB.out)) hb); clear HB; have HB := n0_; clear n0_; (try clear hb); (try clear hb2); (try clear hk); (try clear hi)))
    go_ret2
    exact ⟨by first | rfl | (simp [errW_none, errW_some] <;> rfl) | (simp [*, errW_none, errW_some] <;> rfl), by repeat (first | (with_reducible first | exact HB.out | apply below_alloc | apply pw_below_drewN | apply below_drew1) | exact HB.out)⟩
end Go.Proofs.Ytjbpchebabhoeaa.P
end
section
set_option linter.unusedVariables false
set_option linter.unusedSimpArgs false
namespace Go.Proofs.Ytjbpchebabhoeaa.Fl
open Go.RowKit Go.Proofs.Ytjbpchebabhoeaa.P Go.Proofs.Ytjbpchebabhoeaa.X Go.Proofs.Ytjbpchebabhoeaa.Bt Go.Proofs.YtjbpchebabhoeaaW.PrintWords
theorem odd_fin {a b : Int} (ha : Finite a) (hb : Finite b) {k : Nat} (hk : 5 ≤ k) : fadd_odd.f k a b = some (0, 0, false) := by
  unfold fadd_odd.f
  rw [Class_f (by omega) ha.1, Class_f (by omega) hb.1]
  simp only [Option.bind_some]
  have h1 := cls_fin ha
  have h2 := cls_fin hb
  rw [if_neg (by omega)]
  have e : (cls b == 3) = false := by rw [beq_eq_false_iff_ne]; omega
  obtain ⟨k, rfl⟩ : ∃ m, k = m + 2 := ⟨k - 2, by omega⟩
  rw [e]
  simp only [fadd_odd.j0]
  rw [if_neg (by decide), if_neg (by omega)]
  simp only [fadd_odd.j1]
  rw [if_neg (by decide), if_neg (by omega), if_neg (by omega)]
theorem nought_f {a b : Int} (ha : Word a) (hb : Word b) (mode : Int) : fadd_nought.f a b mode = some (if sgn a = sgn b then sgv (sgn a) else sgv (decide (mode = 4))) := by
  unfold fadd_nought.f
  rw [and_sign ha.1 ha.2, and_sign hb.1 hb.2, Zero_f]
  have e : (mode == 4) = decide (mode = 4) := by
    rw [Bool.eq_iff_iff, beq_iff_eq, decide_eq_true_iff]
  rw [e]
  unfold sgn
  by_cases h1 : 9223372036854775808 ≤ a <;> by_cases h2 : 9223372036854775808 ≤ b
  · rw [if_pos h1, if_pos h2, if_pos rfl, decide_eq_true h1, decide_eq_true h2, if_pos rfl]; rfl
  · rw [if_pos h1, if_neg h2, if_neg (by decide), decide_eq_true h1, decide_eq_false h2, if_neg (by decide)]; rfl
  · rw [if_neg h1, if_pos h2, if_neg (by decide), decide_eq_false h1, decide_eq_true h2, if_neg (by decide)]; rfl
  · rw [if_neg h1, if_neg h2, if_pos rfl, decide_eq_false h1, decide_eq_false h2, if_pos rfl]; rfl
theorem word_eq {a b : Int} (ha : Word a) (hb : Word b) (h : a % 9223372036854775808 = b % 9223372036854775808) (hs : sgn a = sgn b) : a = b := by
  unfold sgn at hs
  have := decide_eq_decide.1 hs
  obtain ⟨a0, a1⟩ := ha
  obtain ⟨b0, b1⟩ := hb
  omega
theorem Add_f {a b : Int} (ha : Finite a) (hb : Finite b) (mode : Int) {k : Nat} (hk : 260 ≤ k) : fadd_Add.f k a b mode = some (addspec a b mode) := by
  unfold fadd_Add.f
  rw [odd_fin ha hb (by omega)]
  simp only [Option.bind_some]
  rw [if_neg (by decide), andNot_sign ha.1.1 ha.1.2, andNot_sign hb.1.1 hb.1.2]
  obtain ⟨k, rfl⟩ : ∃ m, k = m + 1 := ⟨k - 1, by omega⟩
  have jt : (a % 9223372036854775808 = b % 9223372036854775808 ∧ a ≠ b ∨ a % 9223372036854775808 = 0 ∧ b % 9223372036854775808 = 0) → fadd_Add.j0 (k + 1) a b mode (a % 9223372036854775808) (b % 9223372036854775808) true = some (addspec a b mode) := by
    intro h
    simp only [fadd_Add.j0]
    rw [if_true, nought_f ha.1 hb.1]
    simp only [Option.bind_some]
    have hm : a % 9223372036854775808 = b % 9223372036854775808 := by omega
    obtain ⟨hx, hs⟩ := (mag_eq ha hb).1 hm
    unfold addspec
    rw [← hx, ← hs, show min (xpo a) (xpo a) = xpo a by omega, show (xpo a - xpo a).toNat = 0 by omega, Nat.pow_zero, Nat.mul_one]
    unfold sumR
    by_cases hg : sgn a = sgn b
    · rw [if_pos hg, if_pos hg]
      have hz : a % 9223372036854775808 = 0 := by
        rcases h with ⟨h1, h2⟩ | h
        · exact absurd (word_eq ha.1 hb.1 hm hg) h2
        · exact h.1
      rw [(sig_zero ha).2 hz]
      rfl
    · rw [if_neg hg, if_neg hg, if_pos rfl]
  have jf : ¬ (a % 9223372036854775808 = b % 9223372036854775808 ∧ a ≠ b ∨ a % 9223372036854775808 = 0 ∧ b % 9223372036854775808 = 0) → fadd_Add.j0 (k + 1) a b mode (a % 9223372036854775808) (b % 9223372036854775808) false = some (addspec a b mode) := by
    intro h
    simp only [fadd_Add.j0]
    rw [if_neg (by decide)]
    have hne : ∀ u v : Int, Finite u → Finite v → (u % 9223372036854775808 = v % 9223372036854775808 → u = v) → sgn u ≠ sgn v → ¬ (xpo u = xpo v ∧ sig u = sig v) := by
      intro u v hu hv huv hg hm
      have := huv ((mag_eq hu hv).2 hm)
      subst this
      exact hg rfl
    have hfin : ∀ u v : Int, Finite u → Finite v → xpo v ≤ xpo u → sumR (sgn u) (sig u * 2 ^ (xpo u - xpo v).toNat) (sgn v) (sig v) (xpo v) mode = addspec u v mode := by
      intro u v hu hv hx
      unfold addspec
      rw [show min (xpo u) (xpo v) = xpo v by omega, show (xpo v - xpo v).toNat = 0 by omega, Nat.pow_zero, Nat.mul_one]
    by_cases hlt : a % 9223372036854775808 < b % 9223372036854775808
    · rw [if_pos hlt]
      have hl := (mag_lt ha hb).1 hlt
      have hb0 : 0 < sig b := Nat.pos_of_ne_zero (fun h0 => by have := (sig_zero hb).1 h0; obtain ⟨⟨a0, _⟩, _⟩ := ha; omega)
      rw [sum_f hb ha hb0 (by omega) (hne b a hb ha (by omega)) mode (by omega), hfin b a hb ha (by omega), addspec_comm]
      rfl
    · rw [if_neg hlt]
      have hle : xpo b < xpo a ∨ (xpo a = xpo b ∧ sig b ≤ sig a) := by
        by_cases he : a % 9223372036854775808 = b % 9223372036854775808
        · have := (mag_eq ha hb).1 he; omega
        · have := (mag_lt hb ha).1 (by omega); omega
      have ha0 : 0 < sig a := Nat.pos_of_ne_zero (fun h0 => by have := (sig_zero ha).1 h0; obtain ⟨⟨b0, _⟩, _⟩ := hb; omega)
      rw [sum_f ha hb ha0 hle (hne a b ha hb (fun e => by apply Classical.byContradiction; intro hn; exact h (.inl ⟨e, hn⟩))) mode (by omega), hfin a b ha hb (by omega)]
      rfl
  have bz : ∀ x : Int, (x == 0) = decide (x = 0) := fun x => by rw [Bool.eq_iff_iff, beq_iff_eq, decide_eq_true_iff]
  by_cases h1 : a % 9223372036854775808 = b % 9223372036854775808
  · rw [if_pos h1]
    by_cases h2 : a = b
    · rw [if_pos h2]
      by_cases h3 : a % 9223372036854775808 = 0
      · rw [if_pos h3, bz, decide_eq_true (by omega)]; exact jt (.inr ⟨h3, by omega⟩)
      · rw [if_neg h3]; exact jf (by omega)
    · rw [if_neg h2]; exact jt (.inl ⟨h1, h2⟩)
  · rw [if_neg h1]
    by_cases h3 : a % 9223372036854775808 = 0
    · rw [if_pos h3, bz, decide_eq_false (by omega)]; exact jf (by omega)
    · rw [if_neg h3]; exact jf (by omega)
theorem finite_flip {b : Int} (hb : Finite b) : Finite (bits .xor .u64 b 9223372036854775808) ∧ sgn (bits .xor .u64 b 9223372036854775808) = !sgn b ∧ sig (bits .xor .u64 b 9223372036854775808) = sig b ∧ xpo (bits .xor .u64 b 9223372036854775808) = xpo b := by
  obtain ⟨⟨b0, b1⟩, b2⟩ := hb
  rw [xor_sign b0 b1]
  unfold Finite Word sgn sig xpo
  by_cases h : 9223372036854775808 ≤ b
  · rw [if_pos h, decide_eq_true h, decide_eq_false (by omega)]
    refine ⟨⟨by omega, by omega⟩, rfl, ?_, ?_⟩
    · split <;> split <;> omega
    · split <;> split <;> omega
  · rw [if_neg h, decide_eq_false h, decide_eq_true (by omega)]
    refine ⟨⟨by omega, by omega⟩, rfl, ?_, ?_⟩
    · split <;> split <;> omega
    · split <;> split <;> omega
theorem Sub_f {a b : Int} (ha : Finite a) (hb : Finite b) (mode : Int) {k : Nat} (hk : 260 ≤ k) : fadd_Sub.f k a b mode = some (addspec a (bits .xor .u64 b 9223372036854775808) mode) := by
  unfold fadd_Sub.f
  rw [Class_f (by omega) hb.1]
  simp only [Option.bind_some]
  have := cls_fin hb
  rw [if_neg (by omega), Add_f ha (finite_flip hb).1 mode hk]
  rfl
def vv (a : Int) : Int := (if sgn a = true then -1 else 1) * ((sig a * 2 ^ (xpo a + 1074).toNat : Nat) : Int)
theorem add_exact {a b c : Int} (ha : Finite a) (hb : Finite b) (hc : Finite c) (hv : vv a + vv b = vv c) (h0 : 0 < sig c) (mode : Int) : addspec a b mode = (c, 0) := by
  have ca := can_word ha
  have cb := can_word hb
  have cc := can_word hc
  have hp := pk_word hc
  unfold addspec
  generalize hE : min (xpo a) (xpo b) = E
  obtain ⟨e, he⟩ : ∃ e : Nat, E = -1074 + e := ⟨(E + 1074).toNat, by have := ca.2.1; have := cb.2.1; omega⟩
  have hA : sig a * 2 ^ (xpo a + 1074).toNat = sig a * 2 ^ (xpo a - E).toNat * 2 ^ e := by
    rw [Nat.mul_assoc, ← Nat.pow_add]; congr 2; omega
  have hB : sig b * 2 ^ (xpo b + 1074).toNat = sig b * 2 ^ (xpo b - E).toNat * 2 ^ e := by
    rw [Nat.mul_assoc, ← Nat.pow_add]; congr 2; omega
  unfold vv at hv
  rw [hA, hB] at hv
  generalize sig a * 2 ^ (xpo a - E).toNat = A at *
  generalize sig b * 2 ^ (xpo b - E).toNat = B at *
  obtain ⟨f, hf⟩ : ∃ f : Nat, xpo c = -1074 + f := ⟨(xpo c + 1074).toNat, by have := cc.2.1; omega⟩
  have hf2 : (xpo c + 1074).toNat = f := by omega
  rw [hf2] at hv
  have hep := Nat.two_pow_pos e
  have hfp := Nat.two_pow_pos f
  have hCpos : 0 < sig c * 2 ^ f := Nat.mul_pos h0 hfp
  have main : ∀ (N : Nat) (s : Bool), s = sgn c → N * 2 ^ e = sig c * 2 ^ f → R s N E false mode = (c, 0) := by
    intro N s hs hN
    subst hs
    have hNp : 0 < N := Nat.pos_of_ne_zero (fun h => by subst h; rw [Nat.zero_mul] at hN; omega)
    rw [R_exact (sgn c) hNp E cc ?_ mode, hp]
    by_cases hle : e ≤ f
    · refine .inl ⟨f - e, by omega, ?_⟩
      have : sig c * 2 ^ f = sig c * 2 ^ (f - e) * 2 ^ e := by rw [Nat.mul_assoc, ← Nat.pow_add]; congr 2; omega
      rw [this] at hN
      exact Nat.eq_of_mul_eq_mul_right hep hN
    · refine .inr ⟨e - f, by omega, ?_⟩
      have : N * 2 ^ e = N * 2 ^ (e - f) * 2 ^ f := by rw [Nat.mul_assoc, ← Nat.pow_add]; congr 2; omega
      rw [this] at hN
      exact (Nat.eq_of_mul_eq_mul_right hfp hN).symm
  have hAB : (A + B) * 2 ^ e = A * 2 ^ e + B * 2 ^ e := Nat.add_mul _ _ _
  have hAm : (A - B) * 2 ^ e = A * 2 ^ e - B * 2 ^ e := Nat.sub_mul _ _ _
  have hBm : (B - A) * 2 ^ e = B * 2 ^ e - A * 2 ^ e := Nat.sub_mul _ _ _
  have hlt : A < B ↔ A * 2 ^ e < B * 2 ^ e := (Nat.mul_lt_mul_right hep).symm
  have hz : A + B = 0 → A * 2 ^ e = 0 ∧ B * 2 ^ e = 0 := fun h => by
    obtain ⟨rfl, rfl⟩ : A = 0 ∧ B = 0 := by omega
    simp
  have heq : A = B → A * 2 ^ e = B * 2 ^ e := fun h => by rw [h]
  unfold sumR
  generalize A * 2 ^ e = A' at *
  generalize B * 2 ^ e = B' at *
  generalize sig c * 2 ^ f = C' at *
  generalize hsa : sgn a = sa at *
  generalize hsb : sgn b = sb at *
  generalize hsc : sgn c = sc at *
  cases sa <;> cases sb <;> cases sc <;> simp only [if_true, if_false, Bool.false_eq_true, Int.one_mul, Int.neg_mul] at hv
  · rw [if_pos rfl, if_neg (fun h => by have := hz h; omega)]; exact main _ _ rfl (by omega)
  · omega
  · rw [if_neg (by decide), if_neg (fun h => by have := heq h; omega), if_neg (fun h => by have := hlt.1 h; omega)]; exact main _ _ rfl (by omega)
  · rw [if_neg (by decide), if_neg (fun h => by have := heq h; omega), if_pos (hlt.2 (by omega))]; exact main _ _ rfl (by omega)
  · rw [if_neg (by decide), if_neg (fun h => by have := heq h; omega), if_pos (hlt.2 (by omega))]; exact main _ _ rfl (by omega)
  · rw [if_neg (by decide), if_neg (fun h => by have := heq h; omega), if_neg (fun h => by have := hlt.1 h; omega)]; exact main _ _ rfl (by omega)
  · omega
  · rw [if_pos rfl, if_neg (fun h => by have := hz h; omega)]; exact main _ _ rfl (by omega)
end Go.Proofs.Ytjbpchebabhoeaa.Fl
end
section
set_option linter.unusedVariables false
set_option linter.unusedSimpArgs false
namespace Go.Proofs.Ytjbpchebabhoeaa.Rf
open Go.RowKit Go.Proofs.Ytjbpchebabhoeaa.P Go.Proofs.Ytjbpchebabhoeaa.X Go.Proofs.Ytjbpchebabhoeaa.Bt Go.Proofs.Ytjbpchebabhoeaa.Dg Go.Proofs.Ytjbpchebabhoeaa.Fl Go.Proofs.YtjbpchebabhoeaaW.PrintWords
theorem Class06 {k : Nat} (hk : 1 ≤ k) {a : Int} (h : Word a) : vernierref06_Class.f k a = some (cls a) := by
  obtain ⟨k, rfl⟩ : ∃ m, k = m + 1 := ⟨k - 1, by omega⟩
  obtain ⟨h0, h1⟩ := h
  unfold vernierref06_Class.f cls
  rw [Int.tdiv_eq_ediv_of_nonneg h0, u64_in (by omega) (by omega), Int.tmod_eq_emod_of_nonneg (by omega), Int.tmod_eq_emod_of_nonneg h0]
  by_cases e : a / 4503599627370496 % 2048 = 2047
  · rw [if_pos e, if_pos e, e]
    by_cases f : a % 4503599627370496 = 0
    · rw [if_pos f, decide_eq_false (by omega)]; simp only [vernierref06_Class.j0]; rw [if_neg (by decide), if_true]
    · rw [if_neg f, decide_eq_true (by omega)]; simp only [vernierref06_Class.j0]; rw [if_true]
  · rw [if_neg e, if_neg e]
    simp only [vernierref06_Class.j0]
    rw [if_neg (by decide), if_neg e]
    by_cases f : a / 4503599627370496 % 2048 = 0
    · rw [if_pos f, if_pos f]; split <;> rfl
    · rw [if_neg f, if_neg f]
theorem Split06 {a : Int} (h : Finite a) : vernierref06_Split.f a = some (sgn a, (sig a : Int), xpo a) := by
  obtain ⟨⟨h0, h1⟩, h2⟩ := h
  unfold vernierref06_Split.f sig xpo sgn
  rw [Int.tdiv_eq_ediv_of_nonneg h0, u64_in (x := a / 4503599627370496) (by omega) (by omega), Int.tmod_eq_emod_of_nonneg (by omega), Int.tmod_eq_emod_of_nonneg h0, w64 (x := a / 4503599627370496 % 2048) (by omega) (by omega)]
  have e : decide (a ≥ 9223372036854775808) = decide (9223372036854775808 ≤ a) := rfl
  rw [e]
  by_cases c : a / 4503599627370496 % 2048 = 0
  · rw [if_pos c, if_pos c, if_pos c, Int.toNat_of_nonneg (by omega)]
  · rw [if_neg c, if_neg c, if_neg c, u64_in (by omega) (by omega), w64 (by omega) (by omega)]
    congr 3
    omega
theorem sum06 (na : Bool) (A : Nat) (ea : Int) (nb : Bool) (B : Nat) (eb : Int) (mode : Int) (hA : (D A).length ≤ 20000) (hB : (D B).length ≤ 20000) (ha0 : -100000 ≤ ea) (ha1 : ea ≤ 100000) (hb0 : -100000 ≤ eb) (hb1 : eb ≤ 100000) {k : Nat} (hk : 110000001 ≤ k) :
    vernierref06_sum.f k na (D A) ea nb (D B) eb mode = some (sumR na (A * 2 ^ (ea - min ea eb).toNat) nb (B * 2 ^ (eb - min ea eb).toNat) (min ea eb) mode) := by
  unfold vernierref06_sum.f
  have hmn : mn ea eb = min ea eb := by unfold mn; split <;> omega
  rw [hmn]
  generalize hE : min ea eb = E
  obtain ⟨u, hu⟩ := Int.eq_ofNat_of_zero_le (show 0 ≤ ea - E by omega)
  obtain ⟨v, hv⟩ := Int.eq_ofNat_of_zero_le (show 0 ≤ eb - E by omega)
  rw [hu, hv, w64 (by omega) (by omega), w64 (by omega) (by omega), Shl_f A u (by omega) (by omega) (by omega), Shl_f B v (by omega) (by omega) (by omega), Int.toNat_natCast, Int.toNat_natCast]
  simp only [Option.bind_some]
  have hl1 := len_shl A u
  have hl2 := len_shl B v
  generalize A * 2 ^ u = P at *
  generalize B * 2 ^ v = Q at *
  have hadd := Add_f (D_wf P) (D_wf Q) (by unfold Few_; omega) (by unfold Few_; omega) (k := k) (by omega)
  rw [D_val, D_val] at hadd
  rw [hadd, Sub_f P Q (by unfold Few_; omega) (by unfold Few_; omega) (by omega), Cmp_f P Q (by unfold Few_; omega) (by unfold Few_; omega) (by omega)]
  simp only [Option.bind_some]
  have hlen0 : ∀ n, (((D n).length : Int) = 0) ↔ n = 0 := by
    intro n
    have := D_len0 (n := n)
    omega
  have hone : vernierref06_one.f = some [1] := rfl
  have j0 : ∀ (g : Bool) (n : Nat), (D n).length ≤ 100000 → vernierref06_sum.j0 k na nb mode E (D n) g = if n = 0 then (if na = nb then some (sgv na, 0) else some (sgv (decide (mode = 4)), 0)) else some (R g n E false mode) := by
    intro g n hn
    obtain ⟨k, rfl⟩ : ∃ m, k = m + 1 := ⟨k - 1, by omega⟩
    simp only [vernierref06_sum.j0]
    by_cases c : n = 0
    · rw [if_pos ((hlen0 n).2 c), if_pos c, Zero06, Zero06]
      by_cases d : na = nb
      · rw [if_pos d, if_pos (by rw [d]; exact beq_self_eq_true nb)]; rfl
      · rw [if_neg d, if_neg (by rw [beq_iff_eq]; exact d)]
        have : (mode == 4) = decide (mode = 4) := by rw [Bool.eq_iff_iff, beq_iff_eq, decide_eq_true_iff]
        rw [this]; rfl
    · rw [if_neg (fun h => c ((hlen0 n).1 h)), if_neg c, hone]
      simp only [Option.bind_some]
      rw [Round06 g (by omega) E mode hn (by omega) (by omega) (by omega)]
      rfl
  have hmono : ∀ n, n ≤ P ∨ n ≤ Q → (D n).length ≤ 100000 := by
    intro n hn
    rcases hn with hn | hn
    · have := digs_len_mono (b := 65536) (by omega) hn
      unfold D at *; omega
    · have := digs_len_mono (b := 65536) (by omega) hn
      unfold D at *; omega
  unfold sumR
  by_cases c : na = nb
  · have c2 : ¬ (!(na == nb)) = true := by rw [c]; simp
    rw [if_neg c2, if_pos c, j0 na (P + Q) ?_, if_pos c]
    · split <;> rfl
    · have hs : P + Q ≤ max P Q * 2 ^ 1 := by omega
      have h1 := digs_len_mono (b := 65536) (by omega) hs
      have h2 := len_shl (max P Q) 1
      have h3 : (D (max P Q)).length ≤ 90000 := by
        by_cases g : P ≤ Q
        · rw [show max P Q = Q by omega]; omega
        · rw [show max P Q = P by omega]; omega
      unfold D at *; omega
  · have c2 : (!(na == nb)) = true := by simp [c]
    rw [if_pos c2, if_neg c]
    unfold sign3
    by_cases g : P < Q
    · rw [if_pos g, if_pos g, if_pos (by omega), j0 nb (Q - P) (hmono _ (by omega)), if_neg (by omega), if_neg (by omega), if_pos g]
    · rw [if_neg g, if_neg g, if_neg (by split <;> omega), j0 na (P - Q) (hmono _ (by omega)), if_neg c]
      by_cases h : P = Q
      · rw [if_pos (by omega), if_pos h]
      · rw [if_neg (by omega), if_neg h, if_neg g]
theorem ovr_word (neg : Bool) (mode : Int) : Word (ovr neg mode).1 := by
  unfold ovr Word
  rcases sgv_or neg with h | h <;> rw [h] <;> simp only <;> split <;> omega
theorem fin_word (neg : Bool) (q : Nat) (e : Int) (half rest tiny : Bool) (mode : Int) (hq : q < 9007199254740992) (he : -1074 ≤ e) : Word (fin neg q e half rest tiny mode).1 := by
  have key : ∀ (q2 : Nat) (e2 fl : Int), q2 < 9007199254740992 → -1074 ≤ e2 → Word (if 4503599627370496 ≤ q2 ∧ 972 ≤ e2 then ovr neg mode else (pk neg q2 e2, fl)).1 := by
    intro q2 e2 fl h1 h2
    by_cases c : 4503599627370496 ≤ q2 ∧ 972 ≤ e2
    · rw [if_pos c]; exact ovr_word neg mode
    · rw [if_neg c]
      unfold pk Word
      simp only
      rcases sgv_or neg with h | h <;> rw [h] <;> split <;> omega
  unfold fin
  simp only
  have hq1 : (if upf neg q half rest mode = true then q + 1 else q) ≤ 9007199254740992 := by split <;> omega
  generalize (if upf neg q half rest mode = true then q + 1 else q) = q1 at *
  apply key
  · split <;> omega
  · split <;> omega
theorem R_word (neg : Bool) {N : Nat} (hp : 0 < N) (exp mode : Int) : Word (R neg N exp false mode).1 := by
  have hq : qAt N exp (max (exp + blen N - 53) (-1074)) < 2 ^ 53 := qAt_lt (by omega)
  unfold R
  generalize he : max (exp + (blen N : Int) - 53) (-1074) = e at *
  simp only
  unfold qAt at hq
  by_cases c : e ≤ exp
  · rw [if_pos c]
    rw [show (e - exp).toNat = 0 by omega, Nat.pow_zero, Nat.div_one] at hq
    exact fin_word _ _ _ _ _ _ _ hq (by omega)
  · rw [if_neg c]
    rw [show (exp - e).toNat = 0 by omega, Nat.pow_zero, Nat.mul_one] at hq
    exact fin_word _ _ _ _ _ _ _ hq (by omega)
theorem sgv_word (b : Bool) : Word (sgv b) := by unfold Word; rcases sgv_or b with h | h <;> rw [h] <;> omega
theorem sumR_word (na : Bool) (A : Nat) (nb : Bool) (B : Nat) (E mode : Int) : Word (sumR na A nb B E mode).1 := by
  unfold sumR
  by_cases c : na = nb
  · rw [if_pos c]
    by_cases d : A + B = 0
    · rw [if_pos d]; exact sgv_word _
    · rw [if_neg d]; exact R_word _ (by omega) _ _
  · rw [if_neg c]
    by_cases d : A = B
    · rw [if_pos d]; exact sgv_word _
    · rw [if_neg d]
      by_cases e : A < B
      · rw [if_pos e]; exact R_word _ (by omega) _ _
      · rw [if_neg e]; exact R_word _ (by omega) _ _
theorem fin_of {a : Int} (h : Word a) (hc : cls a ≠ 3) (hc2 : cls a ≠ 2) : Finite a := by
  refine ⟨h, fun h2 => ?_⟩
  unfold cls at hc hc2
  rw [if_pos h2] at hc hc2
  split at hc <;> simp_all
theorem len_word {n : Nat} (h : n < 18446744073709551616) : (D n).length ≤ 4 := digs_length_le (by omega) 4 n h
theorem add_both {a b : Int} (ha : Word a) (hb : Word b) (mode : Int) : ∃ r : Int × Int, Word r.1 ∧ ∀ k, 120000000 ≤ k → fadd_Add.f k a b mode = some r ∧ vernierref06_Add.f k a b mode = some r := by
  have odd : ∀ r : Int × Int, Word r.1 → (∀ k, 119999990 ≤ k → fadd_odd.f k a b = some (r.1, r.2, true) ∧ vernierref06_Add.f k a b mode = some r) → ∃ r : Int × Int, Word r.1 ∧ ∀ k, 120000000 ≤ k → fadd_Add.f k a b mode = some r ∧ vernierref06_Add.f k a b mode = some r := by
    intro r hr H
    refine ⟨r, hr, fun k hk => ⟨?_, (H k (by omega)).2⟩⟩
    unfold fadd_Add.f
    rw [(H k (by omega)).1]
    rfl
  have eqw : ∀ k, 119999990 ≤ k → ∀ m, k = m + 2 → (fadd_odd.f k a b = if cls a = 3 then fadd_odd.j0 k a b (cls a) (cls b) true else fadd_odd.j0 k a b (cls a) (cls b) (cls b == 3)) ∧ (vernierref06_Add.f k a b mode = if cls a = 3 then vernierref06_Add.j0 k a b mode (cls a) (cls b) true else vernierref06_Add.j0 k a b mode (cls a) (cls b) (cls b == 3)) := by
    intro k hk m hm
    constructor
    · unfold fadd_odd.f
      rw [Class_f (by omega) ha, Class_f (by omega) hb]; rfl
    · unfold vernierref06_Add.f
      rw [Class06 (by omega) ha, Class06 (by omega) hb]; rfl
  by_cases n1 : cls a = 3 ∨ cls b = 3
  · refine odd (9221120237041090560, 0) ⟨by omega, by omega⟩ fun k hk => ?_
    obtain ⟨m, rfl⟩ : ∃ m, k = m + 2 := ⟨k - 2, by omega⟩
    obtain ⟨e1, e2⟩ := eqw _ hk m rfl
    rw [e1, e2]
    by_cases c : cls a = 3
    · rw [if_pos c, if_pos c]; exact ⟨rfl, rfl⟩
    · have d : cls b = 3 := by omega
      rw [if_neg c, if_neg c, d]; exact ⟨rfl, rfl⟩
  · have n2 : ¬ cls a = 3 := fun h => n1 (.inl h)
    have n3 : (cls b == 3) = false := by rw [beq_eq_false_iff_ne]; exact fun h => n1 (.inr h)
    have st : ∀ k, 119999990 ≤ k → ∀ m, k = m + 2 → (fadd_odd.f k a b = if cls a = 2 then (if cls b = 2 then fadd_odd.j1 (m + 1) a b (cls a) (cls b) (a != b) else fadd_odd.j1 (m + 1) a b (cls a) (cls b) false) else fadd_odd.j1 (m + 1) a b (cls a) (cls b) false) ∧
        (vernierref06_Add.f k a b mode = if cls a = 2 then (if cls b = 2 then vernierref06_Add.j1 (m + 1) a b mode (cls a) (cls b) (a != b) else vernierref06_Add.j1 (m + 1) a b mode (cls a) (cls b) false) else vernierref06_Add.j1 (m + 1) a b mode (cls a) (cls b) false) := by
      intro k hk m hm
      obtain ⟨e1, e2⟩ := eqw k hk m hm
      rw [e1, e2, if_neg n2, if_neg n2, n3, hm]
      exact ⟨rfl, rfl⟩
    by_cases i1 : cls a = 2
    · by_cases i2 : cls b = 2
      · by_cases d : a = b
        · have hd : (a != b) = false := by simp [d]
          refine odd (a, 0) ha fun k hk => ?_
          obtain ⟨m, rfl⟩ : ∃ m, k = m + 2 := ⟨k - 2, by omega⟩
          obtain ⟨e1, e2⟩ := st _ hk m rfl
          rw [e1, e2, if_pos i1, if_pos i1, if_pos i2, if_pos i2, hd, i1]
          exact ⟨rfl, rfl⟩
        · have hd : (a != b) = true := by simp [d]
          refine odd (9221120237041090560, 1) ⟨by omega, by omega⟩ fun k hk => ?_
          obtain ⟨m, rfl⟩ : ∃ m, k = m + 2 := ⟨k - 2, by omega⟩
          obtain ⟨e1, e2⟩ := st _ hk m rfl
          rw [e1, e2, if_pos i1, if_pos i1, if_pos i2, if_pos i2, hd]
          exact ⟨rfl, rfl⟩
      · refine odd (a, 0) ha fun k hk => ?_
        obtain ⟨m, rfl⟩ : ∃ m, k = m + 2 := ⟨k - 2, by omega⟩
        obtain ⟨e1, e2⟩ := st _ hk m rfl
        rw [e1, e2, if_pos i1, if_pos i1, if_neg i2, if_neg i2, i1]
        exact ⟨rfl, rfl⟩
    · by_cases i2 : cls b = 2
      · refine odd (b, 0) hb fun k hk => ?_
        obtain ⟨m, rfl⟩ : ∃ m, k = m + 2 := ⟨k - 2, by omega⟩
        obtain ⟨e1, e2⟩ := st _ hk m rfl
        rw [e1, e2, if_neg i1, if_neg i1, i2]
        simp only [fadd_odd.j1, vernierref06_Add.j1]
        rw [if_neg i1, if_neg i1]
        exact ⟨rfl, rfl⟩
      · have fa := fin_of ha n2 i1
        have fb := fin_of hb (fun h => n1 (.inr h)) i2
        refine ⟨addspec a b mode, sumR_word _ _ _ _ _ _, fun k hk => ⟨Fl.Add_f fa fb mode (by omega), ?_⟩⟩
        obtain ⟨m, rfl⟩ : ∃ m, k = m + 2 := ⟨k - 2, by omega⟩
        obtain ⟨e1, e2⟩ := st _ (by omega) m rfl
        rw [e2, if_neg i1]
        simp only [vernierref06_Add.j1]
        have ca := can_word fa
        have cb := can_word fb
        obtain ⟨ca1, ca2, ca3, ca4⟩ := ca
        obtain ⟨cb1, cb2, cb3, cb4⟩ := cb
        rw [if_neg (by decide), if_neg i1, if_neg i2, Split06 fa, Split06 fb]
        simp only [Option.bind_some]
        rw [Word_f (sig a) (by omega) (by omega), Word_f (sig b) (by omega) (by omega)]
        simp only [Option.bind_some]
        have l1 := len_word (n := sig a) (by omega)
        have l2 := len_word (n := sig b) (by omega)
        rw [sum06 _ _ _ _ _ _ _ (by omega) (by omega) (by omega) (by omega) (by omega) (by omega) (by omega)]
        rfl
end Go.Proofs.Ytjbpchebabhoeaa.Rf
end
section
set_option linter.unusedVariables false
namespace Go.Proofs.Ytjbpchebabhoeaa.Rf
open Go.RowKit Go.Proofs.Ytjbpchebabhoeaa.P Go.Proofs.Ytjbpchebabhoeaa.X Go.Proofs.Ytjbpchebabhoeaa.Bt Go.Proofs.Ytjbpchebabhoeaa.Fl Go.Proofs.YtjbpchebabhoeaaW.PrintWords
theorem aliveS {k : Nat} (hk : 270 ≤ k) : vernierlaw07_alive.f k = some true := by
  unfold vernierlaw07_alive.f
  have h1 : Finite 4607182418800017408 := ⟨⟨by omega, by omega⟩, by omega⟩
  have h2 : Finite 4611686018427387904 := ⟨⟨by omega, by omega⟩, by omega⟩
  rw [Fl.Add_f h1 h1 0 (by omega), add_exact h1 h1 h2 (by decide +kernel) (by decide +kernel) 0]
  rfl
theorem two_loops (mode : Int) (l : List Int) (hl : l.length ≤ 281474976710656) (hw : ∀ x ∈ l, Word x) (d : Nat) : ∀ (i : Nat) (acc fl : Int), i + d = l.length → Word acc →
    ∃ r : Int × Int, (∀ k, 120000000 + d < k → fadd_Sum.l0 k mode acc fl l (l.length : Int) i = some r) ∧
      ∀ K, (∀ k, K < k → fadd_Sum.f k mode l = some r) → ∀ k, 120000000 + K + d + 1 < k → vernierlaw07_FaddSums.l0 k mode l acc fl i = some true := by
  induction d with
  | zero =>
    intro i acc fl hi hacc
    refine ⟨(acc, fl), fun k hk => ?_, fun K H k hk => ?_⟩
    · obtain ⟨k, rfl⟩ : ∃ m, k = m + 1 := ⟨k - 1, by omega⟩
      simp only [fadd_Sum.l0]
      rw [if_neg (by omega)]
    · obtain ⟨k, rfl⟩ : ∃ m, k = m + 1 := ⟨k - 1, by omega⟩
      simp only [vernierlaw07_FaddSums.l0]
      rw [if_neg (by omega), H k (by omega)]
      simp only [Option.bind_some]
      rw [if_true, beq_self_eq_true]
  | succ d ih =>
    intro i acc fl hi hacc
    have hx : Word (rd l (i : Int)) := by
      have e : rd l (i : Int) = l.getD i 0 := by simp [rd]
      rw [e, List.getD_eq_getElem?_getD, List.getElem?_eq_getElem (by omega)]
      exact hw _ (List.getElem_mem _)
    obtain ⟨s, hs, H⟩ := add_both hacc hx mode
    obtain ⟨r, r1, r2⟩ := ih (i + 1) s.1 (Go.bits .or .i64 fl s.2) (by omega) hs
    refine ⟨r, fun k hk => ?_, fun K HK k hk => ?_⟩
    · obtain ⟨k, rfl⟩ : ∃ m, k = m + 1 := ⟨k - 1, by omega⟩
      simp only [fadd_Sum.l0]
      rw [if_pos (by omega), if_pos (by omega), if_pos (by omega), (H k (by omega)).1, w64 (by omega) (by omega)]
      simp only [Option.bind_some]
      exact r1 k (by omega)
    · obtain ⟨k, rfl⟩ : ∃ m, k = m + 1 := ⟨k - 1, by omega⟩
      simp only [vernierlaw07_FaddSums.l0]
      rw [if_pos (by omega), if_pos (by omega), (H k (by omega)).2, w64 (by omega) (by omega)]
      simp only [Option.bind_some]
      exact r2 K HK k (by omega)
end Go.Proofs.Ytjbpchebabhoeaa.Rf
namespace Go.Proofs.Ytjbpchebabhoeaa.Pure
open Go.RowKit Go.Proofs.Ytjbpchebabhoeaa.P Go.Proofs.Ytjbpchebabhoeaa.Fl Go.Proofs.Ytjbpchebabhoeaa.Rf Go.Proofs.Ytjbpchebabhoeaa.Bt Go.Proofs.YtjbpchebabhoeaaW.PrintWords
theorem FaddSums : vernierlaw07_FaddSums.Pure := by
  intro a0 l1 h0 hmax hb hw
  have hw2 : ∀ x ∈ l1, Word x := by
    intro x hx
    have := hw x hx
    have b : 0 ≤ x ∧ x ≤ 18446744073709551615 := by simpa [Lit.wf, IntKind.min, IntKind.max, IntKind.signed, IntKind.bits] using this
    exact ⟨b.1, by omega⟩
  obtain ⟨r, r1, r2⟩ := two_loops a0 l1 (by omega) hw2 l1.length 0 0 0 (by omega) ⟨by omega, by omega⟩
  refine ⟨120000000 + (120000000 + l1.length) + l1.length + 2, ?_⟩
  unfold vernierlaw07_FaddSums.f
  rw [aliveS (by omega)]
  simp only [Option.bind_some]
  rw [if_true]
  refine r2 (120000000 + l1.length) (fun k hk => ?_) _ (by omega)
  unfold fadd_Sum.f
  exact r1 k hk
end Go.Proofs.Ytjbpchebabhoeaa.Pure
end
