/- Part 3 of what the law NatdivTells rests on: printed walks of its functions, and plain laws of what they compute. For every input that their premises tell. -/
import Derived.Test.YtjbpchebabhoeaaRows
import Derived.ChangeSlices
import Derived.OpenShut
import Derived.Test.YtjbpchebabhoeaaBnNatdivTells0
import Derived.Test.YtjbpchebabhoeaaBnNatdivTells1
import Derived.Test.YtjbpchebabhoeaaBnNatdivTells2
section
set_option linter.unusedVariables false
set_option linter.unusedSimpArgs false
namespace Go.Proofs.Ytjbpchebabhoeaa.Rf
open Go.RowKit Go.Proofs.Ytjbpchebabhoeaa.P Go.Proofs.Ytjbpchebabhoeaa.X Go.Proofs.Ytjbpchebabhoeaa.Bt Go.Proofs.Ytjbpchebabhoeaa.Dg Go.Proofs.YtjbpchebabhoeaaW.PrintWords
abbrev W16 (l : List Int) : Prop := Wf 65536 l
def D (n : Nat) : List Int := digs 65536 n
theorem D_wf (n : Nat) : W16 (D n) := wf_digs (by omega) n
theorem D_val (n : Nat) : val 65536 (D n) = n := val_digs (by omega) n
theorem D_zero : D 0 = [] := digs_zero _
theorem D_nil {n : Nat} : D n = [] ↔ n = 0 := digs_eq_nil (by omega)
theorem D_len0 {n : Nat} : (D n).length = 0 ↔ n = 0 := by rw [List.length_eq_zero_iff]; exact D_nil
theorem D_inj {n m : Nat} (h : D n = D m) : n = m := digs_inj (by omega) h
theorem D_one : D 1 = [1] := by
  unfold D
  rw [digs_pos (by omega) (by omega), show 1 / 65536 = 0 from rfl, digs_zero]
  rfl
theorem len_le {n t : Nat} (h : n < 2 ^ (16 * t)) : (D n).length ≤ t := by
  apply digs_length_le (by omega)
  rw [show (65536 : Nat) = 2 ^ 16 from rfl, ← Nat.pow_mul]
  exact h
def Few_ (l : List Int) : Prop := l.length ≤ 1099511627776
theorem few_D {n k : Nat} (h : n < 65536 ^ k) (hk : k ≤ 1099511627776) : Few_ (D n) := Nat.le_trans (digs_length_le (by omega) k n h) hk
theorem rd_nat (l : List Int) (i : Nat) : rd l (i : Int) = l.getD i 0 := by simp [rd]
theorem dig_bound {l : List Int} (h : W16 l) (i : Nat) : 0 ≤ l.getD i 0 ∧ l.getD i 0 < 65536 := by
  have := h.getD (by omega) i
  omega
theorem snoc_wf {l : List Int} (h : W16 l) {x : Int} (h0 : 0 ≤ x) (h1 : x < 65536) : W16 (l ++ [x]) := h.append (Wf.cons h0 (by omega) (Wf.nil _))
theorem val_snoc (l : List Int) (x : Int) : val 65536 (l ++ [x]) = val 65536 l + 65536 ^ l.length * x.toNat := by rw [val_append, val_cons, val_nil, Nat.mul_zero, Nat.add_zero]
theorem cut_loop {l : List Int} (h : W16 l) (hf : l.length ≤ 4611686018427387904) : ∀ (i k : Nat), i ≤ l.length → i < k → (∀ j, i ≤ j → j < l.length → l.getD j 0 = 0) → vernierref01_cut.l0 k l i = some (D (val 65536 l)) := by
  intro i
  induction i with
  | zero =>
    intro k hi hk hz
    obtain ⟨k, rfl⟩ : ∃ m, k = m + 1 := ⟨k - 1, by omega⟩
    simp only [vernierref01_cut.l0]
    rw [if_neg (by omega), if_pos (by omega), if_pos (by omega)]
    unfold D
    rw [digs_take (by omega) h hi hz (fun h => absurd rfl h)]
    rfl
  | succ i ih =>
    intro k hi hk hz
    obtain ⟨k, rfl⟩ : ∃ m, k = m + 1 := ⟨k - 1, by omega⟩
    simp only [vernierref01_cut.l0]
    rw [if_pos (by omega), w64 (by omega) (by omega), show (((i + 1 : Nat) : Int) - 1) = (i : Int) by omega, if_pos (by omega), if_pos (by omega), rd_nat]
    by_cases e : l.getD i 0 = 0
    · rw [if_pos e]
      refine ih k (by omega) (by omega) (fun j h1 h2 => ?_)
      by_cases hj : j = i
      · subst hj; exact e
      · exact hz j (by omega) h2
    · rw [if_neg e, if_pos (by omega), if_pos (by omega), Int.toNat_natCast]
      unfold D
      rw [digs_take (by omega) h hi hz (fun _ => e)]
theorem cut_f {l : List Int} (h : W16 l) (hf : l.length ≤ 4611686018427387904) {k : Nat} (hk : l.length < k) : vernierref01_cut.f k l = some (D (val 65536 l)) :=
  cut_loop h hf l.length k (Nat.le_refl _) hk (fun j h1 h2 => absurd h1 (by omega))
theorem tmod_dig {x : Int} (h0 : 0 ≤ x) : Int.tmod x 65536 = x % 65536 := Int.tmod_eq_emod_of_nonneg h0
theorem tdiv_dig {x : Int} (h0 : 0 ≤ x) : Int.tdiv x 65536 = x / 65536 := Int.tdiv_eq_ediv_of_nonneg h0
theorem Add_loop {a b : List Int} (ha : W16 a) (hb : W16 b) (fa : Few_ a) (fb : Few_ b) (d : Nat) : ∀ (i : Nat) (out : List Int) (c : Int) (k : Nat), i + d = max a.length b.length + 1 → 3 * d + i + 10 < k → out.length = i → W16 out → 0 ≤ c → c ≤ 1 →
    (max a.length b.length + 1 = i → c = 0) →
    val 65536 out + 65536 ^ i * (c.toNat + val 65536 (a.drop i) + val 65536 (b.drop i)) = val 65536 a + val 65536 b →
    vernierref01_Add.l0 k a b out c i = some (D (val 65536 a + val 65536 b)) := by
  unfold Few_ at fa fb
  induction d with
  | zero =>
    intro i out c k hi hk hl hw h0 h1 hc hv
    obtain ⟨k, rfl⟩ : ∃ m, k = m + 2 := ⟨k - 2, by omega⟩
    simp only [vernierref01_Add.l0]
    have hc0 := hc (by omega)
    subst hc0
    rw [if_neg (by omega), if_neg (by omega), decide_eq_false (by omega)]
    simp only [vernierref01_Add.j1]
    rw [if_neg (by decide), cut_f hw (by omega) (by omega)]
    rw [List.drop_eq_nil_of_le (by omega), List.drop_eq_nil_of_le (by omega)] at hv
    simp only [val_nil, Int.toNat_zero, Nat.add_zero, Nat.mul_zero] at hv
    rw [hv]; rfl
  | succ d ih =>
    intro i out c k hi hk hl hw h0 h1 hc hv
    obtain ⟨k, rfl⟩ : ∃ m, k = m + 2 := ⟨k - 2, by omega⟩
    have da := dig_bound ha i
    have db := dig_bound hb i
    rw [val_drop 65536 a i, val_drop 65536 b i] at hv
    have step : ∀ s : Int, s = c + a.getD i 0 + b.getD i 0 → vernierref01_Add.l0 k a b (out ++ [s % 65536]) (s / 65536) ((i : Int) + 1) = some (D (val 65536 a + val 65536 b)) := by
      intro s hs
      have := ih (i + 1) (out ++ [s % 65536]) (s / 65536) k (by omega) (by omega) (by simp [hl]) (snoc_wf hw (by omega) (by omega)) (by omega) (by omega) ?_ ?_
      · rw [← this]; congr 1
      · intro he
        have ga : a.getD i 0 = 0 := getD_ge (by omega)
        have gb : b.getD i 0 = 0 := getD_ge (by omega)
        omega
      · rw [val_snoc, hl, ← hv]
        have e : c.toNat + ((a.getD i 0).toNat + 65536 * val 65536 (a.drop (i + 1))) + ((b.getD i 0).toNat + 65536 * val 65536 (b.drop (i + 1))) = (s % 65536).toNat + 65536 * ((s / 65536).toNat + val 65536 (a.drop (i + 1)) + val 65536 (b.drop (i + 1))) := by omega
        rw [e]
        generalize (s / 65536).toNat + val 65536 (a.drop (i + 1)) + val 65536 (b.drop (i + 1)) = Z
        rw [Nat.pow_succ, Nat.mul_add, Nat.mul_assoc, Nat.add_assoc]
    have jt : vernierref01_Add.j1 (k + 1) a b out c i true = some (D (val 65536 a + val 65536 b)) := by
      simp only [vernierref01_Add.j1]
      rw [if_true]
      have hlen : out.length < 17592186044416 := by omega
      by_cases h1' : (i : Int) < (a.length : Int)
      · rw [if_pos h1', if_pos (by omega)]
        by_cases h2' : (i : Int) < (b.length : Int)
        · rw [if_pos h2', if_pos hlen, rd_nat, rd_nat, w64 (x := c + a.getD i 0) (by omega) (by omega), w64 (x := c + a.getD i 0 + b.getD i 0) (by omega) (by omega), tmod_dig (by omega), tdiv_dig (by omega), w64 (x := (i : Int) + 1) (by omega) (by omega), w64 (by omega) (by omega)]
          exact step _ rfl
        · have gb : b.getD i 0 = 0 := getD_ge (by omega)
          rw [if_neg h2', if_pos hlen, rd_nat, w64 (x := c + a.getD i 0) (by omega) (by omega), tmod_dig (by omega), tdiv_dig (by omega), w64 (x := (i : Int) + 1) (by omega) (by omega), w64 (by omega) (by omega)]
          exact step _ (by omega)
      · have ga : a.getD i 0 = 0 := getD_ge (by omega)
        rw [if_neg h1']
        by_cases h2' : (i : Int) < (b.length : Int)
        · rw [if_pos h2', if_pos (by omega), if_pos hlen, rd_nat, w64 (x := c + b.getD i 0) (by omega) (by omega), tmod_dig (by omega), tdiv_dig (by omega), w64 (x := (i : Int) + 1) (by omega) (by omega), w64 (by omega) (by omega)]
          exact step _ (by omega)
        · have gb : b.getD i 0 = 0 := getD_ge (by omega)
          rw [if_neg h2', if_pos hlen, tmod_dig (by omega), tdiv_dig (by omega), w64 (x := (i : Int) + 1) (by omega) (by omega), w64 (by omega) (by omega)]
          exact step _ (by omega)
    simp only [vernierref01_Add.l0]
    by_cases h1' : (i : Int) < (a.length : Int)
    · rw [if_pos h1']; exact jt
    · rw [if_neg h1']
      by_cases h2' : (i : Int) < (b.length : Int)
      · rw [if_pos h2']; exact jt
      · rw [if_neg h2']
        by_cases h3 : c > 0
        · rw [decide_eq_true h3]; exact jt
        · rw [decide_eq_false h3]
          simp only [vernierref01_Add.j1]
          rw [if_neg (by decide), cut_f hw (by omega) (by omega)]
          rw [← val_drop, ← val_drop, List.drop_eq_nil_of_le (by omega), List.drop_eq_nil_of_le (by omega)] at hv
          obtain rfl : c = 0 := by omega
          simp only [val_nil, Int.toNat_zero, Nat.add_zero, Nat.mul_zero] at hv
          rw [hv]; rfl
theorem Add_f {a b : List Int} (ha : W16 a) (hb : W16 b) (fa : Few_ a) (fb : Few_ b) {k : Nat} (hk : 3 * max a.length b.length + 20 < k) : vernierref01_Add.f k a b = some (D (val 65536 a + val 65536 b)) := by
  unfold vernierref01_Add.f
  exact Add_loop ha hb fa fb (max a.length b.length + 1) 0 [] 0 k (by omega) (by omega) rfl (Wf.nil _) (by omega) (by omega) (fun h => by omega) (by simp [val_nil])
theorem Cmp_loop {a b : List Int} (ha : W16 a) (hb : W16 b) (hl : a.length = b.length) (hf : a.length ≤ 4611686018427387904) : ∀ (i k : Nat), i ≤ a.length → i < k → val 65536 (a.drop i) = val 65536 (b.drop i) →
    vernierref01_Cmp.l0 k a b ((i : Int) - 1) = some (if val 65536 a < val 65536 b then -1 else if val 65536 b < val 65536 a then 1 else 0) := by
  intro i
  induction i with
  | zero =>
    intro k hi hk he
    obtain ⟨k, rfl⟩ : ∃ m, k = m + 1 := ⟨k - 1, by omega⟩
    simp only [vernierref01_Cmp.l0]
    rw [List.drop_zero, List.drop_zero] at he
    rw [if_neg (by omega), he, if_neg (by omega), if_neg (by omega)]
  | succ i ih =>
    intro k hi hk he
    obtain ⟨k, rfl⟩ : ∃ m, k = m + 1 := ⟨k - 1, by omega⟩
    simp only [vernierref01_Cmp.l0]
    rw [show (((i + 1 : Nat) : Int) - 1) = (i : Int) by omega, if_pos (by omega), if_pos (by omega), if_pos (by omega), if_pos (by omega), rd_nat, rd_nat]
    have sa := val_split 65536 a (i + 1)
    have sb := val_split 65536 b (i + 1)
    have ta := val_take_succ 65536 a i
    have tb := val_take_succ 65536 b i
    have la : val 65536 (a.take i) < 65536 ^ i := by have := val_lt (ha.take i); rwa [List.length_take, Nat.min_eq_left (by omega)] at this
    have lb : val 65536 (b.take i) < 65536 ^ i := by have := val_lt (hb.take i); rwa [List.length_take, Nat.min_eq_left (by omega)] at this
    rw [ta, he] at sa
    rw [tb] at sb
    have ga := getD_toNat (by omega) ha i
    have gb := getD_toNat (by omega) hb i
    generalize 65536 ^ (i + 1) * val 65536 (b.drop (i + 1)) = T at sa sb
    by_cases h1 : a.getD i 0 < b.getD i 0
    · rw [if_pos h1]
      have h2 : (a.getD i 0).toNat + 1 ≤ (b.getD i 0).toNat := by omega
      have h3 := Nat.mul_le_mul_left (65536 ^ i) h2
      rw [Nat.mul_add] at h3
      rw [if_pos (by omega)]
    · rw [if_neg h1]
      by_cases h2 : a.getD i 0 > b.getD i 0
      · rw [if_pos h2]
        have h4 : (b.getD i 0).toNat + 1 ≤ (a.getD i 0).toNat := by omega
        have h3 := Nat.mul_le_mul_left (65536 ^ i) h4
        rw [Nat.mul_add] at h3
        rw [if_neg (by omega), if_pos (by omega)]
      · rw [if_neg h2, w64 (by omega) (by omega)]
        refine ih k (by omega) (by omega) ?_
        rw [val_drop 65536 a i, val_drop 65536 b i, he, show a.getD i 0 = b.getD i 0 by omega]
def sign3 (n m : Nat) : Int := if n < m then -1 else if m < n then 1 else 0
theorem Cmp_f (n m : Nat) (fn : Few_ (D n)) (fm : Few_ (D m)) {k : Nat} (hk : (D n).length < k) : vernierref01_Cmp.f k (D n) (D m) = some (sign3 n m) := by
  unfold Few_ at fn fm
  unfold vernierref01_Cmp.f sign3
  by_cases h : ((D n).length : Int) = ((D m).length : Int)
  · rw [if_pos h, w64 (by omega) (by omega)]
    have := Cmp_loop (D_wf n) (D_wf m) (by omega) (by omega) (D n).length k (Nat.le_refl _) hk (by rw [List.drop_eq_nil_of_le (Nat.le_refl _), List.drop_eq_nil_of_le (by omega)])
    rw [D_val, D_val] at this
    exact this
  · rw [if_neg h]
    have hlen : ∀ u v : Nat, (D u).length < (D v).length → u < v := by
      intro u v hl
      apply Nat.lt_of_not_le
      intro hle
      have := digs_len_mono (b := 65536) (by omega) hle
      unfold D at hl
      omega
    by_cases h1 : ((D n).length : Int) < ((D m).length : Int)
    · rw [if_pos h1, if_pos (hlen n m (by omega))]
    · rw [if_neg h1]
      have := hlen m n (by omega)
      rw [if_neg (by omega), if_pos this]
theorem Sub_loop {a b : List Int} (ha : W16 a) (hb : W16 b) (fa : Few_ a) (hlen : b.length ≤ a.length) (hge : val 65536 b ≤ val 65536 a) (d : Nat) : ∀ (i : Nat) (out : List Int) (c : Int) (k : Nat), i + d = a.length → d + a.length + 5 < k → out.length = i → W16 out → -1 ≤ c → c ≤ 0 →
    (val 65536 out : Int) + (65536 ^ i : Nat) * (c + val 65536 (a.drop i) - val 65536 (b.drop i)) = (val 65536 a : Int) - val 65536 b →
    vernierref01_Sub.l0 k a b out c i = some (D (val 65536 a - val 65536 b)) := by
  unfold Few_ at fa
  induction d with
  | zero =>
    intro i out c k hi hk hl hw h0 h1 hv
    obtain ⟨k, rfl⟩ : ∃ m, k = m + 1 := ⟨k - 1, by omega⟩
    simp only [vernierref01_Sub.l0]
    rw [if_neg (by omega), cut_f hw (by omega) (by omega)]
    rw [List.drop_eq_nil_of_le (by omega), List.drop_eq_nil_of_le (by omega)] at hv
    simp only [val_nil] at hv
    have hlt := val_lt hw
    rw [hl] at hlt
    have hc : c = 0 := by
      rcases (show c = 0 ∨ c = -1 by omega) with h | h
      · exact h
      · exfalso
        subst h
        have e : ((65536 ^ i : Nat) : Int) * (-1 + ((0 : Nat) : Int) - ((0 : Nat) : Int)) = -((65536 ^ i : Nat) : Int) := by
          rw [show (-1 + ((0 : Nat) : Int) - ((0 : Nat) : Int)) = -1 by omega, Int.mul_neg, Int.mul_one]
        rw [e] at hv
        omega
    subst hc
    rw [show ((0 : Int) + ((0 : Nat) : Int) - ((0 : Nat) : Int)) = 0 by omega, Int.mul_zero] at hv
    rw [show val 65536 out = val 65536 a - val 65536 b by omega]
    rfl
  | succ d ih =>
    intro i out c k hi hk hl hw h0 h1 hv
    obtain ⟨k, rfl⟩ : ∃ m, k = m + 1 := ⟨k - 1, by omega⟩
    have da := dig_bound ha i
    have db := dig_bound hb i
    have ga := (getD_toNat (by omega) ha i).1
    have gb := (getD_toNat (by omega) hb i).1
    rw [val_drop 65536 a i, val_drop 65536 b i] at hv
    have step : ∀ s r : Int, s = c + a.getD i 0 - b.getD i 0 → r = (s % 65536) → vernierref01_Sub.l0 k a b (out ++ [r]) ((s - r) / 65536) ((i : Int) + 1) = some (D (val 65536 a - val 65536 b)) := by
      intro s r hs hr
      have := ih (i + 1) (out ++ [r]) ((s - r) / 65536) k (by omega) (by omega) (by simp [hl]) (snoc_wf hw (by omega) (by omega)) (by omega) (by omega) ?_
      · rw [← this]; congr 1
      · rw [val_snoc, hl, ← hv, Int.natCast_add, Int.natCast_add, Int.natCast_add, Int.natCast_mul, Int.natCast_mul, Int.natCast_mul, ga, gb, Int.toNat_of_nonneg (show 0 ≤ r by omega), Nat.pow_succ, Int.natCast_mul]
        have e : c + (a.getD i 0 + ((65536 : Nat) : Int) * (val 65536 (a.drop (i + 1)) : Int)) - (b.getD i 0 + ((65536 : Nat) : Int) * (val 65536 (b.drop (i + 1)) : Int)) = r + ((65536 : Nat) : Int) * ((s - r) / 65536 + (val 65536 (a.drop (i + 1)) : Int) - (val 65536 (b.drop (i + 1)) : Int)) := by omega
        rw [e, Int.mul_add, Int.mul_assoc, Int.add_assoc]
    have hlen2 : out.length < 17592186044416 := by omega
    have md : ∀ s : Int, -65537 ≤ s → s ≤ 65536 → Int.tmod (wrap64 (Int.tmod s 65536 + 65536)) 65536 = s % 65536 := by
      intro s hs0 hs1
      have h2 : -65536 < Int.tmod s 65536 ∧ Int.tmod s 65536 < 65536 ∧ (Int.tmod s 65536) % 65536 = s % 65536 := by
        refine ⟨?_, ?_, ?_⟩
        · have := Int.lt_tmod_of_pos s (show (0 : Int) < 65536 by omega); omega
        · exact Int.tmod_lt_of_pos s (by omega)
        · have := Int.tmod_add_mul_tdiv s 65536; omega
      rw [w64 (by omega) (by omega), tmod_dig (by omega)]
      omega
    have dv : ∀ s : Int, s % 65536 = 0 → Int.tdiv s 65536 = s / 65536 := by
      intro s hs
      exact Int.tdiv_eq_ediv_of_dvd (Int.dvd_of_emod_eq_zero hs)
    simp only [vernierref01_Sub.l0]
    rw [if_pos (by omega), if_pos (by omega)]
    by_cases h2' : (i : Int) < (b.length : Int)
    · rw [if_pos h2', if_pos hlen2, rd_nat, rd_nat, w64 (x := c + a.getD i 0) (by omega) (by omega), w64 (x := c + a.getD i 0 - b.getD i 0) (by omega) (by omega), md _ (by omega) (by omega), w64 (x := (i : Int) + 1) (by omega) (by omega), w64 (x := c + a.getD i 0 - b.getD i 0 - (c + a.getD i 0 - b.getD i 0) % 65536) (by omega) (by omega), dv _ (by omega), w64 (by omega) (by omega)]
      exact step _ _ rfl rfl
    · have gb0 : b.getD i 0 = 0 := getD_ge (by omega)
      rw [if_neg h2', if_pos hlen2, rd_nat, w64 (x := c + a.getD i 0) (by omega) (by omega), md _ (by omega) (by omega), w64 (x := (i : Int) + 1) (by omega) (by omega), w64 (x := c + a.getD i 0 - (c + a.getD i 0) % 65536) (by omega) (by omega), dv _ (by omega), w64 (by omega) (by omega)]
      exact step _ _ (by omega) rfl
theorem Sub_f (n m : Nat) (fn : Few_ (D n)) (fm : Few_ (D m)) {k : Nat} (hk : 3 * ((D n).length + (D m).length) + 20 < k) : vernierref01_Sub.f k (D n) (D m) = some (D (if n < m then m - n else n - m)) := by
  unfold vernierref01_Sub.f
  rw [Cmp_f n m fn fm (by omega)]
  simp only [Option.bind_some]
  obtain ⟨k, rfl⟩ : ∃ q, k = q + 1 := ⟨k - 1, by omega⟩
  have go : ∀ u v : Nat, Few_ (D u) → v ≤ u → (D u).length ≤ (D n).length + (D m).length → vernierref01_Sub.j0 (k + 1) (D u) (D v) = some (D (u - v)) := by
    intro u v fu h hl
    simp only [vernierref01_Sub.j0]
    have := Sub_loop (D_wf u) (D_wf v) fu (digs_len_mono (by omega) h) (by rw [D_val, D_val]; exact h) (D u).length 0 [] 0 k (by omega) (by omega) rfl (Wf.nil _) (by omega) (by omega) (by
      rw [List.drop_zero, List.drop_zero, val_nil, Nat.pow_zero]; omega)
    rw [D_val, D_val] at this
    exact this
  unfold sign3
  by_cases h : n < m
  · rw [if_pos h, if_pos (by omega), if_pos h]; exact go m n fm (by omega) (by omega)
  · rw [if_neg h, if_neg h]
    by_cases h2 : m < n
    · rw [if_pos h2, if_neg (by omega)]; exact go n m fn (by omega) (by omega)
    · rw [if_neg h2, if_neg (by omega)]; exact go n m fn (by omega) (by omega)
end Go.Proofs.Ytjbpchebabhoeaa.Rf
end
section
namespace Go.Proofs.Ytjbpchebabhoeaa.P
open Go.RowKit Go.Proofs.YtjbpchebabhoeaaW.PrintWords Go.Proofs.YtjbpchebabhoeaaW.PrintLast Go.Proofs.YtjbpchebabhoeaaW.PrintMore Go.Proofs.Ytjbpchebabhoeaa.X
attribute [local go_sem] max2_int min2_int max_two min_two max_three min_three max_four min_four
set_option linter.unusedVariables false
set_option linter.unusedSimpArgs false
def vernierref01_Few.l0 : Nat → List Int → List Int → Int → Int → Option (Int × List Int)
  | 0, _, _, _, _ => none
  | k + 1, x0, x1, x6, x7 => if x7 ≥ 0 then ((vernierref01_Shl.f k x1 x7).bind fun t727 => ((vernierref01_Cmp.f k x0 t727).bind fun t730 => (if t730 ≥ 0 then ((vernierref01_Sub.f k x0 t727).bind fun t731 => (vernierref01_Few.l0 k t731 x1 (IntKind.u64.wrap ((IntKind.u64.wrap (2 * x6)) + 1)) (wrap64 (x7 - 1)))) else (vernierref01_Few.l0 k x0 x1 (IntKind.u64.wrap (2 * x6)) (wrap64 (x7 - 1)))))) else (some (x6, x0))
def vernierref01_Few.f (k : Nat) (l0 : List Int) (l1 : List Int) : Option (Int × List Int) := vernierref01_Few.l0 k l0 l1 0 59
theorem vernierref01_Few.mono_l : ∀ k, (∀ y0 y1 y2 y3, LeO (vernierref01_Few.l0 k y0 y1 y2 y3) (vernierref01_Few.l0 (k + 1) y0 y1 y2 y3))
  | 0 => fun _ _ _ _ r h => by simp [vernierref01_Few.l0] at h
  | k + 1 => by
    have ih0 := vernierref01_Few.mono_l k
    · intro y0 y1 y2 y3
      unfold vernierref01_Few.l0
      repeat' first
      | (with_reducible exact ih0 _ _ _ _)
      | (with_reducible exact vernierref01_Cmp.mono _ _ _)
      | (with_reducible exact vernierref01_Shl.mono _ _ _)
      | (with_reducible exact vernierref01_Sub.mono _ _ _)
      | (with_reducible exact LeO.refl _)
      | (with_reducible exact LeO.none _)
      | (with_reducible refine LeO.ite ?_ ?_)
      | (with_reducible refine LeO.bind ?_ (fun _ => ?_))
      | exact ih0 _ _ _ _
      | exact vernierref01_Cmp.mono _ _ _
      | exact vernierref01_Shl.mono _ _ _
      | exact vernierref01_Sub.mono _ _ _
      | exact LeO.none _
      | refine LeO.ite ?_ ?_
      | refine LeO.bind ?_ (fun _ => ?_)
theorem vernierref01_Few.mono : ∀ a0 a1 k, LeO (vernierref01_Few.f k a0 a1) (vernierref01_Few.f (k + 1) a0 a1) := by
  intro a0 a1 k
  have ih0 := vernierref01_Few.mono_l k
  unfold vernierref01_Few.f
  repeat' first
      | (with_reducible exact ih0 _ _ _ _)
      | (with_reducible exact vernierref01_Cmp.mono _ _ _)
      | (with_reducible exact vernierref01_Shl.mono _ _ _)
      | (with_reducible exact vernierref01_Sub.mono _ _ _)
      | (with_reducible exact LeO.refl _)
      | (with_reducible exact LeO.none _)
      | (with_reducible refine LeO.ite ?_ ?_)
      | (with_reducible refine LeO.bind ?_ (fun _ => ?_))
      | exact ih0 _ _ _ _
      | exact vernierref01_Cmp.mono _ _ _
      | exact vernierref01_Shl.mono _ _ _
      | exact vernierref01_Sub.mono _ _ _
      | exact LeO.none _
      | refine LeO.ite ?_ ?_
      | refine LeO.bind ?_ (fun _ => ?_)
set_option maxHeartbeats 8000000 in
set_option maxRecDepth 100000 in
theorem vernierref01_Few.calls (k : Nat) (P0_ : Nat → Prop) (A0 : Option Addr) (c0 : Nat) (l0 : List Int) (A1 : Option Addr) (c1 : Nat) (l1 : List Int) (r1 : Int) (r2 : List Int) (w : World) (hs0 : Kd.V (Kd.int .i64) 3 w w.heap.size (fun k_ => P0_ k_) (.slice A0 l0.length c0) l0) (hr1 : Kd.C (Kd.int .i64) w A1 l1.length l1) (hc1 : l1.length ≤ c1) (h : vernierref01_Few.f k l0 l1 = some (r1, r2)) :
    Calls Try.prog 107 #[.slice A0 l0.length c0, .slice A1 l1.length c1] w fun e w' => ∃ v1_ : Value, e = .returned (.tuple #[.int .u64 r1, v1_]) ∧ Kd.V (Kd.int .i64) 3 w' w.heap.size (fun k_ => (P0_ k_ ∨ w.heap.size ≤ k_)) v1_ r2 ∧ Below w.heap.size w w' := by
  have HO0 := Aside0.mk (show Kd.V (Kd.int .i64) 3 w w.heap.size (fun k_ => (P0_ k_ ∨ w.heap.size ≤ k_)) (.slice A0 l0.length c0) l0 from Kd.V_mono hs0 (fun k_ hk => .inl hk))
  have HR1 := Aside0.mk hr1
  have HC1 := Aside0.mk hc1
  clear hr1 hc1
  have HB := Aside0.mk (Below.refl w.heap.size w)
  have H : (vernierref01_Few.l0 k l0 l1 0 59) = some (r1, r2) := h
  clear h
  have H' := Aside0.mk H
  clear H
  go_enter Try.func107, Try.ntmps107
  go_wp2
  go_loopg [0, 6, 7] k (fun kq v0 v6 v7 w' => ∃ (x0_1 : List Int) (x6_1 : Int) (x7_1 : Int), v6 = .int .u64 x6_1 ∧ v7 = .int .i64 x7_1 ∧ Aside0 (vernierref01_Few.l0 kq x0_1 l1 x6_1 x7_1 = some (r1, r2)) ∧ Aside0 (kq ≤ k) ∧ Aside0 (Kd.V (Kd.int .i64) 3 w' w.heap.size (fun k_ => (P0_ k_ ∨ w.heap.size ≤ k_)) v0 x0_1) ∧ Aside0 (Below w.heap.size w w'))
  case atStart => exact ⟨(l0), (0), (59), (by first | rfl | (simp; done) | (simp [*]; done)), (by first | rfl | (simp; done) | (simp [*]; done)), H', ⟨Nat.le_refl _⟩, ⟨by (with_reducible repeat (first | apply Kd.V_alloc | apply Kd.V_drewN | apply Kd.V_drew)); exact HO0.out⟩, ⟨dn_ HB⟩⟩
  case round =>
    clear H'
    try clear c1
    try clear p2
    obtain ⟨x0_1, x6_1, x7_1, rfl, rfl, HA, HK1, HO_0, HB⟩ := hrel
    cases gk with
    | zero => exact absurd HA.out (by simp [vernierref01_Few.l0])
    | succ k1 =>
      have H := HA.out
      clear HA
      simp only [vernierref01_Few.l0] at H
      by_cases c3 : x7_1 ≥ 0
      · rw [if_pos c3] at H
        have c3b0 : decide (0 ≤ x7_1) = true := decide_eq_true c3
        clear c3
        replace H := Option.bind_eq_some_iff.mp H
        obtain ⟨t727, A40, H⟩ := H
        replace H : ((vernierref01_Cmp.f k1 x0_1 t727).bind fun t730 => (if t730 ≥ 0 then ((vernierref01_Sub.f k1 x0_1 t727).bind fun t731 => (vernierref01_Few.l0 k1 t731 l1 (IntKind.u64.wrap ((IntKind.u64.wrap (2 * x6_1)) + 1)) (wrap64 (x7_1 - 1)))) else (vernierref01_Few.l0 k1 x0_1 l1 (IntKind.u64.wrap (2 * x6_1)) (wrap64 (x7_1 - 1))))) = some (r1, r2) := H
        have A4 := Aside0.mk A40
        clear A40
        replace H := Option.bind_eq_some_iff.mp H
        obtain ⟨t730, A50, H⟩ := H
        replace H : (if t730 ≥ 0 then ((vernierref01_Sub.f k1 x0_1 t727).bind fun t731 => (vernierref01_Few.l0 k1 t731 l1 (IntKind.u64.wrap ((IntKind.u64.wrap (2 * x6_1)) + 1)) (wrap64 (x7_1 - 1)))) else (vernierref01_Few.l0 k1 x0_1 l1 (IntKind.u64.wrap (2 * x6_1)) (wrap64 (x7_1 - 1)))) = some (r1, r2) := H
        have A5 := Aside0.mk A50
        clear A50
        by_cases c6 : t730 ≥ 0
        · rw [if_pos c6] at H
          have c6b0 : decide (0 ≤ t730) = true := decide_eq_true c6
          clear c6
          replace H := Option.bind_eq_some_iff.mp H
          obtain ⟨t731, A70, H⟩ := H
          replace H : (vernierref01_Few.l0 k1 t731 l1 (IntKind.u64.wrap ((IntKind.u64.wrap (2 * x6_1)) + 1)) (wrap64 (x7_1 - 1))) = some (r1, r2) := H
          have A7 := Aside0.mk A70
          clear A70
          have H' := Aside0.mk H
          clear H
          go_wp2_with (first | ((with_reducible refine gate_callee (f := 23) rfl ?_); refine goesL_ (some 15) rfl rfl Try.func23 (by kernel_rfl) rfl #[.slice A1 l1.length c1, .int .i64 x7_1] rfl ar_ ?_; (with_reducible refine (vernierref01_Shl.calls k1 _ _ l1 x7_1 t727 _ ?side1 ?side2 A4.out).mono ?_); (case side1 => repeat (first | exact (Kd.C_below HR1.out HB.out) | (with_reducible refine Kd.C_alloc ?_ _) | (with_reducible refine Kd.C_drewN ?_ _) | (with_reducible refine Kd.C_drew ?_))); (case side2 => exact HC1.out); rintro e w8 ⟨v728, rfl, ho0, hb⟩; refine ⟨_, rfl, ?_⟩; have n0_ := Aside0.mk (Kd.V_elder' (by (with_reducible repeat (first | apply Kd.V_alloc | apply Kd.V_drewN | apply Kd.V_drew)); exact HO_0.out) (Kd.R_base ho0) hb); have n1_ := Aside0.mk (Kd.R_lower (Kd.R_newM (M := fun k_ => (w.heap.size ≤ k_)) ho0 (below_size (dn_ HB)) (fun k_ h_ => h_)) (below_size (dn_ HB))); have n2_ := Aside0.mk (below_step (dn_ HB) hb); clear HO_0; clear HB; have HO_0 := n0_; have HO729 := n1_; have HB := n2_; clear n0_ n1_ n2_; (try clear hb); (try clear hk); (try clear ho0); obtain ⟨Ao9, co9, eo9⟩ := Kd.V_slice HO_0.out; subst eo9; obtain ⟨Ao10, co10, eo10⟩ := Kd.R_slice HO729.out; subst eo10) | ((with_reducible refine gate_callee (f := 68) rfl ?_); refine goesL_ (some 20) rfl rfl Try.func68 (by kernel_rfl) rfl #[.slice Ao9 x0_1.length co9, .slice Ao10 t727.length co10] rfl ar_ ?_; (with_reducible refine (vernierref01_Cmp.calls k1 _ _ x0_1 _ _ t727 t730 _ ?side1 ?side2 ?side3 ?side4 A5.out).mono ?_); (case side1 => repeat (first | exact (Kd.V_reads' HO_0.out).2.2 | (with_reducible refine Kd.C_alloc ?_ _) | (with_reducible refine Kd.C_drewN ?_ _) | (with_reducible refine Kd.C_drew ?_))); (case side2 => exact (Kd.V_reads' HO_0.out).2.1); (case side3 => exact cs_ (Kd.R_reads' HO729.out).2.2); (case side4 => exact (Kd.R_reads' HO729.out).2.1); rintro e w' ⟨rfl, ⟨nd, rfl⟩⟩; refine ⟨_, rfl, ?_⟩) | ((with_reducible refine gate_callee (f := 69) rfl ?_); refine goesL_ (some 24) rfl rfl Try.func69 (by kernel_rfl) rfl #[.slice Ao9 x0_1.length co9, .slice Ao10 t727.length co10] rfl ar_ ?_; (with_reducible refine (vernierref01_Sub.calls k1 (fun k_ => ((P0_ k_ ∨ w.heap.size ≤ k_) ∧ some k_ ≠ (.slice Ao10 t727.length co10 : Value).ownBlock)) _ _ x0_1 (fun k_ => some k_ = (.slice Ao10 t727.length co10 : Value).ownBlock) _ _ t727 t731 _ ?side1 ?side2 A7.out).mono ?_); (case side1 => exact HO_0.out); (case side2 => exact Kd.R_V (Kd.R_tight rfl (HO729.out))); rintro e w11 ⟨v732, rfl, ho0, hb⟩; refine ⟨_, rfl, ?_⟩; have n0_ := Aside0.mk (Kd.V_elder' (by (with_reducible repeat (first | apply Kd.V_alloc | apply Kd.V_drewN | apply Kd.V_drew)); exact HO_0.out) (Kd.R_base ho0) hb); have n1_ := Aside0.mk (Kd.R_elder' (up_ HO729) (Kd.R_base ho0) hb); have n2_ := Aside0.mk (Kd.R_lower (Kd.R_new' (Kd.R_newM (M := fun k_ => (w.heap.size ≤ k_)) (Kd.R_mono (ok' := fun k_ => True) ho0 (fun _ hk_ => trivial)) (below_size (dn_ HB)) (fun k_ h_ => h_)) (Kd.R_lt (up_ HO729))) (below_size (dn_ HB))); have n3_ := Aside0.mk (below_step (dn_ HB) hb); clear HO_0; clear HO729; clear HB; have HO_0 := n0_; have HO729 := n1_; have HO733 := n2_; have HB := n3_; clear n0_ n1_ n2_ n3_; (try clear hb); (try clear hk); (try clear ho0)))
          go_roundg k1
          case measure => have := HK1.out; omega
          case rel => exact ⟨(t731), (IntKind.u64.wrap ((IntKind.u64.wrap (2 * x6_1)) + 1)), (wrap64 (x7_1 - 1)), (by first | rfl | (simp; done) | (simp [*]; done)), (by first | rfl | (simp; done) | (simp [*]; done)), H', ⟨by have := HK1.out; omega⟩, ⟨Kd.V_mono (Kd.R_V (by (with_reducible repeat (first | apply Kd.R_alloc | apply Kd.R_drewN | apply Kd.R_drew)); exact Kd.R_mono HO733.out (fun _ hk => hk.1.1))) (fun k_ hk => by first | exact ⟨(.inr (hk.1)), hk.2⟩ | exact (.inr (hk)))⟩, ⟨dn_ HB⟩⟩
        · rw [if_neg c6] at H
          have c6b0 : decide (0 ≤ t730) = false := decide_eq_false c6
          clear c6
          have H' := Aside0.mk H
          clear H
          go_wp2_with (first | ((with_reducible refine gate_callee (f := 23) rfl ?_); refine goesL_ (some 15) rfl rfl Try.func23 (by kernel_rfl) rfl #[.slice A1 l1.length c1, .int .i64 x7_1] rfl ar_ ?_; (with_reducible refine (vernierref01_Shl.calls k1 _ _ l1 x7_1 t727 _ ?side1 ?side2 A4.out).mono ?_); (case side1 => repeat (first | exact (Kd.C_below HR1.out HB.out) | (with_reducible refine Kd.C_alloc ?_ _) | (with_reducible refine Kd.C_drewN ?_ _) | (with_reducible refine Kd.C_drew ?_))); (case side2 => exact HC1.out); rintro e w12 ⟨v728, rfl, ho0, hb⟩; refine ⟨_, rfl, ?_⟩; have n0_ := Aside0.mk (Kd.V_elder' (by (with_reducible repeat (first | apply Kd.V_alloc | apply Kd.V_drewN | apply Kd.V_drew)); exact HO_0.out) (Kd.R_base ho0) hb); have n1_ := Aside0.mk (Kd.R_lower (Kd.R_newM (M := fun k_ => (w.heap.size ≤ k_)) ho0 (below_size (dn_ HB)) (fun k_ h_ => h_)) (below_size (dn_ HB))); have n2_ := Aside0.mk (below_step (dn_ HB) hb); clear HO_0; clear HB; have HO_0 := n0_; have HO729 := n1_; have HB := n2_; clear n0_ n1_ n2_; (try clear hb); (try clear hk); (try clear ho0); obtain ⟨Ao13, co13, eo13⟩ := Kd.V_slice HO_0.out; subst eo13; obtain ⟨Ao14, co14, eo14⟩ := Kd.R_slice HO729.out; subst eo14) | ((with_reducible refine gate_callee (f := 68) rfl ?_); refine goesL_ (some 20) rfl rfl Try.func68 (by kernel_rfl) rfl #[.slice Ao13 x0_1.length co13, .slice Ao14 t727.length co14] rfl ar_ ?_; (with_reducible refine (vernierref01_Cmp.calls k1 _ _ x0_1 _ _ t727 t730 _ ?side1 ?side2 ?side3 ?side4 A5.out).mono ?_); (case side1 => repeat (first | exact (Kd.V_reads' HO_0.out).2.2 | (with_reducible refine Kd.C_alloc ?_ _) | (with_reducible refine Kd.C_drewN ?_ _) | (with_reducible refine Kd.C_drew ?_))); (case side2 => exact (Kd.V_reads' HO_0.out).2.1); (case side3 => exact cs_ (Kd.R_reads' HO729.out).2.2); (case side4 => exact (Kd.R_reads' HO729.out).2.1); rintro e w' ⟨rfl, ⟨nd, rfl⟩⟩; refine ⟨_, rfl, ?_⟩))
          go_roundg k1
          case measure => have := HK1.out; omega
          case rel => exact ⟨(x0_1), (IntKind.u64.wrap (2 * x6_1)), (wrap64 (x7_1 - 1)), (by first | rfl | (simp; done) | (simp [*]; done)), (by first | rfl | (simp; done) | (simp [*]; done)), H', ⟨by have := HK1.out; omega⟩, ⟨by (with_reducible repeat (first | apply Kd.V_alloc | apply Kd.V_drewN | apply Kd.V_drew)); exact Kd.V_mono HO_0.out (fun _ hk => hk.1)⟩, ⟨dn_ HB⟩⟩
      · rw [if_neg c3] at H
        have c3b0 : decide (0 ≤ x7_1) = false := decide_eq_false c3
        clear c3
        simp only [Option.some.injEq, Prod.mk.injEq] at H
        obtain ⟨rfl, rfl⟩ := H
        go_wp2
        go_ret2
        exact ⟨_, er_, by (with_reducible repeat (first | apply Kd.V_alloc | apply Kd.V_drewN | apply Kd.V_drew)); exact HO_0.out, dn_ HB⟩
end Go.Proofs.Ytjbpchebabhoeaa.P
end
section
set_option linter.unusedVariables false
set_option linter.unusedSimpArgs false
namespace Go.Proofs.Ytjbpchebabhoeaa.Rf
open Go.RowKit Go.Proofs.Ytjbpchebabhoeaa.P Go.Proofs.Ytjbpchebabhoeaa.X Go.Proofs.Ytjbpchebabhoeaa.Bt Go.Proofs.Ytjbpchebabhoeaa.Dg Go.Proofs.YtjbpchebabhoeaaW.PrintWords
theorem mul_bound {x y c o : Nat} (hx : x < 65536) (hy : y < 65536) (hc : c < 65536) (ho : o < 65536) : c + o + x * y < 4294967296 := by
  have h1 : x * y ≤ 65535 * 65535 := Nat.mul_le_mul (by omega) (by omega)
  omega
theorem Mul_inner {a b : List Int} (ha : W16 a) (hb : W16 b) (fa : Few_ a) (fb : Few_ b) (i : Nat) (hi : i < a.length) (V Kout : Nat) (res : List Int) (hV : V < 65536 ^ (i + 1 + b.length))
    (H : ∀ out : List Int, W16 out → out.length = a.length + b.length + 1 → val 65536 out = V → ∀ k, Kout < k → vernierref01_Mul.l0 k a b out ((i : Int) + 1) = some res) (d : Nat) :
    ∀ (j : Nat) (out : List Int) (c : Int) (k : Nat), j + d = b.length + 1 → Kout + 2 * d + 5 < k → W16 out → out.length = a.length + b.length + 1 → 0 ≤ c → c < 65536 →
      val 65536 out + 65536 ^ (i + j) * (c.toNat + (a.getD i 0).toNat * val 65536 (b.drop j)) = V →
      vernierref01_Mul.l1 k a b out i c j = some res := by
  unfold Few_ at fa fb
  have over : ∀ (j : Nat) (out : List Int) (k : Nat), Kout + 1 < k → W16 out → out.length = a.length + b.length + 1 → val 65536 out = V → vernierref01_Mul.j2 k a b out i 0 j false = some res := by
    intro j out k hk hw hl hv
    obtain ⟨k, rfl⟩ : ∃ m, k = m + 1 := ⟨k - 1, by omega⟩
    simp only [vernierref01_Mul.j2]
    rw [if_neg (by decide), w64 (by omega) (by omega)]
    exact H out hw hl hv k (by omega)
  have none_left : ∀ (j : Nat) (out : List Int) (c : Int), b.length < j → 0 ≤ c → val 65536 out + 65536 ^ (i + j) * (c.toNat + (a.getD i 0).toNat * val 65536 (b.drop j)) = V → c = 0 ∧ val 65536 out = V := by
    intro j out c hj h0 hv
    rw [List.drop_eq_nil_of_le (by omega), val_nil, Nat.mul_zero, Nat.add_zero] at hv
    have hp : 65536 ^ (i + 1 + b.length) ≤ 65536 ^ (i + j) := Nat.pow_le_pow_right (by omega) (by omega)
    rcases Nat.eq_zero_or_pos c.toNat with h | h
    · rw [h, Nat.mul_zero, Nat.add_zero] at hv
      exact ⟨by omega, hv⟩
    · have := Nat.le_mul_of_pos_right (65536 ^ (i + j)) h
      omega
  induction d with
  | zero =>
    intro j out c k hj hk hw hl h0 h1 hv
    obtain ⟨k, rfl⟩ : ∃ m, k = m + 1 := ⟨k - 1, by omega⟩
    obtain ⟨rfl, hv2⟩ := none_left j out c (by omega) h0 hv
    simp only [vernierref01_Mul.l1]
    rw [if_neg (by omega), decide_eq_false (by omega)]
    exact over j out k (by omega) hw hl hv2
  | succ d ih =>
    intro j out c k hj hk hw hl h0 h1 hv
    obtain ⟨k, rfl⟩ : ∃ m, k = m + 2 := ⟨k - 2, by omega⟩
    have da := getD_toNat (by omega) ha i
    have db := getD_toNat (by omega) hb j
    have dout := getD_toNat (by omega) hw (i + j)
    have mb := mul_bound da.2 db.2 (c := c.toNat) (by omega) dout.2
    rw [val_drop 65536 b j] at hv
    have step : ∀ s : Nat, s = c.toNat + (out.getD (i + j) 0).toNat + (a.getD i 0).toNat * (b.getD j 0).toNat →
        vernierref01_Mul.l1 k a b (out.set (i + j) (((s % 65536 : Nat) : Int))) i ((s / 65536 : Nat) : Int) ((j : Int) + 1) = some res := by
      intro s hs
      have := ih (j + 1) (out.set (i + j) (((s % 65536 : Nat) : Int))) ((s / 65536 : Nat) : Int) k (by omega) (by omega) (hw.set _ (by omega) (by omega)) (by rw [List.length_set]; exact hl) (by omega) (by omega) ?_
      · rw [← this]; congr 1
      · have hset := val_set (b := 65536) (l := out) (i := i + j) (by omega) (((s % 65536 : Nat) : Int))
        rw [Int.toNat_natCast] at hset
        rw [Int.toNat_natCast, ← hv]
        generalize val 65536 (out.set (i + j) _) = O' at *
        generalize val 65536 out = O at *
        generalize val 65536 (b.drop (j + 1)) = Z at *
        generalize (out.getD (i + j) 0).toNat = o at *
        generalize (a.getD i 0).toNat = x at *
        generalize (b.getD j 0).toNat = y at *
        generalize c.toNat = cc at *
        rw [show i + (j + 1) = i + j + 1 by omega, Nat.pow_succ]
        generalize 65536 ^ (i + j) = P at *
        have e1 : s = s % 65536 + 65536 * (s / 65536) := by omega
        have e2 : P * s = P * (s % 65536) + P * 65536 * (s / 65536) := by
          conv => lhs; rw [e1]
          rw [Nat.mul_add, Nat.mul_assoc]
        have e3 : P * s = P * cc + P * o + P * (x * y) := by rw [hs, Nat.mul_add, Nat.mul_add]
        have e4 : P * 65536 * (s / 65536 + x * Z) = P * 65536 * (s / 65536) + P * (65536 * (x * Z)) := by rw [Nat.mul_add, Nat.mul_assoc P 65536 (x * Z)]
        have e5 : P * (cc + x * (y + 65536 * Z)) = P * cc + P * (x * y) + P * (65536 * (x * Z)) := by
          rw [Nat.mul_add x, Nat.mul_add, Nat.mul_add, Nat.mul_left_comm x 65536 Z, Nat.add_assoc]
        rw [e4, e5]
        omega
    have jt : vernierref01_Mul.j2 (k + 1) a b out i c j true = some res := by
      simp only [vernierref01_Mul.j2]
      have cidx : (((i : Int) + j).toNat) = i + j := by omega
      rw [if_true, w64 (x := (i : Int) + j) (by omega) (by omega), if_pos (by omega), if_pos (by omega)]
      rw [show ((i : Int) + (j : Int)) = ((i + j : Nat) : Int) by omega, rd_nat, Int.toNat_natCast]
      have hco : c + out.getD (i + j) 0 = ((c.toNat + (out.getD (i + j) 0).toNat : Nat) : Int) := by omega
      by_cases hjb : (j : Int) < (b.length : Int)
      · rw [if_pos hjb, if_pos (by omega), if_pos (by omega), if_pos (by omega), rd_nat, rd_nat]
        have hxy : a.getD i 0 * b.getD j 0 = (((a.getD i 0).toNat * (b.getD j 0).toNat : Nat) : Int) := by rw [Int.natCast_mul, da.1, db.1]
        rw [hxy, hco, w64 (x := ((c.toNat + (out.getD (i + j) 0).toNat : Nat) : Int)) (by omega) (by omega), w64 (x := (((a.getD i 0).toNat * (b.getD j 0).toNat : Nat) : Int)) (by omega) (by omega), ← Int.natCast_add, w64 (x := ((c.toNat + (out.getD (i + j) 0).toNat + (a.getD i 0).toNat * (b.getD j 0).toNat : Nat) : Int)) (by omega) (by omega), tmod_dig (by omega), tdiv_dig (by omega), w64 (x := (j : Int) + 1) (by omega) (by omega), w64 (by omega) (by omega)]
        have := step _ rfl
        exact this
      · have hb0 : b.getD j 0 = 0 := getD_ge (by omega)
        rw [if_neg hjb, hco, w64 (x := ((c.toNat + (out.getD (i + j) 0).toNat : Nat) : Int)) (by omega) (by omega), tmod_dig (by omega), tdiv_dig (by omega), w64 (x := (j : Int) + 1) (by omega) (by omega), w64 (by omega) (by omega)]
        have := step (c.toNat + (out.getD (i + j) 0).toNat) (by rw [hb0]; simp)
        exact this
    simp only [vernierref01_Mul.l1]
    by_cases hjb : (j : Int) < (b.length : Int)
    · rw [if_pos hjb]; exact jt
    · rw [if_neg hjb]
      by_cases hc : c > 0
      · rw [decide_eq_true hc]; exact jt
      · rw [decide_eq_false hc]
        obtain rfl : c = 0 := by omega
        rw [← val_drop, List.drop_eq_nil_of_le (by omega), val_nil, Nat.mul_zero, Int.toNat_zero, Nat.add_zero, Nat.mul_zero, Nat.add_zero] at hv
        exact over j out (k + 1) (by omega) hw hl hv
theorem Mul_outer {a b : List Int} (ha : W16 a) (hb : W16 b) (fa : Few_ a) (fb : Few_ b) (d : Nat) : ∀ (i : Nat) (out : List Int) (k : Nat), i + d = a.length → d * (2 * b.length + 12) + a.length + b.length + 5 < k → W16 out → out.length = a.length + b.length + 1 →
    val 65536 out = val 65536 (a.take i) * val 65536 b → vernierref01_Mul.l0 k a b out i = some (D (val 65536 a * val 65536 b)) := by
  have fa' := fa
  have fb' := fb
  unfold Few_ at fa' fb'
  induction d with
  | zero =>
    intro i out k hi hk hw hl hv
    obtain ⟨k, rfl⟩ : ∃ m, k = m + 1 := ⟨k - 1, by omega⟩
    simp only [vernierref01_Mul.l0]
    rw [if_neg (by omega), cut_f hw (by omega) (by omega), hv, List.take_of_length_le (by omega)]
    rfl
  | succ d ih =>
    intro i out k hi hk hw hl hv
    rw [Nat.succ_mul] at hk
    obtain ⟨k, rfl⟩ : ∃ m, k = m + 1 := ⟨k - 1, by omega⟩
    simp only [vernierref01_Mul.l0]
    rw [if_pos (by omega)]
    have hV : val 65536 (a.take (i + 1)) * val 65536 b < 65536 ^ (i + 1 + b.length) := by
      have h1 := val_lt (ha.take (i + 1))
      have h2 := val_lt hb
      rw [List.length_take, Nat.min_eq_left (by omega)] at h1
      rw [Nat.pow_add]
      exact Nat.mul_lt_mul'' h1 h2
    refine Mul_inner ha hb fa fb i (by omega) (val 65536 (a.take (i + 1)) * val 65536 b) (d * (2 * b.length + 12) + a.length + b.length + 5) _ hV ?_ (b.length + 1) 0 out 0 k (by omega) (by omega) hw hl (by omega) (by omega) ?_
    · intro out' hw' hl' hv' k' hk'
      exact ih (i + 1) out' k' (by omega) hk' hw' hl' hv'
    · rw [hv, List.drop_zero, Nat.add_zero, Int.toNat_zero, Nat.zero_add, val_take_succ, Nat.add_mul, Nat.mul_assoc]
theorem Mul_f {a b : List Int} (ha : W16 a) (hb : W16 b) (fa : Few_ a) (fb : Few_ b) {k : Nat} (hk : a.length * (2 * b.length + 12) + a.length + b.length + 5 < k) : vernierref01_Mul.f k a b = some (D (val 65536 a * val 65536 b)) := by
  have fa' := fa
  have fb' := fb
  unfold Few_ at fa' fb'
  unfold vernierref01_Mul.f
  rw [w64 (x := (a.length : Int) + b.length) (by omega) (by omega), w64 (by omega) (by omega), if_pos (by omega), if_pos (by omega)]
  have e : ((a.length : Int) + b.length + 1).toNat = a.length + b.length + 1 := by omega
  rw [e]
  exact Mul_outer ha hb fa fb a.length 0 _ k (by omega) hk (Wf.zeros (by omega) _) (by simp) (by rw [val_zeros]; simp [val_nil])
theorem pow16 (s : Nat) : 2 ^ s = 65536 ^ (s / 16) * 2 ^ (s % 16) := by
  have : (65536 : Nat) = 2 ^ 16 := rfl
  rw [this, ← Nat.pow_mul, ← Nat.pow_add]
  congr 1
  omega
theorem pow_small {t : Nat} (h : t < 16) : 2 ^ t < 65536 := by
  have := (Nat.pow_lt_pow_iff_right (by omega : 1 < 2)).2 h
  exact this
theorem Shl_loop (n : Nat) (fn : (D n).length ≤ 549755813888) (s : Nat) (hs : s ≤ 1099511627776) (d : Nat) : ∀ (t k : Nat), t + d = s % 16 → d + 20 * (D n).length + s + 100 < k →
    vernierref01_Shl.l0 k (D n) s (List.replicate (s / 16) 0) ((2 ^ t : Nat) : Int) t = some (D (n * 2 ^ s)) := by
  induction d with
  | zero =>
    intro t k ht hk
    obtain ⟨k, rfl⟩ : ∃ m, k = m + 1 := ⟨k - 1, by omega⟩
    simp only [vernierref01_Shl.l0]
    have hm : Int.tmod (s : Int) 16 = ((s % 16 : Nat) : Int) := by rw [Int.tmod_eq_emod_of_nonneg (by omega)]; omega
    rw [hm, if_neg (by omega)]
    have hp := pow_small (t := t) (by omega)
    have hp0 := Nat.two_pow_pos t
    have w1 : W16 [((2 ^ t : Nat) : Int)] := Wf.cons (by omega) (by omega) (Wf.nil _)
    rw [Mul_f (D_wf n) w1 (by unfold Few_; omega) (by unfold Few_; simp) (by simp only [List.length_singleton]; omega), D_val]
    simp only [Option.bind_some]
    have e1 : val 65536 [((2 ^ t : Nat) : Int)] = 2 ^ t := by rw [val_cons, val_nil, Int.toNat_natCast, Nat.mul_zero, Nat.add_zero]
    rw [e1]
    have hl : (D (n * 2 ^ t)).length ≤ (D n).length + 1 := by
      apply digs_length_le (by omega)
      have h1 := le_of_digs_length (b := 65536) (by omega) n
      rw [Nat.pow_succ]
      exact Nat.mul_lt_mul'' h1 hp
    rw [List.length_replicate, if_pos (by omega), cut_f ((Wf.zeros (by omega) _).append (D_wf _)) (by rw [List.length_append, List.length_replicate]; omega) (by rw [List.length_append, List.length_replicate]; omega), val_append, val_zeros, List.length_replicate, D_val, Nat.zero_add]
    have : 65536 ^ (s / 16) * (n * 2 ^ t) = n * 2 ^ s := by
      rw [pow16 s, show s % 16 = t by omega, Nat.mul_left_comm]
    rw [this]
    rfl
  | succ d ih =>
    intro t k ht hk
    obtain ⟨k, rfl⟩ : ∃ m, k = m + 1 := ⟨k - 1, by omega⟩
    simp only [vernierref01_Shl.l0]
    have hm : Int.tmod (s : Int) 16 = ((s % 16 : Nat) : Int) := by rw [Int.tmod_eq_emod_of_nonneg (by omega)]; omega
    have hp := pow_small (t := t) (by omega)
    have hp0 := Nat.two_pow_pos t
    rw [hm, if_pos (by omega), w64 (by omega) (by omega), w64 (by omega) (by omega)]
    have := ih (t + 1) k (by omega) (by omega)
    rw [← this]
    congr 1
    rw [Nat.pow_succ]
    omega
theorem Shl_f (n s : Nat) (fn : (D n).length ≤ 549755813888) (hs : s ≤ 1099511627776) {k : Nat} (hk : 20 * (D n).length + s + 200 < k) : vernierref01_Shl.f k (D n) s = some (D (n * 2 ^ s)) := by
  unfold vernierref01_Shl.f
  have hd : Int.tdiv (s : Int) 16 = ((s / 16 : Nat) : Int) := by rw [Int.tdiv_eq_ediv_of_nonneg (by omega)]; omega
  rw [hd, w64 (by omega) (by omega), if_pos (by omega), if_pos (by omega), Int.toNat_natCast]
  have := Shl_loop n fn s hs (s % 16) 0 k (by omega) (by omega)
  exact this
theorem len_shl (n s : Nat) : (D (n * 2 ^ s)).length ≤ (D n).length + s / 16 + 1 := by
  apply digs_length_le (by omega)
  have h1 := le_of_digs_length (b := 65536) (by omega) n
  have h2 : 2 ^ s < 65536 ^ (s / 16 + 1) := by
    rw [pow16 s, Nat.pow_succ]
    exact Nat.mul_lt_mul_of_pos_left (pow_small (by omega)) (Nat.pow_pos (by omega))
  rw [Nat.add_assoc, Nat.pow_add]
  exact Nat.mul_lt_mul'' h1 h2
theorem Bits_loop : ∀ (x : Nat) (n : Int) (k : Nat), blen x < k → 0 ≤ n → n + blen x ≤ 4611686018427387904 → x < 65536 → vernierref01_Bits.l0 k n x = some (n + blen x) := by
  intro x
  induction x using Nat.strongRecOn with
  | _ x ih =>
    intro n k hk h0 h1 hx
    obtain ⟨k, rfl⟩ : ∃ m, k = m + 1 := ⟨k - 1, by omega⟩
    simp only [vernierref01_Bits.l0]
    rcases Nat.eq_zero_or_pos x with rfl | hp
    · rw [if_neg (by omega), blen_zero]
      congr 1
      omega
    · have hb : blen x = blen (x / 2) + 1 := by
        have h1 := lt_blen (x / 2)
        rcases Nat.eq_zero_or_pos (x / 2) with h2 | h2
        · rw [h2, blen_zero, show x = 1 by omega]; rfl
        · have h3 := blen_ge h2
          have h4 := blen_pos h2
          obtain ⟨m, hm⟩ : ∃ m, blen (x / 2) = m + 1 := ⟨blen (x / 2) - 1, by omega⟩
          rw [hm] at h1 h3 ⊢
          rw [Nat.add_sub_cancel] at h3
          apply blen_eq
          · rw [Nat.pow_succ]; omega
          · rw [Nat.pow_succ]; omega
      have hd : Int.tdiv (x : Int) 2 = ((x / 2 : Nat) : Int) := by rw [Int.tdiv_eq_ediv_of_nonneg (by omega)]; omega
      have hbl : blen x ≤ 16 := blen_le (by omega)
      rw [if_pos (by omega), hd, w64 (by omega) (by omega), w64 (by omega) (by omega), ih (x / 2) (by omega) (n + 1) k (by omega) (by omega) (by omega) (by omega), hb]
      congr 1
      omega
theorem Bits_f (n : Nat) (fn : Few_ (D n)) {k : Nat} (hk : 20 < k) : vernierref01_Bits.f k (D n) = some ((blen n : Nat) : Int) := by
  unfold Few_ at fn
  unfold vernierref01_Bits.f
  rcases Nat.eq_zero_or_pos n with rfl | hp
  · rw [D_zero]; rfl
  · have hl : 0 < (D n).length := Nat.pos_of_ne_zero (fun h => by have := D_len0.1 h; omega)
    rw [if_neg (by omega), w64 (by omega) (by omega), if_pos (by omega), if_pos (by omega), w64 (by omega) (by omega)]
    obtain ⟨m, hm⟩ : ∃ m, (D n).length = m + 1 := ⟨(D n).length - 1, by omega⟩
    rw [hm, show (((m + 1 : Nat) : Int) - 1) = (m : Int) by omega, rd_nat]
    have hx := getD_toNat (by omega) (D_wf n) m
    have hlast := digs_last (b := 65536) (by omega) n (by intro h; unfold D at hl; rw [h] at hl; simp at hl)
    change 0 < (D n).getD ((D n).length - 1) 0 at hlast
    rw [hm, Nat.add_sub_cancel] at hlast
    have hs := val_split 65536 (D n) m
    rw [val_drop, List.drop_eq_nil_of_le (show (D n).length ≤ m + 1 by omega), val_nil, Nat.mul_zero, Nat.add_zero, D_val] at hs
    have ht : val 65536 ((D n).take m) < 65536 ^ m := by have := val_lt ((D_wf n).take m); rwa [List.length_take, Nat.min_eq_left (by omega)] at this
    rw [← hx.1]
    generalize ((D n).getD m 0).toNat = x at *
    have hx0 : 0 < x := by omega
    have hbl : blen x ≤ 16 := blen_le (by omega)
    rw [Bits_loop x _ k (by omega) (by omega) (by omega) (by omega)]
    have h1 := lt_blen x
    have h2 := blen_ge hx0
    have h3 := blen_pos hx0
    obtain ⟨q, hq⟩ : ∃ q, blen x = q + 1 := ⟨blen x - 1, by omega⟩
    rw [hq] at h1 h2 ⊢
    rw [Nat.add_sub_cancel] at h2
    have hP : 65536 ^ m = 2 ^ (16 * m) := by rw [Nat.pow_mul]
    rw [hP] at hs ht
    have : blen n = (16 * m + q) + 1 := by
      apply blen_eq
      · rw [Nat.pow_add, hs]
        exact Nat.le_trans (Nat.mul_le_mul_left _ h2) (Nat.le_add_left _ _)
      · rw [show 16 * m + q + 1 = 16 * m + (q + 1) by omega, Nat.pow_add, hs]
        have h4 := Nat.mul_le_mul_left (2 ^ (16 * m)) (show x + 1 ≤ 2 ^ (q + 1) from h1)
        rw [Nat.mul_add, Nat.mul_one] at h4
        omega
    rw [this]
    congr 1
theorem Few_loop (n m : Nat) (hm : 0 < m) (L : Nat) (hL : L ≤ 274877906944) (hl : (D n).length ≤ L) (hm2 : (D m).length + 5 ≤ L) (d : Nat) : ∀ (q r k : Nat), d ≤ 60 → 60 * L + 60 * d + 500 < k → r ≤ n → r < m * 2 ^ d → q * (m * 2 ^ d) + r = n → q < 2 ^ (60 - d) →
    vernierref01_Few.l0 k (D r) (D m) q ((d : Int) - 1) = some (((n / m : Nat) : Int), D (n % m)) := by
  induction d with
  | zero =>
    intro q r k hd hk hrn hr hv hq
    obtain ⟨k, rfl⟩ : ∃ m, k = m + 1 := ⟨k - 1, by omega⟩
    simp only [vernierref01_Few.l0]
    rw [Nat.pow_zero, Nat.mul_one] at hr hv
    rw [if_neg (by omega)]
    have e1 : n / m = q := by rw [← hv, Nat.mul_comm, Nat.mul_add_div hm, Nat.div_eq_of_lt hr, Nat.add_zero]
    have e2 : n % m = r := by rw [← hv, Nat.mul_comm, Nat.mul_add_mod, Nat.mod_eq_of_lt hr]
    rw [e1, e2]
  | succ d ih =>
    intro q r k hd hk hrn hr hv hq
    obtain ⟨k, rfl⟩ : ∃ m, k = m + 1 := ⟨k - 1, by omega⟩
    simp only [vernierref01_Few.l0]
    have hls := len_shl m d
    have hlr : (D r).length ≤ L := Nat.le_trans (digs_len_mono (by omega) hrn) hl
    rw [show (((d + 1 : Nat) : Int) - 1) = (d : Int) by omega, if_pos (by omega), Shl_f m d (by omega) (by omega) (by omega)]
    simp only [Option.bind_some]
    rw [Cmp_f r (m * 2 ^ d) (by unfold Few_; omega) (by unfold Few_; omega) (by omega)]
    simp only [Option.bind_some]
    have hq64 : q < 2 ^ 59 := Nat.lt_of_lt_of_le hq (Nat.pow_le_pow_right (by omega) (by omega))
    have h2q : 2 ^ (60 - d) = 2 * 2 ^ (60 - (d + 1)) := by rw [show 60 - d = 60 - (d + 1) + 1 by omega, Nat.pow_succ, Nat.mul_comm]
    have e2 : m * 2 ^ (d + 1) = m * 2 ^ d * 2 := by rw [Nat.pow_succ, Nat.mul_assoc]
    rw [e2] at hr hv
    generalize hM : m * 2 ^ d = M at *
    unfold sign3
    rw [w64 (x := (d : Int) - 1) (by omega) (by omega)]
    by_cases h : r < M
    · rw [if_pos h, if_neg (by omega), u64_in (by omega) (by omega)]
      have := ih (2 * q) r k (by omega) (by omega) hrn h (by rw [← hv]; rw [Nat.mul_comm 2 q, Nat.mul_assoc, Nat.mul_comm 2 M]) (by omega)
      rw [← this]; congr 1
    · rw [if_neg h, if_pos (by split <;> omega), Sub_f r M (by unfold Few_; omega) (by unfold Few_; omega) (by omega), if_neg h]
      simp only [Option.bind_some]
      rw [u64_in (x := 2 * (q : Int)) (by omega) (by omega), u64_in (by omega) (by omega)]
      have := ih (2 * q + 1) (r - M) k (by omega) (by omega) (by omega) (by omega) (by rw [← hv, Nat.add_mul, Nat.one_mul, Nat.mul_comm 2 q, Nat.mul_assoc, Nat.mul_comm 2 M]; omega) (by omega)
      rw [← this]; congr 1
theorem Few_f (n m : Nat) (hm : 0 < m) (h : n < m * 2 ^ 60) (L : Nat) (hL : L ≤ 274877906944) (hl : (D n).length ≤ L) (hm2 : (D m).length + 5 ≤ L) {k : Nat} (hk : 60 * L + 5000 < k) : vernierref01_Few.f k (D n) (D m) = some (((n / m : Nat) : Int), D (n % m)) := by
  unfold vernierref01_Few.f
  exact Few_loop n m hm L hL hl hm2 60 0 n k (by omega) (by omega) (Nat.le_refl _) h (by rw [Nat.zero_mul, Nat.zero_add]) (by decide)
end Go.Proofs.Ytjbpchebabhoeaa.Rf
end
section
set_option linter.unusedVariables false
set_option linter.unusedSimpArgs false
namespace Go.Proofs.Ytjbpchebabhoeaa.Rf
open Go.RowKit Go.Proofs.Ytjbpchebabhoeaa.P Go.Proofs.Ytjbpchebabhoeaa.X Go.Proofs.Ytjbpchebabhoeaa.Bt Go.Proofs.Ytjbpchebabhoeaa.Dg Go.Proofs.YtjbpchebabhoeaaW.PrintWords
theorem digs_drop {b : Nat} (hb : 1 < b) : ∀ (i n : Nat), (digs b n).drop i = digs b (n / b ^ i) := by
  intro i
  induction i with
  | zero => intro n; simp
  | succ i ih =>
    intro n
    rcases Nat.eq_zero_or_pos n with rfl | hp
    · rw [digs_zero]; simp [digs_zero]
    · rw [digs_pos hb hp, List.drop_succ_cons, ih, Nat.div_div_eq_div_mul, Nat.pow_succ, Nat.mul_comm]
theorem digs_getD {b : Nat} (hb : 1 < b) (i n : Nat) : (digs b n).getD i 0 = ((n / b ^ i % b : Nat) : Int) := by
  have h := digs_drop hb i n
  rcases Nat.eq_zero_or_pos (n / b ^ i) with h0 | hp
  · rw [h0, digs_zero] at h
    have hl : (digs b n).length ≤ i := by rw [List.drop_eq_nil_iff] at h; exact h
    rw [getD_ge hl, h0, Nat.zero_mod]
    rfl
  · rw [digs_pos hb hp] at h
    have h2 : ((digs b n).drop i).getD 0 0 = ((n / b ^ i % b : Nat) : Int) := by rw [h]; rfl
    rw [← h2]
    simp only [List.getD_eq_getElem?_getD, List.getElem?_drop, Nat.add_zero]
abbrev B64 : Nat := 18446744073709551616
theorem Limbs_loop (n : Nat) (fn : (D n).length ≤ 17592186044416) (d : Nat) : ∀ (i : Nat) (out : List Int) (k : Nat), (D n).length ≤ i + d → 6 * d + 10 < k → 4 * out.length ≤ i →  i ≤ (D n).length + 3 →
    vernierref01_Limbs.l0 k (D n) out i = some (out ++ digs B64 (n / 65536 ^ i)) := by
  induction d using Nat.strongRecOn with
  | _ d ih =>
    intro i out k hd hk ho hi
    obtain ⟨k, rfl⟩ : ∃ m, k = m + 6 := ⟨k - 6, by omega⟩
    by_cases c : i < (D n).length
    · have hnz : 0 < n / 65536 ^ i := by
        rcases Nat.eq_zero_or_pos (n / 65536 ^ i) with h0 | hp
        · have h := digs_drop (b := 65536) (by omega) i n
          rw [h0, digs_zero, List.drop_eq_nil_iff] at h
          unfold D at c
          omega
        · exact hp
      have dig : ∀ j : Nat, rd (D n) ((j : Nat) : Int) = ((n / 65536 ^ j % 65536 : Nat) : Int) := by
        intro j; rw [rd_nat]; exact digs_getD (by omega) j n
      have dz : ∀ j : Nat, (D n).length ≤ j → n / 65536 ^ j % 65536 = 0 := by
        intro j hj
        have h := digs_getD (b := 65536) (by omega) j n
        unfold D at hj
        rw [getD_ge hj] at h
        omega
      have step : ∀ (k : Nat) (x6 : Nat) (X : Nat), X * 65536 + 65535 < 18446744073709551616 → x6 ≤ 3 → vernierref01_Limbs.l1 (k + 1) (D n) out i X x6 = vernierref01_Limbs.l1 k (D n) out i ((X * 65536 + n / 65536 ^ (i + x6) % 65536 : Nat) : Int) ((x6 : Int) - 1) := by
        intro k x6 X hX hx
        simp only [vernierref01_Limbs.l1]
        have hm : n / 65536 ^ (i + x6) % 65536 < 65536 := Nat.mod_lt _ (by omega)
        rw [if_pos (by omega), w64 (x := (i : Int) + x6) (by omega) (by omega), w64 (x := (x6 : Int) - 1) (by omega) (by omega), u64_in (x := (X : Int) * 65536) (by omega) (by omega)]
        have e := dig (i + x6)
        rw [show ((i + x6 : Nat) : Int) = (i : Int) + x6 by omega] at e
        by_cases g : ((i : Int) + x6) < ((D n).length : Int)
        · rw [if_pos g, if_pos (by omega), e, u64_in (x := ((n / 65536 ^ (i + x6) % 65536 : Nat) : Int)) (by omega) (by omega), u64_in (x := (X : Int) * 65536 + ((n / 65536 ^ (i + x6) % 65536 : Nat) : Int)) (by omega) (by omega), Int.natCast_add, Int.natCast_mul]
          rfl
        · rw [if_neg g, dz (i + x6) (by omega), Nat.add_zero, Int.natCast_mul]
          rfl
      simp only [vernierref01_Limbs.l0]
      rw [if_pos (by omega)]
      have hm3 : n / 65536 ^ (i + 3) % 65536 < 65536 := Nat.mod_lt _ (by omega)
      have hm2 : n / 65536 ^ (i + 2) % 65536 < 65536 := Nat.mod_lt _ (by omega)
      have hm1 : n / 65536 ^ (i + 1) % 65536 < 65536 := Nat.mod_lt _ (by omega)
      have hm0 : n / 65536 ^ (i + 0) % 65536 < 65536 := Nat.mod_lt _ (by omega)
      have s3 := step (k + 4) 3 0 (by omega) (by omega)
      have s2 := step (k + 3) 2 (0 * 65536 + n / 65536 ^ (i + 3) % 65536) (by omega) (by omega)
      have s1 := step (k + 2) 1 ((0 * 65536 + n / 65536 ^ (i + 3) % 65536) * 65536 + n / 65536 ^ (i + 2) % 65536) (by omega) (by omega)
      have s0 := step (k + 1) 0 (((0 * 65536 + n / 65536 ^ (i + 3) % 65536) * 65536 + n / 65536 ^ (i + 2) % 65536) * 65536 + n / 65536 ^ (i + 1) % 65536) (by omega) (by omega)
      have e1 : vernierref01_Limbs.l1 (k + 5) (D n) out i 0 3 = _ := s3
      rw [e1]
      have e2 := s2
      rw [show ((2 : Nat) : Int) = ((3 : Nat) : Int) - 1 from rfl] at e2
      rw [e2]
      have e3 := s1
      rw [show ((1 : Nat) : Int) = ((3 : Nat) : Int) - 1 - 1 from rfl] at e3
      rw [e3]
      have e4 := s0
      rw [show ((0 : Nat) : Int) = ((3 : Nat) : Int) - 1 - 1 - 1 from rfl] at e4
      rw [e4]
      simp only [vernierref01_Limbs.l1]
      rw [if_neg (by omega), if_pos (by omega), w64 (x := (i : Int) + 4) (by omega) (by omega)]
      have hp4 : ∀ j : Nat, n / 65536 ^ (i + j) = n / 65536 ^ i / 65536 ^ j := by intro j; rw [Nat.pow_add, Nat.div_div_eq_div_mul]
      have hx : (((0 * 65536 + n / 65536 ^ (i + 3) % 65536) * 65536 + n / 65536 ^ (i + 2) % 65536) * 65536 + n / 65536 ^ (i + 1) % 65536) * 65536 + n / 65536 ^ (i + 0) % 65536 = n / 65536 ^ i % B64 := by
        rw [hp4 3, hp4 2, hp4 1, hp4 0]
        generalize n / 65536 ^ i = m
        rw [show (65536 : Nat) ^ 3 = 281474976710656 from rfl, show (65536 : Nat) ^ 2 = 4294967296 from rfl, Nat.pow_one, Nat.pow_zero, Nat.div_one]
        show _ = m % 18446744073709551616
        omega
      rw [hx]
      have hn4 : n / 65536 ^ (i + 4) = n / 65536 ^ i / B64 := hp4 4
      have hrec := ih (d - 4) (by omega) (i + 4) (out ++ [((n / 65536 ^ i % B64 : Nat) : Int)]) k (by omega) (by omega) (by rw [List.length_append]; simp only [List.length_singleton]; omega) (by omega)
      rw [show ((i + 4 : Nat) : Int) = (i : Int) + 4 by omega] at hrec
      rw [digs_pos (b := B64) (by decide) hnz, ← hn4]
      rw [hrec, List.append_assoc]
      rfl
    · simp only [vernierref01_Limbs.l0]
      rw [if_neg (by omega)]
      have h := digs_drop (b := 65536) (by omega) i n
      rw [List.drop_eq_nil_iff.2 (show (digs 65536 n).length ≤ i by unfold D at c; omega)] at h
      have h0 : n / 65536 ^ i = 0 := (digs_eq_nil (b := 65536) (by omega)).1 h.symm
      rw [h0, digs_zero, List.append_nil]
theorem Limbs_f (n : Nat) (fn : (D n).length ≤ 17592186044416) {k : Nat} (hk : 6 * (D n).length + 20 < k) : vernierref01_Limbs.f k (D n) = some (digs B64 n) := by
  unfold vernierref01_Limbs.f
  have := Limbs_loop n fn (D n).length 0 [] k (by omega) (by omega) (by simp) (by omega)
  rw [Nat.pow_zero, Nat.div_one, List.nil_append] at this
  exact this
theorem Shr_down {l : List Int} (hw : W16 l) (fl : l.length ≤ 35184372088832) {P : Nat} (hP : 0 < P) (hP2 : P ≤ 65536) : ∀ (i : Nat) (out : List Int) (r k : Nat), i ≤ l.length → i + l.length + 10 < k → W16 out → out.length = l.length → r = val 65536 (l.drop i) % P →
    val 65536 (out.drop i) = val 65536 (l.drop i) / P → vernierref01_Shr.l1 k l P out r ((i : Int) - 1) = some (D (val 65536 l / P)) := by
  intro i
  induction i with
  | zero =>
    intro out r k hi hk hwo hlo hr hv
    obtain ⟨k, rfl⟩ : ∃ m, k = m + 1 := ⟨k - 1, by omega⟩
    simp only [vernierref01_Shr.l1]
    rw [if_neg (by omega), cut_f hwo (by omega) (by omega)]
    rw [List.drop_zero, List.drop_zero] at hv
    rw [hv]; rfl
  | succ i ih =>
    intro out r k hi hk hwo hlo hr hv
    obtain ⟨k, rfl⟩ : ∃ m, k = m + 1 := ⟨k - 1, by omega⟩
    simp only [vernierref01_Shr.l1]
    have hr2 : r < P := by rw [hr]; exact Nat.mod_lt _ hP
    have hd := getD_toNat (b := 65536) (by omega) hw i
    rw [show (((i + 1 : Nat) : Int) - 1) = (i : Int) by omega, if_pos (by omega), if_pos (by omega), if_pos (by omega), if_neg (by omega), if_pos (by omega), rd_nat, ← hd.1]
    generalize hx : (l.getD i 0).toNat = x at *
    have hx2 : x < 65536 := hd.2
    have hcur : r * 65536 + x < P * 65536 := by
      have : (r + 1) * 65536 ≤ P * 65536 := Nat.mul_le_mul_right _ hr2
      omega
    have hcur2 : P * 65536 ≤ 65536 * 65536 := Nat.mul_le_mul_right _ hP2
    rw [w64 (x := (r : Int) * 65536) (by omega) (by omega), w64 (x := (r : Int) * 65536 + x) (by omega) (by omega)]
    have e1 : Int.tdiv ((r : Int) * 65536 + x) P = (((r * 65536 + x) / P : Nat) : Int) := by
      rw [Int.tdiv_eq_ediv_of_nonneg (by omega), Int.natCast_ediv, Int.natCast_add, Int.natCast_mul]; rfl
    have e2 : Int.tmod ((r : Int) * 65536 + x) P = (((r * 65536 + x) % P : Nat) : Int) := by
      rw [Int.tmod_eq_emod_of_nonneg (by omega), Int.natCast_emod, Int.natCast_add, Int.natCast_mul]; rfl
    have hq : (r * 65536 + x) / P < 65536 := by rw [Nat.div_lt_iff_lt_mul hP, Nat.mul_comm 65536]; exact hcur
    have hrm : (r * 65536 + x) % P < P := Nat.mod_lt _ hP
    rw [e1, e2]
    obtain ⟨Q, hQ⟩ : ∃ Q, (r * 65536 + x) / P = Q := ⟨_, rfl⟩
    obtain ⟨M, hM⟩ : ∃ M, (r * 65536 + x) % P = M := ⟨_, rfl⟩
    rw [hQ] at hq ⊢
    rw [hM] at hrm ⊢
    rw [w64 (by omega) (by omega), w64 (by omega) (by omega), Int.toNat_natCast]
    have hV := val_drop 65536 l i
    rw [hx] at hV
    have hdm := Nat.div_add_mod (val 65536 (l.drop (i + 1))) P
    rw [← hr, ← hv] at hdm
    have hV2 : val 65536 (l.drop i) = P * (65536 * val 65536 (out.drop (i + 1))) + (r * 65536 + x) := by
      rw [hV, ← hdm, Nat.mul_add, Nat.mul_left_comm]; omega
    refine ih _ _ k (by omega) (by omega) (hwo.set i (by omega) (by omega)) (by rw [List.length_set]; exact hlo) ?_ ?_
    · rw [hV2, Nat.mul_add_mod, hM]
    · rw [hV2, Nat.mul_add_div hP, hQ, val_drop, List.getD_eq_getElem?_getD, List.getElem?_set_self (by omega), List.drop_set_of_lt (by omega)]
      simp only [Option.getD_some, Int.toNat_natCast]
      omega
theorem Shr_up (n s : Nat) (fn : (D n).length ≤ 35184372088832) (hs : s ≤ 281474976710656) (hsl : s / 16 < (D n).length) (d : Nat) : ∀ (t k : Nat), t + d = s % 16 → d + 2 * (D n).length + 20 < k →
    vernierref01_Shr.l0 k (D n) s ((2 ^ t : Nat) : Int) t = some (D (n / 2 ^ s)) := by
  induction d with
  | zero =>
    intro t k ht hk
    obtain ⟨k, rfl⟩ : ∃ m, k = m + 1 := ⟨k - 1, by omega⟩
    simp only [vernierref01_Shr.l0]
    have hm : Int.tmod (s : Int) 16 = ((s % 16 : Nat) : Int) := by rw [Int.tmod_eq_emod_of_nonneg (by omega)]; omega
    have hd : Int.tdiv (s : Int) 16 = ((s / 16 : Nat) : Int) := by rw [Int.tdiv_eq_ediv_of_nonneg (by omega)]; omega
    have hlen : ((D n).drop (s / 16)).length = (D n).length - s / 16 := List.length_drop
    rw [hm, hd, w64 (x := ((s / 16 : Nat) : Int)) (by omega) (by omega), if_neg (by omega), if_pos (by omega), if_pos (by omega), Int.toNat_natCast, if_pos (by omega), Int.toNat_natCast, if_pos (by omega), w64 (by omega) (by omega)]
    have hP2 : 2 ^ t ≤ 65536 := by
      have := Nat.pow_le_pow_right (show 0 < 2 by omega) (show t ≤ 16 by omega)
      exact this
    have := Shr_down (l := (D n).drop (s / 16)) ((D_wf n).drop _) (by omega) (Nat.two_pow_pos t) hP2 ((D n).drop (s / 16)).length (List.replicate ((D n).drop (s / 16)).length 0) 0 k (Nat.le_refl _) (by omega) (Wf.zeros (by omega) _) (by rw [List.length_replicate])
      (by rw [List.drop_length, val_nil, Nat.zero_mod]) (by rw [List.drop_length, val_nil, List.drop_of_length_le (by rw [List.length_replicate]; exact Nat.le_refl _), val_nil, Nat.zero_div])
    rw [show ((0 : Nat) : Int) = 0 from rfl] at this
    rw [this]
    congr 2
    unfold D
    rw [digs_drop (by omega), val_digs (by omega), Nat.div_div_eq_div_mul, show s = 16 * (s / 16) + t by omega, Nat.pow_add, Nat.pow_mul, show (16 * (s / 16) + t) / 16 = s / 16 by omega]
  | succ d ih =>
    intro t k ht hk
    obtain ⟨k, rfl⟩ : ∃ m, k = m + 1 := ⟨k - 1, by omega⟩
    simp only [vernierref01_Shr.l0]
    have hm : Int.tmod (s : Int) 16 = ((s % 16 : Nat) : Int) := by rw [Int.tmod_eq_emod_of_nonneg (by omega)]; omega
    have hp : 2 ^ (t + 1) ≤ 2 ^ 16 := Nat.pow_le_pow_right (by omega) (by omega)
    have he : 2 ^ (t + 1) = 2 * 2 ^ t := by rw [Nat.pow_succ, Nat.mul_comm]
    rw [hm, if_pos (by omega), w64 (x := (t : Int) + 1) (by omega) (by omega), w64 (by omega) (by omega)]
    have := ih (t + 1) k (by omega) (by omega)
    rw [← this, he]
    rfl
theorem Shr_f (n s : Nat) (fn : (D n).length ≤ 35184372088832) (hs : s ≤ 281474976710656) {k : Nat} (hk : 2 * (D n).length + 50 < k) : vernierref01_Shr.f k (D n) s = some (D (n / 2 ^ s)) := by
  unfold vernierref01_Shr.f
  have hd : Int.tdiv (s : Int) 16 = ((s / 16 : Nat) : Int) := by rw [Int.tdiv_eq_ediv_of_nonneg (by omega)]; omega
  rw [hd, w64 (by omega) (by omega)]
  by_cases c : ((s / 16 : Nat) : Int) ≥ ((D n).length : Int)
  · rw [if_pos c]
    have h := digs_drop (b := 65536) (by omega) (s / 16) n
    rw [List.drop_eq_nil_iff.2 (show (digs 65536 n).length ≤ s / 16 by unfold D at c; omega)] at h
    have h0 : n / 65536 ^ (s / 16) = 0 := (digs_eq_nil (b := 65536) (by omega)).1 h.symm
    have h1 : n / 2 ^ s = 0 := by
      conv => lhs; rw [show s = 16 * (s / 16) + s % 16 by omega, Nat.pow_add, ← Nat.div_div_eq_div_mul, Nat.pow_mul]
      rw [show (2 : Nat) ^ 16 = 65536 from rfl, h0, Nat.zero_div]
    rw [h1, D_zero]
  · rw [if_neg c]
    have := Shr_up n s fn hs (by omega) (s % 16) 0 k (by omega) (by omega)
    exact this
theorem Same_loop (a b : List Int) (hl : a.length = b.length) (hf : a.length ≤ 4611686018427387904) (d : Nat) : ∀ (i k : Nat), i + d = a.length → d < k → a.take i = b.take i → vernierref01_Same.l0 k a b i = some (decide (a = b)) := by
  induction d with
  | zero =>
    intro i k hi hk h
    obtain ⟨k, rfl⟩ : ∃ m, k = m + 1 := ⟨k - 1, by omega⟩
    simp only [vernierref01_Same.l0]
    rw [if_neg (by omega)]
    rw [List.take_of_length_le (by omega), List.take_of_length_le (by omega)] at h
    rw [decide_eq_true h]
  | succ d ih =>
    intro i k hi hk h
    obtain ⟨k, rfl⟩ : ∃ m, k = m + 1 := ⟨k - 1, by omega⟩
    simp only [vernierref01_Same.l0]
    rw [if_pos (by omega), if_pos (by omega), if_pos (by omega), rd_nat, rd_nat]
    have ea : a.getD i 0 = a[i]'(by omega) := by rw [List.getD_eq_getElem?_getD, List.getElem?_eq_getElem (by omega)]; rfl
    have eb : b.getD i 0 = b[i]'(by omega) := by rw [List.getD_eq_getElem?_getD, List.getElem?_eq_getElem (by omega)]; rfl
    by_cases c : a.getD i 0 = b.getD i 0
    · rw [if_pos c, w64 (by omega) (by omega)]
      refine ih (i + 1) k (by omega) (by omega) ?_
      rw [List.take_succ_eq_append_getElem (by omega), List.take_succ_eq_append_getElem (by omega), h]
      rw [ea, eb] at c
      rw [c]
    · rw [if_neg c]
      have : ¬ a = b := fun h2 => c (by rw [h2])
      rw [decide_eq_false this]
theorem Same_f (a b : List Int) (hf : a.length ≤ 4611686018427387904) {k : Nat} (hk : a.length + 1 < k) : vernierref01_Same.f k a b = some (decide (a = b)) := by
  unfold vernierref01_Same.f
  by_cases c : a.length = b.length
  · rw [if_pos (by omega)]
    exact Same_loop a b c hf a.length 0 k (by omega) (by omega) rfl
  · rw [if_neg (by omega)]
    have : ¬ a = b := fun h2 => c (by rw [h2])
    rw [decide_eq_false this]
end Go.Proofs.Ytjbpchebabhoeaa.Rf
end
section
set_option linter.unusedVariables false
set_option linter.unusedSimpArgs false
namespace Go.Proofs.Ytjbpchebabhoeaa.Rf
open Go.RowKit Go.Proofs.Ytjbpchebabhoeaa.P Go.Proofs.Ytjbpchebabhoeaa.X Go.Proofs.Ytjbpchebabhoeaa.Bt Go.Proofs.Ytjbpchebabhoeaa.Dg Go.Proofs.YtjbpchebabhoeaaW.PrintWords
theorem D_small {b : Nat} (hb : b < 2) : D b = if b = 0 then [] else [1] := by
  rcases (show b = 0 ∨ b = 1 by omega) with rfl | rfl
  · rw [D_zero]; rfl
  · rw [D_one]; rfl
theorem cut_bit {b : Nat} (hb : b < 2) {k : Nat} (hk : 1 < k) : vernierref01_cut.f k [(b : Int)] = some (D b) := by
  have hw : W16 [(b : Int)] := Wf.cons (by omega) (by omega) (Wf.nil _)
  rw [cut_f hw (by simp) (by simpa using hk)]
  congr 2
theorem Div_bits {x0 x1 x6 x7 : List Int} {j dg : Nat} (hj : j ≤ 1099511627776) (hdg : dg < 65536) (d : Nat) : ∀ (u k : Nat), u + d = j % 16 → d < k →
    ∃ k', k ≤ k' + d + 1 ∧ vernierref01_Div.l1 k x0 x1 x6 x7 (j : Int) ((dg / 2 ^ u : Nat) : Int) (u : Int) = ((vernierref01_Shl.f k' x7 1).bind fun t345 => ((vernierref01_cut.f k' (([((dg / 2 ^ (j % 16) % 2 : Nat) : Int)] : List Int))).bind fun t351 => ((vernierref01_Add.f k' t345 t351).bind fun t354 => ((vernierref01_Shl.f k' x6 1).bind fun t357 => ((vernierref01_Cmp.f k' t354 x1).bind fun t360 => (if t360 ≥ 0 then ((vernierref01_Sub.f k' t354 x1).bind fun t361 => ((vernierref01_Add.f k' t357 (([1] : List Int))).bind fun t367 => (vernierref01_Div.l0 k' x0 x1 t367 t361 (wrap64 ((j : Int) - 1))))) else (vernierref01_Div.l0 k' x0 x1 t357 t354 (wrap64 ((j : Int) - 1))))))))) := by
  have em : Int.tmod (j : Int) 16 = ((j % 16 : Nat) : Int) := by rw [Int.tmod_eq_emod_of_nonneg (by omega)]; omega
  induction d with
  | zero =>
    intro u k hu hk
    obtain ⟨k, rfl⟩ : ∃ m, k = m + 1 := ⟨k - 1, by omega⟩
    refine ⟨k, by omega, ?_⟩
    have e2 : Int.tmod ((dg / 2 ^ u : Nat) : Int) 2 = ((dg / 2 ^ (j % 16) % 2 : Nat) : Int) := by
      rw [Int.tmod_eq_emod_of_nonneg (Int.natCast_nonneg _), show u = j % 16 by omega, Int.natCast_emod]
      rfl
    simp only [vernierref01_Div.l1]
    rw [em, if_neg (by omega), e2]
  | succ d ih =>
    intro u k hu hk
    obtain ⟨k, rfl⟩ : ∃ m, k = m + 1 := ⟨k - 1, by omega⟩
    obtain ⟨k', h1, h2⟩ := ih (u + 1) k (by omega) (by omega)
    refine ⟨k', by omega, ?_⟩
    have hle : dg / 2 ^ u < 65536 := Nat.lt_of_le_of_lt (Nat.div_le_self _ _) hdg
    have e3 : Int.tdiv ((dg / 2 ^ u : Nat) : Int) 2 = ((dg / 2 ^ (u + 1) : Nat) : Int) := by
      rw [Int.tdiv_eq_ediv_of_nonneg (Int.natCast_nonneg _), Nat.pow_succ, ← Nat.div_div_eq_div_mul, Int.natCast_ediv]
      rfl
    have hle2 : dg / 2 ^ (u + 1) < 65536 := Nat.lt_of_le_of_lt (Nat.div_le_self _ _) hdg
    simp only [vernierref01_Div.l1]
    rw [em, if_pos (by omega), e3, w64 (x := ((dg / 2 ^ (u + 1) : Nat) : Int)) (by have := Int.natCast_nonneg (dg / 2 ^ (u + 1)); omega) (by omega), w64 (x := (u : Int) + 1) (by omega) (by omega), ← h2]
    rfl
theorem bit_of (n j : Nat) : n / 65536 ^ (j / 16) % 65536 / 2 ^ (j % 16) % 2 = n / 2 ^ j % 2 := by
  have e : (2 : Nat) ^ j = 65536 ^ (j / 16) * 2 ^ (j % 16) := pow16 j
  rw [e, ← Nat.div_div_eq_div_mul]
  generalize n / 65536 ^ (j / 16) = x
  have hs : j % 16 < 16 := Nat.mod_lt _ (by omega)
  generalize j % 16 = s at hs
  have e2 : (65536 : Nat) = 2 ^ s * 2 ^ (16 - s) := by rw [← Nat.pow_add, show s + (16 - s) = 16 by omega]
  have e3 : 2 ^ (16 - s) = 2 * 2 ^ (15 - s) := by rw [← Nat.pow_succ', show (15 - s).succ = 16 - s by omega]
  rw [e2, Nat.mod_mul_right_div_self, e3, Nat.mod_mul_right_mod]
theorem Div_loop (n m : Nat) (hm : 0 < m) (K : Nat) (hK : K ≤ 1000000000) (hn : (D n).length ≤ K) (hml : (D m).length ≤ K) (hbl : blen n ≤ 17000000000) : ∀ (i k : Nat), i ≤ blen n → 20 * i + 200 * K + 2000 < k →
    vernierref01_Div.l0 k (D n) (D m) (D (n / 2 ^ i / m)) (D (n / 2 ^ i % m)) ((i : Int) - 1) = some (D (n / m), D (n % m)) := by
  intro i
  induction i with
  | zero =>
    intro k hi hk
    obtain ⟨k, rfl⟩ : ∃ m, k = m + 1 := ⟨k - 1, by omega⟩
    simp only [vernierref01_Div.l0]
    rw [if_neg (by omega), Nat.pow_zero, Nat.div_one]
  | succ j ih =>
    intro k hi hk
    obtain ⟨k, rfl⟩ : ∃ m, k = m + 1 := ⟨k - 1, by omega⟩
    simp only [vernierref01_Div.l0]
    have ed : Int.tdiv (j : Int) 16 = ((j / 16 : Nat) : Int) := by rw [Int.tdiv_eq_ediv_of_nonneg (by omega)]; omega
    have hjl : j / 16 < (D n).length := by
      apply Nat.lt_of_not_le
      intro hle
      have h1 := le_of_digs_length (b := 65536) (by omega) n
      have h2 : 65536 ^ (digs 65536 n).length ≤ 2 ^ j := by
        rw [show (65536 : Nat) = 2 ^ 16 from rfl, ← Nat.pow_mul]
        apply Nat.pow_le_pow_right (by omega)
        unfold D at hle
        change 16 * (digs 65536 n).length ≤ j
        omega
      have h3 : blen n ≤ j := blen_le (Nat.lt_of_lt_of_le h1 h2)
      omega
    rw [show (((j + 1 : Nat) : Int) - 1) = (j : Int) by omega, if_pos (by omega), ed, w64 (x := ((j / 16 : Nat) : Int)) (by omega) (by omega), if_pos (by omega), if_pos (by omega), rd_nat]
    have hdd : (D n).getD (j / 16) 0 = ((n / 65536 ^ (j / 16) % 65536 : Nat) : Int) := digs_getD (by omega) (j / 16) n
    rw [hdd]
    have hmod := Nat.mod_lt (n / 65536 ^ (j / 16)) (show 65536 > 0 by omega)
    obtain ⟨k', hk', hl1⟩ := Div_bits (x0 := D n) (x1 := D m) (x6 := D (n / 2 ^ (j + 1) / m)) (x7 := D (n / 2 ^ (j + 1) % m)) (j := j) (dg := n / 65536 ^ (j / 16) % 65536) (by omega) hmod (j % 16) 0 k (by omega) (by omega)
    rw [Nat.pow_zero, Nat.div_one] at hl1
    rw [show ((0 : Nat) : Int) = 0 from rfl] at hl1
    rw [hl1, bit_of]
    have hbt := Nat.mod_lt (n / 2 ^ j) (show 2 > 0 by omega)
    have hsp : n / 2 ^ j = 2 * (n / 2 ^ (j + 1)) + n / 2 ^ j % 2 := by
      rw [Nat.pow_succ, ← Nat.div_div_eq_div_mul]
      omega
    generalize n / 2 ^ j % 2 = b at hbt hsp ⊢
    have hqle : n / 2 ^ (j + 1) / m ≤ n := Nat.le_trans (Nat.div_le_self _ _) (Nat.div_le_self _ _)
    have hdm := Nat.div_add_mod (n / 2 ^ (j + 1)) m
    have hmr := Nat.mod_lt (n / 2 ^ (j + 1)) hm
    have ih' := ih k' (by omega) (by omega)
    rw [hsp] at ih'
    clear hl1 hsp
    generalize n / 2 ^ (j + 1) = x at *
    generalize hq : x / m = q at *
    generalize hr : x % m = r at *
    have lq : (D q).length ≤ K := Nat.le_trans (digs_len_mono (by omega) hqle) hn
    have lr : (D r).length ≤ K := Nat.le_trans (digs_len_mono (by omega) (Nat.le_of_lt hmr)) hml
    have l2r : (D (r * 2 ^ 1)).length ≤ K + 1 := by have := len_shl r 1; omega
    have l2q : (D (q * 2 ^ 1)).length ≤ K + 1 := by have := len_shl q 1; omega
    have lb : (D b).length ≤ 1 := len_le (by omega)
    have hS : vernierref01_Shl.f k' (D r) 1 = some (D (r * 2 ^ 1)) := Shl_f r 1 (by omega) (by omega) (by omega)
    have hS2 : vernierref01_Shl.f k' (D q) 1 = some (D (q * 2 ^ 1)) := Shl_f q 1 (by omega) (by omega) (by omega)
    have hA := Rf.Add_f (D_wf (r * 2 ^ 1)) (D_wf b) (by unfold Few_; omega) (by unfold Few_; omega) (k := k') (by omega)
    rw [D_val, D_val, Nat.pow_one] at hA
    rw [Nat.pow_one] at hS hS2 l2r l2q
    have l3 : (D (r * 2 + b)).length ≤ K + 2 := by
      refine Nat.le_trans (digs_len_mono (b := 65536) (by omega) (show r * 2 + b ≤ (r + 1) * 2 ^ 1 by omega)) ?_
      have h1 := len_shl (r + 1) 1
      have h2 : (D (r + 1)).length ≤ (D m).length := digs_len_mono (by omega) (by omega)
      unfold D at *
      omega
    rw [hS, Option.bind_some, cut_bit hbt (by omega), Option.bind_some, hA, Option.bind_some, hS2, Option.bind_some, Rf.Cmp_f _ _ (by unfold Few_; omega) (by unfold Few_; omega) (by omega), Option.bind_some]
    have hw : wrap64 ((j : Int) - 1) = (j : Int) - 1 := w64 (by omega) (by omega)
    rw [hw]
    have hx2 : 2 * x + b = (r * 2 + b) + m * (q * 2) := by rw [← hdm, Nat.mul_add]; rw [show 2 * (m * q) = m * (q * 2) by rw [Nat.mul_left_comm, Nat.mul_comm q 2]]; omega
    rw [hx2, Nat.add_mul_div_left _ _ hm, Nat.add_mul_mod_self_left] at ih'
    unfold Rf.sign3
    by_cases hc : r * 2 + b < m
    · rw [if_pos hc, if_neg (by omega)]
      rw [Nat.div_eq_of_lt hc, Nat.mod_eq_of_lt hc, Nat.zero_add] at ih'
      exact ih'
    · rw [if_neg hc]
      have hge : (if m < r * 2 + b then (1 : Int) else 0) ≥ 0 := by split <;> omega
      rw [if_pos hge]
      have e1 : (r * 2 + b) / m = 1 := by
        rw [Nat.div_eq_iff (by omega)]
        omega
      have e2 : (r * 2 + b) % m = r * 2 + b - m := by
        have h1 := Nat.div_add_mod (r * 2 + b) m
        rw [e1, Nat.mul_one] at h1
        omega
      rw [e1, e2] at ih'
      rw [Rf.Sub_f _ _ (by unfold Few_; omega) (by unfold Few_; omega) (by omega), Option.bind_some, if_neg (by omega)]
      have hA2 := Rf.Add_f (D_wf (q * 2)) (D_wf 1) (by unfold Few_; omega) (by unfold Few_; rw [D_one]; simp) (k := k') (by rw [D_one]; simp only [List.length_cons, List.length_nil]; omega)
      rw [D_val, D_val, D_one] at hA2
      rw [hA2, Option.bind_some, show q * 2 + 1 = 1 + q * 2 by omega]
      exact ih'
theorem Div_f (n m : Nat) (hm : 0 < m) (K : Nat) (hK : K ≤ 1000000000) (hn : (D n).length ≤ K) (hml : (D m).length ≤ K) {k : Nat} (hk : 600 * K + 3000 < k) : vernierref01_Div.f k (D n) (D m) = some (D (n / m), D (n % m)) := by
  have hb : blen n ≤ 16 * K := by
    apply blen_le
    have h1 := le_of_digs_length (b := 65536) (by omega) n
    rw [show (65536 : Nat) = 2 ^ 16 from rfl, ← Nat.pow_mul] at h1
    refine Nat.lt_of_lt_of_le h1 (Nat.pow_le_pow_right (by omega) ?_)
    unfold D at hn
    change 16 * (digs 65536 n).length ≤ 16 * K
    omega
  unfold vernierref01_Div.f
  rw [Bits_f n (by unfold Few_; omega) (by omega), Option.bind_some, w64 (by omega) (by omega)]
  have := Div_loop n m hm K hK hn hml (by omega) (blen n) k (Nat.le_refl _) (by omega)
  rw [Nat.div_eq_of_lt (lt_blen n), Nat.zero_div, Nat.zero_mod, D_zero] at this
  exact this
end Go.Proofs.Ytjbpchebabhoeaa.Rf
end
section
namespace Go.Proofs.Ytjbpchebabhoeaa.P
open Go.RowKit Go.Proofs.YtjbpchebabhoeaaW.PrintWords Go.Proofs.YtjbpchebabhoeaaW.PrintLast Go.Proofs.YtjbpchebabhoeaaW.PrintMore Go.Proofs.Ytjbpchebabhoeaa.X
attribute [local go_sem] max2_int min2_int max_two min_two max_three min_three max_four min_four
set_option linter.unusedVariables false
set_option linter.unusedSimpArgs false
def vernierref01_Word.f (k : Nat) (a0 : Int) : Option (List Int) := (vernierref01_Of.f k (([a0] : List Int))).bind fun t805 => (some t805)
theorem vernierref01_Word.mono : ∀ a0 k, LeO (vernierref01_Word.f k a0) (vernierref01_Word.f (k + 1) a0) := by
  intro a0 k
  unfold vernierref01_Word.f
  repeat' first
      | (with_reducible exact vernierref01_Of.mono _ _)
      | (with_reducible exact LeO.refl _)
      | (with_reducible exact LeO.none _)
      | (with_reducible refine LeO.ite ?_ ?_)
      | (with_reducible refine LeO.bind ?_ (fun _ => ?_))
      | exact vernierref01_Of.mono _ _
      | exact LeO.none _
      | refine LeO.ite ?_ ?_
      | refine LeO.bind ?_ (fun _ => ?_)
set_option maxHeartbeats 8000000 in
set_option maxRecDepth 100000 in
theorem vernierref01_Word.calls (k : Nat) (a0 : Int) (r : List Int) (w : World) (h : vernierref01_Word.f k a0 = some r) :
    Calls Try.prog 85 #[.int .u64 a0] w fun e w' => ∃ v0_ : Value, e = .returned (v0_) ∧ Kd.R (Kd.int .i64) 3 w' w.heap.size (fun _ => True) v0_ r ∧ Below w.heap.size w w' := by
  have HB := Aside0.mk (Below.refl w.heap.size w)
  have H : ((vernierref01_Of.f k (([a0] : List Int))).bind fun t805 => (some t805)) = some r := h
  clear h
  obtain ⟨y802, hy802⟩ : ∃ y_ : List Int, y_ = (([a0] : List Int)) := ⟨_, rfl⟩
  replace H : ((vernierref01_Of.f k y802).bind fun t805 => (some t805)) = some r := by first | (rw [hy802]; with_reducible exact H) | (have H2_ := (Option.bind_some _ _).symm.trans H; rw [hy802]; with_reducible exact H2_) | (have H2_ := (Option.bind_some _ _).symm.trans H; with_reducible exact H2_) | with_reducible exact H | (rw [hy802]; exact H) | exact H
  have Ny802 := Aside0.mk hy802
  clear hy802
  replace H := Option.bind_eq_some_iff.mp H
  obtain ⟨t805, A20, H⟩ := H
  replace H : (some t805) = some r := H
  have A2 := Aside0.mk A20
  clear A20
  obtain rfl := Option.some.inj H
  go_enter Try.func85, Try.ntmps85
  go_wp2_with (first | ((with_reducible refine gate_dst (N := 4) rfl ?_); refine Kd.R_lit (Kd.int .u64) _ 55 ?hg (N := 4) ?hd (xs := ([a0] : List Int)) (inner := [.int .u64 a0]) (ok := fun _ => True) (okp := fun _ => True) ?hr ?hp (fun _ hk => hk) trivial (Below.refl _ _) (Nat.le_refl _) (by simp) ?_; (case hd => rfl); (case hg => rfl); (case hr => first | (go_simp; done) | (go_simp; rfl)); (case hp => exact (Reps.one (show Kd.M (Kd.int .u64) _ _ _ a0 [.int .u64 a0] from rfl) (Reps.none _ _))); intro v803 w3 ho4 hb hg_ hnew_; clear hg_ hnew_; (first | rw [← Ny802.out] at ho4 | (simp only [Int.reduceToNat] at ho4; rw [← Ny802.out] at ho4)); have n0_ := Aside0.mk (Kd.R_lower ho4 (below_size (dn_ HB))); have n1_ := Aside0.mk (below_step (dn_ HB) hb); clear HB; have HO804 := n0_; have HB := n1_; clear n0_ n1_; clear hb ho4; obtain ⟨Ao5, co5, eo5⟩ := Kd.R_slice HO804.out; subst eo5) | ((with_reducible refine gate_callee (f := 19) rfl ?_); refine goesL_ (some 5) rfl rfl Try.func19 (by kernel_rfl) rfl #[.slice Ao5 y802.length co5] rfl ar_ ?_; (with_reducible refine (vernierref01_Of.calls k _ _ y802 t805 _ ?side1 ?side2 A2.out).mono ?_); (case side1 => exact cs_ (Kd.R_reads' HO804.out).2.2); (case side2 => exact (Kd.R_reads' HO804.out).2.1); rintro e w6 ⟨v806, rfl, ho0, hb⟩; refine ⟨_, rfl, ?_⟩; have n0_ := Aside0.mk (Kd.R_below (up_ HO804) hb); have n1_ := Aside0.mk (Kd.R_lower ho0 (below_size (dn_ HB))); have n2_ := Aside0.mk (below_step (dn_ HB) hb); clear HO804; clear HB; have HO804 := n0_; have HO807 := n1_; have HB := n2_; clear n0_ n1_ n2_; (try clear hb); (try clear hk); (try clear ho0)))
  go_ret
  exact ⟨_, er_, by (with_reducible repeat (first | apply Kd.R_alloc | apply Kd.R_drewN | apply Kd.R_drew)); exact HO807.out, dn_ HB⟩
end Go.Proofs.Ytjbpchebabhoeaa.P
end
section
set_option linter.unusedVariables false
set_option linter.unusedSimpArgs false
namespace Go.Proofs.Ytjbpchebabhoeaa.Rf
open Go.RowKit Go.Proofs.Ytjbpchebabhoeaa.P Go.Proofs.Ytjbpchebabhoeaa.X Go.Proofs.Ytjbpchebabhoeaa.Bt Go.Proofs.Ytjbpchebabhoeaa.Dg Go.Proofs.YtjbpchebabhoeaaW.PrintWords
theorem Of_inner (l : List Int) (i : Nat) (hi : i < l.length) (V K : Nat) (res : List Int)
    (H : ∀ out : List Int, W16 out → out.length = 4 * i + 4 → val 65536 out = V → ∀ k, K < k → vernierref01_Of.l0 k l out ((i : Int) + 1) = some res) (hl : 4 * l.length ≤ 17592186044416) (d : Nat) :
    ∀ (j X : Nat) (out : List Int) (k : Nat), j + d = 4 → X < 65536 ^ d → W16 out → out.length = 4 * i + j → val 65536 out + 65536 ^ out.length * X = V → K + d + 1 < k →
      vernierref01_Of.l1 k l out i X j = some res := by
  induction d with
  | zero =>
    intro j X out k hj hX hw hlen hv hk
    obtain ⟨k, rfl⟩ : ∃ m, k = m + 1 := ⟨k - 1, by omega⟩
    simp only [vernierref01_Of.l1]
    rw [Nat.pow_zero] at hX
    obtain rfl : X = 0 := by omega
    rw [if_neg (by omega), w64 (by omega) (by omega)]
    exact H out hw (by omega) (by omega) k (by omega)
  | succ d ih =>
    intro j X out k hj hX hw hlen hv hk
    obtain ⟨k, rfl⟩ : ∃ m, k = m + 1 := ⟨k - 1, by omega⟩
    simp only [vernierref01_Of.l1]
    have hX64 : X < 65536 ^ 4 := Nat.lt_of_lt_of_le hX (Nat.pow_le_pow_right (by omega) (by omega))
    have h1 : Int.tmod (X : Int) 65536 = ((X % 65536 : Nat) : Int) := by rw [tmod_dig (by omega)]; omega
    have h2 : Int.tdiv (X : Int) 65536 = ((X / 65536 : Nat) : Int) := by rw [tdiv_dig (by omega)]; omega
    rw [if_pos (by omega), if_pos (by omega), h1, h2, w64 (by omega) (by omega), u64_in (by omega) (by omega), w64 (by omega) (by omega)]
    refine ih (j + 1) (X / 65536) _ k (by omega) ?_ (snoc_wf hw (by omega) (by omega)) ?_ ?_ (by omega)
    · rw [Nat.div_lt_iff_lt_mul (by omega)]; rw [Nat.pow_succ] at hX; exact hX
    · rw [List.length_append]; simp only [List.length_singleton]; omega
    · rw [val_snoc, List.length_append, ← hv]
      simp only [List.length_singleton]
      rw [Nat.pow_succ, Int.toNat_natCast, Nat.mul_assoc, Nat.add_assoc, ← Nat.mul_add]
      congr 2
      omega
theorem Of_loop {l : List Int} (h : Wf 18446744073709551616 l) (hl : 4 * l.length ≤ 17592186044416) (d : Nat) : ∀ (i : Nat) (out : List Int) (k : Nat), i + d = l.length → 8 * d + 4 * l.length + 5 < k → W16 out → out.length = 4 * i →
    val 65536 out + 65536 ^ (4 * i) * val 18446744073709551616 (l.drop i) = val 18446744073709551616 l → vernierref01_Of.l0 k l out i = some (D (val 18446744073709551616 l)) := by
  induction d with
  | zero =>
    intro i out k hi hk hw hlen hv
    obtain ⟨k, rfl⟩ : ∃ m, k = m + 1 := ⟨k - 1, by omega⟩
    simp only [vernierref01_Of.l0]
    rw [if_neg (by omega), cut_f hw (by omega) (by omega)]
    rw [List.drop_of_length_le (by omega), val_nil, Nat.mul_zero, Nat.add_zero] at hv
    rw [hv]; rfl
  | succ d ih =>
    intro i out k hi hk hw hlen hv
    obtain ⟨k, rfl⟩ : ∃ m, k = m + 1 := ⟨k - 1, by omega⟩
    simp only [vernierref01_Of.l0]
    have hx := h.getD (by omega) i
    obtain ⟨X, hX⟩ := Int.eq_ofNat_of_zero_le hx.1
    have hdrop : l.drop i = l.getD i 0 :: l.drop (i + 1) := by
      rw [List.drop_eq_getElem_cons (by omega), List.getD_eq_getElem?_getD, List.getElem?_eq_getElem (by omega)]; rfl
    rw [hdrop, val_cons, hX, Int.toNat_natCast] at hv
    rw [if_pos (by omega), if_pos (by omega), rd_nat, hX]
    refine Of_inner l i (by omega) (val 65536 out + 65536 ^ (4 * i) * X) (8 * d + 4 * l.length + 5) _ ?_ hl 4 0 X out k (by omega) (by rw [hX] at hx; omega) hw (by omega) (by rw [hlen]) (by omega)
    intro out2 hw2 hlen2 hv2 k2 hk2
    refine ih (i + 1) out2 k2 (by omega) hk2 hw2 (by omega) ?_
    rw [hv2, ← hv, show 4 * (i + 1) = 4 * i + 4 by omega, Nat.pow_add, Nat.mul_add, Nat.mul_assoc, Nat.add_assoc, show (65536 : Nat) ^ 4 = 18446744073709551616 from rfl]
theorem Of_f {l : List Int} (h : Wf 18446744073709551616 l) (hl : 4 * l.length ≤ 17592186044416) {k : Nat} (hk : 12 * l.length + 5 < k) : vernierref01_Of.f k l = some (D (val 18446744073709551616 l)) := by
  unfold vernierref01_Of.f
  exact Of_loop h hl l.length 0 [] k (by omega) (by omega) (Wf.nil _) rfl (by simp [val_nil])
theorem Word_f (n : Nat) (h : n < 18446744073709551616) {k : Nat} (hk : 50 ≤ k) : vernierref01_Word.f k (n : Int) = some (D n) := by
  unfold vernierref01_Word.f
  rw [Of_f (Wf.cons (by omega) (by omega) (Wf.nil _)) (by simp) (by simp; omega)]
  simp only [Option.bind_some, val_cons, val_nil, Int.toNat_natCast, Nat.mul_zero, Nat.add_zero]
end Go.Proofs.Ytjbpchebabhoeaa.Rf
end
section
set_option linter.unusedVariables false
set_option linter.unusedSimpArgs false
namespace Go.Proofs.Ytjbpchebabhoeaa.Nt
open Go.RowKit Go.Proofs.Ytjbpchebabhoeaa.P Go.Proofs.Ytjbpchebabhoeaa.X Go.Proofs.Ytjbpchebabhoeaa.Bt Go.Proofs.Ytjbpchebabhoeaa.Dg Go.Proofs.YtjbpchebabhoeaaW.PrintWords
set_option maxRecDepth 100000 in
theorem alive02T {k : Nat} (hk : 200 ≤ k) : vernierlaw02_alive.f k = some true := at_rounds vernierlaw02_alive.mono hk (by decide +kernel)
theorem w64_ofT {l : List Int} (h : ∀ x ∈ l, (Lit.int .u64 x).wf = true) : W64 l := by
  intro x hx
  have := h x hx
  have b : 0 ≤ x ∧ x ≤ 18446744073709551615 := by simpa [Lit.wf, IntKind.min, IntKind.max, IntKind.signed, IntKind.bits] using this
  omega
theorem D_of_V {l : List Int} (h : W64 l) : (Rf.D (V l)).length ≤ 4 * l.length := by
  apply digs_length_le (by omega)
  have := V_lt h
  rw [show (18446744073709551616 : Nat) = 65536 ^ 4 from rfl, ← Nat.pow_mul] at this
  exact this
theorem Same_L (n m : Nat) (fn : (L n).length ≤ 4611686018427387904) {k : Nat} (hk : (L n).length + 1 < k) (h : n = m) : vernierref01_Same.f k (L n) (digs Rf.B64 m) = some true := by
  subst h
  rw [Rf.Same_f _ _ fn hk]
  exact congrArg some (decide_eq_true rfl)
theorem pow_few {s m : Nat} (h : s < 64 * m) : 2 ^ s < 18446744073709551616 ^ m := by
  rw [show (18446744073709551616 : Nat) = 2 ^ 64 from rfl, ← Nat.pow_mul]
  exact Nat.pow_lt_pow_right (by omega) h
theorem wrap0 : wrap64 (((0 : Nat) : Int) + ((0 : Nat) : Int)) = 0 := by rw [w64 (by omega) (by omega)]; rfl
theorem tells_div {l0 l1 : List Int} (h0 : W64 l0) (h1 : W64 l1) (b0 : l0.length ≤ 1048576) (b1 : l1.length ≤ 1048576) {k : Nat} (hk : 100000000000 < k) : vernierlaw02_NatdivTells.j1 k l0 l1 (Rf.D (V l0)) (Rf.D (V l1)) = some true := by
  obtain ⟨k, rfl⟩ : ∃ m, k = m + 1 := ⟨k - 1, by omega⟩
  simp only [vernierlaw02_NatdivTells.j1]
  unfold natdiv_DivMod.f
  rw [if_pos ⟨h0, h1, by omega, by omega⟩, Option.bind_some]
  have d0 := D_of_V h0
  have d1 := D_of_V h1
  have v0 := V_lt h0
  by_cases hz : V l1 = 0
  · rw [if_pos hz, hz, Rf.D_zero]
    simp only [List.length_nil]
    rw [if_pos (show ((0 : Nat) : Int) = 0 from rfl), if_true, wrap0]
    rfl
  · rw [if_neg hz]
    have hne : (Rf.D (V l1)).length ≠ 0 := fun h => hz (Rf.D_len0.1 h)
    simp only
    rw [if_neg (by omega)]
    by_cases h60 : ((Rf.D (V l0)).length : Int) > 60
    · rw [if_pos h60]
      rfl
    · rw [if_neg h60, Rf.Div_f (V l0) (V l1) (by omega) 4194304 (by omega) (by omega) (by omega) (by omega), Option.bind_some, if_true]
      simp only
      have l0q : V l0 / V l1 ≤ V l0 := Nat.div_le_self _ _
      have l0r : V l0 % V l1 ≤ V l0 := Nat.mod_le _ _
      have q1 : (Rf.D (V l0 / V l1)).length ≤ (Rf.D (V l0)).length := digs_len_mono (by omega) l0q
      have q2 : (Rf.D (V l0 % V l1)).length ≤ (Rf.D (V l0)).length := digs_len_mono (by omega) l0r
      have q3 : (L (V l0 / V l1)).length ≤ l0.length := L_le (Nat.lt_of_le_of_lt l0q v0)
      have q4 : (L (V l0 % V l1)).length ≤ l0.length := L_le (Nat.lt_of_le_of_lt l0r v0)
      rw [Rf.Limbs_f _ (by omega) (by omega), Option.bind_some, Same_L _ _ (by omega) (by omega) rfl, Option.bind_some, if_pos rfl, Rf.Limbs_f _ (by omega) (by omega), Option.bind_some, Same_L _ _ (by omega) (by omega) rfl, Option.bind_some]
end Go.Proofs.Ytjbpchebabhoeaa.Nt
namespace Go.Proofs.Ytjbpchebabhoeaa.Pure
open Go.RowKit Go.Proofs.Ytjbpchebabhoeaa.P Go.Proofs.Ytjbpchebabhoeaa.X Go.Proofs.Ytjbpchebabhoeaa.Nt Go.Proofs.Ytjbpchebabhoeaa.Bt Go.Proofs.Ytjbpchebabhoeaa.Dg Go.Proofs.YtjbpchebabhoeaaW.PrintWords
theorem NatdivTells : vernierlaw02_NatdivTells.Pure := by
  intro l0 l1 n hm0 b0 hw0 hm1 b1 hw1 hn
  have h0 := w64_ofT hw0
  have h1 := w64_ofT hw1
  have v0 := V_lt h0
  have d0 := D_of_V h0
  refine ⟨1000000000000, ?_⟩
  unfold vernierlaw02_NatdivTells.f natdiv_Shl.f natdiv_Shr.f natdiv_odd.f
  rw [alive02T (by omega), Option.bind_some, if_pos rfl, Rf.Of_f h0 (by omega) (by omega), Option.bind_some, Rf.Of_f h1 (by omega) (by omega), Option.bind_some]
  have odd : ∀ b : Bool, b = true → vernierlaw02_NatdivTells.j0 1000000000000 l0 l1 n (Rf.D (V l0)) (Rf.D (V l1)) [] 4 [] 4 b = some true := by
    intro b hb
    subst hb
    simp only [vernierlaw02_NatdivTells.j0]
    have hw : ¬ (wrap64 ((([] : List Int).length : Int) + (([] : List Int).length : Int)) > 0) := by
      have := wrap0
      rw [List.length_nil, this]
      omega
    rw [if_true, if_true, if_true, if_neg hw]
    exact tells_div h0 h1 b0 b1 (by omega)
  by_cases hneg : n < 0
  · rw [if_pos hneg, Option.bind_some, if_pos rfl, Option.bind_some, Option.bind_some, if_pos rfl, Option.bind_some, if_pos hneg]
    exact odd _ rfl
  · rw [if_neg hneg, Option.bind_some]
    by_cases hbig : n > 65536
    · rw [decide_eq_true hbig, if_pos rfl, Option.bind_some, Option.bind_some, if_pos rfl, Option.bind_some, if_neg hneg]
      exact odd _ rfl
    · obtain ⟨s, rfl⟩ := Int.eq_ofNat_of_zero_le (show 0 ≤ n by omega)
      obtain ⟨c, hc⟩ : ∃ c : Nat, c = 1025 := ⟨_, rfl⟩
      have hs1025 : s < 64 * c := by omega
      have hup := shl_f h0 s (by omega) (by omega)
      have hdn := shr_f h0 s (by omega) (by omega) (k := 1000000000000) (by omega)
      rw [decide_eq_false hbig, if_neg (by decide), hup, Option.bind_some, Option.bind_some, Option.bind_some, if_neg (by decide), hdn, Option.bind_some, Option.bind_some, if_neg hneg]
      simp only [vernierlaw02_NatdivTells.j0]
      have e1 := Rf.Shl_f (V l0) s (by omega) (by omega) (k := 999999999999) (by omega)
      have e2 := Rf.Shr_f (V l0) s (by omega) (by omega) (k := 999999999999) (by omega)
      have q1 := Rf.len_shl (V l0) s
      have q2 : (Rf.D (V l0 / 2 ^ s)).length ≤ (Rf.D (V l0)).length := digs_len_mono (by omega) (Nat.div_le_self _ _)
      have q3 : (L (V l0 * 2 ^ s)).length ≤ l0.length + c := by
        apply L_le
        rw [Nat.pow_add]
        exact Nat.mul_lt_mul'' v0 (pow_few hs1025)
      have q4 : (L (V l0 / 2 ^ s)).length ≤ l0.length := L_le (Nat.lt_of_le_of_lt (Nat.div_le_self _ _) v0)
      rw [if_neg (by decide), if_true, if_true, e1, Option.bind_some, Rf.Limbs_f _ (by omega) (by omega), Option.bind_some, Same_L _ _ (by omega) (by omega) rfl, Option.bind_some, if_pos rfl, e2, Option.bind_some, Rf.Limbs_f _ (by omega) (by omega), Option.bind_some, Same_L _ _ (by omega) (by omega) rfl, Option.bind_some, if_pos rfl]
      exact tells_div h0 h1 b0 b1 (by omega)
end Go.Proofs.Ytjbpchebabhoeaa.Pure
end
section
set_option linter.unusedVariables false
set_option linter.unusedSimpArgs false
namespace Go.Proofs.Ytjbpchebabhoeaa.X
open Go.RowKit
theorem bulk_one {H : Type} (d : DataW H) : 1 ≤ Rows.uptoBulk d := by
  cases d with
  | lit l => cases l <;> simp [Rows.uptoBulk]
  | _ => simp [Rows.uptoBulk]
theorem bulk_len {H : Type} : ∀ l : List (DataW H), l.length ≤ Rows.uptoBulkAll l
  | [] => Nat.zero_le _
  | x :: r => by
    have h1 := bulk_one x
    have h2 := bulk_len r
    simp only [Rows.uptoBulkAll, List.length_cons]
    omega
theorem bulk_part {H : Type} {d : DataW H} : ∀ {l : List (DataW H)} {j : Nat}, l[j]? = some d → Rows.uptoBulk d ≤ Rows.uptoBulkAll l
  | x :: r, 0, h => by
    simp only [List.getElem?_cons_zero, Option.some.injEq] at h
    subst h
    simp only [Rows.uptoBulkAll]
    omega
  | x :: r, j + 1, h => by
    have := bulk_part (l := r) (j := j) (by simpa using h)
    simp only [Rows.uptoBulkAll]
    omega
theorem upto_small {H : Type} {l : List (DataW H)} (hk : Rows.uptoSmall H l = true) : Rows.uptoBulkAll l ≤ 1048576 := of_decide_eq_true hk
theorem upto_ints {H : Type} {enc : TypeId × Value → H} {P : Program} {W : World} {base : Nat} {spare : Nat → Bool} {held : Bool} {t e : TypeId} {k : IntKind} {a : Option Addr} {len cap : Nat} {d : DataW H} {ps : List MemPlace} {ds : List (DataW H)} {j : Nat}
    (hk : Rows.uptoSmall H ds = true) (hd : ds[j]? = some d) (hu : P.underlying t = some (.slice e)) (he : P.underlying e = some (.int k)) (hc : P.cellsOf e = 1)
    (h : DataW.Trod enc P W base spare held t (.slice a len cap) d ps) : len ≤ 1048576 := by
  have h0 := upto_small hk
  have h1 := bulk_part hd
  obtain ⟨fuel, hf⟩ := h
  rcases ChangeShapes.open_ints hu he hc hf with ⟨hcs, _⟩ | ⟨x, l, c, zs, hcs, _, hl, _, hz, hx, _, _⟩
  · simp [Value.cells] at hcs
    omega
  · simp [Value.cells] at hcs
    obtain ⟨rfl, rfl, rfl⟩ := hcs
    obtain ⟨hx, _⟩ := Prod.mk.inj hx
    subst hx
    have hl2 : len ≤ zs.length := by
      rw [hz]
      split
      · exact hl
      · exact Nat.le_refl _
    simp only [Rows.uptoBulk] at h1
    have h2 := bulk_len (H := H) (ChangeShapes.lits k (zs.take len))
    have h3 : (ChangeShapes.lits (H := H) k (zs.take len)).length = len := by
      simp [ChangeShapes.lits]
      omega
    omega
end Go.Proofs.Ytjbpchebabhoeaa.X
end
