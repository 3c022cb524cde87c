/- Part 2 of what the law NatdivTells rests on: printed walks of its functions, and plain laws of what they compute. For every input that their premises tell. -/
import Derived.Test.YtjbpchebabhoeaaBnNatdivTells0
import Derived.Test.YtjbpchebabhoeaaBnNatdivTells1
section
namespace Go.Proofs.Ytjbpchebabhoeaa.P
open Go.RowKit Go.Proofs.YtjbpchebabhoeaaW.PrintWords Go.Proofs.YtjbpchebabhoeaaW.PrintLast Go.Proofs.YtjbpchebabhoeaaW.PrintMore Go.Proofs.Ytjbpchebabhoeaa.X
attribute [local go_sem] max2_int min2_int max_two min_two max_three min_three max_four min_four
set_option linter.unusedVariables false
set_option linter.unusedSimpArgs false
mutual
def vernierref01_Limbs.l0 : Nat → List Int → List Int → Int → Option (List Int)
  | 0, _, _, _ => none
  | k + 1, x0, x3, x4 => if x4 < (x0.length : Int) then (vernierref01_Limbs.l1 k x0 x3 x4 0 3) else (some x3)
def vernierref01_Limbs.l1 : Nat → List Int → List Int → Int → Int → Int → Option (List Int)
  | 0, _, _, _, _, _ => none
  | k + 1, x0, x3, x4, x5, x6 => if x6 ≥ 0 then (if (wrap64 (x4 + x6)) < (x0.length : Int) then (if 0 ≤ (wrap64 (x4 + x6)) then (vernierref01_Limbs.l1 k x0 x3 x4 (IntKind.u64.wrap ((IntKind.u64.wrap (x5 * 65536)) + (IntKind.u64.wrap (rd x0 (wrap64 (x4 + x6)))))) (wrap64 (x6 - 1))) else (none)) else (vernierref01_Limbs.l1 k x0 x3 x4 (IntKind.u64.wrap (x5 * 65536)) (wrap64 (x6 - 1)))) else (if x3.length < 17592186044416 then (vernierref01_Limbs.l0 k x0 (x3 ++ [x5]) (wrap64 (x4 + 4))) else (none))
end
def vernierref01_Limbs.f (k : Nat) (l0 : List Int) : Option (List Int) := vernierref01_Limbs.l0 k l0 ([] : List Int) 0
theorem vernierref01_Limbs.mono_l : ∀ k, (∀ y0 y1 y2, LeO (vernierref01_Limbs.l0 k y0 y1 y2) (vernierref01_Limbs.l0 (k + 1) y0 y1 y2)) ∧ (∀ y0 y1 y2 y3 y4, LeO (vernierref01_Limbs.l1 k y0 y1 y2 y3 y4) (vernierref01_Limbs.l1 (k + 1) y0 y1 y2 y3 y4))
  | 0 => ⟨fun _ _ _ r h => by simp [vernierref01_Limbs.l0] at h, fun _ _ _ _ _ r h => by simp [vernierref01_Limbs.l1] at h⟩
  | k + 1 => by
    obtain ⟨ih0, ih1⟩ := vernierref01_Limbs.mono_l k
    refine ⟨?_, ?_⟩
    · intro y0 y1 y2
      unfold vernierref01_Limbs.l0
      repeat' first
      | (with_reducible exact ih0 _ _ _)
      | (with_reducible exact ih1 _ _ _ _ _)
      | (with_reducible exact LeO.refl _)
      | (with_reducible exact LeO.none _)
      | (with_reducible refine LeO.ite ?_ ?_)
      | (with_reducible refine LeO.bind ?_ (fun _ => ?_))
      | exact ih0 _ _ _
      | exact ih1 _ _ _ _ _
      | exact LeO.none _
      | refine LeO.ite ?_ ?_
      | refine LeO.bind ?_ (fun _ => ?_)
    · intro y0 y1 y2 y3 y4
      unfold vernierref01_Limbs.l1
      repeat' first
      | (with_reducible exact ih0 _ _ _)
      | (with_reducible exact ih1 _ _ _ _ _)
      | (with_reducible exact LeO.refl _)
      | (with_reducible exact LeO.none _)
      | (with_reducible refine LeO.ite ?_ ?_)
      | (with_reducible refine LeO.bind ?_ (fun _ => ?_))
      | exact ih0 _ _ _
      | exact ih1 _ _ _ _ _
      | exact LeO.none _
      | refine LeO.ite ?_ ?_
      | refine LeO.bind ?_ (fun _ => ?_)
theorem vernierref01_Limbs.mono : ∀ a0 k, LeO (vernierref01_Limbs.f k a0) (vernierref01_Limbs.f (k + 1) a0) := by
  intro a0 k
  obtain ⟨ih0, ih1⟩ := vernierref01_Limbs.mono_l k
  unfold vernierref01_Limbs.f
  repeat' first
      | (with_reducible exact ih0 _ _ _)
      | (with_reducible exact ih1 _ _ _ _ _)
      | (with_reducible exact LeO.refl _)
      | (with_reducible exact LeO.none _)
      | (with_reducible refine LeO.ite ?_ ?_)
      | (with_reducible refine LeO.bind ?_ (fun _ => ?_))
      | exact ih0 _ _ _
      | exact ih1 _ _ _ _ _
      | exact LeO.none _
      | refine LeO.ite ?_ ?_
      | refine LeO.bind ?_ (fun _ => ?_)
set_option maxHeartbeats 8000000 in
set_option maxRecDepth 100000 in
theorem vernierref01_Limbs.calls (k : Nat) (A0 : Option Addr) (c0 : Nat) (l0 : List Int) (r : List Int) (w : World) (hr0 : Kd.C (Kd.int .i64) w A0 l0.length l0) (hc0 : l0.length ≤ c0) (h : vernierref01_Limbs.f k l0 = some r) :
    Calls Try.prog 22 #[.slice A0 l0.length c0] w fun e w' => ∃ v0_ : Value, e = .returned (v0_) ∧ Kd.R (Kd.int .u64) 55 w' w.heap.size (fun _ => True) v0_ r ∧ Below w.heap.size w w' := by
  have HR0 := Aside0.mk hr0
  have HC0 := Aside0.mk hc0
  clear hr0 hc0
  have HB := Aside0.mk (Below.refl w.heap.size w)
  have H : (vernierref01_Limbs.l0 k l0 ([] : List Int) 0) = some r := h
  clear h
  have H' := Aside0.mk H
  clear H
  go_enter Try.func22, Try.ntmps22
  go_wp2
  go_loopg [3, 4] k (fun kq v3 v4 w' => ∃ (x3_1 : List Int) (x4_1 : Int), v4 = .int .i64 x4_1 ∧ Aside0 (vernierref01_Limbs.l0 kq l0 x3_1 x4_1 = some r) ∧ Aside0 (kq ≤ k) ∧ Aside0 (Kd.R (Kd.int .u64) 55 w' w.heap.size (fun _ => True) v3 x3_1) ∧ Aside0 (Below w.heap.size w w'))
  case atStart => exact ⟨(([] : List Int)), (0), (by first | rfl | (simp; done) | (simp [*]; done)), H', ⟨Nat.le_refl _⟩, ⟨by first | exact Kd.R_nil _ _ _ _ _ | exact Kd.N_nil _ _ _ _ _ | exact Kd.V_nil _ _ _ _ _ | exact Kd.Q_nil _ _ _ _ _ | exact Kd.S_nil _ _ _ _ _⟩, ⟨dn_ HB⟩⟩
  case round =>
    clear H'
    obtain ⟨x3_1, x4_1, rfl, HA, HK1, HO_3, HB⟩ := hrel
    cases gk with
    | zero => exact absurd HA.out (by simp [vernierref01_Limbs.l0])
    | succ k1 =>
      have H := HA.out
      clear HA
      simp only [vernierref01_Limbs.l0] at H
      by_cases c2 : x4_1 < (l0.length : Int)
      · rw [if_pos c2] at H
        have c2b0 : decide (x4_1 < (l0.length : Int)) = true := decide_eq_true c2
        clear c2
        have H' := Aside0.mk H
        clear H
        go_wp2
        go_loopg [5, 6] k1 (fun kq v5 v6 w' => ∃ (x5_2 : Int) (x6_2 : Int), v5 = .int .u64 x5_2 ∧ v6 = .int .i64 x6_2 ∧ Aside0 (vernierref01_Limbs.l1 kq l0 x3_1 x4_1 x5_2 x6_2 = some r) ∧ Aside0 (kq ≤ k1) ∧ Aside0 (Kd.R (Kd.int .u64) 55 w' w.heap.size (fun _ => True) u3 x3_1) ∧ Aside0 (Below w.heap.size w w'))
        case atStart => exact ⟨(0), (3), (by first | rfl | (simp; done) | (simp [*]; done)), (by first | rfl | (simp; done) | (simp [*]; done)), H', ⟨Nat.le_refl _⟩, ⟨by (with_reducible repeat (first | apply Kd.R_alloc | apply Kd.R_drewN | apply Kd.R_drew)); exact HO_3.out⟩, ⟨dn_ HB⟩⟩
        case round =>
          clear H'
          try clear c2
          try clear c2b0
          try clear p2
          obtain ⟨x5_2, x6_2, rfl, rfl, HA, HK2, HO_3, HB⟩ := hrel
          cases gk with
          | zero => exact absurd HA.out (by simp [vernierref01_Limbs.l1])
          | succ k2 =>
            have H := HA.out
            clear HA
            simp only [vernierref01_Limbs.l1] at H
            by_cases c3 : x6_2 ≥ 0
            · rw [if_pos c3] at H
              have c3b0 : decide (0 ≤ x6_2) = true := decide_eq_true c3
              clear c3
              by_cases c4 : (wrap64 (x4_1 + x6_2)) < (l0.length : Int)
              · rw [if_pos c4] at H
                have c4b0 : decide ((wrap64 (x4_1 + x6_2)) < (l0.length : Int)) = true := decide_eq_true c4
                clear c4
                obtain ⟨ji5, hji5⟩ : ∃ j_ : Int, (wrap64 (x4_1 + x6_2)) = j_ := ⟨_, rfl⟩
                replace H : (if 0 ≤ (ji5) then (vernierref01_Limbs.l1 k2 l0 x3_1 x4_1 (IntKind.u64.wrap ((IntKind.u64.wrap (x5_2 * 65536)) + (IntKind.u64.wrap (rd l0 (ji5))))) (wrap64 (x6_2 - 1))) else (none)) = some r := by first | (rw [hji5] at H; exact H) | (simp only [hji5] at H ⊢; exact H)
                (try rw [hji5] at c4b0)
                have hji5w : (IntKind.i64.wrap (x4_1 + x6_2)) = ji5 := (i64_w _).trans hji5
                by_cases c6 : 0 ≤ (ji5)
                · rw [if_pos c6] at H
                  have c6b0 : decide (0 ≤ (ji5)) = true := decide_eq_true c6
                  clear c6
                  have H' := Aside0.mk H
                  clear H
                  have p269 : 0 ≤ ((ji5) : Int) := of_decide_eq_true as_
                  have q269 : (ji5) < (l0.length : Int) := of_decide_eq_true as_
                  obtain ⟨ad269, e269, hx269_0⟩ := Kd.at_int HR0.out (ji5) p269 q269
                  cases e269
                  replace hx269_0 := (HB.out.cell (World.block_lt_of_cell? w _ hx269_0)).trans hx269_0
                  replace p269 := eq_true p269
                  replace q269 := eq_true q269
                  (try (have q269n := q269; simp only [Int.ofNat_lt] at q269n))
                  (try (have q269d := q269; simp only [List.length_drop] at q269d))
                  go_wp2
                  go_roundg k2
                  case measure => have := HK1.out; have := HK2.out; omega
                  case rel => exact ⟨(IntKind.u64.wrap ((IntKind.u64.wrap (x5_2 * 65536)) + (IntKind.u64.wrap (rd l0 (ji5))))), (wrap64 (x6_2 - 1)), (by first | rfl | (simp; done) | (simp only [← hji5] <;> (first | rfl | simp)) | (simp [*]; done)), (by first | rfl | (simp; done) | (simp [*]; done)), H', ⟨by have := HK1.out; have := HK2.out; omega⟩, ⟨by (with_reducible repeat (first | apply Kd.R_alloc | apply Kd.R_drewN | apply Kd.R_drew)); exact HO_3.out⟩, ⟨dn_ HB⟩⟩
                · rw [if_neg c6] at H
                  exact absurd H (by simp)
              · rw [if_neg c4] at H
                have c4b0 : decide ((wrap64 (x4_1 + x6_2)) < (l0.length : Int)) = false := decide_eq_false c4
                clear c4
                have H' := Aside0.mk H
                clear H
                go_wp2
                go_roundg k2
                case measure => have := HK1.out; have := HK2.out; omega
                case rel => exact ⟨(IntKind.u64.wrap (x5_2 * 65536)), (wrap64 (x6_2 - 1)), (by first | rfl | (simp; done) | (simp [*]; done)), (by first | rfl | (simp; done) | (simp [*]; done)), H', ⟨by have := HK1.out; have := HK2.out; omega⟩, ⟨by (with_reducible repeat (first | apply Kd.R_alloc | apply Kd.R_drewN | apply Kd.R_drew)); exact HO_3.out⟩, ⟨dn_ HB⟩⟩
            · rw [if_neg c3] at H
              have c3b0 : decide (0 ≤ x6_2) = false := decide_eq_false c3
              clear c3
              by_cases c7 : x3_1.length < 17592186044416
              · rw [if_pos c7] at H
                have LMc7 := Aside0.mk c7
                clear c7
                obtain ⟨y270, hy270⟩ : ∃ y_ : List Int, y_ = (x3_1 ++ [x5_2]) := ⟨_, rfl⟩
                replace H : (vernierref01_Limbs.l0 k2 l0 y270 (wrap64 (x4_1 + 4))) = some r := by first | (rw [hy270]; with_reducible exact H) | (have H2_ := (Option.bind_some _ _).symm.trans H; rw [hy270]; with_reducible exact H2_) | (have H2_ := (Option.bind_some _ _).symm.trans H; with_reducible exact H2_) | with_reducible exact H | (rw [hy270]; exact H) | exact H
                have Ny270 := Aside0.mk hy270
                clear hy270
                have H' := Aside0.mk H
                clear H
                go_wp2_with (first | ((with_reducible refine gate_builtin (b := .append) (xs := #[.tmp 34, .tmp 36]) rfl ?_); at_builtin; refine Kd.R_append (Kd.int .u64) (w0 := w) w.heap.size rfl (.tmp 34) (.tmp 36) 22 55 (.int .u64 0) 8 rfl Try.underlying22 info55 rfl (by decide) (by omega) u3 x3_1 x5_2 [.int .u64 x5_2] (fun _ => True) (fun _ => False) rfl rfl ?aP (fun _ hk => hk.elim) ?aF ?aO ?aB ?aS ?aL ?_; (case aP => exact rfl); (case aB => exact (dn_ HB)); (case aF => exact (fun _ _ => trivial)); (case aO => exact (up_ HO_3)); (case aS => exact (below_size (dn_ HB))); (case aL => have := LMc7.out; omega); intro v271 w8 ho hb hg hat; rw [← Ny270.out] at ho; have n0_ := Aside0.mk (hb); have n1_ := Aside0.mk (ho); clear HB; clear HO_3; have HB := n0_; have HO272 := n1_; clear n0_ n1_; clear ho hb hg hat))
                go_roundg k2
                case measure => have := HK1.out; have := HK2.out; omega
                case rel => exact ⟨(y270), (wrap64 (x4_1 + 4)), (by first | rfl | (simp; done) | (simp [*]; done)), H', ⟨by have := HK1.out; have := HK2.out; omega⟩, ⟨by (with_reducible repeat (first | apply Kd.R_alloc | apply Kd.R_drewN | apply Kd.R_drew)); exact HO272.out⟩, ⟨dn_ HB⟩⟩
              · rw [if_neg c7] at H
                exact absurd H (by simp)
      · rw [if_neg c2] at H
        have c2b0 : decide (x4_1 < (l0.length : Int)) = false := decide_eq_false c2
        clear c2
        obtain rfl := Option.some.inj H
        go_wp2
        go_ret
        exact ⟨_, er_, by (with_reducible repeat (first | apply Kd.R_alloc | apply Kd.R_drewN | apply Kd.R_drew)); exact HO_3.out, dn_ HB⟩
mutual
def vernierref01_Mul.l0 : Nat → List Int → List Int → List Int → Int → Option (List Int)
  | 0, _, _, _, _ => none
  | k + 1, x0, x1, x5, x6 => if x6 < (x0.length : Int) then (vernierref01_Mul.l1 k x0 x1 x5 x6 0 0) else ((vernierref01_cut.f k x5).bind fun t276 => (some t276))
def vernierref01_Mul.l1 : Nat → List Int → List Int → List Int → Int → Int → Int → Option (List Int)
  | 0, _, _, _, _, _, _ => none
  | k + 1, x0, x1, x5, x6, x7, x8 => if x8 < (x1.length : Int) then (vernierref01_Mul.j2 k x0 x1 x5 x6 x7 x8 true) else (vernierref01_Mul.j2 k x0 x1 x5 x6 x7 x8 (decide (x7 > 0)))
def vernierref01_Mul.j2 : Nat → List Int → List Int → List Int → Int → Int → Int → Bool → Option (List Int)
  | 0, _, _, _, _, _, _, _ => none
  | k + 1, x0, x1, x5, x6, x7, x8, x29 => if x29 = true then (if 0 ≤ (wrap64 (x6 + x8)) then (if (wrap64 (x6 + x8)) < (x5.length : Int) then (if x8 < (x1.length : Int) then (if 0 ≤ x6 then (if x6 < (x0.length : Int) then (if 0 ≤ x8 then (vernierref01_Mul.l1 k x0 x1 (x5.set ((wrap64 (x6 + x8)) : Int).toNat (Int.tmod (wrap64 ((wrap64 (x7 + (rd x5 (wrap64 (x6 + x8))))) + (wrap64 ((rd x0 x6) * (rd x1 x8))))) 65536)) x6 (wrap64 (Int.tdiv (wrap64 ((wrap64 (x7 + (rd x5 (wrap64 (x6 + x8))))) + (wrap64 ((rd x0 x6) * (rd x1 x8))))) 65536)) (wrap64 (x8 + 1))) else (none)) else (none)) else (none)) else (vernierref01_Mul.l1 k x0 x1 (x5.set ((wrap64 (x6 + x8)) : Int).toNat (Int.tmod (wrap64 (x7 + (rd x5 (wrap64 (x6 + x8))))) 65536)) x6 (wrap64 (Int.tdiv (wrap64 (x7 + (rd x5 (wrap64 (x6 + x8))))) 65536)) (wrap64 (x8 + 1)))) else (none)) else (none)) else (vernierref01_Mul.l0 k x0 x1 x5 (wrap64 (x6 + 1)))
end
def vernierref01_Mul.f (k : Nat) (l0 : List Int) (l1 : List Int) : Option (List Int) := if 0 ≤ (wrap64 ((wrap64 ((l0.length : Int) + (l1.length : Int))) + 1)) then (if (wrap64 ((wrap64 ((l0.length : Int) + (l1.length : Int))) + 1) : Int).toNat ≤ 35184372088832 then (vernierref01_Mul.l0 k l0 l1 (List.replicate (wrap64 ((wrap64 ((l0.length : Int) + (l1.length : Int))) + 1) : Int).toNat 0) 0) else (none)) else (none)
theorem vernierref01_Mul.mono_l : ∀ k, (∀ y0 y1 y2 y3, LeO (vernierref01_Mul.l0 k y0 y1 y2 y3) (vernierref01_Mul.l0 (k + 1) y0 y1 y2 y3)) ∧ (∀ y0 y1 y2 y3 y4 y5, LeO (vernierref01_Mul.l1 k y0 y1 y2 y3 y4 y5) (vernierref01_Mul.l1 (k + 1) y0 y1 y2 y3 y4 y5)) ∧ (∀ y0 y1 y2 y3 y4 y5 y6, LeO (vernierref01_Mul.j2 k y0 y1 y2 y3 y4 y5 y6) (vernierref01_Mul.j2 (k + 1) y0 y1 y2 y3 y4 y5 y6))
  | 0 => ⟨fun _ _ _ _ r h => by simp [vernierref01_Mul.l0] at h, fun _ _ _ _ _ _ r h => by simp [vernierref01_Mul.l1] at h, fun _ _ _ _ _ _ _ r h => by simp [vernierref01_Mul.j2] at h⟩
  | k + 1 => by
    obtain ⟨ih0, ih1, ih2⟩ := vernierref01_Mul.mono_l k
    refine ⟨?_, ?_, ?_⟩
    · intro y0 y1 y2 y3
      unfold vernierref01_Mul.l0
      repeat' first
      | (with_reducible exact ih0 _ _ _ _)
      | (with_reducible exact ih1 _ _ _ _ _ _)
      | (with_reducible exact ih2 _ _ _ _ _ _ _)
      | (with_reducible exact vernierref01_cut.mono _ _)
      | (with_reducible exact LeO.refl _)
      | (with_reducible exact LeO.none _)
      | (with_reducible refine LeO.ite ?_ ?_)
      | (with_reducible refine LeO.bind ?_ (fun _ => ?_))
      | exact ih0 _ _ _ _
      | exact ih1 _ _ _ _ _ _
      | exact ih2 _ _ _ _ _ _ _
      | exact vernierref01_cut.mono _ _
      | exact LeO.none _
      | refine LeO.ite ?_ ?_
      | refine LeO.bind ?_ (fun _ => ?_)
    · intro y0 y1 y2 y3 y4 y5
      unfold vernierref01_Mul.l1
      repeat' first
      | (with_reducible exact ih0 _ _ _ _)
      | (with_reducible exact ih1 _ _ _ _ _ _)
      | (with_reducible exact ih2 _ _ _ _ _ _ _)
      | (with_reducible exact vernierref01_cut.mono _ _)
      | (with_reducible exact LeO.refl _)
      | (with_reducible exact LeO.none _)
      | (with_reducible refine LeO.ite ?_ ?_)
      | (with_reducible refine LeO.bind ?_ (fun _ => ?_))
      | exact ih0 _ _ _ _
      | exact ih1 _ _ _ _ _ _
      | exact ih2 _ _ _ _ _ _ _
      | exact vernierref01_cut.mono _ _
      | exact LeO.none _
      | refine LeO.ite ?_ ?_
      | refine LeO.bind ?_ (fun _ => ?_)
    · intro y0 y1 y2 y3 y4 y5 y6
      unfold vernierref01_Mul.j2
      repeat' first
      | (with_reducible exact ih0 _ _ _ _)
      | (with_reducible exact ih1 _ _ _ _ _ _)
      | (with_reducible exact ih2 _ _ _ _ _ _ _)
      | (with_reducible exact vernierref01_cut.mono _ _)
      | (with_reducible exact LeO.refl _)
      | (with_reducible exact LeO.none _)
      | (with_reducible refine LeO.ite ?_ ?_)
      | (with_reducible refine LeO.bind ?_ (fun _ => ?_))
      | exact ih0 _ _ _ _
      | exact ih1 _ _ _ _ _ _
      | exact ih2 _ _ _ _ _ _ _
      | exact vernierref01_cut.mono _ _
      | exact LeO.none _
      | refine LeO.ite ?_ ?_
      | refine LeO.bind ?_ (fun _ => ?_)
theorem vernierref01_Mul.mono : ∀ a0 a1 k, LeO (vernierref01_Mul.f k a0 a1) (vernierref01_Mul.f (k + 1) a0 a1) := by
  intro a0 a1 k
  obtain ⟨ih0, ih1, ih2⟩ := vernierref01_Mul.mono_l k
  unfold vernierref01_Mul.f
  repeat' first
      | (with_reducible exact ih0 _ _ _ _)
      | (with_reducible exact ih1 _ _ _ _ _ _)
      | (with_reducible exact ih2 _ _ _ _ _ _ _)
      | (with_reducible exact vernierref01_cut.mono _ _)
      | (with_reducible exact LeO.refl _)
      | (with_reducible exact LeO.none _)
      | (with_reducible refine LeO.ite ?_ ?_)
      | (with_reducible refine LeO.bind ?_ (fun _ => ?_))
      | exact ih0 _ _ _ _
      | exact ih1 _ _ _ _ _ _
      | exact ih2 _ _ _ _ _ _ _
      | exact vernierref01_cut.mono _ _
      | exact LeO.none _
      | refine LeO.ite ?_ ?_
      | refine LeO.bind ?_ (fun _ => ?_)
set_option maxHeartbeats 8000000 in
set_option maxRecDepth 100000 in
theorem vernierref01_Mul.calls (k : Nat) (A0 : Option Addr) (c0 : Nat) (l0 : List Int) (A1 : Option Addr) (c1 : Nat) (l1 : List Int) (r : List Int) (w : World) (hr0 : Kd.C (Kd.int .i64) w A0 l0.length l0) (hc0 : l0.length ≤ c0) (hr1 : Kd.C (Kd.int .i64) w A1 l1.length l1) (hc1 : l1.length ≤ c1) (h : vernierref01_Mul.f k l0 l1 = some r) :
    Calls Try.prog 65 #[.slice A0 l0.length c0, .slice A1 l1.length c1] w fun e w' => ∃ v0_ : Value, e = .returned (v0_) ∧ Kd.R (Kd.int .i64) 3 w' w.heap.size (fun _ => True) v0_ r ∧ Below w.heap.size w w' := by
  have HR0 := Aside0.mk hr0
  have HC0 := Aside0.mk hc0
  clear hr0 hc0
  have HR1 := Aside0.mk hr1
  have HC1 := Aside0.mk hc1
  clear hr1 hc1
  have HB := Aside0.mk (Below.refl w.heap.size w)
  have H : (if 0 ≤ (wrap64 ((wrap64 ((l0.length : Int) + (l1.length : Int))) + 1)) then (if (wrap64 ((wrap64 ((l0.length : Int) + (l1.length : Int))) + 1) : Int).toNat ≤ 35184372088832 then (vernierref01_Mul.l0 k l0 l1 (List.replicate (wrap64 ((wrap64 ((l0.length : Int) + (l1.length : Int))) + 1) : Int).toNat 0) 0) else (none)) else (none)) = some r := h
  clear h
  obtain ⟨ji3, hji3⟩ : ∃ j_ : Int, (wrap64 ((wrap64 ((l0.length : Int) + (l1.length : Int))) + 1)) = j_ := ⟨_, rfl⟩
  replace H : (if 0 ≤ (ji3) then (if (ji3 : Int).toNat ≤ 35184372088832 then (vernierref01_Mul.l0 k l0 l1 (List.replicate (ji3 : Int).toNat 0) 0) else (none)) else (none)) = some r := by first | (rw [hji3] at H; exact H) | (simp only [hji3] at H ⊢; exact H)
  have hji3w : (IntKind.i64.wrap ((wrap64 ((l0.length : Int) + (l1.length : Int))) + 1)) = ji3 := (i64_w _).trans hji3
  by_cases c4 : 0 ≤ (ji3)
  · rw [if_pos c4] at H
    have c4b0 := eq_true c4
    have c4b1 : decide (0 ≤ (ji3)) = true := decide_eq_true c4
    clear c4
    by_cases c5 : (ji3 : Int).toNat ≤ 35184372088832
    · rw [if_pos c5] at H
      have c5b0 := eq_true c5
      have c5b1 : decide ((ji3 : Int).toNat ≤ 35184372088832) = true := decide_eq_true c5
      clear c5
      obtain ⟨y273, hy273⟩ : ∃ y_ : List Int, y_ = (List.replicate (ji3 : Int).toNat 0) := ⟨_, rfl⟩
      replace H : (vernierref01_Mul.l0 k l0 l1 y273 0) = some r := by first | (rw [hy273]; with_reducible exact H) | (have H2_ := (Option.bind_some _ _).symm.trans H; rw [hy273]; with_reducible exact H2_) | (have H2_ := (Option.bind_some _ _).symm.trans H; with_reducible exact H2_) | with_reducible exact H | (rw [hy273]; exact H) | exact H
      have Ny273 := Aside0.mk hy273
      clear hy273
      have H' := Aside0.mk H
      clear H
      go_enter Try.func65, Try.ntmps65
      go_wp2_with (first | ((with_reducible refine gate_dst (N := 15) rfl ?_); refine Kd.R_make (Kd.int .i64) _ 3 rfl (N := 15) rfl 33 _ _ rfl ji3 rfl rfl Try.underlying33 (.int .i64 0) 8 info3 rfl (by decide) (by omega) 0 (ok := fun _ => True) (okp := fun _ => True) rfl (fun _ hk => hk) trivial (of_decide_eq_true as_) (Nat.le_trans (Nat.mul_le_mul_right _ (of_decide_eq_true as_ : ji3.toNat ≤ 35184372088832)) (by omega)) (Below.refl _ _) (Nat.le_refl _) ?_; intro v274 w6 ho7 hb hg_ hnew_; clear hg_ hnew_; (first | rw [← Ny273.out] at ho7 | (simp only [Int.reduceToNat] at ho7; rw [← Ny273.out] at ho7)); have n0_ := Aside0.mk (Kd.R_lower ho7 (below_size (dn_ HB))); have n1_ := Aside0.mk (below_step (dn_ HB) hb); clear HB; have HO275 := n0_; have HB := n1_; clear n0_ n1_; clear hb ho7))
      repeat (go_quiet (first | ((with_reducible refine gate_dst (N := 15) rfl ?_); refine Kd.R_make (Kd.int .i64) _ 3 rfl (N := 15) rfl 33 _ _ rfl ji3 rfl rfl Try.underlying33 (.int .i64 0) 8 info3 rfl (by decide) (by omega) 0 (ok := fun _ => True) (okp := fun _ => True) rfl (fun _ hk => hk) trivial (of_decide_eq_true as_) (Nat.le_trans (Nat.mul_le_mul_right _ (of_decide_eq_true as_ : ji3.toNat ≤ 35184372088832)) (by omega)) (Below.refl _ _) (Nat.le_refl _) ?_; intro v274 w6 ho7 hb hg_ hnew_; clear hg_ hnew_; (first | rw [← Ny273.out] at ho7 | (simp only [Int.reduceToNat] at ho7; rw [← Ny273.out] at ho7)); have n0_ := Aside0.mk (Kd.R_lower ho7 (below_size (dn_ HB))); have n1_ := Aside0.mk (below_step (dn_ HB) hb); clear HB; have HO275 := n0_; have HB := n1_; clear n0_ n1_; clear hb ho7)); try go_wp2_with (first | ((with_reducible refine gate_dst (N := 15) rfl ?_); refine Kd.R_make (Kd.int .i64) _ 3 rfl (N := 15) rfl 33 _ _ rfl ji3 rfl rfl Try.underlying33 (.int .i64 0) 8 info3 rfl (by decide) (by omega) 0 (ok := fun _ => True) (okp := fun _ => True) rfl (fun _ hk => hk) trivial (of_decide_eq_true as_) (Nat.le_trans (Nat.mul_le_mul_right _ (of_decide_eq_true as_ : ji3.toNat ≤ 35184372088832)) (by omega)) (Below.refl _ _) (Nat.le_refl _) ?_; intro v274 w6 ho7 hb hg_ hnew_; clear hg_ hnew_; (first | rw [← Ny273.out] at ho7 | (simp only [Int.reduceToNat] at ho7; rw [← Ny273.out] at ho7)); have n0_ := Aside0.mk (Kd.R_lower ho7 (below_size (dn_ HB))); have n1_ := Aside0.mk (below_step (dn_ HB) hb); clear HB; have HO275 := n0_; have HB := n1_; clear n0_ n1_; clear hb ho7)))
      go_loopg [6] k (fun kq v6 w' => ∃ (x5_1 : List Int) (x6_1 : Int), v6 = .int .i64 x6_1 ∧ Aside0 (vernierref01_Mul.l0 kq l0 l1 x5_1 x6_1 = some r) ∧ Aside0 (kq ≤ k) ∧ Aside0 (Kd.R (Kd.int .i64) 3 w' w.heap.size (fun _ => True) v274 x5_1) ∧ Aside0 (Below w.heap.size w w'))
      case atStart => exact ⟨(y273), (0), (by first | rfl | (simp; done) | (simp [*]; done)), H', ⟨Nat.le_refl _⟩, ⟨by (with_reducible repeat (first | apply Kd.R_alloc | apply Kd.R_drewN | apply Kd.R_drew)); exact HO275.out⟩, ⟨dn_ HB⟩⟩
      case round =>
        clear H'
        try clear c1
        try clear p2
        try clear c4
        try clear c4b0
        try clear c4b1
        try clear c5
        try clear c5b0
        try clear c5b1
        try clear c6
        try clear p6
        obtain ⟨x5_1, x6_1, rfl, HA, HK1, HO_5, HB⟩ := hrel
        cases gk with
        | zero => exact absurd HA.out (by simp [vernierref01_Mul.l0])
        | succ k1 =>
          have H := HA.out
          clear HA
          simp only [vernierref01_Mul.l0] at H
          by_cases c8 : x6_1 < (l0.length : Int)
          · rw [if_pos c8] at H
            have c8b0 : decide (x6_1 < (l0.length : Int)) = true := decide_eq_true c8
            clear c8
            have H' := Aside0.mk H
            clear H
            go_wp2
            repeat (go_quiet (fail); try go_wp2)
            go_loopg [7, 8] k1 (fun kq v7 v8 w' => ∃ (x5_2 : List Int) (x7_2 : Int) (x8_2 : Int), v7 = .int .i64 x7_2 ∧ v8 = .int .i64 x8_2 ∧ Aside0 (vernierref01_Mul.l1 kq l0 l1 x5_2 x6_1 x7_2 x8_2 = some r) ∧ Aside0 (kq ≤ k1) ∧ Aside0 (Kd.R (Kd.int .i64) 3 w' w.heap.size (fun _ => True) v274 x5_2) ∧ Aside0 (Below w.heap.size w w'))
            case atStart => exact ⟨(x5_1), (0), (0), (by first | rfl | (simp; done) | (simp [*]; done)), (by first | rfl | (simp; done) | (simp [*]; done)), H', ⟨Nat.le_refl _⟩, ⟨by (with_reducible repeat (first | apply Kd.R_alloc | apply Kd.R_drewN | apply Kd.R_drew)); exact HO_5.out⟩, ⟨dn_ HB⟩⟩
            case round =>
              clear H'
              try clear c1
              try clear p2
              try clear c4
              try clear c4b0
              try clear c4b1
              try clear c5
              try clear c5b0
              try clear c5b1
              try clear c6
              try clear p6
              try clear c8
              try clear c8b0
              try clear p2
              try clear p6
              obtain ⟨x5_2, x7_2, x8_2, rfl, rfl, HA, HK2, HO_5, HB⟩ := hrel
              cases gk with
              | zero => exact absurd HA.out (by simp [vernierref01_Mul.l1])
              | succ k2 =>
                have H := HA.out
                clear HA
                simp only [vernierref01_Mul.l1] at H
                have HC9 := Aside0.mk H
                clear H
                go_upto_region 7 with (fail)
                repeat (go_quiet (fail); go_upto_region 7 with (fail))
                go_cut [29] (fun v29 wc => ∃ (kq : Nat) (x29_8 : Bool), v29 = .bool x29_8 ∧ Aside0 (vernierref01_Mul.j2 kq l0 l1 x5_2 x6_1 x7_2 x8_2 x29_8 = some r) ∧ Aside0 (kq ≤ k2) ∧ Aside0 (Kd.R (Kd.int .i64) 3 wc w.heap.size (fun _ => True) v274 x5_2) ∧ Aside0 (Below w.heap.size w wc))
                case first =>
                  have H := HC9.out
                  clear HC9
                  by_cases c10 : x8_2 < (l1.length : Int)
                  · rw [if_pos c10] at H
                    have c10b0 : decide (x8_2 < (l1.length : Int)) = true := decide_eq_true c10
                    clear c10
                    (first | rw [c10b0] | (simp only [i64_w, i32_w]; rw [c10b0]) | skip)
                    have H' := Aside0.mk H
                    clear H
                    go_wp2
                    repeat (go_quiet (fail); try go_wp2)
                    go_meet
                    case rel => exact ⟨_, (true), (by first | rfl | (simp; done) | (simp [*]; done)), H', ⟨by have := HK1.out; have := HK2.out; first | omega | exact Nat.le_refl _⟩, ⟨by (with_reducible repeat (first | apply Kd.R_alloc | apply Kd.R_drewN | apply Kd.R_drew)); exact HO_5.out⟩, ⟨dn_ HB⟩⟩
                  · rw [if_neg c10] at H
                    have c10b0 : decide (x8_2 < (l1.length : Int)) = false := decide_eq_false c10
                    clear c10
                    (first | rw [c10b0] | (simp only [i64_w, i32_w]; rw [c10b0]) | skip)
                    have H' := Aside0.mk H
                    clear H
                    go_wp2
                    repeat (go_quiet (fail); try go_wp2)
                    go_meet
                    case rel => exact ⟨_, (decide (x7_2 > 0)), (by first | rfl | (simp; done) | (simp [*]; done)), H', ⟨by have := HK1.out; have := HK2.out; first | omega | exact Nat.le_refl _⟩, ⟨by (with_reducible repeat (first | apply Kd.R_alloc | apply Kd.R_drewN | apply Kd.R_drew)); exact HO_5.out⟩, ⟨dn_ HB⟩⟩
                case rest =>
                  clear HC9
                  try clear c1
                  try clear p2
                  try clear c4
                  try clear c4b0
                  try clear c4b1
                  try clear c5
                  try clear c5b0
                  try clear c5b1
                  try clear c6
                  try clear p6
                  try clear c8
                  try clear c8b0
                  try clear c10
                  try clear c10b0
                  try clear p2
                  try clear p6
                  obtain ⟨kq, x29_8, rfl, HA, HJ8, HO_5, HB⟩ := hcut
                  cases kq with
                  | zero => exact absurd HA.out (by simp [vernierref01_Mul.j2])
                  | succ kj8 =>
                    have H := HA.out
                    clear HA
                    simp only [vernierref01_Mul.j2] at H
                    by_cases c11 : x29_8 = true
                    · subst c11
                      have H1 : (if 0 ≤ (wrap64 (x6_1 + x8_2)) then (if (wrap64 (x6_1 + x8_2)) < (x5_2.length : Int) then (if x8_2 < (l1.length : Int) then (if 0 ≤ x6_1 then (if x6_1 < (l0.length : Int) then (if 0 ≤ x8_2 then (vernierref01_Mul.l1 kj8 l0 l1 (x5_2.set ((wrap64 (x6_1 + x8_2)) : Int).toNat (Int.tmod (wrap64 ((wrap64 (x7_2 + (rd x5_2 (wrap64 (x6_1 + x8_2))))) + (wrap64 ((rd l0 x6_1) * (rd l1 x8_2))))) 65536)) x6_1 (wrap64 (Int.tdiv (wrap64 ((wrap64 (x7_2 + (rd x5_2 (wrap64 (x6_1 + x8_2))))) + (wrap64 ((rd l0 x6_1) * (rd l1 x8_2))))) 65536)) (wrap64 (x8_2 + 1))) else (none)) else (none)) else (none)) else (vernierref01_Mul.l1 kj8 l0 l1 (x5_2.set ((wrap64 (x6_1 + x8_2)) : Int).toNat (Int.tmod (wrap64 (x7_2 + (rd x5_2 (wrap64 (x6_1 + x8_2))))) 65536)) x6_1 (wrap64 (Int.tdiv (wrap64 (x7_2 + (rd x5_2 (wrap64 (x6_1 + x8_2))))) 65536)) (wrap64 (x8_2 + 1)))) else (none)) else (none)) = some r := by rw [if_pos rfl] at H; exact H
                      clear H
                      have H := H1
                      clear H1
                      obtain ⟨ji12, hji12⟩ : ∃ j_ : Int, (wrap64 (x6_1 + x8_2)) = j_ := ⟨_, rfl⟩
                      replace H : (if 0 ≤ (ji12) then (if (ji12) < (x5_2.length : Int) then (if x8_2 < (l1.length : Int) then (if 0 ≤ x6_1 then (if x6_1 < (l0.length : Int) then (if 0 ≤ x8_2 then (vernierref01_Mul.l1 kj8 l0 l1 (x5_2.set ((ji12) : Int).toNat (Int.tmod (wrap64 ((wrap64 (x7_2 + (rd x5_2 (ji12)))) + (wrap64 ((rd l0 x6_1) * (rd l1 x8_2))))) 65536)) x6_1 (wrap64 (Int.tdiv (wrap64 ((wrap64 (x7_2 + (rd x5_2 (ji12)))) + (wrap64 ((rd l0 x6_1) * (rd l1 x8_2))))) 65536)) (wrap64 (x8_2 + 1))) else (none)) else (none)) else (none)) else (vernierref01_Mul.l1 kj8 l0 l1 (x5_2.set ((ji12) : Int).toNat (Int.tmod (wrap64 (x7_2 + (rd x5_2 (ji12)))) 65536)) x6_1 (wrap64 (Int.tdiv (wrap64 (x7_2 + (rd x5_2 (ji12)))) 65536)) (wrap64 (x8_2 + 1)))) else (none)) else (none)) = some r := by first | (rw [hji12] at H; exact H) | (simp only [hji12] at H ⊢; exact H)
                      have hji12w : (IntKind.i64.wrap (x6_1 + x8_2)) = ji12 := (i64_w _).trans hji12
                      by_cases c13 : 0 ≤ (ji12)
                      · rw [if_pos c13] at H
                        have c13b0 : decide (0 ≤ (ji12)) = true := decide_eq_true c13
                        clear c13
                        by_cases c14 : (ji12) < (x5_2.length : Int)
                        · rw [if_pos c14] at H
                          have c14b0 : decide ((ji12) < (x5_2.length : Int)) = true := decide_eq_true c14
                          clear c14
                          by_cases c15 : x8_2 < (l1.length : Int)
                          · rw [if_pos c15] at H
                            have c15b0 : decide (x8_2 < (l1.length : Int)) = true := decide_eq_true c15
                            clear c15
                            by_cases c16 : 0 ≤ x6_1
                            · rw [if_pos c16] at H
                              have c16b0 : decide (0 ≤ x6_1) = true := decide_eq_true c16
                              clear c16
                              by_cases c17 : x6_1 < (l0.length : Int)
                              · rw [if_pos c17] at H
                                have c17b0 : decide (x6_1 < (l0.length : Int)) = true := decide_eq_true c17
                                clear c17
                                by_cases c18 : 0 ≤ x8_2
                                · rw [if_pos c18] at H
                                  have c18b0 : decide (0 ≤ x8_2) = true := decide_eq_true c18
                                  clear c18
                                  obtain ⟨y282, hy282⟩ : ∃ y_ : List Int, y_ = (x5_2.set ((ji12) : Int).toNat (Int.tmod (wrap64 ((wrap64 (x7_2 + (rd x5_2 (ji12)))) + (wrap64 ((rd l0 x6_1) * (rd l1 x8_2))))) 65536)) := ⟨_, rfl⟩
                                  replace H : (vernierref01_Mul.l1 kj8 l0 l1 y282 x6_1 (wrap64 (Int.tdiv (wrap64 ((wrap64 (x7_2 + (rd x5_2 (ji12)))) + (wrap64 ((rd l0 x6_1) * (rd l1 x8_2))))) 65536)) (wrap64 (x8_2 + 1))) = some r := by first | (rw [hy282]; with_reducible exact H) | (have H2_ := (Option.bind_some _ _).symm.trans H; rw [hy282]; with_reducible exact H2_) | (have H2_ := (Option.bind_some _ _).symm.trans H; with_reducible exact H2_) | with_reducible exact H | (rw [hy282]; exact H) | exact H
                                  have Ny282 := Aside0.mk hy282
                                  clear hy282
                                  have H' := Aside0.mk H
                                  clear H
                                  obtain ⟨Ao20, co20, eo20⟩ := Kd.R_slice HO_5.out
                                  subst eo20
                                  have p279 : 0 ≤ ((ji12) : Int) := of_decide_eq_true as_
                                  have q279 : (ji12) < (x5_2.length : Int) := of_decide_eq_true as_
                                  obtain ⟨ad279, e279, hx279_0⟩ := Kd.at_int (Kd.R_reads' HO_5.out).2.2 (ji12) p279 q279
                                  cases e279
                                  replace p279 := eq_true p279
                                  replace q279 := eq_true q279
                                  (try (have q279n := q279; simp only [Int.ofNat_lt] at q279n))
                                  (try (have q279d := q279; simp only [List.length_drop] at q279d))
                                  have p280 : 0 ≤ (x6_1 : Int) := of_decide_eq_true as_
                                  have q280 : x6_1 < (l0.length : Int) := of_decide_eq_true as_
                                  obtain ⟨ad280, e280, hx280_0⟩ := Kd.at_int HR0.out x6_1 p280 q280
                                  cases e280
                                  replace hx280_0 := (HB.out.cell (World.block_lt_of_cell? w _ hx280_0)).trans hx280_0
                                  replace p280 := eq_true p280
                                  replace q280 := eq_true q280
                                  (try (have q280n := q280; simp only [Int.ofNat_lt] at q280n))
                                  (try (have q280d := q280; simp only [List.length_drop] at q280d))
                                  have p281 : 0 ≤ (x8_2 : Int) := of_decide_eq_true as_
                                  have q281 : x8_2 < (l1.length : Int) := of_decide_eq_true as_
                                  obtain ⟨ad281, e281, hx281_0⟩ := Kd.at_int HR1.out x8_2 p281 q281
                                  cases e281
                                  replace hx281_0 := (HB.out.cell (World.block_lt_of_cell? w _ hx281_0)).trans hx281_0
                                  replace p281 := eq_true p281
                                  replace q281 := eq_true q281
                                  (try (have q281n := q281; simp only [Int.ofNat_lt] at q281n))
                                  (try (have q281d := q281; simp only [List.length_drop] at q281d))
                                  have p19 : 0 ≤ ((ji12) : Int) := of_decide_eq_true as_
                                  have q19 : ((ji12) : Int) < ((x5_2.length : Int) : Int) := of_decide_eq_true as_
                                  obtain ⟨go19, co19, eo19, gb19, gl19, cl19, HG19⟩ := Kd.R_form HO_5.out (by omega)
                                  (first | cases eo19 | (injection eo19 with ea_ en_ ec_; (first | subst ea_ | (injection ea_ with ea_; subst ea_)); subst ec_; clear en_))
                                  have GB19 := Aside0.mk gb19
                                  have GG19 := Aside0.mk HG19
                                  clear gb19 gl19 HG19
                                  (first | simp only [add_plain] at hx279_0 | skip)
                                  obtain ⟨hx19_0, hf19_0⟩ := Kd.R_celln 0 HO_5.out ((ji12) : Int) p19 q19
                                  (try simp only [Int.toNat_natCast] at hx19_0 hf19_0)
                                  replace p19 := eq_true p19
                                  replace q19 := eq_true q19
                                  (try (have q19n := q19; simp only [Int.ofNat_lt] at q19n))
                                  (try (have q19d := q19; simp only [List.length_drop] at q19d))
                                  have HP21 := Kd.R_putg HO_5.out ((ji12) : Int) (Int.tmod (wrap64 ((wrap64 (x7_2 + (rd x5_2 (ji12)))) + (wrap64 ((rd l0 x6_1) * (rd l1 x8_2))))) 65536)
                                  go_wp2_with (first | ((with_reducible refine gate_store (t := 3) (p := 61) rfl ?_); (try (rw [drewN_self wc]; generalize hq_ : World.drewN wc _ = wc; have n0_ := Aside0.mk (Kd.R_at hq_ HO_5.out); have n1_ := Aside0.mk (below_at hq_ HB.out); clear hq_ HO_5 HB; have HO_5 := n0_; have HB := n1_; clear n0_ n1_; (try (have HP21 := Kd.R_putg HO_5.out ((ji12) : Int) (Int.tmod (wrap64 ((wrap64 (x7_2 + (rd x5_2 (ji12)))) + (wrap64 ((rd l0 x6_1) * (rd l1 x8_2))))) 65536))); (try (obtain ⟨hxz_, hfz_⟩ := Kd.R_celln 0 HO_5.out ((ji12) : Int) (of_eq_true p19) (of_eq_true q19); (try simp only [Int.toNat_natCast] at hxz_ hfz_))))); refine store_event (t := 3) (p := 61) (v := ?vo_w22) (w1 := (wc.setCell ⟨go19, ((ji12) : Int).toNat, none⟩ (.int .i64 (Int.tmod (wrap64 ((wrap64 (x7_2 + (rd x5_2 (ji12)))) + (wrap64 ((rd l0 x6_1) * (rd l1 x8_2))))) 65536)))) ?hg ?ho ?hn ?hr ?_; (case ho => rfl); (case hg => rfl); (case hn => rfl); (case hr => first | (go_simp; done) | (go_simp; rfl)); intro w22 hw; have hg : wc.grownBy w22 (some go19) := (by rw [hw]; exact HP21.2); have hp_ : Kd.R (Kd.int .i64) 3 w22 w.heap.size (fun _ => True) (.slice (some ⟨go19, 0, none⟩) x5_2.length co20) y282 := (by rw [hw, Ny282.out]; exact HP21.1); clear HP21; have n0_ := Aside0.mk (hp_); have n1_ := Aside0.mk ((by rw [hw]; exact below_set (HB.out) GB19.out : Below w.heap.size w w22)); clear HO_5; clear HB; have HO_5 := n0_; have HB := n1_; clear n0_ n1_; clear hg hw hp_))
                                  repeat (go_quiet (first | ((with_reducible refine gate_store (t := 3) (p := 61) rfl ?_); (try (rw [drewN_self wc]; generalize hq_ : World.drewN wc _ = wc; have n0_ := Aside0.mk (Kd.R_at hq_ HO_5.out); have n1_ := Aside0.mk (below_at hq_ HB.out); clear hq_ HO_5 HB; have HO_5 := n0_; have HB := n1_; clear n0_ n1_; (try (have HP21 := Kd.R_putg HO_5.out ((ji12) : Int) (Int.tmod (wrap64 ((wrap64 (x7_2 + (rd x5_2 (ji12)))) + (wrap64 ((rd l0 x6_1) * (rd l1 x8_2))))) 65536))); (try (obtain ⟨hxz_, hfz_⟩ := Kd.R_celln 0 HO_5.out ((ji12) : Int) (of_eq_true p19) (of_eq_true q19); (try simp only [Int.toNat_natCast] at hxz_ hfz_))))); refine store_event (t := 3) (p := 61) (v := ?vo_w22) (w1 := (wc.setCell ⟨go19, ((ji12) : Int).toNat, none⟩ (.int .i64 (Int.tmod (wrap64 ((wrap64 (x7_2 + (rd x5_2 (ji12)))) + (wrap64 ((rd l0 x6_1) * (rd l1 x8_2))))) 65536)))) ?hg ?ho ?hn ?hr ?_; (case ho => rfl); (case hg => rfl); (case hn => rfl); (case hr => first | (go_simp; done) | (go_simp; rfl)); intro w22 hw; have hg : wc.grownBy w22 (some go19) := (by rw [hw]; exact HP21.2); have hp_ : Kd.R (Kd.int .i64) 3 w22 w.heap.size (fun _ => True) (.slice (some ⟨go19, 0, none⟩) x5_2.length co20) y282 := (by rw [hw, Ny282.out]; exact HP21.1); clear HP21; have n0_ := Aside0.mk (hp_); have n1_ := Aside0.mk ((by rw [hw]; exact below_set (HB.out) GB19.out : Below w.heap.size w w22)); clear HO_5; clear HB; have HO_5 := n0_; have HB := n1_; clear n0_ n1_; clear hg hw hp_)); try go_wp2_with (first | ((with_reducible refine gate_store (t := 3) (p := 61) rfl ?_); (try (rw [drewN_self wc]; generalize hq_ : World.drewN wc _ = wc; have n0_ := Aside0.mk (Kd.R_at hq_ HO_5.out); have n1_ := Aside0.mk (below_at hq_ HB.out); clear hq_ HO_5 HB; have HO_5 := n0_; have HB := n1_; clear n0_ n1_; (try (have HP21 := Kd.R_putg HO_5.out ((ji12) : Int) (Int.tmod (wrap64 ((wrap64 (x7_2 + (rd x5_2 (ji12)))) + (wrap64 ((rd l0 x6_1) * (rd l1 x8_2))))) 65536))); (try (obtain ⟨hxz_, hfz_⟩ := Kd.R_celln 0 HO_5.out ((ji12) : Int) (of_eq_true p19) (of_eq_true q19); (try simp only [Int.toNat_natCast] at hxz_ hfz_))))); refine store_event (t := 3) (p := 61) (v := ?vo_w22) (w1 := (wc.setCell ⟨go19, ((ji12) : Int).toNat, none⟩ (.int .i64 (Int.tmod (wrap64 ((wrap64 (x7_2 + (rd x5_2 (ji12)))) + (wrap64 ((rd l0 x6_1) * (rd l1 x8_2))))) 65536)))) ?hg ?ho ?hn ?hr ?_; (case ho => rfl); (case hg => rfl); (case hn => rfl); (case hr => first | (go_simp; done) | (go_simp; rfl)); intro w22 hw; have hg : wc.grownBy w22 (some go19) := (by rw [hw]; exact HP21.2); have hp_ : Kd.R (Kd.int .i64) 3 w22 w.heap.size (fun _ => True) (.slice (some ⟨go19, 0, none⟩) x5_2.length co20) y282 := (by rw [hw, Ny282.out]; exact HP21.1); clear HP21; have n0_ := Aside0.mk (hp_); have n1_ := Aside0.mk ((by rw [hw]; exact below_set (HB.out) GB19.out : Below w.heap.size w w22)); clear HO_5; clear HB; have HO_5 := n0_; have HB := n1_; clear n0_ n1_; clear hg hw hp_)))
                                  go_roundg kj8
                                  case measure => have := HK1.out; have := HK2.out; have := HJ8.out; omega
                                  case rel => exact ⟨(y282), (wrap64 (Int.tdiv (wrap64 ((wrap64 (x7_2 + (rd x5_2 (ji12)))) + (wrap64 ((rd l0 x6_1) * (rd l1 x8_2))))) 65536)), (wrap64 (x8_2 + 1)), (by first | rfl | (simp; done) | (simp only [← hji12] <;> (first | rfl | simp)) | (simp [*]; done)), (by first | rfl | (simp; done) | (simp [*]; done)), H', ⟨by have := HK1.out; have := HK2.out; have := HJ8.out; omega⟩, ⟨by (with_reducible repeat (first | apply Kd.R_alloc | apply Kd.R_drewN | apply Kd.R_drew)); exact HO_5.out⟩, ⟨dn_ HB⟩⟩
                                · rw [if_neg c18] at H
                                  exact absurd H (by simp)
                              · rw [if_neg c17] at H
                                exact absurd H (by simp)
                            · rw [if_neg c16] at H
                              exact absurd H (by simp)
                          · rw [if_neg c15] at H
                            have c15b0 : decide (x8_2 < (l1.length : Int)) = false := decide_eq_false c15
                            clear c15
                            obtain ⟨y283, hy283⟩ : ∃ y_ : List Int, y_ = (x5_2.set ((ji12) : Int).toNat (Int.tmod (wrap64 (x7_2 + (rd x5_2 (ji12)))) 65536)) := ⟨_, rfl⟩
                            replace H : (vernierref01_Mul.l1 kj8 l0 l1 y283 x6_1 (wrap64 (Int.tdiv (wrap64 (x7_2 + (rd x5_2 (ji12)))) 65536)) (wrap64 (x8_2 + 1))) = some r := by first | (rw [hy283]; with_reducible exact H) | (have H2_ := (Option.bind_some _ _).symm.trans H; rw [hy283]; with_reducible exact H2_) | (have H2_ := (Option.bind_some _ _).symm.trans H; with_reducible exact H2_) | with_reducible exact H | (rw [hy283]; exact H) | exact H
                            have Ny283 := Aside0.mk hy283
                            clear hy283
                            have H' := Aside0.mk H
                            clear H
                            obtain ⟨Ao24, co24, eo24⟩ := Kd.R_slice HO_5.out
                            subst eo24
                            have p279 : 0 ≤ ((ji12) : Int) := of_decide_eq_true as_
                            have q279 : (ji12) < (x5_2.length : Int) := of_decide_eq_true as_
                            obtain ⟨ad279, e279, hx279_0⟩ := Kd.at_int (Kd.R_reads' HO_5.out).2.2 (ji12) p279 q279
                            cases e279
                            replace p279 := eq_true p279
                            replace q279 := eq_true q279
                            (try (have q279n := q279; simp only [Int.ofNat_lt] at q279n))
                            (try (have q279d := q279; simp only [List.length_drop] at q279d))
                            have p23 : 0 ≤ ((ji12) : Int) := of_decide_eq_true as_
                            have q23 : ((ji12) : Int) < ((x5_2.length : Int) : Int) := of_decide_eq_true as_
                            obtain ⟨go23, co23, eo23, gb23, gl23, cl23, HG23⟩ := Kd.R_form HO_5.out (by omega)
                            (first | cases eo23 | (injection eo23 with ea_ en_ ec_; (first | subst ea_ | (injection ea_ with ea_; subst ea_)); subst ec_; clear en_))
                            have GB23 := Aside0.mk gb23
                            have GG23 := Aside0.mk HG23
                            clear gb23 gl23 HG23
                            (first | simp only [add_plain] at hx279_0 | skip)
                            obtain ⟨hx23_0, hf23_0⟩ := Kd.R_celln 0 HO_5.out ((ji12) : Int) p23 q23
                            (try simp only [Int.toNat_natCast] at hx23_0 hf23_0)
                            replace p23 := eq_true p23
                            replace q23 := eq_true q23
                            (try (have q23n := q23; simp only [Int.ofNat_lt] at q23n))
                            (try (have q23d := q23; simp only [List.length_drop] at q23d))
                            have HP25 := Kd.R_putg HO_5.out ((ji12) : Int) (Int.tmod (wrap64 (x7_2 + (rd x5_2 (ji12)))) 65536)
                            go_wp2_with (first | ((with_reducible refine gate_store (t := 3) (p := 61) rfl ?_); (try (rw [drewN_self wc]; generalize hq_ : World.drewN wc _ = wc; have n0_ := Aside0.mk (Kd.R_at hq_ HO_5.out); have n1_ := Aside0.mk (below_at hq_ HB.out); clear hq_ HO_5 HB; have HO_5 := n0_; have HB := n1_; clear n0_ n1_; (try (have HP25 := Kd.R_putg HO_5.out ((ji12) : Int) (Int.tmod (wrap64 (x7_2 + (rd x5_2 (ji12)))) 65536))); (try (obtain ⟨hxz_, hfz_⟩ := Kd.R_celln 0 HO_5.out ((ji12) : Int) (of_eq_true p23) (of_eq_true q23); (try simp only [Int.toNat_natCast] at hxz_ hfz_))))); refine store_event (t := 3) (p := 61) (v := ?vo_w26) (w1 := (wc.setCell ⟨go23, ((ji12) : Int).toNat, none⟩ (.int .i64 (Int.tmod (wrap64 (x7_2 + (rd x5_2 (ji12)))) 65536)))) ?hg ?ho ?hn ?hr ?_; (case ho => rfl); (case hg => rfl); (case hn => rfl); (case hr => first | (go_simp; done) | (go_simp; rfl)); intro w26 hw; have hg : wc.grownBy w26 (some go23) := (by rw [hw]; exact HP25.2); have hp_ : Kd.R (Kd.int .i64) 3 w26 w.heap.size (fun _ => True) (.slice (some ⟨go23, 0, none⟩) x5_2.length co24) y283 := (by rw [hw, Ny283.out]; exact HP25.1); clear HP25; have n0_ := Aside0.mk (hp_); have n1_ := Aside0.mk ((by rw [hw]; exact below_set (HB.out) GB23.out : Below w.heap.size w w26)); clear HO_5; clear HB; have HO_5 := n0_; have HB := n1_; clear n0_ n1_; clear hg hw hp_))
                            repeat (go_quiet (first | ((with_reducible refine gate_store (t := 3) (p := 61) rfl ?_); (try (rw [drewN_self wc]; generalize hq_ : World.drewN wc _ = wc; have n0_ := Aside0.mk (Kd.R_at hq_ HO_5.out); have n1_ := Aside0.mk (below_at hq_ HB.out); clear hq_ HO_5 HB; have HO_5 := n0_; have HB := n1_; clear n0_ n1_; (try (have HP25 := Kd.R_putg HO_5.out ((ji12) : Int) (Int.tmod (wrap64 (x7_2 + (rd x5_2 (ji12)))) 65536))); (try (obtain ⟨hxz_, hfz_⟩ := Kd.R_celln 0 HO_5.out ((ji12) : Int) (of_eq_true p23) (of_eq_true q23); (try simp only [Int.toNat_natCast] at hxz_ hfz_))))); refine store_event (t := 3) (p := 61) (v := ?vo_w26) (w1 := (wc.setCell ⟨go23, ((ji12) : Int).toNat, none⟩ (.int .i64 (Int.tmod (wrap64 (x7_2 + (rd x5_2 (ji12)))) 65536)))) ?hg ?ho ?hn ?hr ?_; (case ho => rfl); (case hg => rfl); (case hn => rfl); (case hr => first | (go_simp; done) | (go_simp; rfl)); intro w26 hw; have hg : wc.grownBy w26 (some go23) := (by rw [hw]; exact HP25.2); have hp_ : Kd.R (Kd.int .i64) 3 w26 w.heap.size (fun _ => True) (.slice (some ⟨go23, 0, none⟩) x5_2.length co24) y283 := (by rw [hw, Ny283.out]; exact HP25.1); clear HP25; have n0_ := Aside0.mk (hp_); have n1_ := Aside0.mk ((by rw [hw]; exact below_set (HB.out) GB23.out : Below w.heap.size w w26)); clear HO_5; clear HB; have HO_5 := n0_; have HB := n1_; clear n0_ n1_; clear hg hw hp_)); try go_wp2_with (first | ((with_reducible refine gate_store (t := 3) (p := 61) rfl ?_); (try (rw [drewN_self wc]; generalize hq_ : World.drewN wc _ = wc; have n0_ := Aside0.mk (Kd.R_at hq_ HO_5.out); have n1_ := Aside0.mk (below_at hq_ HB.out); clear hq_ HO_5 HB; have HO_5 := n0_; have HB := n1_; clear n0_ n1_; (try (have HP25 := Kd.R_putg HO_5.out ((ji12) : Int) (Int.tmod (wrap64 (x7_2 + (rd x5_2 (ji12)))) 65536))); (try (obtain ⟨hxz_, hfz_⟩ := Kd.R_celln 0 HO_5.out ((ji12) : Int) (of_eq_true p23) (of_eq_true q23); (try simp only [Int.toNat_natCast] at hxz_ hfz_))))); refine store_event (t := 3) (p := 61) (v := ?vo_w26) (w1 := (wc.setCell ⟨go23, ((ji12) : Int).toNat, none⟩ (.int .i64 (Int.tmod (wrap64 (x7_2 + (rd x5_2 (ji12)))) 65536)))) ?hg ?ho ?hn ?hr ?_; (case ho => rfl); (case hg => rfl); (case hn => rfl); (case hr => first | (go_simp; done) | (go_simp; rfl)); intro w26 hw; have hg : wc.grownBy w26 (some go23) := (by rw [hw]; exact HP25.2); have hp_ : Kd.R (Kd.int .i64) 3 w26 w.heap.size (fun _ => True) (.slice (some ⟨go23, 0, none⟩) x5_2.length co24) y283 := (by rw [hw, Ny283.out]; exact HP25.1); clear HP25; have n0_ := Aside0.mk (hp_); have n1_ := Aside0.mk ((by rw [hw]; exact below_set (HB.out) GB23.out : Below w.heap.size w w26)); clear HO_5; clear HB; have HO_5 := n0_; have HB := n1_; clear n0_ n1_; clear hg hw hp_)))
                            go_roundg kj8
                            case measure => have := HK1.out; have := HK2.out; have := HJ8.out; omega
                            case rel => exact ⟨(y283), (wrap64 (Int.tdiv (wrap64 (x7_2 + (rd x5_2 (ji12)))) 65536)), (wrap64 (x8_2 + 1)), (by first | rfl | (simp; done) | (simp only [← hji12] <;> (first | rfl | simp)) | (simp [*]; done)), (by first | rfl | (simp; done) | (simp [*]; done)), H', ⟨by have := HK1.out; have := HK2.out; have := HJ8.out; omega⟩, ⟨by (with_reducible repeat (first | apply Kd.R_alloc | apply Kd.R_drewN | apply Kd.R_drew)); exact HO_5.out⟩, ⟨dn_ HB⟩⟩
                        · rw [if_neg c14] at H
                          exact absurd H (by simp)
                      · rw [if_neg c13] at H
                        exact absurd H (by simp)
                    · replace c11 := Bool.eq_false_iff.mpr c11
                      subst c11
                      have H1 : (vernierref01_Mul.l0 kj8 l0 l1 x5_2 (wrap64 (x6_1 + 1))) = some r := by rw [if_neg (show ¬ (false = true) by decide)] at H; exact H
                      clear H
                      have H := H1
                      clear H1
                      have H' := Aside0.mk H
                      clear H
                      go_wp2
                      repeat (go_quiet (fail); try go_wp2)
                      go_roundg kj8
                      case measure => have := HK1.out; have := HK2.out; have := HJ8.out; omega
                      case rel => exact ⟨(x5_2), (wrap64 (x6_1 + 1)), (by first | rfl | (simp; done) | (simp [*]; done)), H', ⟨by have := HK1.out; have := HK2.out; have := HJ8.out; omega⟩, ⟨by (with_reducible repeat (first | apply Kd.R_alloc | apply Kd.R_drewN | apply Kd.R_drew)); exact HO_5.out⟩, ⟨dn_ HB⟩⟩
          · rw [if_neg c8] at H
            have c8b0 : decide (x6_1 < (l0.length : Int)) = false := decide_eq_false c8
            clear c8
            replace H := Option.bind_eq_some_iff.mp H
            obtain ⟨t276, A270, H⟩ := H
            replace H : (some t276) = some r := H
            have A27 := Aside0.mk A270
            clear A270
            obtain rfl := Option.some.inj H
            obtain ⟨Ao28, co28, eo28⟩ := Kd.R_slice HO_5.out
            subst eo28
            go_wp2_with (first | (go_at_call 63; (with_reducible refine (vernierref01_cut.calls k1 (fun k_ => some k_ = (.slice Ao28 x5_1.length co28 : Value).ownBlock) (.slice Ao28 x5_1.length co28) x5_1 t276 w _ ?side1 ?side2 A27.out).mono ?_); (case side1 => repeat (first | (with_reducible first | exact HB.out | apply below_alloc | apply pw_below_drewN | apply below_drew1) | exact HB.out)); (case side2 => exact Kd.R_tight rfl HO_5.out); rintro e w29 ⟨v277, rfl, ho0, hb, hkp⟩; have n0_ := Aside0.mk (Kd.R_mono (ok' := fun k_ => True) ho0 (fun k_ hk_ => trivial)); have n1_ := Aside0.mk (hb); clear HB; clear HO_5; have HO278 := n0_; have HB := n1_; clear n0_ n1_; (try clear hb); (try clear hkp); (try clear ho0)))
            repeat (go_quiet (first | (go_at_call 63; (with_reducible refine (vernierref01_cut.calls k1 (fun k_ => some k_ = (.slice Ao28 x5_1.length co28 : Value).ownBlock) (.slice Ao28 x5_1.length co28) x5_1 t276 w _ ?side1 ?side2 A27.out).mono ?_); (case side1 => repeat (first | (with_reducible first | exact HB.out | apply below_alloc | apply pw_below_drewN | apply below_drew1) | exact HB.out)); (case side2 => exact Kd.R_tight rfl HO_5.out); rintro e w29 ⟨v277, rfl, ho0, hb, hkp⟩; have n0_ := Aside0.mk (Kd.R_mono (ok' := fun k_ => True) ho0 (fun k_ hk_ => trivial)); have n1_ := Aside0.mk (hb); clear HB; clear HO_5; have HO278 := n0_; have HB := n1_; clear n0_ n1_; (try clear hb); (try clear hkp); (try clear ho0))); try go_wp2_with (first | (go_at_call 63; (with_reducible refine (vernierref01_cut.calls k1 (fun k_ => some k_ = (.slice Ao28 x5_1.length co28 : Value).ownBlock) (.slice Ao28 x5_1.length co28) x5_1 t276 w _ ?side1 ?side2 A27.out).mono ?_); (case side1 => repeat (first | (with_reducible first | exact HB.out | apply below_alloc | apply pw_below_drewN | apply below_drew1) | exact HB.out)); (case side2 => exact Kd.R_tight rfl HO_5.out); rintro e w29 ⟨v277, rfl, ho0, hb, hkp⟩; have n0_ := Aside0.mk (Kd.R_mono (ok' := fun k_ => True) ho0 (fun k_ hk_ => trivial)); have n1_ := Aside0.mk (hb); clear HB; clear HO_5; have HO278 := n0_; have HB := n1_; clear n0_ n1_; (try clear hb); (try clear hkp); (try clear ho0))))
            go_ret
            exact ⟨_, by first | rfl | (simp [errW_none, errW_some] <;> rfl) | (simp only [← hji3]; first | rfl | (simp [errW_none, errW_some] <;> rfl)) | (simp [*, errW_none, errW_some] <;> rfl), by (with_reducible repeat (first | apply Kd.R_alloc | apply Kd.R_drewN | apply Kd.R_drew)); exact HO278.out, dn_ HB⟩
    · rw [if_neg c5] at H
      exact absurd H (by simp)
  · rw [if_neg c4] at H
    exact absurd H (by simp)
def vernierref01_Shl.l0 : Nat → List Int → Int → List Int → Int → Int → Option (List Int)
  | 0, _, _, _, _, _ => none
  | k + 1, x0, x1, x5, x6, x7 => if x7 < (Int.tmod x1 16) then (vernierref01_Shl.l0 k x0 x1 x5 (wrap64 (2 * x6)) (wrap64 (x7 + 1))) else ((vernierref01_Mul.f k x0 (([x6] : List Int))).bind fun t290 => (if x5.length + t290.length < 17592186044416 then ((vernierref01_cut.f k (x5 ++ t290)).bind fun t296 => (some t296)) else (none)))
def vernierref01_Shl.f (k : Nat) (l0 : List Int) (a1 : Int) : Option (List Int) := if 0 ≤ (wrap64 (Int.tdiv a1 16)) then (if (wrap64 (Int.tdiv a1 16) : Int).toNat ≤ 35184372088832 then (vernierref01_Shl.l0 k l0 a1 (List.replicate (wrap64 (Int.tdiv a1 16) : Int).toNat 0) 1 0) else (none)) else (none)
theorem vernierref01_Shl.mono_l : ∀ k, (∀ y0 y1 y2 y3 y4, LeO (vernierref01_Shl.l0 k y0 y1 y2 y3 y4) (vernierref01_Shl.l0 (k + 1) y0 y1 y2 y3 y4))
  | 0 => fun _ _ _ _ _ r h => by simp [vernierref01_Shl.l0] at h
  | k + 1 => by
    have ih0 := vernierref01_Shl.mono_l k
    · intro y0 y1 y2 y3 y4
      unfold vernierref01_Shl.l0
      repeat' first
      | (with_reducible exact ih0 _ _ _ _ _)
      | (with_reducible exact vernierref01_Mul.mono _ _ _)
      | (with_reducible exact vernierref01_cut.mono _ _)
      | (with_reducible exact LeO.refl _)
      | (with_reducible exact LeO.none _)
      | (with_reducible refine LeO.ite ?_ ?_)
      | (with_reducible refine LeO.bind ?_ (fun _ => ?_))
      | exact ih0 _ _ _ _ _
      | exact vernierref01_Mul.mono _ _ _
      | exact vernierref01_cut.mono _ _
      | exact LeO.none _
      | refine LeO.ite ?_ ?_
      | refine LeO.bind ?_ (fun _ => ?_)
theorem vernierref01_Shl.mono : ∀ a0 a1 k, LeO (vernierref01_Shl.f k a0 a1) (vernierref01_Shl.f (k + 1) a0 a1) := by
  intro a0 a1 k
  have ih0 := vernierref01_Shl.mono_l k
  unfold vernierref01_Shl.f
  repeat' first
      | (with_reducible exact ih0 _ _ _ _ _)
      | (with_reducible exact vernierref01_Mul.mono _ _ _)
      | (with_reducible exact vernierref01_cut.mono _ _)
      | (with_reducible exact LeO.refl _)
      | (with_reducible exact LeO.none _)
      | (with_reducible refine LeO.ite ?_ ?_)
      | (with_reducible refine LeO.bind ?_ (fun _ => ?_))
      | exact ih0 _ _ _ _ _
      | exact vernierref01_Mul.mono _ _ _
      | exact vernierref01_cut.mono _ _
      | exact LeO.none _
      | refine LeO.ite ?_ ?_
      | refine LeO.bind ?_ (fun _ => ?_)
set_option maxHeartbeats 8000000 in
set_option maxRecDepth 100000 in
theorem vernierref01_Shl.calls (k : Nat) (A0 : Option Addr) (c0 : Nat) (l0 : List Int) (a1 : Int) (r : List Int) (w : World) (hr0 : Kd.C (Kd.int .i64) w A0 l0.length l0) (hc0 : l0.length ≤ c0) (h : vernierref01_Shl.f k l0 a1 = some r) :
    Calls Try.prog 23 #[.slice A0 l0.length c0, .int .i64 a1] w fun e w' => ∃ v0_ : Value, e = .returned (v0_) ∧ Kd.R (Kd.int .i64) 3 w' w.heap.size (fun _ => True) v0_ r ∧ Below w.heap.size w w' := by
  have HR0 := Aside0.mk hr0
  have HC0 := Aside0.mk hc0
  clear hr0 hc0
  have HB := Aside0.mk (Below.refl w.heap.size w)
  have H : (if 0 ≤ (wrap64 (Int.tdiv a1 16)) then (if (wrap64 (Int.tdiv a1 16) : Int).toNat ≤ 35184372088832 then (vernierref01_Shl.l0 k l0 a1 (List.replicate (wrap64 (Int.tdiv a1 16) : Int).toNat 0) 1 0) else (none)) else (none)) = some r := h
  clear h
  obtain ⟨ji3, hji3⟩ : ∃ j_ : Int, (wrap64 (Int.tdiv a1 16)) = j_ := ⟨_, rfl⟩
  replace H : (if 0 ≤ (ji3) then (if (ji3 : Int).toNat ≤ 35184372088832 then (vernierref01_Shl.l0 k l0 a1 (List.replicate (ji3 : Int).toNat 0) 1 0) else (none)) else (none)) = some r := by first | (rw [hji3] at H; exact H) | (simp only [hji3] at H ⊢; exact H)
  have hji3w : (IntKind.i64.wrap (Int.tdiv a1 16)) = ji3 := (i64_w _).trans hji3
  by_cases c4 : 0 ≤ (ji3)
  · rw [if_pos c4] at H
    have c4b0 := eq_true c4
    have c4b1 : decide (0 ≤ (ji3)) = true := decide_eq_true c4
    clear c4
    by_cases c5 : (ji3 : Int).toNat ≤ 35184372088832
    · rw [if_pos c5] at H
      have c5b0 := eq_true c5
      have c5b1 : decide ((ji3 : Int).toNat ≤ 35184372088832) = true := decide_eq_true c5
      clear c5
      obtain ⟨y284, hy284⟩ : ∃ y_ : List Int, y_ = (List.replicate (ji3 : Int).toNat 0) := ⟨_, rfl⟩
      replace H : (vernierref01_Shl.l0 k l0 a1 y284 1 0) = some r := by first | (rw [hy284]; with_reducible exact H) | (have H2_ := (Option.bind_some _ _).symm.trans H; rw [hy284]; with_reducible exact H2_) | (have H2_ := (Option.bind_some _ _).symm.trans H; with_reducible exact H2_) | with_reducible exact H | (rw [hy284]; exact H) | exact H
      have Ny284 := Aside0.mk hy284
      clear hy284
      have H' := Aside0.mk H
      clear H
      go_enter Try.func23, Try.ntmps23
      go_wp2_with (first | ((with_reducible refine gate_dst (N := 10) rfl ?_); refine Kd.R_make (Kd.int .i64) _ 3 rfl (N := 10) rfl 33 _ _ rfl ji3 rfl rfl Try.underlying33 (.int .i64 0) 8 info3 rfl (by decide) (by omega) 0 (ok := fun _ => True) (okp := fun _ => True) rfl (fun _ hk => hk) trivial (of_decide_eq_true as_) (Nat.le_trans (Nat.mul_le_mul_right _ (of_decide_eq_true as_ : ji3.toNat ≤ 35184372088832)) (by omega)) (Below.refl _ _) (Nat.le_refl _) ?_; intro v285 w6 ho7 hb hg_ hnew_; clear hg_ hnew_; (first | rw [← Ny284.out] at ho7 | (simp only [Int.reduceToNat] at ho7; rw [← Ny284.out] at ho7)); have n0_ := Aside0.mk (Kd.R_lower ho7 (below_size (dn_ HB))); have n1_ := Aside0.mk (below_step (dn_ HB) hb); clear HB; have HO286 := n0_; have HB := n1_; clear n0_ n1_; clear hb ho7))
      go_loopg [6, 7] k (fun kq v6 v7 w' => ∃ (x6_1 : Int) (x7_1 : Int), v6 = .int .i64 x6_1 ∧ v7 = .int .i64 x7_1 ∧ Aside0 (vernierref01_Shl.l0 kq l0 a1 y284 x6_1 x7_1 = some r) ∧ Aside0 (kq ≤ k) ∧ Aside0 (Kd.R (Kd.int .i64) 3 w' w.heap.size (fun _ => True) v285 y284) ∧ Aside0 (Below w.heap.size w w'))
      case atStart => exact ⟨(1), (0), (by first | rfl | (simp; done) | (simp [*]; done)), (by first | rfl | (simp; done) | (simp [*]; done)), H', ⟨Nat.le_refl _⟩, ⟨by (with_reducible repeat (first | apply Kd.R_alloc | apply Kd.R_drewN | apply Kd.R_drew)); exact HO286.out⟩, ⟨dn_ HB⟩⟩
      case round =>
        clear H'
        try clear c2
        try clear p2
        try clear c4
        try clear c4b0
        try clear c4b1
        try clear c5
        try clear c5b0
        try clear c5b1
        try clear p6
        obtain ⟨x6_1, x7_1, rfl, rfl, HA, HK1, HO_5, HB⟩ := hrel
        cases gk with
        | zero => exact absurd HA.out (by simp [vernierref01_Shl.l0])
        | succ k1 =>
          have H := HA.out
          clear HA
          simp only [vernierref01_Shl.l0] at H
          by_cases c8 : x7_1 < (Int.tmod a1 16)
          · rw [if_pos c8] at H
            have c8b0 : decide (x7_1 < (Int.tmod a1 16)) = true := decide_eq_true c8
            clear c8
            have H' := Aside0.mk H
            clear H
            go_wp2
            go_roundg k1
            case measure => have := HK1.out; omega
            case rel => exact ⟨(wrap64 (2 * x6_1)), (wrap64 (x7_1 + 1)), (by first | rfl | (simp; done) | (simp [*]; done)), (by first | rfl | (simp; done) | (simp [*]; done)), H', ⟨by have := HK1.out; omega⟩, ⟨by (with_reducible repeat (first | apply Kd.R_alloc | apply Kd.R_drewN | apply Kd.R_drew)); exact HO_5.out⟩, ⟨dn_ HB⟩⟩
          · rw [if_neg c8] at H
            have c8b0 : decide (x7_1 < (Int.tmod a1 16)) = false := decide_eq_false c8
            clear c8
            obtain ⟨y287, hy287⟩ : ∃ y_ : List Int, y_ = (([x6_1] : List Int)) := ⟨_, rfl⟩
            replace H : ((vernierref01_Mul.f k1 l0 y287).bind fun t290 => (if y284.length + t290.length < 17592186044416 then ((vernierref01_cut.f k1 (y284 ++ t290)).bind fun t296 => (some t296)) else (none))) = some r := by first | (rw [hy287]; with_reducible exact H) | (have H2_ := (Option.bind_some _ _).symm.trans H; rw [hy287]; with_reducible exact H2_) | (have H2_ := (Option.bind_some _ _).symm.trans H; with_reducible exact H2_) | with_reducible exact H | (rw [hy287]; exact H) | exact H
            have Ny287 := Aside0.mk hy287
            clear hy287
            replace H := Option.bind_eq_some_iff.mp H
            obtain ⟨t290, A90, H⟩ := H
            replace H : (if y284.length + t290.length < 17592186044416 then ((vernierref01_cut.f k1 (y284 ++ t290)).bind fun t296 => (some t296)) else (none)) = some r := H
            have A9 := Aside0.mk A90
            clear A90
            by_cases c10 : y284.length + t290.length < 17592186044416
            · rw [if_pos c10] at H
              have LMc10 := Aside0.mk c10
              clear c10
              obtain ⟨y293, hy293⟩ : ∃ y_ : List Int, y_ = (y284 ++ t290) := ⟨_, rfl⟩
              replace H : ((vernierref01_cut.f k1 y293).bind fun t296 => (some t296)) = some r := by first | (rw [hy293]; with_reducible exact H) | (have H2_ := (Option.bind_some _ _).symm.trans H; rw [hy293]; with_reducible exact H2_) | (have H2_ := (Option.bind_some _ _).symm.trans H; with_reducible exact H2_) | with_reducible exact H | (rw [hy293]; exact H) | exact H
              have Ny293 := Aside0.mk hy293
              clear hy293
              replace H := Option.bind_eq_some_iff.mp H
              obtain ⟨t296, A110, H⟩ := H
              replace H : (some t296) = some r := H
              have A11 := Aside0.mk A110
              clear A110
              obtain rfl := Option.some.inj H
              go_wp2_with (first | ((with_reducible refine gate_dst (N := 22) rfl ?_); refine Kd.R_lit (Kd.int .i64) _ 3 ?hg (N := 22) ?hd (xs := ([x6_1] : List Int)) (inner := [.int .i64 x6_1]) (ok := fun _ => True) (okp := fun _ => True) ?hr ?hp (fun _ hk => hk) trivial (Below.refl _ _) (Nat.le_refl _) (by simp) ?_; (case hd => rfl); (case hg => rfl); (case hr => first | (go_simp; done) | (go_simp; rfl)); (case hp => exact (Reps.one (show Kd.M (Kd.int .i64) _ _ _ x6_1 [.int .i64 x6_1] from rfl) (Reps.none _ _))); intro v288 w12 ho13 hb hg_ hnew_; clear hg_ hnew_; (first | rw [← Ny287.out] at ho13 | (simp only [Int.reduceToNat] at ho13; rw [← Ny287.out] at ho13)); have n0_ := Aside0.mk (Kd.R_elder' (up_ HO_5) (Kd.R_base ho13) hb); have n1_ := Aside0.mk (Kd.R_lower (Kd.R_new' ho13 (Kd.R_lt (up_ HO_5))) (below_size (dn_ HB))); have n2_ := Aside0.mk (below_step (dn_ HB) hb); clear HO_5; clear HB; have HO_5 := n0_; have HO289 := n1_; have HB := n2_; clear n0_ n1_ n2_; clear hb ho13; obtain ⟨Ao14, co14, eo14⟩ := Kd.R_slice HO289.out; subst eo14) | ((with_reducible refine gate_callee (f := 65) rfl ?_); refine goesL_ (some 23) rfl rfl Try.func65 (by kernel_rfl) rfl #[.slice A0 l0.length c0, .slice Ao14 y287.length co14] rfl ar_ ?_; (with_reducible refine (vernierref01_Mul.calls k1 _ _ l0 _ _ y287 t290 _ ?side1 ?side2 ?side3 ?side4 A9.out).mono ?_); (case side1 => repeat (first | exact (Kd.C_below HR0.out HB.out) | (with_reducible refine Kd.C_alloc ?_ _) | (with_reducible refine Kd.C_drewN ?_ _) | (with_reducible refine Kd.C_drew ?_))); (case side2 => exact HC0.out); (case side3 => exact cs_ (Kd.R_reads' HO289.out).2.2); (case side4 => exact (Kd.R_reads' HO289.out).2.1); rintro e w15 ⟨v291, rfl, ho0, hb⟩; refine ⟨_, rfl, ?_⟩; have n0_ := Aside0.mk (Kd.R_elder' (up_ HO_5) (Kd.R_base ho0) hb); have n1_ := Aside0.mk (Kd.R_elder' (up_ HO289) (Kd.R_base ho0) hb); have n2_ := Aside0.mk (Kd.R_lower (Kd.R_new' (Kd.R_new' ho0 (Kd.R_lt (up_ HO_5))) (Kd.R_lt (up_ HO289))) (below_size (dn_ HB))); have n3_ := Aside0.mk (below_step (dn_ HB) hb); clear HO_5; clear HO289; clear HB; have HO_5 := n0_; have HO289 := n1_; have HO292 := n2_; have HB := n3_; clear n0_ n1_ n2_ n3_; (try clear hb); (try clear hk); (try clear ho0); obtain ⟨Ao17, co17, eo17⟩ := Kd.R_slice HO292.out; subst eo17) | ((with_reducible refine gate_builtin (b := .append) (xs := #[.tmp 19, .tmp 23]) rfl ?_); at_builtin; refine Kd.R_append_rows (Kd.int .i64) (w0 := w) w.heap.size rfl (.tmp 19) (.tmp 23) 33 3 (.int .i64 0) 8 rfl Try.underlying33 info3 rfl (by decide) (by omega) v285 y284 t290 _ _ _ (fun k_ => some k_ ≠ (.slice Ao14 y287.length co14 : Value).ownBlock ∧ some k_ ≠ (.slice Ao17 t290.length co17 : Value).ownBlock) (fun _ => False) rfl rfl ?aO ?aR (fun _ _ h => h) (fun _ h => h.elim) ?aF ?aB ?aS ?aL ?_; (case aR => exact cs_ (Kd.R_reads' HO292.out).2.2); (case aB => exact (dn_ HB)); (case aF => exact (fun k_ hk => ⟨Kd.fresh' (Kd.R_lt (up_ HO289)) k_ hk, Kd.fresh' (Kd.R_lt (up_ HO292)) k_ hk⟩)); (case aO => exact (by (with_reducible repeat (first | apply Kd.R_alloc | apply Kd.R_drewN | apply Kd.R_drew)); exact Kd.R_mono HO_5.out (fun _ hk => ⟨hk.1.2, hk.2⟩))); (case aS => exact (below_size (dn_ HB))); (case aL => have := LMc10.out; omega); intro v294 w16 ho hb hg hat; rw [← Ny293.out] at ho; have n0_ := Aside0.mk (Kd.R_after (ok := (fun k_ => some k_ ≠ (.slice Ao17 t290.length co17 : Value).ownBlock)) (by (with_reducible repeat (first | apply Kd.R_alloc | apply Kd.R_drewN | apply Kd.R_drew)); exact Kd.R_mono HO289.out (fun _ hk => ⟨hk.2, hk.1.2⟩)) hg hat); have n1_ := Aside0.mk (Kd.R_after (ok := (fun k_ => some k_ ≠ (.slice Ao14 y287.length co14 : Value).ownBlock)) (by (with_reducible repeat (first | apply Kd.R_alloc | apply Kd.R_drewN | apply Kd.R_drew)); exact Kd.R_mono HO292.out (fun _ hk => ⟨hk.2, hk.1.2⟩)) hg hat); have n2_ := Aside0.mk (hb); have n3_ := Aside0.mk (ho); clear HO289; clear HO292; clear HB; clear HO_5; have HO289 := n0_; have HO292 := n1_; have HB := n2_; have HO295 := n3_; clear n0_ n1_ n2_ n3_; clear ho hb hg hat; obtain ⟨Ao18, co18, eo18⟩ := Kd.R_slice HO295.out; subst eo18) | ((with_reducible refine gate_callee (f := 63) rfl ?_); refine goesL_ (some 25) rfl rfl Try.func63 (by kernel_rfl) rfl #[.slice Ao18 y293.length co18] rfl ar_ ?_; (with_reducible refine (vernierref01_cut.calls k1 (fun k_ => some k_ = (.slice Ao18 y293.length co18 : Value).ownBlock) (.slice Ao18 y293.length co18) y293 t296 w _ ?side1 ?side2 A11.out).mono ?_); (case side1 => repeat (first | (with_reducible first | exact HB.out | apply below_alloc | apply pw_below_drewN | apply below_drew1) | exact HB.out)); (case side2 => exact Kd.R_tight rfl HO295.out); rintro e w19 ⟨v297, rfl, ho0, hb, hkp⟩; refine ⟨_, rfl, ?_⟩; have n0_ := Aside0.mk (Kd.R_mono (ok' := fun k_ => some k_ ≠ (.slice Ao17 t290.length co17 : Value).ownBlock ∧ some k_ ≠ (v297 : Value).ownBlock) (Kd.R_keptB (HO289.out) hkp (fun k_ hk_ hs_ => (hk_.2) hs_)) (fun k_ hk_ => ⟨hk_.1.1, fun e_ => Or.elim (ho0.1 k_ e_.symm) (fun hs_ => hk_.2.1 hs_) (fun hn_ => Nat.not_le.2 hk_.2.2 hn_)⟩)); have n1_ := Aside0.mk (Kd.R_mono (ok' := fun k_ => some k_ ≠ (.slice Ao14 y287.length co14 : Value).ownBlock ∧ some k_ ≠ (v297 : Value).ownBlock) (Kd.R_keptB (HO292.out) hkp (fun k_ hk_ hs_ => (hk_.2) hs_)) (fun k_ hk_ => ⟨hk_.1.1, fun e_ => Or.elim (ho0.1 k_ e_.symm) (fun hs_ => hk_.2.1 hs_) (fun hn_ => Nat.not_le.2 hk_.2.2 hn_)⟩)); have n2_ := Aside0.mk (Kd.R_mono (ok' := fun k_ => some k_ ≠ (.slice Ao14 y287.length co14 : Value).ownBlock ∧ some k_ ≠ (.slice Ao17 t290.length co17 : Value).ownBlock) ho0 (fun k_ hk_ => ⟨Or.elim hk_ (fun hs_ => fun e_ => (((HO289.out).1 k_ e_.symm).2) hs_) (fun hn_ => (Kd.fresh' (Kd.R_lt (up_ HO289)) k_ hn_)), Or.elim hk_ (fun hs_ => fun e_ => (((HO292.out).1 k_ e_.symm).2) hs_) (fun hn_ => (Kd.fresh' (Kd.R_lt (up_ HO292)) k_ hn_))⟩)); have n3_ := Aside0.mk (hb); clear HO289; clear HO292; clear HB; clear HO295; have HO289 := n0_; have HO292 := n1_; have HO298 := n2_; have HB := n3_; clear n0_ n1_ n2_ n3_; (try clear hb); (try clear hkp); (try clear ho0)))
              go_ret
              exact ⟨_, by first | rfl | (simp [errW_none, errW_some] <;> rfl) | (simp only [← hji3]; first | rfl | (simp [errW_none, errW_some] <;> rfl)) | (simp [*, errW_none, errW_some] <;> rfl), by (with_reducible repeat (first | apply Kd.R_alloc | apply Kd.R_drewN | apply Kd.R_drew)); exact Kd.R_mono HO298.out (fun _ hk => trivial), dn_ HB⟩
            · rw [if_neg c10] at H
              exact absurd H (by simp)
    · rw [if_neg c5] at H
      exact absurd H (by simp)
  · rw [if_neg c4] at H
    exact absurd H (by simp)
mutual
def vernierref01_Shr.l0 : Nat → List Int → Int → Int → Int → Option (List Int)
  | 0, _, _, _, _ => none
  | k + 1, x0, x1, x5, x6 => if x6 < (Int.tmod x1 16) then (vernierref01_Shr.l0 k x0 x1 (wrap64 (2 * x5)) (wrap64 (x6 + 1))) else (if 0 ≤ (wrap64 (Int.tdiv x1 16)) then (if (wrap64 (Int.tdiv x1 16)) ≤ (x0.length : Int) then (if 0 ≤ ((x0.drop ((wrap64 (Int.tdiv x1 16)) : Int).toNat).length : Int) then (if (((x0.drop ((wrap64 (Int.tdiv x1 16)) : Int).toNat).length : Int) : Int).toNat ≤ 35184372088832 then (vernierref01_Shr.l1 k (x0.drop ((wrap64 (Int.tdiv x1 16)) : Int).toNat) x5 (List.replicate (((x0.drop ((wrap64 (Int.tdiv x1 16)) : Int).toNat).length : Int) : Int).toNat 0) 0 (wrap64 (((x0.drop ((wrap64 (Int.tdiv x1 16)) : Int).toNat).length : Int) - 1))) else (none)) else (none)) else (none)) else (none))
def vernierref01_Shr.l1 : Nat → List Int → Int → List Int → Int → Int → Option (List Int)
  | 0, _, _, _, _, _ => none
  | k + 1, x0, x5, x7, x8, x9 => if x9 ≥ 0 then (if 0 ≤ x9 then (if x9 < (x0.length : Int) then (if x5 = 0 then (none) else (if x9 < (x7.length : Int) then (vernierref01_Shr.l1 k x0 x5 (x7.set (x9 : Int).toNat (wrap64 (Int.tdiv (wrap64 ((wrap64 (x8 * 65536)) + (rd x0 x9))) x5))) (Int.tmod (wrap64 ((wrap64 (x8 * 65536)) + (rd x0 x9))) x5) (wrap64 (x9 - 1))) else (none))) else (none)) else (none)) else ((vernierref01_cut.f k x7).bind fun t305 => (some t305))
end
def vernierref01_Shr.f (k : Nat) (l0 : List Int) (a1 : Int) : Option (List Int) := if (wrap64 (Int.tdiv a1 16)) ≥ (l0.length : Int) then (some ([] : List Int)) else (vernierref01_Shr.l0 k l0 a1 1 0)
theorem vernierref01_Shr.mono_l : ∀ k, (∀ y0 y1 y2 y3, LeO (vernierref01_Shr.l0 k y0 y1 y2 y3) (vernierref01_Shr.l0 (k + 1) y0 y1 y2 y3)) ∧ (∀ y0 y1 y2 y3 y4, LeO (vernierref01_Shr.l1 k y0 y1 y2 y3 y4) (vernierref01_Shr.l1 (k + 1) y0 y1 y2 y3 y4))
  | 0 => ⟨fun _ _ _ _ r h => by simp [vernierref01_Shr.l0] at h, fun _ _ _ _ _ r h => by simp [vernierref01_Shr.l1] at h⟩
  | k + 1 => by
    obtain ⟨ih0, ih1⟩ := vernierref01_Shr.mono_l k
    refine ⟨?_, ?_⟩
    · intro y0 y1 y2 y3
      unfold vernierref01_Shr.l0
      repeat' first
      | (with_reducible exact ih0 _ _ _ _)
      | (with_reducible exact ih1 _ _ _ _ _)
      | (with_reducible exact vernierref01_cut.mono _ _)
      | (with_reducible exact LeO.refl _)
      | (with_reducible exact LeO.none _)
      | (with_reducible refine LeO.ite ?_ ?_)
      | (with_reducible refine LeO.bind ?_ (fun _ => ?_))
      | exact ih0 _ _ _ _
      | exact ih1 _ _ _ _ _
      | exact vernierref01_cut.mono _ _
      | exact LeO.none _
      | refine LeO.ite ?_ ?_
      | refine LeO.bind ?_ (fun _ => ?_)
    · intro y0 y1 y2 y3 y4
      unfold vernierref01_Shr.l1
      repeat' first
      | (with_reducible exact ih0 _ _ _ _)
      | (with_reducible exact ih1 _ _ _ _ _)
      | (with_reducible exact vernierref01_cut.mono _ _)
      | (with_reducible exact LeO.refl _)
      | (with_reducible exact LeO.none _)
      | (with_reducible refine LeO.ite ?_ ?_)
      | (with_reducible refine LeO.bind ?_ (fun _ => ?_))
      | exact ih0 _ _ _ _
      | exact ih1 _ _ _ _ _
      | exact vernierref01_cut.mono _ _
      | exact LeO.none _
      | refine LeO.ite ?_ ?_
      | refine LeO.bind ?_ (fun _ => ?_)
theorem vernierref01_Shr.mono : ∀ a0 a1 k, LeO (vernierref01_Shr.f k a0 a1) (vernierref01_Shr.f (k + 1) a0 a1) := by
  intro a0 a1 k
  obtain ⟨ih0, ih1⟩ := vernierref01_Shr.mono_l k
  unfold vernierref01_Shr.f
  repeat' first
      | (with_reducible exact ih0 _ _ _ _)
      | (with_reducible exact ih1 _ _ _ _ _)
      | (with_reducible exact vernierref01_cut.mono _ _)
      | (with_reducible exact LeO.refl _)
      | (with_reducible exact LeO.none _)
      | (with_reducible refine LeO.ite ?_ ?_)
      | (with_reducible refine LeO.bind ?_ (fun _ => ?_))
      | exact ih0 _ _ _ _
      | exact ih1 _ _ _ _ _
      | exact vernierref01_cut.mono _ _
      | exact LeO.none _
      | refine LeO.ite ?_ ?_
      | refine LeO.bind ?_ (fun _ => ?_)
set_option maxHeartbeats 8000000 in
set_option maxRecDepth 100000 in
theorem vernierref01_Shr.calls (k : Nat) (A0 : Option Addr) (c0 : Nat) (l0 : List Int) (a1 : Int) (r : List Int) (w : World) (hr0 : Kd.C (Kd.int .i64) w A0 l0.length l0) (hc0 : l0.length ≤ c0) (h : vernierref01_Shr.f k l0 a1 = some r) :
    Calls Try.prog 24 #[.slice A0 l0.length c0, .int .i64 a1] w fun e w' => ∃ v0_ : Value, e = .returned (v0_) ∧ Kd.R (Kd.int .i64) 3 w' w.heap.size (fun _ => True) v0_ r ∧ Below w.heap.size w w' := by
  have HR0 := Aside0.mk hr0
  have HC0 := Aside0.mk hc0
  clear hr0 hc0
  have HB := Aside0.mk (Below.refl w.heap.size w)
  have H : (if (wrap64 (Int.tdiv a1 16)) ≥ (l0.length : Int) then (some ([] : List Int)) else (vernierref01_Shr.l0 k l0 a1 1 0)) = some r := h
  clear h
  by_cases c3 : (wrap64 (Int.tdiv a1 16)) ≥ (l0.length : Int)
  · rw [if_pos c3] at H
    have c3b0 : decide ((l0.length : Int) ≤ (wrap64 (Int.tdiv a1 16))) = true := decide_eq_true c3
    clear c3
    obtain rfl := Option.some.inj H
    go_enter Try.func24, Try.ntmps24
    go_wp2
    go_ret
    exact ⟨_, er_, by first | exact Kd.R_nil _ _ _ _ _ | exact Kd.N_nil _ _ _ _ _ | exact Kd.V_nil _ _ _ _ _ | exact Kd.Q_nil _ _ _ _ _ | exact Kd.S_nil _ _ _ _ _, dn_ HB⟩
  · rw [if_neg c3] at H
    have c3b0 : decide ((l0.length : Int) ≤ (wrap64 (Int.tdiv a1 16))) = false := decide_eq_false c3
    clear c3
    have H' := Aside0.mk H
    clear H
    go_enter Try.func24, Try.ntmps24
    go_wp2
    go_loopg [5, 6] k (fun kq v5 v6 w' => ∃ (x5_1 : Int) (x6_1 : Int), v5 = .int .i64 x5_1 ∧ v6 = .int .i64 x6_1 ∧ Aside0 (vernierref01_Shr.l0 kq l0 a1 x5_1 x6_1 = some r) ∧ Aside0 (kq ≤ k) ∧ Aside0 (Below w.heap.size w w'))
    case atStart => exact ⟨(1), (0), (by first | rfl | (simp; done) | (simp [*]; done)), (by first | rfl | (simp; done) | (simp [*]; done)), H', ⟨Nat.le_refl _⟩, ⟨dn_ HB⟩⟩
    case round =>
      clear H'
      try clear c2
      try clear p2
      try clear c3
      try clear c3b0
      obtain ⟨x5_1, x6_1, rfl, rfl, HA, HK1, HB⟩ := hrel
      cases gk with
      | zero => exact absurd HA.out (by simp [vernierref01_Shr.l0])
      | succ k1 =>
        have H := HA.out
        clear HA
        simp only [vernierref01_Shr.l0] at H
        by_cases c4 : x6_1 < (Int.tmod a1 16)
        · rw [if_pos c4] at H
          have c4b0 : decide (x6_1 < (Int.tmod a1 16)) = true := decide_eq_true c4
          clear c4
          have H' := Aside0.mk H
          clear H
          go_wp2
          go_roundg k1
          case measure => have := HK1.out; omega
          case rel => exact ⟨(wrap64 (2 * x5_1)), (wrap64 (x6_1 + 1)), (by first | rfl | (simp; done) | (simp [*]; done)), (by first | rfl | (simp; done) | (simp [*]; done)), H', ⟨by have := HK1.out; omega⟩, ⟨dn_ HB⟩⟩
        · rw [if_neg c4] at H
          have c4b0 : decide (x6_1 < (Int.tmod a1 16)) = false := decide_eq_false c4
          clear c4
          obtain ⟨ji5, hji5⟩ : ∃ j_ : Int, (wrap64 (Int.tdiv a1 16)) = j_ := ⟨_, rfl⟩
          replace H : (if 0 ≤ (ji5) then (if (ji5) ≤ (l0.length : Int) then (if 0 ≤ ((l0.drop ((ji5) : Int).toNat).length : Int) then (if (((l0.drop ((ji5) : Int).toNat).length : Int) : Int).toNat ≤ 35184372088832 then (vernierref01_Shr.l1 k1 (l0.drop ((ji5) : Int).toNat) x5_1 (List.replicate (((l0.drop ((ji5) : Int).toNat).length : Int) : Int).toNat 0) 0 (wrap64 (((l0.drop ((ji5) : Int).toNat).length : Int) - 1))) else (none)) else (none)) else (none)) else (none)) = some r := by first | (rw [hji5] at H; exact H) | (simp only [hji5] at H ⊢; exact H)
          (try rw [hji5] at c3b0)
          have hji5w : (IntKind.i64.wrap (Int.tdiv a1 16)) = ji5 := (i64_w _).trans hji5
          by_cases c6 : 0 ≤ (ji5)
          · rw [if_pos c6] at H
            have c6b0 := eq_true c6
            have c6b1 : decide (0 ≤ (ji5)) = true := decide_eq_true c6
            clear c6
            by_cases c7 : (ji5) ≤ (l0.length : Int)
            · rw [if_pos c7] at H
              have c7b0 := eq_true c7
              have c7b1 : decide ((ji5) ≤ (l0.length : Int)) = true := decide_eq_true c7
              clear c7
              by_cases c8 : 0 ≤ ((l0.drop ((ji5) : Int).toNat).length : Int)
              · rw [if_pos c8] at H
                have c8b0 := eq_true c8
                have c8b1 : decide (0 ≤ ((l0.drop ((ji5) : Int).toNat).length : Int)) = true := decide_eq_true c8
                (try (have c8b1d := c8b1; simp only [List.length_drop] at c8b1d))
                clear c8
                by_cases c9 : (((l0.drop ((ji5) : Int).toNat).length : Int) : Int).toNat ≤ 35184372088832
                · rw [if_pos c9] at H
                  have c9b0 := eq_true c9
                  have c9b1 : decide ((((l0.drop ((ji5) : Int).toNat).length : Int) : Int).toNat ≤ 35184372088832) = true := decide_eq_true c9
                  (try (have c9b1d := c9b1; simp only [List.length_drop] at c9b1d))
                  clear c9
                  obtain ⟨y300, hy300⟩ : ∃ y_ : List Int, y_ = (List.replicate (((l0.drop ((ji5) : Int).toNat).length : Int) : Int).toNat 0) := ⟨_, rfl⟩
                  replace H : (vernierref01_Shr.l1 k1 (l0.drop ((ji5) : Int).toNat) x5_1 y300 0 (wrap64 (((l0.drop ((ji5) : Int).toNat).length : Int) - 1))) = some r := by first | (rw [hy300]; with_reducible exact H) | (have H2_ := (Option.bind_some _ _).symm.trans H; rw [hy300]; with_reducible exact H2_) | (have H2_ := (Option.bind_some _ _).symm.trans H; with_reducible exact H2_) | with_reducible exact H | (rw [hy300]; exact H) | exact H
                  have Ny300 := Aside0.mk hy300
                  clear hy300
                  have H' := Aside0.mk H
                  clear H
                  obtain ⟨i010, hi010, _, hsz10, _⟩ := info_parts info3
                  obtain ⟨A10, hcut10, hA10, hC10⟩ := print_drop_of (P := Try.prog) (Value.int .i64) 0 33 3 .i64 Try.underlying33 hi010 hsz10 A0 c0 l0 (ji5) (of_decide_eq_true as_) (of_decide_eq_true as_) HC0.out
                  have HR299 := Aside0.mk (Kd.C_of_reads (h1 := fun _ => rfl) (hA10 _ (Kd.reads_of_C HR0.out)))
                  have HC299 := Aside0.mk hC10
                  clear hA10 hC10 hi010 hsz10
                  go_wp2_with (first | ((with_reducible refine gate_dst (N := 29) rfl ?_); refine Kd.R_make (Kd.int .i64) _ 3 rfl (N := 29) rfl 33 _ _ rfl ((l0.drop ((ji5) : Int).toNat).length : Int) (by first | rfl | (simp only [List.length_drop]; rfl)) (by first | rfl | (simp only [List.length_drop]; rfl)) Try.underlying33 (.int .i64 0) 8 info3 rfl (by decide) (by omega) 0 (ok := fun _ => True) (okp := fun _ => True) rfl (fun _ hk => hk) trivial (of_decide_eq_true as_) (Nat.le_trans (Nat.mul_le_mul_right _ (of_decide_eq_true as_ : ((l0.drop ((ji5) : Int).toNat).length : Int).toNat ≤ 35184372088832)) (by omega)) (Below.refl _ _) (Nat.le_refl _) ?_; intro v301 w11 ho12 hb hg_ hnew_; clear hg_ hnew_; (first | rw [← Ny300.out] at ho12 | (simp only [Int.reduceToNat] at ho12; rw [← Ny300.out] at ho12)); have n0_ := Aside0.mk (Kd.R_lower ho12 (below_size (dn_ HB))); have n1_ := Aside0.mk (below_step (dn_ HB) hb); clear HB; have HO302 := n0_; have HB := n1_; clear n0_ n1_; clear hb ho12))
                  go_loopg [8, 9] k1 (fun kq v8 v9 w' => ∃ (x7_2 : List Int) (x8_2 : Int) (x9_2 : Int), v8 = .int .i64 x8_2 ∧ v9 = .int .i64 x9_2 ∧ Aside0 (vernierref01_Shr.l1 kq (l0.drop ((ji5) : Int).toNat) x5_1 x7_2 x8_2 x9_2 = some r) ∧ Aside0 (kq ≤ k1) ∧ Aside0 (Kd.R (Kd.int .i64) 3 w' w.heap.size (fun _ => True) v301 x7_2) ∧ Aside0 (Below w.heap.size w w'))
                  case atStart => exact ⟨(y300), (0), (wrap64 (((l0.drop ((ji5) : Int).toNat).length : Int) - 1)), (by first | rfl | (simp; done) | (simp [*]; done)), (by first | rfl | (simp; done) | (simp only [← hji5] <;> (first | rfl | simp)) | (simp [*]; done)), H', ⟨Nat.le_refl _⟩, ⟨by (with_reducible repeat (first | apply Kd.R_alloc | apply Kd.R_drewN | apply Kd.R_drew)); exact HO302.out⟩, ⟨dn_ HB⟩⟩
                  case round =>
                    clear H'
                    try clear c2
                    try clear p2
                    try clear c3
                    try clear c3b0
                    try clear c4
                    try clear c4b0
                    try clear c6
                    try clear c6b0
                    try clear c6b1
                    try clear p6
                    try clear c7
                    try clear c7b0
                    try clear c7b1
                    try clear c8
                    try clear c8b0
                    try clear c8b1
                    try clear c9
                    try clear c9b0
                    try clear c9b1
                    try clear p2
                    obtain ⟨x7_2, x8_2, x9_2, rfl, rfl, HA, HK2, HO_7, HB⟩ := hrel
                    cases gk with
                    | zero => exact absurd HA.out (by simp [vernierref01_Shr.l1])
                    | succ k2 =>
                      have H := HA.out
                      clear HA
                      simp only [vernierref01_Shr.l1] at H
                      by_cases c13 : x9_2 ≥ 0
                      · rw [if_pos c13] at H
                        have c13b0 : decide (0 ≤ x9_2) = true := decide_eq_true c13
                        clear c13
                        by_cases c14 : 0 ≤ x9_2
                        · rw [if_pos c14] at H
                          have c14b0 : decide (0 ≤ x9_2) = true := decide_eq_true c14
                          clear c14
                          by_cases c15 : x9_2 < ((l0.drop ((ji5) : Int).toNat).length : Int)
                          · rw [if_pos c15] at H
                            have c15b0 : decide (x9_2 < ((l0.drop ((ji5) : Int).toNat).length : Int)) = true := decide_eq_true c15
                            (try (have c15b0d := c15b0; simp only [List.length_drop] at c15b0d))
                            clear c15
                            by_cases c16 : x5_1 = 0
                            · rw [if_pos c16] at H
                              exact absurd H (by simp)
                            · rw [if_neg c16] at H
                              have c16b0 : (x5_1 == 0) = false := beq_eq_false_iff_ne.mpr c16
                              have c16b1 : (x5_1 != 0) = true := bne_iff_ne.mpr c16
                              by_cases c17 : x9_2 < (x7_2.length : Int)
                              · rw [if_pos c17] at H
                                have c17b0 : decide (x9_2 < (x7_2.length : Int)) = true := decide_eq_true c17
                                clear c17
                                obtain ⟨y304, hy304⟩ : ∃ y_ : List Int, y_ = (x7_2.set (x9_2 : Int).toNat (wrap64 (Int.tdiv (wrap64 ((wrap64 (x8_2 * 65536)) + (rd (l0.drop ((ji5) : Int).toNat) x9_2))) x5_1))) := ⟨_, rfl⟩
                                replace H : (vernierref01_Shr.l1 k2 (l0.drop ((ji5) : Int).toNat) x5_1 y304 (Int.tmod (wrap64 ((wrap64 (x8_2 * 65536)) + (rd (l0.drop ((ji5) : Int).toNat) x9_2))) x5_1) (wrap64 (x9_2 - 1))) = some r := by first | (rw [hy304]; with_reducible exact H) | (have H2_ := (Option.bind_some _ _).symm.trans H; rw [hy304]; with_reducible exact H2_) | (have H2_ := (Option.bind_some _ _).symm.trans H; with_reducible exact H2_) | with_reducible exact H | (rw [hy304]; exact H) | exact H
                                have Ny304 := Aside0.mk hy304
                                clear hy304
                                have H' := Aside0.mk H
                                clear H
                                have p303 : 0 ≤ (x9_2 : Int) := of_decide_eq_true as_
                                have q303 : x9_2 < ((l0.drop ((ji5) : Int).toNat).length : Int) := of_decide_eq_true as_
                                obtain ⟨ad303, e303, hx303_0⟩ := Kd.at_int HR299.out x9_2 p303 q303
                                cases e303
                                replace hx303_0 := (HB.out.cell (World.block_lt_of_cell? w _ hx303_0)).trans hx303_0
                                replace p303 := eq_true p303
                                replace q303 := eq_true q303
                                (try (have q303n := q303; simp only [Int.ofNat_lt] at q303n))
                                (try (have q303d := q303; simp only [List.length_drop] at q303d))
                                have p18 : 0 ≤ (x9_2 : Int) := of_decide_eq_true as_
                                have q18 : (x9_2 : Int) < ((x7_2.length : Int) : Int) := of_decide_eq_true as_
                                obtain ⟨go18, co18, eo18, gb18, gl18, cl18, HG18⟩ := Kd.R_form HO_7.out (by omega)
                                (first | cases eo18 | (injection eo18 with ea_ en_ ec_; (first | subst ea_ | (injection ea_ with ea_; subst ea_)); subst ec_; clear en_))
                                have GB18 := Aside0.mk gb18
                                have GG18 := Aside0.mk HG18
                                clear gb18 gl18 HG18
                                obtain ⟨hx18_0, hf18_0⟩ := Kd.R_celln 0 HO_7.out (x9_2 : Int) p18 q18
                                (try simp only [Int.toNat_natCast] at hx18_0 hf18_0)
                                replace p18 := eq_true p18
                                replace q18 := eq_true q18
                                (try (have q18n := q18; simp only [Int.ofNat_lt] at q18n))
                                (try (have q18d := q18; simp only [List.length_drop] at q18d))
                                have HP19 := Kd.R_putg HO_7.out (x9_2 : Int) (wrap64 (Int.tdiv (wrap64 ((wrap64 (x8_2 * 65536)) + (rd (l0.drop ((ji5) : Int).toNat) x9_2))) x5_1))
                                go_wp2_with (first | ((with_reducible refine gate_store (t := 3) (p := 49) rfl ?_); refine store_event (t := 3) (p := 49) (v := ?vo_w20) (w1 := (wr.setCell ⟨go18, (x9_2 : Int).toNat, none⟩ (.int .i64 (wrap64 (Int.tdiv (wrap64 ((wrap64 (x8_2 * 65536)) + (rd (l0.drop ((ji5) : Int).toNat) x9_2))) x5_1))))) ?hg ?ho ?hn ?hr ?_; (case ho => rfl); (case hg => rfl); (case hn => rfl); (case hr => first | (go_simp; done) | (go_simp; rfl)); intro w20 hw; have hg : wr.grownBy w20 (some go18) := (by rw [hw]; exact HP19.2); have hp_ : Kd.R (Kd.int .i64) 3 w20 w.heap.size (fun _ => True) (.slice (some ⟨go18, 0, none⟩) x7_2.length co18) y304 := (by rw [hw, Ny304.out]; exact HP19.1); clear HP19; have n0_ := Aside0.mk (hp_); have n1_ := Aside0.mk ((by rw [hw]; exact below_set (HB.out) GB18.out : Below w.heap.size w w20)); clear HO_7; clear HB; have HO_7 := n0_; have HB := n1_; clear n0_ n1_; clear hg hw hp_))
                                go_roundg k2
                                case measure => have := HK1.out; have := HK2.out; omega
                                case rel => exact ⟨(y304), (Int.tmod (wrap64 ((wrap64 (x8_2 * 65536)) + (rd (l0.drop ((ji5) : Int).toNat) x9_2))) x5_1), (wrap64 (x9_2 - 1)), (by first | rfl | (simp; done) | (simp only [← hji5] <;> (first | rfl | simp)) | (simp [*]; done)), (by first | rfl | (simp; done) | (simp [*]; done)), H', ⟨by have := HK1.out; have := HK2.out; omega⟩, ⟨by (with_reducible repeat (first | apply Kd.R_alloc | apply Kd.R_drewN | apply Kd.R_drew)); exact HO_7.out⟩, ⟨dn_ HB⟩⟩
                              · rw [if_neg c17] at H
                                exact absurd H (by simp)
                          · rw [if_neg c15] at H
                            exact absurd H (by simp)
                        · rw [if_neg c14] at H
                          exact absurd H (by simp)
                      · rw [if_neg c13] at H
                        have c13b0 : decide (0 ≤ x9_2) = false := decide_eq_false c13
                        clear c13
                        replace H := Option.bind_eq_some_iff.mp H
                        obtain ⟨t305, A210, H⟩ := H
                        replace H : (some t305) = some r := H
                        have A21 := Aside0.mk A210
                        clear A210
                        obtain rfl := Option.some.inj H
                        obtain ⟨Ao22, co22, eo22⟩ := Kd.R_slice HO_7.out
                        subst eo22
                        go_wp2_with (first | ((with_reducible refine gate_callee (f := 63) rfl ?_); refine goesL_ (some 54) rfl rfl Try.func63 (by kernel_rfl) rfl #[.slice Ao22 x7_2.length co22] rfl ar_ ?_; (with_reducible refine (vernierref01_cut.calls k2 (fun k_ => some k_ = (.slice Ao22 x7_2.length co22 : Value).ownBlock) (.slice Ao22 x7_2.length co22) x7_2 t305 w _ ?side1 ?side2 A21.out).mono ?_); (case side1 => repeat (first | (with_reducible first | exact HB.out | apply below_alloc | apply pw_below_drewN | apply below_drew1) | exact HB.out)); (case side2 => exact Kd.R_tight rfl HO_7.out); rintro e w23 ⟨v306, rfl, ho0, hb, hkp⟩; refine ⟨_, rfl, ?_⟩; have n0_ := Aside0.mk (Kd.R_mono (ok' := fun k_ => True) ho0 (fun k_ hk_ => trivial)); have n1_ := Aside0.mk (hb); clear HB; clear HO_7; have HO307 := n0_; have HB := n1_; clear n0_ n1_; (try clear hb); (try clear hkp); (try clear ho0)))
                        go_ret
                        exact ⟨_, by first | rfl | (simp [errW_none, errW_some] <;> rfl) | (simp only [← hji5]; first | rfl | (simp [errW_none, errW_some] <;> rfl)) | (simp [*, errW_none, errW_some] <;> rfl), by (with_reducible repeat (first | apply Kd.R_alloc | apply Kd.R_drewN | apply Kd.R_drew)); exact HO307.out, dn_ HB⟩
                · rw [if_neg c9] at H
                  exact absurd H (by simp)
              · rw [if_neg c8] at H
                exact absurd H (by simp)
            · rw [if_neg c7] at H
              exact absurd H (by simp)
          · rw [if_neg c6] at H
            exact absurd H (by simp)
def vernierref01_Bits.l0 : Nat → Int → Int → Option (Int)
  | 0, _, _ => none
  | k + 1, x3, x4 => if x4 > 0 then (vernierref01_Bits.l0 k (wrap64 (x3 + 1)) (wrap64 (Int.tdiv x4 2))) else (some x3)
def vernierref01_Bits.f (k : Nat) (l0 : List Int) : Option (Int) := if (l0.length : Int) = 0 then (some 0) else (if 0 ≤ (wrap64 ((l0.length : Int) - 1)) then (if (wrap64 ((l0.length : Int) - 1)) < (l0.length : Int) then (vernierref01_Bits.l0 k (wrap64 (16 * (wrap64 ((l0.length : Int) - 1)))) (rd l0 (wrap64 ((l0.length : Int) - 1)))) else (none)) else (none))
theorem vernierref01_Bits.mono_l : ∀ k, (∀ y0 y1, LeO (vernierref01_Bits.l0 k y0 y1) (vernierref01_Bits.l0 (k + 1) y0 y1))
  | 0 => fun _ _ r h => by simp [vernierref01_Bits.l0] at h
  | k + 1 => by
    have ih0 := vernierref01_Bits.mono_l k
    · intro y0 y1
      unfold vernierref01_Bits.l0
      repeat' first
      | (with_reducible exact ih0 _ _)
      | (with_reducible exact LeO.refl _)
      | (with_reducible exact LeO.none _)
      | (with_reducible refine LeO.ite ?_ ?_)
      | (with_reducible refine LeO.bind ?_ (fun _ => ?_))
      | exact ih0 _ _
      | exact LeO.none _
      | refine LeO.ite ?_ ?_
      | refine LeO.bind ?_ (fun _ => ?_)
theorem vernierref01_Bits.mono : ∀ a0 k, LeO (vernierref01_Bits.f k a0) (vernierref01_Bits.f (k + 1) a0) := by
  intro a0 k
  have ih0 := vernierref01_Bits.mono_l k
  unfold vernierref01_Bits.f
  repeat' first
      | (with_reducible exact ih0 _ _)
      | (with_reducible exact LeO.refl _)
      | (with_reducible exact LeO.none _)
      | (with_reducible refine LeO.ite ?_ ?_)
      | (with_reducible refine LeO.bind ?_ (fun _ => ?_))
      | exact ih0 _ _
      | exact LeO.none _
      | refine LeO.ite ?_ ?_
      | refine LeO.bind ?_ (fun _ => ?_)
set_option maxHeartbeats 8000000 in
set_option maxRecDepth 100000 in
theorem vernierref01_Bits.calls (k : Nat) (A0 : Option Addr) (c0 : Nat) (l0 : List Int) (r : Int) (w : World) (hr0 : Kd.C (Kd.int .i64) w A0 l0.length l0) (hc0 : l0.length ≤ c0) (h : vernierref01_Bits.f k l0 = some r) :
    Calls Try.prog 66 #[.slice A0 l0.length c0] w fun e w' => e = .returned (.int .i64 r) ∧ Drawn0 w w' := by
  have HR0 := Aside0.mk hr0
  have HC0 := Aside0.mk hc0
  clear hr0 hc0
  have H : (if (l0.length : Int) = 0 then (some 0) else (if 0 ≤ (wrap64 ((l0.length : Int) - 1)) then (if (wrap64 ((l0.length : Int) - 1)) < (l0.length : Int) then (vernierref01_Bits.l0 k (wrap64 (16 * (wrap64 ((l0.length : Int) - 1)))) (rd l0 (wrap64 ((l0.length : Int) - 1)))) else (none)) else (none))) = some r := h
  clear h
  by_cases c2 : (l0.length : Int) = 0
  · rw [if_pos c2] at H
    have c2b0 : ((l0.length : Int) == 0) = true := beq_iff_eq.mpr c2
    have c2b1 : ((l0.length : Int) != 0) = false := bne_eq_false_iff_eq.mpr c2
    clear c2
    obtain rfl := Option.some.inj H
    go_enter Try.func66, Try.ntmps66
    go_wp2
    go_ret
    exact ⟨by first | rfl | (simp; done) | (simp [*]; done), by repeat (first | exact Drawn0.refl _ | apply Drawn0.step)⟩
  · rw [if_neg c2] at H
    have c2b0 : ((l0.length : Int) == 0) = false := beq_eq_false_iff_ne.mpr c2
    have c2b1 : ((l0.length : Int) != 0) = true := bne_iff_ne.mpr c2
    have c2b2 : ¬ (l0 = []) := fun h_ => c2 (by rw [h_]; rfl)
    obtain ⟨ji3, hji3⟩ : ∃ j_ : Int, (wrap64 ((l0.length : Int) - 1)) = j_ := ⟨_, rfl⟩
    replace H : (if 0 ≤ (ji3) then (if (ji3) < (l0.length : Int) then (vernierref01_Bits.l0 k (wrap64 (16 * (ji3))) (rd l0 (ji3))) else (none)) else (none)) = some r := by first | (rw [hji3] at H; exact H) | (simp only [hji3] at H ⊢; exact H)
    have hji3w : (IntKind.i64.wrap ((l0.length : Int) - 1)) = ji3 := (i64_w _).trans hji3
    by_cases c4 : 0 ≤ (ji3)
    · rw [if_pos c4] at H
      have c4b0 : decide (0 ≤ (ji3)) = true := decide_eq_true c4
      clear c4
      by_cases c5 : (ji3) < (l0.length : Int)
      · rw [if_pos c5] at H
        have c5b0 : decide ((ji3) < (l0.length : Int)) = true := decide_eq_true c5
        clear c5
        have H' := Aside0.mk H
        clear H
        have p308 : 0 ≤ ((ji3) : Int) := of_decide_eq_true as_
        have q308 : (ji3) < (l0.length : Int) := of_decide_eq_true as_
        obtain ⟨ad308, e308, hx308_0⟩ := Kd.at_int HR0.out (ji3) p308 q308
        cases e308
        replace p308 := eq_true p308
        replace q308 := eq_true q308
        (try (have q308n := q308; simp only [Int.ofNat_lt] at q308n))
        (try (have q308d := q308; simp only [List.length_drop] at q308d))
        go_enter Try.func66, Try.ntmps66
        go_wp2
        go_loopg [3, 4] k (fun kq v3 v4 w' => ∃ (x3_1 : Int) (x4_1 : Int), v3 = .int .i64 x3_1 ∧ v4 = .int .i64 x4_1 ∧ Aside0 (vernierref01_Bits.l0 kq x3_1 x4_1 = some r) ∧ Aside0 (kq ≤ k) ∧ Drawn0 w w')
        case atStart => exact ⟨(wrap64 (16 * (ji3))), (rd l0 (ji3)), (by first | rfl | (simp; done) | (simp only [← hji3] <;> (first | rfl | simp)) | (simp [*]; done)), (by first | rfl | (simp; done) | (simp only [← hji3] <;> (first | rfl | simp)) | (simp [*]; done)), H', ⟨Nat.le_refl _⟩, by repeat (first | exact Drawn0.refl _ | apply Drawn0.step)⟩
        case round =>
          clear H'
          try clear c2
          try clear c2b0
          try clear c2b1
          try clear c2b2
          try clear p2
          try clear p3
          try clear q3
          try clear hx3
          try clear c4
          try clear c4b0
          try clear c5
          try clear c5b0
          try clear hx308_0
          try clear p308
          try clear q308
          obtain ⟨x3_1, x4_1, rfl, rfl, HA, HK1, ⟨m1, rfl⟩⟩ := hrel
          cases gk with
          | zero => exact absurd HA.out (by simp [vernierref01_Bits.l0])
          | succ k1 =>
            have H := HA.out
            clear HA
            simp only [vernierref01_Bits.l0] at H
            by_cases c6 : x4_1 > 0
            · rw [if_pos c6] at H
              have c6b0 : decide (0 < x4_1) = true := decide_eq_true c6
              clear c6
              have H' := Aside0.mk H
              clear H
              go_wp2
              go_roundg k1
              case measure => have := HK1.out; omega
              case rel => exact ⟨(wrap64 (x3_1 + 1)), (wrap64 (Int.tdiv x4_1 2)), (by first | rfl | (simp; done) | (simp [*]; done)), (by first | rfl | (simp; done) | (simp [*]; done)), H', ⟨by have := HK1.out; omega⟩, by repeat (first | exact Drawn0.refl _ | apply Drawn0.step)⟩
            · rw [if_neg c6] at H
              have c6b0 : decide (0 < x4_1) = false := decide_eq_false c6
              clear c6
              obtain rfl := Option.some.inj H
              go_wp2
              go_ret
              exact ⟨by first | rfl | (simp; done) | (simp only [← hji3] <;> (first | rfl | simp)) | (simp [*]; done), by repeat (first | exact Drawn0.refl _ | apply Drawn0.step)⟩
      · rw [if_neg c5] at H
        exact absurd H (by simp)
    · rw [if_neg c4] at H
      exact absurd H (by simp)
mutual
def vernierref01_Add.l0 : Nat → List Int → List Int → List Int → Int → Int → Option (List Int)
  | 0, _, _, _, _, _ => none
  | k + 1, x0, x1, x5, x6, x7 => if x7 < (x0.length : Int) then (vernierref01_Add.j1 k x0 x1 x5 x6 x7 true) else (if x7 < (x1.length : Int) then (vernierref01_Add.j1 k x0 x1 x5 x6 x7 true) else (vernierref01_Add.j1 k x0 x1 x5 x6 x7 (decide (x6 > 0))))
def vernierref01_Add.j1 : Nat → List Int → List Int → List Int → Int → Int → Bool → Option (List Int)
  | 0, _, _, _, _, _, _ => none
  | k + 1, x0, x1, x5, x6, x7, x21 => if x21 = true then (if x7 < (x0.length : Int) then (if 0 ≤ x7 then (if x7 < (x1.length : Int) then (if x5.length < 17592186044416 then (vernierref01_Add.l0 k x0 x1 (x5 ++ [Int.tmod (wrap64 ((wrap64 (x6 + (rd x0 x7))) + (rd x1 x7))) 65536]) (wrap64 (Int.tdiv (wrap64 ((wrap64 (x6 + (rd x0 x7))) + (rd x1 x7))) 65536)) (wrap64 (x7 + 1))) else (none)) else (if x5.length < 17592186044416 then (vernierref01_Add.l0 k x0 x1 (x5 ++ [Int.tmod (wrap64 (x6 + (rd x0 x7))) 65536]) (wrap64 (Int.tdiv (wrap64 (x6 + (rd x0 x7))) 65536)) (wrap64 (x7 + 1))) else (none))) else (none)) else (if x7 < (x1.length : Int) then (if 0 ≤ x7 then (if x5.length < 17592186044416 then (vernierref01_Add.l0 k x0 x1 (x5 ++ [Int.tmod (wrap64 (x6 + (rd x1 x7))) 65536]) (wrap64 (Int.tdiv (wrap64 (x6 + (rd x1 x7))) 65536)) (wrap64 (x7 + 1))) else (none)) else (none)) else (if x5.length < 17592186044416 then (vernierref01_Add.l0 k x0 x1 (x5 ++ [Int.tmod x6 65536]) (wrap64 (Int.tdiv x6 65536)) (wrap64 (x7 + 1))) else (none)))) else ((vernierref01_cut.f k x5).bind fun t309 => (some t309))
end
def vernierref01_Add.f (k : Nat) (l0 : List Int) (l1 : List Int) : Option (List Int) := vernierref01_Add.l0 k l0 l1 ([] : List Int) 0 0
theorem vernierref01_Add.mono_l : ∀ k, (∀ y0 y1 y2 y3 y4, LeO (vernierref01_Add.l0 k y0 y1 y2 y3 y4) (vernierref01_Add.l0 (k + 1) y0 y1 y2 y3 y4)) ∧ (∀ y0 y1 y2 y3 y4 y5, LeO (vernierref01_Add.j1 k y0 y1 y2 y3 y4 y5) (vernierref01_Add.j1 (k + 1) y0 y1 y2 y3 y4 y5))
  | 0 => ⟨fun _ _ _ _ _ r h => by simp [vernierref01_Add.l0] at h, fun _ _ _ _ _ _ r h => by simp [vernierref01_Add.j1] at h⟩
  | k + 1 => by
    obtain ⟨ih0, ih1⟩ := vernierref01_Add.mono_l k
    refine ⟨?_, ?_⟩
    · intro y0 y1 y2 y3 y4
      unfold vernierref01_Add.l0
      repeat' first
      | (with_reducible exact ih0 _ _ _ _ _)
      | (with_reducible exact ih1 _ _ _ _ _ _)
      | (with_reducible exact vernierref01_cut.mono _ _)
      | (with_reducible exact LeO.refl _)
      | (with_reducible exact LeO.none _)
      | (with_reducible refine LeO.ite ?_ ?_)
      | (with_reducible refine LeO.bind ?_ (fun _ => ?_))
      | exact ih0 _ _ _ _ _
      | exact ih1 _ _ _ _ _ _
      | exact vernierref01_cut.mono _ _
      | exact LeO.none _
      | refine LeO.ite ?_ ?_
      | refine LeO.bind ?_ (fun _ => ?_)
    · intro y0 y1 y2 y3 y4 y5
      unfold vernierref01_Add.j1
      repeat' first
      | (with_reducible exact ih0 _ _ _ _ _)
      | (with_reducible exact ih1 _ _ _ _ _ _)
      | (with_reducible exact vernierref01_cut.mono _ _)
      | (with_reducible exact LeO.refl _)
      | (with_reducible exact LeO.none _)
      | (with_reducible refine LeO.ite ?_ ?_)
      | (with_reducible refine LeO.bind ?_ (fun _ => ?_))
      | exact ih0 _ _ _ _ _
      | exact ih1 _ _ _ _ _ _
      | exact vernierref01_cut.mono _ _
      | exact LeO.none _
      | refine LeO.ite ?_ ?_
      | refine LeO.bind ?_ (fun _ => ?_)
theorem vernierref01_Add.mono : ∀ a0 a1 k, LeO (vernierref01_Add.f k a0 a1) (vernierref01_Add.f (k + 1) a0 a1) := by
  intro a0 a1 k
  obtain ⟨ih0, ih1⟩ := vernierref01_Add.mono_l k
  unfold vernierref01_Add.f
  repeat' first
      | (with_reducible exact ih0 _ _ _ _ _)
      | (with_reducible exact ih1 _ _ _ _ _ _)
      | (with_reducible exact vernierref01_cut.mono _ _)
      | (with_reducible exact LeO.refl _)
      | (with_reducible exact LeO.none _)
      | (with_reducible refine LeO.ite ?_ ?_)
      | (with_reducible refine LeO.bind ?_ (fun _ => ?_))
      | exact ih0 _ _ _ _ _
      | exact ih1 _ _ _ _ _ _
      | exact vernierref01_cut.mono _ _
      | exact LeO.none _
      | refine LeO.ite ?_ ?_
      | refine LeO.bind ?_ (fun _ => ?_)
set_option maxHeartbeats 8000000 in
set_option maxRecDepth 100000 in
theorem vernierref01_Add.calls (k : Nat) (A0 : Option Addr) (c0 : Nat) (l0 : List Int) (A1 : Option Addr) (c1 : Nat) (l1 : List Int) (r : List Int) (w : World) (hr0 : Kd.C (Kd.int .i64) w A0 l0.length l0) (hc0 : l0.length ≤ c0) (hr1 : Kd.C (Kd.int .i64) w A1 l1.length l1) (hc1 : l1.length ≤ c1) (h : vernierref01_Add.f k l0 l1 = some r) :
    Calls Try.prog 67 #[.slice A0 l0.length c0, .slice A1 l1.length c1] w fun e w' => ∃ v0_ : Value, e = .returned (v0_) ∧ Kd.R (Kd.int .i64) 3 w' w.heap.size (fun _ => True) v0_ r ∧ Below w.heap.size w w' := by
  have HR0 := Aside0.mk hr0
  have HC0 := Aside0.mk hc0
  clear hr0 hc0
  have HR1 := Aside0.mk hr1
  have HC1 := Aside0.mk hc1
  clear hr1 hc1
  have HB := Aside0.mk (Below.refl w.heap.size w)
  have H : (vernierref01_Add.l0 k l0 l1 ([] : List Int) 0 0) = some r := h
  clear h
  have H' := Aside0.mk H
  clear H
  go_enter Try.func67, Try.ntmps67
  go_wp2
  go_loopg [5, 6, 7] k (fun kq v5 v6 v7 w' => ∃ (x5_1 : List Int) (x6_1 : Int) (x7_1 : Int), v6 = .int .i64 x6_1 ∧ v7 = .int .i64 x7_1 ∧ Aside0 (vernierref01_Add.l0 kq l0 l1 x5_1 x6_1 x7_1 = some r) ∧ Aside0 (kq ≤ k) ∧ Aside0 (Kd.R (Kd.int .i64) 3 w' w.heap.size (fun _ => True) v5 x5_1) ∧ Aside0 (Below w.heap.size w w'))
  case atStart => exact ⟨(([] : List Int)), (0), (0), (by first | rfl | (simp; done) | (simp [*]; done)), (by first | rfl | (simp; done) | (simp [*]; done)), H', ⟨Nat.le_refl _⟩, ⟨by first | exact Kd.R_nil _ _ _ _ _ | exact Kd.N_nil _ _ _ _ _ | exact Kd.V_nil _ _ _ _ _ | exact Kd.Q_nil _ _ _ _ _ | exact Kd.S_nil _ _ _ _ _⟩, ⟨dn_ HB⟩⟩
  case round =>
    clear H'
    try clear c1
    try clear p2
    obtain ⟨x5_1, x6_1, x7_1, rfl, rfl, HA, HK1, HO_5, HB⟩ := hrel
    cases gk with
    | zero => exact absurd HA.out (by simp [vernierref01_Add.l0])
    | succ k1 =>
      have H := HA.out
      clear HA
      simp only [vernierref01_Add.l0] at H
      have HC3 := Aside0.mk H
      clear H
      go_upto_region 4 with (fail)
      go_cut [21] (fun v21 wc => ∃ (kq : Nat) (x21_2 : Bool), v21 = .bool x21_2 ∧ Aside0 (vernierref01_Add.j1 kq l0 l1 x5_1 x6_1 x7_1 x21_2 = some r) ∧ Aside0 (kq ≤ k1) ∧ Aside0 (Kd.R (Kd.int .i64) 3 wc w.heap.size (fun _ => True) u5 x5_1) ∧ Aside0 (Below w.heap.size w wc))
      case first =>
        have H := HC3.out
        clear HC3
        by_cases c4 : x7_1 < (l0.length : Int)
        · rw [if_pos c4] at H
          have c4b0 : decide (x7_1 < (l0.length : Int)) = true := decide_eq_true c4
          clear c4
          (first | rw [c4b0] | (simp only [i64_w, i32_w]; rw [c4b0]) | skip)
          have H' := Aside0.mk H
          clear H
          go_wp2
          go_meet
          case rel => exact ⟨_, (true), (by first | rfl | (simp; done) | (simp [*]; done)), H', ⟨by have := HK1.out; first | omega | exact Nat.le_refl _⟩, ⟨by (with_reducible repeat (first | apply Kd.R_alloc | apply Kd.R_drewN | apply Kd.R_drew)); exact HO_5.out⟩, ⟨dn_ HB⟩⟩
        · rw [if_neg c4] at H
          have c4b0 : decide (x7_1 < (l0.length : Int)) = false := decide_eq_false c4
          clear c4
          (first | rw [c4b0] | (simp only [i64_w, i32_w]; rw [c4b0]) | skip)
          by_cases c5 : x7_1 < (l1.length : Int)
          · rw [if_pos c5] at H
            have c5b0 : decide (x7_1 < (l1.length : Int)) = true := decide_eq_true c5
            clear c5
            have H' := Aside0.mk H
            clear H
            go_wp2
            go_meet
            case rel => exact ⟨_, (true), (by first | rfl | (simp; done) | (simp [*]; done)), H', ⟨by have := HK1.out; first | omega | exact Nat.le_refl _⟩, ⟨by (with_reducible repeat (first | apply Kd.R_alloc | apply Kd.R_drewN | apply Kd.R_drew)); exact HO_5.out⟩, ⟨dn_ HB⟩⟩
          · rw [if_neg c5] at H
            have c5b0 : decide (x7_1 < (l1.length : Int)) = false := decide_eq_false c5
            clear c5
            have H' := Aside0.mk H
            clear H
            go_wp2
            go_meet
            case rel => exact ⟨_, (decide (x6_1 > 0)), (by first | rfl | (simp; done) | (simp [*]; done)), H', ⟨by have := HK1.out; first | omega | exact Nat.le_refl _⟩, ⟨by (with_reducible repeat (first | apply Kd.R_alloc | apply Kd.R_drewN | apply Kd.R_drew)); exact HO_5.out⟩, ⟨dn_ HB⟩⟩
      case rest =>
        clear HC3
        try clear c1
        try clear p2
        try clear c4
        try clear c4b0
        try clear c5
        try clear c5b0
        try clear p2
        obtain ⟨kq, x21_2, rfl, HA, HJ2, HO_5, HB⟩ := hcut
        cases kq with
        | zero => exact absurd HA.out (by simp [vernierref01_Add.j1])
        | succ kj2 =>
          have H := HA.out
          clear HA
          simp only [vernierref01_Add.j1] at H
          by_cases c6 : x21_2 = true
          · subst c6
            have H1 : (if x7_1 < (l0.length : Int) then (if 0 ≤ x7_1 then (if x7_1 < (l1.length : Int) then (if x5_1.length < 17592186044416 then (vernierref01_Add.l0 kj2 l0 l1 (x5_1 ++ [Int.tmod (wrap64 ((wrap64 (x6_1 + (rd l0 x7_1))) + (rd l1 x7_1))) 65536]) (wrap64 (Int.tdiv (wrap64 ((wrap64 (x6_1 + (rd l0 x7_1))) + (rd l1 x7_1))) 65536)) (wrap64 (x7_1 + 1))) else (none)) else (if x5_1.length < 17592186044416 then (vernierref01_Add.l0 kj2 l0 l1 (x5_1 ++ [Int.tmod (wrap64 (x6_1 + (rd l0 x7_1))) 65536]) (wrap64 (Int.tdiv (wrap64 (x6_1 + (rd l0 x7_1))) 65536)) (wrap64 (x7_1 + 1))) else (none))) else (none)) else (if x7_1 < (l1.length : Int) then (if 0 ≤ x7_1 then (if x5_1.length < 17592186044416 then (vernierref01_Add.l0 kj2 l0 l1 (x5_1 ++ [Int.tmod (wrap64 (x6_1 + (rd l1 x7_1))) 65536]) (wrap64 (Int.tdiv (wrap64 (x6_1 + (rd l1 x7_1))) 65536)) (wrap64 (x7_1 + 1))) else (none)) else (none)) else (if x5_1.length < 17592186044416 then (vernierref01_Add.l0 kj2 l0 l1 (x5_1 ++ [Int.tmod x6_1 65536]) (wrap64 (Int.tdiv x6_1 65536)) (wrap64 (x7_1 + 1))) else (none)))) = some r := by rw [if_pos rfl] at H; exact H
            clear H
            have H := H1
            clear H1
            by_cases c7 : x7_1 < (l0.length : Int)
            · rw [if_pos c7] at H
              have c7b0 : decide (x7_1 < (l0.length : Int)) = true := decide_eq_true c7
              clear c7
              by_cases c8 : 0 ≤ x7_1
              · rw [if_pos c8] at H
                have c8b0 : decide (0 ≤ x7_1) = true := decide_eq_true c8
                clear c8
                by_cases c9 : x7_1 < (l1.length : Int)
                · rw [if_pos c9] at H
                  have c9b0 : decide (x7_1 < (l1.length : Int)) = true := decide_eq_true c9
                  clear c9
                  by_cases c10 : x5_1.length < 17592186044416
                  · rw [if_pos c10] at H
                    have LMc10 := Aside0.mk c10
                    clear c10
                    obtain ⟨y314, hy314⟩ : ∃ y_ : List Int, y_ = (x5_1 ++ [Int.tmod (wrap64 ((wrap64 (x6_1 + (rd l0 x7_1))) + (rd l1 x7_1))) 65536]) := ⟨_, rfl⟩
                    replace H : (vernierref01_Add.l0 kj2 l0 l1 y314 (wrap64 (Int.tdiv (wrap64 ((wrap64 (x6_1 + (rd l0 x7_1))) + (rd l1 x7_1))) 65536)) (wrap64 (x7_1 + 1))) = some r := by first | (rw [hy314]; with_reducible exact H) | (have H2_ := (Option.bind_some _ _).symm.trans H; rw [hy314]; with_reducible exact H2_) | (have H2_ := (Option.bind_some _ _).symm.trans H; with_reducible exact H2_) | with_reducible exact H | (rw [hy314]; exact H) | exact H
                    have Ny314 := Aside0.mk hy314
                    clear hy314
                    have H' := Aside0.mk H
                    clear H
                    have p312 : 0 ≤ (x7_1 : Int) := of_decide_eq_true as_
                    have q312 : x7_1 < (l0.length : Int) := of_decide_eq_true as_
                    obtain ⟨ad312, e312, hx312_0⟩ := Kd.at_int HR0.out x7_1 p312 q312
                    cases e312
                    replace hx312_0 := (HB.out.cell (World.block_lt_of_cell? w _ hx312_0)).trans hx312_0
                    replace p312 := eq_true p312
                    replace q312 := eq_true q312
                    (try (have q312n := q312; simp only [Int.ofNat_lt] at q312n))
                    (try (have q312d := q312; simp only [List.length_drop] at q312d))
                    have p313 : 0 ≤ (x7_1 : Int) := of_decide_eq_true as_
                    have q313 : x7_1 < (l1.length : Int) := of_decide_eq_true as_
                    obtain ⟨ad313, e313, hx313_0⟩ := Kd.at_int HR1.out x7_1 p313 q313
                    cases e313
                    replace hx313_0 := (HB.out.cell (World.block_lt_of_cell? w _ hx313_0)).trans hx313_0
                    replace p313 := eq_true p313
                    replace q313 := eq_true q313
                    (try (have q313n := q313; simp only [Int.ofNat_lt] at q313n))
                    (try (have q313d := q313; simp only [List.length_drop] at q313d))
                    go_wp2_with (first | ((with_reducible refine gate_builtin (b := .append) (xs := #[.tmp 44, .tmp 47]) rfl ?_); (try (refine gate_guard (by rfl) ?_; dsimp only)); at_builtin; refine Kd.R_append (Kd.int .i64) (w0 := w) w.heap.size rfl (.tmp 44) (.tmp 47) 33 3 (.int .i64 0) 8 rfl Try.underlying33 info3 rfl (by decide) (by omega) u5 x5_1 (Int.tmod (wrap64 ((wrap64 (x6_1 + (rd l0 x7_1))) + (rd l1 x7_1))) 65536) [.int .i64 (Int.tmod (wrap64 ((wrap64 (x6_1 + (rd l0 x7_1))) + (rd l1 x7_1))) 65536)] (fun _ => True) (fun _ => False) rfl rfl ?aP (fun _ hk => hk.elim) ?aF ?aO ?aB ?aS ?aL ?_; (case aP => exact rfl); (case aB => exact (dn_ HB)); (case aF => exact (fun _ _ => trivial)); (case aO => exact (up_ HO_5)); (case aS => exact (below_size (dn_ HB))); (case aL => have := LMc10.out; omega); intro v315 w11 ho hb hg hat; rw [← Ny314.out] at ho; have n0_ := Aside0.mk (hb); have n1_ := Aside0.mk (ho); clear HB; clear HO_5; have HB := n0_; have HO316 := n1_; clear n0_ n1_; clear ho hb hg hat))
                    go_roundg kj2
                    case measure => have := HK1.out; have := HJ2.out; omega
                    case rel => exact ⟨(y314), (wrap64 (Int.tdiv (wrap64 ((wrap64 (x6_1 + (rd l0 x7_1))) + (rd l1 x7_1))) 65536)), (wrap64 (x7_1 + 1)), (by first | rfl | (simp; done) | (simp [*]; done)), (by first | rfl | (simp; done) | (simp [*]; done)), H', ⟨by have := HK1.out; have := HJ2.out; omega⟩, ⟨by (with_reducible repeat (first | apply Kd.R_alloc | apply Kd.R_drewN | apply Kd.R_drew)); exact HO316.out⟩, ⟨dn_ HB⟩⟩
                  · rw [if_neg c10] at H
                    exact absurd H (by simp)
                · rw [if_neg c9] at H
                  have c9b0 : decide (x7_1 < (l1.length : Int)) = false := decide_eq_false c9
                  clear c9
                  by_cases c12 : x5_1.length < 17592186044416
                  · rw [if_pos c12] at H
                    have LMc12 := Aside0.mk c12
                    clear c12
                    obtain ⟨y317, hy317⟩ : ∃ y_ : List Int, y_ = (x5_1 ++ [Int.tmod (wrap64 (x6_1 + (rd l0 x7_1))) 65536]) := ⟨_, rfl⟩
                    replace H : (vernierref01_Add.l0 kj2 l0 l1 y317 (wrap64 (Int.tdiv (wrap64 (x6_1 + (rd l0 x7_1))) 65536)) (wrap64 (x7_1 + 1))) = some r := by first | (rw [hy317]; with_reducible exact H) | (have H2_ := (Option.bind_some _ _).symm.trans H; rw [hy317]; with_reducible exact H2_) | (have H2_ := (Option.bind_some _ _).symm.trans H; with_reducible exact H2_) | with_reducible exact H | (rw [hy317]; exact H) | exact H
                    have Ny317 := Aside0.mk hy317
                    clear hy317
                    have H' := Aside0.mk H
                    clear H
                    have p312 : 0 ≤ (x7_1 : Int) := of_decide_eq_true as_
                    have q312 : x7_1 < (l0.length : Int) := of_decide_eq_true as_
                    obtain ⟨ad312, e312, hx312_0⟩ := Kd.at_int HR0.out x7_1 p312 q312
                    cases e312
                    replace hx312_0 := (HB.out.cell (World.block_lt_of_cell? w _ hx312_0)).trans hx312_0
                    replace p312 := eq_true p312
                    replace q312 := eq_true q312
                    (try (have q312n := q312; simp only [Int.ofNat_lt] at q312n))
                    (try (have q312d := q312; simp only [List.length_drop] at q312d))
                    go_wp2_with (first | ((with_reducible refine gate_builtin (b := .append) (xs := #[.tmp 44, .tmp 47]) rfl ?_); (try (refine gate_guard (by rfl) ?_; dsimp only)); at_builtin; refine Kd.R_append (Kd.int .i64) (w0 := w) w.heap.size rfl (.tmp 44) (.tmp 47) 33 3 (.int .i64 0) 8 rfl Try.underlying33 info3 rfl (by decide) (by omega) u5 x5_1 (Int.tmod (wrap64 (x6_1 + (rd l0 x7_1))) 65536) [.int .i64 (Int.tmod (wrap64 (x6_1 + (rd l0 x7_1))) 65536)] (fun _ => True) (fun _ => False) rfl rfl ?aP (fun _ hk => hk.elim) ?aF ?aO ?aB ?aS ?aL ?_; (case aP => exact rfl); (case aB => exact (dn_ HB)); (case aF => exact (fun _ _ => trivial)); (case aO => exact (up_ HO_5)); (case aS => exact (below_size (dn_ HB))); (case aL => have := LMc12.out; omega); intro v318 w13 ho hb hg hat; rw [← Ny317.out] at ho; have n0_ := Aside0.mk (hb); have n1_ := Aside0.mk (ho); clear HB; clear HO_5; have HB := n0_; have HO319 := n1_; clear n0_ n1_; clear ho hb hg hat))
                    go_roundg kj2
                    case measure => have := HK1.out; have := HJ2.out; omega
                    case rel => exact ⟨(y317), (wrap64 (Int.tdiv (wrap64 (x6_1 + (rd l0 x7_1))) 65536)), (wrap64 (x7_1 + 1)), (by first | rfl | (simp; done) | (simp [*]; done)), (by first | rfl | (simp; done) | (simp [*]; done)), H', ⟨by have := HK1.out; have := HJ2.out; omega⟩, ⟨by (with_reducible repeat (first | apply Kd.R_alloc | apply Kd.R_drewN | apply Kd.R_drew)); exact HO319.out⟩, ⟨dn_ HB⟩⟩
                  · rw [if_neg c12] at H
                    exact absurd H (by simp)
              · rw [if_neg c8] at H
                exact absurd H (by simp)
            · rw [if_neg c7] at H
              have c7b0 : decide (x7_1 < (l0.length : Int)) = false := decide_eq_false c7
              clear c7
              by_cases c14 : x7_1 < (l1.length : Int)
              · rw [if_pos c14] at H
                have c14b0 : decide (x7_1 < (l1.length : Int)) = true := decide_eq_true c14
                clear c14
                by_cases c15 : 0 ≤ x7_1
                · rw [if_pos c15] at H
                  have c15b0 : decide (0 ≤ x7_1) = true := decide_eq_true c15
                  clear c15
                  by_cases c16 : x5_1.length < 17592186044416
                  · rw [if_pos c16] at H
                    have LMc16 := Aside0.mk c16
                    clear c16
                    obtain ⟨y321, hy321⟩ : ∃ y_ : List Int, y_ = (x5_1 ++ [Int.tmod (wrap64 (x6_1 + (rd l1 x7_1))) 65536]) := ⟨_, rfl⟩
                    replace H : (vernierref01_Add.l0 kj2 l0 l1 y321 (wrap64 (Int.tdiv (wrap64 (x6_1 + (rd l1 x7_1))) 65536)) (wrap64 (x7_1 + 1))) = some r := by first | (rw [hy321]; with_reducible exact H) | (have H2_ := (Option.bind_some _ _).symm.trans H; rw [hy321]; with_reducible exact H2_) | (have H2_ := (Option.bind_some _ _).symm.trans H; with_reducible exact H2_) | with_reducible exact H | (rw [hy321]; exact H) | exact H
                    have Ny321 := Aside0.mk hy321
                    clear hy321
                    have H' := Aside0.mk H
                    clear H
                    have p320 : 0 ≤ (x7_1 : Int) := of_decide_eq_true as_
                    have q320 : x7_1 < (l1.length : Int) := of_decide_eq_true as_
                    obtain ⟨ad320, e320, hx320_0⟩ := Kd.at_int HR1.out x7_1 p320 q320
                    cases e320
                    replace hx320_0 := (HB.out.cell (World.block_lt_of_cell? w _ hx320_0)).trans hx320_0
                    replace p320 := eq_true p320
                    replace q320 := eq_true q320
                    (try (have q320n := q320; simp only [Int.ofNat_lt] at q320n))
                    (try (have q320d := q320; simp only [List.length_drop] at q320d))
                    go_wp2_with (first | ((with_reducible refine gate_builtin (b := .append) (xs := #[.tmp 44, .tmp 47]) rfl ?_); (try (refine gate_guard (by rfl) ?_; dsimp only)); at_builtin; refine Kd.R_append (Kd.int .i64) (w0 := w) w.heap.size rfl (.tmp 44) (.tmp 47) 33 3 (.int .i64 0) 8 rfl Try.underlying33 info3 rfl (by decide) (by omega) u5 x5_1 (Int.tmod (wrap64 (x6_1 + (rd l1 x7_1))) 65536) [.int .i64 (Int.tmod (wrap64 (x6_1 + (rd l1 x7_1))) 65536)] (fun _ => True) (fun _ => False) rfl rfl ?aP (fun _ hk => hk.elim) ?aF ?aO ?aB ?aS ?aL ?_; (case aP => exact rfl); (case aB => exact (dn_ HB)); (case aF => exact (fun _ _ => trivial)); (case aO => exact (up_ HO_5)); (case aS => exact (below_size (dn_ HB))); (case aL => have := LMc16.out; omega); intro v322 w17 ho hb hg hat; rw [← Ny321.out] at ho; have n0_ := Aside0.mk (hb); have n1_ := Aside0.mk (ho); clear HB; clear HO_5; have HB := n0_; have HO323 := n1_; clear n0_ n1_; clear ho hb hg hat))
                    go_roundg kj2
                    case measure => have := HK1.out; have := HJ2.out; omega
                    case rel => exact ⟨(y321), (wrap64 (Int.tdiv (wrap64 (x6_1 + (rd l1 x7_1))) 65536)), (wrap64 (x7_1 + 1)), (by first | rfl | (simp; done) | (simp [*]; done)), (by first | rfl | (simp; done) | (simp [*]; done)), H', ⟨by have := HK1.out; have := HJ2.out; omega⟩, ⟨by (with_reducible repeat (first | apply Kd.R_alloc | apply Kd.R_drewN | apply Kd.R_drew)); exact HO323.out⟩, ⟨dn_ HB⟩⟩
                  · rw [if_neg c16] at H
                    exact absurd H (by simp)
                · rw [if_neg c15] at H
                  exact absurd H (by simp)
              · rw [if_neg c14] at H
                have c14b0 : decide (x7_1 < (l1.length : Int)) = false := decide_eq_false c14
                clear c14
                by_cases c18 : x5_1.length < 17592186044416
                · rw [if_pos c18] at H
                  have LMc18 := Aside0.mk c18
                  clear c18
                  obtain ⟨y324, hy324⟩ : ∃ y_ : List Int, y_ = (x5_1 ++ [Int.tmod x6_1 65536]) := ⟨_, rfl⟩
                  replace H : (vernierref01_Add.l0 kj2 l0 l1 y324 (wrap64 (Int.tdiv x6_1 65536)) (wrap64 (x7_1 + 1))) = some r := by first | (rw [hy324]; with_reducible exact H) | (have H2_ := (Option.bind_some _ _).symm.trans H; rw [hy324]; with_reducible exact H2_) | (have H2_ := (Option.bind_some _ _).symm.trans H; with_reducible exact H2_) | with_reducible exact H | (rw [hy324]; exact H) | exact H
                  have Ny324 := Aside0.mk hy324
                  clear hy324
                  have H' := Aside0.mk H
                  clear H
                  go_wp2_with (first | ((with_reducible refine gate_builtin (b := .append) (xs := #[.tmp 44, .tmp 47]) rfl ?_); (try (refine gate_guard (by rfl) ?_; dsimp only)); at_builtin; refine Kd.R_append (Kd.int .i64) (w0 := w) w.heap.size rfl (.tmp 44) (.tmp 47) 33 3 (.int .i64 0) 8 rfl Try.underlying33 info3 rfl (by decide) (by omega) u5 x5_1 (Int.tmod x6_1 65536) [.int .i64 (Int.tmod x6_1 65536)] (fun _ => True) (fun _ => False) rfl rfl ?aP (fun _ hk => hk.elim) ?aF ?aO ?aB ?aS ?aL ?_; (case aP => exact rfl); (case aB => exact (dn_ HB)); (case aF => exact (fun _ _ => trivial)); (case aO => exact (up_ HO_5)); (case aS => exact (below_size (dn_ HB))); (case aL => have := LMc18.out; omega); intro v325 w19 ho hb hg hat; rw [← Ny324.out] at ho; have n0_ := Aside0.mk (hb); have n1_ := Aside0.mk (ho); clear HB; clear HO_5; have HB := n0_; have HO326 := n1_; clear n0_ n1_; clear ho hb hg hat))
                  go_roundg kj2
                  case measure => have := HK1.out; have := HJ2.out; omega
                  case rel => exact ⟨(y324), (wrap64 (Int.tdiv x6_1 65536)), (wrap64 (x7_1 + 1)), (by first | rfl | (simp; done) | (simp [*]; done)), (by first | rfl | (simp; done) | (simp [*]; done)), H', ⟨by have := HK1.out; have := HJ2.out; omega⟩, ⟨by (with_reducible repeat (first | apply Kd.R_alloc | apply Kd.R_drewN | apply Kd.R_drew)); exact HO326.out⟩, ⟨dn_ HB⟩⟩
                · rw [if_neg c18] at H
                  exact absurd H (by simp)
          · replace c6 := Bool.eq_false_iff.mpr c6
            subst c6
            have H1 : ((vernierref01_cut.f kj2 x5_1).bind fun t309 => (some t309)) = some r := by rw [if_neg (show ¬ (false = true) by decide)] at H; exact H
            clear H
            have H := H1
            clear H1
            replace H := Option.bind_eq_some_iff.mp H
            obtain ⟨t309, A200, H⟩ := H
            replace H : (some t309) = some r := H
            have A20 := Aside0.mk A200
            clear A200
            obtain rfl := Option.some.inj H
            obtain ⟨Ao21, co21, eo21⟩ := Kd.R_slice HO_5.out
            subst eo21
            go_wp2_with (first | ((with_reducible refine gate_callee (f := 63) rfl ?_); refine goesL_ (some 52) rfl rfl Try.func63 (by kernel_rfl) rfl #[.slice Ao21 x5_1.length co21] rfl ar_ ?_; (with_reducible refine (vernierref01_cut.calls kj2 (fun k_ => some k_ = (.slice Ao21 x5_1.length co21 : Value).ownBlock) (.slice Ao21 x5_1.length co21) x5_1 t309 w _ ?side1 ?side2 A20.out).mono ?_); (case side1 => repeat (first | (with_reducible first | exact HB.out | apply below_alloc | apply pw_below_drewN | apply below_drew1) | exact HB.out)); (case side2 => exact Kd.R_tight rfl HO_5.out); rintro e w22 ⟨v310, rfl, ho0, hb, hkp⟩; refine ⟨_, rfl, ?_⟩; have n0_ := Aside0.mk (Kd.R_mono (ok' := fun k_ => True) ho0 (fun k_ hk_ => trivial)); have n1_ := Aside0.mk (hb); clear HB; clear HO_5; have HO311 := n0_; have HB := n1_; clear n0_ n1_; (try clear hb); (try clear hkp); (try clear ho0)))
            go_ret
            exact ⟨_, er_, by (with_reducible repeat (first | apply Kd.R_alloc | apply Kd.R_drewN | apply Kd.R_drew)); exact HO311.out, dn_ HB⟩
def vernierref01_Cmp.l0 : Nat → List Int → List Int → Int → Option (Int)
  | 0, _, _, _ => none
  | k + 1, x0, x1, x5 => if x5 ≥ 0 then (if 0 ≤ x5 then (if x5 < (x0.length : Int) then (if x5 < (x1.length : Int) then (if (rd x0 x5) < (rd x1 x5) then (some (-1)) else (if (rd x0 x5) > (rd x1 x5) then (some 1) else (vernierref01_Cmp.l0 k x0 x1 (wrap64 (x5 - 1))))) else (none)) else (none)) else (none)) else (some 0)
def vernierref01_Cmp.f (k : Nat) (l0 : List Int) (l1 : List Int) : Option (Int) := if (l0.length : Int) = (l1.length : Int) then (vernierref01_Cmp.l0 k l0 l1 (wrap64 ((l0.length : Int) - 1))) else (if (l0.length : Int) < (l1.length : Int) then (some (-1)) else (some 1))
theorem vernierref01_Cmp.mono_l : ∀ k, (∀ y0 y1 y2, LeO (vernierref01_Cmp.l0 k y0 y1 y2) (vernierref01_Cmp.l0 (k + 1) y0 y1 y2))
  | 0 => fun _ _ _ r h => by simp [vernierref01_Cmp.l0] at h
  | k + 1 => by
    have ih0 := vernierref01_Cmp.mono_l k
    · intro y0 y1 y2
      unfold vernierref01_Cmp.l0
      repeat' first
      | (with_reducible exact ih0 _ _ _)
      | (with_reducible exact LeO.refl _)
      | (with_reducible exact LeO.none _)
      | (with_reducible refine LeO.ite ?_ ?_)
      | (with_reducible refine LeO.bind ?_ (fun _ => ?_))
      | exact ih0 _ _ _
      | exact LeO.none _
      | refine LeO.ite ?_ ?_
      | refine LeO.bind ?_ (fun _ => ?_)
theorem vernierref01_Cmp.mono : ∀ a0 a1 k, LeO (vernierref01_Cmp.f k a0 a1) (vernierref01_Cmp.f (k + 1) a0 a1) := by
  intro a0 a1 k
  have ih0 := vernierref01_Cmp.mono_l k
  unfold vernierref01_Cmp.f
  repeat' first
      | (with_reducible exact ih0 _ _ _)
      | (with_reducible exact LeO.refl _)
      | (with_reducible exact LeO.none _)
      | (with_reducible refine LeO.ite ?_ ?_)
      | (with_reducible refine LeO.bind ?_ (fun _ => ?_))
      | exact ih0 _ _ _
      | exact LeO.none _
      | refine LeO.ite ?_ ?_
      | refine LeO.bind ?_ (fun _ => ?_)
set_option maxHeartbeats 8000000 in
set_option maxRecDepth 100000 in
theorem vernierref01_Cmp.calls (k : Nat) (A0 : Option Addr) (c0 : Nat) (l0 : List Int) (A1 : Option Addr) (c1 : Nat) (l1 : List Int) (r : Int) (w : World) (hr0 : Kd.C (Kd.int .i64) w A0 l0.length l0) (hc0 : l0.length ≤ c0) (hr1 : Kd.C (Kd.int .i64) w A1 l1.length l1) (hc1 : l1.length ≤ c1) (h : vernierref01_Cmp.f k l0 l1 = some r) :
    Calls Try.prog 68 #[.slice A0 l0.length c0, .slice A1 l1.length c1] w fun e w' => e = .returned (.int .i64 r) ∧ Drawn0 w w' := by
  have HR0 := Aside0.mk hr0
  have HC0 := Aside0.mk hc0
  clear hr0 hc0
  have HR1 := Aside0.mk hr1
  have HC1 := Aside0.mk hc1
  clear hr1 hc1
  have H : (if (l0.length : Int) = (l1.length : Int) then (vernierref01_Cmp.l0 k l0 l1 (wrap64 ((l0.length : Int) - 1))) else (if (l0.length : Int) < (l1.length : Int) then (some (-1)) else (some 1))) = some r := h
  clear h
  by_cases c3 : (l0.length : Int) = (l1.length : Int)
  · rw [if_pos c3] at H
    have c3b0 : ((l0.length : Int) == (l1.length : Int)) = true := beq_iff_eq.mpr c3
    have c3b1 : ((l0.length : Int) != (l1.length : Int)) = false := bne_eq_false_iff_eq.mpr c3
    have c3b2 : (l0.length == l1.length) = true := by first | simpa using c3 | (simp at c3 ⊢; omega)
    clear c3
    have H' := Aside0.mk H
    clear H
    go_enter Try.func68, Try.ntmps68
    go_wp2
    repeat (go_quiet (fail); try go_wp2)
    go_loopg [5] k (fun kq v5 w' => ∃ (x5_1 : Int), v5 = .int .i64 x5_1 ∧ Aside0 (vernierref01_Cmp.l0 kq l0 l1 x5_1 = some r) ∧ Aside0 (kq ≤ k) ∧ Drawn0 w w')
    case atStart => exact ⟨(wrap64 ((l0.length : Int) - 1)), (by first | rfl | (simp; done) | (simp [*]; done)), H', ⟨Nat.le_refl _⟩, by repeat (first | exact Drawn0.refl _ | apply Drawn0.step)⟩
    case round =>
      clear H'
      try clear c1
      try clear p2
      try clear c3
      try clear c3b0
      try clear c3b1
      try clear c3b2
      obtain ⟨x5_1, rfl, HA, HK1, ⟨m1, rfl⟩⟩ := hrel
      cases gk with
      | zero => exact absurd HA.out (by simp [vernierref01_Cmp.l0])
      | succ k1 =>
        have H := HA.out
        clear HA
        simp only [vernierref01_Cmp.l0] at H
        by_cases c4 : x5_1 ≥ 0
        · rw [if_pos c4] at H
          have c4b0 : decide (0 ≤ x5_1) = true := decide_eq_true c4
          clear c4
          by_cases c5 : 0 ≤ x5_1
          · rw [if_pos c5] at H
            have c5b0 : decide (0 ≤ x5_1) = true := decide_eq_true c5
            clear c5
            by_cases c6 : x5_1 < (l0.length : Int)
            · rw [if_pos c6] at H
              have c6b0 : decide (x5_1 < (l0.length : Int)) = true := decide_eq_true c6
              clear c6
              by_cases c7 : x5_1 < (l1.length : Int)
              · rw [if_pos c7] at H
                have c7b0 : decide (x5_1 < (l1.length : Int)) = true := decide_eq_true c7
                clear c7
                by_cases c8 : (rd l0 x5_1) < (rd l1 x5_1)
                · rw [if_pos c8] at H
                  have c8b0 : decide ((rd l0 x5_1) < (rd l1 x5_1)) = true := decide_eq_true c8
                  clear c8
                  obtain rfl := Option.some.inj H
                  have p327 : 0 ≤ (x5_1 : Int) := of_decide_eq_true as_
                  have q327 : x5_1 < (l0.length : Int) := of_decide_eq_true as_
                  obtain ⟨ad327, e327, hx327_0⟩ := Kd.at_int HR0.out x5_1 p327 q327
                  cases e327
                  replace p327 := eq_true p327
                  replace q327 := eq_true q327
                  (try (have q327n := q327; simp only [Int.ofNat_lt] at q327n))
                  (try (have q327d := q327; simp only [List.length_drop] at q327d))
                  have p328 : 0 ≤ (x5_1 : Int) := of_decide_eq_true as_
                  have q328 : x5_1 < (l1.length : Int) := of_decide_eq_true as_
                  obtain ⟨ad328, e328, hx328_0⟩ := Kd.at_int HR1.out x5_1 p328 q328
                  cases e328
                  replace p328 := eq_true p328
                  replace q328 := eq_true q328
                  (try (have q328n := q328; simp only [Int.ofNat_lt] at q328n))
                  (try (have q328d := q328; simp only [List.length_drop] at q328d))
                  go_wp2
                  repeat (go_quiet (fail); try go_wp2)
                  go_ret
                  exact ⟨by first | rfl | (simp; done) | (simp [*]; done), by repeat (first | exact Drawn0.refl _ | apply Drawn0.step)⟩
                · rw [if_neg c8] at H
                  have c8b0 : decide ((rd l0 x5_1) < (rd l1 x5_1)) = false := decide_eq_false c8
                  clear c8
                  by_cases c9 : (rd l0 x5_1) > (rd l1 x5_1)
                  · rw [if_pos c9] at H
                    have c9b0 : decide ((rd l1 x5_1) < (rd l0 x5_1)) = true := decide_eq_true c9
                    clear c9
                    obtain rfl := Option.some.inj H
                    have p327 : 0 ≤ (x5_1 : Int) := of_decide_eq_true as_
                    have q327 : x5_1 < (l0.length : Int) := of_decide_eq_true as_
                    obtain ⟨ad327, e327, hx327_0⟩ := Kd.at_int HR0.out x5_1 p327 q327
                    cases e327
                    replace p327 := eq_true p327
                    replace q327 := eq_true q327
                    (try (have q327n := q327; simp only [Int.ofNat_lt] at q327n))
                    (try (have q327d := q327; simp only [List.length_drop] at q327d))
                    have p328 : 0 ≤ (x5_1 : Int) := of_decide_eq_true as_
                    have q328 : x5_1 < (l1.length : Int) := of_decide_eq_true as_
                    obtain ⟨ad328, e328, hx328_0⟩ := Kd.at_int HR1.out x5_1 p328 q328
                    cases e328
                    replace p328 := eq_true p328
                    replace q328 := eq_true q328
                    (try (have q328n := q328; simp only [Int.ofNat_lt] at q328n))
                    (try (have q328d := q328; simp only [List.length_drop] at q328d))
                    have p329 : 0 ≤ (x5_1 : Int) := of_decide_eq_true as_
                    have q329 : x5_1 < (l0.length : Int) := of_decide_eq_true as_
                    obtain ⟨ad329, e329, hx329_0⟩ := Kd.at_int HR0.out x5_1 p329 q329
                    obtain rfl : ad327 = ad329 := (by injection e329)
                    replace p329 := eq_true p329
                    replace q329 := eq_true q329
                    (try (have q329n := q329; simp only [Int.ofNat_lt] at q329n))
                    (try (have q329d := q329; simp only [List.length_drop] at q329d))
                    have p330 : 0 ≤ (x5_1 : Int) := of_decide_eq_true as_
                    have q330 : x5_1 < (l1.length : Int) := of_decide_eq_true as_
                    obtain ⟨ad330, e330, hx330_0⟩ := Kd.at_int HR1.out x5_1 p330 q330
                    obtain rfl : ad328 = ad330 := (by injection e330)
                    replace p330 := eq_true p330
                    replace q330 := eq_true q330
                    (try (have q330n := q330; simp only [Int.ofNat_lt] at q330n))
                    (try (have q330d := q330; simp only [List.length_drop] at q330d))
                    go_wp2
                    repeat (go_quiet (fail); try go_wp2)
                    go_ret
                    exact ⟨by first | rfl | (simp; done) | (simp [*]; done), by repeat (first | exact Drawn0.refl _ | apply Drawn0.step)⟩
                  · rw [if_neg c9] at H
                    have c9b0 : decide ((rd l1 x5_1) < (rd l0 x5_1)) = false := decide_eq_false c9
                    clear c9
                    have H' := Aside0.mk H
                    clear H
                    have p327 : 0 ≤ (x5_1 : Int) := of_decide_eq_true as_
                    have q327 : x5_1 < (l0.length : Int) := of_decide_eq_true as_
                    obtain ⟨ad327, e327, hx327_0⟩ := Kd.at_int HR0.out x5_1 p327 q327
                    cases e327
                    replace p327 := eq_true p327
                    replace q327 := eq_true q327
                    (try (have q327n := q327; simp only [Int.ofNat_lt] at q327n))
                    (try (have q327d := q327; simp only [List.length_drop] at q327d))
                    have p328 : 0 ≤ (x5_1 : Int) := of_decide_eq_true as_
                    have q328 : x5_1 < (l1.length : Int) := of_decide_eq_true as_
                    obtain ⟨ad328, e328, hx328_0⟩ := Kd.at_int HR1.out x5_1 p328 q328
                    cases e328
                    replace p328 := eq_true p328
                    replace q328 := eq_true q328
                    (try (have q328n := q328; simp only [Int.ofNat_lt] at q328n))
                    (try (have q328d := q328; simp only [List.length_drop] at q328d))
                    have p329 : 0 ≤ (x5_1 : Int) := of_decide_eq_true as_
                    have q329 : x5_1 < (l0.length : Int) := of_decide_eq_true as_
                    obtain ⟨ad329, e329, hx329_0⟩ := Kd.at_int HR0.out x5_1 p329 q329
                    obtain rfl : ad327 = ad329 := (by injection e329)
                    replace p329 := eq_true p329
                    replace q329 := eq_true q329
                    (try (have q329n := q329; simp only [Int.ofNat_lt] at q329n))
                    (try (have q329d := q329; simp only [List.length_drop] at q329d))
                    have p330 : 0 ≤ (x5_1 : Int) := of_decide_eq_true as_
                    have q330 : x5_1 < (l1.length : Int) := of_decide_eq_true as_
                    obtain ⟨ad330, e330, hx330_0⟩ := Kd.at_int HR1.out x5_1 p330 q330
                    obtain rfl : ad328 = ad330 := (by injection e330)
                    replace p330 := eq_true p330
                    replace q330 := eq_true q330
                    (try (have q330n := q330; simp only [Int.ofNat_lt] at q330n))
                    (try (have q330d := q330; simp only [List.length_drop] at q330d))
                    go_wp2
                    repeat (go_quiet (fail); try go_wp2)
                    go_roundg k1
                    case measure => have := HK1.out; omega
                    case rel => exact ⟨(wrap64 (x5_1 - 1)), (by first | rfl | (simp; done) | (simp [*]; done)), H', ⟨by have := HK1.out; omega⟩, by repeat (first | exact Drawn0.refl _ | apply Drawn0.step)⟩
              · rw [if_neg c7] at H
                exact absurd H (by simp)
            · rw [if_neg c6] at H
              exact absurd H (by simp)
          · rw [if_neg c5] at H
            exact absurd H (by simp)
        · rw [if_neg c4] at H
          have c4b0 : decide (0 ≤ x5_1) = false := decide_eq_false c4
          clear c4
          obtain rfl := Option.some.inj H
          go_wp2
          repeat (go_quiet (fail); try go_wp2)
          go_ret
          exact ⟨by first | rfl | (simp; done) | (simp [*]; done), by repeat (first | exact Drawn0.refl _ | apply Drawn0.step)⟩
  · rw [if_neg c3] at H
    have c3b0 : ((l0.length : Int) == (l1.length : Int)) = false := beq_eq_false_iff_ne.mpr c3
    have c3b1 : ((l0.length : Int) != (l1.length : Int)) = true := bne_iff_ne.mpr c3
    have c3b2 : (l0.length == l1.length) = false := by first | simpa using c3 | (simp at c3 ⊢; omega)
    by_cases c10 : (l0.length : Int) < (l1.length : Int)
    · rw [if_pos c10] at H
      have c10b0 : decide ((l0.length : Int) < (l1.length : Int)) = true := decide_eq_true c10
      have c10b1 : decide (l0.length < l1.length) = true := decide_eq_true (Int.ofNat_lt.mp c10)
      clear c10
      obtain rfl := Option.some.inj H
      go_enter Try.func68, Try.ntmps68
      go_wp2
      repeat (go_quiet (fail); try go_wp2)
      go_ret
      exact ⟨by first | rfl | (simp; done) | (simp [*]; done), by repeat (first | exact Drawn0.refl _ | apply Drawn0.step)⟩
    · rw [if_neg c10] at H
      have c10b0 : decide ((l0.length : Int) < (l1.length : Int)) = false := decide_eq_false c10
      have c10b1 : decide (l0.length < l1.length) = false := decide_eq_false (fun h => c10 (Int.ofNat_lt.mpr h))
      clear c10
      obtain rfl := Option.some.inj H
      go_enter Try.func68, Try.ntmps68
      go_wp2
      repeat (go_quiet (fail); try go_wp2)
      go_ret
      exact ⟨by first | rfl | (simp; done) | (simp [*]; done), by repeat (first | exact Drawn0.refl _ | apply Drawn0.step)⟩
mutual
def vernierref01_Sub.j0 : Nat → List Int → List Int → Option (List Int)
  | 0, _, _ => none
  | k + 1, x0, x1 => vernierref01_Sub.l0 k x0 x1 ([] : List Int) 0 0
def vernierref01_Sub.l0 : Nat → List Int → List Int → List Int → Int → Int → Option (List Int)
  | 0, _, _, _, _, _ => none
  | k + 1, x0, x1, x5, x6, x7 => if x7 < (x0.length : Int) then (if 0 ≤ x7 then (if x7 < (x1.length : Int) then (if x5.length < 17592186044416 then (vernierref01_Sub.l0 k x0 x1 (x5 ++ [Int.tmod (wrap64 ((Int.tmod (wrap64 ((wrap64 (x6 + (rd x0 x7))) - (rd x1 x7))) 65536) + 65536)) 65536]) (wrap64 (Int.tdiv (wrap64 ((wrap64 ((wrap64 (x6 + (rd x0 x7))) - (rd x1 x7))) - (Int.tmod (wrap64 ((Int.tmod (wrap64 ((wrap64 (x6 + (rd x0 x7))) - (rd x1 x7))) 65536) + 65536)) 65536))) 65536)) (wrap64 (x7 + 1))) else (none)) else (if x5.length < 17592186044416 then (vernierref01_Sub.l0 k x0 x1 (x5 ++ [Int.tmod (wrap64 ((Int.tmod (wrap64 (x6 + (rd x0 x7))) 65536) + 65536)) 65536]) (wrap64 (Int.tdiv (wrap64 ((wrap64 (x6 + (rd x0 x7))) - (Int.tmod (wrap64 ((Int.tmod (wrap64 (x6 + (rd x0 x7))) 65536) + 65536)) 65536))) 65536)) (wrap64 (x7 + 1))) else (none))) else (none)) else ((vernierref01_cut.f k x5).bind fun t340 => (some t340))
end
def vernierref01_Sub.f (k : Nat) (l0 : List Int) (l1 : List Int) : Option (List Int) := (vernierref01_Cmp.f k l0 l1).bind fun t331 => (if t331 < 0 then (vernierref01_Sub.j0 k l1 l0) else (vernierref01_Sub.j0 k l0 l1))
theorem vernierref01_Sub.mono_l : ∀ k, (∀ y0 y1, LeO (vernierref01_Sub.j0 k y0 y1) (vernierref01_Sub.j0 (k + 1) y0 y1)) ∧ (∀ y0 y1 y2 y3 y4, LeO (vernierref01_Sub.l0 k y0 y1 y2 y3 y4) (vernierref01_Sub.l0 (k + 1) y0 y1 y2 y3 y4))
  | 0 => ⟨fun _ _ r h => by simp [vernierref01_Sub.j0] at h, fun _ _ _ _ _ r h => by simp [vernierref01_Sub.l0] at h⟩
  | k + 1 => by
    obtain ⟨ih0, ih1⟩ := vernierref01_Sub.mono_l k
    refine ⟨?_, ?_⟩
    · intro y0 y1
      unfold vernierref01_Sub.j0
      repeat' first
      | (with_reducible exact ih0 _ _)
      | (with_reducible exact ih1 _ _ _ _ _)
      | (with_reducible exact vernierref01_Cmp.mono _ _ _)
      | (with_reducible exact vernierref01_cut.mono _ _)
      | (with_reducible exact LeO.refl _)
      | (with_reducible exact LeO.none _)
      | (with_reducible refine LeO.ite ?_ ?_)
      | (with_reducible refine LeO.bind ?_ (fun _ => ?_))
      | exact ih0 _ _
      | exact ih1 _ _ _ _ _
      | exact vernierref01_Cmp.mono _ _ _
      | exact vernierref01_cut.mono _ _
      | exact LeO.none _
      | refine LeO.ite ?_ ?_
      | refine LeO.bind ?_ (fun _ => ?_)
    · intro y0 y1 y2 y3 y4
      unfold vernierref01_Sub.l0
      repeat' first
      | (with_reducible exact ih0 _ _)
      | (with_reducible exact ih1 _ _ _ _ _)
      | (with_reducible exact vernierref01_Cmp.mono _ _ _)
      | (with_reducible exact vernierref01_cut.mono _ _)
      | (with_reducible exact LeO.refl _)
      | (with_reducible exact LeO.none _)
      | (with_reducible refine LeO.ite ?_ ?_)
      | (with_reducible refine LeO.bind ?_ (fun _ => ?_))
      | exact ih0 _ _
      | exact ih1 _ _ _ _ _
      | exact vernierref01_Cmp.mono _ _ _
      | exact vernierref01_cut.mono _ _
      | exact LeO.none _
      | refine LeO.ite ?_ ?_
      | refine LeO.bind ?_ (fun _ => ?_)
theorem vernierref01_Sub.mono : ∀ a0 a1 k, LeO (vernierref01_Sub.f k a0 a1) (vernierref01_Sub.f (k + 1) a0 a1) := by
  intro a0 a1 k
  obtain ⟨ih0, ih1⟩ := vernierref01_Sub.mono_l k
  unfold vernierref01_Sub.f
  repeat' first
      | (with_reducible exact ih0 _ _)
      | (with_reducible exact ih1 _ _ _ _ _)
      | (with_reducible exact vernierref01_Cmp.mono _ _ _)
      | (with_reducible exact vernierref01_cut.mono _ _)
      | (with_reducible exact LeO.refl _)
      | (with_reducible exact LeO.none _)
      | (with_reducible refine LeO.ite ?_ ?_)
      | (with_reducible refine LeO.bind ?_ (fun _ => ?_))
      | exact ih0 _ _
      | exact ih1 _ _ _ _ _
      | exact vernierref01_Cmp.mono _ _ _
      | exact vernierref01_cut.mono _ _
      | exact LeO.none _
      | refine LeO.ite ?_ ?_
      | refine LeO.bind ?_ (fun _ => ?_)
set_option maxHeartbeats 8000000 in
set_option maxRecDepth 100000 in
theorem vernierref01_Sub.calls (k : Nat) (P0_ : Nat → Prop) (A0 : Option Addr) (c0 : Nat) (l0 : List Int) (P1_ : Nat → Prop) (A1 : Option Addr) (c1 : Nat) (l1 : List Int) (r : List Int) (w : World) (hs0 : Kd.V (Kd.int .i64) 3 w w.heap.size (fun k_ => P0_ k_) (.slice A0 l0.length c0) l0) (hs1 : Kd.V (Kd.int .i64) 3 w w.heap.size (fun k_ => P1_ k_) (.slice A1 l1.length c1) l1) (h : vernierref01_Sub.f k l0 l1 = some r) :
    Calls Try.prog 69 #[.slice A0 l0.length c0, .slice A1 l1.length c1] w fun e w' => ∃ v0_ : Value, e = .returned (v0_) ∧ Kd.R (Kd.int .i64) 3 w' w.heap.size (fun k_ => (w.heap.size ≤ k_)) v0_ r ∧ Below w.heap.size w w' := by
  have HO0 := Aside0.mk (show Kd.V (Kd.int .i64) 3 w w.heap.size (fun k_ => ((P0_ k_ ∨ P1_ k_) ∨ w.heap.size ≤ k_)) (.slice A0 l0.length c0) l0 from Kd.V_mono hs0 (fun k_ hk => .inl (.inl hk)))
  have HO1 := Aside0.mk (show Kd.V (Kd.int .i64) 3 w w.heap.size (fun k_ => ((P0_ k_ ∨ P1_ k_) ∨ w.heap.size ≤ k_)) (.slice A1 l1.length c1) l1 from Kd.V_mono hs1 (fun k_ hk => .inl (.inr hk)))
  have HB := Aside0.mk (Below.refl w.heap.size w)
  have H : ((vernierref01_Cmp.f k l0 l1).bind fun t331 => (if t331 < 0 then (vernierref01_Sub.j0 k l1 l0) else (vernierref01_Sub.j0 k l0 l1))) = some r := h
  clear h
  replace H := Option.bind_eq_some_iff.mp H
  obtain ⟨t331, A30, H⟩ := H
  replace H : (if t331 < 0 then (vernierref01_Sub.j0 k l1 l0) else (vernierref01_Sub.j0 k l0 l1)) = some r := H
  have A3 := Aside0.mk A30
  clear A30
  have HC4 := Aside0.mk H
  clear H
  go_enter Try.func69, Try.ntmps69
  go_upto_if 12 with (first | ((with_reducible refine gate_callee (f := 68) rfl ?_); refine goesL_ (some 11) rfl rfl Try.func68 (by kernel_rfl) rfl #[.slice A0 l0.length c0, .slice A1 l1.length c1] rfl ar_ ?_; (with_reducible refine (vernierref01_Cmp.calls k _ _ l0 _ _ l1 t331 _ ?side1 ?side2 ?side3 ?side4 A3.out).mono ?_); (case side1 => repeat (first | exact (Kd.V_reads' HO0.out).2.2 | (with_reducible refine Kd.C_alloc ?_ _) | (with_reducible refine Kd.C_drewN ?_ _) | (with_reducible refine Kd.C_drew ?_))); (case side2 => exact (Kd.V_reads' HO0.out).2.1); (case side3 => repeat (first | exact (Kd.V_reads' HO1.out).2.2 | (with_reducible refine Kd.C_alloc ?_ _) | (with_reducible refine Kd.C_drewN ?_ _) | (with_reducible refine Kd.C_drew ?_))); (case side4 => exact (Kd.V_reads' HO1.out).2.1); rintro e w' ⟨rfl, ⟨nd, rfl⟩⟩; refine ⟨_, rfl, ?_⟩))
  (try simp only [Act.put, List.setIfInBounds_toArray, List.set_cons_zero, List.set_cons_succ])
  go_cut [0, 1] (fun v0 v1 wc => ∃ (kq : Nat) (x0_3 : List Int) (x1_3 : List Int), Aside0 (vernierref01_Sub.j0 kq x0_3 x1_3 = some r) ∧ Aside0 (kq ≤ k) ∧ Aside0 (Kd.V (Kd.int .i64) 3 wc w.heap.size (fun k_ => ((P0_ k_ ∨ P1_ k_) ∨ w.heap.size ≤ k_)) v0 x0_3) ∧ Aside0 (Kd.V (Kd.int .i64) 3 wc w.heap.size (fun k_ => ((P0_ k_ ∨ P1_ k_) ∨ w.heap.size ≤ k_)) v1 x1_3) ∧ Aside0 (Below w.heap.size w wc))
  case first =>
    have H := HC4.out
    clear HC4
    by_cases c5 : t331 < 0
    · rw [if_pos c5] at H
      have c5b0 : decide (t331 < 0) = true := decide_eq_true c5
      clear c5
      (first | rw [c5b0] | (simp only [i64_w, i32_w]; rw [c5b0]) | skip)
      have H' := Aside0.mk H
      clear H
      go_wp2
      go_meet
      case rel => exact ⟨_, (l1), (l0), H', ⟨by first | omega | exact Nat.le_refl _⟩, ⟨by (with_reducible repeat (first | apply Kd.V_alloc | apply Kd.V_drewN | apply Kd.V_drew)); exact HO1.out⟩, ⟨by (with_reducible repeat (first | apply Kd.V_alloc | apply Kd.V_drewN | apply Kd.V_drew)); exact HO0.out⟩, ⟨dn_ HB⟩⟩
    · rw [if_neg c5] at H
      have c5b0 : decide (t331 < 0) = false := decide_eq_false c5
      clear c5
      (first | rw [c5b0] | (simp only [i64_w, i32_w]; rw [c5b0]) | skip)
      have H' := Aside0.mk H
      clear H
      go_wp2
      go_meet
      case rel => exact ⟨_, (l0), (l1), H', ⟨by first | omega | exact Nat.le_refl _⟩, ⟨by (with_reducible repeat (first | apply Kd.V_alloc | apply Kd.V_drewN | apply Kd.V_drew)); exact HO0.out⟩, ⟨by (with_reducible repeat (first | apply Kd.V_alloc | apply Kd.V_drewN | apply Kd.V_drew)); exact HO1.out⟩, ⟨dn_ HB⟩⟩
  case rest =>
    clear HC4
    try clear c1
    try clear p2
    try clear c5
    try clear c5b0
    obtain ⟨kq, x0_3, x1_3, HA, HJ3, HO_0, HO_1, HB⟩ := hcut
    cases kq with
    | zero => exact absurd HA.out (by simp [vernierref01_Sub.j0])
    | succ kj3 =>
      have H := HA.out
      clear HA
      simp only [vernierref01_Sub.j0] at H
      have H' := Aside0.mk H
      clear H
      go_wp2
      go_loopg [5, 6, 7] kj3 (fun kq v5 v6 v7 w' => ∃ (x5_2 : List Int) (x6_2 : Int) (x7_2 : Int), v6 = .int .i64 x6_2 ∧ v7 = .int .i64 x7_2 ∧ Aside0 (vernierref01_Sub.l0 kq x0_3 x1_3 x5_2 x6_2 x7_2 = some r) ∧ Aside0 (kq ≤ kj3) ∧ Aside0 (Kd.V (Kd.int .i64) 3 w' w.heap.size (fun k_ => ((P0_ k_ ∨ P1_ k_) ∨ w.heap.size ≤ k_) ∧ some k_ ≠ (v5 : Value).ownBlock) u0 x0_3) ∧ Aside0 (Kd.V (Kd.int .i64) 3 w' w.heap.size (fun k_ => ((P0_ k_ ∨ P1_ k_) ∨ w.heap.size ≤ k_) ∧ some k_ ≠ (v5 : Value).ownBlock) u1 x1_3) ∧ Aside0 (Kd.R (Kd.int .i64) 3 w' w.heap.size (fun k_ => (w.heap.size ≤ k_)) v5 x5_2) ∧ Aside0 (Below w.heap.size w w'))
      case atStart => exact ⟨(([] : List Int)), (0), (0), (by first | rfl | (simp; done) | (simp [*]; done)), (by first | rfl | (simp; done) | (simp [*]; done)), H', ⟨Nat.le_refl _⟩, ⟨by (with_reducible repeat (first | apply Kd.V_alloc | apply Kd.V_drewN | apply Kd.V_drew)); exact Kd.V_mono HO_0.out (fun _ hk => ⟨hk, (by simp [Value.ownBlock])⟩)⟩, ⟨by (with_reducible repeat (first | apply Kd.V_alloc | apply Kd.V_drewN | apply Kd.V_drew)); exact Kd.V_mono HO_1.out (fun _ hk => ⟨hk, (by simp [Value.ownBlock])⟩)⟩, ⟨by first | exact Kd.R_nil _ _ _ _ _ | exact Kd.N_nil _ _ _ _ _ | exact Kd.V_nil _ _ _ _ _ | exact Kd.Q_nil _ _ _ _ _ | exact Kd.S_nil _ _ _ _ _⟩, ⟨dn_ HB⟩⟩
      case round =>
        clear H'
        try clear c1
        try clear p2
        try clear c5
        try clear c5b0
        try clear p2
        obtain ⟨x5_2, x6_2, x7_2, rfl, rfl, HA, HK2, HO_0, HO_1, HO_5, HB⟩ := hrel
        cases gk with
        | zero => exact absurd HA.out (by simp [vernierref01_Sub.l0])
        | succ k2 =>
          have H := HA.out
          clear HA
          simp only [vernierref01_Sub.l0] at H
          by_cases c6 : x7_2 < (x0_3.length : Int)
          · rw [if_pos c6] at H
            have c6b0 : decide (x7_2 < (x0_3.length : Int)) = true := decide_eq_true c6
            clear c6
            by_cases c7 : 0 ≤ x7_2
            · rw [if_pos c7] at H
              have c7b0 : decide (0 ≤ x7_2) = true := decide_eq_true c7
              clear c7
              by_cases c8 : x7_2 < (x1_3.length : Int)
              · rw [if_pos c8] at H
                have c8b0 : decide (x7_2 < (x1_3.length : Int)) = true := decide_eq_true c8
                clear c8
                by_cases c9 : x5_2.length < 17592186044416
                · rw [if_pos c9] at H
                  have LMc9 := Aside0.mk c9
                  clear c9
                  obtain ⟨y334, hy334⟩ : ∃ y_ : List Int, y_ = (x5_2 ++ [Int.tmod (wrap64 ((Int.tmod (wrap64 ((wrap64 (x6_2 + (rd x0_3 x7_2))) - (rd x1_3 x7_2))) 65536) + 65536)) 65536]) := ⟨_, rfl⟩
                  replace H : (vernierref01_Sub.l0 k2 x0_3 x1_3 y334 (wrap64 (Int.tdiv (wrap64 ((wrap64 ((wrap64 (x6_2 + (rd x0_3 x7_2))) - (rd x1_3 x7_2))) - (Int.tmod (wrap64 ((Int.tmod (wrap64 ((wrap64 (x6_2 + (rd x0_3 x7_2))) - (rd x1_3 x7_2))) 65536) + 65536)) 65536))) 65536)) (wrap64 (x7_2 + 1))) = some r := by first | (rw [hy334]; with_reducible exact H) | (have H2_ := (Option.bind_some _ _).symm.trans H; rw [hy334]; with_reducible exact H2_) | (have H2_ := (Option.bind_some _ _).symm.trans H; with_reducible exact H2_) | with_reducible exact H | (rw [hy334]; exact H) | exact H
                  have Ny334 := Aside0.mk hy334
                  clear hy334
                  have H' := Aside0.mk H
                  clear H
                  obtain ⟨Ao10, co10, eo10⟩ := Kd.V_slice HO_0.out
                  subst eo10
                  have p332 : 0 ≤ (x7_2 : Int) := of_decide_eq_true as_
                  have q332 : x7_2 < (x0_3.length : Int) := of_decide_eq_true as_
                  obtain ⟨ad332, e332, hx332_0⟩ := Kd.at_int (Kd.V_reads' HO_0.out).2.2 x7_2 p332 q332
                  cases e332
                  replace p332 := eq_true p332
                  replace q332 := eq_true q332
                  (try (have q332n := q332; simp only [Int.ofNat_lt] at q332n))
                  (try (have q332d := q332; simp only [List.length_drop] at q332d))
                  obtain ⟨Ao11, co11, eo11⟩ := Kd.V_slice HO_1.out
                  subst eo11
                  have p333 : 0 ≤ (x7_2 : Int) := of_decide_eq_true as_
                  have q333 : x7_2 < (x1_3.length : Int) := of_decide_eq_true as_
                  obtain ⟨ad333, e333, hx333_0⟩ := Kd.at_int (Kd.V_reads' HO_1.out).2.2 x7_2 p333 q333
                  cases e333
                  replace p333 := eq_true p333
                  replace q333 := eq_true q333
                  (try (have q333n := q333; simp only [Int.ofNat_lt] at q333n))
                  (try (have q333d := q333; simp only [List.length_drop] at q333d))
                  go_wp2_with (first | ((with_reducible refine gate_builtin (b := .append) (xs := #[.tmp 41, .tmp 43]) rfl ?_); at_builtin; refine Kd.R_append (Kd.int .i64) (w0 := w) w.heap.size rfl (.tmp 41) (.tmp 43) 33 3 (.int .i64 0) 8 rfl Try.underlying33 info3 rfl (by decide) (by omega) u5 x5_2 (Int.tmod (wrap64 ((Int.tmod (wrap64 ((wrap64 (x6_2 + (rd x0_3 x7_2))) - (rd x1_3 x7_2))) 65536) + 65536)) 65536) [.int .i64 (Int.tmod (wrap64 ((Int.tmod (wrap64 ((wrap64 (x6_2 + (rd x0_3 x7_2))) - (rd x1_3 x7_2))) 65536) + 65536)) 65536)] (fun k_ => (w.heap.size ≤ k_)) (fun _ => False) rfl rfl ?aP (fun _ hk => hk.elim) ?aF ?aO ?aB ?aS ?aL ?_; (case aP => exact rfl); (case aB => exact (dn_ HB)); (case aF => exact (fun k_ hk => (Nat.le_trans (below_size (dn_ HB)) hk))); (case aO => exact (up_ HO_5)); (case aS => exact (below_size (dn_ HB))); (case aL => have := LMc9.out; omega); intro v335 w12 ho hb hg hat; rw [← Ny334.out] at ho; have n0_ := Aside0.mk (Kd.V_afterv (ok := (fun k_ => ((P0_ k_ ∨ P1_ k_) ∨ w.heap.size ≤ k_))) (by (with_reducible repeat (first | apply Kd.V_alloc | apply Kd.V_drewN | apply Kd.V_drew)); exact HO_0.out) hg hat); have n1_ := Aside0.mk (Kd.V_afterv (ok := (fun k_ => ((P0_ k_ ∨ P1_ k_) ∨ w.heap.size ≤ k_))) (by (with_reducible repeat (first | apply Kd.V_alloc | apply Kd.V_drewN | apply Kd.V_drew)); exact HO_1.out) hg hat); have n2_ := Aside0.mk (hb); have n3_ := Aside0.mk (ho); clear HO_0; clear HO_1; clear HB; clear HO_5; have HO_0 := n0_; have HO_1 := n1_; have HB := n2_; have HO336 := n3_; clear n0_ n1_ n2_ n3_; clear ho hb hg hat))
                  go_roundg k2
                  case measure => have := HJ3.out; have := HK2.out; omega
                  case rel => exact ⟨(y334), (wrap64 (Int.tdiv (wrap64 ((wrap64 ((wrap64 (x6_2 + (rd x0_3 x7_2))) - (rd x1_3 x7_2))) - (Int.tmod (wrap64 ((Int.tmod (wrap64 ((wrap64 (x6_2 + (rd x0_3 x7_2))) - (rd x1_3 x7_2))) 65536) + 65536)) 65536))) 65536)), (wrap64 (x7_2 + 1)), (by first | rfl | (simp; done) | (simp [*]; done)), (by first | rfl | (simp; done) | (simp [*]; done)), H', ⟨by have := HJ3.out; have := HK2.out; omega⟩, ⟨by (with_reducible repeat (first | apply Kd.V_alloc | apply Kd.V_drewN | apply Kd.V_drew)); exact HO_0.out⟩, ⟨by (with_reducible repeat (first | apply Kd.V_alloc | apply Kd.V_drewN | apply Kd.V_drew)); exact HO_1.out⟩, ⟨by (with_reducible repeat (first | apply Kd.R_alloc | apply Kd.R_drewN | apply Kd.R_drew)); exact HO336.out⟩, ⟨dn_ HB⟩⟩
                · rw [if_neg c9] at H
                  exact absurd H (by simp)
              · rw [if_neg c8] at H
                have c8b0 : decide (x7_2 < (x1_3.length : Int)) = false := decide_eq_false c8
                clear c8
                by_cases c13 : x5_2.length < 17592186044416
                · rw [if_pos c13] at H
                  have LMc13 := Aside0.mk c13
                  clear c13
                  obtain ⟨y337, hy337⟩ : ∃ y_ : List Int, y_ = (x5_2 ++ [Int.tmod (wrap64 ((Int.tmod (wrap64 (x6_2 + (rd x0_3 x7_2))) 65536) + 65536)) 65536]) := ⟨_, rfl⟩
                  replace H : (vernierref01_Sub.l0 k2 x0_3 x1_3 y337 (wrap64 (Int.tdiv (wrap64 ((wrap64 (x6_2 + (rd x0_3 x7_2))) - (Int.tmod (wrap64 ((Int.tmod (wrap64 (x6_2 + (rd x0_3 x7_2))) 65536) + 65536)) 65536))) 65536)) (wrap64 (x7_2 + 1))) = some r := by first | (rw [hy337]; with_reducible exact H) | (have H2_ := (Option.bind_some _ _).symm.trans H; rw [hy337]; with_reducible exact H2_) | (have H2_ := (Option.bind_some _ _).symm.trans H; with_reducible exact H2_) | with_reducible exact H | (rw [hy337]; exact H) | exact H
                  have Ny337 := Aside0.mk hy337
                  clear hy337
                  have H' := Aside0.mk H
                  clear H
                  obtain ⟨Ao14, co14, eo14⟩ := Kd.V_slice HO_0.out
                  subst eo14
                  have p332 : 0 ≤ (x7_2 : Int) := of_decide_eq_true as_
                  have q332 : x7_2 < (x0_3.length : Int) := of_decide_eq_true as_
                  obtain ⟨ad332, e332, hx332_0⟩ := Kd.at_int (Kd.V_reads' HO_0.out).2.2 x7_2 p332 q332
                  cases e332
                  replace p332 := eq_true p332
                  replace q332 := eq_true q332
                  (try (have q332n := q332; simp only [Int.ofNat_lt] at q332n))
                  (try (have q332d := q332; simp only [List.length_drop] at q332d))
                  obtain ⟨Ao15, co15, eo15⟩ := Kd.V_slice HO_1.out
                  subst eo15
                  go_wp2_with (first | ((with_reducible refine gate_builtin (b := .append) (xs := #[.tmp 41, .tmp 43]) rfl ?_); at_builtin; refine Kd.R_append (Kd.int .i64) (w0 := w) w.heap.size rfl (.tmp 41) (.tmp 43) 33 3 (.int .i64 0) 8 rfl Try.underlying33 info3 rfl (by decide) (by omega) u5 x5_2 (Int.tmod (wrap64 ((Int.tmod (wrap64 (x6_2 + (rd x0_3 x7_2))) 65536) + 65536)) 65536) [.int .i64 (Int.tmod (wrap64 ((Int.tmod (wrap64 (x6_2 + (rd x0_3 x7_2))) 65536) + 65536)) 65536)] (fun k_ => (w.heap.size ≤ k_)) (fun _ => False) rfl rfl ?aP (fun _ hk => hk.elim) ?aF ?aO ?aB ?aS ?aL ?_; (case aP => exact rfl); (case aB => exact (dn_ HB)); (case aF => exact (fun k_ hk => (Nat.le_trans (below_size (dn_ HB)) hk))); (case aO => exact (up_ HO_5)); (case aS => exact (below_size (dn_ HB))); (case aL => have := LMc13.out; omega); intro v338 w16 ho hb hg hat; rw [← Ny337.out] at ho; have n0_ := Aside0.mk (Kd.V_afterv (ok := (fun k_ => ((P0_ k_ ∨ P1_ k_) ∨ w.heap.size ≤ k_))) (by (with_reducible repeat (first | apply Kd.V_alloc | apply Kd.V_drewN | apply Kd.V_drew)); exact HO_0.out) hg hat); have n1_ := Aside0.mk (Kd.V_afterv (ok := (fun k_ => ((P0_ k_ ∨ P1_ k_) ∨ w.heap.size ≤ k_))) (by (with_reducible repeat (first | apply Kd.V_alloc | apply Kd.V_drewN | apply Kd.V_drew)); exact HO_1.out) hg hat); have n2_ := Aside0.mk (hb); have n3_ := Aside0.mk (ho); clear HO_0; clear HO_1; clear HB; clear HO_5; have HO_0 := n0_; have HO_1 := n1_; have HB := n2_; have HO339 := n3_; clear n0_ n1_ n2_ n3_; clear ho hb hg hat))
                  go_roundg k2
                  case measure => have := HJ3.out; have := HK2.out; omega
                  case rel => exact ⟨(y337), (wrap64 (Int.tdiv (wrap64 ((wrap64 (x6_2 + (rd x0_3 x7_2))) - (Int.tmod (wrap64 ((Int.tmod (wrap64 (x6_2 + (rd x0_3 x7_2))) 65536) + 65536)) 65536))) 65536)), (wrap64 (x7_2 + 1)), (by first | rfl | (simp; done) | (simp [*]; done)), (by first | rfl | (simp; done) | (simp [*]; done)), H', ⟨by have := HJ3.out; have := HK2.out; omega⟩, ⟨by (with_reducible repeat (first | apply Kd.V_alloc | apply Kd.V_drewN | apply Kd.V_drew)); exact HO_0.out⟩, ⟨by (with_reducible repeat (first | apply Kd.V_alloc | apply Kd.V_drewN | apply Kd.V_drew)); exact HO_1.out⟩, ⟨by (with_reducible repeat (first | apply Kd.R_alloc | apply Kd.R_drewN | apply Kd.R_drew)); exact HO339.out⟩, ⟨dn_ HB⟩⟩
                · rw [if_neg c13] at H
                  exact absurd H (by simp)
            · rw [if_neg c7] at H
              exact absurd H (by simp)
          · rw [if_neg c6] at H
            have c6b0 : decide (x7_2 < (x0_3.length : Int)) = false := decide_eq_false c6
            clear c6
            replace H := Option.bind_eq_some_iff.mp H
            obtain ⟨t340, A170, H⟩ := H
            replace H : (some t340) = some r := H
            have A17 := Aside0.mk A170
            clear A170
            obtain rfl := Option.some.inj H
            obtain ⟨Ao18, co18, eo18⟩ := Kd.V_slice HO_0.out
            subst eo18
            obtain ⟨Ao19, co19, eo19⟩ := Kd.R_slice HO_5.out
            subst eo19
            go_wp2_with (first | ((with_reducible refine gate_callee (f := 63) rfl ?_); refine goesL_ (some 50) rfl rfl Try.func63 (by kernel_rfl) rfl #[.slice Ao19 x5_2.length co19] rfl ar_ ?_; (with_reducible refine (vernierref01_cut.calls k2 (fun k_ => some k_ = (.slice Ao19 x5_2.length co19 : Value).ownBlock) (.slice Ao19 x5_2.length co19) x5_2 t340 w _ ?side1 ?side2 A17.out).mono ?_); (case side1 => repeat (first | (with_reducible first | exact HB.out | apply below_alloc | apply pw_below_drewN | apply below_drew1) | exact HB.out)); (case side2 => exact Kd.R_tight rfl HO_5.out); rintro e w20 ⟨v341, rfl, ho0, hb, hkp⟩; refine ⟨_, rfl, ?_⟩; have n0_ := Aside0.mk (Kd.V_mono (ok' := fun k_ => ((P0_ k_ ∨ P1_ k_) ∨ w.heap.size ≤ k_) ∧ some k_ ≠ (v341 : Value).ownBlock) (Kd.V_keptB (HO_0.out) hkp (fun k_ hk_ hs_ => (hk_.2) hs_)) (fun k_ hk_ => ⟨hk_.1.1, fun e_ => Or.elim (ho0.1 k_ e_.symm) (fun hs_ => hk_.2.1 hs_) (fun hn_ => Nat.not_le.2 hk_.2.2 hn_)⟩)); have n1_ := Aside0.mk (Kd.V_mono (ok' := fun k_ => ((P0_ k_ ∨ P1_ k_) ∨ w.heap.size ≤ k_) ∧ some k_ ≠ (v341 : Value).ownBlock) (Kd.V_keptB (HO_1.out) hkp (fun k_ hk_ hs_ => (hk_.2) hs_)) (fun k_ hk_ => ⟨hk_.1.1, fun e_ => Or.elim (ho0.1 k_ e_.symm) (fun hs_ => hk_.2.1 hs_) (fun hn_ => Nat.not_le.2 hk_.2.2 hn_)⟩)); have n2_ := Aside0.mk (Kd.R_mono (ok' := fun k_ => (w.heap.size ≤ k_)) ho0 (fun k_ hk_ => Or.elim hk_ (fun hs_ => (HO_5.out.1 k_ (hs_).symm)) (fun hn_ => (Nat.le_trans (below_size (dn_ HB)) hn_)))); have n3_ := Aside0.mk (hb); clear HO_0; clear HO_1; clear HB; clear HO_5; have HO_0 := n0_; have HO_1 := n1_; have HO342 := n2_; have HB := n3_; clear n0_ n1_ n2_ n3_; (try clear hb); (try clear hkp); (try clear ho0)))
            go_ret
            exact ⟨_, er_, by (with_reducible repeat (first | apply Kd.R_alloc | apply Kd.R_drewN | apply Kd.R_drew)); exact HO342.out, dn_ HB⟩
mutual
def vernierref01_Div.l0 : Nat → List Int → List Int → List Int → List Int → Int → Option (List Int × List Int)
  | 0, _, _, _, _, _ => none
  | k + 1, x0, x1, x6, x7, x8 => if x8 ≥ 0 then (if 0 ≤ (wrap64 (Int.tdiv x8 16)) then (if (wrap64 (Int.tdiv x8 16)) < (x0.length : Int) then (vernierref01_Div.l1 k x0 x1 x6 x7 x8 (rd x0 (wrap64 (Int.tdiv x8 16))) 0) else (none)) else (none)) else (some (x6, x7))
def vernierref01_Div.l1 : Nat → List Int → List Int → List Int → List Int → Int → Int → Int → Option (List Int × List Int)
  | 0, _, _, _, _, _, _, _ => none
  | k + 1, x0, x1, x6, x7, x8, x9, x10 => if x10 < (Int.tmod x8 16) then (vernierref01_Div.l1 k x0 x1 x6 x7 x8 (wrap64 (Int.tdiv x9 2)) (wrap64 (x10 + 1))) else ((vernierref01_Shl.f k x7 1).bind fun t345 => ((vernierref01_cut.f k (([Int.tmod x9 2] : List Int))).bind fun t351 => ((vernierref01_Add.f k t345 t351).bind fun t354 => ((vernierref01_Shl.f k x6 1).bind fun t357 => ((vernierref01_Cmp.f k t354 x1).bind fun t360 => (if t360 ≥ 0 then ((vernierref01_Sub.f k t354 x1).bind fun t361 => ((vernierref01_Add.f k t357 (([1] : List Int))).bind fun t367 => (vernierref01_Div.l0 k x0 x1 t367 t361 (wrap64 (x8 - 1))))) else (vernierref01_Div.l0 k x0 x1 t357 t354 (wrap64 (x8 - 1)))))))))
end
def vernierref01_Div.f (k : Nat) (l0 : List Int) (l1 : List Int) : Option (List Int × List Int) := (vernierref01_Bits.f k l0).bind fun t343 => (vernierref01_Div.l0 k l0 l1 ([] : List Int) ([] : List Int) (wrap64 (t343 - 1)))
theorem vernierref01_Div.mono_l : ∀ k, (∀ y0 y1 y2 y3 y4, LeO (vernierref01_Div.l0 k y0 y1 y2 y3 y4) (vernierref01_Div.l0 (k + 1) y0 y1 y2 y3 y4)) ∧ (∀ y0 y1 y2 y3 y4 y5 y6, LeO (vernierref01_Div.l1 k y0 y1 y2 y3 y4 y5 y6) (vernierref01_Div.l1 (k + 1) y0 y1 y2 y3 y4 y5 y6))
  | 0 => ⟨fun _ _ _ _ _ r h => by simp [vernierref01_Div.l0] at h, fun _ _ _ _ _ _ _ r h => by simp [vernierref01_Div.l1] at h⟩
  | k + 1 => by
    obtain ⟨ih0, ih1⟩ := vernierref01_Div.mono_l k
    refine ⟨?_, ?_⟩
    · intro y0 y1 y2 y3 y4
      unfold vernierref01_Div.l0
      repeat' first
      | (with_reducible exact ih0 _ _ _ _ _)
      | (with_reducible exact ih1 _ _ _ _ _ _ _)
      | (with_reducible exact vernierref01_Add.mono _ _ _)
      | (with_reducible exact vernierref01_Bits.mono _ _)
      | (with_reducible exact vernierref01_Cmp.mono _ _ _)
      | (with_reducible exact vernierref01_Shl.mono _ _ _)
      | (with_reducible exact vernierref01_Sub.mono _ _ _)
      | (with_reducible exact vernierref01_cut.mono _ _)
      | (with_reducible exact LeO.refl _)
      | (with_reducible exact LeO.none _)
      | (with_reducible refine LeO.ite ?_ ?_)
      | (with_reducible refine LeO.bind ?_ (fun _ => ?_))
      | exact ih0 _ _ _ _ _
      | exact ih1 _ _ _ _ _ _ _
      | exact vernierref01_Add.mono _ _ _
      | exact vernierref01_Bits.mono _ _
      | exact vernierref01_Cmp.mono _ _ _
      | exact vernierref01_Shl.mono _ _ _
      | exact vernierref01_Sub.mono _ _ _
      | exact vernierref01_cut.mono _ _
      | exact LeO.none _
      | refine LeO.ite ?_ ?_
      | refine LeO.bind ?_ (fun _ => ?_)
    · intro y0 y1 y2 y3 y4 y5 y6
      unfold vernierref01_Div.l1
      repeat' first
      | (with_reducible exact ih0 _ _ _ _ _)
      | (with_reducible exact ih1 _ _ _ _ _ _ _)
      | (with_reducible exact vernierref01_Add.mono _ _ _)
      | (with_reducible exact vernierref01_Bits.mono _ _)
      | (with_reducible exact vernierref01_Cmp.mono _ _ _)
      | (with_reducible exact vernierref01_Shl.mono _ _ _)
      | (with_reducible exact vernierref01_Sub.mono _ _ _)
      | (with_reducible exact vernierref01_cut.mono _ _)
      | (with_reducible exact LeO.refl _)
      | (with_reducible exact LeO.none _)
      | (with_reducible refine LeO.ite ?_ ?_)
      | (with_reducible refine LeO.bind ?_ (fun _ => ?_))
      | exact ih0 _ _ _ _ _
      | exact ih1 _ _ _ _ _ _ _
      | exact vernierref01_Add.mono _ _ _
      | exact vernierref01_Bits.mono _ _
      | exact vernierref01_Cmp.mono _ _ _
      | exact vernierref01_Shl.mono _ _ _
      | exact vernierref01_Sub.mono _ _ _
      | exact vernierref01_cut.mono _ _
      | exact LeO.none _
      | refine LeO.ite ?_ ?_
      | refine LeO.bind ?_ (fun _ => ?_)
theorem vernierref01_Div.mono : ∀ a0 a1 k, LeO (vernierref01_Div.f k a0 a1) (vernierref01_Div.f (k + 1) a0 a1) := by
  intro a0 a1 k
  obtain ⟨ih0, ih1⟩ := vernierref01_Div.mono_l k
  unfold vernierref01_Div.f
  repeat' first
      | (with_reducible exact ih0 _ _ _ _ _)
      | (with_reducible exact ih1 _ _ _ _ _ _ _)
      | (with_reducible exact vernierref01_Add.mono _ _ _)
      | (with_reducible exact vernierref01_Bits.mono _ _)
      | (with_reducible exact vernierref01_Cmp.mono _ _ _)
      | (with_reducible exact vernierref01_Shl.mono _ _ _)
      | (with_reducible exact vernierref01_Sub.mono _ _ _)
      | (with_reducible exact vernierref01_cut.mono _ _)
      | (with_reducible exact LeO.refl _)
      | (with_reducible exact LeO.none _)
      | (with_reducible refine LeO.ite ?_ ?_)
      | (with_reducible refine LeO.bind ?_ (fun _ => ?_))
      | exact ih0 _ _ _ _ _
      | exact ih1 _ _ _ _ _ _ _
      | exact vernierref01_Add.mono _ _ _
      | exact vernierref01_Bits.mono _ _
      | exact vernierref01_Cmp.mono _ _ _
      | exact vernierref01_Shl.mono _ _ _
      | exact vernierref01_Sub.mono _ _ _
      | exact vernierref01_cut.mono _ _
      | exact LeO.none _
      | refine LeO.ite ?_ ?_
      | refine LeO.bind ?_ (fun _ => ?_)
set_option maxHeartbeats 8000000 in
set_option maxRecDepth 100000 in
theorem vernierref01_Div.calls (k : Nat) (A0 : Option Addr) (c0 : Nat) (l0 : List Int) (A1 : Option Addr) (c1 : Nat) (l1 : List Int) (r1 : List Int) (r2 : List Int) (w : World) (hr0 : Kd.C (Kd.int .i64) w A0 l0.length l0) (hc0 : l0.length ≤ c0) (hr1 : Kd.C (Kd.int .i64) w A1 l1.length l1) (hc1 : l1.length ≤ c1) (h : vernierref01_Div.f k l0 l1 = some (r1, r2)) :
    Calls Try.prog 25 #[.slice A0 l0.length c0, .slice A1 l1.length c1] w fun e w' => ∃ v0_ v1_ : Value, e = .returned (.tuple #[v0_, v1_]) ∧ Kd.R (Kd.int .i64) 3 w' w.heap.size (fun k_ => some k_ ≠ (v1_ : Value).ownBlock) v0_ r1 ∧ Kd.R (Kd.int .i64) 3 w' w.heap.size (fun k_ => some k_ ≠ (v0_ : Value).ownBlock) v1_ r2 ∧ Below w.heap.size w w' := by
  have HR0 := Aside0.mk hr0
  have HC0 := Aside0.mk hc0
  clear hr0 hc0
  have HR1 := Aside0.mk hr1
  have HC1 := Aside0.mk hc1
  clear hr1 hc1
  have HB := Aside0.mk (Below.refl w.heap.size w)
  have H : ((vernierref01_Bits.f k l0).bind fun t343 => (vernierref01_Div.l0 k l0 l1 ([] : List Int) ([] : List Int) (wrap64 (t343 - 1)))) = some (r1, r2) := h
  clear h
  replace H := Option.bind_eq_some_iff.mp H
  obtain ⟨t343, A30, H⟩ := H
  replace H : (vernierref01_Div.l0 k l0 l1 ([] : List Int) ([] : List Int) (wrap64 (t343 - 1))) = some (r1, r2) := H
  have A3 := Aside0.mk A30
  clear A30
  have H' := Aside0.mk H
  clear H
  go_enter Try.func25, Try.ntmps25
  go_wp2_with (first | ((with_reducible refine gate_callee (f := 66) rfl ?_); refine goesL_ (some 12) rfl rfl Try.func66 (by kernel_rfl) rfl #[.slice A0 l0.length c0] rfl ar_ ?_; (with_reducible refine (vernierref01_Bits.calls k _ _ l0 t343 _ ?side1 ?side2 A3.out).mono ?_); (case side1 => repeat (first | exact HR0.out | (with_reducible refine Kd.C_alloc ?_ _) | (with_reducible refine Kd.C_drewN ?_ _) | (with_reducible refine Kd.C_drew ?_))); (case side2 => exact HC0.out); rintro e w' ⟨rfl, ⟨nd, rfl⟩⟩; refine ⟨_, rfl, ?_⟩))
  go_loopg [6, 7, 8] k (fun kq v6 v7 v8 w' => ∃ (x6_1 : List Int) (x7_1 : List Int) (x8_1 : Int), v8 = .int .i64 x8_1 ∧ Aside0 (vernierref01_Div.l0 kq l0 l1 x6_1 x7_1 x8_1 = some (r1, r2)) ∧ Aside0 (kq ≤ k) ∧ Aside0 (Kd.R (Kd.int .i64) 3 w' w.heap.size (fun k_ => some k_ ≠ (v7 : Value).ownBlock) v6 x6_1) ∧ Aside0 (Kd.R (Kd.int .i64) 3 w' w.heap.size (fun k_ => some k_ ≠ (v6 : Value).ownBlock) v7 x7_1) ∧ Aside0 (Below w.heap.size w w'))
  case atStart => exact ⟨(([] : List Int)), (([] : List Int)), (wrap64 (t343 - 1)), (by first | rfl | (simp; done) | (simp [*]; done)), H', ⟨Nat.le_refl _⟩, ⟨by first | exact Kd.R_nil _ _ _ _ _ | exact Kd.N_nil _ _ _ _ _ | exact Kd.V_nil _ _ _ _ _ | exact Kd.Q_nil _ _ _ _ _ | exact Kd.S_nil _ _ _ _ _⟩, ⟨by first | exact Kd.R_nil _ _ _ _ _ | exact Kd.N_nil _ _ _ _ _ | exact Kd.V_nil _ _ _ _ _ | exact Kd.Q_nil _ _ _ _ _ | exact Kd.S_nil _ _ _ _ _⟩, ⟨dn_ HB⟩⟩
  case round =>
    clear H'
    try clear c1
    try clear c2
    try clear p2
    obtain ⟨x6_1, x7_1, x8_1, rfl, HA, HK1, HO_6, HO_7, HB⟩ := hrel
    cases gk with
    | zero => exact absurd HA.out (by simp [vernierref01_Div.l0])
    | succ k1 =>
      have H := HA.out
      clear HA
      simp only [vernierref01_Div.l0] at H
      by_cases c4 : x8_1 ≥ 0
      · rw [if_pos c4] at H
        have c4b0 : decide (0 ≤ x8_1) = true := decide_eq_true c4
        clear c4
        obtain ⟨ji5, hji5⟩ : ∃ j_ : Int, (wrap64 (Int.tdiv x8_1 16)) = j_ := ⟨_, rfl⟩
        replace H : (if 0 ≤ (ji5) then (if (ji5) < (l0.length : Int) then (vernierref01_Div.l1 k1 l0 l1 x6_1 x7_1 x8_1 (rd l0 (ji5)) 0) else (none)) else (none)) = some (r1, r2) := by first | (rw [hji5] at H; exact H) | (simp only [hji5] at H ⊢; exact H)
        have hji5w : (IntKind.i64.wrap (Int.tdiv x8_1 16)) = ji5 := (i64_w _).trans hji5
        by_cases c6 : 0 ≤ (ji5)
        · rw [if_pos c6] at H
          have c6b0 : decide (0 ≤ (ji5)) = true := decide_eq_true c6
          clear c6
          by_cases c7 : (ji5) < (l0.length : Int)
          · rw [if_pos c7] at H
            have c7b0 : decide ((ji5) < (l0.length : Int)) = true := decide_eq_true c7
            clear c7
            have H' := Aside0.mk H
            clear H
            have p344 : 0 ≤ ((ji5) : Int) := of_decide_eq_true as_
            have q344 : (ji5) < (l0.length : Int) := of_decide_eq_true as_
            obtain ⟨ad344, e344, hx344_0⟩ := Kd.at_int HR0.out (ji5) p344 q344
            cases e344
            replace hx344_0 := (HB.out.cell (World.block_lt_of_cell? w _ hx344_0)).trans hx344_0
            replace p344 := eq_true p344
            replace q344 := eq_true q344
            (try (have q344n := q344; simp only [Int.ofNat_lt] at q344n))
            (try (have q344d := q344; simp only [List.length_drop] at q344d))
            go_wp2
            go_loopg [9, 10] k1 (fun kq v9 v10 w' => ∃ (x9_2 : Int) (x10_2 : Int), v9 = .int .i64 x9_2 ∧ v10 = .int .i64 x10_2 ∧ Aside0 (vernierref01_Div.l1 kq l0 l1 x6_1 x7_1 x8_1 x9_2 x10_2 = some (r1, r2)) ∧ Aside0 (kq ≤ k1) ∧ Aside0 (Kd.R (Kd.int .i64) 3 w' w.heap.size (fun k_ => some k_ ≠ (u7 : Value).ownBlock) u6 x6_1) ∧ Aside0 (Kd.R (Kd.int .i64) 3 w' w.heap.size (fun k_ => some k_ ≠ (u6 : Value).ownBlock) u7 x7_1) ∧ Aside0 (Below w.heap.size w w'))
            case atStart => exact ⟨(rd l0 (ji5)), (0), (by first | rfl | (simp; done) | (simp only [← hji5] <;> (first | rfl | simp)) | (simp [*]; done)), (by first | rfl | (simp; done) | (simp [*]; done)), H', ⟨Nat.le_refl _⟩, ⟨by (with_reducible repeat (first | apply Kd.R_alloc | apply Kd.R_drewN | apply Kd.R_drew)); exact HO_6.out⟩, ⟨by (with_reducible repeat (first | apply Kd.R_alloc | apply Kd.R_drewN | apply Kd.R_drew)); exact HO_7.out⟩, ⟨dn_ HB⟩⟩
            case round =>
              clear H'
              try clear c1
              try clear c2
              try clear p2
              try clear p3
              try clear q3
              try clear hx3
              try clear c4
              try clear c4b0
              try clear c6
              try clear c6b0
              try clear p6
              try clear c7
              try clear c7b0
              try clear hx344_0
              try clear p2
              try clear p344
              try clear q344
              obtain ⟨x9_2, x10_2, rfl, rfl, HA, HK2, HO_6, HO_7, HB⟩ := hrel
              cases gk with
              | zero => exact absurd HA.out (by simp [vernierref01_Div.l1])
              | succ k2 =>
                have H := HA.out
                clear HA
                simp only [vernierref01_Div.l1] at H
                by_cases c8 : x10_2 < (Int.tmod x8_1 16)
                · rw [if_pos c8] at H
                  have c8b0 : decide (x10_2 < (Int.tmod x8_1 16)) = true := decide_eq_true c8
                  clear c8
                  have H' := Aside0.mk H
                  clear H
                  go_wp2
                  go_roundg k2
                  case measure => have := HK1.out; have := HK2.out; omega
                  case rel => exact ⟨(wrap64 (Int.tdiv x9_2 2)), (wrap64 (x10_2 + 1)), (by first | rfl | (simp; done) | (simp [*]; done)), (by first | rfl | (simp; done) | (simp [*]; done)), H', ⟨by have := HK1.out; have := HK2.out; omega⟩, ⟨by (with_reducible repeat (first | apply Kd.R_alloc | apply Kd.R_drewN | apply Kd.R_drew)); exact HO_6.out⟩, ⟨by (with_reducible repeat (first | apply Kd.R_alloc | apply Kd.R_drewN | apply Kd.R_drew)); exact HO_7.out⟩, ⟨dn_ HB⟩⟩
                · rw [if_neg c8] at H
                  have c8b0 : decide (x10_2 < (Int.tmod x8_1 16)) = false := decide_eq_false c8
                  clear c8
                  replace H := Option.bind_eq_some_iff.mp H
                  obtain ⟨t345, A90, H⟩ := H
                  replace H : ((vernierref01_cut.f k2 (([Int.tmod x9_2 2] : List Int))).bind fun t351 => ((vernierref01_Add.f k2 t345 t351).bind fun t354 => ((vernierref01_Shl.f k2 x6_1 1).bind fun t357 => ((vernierref01_Cmp.f k2 t354 l1).bind fun t360 => (if t360 ≥ 0 then ((vernierref01_Sub.f k2 t354 l1).bind fun t361 => ((vernierref01_Add.f k2 t357 (([1] : List Int))).bind fun t367 => (vernierref01_Div.l0 k2 l0 l1 t367 t361 (wrap64 (x8_1 - 1))))) else (vernierref01_Div.l0 k2 l0 l1 t357 t354 (wrap64 (x8_1 - 1)))))))) = some (r1, r2) := H
                  have A9 := Aside0.mk A90
                  clear A90
                  obtain ⟨y348, hy348⟩ : ∃ y_ : List Int, y_ = (([Int.tmod x9_2 2] : List Int)) := ⟨_, rfl⟩
                  replace H : ((vernierref01_cut.f k2 y348).bind fun t351 => ((vernierref01_Add.f k2 t345 t351).bind fun t354 => ((vernierref01_Shl.f k2 x6_1 1).bind fun t357 => ((vernierref01_Cmp.f k2 t354 l1).bind fun t360 => (if t360 ≥ 0 then ((vernierref01_Sub.f k2 t354 l1).bind fun t361 => ((vernierref01_Add.f k2 t357 (([1] : List Int))).bind fun t367 => (vernierref01_Div.l0 k2 l0 l1 t367 t361 (wrap64 (x8_1 - 1))))) else (vernierref01_Div.l0 k2 l0 l1 t357 t354 (wrap64 (x8_1 - 1)))))))) = some (r1, r2) := by first | (rw [hy348]; with_reducible exact H) | (have H2_ := (Option.bind_some _ _).symm.trans H; rw [hy348]; with_reducible exact H2_) | (have H2_ := (Option.bind_some _ _).symm.trans H; with_reducible exact H2_) | with_reducible exact H | (rw [hy348]; exact H) | exact H
                  have Ny348 := Aside0.mk hy348
                  clear hy348
                  replace H := Option.bind_eq_some_iff.mp H
                  obtain ⟨t351, A100, H⟩ := H
                  replace H : ((vernierref01_Add.f k2 t345 t351).bind fun t354 => ((vernierref01_Shl.f k2 x6_1 1).bind fun t357 => ((vernierref01_Cmp.f k2 t354 l1).bind fun t360 => (if t360 ≥ 0 then ((vernierref01_Sub.f k2 t354 l1).bind fun t361 => ((vernierref01_Add.f k2 t357 (([1] : List Int))).bind fun t367 => (vernierref01_Div.l0 k2 l0 l1 t367 t361 (wrap64 (x8_1 - 1))))) else (vernierref01_Div.l0 k2 l0 l1 t357 t354 (wrap64 (x8_1 - 1))))))) = some (r1, r2) := H
                  have A10 := Aside0.mk A100
                  clear A100
                  replace H := Option.bind_eq_some_iff.mp H
                  obtain ⟨t354, A110, H⟩ := H
                  replace H : ((vernierref01_Shl.f k2 x6_1 1).bind fun t357 => ((vernierref01_Cmp.f k2 t354 l1).bind fun t360 => (if t360 ≥ 0 then ((vernierref01_Sub.f k2 t354 l1).bind fun t361 => ((vernierref01_Add.f k2 t357 (([1] : List Int))).bind fun t367 => (vernierref01_Div.l0 k2 l0 l1 t367 t361 (wrap64 (x8_1 - 1))))) else (vernierref01_Div.l0 k2 l0 l1 t357 t354 (wrap64 (x8_1 - 1)))))) = some (r1, r2) := H
                  have A11 := Aside0.mk A110
                  clear A110
                  replace H := Option.bind_eq_some_iff.mp H
                  obtain ⟨t357, A120, H⟩ := H
                  replace H : ((vernierref01_Cmp.f k2 t354 l1).bind fun t360 => (if t360 ≥ 0 then ((vernierref01_Sub.f k2 t354 l1).bind fun t361 => ((vernierref01_Add.f k2 t357 (([1] : List Int))).bind fun t367 => (vernierref01_Div.l0 k2 l0 l1 t367 t361 (wrap64 (x8_1 - 1))))) else (vernierref01_Div.l0 k2 l0 l1 t357 t354 (wrap64 (x8_1 - 1))))) = some (r1, r2) := H
                  have A12 := Aside0.mk A120
                  clear A120
                  replace H := Option.bind_eq_some_iff.mp H
                  obtain ⟨t360, A130, H⟩ := H
                  replace H : (if t360 ≥ 0 then ((vernierref01_Sub.f k2 t354 l1).bind fun t361 => ((vernierref01_Add.f k2 t357 (([1] : List Int))).bind fun t367 => (vernierref01_Div.l0 k2 l0 l1 t367 t361 (wrap64 (x8_1 - 1))))) else (vernierref01_Div.l0 k2 l0 l1 t357 t354 (wrap64 (x8_1 - 1)))) = some (r1, r2) := H
                  have A13 := Aside0.mk A130
                  clear A130
                  by_cases c14 : t360 ≥ 0
                  · rw [if_pos c14] at H
                    have c14b0 : decide (0 ≤ t360) = true := decide_eq_true c14
                    clear c14
                    replace H := Option.bind_eq_some_iff.mp H
                    obtain ⟨t361, A150, H⟩ := H
                    replace H : ((vernierref01_Add.f k2 t357 (([1] : List Int))).bind fun t367 => (vernierref01_Div.l0 k2 l0 l1 t367 t361 (wrap64 (x8_1 - 1)))) = some (r1, r2) := H
                    have A15 := Aside0.mk A150
                    clear A150
                    obtain ⟨y364, hy364⟩ : ∃ y_ : List Int, y_ = (([1] : List Int)) := ⟨_, rfl⟩
                    replace H : ((vernierref01_Add.f k2 t357 y364).bind fun t367 => (vernierref01_Div.l0 k2 l0 l1 t367 t361 (wrap64 (x8_1 - 1)))) = some (r1, r2) := by first | (rw [hy364]; with_reducible exact H) | (have H2_ := (Option.bind_some _ _).symm.trans H; rw [hy364]; with_reducible exact H2_) | (have H2_ := (Option.bind_some _ _).symm.trans H; with_reducible exact H2_) | with_reducible exact H | (rw [hy364]; exact H) | exact H
                    have Ny364 := Aside0.mk hy364
                    clear hy364
                    replace H := Option.bind_eq_some_iff.mp H
                    obtain ⟨t367, A160, H⟩ := H
                    replace H : (vernierref01_Div.l0 k2 l0 l1 t367 t361 (wrap64 (x8_1 - 1))) = some (r1, r2) := H
                    have A16 := Aside0.mk A160
                    clear A160
                    have H' := Aside0.mk H
                    clear H
                    obtain ⟨Ao17, co17, eo17⟩ := Kd.R_slice HO_7.out
                    subst eo17
                    go_wp2_with (first | ((with_reducible refine gate_callee (f := 23) rfl ?_); refine goesL_ (some 32) rfl rfl Try.func23 (by kernel_rfl) rfl #[.slice Ao17 x7_1.length co17, .int .i64 1] rfl ar_ ?_; (with_reducible refine (vernierref01_Shl.calls k2 _ _ x7_1 1 t345 _ ?side1 ?side2 A9.out).mono ?_); (case side1 => exact cs_ (Kd.R_reads' HO_7.out).2.2); (case side2 => exact (Kd.R_reads' HO_7.out).2.1); rintro e w18 ⟨v346, rfl, ho0, hb⟩; refine ⟨_, rfl, ?_⟩; have n0_ := Aside0.mk (Kd.R_elder' (up_ HO_6) (Kd.R_base ho0) hb); have n1_ := Aside0.mk (Kd.R_elder' (up_ HO_7) (Kd.R_base ho0) hb); have n2_ := Aside0.mk (Kd.R_lower (Kd.R_new' (Kd.R_new' ho0 (Kd.R_lt (up_ HO_6))) (Kd.R_lt (up_ HO_7))) (below_size (dn_ HB))); have n3_ := Aside0.mk (below_step (dn_ HB) hb); clear HO_6; clear HO_7; clear HB; have HO_6 := n0_; have HO_7 := n1_; have HO347 := n2_; have HB := n3_; clear n0_ n1_ n2_ n3_; (try clear hb); (try clear hk); (try clear ho0)) | ((with_reducible refine gate_dst (N := 35) rfl ?_); refine Kd.R_lit (Kd.int .i64) _ 3 ?hg (N := 35) ?hd (xs := ([Int.tmod x9_2 2] : List Int)) (inner := [.int .i64 (Int.tmod x9_2 2)]) (ok := fun _ => True) (okp := fun _ => True) ?hr ?hp (fun _ hk => hk) trivial (Below.refl _ _) (Nat.le_refl _) (by simp) ?_; (case hd => rfl); (case hg => rfl); (case hr => first | (go_simp; done) | (go_simp; rfl)); (case hp => exact (Reps.one (show Kd.M (Kd.int .i64) _ _ _ (Int.tmod x9_2 2) [.int .i64 (Int.tmod x9_2 2)] from rfl) (Reps.none _ _))); intro v349 w19 ho20 hb hg_ hnew_; clear hg_ hnew_; (first | rw [← Ny348.out] at ho20 | (simp only [Int.reduceToNat] at ho20; rw [← Ny348.out] at ho20)); have n0_ := Aside0.mk (Kd.R_elder' (up_ HO_6) (Kd.R_base ho20) hb); have n1_ := Aside0.mk (Kd.R_elder' (up_ HO_7) (Kd.R_base ho20) hb); have n2_ := Aside0.mk (Kd.R_elder' (up_ HO347) (Kd.R_base ho20) hb); have n3_ := Aside0.mk (Kd.R_lower (Kd.R_new' (Kd.R_new' (Kd.R_new' ho20 (Kd.R_lt (up_ HO_6))) (Kd.R_lt (up_ HO_7))) (Kd.R_lt (up_ HO347))) (below_size (dn_ HB))); have n4_ := Aside0.mk (below_step (dn_ HB) hb); clear HO_6; clear HO_7; clear HO347; clear HB; have HO_6 := n0_; have HO_7 := n1_; have HO347 := n2_; have HO350 := n3_; have HB := n4_; clear n0_ n1_ n2_ n3_ n4_; clear hb ho20; obtain ⟨Ao21, co21, eo21⟩ := Kd.R_slice HO350.out; subst eo21) | ((with_reducible refine gate_callee (f := 63) rfl ?_); refine goesL_ (some 36) rfl rfl Try.func63 (by kernel_rfl) rfl #[.slice Ao21 y348.length co21] rfl ar_ ?_; (with_reducible refine (vernierref01_cut.calls k2 (fun k_ => some k_ = (.slice Ao21 y348.length co21 : Value).ownBlock) (.slice Ao21 y348.length co21) y348 t351 w _ ?side1 ?side2 A10.out).mono ?_); (case side1 => repeat (first | (with_reducible first | exact HB.out | apply below_alloc | apply pw_below_drewN | apply below_drew1) | exact HB.out)); (case side2 => exact Kd.R_tight rfl HO350.out); rintro e w22 ⟨v352, rfl, ho0, hb, hkp⟩; refine ⟨_, rfl, ?_⟩; have n0_ := Aside0.mk (Kd.R_mono (ok' := fun k_ => some k_ ≠ (.slice Ao17 x7_1.length co17 : Value).ownBlock ∧ some k_ ≠ (v346 : Value).ownBlock ∧ some k_ ≠ (v352 : Value).ownBlock) (Kd.R_keptB (HO_6.out) hkp (fun k_ hk_ hs_ => (hk_.2) hs_)) (fun k_ hk_ => ⟨hk_.1.1.1, hk_.1.1.2, fun e_ => Or.elim (ho0.1 k_ e_.symm) (fun hs_ => hk_.2.1 hs_) (fun hn_ => Nat.not_le.2 hk_.2.2 hn_)⟩)); have n1_ := Aside0.mk (Kd.R_mono (ok' := fun k_ => some k_ ≠ (u6 : Value).ownBlock ∧ some k_ ≠ (v346 : Value).ownBlock ∧ some k_ ≠ (v352 : Value).ownBlock) (Kd.R_keptB (HO_7.out) hkp (fun k_ hk_ hs_ => (hk_.2) hs_)) (fun k_ hk_ => ⟨hk_.1.1.1, hk_.1.1.2, fun e_ => Or.elim (ho0.1 k_ e_.symm) (fun hs_ => hk_.2.1 hs_) (fun hn_ => Nat.not_le.2 hk_.2.2 hn_)⟩)); have n2_ := Aside0.mk (Kd.R_mono (ok' := fun k_ => some k_ ≠ (u6 : Value).ownBlock ∧ some k_ ≠ (.slice Ao17 x7_1.length co17 : Value).ownBlock ∧ some k_ ≠ (v352 : Value).ownBlock) (Kd.R_keptB (HO347.out) hkp (fun k_ hk_ hs_ => (hk_.2) hs_)) (fun k_ hk_ => ⟨hk_.1.1.1.2, hk_.1.1.2, fun e_ => Or.elim (ho0.1 k_ e_.symm) (fun hs_ => hk_.2.1 hs_) (fun hn_ => Nat.not_le.2 hk_.2.2 hn_)⟩)); have n3_ := Aside0.mk (Kd.R_mono (ok' := fun k_ => some k_ ≠ (u6 : Value).ownBlock ∧ some k_ ≠ (.slice Ao17 x7_1.length co17 : Value).ownBlock ∧ some k_ ≠ (v346 : Value).ownBlock) ho0 (fun k_ hk_ => ⟨Or.elim hk_ (fun hs_ => fun e_ => (((HO_6.out).1 k_ e_.symm).2) hs_) (fun hn_ => (Kd.fresh' (Kd.R_lt (up_ HO_6)) k_ hn_)), Or.elim hk_ (fun hs_ => fun e_ => (((HO_7.out).1 k_ e_.symm).2) hs_) (fun hn_ => (Kd.fresh' (Kd.R_lt (up_ HO_7)) k_ hn_)), Or.elim hk_ (fun hs_ => fun e_ => (((HO347.out).1 k_ e_.symm).2) hs_) (fun hn_ => (Kd.fresh' (Kd.R_lt (up_ HO347)) k_ hn_))⟩)); have n4_ := Aside0.mk (hb); clear HO_6; clear HO_7; clear HO347; clear HB; clear HO350; have HO_6 := n0_; have HO_7 := n1_; have HO347 := n2_; have HO353 := n3_; have HB := n4_; clear n0_ n1_ n2_ n3_ n4_; (try clear hb); (try clear hkp); (try clear ho0); obtain ⟨Ao23, co23, eo23⟩ := Kd.R_slice HO347.out; subst eo23; obtain ⟨Ao24, co24, eo24⟩ := Kd.R_slice HO353.out; subst eo24) | ((with_reducible refine gate_callee (f := 67) rfl ?_); refine goesL_ (some 37) rfl rfl Try.func67 (by kernel_rfl) rfl #[.slice Ao23 t345.length co23, .slice Ao24 t351.length co24] rfl ar_ ?_; (with_reducible refine (vernierref01_Add.calls k2 _ _ t345 _ _ t351 t354 _ ?side1 ?side2 ?side3 ?side4 A11.out).mono ?_); (case side1 => exact cs_ (Kd.R_reads' HO347.out).2.2); (case side2 => exact (Kd.R_reads' HO347.out).2.1); (case side3 => exact cs_ (Kd.R_reads' HO353.out).2.2); (case side4 => exact (Kd.R_reads' HO353.out).2.1); rintro e w25 ⟨v355, rfl, ho0, hb⟩; refine ⟨_, rfl, ?_⟩; have n0_ := Aside0.mk (Kd.R_elder' (up_ HO_6) (Kd.R_base ho0) hb); have n1_ := Aside0.mk (Kd.R_elder' (up_ HO_7) (Kd.R_base ho0) hb); have n2_ := Aside0.mk (Kd.R_elder' (up_ HO347) (Kd.R_base ho0) hb); have n3_ := Aside0.mk (Kd.R_elder' (up_ HO353) (Kd.R_base ho0) hb); have n4_ := Aside0.mk (Kd.R_lower (Kd.R_new' (Kd.R_new' (Kd.R_new' (Kd.R_new' ho0 (Kd.R_lt (up_ HO_6))) (Kd.R_lt (up_ HO_7))) (Kd.R_lt (up_ HO347))) (Kd.R_lt (up_ HO353))) (below_size (dn_ HB))); have n5_ := Aside0.mk (below_step (dn_ HB) hb); clear HO_6; clear HO_7; clear HO347; clear HO353; clear HB; have HO_6 := n0_; have HO_7 := n1_; have HO347 := n2_; have HO353 := n3_; have HO356 := n4_; have HB := n5_; clear n0_ n1_ n2_ n3_ n4_ n5_; (try clear hb); (try clear hk); (try clear ho0); obtain ⟨Ao26, co26, eo26⟩ := Kd.R_slice HO_6.out; subst eo26) | ((with_reducible refine gate_callee (f := 23) rfl ?_); refine goesL_ (some 39) rfl rfl Try.func23 (by kernel_rfl) rfl #[.slice Ao26 x6_1.length co26, .int .i64 1] rfl ar_ ?_; (with_reducible refine (vernierref01_Shl.calls k2 _ _ x6_1 1 t357 _ ?side1 ?side2 A12.out).mono ?_); (case side1 => exact cs_ (Kd.R_reads' HO_6.out).2.2); (case side2 => exact (Kd.R_reads' HO_6.out).2.1); rintro e w27 ⟨v358, rfl, ho0, hb⟩; refine ⟨_, rfl, ?_⟩; have n0_ := Aside0.mk (Kd.R_elder' (up_ HO_6) (Kd.R_base ho0) hb); have n1_ := Aside0.mk (Kd.R_elder' (up_ HO_7) (Kd.R_base ho0) hb); have n2_ := Aside0.mk (Kd.R_elder' (up_ HO347) (Kd.R_base ho0) hb); have n3_ := Aside0.mk (Kd.R_elder' (up_ HO353) (Kd.R_base ho0) hb); have n4_ := Aside0.mk (Kd.R_elder' (up_ HO356) (Kd.R_base ho0) hb); have n5_ := Aside0.mk (Kd.R_lower (Kd.R_new' (Kd.R_new' (Kd.R_new' (Kd.R_new' (Kd.R_new' ho0 (Kd.R_lt (up_ HO_6))) (Kd.R_lt (up_ HO_7))) (Kd.R_lt (up_ HO347))) (Kd.R_lt (up_ HO353))) (Kd.R_lt (up_ HO356))) (below_size (dn_ HB))); have n6_ := Aside0.mk (below_step (dn_ HB) hb); clear HO_6; clear HO_7; clear HO347; clear HO353; clear HO356; clear HB; have HO_6 := n0_; have HO_7 := n1_; have HO347 := n2_; have HO353 := n3_; have HO356 := n4_; have HO359 := n5_; have HB := n6_; clear n0_ n1_ n2_ n3_ n4_ n5_ n6_; (try clear hb); (try clear hk); (try clear ho0); obtain ⟨Ao28, co28, eo28⟩ := Kd.R_slice HO356.out; subst eo28) | ((with_reducible refine gate_callee (f := 68) rfl ?_); refine goesL_ (some 42) rfl rfl Try.func68 (by kernel_rfl) rfl #[.slice Ao28 t354.length co28, .slice A1 l1.length c1] rfl ar_ ?_; (with_reducible refine (vernierref01_Cmp.calls k2 _ _ t354 _ _ l1 t360 _ ?side1 ?side2 ?side3 ?side4 A13.out).mono ?_); (case side1 => exact cs_ (Kd.R_reads' HO356.out).2.2); (case side2 => exact (Kd.R_reads' HO356.out).2.1); (case side3 => repeat (first | exact (Kd.C_below HR1.out HB.out) | (with_reducible refine Kd.C_alloc ?_ _) | (with_reducible refine Kd.C_drewN ?_ _) | (with_reducible refine Kd.C_drew ?_))); (case side4 => exact HC1.out); rintro e w' ⟨rfl, ⟨nd, rfl⟩⟩; refine ⟨_, rfl, ?_⟩) | ((with_reducible refine gate_callee (f := 69) rfl ?_); refine goesL_ (some 46) rfl rfl Try.func69 (by kernel_rfl) rfl #[.slice Ao28 t354.length co28, .slice A1 l1.length c1] rfl ar_ ?_; (with_reducible refine (vernierref01_Sub.calls k2 (fun k_ => some k_ = (.slice Ao28 t354.length co28 : Value).ownBlock) _ _ t354 (fun k_ => k_ < w.heap.size) _ _ l1 t361 _ ?side1 ?side2 A15.out).mono ?_); (case side1 => exact Kd.R_V (Kd.R_tight rfl (HO356.out))); (case side2 => exact Kd.V_mk HC1.out (Kd.F_below (Kd.C_F (Kd.heap_int .i64) HR1.out) (dn_ HB))); rintro e w29 ⟨v362, rfl, ho0, hb⟩; refine ⟨_, rfl, ?_⟩; have n0_ := Aside0.mk (Kd.R_elder' (up_ HO_6) (Kd.R_base ho0) hb); have n1_ := Aside0.mk (Kd.R_elder' (up_ HO_7) (Kd.R_base ho0) hb); have n2_ := Aside0.mk (Kd.R_elder' (up_ HO347) (Kd.R_base ho0) hb); have n3_ := Aside0.mk (Kd.R_elder' (up_ HO353) (Kd.R_base ho0) hb); have n4_ := Aside0.mk (Kd.R_elder' (up_ HO356) (Kd.R_base ho0) hb); have n5_ := Aside0.mk (Kd.R_elder' (up_ HO359) (Kd.R_base ho0) hb); have n6_ := Aside0.mk (Kd.R_lower (Kd.R_new' (Kd.R_new' (Kd.R_new' (Kd.R_new' (Kd.R_new' (Kd.R_new' (Kd.R_mono (ok' := fun k_ => True) ho0 (fun _ hk_ => trivial)) (Kd.R_lt (up_ HO_6))) (Kd.R_lt (up_ HO_7))) (Kd.R_lt (up_ HO347))) (Kd.R_lt (up_ HO353))) (Kd.R_lt (up_ HO356))) (Kd.R_lt (up_ HO359))) (below_size (dn_ HB))); have n7_ := Aside0.mk (below_step (dn_ HB) hb); clear HO_6; clear HO_7; clear HO347; clear HO353; clear HO356; clear HO359; clear HB; have HO_6 := n0_; have HO_7 := n1_; have HO347 := n2_; have HO353 := n3_; have HO356 := n4_; have HO359 := n5_; have HO363 := n6_; have HB := n7_; clear n0_ n1_ n2_ n3_ n4_ n5_ n6_ n7_; (try clear hb); (try clear hk); (try clear ho0)) | ((with_reducible refine gate_dst (N := 48) rfl ?_); refine Kd.R_lit (Kd.int .i64) _ 3 ?hg (N := 48) ?hd (xs := ([1] : List Int)) (inner := [.int .i64 1]) (ok := fun _ => True) (okp := fun _ => True) ?hr ?hp (fun _ hk => hk) trivial (Below.refl _ _) (Nat.le_refl _) (by simp) ?_; (case hd => rfl); (case hg => rfl); (case hr => first | (go_simp; done) | (go_simp; rfl)); (case hp => exact (Reps.one (show Kd.M (Kd.int .i64) _ _ _ 1 [.int .i64 1] from rfl) (Reps.none _ _))); intro v365 w30 ho31 hb hg_ hnew_; clear hg_ hnew_; (first | rw [← Ny364.out] at ho31 | (simp only [Int.reduceToNat] at ho31; rw [← Ny364.out] at ho31)); have n0_ := Aside0.mk (Kd.R_elder' (up_ HO_6) (Kd.R_base ho31) hb); have n1_ := Aside0.mk (Kd.R_elder' (up_ HO_7) (Kd.R_base ho31) hb); have n2_ := Aside0.mk (Kd.R_elder' (up_ HO347) (Kd.R_base ho31) hb); have n3_ := Aside0.mk (Kd.R_elder' (up_ HO353) (Kd.R_base ho31) hb); have n4_ := Aside0.mk (Kd.R_elder' (up_ HO356) (Kd.R_base ho31) hb); have n5_ := Aside0.mk (Kd.R_elder' (up_ HO359) (Kd.R_base ho31) hb); have n6_ := Aside0.mk (Kd.R_elder' (up_ HO363) (Kd.R_base ho31) hb); have n7_ := Aside0.mk (Kd.R_lower (Kd.R_new' (Kd.R_new' (Kd.R_new' (Kd.R_new' (Kd.R_new' (Kd.R_new' (Kd.R_new' ho31 (Kd.R_lt (up_ HO_6))) (Kd.R_lt (up_ HO_7))) (Kd.R_lt (up_ HO347))) (Kd.R_lt (up_ HO353))) (Kd.R_lt (up_ HO356))) (Kd.R_lt (up_ HO359))) (Kd.R_lt (up_ HO363))) (below_size (dn_ HB))); have n8_ := Aside0.mk (below_step (dn_ HB) hb); clear HO_6; clear HO_7; clear HO347; clear HO353; clear HO356; clear HO359; clear HO363; clear HB; have HO_6 := n0_; have HO_7 := n1_; have HO347 := n2_; have HO353 := n3_; have HO356 := n4_; have HO359 := n5_; have HO363 := n6_; have HO366 := n7_; have HB := n8_; clear n0_ n1_ n2_ n3_ n4_ n5_ n6_ n7_ n8_; clear hb ho31; obtain ⟨Ao32, co32, eo32⟩ := Kd.R_slice HO359.out; subst eo32; obtain ⟨Ao33, co33, eo33⟩ := Kd.R_slice HO366.out; subst eo33) | ((with_reducible refine gate_callee (f := 67) rfl ?_); refine goesL_ (some 49) rfl rfl Try.func67 (by kernel_rfl) rfl #[.slice Ao32 t357.length co32, .slice Ao33 y364.length co33] rfl ar_ ?_; (with_reducible refine (vernierref01_Add.calls k2 _ _ t357 _ _ y364 t367 _ ?side1 ?side2 ?side3 ?side4 A16.out).mono ?_); (case side1 => exact cs_ (Kd.R_reads' HO359.out).2.2); (case side2 => exact (Kd.R_reads' HO359.out).2.1); (case side3 => exact cs_ (Kd.R_reads' HO366.out).2.2); (case side4 => exact (Kd.R_reads' HO366.out).2.1); rintro e w34 ⟨v368, rfl, ho0, hb⟩; refine ⟨_, rfl, ?_⟩; have n0_ := Aside0.mk (Kd.R_elder' (up_ HO_6) (Kd.R_base ho0) hb); have n1_ := Aside0.mk (Kd.R_elder' (up_ HO_7) (Kd.R_base ho0) hb); have n2_ := Aside0.mk (Kd.R_elder' (up_ HO347) (Kd.R_base ho0) hb); have n3_ := Aside0.mk (Kd.R_elder' (up_ HO353) (Kd.R_base ho0) hb); have n4_ := Aside0.mk (Kd.R_elder' (up_ HO356) (Kd.R_base ho0) hb); have n5_ := Aside0.mk (Kd.R_elder' (up_ HO359) (Kd.R_base ho0) hb); have n6_ := Aside0.mk (Kd.R_elder' (up_ HO363) (Kd.R_base ho0) hb); have n7_ := Aside0.mk (Kd.R_elder' (up_ HO366) (Kd.R_base ho0) hb); have n8_ := Aside0.mk (Kd.R_lower (Kd.R_new' (Kd.R_new' (Kd.R_new' (Kd.R_new' (Kd.R_new' (Kd.R_new' (Kd.R_new' (Kd.R_new' ho0 (Kd.R_lt (up_ HO_6))) (Kd.R_lt (up_ HO_7))) (Kd.R_lt (up_ HO347))) (Kd.R_lt (up_ HO353))) (Kd.R_lt (up_ HO356))) (Kd.R_lt (up_ HO359))) (Kd.R_lt (up_ HO363))) (Kd.R_lt (up_ HO366))) (below_size (dn_ HB))); have n9_ := Aside0.mk (below_step (dn_ HB) hb); clear HO_6; clear HO_7; clear HO347; clear HO353; clear HO356; clear HO359; clear HO363; clear HO366; clear HB; have HO_6 := n0_; have HO_7 := n1_; have HO347 := n2_; have HO353 := n3_; have HO356 := n4_; have HO359 := n5_; have HO363 := n6_; have HO366 := n7_; have HO369 := n8_; have HB := n9_; clear n0_ n1_ n2_ n3_ n4_ n5_ n6_ n7_ n8_ n9_; (try clear hb); (try clear hk); (try clear ho0)))
                    go_roundg k2
                    case measure => have := HK1.out; have := HK2.out; omega
                    case rel => exact ⟨(t367), (t361), (wrap64 (x8_1 - 1)), (by first | rfl | (simp; done) | (simp [*]; done)), H', ⟨by have := HK1.out; have := HK2.out; omega⟩, ⟨by (with_reducible repeat (first | apply Kd.R_alloc | apply Kd.R_drewN | apply Kd.R_drew)); exact Kd.R_mono HO369.out (fun _ hk => hk.1.2)⟩, ⟨by (with_reducible repeat (first | apply Kd.R_alloc | apply Kd.R_drewN | apply Kd.R_drew)); exact Kd.R_mono HO363.out (fun _ hk => hk.2)⟩, ⟨dn_ HB⟩⟩
                  · rw [if_neg c14] at H
                    have c14b0 : decide (0 ≤ t360) = false := decide_eq_false c14
                    clear c14
                    have H' := Aside0.mk H
                    clear H
                    obtain ⟨Ao35, co35, eo35⟩ := Kd.R_slice HO_7.out
                    subst eo35
                    go_wp2_with (first | ((with_reducible refine gate_callee (f := 23) rfl ?_); refine goesL_ (some 32) rfl rfl Try.func23 (by kernel_rfl) rfl #[.slice Ao35 x7_1.length co35, .int .i64 1] rfl ar_ ?_; (with_reducible refine (vernierref01_Shl.calls k2 _ _ x7_1 1 t345 _ ?side1 ?side2 A9.out).mono ?_); (case side1 => exact cs_ (Kd.R_reads' HO_7.out).2.2); (case side2 => exact (Kd.R_reads' HO_7.out).2.1); rintro e w36 ⟨v346, rfl, ho0, hb⟩; refine ⟨_, rfl, ?_⟩; have n0_ := Aside0.mk (Kd.R_elder' (up_ HO_6) (Kd.R_base ho0) hb); have n1_ := Aside0.mk (Kd.R_elder' (up_ HO_7) (Kd.R_base ho0) hb); have n2_ := Aside0.mk (Kd.R_lower (Kd.R_new' (Kd.R_new' ho0 (Kd.R_lt (up_ HO_6))) (Kd.R_lt (up_ HO_7))) (below_size (dn_ HB))); have n3_ := Aside0.mk (below_step (dn_ HB) hb); clear HO_6; clear HO_7; clear HB; have HO_6 := n0_; have HO_7 := n1_; have HO347 := n2_; have HB := n3_; clear n0_ n1_ n2_ n3_; (try clear hb); (try clear hk); (try clear ho0)) | ((with_reducible refine gate_dst (N := 35) rfl ?_); refine Kd.R_lit (Kd.int .i64) _ 3 ?hg (N := 35) ?hd (xs := ([Int.tmod x9_2 2] : List Int)) (inner := [.int .i64 (Int.tmod x9_2 2)]) (ok := fun _ => True) (okp := fun _ => True) ?hr ?hp (fun _ hk => hk) trivial (Below.refl _ _) (Nat.le_refl _) (by simp) ?_; (case hd => rfl); (case hg => rfl); (case hr => first | (go_simp; done) | (go_simp; rfl)); (case hp => exact (Reps.one (show Kd.M (Kd.int .i64) _ _ _ (Int.tmod x9_2 2) [.int .i64 (Int.tmod x9_2 2)] from rfl) (Reps.none _ _))); intro v349 w37 ho38 hb hg_ hnew_; clear hg_ hnew_; (first | rw [← Ny348.out] at ho38 | (simp only [Int.reduceToNat] at ho38; rw [← Ny348.out] at ho38)); have n0_ := Aside0.mk (Kd.R_elder' (up_ HO_6) (Kd.R_base ho38) hb); have n1_ := Aside0.mk (Kd.R_elder' (up_ HO_7) (Kd.R_base ho38) hb); have n2_ := Aside0.mk (Kd.R_elder' (up_ HO347) (Kd.R_base ho38) hb); have n3_ := Aside0.mk (Kd.R_lower (Kd.R_new' (Kd.R_new' (Kd.R_new' ho38 (Kd.R_lt (up_ HO_6))) (Kd.R_lt (up_ HO_7))) (Kd.R_lt (up_ HO347))) (below_size (dn_ HB))); have n4_ := Aside0.mk (below_step (dn_ HB) hb); clear HO_6; clear HO_7; clear HO347; clear HB; have HO_6 := n0_; have HO_7 := n1_; have HO347 := n2_; have HO350 := n3_; have HB := n4_; clear n0_ n1_ n2_ n3_ n4_; clear hb ho38; obtain ⟨Ao39, co39, eo39⟩ := Kd.R_slice HO350.out; subst eo39) | ((with_reducible refine gate_callee (f := 63) rfl ?_); refine goesL_ (some 36) rfl rfl Try.func63 (by kernel_rfl) rfl #[.slice Ao39 y348.length co39] rfl ar_ ?_; (with_reducible refine (vernierref01_cut.calls k2 (fun k_ => some k_ = (.slice Ao39 y348.length co39 : Value).ownBlock) (.slice Ao39 y348.length co39) y348 t351 w _ ?side1 ?side2 A10.out).mono ?_); (case side1 => repeat (first | (with_reducible first | exact HB.out | apply below_alloc | apply pw_below_drewN | apply below_drew1) | exact HB.out)); (case side2 => exact Kd.R_tight rfl HO350.out); rintro e w40 ⟨v352, rfl, ho0, hb, hkp⟩; refine ⟨_, rfl, ?_⟩; have n0_ := Aside0.mk (Kd.R_mono (ok' := fun k_ => some k_ ≠ (.slice Ao35 x7_1.length co35 : Value).ownBlock ∧ some k_ ≠ (v346 : Value).ownBlock ∧ some k_ ≠ (v352 : Value).ownBlock) (Kd.R_keptB (HO_6.out) hkp (fun k_ hk_ hs_ => (hk_.2) hs_)) (fun k_ hk_ => ⟨hk_.1.1.1, hk_.1.1.2, fun e_ => Or.elim (ho0.1 k_ e_.symm) (fun hs_ => hk_.2.1 hs_) (fun hn_ => Nat.not_le.2 hk_.2.2 hn_)⟩)); have n1_ := Aside0.mk (Kd.R_mono (ok' := fun k_ => some k_ ≠ (u6 : Value).ownBlock ∧ some k_ ≠ (v346 : Value).ownBlock ∧ some k_ ≠ (v352 : Value).ownBlock) (Kd.R_keptB (HO_7.out) hkp (fun k_ hk_ hs_ => (hk_.2) hs_)) (fun k_ hk_ => ⟨hk_.1.1.1, hk_.1.1.2, fun e_ => Or.elim (ho0.1 k_ e_.symm) (fun hs_ => hk_.2.1 hs_) (fun hn_ => Nat.not_le.2 hk_.2.2 hn_)⟩)); have n2_ := Aside0.mk (Kd.R_mono (ok' := fun k_ => some k_ ≠ (u6 : Value).ownBlock ∧ some k_ ≠ (.slice Ao35 x7_1.length co35 : Value).ownBlock ∧ some k_ ≠ (v352 : Value).ownBlock) (Kd.R_keptB (HO347.out) hkp (fun k_ hk_ hs_ => (hk_.2) hs_)) (fun k_ hk_ => ⟨hk_.1.1.1.2, hk_.1.1.2, fun e_ => Or.elim (ho0.1 k_ e_.symm) (fun hs_ => hk_.2.1 hs_) (fun hn_ => Nat.not_le.2 hk_.2.2 hn_)⟩)); have n3_ := Aside0.mk (Kd.R_mono (ok' := fun k_ => some k_ ≠ (u6 : Value).ownBlock ∧ some k_ ≠ (.slice Ao35 x7_1.length co35 : Value).ownBlock ∧ some k_ ≠ (v346 : Value).ownBlock) ho0 (fun k_ hk_ => ⟨Or.elim hk_ (fun hs_ => fun e_ => (((HO_6.out).1 k_ e_.symm).2) hs_) (fun hn_ => (Kd.fresh' (Kd.R_lt (up_ HO_6)) k_ hn_)), Or.elim hk_ (fun hs_ => fun e_ => (((HO_7.out).1 k_ e_.symm).2) hs_) (fun hn_ => (Kd.fresh' (Kd.R_lt (up_ HO_7)) k_ hn_)), Or.elim hk_ (fun hs_ => fun e_ => (((HO347.out).1 k_ e_.symm).2) hs_) (fun hn_ => (Kd.fresh' (Kd.R_lt (up_ HO347)) k_ hn_))⟩)); have n4_ := Aside0.mk (hb); clear HO_6; clear HO_7; clear HO347; clear HB; clear HO350; have HO_6 := n0_; have HO_7 := n1_; have HO347 := n2_; have HO353 := n3_; have HB := n4_; clear n0_ n1_ n2_ n3_ n4_; (try clear hb); (try clear hkp); (try clear ho0); obtain ⟨Ao41, co41, eo41⟩ := Kd.R_slice HO347.out; subst eo41; obtain ⟨Ao42, co42, eo42⟩ := Kd.R_slice HO353.out; subst eo42) | ((with_reducible refine gate_callee (f := 67) rfl ?_); refine goesL_ (some 37) rfl rfl Try.func67 (by kernel_rfl) rfl #[.slice Ao41 t345.length co41, .slice Ao42 t351.length co42] rfl ar_ ?_; (with_reducible refine (vernierref01_Add.calls k2 _ _ t345 _ _ t351 t354 _ ?side1 ?side2 ?side3 ?side4 A11.out).mono ?_); (case side1 => exact cs_ (Kd.R_reads' HO347.out).2.2); (case side2 => exact (Kd.R_reads' HO347.out).2.1); (case side3 => exact cs_ (Kd.R_reads' HO353.out).2.2); (case side4 => exact (Kd.R_reads' HO353.out).2.1); rintro e w43 ⟨v355, rfl, ho0, hb⟩; refine ⟨_, rfl, ?_⟩; have n0_ := Aside0.mk (Kd.R_elder' (up_ HO_6) (Kd.R_base ho0) hb); have n1_ := Aside0.mk (Kd.R_elder' (up_ HO_7) (Kd.R_base ho0) hb); have n2_ := Aside0.mk (Kd.R_elder' (up_ HO347) (Kd.R_base ho0) hb); have n3_ := Aside0.mk (Kd.R_elder' (up_ HO353) (Kd.R_base ho0) hb); have n4_ := Aside0.mk (Kd.R_lower (Kd.R_new' (Kd.R_new' (Kd.R_new' (Kd.R_new' ho0 (Kd.R_lt (up_ HO_6))) (Kd.R_lt (up_ HO_7))) (Kd.R_lt (up_ HO347))) (Kd.R_lt (up_ HO353))) (below_size (dn_ HB))); have n5_ := Aside0.mk (below_step (dn_ HB) hb); clear HO_6; clear HO_7; clear HO347; clear HO353; clear HB; have HO_6 := n0_; have HO_7 := n1_; have HO347 := n2_; have HO353 := n3_; have HO356 := n4_; have HB := n5_; clear n0_ n1_ n2_ n3_ n4_ n5_; (try clear hb); (try clear hk); (try clear ho0); obtain ⟨Ao44, co44, eo44⟩ := Kd.R_slice HO_6.out; subst eo44) | ((with_reducible refine gate_callee (f := 23) rfl ?_); refine goesL_ (some 39) rfl rfl Try.func23 (by kernel_rfl) rfl #[.slice Ao44 x6_1.length co44, .int .i64 1] rfl ar_ ?_; (with_reducible refine (vernierref01_Shl.calls k2 _ _ x6_1 1 t357 _ ?side1 ?side2 A12.out).mono ?_); (case side1 => exact cs_ (Kd.R_reads' HO_6.out).2.2); (case side2 => exact (Kd.R_reads' HO_6.out).2.1); rintro e w45 ⟨v358, rfl, ho0, hb⟩; refine ⟨_, rfl, ?_⟩; have n0_ := Aside0.mk (Kd.R_elder' (up_ HO_6) (Kd.R_base ho0) hb); have n1_ := Aside0.mk (Kd.R_elder' (up_ HO_7) (Kd.R_base ho0) hb); have n2_ := Aside0.mk (Kd.R_elder' (up_ HO347) (Kd.R_base ho0) hb); have n3_ := Aside0.mk (Kd.R_elder' (up_ HO353) (Kd.R_base ho0) hb); have n4_ := Aside0.mk (Kd.R_elder' (up_ HO356) (Kd.R_base ho0) hb); have n5_ := Aside0.mk (Kd.R_lower (Kd.R_new' (Kd.R_new' (Kd.R_new' (Kd.R_new' (Kd.R_new' ho0 (Kd.R_lt (up_ HO_6))) (Kd.R_lt (up_ HO_7))) (Kd.R_lt (up_ HO347))) (Kd.R_lt (up_ HO353))) (Kd.R_lt (up_ HO356))) (below_size (dn_ HB))); have n6_ := Aside0.mk (below_step (dn_ HB) hb); clear HO_6; clear HO_7; clear HO347; clear HO353; clear HO356; clear HB; have HO_6 := n0_; have HO_7 := n1_; have HO347 := n2_; have HO353 := n3_; have HO356 := n4_; have HO359 := n5_; have HB := n6_; clear n0_ n1_ n2_ n3_ n4_ n5_ n6_; (try clear hb); (try clear hk); (try clear ho0); obtain ⟨Ao46, co46, eo46⟩ := Kd.R_slice HO356.out; subst eo46) | ((with_reducible refine gate_callee (f := 68) rfl ?_); refine goesL_ (some 42) rfl rfl Try.func68 (by kernel_rfl) rfl #[.slice Ao46 t354.length co46, .slice A1 l1.length c1] rfl ar_ ?_; (with_reducible refine (vernierref01_Cmp.calls k2 _ _ t354 _ _ l1 t360 _ ?side1 ?side2 ?side3 ?side4 A13.out).mono ?_); (case side1 => exact cs_ (Kd.R_reads' HO356.out).2.2); (case side2 => exact (Kd.R_reads' HO356.out).2.1); (case side3 => repeat (first | exact (Kd.C_below HR1.out HB.out) | (with_reducible refine Kd.C_alloc ?_ _) | (with_reducible refine Kd.C_drewN ?_ _) | (with_reducible refine Kd.C_drew ?_))); (case side4 => exact HC1.out); rintro e w' ⟨rfl, ⟨nd, rfl⟩⟩; refine ⟨_, rfl, ?_⟩))
                    go_roundg k2
                    case measure => have := HK1.out; have := HK2.out; omega
                    case rel => exact ⟨(t357), (t354), (wrap64 (x8_1 - 1)), (by first | rfl | (simp; done) | (simp [*]; done)), H', ⟨by have := HK1.out; have := HK2.out; omega⟩, ⟨by (with_reducible repeat (first | apply Kd.R_alloc | apply Kd.R_drewN | apply Kd.R_drew)); exact Kd.R_mono HO359.out (fun _ hk => hk.2)⟩, ⟨by (with_reducible repeat (first | apply Kd.R_alloc | apply Kd.R_drewN | apply Kd.R_drew)); exact Kd.R_mono HO356.out (fun _ hk => hk.2)⟩, ⟨dn_ HB⟩⟩
          · rw [if_neg c7] at H
            exact absurd H (by simp)
        · rw [if_neg c6] at H
          exact absurd H (by simp)
      · rw [if_neg c4] at H
        have c4b0 : decide (0 ≤ x8_1) = false := decide_eq_false c4
        clear c4
        simp only [Option.some.injEq, Prod.mk.injEq] at H
        obtain ⟨rfl, rfl⟩ := H
        go_wp2
        go_ret2
        exact ⟨_, _, er_, by (with_reducible repeat (first | apply Kd.R_alloc | apply Kd.R_drewN | apply Kd.R_drew)); exact HO_6.out, by (with_reducible repeat (first | apply Kd.R_alloc | apply Kd.R_drewN | apply Kd.R_drew)); exact HO_7.out, dn_ HB⟩
mutual
def vernierlaw02_NatdivTells.j0 : Nat → List Int → List Int → Int → List Int → List Int → List Int → Int → List Int → Int → Bool → Option (Bool)
  | 0, _, _, _, _, _, _, _, _, _, _ => none
  | k + 1, x0, x1, x2, x7, x8, x9, x10, x11, x12, x41 => if x41 = true then (if x10 = 4 then (if x12 = 4 then (if (wrap64 ((x9.length : Int) + (x11.length : Int))) > 0 then (some false) else (vernierlaw02_NatdivTells.j1 k x0 x1 x7 x8)) else (some false)) else (some false)) else (if x10 = 0 then (if x12 = 0 then ((vernierref01_Shl.f k x7 x2).bind fun t385 => ((vernierref01_Limbs.f k t385).bind fun t388 => ((vernierref01_Same.f k x9 t388).bind fun t391 => (if t391 = true then ((vernierref01_Shr.f k x7 x2).bind fun t392 => ((vernierref01_Limbs.f k t392).bind fun t395 => ((vernierref01_Same.f k x11 t395).bind fun t398 => (if t398 = true then (vernierlaw02_NatdivTells.j1 k x0 x1 x7 x8) else (some false))))) else (some false))))) else (some false)) else (some false))
def vernierlaw02_NatdivTells.j1 : Nat → List Int → List Int → List Int → List Int → Option (Bool)
  | 0, _, _, _, _ => none
  | k + 1, x0, x1, x7, x8 => (natdiv_DivMod.f x0 x1).bind fun bt399 => (if (x8.length : Int) = 0 then (if bt399.2.2 = 7 then (some ((wrap64 ((bt399.1.length : Int) + (bt399.2.1.length : Int))) == 0)) else (some false)) else (if (x7.length : Int) > 60 then (some (bt399.2.2 == 0)) else ((vernierref01_Div.f k x7 x8).bind fun bt406 => (if bt399.2.2 = 0 then ((vernierref01_Limbs.f k bt406.1).bind fun t412 => ((vernierref01_Same.f k bt399.1 t412).bind fun t415 => (if t415 = true then ((vernierref01_Limbs.f k bt406.2).bind fun t416 => ((vernierref01_Same.f k bt399.2.1 t416).bind fun t419 => (some t419))) else (some false)))) else (some false)))))
end
def vernierlaw02_NatdivTells.f (k : Nat) (l0 : List Int) (l1 : List Int) (a2 : Int) : Option (Bool) := (vernierlaw02_alive.f k).bind fun t370 => (if t370 = true then ((vernierref01_Of.f k l0).bind fun t371 => ((vernierref01_Of.f k l1).bind fun t374 => ((natdiv_Shl.f l0 a2).bind fun bt377 => ((natdiv_Shr.f k l0 a2).bind fun bt381 => (if a2 < 0 then (vernierlaw02_NatdivTells.j0 k l0 l1 a2 t371 t374 bt377.1 bt377.2 bt381.1 bt381.2 true) else (vernierlaw02_NatdivTells.j0 k l0 l1 a2 t371 t374 bt377.1 bt377.2 bt381.1 bt381.2 (decide (a2 > 65536)))))))) else (some false))
theorem vernierlaw02_NatdivTells.mono_l : ∀ k, (∀ y0 y1 y2 y3 y4 y5 y6 y7 y8 y9, LeO (vernierlaw02_NatdivTells.j0 k y0 y1 y2 y3 y4 y5 y6 y7 y8 y9) (vernierlaw02_NatdivTells.j0 (k + 1) y0 y1 y2 y3 y4 y5 y6 y7 y8 y9)) ∧ (∀ y0 y1 y2 y3, LeO (vernierlaw02_NatdivTells.j1 k y0 y1 y2 y3) (vernierlaw02_NatdivTells.j1 (k + 1) y0 y1 y2 y3))
  | 0 => ⟨fun _ _ _ _ _ _ _ _ _ _ r h => by simp [vernierlaw02_NatdivTells.j0] at h, fun _ _ _ _ r h => by simp [vernierlaw02_NatdivTells.j1] at h⟩
  | k + 1 => by
    obtain ⟨ih0, ih1⟩ := vernierlaw02_NatdivTells.mono_l k
    refine ⟨?_, ?_⟩
    · intro y0 y1 y2 y3 y4 y5 y6 y7 y8 y9
      unfold vernierlaw02_NatdivTells.j0
      repeat' first
      | (with_reducible exact ih0 _ _ _ _ _ _ _ _ _ _)
      | (with_reducible exact ih1 _ _ _ _)
      | (with_reducible exact natdiv_Shr.mono _ _ _)
      | (with_reducible exact vernierlaw02_alive.mono _)
      | (with_reducible exact vernierref01_Div.mono _ _ _)
      | (with_reducible exact vernierref01_Limbs.mono _ _)
      | (with_reducible exact vernierref01_Of.mono _ _)
      | (with_reducible exact vernierref01_Same.mono _ _ _)
      | (with_reducible exact vernierref01_Shl.mono _ _ _)
      | (with_reducible exact vernierref01_Shr.mono _ _ _)
      | (with_reducible exact LeO.refl _)
      | (with_reducible exact LeO.none _)
      | (with_reducible refine LeO.ite ?_ ?_)
      | (with_reducible refine LeO.bind ?_ (fun _ => ?_))
      | exact ih0 _ _ _ _ _ _ _ _ _ _
      | exact ih1 _ _ _ _
      | exact natdiv_Shr.mono _ _ _
      | exact vernierlaw02_alive.mono _
      | exact vernierref01_Div.mono _ _ _
      | exact vernierref01_Limbs.mono _ _
      | exact vernierref01_Of.mono _ _
      | exact vernierref01_Same.mono _ _ _
      | exact vernierref01_Shl.mono _ _ _
      | exact vernierref01_Shr.mono _ _ _
      | exact LeO.none _
      | refine LeO.ite ?_ ?_
      | refine LeO.bind ?_ (fun _ => ?_)
    · intro y0 y1 y2 y3
      unfold vernierlaw02_NatdivTells.j1
      repeat' first
      | (with_reducible exact ih0 _ _ _ _ _ _ _ _ _ _)
      | (with_reducible exact ih1 _ _ _ _)
      | (with_reducible exact natdiv_Shr.mono _ _ _)
      | (with_reducible exact vernierlaw02_alive.mono _)
      | (with_reducible exact vernierref01_Div.mono _ _ _)
      | (with_reducible exact vernierref01_Limbs.mono _ _)
      | (with_reducible exact vernierref01_Of.mono _ _)
      | (with_reducible exact vernierref01_Same.mono _ _ _)
      | (with_reducible exact vernierref01_Shl.mono _ _ _)
      | (with_reducible exact vernierref01_Shr.mono _ _ _)
      | (with_reducible exact LeO.refl _)
      | (with_reducible exact LeO.none _)
      | (with_reducible refine LeO.ite ?_ ?_)
      | (with_reducible refine LeO.bind ?_ (fun _ => ?_))
      | exact ih0 _ _ _ _ _ _ _ _ _ _
      | exact ih1 _ _ _ _
      | exact natdiv_Shr.mono _ _ _
      | exact vernierlaw02_alive.mono _
      | exact vernierref01_Div.mono _ _ _
      | exact vernierref01_Limbs.mono _ _
      | exact vernierref01_Of.mono _ _
      | exact vernierref01_Same.mono _ _ _
      | exact vernierref01_Shl.mono _ _ _
      | exact vernierref01_Shr.mono _ _ _
      | exact LeO.none _
      | refine LeO.ite ?_ ?_
      | refine LeO.bind ?_ (fun _ => ?_)
theorem vernierlaw02_NatdivTells.mono : ∀ a0 a1 a2 k, LeO (vernierlaw02_NatdivTells.f k a0 a1 a2) (vernierlaw02_NatdivTells.f (k + 1) a0 a1 a2) := by
  intro a0 a1 a2 k
  obtain ⟨ih0, ih1⟩ := vernierlaw02_NatdivTells.mono_l k
  unfold vernierlaw02_NatdivTells.f
  repeat' first
      | (with_reducible exact ih0 _ _ _ _ _ _ _ _ _ _)
      | (with_reducible exact ih1 _ _ _ _)
      | (with_reducible exact natdiv_Shr.mono _ _ _)
      | (with_reducible exact vernierlaw02_alive.mono _)
      | (with_reducible exact vernierref01_Div.mono _ _ _)
      | (with_reducible exact vernierref01_Limbs.mono _ _)
      | (with_reducible exact vernierref01_Of.mono _ _)
      | (with_reducible exact vernierref01_Same.mono _ _ _)
      | (with_reducible exact vernierref01_Shl.mono _ _ _)
      | (with_reducible exact vernierref01_Shr.mono _ _ _)
      | (with_reducible exact LeO.refl _)
      | (with_reducible exact LeO.none _)
      | (with_reducible refine LeO.ite ?_ ?_)
      | (with_reducible refine LeO.bind ?_ (fun _ => ?_))
      | exact ih0 _ _ _ _ _ _ _ _ _ _
      | exact ih1 _ _ _ _
      | exact natdiv_Shr.mono _ _ _
      | exact vernierlaw02_alive.mono _
      | exact vernierref01_Div.mono _ _ _
      | exact vernierref01_Limbs.mono _ _
      | exact vernierref01_Of.mono _ _
      | exact vernierref01_Same.mono _ _ _
      | exact vernierref01_Shl.mono _ _ _
      | exact vernierref01_Shr.mono _ _ _
      | exact LeO.none _
      | refine LeO.ite ?_ ?_
      | refine LeO.bind ?_ (fun _ => ?_)
set_option maxHeartbeats 8000000 in
set_option maxRecDepth 100000 in
theorem vernierlaw02_NatdivTells.calls (k : Nat) (A0 : Option Addr) (c0 : Nat) (l0 : List Int) (A1 : Option Addr) (c1 : Nat) (l1 : List Int) (a2 : Int) (r : Bool) (w : World) (hr0 : Kd.C (Kd.int .u64) w A0 l0.length l0) (hc0 : l0.length ≤ c0) (hr1 : Kd.C (Kd.int .u64) w A1 l1.length l1) (hc1 : l1.length ≤ c1) (h : vernierlaw02_NatdivTells.f k l0 l1 a2 = some r) :
    Calls Try.prog 4 #[.slice A0 l0.length c0, .slice A1 l1.length c1, .int .i64 a2] w fun e w' => e = .returned (.bool r) ∧ Below w.heap.size w w' := by
  have HR0 := Aside0.mk hr0
  have HC0 := Aside0.mk hc0
  clear hr0 hc0
  have HR1 := Aside0.mk hr1
  have HC1 := Aside0.mk hc1
  clear hr1 hc1
  have HB := Aside0.mk (Below.refl w.heap.size w)
  have H : ((vernierlaw02_alive.f k).bind fun t370 => (if t370 = true then ((vernierref01_Of.f k l0).bind fun t371 => ((vernierref01_Of.f k l1).bind fun t374 => ((natdiv_Shl.f l0 a2).bind fun bt377 => ((natdiv_Shr.f k l0 a2).bind fun bt381 => (if a2 < 0 then (vernierlaw02_NatdivTells.j0 k l0 l1 a2 t371 t374 bt377.1 bt377.2 bt381.1 bt381.2 true) else (vernierlaw02_NatdivTells.j0 k l0 l1 a2 t371 t374 bt377.1 bt377.2 bt381.1 bt381.2 (decide (a2 > 65536)))))))) else (some false))) = some r := h
  clear h
  replace H := Option.bind_eq_some_iff.mp H
  obtain ⟨t370, A40, H⟩ := H
  replace H : (if t370 = true then ((vernierref01_Of.f k l0).bind fun t371 => ((vernierref01_Of.f k l1).bind fun t374 => ((natdiv_Shl.f l0 a2).bind fun bt377 => ((natdiv_Shr.f k l0 a2).bind fun bt381 => (if a2 < 0 then (vernierlaw02_NatdivTells.j0 k l0 l1 a2 t371 t374 bt377.1 bt377.2 bt381.1 bt381.2 true) else (vernierlaw02_NatdivTells.j0 k l0 l1 a2 t371 t374 bt377.1 bt377.2 bt381.1 bt381.2 (decide (a2 > 65536)))))))) else (some false)) = some r := H
  have A4 := Aside0.mk A40
  clear A40
  by_cases c5 : t370 = true
  · subst c5
    have H1 : ((vernierref01_Of.f k l0).bind fun t371 => ((vernierref01_Of.f k l1).bind fun t374 => ((natdiv_Shl.f l0 a2).bind fun bt377 => ((natdiv_Shr.f k l0 a2).bind fun bt381 => (if a2 < 0 then (vernierlaw02_NatdivTells.j0 k l0 l1 a2 t371 t374 bt377.1 bt377.2 bt381.1 bt381.2 true) else (vernierlaw02_NatdivTells.j0 k l0 l1 a2 t371 t374 bt377.1 bt377.2 bt381.1 bt381.2 (decide (a2 > 65536)))))))) = some r := by rw [if_pos rfl] at H; exact H
    clear H
    have H := H1
    clear H1
    replace H := Option.bind_eq_some_iff.mp H
    obtain ⟨t371, A60, H⟩ := H
    replace H : ((vernierref01_Of.f k l1).bind fun t374 => ((natdiv_Shl.f l0 a2).bind fun bt377 => ((natdiv_Shr.f k l0 a2).bind fun bt381 => (if a2 < 0 then (vernierlaw02_NatdivTells.j0 k l0 l1 a2 t371 t374 bt377.1 bt377.2 bt381.1 bt381.2 true) else (vernierlaw02_NatdivTells.j0 k l0 l1 a2 t371 t374 bt377.1 bt377.2 bt381.1 bt381.2 (decide (a2 > 65536))))))) = some r := H
    have A6 := Aside0.mk A60
    clear A60
    replace H := Option.bind_eq_some_iff.mp H
    obtain ⟨t374, A70, H⟩ := H
    replace H : ((natdiv_Shl.f l0 a2).bind fun bt377 => ((natdiv_Shr.f k l0 a2).bind fun bt381 => (if a2 < 0 then (vernierlaw02_NatdivTells.j0 k l0 l1 a2 t371 t374 bt377.1 bt377.2 bt381.1 bt381.2 true) else (vernierlaw02_NatdivTells.j0 k l0 l1 a2 t371 t374 bt377.1 bt377.2 bt381.1 bt381.2 (decide (a2 > 65536)))))) = some r := H
    have A7 := Aside0.mk A70
    clear A70
    replace H := Option.bind_eq_some_iff.mp H
    obtain ⟨⟨t377, t378⟩, A80, H⟩ := H
    replace H : ((natdiv_Shr.f k l0 a2).bind fun bt381 => (if a2 < 0 then (vernierlaw02_NatdivTells.j0 k l0 l1 a2 t371 t374 t377 t378 bt381.1 bt381.2 true) else (vernierlaw02_NatdivTells.j0 k l0 l1 a2 t371 t374 t377 t378 bt381.1 bt381.2 (decide (a2 > 65536))))) = some r := H
    have A8 := Aside0.mk A80
    clear A80
    replace H := Option.bind_eq_some_iff.mp H
    obtain ⟨⟨t381, t382⟩, A90, H⟩ := H
    replace H : (if a2 < 0 then (vernierlaw02_NatdivTells.j0 k l0 l1 a2 t371 t374 t377 t378 t381 t382 true) else (vernierlaw02_NatdivTells.j0 k l0 l1 a2 t371 t374 t377 t378 t381 t382 (decide (a2 > 65536)))) = some r := H
    have A9 := Aside0.mk A90
    clear A90
    have HC10 := Aside0.mk H
    clear H
    go_enter Try.func4, Try.ntmps4
    go_upto_region 6 with (first | ((with_reducible refine gate_callee (f := 11) rfl ?_); refine goesL_ (some 18) rfl rfl Try.func11 (by kernel_rfl) rfl #[] rfl ar_ ?_; (with_reducible refine (vernierlaw02_alive.calls k  true _ A4.out).mono ?_); rintro e w11 ⟨rfl, hb⟩; refine ⟨_, rfl, ?_⟩; have n0_ := Aside0.mk (below_step (dn_ HB) hb); clear HB; have HB := n0_; clear n0_; (try clear hb); (try clear hk)) | ((with_reducible refine gate_callee (f := 19) rfl ?_); refine goesL_ (some 21) rfl rfl Try.func19 (by kernel_rfl) rfl #[.slice A0 l0.length c0] rfl ar_ ?_; (with_reducible refine (vernierref01_Of.calls k _ _ l0 t371 _ ?side1 ?side2 A6.out).mono ?_); (case side1 => repeat (first | exact (Kd.C_below HR0.out HB.out) | (with_reducible refine Kd.C_alloc ?_ _) | (with_reducible refine Kd.C_drewN ?_ _) | (with_reducible refine Kd.C_drew ?_))); (case side2 => exact HC0.out); rintro e w12 ⟨v372, rfl, ho0, hb⟩; refine ⟨_, rfl, ?_⟩; have n0_ := Aside0.mk (Kd.R_lower ho0 (below_size (dn_ HB))); have n1_ := Aside0.mk (below_step (dn_ HB) hb); clear HB; have HO373 := n0_; have HB := n1_; clear n0_ n1_; (try clear hb); (try clear hk); (try clear ho0)) | ((with_reducible refine gate_callee (f := 19) rfl ?_); refine goesL_ (some 23) rfl rfl Try.func19 (by kernel_rfl) rfl #[.slice A1 l1.length c1] rfl ar_ ?_; (with_reducible refine (vernierref01_Of.calls k _ _ l1 t374 _ ?side1 ?side2 A7.out).mono ?_); (case side1 => repeat (first | exact (Kd.C_below HR1.out HB.out) | (with_reducible refine Kd.C_alloc ?_ _) | (with_reducible refine Kd.C_drewN ?_ _) | (with_reducible refine Kd.C_drew ?_))); (case side2 => exact HC1.out); rintro e w13 ⟨v375, rfl, ho0, hb⟩; refine ⟨_, rfl, ?_⟩; have n0_ := Aside0.mk (Kd.R_elder' (up_ HO373) (Kd.R_base ho0) hb); have n1_ := Aside0.mk (Kd.R_lower (Kd.R_new' ho0 (Kd.R_lt (up_ HO373))) (below_size (dn_ HB))); have n2_ := Aside0.mk (below_step (dn_ HB) hb); clear HO373; clear HB; have HO373 := n0_; have HO376 := n1_; have HB := n2_; clear n0_ n1_ n2_; (try clear hb); (try clear hk); (try clear ho0)) | ((with_reducible refine gate_callee (f := 20) rfl ?_); refine goesL_ (some 27) rfl rfl Try.func20 (by kernel_rfl) rfl #[.slice A0 l0.length c0, .int .i64 a2] rfl ar_ ?_; (with_reducible refine (natdiv_Shl.calls _ _ l0 a2 t377 t378 _ ?side1 ?side2 A8.out).mono ?_); (case side1 => repeat (first | exact (Kd.C_below HR0.out HB.out) | (with_reducible refine Kd.C_alloc ?_ _) | (with_reducible refine Kd.C_drewN ?_ _) | (with_reducible refine Kd.C_drew ?_))); (case side2 => exact HC0.out); rintro e w14 ⟨v379, rfl, ho0, hb⟩; refine ⟨_, rfl, ?_⟩; have n0_ := Aside0.mk (Kd.R_below (up_ HO373) hb); have n1_ := Aside0.mk (Kd.R_below (up_ HO376) hb); have n2_ := Aside0.mk (Kd.R_lower ho0 (below_size (dn_ HB))); have n3_ := Aside0.mk (below_step (dn_ HB) hb); clear HO373; clear HO376; clear HB; have HO373 := n0_; have HO376 := n1_; have HO380 := n2_; have HB := n3_; clear n0_ n1_ n2_ n3_; (try clear hb); (try clear hk); (try clear ho0)) | ((with_reducible refine gate_callee (f := 21) rfl ?_); refine goesL_ (some 33) rfl rfl Try.func21 (by kernel_rfl) rfl #[.slice A0 l0.length c0, .int .i64 a2] rfl ar_ ?_; (with_reducible refine (natdiv_Shr.calls k _ _ l0 a2 t381 t382 _ ?side1 ?side2 A9.out).mono ?_); (case side1 => repeat (first | exact (Kd.C_below HR0.out HB.out) | (with_reducible refine Kd.C_alloc ?_ _) | (with_reducible refine Kd.C_drewN ?_ _) | (with_reducible refine Kd.C_drew ?_))); (case side2 => exact HC0.out); rintro e w15 ⟨v383, rfl, ho0, hb⟩; refine ⟨_, rfl, ?_⟩; have n0_ := Aside0.mk (Kd.R_below (up_ HO373) hb); have n1_ := Aside0.mk (Kd.R_below (up_ HO376) hb); have n2_ := Aside0.mk (Kd.R_elder' (up_ HO380) (Kd.R_base ho0) hb); have n3_ := Aside0.mk (Kd.R_lower (Kd.R_new' ho0 (Kd.R_lt (up_ HO380))) (below_size (dn_ HB))); have n4_ := Aside0.mk (below_step (dn_ HB) hb); clear HO373; clear HO376; clear HO380; clear HB; have HO373 := n0_; have HO376 := n1_; have HO380 := n2_; have HO384 := n3_; have HB := n4_; clear n0_ n1_ n2_ n3_ n4_; (try clear hb); (try clear hk); (try clear ho0)))
    (try simp only [Act.put, List.setIfInBounds_toArray, List.set_cons_zero, List.set_cons_succ])
    go_cut [41] (fun v41 wc => ∃ (kq : Nat) (x41_9 : Bool), v41 = .bool x41_9 ∧ Aside0 (vernierlaw02_NatdivTells.j0 kq l0 l1 a2 t371 t374 t377 t378 t381 t382 x41_9 = some r) ∧ Aside0 (kq ≤ k) ∧ Aside0 (Kd.R (Kd.int .i64) 3 wc w.heap.size (fun k_ => some k_ ≠ (v375 : Value).ownBlock) v372 t371) ∧ Aside0 (Kd.R (Kd.int .i64) 3 wc w.heap.size (fun k_ => some k_ ≠ (v372 : Value).ownBlock) v375 t374) ∧ Aside0 (Kd.R (Kd.int .u64) 55 wc w.heap.size (fun k_ => some k_ ≠ (v383 : Value).ownBlock) v379 t377) ∧ Aside0 (Kd.R (Kd.int .u64) 55 wc w.heap.size (fun k_ => some k_ ≠ (v379 : Value).ownBlock) v383 t381) ∧ Aside0 (Below w.heap.size w wc))
    case first =>
      have H := HC10.out
      clear HC10
      by_cases c16 : a2 < 0
      · rw [if_pos c16] at H
        have c16b0 : decide (a2 < 0) = true := decide_eq_true c16
        clear c16
        (first | rw [c16b0] | (simp only [i64_w, i32_w]; rw [c16b0]) | skip)
        have H' := Aside0.mk H
        clear H
        go_wp2
        go_meet
        case rel => exact ⟨_, (true), (by first | rfl | (simp; done) | (simp [*]; done)), H', ⟨by first | omega | exact Nat.le_refl _⟩, ⟨by (with_reducible repeat (first | apply Kd.R_alloc | apply Kd.R_drewN | apply Kd.R_drew)); exact Kd.R_mono HO373.out (fun _ hk => hk.2)⟩, ⟨by (with_reducible repeat (first | apply Kd.R_alloc | apply Kd.R_drewN | apply Kd.R_drew)); exact Kd.R_mono HO376.out (fun _ hk => hk.2)⟩, ⟨by (with_reducible repeat (first | apply Kd.R_alloc | apply Kd.R_drewN | apply Kd.R_drew)); exact Kd.R_mono HO380.out (fun _ hk => hk.2)⟩, ⟨by (with_reducible repeat (first | apply Kd.R_alloc | apply Kd.R_drewN | apply Kd.R_drew)); exact Kd.R_mono HO384.out (fun _ hk => hk.2)⟩, ⟨dn_ HB⟩⟩
      · rw [if_neg c16] at H
        have c16b0 : decide (a2 < 0) = false := decide_eq_false c16
        clear c16
        (first | rw [c16b0] | (simp only [i64_w, i32_w]; rw [c16b0]) | skip)
        have H' := Aside0.mk H
        clear H
        go_wp2
        go_meet
        case rel => exact ⟨_, (decide (a2 > 65536)), (by first | rfl | (simp; done) | (simp [*]; done)), H', ⟨by first | omega | exact Nat.le_refl _⟩, ⟨by (with_reducible repeat (first | apply Kd.R_alloc | apply Kd.R_drewN | apply Kd.R_drew)); exact Kd.R_mono HO373.out (fun _ hk => hk.2)⟩, ⟨by (with_reducible repeat (first | apply Kd.R_alloc | apply Kd.R_drewN | apply Kd.R_drew)); exact Kd.R_mono HO376.out (fun _ hk => hk.2)⟩, ⟨by (with_reducible repeat (first | apply Kd.R_alloc | apply Kd.R_drewN | apply Kd.R_drew)); exact Kd.R_mono HO380.out (fun _ hk => hk.2)⟩, ⟨by (with_reducible repeat (first | apply Kd.R_alloc | apply Kd.R_drewN | apply Kd.R_drew)); exact Kd.R_mono HO384.out (fun _ hk => hk.2)⟩, ⟨dn_ HB⟩⟩
    case rest =>
      clear HC10
      try clear c1
      try clear c2
      try clear p2
      try clear c4
      try clear c5
      try clear c11
      try clear c16
      try clear c16b0
      obtain ⟨kq, x41_9, rfl, HA, HJ9, HO_7, HO_8, HO_9, HO_11, HB⟩ := hcut
      cases kq with
      | zero => exact absurd HA.out (by simp [vernierlaw02_NatdivTells.j0])
      | succ kj9 =>
        have H := HA.out
        clear HA
        simp only [vernierlaw02_NatdivTells.j0] at H
        have HC17 := Aside0.mk H
        clear H
        go_upto_if 41 with (fail)
        go_cut [] (fun wc => ∃ (kq : Nat), Aside0 (vernierlaw02_NatdivTells.j1 kq l0 l1 t371 t374 = some r) ∧ Aside0 (kq ≤ kj9) ∧ Aside0 (Kd.R (Kd.int .i64) 3 wc w.heap.size (fun k_ => some k_ ≠ (v375 : Value).ownBlock) v372 t371) ∧ Aside0 (Kd.R (Kd.int .i64) 3 wc w.heap.size (fun k_ => some k_ ≠ (v372 : Value).ownBlock) v375 t374) ∧ Aside0 (Below w.heap.size w wc))
        case first =>
          have H := HC17.out
          clear HC17
          by_cases c18 : x41_9 = true
          · subst c18
            have H1 : (if t378 = 4 then (if t382 = 4 then (if (wrap64 ((t377.length : Int) + (t381.length : Int))) > 0 then (some false) else (vernierlaw02_NatdivTells.j1 kj9 l0 l1 t371 t374)) else (some false)) else (some false)) = some r := by rw [if_pos rfl] at H; exact H
            clear H
            have H := H1
            clear H1
            by_cases c19 : t378 = 4
            · rw [if_pos c19] at H
              have c19b0 : (t378 == 4) = true := beq_iff_eq.mpr c19
              have c19b1 : (t378 != 4) = false := bne_eq_false_iff_eq.mpr c19
              clear c19
              (first | rw [c19b0] | (simp only [i64_w, i32_w]; rw [c19b0]) | skip)
              by_cases c20 : t382 = 4
              · rw [if_pos c20] at H
                have c20b0 : (t382 == 4) = true := beq_iff_eq.mpr c20
                have c20b1 : (t382 != 4) = false := bne_eq_false_iff_eq.mpr c20
                clear c20
                by_cases c21 : (wrap64 ((t377.length : Int) + (t381.length : Int))) > 0
                · rw [if_pos c21] at H
                  have c21b0 : decide (0 < (wrap64 ((t377.length : Int) + (t381.length : Int)))) = true := decide_eq_true c21
                  clear c21
                  obtain rfl := Option.some.inj H
                  obtain ⟨Ao22, co22, eo22⟩ := Kd.R_slice HO_9.out
                  subst eo22
                  obtain ⟨Ao23, co23, eo23⟩ := Kd.R_slice HO_11.out
                  subst eo23
                  go_wp2
                  go_ret
                  exact ⟨er_, dn_ HB⟩
                · rw [if_neg c21] at H
                  have c21b0 : decide (0 < (wrap64 ((t377.length : Int) + (t381.length : Int)))) = false := decide_eq_false c21
                  clear c21
                  have H' := Aside0.mk H
                  clear H
                  obtain ⟨Ao24, co24, eo24⟩ := Kd.R_slice HO_9.out
                  subst eo24
                  obtain ⟨Ao25, co25, eo25⟩ := Kd.R_slice HO_11.out
                  subst eo25
                  go_wp2
                  go_meet
                  case rel => exact ⟨_, H', ⟨by have := HJ9.out; first | omega | exact Nat.le_refl _⟩, ⟨by (with_reducible repeat (first | apply Kd.R_alloc | apply Kd.R_drewN | apply Kd.R_drew)); exact HO_7.out⟩, ⟨by (with_reducible repeat (first | apply Kd.R_alloc | apply Kd.R_drewN | apply Kd.R_drew)); exact HO_8.out⟩, ⟨dn_ HB⟩⟩
              · rw [if_neg c20] at H
                have c20b0 : (t382 == 4) = false := beq_eq_false_iff_ne.mpr c20
                have c20b1 : (t382 != 4) = true := bne_iff_ne.mpr c20
                obtain rfl := Option.some.inj H
                go_wp2
                go_ret
                exact ⟨er_, dn_ HB⟩
            · rw [if_neg c19] at H
              have c19b0 : (t378 == 4) = false := beq_eq_false_iff_ne.mpr c19
              have c19b1 : (t378 != 4) = true := bne_iff_ne.mpr c19
              (first | rw [c19b0] | (simp only [i64_w, i32_w]; rw [c19b0]) | skip)
              obtain rfl := Option.some.inj H
              go_wp2
              go_ret
              exact ⟨er_, dn_ HB⟩
          · replace c18 := Bool.eq_false_iff.mpr c18
            subst c18
            have H1 : (if t378 = 0 then (if t382 = 0 then ((vernierref01_Shl.f kj9 t371 a2).bind fun t385 => ((vernierref01_Limbs.f kj9 t385).bind fun t388 => ((vernierref01_Same.f kj9 t377 t388).bind fun t391 => (if t391 = true then ((vernierref01_Shr.f kj9 t371 a2).bind fun t392 => ((vernierref01_Limbs.f kj9 t392).bind fun t395 => ((vernierref01_Same.f kj9 t381 t395).bind fun t398 => (if t398 = true then (vernierlaw02_NatdivTells.j1 kj9 l0 l1 t371 t374) else (some false))))) else (some false))))) else (some false)) else (some false)) = some r := by rw [if_neg (show ¬ (false = true) by decide)] at H; exact H
            clear H
            have H := H1
            clear H1
            by_cases c26 : t378 = 0
            · rw [if_pos c26] at H
              have c26b0 : (t378 == 0) = true := beq_iff_eq.mpr c26
              have c26b1 : (t378 != 0) = false := bne_eq_false_iff_eq.mpr c26
              clear c26
              by_cases c27 : t382 = 0
              · rw [if_pos c27] at H
                have c27b0 : (t382 == 0) = true := beq_iff_eq.mpr c27
                have c27b1 : (t382 != 0) = false := bne_eq_false_iff_eq.mpr c27
                clear c27
                replace H := Option.bind_eq_some_iff.mp H
                obtain ⟨t385, A280, H⟩ := H
                replace H : ((vernierref01_Limbs.f kj9 t385).bind fun t388 => ((vernierref01_Same.f kj9 t377 t388).bind fun t391 => (if t391 = true then ((vernierref01_Shr.f kj9 t371 a2).bind fun t392 => ((vernierref01_Limbs.f kj9 t392).bind fun t395 => ((vernierref01_Same.f kj9 t381 t395).bind fun t398 => (if t398 = true then (vernierlaw02_NatdivTells.j1 kj9 l0 l1 t371 t374) else (some false))))) else (some false)))) = some r := H
                have A28 := Aside0.mk A280
                clear A280
                replace H := Option.bind_eq_some_iff.mp H
                obtain ⟨t388, A290, H⟩ := H
                replace H : ((vernierref01_Same.f kj9 t377 t388).bind fun t391 => (if t391 = true then ((vernierref01_Shr.f kj9 t371 a2).bind fun t392 => ((vernierref01_Limbs.f kj9 t392).bind fun t395 => ((vernierref01_Same.f kj9 t381 t395).bind fun t398 => (if t398 = true then (vernierlaw02_NatdivTells.j1 kj9 l0 l1 t371 t374) else (some false))))) else (some false))) = some r := H
                have A29 := Aside0.mk A290
                clear A290
                replace H := Option.bind_eq_some_iff.mp H
                obtain ⟨t391, A300, H⟩ := H
                replace H : (if t391 = true then ((vernierref01_Shr.f kj9 t371 a2).bind fun t392 => ((vernierref01_Limbs.f kj9 t392).bind fun t395 => ((vernierref01_Same.f kj9 t381 t395).bind fun t398 => (if t398 = true then (vernierlaw02_NatdivTells.j1 kj9 l0 l1 t371 t374) else (some false))))) else (some false)) = some r := H
                have A30 := Aside0.mk A300
                clear A300
                by_cases c31 : t391 = true
                · subst c31
                  have H1 : ((vernierref01_Shr.f kj9 t371 a2).bind fun t392 => ((vernierref01_Limbs.f kj9 t392).bind fun t395 => ((vernierref01_Same.f kj9 t381 t395).bind fun t398 => (if t398 = true then (vernierlaw02_NatdivTells.j1 kj9 l0 l1 t371 t374) else (some false))))) = some r := by rw [if_pos rfl] at H; exact H
                  clear H
                  have H := H1
                  clear H1
                  replace H := Option.bind_eq_some_iff.mp H
                  obtain ⟨t392, A320, H⟩ := H
                  replace H : ((vernierref01_Limbs.f kj9 t392).bind fun t395 => ((vernierref01_Same.f kj9 t381 t395).bind fun t398 => (if t398 = true then (vernierlaw02_NatdivTells.j1 kj9 l0 l1 t371 t374) else (some false)))) = some r := H
                  have A32 := Aside0.mk A320
                  clear A320
                  replace H := Option.bind_eq_some_iff.mp H
                  obtain ⟨t395, A330, H⟩ := H
                  replace H : ((vernierref01_Same.f kj9 t381 t395).bind fun t398 => (if t398 = true then (vernierlaw02_NatdivTells.j1 kj9 l0 l1 t371 t374) else (some false))) = some r := H
                  have A33 := Aside0.mk A330
                  clear A330
                  replace H := Option.bind_eq_some_iff.mp H
                  obtain ⟨t398, A340, H⟩ := H
                  replace H : (if t398 = true then (vernierlaw02_NatdivTells.j1 kj9 l0 l1 t371 t374) else (some false)) = some r := H
                  have A34 := Aside0.mk A340
                  clear A340
                  by_cases c35 : t398 = true
                  · subst c35
                    have H1 : (vernierlaw02_NatdivTells.j1 kj9 l0 l1 t371 t374) = some r := by rw [if_pos rfl] at H; exact H
                    clear H
                    have H := H1
                    clear H1
                    have H' := Aside0.mk H
                    clear H
                    obtain ⟨Ao36, co36, eo36⟩ := Kd.R_slice HO_7.out
                    subst eo36
                    go_wp2_with (first | (go_at_call 23; (with_reducible refine (vernierref01_Shl.calls kj9 _ _ t371 a2 t385 _ ?side1 ?side2 A28.out).mono ?_); (case side1 => exact cs_ (Kd.R_reads' HO_7.out).2.2); (case side2 => exact (Kd.R_reads' HO_7.out).2.1); rintro e w37 ⟨v386, rfl, ho0, hb⟩; have n0_ := Aside0.mk (Kd.R_elder' (up_ HO_7) (Kd.R_base ho0) hb); have n1_ := Aside0.mk (Kd.R_elder' (up_ HO_8) (Kd.R_base ho0) hb); have n2_ := Aside0.mk (Kd.R_below (up_ HO_9) hb); have n3_ := Aside0.mk (Kd.R_below (up_ HO_11) hb); have n4_ := Aside0.mk (Kd.R_lower (Kd.R_new' (Kd.R_new' ho0 (Kd.R_lt (up_ HO_7))) (Kd.R_lt (up_ HO_8))) (below_size (dn_ HB))); have n5_ := Aside0.mk (below_step (dn_ HB) hb); clear HO_7; clear HO_8; clear HO_9; clear HO_11; clear HB; have HO_7 := n0_; have HO_8 := n1_; have HO_9 := n2_; have HO_11 := n3_; have HO387 := n4_; have HB := n5_; clear n0_ n1_ n2_ n3_ n4_ n5_; (try clear hb); (try clear hk); (try clear ho0); obtain ⟨Ao38, co38, eo38⟩ := Kd.R_slice HO387.out; subst eo38) | (go_at_call 22; (with_reducible refine (vernierref01_Limbs.calls kj9 _ _ t385 t388 _ ?side1 ?side2 A29.out).mono ?_); (case side1 => exact cs_ (Kd.R_reads' HO387.out).2.2); (case side2 => exact (Kd.R_reads' HO387.out).2.1); rintro e w39 ⟨v389, rfl, ho0, hb⟩; have n0_ := Aside0.mk (Kd.R_below (up_ HO_7) hb); have n1_ := Aside0.mk (Kd.R_below (up_ HO_8) hb); have n2_ := Aside0.mk (Kd.R_elder' (up_ HO_9) (Kd.R_base ho0) hb); have n3_ := Aside0.mk (Kd.R_elder' (up_ HO_11) (Kd.R_base ho0) hb); have n4_ := Aside0.mk (Kd.R_below (up_ HO387) hb); have n5_ := Aside0.mk (Kd.R_lower (Kd.R_new' (Kd.R_new' ho0 (Kd.R_lt (up_ HO_9))) (Kd.R_lt (up_ HO_11))) (below_size (dn_ HB))); have n6_ := Aside0.mk (below_step (dn_ HB) hb); clear HO_7; clear HO_8; clear HO_9; clear HO_11; clear HO387; clear HB; have HO_7 := n0_; have HO_8 := n1_; have HO_9 := n2_; have HO_11 := n3_; have HO387 := n4_; have HO390 := n5_; have HB := n6_; clear n0_ n1_ n2_ n3_ n4_ n5_ n6_; (try clear hb); (try clear hk); (try clear ho0); obtain ⟨Ao40, co40, eo40⟩ := Kd.R_slice HO_9.out; subst eo40; obtain ⟨Ao41, co41, eo41⟩ := Kd.R_slice HO390.out; subst eo41) | (go_at_call 14; (with_reducible refine (vernierref01_Same.calls kj9 _ _ t377 _ _ t388 true _ ?side1 ?side2 ?side3 ?side4 A30.out).mono ?_); (case side1 => exact cs_ (Kd.R_reads' HO_9.out).2.2); (case side2 => exact (Kd.R_reads' HO_9.out).2.1); (case side3 => exact cs_ (Kd.R_reads' HO390.out).2.2); (case side4 => exact (Kd.R_reads' HO390.out).2.1); rintro e w' ⟨rfl, ⟨nd, rfl⟩⟩) | (go_at_call 24; (with_reducible refine (vernierref01_Shr.calls kj9 _ _ t371 a2 t392 _ ?side1 ?side2 A32.out).mono ?_); (case side1 => exact cs_ (Kd.R_reads' HO_7.out).2.2); (case side2 => exact (Kd.R_reads' HO_7.out).2.1); rintro e w42 ⟨v393, rfl, ho0, hb⟩; have n0_ := Aside0.mk (Kd.R_elder' (up_ HO_7) (Kd.R_base ho0) hb); have n1_ := Aside0.mk (Kd.R_elder' (up_ HO_8) (Kd.R_base ho0) hb); have n2_ := Aside0.mk (Kd.R_below (up_ HO_9) hb); have n3_ := Aside0.mk (Kd.R_below (up_ HO_11) hb); have n4_ := Aside0.mk (Kd.R_elder' (up_ HO387) (Kd.R_base ho0) hb); have n5_ := Aside0.mk (Kd.R_below (up_ HO390) hb); have n6_ := Aside0.mk (Kd.R_lower (Kd.R_new' (Kd.R_new' (Kd.R_new' ho0 (Kd.R_lt (up_ HO_7))) (Kd.R_lt (up_ HO_8))) (Kd.R_lt (up_ HO387))) (below_size (dn_ HB))); have n7_ := Aside0.mk (below_step (dn_ HB) hb); clear HO_7; clear HO_8; clear HO_9; clear HO_11; clear HO387; clear HO390; clear HB; have HO_7 := n0_; have HO_8 := n1_; have HO_9 := n2_; have HO_11 := n3_; have HO387 := n4_; have HO390 := n5_; have HO394 := n6_; have HB := n7_; clear n0_ n1_ n2_ n3_ n4_ n5_ n6_ n7_; (try clear hb); (try clear hk); (try clear ho0); obtain ⟨Ao43, co43, eo43⟩ := Kd.R_slice HO394.out; subst eo43) | (go_at_call 22; (with_reducible refine (vernierref01_Limbs.calls kj9 _ _ t392 t395 _ ?side1 ?side2 A33.out).mono ?_); (case side1 => exact cs_ (Kd.R_reads' HO394.out).2.2); (case side2 => exact (Kd.R_reads' HO394.out).2.1); rintro e w44 ⟨v396, rfl, ho0, hb⟩; have n0_ := Aside0.mk (Kd.R_below (up_ HO_7) hb); have n1_ := Aside0.mk (Kd.R_below (up_ HO_8) hb); have n2_ := Aside0.mk (Kd.R_elder' (up_ HO_9) (Kd.R_base ho0) hb); have n3_ := Aside0.mk (Kd.R_elder' (up_ HO_11) (Kd.R_base ho0) hb); have n4_ := Aside0.mk (Kd.R_below (up_ HO387) hb); have n5_ := Aside0.mk (Kd.R_elder' (up_ HO390) (Kd.R_base ho0) hb); have n6_ := Aside0.mk (Kd.R_below (up_ HO394) hb); have n7_ := Aside0.mk (Kd.R_lower (Kd.R_new' (Kd.R_new' (Kd.R_new' ho0 (Kd.R_lt (up_ HO_9))) (Kd.R_lt (up_ HO_11))) (Kd.R_lt (up_ HO390))) (below_size (dn_ HB))); have n8_ := Aside0.mk (below_step (dn_ HB) hb); clear HO_7; clear HO_8; clear HO_9; clear HO_11; clear HO387; clear HO390; clear HO394; clear HB; have HO_7 := n0_; have HO_8 := n1_; have HO_9 := n2_; have HO_11 := n3_; have HO387 := n4_; have HO390 := n5_; have HO394 := n6_; have HO397 := n7_; have HB := n8_; clear n0_ n1_ n2_ n3_ n4_ n5_ n6_ n7_ n8_; (try clear hb); (try clear hk); (try clear ho0); obtain ⟨Ao45, co45, eo45⟩ := Kd.R_slice HO_11.out; subst eo45; obtain ⟨Ao46, co46, eo46⟩ := Kd.R_slice HO397.out; subst eo46) | (go_at_call 14; (with_reducible refine (vernierref01_Same.calls kj9 _ _ t381 _ _ t395 true _ ?side1 ?side2 ?side3 ?side4 A34.out).mono ?_); (case side1 => exact cs_ (Kd.R_reads' HO_11.out).2.2); (case side2 => exact (Kd.R_reads' HO_11.out).2.1); (case side3 => exact cs_ (Kd.R_reads' HO397.out).2.2); (case side4 => exact (Kd.R_reads' HO397.out).2.1); rintro e w' ⟨rfl, ⟨nd, rfl⟩⟩))
                    go_meet
                    case rel => exact ⟨_, H', ⟨by have := HJ9.out; first | omega | exact Nat.le_refl _⟩, ⟨by (with_reducible repeat (first | apply Kd.R_alloc | apply Kd.R_drewN | apply Kd.R_drew)); exact Kd.R_mono HO_7.out (fun _ hk => hk.1.1)⟩, ⟨by (with_reducible repeat (first | apply Kd.R_alloc | apply Kd.R_drewN | apply Kd.R_drew)); exact Kd.R_mono HO_8.out (fun _ hk => hk.1.1)⟩, ⟨dn_ HB⟩⟩
                  · replace c35 := Bool.eq_false_iff.mpr c35
                    subst c35
                    have H1 : (some false) = some r := by rw [if_neg (show ¬ (false = true) by decide)] at H; exact H
                    clear H
                    have H := H1
                    clear H1
                    obtain rfl := Option.some.inj H
                    obtain ⟨Ao47, co47, eo47⟩ := Kd.R_slice HO_7.out
                    subst eo47
                    go_wp2_with (first | (go_at_call 23; (with_reducible refine (vernierref01_Shl.calls kj9 _ _ t371 a2 t385 _ ?side1 ?side2 A28.out).mono ?_); (case side1 => exact cs_ (Kd.R_reads' HO_7.out).2.2); (case side2 => exact (Kd.R_reads' HO_7.out).2.1); rintro e w48 ⟨v386, rfl, ho0, hb⟩; have n0_ := Aside0.mk (Kd.R_elder' (up_ HO_7) (Kd.R_base ho0) hb); have n1_ := Aside0.mk (Kd.R_elder' (up_ HO_8) (Kd.R_base ho0) hb); have n2_ := Aside0.mk (Kd.R_below (up_ HO_9) hb); have n3_ := Aside0.mk (Kd.R_below (up_ HO_11) hb); have n4_ := Aside0.mk (Kd.R_lower (Kd.R_new' (Kd.R_new' ho0 (Kd.R_lt (up_ HO_7))) (Kd.R_lt (up_ HO_8))) (below_size (dn_ HB))); have n5_ := Aside0.mk (below_step (dn_ HB) hb); clear HO_7; clear HO_8; clear HO_9; clear HO_11; clear HB; have HO_7 := n0_; have HO_8 := n1_; have HO_9 := n2_; have HO_11 := n3_; have HO387 := n4_; have HB := n5_; clear n0_ n1_ n2_ n3_ n4_ n5_; (try clear hb); (try clear hk); (try clear ho0); obtain ⟨Ao49, co49, eo49⟩ := Kd.R_slice HO387.out; subst eo49) | (go_at_call 22; (with_reducible refine (vernierref01_Limbs.calls kj9 _ _ t385 t388 _ ?side1 ?side2 A29.out).mono ?_); (case side1 => exact cs_ (Kd.R_reads' HO387.out).2.2); (case side2 => exact (Kd.R_reads' HO387.out).2.1); rintro e w50 ⟨v389, rfl, ho0, hb⟩; have n0_ := Aside0.mk (Kd.R_below (up_ HO_7) hb); have n1_ := Aside0.mk (Kd.R_below (up_ HO_8) hb); have n2_ := Aside0.mk (Kd.R_elder' (up_ HO_9) (Kd.R_base ho0) hb); have n3_ := Aside0.mk (Kd.R_elder' (up_ HO_11) (Kd.R_base ho0) hb); have n4_ := Aside0.mk (Kd.R_below (up_ HO387) hb); have n5_ := Aside0.mk (Kd.R_lower (Kd.R_new' (Kd.R_new' ho0 (Kd.R_lt (up_ HO_9))) (Kd.R_lt (up_ HO_11))) (below_size (dn_ HB))); have n6_ := Aside0.mk (below_step (dn_ HB) hb); clear HO_7; clear HO_8; clear HO_9; clear HO_11; clear HO387; clear HB; have HO_7 := n0_; have HO_8 := n1_; have HO_9 := n2_; have HO_11 := n3_; have HO387 := n4_; have HO390 := n5_; have HB := n6_; clear n0_ n1_ n2_ n3_ n4_ n5_ n6_; (try clear hb); (try clear hk); (try clear ho0); obtain ⟨Ao51, co51, eo51⟩ := Kd.R_slice HO_9.out; subst eo51; obtain ⟨Ao52, co52, eo52⟩ := Kd.R_slice HO390.out; subst eo52) | (go_at_call 14; (with_reducible refine (vernierref01_Same.calls kj9 _ _ t377 _ _ t388 true _ ?side1 ?side2 ?side3 ?side4 A30.out).mono ?_); (case side1 => exact cs_ (Kd.R_reads' HO_9.out).2.2); (case side2 => exact (Kd.R_reads' HO_9.out).2.1); (case side3 => exact cs_ (Kd.R_reads' HO390.out).2.2); (case side4 => exact (Kd.R_reads' HO390.out).2.1); rintro e w' ⟨rfl, ⟨nd, rfl⟩⟩) | (go_at_call 24; (with_reducible refine (vernierref01_Shr.calls kj9 _ _ t371 a2 t392 _ ?side1 ?side2 A32.out).mono ?_); (case side1 => exact cs_ (Kd.R_reads' HO_7.out).2.2); (case side2 => exact (Kd.R_reads' HO_7.out).2.1); rintro e w53 ⟨v393, rfl, ho0, hb⟩; have n0_ := Aside0.mk (Kd.R_elder' (up_ HO_7) (Kd.R_base ho0) hb); have n1_ := Aside0.mk (Kd.R_elder' (up_ HO_8) (Kd.R_base ho0) hb); have n2_ := Aside0.mk (Kd.R_below (up_ HO_9) hb); have n3_ := Aside0.mk (Kd.R_below (up_ HO_11) hb); have n4_ := Aside0.mk (Kd.R_elder' (up_ HO387) (Kd.R_base ho0) hb); have n5_ := Aside0.mk (Kd.R_below (up_ HO390) hb); have n6_ := Aside0.mk (Kd.R_lower (Kd.R_new' (Kd.R_new' (Kd.R_new' ho0 (Kd.R_lt (up_ HO_7))) (Kd.R_lt (up_ HO_8))) (Kd.R_lt (up_ HO387))) (below_size (dn_ HB))); have n7_ := Aside0.mk (below_step (dn_ HB) hb); clear HO_7; clear HO_8; clear HO_9; clear HO_11; clear HO387; clear HO390; clear HB; have HO_7 := n0_; have HO_8 := n1_; have HO_9 := n2_; have HO_11 := n3_; have HO387 := n4_; have HO390 := n5_; have HO394 := n6_; have HB := n7_; clear n0_ n1_ n2_ n3_ n4_ n5_ n6_ n7_; (try clear hb); (try clear hk); (try clear ho0); obtain ⟨Ao54, co54, eo54⟩ := Kd.R_slice HO394.out; subst eo54) | (go_at_call 22; (with_reducible refine (vernierref01_Limbs.calls kj9 _ _ t392 t395 _ ?side1 ?side2 A33.out).mono ?_); (case side1 => exact cs_ (Kd.R_reads' HO394.out).2.2); (case side2 => exact (Kd.R_reads' HO394.out).2.1); rintro e w55 ⟨v396, rfl, ho0, hb⟩; have n0_ := Aside0.mk (Kd.R_below (up_ HO_7) hb); have n1_ := Aside0.mk (Kd.R_below (up_ HO_8) hb); have n2_ := Aside0.mk (Kd.R_elder' (up_ HO_9) (Kd.R_base ho0) hb); have n3_ := Aside0.mk (Kd.R_elder' (up_ HO_11) (Kd.R_base ho0) hb); have n4_ := Aside0.mk (Kd.R_below (up_ HO387) hb); have n5_ := Aside0.mk (Kd.R_elder' (up_ HO390) (Kd.R_base ho0) hb); have n6_ := Aside0.mk (Kd.R_below (up_ HO394) hb); have n7_ := Aside0.mk (Kd.R_lower (Kd.R_new' (Kd.R_new' (Kd.R_new' ho0 (Kd.R_lt (up_ HO_9))) (Kd.R_lt (up_ HO_11))) (Kd.R_lt (up_ HO390))) (below_size (dn_ HB))); have n8_ := Aside0.mk (below_step (dn_ HB) hb); clear HO_7; clear HO_8; clear HO_9; clear HO_11; clear HO387; clear HO390; clear HO394; clear HB; have HO_7 := n0_; have HO_8 := n1_; have HO_9 := n2_; have HO_11 := n3_; have HO387 := n4_; have HO390 := n5_; have HO394 := n6_; have HO397 := n7_; have HB := n8_; clear n0_ n1_ n2_ n3_ n4_ n5_ n6_ n7_ n8_; (try clear hb); (try clear hk); (try clear ho0); obtain ⟨Ao56, co56, eo56⟩ := Kd.R_slice HO_11.out; subst eo56; obtain ⟨Ao57, co57, eo57⟩ := Kd.R_slice HO397.out; subst eo57) | (go_at_call 14; (with_reducible refine (vernierref01_Same.calls kj9 _ _ t381 _ _ t395 false _ ?side1 ?side2 ?side3 ?side4 A34.out).mono ?_); (case side1 => exact cs_ (Kd.R_reads' HO_11.out).2.2); (case side2 => exact (Kd.R_reads' HO_11.out).2.1); (case side3 => exact cs_ (Kd.R_reads' HO397.out).2.2); (case side4 => exact (Kd.R_reads' HO397.out).2.1); rintro e w' ⟨rfl, ⟨nd, rfl⟩⟩))
                    go_ret
                    exact ⟨er_, dn_ HB⟩
                · replace c31 := Bool.eq_false_iff.mpr c31
                  subst c31
                  have H1 : (some false) = some r := by rw [if_neg (show ¬ (false = true) by decide)] at H; exact H
                  clear H
                  have H := H1
                  clear H1
                  obtain rfl := Option.some.inj H
                  obtain ⟨Ao58, co58, eo58⟩ := Kd.R_slice HO_7.out
                  subst eo58
                  go_wp2_with (first | (go_at_call 23; (with_reducible refine (vernierref01_Shl.calls kj9 _ _ t371 a2 t385 _ ?side1 ?side2 A28.out).mono ?_); (case side1 => exact cs_ (Kd.R_reads' HO_7.out).2.2); (case side2 => exact (Kd.R_reads' HO_7.out).2.1); rintro e w59 ⟨v386, rfl, ho0, hb⟩; have n0_ := Aside0.mk (Kd.R_elder' (up_ HO_7) (Kd.R_base ho0) hb); have n1_ := Aside0.mk (Kd.R_elder' (up_ HO_8) (Kd.R_base ho0) hb); have n2_ := Aside0.mk (Kd.R_below (up_ HO_9) hb); have n3_ := Aside0.mk (Kd.R_below (up_ HO_11) hb); have n4_ := Aside0.mk (Kd.R_lower (Kd.R_new' (Kd.R_new' ho0 (Kd.R_lt (up_ HO_7))) (Kd.R_lt (up_ HO_8))) (below_size (dn_ HB))); have n5_ := Aside0.mk (below_step (dn_ HB) hb); clear HO_7; clear HO_8; clear HO_9; clear HO_11; clear HB; have HO_7 := n0_; have HO_8 := n1_; have HO_9 := n2_; have HO_11 := n3_; have HO387 := n4_; have HB := n5_; clear n0_ n1_ n2_ n3_ n4_ n5_; (try clear hb); (try clear hk); (try clear ho0); obtain ⟨Ao60, co60, eo60⟩ := Kd.R_slice HO387.out; subst eo60) | (go_at_call 22; (with_reducible refine (vernierref01_Limbs.calls kj9 _ _ t385 t388 _ ?side1 ?side2 A29.out).mono ?_); (case side1 => exact cs_ (Kd.R_reads' HO387.out).2.2); (case side2 => exact (Kd.R_reads' HO387.out).2.1); rintro e w61 ⟨v389, rfl, ho0, hb⟩; have n0_ := Aside0.mk (Kd.R_below (up_ HO_7) hb); have n1_ := Aside0.mk (Kd.R_below (up_ HO_8) hb); have n2_ := Aside0.mk (Kd.R_elder' (up_ HO_9) (Kd.R_base ho0) hb); have n3_ := Aside0.mk (Kd.R_elder' (up_ HO_11) (Kd.R_base ho0) hb); have n4_ := Aside0.mk (Kd.R_below (up_ HO387) hb); have n5_ := Aside0.mk (Kd.R_lower (Kd.R_new' (Kd.R_new' ho0 (Kd.R_lt (up_ HO_9))) (Kd.R_lt (up_ HO_11))) (below_size (dn_ HB))); have n6_ := Aside0.mk (below_step (dn_ HB) hb); clear HO_7; clear HO_8; clear HO_9; clear HO_11; clear HO387; clear HB; have HO_7 := n0_; have HO_8 := n1_; have HO_9 := n2_; have HO_11 := n3_; have HO387 := n4_; have HO390 := n5_; have HB := n6_; clear n0_ n1_ n2_ n3_ n4_ n5_ n6_; (try clear hb); (try clear hk); (try clear ho0); obtain ⟨Ao62, co62, eo62⟩ := Kd.R_slice HO_9.out; subst eo62; obtain ⟨Ao63, co63, eo63⟩ := Kd.R_slice HO390.out; subst eo63) | (go_at_call 14; (with_reducible refine (vernierref01_Same.calls kj9 _ _ t377 _ _ t388 false _ ?side1 ?side2 ?side3 ?side4 A30.out).mono ?_); (case side1 => exact cs_ (Kd.R_reads' HO_9.out).2.2); (case side2 => exact (Kd.R_reads' HO_9.out).2.1); (case side3 => exact cs_ (Kd.R_reads' HO390.out).2.2); (case side4 => exact (Kd.R_reads' HO390.out).2.1); rintro e w' ⟨rfl, ⟨nd, rfl⟩⟩))
                  go_ret
                  exact ⟨er_, dn_ HB⟩
              · rw [if_neg c27] at H
                have c27b0 : (t382 == 0) = false := beq_eq_false_iff_ne.mpr c27
                have c27b1 : (t382 != 0) = true := bne_iff_ne.mpr c27
                obtain rfl := Option.some.inj H
                go_wp2
                go_ret
                exact ⟨er_, dn_ HB⟩
            · rw [if_neg c26] at H
              have c26b0 : (t378 == 0) = false := beq_eq_false_iff_ne.mpr c26
              have c26b1 : (t378 != 0) = true := bne_iff_ne.mpr c26
              obtain rfl := Option.some.inj H
              go_wp2
              go_ret
              exact ⟨er_, dn_ HB⟩
        case rest =>
          clear HC17
          try clear c1
          try clear c2
          try clear p2
          try clear c3
          try clear c4
          try clear c5
          try clear p6
          try clear c11
          try clear c16
          try clear c16b0
          try clear c18
          try clear c19
          try clear c19b0
          try clear c19b1
          try clear c20
          try clear c20b0
          try clear c20b1
          try clear c21
          try clear c21b0
          try clear c26
          try clear c26b0
          try clear c26b1
          try clear c27
          try clear c27b0
          try clear c27b1
          try clear c31
          try clear c35
          try clear p2
          obtain ⟨kq, HA, HJ16, HO_7, HO_8, HB⟩ := hcut
          cases kq with
          | zero => exact absurd HA.out (by simp [vernierlaw02_NatdivTells.j1])
          | succ kj16 =>
            have H := HA.out
            clear HA
            simp only [vernierlaw02_NatdivTells.j1] at H
            replace H := Option.bind_eq_some_iff.mp H
            obtain ⟨⟨t399, t400, t401⟩, A640, H⟩ := H
            replace H : (if (t374.length : Int) = 0 then (if t401 = 7 then (some ((wrap64 ((t399.length : Int) + (t400.length : Int))) == 0)) else (some false)) else (if (t371.length : Int) > 60 then (some (t401 == 0)) else ((vernierref01_Div.f kj16 t371 t374).bind fun bt406 => (if t401 = 0 then ((vernierref01_Limbs.f kj16 bt406.1).bind fun t412 => ((vernierref01_Same.f kj16 t399 t412).bind fun t415 => (if t415 = true then ((vernierref01_Limbs.f kj16 bt406.2).bind fun t416 => ((vernierref01_Same.f kj16 t400 t416).bind fun t419 => (some t419))) else (some false)))) else (some false))))) = some r := H
            have A64 := Aside0.mk A640
            clear A640
            by_cases c65 : (t374.length : Int) = 0
            · rw [if_pos c65] at H
              have c65b0 : ((t374.length : Int) == 0) = true := beq_iff_eq.mpr c65
              have c65b1 : ((t374.length : Int) != 0) = false := bne_eq_false_iff_eq.mpr c65
              clear c65
              by_cases c66 : t401 = 7
              · rw [if_pos c66] at H
                have c66b0 : (t401 == 7) = true := beq_iff_eq.mpr c66
                have c66b1 : (t401 != 7) = false := bne_eq_false_iff_eq.mpr c66
                clear c66
                obtain rfl := Option.some.inj H
                go_wp2_with (first | ((with_reducible refine gate_callee (f := 12) rfl ?_); refine goesL_ (some 83) rfl rfl Try.func12 (by kernel_rfl) rfl #[.slice A0 l0.length c0, .slice A1 l1.length c1] rfl ar_ ?_; (with_reducible refine (natdiv_DivMod.calls _ _ l0 _ _ l1 t399 t400 t401 _ ?side1 ?side2 ?side3 ?side4 A64.out).mono ?_); (case side1 => repeat (first | exact (Kd.C_below HR0.out HB.out) | (with_reducible refine Kd.C_alloc ?_ _) | (with_reducible refine Kd.C_drewN ?_ _) | (with_reducible refine Kd.C_drew ?_))); (case side2 => exact HC0.out); (case side3 => repeat (first | exact (Kd.C_below HR1.out HB.out) | (with_reducible refine Kd.C_alloc ?_ _) | (with_reducible refine Kd.C_drewN ?_ _) | (with_reducible refine Kd.C_drew ?_))); (case side4 => exact HC1.out); rintro e w67 ⟨v402, v404, rfl, ho0, ho1, hb⟩; refine ⟨_, rfl, ?_⟩; have n0_ := Aside0.mk (Kd.R_below (up_ HO_7) hb); have n1_ := Aside0.mk (Kd.R_below (up_ HO_8) hb); have n2_ := Aside0.mk (Kd.R_lower ho0 (below_size (dn_ HB))); have n3_ := Aside0.mk (Kd.R_lower ho1 (below_size (dn_ HB))); have n4_ := Aside0.mk (below_step (dn_ HB) hb); clear HO_7; clear HO_8; clear HB; have HO_7 := n0_; have HO_8 := n1_; have HO403 := n2_; have HO405 := n3_; have HB := n4_; clear n0_ n1_ n2_ n3_ n4_; (try clear hb); (try clear hk); (try clear ho0); (try clear ho1); obtain ⟨Ao68, co68, eo68⟩ := Kd.R_slice HO_8.out; subst eo68; obtain ⟨Ao69, co69, eo69⟩ := Kd.R_slice HO403.out; subst eo69; obtain ⟨Ao70, co70, eo70⟩ := Kd.R_slice HO405.out; subst eo70))
                go_ret
                exact ⟨er_, dn_ HB⟩
              · rw [if_neg c66] at H
                have c66b0 : (t401 == 7) = false := beq_eq_false_iff_ne.mpr c66
                have c66b1 : (t401 != 7) = true := bne_iff_ne.mpr c66
                obtain rfl := Option.some.inj H
                go_wp2_with (first | ((with_reducible refine gate_callee (f := 12) rfl ?_); refine goesL_ (some 83) rfl rfl Try.func12 (by kernel_rfl) rfl #[.slice A0 l0.length c0, .slice A1 l1.length c1] rfl ar_ ?_; (with_reducible refine (natdiv_DivMod.calls _ _ l0 _ _ l1 t399 t400 t401 _ ?side1 ?side2 ?side3 ?side4 A64.out).mono ?_); (case side1 => repeat (first | exact (Kd.C_below HR0.out HB.out) | (with_reducible refine Kd.C_alloc ?_ _) | (with_reducible refine Kd.C_drewN ?_ _) | (with_reducible refine Kd.C_drew ?_))); (case side2 => exact HC0.out); (case side3 => repeat (first | exact (Kd.C_below HR1.out HB.out) | (with_reducible refine Kd.C_alloc ?_ _) | (with_reducible refine Kd.C_drewN ?_ _) | (with_reducible refine Kd.C_drew ?_))); (case side4 => exact HC1.out); rintro e w71 ⟨v402, v404, rfl, ho0, ho1, hb⟩; refine ⟨_, rfl, ?_⟩; have n0_ := Aside0.mk (Kd.R_below (up_ HO_7) hb); have n1_ := Aside0.mk (Kd.R_below (up_ HO_8) hb); have n2_ := Aside0.mk (Kd.R_lower ho0 (below_size (dn_ HB))); have n3_ := Aside0.mk (Kd.R_lower ho1 (below_size (dn_ HB))); have n4_ := Aside0.mk (below_step (dn_ HB) hb); clear HO_7; clear HO_8; clear HB; have HO_7 := n0_; have HO_8 := n1_; have HO403 := n2_; have HO405 := n3_; have HB := n4_; clear n0_ n1_ n2_ n3_ n4_; (try clear hb); (try clear hk); (try clear ho0); (try clear ho1); obtain ⟨Ao72, co72, eo72⟩ := Kd.R_slice HO_8.out; subst eo72))
                go_ret
                exact ⟨er_, dn_ HB⟩
            · rw [if_neg c65] at H
              have c65b0 : ((t374.length : Int) == 0) = false := beq_eq_false_iff_ne.mpr c65
              have c65b1 : ((t374.length : Int) != 0) = true := bne_iff_ne.mpr c65
              have c65b2 : ¬ (t374 = []) := fun h_ => c65 (by rw [h_]; rfl)
              by_cases c73 : (t371.length : Int) > 60
              · rw [if_pos c73] at H
                have c73b0 : decide (60 < (t371.length : Int)) = true := decide_eq_true c73
                have c73b1 : decide (60 < t371.length) = true := decide_eq_true (by omega)
                clear c73
                obtain rfl := Option.some.inj H
                go_wp2_with (first | ((with_reducible refine gate_callee (f := 12) rfl ?_); refine goesL_ (some 83) rfl rfl Try.func12 (by kernel_rfl) rfl #[.slice A0 l0.length c0, .slice A1 l1.length c1] rfl ar_ ?_; (with_reducible refine (natdiv_DivMod.calls _ _ l0 _ _ l1 t399 t400 t401 _ ?side1 ?side2 ?side3 ?side4 A64.out).mono ?_); (case side1 => repeat (first | exact (Kd.C_below HR0.out HB.out) | (with_reducible refine Kd.C_alloc ?_ _) | (with_reducible refine Kd.C_drewN ?_ _) | (with_reducible refine Kd.C_drew ?_))); (case side2 => exact HC0.out); (case side3 => repeat (first | exact (Kd.C_below HR1.out HB.out) | (with_reducible refine Kd.C_alloc ?_ _) | (with_reducible refine Kd.C_drewN ?_ _) | (with_reducible refine Kd.C_drew ?_))); (case side4 => exact HC1.out); rintro e w74 ⟨v402, v404, rfl, ho0, ho1, hb⟩; refine ⟨_, rfl, ?_⟩; have n0_ := Aside0.mk (Kd.R_below (up_ HO_7) hb); have n1_ := Aside0.mk (Kd.R_below (up_ HO_8) hb); have n2_ := Aside0.mk (Kd.R_lower ho0 (below_size (dn_ HB))); have n3_ := Aside0.mk (Kd.R_lower ho1 (below_size (dn_ HB))); have n4_ := Aside0.mk (below_step (dn_ HB) hb); clear HO_7; clear HO_8; clear HB; have HO_7 := n0_; have HO_8 := n1_; have HO403 := n2_; have HO405 := n3_; have HB := n4_; clear n0_ n1_ n2_ n3_ n4_; (try clear hb); (try clear hk); (try clear ho0); (try clear ho1); obtain ⟨Ao75, co75, eo75⟩ := Kd.R_slice HO_8.out; subst eo75; obtain ⟨Ao76, co76, eo76⟩ := Kd.R_slice HO_7.out; subst eo76))
                go_ret
                exact ⟨er_, dn_ HB⟩
              · rw [if_neg c73] at H
                have c73b0 : decide (60 < (t371.length : Int)) = false := decide_eq_false c73
                have c73b1 : decide (60 < t371.length) = false := decide_eq_false (by omega)
                clear c73
                replace H := Option.bind_eq_some_iff.mp H
                obtain ⟨⟨t406, t407⟩, A770, H⟩ := H
                replace H : (if t401 = 0 then ((vernierref01_Limbs.f kj16 t406).bind fun t412 => ((vernierref01_Same.f kj16 t399 t412).bind fun t415 => (if t415 = true then ((vernierref01_Limbs.f kj16 t407).bind fun t416 => ((vernierref01_Same.f kj16 t400 t416).bind fun t419 => (some t419))) else (some false)))) else (some false)) = some r := H
                have A77 := Aside0.mk A770
                clear A770
                by_cases c78 : t401 = 0
                · rw [if_pos c78] at H
                  have c78b0 : (t401 == 0) = true := beq_iff_eq.mpr c78
                  have c78b1 : (t401 != 0) = false := bne_eq_false_iff_eq.mpr c78
                  clear c78
                  replace H := Option.bind_eq_some_iff.mp H
                  obtain ⟨t412, A790, H⟩ := H
                  replace H : ((vernierref01_Same.f kj16 t399 t412).bind fun t415 => (if t415 = true then ((vernierref01_Limbs.f kj16 t407).bind fun t416 => ((vernierref01_Same.f kj16 t400 t416).bind fun t419 => (some t419))) else (some false))) = some r := H
                  have A79 := Aside0.mk A790
                  clear A790
                  replace H := Option.bind_eq_some_iff.mp H
                  obtain ⟨t415, A800, H⟩ := H
                  replace H : (if t415 = true then ((vernierref01_Limbs.f kj16 t407).bind fun t416 => ((vernierref01_Same.f kj16 t400 t416).bind fun t419 => (some t419))) else (some false)) = some r := H
                  have A80 := Aside0.mk A800
                  clear A800
                  by_cases c81 : t415 = true
                  · subst c81
                    have H1 : ((vernierref01_Limbs.f kj16 t407).bind fun t416 => ((vernierref01_Same.f kj16 t400 t416).bind fun t419 => (some t419))) = some r := by rw [if_pos rfl] at H; exact H
                    clear H
                    have H := H1
                    clear H1
                    replace H := Option.bind_eq_some_iff.mp H
                    obtain ⟨t416, A820, H⟩ := H
                    replace H : ((vernierref01_Same.f kj16 t400 t416).bind fun t419 => (some t419)) = some r := H
                    have A82 := Aside0.mk A820
                    clear A820
                    replace H := Option.bind_eq_some_iff.mp H
                    obtain ⟨t419, A830, H⟩ := H
                    replace H : (some t419) = some r := H
                    have A83 := Aside0.mk A830
                    clear A830
                    obtain rfl := Option.some.inj H
                    go_wp2_with (first | ((with_reducible refine gate_callee (f := 12) rfl ?_); refine goesL_ (some 83) rfl rfl Try.func12 (by kernel_rfl) rfl #[.slice A0 l0.length c0, .slice A1 l1.length c1] rfl ar_ ?_; (with_reducible refine (natdiv_DivMod.calls _ _ l0 _ _ l1 t399 t400 t401 _ ?side1 ?side2 ?side3 ?side4 A64.out).mono ?_); (case side1 => repeat (first | exact (Kd.C_below HR0.out HB.out) | (with_reducible refine Kd.C_alloc ?_ _) | (with_reducible refine Kd.C_drewN ?_ _) | (with_reducible refine Kd.C_drew ?_))); (case side2 => exact HC0.out); (case side3 => repeat (first | exact (Kd.C_below HR1.out HB.out) | (with_reducible refine Kd.C_alloc ?_ _) | (with_reducible refine Kd.C_drewN ?_ _) | (with_reducible refine Kd.C_drew ?_))); (case side4 => exact HC1.out); rintro e w84 ⟨v402, v404, rfl, ho0, ho1, hb⟩; refine ⟨_, rfl, ?_⟩; have n0_ := Aside0.mk (Kd.R_below (up_ HO_7) hb); have n1_ := Aside0.mk (Kd.R_below (up_ HO_8) hb); have n2_ := Aside0.mk (Kd.R_lower ho0 (below_size (dn_ HB))); have n3_ := Aside0.mk (Kd.R_lower ho1 (below_size (dn_ HB))); have n4_ := Aside0.mk (below_step (dn_ HB) hb); clear HO_7; clear HO_8; clear HB; have HO_7 := n0_; have HO_8 := n1_; have HO403 := n2_; have HO405 := n3_; have HB := n4_; clear n0_ n1_ n2_ n3_ n4_; (try clear hb); (try clear hk); (try clear ho0); (try clear ho1); obtain ⟨Ao85, co85, eo85⟩ := Kd.R_slice HO_8.out; subst eo85; obtain ⟨Ao86, co86, eo86⟩ := Kd.R_slice HO_7.out; subst eo86) | ((with_reducible refine gate_callee (f := 25) rfl ?_); refine goesL_ (some 108) rfl rfl Try.func25 (by kernel_rfl) rfl #[.slice Ao86 t371.length co86, .slice Ao85 t374.length co85] rfl ar_ ?_; (with_reducible refine (vernierref01_Div.calls kj16 _ _ t371 _ _ t374 t406 t407 _ ?side1 ?side2 ?side3 ?side4 A77.out).mono ?_); (case side1 => exact cs_ (Kd.R_reads' HO_7.out).2.2); (case side2 => exact (Kd.R_reads' HO_7.out).2.1); (case side3 => exact cs_ (Kd.R_reads' HO_8.out).2.2); (case side4 => exact (Kd.R_reads' HO_8.out).2.1); rintro e w87 ⟨v408, v410, rfl, ho0, ho1, hb⟩; refine ⟨_, rfl, ?_⟩; have n0_ := Aside0.mk (Kd.R_mono (Kd.R_told (Kd.R_told (Kd.R_old (up_ HO_7) hb) (Kd.R_base ho0)) (Kd.R_base ho1)) (fun _ h_ => h_.1)); have n1_ := Aside0.mk (Kd.R_mono (Kd.R_told (Kd.R_told (Kd.R_old (up_ HO_8) hb) (Kd.R_base ho0)) (Kd.R_base ho1)) (fun _ h_ => h_.1)); have n2_ := Aside0.mk (Kd.R_below (up_ HO403) hb); have n3_ := Aside0.mk (Kd.R_below (up_ HO405) hb); have n4_ := Aside0.mk (Kd.R_lower (Kd.R_new' (Kd.R_new' ho0 (Kd.R_lt (up_ HO_7))) (Kd.R_lt (up_ HO_8))) (below_size (dn_ HB))); have n5_ := Aside0.mk (Kd.R_lower (Kd.R_new' (Kd.R_new' ho1 (Kd.R_lt (up_ HO_7))) (Kd.R_lt (up_ HO_8))) (below_size (dn_ HB))); have n6_ := Aside0.mk (below_step (dn_ HB) hb); clear HO_7; clear HO_8; clear HO403; clear HO405; clear HB; have HO_7 := n0_; have HO_8 := n1_; have HO403 := n2_; have HO405 := n3_; have HO409 := n4_; have HO411 := n5_; have HB := n6_; clear n0_ n1_ n2_ n3_ n4_ n5_ n6_; (try clear hb); (try clear hk); (try clear ho0); (try clear ho1); obtain ⟨Ao88, co88, eo88⟩ := Kd.R_slice HO409.out; subst eo88) | (go_at_call 22; (with_reducible refine (vernierref01_Limbs.calls kj16 _ _ t406 t412 _ ?side1 ?side2 A79.out).mono ?_); (case side1 => exact cs_ (Kd.R_reads' HO409.out).2.2); (case side2 => exact (Kd.R_reads' HO409.out).2.1); rintro e w89 ⟨v413, rfl, ho0, hb⟩; have n0_ := Aside0.mk (Kd.R_below (up_ HO_7) hb); have n1_ := Aside0.mk (Kd.R_below (up_ HO_8) hb); have n2_ := Aside0.mk (Kd.R_elder' (up_ HO403) (Kd.R_base ho0) hb); have n3_ := Aside0.mk (Kd.R_elder' (up_ HO405) (Kd.R_base ho0) hb); have n4_ := Aside0.mk (Kd.R_below (up_ HO409) hb); have n5_ := Aside0.mk (Kd.R_below (up_ HO411) hb); have n6_ := Aside0.mk (Kd.R_lower (Kd.R_new' (Kd.R_new' ho0 (Kd.R_lt (up_ HO403))) (Kd.R_lt (up_ HO405))) (below_size (dn_ HB))); have n7_ := Aside0.mk (below_step (dn_ HB) hb); clear HO_7; clear HO_8; clear HO403; clear HO405; clear HO409; clear HO411; clear HB; have HO_7 := n0_; have HO_8 := n1_; have HO403 := n2_; have HO405 := n3_; have HO409 := n4_; have HO411 := n5_; have HO414 := n6_; have HB := n7_; clear n0_ n1_ n2_ n3_ n4_ n5_ n6_ n7_; (try clear hb); (try clear hk); (try clear ho0); obtain ⟨Ao90, co90, eo90⟩ := Kd.R_slice HO403.out; subst eo90; obtain ⟨Ao91, co91, eo91⟩ := Kd.R_slice HO414.out; subst eo91) | (go_at_call 14; (with_reducible refine (vernierref01_Same.calls kj16 _ _ t399 _ _ t412 true _ ?side1 ?side2 ?side3 ?side4 A80.out).mono ?_); (case side1 => exact cs_ (Kd.R_reads' HO403.out).2.2); (case side2 => exact (Kd.R_reads' HO403.out).2.1); (case side3 => exact cs_ (Kd.R_reads' HO414.out).2.2); (case side4 => exact (Kd.R_reads' HO414.out).2.1); rintro e w' ⟨rfl, ⟨nd, rfl⟩⟩; obtain ⟨Ao92, co92, eo92⟩ := Kd.R_slice HO411.out; subst eo92) | (go_at_call 22; (with_reducible refine (vernierref01_Limbs.calls kj16 _ _ t407 t416 _ ?side1 ?side2 A82.out).mono ?_); (case side1 => exact cs_ (Kd.R_reads' HO411.out).2.2); (case side2 => exact (Kd.R_reads' HO411.out).2.1); rintro e w93 ⟨v417, rfl, ho0, hb⟩; have n0_ := Aside0.mk (Kd.R_below (up_ HO_7) hb); have n1_ := Aside0.mk (Kd.R_below (up_ HO_8) hb); have n2_ := Aside0.mk (Kd.R_elder' (up_ HO403) (Kd.R_base ho0) hb); have n3_ := Aside0.mk (Kd.R_elder' (up_ HO405) (Kd.R_base ho0) hb); have n4_ := Aside0.mk (Kd.R_below (up_ HO409) hb); have n5_ := Aside0.mk (Kd.R_below (up_ HO411) hb); have n6_ := Aside0.mk (Kd.R_elder' (up_ HO414) (Kd.R_base ho0) hb); have n7_ := Aside0.mk (Kd.R_lower (Kd.R_new' (Kd.R_new' (Kd.R_new' ho0 (Kd.R_lt (up_ HO403))) (Kd.R_lt (up_ HO405))) (Kd.R_lt (up_ HO414))) (below_size (dn_ HB))); have n8_ := Aside0.mk (below_step (dn_ HB) hb); clear HO_7; clear HO_8; clear HO403; clear HO405; clear HO409; clear HO411; clear HO414; clear HB; have HO_7 := n0_; have HO_8 := n1_; have HO403 := n2_; have HO405 := n3_; have HO409 := n4_; have HO411 := n5_; have HO414 := n6_; have HO418 := n7_; have HB := n8_; clear n0_ n1_ n2_ n3_ n4_ n5_ n6_ n7_ n8_; (try clear hb); (try clear hk); (try clear ho0); obtain ⟨Ao94, co94, eo94⟩ := Kd.R_slice HO405.out; subst eo94; obtain ⟨Ao95, co95, eo95⟩ := Kd.R_slice HO418.out; subst eo95) | (go_at_call 14; (with_reducible refine (vernierref01_Same.calls kj16 _ _ t400 _ _ t416 t419 _ ?side1 ?side2 ?side3 ?side4 A83.out).mono ?_); (case side1 => exact cs_ (Kd.R_reads' HO405.out).2.2); (case side2 => exact (Kd.R_reads' HO405.out).2.1); (case side3 => exact cs_ (Kd.R_reads' HO418.out).2.2); (case side4 => exact (Kd.R_reads' HO418.out).2.1); rintro e w' ⟨rfl, ⟨nd, rfl⟩⟩))
                    go_ret
                    exact ⟨er_, dn_ HB⟩
                  · replace c81 := Bool.eq_false_iff.mpr c81
                    subst c81
                    have H1 : (some false) = some r := by rw [if_neg (show ¬ (false = true) by decide)] at H; exact H
                    clear H
                    have H := H1
                    clear H1
                    obtain rfl := Option.some.inj H
                    go_wp2_with (first | ((with_reducible refine gate_callee (f := 12) rfl ?_); refine goesL_ (some 83) rfl rfl Try.func12 (by kernel_rfl) rfl #[.slice A0 l0.length c0, .slice A1 l1.length c1] rfl ar_ ?_; (with_reducible refine (natdiv_DivMod.calls _ _ l0 _ _ l1 t399 t400 t401 _ ?side1 ?side2 ?side3 ?side4 A64.out).mono ?_); (case side1 => repeat (first | exact (Kd.C_below HR0.out HB.out) | (with_reducible refine Kd.C_alloc ?_ _) | (with_reducible refine Kd.C_drewN ?_ _) | (with_reducible refine Kd.C_drew ?_))); (case side2 => exact HC0.out); (case side3 => repeat (first | exact (Kd.C_below HR1.out HB.out) | (with_reducible refine Kd.C_alloc ?_ _) | (with_reducible refine Kd.C_drewN ?_ _) | (with_reducible refine Kd.C_drew ?_))); (case side4 => exact HC1.out); rintro e w96 ⟨v402, v404, rfl, ho0, ho1, hb⟩; refine ⟨_, rfl, ?_⟩; have n0_ := Aside0.mk (Kd.R_below (up_ HO_7) hb); have n1_ := Aside0.mk (Kd.R_below (up_ HO_8) hb); have n2_ := Aside0.mk (Kd.R_lower ho0 (below_size (dn_ HB))); have n3_ := Aside0.mk (Kd.R_lower ho1 (below_size (dn_ HB))); have n4_ := Aside0.mk (below_step (dn_ HB) hb); clear HO_7; clear HO_8; clear HB; have HO_7 := n0_; have HO_8 := n1_; have HO403 := n2_; have HO405 := n3_; have HB := n4_; clear n0_ n1_ n2_ n3_ n4_; (try clear hb); (try clear hk); (try clear ho0); (try clear ho1); obtain ⟨Ao97, co97, eo97⟩ := Kd.R_slice HO_8.out; subst eo97; obtain ⟨Ao98, co98, eo98⟩ := Kd.R_slice HO_7.out; subst eo98) | ((with_reducible refine gate_callee (f := 25) rfl ?_); refine goesL_ (some 108) rfl rfl Try.func25 (by kernel_rfl) rfl #[.slice Ao98 t371.length co98, .slice Ao97 t374.length co97] rfl ar_ ?_; (with_reducible refine (vernierref01_Div.calls kj16 _ _ t371 _ _ t374 t406 t407 _ ?side1 ?side2 ?side3 ?side4 A77.out).mono ?_); (case side1 => exact cs_ (Kd.R_reads' HO_7.out).2.2); (case side2 => exact (Kd.R_reads' HO_7.out).2.1); (case side3 => exact cs_ (Kd.R_reads' HO_8.out).2.2); (case side4 => exact (Kd.R_reads' HO_8.out).2.1); rintro e w99 ⟨v408, v410, rfl, ho0, ho1, hb⟩; refine ⟨_, rfl, ?_⟩; have n0_ := Aside0.mk (Kd.R_mono (Kd.R_told (Kd.R_told (Kd.R_old (up_ HO_7) hb) (Kd.R_base ho0)) (Kd.R_base ho1)) (fun _ h_ => h_.1)); have n1_ := Aside0.mk (Kd.R_mono (Kd.R_told (Kd.R_told (Kd.R_old (up_ HO_8) hb) (Kd.R_base ho0)) (Kd.R_base ho1)) (fun _ h_ => h_.1)); have n2_ := Aside0.mk (Kd.R_below (up_ HO403) hb); have n3_ := Aside0.mk (Kd.R_below (up_ HO405) hb); have n4_ := Aside0.mk (Kd.R_lower (Kd.R_new' (Kd.R_new' ho0 (Kd.R_lt (up_ HO_7))) (Kd.R_lt (up_ HO_8))) (below_size (dn_ HB))); have n5_ := Aside0.mk (Kd.R_lower (Kd.R_new' (Kd.R_new' ho1 (Kd.R_lt (up_ HO_7))) (Kd.R_lt (up_ HO_8))) (below_size (dn_ HB))); have n6_ := Aside0.mk (below_step (dn_ HB) hb); clear HO_7; clear HO_8; clear HO403; clear HO405; clear HB; have HO_7 := n0_; have HO_8 := n1_; have HO403 := n2_; have HO405 := n3_; have HO409 := n4_; have HO411 := n5_; have HB := n6_; clear n0_ n1_ n2_ n3_ n4_ n5_ n6_; (try clear hb); (try clear hk); (try clear ho0); (try clear ho1); obtain ⟨Ao100, co100, eo100⟩ := Kd.R_slice HO409.out; subst eo100) | (go_at_call 22; (with_reducible refine (vernierref01_Limbs.calls kj16 _ _ t406 t412 _ ?side1 ?side2 A79.out).mono ?_); (case side1 => exact cs_ (Kd.R_reads' HO409.out).2.2); (case side2 => exact (Kd.R_reads' HO409.out).2.1); rintro e w101 ⟨v413, rfl, ho0, hb⟩; have n0_ := Aside0.mk (Kd.R_below (up_ HO_7) hb); have n1_ := Aside0.mk (Kd.R_below (up_ HO_8) hb); have n2_ := Aside0.mk (Kd.R_elder' (up_ HO403) (Kd.R_base ho0) hb); have n3_ := Aside0.mk (Kd.R_elder' (up_ HO405) (Kd.R_base ho0) hb); have n4_ := Aside0.mk (Kd.R_below (up_ HO409) hb); have n5_ := Aside0.mk (Kd.R_below (up_ HO411) hb); have n6_ := Aside0.mk (Kd.R_lower (Kd.R_new' (Kd.R_new' ho0 (Kd.R_lt (up_ HO403))) (Kd.R_lt (up_ HO405))) (below_size (dn_ HB))); have n7_ := Aside0.mk (below_step (dn_ HB) hb); clear HO_7; clear HO_8; clear HO403; clear HO405; clear HO409; clear HO411; clear HB; have HO_7 := n0_; have HO_8 := n1_; have HO403 := n2_; have HO405 := n3_; have HO409 := n4_; have HO411 := n5_; have HO414 := n6_; have HB := n7_; clear n0_ n1_ n2_ n3_ n4_ n5_ n6_ n7_; (try clear hb); (try clear hk); (try clear ho0); obtain ⟨Ao102, co102, eo102⟩ := Kd.R_slice HO403.out; subst eo102; obtain ⟨Ao103, co103, eo103⟩ := Kd.R_slice HO414.out; subst eo103) | (go_at_call 14; (with_reducible refine (vernierref01_Same.calls kj16 _ _ t399 _ _ t412 false _ ?side1 ?side2 ?side3 ?side4 A80.out).mono ?_); (case side1 => exact cs_ (Kd.R_reads' HO403.out).2.2); (case side2 => exact (Kd.R_reads' HO403.out).2.1); (case side3 => exact cs_ (Kd.R_reads' HO414.out).2.2); (case side4 => exact (Kd.R_reads' HO414.out).2.1); rintro e w' ⟨rfl, ⟨nd, rfl⟩⟩))
                    go_ret
                    exact ⟨er_, dn_ HB⟩
                · rw [if_neg c78] at H
                  have c78b0 : (t401 == 0) = false := beq_eq_false_iff_ne.mpr c78
                  have c78b1 : (t401 != 0) = true := bne_iff_ne.mpr c78
                  obtain rfl := Option.some.inj H
                  go_wp2_with (first | ((with_reducible refine gate_callee (f := 12) rfl ?_); refine goesL_ (some 83) rfl rfl Try.func12 (by kernel_rfl) rfl #[.slice A0 l0.length c0, .slice A1 l1.length c1] rfl ar_ ?_; (with_reducible refine (natdiv_DivMod.calls _ _ l0 _ _ l1 t399 t400 t401 _ ?side1 ?side2 ?side3 ?side4 A64.out).mono ?_); (case side1 => repeat (first | exact (Kd.C_below HR0.out HB.out) | (with_reducible refine Kd.C_alloc ?_ _) | (with_reducible refine Kd.C_drewN ?_ _) | (with_reducible refine Kd.C_drew ?_))); (case side2 => exact HC0.out); (case side3 => repeat (first | exact (Kd.C_below HR1.out HB.out) | (with_reducible refine Kd.C_alloc ?_ _) | (with_reducible refine Kd.C_drewN ?_ _) | (with_reducible refine Kd.C_drew ?_))); (case side4 => exact HC1.out); rintro e w104 ⟨v402, v404, rfl, ho0, ho1, hb⟩; refine ⟨_, rfl, ?_⟩; have n0_ := Aside0.mk (Kd.R_below (up_ HO_7) hb); have n1_ := Aside0.mk (Kd.R_below (up_ HO_8) hb); have n2_ := Aside0.mk (Kd.R_lower ho0 (below_size (dn_ HB))); have n3_ := Aside0.mk (Kd.R_lower ho1 (below_size (dn_ HB))); have n4_ := Aside0.mk (below_step (dn_ HB) hb); clear HO_7; clear HO_8; clear HB; have HO_7 := n0_; have HO_8 := n1_; have HO403 := n2_; have HO405 := n3_; have HB := n4_; clear n0_ n1_ n2_ n3_ n4_; (try clear hb); (try clear hk); (try clear ho0); (try clear ho1); obtain ⟨Ao105, co105, eo105⟩ := Kd.R_slice HO_8.out; subst eo105; obtain ⟨Ao106, co106, eo106⟩ := Kd.R_slice HO_7.out; subst eo106) | ((with_reducible refine gate_callee (f := 25) rfl ?_); refine goesL_ (some 108) rfl rfl Try.func25 (by kernel_rfl) rfl #[.slice Ao106 t371.length co106, .slice Ao105 t374.length co105] rfl ar_ ?_; (with_reducible refine (vernierref01_Div.calls kj16 _ _ t371 _ _ t374 t406 t407 _ ?side1 ?side2 ?side3 ?side4 A77.out).mono ?_); (case side1 => exact cs_ (Kd.R_reads' HO_7.out).2.2); (case side2 => exact (Kd.R_reads' HO_7.out).2.1); (case side3 => exact cs_ (Kd.R_reads' HO_8.out).2.2); (case side4 => exact (Kd.R_reads' HO_8.out).2.1); rintro e w107 ⟨v408, v410, rfl, ho0, ho1, hb⟩; refine ⟨_, rfl, ?_⟩; have n0_ := Aside0.mk (Kd.R_mono (Kd.R_told (Kd.R_told (Kd.R_old (up_ HO_7) hb) (Kd.R_base ho0)) (Kd.R_base ho1)) (fun _ h_ => h_.1)); have n1_ := Aside0.mk (Kd.R_mono (Kd.R_told (Kd.R_told (Kd.R_old (up_ HO_8) hb) (Kd.R_base ho0)) (Kd.R_base ho1)) (fun _ h_ => h_.1)); have n2_ := Aside0.mk (Kd.R_below (up_ HO403) hb); have n3_ := Aside0.mk (Kd.R_below (up_ HO405) hb); have n4_ := Aside0.mk (Kd.R_lower (Kd.R_new' (Kd.R_new' ho0 (Kd.R_lt (up_ HO_7))) (Kd.R_lt (up_ HO_8))) (below_size (dn_ HB))); have n5_ := Aside0.mk (Kd.R_lower (Kd.R_new' (Kd.R_new' ho1 (Kd.R_lt (up_ HO_7))) (Kd.R_lt (up_ HO_8))) (below_size (dn_ HB))); have n6_ := Aside0.mk (below_step (dn_ HB) hb); clear HO_7; clear HO_8; clear HO403; clear HO405; clear HB; have HO_7 := n0_; have HO_8 := n1_; have HO403 := n2_; have HO405 := n3_; have HO409 := n4_; have HO411 := n5_; have HB := n6_; clear n0_ n1_ n2_ n3_ n4_ n5_ n6_; (try clear hb); (try clear hk); (try clear ho0); (try clear ho1)))
                  go_ret
                  exact ⟨er_, dn_ HB⟩
  · replace c5 := Bool.eq_false_iff.mpr c5
    subst c5
    have H1 : (some false) = some r := by rw [if_neg (show ¬ (false = true) by decide)] at H; exact H
    clear H
    have H := H1
    clear H1
    obtain rfl := Option.some.inj H
    go_enter Try.func4, Try.ntmps4
    go_wp2_with (first | ((with_reducible refine gate_callee (f := 11) rfl ?_); refine goesL_ (some 18) rfl rfl Try.func11 (by kernel_rfl) rfl #[] rfl ar_ ?_; (with_reducible refine (vernierlaw02_alive.calls k  false _ A4.out).mono ?_); rintro e w108 ⟨rfl, hb⟩; refine ⟨_, rfl, ?_⟩; have n0_ := Aside0.mk (below_step (dn_ HB) hb); clear HB; have HB := n0_; clear n0_; (try clear hb); (try clear hk)))
    go_ret
    exact ⟨er_, dn_ HB⟩
def vernierlaw02_NatdivTells.Pure : Prop := ∀ (l0 : List Int) (l1 : List Int) (a2 : Int), l0.length ≤ maxLen → l0.length ≤ 1048576 → (∀ x ∈ l0, (Lit.int .u64 x).wf = true) → l1.length ≤ maxLen → l1.length ≤ 1048576 → (∀ x ∈ l1, (Lit.int .u64 x).wf = true) → (Lit.int .i64 a2).wf = true → ∃ k, vernierlaw02_NatdivTells.f k l0 l1 a2 = some true
theorem vernierlaw02_NatdivTells.walk (P : vernierlaw02_NatdivTells.Pure) (a0 : Option Addr) (len0 cap0 : Nat) (z0 : List Int) (a1 : Option Addr) (len1 cap1 : Nat) (z1 : List Int) (a2 : Int) (w : World) (w0 : (a0 = none ∧ len0 = 0 ∧ cap0 = 0 ∧ z0 = []) ∨ ∃ x, a0 = some x ∧ len0 ≤ cap0 ∧ cap0 ≤ maxLen ∧ z0.length = cap0 ∧ (∀ i, i < z0.length → w.cell? (x.add i) = some (.int .u64 (z0.getD i 0))) ∧ ∀ n ∈ z0, (Lit.int .u64 n).wf = true) (y0 : len0 ≤ 1048576) (w1 : (a1 = none ∧ len1 = 0 ∧ cap1 = 0 ∧ z1 = []) ∨ ∃ x, a1 = some x ∧ len1 ≤ cap1 ∧ cap1 ≤ maxLen ∧ z1.length = cap1 ∧ (∀ i, i < z1.length → w.cell? (x.add i) = some (.int .u64 (z1.getD i 0))) ∧ ∀ n ∈ z1, (Lit.int .u64 n).wf = true) (y1 : len1 ≤ 1048576) (w2 : (Lit.int .i64 a2).wf = true) :
    Calls Try.prog 4 #[.slice a0 len0 cap0, .slice a1 len1 cap1, .int .i64 a2] w fun e w' => e = .returned (.bool true) ∧ Below w.heap.size w w' := by
  obtain ⟨l0, rfl, hr0, hm0, hw0, hc0⟩ := ReadsInt.ofRowC w0
  obtain ⟨l1, rfl, hr1, hm1, hw1, hc1⟩ := ReadsInt.ofRowC w1
  obtain ⟨k, h⟩ := P l0 l1 a2 hm0 y0 hw0 hm1 y1 hw1 w2
  refine (vernierlaw02_NatdivTells.calls k _ _ l0 _ _ l1 a2 true w (Kd.C_of_reads (d := (0 : Int)) (h1 := fun _ => rfl) hr0) hc0 (Kd.C_of_reads (d := (0 : Int)) (h1 := fun _ => rfl) hr1) hc1 h).mono ?_
  rintro e w' ⟨rfl, hd⟩
  exact ⟨rfl, hd⟩
end Go.Proofs.Ytjbpchebabhoeaa.P
end
