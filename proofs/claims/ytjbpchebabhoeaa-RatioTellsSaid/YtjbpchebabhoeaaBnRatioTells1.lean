/- Part 1 of what the law RatioTells rests on: printed walks of its functions, and plain laws of what they compute. For every input that their premises tell. -/
import Derived.Test.YtjbpchebabhoeaaBnRatioTells0
section
namespace Go.Proofs.Ytjbpchebabhoeaa.P
open Go.RowKit Go.Proofs.YtjbpchebabhoeaaW.PrintWords Go.Proofs.YtjbpchebabhoeaaW.PrintLast Go.Proofs.YtjbpchebabhoeaaW.PrintMore Go.Proofs.Ytjbpchebabhoeaa.X
attribute [local go_sem] max2_int min2_int max_two min_two max_three min_three max_four min_four
set_option linter.unusedVariables false
set_option linter.unusedSimpArgs false
def natdiv_shr.l0 : Nat → List Int → Int → Int → Int → Option (List Int)
  | 0, _, _, _, _ => none
  | k + 1, x5, x6, x22, x23 => if x23 < x22 then (if 0 ≤ x23 then (if x23 < (x5.length : Int) then (if 0 ≤ x6 then ((some (x5.set (x23 : Int).toNat (shr .u64 (rd x5 x23) x6) : List Int)).bind fun y218 => (if (wrap64 (x23 + 1)) < (x5.length : Int) then (if 0 ≤ (wrap64 (x23 + 1)) then (if 0 ≤ (IntKind.u64.wrap (63 - x6)) then (natdiv_shr.l0 k (y218.set (x23 : Int).toNat (Go.bits .or .u64 (rd y218 x23) (shl .u64 (IntKind.u64.wrap ((rd y218 (wrap64 (x23 + 1))) * 2)) (IntKind.u64.wrap (63 - x6))))) x6 x22 (wrap64 (x23 + 1))) else (none)) else (none)) else (natdiv_shr.l0 k y218 x6 x22 (wrap64 (x23 + 1))))) else (none)) else (none)) else (none)) else ((nat_Norm.f k x5).bind fun t222 => (some t222))
def natdiv_shr.f (k : Nat) (l0 : List Int) (a1 : Int) : Option (List Int) := if (wrap64 (Int.tdiv a1 64)) ≥ (l0.length : Int) then (some ([] : List Int)) else (if 0 ≤ (wrap64 (Int.tdiv a1 64)) then (if (wrap64 (Int.tdiv a1 64)) ≤ (l0.length : Int) then ((slices_Clone_uint64_uint64.f (l0.drop ((wrap64 (Int.tdiv a1 64)) : Int).toNat)).bind fun t214 => (natdiv_shr.l0 k t214 (IntKind.u64.wrap (Int.tmod a1 64)) (t214.length : Int) 0)) else (none)) else (none))
theorem natdiv_shr.mono_l : ∀ k, (∀ y0 y1 y2 y3, LeO (natdiv_shr.l0 k y0 y1 y2 y3) (natdiv_shr.l0 (k + 1) y0 y1 y2 y3))
  | 0 => fun _ _ _ _ r h => by simp [natdiv_shr.l0] at h
  | k + 1 => by
    have ih0 := natdiv_shr.mono_l k
    · intro y0 y1 y2 y3
      unfold natdiv_shr.l0
      repeat' first
      | (with_reducible exact ih0 _ _ _ _)
      | (with_reducible exact nat_Norm.mono _ _)
      | (with_reducible exact LeO.refl _)
      | (with_reducible exact LeO.none _)
      | (with_reducible refine LeO.ite ?_ ?_)
      | (with_reducible refine LeO.bind ?_ (fun _ => ?_))
      | exact ih0 _ _ _ _
      | exact nat_Norm.mono _ _
      | exact LeO.none _
      | refine LeO.ite ?_ ?_
      | refine LeO.bind ?_ (fun _ => ?_)
theorem natdiv_shr.mono : ∀ a0 a1 k, LeO (natdiv_shr.f k a0 a1) (natdiv_shr.f (k + 1) a0 a1) := by
  intro a0 a1 k
  have ih0 := natdiv_shr.mono_l k
  unfold natdiv_shr.f
  repeat' first
      | (with_reducible exact ih0 _ _ _ _)
      | (with_reducible exact nat_Norm.mono _ _)
      | (with_reducible exact LeO.refl _)
      | (with_reducible exact LeO.none _)
      | (with_reducible refine LeO.ite ?_ ?_)
      | (with_reducible refine LeO.bind ?_ (fun _ => ?_))
      | exact ih0 _ _ _ _
      | exact nat_Norm.mono _ _
      | exact LeO.none _
      | refine LeO.ite ?_ ?_
      | refine LeO.bind ?_ (fun _ => ?_)
def natdiv_shr.T10 : Bool × List (List Nat × List Nat) := (true, [([], []), ([], []), ([0, 1], [0, 1]), ([2], [2]), ([], []), ([], []), ([5], [5]), ([4, 6], [4, 6]), ([7], [7]), ([8], [8]), ([], []), ([10], [10]), ([9, 11], [9, 11]), ([3, 12], [3, 12]), ([0, 1, 0, 1, 2, 3, 4, 5, 6, 7, 8, 9, 10, 11, 12, 13], [0, 1]), ([14, 13, 0, 1, 2, 3, 4, 5, 6, 7, 8, 9, 10, 11, 12, 13], [13, 14])])
def natdiv_shr.B10 : List Nat := [0, 0, 3, 7, 0, 0, 32, 112, 240, 496, 0, 1024, 4080, 8191, 16383, 32767]
theorem natdiv_shr.tab10 : rtab .any (opsOf Try.f55 10) = natdiv_shr.T10 := by kernel_rfl
theorem natdiv_shr.bits10 : waitsOk natdiv_shr.T10.2 natdiv_shr.B10 = true := by kernel_rfl
set_option maxHeartbeats 8000000 in
set_option maxRecDepth 100000 in
theorem natdiv_shr.calls (k : Nat) (A0 : Option Addr) (c0 : Nat) (l0 : List Int) (a1 : Int) (r : List Int) (w : World) (hr0 : Kd.C (Kd.int .u64) w A0 l0.length l0) (hc0 : l0.length ≤ c0) (h : natdiv_shr.f k l0 a1 = some r) :
    Calls Try.prog 55 #[.slice A0 l0.length c0, .int .i64 a1] w fun e w' => ∃ v0_ : Value, e = .returned (v0_) ∧ Kd.R (Kd.int .u64) 55 w' w.heap.size (fun _ => True) v0_ r ∧ Below w.heap.size w w' := by
  have HR0 := Aside0.mk hr0
  have HC0 := Aside0.mk hc0
  clear hr0 hc0
  have HB := Aside0.mk (Below.refl w.heap.size w)
  have H : (if (wrap64 (Int.tdiv a1 64)) ≥ (l0.length : Int) then (some ([] : List Int)) else (if 0 ≤ (wrap64 (Int.tdiv a1 64)) then (if (wrap64 (Int.tdiv a1 64)) ≤ (l0.length : Int) then ((slices_Clone_uint64_uint64.f (l0.drop ((wrap64 (Int.tdiv a1 64)) : Int).toNat)).bind fun t214 => (natdiv_shr.l0 k t214 (IntKind.u64.wrap (Int.tmod a1 64)) (t214.length : Int) 0)) else (none)) else (none))) = some r := h
  clear h
  by_cases c3 : (wrap64 (Int.tdiv a1 64)) ≥ (l0.length : Int)
  · rw [if_pos c3] at H
    have c3b0 : decide ((l0.length : Int) ≤ (wrap64 (Int.tdiv a1 64))) = true := decide_eq_true c3
    clear c3
    obtain rfl := Option.some.inj H
    go_enter Try.func55, Try.ntmps55
    go_wp2
    go_ret
    exact ⟨_, er_, by first | exact Kd.R_nil _ _ _ _ _ | exact Kd.N_nil _ _ _ _ _ | exact Kd.V_nil _ _ _ _ _ | exact Kd.Q_nil _ _ _ _ _ | exact Kd.S_nil _ _ _ _ _, dn_ HB⟩
  · rw [if_neg c3] at H
    have c3b0 : decide ((l0.length : Int) ≤ (wrap64 (Int.tdiv a1 64))) = false := decide_eq_false c3
    clear c3
    obtain ⟨ji4, hji4⟩ : ∃ j_ : Int, (wrap64 (Int.tdiv a1 64)) = j_ := ⟨_, rfl⟩
    replace H : (if 0 ≤ (ji4) then (if (ji4) ≤ (l0.length : Int) then ((slices_Clone_uint64_uint64.f (l0.drop ((ji4) : Int).toNat)).bind fun t214 => (natdiv_shr.l0 k t214 (IntKind.u64.wrap (Int.tmod a1 64)) (t214.length : Int) 0)) else (none)) else (none)) = some r := by first | (rw [hji4] at H; exact H) | (simp only [hji4] at H ⊢; exact H)
    (try rw [hji4] at c3b0)
    have hji4w : (IntKind.i64.wrap (Int.tdiv a1 64)) = ji4 := (i64_w _).trans hji4
    by_cases c5 : 0 ≤ (ji4)
    · rw [if_pos c5] at H
      have c5b0 := eq_true c5
      have c5b1 : decide (0 ≤ (ji4)) = true := decide_eq_true c5
      clear c5
      by_cases c6 : (ji4) ≤ (l0.length : Int)
      · rw [if_pos c6] at H
        have c6b0 := eq_true c6
        have c6b1 : decide ((ji4) ≤ (l0.length : Int)) = true := decide_eq_true c6
        clear c6
        replace H := Option.bind_eq_some_iff.mp H
        obtain ⟨t214, A70, H⟩ := H
        replace H : (natdiv_shr.l0 k t214 (IntKind.u64.wrap (Int.tmod a1 64)) (t214.length : Int) 0) = some r := H
        have A7 := Aside0.mk A70
        clear A70
        have H' := Aside0.mk H
        clear H
        obtain ⟨i08, hi08, _, hsz8, _⟩ := info_parts info55
        obtain ⟨A8, hcut8, hA8, hC8⟩ := print_drop_of (P := Try.prog) (Value.int .u64) 0 22 55 .i64 Try.underlying22 hi08 hsz8 A0 c0 l0 (ji4) (of_decide_eq_true as_) (of_decide_eq_true as_) HC0.out
        have HR213 := Aside0.mk (Kd.C_of_reads (h1 := fun _ => rfl) (hA8 _ (Kd.reads_of_C HR0.out)))
        have HC213 := Aside0.mk hC8
        clear hA8 hC8 hi08 hsz8
        go_enter Try.func55, Try.ntmps55
        go_wp2_with (first | ((with_reducible refine gate_callee (f := 61) rfl ?_); refine goesL_ (some 17) rfl rfl Try.func61 (by kernel_rfl) rfl #[.slice A8 (l0.drop ((ji4) : Int).toNat).length (c0 - (ji4).toNat)] rfl (by (try simp only [List.map_toArray, List.map_cons, List.map_nil]); first | done | (rw [show (l0.drop ((ji4) : Int).toNat).length = (l0.length - (ji4).toNat) from List.length_drop] <;> rfl) | (simp only [hji4]; rfl) | rfl | (simp only [List.length_drop, List.length_take]; rfl)) ?_; (with_reducible refine (slices_Clone_uint64_uint64.calls _ _ (l0.drop ((ji4) : Int).toNat) t214 _ ?side1 ?side2 A7.out).mono ?_); (case side1 => repeat (first | exact HR213.out | (with_reducible refine Kd.C_alloc ?_ _) | (with_reducible refine Kd.C_drewN ?_ _) | (with_reducible refine Kd.C_drew ?_))); (case side2 => exact HC213.out); rintro e w9 ⟨v215, rfl, ho0, hb⟩; refine ⟨_, rfl, ?_⟩; have n0_ := Aside0.mk (Kd.R_lower ho0 (below_size (dn_ HB))); have n1_ := Aside0.mk (below_step (dn_ HB) hb); clear HB; have HO216 := n0_; have HB := n1_; clear n0_ n1_; (try clear hb); (try clear hk); (try clear ho0); obtain ⟨Ao10, co10, eo10⟩ := Kd.R_slice HO216.out; subst eo10))
        go_loopg [23] k (fun kq v23 w' => ∃ (x5_1 : List Int) (x23_1 : Int), v23 = .int .i64 x23_1 ∧ Aside0 (natdiv_shr.l0 kq x5_1 (IntKind.u64.wrap (Int.tmod a1 64)) (t214.length : Int) x23_1 = some r) ∧ Aside0 (kq ≤ k) ∧ Aside0 (Kd.R (Kd.int .u64) 55 w' w.heap.size (fun _ => True) (.slice Ao10 t214.length co10) x5_1) ∧ Aside0 (Below w.heap.size w w'))
        case atStart => exact ⟨(t214), (0), (by first | rfl | (simp; done) | (simp [*]; done)), H', ⟨Nat.le_refl _⟩, ⟨by (with_reducible repeat (first | apply Kd.R_alloc | apply Kd.R_drewN | apply Kd.R_drew)); exact HO216.out⟩, ⟨dn_ HB⟩⟩
        case round =>
          clear H'
          try clear p2
          try clear c3
          try clear c3b0
          try clear c5
          try clear c5b0
          try clear c5b1
          try clear c6
          try clear c6b0
          try clear c6b1
          try clear p6
          obtain ⟨x5_1, x23_1, rfl, HA, HK1, HO_5, HB⟩ := hrel
          have hl5_1 := (Kd.R_reads' HO_5.out).1
          rw [hl5_1] at HO_5
          (try simp only [hl5_1])
          cases gk with
          | zero => exact absurd HA.out (by simp [natdiv_shr.l0])
          | succ k1 =>
            have H := HA.out
            clear HA
            simp only [natdiv_shr.l0] at H
            by_cases c11 : x23_1 < (t214.length : Int)
            · rw [if_pos c11] at H
              have c11b0 : decide (x23_1 < (t214.length : Int)) = true := decide_eq_true c11
              (try (have c11b0nhl5_1 := c11b0; rw [hl5_1] at c11b0nhl5_1))
              clear c11
              by_cases c12 : 0 ≤ x23_1
              · rw [if_pos c12] at H
                have c12b0 : decide (0 ≤ x23_1) = true := decide_eq_true c12
                clear c12
                by_cases c13 : x23_1 < (x5_1.length : Int)
                · rw [if_pos c13] at H
                  have c13b0 : decide (x23_1 < (x5_1.length : Int)) = true := decide_eq_true c13
                  (try (have c13b0nhl5_1 := c13b0; rw [hl5_1] at c13b0nhl5_1))
                  clear c13
                  obtain ⟨ji14, hji14⟩ : ∃ j_ : Int, (IntKind.u64.wrap (Int.tmod a1 64)) = j_ := ⟨_, rfl⟩
                  replace H : (if 0 ≤ (ji14) then ((some (x5_1.set (x23_1 : Int).toNat (shr .u64 (rd x5_1 x23_1) (ji14)) : List Int)).bind fun y218 => (if (wrap64 (x23_1 + 1)) < (x5_1.length : Int) then (if 0 ≤ (wrap64 (x23_1 + 1)) then (if 0 ≤ (IntKind.u64.wrap (63 - (ji14))) then (natdiv_shr.l0 k1 (y218.set (x23_1 : Int).toNat (Go.bits .or .u64 (rd y218 x23_1) (shl .u64 (IntKind.u64.wrap ((rd y218 (wrap64 (x23_1 + 1))) * 2)) (IntKind.u64.wrap (63 - (ji14)))))) (ji14) (t214.length : Int) (wrap64 (x23_1 + 1))) else (none)) else (none)) else (natdiv_shr.l0 k1 y218 (ji14) (t214.length : Int) (wrap64 (x23_1 + 1))))) else (none)) = some r := by first | (rw [hji14] at H; exact H) | (simp only [hji14] at H ⊢; exact H)
                  by_cases c15 : 0 ≤ (ji14)
                  · rw [if_pos c15] at H
                    have c15b0 := eq_true c15
                    have c15b1 : decide (0 ≤ (ji14)) = true := decide_eq_true c15
                    clear c15
                    obtain ⟨ji16, hji16⟩ : ∃ j_ : Int, (shr .u64 (rd x5_1 x23_1) (ji14)) = j_ := ⟨_, rfl⟩
                    replace H : ((some (x5_1.set (x23_1 : Int).toNat (ji16) : List Int)).bind fun y218 => (if (wrap64 (x23_1 + 1)) < (x5_1.length : Int) then (if 0 ≤ (wrap64 (x23_1 + 1)) then (if 0 ≤ (IntKind.u64.wrap (63 - (ji14))) then (natdiv_shr.l0 k1 (y218.set (x23_1 : Int).toNat (Go.bits .or .u64 (rd y218 x23_1) (shl .u64 (IntKind.u64.wrap ((rd y218 (wrap64 (x23_1 + 1))) * 2)) (IntKind.u64.wrap (63 - (ji14)))))) (ji14) (t214.length : Int) (wrap64 (x23_1 + 1))) else (none)) else (none)) else (natdiv_shr.l0 k1 y218 (ji14) (t214.length : Int) (wrap64 (x23_1 + 1))))) = some r := by first | (rw [hji16] at H; exact H) | (simp only [hji16] at H ⊢; exact H)
                    have hji16_ : ((rd x5_1 x23_1) / 2 ^ min (ji14).toNat 64) = ji16 := hji16
                    have hji16z : (ji14) ≤ 64 → ((rd x5_1 x23_1) / 2 ^ (ji14).toNat) = ji16 := shr_small hji16
                    obtain ⟨y218, hy218⟩ : ∃ y_ : List Int, y_ = (x5_1.set (x23_1 : Int).toNat (ji16)) := ⟨_, rfl⟩
                    replace H : (if (wrap64 (x23_1 + 1)) < (x5_1.length : Int) then (if 0 ≤ (wrap64 (x23_1 + 1)) then (if 0 ≤ (IntKind.u64.wrap (63 - (ji14))) then (natdiv_shr.l0 k1 (y218.set (x23_1 : Int).toNat (Go.bits .or .u64 (rd y218 x23_1) (shl .u64 (IntKind.u64.wrap ((rd y218 (wrap64 (x23_1 + 1))) * 2)) (IntKind.u64.wrap (63 - (ji14)))))) (ji14) (t214.length : Int) (wrap64 (x23_1 + 1))) else (none)) else (none)) else (natdiv_shr.l0 k1 y218 (ji14) (t214.length : Int) (wrap64 (x23_1 + 1)))) = some r := by first | (rw [hy218]; with_reducible exact H) | (have H2_ := (Option.bind_some _ _).symm.trans H; rw [hy218]; with_reducible exact H2_) | (have H2_ := (Option.bind_some _ _).symm.trans H; with_reducible exact H2_) | with_reducible exact H | (rw [hy218]; exact H) | exact H
                    have Ny218 := Aside0.mk hy218
                    clear hy218
                    by_cases c18 : (wrap64 (x23_1 + 1)) < (x5_1.length : Int)
                    · rw [if_pos c18] at H
                      have c18b0 : decide ((wrap64 (x23_1 + 1)) < (x5_1.length : Int)) = true := decide_eq_true c18
                      (try (have c18b0nhl5_1 := c18b0; rw [hl5_1] at c18b0nhl5_1))
                      clear c18
                      obtain ⟨ji19, hji19⟩ : ∃ j_ : Int, (wrap64 (x23_1 + 1)) = j_ := ⟨_, rfl⟩
                      replace H : (if 0 ≤ (ji19) then (if 0 ≤ (IntKind.u64.wrap (63 - (ji14))) then (natdiv_shr.l0 k1 (y218.set (x23_1 : Int).toNat (Go.bits .or .u64 (rd y218 x23_1) (shl .u64 (IntKind.u64.wrap ((rd y218 (ji19)) * 2)) (IntKind.u64.wrap (63 - (ji14)))))) (ji14) (t214.length : Int) ji19) else (none)) else (none)) = some r := by first | (rw [hji19] at H; exact H) | (simp only [hji19] at H ⊢; exact H)
                      (try rw [hji19] at c18b0)
                      have hji19w : (IntKind.i64.wrap (x23_1 + 1)) = ji19 := (i64_w _).trans hji19
                      by_cases c20 : 0 ≤ (ji19)
                      · rw [if_pos c20] at H
                        have c20b0 : decide (0 ≤ (ji19)) = true := decide_eq_true c20
                        clear c20
                        obtain ⟨ji21, hji21⟩ : ∃ j_ : Int, (IntKind.u64.wrap (63 - (ji14))) = j_ := ⟨_, rfl⟩
                        replace H : (if 0 ≤ (ji21) then (natdiv_shr.l0 k1 (y218.set (x23_1 : Int).toNat (Go.bits .or .u64 (rd y218 x23_1) (shl .u64 (IntKind.u64.wrap ((rd y218 (ji19)) * 2)) (ji21)))) (ji14) (t214.length : Int) ji19) else (none)) = some r := by first | (rw [hji21] at H; exact H) | (simp only [hji21] at H ⊢; exact H)
                        by_cases c22 : 0 ≤ (ji21)
                        · rw [if_pos c22] at H
                          have c22b0 := eq_true c22
                          have c22b1 : decide (0 ≤ (ji21)) = true := decide_eq_true c22
                          clear c22
                          obtain ⟨ji23, hji23⟩ : ∃ j_ : Int, (shl .u64 (IntKind.u64.wrap ((rd y218 (ji19)) * 2)) (ji21)) = j_ := ⟨_, rfl⟩
                          replace H : (natdiv_shr.l0 k1 (y218.set (x23_1 : Int).toNat (Go.bits .or .u64 (rd y218 x23_1) (ji23))) (ji14) (t214.length : Int) ji19) = some r := by first | (rw [hji23] at H; exact H) | (simp only [hji23] at H ⊢; exact H)
                          have hji23_ : (IntKind.u64.wrap ((IntKind.u64.wrap ((rd y218 (ji19)) * 2)) * 2 ^ min (ji21).toNat 64)) = ji23 := hji23
                          have hji23z : (ji21) ≤ 64 → (IntKind.u64.wrap ((IntKind.u64.wrap ((rd y218 (ji19)) * 2)) * 2 ^ (ji21).toNat)) = ji23 := shl_small hji23
                          obtain ⟨y221, hy221⟩ : ∃ y_ : List Int, y_ = (y218.set (x23_1 : Int).toNat (Go.bits .or .u64 (rd y218 x23_1) (ji23))) := ⟨_, rfl⟩
                          replace H : (natdiv_shr.l0 k1 y221 (ji14) (t214.length : Int) ji19) = some r := by first | (rw [hy221]; with_reducible exact H) | (have H2_ := (Option.bind_some _ _).symm.trans H; rw [hy221]; with_reducible exact H2_) | (have H2_ := (Option.bind_some _ _).symm.trans H; with_reducible exact H2_) | with_reducible exact H | (rw [hy221]; exact H) | exact H
                          have Ny221 := Aside0.mk hy221
                          clear hy221
                          have H' := Aside0.mk H
                          clear H
                          have p217 : 0 ≤ (x23_1 : Int) := of_decide_eq_true as_
                          have q217 : x23_1 < (x5_1.length : Int) := of_decide_eq_true as_
                          obtain ⟨ad217, e217, hx217_0⟩ := Kd.at_int (Kd.R_reads' HO_5.out).2.2 x23_1 p217 q217
                          cases e217
                          replace p217 := eq_true p217
                          replace q217 := eq_true q217
                          (try (have q217n := q217; simp only [Int.ofNat_lt] at q217n))
                          (try (have q217d := q217; simp only [List.length_drop] at q217d))
                          have p17 : 0 ≤ (x23_1 : Int) := of_decide_eq_true as_
                          have q17 : (x23_1 : Int) < ((x5_1.length : Int) : Int) := of_decide_eq_true as_
                          obtain ⟨go17, co17, eo17, gb17, gl17, cl17, HG17⟩ := Kd.R_form HO_5.out (by omega)
                          (first | cases eo17 | (injection eo17 with ea_ en_ ec_; (first | subst ea_ | (injection ea_ with ea_; subst ea_)); subst ec_; clear en_))
                          have GB17 := Aside0.mk gb17
                          have GG17 := Aside0.mk HG17
                          clear gb17 gl17 HG17
                          (first | simp only [add_plain] at hx217_0 | skip)
                          obtain ⟨hx17_0, hf17_0⟩ := Kd.R_celln 0 HO_5.out (x23_1 : Int) p17 q17
                          (try simp only [Int.toNat_natCast] at hx17_0 hf17_0)
                          replace p17 := eq_true p17
                          replace q17 := eq_true q17
                          (try (have q17n := q17; simp only [Int.ofNat_lt] at q17n))
                          (try (have q17d := q17; simp only [List.length_drop] at q17d))
                          have HP25 := Kd.R_putg HO_5.out (x23_1 : Int) ji16
                          try go_wp2_with (first | ((with_reducible refine gate_store (t := 55) (p := 32) rfl ?_); refine store_event (t := 55) (p := 32) (v := ?vo_w26) (w1 := (wr.setCell ⟨go17, (x23_1 : Int).toNat, none⟩ (.int .u64 ji16))) ?hg ?ho ?hn ?hr ?_; (case ho => rfl); (case hg => rfl); (case hn => rfl); (case hr => first | (go_simp; done) | (go_simp; rfl)); intro w26 hw; have hg : wr.grownBy w26 (some go17) := (by rw [hw]; exact HP25.2); have hp_ : Kd.R (Kd.int .u64) 55 w26 w.heap.size (fun _ => True) (.slice (some ⟨go17, 0, none⟩) x5_1.length co10) y218 := (by rw [hw, Ny218.out]; exact HP25.1); clear HP25; have n0_ := Aside0.mk (hp_); have n1_ := Aside0.mk ((by rw [hw]; exact below_set (HB.out) GB17.out : Below w.heap.size w w26)); clear HO_5; clear HB; have HO_5 := n0_; have HB := n1_; clear n0_ n1_; clear hg hw hp_))
                          have n0_ := Aside0.mk (Kd.R_drew HO_5.out)
                          have n1_ := Aside0.mk (below_drew1 HB.out)
                          clear HO_5
                          clear HB
                          have HO_5 := n0_
                          have HB := n1_
                          clear n0_ n1_
                          have p219 : 0 ≤ (x23_1 : Int) := of_decide_eq_true as_
                          have q219 : x23_1 < (y218.length : Int) := (by have h_ : (x23_1 : Int) < ((x5_1.length : Int) : Int) := of_decide_eq_true as_; first | (have e_ := (Kd.R_reads' HO_5.out).1; omega) | simpa only [Ny218.out, List.length_set] using h_)
                          have ql219 : ((x23_1 : Int) < ((x5_1.length : Int) : Int)) = True := eq_true (of_decide_eq_true as_)
                          obtain ⟨ad219, e219, hx219_0⟩ := Kd.at_int (Kd.R_reads' HO_5.out).2.2 x23_1 p219 q219
                          obtain rfl : (⟨go17, 0, none⟩ : Addr) = ad219 := (by injection e219)
                          (first | simp only [add_plain] at hx219_0 | simp only [add_at] at hx219_0 | simp only [Addr.add, Nat.zero_add] at hx219_0 | skip)
                          replace p219 := eq_true p219
                          replace q219 := eq_true q219
                          (try (have q219n := q219; simp only [Int.ofNat_lt] at q219n))
                          (try (have q219d := q219; simp only [List.length_drop] at q219d))
                          have p220 : 0 ≤ ((ji19) : Int) := of_decide_eq_true as_
                          have q220 : (ji19) < (y218.length : Int) := (by have h_ : ((ji19) : Int) < ((x5_1.length : Int) : Int) := of_decide_eq_true as_; first | (have e_ := (Kd.R_reads' HO_5.out).1; omega) | simpa only [Ny218.out, List.length_set] using h_)
                          have ql220 : (((ji19) : Int) < ((x5_1.length : Int) : Int)) = True := eq_true (of_decide_eq_true as_)
                          obtain ⟨ad220, e220, hx220_0⟩ := Kd.at_int (Kd.R_reads' HO_5.out).2.2 (ji19) p220 q220
                          obtain rfl : (⟨go17, 0, none⟩ : Addr) = ad220 := (by injection e220)
                          (first | simp only [add_plain] at hx220_0 | simp only [add_at] at hx220_0 | simp only [Addr.add, Nat.zero_add] at hx220_0 | skip)
                          replace p220 := eq_true p220
                          replace q220 := eq_true q220
                          (try (have q220n := q220; simp only [Int.ofNat_lt] at q220n))
                          (try (have q220d := q220; simp only [List.length_drop] at q220d))
                          have p24 : 0 ≤ (x23_1 : Int) := of_decide_eq_true as_
                          have q24 : (x23_1 : Int) < ((x5_1.length : Int) : Int) := of_decide_eq_true as_
                          obtain ⟨hx24_0, hf24_0⟩ := Kd.R_celln 0 HO_5.out (x23_1 : Int) p24 q24
                          (try simp only [Int.toNat_natCast] at hx24_0 hf24_0)
                          replace p24 := eq_true p24
                          replace q24 := eq_true q24
                          (try (have q24n := q24; simp only [Int.ofNat_lt] at q24n))
                          (try (have q24d := q24; simp only [List.length_drop] at q24d))
                          have HP28 := Kd.R_putn HO_5.out (x23_1 : Int) (Go.bits .or .u64 (rd y218 x23_1) (ji23))
                          rw [← Ny221.out] at HP28
                          have HQ28 := Aside0.mk HP28
                          clear HP28
                          refine start_ (n := 16) (S := fun w' => w'.cell? ⟨go17, (x23_1).toNat, none⟩ = some (.int .u64 (rd y218 x23_1)) ∧ w'.cell? ⟨go17, ((ji19)).toNat, none⟩ = some (.int .u64 (rd y218 (ji19)))) (ds := [15]) #[false, false, false, false, false, false, false, false, false, false, false, false, false, false, false, false] (by kernel_rfl) rfl rfl ⟨hx219_0, hx220_0⟩ (fun hHeld => ?_); refine with_tabW natdiv_shr.tab10 natdiv_shr.bits10 (fun HT_ HW_ => ?_)
                          generalize w26.drew = w27 at HO_5 HB HQ28 hf24_0 hx219_0 hx220_0 hx24_0 hHeld ⊢
                          refine pure_ (i := 0) (N := some 38) (v := ?_) (a' := ?_) #[true, false, false, false, false, false, false, false, false, false, false, false, false, false, false, false] rfl rfl (any_of HT_.out (by kernel_rfl)) (fun _ _ _ h => h) (Or.inl ⟨by rfl, ?_⟩) ?_ ?_
                          rotate_left
                          · intro w'
                            go_simp
                            with_reducible rfl
                          rotate_left
                          · simp only [Act.put, List.setIfInBounds_toArray, List.set_cons_zero, List.set_cons_succ, i64_w, i32_w]
                            rfl
                          refine pure_ (i := 1) (N := some 39) (v := ?_) (a' := ?_) #[true, true, false, false, false, false, false, false, false, false, false, false, false, false, false, false] rfl rfl (any_of HT_.out (by kernel_rfl)) (fun _ _ _ h => h) (Or.inl ⟨by rfl, ?_⟩) ?_ ?_
                          rotate_left
                          · intro w'
                            go_simp
                            with_reducible rfl
                          rotate_left
                          · simp only [Act.put, List.setIfInBounds_toArray, List.set_cons_zero, List.set_cons_succ, i64_w, i32_w]
                            rfl
                          refine pure_ (i := 2) (N := some 40) (v := ?_) (a' := ?_) #[true, true, true, false, false, false, false, false, false, false, false, false, false, false, false, false] rfl rfl (any_of HT_.out (by kernel_rfl)) (fun _ _ _ h => h) (Or.inl ⟨by rfl, ?_⟩) ?_ ?_
                          rotate_left
                          · intro w'
                            go_simp
                            with_reducible rfl
                          rotate_left
                          · simp only [Act.put, List.setIfInBounds_toArray, List.set_cons_zero, List.set_cons_succ, i64_w, i32_w]
                            rfl
                          refine pure_ (i := 4) (N := some 42) (v := ?_) (a' := ?_) #[true, true, true, false, true, false, false, false, false, false, false, false, false, false, false, false] rfl rfl (any_of HT_.out (by kernel_rfl)) (fun _ _ _ h => h) (Or.inl ⟨by rfl, ?_⟩) ?_ ?_
                          rotate_left
                          · intro w'
                            go_simp
                            with_reducible rfl
                          rotate_left
                          · simp only [Act.put, List.setIfInBounds_toArray, List.set_cons_zero, List.set_cons_succ, i64_w, i32_w]
                            rfl
                          refine pure_ (i := 5) (N := some 43) (v := ?_) (a' := ?_) #[true, true, true, false, true, true, false, false, false, false, false, false, false, false, false, false] rfl rfl (any_of HT_.out (by kernel_rfl)) (fun _ _ _ h => h) (Or.inl ⟨by rfl, ?_⟩) ?_ ?_
                          rotate_left
                          · intro w'
                            go_simp
                            with_reducible rfl
                          rotate_left
                          · simp only [Act.put, List.setIfInBounds_toArray, List.set_cons_zero, List.set_cons_succ, i64_w, i32_w]
                            rfl
                          refine pure_ (i := 6) (N := some 44) (v := ?_) (a' := ?_) #[true, true, true, false, true, true, true, false, false, false, false, false, false, false, false, false] rfl rfl (any_of HT_.out (by kernel_rfl)) (fun _ _ _ h => h) (Or.inl ⟨by rfl, ?_⟩) ?_ ?_
                          rotate_left
                          · intro w'
                            go_simp
                            with_reducible rfl
                          rotate_left
                          · simp only [Act.put, List.setIfInBounds_toArray, List.set_cons_zero, List.set_cons_succ, i64_w, i32_w]
                            rfl
                          refine pure_ (i := 7) (N := some 45) (v := ?_) (a' := ?_) #[true, true, true, false, true, true, true, true, false, false, false, false, false, false, false, false] rfl rfl (any_of HT_.out (by kernel_rfl)) (fun _ _ _ h => h) (Or.inl ⟨by rfl, ?_⟩) ?_ ?_
                          rotate_left
                          · intro w'
                            go_simp
                            with_reducible rfl
                          rotate_left
                          · simp only [Act.put, List.setIfInBounds_toArray, List.set_cons_zero, List.set_cons_succ, i64_w, i32_w]
                            rfl
                          refine pure_ (i := 10) (N := some 48) (v := ?_) (a' := ?_) #[true, true, true, false, true, true, true, true, false, false, true, false, false, false, false, false] rfl rfl (any_of HT_.out (by kernel_rfl)) (fun _ _ _ h => h) (Or.inl ⟨by rfl, ?_⟩) ?_ ?_
                          rotate_left
                          · intro w'
                            go_simp
                            with_reducible rfl
                          rotate_left
                          · simp only [Act.put, List.setIfInBounds_toArray, List.set_cons_zero, List.set_cons_succ, i64_w, i32_w]
                            rfl
                          refine pure_ (i := 11) (N := some 49) (v := ?_) (a' := ?_) #[true, true, true, false, true, true, true, true, false, false, true, true, false, false, false, false] rfl rfl (any_of HT_.out (by kernel_rfl)) (fun _ _ _ h => h) (Or.inl ⟨by rfl, ?_⟩) ?_ ?_
                          rotate_left
                          · intro w'
                            go_simp
                            with_reducible rfl
                          rotate_left
                          · simp only [Act.put, List.setIfInBounds_toArray, List.set_cons_zero, List.set_cons_succ, i64_w, i32_w]
                            rfl
                          refine take_ (i := 3) (N := some 41) (v := ?_) (a' := ?_) #[true, true, true, true, true, true, true, true, false, false, true, true, false, false, false, false] rfl rfl (take_ofW HT_.out HW_.out (by kernel_rfl)) (fun _ _ _ h => h) (Or.inl ⟨by rfl, ?_⟩) hHeld ?_ ?_
                          rotate_left
                          · rintro w' ⟨s0, s1⟩
                            go_simp
                            with_reducible rfl
                          rotate_left
                          · simp only [Act.put, List.setIfInBounds_toArray, List.set_cons_zero, List.set_cons_succ, i64_w, i32_w]
                            rfl
                          refine take_ (i := 8) (N := some 46) (v := ?_) (a' := ?_) #[true, true, true, true, true, true, true, true, true, false, true, true, false, false, false, false] rfl rfl (take_ofW HT_.out HW_.out (by kernel_rfl)) (fun _ _ _ h => h) (Or.inl ⟨by rfl, ?_⟩) hHeld ?_ ?_
                          rotate_left
                          · rintro w' ⟨s0, s1⟩
                            go_simp
                            with_reducible rfl
                          rotate_left
                          · simp only [Act.put, List.setIfInBounds_toArray, List.set_cons_zero, List.set_cons_succ, i64_w, i32_w]
                            rfl
                          refine pure_ (i := 9) (N := some 47) (v := ?_) (a' := ?_) #[true, true, true, true, true, true, true, true, true, true, true, true, false, false, false, false] rfl rfl (any_of HT_.out (by kernel_rfl)) (fun _ _ _ h => h) (Or.inl ⟨by rfl, ?_⟩) ?_ ?_
                          rotate_left
                          · intro w'
                            go_simp
                            with_reducible rfl
                          rotate_left
                          · simp only [Act.put, List.setIfInBounds_toArray, List.set_cons_zero, List.set_cons_succ, i64_w, i32_w]
                            rfl
                          refine pure_ (i := 12) (N := some 50) (v := ?_) (a' := ?_) #[true, true, true, true, true, true, true, true, true, true, true, true, true, false, false, false] rfl rfl (any_of HT_.out (by kernel_rfl)) (fun _ _ _ h => h) (Or.inl ⟨by rfl, ?_⟩) ?_ ?_
                          rotate_left
                          · intro w'
                            go_simp
                            with_reducible rfl
                          rotate_left
                          · simp only [Act.put, List.setIfInBounds_toArray, List.set_cons_zero, List.set_cons_succ, i64_w, i32_w]
                            rfl
                          refine pure_ (i := 13) (N := some 51) (v := ?_) (a' := ?_) #[true, true, true, true, true, true, true, true, true, true, true, true, true, true, false, false] rfl rfl (any_of HT_.out (by kernel_rfl)) (fun _ _ _ h => h) (Or.inl ⟨by rfl, ?_⟩) ?_ ?_
                          rotate_left
                          · intro w'
                            go_simp
                            with_reducible rfl
                          rotate_left
                          · simp only [Act.put, List.setIfInBounds_toArray, List.set_cons_zero, List.set_cons_succ, i64_w, i32_w]
                            rfl
                          refine pure_ (i := 14) (N := some 52) (v := ?_) (a' := ?_) #[true, true, true, true, true, true, true, true, true, true, true, true, true, true, true, false] rfl rfl (any_of HT_.out (by kernel_rfl)) (fun _ _ _ h => h) (Or.inl ⟨by rfl, ?_⟩) ?_ ?_
                          rotate_left
                          · intro w'
                            go_simp
                            with_reducible rfl
                          rotate_left
                          · simp only [Act.put, List.setIfInBounds_toArray, List.set_cons_zero, List.set_cons_succ, i64_w, i32_w]
                            rfl
                          refine last_ (i := 15) (N := none) #[true, true, true, true, true, true, true, true, true, true, true, true, true, true, true, true] rfl rfl (one_of HT_.out (by kernel_rfl)) (by decide) (fun K hK => ?_)
                          refine skip_ (w1 := ?_) (by rfl) rfl ?_ ?_
                          rotate_left
                          · go_simp
                            rfl
                          refine hK.out _ _ ?_
                          clear hK K
                          refine done_ (done_of HT_.out (by kernel_rfl)) ?_
                          try go_wp2
                          (try simp only [← hl5_1])
                          (try simp only [← hji14, ← hji21])
                          go_roundg k1
                          case measure => have := HK1.out; omega
                          case rel => exact ⟨(y221), (ji19), (by first | rfl | (simp; done) | (simp only [← hji19] <;> (first | rfl | simp)) | (simp [*]; done)), (by first | exact H' | (simp only [hji14, hji21]; exact H')), ⟨by have := HK1.out; omega⟩, ⟨by (try simp only [hl5_1]); (with_reducible repeat (first | apply Kd.R_alloc | apply Kd.R_drewN | apply Kd.R_drew)); exact HQ28.out⟩, ⟨by repeat (first | (with_reducible first | exact HB.out | apply below_alloc | apply pw_below_drewN | apply below_drew1 | refine below_set ?_ GB17.out) | exact HB.out)⟩⟩
                        · rw [if_neg c22] at H
                          exact absurd H (by simp)
                      · rw [if_neg c20] at H
                        exact absurd H (by simp)
                    · rw [if_neg c18] at H
                      have c18b0 : decide ((wrap64 (x23_1 + 1)) < (x5_1.length : Int)) = false := decide_eq_false c18
                      (try (have c18b0nhl5_1 := c18b0; rw [hl5_1] at c18b0nhl5_1))
                      clear c18
                      have H' := Aside0.mk H
                      clear H
                      have p217 : 0 ≤ (x23_1 : Int) := of_decide_eq_true as_
                      have q217 : x23_1 < (x5_1.length : Int) := of_decide_eq_true as_
                      obtain ⟨ad217, e217, hx217_0⟩ := Kd.at_int (Kd.R_reads' HO_5.out).2.2 x23_1 p217 q217
                      cases e217
                      replace p217 := eq_true p217
                      replace q217 := eq_true q217
                      (try (have q217n := q217; simp only [Int.ofNat_lt] at q217n))
                      (try (have q217d := q217; simp only [List.length_drop] at q217d))
                      have p17 : 0 ≤ (x23_1 : Int) := of_decide_eq_true as_
                      have q17 : (x23_1 : Int) < ((x5_1.length : Int) : Int) := of_decide_eq_true as_
                      obtain ⟨go17, co17, eo17, gb17, gl17, cl17, HG17⟩ := Kd.R_form HO_5.out (by omega)
                      (first | cases eo17 | (injection eo17 with ea_ en_ ec_; (first | subst ea_ | (injection ea_ with ea_; subst ea_)); subst ec_; clear en_))
                      have GB17 := Aside0.mk gb17
                      have GG17 := Aside0.mk HG17
                      clear gb17 gl17 HG17
                      (first | simp only [add_plain] at hx217_0 | skip)
                      obtain ⟨hx17_0, hf17_0⟩ := Kd.R_celln 0 HO_5.out (x23_1 : Int) p17 q17
                      (try simp only [Int.toNat_natCast] at hx17_0 hf17_0)
                      replace p17 := eq_true p17
                      replace q17 := eq_true q17
                      (try (have q17n := q17; simp only [Int.ofNat_lt] at q17n))
                      (try (have q17d := q17; simp only [List.length_drop] at q17d))
                      have HP29 := Kd.R_putg HO_5.out (x23_1 : Int) ji16
                      go_wp2_with (first | ((with_reducible refine gate_store (t := 55) (p := 32) rfl ?_); refine store_event (t := 55) (p := 32) (v := ?vo_w30) (w1 := (wr.setCell ⟨go17, (x23_1 : Int).toNat, none⟩ (.int .u64 ji16))) ?hg ?ho ?hn ?hr ?_; (case ho => rfl); (case hg => rfl); (case hn => rfl); (case hr => first | (go_simp; done) | (go_simp; rfl)); intro w30 hw; have hg : wr.grownBy w30 (some go17) := (by rw [hw]; exact HP29.2); have hp_ : Kd.R (Kd.int .u64) 55 w30 w.heap.size (fun _ => True) (.slice (some ⟨go17, 0, none⟩) x5_1.length co10) y218 := (by rw [hw, Ny218.out]; exact HP29.1); clear HP29; have n0_ := Aside0.mk (hp_); have n1_ := Aside0.mk ((by rw [hw]; exact below_set (HB.out) GB17.out : Below w.heap.size w w30)); clear HO_5; clear HB; have HO_5 := n0_; have HB := n1_; clear n0_ n1_; clear hg hw hp_))
                      (try simp only [← hl5_1])
                      (try simp only [← hji14])
                      go_roundg k1
                      case measure => have := HK1.out; omega
                      case rel => exact ⟨(y218), (wrap64 (x23_1 + 1)), (by first | rfl | (simp; done) | (simp [*]; done)), (by first | exact H' | (simp only [hji14]; exact H')), ⟨by have := HK1.out; omega⟩, ⟨by (try simp only [hl5_1]); (with_reducible repeat (first | apply Kd.R_alloc | apply Kd.R_drewN | apply Kd.R_drew)); exact HO_5.out⟩, ⟨dn_ HB⟩⟩
                  · rw [if_neg c15] at H
                    exact absurd H (by simp)
                · rw [if_neg c13] at H
                  exact absurd H (by simp)
              · rw [if_neg c12] at H
                exact absurd H (by simp)
            · rw [if_neg c11] at H
              have c11b0 : decide (x23_1 < (t214.length : Int)) = false := decide_eq_false c11
              (try (have c11b0nhl5_1 := c11b0; rw [hl5_1] at c11b0nhl5_1))
              clear c11
              replace H := Option.bind_eq_some_iff.mp H
              obtain ⟨t222, A310, H⟩ := H
              replace H : (some t222) = some r := H
              have A31 := Aside0.mk A310
              clear A310
              obtain rfl := Option.some.inj H
              go_wp2_with (first | ((with_reducible refine gate_callee (f := 17) rfl ?_); refine goesL_ (some 55) rfl rfl Try.func17 (by kernel_rfl) rfl #[.slice Ao10 x5_1.length co10] rfl ar_ ?_; (with_reducible refine (nat_Norm.calls k1 _ _ x5_1 t222 _ ?side1 ?side2 A31.out).mono ?_); (case side1 => exact cs_ (Kd.R_reads' HO_5.out).2.2); (case side2 => exact (Kd.R_reads' HO_5.out).2.1); rintro e w32 ⟨v223, rfl, ho0, hb⟩; refine ⟨_, rfl, ?_⟩; have n0_ := Aside0.mk (Kd.R_elder' (up_ HO_5) (Kd.R_base ho0) hb); have n1_ := Aside0.mk (Kd.R_lower (Kd.R_new' ho0 (Kd.R_lt (up_ HO_5))) (below_size (dn_ HB))); have n2_ := Aside0.mk (below_step (dn_ HB) hb); clear HO_5; clear HB; have HO_5 := n0_; have HO224 := n1_; have HB := n2_; clear n0_ n1_ n2_; (try clear hb); (try clear hk); (try clear ho0)))
              go_ret
              exact ⟨_, by first | rfl | (simp [errW_none, errW_some] <;> rfl) | (simp only [← hji4]; first | rfl | (simp [errW_none, errW_some] <;> rfl)) | (simp [*, errW_none, errW_some] <;> rfl), by (with_reducible repeat (first | apply Kd.R_alloc | apply Kd.R_drewN | apply Kd.R_drew)); exact Kd.R_mono HO224.out (fun _ hk => trivial), dn_ HB⟩
      · rw [if_neg c6] at H
        exact absurd H (by simp)
    · rw [if_neg c5] at H
      exact absurd H (by simp)
end Go.Proofs.Ytjbpchebabhoeaa.P
end
section
set_option linter.unusedVariables false
set_option linter.unusedSimpArgs false
namespace Go.Proofs.Ytjbpchebabhoeaa.Nt
open Go.RowKit Go.Proofs.Ytjbpchebabhoeaa.P Go.Proofs.Ytjbpchebabhoeaa.X Go.Proofs.Ytjbpchebabhoeaa.Bt Go.Proofs.Ytjbpchebabhoeaa.Dg Go.Proofs.YtjbpchebabhoeaaW.PrintWords
theorem Mul64_f {x y : Nat} (hx : x < 18446744073709551616) (hy : y < 18446744073709551616) : bits_Mul64.f (x : Int) (y : Int) = some (((x * y / 18446744073709551616 : Nat) : Int), ((x * y % 18446744073709551616 : Nat) : Int)) := by
  unfold bits_Mul64.f
  rw [if_pos (by omega), ← Int.natCast_mul, Int.natCast_ediv, Int.natCast_emod]
  rfl
theorem getD_set_ne {l : List Int} {i j : Nat} (h : i ≠ j) (x : Int) : (l.set i x).getD j 0 = l.getD j 0 := by
  rw [List.getD_eq_getElem?_getD, List.getD_eq_getElem?_getD, List.getElem?_set_ne h]
theorem row_loop {a : List Int} (ha : W64 a) (x : Nat) (hx : x < 18446744073709551616) (fa : a.length ≤ 35184372088832) (d : Nat) : ∀ (i : Nat) (out : List Int) (c : Nat) (k : Nat), i + d = a.length → d < k → a.length < out.length → W64 out → c < 18446744073709551616 →
    ∃ r, nat_row.l0 k out a (x : Int) (c : Int) a (a.length : Int) (i : Int) = some r ∧ r.length = out.length ∧ W64 r ∧ V r + 18446744073709551616 ^ a.length * (out.getD a.length 0).toNat = V out + 18446744073709551616 ^ i * (c + x * V (a.drop i)) ∧ ∀ j, a.length < j → r.getD j 0 = out.getD j 0 := by
  induction d with
  | zero =>
    intro i out c k hi hk hl hw hc
    obtain ⟨k, rfl⟩ : ∃ m, k = m + 1 := ⟨k - 1, by omega⟩
    have ei : i = a.length := by omega
    subst ei
    refine ⟨out.set a.length (c : Int), ?_, by simp, hw.set _ (by omega) (by omega), ?_, fun j hj => getD_set_ne (by omega) _⟩
    · simp only [nat_row.l0]
      rw [if_neg (by omega), if_pos (by omega), if_pos (by omega), Int.toNat_natCast]
    · unfold V
      rw [val_set hl, List.drop_length, val_nil, Nat.mul_zero, Nat.add_zero, Int.toNat_natCast]
  | succ d ih =>
    intro i out c k hi hk hl hw hc
    obtain ⟨k, rfl⟩ : ∃ m, k = m + 1 := ⟨k - 1, by omega⟩
    have da := limb ha i
    have dO := limb hw i
    obtain ⟨y, hy⟩ : ∃ y : Nat, a.getD i 0 = (y : Int) := ⟨(a.getD i 0).toNat, by omega⟩
    obtain ⟨o, ho⟩ : ∃ o : Nat, out.getD i 0 = (o : Int) := ⟨(out.getD i 0).toNat, by omega⟩
    rw [hy] at da
    rw [ho] at dO
    have hp : x * y ≤ 18446744073709551615 * 18446744073709551615 := Nat.mul_le_mul (by omega) (by omega)
    obtain ⟨p, hpp⟩ : ∃ p, x * y = p := ⟨_, rfl⟩
    rw [hpp] at hp
    obtain ⟨hi_, e1⟩ : ∃ q, p / 18446744073709551616 = q := ⟨_, rfl⟩
    obtain ⟨lo_, e2⟩ : ∃ q, p % 18446744073709551616 = q := ⟨_, rfl⟩
    have hq1 : hi_ ≤ 18446744073709551614 := by omega
    have hq2 : lo_ < 18446744073709551616 := by omega
    have hp2 : p = 18446744073709551616 * hi_ + lo_ := by omega
    obtain ⟨c1, e3⟩ : ∃ q, (lo_ + c) / 18446744073709551616 = q := ⟨_, rfl⟩
    obtain ⟨l1, e4⟩ : ∃ q, (lo_ + c) % 18446744073709551616 = q := ⟨_, rfl⟩
    obtain ⟨c2, e5⟩ : ∃ q, (o + l1) / 18446744073709551616 = q := ⟨_, rfl⟩
    obtain ⟨o2, e6⟩ : ∃ q, (o + l1) % 18446744073709551616 = q := ⟨_, rfl⟩
    have hsum : c + o + p = 18446744073709551616 * (hi_ + c1 + c2) + o2 := by omega
    have hcc : hi_ + c1 + c2 < 18446744073709551616 := by omega
    have ho2 : o2 < 18446744073709551616 := by omega
    obtain ⟨r, hr1, hr2, hr3, hr4, hr5⟩ := ih (i + 1) (out.set i (o2 : Int)) (hi_ + c1 + c2) k (by omega) (by omega) (by simpa using hl) (hw.set i (by omega) (by omega)) hcc
    refine ⟨r, ?_, by simpa using hr2, hr3, ?_, fun j hj => by rw [hr5 j hj, getD_set_ne (by omega)]⟩
    · simp only [nat_row.l0]
      rw [if_pos (by omega), if_pos (by omega), if_pos (by omega), rd_nat, hy, Mul64_f hx (by omega), Option.bind_some, hpp, e1, e2, Add64_f (by omega) (by omega) (by omega) (by omega), Option.bind_some, if_pos (by omega), rd_nat, ho]
      simp only
      rw [show ((lo_ : Int) + (c : Int) + 0) % 18446744073709551616 = (l1 : Int) by omega, show ((lo_ : Int) + (c : Int) + 0) / 18446744073709551616 = (c1 : Int) by omega, Add64_f (by omega) (by omega) (by omega) (by omega), Option.bind_some]
      simp only
      rw [show ((o : Int) + (l1 : Int) + 0) % 18446744073709551616 = (o2 : Int) by omega, show ((o : Int) + (l1 : Int) + 0) / 18446744073709551616 = (c2 : Int) by omega, u64_in (x := (hi_ : Int) + (c1 : Int)) (by omega) (by omega), u64_in (by omega) (by omega), w64 (by omega) (by omega), Int.toNat_natCast]
      rw [← hr1]
      rfl
    · rw [getD_set_ne (by omega)] at hr4
      have hs := val_set (b := 18446744073709551616) (l := out) (i := i) (by omega) (o2 : Int)
      rw [ho, Int.toNat_natCast, Int.toNat_natCast] at hs
      have hd := val_drop 18446744073709551616 a i
      rw [hy, Int.toNat_natCast] at hd
      unfold V at *
      rw [hr4, hd, Nat.pow_succ]
      generalize 18446744073709551616 ^ i = T at hs ⊢
      generalize val 18446744073709551616 (a.drop (i + 1)) = Z
      rw [Nat.mul_add x, hpp]
      have h2 := congrArg (T * ·) hsum
      simp only [Nat.mul_add] at h2
      have h3 : x * (18446744073709551616 * Z) = 18446744073709551616 * (x * Z) := Nat.mul_left_comm _ _ _
      rw [h3, Nat.mul_assoc]
      generalize x * Z = W at *
      simp only [Nat.mul_add] at h2 ⊢
      generalize T * c = t1 at *
      generalize T * o = t2 at *
      generalize T * p = t3 at *
      generalize T * o2 = t4 at *
      generalize T * (18446744073709551616 * hi_) = t5 at *
      generalize T * (18446744073709551616 * c1) = t6 at *
      generalize T * (18446744073709551616 * c2) = t7 at *
      generalize T * (18446744073709551616 * W) = t8 at *
      omega
theorem row_f {a out : List Int} (ha : W64 a) (hw : W64 out) {x : Nat} (hx : x < 18446744073709551616) (fa : a.length ≤ 35184372088832) (hl : a.length < out.length) (hz : out.getD a.length 0 = 0) {k : Nat} (hk : a.length < k) :
    ∃ r, nat_row.f k out a (x : Int) = some r ∧ r.length = out.length ∧ W64 r ∧ V r = V out + x * V a ∧ ∀ j, a.length < j → r.getD j 0 = out.getD j 0 := by
  obtain ⟨r, h1, h2, h3, h4, h5⟩ := row_loop ha x hx fa a.length 0 out 0 k (by omega) hk hl hw (by omega)
  refine ⟨r, h1, h2, h3, ?_, h5⟩
  rw [hz, List.drop_zero, Nat.pow_zero, Nat.one_mul, Nat.zero_add] at h4
  simpa using h4
theorem mulRows_f {a : List Int} (ha : W64 a) (fa : a.length ≤ 35184372088832) : ∀ (b : List Int) (i : Nat) (out : List Int), W64 b → W64 out → a.length + i + b.length < out.length → (∀ j, a.length + i ≤ j → out.getD j 0 = 0) →
    ∃ r, mulRows a b i out = some r ∧ r.length = out.length ∧ W64 r ∧ V r = V out + 18446744073709551616 ^ i * (V a * V b)
  | [], i, out, _, hw, _, _ => ⟨out, rfl, rfl, hw, by simp [V, val_nil]⟩
  | x :: xs, i, out, hb, hw, hl, hz => by
    simp only [List.length_cons] at hl
    have h1 := hb.head
    obtain ⟨xn, hxn⟩ : ∃ y : Nat, x = (y : Int) := ⟨x.toNat, by omega⟩
    subst hxn
    have hgd : ∀ j, (out.drop i).getD j 0 = out.getD (i + j) 0 := by
      intro j
      rw [List.getD_eq_getElem?_getD, List.getD_eq_getElem?_getD, List.getElem?_drop]
    obtain ⟨ro, r1, r2, r3, r4, r5⟩ := row_f ha (hw.drop i) (x := xn) (by omega) fa (by rw [List.length_drop]; omega) (by rw [hgd]; exact hz _ (by omega)) (k := a.length + 2) (by omega)
    rw [List.length_drop] at r2
    have hti : (out.take i).length = i := by rw [List.length_take]; omega
    obtain ⟨r, q1, q2, q3, q4⟩ := mulRows_f ha fa xs (i + 1) (out.take i ++ ro) hb.tail ((hw.take i).append r3) (by rw [List.length_append, hti]; omega) (by
      intro j hj
      have hge : (out.take i ++ ro).getD j 0 = ro.getD (j - i) 0 := by
        rw [List.getD_eq_getElem?_getD, List.getD_eq_getElem?_getD, List.getElem?_append_right (by omega), hti]
      rw [hge, r5 _ (by omega), hgd]
      exact hz _ (by omega))
    refine ⟨r, ?_, ?_, q3, ?_⟩
    · simp only [mulRows]
      rw [r1, Option.bind_some]
      exact q1
    · rw [q2, List.length_append, hti]; omega
    · have hs := val_split 18446744073709551616 out i
      unfold V at *
      rw [q4, val_append, hti, r4, hs, val_cons, Int.toNat_natCast, Nat.pow_succ]
      generalize 18446744073709551616 ^ i = T
      generalize val 18446744073709551616 a = A
      generalize val 18446744073709551616 xs = X
      simp only [Nat.mul_add, Nat.mul_assoc]
      rw [Nat.mul_left_comm A 18446744073709551616 X, Nat.mul_comm A xn]
      omega
theorem Mul_f {a b : List Int} (ha : W64 a) (hb : W64 b) (hl : a.length + b.length + 1 ≤ 35184372088832) : nat_Mul.f a b = some (L (V a * V b)) := by
  unfold nat_Mul.f
  rw [if_pos hl]
  obtain ⟨r, h1, h2, h3, h4⟩ := mulRows_f ha (by omega) b 0 (List.replicate (a.length + b.length + 1) 0) hb (Wf.zeros (by omega) _) (by simp) (by
    intro j hj
    rw [List.getD_eq_getElem?_getD, List.getElem?_replicate]
    split <;> rfl)
  rw [List.length_replicate] at h2
  rw [h1, Option.bind_some, if_pos h2, cut_digs h3, h4]
  unfold V
  rw [val_zeros, Nat.pow_zero, Nat.one_mul, Nat.zero_add]
theorem cast_pow (s : Nat) : ((2 : Int) ^ s) = ((2 ^ s : Nat) : Int) := by rw [Int.natCast_pow]; rfl
theorem B_split {s : Nat} (hs : s < 64) : (18446744073709551616 : Nat) = 2 ^ s * 2 ^ (64 - s) := by
  rw [← Nat.pow_add, show s + (64 - s) = 64 by omega]
theorem limb_shl {x s : Nat} (hx : x < 18446744073709551616) (hs : s < 64) : IntKind.u64.wrap ((x : Int) * 2 ^ s) = ((2 ^ s * (x % 2 ^ (64 - s)) : Nat) : Int) := by
  rw [u64, cast_pow, ← Int.natCast_mul, show (18446744073709551616 : Int) = ((18446744073709551616 : Nat) : Int) from rfl, ← Int.natCast_emod]
  congr 1
  rw [Nat.mul_comm x, B_split hs, Nat.mul_mod_mul_left]
theorem limb_top {x s : Nat} (hs : s < 64) : (x : Int) / 2 / 2 ^ (63 - s) = ((x / 2 ^ (64 - s) : Nat) : Int) := by
  rw [cast_pow, show (2 : Int) = ((2 : Nat) : Int) from rfl, ← Int.natCast_ediv, ← Int.natCast_ediv, Nat.div_div_eq_div_mul, Nat.mul_comm 2, ← Nat.pow_succ, show (63 - s).succ = 64 - s by omega]
theorem top_lt {x s : Nat} (hx : x < 18446744073709551616) (hs : s < 64) : x / 2 ^ (64 - s) < 2 ^ s := by
  rw [Nat.div_lt_iff_lt_mul (Nat.pow_pos (by omega)), ← B_split hs]
  exact hx
theorem shlRows_f {s : Nat} (hs : s < 64) : ∀ (xs : List Int) (c : Nat) (out : List Int), W64 xs → W64 out → c < 2 ^ s → W64 (shlRows s xs (c : Int) out) ∧ V (shlRows s xs (c : Int) out) = V out + 18446744073709551616 ^ out.length * (c + 2 ^ s * V xs)
  | [], c, out, _, hw, hc => by
    have h2 : 2 ^ s ≤ 2 ^ 63 := Nat.pow_le_pow_right (by omega) (by omega)
    simp only [shlRows]
    refine ⟨hw.append (Wf.cons (by omega) (by omega) (Wf.nil _)), ?_⟩
    rw [V_snoc, Int.toNat_natCast]
    simp [V, val_nil]
  | x :: xs, c, out, hx, hw, hc => by
    have h2 : 2 ^ s ≤ 2 ^ 63 := Nat.pow_le_pow_right (by omega) (by omega)
    have h1 := hx.head
    obtain ⟨xn, hxn⟩ : ∃ y : Nat, x = (y : Int) := ⟨x.toNat, by omega⟩
    subst hxn
    have hxl : xn < 18446744073709551616 := by omega
    have hlow : 2 ^ s * (xn % 2 ^ (64 - s)) + c < 18446744073709551616 := by
      have h4 := Nat.mod_lt xn (show 0 < 2 ^ (64 - s) from Nat.pow_pos (by omega))
      have h5 := Nat.mul_le_mul_left (2 ^ s) (show xn % 2 ^ (64 - s) + 1 ≤ 2 ^ (64 - s) by omega)
      rw [← B_split hs, Nat.mul_add] at h5
      omega
    have htop := top_lt hxl hs
    simp only [shlRows]
    rw [limb_shl hxl hs, or_add_nat s _ _ hc hlow, limb_top hs]
    have ih := shlRows_f hs xs (xn / 2 ^ (64 - s)) (out ++ [((2 ^ s * (xn % 2 ^ (64 - s)) + c : Nat) : Int)]) hx.tail (hw.append (Wf.cons (by omega) (by omega) (Wf.nil _))) htop
    refine ⟨ih.1, ?_⟩
    rw [ih.2, V_snoc, Int.toNat_natCast, List.length_append, List.length_singleton, Nat.pow_succ]
    unfold V
    rw [val_cons, Int.toNat_natCast]
    generalize 18446744073709551616 ^ out.length = T
    generalize val 18446744073709551616 xs = X
    have e : 2 ^ s * xn = 18446744073709551616 * (xn / 2 ^ (64 - s)) + 2 ^ s * (xn % 2 ^ (64 - s)) := by
      have h6 := Nat.div_add_mod xn (2 ^ (64 - s))
      have h7 := congrArg (2 ^ s * ·) h6
      simp only [Nat.mul_add, ← Nat.mul_assoc] at h7
      rw [← B_split hs] at h7
      exact h7.symm
    rw [Nat.mul_add (2 ^ s), e, Nat.mul_left_comm (2 ^ s) 18446744073709551616 X]
    generalize 2 ^ s * (xn % 2 ^ (64 - s)) = u
    generalize xn / 2 ^ (64 - s) = v
    generalize 2 ^ s * X = Y
    simp only [Nat.mul_add, Nat.mul_assoc]
    omega
theorem pow64 (n : Nat) : 18446744073709551616 ^ (n / 64) * 2 ^ (n % 64) = 2 ^ n := by
  rw [show (18446744073709551616 : Nat) = 2 ^ 64 from rfl, ← Nat.pow_mul, ← Nat.pow_add, Nat.div_add_mod]
theorem shl_f {l : List Int} (h : W64 l) (n : Nat) (hn : n ≤ 1099511627776) (hl : n / 64 + l.length + 1 ≤ 17592186044416) : natdiv_shl.f l (n : Int) = some (L (V l * 2 ^ n)) := by
  unfold natdiv_shl.f
  rw [Int.toNat_natCast, if_pos ⟨by omega, by omega, hl⟩]
  have hs := shlRows_f (s := n % 64) (by omega) l 0 (List.replicate (n / 64) 0) h (Wf.zeros (by omega) _) (Nat.pow_pos (by omega))
  have hlen := shlRows_length (n % 64) l 0 (List.replicate (n / 64) 0)
  rw [List.length_replicate] at hlen
  rw [show ((0 : Nat) : Int) = 0 from rfl] at hs
  rw [Norm_f hs.1 (by omega) (by omega), hs.2, List.length_replicate]
  unfold V
  rw [val_zeros, Nat.zero_add, Nat.zero_add, ← Nat.mul_assoc, pow64, Nat.mul_comm]
theorem getD_of_drop {x y : List Int} {i : Nat} (h : y.drop i = x.drop i) {j : Nat} (hj : i ≤ j) : y.getD j 0 = x.getD j 0 := by
  have e := congrArg (fun l => l.getD (j - i) 0) h
  simp only [List.getD_eq_getElem?_getD, List.getElem?_drop] at e
  rw [show i + (j - i) = j by omega] at e
  rw [List.getD_eq_getElem?_getD, List.getD_eq_getElem?_getD]
  exact e
theorem limb_shr {x s : Nat} (hs : s < 64) : shr .u64 (x : Int) (s : Int) = ((x / 2 ^ s : Nat) : Int) := by
  rw [shr_u64 (by omega) (by omega), Int.toNat_natCast, Int.natCast_ediv]
theorem limb_low {x s : Nat} (hx : x < 18446744073709551616) (hs : s < 64) : shl .u64 (IntKind.u64.wrap ((x : Int) * 2)) (((63 - s : Nat)) : Int) = ((2 ^ (64 - s) * (x % 2 ^ s) : Nat) : Int) := by
  rw [shl_u64 (by omega) (by omega), Int.toNat_natCast, u64]
  rw [show (18446744073709551616 : Int) = ((18446744073709551616 : Nat) : Int) from rfl, show (2 : Int) = ((2 : Nat) : Int) from rfl, ← Int.natCast_mul, ← Int.natCast_emod, ← Int.natCast_mul, ← Int.natCast_emod]
  congr 1
  rw [Nat.mod_mul_mod, Nat.mul_assoc, show 2 * 2 ^ (63 - s) = 2 ^ (64 - s) by rw [← Nat.pow_succ', show (63 - s).succ = 64 - s by omega], Nat.mul_comm x]
  rw [show (18446744073709551616 : Nat) = 2 ^ (64 - s) * 2 ^ s by rw [← Nat.pow_add, show 64 - s + s = 64 by omega], Nat.mul_mod_mul_left]
theorem step_shr {s x0 R : Nat} (hs : s < 64) : (x0 + 18446744073709551616 * R) / 2 ^ s = x0 / 2 ^ s + 2 ^ (64 - s) * (R % 2 ^ s) + 18446744073709551616 * (R / 2 ^ s) := by
  have hp : 0 < 2 ^ s := Nat.pow_pos (by omega)
  have e : 18446744073709551616 * R = 2 ^ s * (2 ^ (64 - s) * R) := by rw [← Nat.mul_assoc, ← B_split hs]
  rw [e, Nat.add_mul_div_left _ _ hp, Nat.add_assoc]
  congr 1
  have h1 := Nat.div_add_mod R (2 ^ s)
  have h2 := congrArg (2 ^ (64 - s) * ·) h1
  simp only [Nat.mul_add, ← Nat.mul_assoc] at h2
  rw [Nat.mul_comm (2 ^ (64 - s)) (2 ^ s), ← B_split hs] at h2
  omega
theorem shr_loop {x : List Int} (hx : W64 x) {s : Nat} (hs : s < 64) (fx : x.length ≤ 17592186044416) (d : Nat) : ∀ (i : Nat) (y : List Int) (k : Nat), i + d = x.length → d + x.length + 2 < k → W64 y → y.length = x.length → y.drop i = x.drop i →
    V (y.take i) + 18446744073709551616 ^ i * (V (x.drop i) / 2 ^ s) = V x / 2 ^ s → natdiv_shr.l0 k y (s : Int) (x.length : Int) (i : Int) = some (L (V x / 2 ^ s)) := by
  have hsm : 2 ^ s ≤ 2 ^ 63 := Nat.pow_le_pow_right (by omega) (by omega)
  have hsp : 0 < 2 ^ s := Nat.pow_pos (by omega)
  induction d with
  | zero =>
    intro i y k hi hk hw hl hd hv
    obtain ⟨k, rfl⟩ : ∃ m, k = m + 1 := ⟨k - 1, by omega⟩
    simp only [natdiv_shr.l0]
    rw [if_neg (by omega), Norm_f hw (by omega) (by omega), Option.bind_some]
    rw [List.drop_eq_nil_of_le (by omega), List.take_of_length_le (by omega)] at hv
    unfold V at *
    rw [val_nil, Nat.zero_div, Nat.mul_zero, Nat.add_zero] at hv
    rw [hv]
  | succ d ih =>
    intro i y k hi hk hw hl hd hv
    obtain ⟨k, rfl⟩ : ∃ m, k = m + 1 := ⟨k - 1, by omega⟩
    have g0 := getD_of_drop hd (Nat.le_refl i)
    have g1 := getD_of_drop hd (show i ≤ i + 1 by omega)
    have l0 := limb hx i
    have l1 := limb hx (i + 1)
    obtain ⟨a, ea⟩ : ∃ a : Nat, x.getD i 0 = (a : Int) := ⟨(x.getD i 0).toNat, by omega⟩
    obtain ⟨b, eb⟩ : ∃ b : Nat, x.getD (i + 1) 0 = (b : Int) := ⟨(x.getD (i + 1) 0).toNat, by omega⟩
    rw [ea] at g0 l0
    rw [eb] at g1 l1
    have ha : a < 18446744073709551616 := by omega
    have hb : b < 18446744073709551616 := by omega
    have hlow : a / 2 ^ s < 2 ^ (64 - s) := by
      rw [Nat.div_lt_iff_lt_mul hsp, Nat.mul_comm, ← B_split hs]; exact ha
    have hbm := Nat.mod_lt b hsp
    have hsum : 2 ^ (64 - s) * (b % 2 ^ s) + a / 2 ^ s < 18446744073709551616 := by
      have h5 := Nat.mul_le_mul_left (2 ^ (64 - s)) (show b % 2 ^ s + 1 ≤ 2 ^ s by omega)
      rw [Nat.mul_comm (2 ^ (64 - s)) (2 ^ s), ← B_split hs, Nat.mul_add] at h5
      omega
    have hR : V (x.drop (i + 1)) % 2 ^ s = b % 2 ^ s := by
      unfold V
      rw [val_drop 18446744073709551616 x (i + 1), eb, Int.toNat_natCast, B_split hs, Nat.mul_assoc, Nat.add_mul_mod_self_left]
    have hq := step_shr (x0 := a) (R := V (x.drop (i + 1))) hs
    rw [hR] at hq
    have hd1 : V (x.drop i) = a + 18446744073709551616 * V (x.drop (i + 1)) := by
      unfold V
      rw [val_drop 18446744073709551616 x i, ea, Int.toNat_natCast]
    rw [hd1, hq] at hv
    have key : ∀ o : Nat, o = a / 2 ^ s + 2 ^ (64 - s) * (b % 2 ^ s) → natdiv_shr.l0 k (y.set i (o : Int)) (s : Int) (x.length : Int) ((i : Int) + 1) = some (L (V x / 2 ^ s)) := by
      intro o ho
      have := ih (i + 1) (y.set i (o : Int)) k (by omega) (by omega) (hw.set i (by omega) (by omega)) (by simpa using hl) (by
        rw [List.drop_set_of_lt (by omega)]
        have := congrArg (List.drop 1) hd
        simpa only [List.drop_drop] using this) ?_
      · rw [← this]; rfl
      · rw [take_set (by omega), V_snoc, List.length_take, Nat.min_eq_left (by omega), Int.toNat_natCast, ← hv, ← ho, Nat.pow_succ, Nat.mul_add, Nat.mul_assoc, Nat.add_assoc]
    simp only [natdiv_shr.l0]
    rw [if_pos (by omega), if_pos (by omega), if_pos (by omega), if_pos (by omega), Option.bind_some, rd_nat, g0, limb_shr hs, Int.toNat_natCast, w64 (x := (i : Int) + 1) (by omega) (by omega)]
    by_cases hlast : (i : Int) + 1 < (y.length : Int)
    · rw [if_pos hlast, if_pos (by omega), show ((i : Int) + 1) = ((i + 1 : Nat) : Int) by omega, rd_nat, rd_nat]
      have hgs : (y.set i ((a / 2 ^ s : Nat) : Int)).getD i 0 = ((a / 2 ^ s : Nat) : Int) := by
        rw [List.getD_eq_getElem?_getD, List.getElem?_set_self (by omega)]
        rfl
      rw [hgs, getD_set_ne (i := i) (j := i + 1) (by omega), g1, u64_in (x := 63 - (s : Int)) (by omega) (by omega), if_pos (by omega), show (63 - (s : Int)) = ((63 - s : Nat) : Int) by omega, limb_low hb hs, or_comm_nat (a / 2 ^ s) (2 ^ (64 - s) * (b % 2 ^ s)) (Nat.lt_of_le_of_lt (Nat.div_le_self _ _) ha) (Nat.lt_of_le_of_lt (Nat.le_add_right _ _) hsum), or_add_nat _ _ _ hlow hsum, List.set_set]
      have := key (2 ^ (64 - s) * (b % 2 ^ s) + a / 2 ^ s) (by omega)
      rw [← this]
      rfl
    · rw [if_neg hlast]
      have hb0 : b = 0 := by
        have : x.getD (i + 1) 0 = 0 := getD_ge (by omega)
        omega
      subst hb0
      exact key _ (by rw [Nat.zero_mod, Nat.mul_zero, Nat.add_zero])
theorem shr_f {l : List Int} (h : W64 l) (n : Nat) (hn : n ≤ 1099511627776) (hl : l.length ≤ 17592186044416) {k : Nat} (hk : 2 * l.length + 5 < k) : natdiv_shr.f k l (n : Int) = some (L (V l / 2 ^ n)) := by
  unfold natdiv_shr.f
  have e1 : Int.tdiv (n : Int) 64 = ((n / 64 : Nat) : Int) := by rw [Int.tdiv_eq_ediv_of_nonneg (by omega)]; omega
  have e2 : Int.tmod (n : Int) 64 = ((n % 64 : Nat) : Int) := by rw [Int.tmod_eq_emod_of_nonneg (by omega)]; omega
  rw [e1, e2, w64 (by omega) (by omega)]
  by_cases hq : ((n / 64 : Nat) : Int) ≥ (l.length : Int)
  · rw [if_pos hq]
    have h1 := V_lt h
    have h2 := pow_le (show l.length ≤ n / 64 by omega)
    have h3 := pow64 n
    have h4 : 0 < 2 ^ (n % 64) := Nat.pow_pos (by omega)
    have h5 := Nat.mul_le_mul_left (18446744073709551616 ^ (n / 64)) h4
    rw [Nat.div_eq_of_lt (by omega), L_zero]
  · rw [if_neg hq, if_pos (by omega), if_pos (by omega), Int.toNat_natCast]
    unfold slices_Clone_uint64_uint64.f
    rw [if_pos (by rw [List.length_drop]; omega), Option.bind_some, u64_in (by omega) (by omega)]
    have hdl : (l.drop (n / 64)).length = l.length - n / 64 := List.length_drop
    have := shr_loop (x := l.drop (n / 64)) (h.drop _) (s := n % 64) (by omega) (by omega) (l.drop (n / 64)).length 0 (l.drop (n / 64)) k (by omega) (by omega) (h.drop _) rfl rfl (by simp [V, val_nil])
    rw [show (((0 : Nat)) : Int) = 0 from rfl] at this
    rw [this]
    congr 2
    have hsp := val_split 18446744073709551616 l (n / 64)
    have hlt : V (l.take (n / 64)) < 18446744073709551616 ^ (n / 64) := by
      have := V_lt (h.take (n / 64))
      rwa [List.length_take, Nat.min_eq_left (by omega)] at this
    unfold V at *
    rw [hsp, ← pow64 n, ← Nat.div_div_eq_div_mul, Nat.add_mul_div_left _ _ (Nat.pow_pos (by omega)), Nat.div_eq_of_lt hlt, Nat.zero_add]
end Go.Proofs.Ytjbpchebabhoeaa.Nt
end
section
namespace Go.Proofs.Ytjbpchebabhoeaa.P
open Go.RowKit Go.Proofs.YtjbpchebabhoeaaW.PrintWords Go.Proofs.YtjbpchebabhoeaaW.PrintLast Go.Proofs.YtjbpchebabhoeaaW.PrintMore Go.Proofs.Ytjbpchebabhoeaa.X
attribute [local go_sem] max2_int min2_int max_two min_two max_three min_three max_four min_four
set_option linter.unusedVariables false
set_option linter.unusedSimpArgs false
mutual
def bits_Div64.j2 : Nat → Int → Int → Int → Int → Int → Int → Int → Int → Option (Int × Int)
  | 0, _, _, _, _, _, _, _, _ => none
  | k + 1, x2, x8, x9, x10, x11, x13, x14, x15 => if x9 = 0 then (none) else (bits_Div64.l1 k x2 x8 x9 x10 x14 x15 (IntKind.u64.wrap ((IntKind.u64.wrap ((IntKind.u64.wrap ((IntKind.u64.wrap (x11 * 4294967296)) + x13)) - (IntKind.u64.wrap (x15 * x2)))) - (IntKind.u64.wrap ((IntKind.u64.wrap (Int.tdiv (IntKind.u64.wrap ((IntKind.u64.wrap ((IntKind.u64.wrap (x11 * 4294967296)) + x13)) - (IntKind.u64.wrap (x15 * x2)))) x9)) * x9)))) (IntKind.u64.wrap ((IntKind.u64.wrap ((IntKind.u64.wrap (x11 * 4294967296)) + x13)) - (IntKind.u64.wrap (x15 * x2)))) (IntKind.u64.wrap (Int.tdiv (IntKind.u64.wrap ((IntKind.u64.wrap ((IntKind.u64.wrap (x11 * 4294967296)) + x13)) - (IntKind.u64.wrap (x15 * x2)))) x9)))
def bits_Div64.l1 : Nat → Int → Int → Int → Int → Int → Int → Int → Int → Int → Option (Int × Int)
  | 0, _, _, _, _, _, _, _, _, _ => none
  | k + 1, x2, x8, x9, x10, x14, x15, x16, x17, x18 => if x18 ≥ 4294967296 then (bits_Div64.j4 k x2 x8 x9 x10 x14 x15 x16 x17 x18 true) else (bits_Div64.j4 k x2 x8 x9 x10 x14 x15 x16 x17 x18 (decide ((IntKind.u64.wrap (x18 * x10)) > (IntKind.u64.wrap ((IntKind.u64.wrap (4294967296 * x16)) + x14)))))
def bits_Div64.j4 : Nat → Int → Int → Int → Int → Int → Int → Int → Int → Int → Bool → Option (Int × Int)
  | 0, _, _, _, _, _, _, _, _, _, _ => none
  | k + 1, x2, x8, x9, x10, x14, x15, x16, x17, x18, x113 => if x113 = true then (if (IntKind.u64.wrap (x16 + x9)) ≥ 4294967296 then (if 0 ≤ x8 then (some (IntKind.u64.wrap ((IntKind.u64.wrap (x15 * 4294967296)) + (IntKind.u64.wrap (x18 - 1))), shr .u64 (IntKind.u64.wrap ((IntKind.u64.wrap ((IntKind.u64.wrap (x17 * 4294967296)) + x14)) - (IntKind.u64.wrap ((IntKind.u64.wrap (x18 - 1)) * x2)))) x8)) else (none)) else (bits_Div64.l1 k x2 x8 x9 x10 x14 x15 (IntKind.u64.wrap (x16 + x9)) x17 (IntKind.u64.wrap (x18 - 1)))) else (if 0 ≤ x8 then (some (IntKind.u64.wrap ((IntKind.u64.wrap (x15 * 4294967296)) + x18), shr .u64 (IntKind.u64.wrap ((IntKind.u64.wrap ((IntKind.u64.wrap (x17 * 4294967296)) + x14)) - (IntKind.u64.wrap (x18 * x2)))) x8)) else (none))
def bits_Div64.l0 : Nat → Int → Int → Int → Int → Int → Int → Int → Int → Int → Option (Int × Int)
  | 0, _, _, _, _, _, _, _, _, _ => none
  | k + 1, x2, x8, x9, x10, x11, x13, x14, x15, x16 => if x15 ≥ 4294967296 then (bits_Div64.j1 k x2 x8 x9 x10 x11 x13 x14 x15 x16 true) else (bits_Div64.j1 k x2 x8 x9 x10 x11 x13 x14 x15 x16 (decide ((IntKind.u64.wrap (x15 * x10)) > (IntKind.u64.wrap ((IntKind.u64.wrap (4294967296 * x16)) + x13)))))
def bits_Div64.j1 : Nat → Int → Int → Int → Int → Int → Int → Int → Int → Int → Bool → Option (Int × Int)
  | 0, _, _, _, _, _, _, _, _, _, _ => none
  | k + 1, x2, x8, x9, x10, x11, x13, x14, x15, x16, x78 => if x78 = true then (if (IntKind.u64.wrap (x16 + x9)) ≥ 4294967296 then (bits_Div64.j2 k x2 x8 x9 x10 x11 x13 x14 (IntKind.u64.wrap (x15 - 1))) else (bits_Div64.l0 k x2 x8 x9 x10 x11 x13 x14 (IntKind.u64.wrap (x15 - 1)) (IntKind.u64.wrap (x16 + x9)))) else (bits_Div64.j2 k x2 x8 x9 x10 x11 x13 x14 x15)
end
def bits_Div64.f (k : Nat) (a0 : Int) (a1 : Int) (a2 : Int) : Option (Int × Int) := if a2 = 0 then (none) else (if a2 ≤ a0 then (none) else (if a0 = 0 then (some (IntKind.u64.wrap (Int.tdiv a1 a2), Int.tmod a1 a2)) else ((bits_LeadingZeros64.f a2).bind fun t190 => (if 0 ≤ (IntKind.u64.wrap (t190)) then (if 0 ≤ (IntKind.u64.wrap (64 - (IntKind.u64.wrap (t190)))) then (if ((shl .u64 a2 (IntKind.u64.wrap (t190))) / 4294967296) = 0 then (none) else (bits_Div64.l0 k (shl .u64 a2 (IntKind.u64.wrap (t190))) (IntKind.u64.wrap (t190)) ((shl .u64 a2 (IntKind.u64.wrap (t190))) / 4294967296) (Go.bits .and .u64 (shl .u64 a2 (IntKind.u64.wrap (t190))) 4294967295) (Go.bits .or .u64 (shl .u64 a0 (IntKind.u64.wrap (t190))) (shr .u64 a1 (IntKind.u64.wrap (64 - (IntKind.u64.wrap (t190)))))) ((shl .u64 a1 (IntKind.u64.wrap (t190))) / 4294967296) (Go.bits .and .u64 (shl .u64 a1 (IntKind.u64.wrap (t190))) 4294967295) (IntKind.u64.wrap (Int.tdiv (Go.bits .or .u64 (shl .u64 a0 (IntKind.u64.wrap (t190))) (shr .u64 a1 (IntKind.u64.wrap (64 - (IntKind.u64.wrap (t190)))))) ((shl .u64 a2 (IntKind.u64.wrap (t190))) / 4294967296))) (IntKind.u64.wrap ((Go.bits .or .u64 (shl .u64 a0 (IntKind.u64.wrap (t190))) (shr .u64 a1 (IntKind.u64.wrap (64 - (IntKind.u64.wrap (t190)))))) - (IntKind.u64.wrap ((IntKind.u64.wrap (Int.tdiv (Go.bits .or .u64 (shl .u64 a0 (IntKind.u64.wrap (t190))) (shr .u64 a1 (IntKind.u64.wrap (64 - (IntKind.u64.wrap (t190)))))) ((shl .u64 a2 (IntKind.u64.wrap (t190))) / 4294967296))) * ((shl .u64 a2 (IntKind.u64.wrap (t190))) / 4294967296))))))) else (none)) else (none)))))
theorem bits_Div64.mono_l : ∀ k, (∀ y0 y1 y2 y3 y4 y5 y6 y7, LeO (bits_Div64.j2 k y0 y1 y2 y3 y4 y5 y6 y7) (bits_Div64.j2 (k + 1) y0 y1 y2 y3 y4 y5 y6 y7)) ∧ (∀ y0 y1 y2 y3 y4 y5 y6 y7 y8, LeO (bits_Div64.l1 k y0 y1 y2 y3 y4 y5 y6 y7 y8) (bits_Div64.l1 (k + 1) y0 y1 y2 y3 y4 y5 y6 y7 y8)) ∧ (∀ y0 y1 y2 y3 y4 y5 y6 y7 y8 y9, LeO (bits_Div64.j4 k y0 y1 y2 y3 y4 y5 y6 y7 y8 y9) (bits_Div64.j4 (k + 1) y0 y1 y2 y3 y4 y5 y6 y7 y8 y9)) ∧ (∀ y0 y1 y2 y3 y4 y5 y6 y7 y8, LeO (bits_Div64.l0 k y0 y1 y2 y3 y4 y5 y6 y7 y8) (bits_Div64.l0 (k + 1) y0 y1 y2 y3 y4 y5 y6 y7 y8)) ∧ (∀ y0 y1 y2 y3 y4 y5 y6 y7 y8 y9, LeO (bits_Div64.j1 k y0 y1 y2 y3 y4 y5 y6 y7 y8 y9) (bits_Div64.j1 (k + 1) y0 y1 y2 y3 y4 y5 y6 y7 y8 y9))
  | 0 => ⟨fun _ _ _ _ _ _ _ _ r h => by simp [bits_Div64.j2] at h, fun _ _ _ _ _ _ _ _ _ r h => by simp [bits_Div64.l1] at h, fun _ _ _ _ _ _ _ _ _ _ r h => by simp [bits_Div64.j4] at h, fun _ _ _ _ _ _ _ _ _ r h => by simp [bits_Div64.l0] at h, fun _ _ _ _ _ _ _ _ _ _ r h => by simp [bits_Div64.j1] at h⟩
  | k + 1 => by
    obtain ⟨ih0, ih1, ih2, ih3, ih4⟩ := bits_Div64.mono_l k
    refine ⟨?_, ?_, ?_, ?_, ?_⟩
    · intro y0 y1 y2 y3 y4 y5 y6 y7
      unfold bits_Div64.j2
      repeat' first
      | (with_reducible exact ih0 _ _ _ _ _ _ _ _)
      | (with_reducible exact ih1 _ _ _ _ _ _ _ _ _)
      | (with_reducible exact ih2 _ _ _ _ _ _ _ _ _ _)
      | (with_reducible exact ih3 _ _ _ _ _ _ _ _ _)
      | (with_reducible exact ih4 _ _ _ _ _ _ _ _ _ _)
      | (with_reducible exact LeO.refl _)
      | (with_reducible exact LeO.none _)
      | (with_reducible refine LeO.ite ?_ ?_)
      | (with_reducible refine LeO.bind ?_ (fun _ => ?_))
      | exact ih0 _ _ _ _ _ _ _ _
      | exact ih1 _ _ _ _ _ _ _ _ _
      | exact ih2 _ _ _ _ _ _ _ _ _ _
      | exact ih3 _ _ _ _ _ _ _ _ _
      | exact ih4 _ _ _ _ _ _ _ _ _ _
      | exact LeO.none _
      | refine LeO.ite ?_ ?_
      | refine LeO.bind ?_ (fun _ => ?_)
    · intro y0 y1 y2 y3 y4 y5 y6 y7 y8
      unfold bits_Div64.l1
      repeat' first
      | (with_reducible exact ih0 _ _ _ _ _ _ _ _)
      | (with_reducible exact ih1 _ _ _ _ _ _ _ _ _)
      | (with_reducible exact ih2 _ _ _ _ _ _ _ _ _ _)
      | (with_reducible exact ih3 _ _ _ _ _ _ _ _ _)
      | (with_reducible exact ih4 _ _ _ _ _ _ _ _ _ _)
      | (with_reducible exact LeO.refl _)
      | (with_reducible exact LeO.none _)
      | (with_reducible refine LeO.ite ?_ ?_)
      | (with_reducible refine LeO.bind ?_ (fun _ => ?_))
      | exact ih0 _ _ _ _ _ _ _ _
      | exact ih1 _ _ _ _ _ _ _ _ _
      | exact ih2 _ _ _ _ _ _ _ _ _ _
      | exact ih3 _ _ _ _ _ _ _ _ _
      | exact ih4 _ _ _ _ _ _ _ _ _ _
      | exact LeO.none _
      | refine LeO.ite ?_ ?_
      | refine LeO.bind ?_ (fun _ => ?_)
    · intro y0 y1 y2 y3 y4 y5 y6 y7 y8 y9
      unfold bits_Div64.j4
      repeat' first
      | (with_reducible exact ih0 _ _ _ _ _ _ _ _)
      | (with_reducible exact ih1 _ _ _ _ _ _ _ _ _)
      | (with_reducible exact ih2 _ _ _ _ _ _ _ _ _ _)
      | (with_reducible exact ih3 _ _ _ _ _ _ _ _ _)
      | (with_reducible exact ih4 _ _ _ _ _ _ _ _ _ _)
      | (with_reducible exact LeO.refl _)
      | (with_reducible exact LeO.none _)
      | (with_reducible refine LeO.ite ?_ ?_)
      | (with_reducible refine LeO.bind ?_ (fun _ => ?_))
      | exact ih0 _ _ _ _ _ _ _ _
      | exact ih1 _ _ _ _ _ _ _ _ _
      | exact ih2 _ _ _ _ _ _ _ _ _ _
      | exact ih3 _ _ _ _ _ _ _ _ _
      | exact ih4 _ _ _ _ _ _ _ _ _ _
      | exact LeO.none _
      | refine LeO.ite ?_ ?_
      | refine LeO.bind ?_ (fun _ => ?_)
    · intro y0 y1 y2 y3 y4 y5 y6 y7 y8
      unfold bits_Div64.l0
      repeat' first
      | (with_reducible exact ih0 _ _ _ _ _ _ _ _)
      | (with_reducible exact ih1 _ _ _ _ _ _ _ _ _)
      | (with_reducible exact ih2 _ _ _ _ _ _ _ _ _ _)
      | (with_reducible exact ih3 _ _ _ _ _ _ _ _ _)
      | (with_reducible exact ih4 _ _ _ _ _ _ _ _ _ _)
      | (with_reducible exact LeO.refl _)
      | (with_reducible exact LeO.none _)
      | (with_reducible refine LeO.ite ?_ ?_)
      | (with_reducible refine LeO.bind ?_ (fun _ => ?_))
      | exact ih0 _ _ _ _ _ _ _ _
      | exact ih1 _ _ _ _ _ _ _ _ _
      | exact ih2 _ _ _ _ _ _ _ _ _ _
      | exact ih3 _ _ _ _ _ _ _ _ _
      | exact ih4 _ _ _ _ _ _ _ _ _ _
      | exact LeO.none _
      | refine LeO.ite ?_ ?_
      | refine LeO.bind ?_ (fun _ => ?_)
    · intro y0 y1 y2 y3 y4 y5 y6 y7 y8 y9
      unfold bits_Div64.j1
      repeat' first
      | (with_reducible exact ih0 _ _ _ _ _ _ _ _)
      | (with_reducible exact ih1 _ _ _ _ _ _ _ _ _)
      | (with_reducible exact ih2 _ _ _ _ _ _ _ _ _ _)
      | (with_reducible exact ih3 _ _ _ _ _ _ _ _ _)
      | (with_reducible exact ih4 _ _ _ _ _ _ _ _ _ _)
      | (with_reducible exact LeO.refl _)
      | (with_reducible exact LeO.none _)
      | (with_reducible refine LeO.ite ?_ ?_)
      | (with_reducible refine LeO.bind ?_ (fun _ => ?_))
      | exact ih0 _ _ _ _ _ _ _ _
      | exact ih1 _ _ _ _ _ _ _ _ _
      | exact ih2 _ _ _ _ _ _ _ _ _ _
      | exact ih3 _ _ _ _ _ _ _ _ _
      | exact ih4 _ _ _ _ _ _ _ _ _ _
      | exact LeO.none _
      | refine LeO.ite ?_ ?_
      | refine LeO.bind ?_ (fun _ => ?_)
theorem bits_Div64.mono : ∀ a0 a1 a2 k, LeO (bits_Div64.f k a0 a1 a2) (bits_Div64.f (k + 1) a0 a1 a2) := by
  intro a0 a1 a2 k
  obtain ⟨ih0, ih1, ih2, ih3, ih4⟩ := bits_Div64.mono_l k
  unfold bits_Div64.f
  repeat' first
      | (with_reducible exact ih0 _ _ _ _ _ _ _ _)
      | (with_reducible exact ih1 _ _ _ _ _ _ _ _ _)
      | (with_reducible exact ih2 _ _ _ _ _ _ _ _ _ _)
      | (with_reducible exact ih3 _ _ _ _ _ _ _ _ _)
      | (with_reducible exact ih4 _ _ _ _ _ _ _ _ _ _)
      | (with_reducible exact LeO.refl _)
      | (with_reducible exact LeO.none _)
      | (with_reducible refine LeO.ite ?_ ?_)
      | (with_reducible refine LeO.bind ?_ (fun _ => ?_))
      | exact ih0 _ _ _ _ _ _ _ _
      | exact ih1 _ _ _ _ _ _ _ _ _
      | exact ih2 _ _ _ _ _ _ _ _ _ _
      | exact ih3 _ _ _ _ _ _ _ _ _
      | exact ih4 _ _ _ _ _ _ _ _ _ _
      | exact LeO.none _
      | refine LeO.ite ?_ ?_
      | refine LeO.bind ?_ (fun _ => ?_)
set_option maxHeartbeats 8000000 in
set_option maxRecDepth 100000 in
theorem bits_Div64.calls (k : Nat) (a0 : Int) (a1 : Int) (a2 : Int) (r1 : Int) (r2 : Int) (w : World) (h : bits_Div64.f k a0 a1 a2 = some (r1, r2)) :
    Calls Try.prog 99 #[.int .u64 a0, .int .u64 a1, .int .u64 a2] w fun e w' => e = .returned (.tuple #[.int .u64 r1, .int .u64 r2]) ∧ Drawn0 w w' := by
  have H : (if a2 = 0 then (none) else (if a2 ≤ a0 then (none) else (if a0 = 0 then (some (IntKind.u64.wrap (Int.tdiv a1 a2), Int.tmod a1 a2)) else ((bits_LeadingZeros64.f a2).bind fun t190 => (if 0 ≤ (IntKind.u64.wrap (t190)) then (if 0 ≤ (IntKind.u64.wrap (64 - (IntKind.u64.wrap (t190)))) then (if ((shl .u64 a2 (IntKind.u64.wrap (t190))) / 4294967296) = 0 then (none) else (bits_Div64.l0 k (shl .u64 a2 (IntKind.u64.wrap (t190))) (IntKind.u64.wrap (t190)) ((shl .u64 a2 (IntKind.u64.wrap (t190))) / 4294967296) (Go.bits .and .u64 (shl .u64 a2 (IntKind.u64.wrap (t190))) 4294967295) (Go.bits .or .u64 (shl .u64 a0 (IntKind.u64.wrap (t190))) (shr .u64 a1 (IntKind.u64.wrap (64 - (IntKind.u64.wrap (t190)))))) ((shl .u64 a1 (IntKind.u64.wrap (t190))) / 4294967296) (Go.bits .and .u64 (shl .u64 a1 (IntKind.u64.wrap (t190))) 4294967295) (IntKind.u64.wrap (Int.tdiv (Go.bits .or .u64 (shl .u64 a0 (IntKind.u64.wrap (t190))) (shr .u64 a1 (IntKind.u64.wrap (64 - (IntKind.u64.wrap (t190)))))) ((shl .u64 a2 (IntKind.u64.wrap (t190))) / 4294967296))) (IntKind.u64.wrap ((Go.bits .or .u64 (shl .u64 a0 (IntKind.u64.wrap (t190))) (shr .u64 a1 (IntKind.u64.wrap (64 - (IntKind.u64.wrap (t190)))))) - (IntKind.u64.wrap ((IntKind.u64.wrap (Int.tdiv (Go.bits .or .u64 (shl .u64 a0 (IntKind.u64.wrap (t190))) (shr .u64 a1 (IntKind.u64.wrap (64 - (IntKind.u64.wrap (t190)))))) ((shl .u64 a2 (IntKind.u64.wrap (t190))) / 4294967296))) * ((shl .u64 a2 (IntKind.u64.wrap (t190))) / 4294967296))))))) else (none)) else (none)))))) = some (r1, r2) := h
  clear h
  by_cases c4 : a2 = 0
  · rw [if_pos c4] at H
    exact absurd H (by simp)
  · rw [if_neg c4] at H
    have c4b0 : (a2 == 0) = false := beq_eq_false_iff_ne.mpr c4
    have c4b1 : (a2 != 0) = true := bne_iff_ne.mpr c4
    by_cases c5 : a2 ≤ a0
    · rw [if_pos c5] at H
      exact absurd H (by simp)
    · rw [if_neg c5] at H
      have c5b0 : decide (a2 ≤ a0) = false := decide_eq_false c5
      clear c5
      by_cases c6 : a0 = 0
      · rw [if_pos c6] at H
        have c6b0 : (a0 == 0) = true := beq_iff_eq.mpr c6
        have c6b1 : (a0 != 0) = false := bne_eq_false_iff_eq.mpr c6
        clear c6
        simp only [Option.some.injEq, Prod.mk.injEq] at H
        obtain ⟨rfl, rfl⟩ := H
        go_enter Try.func99, Try.ntmps99
        go_wp2
        repeat (go_quiet (fail); try go_wp2)
        go_ret2
        exact ⟨by first | rfl | (simp; done) | (simp [*]; done), by repeat (first | exact Drawn0.refl _ | apply Drawn0.step)⟩
      · rw [if_neg c6] at H
        have c6b0 : (a0 == 0) = false := beq_eq_false_iff_ne.mpr c6
        have c6b1 : (a0 != 0) = true := bne_iff_ne.mpr c6
        replace H := Option.bind_eq_some_iff.mp H
        obtain ⟨t190, A70, H⟩ := H
        replace H : (if 0 ≤ (IntKind.u64.wrap (t190)) then (if 0 ≤ (IntKind.u64.wrap (64 - (IntKind.u64.wrap (t190)))) then (if ((shl .u64 a2 (IntKind.u64.wrap (t190))) / 4294967296) = 0 then (none) else (bits_Div64.l0 k (shl .u64 a2 (IntKind.u64.wrap (t190))) (IntKind.u64.wrap (t190)) ((shl .u64 a2 (IntKind.u64.wrap (t190))) / 4294967296) (Go.bits .and .u64 (shl .u64 a2 (IntKind.u64.wrap (t190))) 4294967295) (Go.bits .or .u64 (shl .u64 a0 (IntKind.u64.wrap (t190))) (shr .u64 a1 (IntKind.u64.wrap (64 - (IntKind.u64.wrap (t190)))))) ((shl .u64 a1 (IntKind.u64.wrap (t190))) / 4294967296) (Go.bits .and .u64 (shl .u64 a1 (IntKind.u64.wrap (t190))) 4294967295) (IntKind.u64.wrap (Int.tdiv (Go.bits .or .u64 (shl .u64 a0 (IntKind.u64.wrap (t190))) (shr .u64 a1 (IntKind.u64.wrap (64 - (IntKind.u64.wrap (t190)))))) ((shl .u64 a2 (IntKind.u64.wrap (t190))) / 4294967296))) (IntKind.u64.wrap ((Go.bits .or .u64 (shl .u64 a0 (IntKind.u64.wrap (t190))) (shr .u64 a1 (IntKind.u64.wrap (64 - (IntKind.u64.wrap (t190)))))) - (IntKind.u64.wrap ((IntKind.u64.wrap (Int.tdiv (Go.bits .or .u64 (shl .u64 a0 (IntKind.u64.wrap (t190))) (shr .u64 a1 (IntKind.u64.wrap (64 - (IntKind.u64.wrap (t190)))))) ((shl .u64 a2 (IntKind.u64.wrap (t190))) / 4294967296))) * ((shl .u64 a2 (IntKind.u64.wrap (t190))) / 4294967296))))))) else (none)) else (none)) = some (r1, r2) := H
        have A7 := Aside0.mk A70
        clear A70
        obtain ⟨ji8, hji8⟩ : ∃ j_ : Int, (IntKind.u64.wrap (t190)) = j_ := ⟨_, rfl⟩
        replace H : (if 0 ≤ (ji8) then (if 0 ≤ (IntKind.u64.wrap (64 - (ji8))) then (if ((shl .u64 a2 (ji8)) / 4294967296) = 0 then (none) else (bits_Div64.l0 k (shl .u64 a2 (ji8)) ji8 ((shl .u64 a2 (ji8)) / 4294967296) (Go.bits .and .u64 (shl .u64 a2 (ji8)) 4294967295) (Go.bits .or .u64 (shl .u64 a0 (ji8)) (shr .u64 a1 (IntKind.u64.wrap (64 - (ji8))))) ((shl .u64 a1 (ji8)) / 4294967296) (Go.bits .and .u64 (shl .u64 a1 (ji8)) 4294967295) (IntKind.u64.wrap (Int.tdiv (Go.bits .or .u64 (shl .u64 a0 (ji8)) (shr .u64 a1 (IntKind.u64.wrap (64 - (ji8))))) ((shl .u64 a2 (ji8)) / 4294967296))) (IntKind.u64.wrap ((Go.bits .or .u64 (shl .u64 a0 (ji8)) (shr .u64 a1 (IntKind.u64.wrap (64 - (ji8))))) - (IntKind.u64.wrap ((IntKind.u64.wrap (Int.tdiv (Go.bits .or .u64 (shl .u64 a0 (ji8)) (shr .u64 a1 (IntKind.u64.wrap (64 - (ji8))))) ((shl .u64 a2 (ji8)) / 4294967296))) * ((shl .u64 a2 (ji8)) / 4294967296))))))) else (none)) else (none)) = some (r1, r2) := by first | (rw [hji8] at H; exact H) | (simp only [hji8] at H ⊢; exact H)
        (try rw [hji8] at A7)
        by_cases c9 : 0 ≤ (ji8)
        · rw [if_pos c9] at H
          have c9b0 := eq_true c9
          have c9b1 : decide (0 ≤ (ji8)) = true := decide_eq_true c9
          clear c9
          obtain ⟨ji10, hji10⟩ : ∃ j_ : Int, (shl .u64 a2 (ji8)) = j_ := ⟨_, rfl⟩
          replace H : (if 0 ≤ (IntKind.u64.wrap (64 - (ji8))) then (if ((ji10) / 4294967296) = 0 then (none) else (bits_Div64.l0 k ji10 ji8 ((ji10) / 4294967296) (Go.bits .and .u64 (ji10) 4294967295) (Go.bits .or .u64 (shl .u64 a0 (ji8)) (shr .u64 a1 (IntKind.u64.wrap (64 - (ji8))))) ((shl .u64 a1 (ji8)) / 4294967296) (Go.bits .and .u64 (shl .u64 a1 (ji8)) 4294967295) (IntKind.u64.wrap (Int.tdiv (Go.bits .or .u64 (shl .u64 a0 (ji8)) (shr .u64 a1 (IntKind.u64.wrap (64 - (ji8))))) ((ji10) / 4294967296))) (IntKind.u64.wrap ((Go.bits .or .u64 (shl .u64 a0 (ji8)) (shr .u64 a1 (IntKind.u64.wrap (64 - (ji8))))) - (IntKind.u64.wrap ((IntKind.u64.wrap (Int.tdiv (Go.bits .or .u64 (shl .u64 a0 (ji8)) (shr .u64 a1 (IntKind.u64.wrap (64 - (ji8))))) ((ji10) / 4294967296))) * ((ji10) / 4294967296))))))) else (none)) = some (r1, r2) := by first | (rw [hji10] at H; exact H) | (simp only [hji10] at H ⊢; exact H)
          (try rw [hji10] at A7)
          have hji10_ : (IntKind.u64.wrap (a2 * 2 ^ min (ji8).toNat 64)) = ji10 := hji10
          have hji10z : (ji8) ≤ 64 → (IntKind.u64.wrap (a2 * 2 ^ (ji8).toNat)) = ji10 := shl_small hji10
          have c11b0 := eq_true (of_decide_eq_true as_ : 0 ≤ (ji8))
          obtain ⟨ji12, hji12⟩ : ∃ j_ : Int, (shl .u64 a0 (ji8)) = j_ := ⟨_, rfl⟩
          replace H : (if 0 ≤ (IntKind.u64.wrap (64 - (ji8))) then (if ((ji10) / 4294967296) = 0 then (none) else (bits_Div64.l0 k ji10 ji8 ((ji10) / 4294967296) (Go.bits .and .u64 (ji10) 4294967295) (Go.bits .or .u64 (ji12) (shr .u64 a1 (IntKind.u64.wrap (64 - (ji8))))) ((shl .u64 a1 (ji8)) / 4294967296) (Go.bits .and .u64 (shl .u64 a1 (ji8)) 4294967295) (IntKind.u64.wrap (Int.tdiv (Go.bits .or .u64 (ji12) (shr .u64 a1 (IntKind.u64.wrap (64 - (ji8))))) ((ji10) / 4294967296))) (IntKind.u64.wrap ((Go.bits .or .u64 (ji12) (shr .u64 a1 (IntKind.u64.wrap (64 - (ji8))))) - (IntKind.u64.wrap ((IntKind.u64.wrap (Int.tdiv (Go.bits .or .u64 (ji12) (shr .u64 a1 (IntKind.u64.wrap (64 - (ji8))))) ((ji10) / 4294967296))) * ((ji10) / 4294967296))))))) else (none)) = some (r1, r2) := by first | (rw [hji12] at H; exact H) | (simp only [hji12] at H ⊢; exact H)
          (try rw [hji12] at A7)
          have hji12_ : (IntKind.u64.wrap (a0 * 2 ^ min (ji8).toNat 64)) = ji12 := hji12
          have hji12z : (ji8) ≤ 64 → (IntKind.u64.wrap (a0 * 2 ^ (ji8).toNat)) = ji12 := shl_small hji12
          obtain ⟨ji13, hji13⟩ : ∃ j_ : Int, (IntKind.u64.wrap (64 - (ji8))) = j_ := ⟨_, rfl⟩
          replace H : (if 0 ≤ (ji13) then (if ((ji10) / 4294967296) = 0 then (none) else (bits_Div64.l0 k ji10 ji8 ((ji10) / 4294967296) (Go.bits .and .u64 (ji10) 4294967295) (Go.bits .or .u64 (ji12) (shr .u64 a1 (ji13))) ((shl .u64 a1 (ji8)) / 4294967296) (Go.bits .and .u64 (shl .u64 a1 (ji8)) 4294967295) (IntKind.u64.wrap (Int.tdiv (Go.bits .or .u64 (ji12) (shr .u64 a1 (ji13))) ((ji10) / 4294967296))) (IntKind.u64.wrap ((Go.bits .or .u64 (ji12) (shr .u64 a1 (ji13))) - (IntKind.u64.wrap ((IntKind.u64.wrap (Int.tdiv (Go.bits .or .u64 (ji12) (shr .u64 a1 (ji13))) ((ji10) / 4294967296))) * ((ji10) / 4294967296))))))) else (none)) = some (r1, r2) := by first | (rw [hji13] at H; exact H) | (simp only [hji13] at H ⊢; exact H)
          (try rw [hji13] at A7)
          by_cases c14 : 0 ≤ (ji13)
          · rw [if_pos c14] at H
            have c14b0 := eq_true c14
            have c14b1 : decide (0 ≤ (ji13)) = true := decide_eq_true c14
            clear c14
            obtain ⟨ji15, hji15⟩ : ∃ j_ : Int, (shr .u64 a1 (ji13)) = j_ := ⟨_, rfl⟩
            replace H : (if ((ji10) / 4294967296) = 0 then (none) else (bits_Div64.l0 k ji10 ji8 ((ji10) / 4294967296) (Go.bits .and .u64 (ji10) 4294967295) (Go.bits .or .u64 (ji12) (ji15)) ((shl .u64 a1 (ji8)) / 4294967296) (Go.bits .and .u64 (shl .u64 a1 (ji8)) 4294967295) (IntKind.u64.wrap (Int.tdiv (Go.bits .or .u64 (ji12) (ji15)) ((ji10) / 4294967296))) (IntKind.u64.wrap ((Go.bits .or .u64 (ji12) (ji15)) - (IntKind.u64.wrap ((IntKind.u64.wrap (Int.tdiv (Go.bits .or .u64 (ji12) (ji15)) ((ji10) / 4294967296))) * ((ji10) / 4294967296))))))) = some (r1, r2) := by first | (rw [hji15] at H; exact H) | (simp only [hji15] at H ⊢; exact H)
            (try rw [hji15] at A7)
            have hji15_ : (a1 / 2 ^ min (ji13).toNat 64) = ji15 := hji15
            have hji15z : (ji13) ≤ 64 → (a1 / 2 ^ (ji13).toNat) = ji15 := shr_small hji15
            have c16b0 := eq_true (of_decide_eq_true as_ : 0 ≤ (ji8))
            obtain ⟨ji17, hji17⟩ : ∃ j_ : Int, (shl .u64 a1 (ji8)) = j_ := ⟨_, rfl⟩
            replace H : (if ((ji10) / 4294967296) = 0 then (none) else (bits_Div64.l0 k ji10 ji8 ((ji10) / 4294967296) (Go.bits .and .u64 (ji10) 4294967295) (Go.bits .or .u64 (ji12) (ji15)) ((ji17) / 4294967296) (Go.bits .and .u64 (ji17) 4294967295) (IntKind.u64.wrap (Int.tdiv (Go.bits .or .u64 (ji12) (ji15)) ((ji10) / 4294967296))) (IntKind.u64.wrap ((Go.bits .or .u64 (ji12) (ji15)) - (IntKind.u64.wrap ((IntKind.u64.wrap (Int.tdiv (Go.bits .or .u64 (ji12) (ji15)) ((ji10) / 4294967296))) * ((ji10) / 4294967296))))))) = some (r1, r2) := by first | (rw [hji17] at H; exact H) | (simp only [hji17] at H ⊢; exact H)
            (try rw [hji17] at A7)
            have hji17_ : (IntKind.u64.wrap (a1 * 2 ^ min (ji8).toNat 64)) = ji17 := hji17
            have hji17z : (ji8) ≤ 64 → (IntKind.u64.wrap (a1 * 2 ^ (ji8).toNat)) = ji17 := shl_small hji17
            by_cases c18 : ((ji10) / 4294967296) = 0
            · rw [if_pos c18] at H
              exact absurd H (by simp)
            · rw [if_neg c18] at H
              have c18b0 : (((ji10) / 4294967296) == 0) = false := beq_eq_false_iff_ne.mpr c18
              have c18b1 : (((ji10) / 4294967296) != 0) = true := bne_iff_ne.mpr c18
              have HC19 := Aside0.mk H
              clear H
              go_enter Try.func99, Try.ntmps99
              go_upto_block 0 with (first | (go_at_call 51; (with_reducible refine (bits_LeadingZeros64.calls a2 t190 _ A7.out).mono ?_); rintro e w' ⟨rfl, ⟨nd, rfl⟩⟩; (try first | exact ⟨rfl, _, World.drewN_drewN _ _ _⟩ | exact ⟨rfl, _, Eq.trans (World.drewN_drewN _ _ _) (congrArg (World.drewN _) (Nat.add_assoc _ _ _))⟩)))
              repeat (go_quiet (first | (go_at_call 51; (with_reducible refine (bits_LeadingZeros64.calls a2 t190 _ A7.out).mono ?_); rintro e w' ⟨rfl, ⟨nd, rfl⟩⟩; (try first | exact ⟨rfl, _, World.drewN_drewN _ _ _⟩ | exact ⟨rfl, _, Eq.trans (World.drewN_drewN _ _ _) (congrArg (World.drewN _) (Nat.add_assoc _ _ _))⟩))); go_upto_block 0 with (first | (go_at_call 51; (with_reducible refine (bits_LeadingZeros64.calls a2 t190 _ A7.out).mono ?_); rintro e w' ⟨rfl, ⟨nd, rfl⟩⟩; (try first | exact ⟨rfl, _, World.drewN_drewN _ _ _⟩ | exact ⟨rfl, _, Eq.trans (World.drewN_drewN _ _ _) (congrArg (World.drewN _) (Nat.add_assoc _ _ _))⟩))))
              (try simp only [Act.put, List.setIfInBounds_toArray, List.set_cons_zero, List.set_cons_succ])
              go_cut [15] (fun v15 wc => ∃ (kq : Nat) (x15_18 : Int), v15 = .int .u64 x15_18 ∧ Aside0 (bits_Div64.j2 kq ji10 ji8 ((ji10) / 4294967296) (Go.bits .and .u64 (ji10) 4294967295) (Go.bits .or .u64 (ji12) (ji15)) ((ji17) / 4294967296) (Go.bits .and .u64 (ji17) 4294967295) x15_18 = some (r1, r2)) ∧ Aside0 (kq ≤ k) ∧ Drawn0 w wc)
              case first =>
                have H := HC19.out
                clear HC19
                have H' := Aside0.mk H
                clear H
                go_wp2
                repeat (go_quiet (fail); try go_wp2)
                go_loopg [15, 16] k (fun kq v15 v16 w' => ∃ (x15_1 : Int) (x16_1 : Int), v15 = .int .u64 x15_1 ∧ v16 = .int .u64 x16_1 ∧ Aside0 (bits_Div64.l0 kq ji10 ji8 ((ji10) / 4294967296) (Go.bits .and .u64 (ji10) 4294967295) (Go.bits .or .u64 (ji12) (ji15)) ((ji17) / 4294967296) (Go.bits .and .u64 (ji17) 4294967295) x15_1 x16_1 = some (r1, r2)) ∧ Aside0 (kq ≤ k) ∧ Drawn0 w w')
                case atStart => exact ⟨(IntKind.u64.wrap (Int.tdiv (Go.bits .or .u64 (ji12) (ji15)) ((ji10) / 4294967296))), (IntKind.u64.wrap ((Go.bits .or .u64 (ji12) (ji15)) - (IntKind.u64.wrap ((IntKind.u64.wrap (Int.tdiv (Go.bits .or .u64 (ji12) (ji15)) ((ji10) / 4294967296))) * ((ji10) / 4294967296))))), (by first | rfl | (simp; done) | (simp only [← hji10, ← hji12, ← hji15] <;> (first | rfl | simp)) | (simp [*]; done)), (by first | rfl | (simp; done) | (simp only [← hji10, ← hji12, ← hji15] <;> (first | rfl | simp)) | (simp [*]; done)), H', ⟨Nat.le_refl _⟩, by repeat (first | exact Drawn0.refl _ | apply Drawn0.step)⟩
                case round =>
                  clear H'
                  try clear c1
                  try clear p2
                  try clear c4
                  try clear c4b0
                  try clear c4b1
                  try clear c5
                  try clear c5b0
                  try clear c6
                  try clear c6b0
                  try clear c6b1
                  try clear c9
                  try clear c9b0
                  try clear c9b1
                  try clear c11
                  try clear c11b0
                  try clear c14
                  try clear c14b0
                  try clear c14b1
                  try clear c16
                  try clear c16b0
                  try clear c18
                  try clear c18b0
                  try clear c18b1
                  obtain ⟨x15_1, x16_1, rfl, rfl, HA, HK1, ⟨m1, rfl⟩⟩ := hrel
                  cases gk with
                  | zero => exact absurd HA.out (by simp [bits_Div64.l0])
                  | succ k1 =>
                    have H := HA.out
                    clear HA
                    simp only [bits_Div64.l0] at H
                    have HC20 := Aside0.mk H
                    clear H
                    go_upto_region 17 with (fail)
                    repeat (go_quiet (fail); go_upto_region 17 with (fail))
                    go_cut [78] (fun v78 wc => ∃ (kq : Nat) (x78_19 : Bool), v78 = .bool x78_19 ∧ Aside0 (bits_Div64.j1 kq ji10 ji8 ((ji10) / 4294967296) (Go.bits .and .u64 (ji10) 4294967295) (Go.bits .or .u64 (ji12) (ji15)) ((ji17) / 4294967296) (Go.bits .and .u64 (ji17) 4294967295) x15_1 x16_1 x78_19 = some (r1, r2)) ∧ Aside0 (kq ≤ k1) ∧ Drawn0 w wc)
                    case first =>
                      have H := HC20.out
                      clear HC20
                      by_cases c21 : x15_1 ≥ 4294967296
                      · rw [if_pos c21] at H
                        have c21b0 : decide (4294967296 ≤ x15_1) = true := decide_eq_true c21
                        clear c21
                        (first | rw [c21b0] | (simp only [i64_w, i32_w]; rw [c21b0]) | skip)
                        have H' := Aside0.mk H
                        clear H
                        go_wp2
                        repeat (go_quiet (fail); try go_wp2)
                        go_meet
                        case rel => exact ⟨_, (true), (by first | rfl | (simp; done) | (simp [*]; done)), H', ⟨by have := HK1.out; first | omega | exact Nat.le_refl _⟩, by repeat (first | exact Drawn0.refl _ | apply Drawn0.step)⟩
                      · rw [if_neg c21] at H
                        have c21b0 : decide (4294967296 ≤ x15_1) = false := decide_eq_false c21
                        clear c21
                        (first | rw [c21b0] | (simp only [i64_w, i32_w]; rw [c21b0]) | skip)
                        have H' := Aside0.mk H
                        clear H
                        go_wp2
                        repeat (go_quiet (fail); try go_wp2)
                        go_meet
                        case rel => exact ⟨_, (decide ((IntKind.u64.wrap (x15_1 * (Go.bits .and .u64 (ji10) 4294967295))) > (IntKind.u64.wrap ((IntKind.u64.wrap (4294967296 * x16_1)) + ((ji17) / 4294967296))))), (by first | rfl | (simp; done) | (simp only [← hji10, ← hji17] <;> (first | rfl | simp)) | (simp [*]; done)), H', ⟨by have := HK1.out; first | omega | exact Nat.le_refl _⟩, by repeat (first | exact Drawn0.refl _ | apply Drawn0.step)⟩
                    case rest =>
                      clear HC20
                      try clear c1
                      try clear c2
                      try clear p2
                      try clear c4
                      try clear c4b0
                      try clear c4b1
                      try clear c5
                      try clear c5b0
                      try clear c6
                      try clear c6b0
                      try clear c6b1
                      try clear c9
                      try clear c9b0
                      try clear c9b1
                      try clear c11
                      try clear c11b0
                      try clear c14
                      try clear c14b0
                      try clear c14b1
                      try clear c16
                      try clear c16b0
                      try clear c18
                      try clear c18b0
                      try clear c18b1
                      try clear c21
                      try clear c21b0
                      try clear p2
                      obtain ⟨kq, x78_19, rfl, HA, HJ19, ⟨mc19, rfl⟩⟩ := hcut
                      cases kq with
                      | zero => exact absurd HA.out (by simp [bits_Div64.j1])
                      | succ kj19 =>
                        have H := HA.out
                        clear HA
                        simp only [bits_Div64.j1] at H
                        by_cases c22 : x78_19 = true
                        · subst c22
                          have H1 : (if (IntKind.u64.wrap (x16_1 + ((ji10) / 4294967296))) ≥ 4294967296 then (bits_Div64.j2 kj19 ji10 ji8 ((ji10) / 4294967296) (Go.bits .and .u64 (ji10) 4294967295) (Go.bits .or .u64 (ji12) (ji15)) ((ji17) / 4294967296) (Go.bits .and .u64 (ji17) 4294967295) (IntKind.u64.wrap (x15_1 - 1))) else (bits_Div64.l0 kj19 ji10 ji8 ((ji10) / 4294967296) (Go.bits .and .u64 (ji10) 4294967295) (Go.bits .or .u64 (ji12) (ji15)) ((ji17) / 4294967296) (Go.bits .and .u64 (ji17) 4294967295) (IntKind.u64.wrap (x15_1 - 1)) (IntKind.u64.wrap (x16_1 + ((ji10) / 4294967296))))) = some (r1, r2) := by rw [if_pos rfl] at H; exact H
                          clear H
                          have H := H1
                          clear H1
                          by_cases c23 : (IntKind.u64.wrap (x16_1 + ((ji10) / 4294967296))) ≥ 4294967296
                          · rw [if_pos c23] at H
                            have c23b0 : decide (4294967296 ≤ (IntKind.u64.wrap (x16_1 + ((ji10) / 4294967296)))) = true := decide_eq_true c23
                            clear c23
                            have H' := Aside0.mk H
                            clear H
                            go_wp2
                            repeat (go_quiet (fail); try go_wp2)
                            go_meet
                            case rel => exact ⟨_, (IntKind.u64.wrap (x15_1 - 1)), (by first | rfl | (simp; done) | (simp [*]; done)), H', ⟨by have := HK1.out; have := HJ19.out; first | omega | exact Nat.le_refl _⟩, by repeat (first | exact Drawn0.refl _ | apply Drawn0.step)⟩
                          · rw [if_neg c23] at H
                            have c23b0 : decide (4294967296 ≤ (IntKind.u64.wrap (x16_1 + ((ji10) / 4294967296)))) = false := decide_eq_false c23
                            clear c23
                            have H' := Aside0.mk H
                            clear H
                            go_wp2
                            repeat (go_quiet (fail); try go_wp2)
                            go_roundg kj19
                            case measure => have := HK1.out; have := HJ19.out; omega
                            case rel => exact ⟨(IntKind.u64.wrap (x15_1 - 1)), (IntKind.u64.wrap (x16_1 + ((ji10) / 4294967296))), (by first | rfl | (simp; done) | (simp [*]; done)), (by first | rfl | (simp; done) | (simp only [← hji10] <;> (first | rfl | simp)) | (simp [*]; done)), H', ⟨by have := HK1.out; have := HJ19.out; omega⟩, by repeat (first | exact Drawn0.refl _ | apply Drawn0.step)⟩
                        · replace c22 := Bool.eq_false_iff.mpr c22
                          subst c22
                          have H1 : (bits_Div64.j2 kj19 ji10 ji8 ((ji10) / 4294967296) (Go.bits .and .u64 (ji10) 4294967295) (Go.bits .or .u64 (ji12) (ji15)) ((ji17) / 4294967296) (Go.bits .and .u64 (ji17) 4294967295) x15_1) = some (r1, r2) := by rw [if_neg (show ¬ (false = true) by decide)] at H; exact H
                          clear H
                          have H := H1
                          clear H1
                          have H' := Aside0.mk H
                          clear H
                          go_wp2
                          repeat (go_quiet (fail); try go_wp2)
                          go_meet
                          case rel => exact ⟨_, (x15_1), (by first | rfl | (simp; done) | (simp [*]; done)), H', ⟨by have := HK1.out; have := HJ19.out; first | omega | exact Nat.le_refl _⟩, by repeat (first | exact Drawn0.refl _ | apply Drawn0.step)⟩
              case rest =>
                clear HC19
                try clear c1
                try clear c2
                try clear p2
                try clear c4
                try clear c4b0
                try clear c4b1
                try clear c5
                try clear c5b0
                try clear c6
                try clear c6b0
                try clear c6b1
                try clear c9
                try clear c9b0
                try clear c9b1
                try clear c11
                try clear c11b0
                try clear c14
                try clear c14b0
                try clear c14b1
                try clear c16
                try clear c16b0
                try clear c18
                try clear c18b0
                try clear c18b1
                try clear c19
                try clear c21
                try clear c21b0
                try clear c22
                try clear c23
                try clear c23b0
                try clear p2
                obtain ⟨kq, x15_18, rfl, HA, HJ18, ⟨mc18, rfl⟩⟩ := hcut
                cases kq with
                | zero => exact absurd HA.out (by simp [bits_Div64.j2])
                | succ kj18 =>
                  have H := HA.out
                  clear HA
                  simp only [bits_Div64.j2] at H
                  by_cases c24 : ((ji10) / 4294967296) = 0
                  · rw [if_pos c24] at H
                    exact absurd H (by simp)
                  · rw [if_neg c24] at H
                    have c24b0 : (((ji10) / 4294967296) == 0) = false := beq_eq_false_iff_ne.mpr c24
                    have c24b1 : (((ji10) / 4294967296) != 0) = true := bne_iff_ne.mpr c24
                    have H' := Aside0.mk H
                    clear H
                    go_wp2
                    repeat (go_quiet (fail); try go_wp2)
                    go_loopg [16, 18] kj18 (fun kq v16 v18 w' => ∃ (x16_2 : Int) (x18_2 : Int), v16 = .int .u64 x16_2 ∧ v18 = .int .u64 x18_2 ∧ Aside0 (bits_Div64.l1 kq ji10 ji8 ((ji10) / 4294967296) (Go.bits .and .u64 (ji10) 4294967295) (Go.bits .and .u64 (ji17) 4294967295) x15_18 x16_2 (IntKind.u64.wrap ((IntKind.u64.wrap ((IntKind.u64.wrap ((Go.bits .or .u64 (ji12) (ji15)) * 4294967296)) + ((ji17) / 4294967296))) - (IntKind.u64.wrap (x15_18 * ji10)))) x18_2 = some (r1, r2)) ∧ Aside0 (kq ≤ kj18) ∧ Drawn0 w w')
                    case atStart => exact ⟨(IntKind.u64.wrap ((IntKind.u64.wrap ((IntKind.u64.wrap ((IntKind.u64.wrap ((Go.bits .or .u64 (ji12) (ji15)) * 4294967296)) + ((ji17) / 4294967296))) - (IntKind.u64.wrap (x15_18 * ji10)))) - (IntKind.u64.wrap ((IntKind.u64.wrap (Int.tdiv (IntKind.u64.wrap ((IntKind.u64.wrap ((IntKind.u64.wrap ((Go.bits .or .u64 (ji12) (ji15)) * 4294967296)) + ((ji17) / 4294967296))) - (IntKind.u64.wrap (x15_18 * ji10)))) ((ji10) / 4294967296))) * ((ji10) / 4294967296))))), (IntKind.u64.wrap (Int.tdiv (IntKind.u64.wrap ((IntKind.u64.wrap ((IntKind.u64.wrap ((Go.bits .or .u64 (ji12) (ji15)) * 4294967296)) + ((ji17) / 4294967296))) - (IntKind.u64.wrap (x15_18 * ji10)))) ((ji10) / 4294967296))), (by first | rfl | (simp; done) | (simp only [← hji10, ← hji12, ← hji15, ← hji17] <;> (first | rfl | simp)) | (simp [*]; done)), (by first | rfl | (simp; done) | (simp only [← hji10, ← hji12, ← hji15, ← hji17] <;> (first | rfl | simp)) | (simp [*]; done)), H', ⟨Nat.le_refl _⟩, by repeat (first | exact Drawn0.refl _ | apply Drawn0.step)⟩
                    case round =>
                      clear H'
                      try clear c1
                      try clear c2
                      try clear p2
                      try clear c4
                      try clear c4b0
                      try clear c4b1
                      try clear c5
                      try clear c5b0
                      try clear c6
                      try clear c6b0
                      try clear c6b1
                      try clear c9
                      try clear c9b0
                      try clear c9b1
                      try clear c11
                      try clear c11b0
                      try clear c14
                      try clear c14b0
                      try clear c14b1
                      try clear c16
                      try clear c16b0
                      try clear c18
                      try clear c18b0
                      try clear c18b1
                      try clear c19
                      try clear c21
                      try clear c21b0
                      try clear c22
                      try clear c23
                      try clear c23b0
                      try clear c24
                      try clear c24b0
                      try clear c24b1
                      try clear p2
                      obtain ⟨x16_2, x18_2, rfl, rfl, HA, HK2, ⟨m2, rfl⟩⟩ := hrel
                      cases gk with
                      | zero => exact absurd HA.out (by simp [bits_Div64.l1])
                      | succ k2 =>
                        have H := HA.out
                        clear HA
                        simp only [bits_Div64.l1] at H
                        have HC25 := Aside0.mk H
                        clear H
                        go_upto_region 24 with (fail)
                        repeat (go_quiet (fail); go_upto_region 24 with (fail))
                        go_cut [113] (fun v113 wc => ∃ (kq : Nat) (x113_24 : Bool), v113 = .bool x113_24 ∧ Aside0 (bits_Div64.j4 kq ji10 ji8 ((ji10) / 4294967296) (Go.bits .and .u64 (ji10) 4294967295) (Go.bits .and .u64 (ji17) 4294967295) x15_18 x16_2 (IntKind.u64.wrap ((IntKind.u64.wrap ((IntKind.u64.wrap ((Go.bits .or .u64 (ji12) (ji15)) * 4294967296)) + ((ji17) / 4294967296))) - (IntKind.u64.wrap (x15_18 * ji10)))) x18_2 x113_24 = some (r1, r2)) ∧ Aside0 (kq ≤ k2) ∧ Drawn0 w wc)
                        case first =>
                          have H := HC25.out
                          clear HC25
                          by_cases c26 : x18_2 ≥ 4294967296
                          · rw [if_pos c26] at H
                            have c26b0 : decide (4294967296 ≤ x18_2) = true := decide_eq_true c26
                            clear c26
                            (first | rw [c26b0] | (simp only [i64_w, i32_w]; rw [c26b0]) | skip)
                            have H' := Aside0.mk H
                            clear H
                            go_wp2
                            repeat (go_quiet (fail); try go_wp2)
                            go_meet
                            case rel => exact ⟨_, (true), (by first | rfl | (simp; done) | (simp [*]; done)), H', ⟨by have := HJ18.out; have := HK2.out; first | omega | exact Nat.le_refl _⟩, by repeat (first | exact Drawn0.refl _ | apply Drawn0.step)⟩
                          · rw [if_neg c26] at H
                            have c26b0 : decide (4294967296 ≤ x18_2) = false := decide_eq_false c26
                            clear c26
                            (first | rw [c26b0] | (simp only [i64_w, i32_w]; rw [c26b0]) | skip)
                            have H' := Aside0.mk H
                            clear H
                            go_wp2
                            repeat (go_quiet (fail); try go_wp2)
                            go_meet
                            case rel => exact ⟨_, (decide ((IntKind.u64.wrap (x18_2 * (Go.bits .and .u64 (ji10) 4294967295))) > (IntKind.u64.wrap ((IntKind.u64.wrap (4294967296 * x16_2)) + (Go.bits .and .u64 (ji17) 4294967295))))), (by first | rfl | (simp; done) | (simp only [← hji10, ← hji17] <;> (first | rfl | simp)) | (simp [*]; done)), H', ⟨by have := HJ18.out; have := HK2.out; first | omega | exact Nat.le_refl _⟩, by repeat (first | exact Drawn0.refl _ | apply Drawn0.step)⟩
                        case rest =>
                          clear HC25
                          try clear c1
                          try clear c2
                          try clear p2
                          try clear c4
                          try clear c4b0
                          try clear c4b1
                          try clear c5
                          try clear c5b0
                          try clear c6
                          try clear c6b0
                          try clear c6b1
                          try clear c9
                          try clear c9b0
                          try clear c9b1
                          try clear c11
                          try clear c11b0
                          try clear c14
                          try clear c14b0
                          try clear c14b1
                          try clear c16
                          try clear c16b0
                          try clear c18
                          try clear c18b0
                          try clear c18b1
                          try clear c19
                          try clear c21
                          try clear c21b0
                          try clear c22
                          try clear c23
                          try clear c23b0
                          try clear c24
                          try clear c24b0
                          try clear c24b1
                          try clear c26
                          try clear c26b0
                          try clear p2
                          obtain ⟨kq, x113_24, rfl, HA, HJ24, ⟨mc24, rfl⟩⟩ := hcut
                          cases kq with
                          | zero => exact absurd HA.out (by simp [bits_Div64.j4])
                          | succ kj24 =>
                            have H := HA.out
                            clear HA
                            simp only [bits_Div64.j4] at H
                            by_cases c27 : x113_24 = true
                            · subst c27
                              have H1 : (if (IntKind.u64.wrap (x16_2 + ((ji10) / 4294967296))) ≥ 4294967296 then (if 0 ≤ ji8 then (some (IntKind.u64.wrap ((IntKind.u64.wrap (x15_18 * 4294967296)) + (IntKind.u64.wrap (x18_2 - 1))), shr .u64 (IntKind.u64.wrap ((IntKind.u64.wrap ((IntKind.u64.wrap ((IntKind.u64.wrap ((IntKind.u64.wrap ((IntKind.u64.wrap ((Go.bits .or .u64 (ji12) (ji15)) * 4294967296)) + ((ji17) / 4294967296))) - (IntKind.u64.wrap (x15_18 * ji10)))) * 4294967296)) + (Go.bits .and .u64 (ji17) 4294967295))) - (IntKind.u64.wrap ((IntKind.u64.wrap (x18_2 - 1)) * ji10)))) ji8)) else (none)) else (bits_Div64.l1 kj24 ji10 ji8 ((ji10) / 4294967296) (Go.bits .and .u64 (ji10) 4294967295) (Go.bits .and .u64 (ji17) 4294967295) x15_18 (IntKind.u64.wrap (x16_2 + ((ji10) / 4294967296))) (IntKind.u64.wrap ((IntKind.u64.wrap ((IntKind.u64.wrap ((Go.bits .or .u64 (ji12) (ji15)) * 4294967296)) + ((ji17) / 4294967296))) - (IntKind.u64.wrap (x15_18 * ji10)))) (IntKind.u64.wrap (x18_2 - 1)))) = some (r1, r2) := by rw [if_pos rfl] at H; exact H
                              clear H
                              have H := H1
                              clear H1
                              by_cases c28 : (IntKind.u64.wrap (x16_2 + ((ji10) / 4294967296))) ≥ 4294967296
                              · rw [if_pos c28] at H
                                have c28b0 : decide (4294967296 ≤ (IntKind.u64.wrap (x16_2 + ((ji10) / 4294967296)))) = true := decide_eq_true c28
                                clear c28
                                by_cases c29 : 0 ≤ ji8
                                · rw [if_pos c29] at H
                                  have c29b0 := eq_true c29
                                  have c29b1 : decide (0 ≤ ji8) = true := decide_eq_true c29
                                  clear c29
                                  obtain ⟨ji30, hji30⟩ : ∃ j_ : Int, (shr .u64 (IntKind.u64.wrap ((IntKind.u64.wrap ((IntKind.u64.wrap ((IntKind.u64.wrap ((IntKind.u64.wrap ((IntKind.u64.wrap ((Go.bits .or .u64 (ji12) (ji15)) * 4294967296)) + ((ji17) / 4294967296))) - (IntKind.u64.wrap (x15_18 * ji10)))) * 4294967296)) + (Go.bits .and .u64 (ji17) 4294967295))) - (IntKind.u64.wrap ((IntKind.u64.wrap (x18_2 - 1)) * ji10)))) ji8) = j_ := ⟨_, rfl⟩
                                  replace H : (some (IntKind.u64.wrap ((IntKind.u64.wrap (x15_18 * 4294967296)) + (IntKind.u64.wrap (x18_2 - 1))), ji30)) = some (r1, r2) := by first | (rw [hji30] at H; exact H) | (simp only [hji30] at H ⊢; exact H)
                                  have hji30_ : ((IntKind.u64.wrap ((IntKind.u64.wrap ((IntKind.u64.wrap ((IntKind.u64.wrap ((IntKind.u64.wrap ((IntKind.u64.wrap ((Go.bits .or .u64 (ji12) (ji15)) * 4294967296)) + ((ji17) / 4294967296))) - (IntKind.u64.wrap (x15_18 * ji10)))) * 4294967296)) + (Go.bits .and .u64 (ji17) 4294967295))) - (IntKind.u64.wrap ((IntKind.u64.wrap (x18_2 - 1)) * ji10)))) / 2 ^ min ji8.toNat 64) = ji30 := hji30
                                  have hji30z : ji8 ≤ 64 → ((IntKind.u64.wrap ((IntKind.u64.wrap ((IntKind.u64.wrap ((IntKind.u64.wrap ((IntKind.u64.wrap ((IntKind.u64.wrap ((Go.bits .or .u64 (ji12) (ji15)) * 4294967296)) + ((ji17) / 4294967296))) - (IntKind.u64.wrap (x15_18 * ji10)))) * 4294967296)) + (Go.bits .and .u64 (ji17) 4294967295))) - (IntKind.u64.wrap ((IntKind.u64.wrap (x18_2 - 1)) * ji10)))) / 2 ^ ji8.toNat) = ji30 := shr_small hji30
                                  simp only [Option.some.injEq, Prod.mk.injEq] at H
                                  obtain ⟨rfl, rfl⟩ := H
                                  go_wp2
                                  repeat (go_quiet (fail); try go_wp2)
                                  go_ret2
                                  exact ⟨by first | rfl | (simp; done) | (simp only [← hji8, ← hji10, ← hji12, ← hji13, ← hji15, ← hji17, ← hji30] <;> (first | rfl | simp)) | (simp [*]; done), by repeat (first | exact Drawn0.refl _ | apply Drawn0.step)⟩
                                · rw [if_neg c29] at H
                                  exact absurd H (by simp)
                              · rw [if_neg c28] at H
                                have c28b0 : decide (4294967296 ≤ (IntKind.u64.wrap (x16_2 + ((ji10) / 4294967296)))) = false := decide_eq_false c28
                                clear c28
                                have H' := Aside0.mk H
                                clear H
                                go_wp2
                                repeat (go_quiet (fail); try go_wp2)
                                go_roundg kj24
                                case measure => have := HJ18.out; have := HK2.out; have := HJ24.out; omega
                                case rel => exact ⟨(IntKind.u64.wrap (x16_2 + ((ji10) / 4294967296))), (IntKind.u64.wrap (x18_2 - 1)), (by first | rfl | (simp; done) | (simp only [← hji10] <;> (first | rfl | simp)) | (simp [*]; done)), (by first | rfl | (simp; done) | (simp [*]; done)), H', ⟨by have := HJ18.out; have := HK2.out; have := HJ24.out; omega⟩, by repeat (first | exact Drawn0.refl _ | apply Drawn0.step)⟩
                            · replace c27 := Bool.eq_false_iff.mpr c27
                              subst c27
                              have H1 : (if 0 ≤ ji8 then (some (IntKind.u64.wrap ((IntKind.u64.wrap (x15_18 * 4294967296)) + x18_2), shr .u64 (IntKind.u64.wrap ((IntKind.u64.wrap ((IntKind.u64.wrap ((IntKind.u64.wrap ((IntKind.u64.wrap ((IntKind.u64.wrap ((Go.bits .or .u64 (ji12) (ji15)) * 4294967296)) + ((ji17) / 4294967296))) - (IntKind.u64.wrap (x15_18 * ji10)))) * 4294967296)) + (Go.bits .and .u64 (ji17) 4294967295))) - (IntKind.u64.wrap (x18_2 * ji10)))) ji8)) else (none)) = some (r1, r2) := by rw [if_neg (show ¬ (false = true) by decide)] at H; exact H
                              clear H
                              have H := H1
                              clear H1
                              by_cases c31 : 0 ≤ ji8
                              · rw [if_pos c31] at H
                                have c31b0 := eq_true c31
                                have c31b1 : decide (0 ≤ ji8) = true := decide_eq_true c31
                                clear c31
                                obtain ⟨ji32, hji32⟩ : ∃ j_ : Int, (shr .u64 (IntKind.u64.wrap ((IntKind.u64.wrap ((IntKind.u64.wrap ((IntKind.u64.wrap ((IntKind.u64.wrap ((IntKind.u64.wrap ((Go.bits .or .u64 (ji12) (ji15)) * 4294967296)) + ((ji17) / 4294967296))) - (IntKind.u64.wrap (x15_18 * ji10)))) * 4294967296)) + (Go.bits .and .u64 (ji17) 4294967295))) - (IntKind.u64.wrap (x18_2 * ji10)))) ji8) = j_ := ⟨_, rfl⟩
                                replace H : (some (IntKind.u64.wrap ((IntKind.u64.wrap (x15_18 * 4294967296)) + x18_2), ji32)) = some (r1, r2) := by first | (rw [hji32] at H; exact H) | (simp only [hji32] at H ⊢; exact H)
                                have hji32_ : ((IntKind.u64.wrap ((IntKind.u64.wrap ((IntKind.u64.wrap ((IntKind.u64.wrap ((IntKind.u64.wrap ((IntKind.u64.wrap ((Go.bits .or .u64 (ji12) (ji15)) * 4294967296)) + ((ji17) / 4294967296))) - (IntKind.u64.wrap (x15_18 * ji10)))) * 4294967296)) + (Go.bits .and .u64 (ji17) 4294967295))) - (IntKind.u64.wrap (x18_2 * ji10)))) / 2 ^ min ji8.toNat 64) = ji32 := hji32
                                have hji32z : ji8 ≤ 64 → ((IntKind.u64.wrap ((IntKind.u64.wrap ((IntKind.u64.wrap ((IntKind.u64.wrap ((IntKind.u64.wrap ((IntKind.u64.wrap ((Go.bits .or .u64 (ji12) (ji15)) * 4294967296)) + ((ji17) / 4294967296))) - (IntKind.u64.wrap (x15_18 * ji10)))) * 4294967296)) + (Go.bits .and .u64 (ji17) 4294967295))) - (IntKind.u64.wrap (x18_2 * ji10)))) / 2 ^ ji8.toNat) = ji32 := shr_small hji32
                                simp only [Option.some.injEq, Prod.mk.injEq] at H
                                obtain ⟨rfl, rfl⟩ := H
                                go_wp2
                                repeat (go_quiet (fail); try go_wp2)
                                go_ret2
                                exact ⟨by first | rfl | (simp; done) | (simp only [← hji8, ← hji10, ← hji12, ← hji13, ← hji15, ← hji17, ← hji32] <;> (first | rfl | simp)) | (simp [*]; done), by repeat (first | exact Drawn0.refl _ | apply Drawn0.step)⟩
                              · rw [if_neg c31] at H
                                exact absurd H (by simp)
          · rw [if_neg c14] at H
            exact absurd H (by simp)
        · rw [if_neg c9] at H
          exact absurd H (by simp)
end Go.Proofs.Ytjbpchebabhoeaa.P
end
section
set_option linter.unusedVariables false
set_option linter.unusedSimpArgs false
namespace Go.Proofs.Ytjbpchebabhoeaa.Nt
open Go.RowKit Go.Proofs.Ytjbpchebabhoeaa.P Go.Proofs.Ytjbpchebabhoeaa.X Go.Proofs.Ytjbpchebabhoeaa.Bt Go.Proofs.Ytjbpchebabhoeaa.Dg Go.Proofs.YtjbpchebabhoeaaW.PrintWords
section
variable {u d y1 y0 : Nat}
theorem half_more {q r : Nat} (h1 : q * y1 + r = u) (hu : u < y1 * 4294967296 + y0) (hd : d < 4294967296) (hc : 4294967296 ≤ q ∨ 4294967296 * r + d < q * y0) : (u * 4294967296 + d) / (y1 * 4294967296 + y0) < q := by
  rw [Nat.div_lt_iff_lt_mul (by omega)]
  rcases hc with hc | hc
  · have := Nat.mul_le_mul_right (y1 * 4294967296 + y0) hc
    omega
  · rw [Nat.mul_add, ← Nat.mul_assoc]
    generalize q * y1 = P at *
    omega
theorem half_done {q r : Nat} (h1 : q * y1 + r = u) (hu : u < y1 * 4294967296 + y0) (hc : q * y0 ≤ 4294967296 * r + d) : q ≤ (u * 4294967296 + d) / (y1 * 4294967296 + y0) := by
  rw [Nat.le_div_iff_mul_le (by omega), Nat.mul_add, ← Nat.mul_assoc]
  generalize q * y1 = P at *
  omega
end
structure Half (u d y1 y0 q r : Nat) : Prop where
  sum : q * y1 + r = u
  r_lt : r < 4294967296
  q_le : q ≤ 4294967297
  ge : (u * 4294967296 + d) / (y1 * 4294967296 + y0) ≤ q
theorem prod_le {q y0 : Nat} (hq : q ≤ 4294967297) (hy : y0 < 4294967296) : q * y0 ≤ 4294967297 * 4294967295 := Nat.mul_le_mul hq (by omega)
theorem prod_le2 {q y0 : Nat} (hq : q ≤ 4294967296) (hy : y0 < 4294967296) : q * y0 ≤ 4294967296 * 4294967295 := Nat.mul_le_mul hq (by omega)
theorem half_start {u d y1 y0 : Nat} (hy1 : 2147483648 ≤ y1) (hy1' : y1 < 4294967296) (hy0 : y0 < 4294967296) (hu : u < y1 * 4294967296 + y0) (hd : d < 4294967296) : Half u d y1 y0 (u / y1) (u % y1) := by
  have h1 := Nat.div_add_mod u y1
  have h2 := Nat.mod_lt u (show 0 < y1 by omega)
  rw [Nat.mul_comm] at h1
  refine ⟨h1, by omega, ?_, ?_⟩
  · have : u / y1 < 4294967298 := by
      rw [Nat.div_lt_iff_lt_mul (by omega)]
      omega
    omega
  · have h3 : (u * 4294967296 + d) / (y1 * 4294967296 + y0) < u / y1 + 1 := by
      rw [Nat.div_lt_iff_lt_mul (by omega), Nat.add_mul, Nat.one_mul, Nat.mul_add, ← Nat.mul_assoc]
      generalize u / y1 * y1 = P at *
      omega
    omega
theorem l0_f {y s u d un0 y1 y0 : Nat} (hy1 : 2147483648 ≤ y1) (hy1' : y1 < 4294967296) (hy0 : y0 < 4294967296) (hu : u < y1 * 4294967296 + y0) (hd : d < 4294967296) : ∀ (m q r k : Nat), q ≤ (u * 4294967296 + d) / (y1 * 4294967296 + y0) + m → 2 * m + 2 < k → Half u d y1 y0 q r →
    ∃ k', k ≤ k' + 2 * m + 2 ∧ bits_Div64.l0 k (y : Int) (s : Int) (y1 : Int) (y0 : Int) (u : Int) (d : Int) (un0 : Int) (q : Int) (r : Int) = bits_Div64.j2 k' (y : Int) (s : Int) (y1 : Int) (y0 : Int) (u : Int) (d : Int) (un0 : Int) (((u * 4294967296 + d) / (y1 * 4294967296 + y0) : Nat) : Int) := by
  intro m
  induction m with
  | zero =>
    intro q r k hq hk H
    obtain ⟨k, rfl⟩ : ∃ n, k = n + 2 := ⟨k - 2, by omega⟩
    have hge := H.ge
    have e : q = (u * 4294967296 + d) / (y1 * 4294967296 + y0) := by omega
    have hnc : ¬ (4294967296 ≤ q ∨ 4294967296 * r + d < q * y0) := fun hc => by
      have := half_more H.sum hu hd hc
      omega
    have hp := prod_le H.q_le hy0
    have hr := H.r_lt
    refine ⟨k, by omega, ?_⟩
    simp only [bits_Div64.l0, bits_Div64.j1]
    rw [if_neg (by omega), ← Int.natCast_mul, u64_in (by omega) (by omega), u64_in (x := 4294967296 * (r : Int)) (by omega) (by omega), u64_in (by omega) (by omega), decide_eq_false (by omega), if_neg (by decide), e]
  | succ m ih =>
    intro q r k hq hk H
    obtain ⟨k, rfl⟩ : ∃ n, k = n + 2 := ⟨k - 2, by omega⟩
    have hge := H.ge
    have hp := prod_le H.q_le hy0
    have hr := H.r_lt
    have hql := H.q_le
    have dec : (4294967296 ≤ q ∨ 4294967296 * r + d < q * y0) → ∃ k', k + 2 ≤ k' + 2 * (m + 1) + 2 ∧ bits_Div64.j1 (k + 1) (y : Int) (s : Int) (y1 : Int) (y0 : Int) (u : Int) (d : Int) (un0 : Int) (q : Int) (r : Int) true = bits_Div64.j2 k' (y : Int) (s : Int) (y1 : Int) (y0 : Int) (u : Int) (d : Int) (un0 : Int) (((u * 4294967296 + d) / (y1 * 4294967296 + y0) : Nat) : Int) := by
      intro hc
      have hlt := half_more H.sum hu hd hc
      have hpos := Nat.lt_of_le_of_lt (Nat.zero_le _) hlt
      obtain ⟨q', rfl⟩ : ∃ q', q = q' + 1 := ⟨q - 1, by omega⟩
      have hs := H.sum
      rw [Nat.add_mul, Nat.one_mul] at hs
      simp only [bits_Div64.j1]
      rw [if_true, u64_in (x := (r : Int) + (y1 : Int)) (by omega) (by omega), u64_in (x := ((q' + 1 : Nat) : Int) - 1) (by omega) (by omega), show (((q' + 1 : Nat) : Int) - 1) = (q' : Int) by omega]
      by_cases hb : (r : Int) + (y1 : Int) ≥ 4294967296
      · rw [if_pos hb]
        have hp2 := prod_le2 (show q' ≤ 4294967296 by omega) hy0
        have := half_done (q := q') (r := r + y1) (by omega) hu (d := d) (by omega)
        refine ⟨k, by omega, ?_⟩
        rw [show q' = (u * 4294967296 + d) / (y1 * 4294967296 + y0) by omega]
      · rw [if_neg hb]
        obtain ⟨k', h1, h2⟩ := ih q' (r + y1) k (by omega) (by omega) ⟨by omega, by omega, by omega, by omega⟩
        refine ⟨k', by omega, ?_⟩
        rw [← h2]
        rfl
    simp only [bits_Div64.l0]
    by_cases c1 : (q : Int) ≥ 4294967296
    · rw [if_pos c1]
      exact dec (.inl (by omega))
    · rw [if_neg c1, ← Int.natCast_mul, u64_in (by omega) (by omega), u64_in (x := 4294967296 * (r : Int)) (by omega) (by omega), u64_in (by omega) (by omega)]
      by_cases c2 : ((q * y0 : Nat) : Int) > 4294967296 * (r : Int) + (d : Int)
      · rw [decide_eq_true c2]
        exact dec (.inr (by omega))
      · rw [decide_eq_false c2]
        have := half_done H.sum hu (d := d) (by omega)
        refine ⟨k, by omega, ?_⟩
        simp only [bits_Div64.j1]
        rw [if_neg (by decide), show q = (u * 4294967296 + d) / (y1 * 4294967296 + y0) by omega]
theorem l1_f {y s u d q1 y1 y0 : Nat} (hy1 : 2147483648 ≤ y1) (hy1' : y1 < 4294967296) (hy0 : y0 < 4294967296) (hu : u < y1 * 4294967296 + y0) (hd : d < 4294967296) (hq1 : q1 < 4294967296) (hqq : (u * 4294967296 + d) / (y1 * 4294967296 + y0) < 4294967296) : ∀ (m q r k : Nat), q ≤ (u * 4294967296 + d) / (y1 * 4294967296 + y0) + m → 2 * m + 2 < k → Half u d y1 y0 q r →
    ∃ z, bits_Div64.l1 k (y : Int) (s : Int) (y1 : Int) (y0 : Int) (d : Int) (q1 : Int) (r : Int) (u : Int) (q : Int) = some (((q1 * 4294967296 + (u * 4294967296 + d) / (y1 * 4294967296 + y0) : Nat) : Int), z) := by
  intro m
  have fin : ∀ q : Nat, q = (u * 4294967296 + d) / (y1 * 4294967296 + y0) → (IntKind.u64.wrap ((IntKind.u64.wrap ((q1 : Int) * 4294967296)) + (q : Int))) = ((q1 * 4294967296 + (u * 4294967296 + d) / (y1 * 4294967296 + y0) : Nat) : Int) := by
    intro q hq
    rw [u64_in (x := (q1 : Int) * 4294967296) (by omega) (by omega), u64_in (by omega) (by omega), hq]
    omega
  induction m with
  | zero =>
    intro q r k hq hk H
    obtain ⟨k, rfl⟩ : ∃ n, k = n + 2 := ⟨k - 2, by omega⟩
    have hge := H.ge
    have e : q = (u * 4294967296 + d) / (y1 * 4294967296 + y0) := by omega
    have hnc : ¬ (4294967296 ≤ q ∨ 4294967296 * r + d < q * y0) := fun hc => by
      have := half_more H.sum hu hd hc
      omega
    have hp := prod_le H.q_le hy0
    have hr := H.r_lt
    simp only [bits_Div64.l1, bits_Div64.j4]
    rw [if_neg (by omega), ← Int.natCast_mul, u64_in (x := ((q * y0 : Nat) : Int)) (by omega) (by omega), u64_in (x := 4294967296 * (r : Int)) (by omega) (by omega), u64_in (x := 4294967296 * (r : Int) + (d : Int)) (by omega) (by omega), decide_eq_false (by omega), if_neg (by decide), if_pos (by omega), fin q e]
    exact ⟨_, rfl⟩
  | succ m ih =>
    intro q r k hq hk H
    obtain ⟨k, rfl⟩ : ∃ n, k = n + 2 := ⟨k - 2, by omega⟩
    have hge := H.ge
    have hp := prod_le H.q_le hy0
    have hr := H.r_lt
    have hql := H.q_le
    have dec : (4294967296 ≤ q ∨ 4294967296 * r + d < q * y0) → ∃ z, bits_Div64.j4 (k + 1) (y : Int) (s : Int) (y1 : Int) (y0 : Int) (d : Int) (q1 : Int) (r : Int) (u : Int) (q : Int) true = some (((q1 * 4294967296 + (u * 4294967296 + d) / (y1 * 4294967296 + y0) : Nat) : Int), z) := by
      intro hc
      have hlt := half_more H.sum hu hd hc
      have hpos := Nat.lt_of_le_of_lt (Nat.zero_le _) hlt
      obtain ⟨q', rfl⟩ : ∃ q', q = q' + 1 := ⟨q - 1, by omega⟩
      have hs := H.sum
      rw [Nat.add_mul, Nat.one_mul] at hs
      simp only [bits_Div64.j4]
      rw [if_true, u64_in (x := (r : Int) + (y1 : Int)) (by omega) (by omega), u64_in (x := ((q' + 1 : Nat) : Int) - 1) (by omega) (by omega), show (((q' + 1 : Nat) : Int) - 1) = (q' : Int) by omega]
      by_cases hb : (r : Int) + (y1 : Int) ≥ 4294967296
      · rw [if_pos hb]
        have hp2 := prod_le2 (show q' ≤ 4294967296 by omega) hy0
        have := half_done (q := q') (r := r + y1) (by omega) hu (d := d) (by omega)
        rw [if_pos (by omega), fin q' (by omega)]
        exact ⟨_, rfl⟩
      · rw [if_neg hb]
        obtain ⟨z, h2⟩ := ih q' (r + y1) k (by omega) (by omega) ⟨by omega, by omega, by omega, by omega⟩
        refine ⟨z, ?_⟩
        rw [← h2]
        rfl
    simp only [bits_Div64.l1]
    by_cases c1 : (q : Int) ≥ 4294967296
    · rw [if_pos c1]
      exact dec (.inl (by omega))
    · rw [if_neg c1, ← Int.natCast_mul, u64_in (by omega) (by omega), u64_in (x := 4294967296 * (r : Int)) (by omega) (by omega), u64_in (by omega) (by omega)]
      by_cases c2 : ((q * y0 : Nat) : Int) > 4294967296 * (r : Int) + (d : Int)
      · rw [decide_eq_true c2]
        exact dec (.inr (by omega))
      · rw [decide_eq_false c2]
        have := half_done H.sum hu (d := d) (by omega)
        simp only [bits_Div64.j4]
        rw [if_neg (by decide), if_pos (by omega), fin q (by omega)]
        exact ⟨_, rfl⟩
theorem sub_mul_mod {u y1 : Nat} (hu : u < 18446744073709551616) : IntKind.u64.wrap ((u : Int) - IntKind.u64.wrap (((u / y1 : Nat) : Int) * (y1 : Int))) = ((u % y1 : Nat) : Int) := by
  have h := Nat.div_add_mod u y1
  rw [Nat.mul_comm] at h
  rw [← Int.natCast_mul]
  generalize u / y1 * y1 = P at *
  generalize u % y1 = R at *
  rw [u64_in (x := (P : Int)) (by omega) (by omega), u64_in (by omega) (by omega)]
  omega
theorem tdiv_nat (u y1 : Nat) : Int.tdiv (u : Int) (y1 : Int) = ((u / y1 : Nat) : Int) := (Int.ofNat_tdiv u y1).symm
theorem Div64_f {h l y : Nat} (hl : l < 18446744073709551616) (hy : y < 18446744073709551616) (hhy : h < y) {k : Nat} (hk : 40000000000 < k) : ∃ z, bits_Div64.f k (h : Int) (l : Int) (y : Int) = some ((((h * 18446744073709551616 + l) / y : Nat) : Int), z) := by
  unfold bits_Div64.f
  rw [if_neg (by omega), if_neg (by omega)]
  by_cases h0 : h = 0
  · subst h0
    rw [if_pos (show ((0 : Nat) : Int) = 0 from rfl), tdiv_nat, Nat.zero_mul, Nat.zero_add]
    have := Nat.div_le_self l y
    rw [u64_in (x := ((l / y : Nat) : Int)) (Int.natCast_nonneg _) (by omega)]
    exact ⟨_, rfl⟩
  rw [if_neg (by omega)]
  have hyp : 0 < y := by omega
  unfold bits_LeadingZeros64.f
  rw [if_pos (by omega), Option.bind_some, Int.toNat_natCast, bitLen_eq y hy]
  have b1 := blen_pos hyp
  have b2 : blen y ≤ 64 := blen_le (by omega)
  have b3 := blen_ge hyp
  have b4 := lt_blen y
  obtain ⟨s, hs⟩ : ∃ s, 64 - blen y = s := ⟨_, rfl⟩
  have hs64 : s < 64 := by omega
  rw [show (64 - (blen y : Int)) = (s : Int) by omega, u64_in (x := (s : Int)) (by omega) (by omega), u64_in (x := 64 - (s : Int)) (by omega) (by omega), if_pos (by omega), if_pos (by omega)]
  have hsp : 0 < 2 ^ s := Nat.pow_pos (by omega)
  have hY : y * 2 ^ s < 18446744073709551616 := by
    have := Nat.mul_lt_mul_of_pos_right b4 hsp
    rwa [← Nat.pow_add, show blen y + s = 64 by omega] at this
  have hY2 : 9223372036854775808 ≤ y * 2 ^ s := by
    have := Nat.mul_le_mul_right (2 ^ s) b3
    rwa [← Nat.pow_add, show blen y - 1 + s = 63 by omega] at this
  have hH : h * 2 ^ s + 2 ^ s ≤ y * 2 ^ s := by
    have := Nat.mul_le_mul_right (2 ^ s) (show h + 1 ≤ y by omega)
    rwa [Nat.add_mul, Nat.one_mul] at this
  have htop := top_lt hl hs64
  have hlow : l * 2 ^ s = 18446744073709551616 * (l / 2 ^ (64 - s)) + l * 2 ^ s % 18446744073709551616 := by
    have h1 := Nat.div_add_mod (l * 2 ^ s) 18446744073709551616
    have h2 : l * 2 ^ s / 18446744073709551616 = l / 2 ^ (64 - s) := by
      rw [Nat.mul_comm, B_split hs64, Nat.mul_div_mul_left _ _ hsp]
    rw [h2] at h1
    exact h1.symm
  have e1 : shl .u64 (y : Int) (s : Int) = ((y * 2 ^ s : Nat) : Int) := by
    rw [shl_u64 (by omega) (by omega), Int.toNat_natCast, ← Int.natCast_mul]
    omega
  have e2 : shl .u64 (h : Int) (s : Int) = ((2 ^ s * h : Nat) : Int) := by
    rw [shl_u64 (by omega) (by omega), Int.toNat_natCast, ← Int.natCast_mul, Nat.mul_comm (2 ^ s) h]
    omega
  have e3 : shr .u64 (l : Int) (64 - (s : Int)) = ((l / 2 ^ (64 - s) : Nat) : Int) := by
    rw [shr_u64 (by omega) (by omega), show (64 - (s : Int)).toNat = 64 - s by omega, Int.natCast_ediv]
  have e4 : shl .u64 (l : Int) (s : Int) = ((l * 2 ^ s % 18446744073709551616 : Nat) : Int) := by
    rw [shl_u64 (by omega) (by omega), Int.toNat_natCast, ← Int.natCast_mul, Int.natCast_emod]
    rfl
  have hfin : (h * 18446744073709551616 + l) / y = ((2 ^ s * h + l / 2 ^ (64 - s)) * 18446744073709551616 + l * 2 ^ s % 18446744073709551616) / (y * 2 ^ s) := by
    rw [← Nat.mul_div_mul_right (h * 18446744073709551616 + l) y hsp]
    congr 1
    generalize l * 2 ^ s % 18446744073709551616 = a at hlow ⊢
    rw [Nat.add_mul, hlow, Nat.mul_comm (2 ^ s) h, Nat.mul_right_comm h]
    omega
  rw [e1, e2, e3, e4, or_add_nat s h _ htop (by rw [Nat.mul_comm]; omega), hfin]
  clear hfin e1 e2 e3 e4 hlow b3 b4
  rw [Nat.mul_comm (2 ^ s) h]
  have huY : h * 2 ^ s + l / 2 ^ (64 - s) < y * 2 ^ s := by omega
  have hm := Nat.mod_lt (l * 2 ^ s) (show 18446744073709551616 > 0 by omega)
  generalize y * 2 ^ s = Y at *
  generalize l * 2 ^ s % 18446744073709551616 = t at *
  generalize h * 2 ^ s + l / 2 ^ (64 - s) = u at *
  clear hH htop hsp hs64 b1 b2 hs
  rw [and_m32 (by omega) (by omega), and_m32 (by omega) (by omega)]
  obtain ⟨y1, hy1⟩ : ∃ q, Y / 4294967296 = q := ⟨_, rfl⟩
  obtain ⟨y0, hy0⟩ : ∃ q, Y % 4294967296 = q := ⟨_, rfl⟩
  obtain ⟨d1, hd1⟩ : ∃ q, t / 4294967296 = q := ⟨_, rfl⟩
  obtain ⟨d0, hd0⟩ : ∃ q, t % 4294967296 = q := ⟨_, rfl⟩
  rw [show (Y : Int) / 4294967296 = (y1 : Int) by omega, show (Y : Int) % 4294967296 = (y0 : Int) by omega, show (t : Int) / 4294967296 = (d1 : Int) by omega, show (t : Int) % 4294967296 = (d0 : Int) by omega, if_neg (by omega), tdiv_nat, u64_in (x := ((u / y1 : Nat) : Int)) (Int.natCast_nonneg _) (by have := Nat.div_le_self u y1; omega), sub_mul_mod (by omega)]
  have hYe : Y = y1 * 4294967296 + y0 := by omega
  have H1 := half_start (u := u) (d := d1) (y1 := y1) (y0 := y0) (by omega) (by omega) (by omega) (by omega) (by omega)
  obtain ⟨k', hk', hl0⟩ := l0_f (y := Y) (s := s) (u := u) (d := d1) (un0 := d0) (y1 := y1) (y0 := y0) (by omega) (by omega) (by omega) (by omega) (by omega) 4294967297 (u / y1) (u % y1) k (Nat.le_trans H1.q_le (Nat.le_add_left _ _)) (by omega) H1
  rw [hl0]
  obtain ⟨k', rfl⟩ : ∃ n, k' = n + 1 := ⟨k' - 1, by omega⟩
  simp only [bits_Div64.j2]
  rw [← hYe]
  have hq1 : (u * 4294967296 + d1) / Y < 4294967296 := by
    rw [Nat.div_lt_iff_lt_mul (by omega)]
    omega
  have hdm := Nat.div_add_mod (u * 4294967296 + d1) Y
  have hml := Nat.mod_lt (u * 4294967296 + d1) (show Y > 0 by omega)
  rw [Nat.mul_comm] at hdm
  obtain ⟨q1, hq1e⟩ : ∃ q, (u * 4294967296 + d1) / Y = q := ⟨_, rfl⟩
  obtain ⟨u2, hu2⟩ : ∃ q, (u * 4294967296 + d1) % Y = q := ⟨_, rfl⟩
  rw [hq1e] at hdm hq1 ⊢
  rw [hu2] at hdm hml
  have hun : IntKind.u64.wrap (IntKind.u64.wrap (IntKind.u64.wrap ((u : Int) * 4294967296) + (d1 : Int)) - IntKind.u64.wrap ((q1 : Int) * (Y : Int))) = (u2 : Int) := by
    rw [← Int.natCast_mul]
    generalize q1 * Y = P at hdm ⊢
    rw [u64, u64, u64, u64]
    omega
  rw [if_neg (by omega), hun, tdiv_nat, u64_in (x := ((u2 / y1 : Nat) : Int)) (Int.natCast_nonneg _) (by have := Nat.div_le_self u2 y1; omega), sub_mul_mod (by omega)]
  have H2 := half_start (u := u2) (d := d0) (y1 := y1) (y0 := y0) (by omega) (by omega) (by omega) (by omega) (by omega)
  have hq2 : (u2 * 4294967296 + d0) / (y1 * 4294967296 + y0) < 4294967296 := by
    rw [Nat.div_lt_iff_lt_mul (by omega)]
    omega
  obtain ⟨z, hl1⟩ := l1_f (y := Y) (s := s) (u := u2) (d := d0) (q1 := q1) (y1 := y1) (y0 := y0) (by omega) (by omega) (by omega) (by omega) (by omega) hq1 hq2 4294967297 (u2 / y1) (u2 % y1) k' (Nat.le_trans H2.q_le (Nat.le_add_left _ _)) (by omega) H2
  rw [hl1]
  refine ⟨z, ?_⟩
  congr 2
  have hT : u * 18446744073709551616 + t = Y * (q1 * 4294967296) + (u2 * 4294967296 + d0) := by
    rw [← Nat.mul_assoc, Nat.mul_comm Y q1]
    generalize q1 * Y = P at hdm ⊢
    omega
  rw [hT, Nat.mul_add_div (by omega), hYe]
end Go.Proofs.Ytjbpchebabhoeaa.Nt
end
section
namespace Go.Proofs.Ytjbpchebabhoeaa.P
open Go.RowKit Go.Proofs.YtjbpchebabhoeaaW.PrintWords Go.Proofs.YtjbpchebabhoeaaW.PrintLast Go.Proofs.YtjbpchebabhoeaaW.PrintMore Go.Proofs.Ytjbpchebabhoeaa.X
attribute [local go_sem] max2_int min2_int max_two min_two max_three min_three max_four min_four
set_option linter.unusedVariables false
set_option linter.unusedSimpArgs false
def natdiv_trial.f (k : Nat) (l0 : List Int) (l1 : List Int) : Option (Int) := if (l0.length : Int) < (wrap64 ((l1.length : Int) + 1)) then (some 1) else (if 0 ≤ (l1.length : Int) then (if (l1.length : Int) < (l0.length : Int) then (if 0 ≤ (wrap64 ((l1.length : Int) - 1)) then (if (wrap64 ((l1.length : Int) - 1)) < (l1.length : Int) then (if (rd l0 (l1.length : Int)) ≥ (rd l1 (wrap64 ((l1.length : Int) - 1))) then (some 18446744073709551615) else (if (wrap64 ((l1.length : Int) - 1)) < (l0.length : Int) then ((bits_Div64.f k (rd l0 (l1.length : Int)) (rd l0 (wrap64 ((l1.length : Int) - 1))) (rd l1 (wrap64 ((l1.length : Int) - 1)))).bind fun bt196 => (some bt196.1)) else (none))) else (none)) else (none)) else (none)) else (none))
theorem natdiv_trial.mono : ∀ a0 a1 k, LeO (natdiv_trial.f k a0 a1) (natdiv_trial.f (k + 1) a0 a1) := by
  intro a0 a1 k
  unfold natdiv_trial.f
  repeat' first
      | (with_reducible exact bits_Div64.mono _ _ _ _)
      | (with_reducible exact LeO.refl _)
      | (with_reducible exact LeO.none _)
      | (with_reducible refine LeO.ite ?_ ?_)
      | (with_reducible refine LeO.bind ?_ (fun _ => ?_))
      | exact bits_Div64.mono _ _ _ _
      | exact LeO.none _
      | refine LeO.ite ?_ ?_
      | refine LeO.bind ?_ (fun _ => ?_)
set_option maxHeartbeats 8000000 in
set_option maxRecDepth 100000 in
theorem natdiv_trial.calls (k : Nat) (A0 : Option Addr) (c0 : Nat) (l0 : List Int) (A1 : Option Addr) (c1 : Nat) (l1 : List Int) (r : Int) (w : World) (hr0 : Kd.C (Kd.int .u64) w A0 l0.length l0) (hc0 : l0.length ≤ c0) (hr1 : Kd.C (Kd.int .u64) w A1 l1.length l1) (hc1 : l1.length ≤ c1) (h : natdiv_trial.f k l0 l1 = some r) :
    Calls Try.prog 88 #[.slice A0 l0.length c0, .slice A1 l1.length c1] w fun e w' => e = .returned (.int .u64 r) ∧ Drawn0 w w' := by
  have HR0 := Aside0.mk hr0
  have HC0 := Aside0.mk hc0
  clear hr0 hc0
  have HR1 := Aside0.mk hr1
  have HC1 := Aside0.mk hc1
  clear hr1 hc1
  have H : (if (l0.length : Int) < (wrap64 ((l1.length : Int) + 1)) then (some 1) else (if 0 ≤ (l1.length : Int) then (if (l1.length : Int) < (l0.length : Int) then (if 0 ≤ (wrap64 ((l1.length : Int) - 1)) then (if (wrap64 ((l1.length : Int) - 1)) < (l1.length : Int) then (if (rd l0 (l1.length : Int)) ≥ (rd l1 (wrap64 ((l1.length : Int) - 1))) then (some 18446744073709551615) else (if (wrap64 ((l1.length : Int) - 1)) < (l0.length : Int) then ((bits_Div64.f k (rd l0 (l1.length : Int)) (rd l0 (wrap64 ((l1.length : Int) - 1))) (rd l1 (wrap64 ((l1.length : Int) - 1)))).bind fun bt196 => (some bt196.1)) else (none))) else (none)) else (none)) else (none)) else (none))) = some r := h
  clear h
  by_cases c3 : (l0.length : Int) < (wrap64 ((l1.length : Int) + 1))
  · rw [if_pos c3] at H
    have c3b0 : decide ((l0.length : Int) < (wrap64 ((l1.length : Int) + 1))) = true := decide_eq_true c3
    clear c3
    obtain rfl := Option.some.inj H
    go_enter Try.func88, Try.ntmps88
    go_wp2
    repeat (go_quiet (fail); try go_wp2)
    go_ret
    exact ⟨by first | rfl | (simp; done) | (simp [*]; done), by repeat (first | exact Drawn0.refl _ | apply Drawn0.step)⟩
  · rw [if_neg c3] at H
    have c3b0 : decide ((l0.length : Int) < (wrap64 ((l1.length : Int) + 1))) = false := decide_eq_false c3
    clear c3
    by_cases c4 : 0 ≤ (l1.length : Int)
    · rw [if_pos c4] at H
      have c4b0 : decide (0 ≤ (l1.length : Int)) = true := decide_eq_true c4
      have c4b1 : decide (0 ≤ l1.length) = true := decide_eq_true (by omega)
      clear c4
      by_cases c5 : (l1.length : Int) < (l0.length : Int)
      · rw [if_pos c5] at H
        have c5b0 : decide ((l1.length : Int) < (l0.length : Int)) = true := decide_eq_true c5
        have c5b1 : decide (l1.length < l0.length) = true := decide_eq_true (Int.ofNat_lt.mp c5)
        clear c5
        obtain ⟨ji6, hji6⟩ : ∃ j_ : Int, (wrap64 ((l1.length : Int) - 1)) = j_ := ⟨_, rfl⟩
        replace H : (if 0 ≤ (ji6) then (if (ji6) < (l1.length : Int) then (if (rd l0 (l1.length : Int)) ≥ (rd l1 (ji6)) then (some 18446744073709551615) else (if (ji6) < (l0.length : Int) then ((bits_Div64.f k (rd l0 (l1.length : Int)) (rd l0 (ji6)) (rd l1 (ji6))).bind fun bt196 => (some bt196.1)) else (none))) else (none)) else (none)) = some r := by first | (rw [hji6] at H; exact H) | (simp only [hji6] at H ⊢; exact H)
        have hji6w : (IntKind.i64.wrap ((l1.length : Int) - 1)) = ji6 := (i64_w _).trans hji6
        by_cases c7 : 0 ≤ (ji6)
        · rw [if_pos c7] at H
          have c7b0 : decide (0 ≤ (ji6)) = true := decide_eq_true c7
          clear c7
          by_cases c8 : (ji6) < (l1.length : Int)
          · rw [if_pos c8] at H
            have c8b0 : decide ((ji6) < (l1.length : Int)) = true := decide_eq_true c8
            clear c8
            by_cases c9 : (rd l0 (l1.length : Int)) ≥ (rd l1 (ji6))
            · rw [if_pos c9] at H
              have c9b0 : decide ((rd l1 (ji6)) ≤ (rd l0 (l1.length : Int))) = true := decide_eq_true c9
              clear c9
              obtain rfl := Option.some.inj H
              have p191 : 0 ≤ ((l1.length : Int) : Int) := of_decide_eq_true as_
              have q191 : (l1.length : Int) < (l0.length : Int) := of_decide_eq_true as_
              obtain ⟨ad191, e191, hx191_0⟩ := Kd.at_int HR0.out (l1.length : Int) p191 q191
              cases e191
              (try simp only [Go.IntWalk.toNatUp] at hx191_0)
              replace p191 := eq_true p191
              replace q191 := eq_true q191
              (try (have q191n := q191; simp only [Int.ofNat_lt] at q191n))
              (try (have q191d := q191; simp only [List.length_drop] at q191d))
              have p192 : 0 ≤ ((ji6) : Int) := of_decide_eq_true as_
              have q192 : (ji6) < (l1.length : Int) := of_decide_eq_true as_
              obtain ⟨ad192, e192, hx192_0⟩ := Kd.at_int HR1.out (ji6) p192 q192
              cases e192
              replace p192 := eq_true p192
              replace q192 := eq_true q192
              (try (have q192n := q192; simp only [Int.ofNat_lt] at q192n))
              (try (have q192d := q192; simp only [List.length_drop] at q192d))
              go_enter Try.func88, Try.ntmps88
              go_wp2
              repeat (go_quiet (fail); try go_wp2)
              go_ret
              exact ⟨by first | rfl | (simp; done) | (simp only [← hji6] <;> (first | rfl | simp)) | (simp [*]; done), by repeat (first | exact Drawn0.refl _ | apply Drawn0.step)⟩
            · rw [if_neg c9] at H
              have c9b0 : decide ((rd l1 (ji6)) ≤ (rd l0 (l1.length : Int))) = false := decide_eq_false c9
              clear c9
              by_cases c10 : (ji6) < (l0.length : Int)
              · rw [if_pos c10] at H
                have c10b0 : decide ((ji6) < (l0.length : Int)) = true := decide_eq_true c10
                clear c10
                replace H := Option.bind_eq_some_iff.mp H
                obtain ⟨⟨t196, t197⟩, A110, H⟩ := H
                replace H : (some t196) = some r := H
                have A11 := Aside0.mk A110
                clear A110
                obtain rfl := Option.some.inj H
                have p191 : 0 ≤ ((l1.length : Int) : Int) := of_decide_eq_true as_
                have q191 : (l1.length : Int) < (l0.length : Int) := of_decide_eq_true as_
                obtain ⟨ad191, e191, hx191_0⟩ := Kd.at_int HR0.out (l1.length : Int) p191 q191
                cases e191
                (try simp only [Go.IntWalk.toNatUp] at hx191_0)
                replace p191 := eq_true p191
                replace q191 := eq_true q191
                (try (have q191n := q191; simp only [Int.ofNat_lt] at q191n))
                (try (have q191d := q191; simp only [List.length_drop] at q191d))
                have p192 : 0 ≤ ((ji6) : Int) := of_decide_eq_true as_
                have q192 : (ji6) < (l1.length : Int) := of_decide_eq_true as_
                obtain ⟨ad192, e192, hx192_0⟩ := Kd.at_int HR1.out (ji6) p192 q192
                cases e192
                replace p192 := eq_true p192
                replace q192 := eq_true q192
                (try (have q192n := q192; simp only [Int.ofNat_lt] at q192n))
                (try (have q192d := q192; simp only [List.length_drop] at q192d))
                have p193 : 0 ≤ ((l1.length : Int) : Int) := of_decide_eq_true as_
                have q193 : (l1.length : Int) < (l0.length : Int) := of_decide_eq_true as_
                obtain ⟨ad193, e193, hx193_0⟩ := Kd.at_int HR0.out (l1.length : Int) p193 q193
                obtain rfl : ad191 = ad193 := (by injection e193)
                (try simp only [Go.IntWalk.toNatUp] at hx193_0)
                replace p193 := eq_true p193
                replace q193 := eq_true q193
                (try (have q193n := q193; simp only [Int.ofNat_lt] at q193n))
                (try (have q193d := q193; simp only [List.length_drop] at q193d))
                have p194 : 0 ≤ ((ji6) : Int) := of_decide_eq_true as_
                have q194 : (ji6) < (l0.length : Int) := of_decide_eq_true as_
                obtain ⟨ad194, e194, hx194_0⟩ := Kd.at_int HR0.out (ji6) p194 q194
                obtain rfl : ad191 = ad194 := (by injection e194)
                replace p194 := eq_true p194
                replace q194 := eq_true q194
                (try (have q194n := q194; simp only [Int.ofNat_lt] at q194n))
                (try (have q194d := q194; simp only [List.length_drop] at q194d))
                have p195 : 0 ≤ ((ji6) : Int) := of_decide_eq_true as_
                have q195 : (ji6) < (l1.length : Int) := of_decide_eq_true as_
                obtain ⟨ad195, e195, hx195_0⟩ := Kd.at_int HR1.out (ji6) p195 q195
                obtain rfl : ad192 = ad195 := (by injection e195)
                replace p195 := eq_true p195
                replace q195 := eq_true q195
                (try (have q195n := q195; simp only [Int.ofNat_lt] at q195n))
                (try (have q195d := q195; simp only [List.length_drop] at q195d))
                go_enter Try.func88, Try.ntmps88
                go_wp2_with (first | (go_at_call 99; (with_reducible refine (bits_Div64.calls k (rd l0 (l1.length : Int)) (rd l0 (ji6)) (rd l1 (ji6)) t196 t197 _ A11.out).mono ?_); rintro e w' ⟨rfl, ⟨nd, rfl⟩⟩; (try first | exact ⟨rfl, _, World.drewN_drewN _ _ _⟩ | exact ⟨rfl, _, Eq.trans (World.drewN_drewN _ _ _) (congrArg (World.drewN _) (Nat.add_assoc _ _ _))⟩)))
                repeat (go_quiet (first | (go_at_call 99; (with_reducible refine (bits_Div64.calls k (rd l0 (l1.length : Int)) (rd l0 (ji6)) (rd l1 (ji6)) t196 t197 _ A11.out).mono ?_); rintro e w' ⟨rfl, ⟨nd, rfl⟩⟩; (try first | exact ⟨rfl, _, World.drewN_drewN _ _ _⟩ | exact ⟨rfl, _, Eq.trans (World.drewN_drewN _ _ _) (congrArg (World.drewN _) (Nat.add_assoc _ _ _))⟩))); try go_wp2_with (first | (go_at_call 99; (with_reducible refine (bits_Div64.calls k (rd l0 (l1.length : Int)) (rd l0 (ji6)) (rd l1 (ji6)) t196 t197 _ A11.out).mono ?_); rintro e w' ⟨rfl, ⟨nd, rfl⟩⟩; (try first | exact ⟨rfl, _, World.drewN_drewN _ _ _⟩ | exact ⟨rfl, _, Eq.trans (World.drewN_drewN _ _ _) (congrArg (World.drewN _) (Nat.add_assoc _ _ _))⟩))))
                go_ret
                exact ⟨by first | rfl | (simp; done) | (simp only [← hji6] <;> (first | rfl | simp)) | (simp [*]; done), by repeat (first | exact Drawn0.refl _ | apply Drawn0.step)⟩
              · rw [if_neg c10] at H
                exact absurd H (by simp)
          · rw [if_neg c8] at H
            exact absurd H (by simp)
        · rw [if_neg c7] at H
          exact absurd H (by simp)
      · rw [if_neg c5] at H
        exact absurd H (by simp)
    · rw [if_neg c4] at H
      exact absurd H (by simp)
def natdiv_digit.l0 : Nat → List Int → List Int → Int → List Int → Option (Int × List Int)
  | 0, _, _, _, _ => none
  | k + 1, x0, x1, x6, x7 => (nat_Cmp.f x7 x0).bind fun t206 => (if t206 > 0 then ((nat_Sub.f k x7 x1).bind fun t207 => (natdiv_digit.l0 k x0 x1 (IntKind.u64.wrap (x6 - 1)) t207)) else ((nat_Sub.f k x0 x7).bind fun t210 => (some (x6, t210))))
def natdiv_digit.f (k : Nat) (l0 : List Int) (l1 : List Int) : Option (Int × List Int) := (nat_Cmp.f l0 l1).bind fun t198 => (if t198 < 0 then (some (0, l0)) else ((natdiv_trial.f k l0 l1).bind fun t199 => ((nat_Mul.f l1 (([t199] : List Int))).bind fun t203 => (natdiv_digit.l0 k l0 l1 t199 t203))))
theorem natdiv_digit.mono_l : ∀ k, (∀ y0 y1 y2 y3, LeO (natdiv_digit.l0 k y0 y1 y2 y3) (natdiv_digit.l0 (k + 1) y0 y1 y2 y3))
  | 0 => fun _ _ _ _ r h => by simp [natdiv_digit.l0] at h
  | k + 1 => by
    have ih0 := natdiv_digit.mono_l k
    · intro y0 y1 y2 y3
      unfold natdiv_digit.l0
      repeat' first
      | (with_reducible exact ih0 _ _ _ _)
      | (with_reducible exact nat_Sub.mono _ _ _)
      | (with_reducible exact natdiv_trial.mono _ _ _)
      | (with_reducible exact LeO.refl _)
      | (with_reducible exact LeO.none _)
      | (with_reducible refine LeO.ite ?_ ?_)
      | (with_reducible refine LeO.bind ?_ (fun _ => ?_))
      | exact ih0 _ _ _ _
      | exact nat_Sub.mono _ _ _
      | exact natdiv_trial.mono _ _ _
      | exact LeO.none _
      | refine LeO.ite ?_ ?_
      | refine LeO.bind ?_ (fun _ => ?_)
theorem natdiv_digit.mono : ∀ a0 a1 k, LeO (natdiv_digit.f k a0 a1) (natdiv_digit.f (k + 1) a0 a1) := by
  intro a0 a1 k
  have ih0 := natdiv_digit.mono_l k
  unfold natdiv_digit.f
  repeat' first
      | (with_reducible exact ih0 _ _ _ _)
      | (with_reducible exact nat_Sub.mono _ _ _)
      | (with_reducible exact natdiv_trial.mono _ _ _)
      | (with_reducible exact LeO.refl _)
      | (with_reducible exact LeO.none _)
      | (with_reducible refine LeO.ite ?_ ?_)
      | (with_reducible refine LeO.bind ?_ (fun _ => ?_))
      | exact ih0 _ _ _ _
      | exact nat_Sub.mono _ _ _
      | exact natdiv_trial.mono _ _ _
      | exact LeO.none _
      | refine LeO.ite ?_ ?_
      | refine LeO.bind ?_ (fun _ => ?_)
set_option maxHeartbeats 8000000 in
set_option maxRecDepth 100000 in
theorem natdiv_digit.calls (k : Nat) (P0_ : Nat → Prop) (u9000_ : Value) (l0 : List Int) (P1_ : Nat → Prop) (A1 : Option Addr) (c1 : Nat) (l1 : List Int) (r1 : Int) (r2 : List Int) (w0 w : World) (hB : Below w0.heap.size w0 w) (ho0 : Kd.R (Kd.int .u64) 55 w w0.heap.size P0_ u9000_ l0) (hs1 : Kd.V (Kd.int .u64) 55 w w0.heap.size (fun k_ => P1_ k_ ∧ some k_ ≠ (u9000_ : Value).ownBlock) (.slice A1 l1.length c1) l1) (h : natdiv_digit.f k l0 l1 = some (r1, r2)) :
    Calls Try.prog 54 #[u9000_, .slice A1 l1.length c1] w fun e w' => ∃ v1_ : Value, e = .returned (.tuple #[.int .u64 r1, v1_]) ∧ Kd.R (Kd.int .u64) 55 w' w0.heap.size (fun k_ => (P0_ k_ ∨ w.heap.size ≤ k_)) v1_ r2 ∧ Below w0.heap.size w0 w' ∧ Kept w w' (fun k_ => P0_ k_) := by
  have HO0 := Aside0.mk (show Kd.R (Kd.int .u64) 55 w w0.heap.size (fun k_ => (P0_ k_ ∨ w.heap.size ≤ k_)) u9000_ l0 from Kd.R_mono ho0 (fun k_ hk => (.inl hk)))
  have HO1 := Aside0.mk (show Kd.V (Kd.int .u64) 55 w w0.heap.size (fun k_ => ((P0_ k_ ∨ P1_ k_) ∨ w.heap.size ≤ k_) ∧ some k_ ≠ (u9000_ : Value).ownBlock) (.slice A1 l1.length c1) l1 from Kd.V_mono hs1 (fun k_ hk => ⟨.inl (.inr hk.1), hk.2⟩))
  have HK := Aside0.mk (Kept.refl w (fun k_ => P0_ k_))
  have HW0 := Aside0.mk hB.size
  have HB := Aside0.mk hB
  clear hB
  have H : ((nat_Cmp.f l0 l1).bind fun t198 => (if t198 < 0 then (some (0, l0)) else ((natdiv_trial.f k l0 l1).bind fun t199 => ((nat_Mul.f l1 (([t199] : List Int))).bind fun t203 => (natdiv_digit.l0 k l0 l1 t199 t203))))) = some (r1, r2) := h
  clear h
  replace H := Option.bind_eq_some_iff.mp H
  obtain ⟨t198, A30, H⟩ := H
  replace H : (if t198 < 0 then (some (0, l0)) else ((natdiv_trial.f k l0 l1).bind fun t199 => ((nat_Mul.f l1 (([t199] : List Int))).bind fun t203 => (natdiv_digit.l0 k l0 l1 t199 t203)))) = some (r1, r2) := H
  have A3 := Aside0.mk A30
  clear A30
  by_cases c4 : t198 < 0
  · rw [if_pos c4] at H
    have c4b0 : decide (t198 < 0) = true := decide_eq_true c4
    clear c4
    simp only [Option.some.injEq, Prod.mk.injEq] at H
    obtain ⟨rfl, rfl⟩ := H
    obtain ⟨Ao5, co5, eo5⟩ := Kd.R_slice HO0.out
    subst eo5
    go_enter Try.func54, Try.ntmps54
    go_wp2_with (first | ((with_reducible refine gate_callee (f := 18) rfl ?_); refine goesL_ (some 10) rfl rfl Try.func18 (by kernel_rfl) rfl #[.slice Ao5 l0.length co5, .slice A1 l1.length c1] rfl ar_ ?_; (with_reducible refine (nat_Cmp.calls _ _ l0 _ _ l1 t198 _ ?side1 ?side2 ?side3 ?side4 A3.out).mono ?_); (case side1 => exact cs_ (Kd.R_reads' HO0.out).2.2); (case side2 => exact (Kd.R_reads' HO0.out).2.1); (case side3 => repeat (first | exact (Kd.V_reads' HO1.out).2.2 | (with_reducible refine Kd.C_alloc ?_ _) | (with_reducible refine Kd.C_drewN ?_ _) | (with_reducible refine Kd.C_drew ?_))); (case side4 => exact (Kd.V_reads' HO1.out).2.1); rintro e w6 ⟨rfl, hb⟩; refine ⟨_, rfl, ?_⟩; have n0_ := Aside0.mk (Kd.R_below (up_ HO0) hb); have n1_ := Aside0.mk (Kd.V_below (by (with_reducible repeat (first | apply Kd.V_alloc | apply Kd.V_drewN | apply Kd.V_drew)); exact HO1.out) hb); have n2_ := Aside0.mk (Kept.below (S := (fun k_ => P0_ k_)) (by repeat (first | (with_reducible first | exact HK.out | apply Kept.alloc | apply Kept.drewN | apply Kept.drew) | exact HK.out)) hb); have n3_ := Aside0.mk (below_step (dn_ HB) hb); clear HO0; clear HO1; clear HK; clear HB; have HO0 := n0_; have HO1 := n1_; have HK := n2_; have HB := n3_; clear n0_ n1_ n2_ n3_; (try clear hb); (try clear hk)))
    go_ret2
    exact ⟨_, er_, by (with_reducible repeat (first | apply Kd.R_alloc | apply Kd.R_drewN | apply Kd.R_drew)); exact HO0.out, dn_ HB, by repeat (first | (with_reducible first | exact HK.out | apply Kept.alloc | apply Kept.drewN | apply Kept.drew) | exact HK.out)⟩
  · rw [if_neg c4] at H
    have c4b0 : decide (t198 < 0) = false := decide_eq_false c4
    clear c4
    replace H := Option.bind_eq_some_iff.mp H
    obtain ⟨t199, A70, H⟩ := H
    replace H : ((nat_Mul.f l1 (([t199] : List Int))).bind fun t203 => (natdiv_digit.l0 k l0 l1 t199 t203)) = some (r1, r2) := H
    have A7 := Aside0.mk A70
    clear A70
    obtain ⟨y200, hy200⟩ : ∃ y_ : List Int, y_ = (([t199] : List Int)) := ⟨_, rfl⟩
    replace H : ((nat_Mul.f l1 y200).bind fun t203 => (natdiv_digit.l0 k l0 l1 t199 t203)) = some (r1, r2) := by first | (rw [hy200]; with_reducible exact H) | (have H2_ := (Option.bind_some _ _).symm.trans H; rw [hy200]; with_reducible exact H2_) | (have H2_ := (Option.bind_some _ _).symm.trans H; with_reducible exact H2_) | with_reducible exact H | (rw [hy200]; exact H) | exact H
    have Ny200 := Aside0.mk hy200
    clear hy200
    replace H := Option.bind_eq_some_iff.mp H
    obtain ⟨t203, A80, H⟩ := H
    replace H : (natdiv_digit.l0 k l0 l1 t199 t203) = some (r1, r2) := H
    have A8 := Aside0.mk A80
    clear A80
    have H' := Aside0.mk H
    clear H
    obtain ⟨Ao9, co9, eo9⟩ := Kd.R_slice HO0.out
    subst eo9
    go_enter Try.func54, Try.ntmps54
    go_wp2_with (first | ((with_reducible refine gate_callee (f := 18) rfl ?_); refine goesL_ (some 10) rfl rfl Try.func18 (by kernel_rfl) rfl #[.slice Ao9 l0.length co9, .slice A1 l1.length c1] rfl ar_ ?_; (with_reducible refine (nat_Cmp.calls _ _ l0 _ _ l1 t198 _ ?side1 ?side2 ?side3 ?side4 A3.out).mono ?_); (case side1 => exact cs_ (Kd.R_reads' HO0.out).2.2); (case side2 => exact (Kd.R_reads' HO0.out).2.1); (case side3 => repeat (first | exact (Kd.V_reads' HO1.out).2.2 | (with_reducible refine Kd.C_alloc ?_ _) | (with_reducible refine Kd.C_drewN ?_ _) | (with_reducible refine Kd.C_drew ?_))); (case side4 => exact (Kd.V_reads' HO1.out).2.1); rintro e w10 ⟨rfl, hb⟩; refine ⟨_, rfl, ?_⟩; have n0_ := Aside0.mk (Kd.R_below (up_ HO0) hb); have n1_ := Aside0.mk (Kd.V_below (by (with_reducible repeat (first | apply Kd.V_alloc | apply Kd.V_drewN | apply Kd.V_drew)); exact HO1.out) hb); have n2_ := Aside0.mk (Kept.below (S := (fun k_ => P0_ k_)) (by repeat (first | (with_reducible first | exact HK.out | apply Kept.alloc | apply Kept.drewN | apply Kept.drew) | exact HK.out)) hb); have n3_ := Aside0.mk (below_step (dn_ HB) hb); clear HO0; clear HO1; clear HK; clear HB; have HO0 := n0_; have HO1 := n1_; have HK := n2_; have HB := n3_; clear n0_ n1_ n2_ n3_; (try clear hb); (try clear hk)) | ((with_reducible refine gate_callee (f := 88) rfl ?_); refine goesL_ (some 15) rfl rfl Try.func88 (by kernel_rfl) rfl #[.slice Ao9 l0.length co9, .slice A1 l1.length c1] rfl ar_ ?_; (with_reducible refine (natdiv_trial.calls k _ _ l0 _ _ l1 t199 _ ?side1 ?side2 ?side3 ?side4 A7.out).mono ?_); (case side1 => exact cs_ (Kd.R_reads' HO0.out).2.2); (case side2 => exact (Kd.R_reads' HO0.out).2.1); (case side3 => repeat (first | exact (Kd.V_reads' HO1.out).2.2 | (with_reducible refine Kd.C_alloc ?_ _) | (with_reducible refine Kd.C_drewN ?_ _) | (with_reducible refine Kd.C_drew ?_))); (case side4 => exact (Kd.V_reads' HO1.out).2.1); rintro e w' ⟨rfl, ⟨nd, rfl⟩⟩; refine ⟨_, rfl, ?_⟩) | ((with_reducible refine gate_dst (N := 18) rfl ?_); refine Kd.R_lit (Kd.int .u64) _ 55 ?hg (N := 18) ?hd (xs := ([t199] : List Int)) (inner := [.int .u64 t199]) (ok := fun _ => True) (okp := fun _ => True) ?hr ?hp (fun _ hk => hk) trivial (Below.refl _ _) (Nat.le_refl _) (by simp) ?_; (case hd => rfl); (case hg => rfl); (case hr => first | (go_simp; done) | (go_simp; rfl)); (case hp => exact (Reps.one (show Kd.M (Kd.int .u64) _ _ _ t199 [.int .u64 t199] from rfl) (Reps.none _ _))); intro v201 w11 ho12 hb hg_ hnew_; clear hg_ hnew_; (first | rw [← Ny200.out] at ho12 | (simp only [Int.reduceToNat] at ho12; rw [← Ny200.out] at ho12)); have n0_ := Aside0.mk (Kd.R_elder' (up_ HO0) (Kd.R_base ho12) hb); have n1_ := Aside0.mk (Kd.V_elder' (by (with_reducible repeat (first | apply Kd.V_alloc | apply Kd.V_drewN | apply Kd.V_drew)); exact HO1.out) (Kd.R_base ho12) hb); have n2_ := Aside0.mk (Kd.R_lower (Kd.R_new' (Kd.R_newM (M := fun k_ => (P0_ k_ ∨ w.heap.size ≤ k_)) ho12 (by first | exact HK.out.1 | exact (show Kept w _ (fun k_ => P0_ k_) from by repeat (first | (with_reducible first | exact HK.out | apply Kept.alloc | apply Kept.drewN | apply Kept.drew) | exact HK.out)).1) (fun k_ h_ => .inr h_)) (Kd.R_lt (up_ HO0))) (below_size (dn_ HB))); have n3_ := Aside0.mk (Kept.below (S := (fun k_ => P0_ k_)) (by repeat (first | (with_reducible first | exact HK.out | apply Kept.alloc | apply Kept.drewN | apply Kept.drew) | exact HK.out)) hb); have n4_ := Aside0.mk (below_step (dn_ HB) hb); clear HO0; clear HO1; clear HK; clear HB; have HO0 := n0_; have HO1 := n1_; have HO202 := n2_; have HK := n3_; have HB := n4_; clear n0_ n1_ n2_ n3_ n4_; clear hb ho12; obtain ⟨Ao13, co13, eo13⟩ := Kd.R_slice HO202.out; subst eo13) | ((with_reducible refine gate_callee (f := 16) rfl ?_); refine goesL_ (some 19) rfl rfl Try.func16 (by kernel_rfl) rfl #[.slice A1 l1.length c1, .slice Ao13 y200.length co13] rfl ar_ ?_; (with_reducible refine (nat_Mul.calls _ _ l1 _ _ y200 t203 _ ?side1 ?side2 ?side3 ?side4 A8.out).mono ?_); (case side1 => repeat (first | exact (Kd.V_reads' HO1.out).2.2 | (with_reducible refine Kd.C_alloc ?_ _) | (with_reducible refine Kd.C_drewN ?_ _) | (with_reducible refine Kd.C_drew ?_))); (case side2 => exact (Kd.V_reads' HO1.out).2.1); (case side3 => exact cs_ (Kd.R_reads' HO202.out).2.2); (case side4 => exact (Kd.R_reads' HO202.out).2.1); rintro e w14 ⟨v204, rfl, ho0, hb⟩; refine ⟨_, rfl, ?_⟩; have n0_ := Aside0.mk (Kd.R_elder' (up_ HO0) (Kd.R_base ho0) hb); have n1_ := Aside0.mk (Kd.V_elder' (by (with_reducible repeat (first | apply Kd.V_alloc | apply Kd.V_drewN | apply Kd.V_drew)); exact HO1.out) (Kd.R_base ho0) hb); have n2_ := Aside0.mk (Kd.R_elder' (up_ HO202) (Kd.R_base ho0) hb); have n3_ := Aside0.mk (Kd.R_lower (Kd.R_new' (Kd.R_new' (Kd.R_newM (M := fun k_ => (P0_ k_ ∨ w.heap.size ≤ k_)) ho0 (by first | exact HK.out.1 | exact (show Kept w _ (fun k_ => P0_ k_) from by repeat (first | (with_reducible first | exact HK.out | apply Kept.alloc | apply Kept.drewN | apply Kept.drew) | exact HK.out)).1) (fun k_ h_ => .inr h_)) (Kd.R_lt (up_ HO0))) (Kd.R_lt (up_ HO202))) (below_size (dn_ HB))); have n4_ := Aside0.mk (Kept.below (S := (fun k_ => P0_ k_)) (by repeat (first | (with_reducible first | exact HK.out | apply Kept.alloc | apply Kept.drewN | apply Kept.drew) | exact HK.out)) hb); have n5_ := Aside0.mk (below_step (dn_ HB) hb); clear HO0; clear HO1; clear HO202; clear HK; clear HB; have HO0 := n0_; have HO1 := n1_; have HO202 := n2_; have HO205 := n3_; have HK := n4_; have HB := n5_; clear n0_ n1_ n2_ n3_ n4_ n5_; (try clear hb); (try clear hk); (try clear ho0)))
    go_loopg [6, 7] k (fun kq v6 v7 w' => ∃ (x6_1 : Int) (x7_1 : List Int), v6 = .int .u64 x6_1 ∧ Aside0 (natdiv_digit.l0 kq l0 l1 x6_1 x7_1 = some (r1, r2)) ∧ Aside0 (kq ≤ k) ∧ Aside0 (Kd.R (Kd.int .u64) 55 w' w0.heap.size (fun k_ => (P0_ k_ ∨ w.heap.size ≤ k_) ∧ some k_ ≠ (v7 : Value).ownBlock) (.slice Ao9 l0.length co9) l0) ∧ Aside0 (Kd.V (Kd.int .u64) 55 w' w0.heap.size (fun k_ => ((P0_ k_ ∨ P1_ k_) ∨ w.heap.size ≤ k_) ∧ some k_ ≠ ((.slice Ao9 l0.length co9) : Value).ownBlock ∧ some k_ ≠ (v7 : Value).ownBlock) (.slice A1 l1.length c1) l1) ∧ Aside0 (Kd.R (Kd.int .u64) 55 w' w0.heap.size (fun k_ => (P0_ k_ ∨ w.heap.size ≤ k_) ∧ some k_ ≠ ((.slice Ao9 l0.length co9) : Value).ownBlock) v7 x7_1) ∧ Aside0 (Kept w w' (fun k_ => P0_ k_)) ∧ Aside0 (Below w0.heap.size w0 w'))
    case atStart => exact ⟨(t199), (t203), (by first | rfl | (simp; done) | (simp [*]; done)), H', ⟨Nat.le_refl _⟩, ⟨by (with_reducible repeat (first | apply Kd.R_alloc | apply Kd.R_drewN | apply Kd.R_drew)); exact Kd.R_mono HO0.out (fun _ hk => ⟨hk.1.1, hk.2⟩)⟩, ⟨by (with_reducible repeat (first | apply Kd.V_alloc | apply Kd.V_drewN | apply Kd.V_drew)); exact Kd.V_mono HO1.out (fun _ hk => ⟨hk.1.1.1, ⟨hk.1.1.2, hk.2⟩⟩)⟩, ⟨by (with_reducible repeat (first | apply Kd.R_alloc | apply Kd.R_drewN | apply Kd.R_drew)); exact Kd.R_mono HO205.out (fun _ hk => ⟨hk.1.1.1, hk.1.2⟩)⟩, ⟨by repeat (first | (with_reducible first | exact HK.out | apply Kept.alloc | apply Kept.drewN | apply Kept.drew) | exact HK.out)⟩, ⟨dn_ HB⟩⟩
    case round =>
      clear H'
      try clear c1
      try clear p2
      try clear c4
      try clear c4b0
      try clear c5
      try clear c8
      obtain ⟨x6_1, x7_1, rfl, HA, HK1, HO_0, HO_1, HO_7, HK, HB⟩ := hrel
      cases gk with
      | zero => exact absurd HA.out (by simp [natdiv_digit.l0])
      | succ k1 =>
        have H := HA.out
        clear HA
        simp only [natdiv_digit.l0] at H
        replace H := Option.bind_eq_some_iff.mp H
        obtain ⟨t206, A150, H⟩ := H
        replace H : (if t206 > 0 then ((nat_Sub.f k1 x7_1 l1).bind fun t207 => (natdiv_digit.l0 k1 l0 l1 (IntKind.u64.wrap (x6_1 - 1)) t207)) else ((nat_Sub.f k1 l0 x7_1).bind fun t210 => (some (x6_1, t210)))) = some (r1, r2) := H
        have A15 := Aside0.mk A150
        clear A150
        by_cases c16 : t206 > 0
        · rw [if_pos c16] at H
          have c16b0 : decide (0 < t206) = true := decide_eq_true c16
          clear c16
          replace H := Option.bind_eq_some_iff.mp H
          obtain ⟨t207, A170, H⟩ := H
          replace H : (natdiv_digit.l0 k1 l0 l1 (IntKind.u64.wrap (x6_1 - 1)) t207) = some (r1, r2) := H
          have A17 := Aside0.mk A170
          clear A170
          have H' := Aside0.mk H
          clear H
          obtain ⟨Ao18, co18, eo18⟩ := Kd.R_slice HO_7.out
          subst eo18
          go_wp2_with (first | ((with_reducible refine gate_callee (f := 18) rfl ?_); refine goesL_ (some 22) rfl rfl Try.func18 (by kernel_rfl) rfl #[.slice Ao18 x7_1.length co18, .slice Ao9 l0.length co9] rfl ar_ ?_; (with_reducible refine (nat_Cmp.calls _ _ x7_1 _ _ l0 t206 _ ?side1 ?side2 ?side3 ?side4 A15.out).mono ?_); (case side1 => exact cs_ (Kd.R_reads' HO_7.out).2.2); (case side2 => exact (Kd.R_reads' HO_7.out).2.1); (case side3 => exact cs_ (Kd.R_reads' HO_0.out).2.2); (case side4 => exact (Kd.R_reads' HO_0.out).2.1); rintro e w19 ⟨rfl, hb⟩; refine ⟨_, rfl, ?_⟩; have n0_ := Aside0.mk (Kd.R_below (up_ HO_0) hb); have n1_ := Aside0.mk (Kd.V_below (by (with_reducible repeat (first | apply Kd.V_alloc | apply Kd.V_drewN | apply Kd.V_drew)); exact HO_1.out) hb); have n2_ := Aside0.mk (Kd.R_below (up_ HO_7) hb); have n3_ := Aside0.mk (Kept.below (S := (fun k_ => P0_ k_)) (by repeat (first | (with_reducible first | exact HK.out | apply Kept.alloc | apply Kept.drewN | apply Kept.drew) | exact HK.out)) hb); have n4_ := Aside0.mk (below_step (dn_ HB) hb); clear HO_0; clear HO_1; clear HO_7; clear HK; clear HB; have HO_0 := n0_; have HO_1 := n1_; have HO_7 := n2_; have HK := n3_; have HB := n4_; clear n0_ n1_ n2_ n3_ n4_; (try clear hb); (try clear hk)) | ((with_reducible refine gate_callee (f := 77) rfl ?_); refine goesL_ (some 28) rfl rfl Try.func77 (by kernel_rfl) rfl #[.slice Ao18 x7_1.length co18, .slice A1 l1.length c1] rfl ar_ ?_; (with_reducible refine (nat_Sub.calls k1 (fun k_ => some k_ = (.slice Ao18 x7_1.length co18 : Value).ownBlock) _ _ x7_1 (fun k_ => (((P0_ k_ ∨ P1_ k_) ∨ w.heap.size ≤ k_) ∧ (some k_ ≠ (.slice Ao9 l0.length co9 : Value).ownBlock ∧ some k_ ≠ (.slice Ao18 x7_1.length co18 : Value).ownBlock))) _ _ l1 t207 _ ?side1 ?side2 A17.out).mono ?_); (case side1 => exact Kd.R_V (Kd.R_tight rfl (HO_7.out))); (case side2 => exact HO_1.out); rintro e w20 ⟨v208, rfl, ho0, hb⟩; refine ⟨_, rfl, ?_⟩; have n0_ := Aside0.mk (Kd.R_elder' (up_ HO_0) (Kd.R_base ho0) hb); have n1_ := Aside0.mk (Kd.V_elder' (by (with_reducible repeat (first | apply Kd.V_alloc | apply Kd.V_drewN | apply Kd.V_drew)); exact HO_1.out) (Kd.R_base ho0) hb); have n2_ := Aside0.mk (Kd.R_elder' (up_ HO_7) (Kd.R_base ho0) hb); have n3_ := Aside0.mk (Kd.R_lower (Kd.R_new' (Kd.R_new' (Kd.R_newM (M := fun k_ => (P0_ k_ ∨ w.heap.size ≤ k_)) (Kd.R_mono (ok' := fun k_ => True) ho0 (fun _ hk_ => trivial)) (by first | exact HK.out.1 | exact (show Kept w _ (fun k_ => P0_ k_) from by repeat (first | (with_reducible first | exact HK.out | apply Kept.alloc | apply Kept.drewN | apply Kept.drew) | exact HK.out)).1) (fun k_ h_ => .inr h_)) (Kd.R_lt (up_ HO_0))) (Kd.R_lt (up_ HO_7))) (below_size (dn_ HB))); have n4_ := Aside0.mk (Kept.below (S := (fun k_ => P0_ k_)) (by repeat (first | (with_reducible first | exact HK.out | apply Kept.alloc | apply Kept.drewN | apply Kept.drew) | exact HK.out)) hb); have n5_ := Aside0.mk (below_step (dn_ HB) hb); clear HO_0; clear HO_1; clear HO_7; clear HK; clear HB; have HO_0 := n0_; have HO_1 := n1_; have HO_7 := n2_; have HO209 := n3_; have HK := n4_; have HB := n5_; clear n0_ n1_ n2_ n3_ n4_ n5_; (try clear hb); (try clear hk); (try clear ho0)))
          go_roundg k1
          case measure => have := HK1.out; omega
          case rel => exact ⟨(IntKind.u64.wrap (x6_1 - 1)), (t207), (by first | rfl | (simp; done) | (simp [*]; done)), H', ⟨by have := HK1.out; omega⟩, ⟨by (with_reducible repeat (first | apply Kd.R_alloc | apply Kd.R_drewN | apply Kd.R_drew)); exact Kd.R_mono HO_0.out (fun _ hk => ⟨hk.1.1, hk.2⟩)⟩, ⟨by (with_reducible repeat (first | apply Kd.V_alloc | apply Kd.V_drewN | apply Kd.V_drew)); exact Kd.V_mono HO_1.out (fun _ hk => ⟨hk.1.1, ⟨hk.1.2.1, hk.2⟩⟩)⟩, ⟨by (with_reducible repeat (first | apply Kd.R_alloc | apply Kd.R_drewN | apply Kd.R_drew)); exact Kd.R_mono HO209.out (fun _ hk => ⟨hk.1.1.1, hk.1.2⟩)⟩, ⟨by repeat (first | (with_reducible first | exact HK.out | apply Kept.alloc | apply Kept.drewN | apply Kept.drew) | exact HK.out)⟩, ⟨dn_ HB⟩⟩
        · rw [if_neg c16] at H
          have c16b0 : decide (0 < t206) = false := decide_eq_false c16
          clear c16
          replace H := Option.bind_eq_some_iff.mp H
          obtain ⟨t210, A210, H⟩ := H
          replace H : (some (x6_1, t210)) = some (r1, r2) := H
          have A21 := Aside0.mk A210
          clear A210
          simp only [Option.some.injEq, Prod.mk.injEq] at H
          obtain ⟨rfl, rfl⟩ := H
          obtain ⟨Ao22, co22, eo22⟩ := Kd.R_slice HO_7.out
          subst eo22
          go_wp2_with (first | ((with_reducible refine gate_callee (f := 18) rfl ?_); refine goesL_ (some 22) rfl rfl Try.func18 (by kernel_rfl) rfl #[.slice Ao22 x7_1.length co22, .slice Ao9 l0.length co9] rfl ar_ ?_; (with_reducible refine (nat_Cmp.calls _ _ x7_1 _ _ l0 t206 _ ?side1 ?side2 ?side3 ?side4 A15.out).mono ?_); (case side1 => exact cs_ (Kd.R_reads' HO_7.out).2.2); (case side2 => exact (Kd.R_reads' HO_7.out).2.1); (case side3 => exact cs_ (Kd.R_reads' HO_0.out).2.2); (case side4 => exact (Kd.R_reads' HO_0.out).2.1); rintro e w23 ⟨rfl, hb⟩; refine ⟨_, rfl, ?_⟩; have n0_ := Aside0.mk (Kd.R_below (up_ HO_0) hb); have n1_ := Aside0.mk (Kd.V_below (by (with_reducible repeat (first | apply Kd.V_alloc | apply Kd.V_drewN | apply Kd.V_drew)); exact HO_1.out) hb); have n2_ := Aside0.mk (Kd.R_below (up_ HO_7) hb); have n3_ := Aside0.mk (Kept.below (S := (fun k_ => P0_ k_)) (by repeat (first | (with_reducible first | exact HK.out | apply Kept.alloc | apply Kept.drewN | apply Kept.drew) | exact HK.out)) hb); have n4_ := Aside0.mk (below_step (dn_ HB) hb); clear HO_0; clear HO_1; clear HO_7; clear HK; clear HB; have HO_0 := n0_; have HO_1 := n1_; have HO_7 := n2_; have HK := n3_; have HB := n4_; clear n0_ n1_ n2_ n3_ n4_; (try clear hb); (try clear hk)) | ((with_reducible refine gate_callee (f := 77) rfl ?_); refine goesL_ (some 32) rfl rfl Try.func77 (by kernel_rfl) rfl #[.slice Ao9 l0.length co9, .slice Ao22 x7_1.length co22] rfl ar_ ?_; (with_reducible refine (nat_Sub.calls k1 (fun k_ => some k_ = (.slice Ao9 l0.length co9 : Value).ownBlock) _ _ l0 (fun k_ => some k_ = (.slice Ao22 x7_1.length co22 : Value).ownBlock) _ _ x7_1 t210 _ ?side1 ?side2 A21.out).mono ?_); (case side1 => exact Kd.R_V (Kd.R_tight rfl (HO_0.out))); (case side2 => exact Kd.R_V (Kd.R_tight rfl (HO_7.out))); rintro e w24 ⟨v211, rfl, ho0, hb⟩; refine ⟨_, rfl, ?_⟩; have n0_ := Aside0.mk (Kd.R_elder' (up_ HO_0) (Kd.R_base ho0) hb); have n1_ := Aside0.mk (Kd.V_elder' (by (with_reducible repeat (first | apply Kd.V_alloc | apply Kd.V_drewN | apply Kd.V_drew)); exact HO_1.out) (Kd.R_base ho0) hb); have n2_ := Aside0.mk (Kd.R_elder' (up_ HO_7) (Kd.R_base ho0) hb); have n3_ := Aside0.mk (Kd.R_lower (Kd.R_new' (Kd.R_new' (Kd.R_newM (M := fun k_ => (P0_ k_ ∨ w.heap.size ≤ k_)) (Kd.R_mono (ok' := fun k_ => True) ho0 (fun _ hk_ => trivial)) (by first | exact HK.out.1 | exact (show Kept w _ (fun k_ => P0_ k_) from by repeat (first | (with_reducible first | exact HK.out | apply Kept.alloc | apply Kept.drewN | apply Kept.drew) | exact HK.out)).1) (fun k_ h_ => .inr h_)) (Kd.R_lt (up_ HO_0))) (Kd.R_lt (up_ HO_7))) (below_size (dn_ HB))); have n4_ := Aside0.mk (Kept.below (S := (fun k_ => P0_ k_)) (by repeat (first | (with_reducible first | exact HK.out | apply Kept.alloc | apply Kept.drewN | apply Kept.drew) | exact HK.out)) hb); have n5_ := Aside0.mk (below_step (dn_ HB) hb); clear HO_0; clear HO_1; clear HO_7; clear HK; clear HB; have HO_0 := n0_; have HO_1 := n1_; have HO_7 := n2_; have HO212 := n3_; have HK := n4_; have HB := n5_; clear n0_ n1_ n2_ n3_ n4_ n5_; (try clear hb); (try clear hk); (try clear ho0)))
          go_ret2
          exact ⟨_, er_, by (with_reducible repeat (first | apply Kd.R_alloc | apply Kd.R_drewN | apply Kd.R_drew)); exact Kd.R_mono HO212.out (fun _ hk => hk.1.1.1), dn_ HB, by repeat (first | (with_reducible first | exact HK.out | apply Kept.alloc | apply Kept.drewN | apply Kept.drew) | exact HK.out)⟩
end Go.Proofs.Ytjbpchebabhoeaa.P
end
section
set_option linter.unusedVariables false
set_option linter.unusedSimpArgs false
namespace Go.Proofs.Ytjbpchebabhoeaa.Nt
open Go.RowKit Go.Proofs.Ytjbpchebabhoeaa.P Go.Proofs.Ytjbpchebabhoeaa.X Go.Proofs.Ytjbpchebabhoeaa.Bt Go.Proofs.Ytjbpchebabhoeaa.Dg Go.Proofs.YtjbpchebabhoeaaW.PrintWords
def Top (D : Nat) : Prop := 0 < D ∧ 18446744073709551616 ^ (L D).length ≤ 2 * D
theorem trial_f {R D : Nat} (hT : Top D) (h1 : D ≤ R) (h2 : R < D * 18446744073709551616) (fn : (L D).length ≤ 17592186044416) {k : Nat} (hk : 40000000000 < k) : ∃ t : Nat, natdiv_trial.f k (L R) (L D) = some (t : Int) ∧ R / D ≤ t ∧ t < 18446744073709551616 := by
  obtain ⟨hD, htop⟩ := hT
  have hmn := L_mono h1
  have hn0 : (L D).length ≠ 0 := fun h => by rw [L_len0] at h; omega
  have hm2 : (L R).length ≤ (L D).length + 1 := by
    apply L_le
    rw [Nat.pow_succ]
    exact Nat.lt_trans h2 (Nat.mul_lt_mul_of_pos_right (lt_L D) (by omega))
  obtain ⟨n, hn⟩ : ∃ n, (L D).length = n + 1 := ⟨(L D).length - 1, by omega⟩
  unfold natdiv_trial.f
  rw [hn] at htop hmn hm2 fn ⊢
  rw [w64 (x := ((n + 1 : Nat) : Int) + 1) (by omega) (by omega), w64 (x := ((n + 1 : Nat) : Int) - 1) (by omega) (by omega)]
  by_cases hc : ((L R).length : Int) < ((n + 1 : Nat) : Int) + 1
  · rw [if_pos hc]
    refine ⟨1, rfl, ?_, by omega⟩
    have hlt := lt_L R
    rw [show (L R).length = n + 1 by omega] at hlt
    have : R / D < 2 := by rw [Nat.div_lt_iff_lt_mul hD]; omega
    omega
  · rw [if_neg hc, if_pos (by omega), if_pos (by omega), show (((n + 1 : Nat) : Int) - 1) = (n : Int) by omega, if_pos (by omega), if_pos (by omega), rd_nat, rd_nat, rd_nat]
    have g1 := limb (L_wf R) (n + 1)
    have g2 := limb (L_wf R) n
    have g3 := limb (L_wf D) n
    obtain ⟨r1, e1⟩ : ∃ x : Nat, (L R).getD (n + 1) 0 = (x : Int) := ⟨((L R).getD (n + 1) 0).toNat, by omega⟩
    obtain ⟨r0, e2⟩ : ∃ x : Nat, (L R).getD n 0 = (x : Int) := ⟨((L R).getD n 0).toNat, by omega⟩
    obtain ⟨d0, e3⟩ : ∃ x : Nat, (L D).getD n 0 = (x : Int) := ⟨((L D).getD n 0).toNat, by omega⟩
    rw [e1] at g1 ⊢
    rw [e2] at g2 ⊢
    rw [e3] at g3 ⊢
    by_cases hge : (r1 : Int) ≥ (d0 : Int)
    · rw [if_pos hge]
      refine ⟨18446744073709551615, rfl, ?_, by omega⟩
      have : R / D < 18446744073709551616 := by rw [Nat.div_lt_iff_lt_mul hD, Nat.mul_comm]; exact h2
      omega
    · rw [if_neg hge, if_pos (by omega)]
      obtain ⟨z, hz⟩ := Div64_f (h := r1) (l := r0) (y := d0) (by omega) (by omega) (by omega) hk
      rw [hz, Option.bind_some]
      refine ⟨_, rfl, ?_, ?_⟩
      ·
        have sR := val_split 18446744073709551616 (L R) n
        have sD := val_split 18446744073709551616 (L D) n
        rw [val_drop 18446744073709551616 (L R) n, e2, Int.toNat_natCast, val_drop 18446744073709551616 (L R) (n + 1), e1, Int.toNat_natCast, List.drop_eq_nil_of_le (show (L R).length ≤ n + 1 + 1 by omega), val_nil] at sR
        rw [val_drop 18446744073709551616 (L D) n, e3, Int.toNat_natCast, List.drop_eq_nil_of_le (show (L D).length ≤ n + 1 by omega), val_nil] at sD
        have vR := L_val R
        have vD := L_val D
        unfold V at vR vD
        rw [vR] at sR
        rw [vD] at sD
        have hlow : val 18446744073709551616 ((L R).take n) < 18446744073709551616 ^ n := by
          have := val_lt ((L_wf R).take n)
          rwa [List.length_take, Nat.min_eq_left (by omega)] at this
        rw [Nat.mul_zero, Nat.add_zero] at sR sD
        rw [Nat.le_div_iff_mul_le (by omega)]
        have hQ := Nat.div_mul_le_self R D
        have hp : 0 < 18446744073709551616 ^ n := Nat.pow_pos (by omega)
        generalize R / D = Q at *
        generalize 18446744073709551616 ^ n = T at *
        have h3 : Q * d0 * T ≤ R := by
          refine Nat.le_trans ?_ hQ
          rw [Nat.mul_assoc]
          refine Nat.mul_le_mul_left Q ?_
          rw [sD, Nat.mul_comm]
          exact Nat.le_add_left _ _
        have h4 : Q * d0 * T < (r1 * 18446744073709551616 + r0 + 1) * T := by
          refine Nat.lt_of_le_of_lt h3 ?_
          rw [sR, Nat.add_mul, Nat.one_mul, Nat.mul_comm _ T, show r1 * 18446744073709551616 + r0 = r0 + 18446744073709551616 * r1 by omega]
          omega
        have := Nat.lt_of_mul_lt_mul_right h4
        omega
      · rw [Nat.div_lt_iff_lt_mul (by omega)]
        omega
theorem digit_loop {R D : Nat} (hT : Top D) (h1 : D ≤ R) (h2 : R < D * 18446744073709551616) (fn : (L D).length ≤ 17592186044416) : ∀ (m q k : Nat), q = R / D + m → q < 18446744073709551616 → m + 200000000000000 < k →
    natdiv_digit.l0 k (L R) (L D) (q : Int) (L (q * D)) = some (((R / D : Nat) : Int), L (R % D)) := by
  obtain ⟨hD, htop⟩ := hT
  have fR : (L R).length ≤ 17592186044417 := by
    refine Nat.le_trans (L_le (k := (L D).length + 1) ?_) (by omega)
    rw [Nat.pow_succ]
    exact Nat.lt_trans h2 (Nat.mul_lt_mul_of_pos_right (lt_L D) (by omega))
  have fP : ∀ q : Nat, q < 18446744073709551616 → (L (q * D)).length ≤ 17592186044417 := by
    intro q hq
    refine Nat.le_trans (L_le (k := (L D).length + 1) ?_) (by omega)
    rw [Nat.pow_succ, Nat.mul_comm]
    exact Nat.lt_of_lt_of_le (Nat.mul_lt_mul_of_pos_left hq hD) (Nat.mul_le_mul_right _ (Nat.le_of_lt (lt_L D)))
  have hdm := Nat.div_add_mod R D
  have hml := Nat.mod_lt R hD
  intro m
  induction m with
  | zero =>
    intro q k hq hqB hk
    obtain ⟨k, rfl⟩ : ∃ n, k = n + 1 := ⟨k - 1, by omega⟩
    simp only [natdiv_digit.l0]
    have hle : q * D ≤ R := by rw [hq, Nat.add_zero]; exact Nat.div_mul_le_self R D
    have fq := fP q hqB
    rw [Cmp_f (L_wf _) (L_wf _) (by omega) (by omega), L_val, L_val, Option.bind_some]
    have : ¬ (sign3 (q * D) R > 0) := by
      unfold sign3
      split
      · omega
      · rw [if_neg (by omega)]; omega
    rw [if_neg this, Sub_f (L_wf _) (L_wf _) (by omega) (by omega) (by omega), L_val, L_val, Option.bind_some, if_neg (by omega)]
    rw [hq, Nat.add_zero]
    congr 3
    rw [Nat.mul_comm]
    omega
  | succ m ih =>
    intro q k hq hqB hk
    obtain ⟨k, rfl⟩ : ∃ n, k = n + 1 := ⟨k - 1, by omega⟩
    simp only [natdiv_digit.l0]
    have hgt : R < q * D := by
      have := Nat.mul_le_mul_right D (show R / D + 1 ≤ q by omega)
      rw [Nat.add_mul, Nat.one_mul, Nat.mul_comm] at this
      omega
    have fq := fP q hqB
    rw [Cmp_f (L_wf _) (L_wf _) (by omega) (by omega), L_val, L_val, Option.bind_some]
    have : sign3 (q * D) R > 0 := by
      unfold sign3
      rw [if_neg (by omega), if_pos hgt]
      omega
    rw [if_pos this, Sub_f (L_wf _) (L_wf _) (by omega) (by omega) (by omega), L_val, L_val, Option.bind_some]
    have hq0 : 0 < q := by
      rcases Nat.eq_zero_or_pos q with h | h
      · rw [h, Nat.zero_mul] at hgt; omega
      · exact h
    obtain ⟨q', rfl⟩ : ∃ q', q = q' + 1 := ⟨q - 1, by omega⟩
    rw [if_neg (by rw [Nat.add_mul]; omega), u64_in (by omega) (by omega), show (((q' + 1 : Nat) : Int) - 1) = (q' : Int) by omega, show (q' + 1) * D - D = q' * D by rw [Nat.add_mul]; omega]
    exact ih q' k (by omega) (by omega) (by omega)
theorem digit_f {R D : Nat} (hT : Top D) (h2 : R < D * 18446744073709551616) (fn : (L D).length ≤ 17592186044416) {k : Nat} (hk : 20000000000000000000 < k) : natdiv_digit.f k (L R) (L D) = some (((R / D : Nat) : Int), L (R % D)) := by
  have fR : (L R).length ≤ 17592186044417 := by
    refine Nat.le_trans (L_le (k := (L D).length + 1) ?_) (by omega)
    rw [Nat.pow_succ]
    exact Nat.lt_trans h2 (Nat.mul_lt_mul_of_pos_right (lt_L D) (by omega))
  unfold natdiv_digit.f
  rw [Cmp_f (L_wf _) (L_wf _) (by omega) (by omega), L_val, L_val, Option.bind_some]
  by_cases h : R < D
  · have : sign3 R D < 0 := by
      unfold sign3
      rw [if_pos h]
      omega
    rw [if_pos this, Nat.div_eq_of_lt h, Nat.mod_eq_of_lt h]
    rfl
  · have : ¬ (sign3 R D < 0) := by
      unfold sign3
      rw [if_neg h]
      split <;> omega
    rw [if_neg this]
    obtain ⟨t, ht, ht1, ht2⟩ := trial_f hT (by omega) h2 fn (k := k) (by omega)
    rw [ht, Option.bind_some, Mul_f (L_wf _) (Wf.cons (by omega) (by omega) (Wf.nil _)) (by simp only [List.length_cons, List.length_nil]; omega), L_val, Option.bind_some]
    have hv : V [(t : Int)] = t := by
      unfold V
      rw [val_cons, val_nil, Int.toNat_natCast]
      omega
    rw [hv, Nat.mul_comm]
    exact digit_loop hT (by omega) h2 fn (t - R / D) t k (by omega) ht2 (by have := Nat.sub_le t (R / D); omega)
end Go.Proofs.Ytjbpchebabhoeaa.Nt
end
section
set_option linter.unusedVariables false
set_option linter.unusedSimpArgs false
namespace Go.Proofs.Ytjbpchebabhoeaa.X
open Go.RowKit Go.Shelf Go.Proofs.Ytjbpchebabhoeaa.P Go.Proofs.Ytjbpchebabhoeaa.Nt Go.Proofs.Ytjbpchebabhoeaa.Bt Go.Proofs.Ytjbpchebabhoeaa.Dg Go.Proofs.YtjbpchebabhoeaaW.PrintWords Go.Proofs.YtjbpchebabhoeaaW.PrintLast Go.Proofs.YtjbpchebabhoeaaW.PrintMore
attribute [local go_sem] Oper.semAt_some
instance (b : Nat) (l : List Int) : Decidable (Wf b l) := by unfold Wf; infer_instance
def natdiv_DivMod.f (l0 l1 : List Int) : Option (List Int × List Int × Int) :=
  if W64 l0 ∧ W64 l1 ∧ l0.length ≤ 17592186044000 ∧ l1.length ≤ 17592186044000 then some (if V l1 = 0 then ([], [], 7) else (L (V l0 / V l1), L (V l0 % V l1), 0)) else none
theorem two_T {T X : Nat} (h : T * 9223372036854775808 ≤ X) : T * 18446744073709551616 ≤ 2 * X := by
  rw [show (18446744073709551616 : Nat) = 9223372036854775808 * 2 from rfl, ← Nat.mul_assoc, Nat.mul_comm _ 2]
  exact Nat.mul_le_mul_left 2 h
theorem top_shl {D0 n x s : Nat} (h0 : 0 < D0) (hn : (L D0).length = n + 1) (hx : (L D0).getD n 0 = (x : Int)) (hs : s = 64 - blen x) : s < 64 ∧ Top (D0 * 2 ^ s) ∧ (L (D0 * 2 ^ s)).length = n + 1 := by
  have hl := limb (L_wf D0) n
  have hne : (L D0) ≠ [] := fun h => by rw [h] at hn; simp at hn
  have hlast := digs_last (b := 18446744073709551616) (by omega) D0 hne
  have hlast2 : 0 < (L D0).getD n 0 := by
    have : (L D0).length - 1 = n := by omega
    rw [← this]
    exact hlast
  rw [hx] at hl hlast2
  have hxp : 0 < x := by omega
  have b1 := blen_pos hxp
  have b2 : blen x ≤ 64 := blen_le (by omega)
  have b3 := blen_ge hxp
  have b4 := lt_blen x
  have sD := val_split 18446744073709551616 (L D0) n
  rw [val_drop 18446744073709551616 (L D0) n, hx, Int.toNat_natCast, List.drop_eq_nil_of_le (show (L D0).length ≤ n + 1 by omega), val_nil, Nat.mul_zero, Nat.add_zero] at sD
  have vD := L_val D0
  unfold V at vD
  rw [vD] at sD
  have hlow : val 18446744073709551616 ((L D0).take n) < 18446744073709551616 ^ n := by
    have := val_lt ((L_wf D0).take n)
    rwa [List.length_take, Nat.min_eq_left (by omega)] at this
  have hsp : 0 < 2 ^ s := Nat.pow_pos (by omega)
  have hx1 : x * 2 ^ s < 18446744073709551616 := by
    have := Nat.mul_lt_mul_of_pos_right b4 hsp
    rwa [← Nat.pow_add, show blen x + s = 64 by omega] at this
  have hx2 : 9223372036854775808 ≤ x * 2 ^ s := by
    have := Nat.mul_le_mul_right (2 ^ s) b3
    rwa [← Nat.pow_add, show blen x - 1 + s = 63 by omega] at this
  have hx3 : (x + 1) * 2 ^ s ≤ 18446744073709551616 := by
    have := Nat.mul_le_mul_right (2 ^ s) (show x + 1 ≤ 2 ^ blen x by omega)
    rwa [← Nat.pow_add, show blen x + s = 64 by omega] at this
  generalize hT : 18446744073709551616 ^ n = T at sD hlow
  have hTp : 0 < T := by rw [← hT]; exact Nat.pow_pos (by omega)
  have hlt : D0 * 2 ^ s < T * 18446744073709551616 := by
    have h1 : D0 < T * (x + 1) := by rw [Nat.mul_add, Nat.mul_one]; omega
    have h2 := Nat.mul_lt_mul_of_pos_right h1 hsp
    rw [Nat.mul_assoc] at h2
    exact Nat.lt_of_lt_of_le h2 (Nat.mul_le_mul_left T hx3)
  have hge : T * 9223372036854775808 ≤ D0 * 2 ^ s := by
    have h1 : T * x ≤ D0 := by omega
    have h2 := Nat.mul_le_mul_right (2 ^ s) h1
    rw [Nat.mul_assoc] at h2
    exact Nat.le_trans (Nat.mul_le_mul_left T hx2) h2
  have hlen : (L (D0 * 2 ^ s)).length = n + 1 := by
    apply Nat.le_antisymm
    · apply L_le
      rw [Nat.pow_succ, hT]
      exact hlt
    · have h1 : (L D0).length ≤ (L (D0 * 2 ^ s)).length := L_mono (by have := Nat.mul_le_mul_left D0 hsp; omega)
      omega
  refine ⟨by omega, ⟨Nat.mul_pos h0 hsp, ?_⟩, hlen⟩
  rw [hlen, Nat.pow_succ, hT]
  exact two_T hge
def dstep (nl : List Int) (D : Nat) (st : Nat × List Int) (i : Nat) : Nat × List Int :=
  ((st.1 * 18446744073709551616 + (nl.getD i 0).toNat) % D, st.2.set i (((st.1 * 18446744073709551616 + (nl.getD i 0).toNat) / D : Nat) : Int))
def drun (nl : List Int) (D : Nat) {n : Nat} (xs : List (Fin n)) : Nat × List Int := xs.foldl (fun st x => dstep nl D st x.1) (0, List.replicate n 0)
theorem drun_snoc (nl : List Int) (D : Nat) {n : Nat} (xs : List (Fin n)) (x : Fin n) : drun nl D (xs ++ [x]) = dstep nl D (drun nl D xs) x.1 := by simp [drun]
theorem drun_rest {nl : List Int} {D : Nat} (hD : 0 < D) {n : Nat} (xs : List (Fin n)) : (drun nl D xs).1 < D ∧ (drun nl D xs).2.length = n := by
  have : ∀ ys : List (Fin n), (drun nl D ys.reverse).1 < D ∧ (drun nl D ys.reverse).2.length = n := by
    intro ys
    induction ys with
    | nil => exact ⟨hD, by simp [drun]⟩
    | cons y ys ih =>
      rw [List.reverse_cons, drun_snoc]
      exact ⟨Nat.mod_lt _ hD, by simp [dstep, ih.2]⟩
  have h := this xs.reverse
  rwa [List.reverse_reverse] at h
theorem drun_down {nl : List Int} {D : Nat} (hn : W64 nl) (hD : 0 < D) : ∀ k, k ≤ nl.length → (drun nl D (downF nl.length k)).1 = V (nl.drop (nl.length - k)) % D ∧ W64 (drun nl D (downF nl.length k)).2 ∧ V ((drun nl D (downF nl.length k)).2) = 18446744073709551616 ^ (nl.length - k) * (V (nl.drop (nl.length - k)) / D) ∧ (∀ j, j < nl.length - k → (drun nl D (downF nl.length k)).2.getD j 0 = 0)
  | 0, _ => by
    rw [Nat.sub_zero, List.drop_length]
    refine ⟨?_, ?_, ?_, ?_⟩
    · simp [drun, downF, V, val_nil]
    · exact Wf.zeros (by omega) _
    · simp [drun, downF, V, val_nil, val_zeros]
    · intro j hj
      simp only [drun, downF, List.foldl_nil]
      rw [List.getD_eq_getElem?_getD, List.getElem?_replicate]
      split <;> rfl
  | k + 1, hk => by
    obtain ⟨h1, h2, h3, h4⟩ := drun_down hn hD k (by omega)
    obtain ⟨hr, hlen⟩ := drun_rest (nl := nl) hD (downF nl.length k)
    rw [downF_succ (by omega), drun_snoc]
    dsimp only
    generalize drun nl D (downF nl.length k) = st at *
    obtain ⟨R, ql⟩ := st
    simp only at h1 h2 h3 h4 hr hlen
    simp only [dstep]
    obtain ⟨i, hi⟩ : ∃ i, nl.length - 1 - k = i := ⟨_, rfl⟩
    rw [show nl.length - k = i + 1 by omega] at h1 h3 h4
    rw [show nl.length - (k + 1) = i by omega, hi]
    have hl := limb hn i
    obtain ⟨x, hx⟩ : ∃ x : Nat, nl.getD i 0 = (x : Int) := ⟨(nl.getD i 0).toNat, by omega⟩
    have hvd : V (nl.drop i) = x + 18446744073709551616 * V (nl.drop (i + 1)) := by
      unfold V
      rw [val_drop 18446744073709551616 nl i, hx, Int.toNat_natCast]
    rw [hx, Int.toNat_natCast, hvd]
    rw [hx] at hl
    generalize V (nl.drop (i + 1)) = Z at *
    have hz := Nat.div_add_mod Z D
    have e1 : x + 18446744073709551616 * Z = D * (18446744073709551616 * (Z / D)) + (R * 18446744073709551616 + x) := by
      rw [← h1, Nat.mul_comm] at hz
      rw [Nat.mul_left_comm, Nat.mul_comm D]
      generalize Z / D * D = P at *
      omega
    have hqlt : (R * 18446744073709551616 + x) / D < 18446744073709551616 := by
      rw [Nat.div_lt_iff_lt_mul hD, Nat.mul_comm]
      have := Nat.mul_le_mul_right 18446744073709551616 (show R + 1 ≤ D by omega)
      rw [Nat.add_mul] at this
      omega
    refine ⟨?_, h2.set i (Int.natCast_nonneg _) (Int.ofNat_lt.2 hqlt), ?_, ?_⟩
    · rw [e1, Nat.mul_add_mod]
    · have hs := val_set (b := 18446744073709551616) (l := ql) (i := i) (by omega) (((R * 18446744073709551616 + x) / D : Nat) : Int)
      rw [h4 i (by omega), Int.toNat_natCast] at hs
      unfold V at *
      rw [show (0 : Int).toNat = 0 from rfl, Nat.mul_zero, Nat.add_zero, h3] at hs
      rw [hs, e1, Nat.mul_add_div hD, Nat.mul_add, Nat.pow_succ, Nat.mul_assoc]
    · intro j hj
      rw [Nt.getD_set_ne (by omega)]
      exact h4 j (by omega)
set_option maxRecDepth 100000 in
set_option maxHeartbeats 4000000 in
theorem natdiv_DivMod.calls (A0 : Option Addr) (c0 : Nat) (l0 : List Int) (A1 : Option Addr) (c1 : Nat) (l1 : List Int) (r1 : List Int) (r2 : List Int) (r3 : Int) (w : World) (hr0 : Kd.C (Kd.int .u64) w A0 l0.length l0) (hc0 : l0.length ≤ c0) (hr1 : Kd.C (Kd.int .u64) w A1 l1.length l1) (hc1 : l1.length ≤ c1) (h : natdiv_DivMod.f l0 l1 = some (r1, r2, r3)) :
    Calls Try.prog 12 #[.slice A0 l0.length c0, .slice A1 l1.length c1] w fun e w' => ∃ v0_ v1_ : Value, e = .returned (.tuple #[v0_, v1_, .int .i64 r3]) ∧ Kd.R (Kd.int .u64) 55 w' w.heap.size (fun k_ => some k_ ≠ (v1_ : Value).ownBlock) v0_ r1 ∧ Kd.R (Kd.int .u64) 55 w' w.heap.size (fun k_ => some k_ ≠ (v0_ : Value).ownBlock) v1_ r2 ∧ Below w.heap.size w w' := by
  unfold natdiv_DivMod.f at h
  by_cases hw : W64 l0 ∧ W64 l1 ∧ l0.length ≤ 17592186044000 ∧ l1.length ≤ 17592186044000
  case neg => rw [if_neg hw] at h; cases h
  rw [if_pos hw] at h
  obtain ⟨hw0, hw1, hlen0, hlen1⟩ := hw
  have h2 := Option.some.inj h
  clear h
  have hN := Norm_f hw1 (by omega) (k := l1.length + 1) (by omega)
  have hV0 := V_lt hw0
  have hV1 := V_lt hw1
  have HR0 := Aside0.mk hr0
  have HR1 := Aside0.mk hr1
  have HN := Aside0.mk hN
  clear hr0 hr1 hN
  obtain ⟨D0, hD0⟩ : ∃ D0, V l1 = D0 := ⟨_, rfl⟩
  rw [hD0] at HN hV1 h2
  have hdl : (L D0).length ≤ l1.length := L_le hV1
  refine (callsIn_wide (n := 3)).1 ?_
  refine callsIn_of_wp_marks Try.func12 rfl trivial ?_ rfl
  simp only [Try.ntmps12, List.size_toArray, List.length_cons, List.length_nil, Nat.reduceAdd, Nat.reduceSub, Array.replicate_succ, Array.replicate_zero, List.push_toArray, List.append_toArray, List.nil_append, List.cons_append]
  by_cases hz : D0 = 0
  case pos =>
    subst hz
    rw [L_zero] at HN
    rw [if_pos rfl] at h2
    simp only [Prod.mk.injEq] at h2
    obtain ⟨rfl, rfl, rfl⟩ := h2
    gi_wp2_with (first
      | (refine ⟨trivial, ?_⟩; gi_at_call 17; (with_reducible refine (callsIn_wide.2 (nat_Norm.calls _ A1 c1 l1 [] _ ?sa hc1 HN.out)).mono ?_); (case sa => exact HR1.out); rintro e w1 ⟨v1, rfl, ho1, hb1⟩; obtain ⟨Ad, cd, rfl⟩ := Kd.R_slice ho1))
    refine ⟨.tuple #[.slice none 0 0, .slice none 0 0, .int .i64 7], ?_, .slice none 0 0, .slice none 0 0, rfl, Kd.R_nil _ _ _ _ _, Kd.R_nil _ _ _ _ _, below_alloc hb1 _⟩
    simp [results, Try.f12, go_sem]
  case neg =>
    rw [if_neg hz] at h2
    simp only [Prod.mk.injEq] at h2
    obtain ⟨rfl, rfl, rfl⟩ := h2
    have hD0p : 0 < D0 := by omega
    obtain ⟨n, hn⟩ : ∃ n, (L D0).length = n + 1 := ⟨(L D0).length - 1, by have : (L D0).length ≠ 0 := fun h => hz (L_len0.1 h); omega⟩
    have hxl := limb (L_wf D0) n
    obtain ⟨x, hx⟩ : ∃ x : Nat, (L D0).getD n 0 = (x : Int) := ⟨((L D0).getD n 0).toNat, by omega⟩
    rw [hx] at hxl
    obtain ⟨s, hs⟩ : ∃ s, s = 64 - blen x := ⟨_, rfl⟩
    obtain ⟨hs64, hTop, hlD⟩ := top_shl hD0p hn hx hs
    have hxb : blen x ≤ 64 := blen_le (by omega)
    have hLZ : bits_LeadingZeros64.f (x : Int) = some (s : Int) := by
      unfold bits_LeadingZeros64.f
      rw [if_pos (by omega), Int.toNat_natCast, bitLen_eq x (by omega)]
      congr 1
      omega
    have hS1 : natdiv_shl.f (L D0) (s : Int) = some (L (D0 * 2 ^ s)) := by
      have := shl_f (L_wf D0) s (by omega) (by omega)
      rwa [L_val] at this
    have hS0 : natdiv_shl.f l0 (s : Int) = some (L (V l0 * 2 ^ s)) := shl_f hw0 s (by omega) (by omega)
    have hNl : (L (V l0 * 2 ^ s)).length ≤ l0.length + 1 := by
      apply L_le
      rw [Nat.pow_succ]
      refine Nat.lt_of_lt_of_le (Nat.mul_lt_mul_of_pos_right hV0 (Nat.pow_pos (by omega))) (Nat.mul_le_mul_left _ ?_)
      exact Nat.le_trans (Nat.pow_le_pow_right (by omega) (show s ≤ 64 by omega)) (by decide)
    generalize hDD : D0 * 2 ^ s = D at hTop hlD hS1
    generalize hNN : V l0 * 2 ^ s = N at hS0 hNl
    have HLZ := Aside0.mk hLZ
    have HS1 := Aside0.mk hS1
    have HS0 := Aside0.mk hS0
    clear hLZ hS1 hS0 hs
    obtain ⟨m, hm⟩ : ∃ m, (L N).length = m := ⟨_, rfl⟩
    have hmk : ∀ w, (Instr.makeSlice 22 (.int .i64 (m : Int)) (.int .i64 (m : Int))).run Try.prog w = .ok (.slice (some ⟨w.heap.size, 0, none⟩) m m) (w.alloc (.cells (madeCells #[.int .u64 0] m) 55)) := print_make 22 55 .u64 8 Try.underlying22 info55 (by omega) m (by omega)
    have b0 : ((n : Int) + 1 == 0) = false := by simp; omega
    have b1 : (n + 1 == 0) = false := by simp
    have b2 : (0 ≤ (n : Int)) = True := eq_true (by omega)
    have b3 : ((n : Int) < (n : Int) + 1) = True := eq_true (by omega)
    have hC1 : ∀ (A : Option Addr) (c : Nat) (w : World), Kd.C (Kd.int .u64) w A (L D0).length (L D0) → (L D0).length ≤ c → Calls Try.prog 52 #[.slice A (n + 1) c, .int .i64 (s : Int)] w fun e w' => ∃ v0_ : Value, e = .returned (v0_) ∧ Kd.R (Kd.int .u64) 55 w' w.heap.size (fun _ => True) v0_ (L D) ∧ Below w.heap.size w w' := by
      intro A c w h1 h2
      rw [← hn]
      exact natdiv_shl.calls A c (L D0) (s : Int) (L D) w h1 h2 HS1.out
    gi_wp2_with (first
      | (refine ⟨trivial, ?_⟩; gi_at_call 17; (with_reducible refine (callsIn_wide.2 (nat_Norm.calls _ A1 c1 l1 (L D0) _ ?sa hc1 HN.out)).mono ?_); (case sa => exact HR1.out); rintro e w1 ⟨v1, rfl, ho1, hb1⟩; obtain ⟨ad, cd, rfl⟩ := Kd.R_slice1 ho1 (by omega); obtain ⟨ad_, e_, hx1⟩ := Kd.at_int (Kd.R_reads' ho1).2.2 (n : Int) (by omega) (by omega); cases e_; rw [Int.toNat_natCast, rd_nat, hx] at hx1; have hx2 := fun o => Lib.cell?_alloc_some o hx1; rw [hn] at ho1 ⊢)
      | (refine ⟨trivial, ?_⟩; gi_at_call 51; (with_reducible refine (callsIn_wide.2 (bits_LeadingZeros64.calls (x : Int) (s : Int) _ HLZ.out)).mono ?_); rintro e w' ⟨rfl, ⟨nd, rfl⟩⟩)
      | (refine ⟨trivial, ?_⟩; gi_at_call 52; (with_reducible refine (callsIn_wide.2 (hC1 (some ad) cd _ ?sa ?sb)).mono ?_); (case sa => repeat (first | exact (Kd.R_reads' ho1).2.2 | (with_reducible refine Kd.C_alloc ?_ _) | (with_reducible refine Kd.C_drewN ?_ _) | (with_reducible refine Kd.C_drew ?_))); (case sb => have := (Kd.R_reads' ho1).2.1; omega); rintro e w2 ⟨v2, rfl, ho2, hb2⟩; obtain ⟨ad2, cd2, rfl⟩ := Kd.R_slice1 ho2 (by omega); rw [hlD] at ho2 ⊢; have hB1 := pw_below_drewN (below_alloc hb1 (Obj.cells #[Value.slice (some ad) (n + 1) cd] 22)) nd; have hbw2 := hB1.trans (hb2.mono hB1.size); have k7 := blk_below (blk_drewN (blk_new w1 (Obj.cells #[Value.slice (some ad) (n + 1) cd] 22)) nd) hb2; have g7 := blk_cell k7 0; have f7 := blk_frozen k7 0; simp only [List.getElem?_toArray, List.getElem?_cons_zero] at g7)
      | (refine ⟨trivial, ?_⟩; gi_at_call 52; (with_reducible refine (callsIn_wide.2 (natdiv_shl.calls A0 c0 l0 (s : Int) (L N) _ ?sa hc0 HS0.out)).mono ?_); (case sa => exact Kd.C_below HR0.out (hbw2.setCell (p := ⟨w1.heap.size, 0, none⟩) hb1.size _)); rintro e w3 ⟨v3, rfl, ho3, hb3⟩; obtain ⟨A3, c3, rfl⟩ := Kd.R_slice ho3; rw [hm] at ho3 ⊢; have hB2 := hbw2.setCell (p := ⟨w1.heap.size, 0, none⟩) hb1.size (Value.slice (some ad2) (n + 1) cd2); have hbw3 := hB2.trans (hb3.mono hB2.size); have k73 := blk_below (blk_set k7 0 (Value.slice (some ad2) (n + 1) cd2)) hb3)
      | (refine ⟨trivial, ?_⟩; gi_at_call 53; refine (backward_in Fence.wide _ trivial rfl _ _ _ _).mono ?_; rintro e w' ⟨rfl, rfl⟩))
    have p7 := blk_alloc (blk_alloc (blk_alloc (blk_alloc (blk_alloc k73 (Obj.cells #[Value.slice A3 m c3] 22)) (Obj.cells (madeCells #[Value.int IntKind.u64 0] m) 55)) (Obj.cells #[Value.slice (some ⟨w3.heap.size + 1, 0, none⟩) m m] 22)) (Obj.cells #[Value.slice none 0 0] 22)) (Obj.cells #[Value.slice A3 m c3] 22)
    have p9 := blk_alloc (blk_alloc (blk_alloc (blk_alloc (blk_new w3 (Obj.cells #[Value.slice A3 m c3] 22)) (Obj.cells (madeCells #[Value.int IntKind.u64 0] m) 55)) (Obj.cells #[Value.slice (some ⟨w3.heap.size + 1, 0, none⟩) m m] 22)) (Obj.cells #[Value.slice none 0 0] 22)) (Obj.cells #[Value.slice A3 m c3] 22)
    have p10 := blk_alloc (blk_alloc (blk_new ((w3.alloc (Obj.cells #[Value.slice A3 m c3] 22)).alloc (Obj.cells (madeCells #[Value.int IntKind.u64 0] m) 55)) (Obj.cells #[Value.slice (some ⟨w3.heap.size + 1, 0, none⟩) m m] 22)) (Obj.cells #[Value.slice none 0 0] 22)) (Obj.cells #[Value.slice A3 m c3] 22)
    have p11 := blk_alloc (blk_new (((w3.alloc (Obj.cells #[Value.slice A3 m c3] 22)).alloc (Obj.cells (madeCells #[Value.int IntKind.u64 0] m) 55)).alloc (Obj.cells #[Value.slice (some ⟨w3.heap.size + 1, 0, none⟩) m m] 22)) (Obj.cells #[Value.slice none 0 0] 22)) (Obj.cells #[Value.slice A3 m c3] 22)
    have ps := blk_new ((((w3.alloc (Obj.cells #[Value.slice A3 m c3] 22)).alloc (Obj.cells (madeCells #[Value.int IntKind.u64 0] m) 55)).alloc (Obj.cells #[Value.slice (some ⟨w3.heap.size + 1, 0, none⟩) m m] 22)).alloc (Obj.cells #[Value.slice none 0 0] 22)) (Obj.cells #[Value.slice A3 m c3] 22)
    rw [World.size_alloc, World.size_alloc] at p10
    rw [World.size_alloc, World.size_alloc, World.size_alloc] at p11
    rw [World.size_alloc, World.size_alloc, World.size_alloc, World.size_alloc] at ps
    have hbW := below_alloc (below_alloc (below_alloc (below_alloc (below_alloc hbw3 (Obj.cells #[Value.slice A3 m c3] 22)) (Obj.cells (madeCells #[Value.int IntKind.u64 0] m) 55)) (Obj.cells #[Value.slice (some ⟨w3.heap.size + 1, 0, none⟩) m m] 22)) (Obj.cells #[Value.slice none 0 0] 22)) (Obj.cells #[Value.slice A3 m c3] 22)
    have hsz : (((((w3.alloc (Obj.cells #[Value.slice A3 m c3] 22)).alloc (Obj.cells (madeCells #[Value.int IntKind.u64 0] m) 55)).alloc (Obj.cells #[Value.slice (some ⟨w3.heap.size + 1, 0, none⟩) m m] 22)).alloc (Obj.cells #[Value.slice none 0 0] 22)).alloc (Obj.cells #[Value.slice A3 m c3] 22)).heap.size = w3.heap.size + 5 := by simp
    have hroq : Kd.R (Kd.int .u64) 55 (((((w3.alloc (Obj.cells #[Value.slice A3 m c3] 22)).alloc (Obj.cells (madeCells #[Value.int IntKind.u64 0] m) 55)).alloc (Obj.cells #[Value.slice (some ⟨w3.heap.size + 1, 0, none⟩) m m] 22)).alloc (Obj.cells #[Value.slice none 0 0] 22)).alloc (Obj.cells #[Value.slice A3 m c3] 22)) w.heap.size (fun k => k = w3.heap.size + 1) (Value.slice (some ⟨w3.heap.size + 1, 0, none⟩) m m) (List.replicate m 0) := by
      have h1 := own_made' (w3.alloc (Obj.cells #[Value.slice A3 m c3] 22)) w.heap.size 55 .u64 m (by rw [World.size_alloc]; have := hbw3.size; omega) (by omega)
      rw [World.size_alloc] at h1
      have h2 := Kd.R_of_own (enc := Value.int .u64) (h1 := fun _ => rfl) (ok := fun k => k = w3.heap.size + 1) h1 (fun k hk => by simp only [Value.ownBlock, Option.some.injEq] at hk; exact hk.symm)
      exact Kd.R_alloc (Kd.R_alloc (Kd.R_alloc h2 _) _) _
    have h73 := blk_lt k73
    have hs12 : w1.heap.size < w2.heap.size := blk_lt k7
    have hs2 : (w2.setCell ⟨w1.heap.size, 0, none⟩ (Value.slice (some ad2) (n + 1) cd2)).heap.size = w2.heap.size := by simp
    have hs23 : w2.heap.size ≤ w3.heap.size := by have := hb3.size; rw [hs2] at this; exact this
    have hro3 : Kd.R (Kd.int .u64) 55 (((((w3.alloc (Obj.cells #[Value.slice A3 m c3] 22)).alloc (Obj.cells (madeCells #[Value.int IntKind.u64 0] m) 55)).alloc (Obj.cells #[Value.slice (some ⟨w3.heap.size + 1, 0, none⟩) m m] 22)).alloc (Obj.cells #[Value.slice none 0 0] 22)).alloc (Obj.cells #[Value.slice A3 m c3] 22)) w.heap.size (fun k => some k = (Value.slice A3 m c3 : Value).ownBlock ∧ k < w3.heap.size) (Value.slice A3 m c3) (L N) := by
      have h1 := Kd.R_lower (Kd.R_mono (Kd.R_bound (Kd.R_tight rfl ho3)) (ok' := fun k => some k = (Value.slice A3 m c3 : Value).ownBlock ∧ k < w3.heap.size) (fun k hk => ⟨hk.1, hk.2.2.1⟩)) hB2.size
      exact Kd.R_alloc (Kd.R_alloc (Kd.R_alloc (Kd.R_alloc (Kd.R_alloc h1 _) _) _) _) _
    have hro2 : Kd.R (Kd.int .u64) 55 (((((w3.alloc (Obj.cells #[Value.slice A3 m c3] 22)).alloc (Obj.cells (madeCells #[Value.int IntKind.u64 0] m) 55)).alloc (Obj.cells #[Value.slice (some ⟨w3.heap.size + 1, 0, none⟩) m m] 22)).alloc (Obj.cells #[Value.slice none 0 0] 22)).alloc (Obj.cells #[Value.slice A3 m c3] 22)) w.heap.size (fun k => some k = (Value.slice (some ad2) (n + 1) cd2 : Value).ownBlock ∧ k < w3.heap.size ∧ k ≠ w1.heap.size) (Value.slice (some ad2) (n + 1) cd2) (L D) := by
      have h0 := Kd.R_lower (Kd.R_mono (Kd.R_bound (Kd.R_tight rfl ho2)) (ok' := fun k => some k = (Value.slice (some ad2) (n + 1) cd2 : Value).ownBlock ∧ k < w3.heap.size ∧ k ≠ w1.heap.size) (fun k hk => ⟨hk.1, by have := hk.2.2.1; omega, by have := hk.2.1; simp [World.drewN] at this; omega⟩)) hB1.size
      have h1 := Kd.R_below (Kd.R_far h0 (p := ⟨w1.heap.size, 0, none⟩) (fun k hk => hk.2.2) (Value.slice (some ad2) (n + 1) cd2)) hb3
      exact Kd.R_alloc (Kd.R_alloc (Kd.R_alloc (Kd.R_alloc (Kd.R_alloc h1 _) _) _) _) _
    have hw13 : w.heap.size ≤ w3.heap.size := hbw3.size
    have h17 : w1.heap.size < w3.heap.size := by omega
    clear k73 hs12 hs2 hs23 h73 hb3 ho3 hB2 k7 f7 g7 hb2 ho2 hbw2 hB1 hx1 hx2 ho1 hb1 hbw3
    obtain ⟨W0, hW0⟩ : ∃ W0, (((((w3.alloc (Obj.cells #[Value.slice A3 m c3] 22)).alloc (Obj.cells (madeCells #[Value.int IntKind.u64 0] m) 55)).alloc (Obj.cells #[Value.slice (some ⟨w3.heap.size + 1, 0, none⟩) m m] 22)).alloc (Obj.cells #[Value.slice none 0 0] 22)).alloc (Obj.cells #[Value.slice A3 m c3] 22)) = W0 := ⟨_, rfl⟩
    rw [hW0] at p7 p9 p10 p11 ps hbW hsz hroq hro3 hro2 ⊢
    clear hW0
    obtain ⟨B3, hB3⟩ : ∃ B3, w3.heap.size = B3 := ⟨_, rfl⟩
    obtain ⟨b7, hb7⟩ : ∃ b7, w1.heap.size = b7 := ⟨_, rfl⟩
    rw [hB3] at p9 p10 p11 ps hsz hroq hro3 hro2 hw13 h17 ⊢
    rw [hb7] at p7 hro2 h17 ⊢
    clear hB3 hb7
    replace p7 : W0.heap[b7]? = some (.cells #[Value.slice (some ad2) (n + 1) cd2] 22 (0, 0)) := p7
    obtain ⟨x_, hx_⟩ : ∃ x_ : Int, (x : Int) = x_ := ⟨_, rfl⟩
    rw [hx_]
    obtain ⟨S, hS⟩ : ∃ S : Nat → Prop, S = fun k => k < B3 + 5 ∧ k ≠ B3 + 1 ∧ k ≠ B3 + 1 + 1 + 1 := ⟨_, rfl⟩
    have hSi : ∀ k, S k ↔ (k < B3 + 5 ∧ k ≠ B3 + 1 ∧ k ≠ B3 + 1 + 1 + 1) := fun k => by rw [hS]
    clear hS
    have hSlt : ∀ k, S k → k < W0.heap.size := fun k hk => by have := (hSi k).1 hk; omega
    have hR3 : ∀ W', KeepOn S W0 W' → Kd.R (Kd.int .u64) 55 W' w.heap.size (fun k => some k = (Value.slice A3 m c3 : Value).ownBlock ∧ k < B3) (Value.slice A3 m c3) (L N) := fun W' hk => Kd.R_step hro3 (fun k ho _ => hk k ((hSi k).2 (by omega)))
    have hR2 : ∀ W', KeepOn S W0 W' → Kd.R (Kd.int .u64) 55 W' w.heap.size (fun k => some k = (Value.slice (some ad2) (n + 1) cd2 : Value).ownBlock ∧ k < B3 ∧ k ≠ b7) (Value.slice (some ad2) (n + 1) cd2) (L D) := fun W' hk => Kd.R_step hro2 (fun k ho _ => hk k ((hSi k).2 (by omega)))
    have hC3 : ∀ W', KeepOn S W0 W' → Kd.C (Kd.int .u64) W' A3 (L N).length (L N) := fun W' hk => (Kd.R_reads' (hR3 W' hk)).2.2
    refine wpIn_rangeFunc_ownG rfl (by omega) (gf := 87) (lb := #[.pointer (some ⟨B3 + 1 + 1 + 1 + 1, 0, none⟩)]) rfl trivial (enters_of Try.func87 (by kernel_rfl) rfl)
      (backward_stops Fence.wide (3 - 1) trivial rfl (by omega) (B3 + 1 + 1 + 1 + 1) S A3 c3 m (L N) hm (by omega) W0 hSlt ((hSi _).2 (by omega)) (blk_cell ps 0) hC3)
      (fun h k => h.trans k) (fun W l o o' hl _ _ _ => KeepOn.putObj hSlt W l o' hl) (Below.refl _ _) (fun _ => rfl)
      (fun pre W => Below w.heap.size w W ∧ KeepOn S W0 W ∧ B3 + 5 ≤ W.heap.size ∧ (∃ vr, W.heap[B3 + 1 + 1 + 1]? = some (.cells #[vr] 22 (0, 0)) ∧ Kd.R (Kd.int .u64) 55 W w.heap.size (fun _ => True) vr (L (drun (L N) D pre).1)) ∧ Kd.R (Kd.int .u64) 55 W w.heap.size (fun k => k = B3 + 1) (Value.slice (some ⟨B3 + 1, 0, none⟩) m m) (drun (L N) D pre).2)
      (fun _ _ _ => False)
      ?hI (fun _ _ _ _ _ hs _ _ => hs) ?h0
      (fun x => { tmps := #[Value.slice A0 l0.length c0, Value.slice A1 l1.length c1, undef, undef, Value.slice none 0 0, Value.slice none 0 0, .int .i64 0, .pointer (some ⟨b7, 0, none⟩), .int .i64 s, .pointer (some ⟨B3, 0, none⟩), .pointer (some ⟨B3 + 1 + 1, 0, none⟩), .pointer (some ⟨B3 + 1 + 1 + 1, 0, none⟩), .int .i64 ((x.1 : Nat) : Int), Value.slice A1 l1.length c1, Value.slice (some ad) (n + 1) cd, Value.slice (some ad) (n + 1) cd, .int .i64 (↑n + 1), .bool false, Value.slice (some ad) (n + 1) cd, Value.slice (some ad) (n + 1) cd, .int .i64 (↑n + 1), .int .i64 n, .pointer (some (ad.add n)), .int .u64 x_, .int .i64 s, Value.slice (some ad) (n + 1) cd, .int .i64 s, Value.slice (some ad2) (n + 1) cd2, Value.slice A0 l0.length c0, .int .i64 s, Value.slice A3 m c3, Value.slice A3 m c3, .int .i64 m, Value.slice (some ⟨B3 + 1, 0, none⟩) m m, Value.slice A3 m c3, .func (.func 87) #[] #[.pointer (some ⟨B3 + 1 + 1 + 1 + 1, 0, none⟩)], .int .i64 ((x.1 : Nat) : Int), .int .u64 (rd (L N) ((x.1 : Nat) : Int)), undef, undef, undef, undef, undef, undef, undef, undef, undef, undef, undef, undef, undef, undef, undef, undef, undef, undef, undef, undef, undef, undef], defers := [] }) ?assign ?body ?done ?stop
    case hI =>
      rintro pre X Y row ⟨h1, h2, h3, ⟨vr, h4, h5⟩, h6⟩ hg hr
      have hne : ∀ {v : Value} {ok : Nat → Prop} {xs : List Int}, Kd.R (Kd.int .u64) 55 X w.heap.size ok v xs → ∀ k, row = some k → some k ≠ v.ownBlock := by
        intro v ok xs hv k hk e
        obtain ⟨cells, hc⟩ := Kd.R_typed hv k e.symm
        obtain ⟨_, o, ho, hn⟩ := hr k hk
        rw [hc] at ho
        cases ho
        cases hn
      refine ⟨h1.grown hg h1.size (fun k e => by have := (hr k e).1; omega), fun k hk => (hg.block k (by have := (hSi k).1 hk; omega) (fun e => by have := (hr k e.symm).1; have := hSlt k hk; omega)).trans (h2 k hk), Nat.le_trans h3 hg.size, ⟨vr, (hg.block _ (blk_lt h4) (fun e => ?_)).trans h4, Kd.R_grown2 h5 rfl hg (hne h5)⟩, Kd.R_grown2 h6 rfl hg (hne h6)⟩
      obtain ⟨_, o, ho, hn⟩ := hr _ e.symm
      rw [h4] at ho
      cases ho
      cases hn
    case h0 =>
      refine ⟨hbW, KeepOn.refl _ _, by omega, ⟨_, p11, ?_⟩, hroq⟩
      rw [show (drun (L N) D ([] : List (Fin m))).1 = 0 from rfl, L_zero]
      exact Kd.R_nil _ _ _ _ _
    case assign =>
      intro l x W K hK
      gi_wp2
      exact hK
    case body =>
      rintro l pre y W ⟨hBw, hKS, hWs, ⟨vr, hr11, hrR⟩, hrq⟩ _
      obtain ⟨hRlt, hql⟩ := drun_rest (nl := L N) hTop.1 pre
      have hsnoc := drun_snoc (L N) D pre y
      generalize drun (L N) D pre = st at hRlt hql hsnoc hrR hrq
      obtain ⟨R, ql⟩ := st
      simp only at hRlt hql hrR hrq
      have hyl := y.2
      have q9 := (hKS B3 ((hSi _).2 (by omega))).trans p9
      have q7 := (hKS b7 ((hSi _).2 (by omega))).trans p7
      have q10 := (hKS (B3 + 1 + 1) ((hSi _).2 (by omega))).trans p10
      obtain ⟨Ar, cr, rfl⟩ := Kd.R_slice hrR
      have hRl : (L R).length ≤ n + 1 := by rw [← hlD]; exact L_mono (Nat.le_of_lt hRlt)
      obtain ⟨i, hyi⟩ : ∃ i : Int, ((y.1 : Nat) : Int) = i := ⟨_, rfl⟩
      have hnl := limb (L_wf N) y.1
      obtain ⟨ni, hni⟩ : ∃ ni : Nat, (L N).getD y.1 0 = (ni : Int) := ⟨((L N).getD y.1 0).toNat, by omega⟩
      rw [hni] at hnl
      have p0 : 0 ≤ i := by omega
      have q0 : i < (m : Int) := by omega
      obtain ⟨ad3, e3, hx3⟩ := Kd.at_int (hC3 W hKS) i p0 (by omega)
      rw [show rd (L N) i = (ni : Int) by rw [← hyi, rd_nat, hni]] at hx3
      subst e3
      rw [hyi]
      have hp0 := eq_true p0
      have hq0 := eq_true q0
      have hmx : Try.prog.follows .mixedOrders = true := by kernel_rfl
      have g9 := blk_cell q9 0
      have g11 := blk_cell hr11 0
      simp only [List.getElem?_toArray, List.getElem?_cons_zero] at g9 g11
      gi_wp2
      refine startR_ (N := 9) (S := fun w' => w'.cell? ⟨B3, 0, none⟩ = some (Value.slice (some ad3) m c3) ∧ w'.cell? ⟨B3 + 1 + 1 + 1, 0, none⟩ = some (Value.slice Ar (L R).length cr) ∧ w'.cell? (ad3.add i.toNat) = some (.int .u64 (ni : Int))) (ds := [8]) #[false, false, false, false, false, false, false, false, false] hmx (by kernel_rfl) rfl rfl ⟨g9, g11, hx3⟩ (fun hHeld => ?_)
      obtain ⟨Wd, hWd⟩ : ∃ Wd, W.drew = Wd := ⟨_, rfl⟩
      rw [hWd] at hHeld ⊢
      have hB_d : Below w.heap.size w Wd := by rw [← hWd]; exact below_drew hBw
      have hK_d : KeepOn S W0 Wd := by rw [← hWd]; exact hKS
      have hr_d : Wd.heap[B3 + 1 + 1 + 1]? = some (.cells #[Value.slice Ar (L R).length cr] 22 (0, 0)) := by rw [← hWd]; exact hr11
      have hR_d := Kd.R_at (m := 1) hWd hrR
      have hq_d := Kd.R_at (m := 1) hWd hrq
      have hs_d : Wd.heap.size = W.heap.size := by rw [← hWd]; rfl
      refine take_ (i := 0) (N := (some 38)) (v := ?_) (a' := ?_) #[true, false, false, false, false, false, false, false, false] rfl rfl (by kernel_rfl) (fun _ _ _ h => h) (Or.inl ⟨by rfl, ?_⟩) hHeld ?_ ?_
      rotate_left
      · rintro w' ⟨s0_, s1_, s2_⟩
        go_simp
        with_reducible rfl
      rotate_left
      · simp only [Act.put, List.setIfInBounds_toArray, List.set_cons_zero, List.set_cons_succ, i64_w, i32_w]
        rfl
      refine pure_ (i := 1) (N := (some 39)) (v := ?_) (a' := ?_) #[true, true, false, false, false, false, false, false, false] rfl rfl (by kernel_rfl) (fun _ _ _ h => h) (Or.inl ⟨by rfl, ?_⟩) ?_ ?_
      rotate_left
      · intro w'
        go_simp
        with_reducible rfl
      rotate_left
      · simp only [Act.put, List.setIfInBounds_toArray, List.set_cons_zero, List.set_cons_succ, i64_w, i32_w]
        rfl
      refine pure_ (i := 2) (N := (some 40)) (v := ?_) (a' := ?_) #[true, true, true, false, false, false, false, false, false] rfl rfl (by kernel_rfl) (fun _ _ _ h => h) (Or.inl ⟨by rfl, ?_⟩) ?_ ?_
      rotate_left
      · intro w'
        go_simp
        with_reducible rfl
      rotate_left
      · simp only [Act.put, List.setIfInBounds_toArray, List.set_cons_zero, List.set_cons_succ, i64_w, i32_w]
        rfl
      refine take_ (i := 3) (N := (some 41)) (v := ?_) (a' := ?_) #[true, true, true, true, false, false, false, false, false] rfl rfl (by kernel_rfl) (fun _ _ _ h => h) (Or.inl ⟨by rfl, ?_⟩) hHeld ?_ ?_
      rotate_left
      · rintro w' ⟨s0_, s1_, s2_⟩
        go_simp
        with_reducible rfl
      rotate_left
      · simp only [Act.put, List.setIfInBounds_toArray, List.set_cons_zero, List.set_cons_succ, i64_w, i32_w]
        rfl
      refine take_ (i := 5) (N := (some 43)) (v := ?_) (a' := ?_) #[true, true, true, true, false, true, false, false, false] rfl rfl (by kernel_rfl) (fun _ _ _ h => h) (Or.inl ⟨by rfl, ?_⟩) hHeld ?_ ?_
      rotate_left
      · rintro w' ⟨s0_, s1_, s2_⟩
        go_simp
        with_reducible rfl
      rotate_left
      · simp only [Act.put, List.setIfInBounds_toArray, List.set_cons_zero, List.set_cons_succ, i64_w, i32_w]
        rfl
      refine one_ (i := 4) (N := some 42) #[true, true, true, true, true, true, false, false, false] rfl rfl (by kernel_rfl) (by decide) (fun K hK => ?_)
      have hH0 := hHeld
      have hown := own_lit Wd Wd.heap.size 55 .u64 [(ni : Int)] (Nat.le_refl _) (by simp)
      obtain ⟨Wa, hWa⟩ : ∃ Wa, Wd.alloc (.cells #[.int .u64 (ni : Int)] 55) = Wa := ⟨_, rfl⟩
      refine value_ (v := .slice (some ⟨Wd.heap.size, 0, none⟩) 1 1) (w1 := Wa) (by rfl) rfl ?hr42 ?hk42
      case hr42 =>
        rw [← hWa]
        go_simp
        try exact ⟨rfl, rfl⟩
      have hba : Below Wd.heap.size Wd Wa := by rw [← hWa]; exact below_alloc (Below.refl _ _) _
      have hRa : Kd.R (Kd.int .u64) 55 Wa Wd.heap.size (fun _ => True) (.slice (some ⟨Wd.heap.size, 0, none⟩) 1 1) [(ni : Int)] := by rw [← hWa]; exact Kd.R_of_own (enc := Value.int .u64) (h1 := fun _ => rfl) hown (fun _ _ => trivial)
      refine hK.out _ _ ⟨pw_cell_below hba hHeld.1, pw_cell_below hba hHeld.2.1, pw_cell_below hba hHeld.2.2⟩ (fun hHeld => ?_)
      clear hK K hown hWa
      refine norm_ (a' := ?_) ?_ ?_
      rotate_left
      · simp only [Act.put, List.setIfInBounds_toArray, List.set_cons_zero, List.set_cons_succ, i64_w, i32_w]
        rfl
      refine one_ (i := 6) (N := some 44) #[true, true, true, true, true, true, true, false, false] rfl rfl (by kernel_rfl) (by decide) (fun K hK => ?_)
      refine Kd.R_append_rows_step (Kd.int .u64) (Rr := (Kd.int .u64).K Wa) (w0 := Wd) Wd.heap.size (by rfl) (.tmp 42) (.tmp 43) 22 55 (.int .u64 0) 8 rfl Try.underlying22 info55 rfl (by decide) (by omega) (.slice (some ⟨Wd.heap.size, 0, none⟩) 1 1) [(ni : Int)] (L R) Ar (L R).length cr (fun _ => True) (fun _ => False) rfl rfl hRa (Kd.R_reads' (Kd.R_below hR_d hba)).2.2 (fun _ _ h => h) (fun _ h => h.elim) (fun _ _ => trivial) hba hba.size (by simp only [List.length_cons, List.length_nil]; omega) ?_
      intro v44 Wb hRb hbb hgb hatb
      refine hK.out (Act.put _ (some 44) v44) Wb ⟨pw_cell_below hbb hH0.1, pw_cell_below hbb hH0.2.1, pw_cell_below hbb hH0.2.2⟩ (fun hHeld => ?_)
      clear hK K hgb hatb hRa hba
      refine norm_ (a' := ?_) ?_ ?_
      rotate_left
      · simp only [Act.put, List.setIfInBounds_toArray, List.set_cons_zero, List.set_cons_succ, i64_w, i32_w]
        rfl
      obtain ⟨A44, c44, rfl⟩ := Kd.R_slice hRb
      have hwni : W64 ((ni : Int) :: L R) := Wf.cons (by omega) (by omega) (L_wf R)
      have hNorm := Norm_f hwni (by simp only [List.length_cons]; omega) (k := (L R).length + 2) (by simp only [List.length_cons]; omega)
      have hv1 : V ((ni : Int) :: L R) = R * 18446744073709551616 + ni := by
        have := L_val R
        unfold V at *
        rw [val_cons, this, Int.toNat_natCast]
        omega
      rw [hv1] at hNorm
      refine one_ (i := 7) (N := some 45) #[true, true, true, true, true, true, true, true, false] rfl rfl (by kernel_rfl) (by decide) (fun K hK => ?_)
      refine goes_ Try.func17 (by kernel_rfl) rfl #[.slice A44 ((ni : Int) :: L R).length c44] (by rfl) rfl rfl ar_ ?_
      refine (nat_Norm.calls _ A44 c44 ((ni : Int) :: L R) _ _ (Kd.R_reads' hRb).2.2 (Kd.R_reads' hRb).2.1 hNorm).mono ?_
      rintro e Wc ⟨v45, rfl, hRc, hbc⟩
      obtain ⟨A45, c45, rfl⟩ := Kd.R_slice hRc
      obtain ⟨n45, hn45⟩ : ∃ q, (L (R * 18446744073709551616 + ni)).length = q := ⟨_, rfl⟩
      rw [hn45] at hRc ⊢
      have hbdc : Below Wd.heap.size Wd Wc := hbb.trans (hbc.mono hbb.size)
      refine ⟨_, rfl, hK.out _ _ ⟨pw_cell_below hbdc hH0.1, pw_cell_below hbdc hH0.2.1, pw_cell_below hbdc hH0.2.2⟩ (fun hHeld => ?_)⟩
      clear hK K
      refine norm_ (a' := ?_) ?_ ?_
      rotate_left
      · simp only [Act.put, List.setIfInBounds_toArray, List.set_cons_zero, List.set_cons_succ, i64_w, i32_w]
        rfl
      have r11c := blk_below hr_d hbdc
      have g11c := blk_cell r11c 0
      have f11c := blk_frozen r11c 0
      simp only [List.getElem?_toArray, List.getElem?_cons_zero] at g11c
      refine last_ (i := 8) (N := none) #[true, true, true, true, true, true, true, true, true] rfl rfl (by kernel_rfl) (by decide) (fun K hK => ?_)
      refine skip_ (w1 := ?_) (by rfl) rfl ?_ ?_
      rotate_left
      · go_simp
        rfl
      refine hK.out _ _ ?_
      clear hK K
      refine done_ (by kernel_rfl) (onlyN ?_)
      obtain ⟨We, hWe⟩ : ∃ We, Wc.setCell ⟨B3 + 1 + 1 + 1, 0, none⟩ (Value.slice A45 n45 c45) = We := ⟨_, rfl⟩
      rw [hWe]
      have hWds : B3 + 5 ≤ Wd.heap.size := by omega
      have hB_e : Below w.heap.size w We := by rw [← hWe]; exact (hB_d.trans (hbdc.mono hB_d.size)).setCell (p := ⟨B3 + 1 + 1 + 1, 0, none⟩) (by show w.heap.size ≤ B3 + 1 + 1 + 1; omega) _
      have hK_e : KeepOn S W0 We := by
        rw [← hWe]
        exact hK_d.trans (fun k hk => (Below.heap_setCell _ _ _ k (by have := (hSi k).1 hk; show k ≠ B3 + 1 + 1 + 1; omega)).trans (hbdc.block k (by have := (hSi k).1 hk; omega)))
      have hs_e : Wd.heap.size ≤ We.heap.size := by rw [← hWe]; simpa using hbdc.size
      have hr_e : We.heap[B3 + 1 + 1 + 1]? = some (.cells #[(Value.slice A45 n45 c45)] 22 (0, 0)) := by rw [← hWe]; exact blk_set r11c 0 (Value.slice A45 n45 c45)
      have hRc2 := Kd.R_mono (Kd.R_bound (Kd.R_tight rfl hRc)) (ok' := fun k => some k = (Value.slice A45 n45 c45).ownBlock ∧ Wd.heap.size ≤ k) (fun k hk => ⟨hk.1, Nat.le_trans hbb.size hk.2.1⟩)
      have hR_e : Kd.R (Kd.int .u64) 55 We w.heap.size (fun k => some k = (Value.slice A45 n45 c45).ownBlock ∧ Wd.heap.size ≤ k) (Value.slice A45 n45 c45) (L (R * 18446744073709551616 + ni)) := by
        rw [← hWe]
        exact Kd.R_far (Kd.R_lower hRc2 (Nat.le_trans hB_d.size hbb.size)) (p := ⟨B3 + 1 + 1 + 1, 0, none⟩) (fun k hk => by have := hk.2; show k ≠ B3 + 1 + 1 + 1; omega) _
      have hq_e : Kd.R (Kd.int .u64) 55 We w.heap.size (fun k => k = B3 + 1) (Value.slice (some ⟨B3 + 1, 0, none⟩) m m) ql := by
        rw [← hWe]
        exact Kd.R_far (Kd.R_below hq_d hbdc) (p := ⟨B3 + 1 + 1 + 1, 0, none⟩) (fun k hk => by show k ≠ B3 + 1 + 1 + 1; omega) _
      have hf45 : ∀ k, (Value.slice A45 n45 c45).ownBlock = some k → Wd.heap.size ≤ k := fun k hk => (hRc2.1 k hk).2
      have hA_e : ∀ k, k < W.heap.size → k ≠ B3 + 1 + 1 + 1 → We.heap[k]? = W.heap[k]? := by
        intro k hk hne
        rw [← hWe, Below.heap_setCell _ _ _ k (by show k ≠ B3 + 1 + 1 + 1; exact hne), hbdc.block k (by omega), ← hWd]
        rfl
      clear hRc hRc2 hbc hbdc hRb hbb hH0 hHeld r11c g11c f11c hR_d hq_d hr_d hK_d hB_d hr11 hrR hrq hx3
      have q7e := (hK_e b7 ((hSi _).2 (by omega))).trans p7
      have q10e := (hK_e (B3 + 1 + 1) ((hSi _).2 (by omega))).trans p10
      have g7e := blk_cell q7e 0
      have g10e := blk_cell q10e 0
      have g11e := blk_cell hr_e 0
      simp only [List.getElem?_toArray, List.getElem?_cons_zero] at g7e g10e g11e
      gi_wp2
      refine startR_ (N := 11) (S := fun w' => w'.cell? ⟨B3 + 1 + 1, 0, none⟩ = some (Value.slice (some ⟨B3 + 1, 0, none⟩) m m) ∧ w'.cell? ⟨B3 + 1 + 1 + 1, 0, none⟩ = some (Value.slice A45 n45 c45) ∧ w'.cell? ⟨b7, 0, none⟩ = some (Value.slice (some ad2) (n + 1) cd2)) (ds := [9, 10]) #[false, false, false, false, false, false, false, false, false, false, false] hmx (by kernel_rfl) rfl rfl ⟨g10e, g11e, g7e⟩ (fun hHeld => ?_)
      obtain ⟨Wf, hWf⟩ : ∃ Wf, We.drew = Wf := ⟨_, rfl⟩
      rw [hWf] at hHeld ⊢
      have hB_f : Below w.heap.size w Wf := by rw [← hWf]; exact below_drew hB_e
      have hK_f : KeepOn S W0 Wf := by rw [← hWf]; exact hK_e
      have hr_f : Wf.heap[B3 + 1 + 1 + 1]? = some (.cells #[(Value.slice A45 n45 c45)] 22 (0, 0)) := by rw [← hWf]; exact hr_e
      have hR_f := Kd.R_at (m := 1) hWf hR_e
      have hq_f := Kd.R_at (m := 1) hWf hq_e
      have hs_f : Wf.heap.size = We.heap.size := by rw [← hWf]; rfl
      have hA_f : ∀ k, k < W.heap.size → k ≠ B3 + 1 + 1 + 1 → Wf.heap[k]? = W.heap[k]? := by rw [← hWf]; exact hA_e
      refine take_ (i := 0) (N := (some 47)) (v := ?_) (a' := ?_) #[true, false, false, false, false, false, false, false, false, false, false] rfl rfl (by kernel_rfl) (fun _ _ _ h => h) (Or.inl ⟨by rfl, ?_⟩) hHeld ?_ ?_
      rotate_left
      · rintro w' ⟨s0_, s1_, s2_⟩
        go_simp
        with_reducible rfl
      rotate_left
      · simp only [Act.put, List.setIfInBounds_toArray, List.set_cons_zero, List.set_cons_succ, i64_w, i32_w]
        rfl
      refine pure_ (i := 1) (N := (some 48)) (v := ?_) (a' := ?_) #[true, true, false, false, false, false, false, false, false, false, false] rfl rfl (by kernel_rfl) (fun _ _ _ h => h) (Or.inl ⟨by rfl, ?_⟩) ?_ ?_
      rotate_left
      · intro w'
        go_simp
        with_reducible rfl
      rotate_left
      · simp only [Act.put, List.setIfInBounds_toArray, List.set_cons_zero, List.set_cons_succ, i64_w, i32_w]
        rfl
      refine take_ (i := 2) (N := (some 49)) (v := ?_) (a' := ?_) #[true, true, true, false, false, false, false, false, false, false, false] rfl rfl (by kernel_rfl) (fun _ _ _ h => h) (Or.inl ⟨by rfl, ?_⟩) hHeld ?_ ?_
      rotate_left
      · rintro w' ⟨s0_, s1_, s2_⟩
        go_simp
        with_reducible rfl
      rotate_left
      · simp only [Act.put, List.setIfInBounds_toArray, List.set_cons_zero, List.set_cons_succ, i64_w, i32_w]
        rfl
      refine take_ (i := 3) (N := (some 50)) (v := ?_) (a' := ?_) #[true, true, true, true, false, false, false, false, false, false, false] rfl rfl (by kernel_rfl) (fun _ _ _ h => h) (Or.inl ⟨by rfl, ?_⟩) hHeld ?_ ?_
      rotate_left
      · rintro w' ⟨s0_, s1_, s2_⟩
        go_simp
        with_reducible rfl
      rotate_left
      · simp only [Act.put, List.setIfInBounds_toArray, List.set_cons_zero, List.set_cons_succ, i64_w, i32_w]
        rfl
      have hR1 : R * 18446744073709551616 + ni < D * 18446744073709551616 := by
        have := Nat.mul_le_mul_right 18446744073709551616 (show R + 1 ≤ D by omega)
        rw [Nat.add_mul] at this
        omega
      have hdf := digit_f hTop hR1 (by omega) (k := 20000000000000000001) (by omega)
      have hDig : Calls Try.prog 54 #[(Value.slice A45 n45 c45), .slice (some ad2) (n + 1) cd2] Wf fun e w' => ∃ v1_ : Value, e = .returned (.tuple #[.int .u64 (((R * 18446744073709551616 + ni) / D : Nat) : Int), v1_]) ∧ Kd.R (Kd.int .u64) 55 w' w.heap.size (fun k_ => (some k_ = ((Value.slice A45 n45 c45) : Value).ownBlock ∨ Wf.heap.size ≤ k_)) v1_ (L ((R * 18446744073709551616 + ni) % D)) ∧ Below w.heap.size w w' ∧ Kept Wf w' (fun k_ => some k_ = ((Value.slice A45 n45 c45) : Value).ownBlock) := by
        have h2 := Kd.R_mono (hR2 Wf hK_f) (ok' := fun k => k < B3 ∧ some k ≠ ((Value.slice A45 n45 c45) : Value).ownBlock) (fun k hk => ⟨hk.2.1, fun e => by have := hf45 k e.symm; omega⟩)
        rw [← hlD] at h2
        have := natdiv_digit.calls _ (fun k => some k = ((Value.slice A45 n45 c45) : Value).ownBlock) (Value.slice A45 n45 c45) (L (R * 18446744073709551616 + ni)) (fun k => k < B3) (some ad2) cd2 (L D) _ _ w Wf hB_f (Kd.R_mono hR_f (fun k hk => hk.1)) (Kd.R_V h2) hdf
        rw [hlD] at this
        exact this
      refine one_ (i := 4) (N := some 51) #[true, true, true, true, true, false, false, false, false, false, false] rfl rfl (by kernel_rfl) (by decide) (fun K hK => ?_)
      refine goes_ Try.func54 (by kernel_rfl) rfl #[(Value.slice A45 n45 c45), .slice (some ad2) (n + 1) cd2] (by rfl) rfl rfl ar_ ?_
      refine hDig.mono ?_
      rintro e Wg ⟨v51, rfl, hR_g, hB_g, hKt⟩
      clear hDig
      have hsg := hKt.1
      have hb_g : ∀ k, k < Wd.heap.size → Wg.heap[k]? = Wf.heap[k]? := fun k hk => hKt.2 k (by omega) (fun e => by have := hf45 k e.symm; omega)
      have q10g := (hb_g (B3 + 1 + 1) (by omega)).trans ((hK_f (B3 + 1 + 1) ((hSi _).2 (by omega))).trans p10)
      have q11g := (hb_g (B3 + 1 + 1 + 1) (by omega)).trans hr_f
      have q7g := (hb_g b7 (by omega)).trans ((hK_f b7 ((hSi _).2 (by omega))).trans p7)
      have g10g := blk_cell q10g 0
      have g11g := blk_cell q11g 0
      have g7g := blk_cell q7g 0
      simp only [List.getElem?_toArray, List.getElem?_cons_zero] at g10g g11g g7g
      refine ⟨_, rfl, hK.out _ _ ⟨g10g, g11g, g7g⟩ (fun hHeld => ?_)⟩
      clear hK K
      obtain ⟨A51, c51, rfl⟩ := Kd.R_slice hR_g
      obtain ⟨n51, hn51⟩ : ∃ q, (L ((R * 18446744073709551616 + ni) % D)).length = q := ⟨_, rfl⟩
      rw [hn51] at hR_g ⊢
      obtain ⟨qd, hqd⟩ : ∃ q, (((R * 18446744073709551616 + ni) / D : Nat) : Int) = q := ⟨_, rfl⟩
      rw [hqd]
      refine norm_ (a' := ?_) ?_ ?_
      rotate_left
      · simp only [Act.put, List.setIfInBounds_toArray, List.set_cons_zero, List.set_cons_succ, i64_w, i32_w]
        rfl
      refine pure_ (i := 5) (N := (some 46)) (v := ?_) (a' := ?_) #[true, true, true, true, true, true, false, false, false, false, false] rfl rfl (by kernel_rfl) (fun _ _ _ h => h) (Or.inl ⟨by rfl, ?_⟩) ?_ ?_
      rotate_left
      · intro w'
        go_simp
        with_reducible rfl
      rotate_left
      · simp only [Act.put, List.setIfInBounds_toArray, List.set_cons_zero, List.set_cons_succ, i64_w, i32_w]
        rfl
      refine pure_ (i := 6) (N := (some 52)) (v := ?_) (a' := ?_) #[true, true, true, true, true, true, true, false, false, false, false] rfl rfl (by kernel_rfl) (fun _ _ _ h => h) (Or.inl ⟨by rfl, ?_⟩) ?_ ?_
      rotate_left
      · intro w'
        go_simp
        with_reducible rfl
      rotate_left
      · simp only [Act.put, List.setIfInBounds_toArray, List.set_cons_zero, List.set_cons_succ, i64_w, i32_w]
        rfl
      refine pure_ (i := 7) (N := (some 53)) (v := ?_) (a' := ?_) #[true, true, true, true, true, true, true, true, false, false, false] rfl rfl (by kernel_rfl) (fun _ _ _ h => h) (Or.inl ⟨by rfl, ?_⟩) ?_ ?_
      rotate_left
      · intro w'
        go_simp
        with_reducible rfl
      rotate_left
      · simp only [Act.put, List.setIfInBounds_toArray, List.set_cons_zero, List.set_cons_succ, i64_w, i32_w]
        rfl
      refine pure_ (i := 8) (N := (some 54)) (v := ?_) (a' := ?_) #[true, true, true, true, true, true, true, true, true, false, false] rfl rfl (by kernel_rfl) (fun _ _ _ h => h) (Or.inl ⟨by rfl, ?_⟩) ?_ ?_
      rotate_left
      · intro w'
        go_simp
        with_reducible rfl
      rotate_left
      · simp only [Act.put, List.setIfInBounds_toArray, List.set_cons_zero, List.set_cons_succ, i64_w, i32_w]
        rfl
      have hq_g : Kd.R (Kd.int .u64) 55 Wg w.heap.size (fun k => k = B3 + 1) (Value.slice (some ⟨B3 + 1, 0, none⟩) m m) ql := Kd.R_step hq_f (fun k hk _ => hb_g k (by omega))
      obtain ⟨hx9, hf9⟩ := Kd.R_celln 0 hq_g i p0 q0
      refine last_ (i := 9) (N := none) #[true, true, true, true, true, true, true, true, true, true, false] rfl rfl (by kernel_rfl) (by decide) (fun K hK => ?_)
      refine skip_ (w1 := ?_) (by rfl) rfl ?_ ?_
      rotate_left
      · go_simp
        rfl
      refine hK.out _ _ ?_
      clear hK K
      have q11h := blk_far q11g (p := ⟨B3 + 1, i.toNat, none⟩) (by show B3 + 1 + 1 + 1 ≠ B3 + 1; omega) (.int .u64 qd)
      have g11h := blk_cell q11h 0
      have f11h := blk_frozen q11h 0
      simp only [List.getElem?_toArray, List.getElem?_cons_zero] at g11h
      refine last_ (i := 10) (N := none) #[true, true, true, true, true, true, true, true, true, true, true] rfl rfl (by kernel_rfl) (by decide) (fun K hK => ?_)
      refine skip_ (w1 := ?_) (by rfl) rfl ?_ ?_
      rotate_left
      · go_simp
        rfl
      refine hK.out _ _ ?_
      clear hK K
      refine done_ (by kernel_rfl) (onlyN ?_)
      have hit : i.toNat = y.1 := by omega
      have hg_w : ∀ k, k < W.heap.size → k ≠ B3 + 1 → k ≠ B3 + 1 + 1 + 1 → ((Wg.setCell ⟨B3 + 1, i.toNat, none⟩ (Value.int IntKind.u64 qd)).setCell ⟨B3 + 1 + 1 + 1, 0, none⟩ (Value.slice A51 n51 c51)).heap[k]? = W.heap[k]? := by
        intro k hk h1 h3
        rw [Below.heap_setCell _ _ _ k (by show k ≠ B3 + 1 + 1 + 1; exact h3), Below.heap_setCell _ _ _ k (by show k ≠ B3 + 1; exact h1), hb_g k (by omega)]
        exact hA_f k hk h3
      have hRv := Kd.R_far (Kd.R_far (Kd.R_mono (Kd.R_tight rfl hR_g) (ok' := fun k => k ≠ B3 + 1 ∧ k ≠ B3 + 1 + 1 + 1) (fun k hk => by
        have := hR_g.1 k hk.symm
        rcases this with h | h
        · have := hf45 k h.symm; omega
        · omega)) (p := ⟨B3 + 1, i.toNat, none⟩) (fun k hk => hk.1) (Value.int IntKind.u64 qd)) (p := ⟨B3 + 1 + 1 + 1, 0, none⟩) (fun k hk => hk.2) (Value.slice A51 n51 c51)
      have hqv := Kd.R_far (Kd.R_putn hq_g i qd) (p := ⟨B3 + 1 + 1 + 1, 0, none⟩) (fun k hk => by show k ≠ B3 + 1 + 1 + 1; omega) (Value.slice A51 n51 c51)
      have hrv := blk_set q11h 0 (Value.slice A51 n51 c51)
      have hbv := (hB_g.setCell (p := ⟨B3 + 1, i.toNat, none⟩) (by show w.heap.size ≤ B3 + 1; omega) (Value.int IntKind.u64 qd)).setCell (p := ⟨B3 + 1 + 1 + 1, 0, none⟩) (by show w.heap.size ≤ B3 + 1 + 1 + 1; omega) (Value.slice A51 n51 c51)
      have hsv : Wg.heap.size = ((Wg.setCell ⟨B3 + 1, i.toNat, none⟩ (Value.int IntKind.u64 qd)).setCell ⟨B3 + 1 + 1 + 1, 0, none⟩ (Value.slice A51 n51 c51)).heap.size := by simp
      generalize (Wg.setCell ⟨B3 + 1, i.toNat, none⟩ (Value.int IntKind.u64 qd)).setCell ⟨B3 + 1 + 1 + 1, 0, none⟩ (Value.slice A51 n51 c51) = Wz at hg_w hRv hqv hrv hbv hsv ⊢
      gi_wp2
      refine ⟨⟨by omega, fun k o hk ho hn => (hg_w k (blk_lt ho) (by omega) (by omega)).trans ho⟩, fun k hk => hg_w k (by have := (hSi k).1 hk; omega) ((hSi k).1 hk).2.1 ((hSi k).1 hk).2.2, hbv, fun k hk => (hg_w k (by have := (hSi k).1 hk; omega) ((hSi k).1 hk).2.1 ((hSi k).1 hk).2.2).trans (hKS k hk), by omega, ⟨_, hrv, ?_⟩, ?_⟩
      · rw [hsnoc]
        simp only [dstep, hni, Int.toNat_natCast]
        exact Kd.R_mono hRv (fun _ _ => trivial)
      · rw [hsnoc]
        simp only [dstep, hni, Int.toNat_natCast, hqd]
        rw [hit] at hqv
        exact hqv
    case done =>
      rintro Dk ys W hDk rfl ⟨hBw, hKS, hWs, ⟨vr, hr11, hrR⟩, hrq⟩ hK
      obtain ⟨f1, f2, f3, _⟩ := drun_down (L_wf N) hTop.1 (L N).length (Nat.le_refl _)
      rw [Nat.sub_self, List.drop_zero, L_val] at f1 f3
      rw [Nat.pow_zero, Nat.one_mul] at f3
      rw [hm] at f1 f2 f3
      obtain ⟨hRlt, hql⟩ := drun_rest (nl := L N) hTop.1 (downF m m)
      generalize drun (L N) D (downF m m) = st at f1 f2 f3 hRlt hql hrR hrq
      obtain ⟨R, ql⟩ := st
      simp only at f1 f2 f3 hRlt hql hrR hrq
      have F1 := Aside0.mk f1
      clear f1
      obtain ⟨Ar, cr, rfl⟩ := Kd.R_slice hrR
      have hRl : (L R).length ≤ n + 1 := by rw [← hlD]; exact L_mono (Nat.le_of_lt hRlt)
      have q10 := (hKS (B3 + 1 + 1) ((hSi _).2 (by omega))).trans p10
      have g10 := blk_cell q10 0
      have g11 := blk_cell hr11 0
      simp only [List.getElem?_toArray, List.getElem?_cons_zero] at g10 g11
      have hNq := Norm_f f2 (by omega) (k := m + 1) (by omega)
      rw [f3] at hNq
      have hSr := shr_f (L_wf R) s (by omega) (by omega) (k := 2 * (n + 1) + 6) (by omega)
      rw [L_val] at hSr
      have hmx : Try.prog.follows .mixedOrders = true := by kernel_rfl
      gi_wp2
      refine wpIn_mono (Q := OnlyN _) (wpIn_wide.2 (start_ (n := 8) (S := fun w' => w'.cell? ⟨B3 + 1 + 1, 0, none⟩ = some (Value.slice (some ⟨B3 + 1, 0, none⟩) m m) ∧ w'.cell? ⟨B3 + 1 + 1 + 1, 0, none⟩ = some (Value.slice Ar (L R).length cr)) (ds := []) #[false, false, false, false, false, false, false, false] hmx rfl rfl ⟨g10, g11⟩ (fun hHeld => ?_))) OnlyN.imp
      obtain ⟨Wd, hWd⟩ : ∃ Wd, W.drew = Wd := ⟨_, rfl⟩
      rw [hWd] at hHeld ⊢
      have hB_d : Below w.heap.size w Wd := by rw [← hWd]; exact below_drew hBw
      have hR_d := Kd.R_at (m := 1) hWd hrR
      have hq_d := Kd.R_at (m := 1) hWd hrq
      have hK_d : Wd.heap[Dk]? = some (.deferred (some [])) := by rw [← hWd]; exact hK
      refine take_ (i := 0) (N := (some 55)) (v := ?_) (a' := ?_) #[true, false, false, false, false, false, false, false] rfl rfl (by kernel_rfl) (fun _ _ _ h => h) (Or.inl ⟨by rfl, ?_⟩) hHeld ?_ ?_
      rotate_left
      · rintro w' ⟨s0_, s1_⟩
        go_simp
        with_reducible rfl
      rotate_left
      · simp only [Act.put, List.setIfInBounds_toArray, List.set_cons_zero, List.set_cons_succ, i64_w, i32_w]
        rfl
      refine take_ (i := 2) (N := (some 57)) (v := ?_) (a' := ?_) #[true, false, true, false, false, false, false, false] rfl rfl (by kernel_rfl) (fun _ _ _ h => h) (Or.inl ⟨by rfl, ?_⟩) hHeld ?_ ?_
      rotate_left
      · rintro w' ⟨s0_, s1_⟩
        go_simp
        with_reducible rfl
      rotate_left
      · simp only [Act.put, List.setIfInBounds_toArray, List.set_cons_zero, List.set_cons_succ, i64_w, i32_w]
        rfl
      refine pure_ (i := 3) (N := (some 58)) (v := ?_) (a' := ?_) #[true, false, true, true, false, false, false, false] rfl rfl (by kernel_rfl) (fun _ _ _ h => h) (Or.inl ⟨by rfl, ?_⟩) ?_ ?_
      rotate_left
      · intro w'
        go_simp
        with_reducible rfl
      rotate_left
      · simp only [Act.put, List.setIfInBounds_toArray, List.set_cons_zero, List.set_cons_succ, i64_w, i32_w]
        rfl
      have hCN : Calls Try.prog 17 #[Value.slice (some ⟨B3 + 1, 0, none⟩) m m] Wd fun e w' => ∃ v0_ : Value, e = .returned (v0_) ∧ Kd.R (Kd.int .u64) 55 w' Wd.heap.size (fun _ => True) v0_ (L (N / D)) ∧ Below Wd.heap.size Wd w' := by
        have h1 := (Kd.R_reads' hq_d).2
        have := nat_Norm.calls _ (some ⟨B3 + 1, 0, none⟩) m ql _ Wd h1.2 (by omega) hNq
        rwa [hql] at this
      refine one_ (i := 1) (N := some 56) #[true, true, true, true, false, false, false, false] rfl rfl (by kernel_rfl) (by decide) (fun K hK => ?_)
      refine goes_ Try.func17 (by kernel_rfl) rfl #[Value.slice (some ⟨B3 + 1, 0, none⟩) m m] (by rfl) rfl rfl ar_ ?_
      refine hCN.mono ?_
      rintro e Wn ⟨v56, rfl, hR_n, hB_n⟩
      refine ⟨_, rfl, hK.out _ _ ⟨pw_cell_below hB_n hHeld.1, pw_cell_below hB_n hHeld.2⟩ (fun hHeld => ?_)⟩
      clear hK K
      refine norm_ (a' := ?_) ?_ ?_
      rotate_left
      · simp only [Act.put, List.setIfInBounds_toArray, List.set_cons_zero, List.set_cons_succ, i64_w, i32_w]
        rfl
      refine one_ (i := 4) (N := some 59) #[true, true, true, true, true, false, false, false] rfl rfl (by kernel_rfl) (by decide) (fun K hK => ?_)
      refine goes_ Try.func55 (by kernel_rfl) rfl #[.slice Ar (L R).length cr, .int .i64 (s : Int)] (by rfl) rfl rfl ar_ ?_
      have hR_n2 := Kd.R_below hR_d hB_n
      refine (natdiv_shr.calls _ Ar cr (L R) (s : Int) _ _ (Kd.R_reads' hR_n2).2.2 (Kd.R_reads' hR_n2).2.1 hSr).mono ?_
      rintro e Ws ⟨v59, rfl, hR_s, hB_s⟩
      refine ⟨_, rfl, hK.out _ _ ⟨pw_cell_below hB_s hHeld.1, pw_cell_below hB_s hHeld.2⟩ (fun hHeld => ?_)⟩
      clear hK K
      refine norm_ (a' := ?_) ?_ ?_
      rotate_left
      · simp only [Act.put, List.setIfInBounds_toArray, List.set_cons_zero, List.set_cons_succ, i64_w, i32_w]
        rfl
      refine pure_ (i := 5) (N := (some 4)) (v := ?_) (a' := ?_) #[true, true, true, true, true, true, false, false] rfl rfl (by kernel_rfl) (fun _ _ _ h => h) (Or.inl ⟨by rfl, ?_⟩) ?_ ?_
      rotate_left
      · intro w'
        go_simp
        with_reducible rfl
      rotate_left
      · simp only [Act.put, List.setIfInBounds_toArray, List.set_cons_zero, List.set_cons_succ, i64_w, i32_w]
        rfl
      refine pure_ (i := 6) (N := (some 5)) (v := ?_) (a' := ?_) #[true, true, true, true, true, true, true, false] rfl rfl (by kernel_rfl) (fun _ _ _ h => h) (Or.inl ⟨by rfl, ?_⟩) ?_ ?_
      rotate_left
      · intro w'
        go_simp
        with_reducible rfl
      rotate_left
      · simp only [Act.put, List.setIfInBounds_toArray, List.set_cons_zero, List.set_cons_succ, i64_w, i32_w]
        rfl
      refine pure_ (i := 7) (N := (some 6)) (v := ?_) (a' := ?_) #[true, true, true, true, true, true, true, true] rfl rfl (by kernel_rfl) (fun _ _ _ h => h) (Or.inl ⟨by rfl, ?_⟩) ?_ ?_
      rotate_left
      · intro w'
        go_simp
        with_reducible rfl
      rotate_left
      · simp only [Act.put, List.setIfInBounds_toArray, List.set_cons_zero, List.set_cons_succ, i64_w, i32_w]
        rfl
      refine done_ (by kernel_rfl) (onlyN ?_)
      have hKs := blk_below (blk_below hK_d hB_n) hB_s
      have hBs : Below w.heap.size w Ws := (hB_d.trans (hB_n.mono hB_d.size)).trans (hB_s.mono (Nat.le_trans hB_d.size hB_n.size))
      have hsp : 0 < 2 ^ s := Nat.pow_pos (by omega)
      have e1 : N / D = V l0 / D0 := by rw [← hNN, ← hDD, Nat.mul_div_mul_right _ _ hsp]
      have e2 : R / 2 ^ s = V l0 % D0 := by rw [F1.out, ← hNN, ← hDD, Nat.mul_mod_mul_right, Nat.mul_div_cancel _ hsp]
      rw [e1] at hR_n
      rw [e2] at hR_s
      gi_wp2
      refine ⟨by simp, .inl ⟨_, _, rfl, run_takeDeferred hKs, ?_⟩⟩
      have hg := grownBy_putObj' Ws Dk (.deferred none)
      have hne : ∀ {v : Value} {base : Nat} {ok : Nat → Prop} {xs : List Int}, Kd.R (Kd.int .u64) 55 Ws base ok v xs → ∀ k, some Dk = some k → some k ≠ v.ownBlock := by
        intro v base ok xs hv k hk e
        cases hk
        obtain ⟨cells, hc⟩ := Kd.R_typed hv _ e.symm
        rw [hc] at hKs
        cases hKs
      have h56 := Kd.R_below (Kd.R_mono (Kd.R_bound (Kd.R_tight rfl hR_n)) (ok' := fun k => some k = v56.ownBlock ∧ k < Wn.heap.size) (fun k hk => ⟨hk.1, hk.2.2.1⟩)) hB_s
      have h59 := Kd.R_mono (Kd.R_bound (Kd.R_tight rfl hR_s)) (ok' := fun k => some k = v59.ownBlock ∧ Wn.heap.size ≤ k) (fun k hk => ⟨hk.1, hk.2.1⟩)
      refine ⟨.tuple #[v56, v59, .int .i64 0], ?_, v56, v59, rfl, ?_, ?_, hBs.trans (belowK_b (w := w) (Nat.le_refl _) _ Dk _ _ (by omega) hKs rfl rfl)⟩
      · simp [results, Try.f12, go_sem]
      · exact Kd.R_lower (Kd.R_mono (Kd.R_grown2 h56 rfl hg (hne h56)) (fun k hk e => by have := (h59.1 k e.symm).2; omega)) hB_d.size
      · exact Kd.R_lower (Kd.R_mono (Kd.R_grown2 h59 rfl hg (hne h59)) (fun k hk e => by have := (h56.1 k e.symm).2; omega)) (Nat.le_trans hB_d.size hB_n.size)
    case stop =>
      rintro D c pre W _ _ h _
      exact h.elim
end Go.Proofs.Ytjbpchebabhoeaa.X
end
section
namespace Go.Proofs.Ytjbpchebabhoeaa.P
open Go.RowKit Go.Proofs.YtjbpchebabhoeaaW.PrintWords Go.Proofs.YtjbpchebabhoeaaW.PrintLast Go.Proofs.YtjbpchebabhoeaaW.PrintMore Go.Proofs.Ytjbpchebabhoeaa.X
attribute [local go_sem] max2_int min2_int max_two min_two max_three min_three max_four min_four
set_option linter.unusedVariables false
set_option linter.unusedSimpArgs false
def natdiv_Gcd.l0 : Nat → List Int → List Int → Option (List Int)
  | 0, _, _ => none
  | k + 1, x5, x6 => if (x6.length : Int) > 0 then ((natdiv_DivMod.f x5 x6).bind fun bt428 => (natdiv_Gcd.l0 k x6 bt428.2.1)) else (some x5)
def natdiv_Gcd.f (k : Nat) (l0 : List Int) (l1 : List Int) : Option (List Int) := (nat_Norm.f k l0).bind fun t422 => ((nat_Norm.f k l1).bind fun t425 => (natdiv_Gcd.l0 k t422 t425))
theorem natdiv_Gcd.mono_l : ∀ k, (∀ y0 y1, LeO (natdiv_Gcd.l0 k y0 y1) (natdiv_Gcd.l0 (k + 1) y0 y1))
  | 0 => fun _ _ r h => by simp [natdiv_Gcd.l0] at h
  | k + 1 => by
    have ih0 := natdiv_Gcd.mono_l k
    · intro y0 y1
      unfold natdiv_Gcd.l0
      repeat' first
      | (with_reducible exact ih0 _ _)
      | (with_reducible exact nat_Norm.mono _ _)
      | (with_reducible exact LeO.refl _)
      | (with_reducible exact LeO.none _)
      | (with_reducible refine LeO.ite ?_ ?_)
      | (with_reducible refine LeO.bind ?_ (fun _ => ?_))
      | exact ih0 _ _
      | exact nat_Norm.mono _ _
      | exact LeO.none _
      | refine LeO.ite ?_ ?_
      | refine LeO.bind ?_ (fun _ => ?_)
theorem natdiv_Gcd.mono : ∀ a0 a1 k, LeO (natdiv_Gcd.f k a0 a1) (natdiv_Gcd.f (k + 1) a0 a1) := by
  intro a0 a1 k
  have ih0 := natdiv_Gcd.mono_l k
  unfold natdiv_Gcd.f
  repeat' first
      | (with_reducible exact ih0 _ _)
      | (with_reducible exact nat_Norm.mono _ _)
      | (with_reducible exact LeO.refl _)
      | (with_reducible exact LeO.none _)
      | (with_reducible refine LeO.ite ?_ ?_)
      | (with_reducible refine LeO.bind ?_ (fun _ => ?_))
      | exact ih0 _ _
      | exact nat_Norm.mono _ _
      | exact LeO.none _
      | refine LeO.ite ?_ ?_
      | refine LeO.bind ?_ (fun _ => ?_)
set_option maxHeartbeats 8000000 in
set_option maxRecDepth 100000 in
theorem natdiv_Gcd.calls (k : Nat) (A0 : Option Addr) (c0 : Nat) (l0 : List Int) (A1 : Option Addr) (c1 : Nat) (l1 : List Int) (r : List Int) (w : World) (hr0 : Kd.C (Kd.int .u64) w A0 l0.length l0) (hc0 : l0.length ≤ c0) (hr1 : Kd.C (Kd.int .u64) w A1 l1.length l1) (hc1 : l1.length ≤ c1) (h : natdiv_Gcd.f k l0 l1 = some r) :
    Calls Try.prog 71 #[.slice A0 l0.length c0, .slice A1 l1.length c1] w fun e w' => ∃ v0_ : Value, e = .returned (v0_) ∧ Kd.R (Kd.int .u64) 55 w' w.heap.size (fun _ => True) v0_ r ∧ Below w.heap.size w w' := by
  have HR0 := Aside0.mk hr0
  have HC0 := Aside0.mk hc0
  clear hr0 hc0
  have HR1 := Aside0.mk hr1
  have HC1 := Aside0.mk hc1
  clear hr1 hc1
  have HB := Aside0.mk (Below.refl w.heap.size w)
  have H : ((nat_Norm.f k l0).bind fun t422 => ((nat_Norm.f k l1).bind fun t425 => (natdiv_Gcd.l0 k t422 t425))) = some r := h
  clear h
  replace H := Option.bind_eq_some_iff.mp H
  obtain ⟨t422, A30, H⟩ := H
  replace H : ((nat_Norm.f k l1).bind fun t425 => (natdiv_Gcd.l0 k t422 t425)) = some r := H
  have A3 := Aside0.mk A30
  clear A30
  replace H := Option.bind_eq_some_iff.mp H
  obtain ⟨t425, A40, H⟩ := H
  replace H : (natdiv_Gcd.l0 k t422 t425) = some r := H
  have A4 := Aside0.mk A40
  clear A40
  have H' := Aside0.mk H
  clear H
  go_enter Try.func71, Try.ntmps71
  go_wp2_with (first | ((with_reducible refine gate_callee (f := 17) rfl ?_); refine goesL_ (some 11) rfl rfl Try.func17 (by kernel_rfl) rfl #[.slice A0 l0.length c0] rfl ar_ ?_; (with_reducible refine (nat_Norm.calls k _ _ l0 t422 _ ?side1 ?side2 A3.out).mono ?_); (case side1 => repeat (first | exact HR0.out | (with_reducible refine Kd.C_alloc ?_ _) | (with_reducible refine Kd.C_drewN ?_ _) | (with_reducible refine Kd.C_drew ?_))); (case side2 => exact HC0.out); rintro e w5 ⟨v423, rfl, ho0, hb⟩; refine ⟨_, rfl, ?_⟩; have n0_ := Aside0.mk (Kd.R_lower ho0 (below_size (dn_ HB))); have n1_ := Aside0.mk (below_step (dn_ HB) hb); clear HB; have HO424 := n0_; have HB := n1_; clear n0_ n1_; (try clear hb); (try clear hk); (try clear ho0)) | ((with_reducible refine gate_callee (f := 17) rfl ?_); refine goesL_ (some 13) rfl rfl Try.func17 (by kernel_rfl) rfl #[.slice A1 l1.length c1] rfl ar_ ?_; (with_reducible refine (nat_Norm.calls k _ _ l1 t425 _ ?side1 ?side2 A4.out).mono ?_); (case side1 => repeat (first | exact (Kd.C_below HR1.out HB.out) | (with_reducible refine Kd.C_alloc ?_ _) | (with_reducible refine Kd.C_drewN ?_ _) | (with_reducible refine Kd.C_drew ?_))); (case side2 => exact HC1.out); rintro e w6 ⟨v426, rfl, ho0, hb⟩; refine ⟨_, rfl, ?_⟩; have n0_ := Aside0.mk (Kd.R_elder' (up_ HO424) (Kd.R_base ho0) hb); have n1_ := Aside0.mk (Kd.R_lower (Kd.R_new' ho0 (Kd.R_lt (up_ HO424))) (below_size (dn_ HB))); have n2_ := Aside0.mk (below_step (dn_ HB) hb); clear HO424; clear HB; have HO424 := n0_; have HO427 := n1_; have HB := n2_; clear n0_ n1_ n2_; (try clear hb); (try clear hk); (try clear ho0)))
  go_loopg [5, 6] k (fun kq v5 v6 w' => ∃ (x5_1 : List Int) (x6_1 : List Int), Aside0 (natdiv_Gcd.l0 kq x5_1 x6_1 = some r) ∧ Aside0 (kq ≤ k) ∧ Aside0 (Kd.R (Kd.int .u64) 55 w' w.heap.size (fun k_ => some k_ ≠ (v6 : Value).ownBlock) v5 x5_1) ∧ Aside0 (Kd.R (Kd.int .u64) 55 w' w.heap.size (fun k_ => some k_ ≠ (v5 : Value).ownBlock) v6 x6_1) ∧ Aside0 (Below w.heap.size w w'))
  case atStart => exact ⟨(t422), (t425), H', ⟨Nat.le_refl _⟩, ⟨by (with_reducible repeat (first | apply Kd.R_alloc | apply Kd.R_drewN | apply Kd.R_drew)); exact Kd.R_mono HO424.out (fun _ hk => hk.2)⟩, ⟨by (with_reducible repeat (first | apply Kd.R_alloc | apply Kd.R_drewN | apply Kd.R_drew)); exact Kd.R_mono HO427.out (fun _ hk => hk.2)⟩, ⟨dn_ HB⟩⟩
  case round =>
    clear H'
    try clear c1
    try clear p2
    obtain ⟨x5_1, x6_1, HA, HK1, HO_5, HO_6, HB⟩ := hrel
    cases gk with
    | zero => exact absurd HA.out (by simp [natdiv_Gcd.l0])
    | succ k1 =>
      have H := HA.out
      clear HA
      simp only [natdiv_Gcd.l0] at H
      by_cases c7 : (x6_1.length : Int) > 0
      · rw [if_pos c7] at H
        have c7b0 : decide (0 < (x6_1.length : Int)) = true := decide_eq_true c7
        have c7b1 : decide (0 < x6_1.length) = true := decide_eq_true (by omega)
        clear c7
        replace H := Option.bind_eq_some_iff.mp H
        obtain ⟨⟨t428, t429, t430⟩, A80, H⟩ := H
        replace H : (natdiv_Gcd.l0 k1 x6_1 t429) = some r := H
        have A8 := Aside0.mk A80
        clear A80
        have H' := Aside0.mk H
        clear H
        obtain ⟨Ao9, co9, eo9⟩ := Kd.R_slice HO_6.out
        subst eo9
        obtain ⟨Ao10, co10, eo10⟩ := Kd.R_slice HO_5.out
        subst eo10
        go_wp2_with (first | ((with_reducible refine gate_callee (f := 12) rfl ?_); refine goesL_ (some 20) rfl rfl Try.func12 (by kernel_rfl) rfl #[.slice Ao10 x5_1.length co10, .slice Ao9 x6_1.length co9] rfl ar_ ?_; (with_reducible refine (natdiv_DivMod.calls _ _ x5_1 _ _ x6_1 t428 t429 t430 _ ?side1 ?side2 ?side3 ?side4 A8.out).mono ?_); (case side1 => exact cs_ (Kd.R_reads' HO_5.out).2.2); (case side2 => exact (Kd.R_reads' HO_5.out).2.1); (case side3 => exact cs_ (Kd.R_reads' HO_6.out).2.2); (case side4 => exact (Kd.R_reads' HO_6.out).2.1); rintro e w11 ⟨v431, v433, rfl, ho0, ho1, hb⟩; refine ⟨_, rfl, ?_⟩; have n0_ := Aside0.mk (Kd.R_mono (Kd.R_told (Kd.R_told (Kd.R_old (up_ HO_5) hb) (Kd.R_base ho0)) (Kd.R_base ho1)) (fun _ h_ => h_.1)); have n1_ := Aside0.mk (Kd.R_mono (Kd.R_told (Kd.R_told (Kd.R_old (up_ HO_6) hb) (Kd.R_base ho0)) (Kd.R_base ho1)) (fun _ h_ => h_.1)); have n2_ := Aside0.mk (Kd.R_lower (Kd.R_new' (Kd.R_new' ho0 (Kd.R_lt (up_ HO_5))) (Kd.R_lt (up_ HO_6))) (below_size (dn_ HB))); have n3_ := Aside0.mk (Kd.R_lower (Kd.R_new' (Kd.R_new' ho1 (Kd.R_lt (up_ HO_5))) (Kd.R_lt (up_ HO_6))) (below_size (dn_ HB))); have n4_ := Aside0.mk (below_step (dn_ HB) hb); clear HO_5; clear HO_6; clear HB; have HO_5 := n0_; have HO_6 := n1_; have HO432 := n2_; have HO434 := n3_; have HB := n4_; clear n0_ n1_ n2_ n3_ n4_; (try clear hb); (try clear hk); (try clear ho0); (try clear ho1)))
        go_roundg k1
        case measure => have := HK1.out; omega
        case rel => exact ⟨(x6_1), (t429), H', ⟨by have := HK1.out; omega⟩, ⟨by (with_reducible repeat (first | apply Kd.R_alloc | apply Kd.R_drewN | apply Kd.R_drew)); exact Kd.R_mono HO_6.out (fun _ hk => hk.2)⟩, ⟨by (with_reducible repeat (first | apply Kd.R_alloc | apply Kd.R_drewN | apply Kd.R_drew)); exact Kd.R_mono HO434.out (fun _ hk => hk.2)⟩, ⟨dn_ HB⟩⟩
      · rw [if_neg c7] at H
        have c7b0 : decide (0 < (x6_1.length : Int)) = false := decide_eq_false c7
        have c7b1 : decide (0 < x6_1.length) = false := decide_eq_false (by omega)
        clear c7
        obtain rfl := Option.some.inj H
        obtain ⟨Ao12, co12, eo12⟩ := Kd.R_slice HO_6.out
        subst eo12
        go_wp2
        go_ret
        exact ⟨_, er_, by (with_reducible repeat (first | apply Kd.R_alloc | apply Kd.R_drewN | apply Kd.R_drew)); exact Kd.R_mono HO_5.out (fun _ hk => trivial), dn_ HB⟩
def natdiv_odd.f (a0 : Int) : Option (Bool) := if a0 < 0 then (some true) else (some (decide (a0 > 65536)))
set_option maxHeartbeats 8000000 in
set_option maxRecDepth 100000 in
theorem natdiv_odd.calls (a0 : Int) (r : Bool) (w : World) (h : natdiv_odd.f a0 = some r) :
    Calls Try.prog 64 #[.int .i64 a0] w fun e w' => e = .returned (.bool r) ∧ Drawn0 w w' := by
  have H : (if a0 < 0 then (some true) else (some (decide (a0 > 65536)))) = some r := h
  clear h
  by_cases c2 : a0 < 0
  · rw [if_pos c2] at H
    have c2b0 : decide (a0 < 0) = true := decide_eq_true c2
    clear c2
    obtain rfl := Option.some.inj H
    go_enter Try.func64, Try.ntmps64
    go_wp2
    go_ret
    exact ⟨by first | rfl | (simp; done) | (simp [*]; done), by repeat (first | exact Drawn0.refl _ | apply Drawn0.step)⟩
  · rw [if_neg c2] at H
    have c2b0 : decide (a0 < 0) = false := decide_eq_false c2
    clear c2
    obtain rfl := Option.some.inj H
    go_enter Try.func64, Try.ntmps64
    go_wp2
    go_ret
    exact ⟨by first | rfl | (simp; done) | (simp [*]; done), by repeat (first | exact Drawn0.refl _ | apply Drawn0.step)⟩
def natdiv_Shl.f (l0 : List Int) (a1 : Int) : Option (List Int × Int) := (natdiv_odd.f a1).bind fun t261 => (if t261 = true then (some (([] : List Int), 4)) else ((natdiv_shl.f l0 a1).bind fun t262 => (some (t262, 0))))
set_option maxHeartbeats 8000000 in
set_option maxRecDepth 100000 in
theorem natdiv_Shl.calls (A0 : Option Addr) (c0 : Nat) (l0 : List Int) (a1 : Int) (r1 : List Int) (r2 : Int) (w : World) (hr0 : Kd.C (Kd.int .u64) w A0 l0.length l0) (hc0 : l0.length ≤ c0) (h : natdiv_Shl.f l0 a1 = some (r1, r2)) :
    Calls Try.prog 20 #[.slice A0 l0.length c0, .int .i64 a1] w fun e w' => ∃ v0_ : Value, e = .returned (.tuple #[v0_, .int .i64 r2]) ∧ Kd.R (Kd.int .u64) 55 w' w.heap.size (fun _ => True) v0_ r1 ∧ Below w.heap.size w w' := by
  have HR0 := Aside0.mk hr0
  have HC0 := Aside0.mk hc0
  clear hr0 hc0
  have HB := Aside0.mk (Below.refl w.heap.size w)
  have H : ((natdiv_odd.f a1).bind fun t261 => (if t261 = true then (some (([] : List Int), 4)) else ((natdiv_shl.f l0 a1).bind fun t262 => (some (t262, 0))))) = some (r1, r2) := h
  clear h
  replace H := Option.bind_eq_some_iff.mp H
  obtain ⟨t261, A30, H⟩ := H
  replace H : (if t261 = true then (some (([] : List Int), 4)) else ((natdiv_shl.f l0 a1).bind fun t262 => (some (t262, 0)))) = some (r1, r2) := H
  have A3 := Aside0.mk A30
  clear A30
  by_cases c4 : t261 = true
  · subst c4
    have H1 : (some (([] : List Int), 4)) = some (r1, r2) := by rw [if_pos rfl] at H; exact H
    clear H
    have H := H1
    clear H1
    simp only [Option.some.injEq, Prod.mk.injEq] at H
    obtain ⟨rfl, rfl⟩ := H
    go_enter Try.func20, Try.ntmps20
    go_wp2_with (first | ((with_reducible refine gate_callee (f := 64) rfl ?_); refine goesL_ (some 7) rfl rfl Try.func64 (by kernel_rfl) rfl #[.int .i64 a1] rfl ar_ ?_; (with_reducible refine (natdiv_odd.calls a1 true _ A3.out).mono ?_); rintro e w' ⟨rfl, ⟨nd, rfl⟩⟩; refine ⟨_, rfl, ?_⟩))
    go_ret2
    exact ⟨_, er_, by first | exact Kd.R_nil _ _ _ _ _ | exact Kd.N_nil _ _ _ _ _ | exact Kd.V_nil _ _ _ _ _ | exact Kd.Q_nil _ _ _ _ _ | exact Kd.S_nil _ _ _ _ _, dn_ HB⟩
  · replace c4 := Bool.eq_false_iff.mpr c4
    subst c4
    have H1 : ((natdiv_shl.f l0 a1).bind fun t262 => (some (t262, 0))) = some (r1, r2) := by rw [if_neg (show ¬ (false = true) by decide)] at H; exact H
    clear H
    have H := H1
    clear H1
    replace H := Option.bind_eq_some_iff.mp H
    obtain ⟨t262, A50, H⟩ := H
    replace H : (some (t262, 0)) = some (r1, r2) := H
    have A5 := Aside0.mk A50
    clear A50
    simp only [Option.some.injEq, Prod.mk.injEq] at H
    obtain ⟨rfl, rfl⟩ := H
    go_enter Try.func20, Try.ntmps20
    go_wp2_with (first | ((with_reducible refine gate_callee (f := 64) rfl ?_); refine goesL_ (some 7) rfl rfl Try.func64 (by kernel_rfl) rfl #[.int .i64 a1] rfl ar_ ?_; (with_reducible refine (natdiv_odd.calls a1 false _ A3.out).mono ?_); rintro e w' ⟨rfl, ⟨nd, rfl⟩⟩; refine ⟨_, rfl, ?_⟩) | ((with_reducible refine gate_callee (f := 52) rfl ?_); refine goesL_ (some 10) rfl rfl Try.func52 (by kernel_rfl) rfl #[.slice A0 l0.length c0, .int .i64 a1] rfl ar_ ?_; (with_reducible refine (natdiv_shl.calls _ _ l0 a1 t262 _ ?side1 ?side2 A5.out).mono ?_); (case side1 => repeat (first | exact HR0.out | (with_reducible refine Kd.C_alloc ?_ _) | (with_reducible refine Kd.C_drewN ?_ _) | (with_reducible refine Kd.C_drew ?_))); (case side2 => exact HC0.out); rintro e w6 ⟨v263, rfl, ho0, hb⟩; refine ⟨_, rfl, ?_⟩; have n0_ := Aside0.mk (Kd.R_lower ho0 (below_size (dn_ HB))); have n1_ := Aside0.mk (below_step (dn_ HB) hb); clear HB; have HO264 := n0_; have HB := n1_; clear n0_ n1_; (try clear hb); (try clear ho0)))
    go_ret2
    exact ⟨_, er_, by (with_reducible repeat (first | apply Kd.R_alloc | apply Kd.R_drewN | apply Kd.R_drew)); exact HO264.out, dn_ HB⟩
def natdiv_Shr.f (k : Nat) (l0 : List Int) (a1 : Int) : Option (List Int × Int) := (natdiv_odd.f a1).bind fun t265 => (if t265 = true then (some (([] : List Int), 4)) else ((natdiv_shr.f k l0 a1).bind fun t266 => (some (t266, 0))))
theorem natdiv_Shr.mono : ∀ a0 a1 k, LeO (natdiv_Shr.f k a0 a1) (natdiv_Shr.f (k + 1) a0 a1) := by
  intro a0 a1 k
  unfold natdiv_Shr.f
  repeat' first
      | (with_reducible exact natdiv_shr.mono _ _ _)
      | (with_reducible exact LeO.refl _)
      | (with_reducible exact LeO.none _)
      | (with_reducible refine LeO.ite ?_ ?_)
      | (with_reducible refine LeO.bind ?_ (fun _ => ?_))
      | exact natdiv_shr.mono _ _ _
      | exact LeO.none _
      | refine LeO.ite ?_ ?_
      | refine LeO.bind ?_ (fun _ => ?_)
set_option maxHeartbeats 8000000 in
set_option maxRecDepth 100000 in
theorem natdiv_Shr.calls (k : Nat) (A0 : Option Addr) (c0 : Nat) (l0 : List Int) (a1 : Int) (r1 : List Int) (r2 : Int) (w : World) (hr0 : Kd.C (Kd.int .u64) w A0 l0.length l0) (hc0 : l0.length ≤ c0) (h : natdiv_Shr.f k l0 a1 = some (r1, r2)) :
    Calls Try.prog 21 #[.slice A0 l0.length c0, .int .i64 a1] w fun e w' => ∃ v0_ : Value, e = .returned (.tuple #[v0_, .int .i64 r2]) ∧ Kd.R (Kd.int .u64) 55 w' w.heap.size (fun _ => True) v0_ r1 ∧ Below w.heap.size w w' := by
  have HR0 := Aside0.mk hr0
  have HC0 := Aside0.mk hc0
  clear hr0 hc0
  have HB := Aside0.mk (Below.refl w.heap.size w)
  have H : ((natdiv_odd.f a1).bind fun t265 => (if t265 = true then (some (([] : List Int), 4)) else ((natdiv_shr.f k l0 a1).bind fun t266 => (some (t266, 0))))) = some (r1, r2) := h
  clear h
  replace H := Option.bind_eq_some_iff.mp H
  obtain ⟨t265, A30, H⟩ := H
  replace H : (if t265 = true then (some (([] : List Int), 4)) else ((natdiv_shr.f k l0 a1).bind fun t266 => (some (t266, 0)))) = some (r1, r2) := H
  have A3 := Aside0.mk A30
  clear A30
  by_cases c4 : t265 = true
  · subst c4
    have H1 : (some (([] : List Int), 4)) = some (r1, r2) := by rw [if_pos rfl] at H; exact H
    clear H
    have H := H1
    clear H1
    simp only [Option.some.injEq, Prod.mk.injEq] at H
    obtain ⟨rfl, rfl⟩ := H
    go_enter Try.func21, Try.ntmps21
    go_wp2_with (first | ((with_reducible refine gate_callee (f := 64) rfl ?_); refine goesL_ (some 7) rfl rfl Try.func64 (by kernel_rfl) rfl #[.int .i64 a1] rfl ar_ ?_; (with_reducible refine (natdiv_odd.calls a1 true _ A3.out).mono ?_); rintro e w' ⟨rfl, ⟨nd, rfl⟩⟩; refine ⟨_, rfl, ?_⟩))
    go_ret2
    exact ⟨_, er_, by first | exact Kd.R_nil _ _ _ _ _ | exact Kd.N_nil _ _ _ _ _ | exact Kd.V_nil _ _ _ _ _ | exact Kd.Q_nil _ _ _ _ _ | exact Kd.S_nil _ _ _ _ _, dn_ HB⟩
  · replace c4 := Bool.eq_false_iff.mpr c4
    subst c4
    have H1 : ((natdiv_shr.f k l0 a1).bind fun t266 => (some (t266, 0))) = some (r1, r2) := by rw [if_neg (show ¬ (false = true) by decide)] at H; exact H
    clear H
    have H := H1
    clear H1
    replace H := Option.bind_eq_some_iff.mp H
    obtain ⟨t266, A50, H⟩ := H
    replace H : (some (t266, 0)) = some (r1, r2) := H
    have A5 := Aside0.mk A50
    clear A50
    simp only [Option.some.injEq, Prod.mk.injEq] at H
    obtain ⟨rfl, rfl⟩ := H
    go_enter Try.func21, Try.ntmps21
    go_wp2_with (first | ((with_reducible refine gate_callee (f := 64) rfl ?_); refine goesL_ (some 7) rfl rfl Try.func64 (by kernel_rfl) rfl #[.int .i64 a1] rfl ar_ ?_; (with_reducible refine (natdiv_odd.calls a1 false _ A3.out).mono ?_); rintro e w' ⟨rfl, ⟨nd, rfl⟩⟩; refine ⟨_, rfl, ?_⟩) | ((with_reducible refine gate_callee (f := 55) rfl ?_); refine goesL_ (some 10) rfl rfl Try.func55 (by kernel_rfl) rfl #[.slice A0 l0.length c0, .int .i64 a1] rfl ar_ ?_; (with_reducible refine (natdiv_shr.calls k _ _ l0 a1 t266 _ ?side1 ?side2 A5.out).mono ?_); (case side1 => repeat (first | exact HR0.out | (with_reducible refine Kd.C_alloc ?_ _) | (with_reducible refine Kd.C_drewN ?_ _) | (with_reducible refine Kd.C_drew ?_))); (case side2 => exact HC0.out); rintro e w6 ⟨v267, rfl, ho0, hb⟩; refine ⟨_, rfl, ?_⟩; have n0_ := Aside0.mk (Kd.R_lower ho0 (below_size (dn_ HB))); have n1_ := Aside0.mk (below_step (dn_ HB) hb); clear HB; have HO268 := n0_; have HB := n1_; clear n0_ n1_; (try clear hb); (try clear ho0)))
    go_ret2
    exact ⟨_, er_, by (with_reducible repeat (first | apply Kd.R_alloc | apply Kd.R_drewN | apply Kd.R_drew)); exact HO268.out, dn_ HB⟩
end Go.Proofs.Ytjbpchebabhoeaa.P
end
section
set_option linter.unusedVariables false
set_option linter.unusedSimpArgs false
namespace Go.Proofs.Ytjbpchebabhoeaa.Nt
open Go.RowKit Go.Proofs.Ytjbpchebabhoeaa.P Go.Proofs.Ytjbpchebabhoeaa.X Go.Proofs.Ytjbpchebabhoeaa.Bt Go.Proofs.Ytjbpchebabhoeaa.Dg Go.Proofs.YtjbpchebabhoeaaW.PrintWords
theorem w64_wf {l : List Int} (h : ∀ x ∈ l, (Lit.int .u64 x).wf = true) : W64 l := by
  intro x hx
  have := h x hx
  have b : 0 ≤ x ∧ x ≤ 18446744073709551615 := by simpa [Lit.wf, IntKind.min, IntKind.max, IntKind.signed, IntKind.bits] using this
  omega
theorem DivMod_f {l0 l1 : List Int} (h0 : W64 l0) (h1 : W64 l1) (f0 : l0.length ≤ 17592186044000) (f1 : l1.length ≤ 17592186044000) (hz : V l1 ≠ 0) : natdiv_DivMod.f l0 l1 = some (L (V l0 / V l1), L (V l0 % V l1), 0) := by
  unfold natdiv_DivMod.f
  rw [if_pos ⟨h0, h1, f0, f1⟩, if_neg hz]
theorem Gcd_loop (M : Nat) (hM : M ≤ 17592186044000) : ∀ (Y X k : Nat), (L X).length ≤ M → (L Y).length ≤ M → Y < k → natdiv_Gcd.l0 k (L X) (L Y) = some (L (Nat.gcd X Y)) := by
  intro Y
  induction Y using Nat.strongRecOn with
  | _ Y ih =>
    intro X k hX hY hk
    obtain ⟨k, rfl⟩ : ∃ m, k = m + 1 := ⟨k - 1, by omega⟩
    simp only [natdiv_Gcd.l0]
    by_cases hz : Y = 0
    · subst hz
      rw [if_neg (by rw [L_zero]; decide), Nat.gcd_zero_right]
    · have hp : 0 < (L Y).length := Nat.pos_of_ne_zero fun h => hz (L_len0.1 h)
      have hm : X % Y < Y := Nat.mod_lt _ (Nat.pos_of_ne_zero hz)
      rw [if_pos (by omega), DivMod_f (L_wf _) (L_wf _) (by omega) (by omega) (by rw [L_val]; exact hz), Option.bind_some, L_val, L_val]
      simp only
      rw [ih (X % Y) hm Y k hY (Nat.le_trans (L_mono (Nat.le_of_lt hm)) hY) (by omega), Nat.gcd_comm Y, ← Nat.gcd_rec Y X, Nat.gcd_comm]
theorem Gcd_f {l0 l1 : List Int} (h0 : W64 l0) (h1 : W64 l1) (f0 : l0.length ≤ 17592186044000) (f1 : l1.length ≤ 17592186044000) {k : Nat} (hk : 17592186044416 ≤ k) (hv : V l1 < k) : natdiv_Gcd.f k l0 l1 = some (L (Nat.gcd (V l0) (V l1))) := by
  unfold natdiv_Gcd.f
  rw [Norm_f h0 (by omega) (by omega), Option.bind_some, Norm_f h1 (by omega) (by omega), Option.bind_some]
  exact Gcd_loop 17592186044000 (Nat.le_refl _) (V l1) (V l0) k (Nat.le_trans (L_le (V_lt h0)) f0) (Nat.le_trans (L_le (V_lt h1)) f1) hv
end Go.Proofs.Ytjbpchebabhoeaa.Nt
end
section
set_option linter.unusedVariables false
set_option linter.unusedSimpArgs false
namespace Go.Proofs.Ytjbpchebabhoeaa.H
open Go.RowKit Go.Proofs.YtjbpchebabhoeaaW.PrintWords Go.Proofs.YtjbpchebabhoeaaW.PrintLast Go.Proofs.YtjbpchebabhoeaaW.PrintMore Go.Proofs.Ytjbpchebabhoeaa.X Go.Proofs.Ytjbpchebabhoeaa.P Go.Proofs.Ytjbpchebabhoeaa.Nt Go.Proofs.Ytjbpchebabhoeaa.Bt Go.Proofs.Ytjbpchebabhoeaa.Dg
section
variable {w w' : World} {S : Nat → Prop} {Γ Δ : List Item}
theorem Holds.rowC (h : Holds w S Δ w') {k : IntKind} {A : Option Addr} {c : Nat} {l : List Int} (hm : Item.row k A c l ∈ Δ) : (Kd.int k).C w' A l.length l := (h.ok _ hm).1
theorem Holds.rowc (h : Holds w S Δ w') {k : IntKind} {A : Option Addr} {c : Nat} {l : List Int} (hm : Item.row k A c l ∈ Δ) : l.length ≤ c := (h.ok _ hm).2
theorem m0 {x : Item} {l : List Item} : x ∈ x :: l := List.mem_cons_self
theorem m1 {x y : Item} {l : List Item} : x ∈ y :: x :: l := List.mem_cons_of_mem _ List.mem_cons_self
theorem two_ok {k k' : IntKind} {t t' : TypeId} {ok ok' : Nat → Prop} {v v' : Value} {l l' : List Int} (ho : (Kd.int k).R t w' w.heap.size ok v l) (ho' : (Kd.int k').R t' w' w.heap.size ok' v' l') :
    ∃ A c A' c', v = .slice A l.length c ∧ v' = .slice A' l'.length c' ∧ ∀ y ∈ [Item.row k A c l, Item.row k' A' c' l'], y.still ∧ y.ok w' ∧ ∀ g, g < w.heap.size → y.far g := by
  obtain ⟨A, c, hv, h1, h2⟩ := fresh_ok ho
  obtain ⟨A', c', hv', h1', h2'⟩ := fresh_ok ho'
  refine ⟨A, c, A', c', hv, hv', fun y hy => ?_⟩
  rcases List.mem_cons.1 hy with rfl | hy
  · exact ⟨trivial, h1, h2⟩
  · rw [List.mem_singleton] at hy
    subst hy
    exact ⟨trivial, h1', h2'⟩
end
def RowsE (l l' : List Int) (e : Int) (v : Value) (Θ : List Item) : Prop := ∃ A c A' c', v = .tuple #[.slice A l.length c, .slice A' l'.length c', .int .i64 e] ∧ Θ = [.row .u64 A c l, .row .u64 A' c' l']
abbrev U (A : Option Addr) (c : Nat) (l : List Int) : Item := .row .u64 A c l
section
variable {A A' : Option Addr} {c c' : Nat} {l l' : List Int}
theorem Norm_h (h : W64 l) (hl : l.length ≤ 17592186044416) : HC Try.prog 17 [U A c l] #[.slice A l.length c] (Row .u64 (L (V l))) :=
  HC.row1 fun w S HF => nat_Norm.calls (l.length + 1) A c l _ w (HF.rowC m0) (HF.rowc m0) (Norm_f h hl (by omega))
theorem Add_h (h : W64 l) (h' : W64 l') (f : l.length < 35184372088832) (f' : l'.length < 35184372088832) : HC Try.prog 15 [U A c l, U A' c' l'] #[.slice A l.length c, .slice A' l'.length c'] (Row .u64 (L (V l + V l'))) :=
  HC.row1 fun w S HF => nat_Add.calls (2 * max l.length l'.length + 11) A c l A' c' l' _ w (HF.rowC m0) (HF.rowc m0) (HF.rowC m1) (HF.rowc m1) (Add_f h h' f f' (by omega))
theorem Mul_h (h : W64 l) (h' : W64 l') (f : l.length + l'.length + 1 ≤ 35184372088832) : HC Try.prog 16 [U A c l, U A' c' l'] #[.slice A l.length c, .slice A' l'.length c'] (Row .u64 (L (V l * V l'))) :=
  HC.row1 fun w S HF => nat_Mul.calls A c l A' c' l' _ w (HF.rowC m0) (HF.rowc m0) (HF.rowC m1) (HF.rowc m1) (Mul_f h h' f)
theorem Sub_h (h : W64 l) (h' : W64 l') (f : l.length ≤ 17592186044416) (f' : l'.length ≤ 17592186044416) : HC Try.prog 77 [U A c l, U A' c' l'] #[.slice A l.length c, .slice A' l'.length c'] (Row .u64 (L (if V l < V l' then V l' - V l else V l - V l'))) :=
  HC.row1 fun w S HF => nat_Sub.calls (2 * (l.length + l'.length) + 21) (fun k_ => k_ < w.heap.size) A c l (fun k_ => k_ < w.heap.size) A' c' l' _ w (Kd.V_mk (HF.rowc m0) (Kd.C_F (Kd.heap_int .u64) (HF.rowC m0))) (Kd.V_mk (HF.rowc m1) (Kd.C_F (Kd.heap_int .u64) (HF.rowC m1))) (Sub_f h h' (by omega) (by omega) (by omega))
theorem Cmp_h (h : W64 l) (h' : W64 l') (f : l.length ≤ 35184372088832) (f' : l'.length ≤ 35184372088832) : HC Try.prog 18 [U A c l, U A' c' l'] #[.slice A l.length c, .slice A' l'.length c'] (Val (.int .i64 (sign3 (V l) (V l')))) :=
  HC.val fun w S HF => nat_Cmp.calls A c l A' c' l' _ w (HF.rowC m0) (HF.rowc m0) (HF.rowC m1) (HF.rowc m1) (Cmp_f h h' f f')
theorem Bits_h (h : W64 l) (f : l.length ≤ 35184372088832) : HC Try.prog 13 [U A c l] #[.slice A l.length c] (Val (.int .i64 (blen (V l) : Nat))) :=
  HC.drawn fun w S HF => nat_Bits.calls (l.length + 1) A c l _ w (HF.rowC m0) (HF.rowc m0) (Bits_f h f (by omega))
theorem Gcd_h (h : W64 l) (h' : W64 l') (f : l.length ≤ 17592186044000) (f' : l'.length ≤ 17592186044000) : HC Try.prog 71 [U A c l, U A' c' l'] #[.slice A l.length c, .slice A' l'.length c'] (Row .u64 (L (Nat.gcd (V l) (V l')))) :=
  HC.row1 fun w S HF => natdiv_Gcd.calls (17592186044416 + V l' + 1) A c l A' c' l' _ w (HF.rowC m0) (HF.rowc m0) (HF.rowC m1) (HF.rowc m1) (Gcd_f h h' f f' (by omega) (by omega))
theorem DivMod_h (h : W64 l) (h' : W64 l') (f : l.length ≤ 17592186044000) (f' : l'.length ≤ 17592186044000) (hz : V l' ≠ 0) : HC Try.prog 12 [U A c l, U A' c' l'] #[.slice A l.length c, .slice A' l'.length c'] (RowsE (L (V l / V l')) (L (V l % V l')) 0) := by
  refine HC.of fun w S HF => (natdiv_DivMod.calls A c l A' c' l' _ _ 0 w (HF.rowC m0) (HF.rowc m0) (HF.rowC m1) (HF.rowc m1) (DivMod_f h h' f f' hz)).mono ?_
  rintro e w' ⟨v, v', he, ho, ho', hb⟩
  obtain ⟨A1, c1, A2, c2, rfl, rfl, hy⟩ := two_ok ho ho'
  exact ⟨_, _, he, ⟨A1, c1, A2, c2, rfl, rfl⟩, hy, hb⟩
end
theorem DivMod_hL {A A' : Option Addr} {c c' : Nat} {l : List Int} (G : Nat) (h : W64 l) (f : l.length ≤ 17592186044000) (f' : (L G).length ≤ 17592186044000) (hz : G ≠ 0) : HC Try.prog 12 [U A c l, U A' c' (L G)] #[.slice A l.length c, .slice A' (L G).length c'] (RowsE (L (V l / G)) (L (V l % G)) 0) := by
  have := DivMod_h (A := A) (c := c) (A' := A') (c' := c') h (L_wf G) f f' (by rw [L_val]; exact hz)
  rwa [L_val] at this
theorem L_small {n : Nat} (h0 : 0 < n) (h : n < 18446744073709551616) : L n = [(n : Int)] := by
  unfold L
  rw [digs_pos (by omega) h0, Nat.mod_eq_of_lt h, Nat.div_eq_of_lt h, digs_zero]
theorem gcd_len {l0 l1 : List Int} (h1 : W64 l1) (hz : V l1 ≠ 0) : (L (Nat.gcd (V l0) (V l1))).length ≤ l1.length :=
  L_le (Nat.lt_of_le_of_lt (Nat.le_of_dvd (Nat.pos_of_ne_zero hz) (Nat.gcd_dvd_right _ _)) (V_lt h1))
end Go.Proofs.Ytjbpchebabhoeaa.H
end
section
set_option linter.unusedVariables false
namespace Go.Proofs.Ytjbpchebabhoeaa.H
open Go.RowKit Go.Proofs.YtjbpchebabhoeaaW.PrintWords Go.Proofs.YtjbpchebabhoeaaW.PrintLast Go.Proofs.YtjbpchebabhoeaaW.PrintMore Go.Proofs.Ytjbpchebabhoeaa.X Go.Proofs.Ytjbpchebabhoeaa.P
theorem HC.run {P : Program} {f : Nat} {Δ : List Item} {args : Array Value} {u : Value} {w : World} (h : HC P f Δ args (Val u)) (hs : ∀ y ∈ Δ, y.still) (ho : ∀ y ∈ Δ, y.ok w) (hi : True) : Calls P f args w fun e w' => e = .returned u ∧ Below w.heap.size w w' := by
  refine (h w (fun _ => False) ⟨Below.refl _ _, hi, fun _ hg => hg.elim, fun g t cs hm => (hs _ hm).elim, ho, pw_still Δ hs, fun _ _ _ hg => hg.elim⟩).mono ?_
  rintro e w' ⟨v, Θ, he, ⟨hv, hΘ⟩, -, HF⟩
  subst hv
  exact ⟨he, HF.below⟩
theorem still_nil : ∀ y ∈ ([] : List Item), y.still := fun _ h => by cases h
theorem still_row {k : IntKind} {A : Option Addr} {c : Nat} {l : List Int} {Δ : List Item} (h : ∀ y ∈ Δ, y.still) : ∀ y ∈ Item.row k A c l :: Δ, y.still := fun y hy => by
  rcases List.mem_cons.1 hy with rfl | hy
  · trivial
  · exact h y hy
theorem ok_nil {w : World} : ∀ y ∈ ([] : List Item), y.ok w := fun _ h => by cases h
theorem ok_row {w : World} {k : IntKind} {A : Option Addr} {c : Nat} {l : List Int} {Δ : List Item} (h1 : (Kd.int k).C w A l.length l) (h2 : l.length ≤ c) (h : ∀ y ∈ Δ, y.ok w) : ∀ y ∈ Item.row k A c l :: Δ, y.ok w := fun y hy => by
  rcases List.mem_cons.1 hy with rfl | hy
  · exact ⟨h1, h2⟩
  · exact h y hy
end Go.Proofs.Ytjbpchebabhoeaa.H
end
section
set_option linter.unusedVariables false
set_option linter.unusedSimpArgs false
namespace Go.Proofs.Ytjbpchebabhoeaa.H
open Go.RowKit Go.Proofs.YtjbpchebabhoeaaW.PrintWords Go.Proofs.YtjbpchebabhoeaaW.PrintLast Go.Proofs.YtjbpchebabhoeaaW.PrintMore Go.Proofs.Ytjbpchebabhoeaa.X
theorem dst_s {o : Oper} {k : Tmp} (h : o.dst = some k) : o.dst = some k := h
theorem dst_n {o : Oper} (h : o.dst = none) : o.dst = none := h
structure ZeroT (P : Program) (t : TypeId) (z : Value) (cs : List Value) : Prop where
  zero : ∀ w, (zeroValue t).run P w = .ok z w
  cells : z.cells = cs.toArray
structure SizeT (P : Program) (t : TypeId) (n : Nat) : Prop where
  size : ∀ w, (sizeOf t).run P w = .ok n w
theorem _root_.Go.Proofs.Ytjbpchebabhoeaa.H.OneT.sz {P : Program} {t : TypeId} (h : OneT P t) : SizeT P t 1 := ⟨h.size⟩
theorem _root_.Go.Proofs.Ytjbpchebabhoeaa.H.AggT.sz {P : Program} {t : TypeId} {n : Nat} (h : AggT P t n) : SizeT P t n := ⟨h.size⟩
theorem one_bool : OneT Try.prog 4 := ⟨fun _ => by kernel_rfl, fun _ => by kernel_rfl⟩
theorem one_int : OneT Try.prog 3 := ⟨fun _ => by kernel_rfl, fun _ => by kernel_rfl⟩
theorem one_u64 : OneT Try.prog 55 := ⟨fun _ => by kernel_rfl, fun _ => by kernel_rfl⟩
theorem one_u64s : OneT Try.prog 22 := ⟨fun _ => by kernel_rfl, fun _ => by kernel_rfl⟩
theorem one_errno : OneT Try.prog 24 := ⟨fun _ => by kernel_rfl, fun _ => by kernel_rfl⟩
theorem agg_whole : AggT Try.prog 45 2 := ⟨fun _ => by kernel_rfl, fun _ => by kernel_rfl⟩
theorem zero_whole : ZeroT Try.prog 45 (.agg #[.bool false, .slice none 0 0]) [.bool false, .slice none 0 0] := ⟨fun _ => by kernel_rfl, rfl⟩
theorem agg_dyadic : AggT Try.prog 43 3 := ⟨fun _ => by kernel_rfl, fun _ => by kernel_rfl⟩
theorem zero_dyadic : ZeroT Try.prog 43 (.agg #[.bool false, .slice none 0 0, .int .i64 0]) [.bool false, .slice none 0 0, .int .i64 0] := ⟨fun _ => by kernel_rfl, rfl⟩
theorem agg_ratio : AggT Try.prog 47 3 := ⟨fun _ => by kernel_rfl, fun _ => by kernel_rfl⟩
theorem zero_ratio : ZeroT Try.prog 47 (.agg #[.bool false, .slice none 0 0, .slice none 0 0]) [.bool false, .slice none 0 0, .slice none 0 0] := ⟨fun _ => by kernel_rfl, rfl⟩
theorem ev_ {a : Act} {i : Nat} {v : Value} (h : a.tmps.toList[i]? = some v) : a.eval (.tmp i) = v := by
  have : a.tmps[i]? = some v := by rw [← Array.getElem?_toList]; exact h
  show a.tmps.getD i undef = v
  simp [Array.getD_eq_getD_getElem?, this]
theorem Loads.agg' {P : Program} {t : TypeId} {n g off : Nat} {cs vs : List Value} (h : AggT P t n) (hl : off + n ≤ cs.length) (hv : (cs.drop off).take n = vs := by (simp only [List.drop_succ_cons, List.drop_zero, List.take_succ_cons, List.take_zero]; first | done | rfl)) : Loads P t g cs off (.agg vs.toArray) := by
  subst hv
  exact Loads.agg h hl
section
variable {ops : Array Oper} {rest : List Oper} {o : Oper} {a : Act} {Q : Exit → Act → World → Prop} {w0 w : World} {S : Nat → Prop} {Γ Δ Γ' : List Item}
theorem alo_ {t : TypeId} {z : Value} {cs : List Value} {N : Option Tmp} (HF : Holds w0 S Γ w)
    (h : ∀ g w', Holds w0 S (.box g t cs :: Γ) w' → wpList Try.prog ops Q rest (a.put N (.pointer (some ⟨g, 0, none⟩))) w')
    (hop : o.op = .alloc t := by rfl) (hz : ZeroT Try.prog t z cs := by (first
      | exact zero_whole
      | exact zero_dyadic
      | exact zero_ratio
      | fail)) (hd : o.dst = N := by (first | exact dst_s rfl | exact dst_n rfl)) (hg : o.guard = none := by rfl) : wpList Try.prog ops Q (o :: rest) a w := alloc_ HF hop hz.zero hz.cells h hd hg
theorem bxo_ {t : TypeId} {x : Operand} {u : Value} {cs : List Value} {N : Option Tmp} (HF : Holds w0 S Γ w)
    (h : ∀ g w', Holds w0 S (.box g t cs :: Γ) w' → wpList Try.prog ops Q rest (a.put N (.pointer (some ⟨g, 0, none⟩))) w')
    (hop : o.op = .box t x := by rfl) (hx : a.eval x = u := by (first | exact ev_ rfl | rfl)) (hu : u.cells = cs.toArray := by rfl) (hd : o.dst = N := by (first | exact dst_s rfl | exact dst_n rfl)) (hg : o.guard = none := by rfl) : wpList Try.prog ops Q (o :: rest) a w := box_ HF hop hx hu h hd hg
theorem lo_ {t : TypeId} {x : Operand} {g off : Nat} {cs : List Value} {v : Value} {N : Option Tmp} (HF : Holds w0 S Γ w) (h : wpList Try.prog ops Q rest (a.put N v) w)
    (hop : o.op = .load t x := by rfl) (hx : a.eval x = .pointer (some ⟨g, off, none⟩) := by (first | exact ev_ rfl | rfl)) (hat : At g cs Γ := by (repeat (first | exact At.box | exact At.rd | apply At.tail)))
    (hv : Loads Try.prog t g cs off v := by (first
      | exact Loads.one one_bool rfl
      | exact Loads.one one_int rfl
      | exact Loads.one one_u64s rfl
      | exact Loads.one one_errno rfl
      | exact Loads.one one_u64 rfl
      | exact Loads.agg' agg_whole (Nat.le_of_ble_eq_true rfl)
      | exact Loads.agg' agg_dyadic (Nat.le_of_ble_eq_true rfl)
      | exact Loads.agg' agg_ratio (Nat.le_of_ble_eq_true rfl)
      | fail)) (hd : o.dst = N := by (first | exact dst_s rfl | exact dst_n rfl)) (hg : o.guard = none := by rfl) : wpList Try.prog ops Q (o :: rest) a w := load_ HF hop hx hat hv h hd hg
theorem sto_ {n : Nat} {t T : TypeId} {x y : Operand} {g off : Nat} {cs cs' : List Value} {v : Value} (HF : Holds w0 S Γ w) (h : ∀ w', Holds w0 S Γ' w' → wpList Try.prog ops Q rest a w')
    (hop : o.op = .store t x y := by rfl) (hx : a.eval x = .pointer (some ⟨g, off, none⟩) := by (first | exact ev_ rfl | rfl)) (hy : a.eval y = v := by (first | exact ev_ rfl | rfl)) (hat : At g cs Γ := by (repeat (first | exact At.box | exact At.rd | apply At.tail)))
    (hsz : SizeT Try.prog t n := by (first
      | exact one_bool.sz
      | exact one_int.sz
      | exact one_u64s.sz
      | exact one_errno.sz
      | exact one_u64.sz
      | exact agg_whole.sz
      | exact agg_dyadic.sz
      | exact agg_ratio.sz
      | fail)) (hsn : v.cells.size = n := by rfl) (hrm : off + v.cells.size ≤ cs.length := by first | exact Nat.le_of_ble_eq_true rfl | decide) (ho : (v.cells.toList.all Value.oneCell') = true := by rfl) (hn : setAll cs off v.cells.toList = cs' := by (simp only [Value.cells, setAll, List.set_cons_zero, List.set_cons_succ]; first | done | rfl)) (hu : Upd g T cs cs' Γ Γ' := by (first | exact Upd.head | exact (Upd.tail Upd.head) | exact (Upd.tail (Upd.tail Upd.head)) | exact (Upd.tail (Upd.tail (Upd.tail Upd.head))) | exact (Upd.tail (Upd.tail (Upd.tail (Upd.tail Upd.head)))) | exact (Upd.tail (Upd.tail (Upd.tail (Upd.tail (Upd.tail Upd.head))))) | exact (Upd.tail (Upd.tail (Upd.tail (Upd.tail (Upd.tail (Upd.tail Upd.head)))))) | exact (Upd.tail (Upd.tail (Upd.tail (Upd.tail (Upd.tail (Upd.tail (Upd.tail Upd.head))))))) | exact (Upd.tail (Upd.tail (Upd.tail (Upd.tail (Upd.tail (Upd.tail (Upd.tail (Upd.tail Upd.head)))))))) | exact (Upd.tail (Upd.tail (Upd.tail (Upd.tail (Upd.tail (Upd.tail (Upd.tail (Upd.tail (Upd.tail Upd.head))))))))) | exact (Upd.tail (Upd.tail (Upd.tail (Upd.tail (Upd.tail (Upd.tail (Upd.tail (Upd.tail (Upd.tail (Upd.tail Upd.head)))))))))) | exact (Upd.tail (Upd.tail (Upd.tail (Upd.tail (Upd.tail (Upd.tail (Upd.tail (Upd.tail (Upd.tail (Upd.tail (Upd.tail Upd.head))))))))))) | exact (Upd.tail (Upd.tail (Upd.tail (Upd.tail (Upd.tail (Upd.tail (Upd.tail (Upd.tail (Upd.tail (Upd.tail (Upd.tail (Upd.tail Upd.head)))))))))))) | exact (Upd.tail (Upd.tail (Upd.tail (Upd.tail (Upd.tail (Upd.tail (Upd.tail (Upd.tail (Upd.tail (Upd.tail (Upd.tail (Upd.tail (Upd.tail Upd.head))))))))))))) | exact (Upd.tail (Upd.tail (Upd.tail (Upd.tail (Upd.tail (Upd.tail (Upd.tail (Upd.tail (Upd.tail (Upd.tail (Upd.tail (Upd.tail (Upd.tail (Upd.tail Upd.head)))))))))))))) | exact (Upd.tail (Upd.tail (Upd.tail (Upd.tail (Upd.tail (Upd.tail (Upd.tail (Upd.tail (Upd.tail (Upd.tail (Upd.tail (Upd.tail (Upd.tail (Upd.tail (Upd.tail Upd.head))))))))))))))) | exact (Upd.tail (Upd.tail (Upd.tail (Upd.tail (Upd.tail (Upd.tail (Upd.tail (Upd.tail (Upd.tail (Upd.tail (Upd.tail (Upd.tail (Upd.tail (Upd.tail (Upd.tail (Upd.tail Upd.head)))))))))))))))) | exact (Upd.tail (Upd.tail (Upd.tail (Upd.tail (Upd.tail (Upd.tail (Upd.tail (Upd.tail (Upd.tail (Upd.tail (Upd.tail (Upd.tail (Upd.tail (Upd.tail (Upd.tail (Upd.tail (Upd.tail Upd.head))))))))))))))))) | exact (Upd.tail (Upd.tail (Upd.tail (Upd.tail (Upd.tail (Upd.tail (Upd.tail (Upd.tail (Upd.tail (Upd.tail (Upd.tail (Upd.tail (Upd.tail (Upd.tail (Upd.tail (Upd.tail (Upd.tail (Upd.tail Upd.head)))))))))))))))))) | exact (Upd.tail (Upd.tail (Upd.tail (Upd.tail (Upd.tail (Upd.tail (Upd.tail (Upd.tail (Upd.tail (Upd.tail (Upd.tail (Upd.tail (Upd.tail (Upd.tail (Upd.tail (Upd.tail (Upd.tail (Upd.tail (Upd.tail Upd.head))))))))))))))))))) | exact (Upd.tail (Upd.tail (Upd.tail (Upd.tail (Upd.tail (Upd.tail (Upd.tail (Upd.tail (Upd.tail (Upd.tail (Upd.tail (Upd.tail (Upd.tail (Upd.tail (Upd.tail (Upd.tail (Upd.tail (Upd.tail (Upd.tail (Upd.tail Upd.head)))))))))))))))))))) | exact (Upd.tail (Upd.tail (Upd.tail (Upd.tail (Upd.tail (Upd.tail (Upd.tail (Upd.tail (Upd.tail (Upd.tail (Upd.tail (Upd.tail (Upd.tail (Upd.tail (Upd.tail (Upd.tail (Upd.tail (Upd.tail (Upd.tail (Upd.tail (Upd.tail Upd.head)))))))))))))))))))))))
    (hd : o.dst = none := by rfl) (hg : o.guard = none := by rfl) : wpList Try.prog ops Q (o :: rest) a w :=
  store_ HF hop hx hy hu ⟨fun w => by rw [hsn]; exact hsz.size w, hrm, fun u hu => List.all_eq_true.1 ho u hu, hn⟩ h hd hg
theorem cal_ {f : FuncId} {fn : Func} {aas : Array Operand} {ts : Array TypeId} {args : Array Value} {R : Value → List Item → Prop} {N : Option Tmp} (HF : Holds w0 S Γ w) (hf : Try.prog.funcs[f]? = some fn) (hc : HC Try.prog f Δ args R)
    (h : ∀ v Θ w', R v Θ → Holds w0 S (Θ ++ Γ) w' → wpList Try.prog ops Q rest (a.put N v) w')
    (hop : o.op = .call { callee := .value (.func f), args := aas, argTypes := ts } := by rfl) (hargs : aas.map a.eval = args := by (first | rfl | exact ar_)) (hd : o.dst = N := by (first | exact dst_s rfl | exact dst_n rfl)) (hg : o.guard = none := by rfl)
    (hΔ : Part Γ Δ := by (repeat (first | exact Part.nil | refine Part.cons (by (repeat (first | exact List.mem_cons_self | apply List.mem_cons_of_mem))) trivial ?_)))
    (hname : (fn.name == "runtime.NumGoroutine") = false := by kernel_rfl) (hb : fn.body.isSome = true := by rfl) : wpList Try.prog ops Q (o :: rest) a w :=
  call_ HF hf hc hΔ.all h hd hg hop hargs hname hb
end
section
variable {fn : Func} {a : Act} {R : Value → List Item → Prop} {w w' : World} {S : Nat → Prop} {Γ Δ Θ : List Item} {p p' u u' : Tmp} {ty ty' : TypeId} {g g' : Nat} {cs cs' : List Value} {v v' : Value}
theorem post_ (HF : Holds w S Γ w') (hR : R v Θ) (hs : Part Γ (Θ ++ Δ) := by (simp only [List.cons_append, List.nil_append]; (repeat (first | exact Part.nil | refine Part.cons (by (repeat (first | exact List.mem_cons_self | apply List.mem_cons_of_mem))) trivial ?_)))) : Post R w S Δ (.returned v) w' :=
  ⟨v, Θ, rfl, hR, fun y hy => (hs.all y (List.mem_append_left _ hy)).2, HF.sub hs.all⟩
theorem retc_ (HF : Holds w S Γ w') (h : Post R w S Δ (.returned v) w') (hr : fn.results = #[.cell p ty] := by rfl) (hp : a.tmps.getD p undef = .pointer (some ⟨g, 0, none⟩) := by rfl)
    (hat : At g cs Γ := by (repeat (first | exact At.box | exact At.rd | apply At.tail))) (hv : Loads Try.prog ty g cs 0 v := by (first
      | exact Loads.one one_bool rfl
      | exact Loads.one one_int rfl
      | exact Loads.one one_u64s rfl
      | exact Loads.one one_errno rfl
      | exact Loads.one one_u64 rfl
      | exact Loads.agg' agg_whole (Nat.le_of_ble_eq_true rfl)
      | exact Loads.agg' agg_dyadic (Nat.le_of_ble_eq_true rfl)
      | exact Loads.agg' agg_ratio (Nat.le_of_ble_eq_true rfl)
      | fail)) (hd : a.defers = [] := by rfl) : bodyPost Try.prog fn (Post R w S Δ) .ret a w' := ret_c HF hr hp hat hv hd h
theorem retct_ (HF : Holds w S Γ w') (h : Post R w S Δ (.returned (.tuple #[v, v'])) w') (hr : fn.results = #[.cell p ty, .tmp u] := by rfl) (hp : a.tmps.getD p undef = .pointer (some ⟨g, 0, none⟩) := by rfl)
    (hat : At g cs Γ := by (repeat (first | exact At.box | exact At.rd | apply At.tail))) (hv : Loads Try.prog ty g cs 0 v := by (first
      | exact Loads.one one_bool rfl
      | exact Loads.one one_int rfl
      | exact Loads.one one_u64s rfl
      | exact Loads.one one_errno rfl
      | exact Loads.one one_u64 rfl
      | exact Loads.agg' agg_whole (Nat.le_of_ble_eq_true rfl)
      | exact Loads.agg' agg_dyadic (Nat.le_of_ble_eq_true rfl)
      | exact Loads.agg' agg_ratio (Nat.le_of_ble_eq_true rfl)
      | fail)) (hu : a.tmps.getD u undef = v' := by rfl) (hd : a.defers = [] := by rfl) : bodyPost Try.prog fn (Post R w S Δ) .ret a w' := ret_ct HF hr hp hat hv hd (by rw [hu]; exact h)
end
end Go.Proofs.Ytjbpchebabhoeaa.H
end
