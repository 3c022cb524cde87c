/- The machine side of the laws, written by a program of this session over the kit's own print. -/
import Derived.Test.YtjbpchebabhoeaaP0
import Derived.Test.YtjbpchebabhoeaaPqfaddAdd
import Derived.Test.YtjbpchebabhoeaaPqvernierlaw07alive
import Derived.Test.YtjbpchebabhoeaaPqfaddSub
namespace Go.Proofs.Ytjbpchebabhoeaa.P
open Go.RowKit Go.Proofs.YtjbpchebabhoeaaW.PrintWords Go.Proofs.YtjbpchebabhoeaaW.PrintLast Go.Proofs.YtjbpchebabhoeaaW.PrintMore Go.Proofs.Ytjbpchebabhoeaa.X
attribute [local go_sem] max2_int min2_int max_two min_two max_three min_three max_four min_four   -- for this text's walks alone
set_option linter.unusedVariables false
set_option linter.unusedSimpArgs false

/-! ### vernierlaw07_FaddExact: function 9 -/
def vernierlaw07_FaddExact.j0 : Nat → Bool → Int → Int → Option (Bool)
  | 0, _, _, _ => none
  | k + 1, x4, x12, x13 => if x4 = true then ((fadd_Add.f k x12 (IntKind.u64.wrap (x13 + 9223372036854775808)) 0).bind fun bt426 => ((fadd_Sub.f k bt426.1 (IntKind.u64.wrap (x13 + 9223372036854775808)) 0).bind fun bt428 => (if bt426.2 = 0 then (if bt428.2 = 0 then (some (bt428.1 == x12)) else (some false)) else (some false)))) else ((fadd_Add.f k x12 x13 0).bind fun bt430 => ((fadd_Sub.f k bt430.1 x13 0).bind fun bt432 => (if bt430.2 = 0 then (if bt432.2 = 0 then (some (bt432.1 == x12)) else (some false)) else (some false))))
def vernierlaw07_FaddExact.f (k : Nat) (a0 : Int) (a1 : Int) (a2 : Int) (a3 : Bool) (a4 : Bool) : Option (Bool) := (vernierlaw07_alive.f k).bind fun t425 => (if t425 = true then (if a3 = true then (vernierlaw07_FaddExact.j0 k a4 (IntKind.u64.wrap ((IntKind.u64.wrap ((IntKind.u64.wrap ((IntKind.u64.wrap (100 + (Int.tmod (IntKind.u64.wrap (a2)) 1800))) * 4503599627370496)) + (IntKind.u64.wrap ((IntKind.u64.wrap (a0)) * 524288)))) + 9223372036854775808)) (IntKind.u64.wrap ((IntKind.u64.wrap ((IntKind.u64.wrap (100 + (Int.tmod (IntKind.u64.wrap (a2)) 1800))) * 4503599627370496)) + (IntKind.u64.wrap ((IntKind.u64.wrap (a1)) * 524288))))) else (vernierlaw07_FaddExact.j0 k a4 (IntKind.u64.wrap ((IntKind.u64.wrap ((IntKind.u64.wrap (100 + (Int.tmod (IntKind.u64.wrap (a2)) 1800))) * 4503599627370496)) + (IntKind.u64.wrap ((IntKind.u64.wrap (a0)) * 524288)))) (IntKind.u64.wrap ((IntKind.u64.wrap ((IntKind.u64.wrap (100 + (Int.tmod (IntKind.u64.wrap (a2)) 1800))) * 4503599627370496)) + (IntKind.u64.wrap ((IntKind.u64.wrap (a1)) * 524288)))))) else (some false))
theorem vernierlaw07_FaddExact.mono_l : ∀ k, (∀ y0 y1 y2, LeO (vernierlaw07_FaddExact.j0 k y0 y1 y2) (vernierlaw07_FaddExact.j0 (k + 1) y0 y1 y2))
  | 0 => fun _ _ _ r h => by simp [vernierlaw07_FaddExact.j0] at h
  | k + 1 => by
    have ih0 := vernierlaw07_FaddExact.mono_l k
    · intro y0 y1 y2
      unfold vernierlaw07_FaddExact.j0
      repeat' first
      | (with_reducible exact ih0 _ _ _)
      | (with_reducible exact fadd_Add.mono _ _ _ _)
      | (with_reducible exact fadd_Sub.mono _ _ _ _)
      | (with_reducible exact vernierlaw07_alive.mono _)
      | (with_reducible exact LeO.refl _)
      | (with_reducible exact LeO.none _)
      | (with_reducible refine LeO.ite ?_ ?_)
      | (with_reducible refine LeO.bind ?_ (fun _ => ?_))
      | exact ih0 _ _ _
      | exact fadd_Add.mono _ _ _ _
      | exact fadd_Sub.mono _ _ _ _
      | exact vernierlaw07_alive.mono _
      | exact LeO.none _
      | refine LeO.ite ?_ ?_
      | refine LeO.bind ?_ (fun _ => ?_)
theorem vernierlaw07_FaddExact.mono : ∀ a0 a1 a2 a3 a4 k, LeO (vernierlaw07_FaddExact.f k a0 a1 a2 a3 a4) (vernierlaw07_FaddExact.f (k + 1) a0 a1 a2 a3 a4) := by
  intro a0 a1 a2 a3 a4 k
  have ih0 := vernierlaw07_FaddExact.mono_l k
  unfold vernierlaw07_FaddExact.f
  repeat' first
      | (with_reducible exact ih0 _ _ _)
      | (with_reducible exact fadd_Add.mono _ _ _ _)
      | (with_reducible exact fadd_Sub.mono _ _ _ _)
      | (with_reducible exact vernierlaw07_alive.mono _)
      | (with_reducible exact LeO.refl _)
      | (with_reducible exact LeO.none _)
      | (with_reducible refine LeO.ite ?_ ?_)
      | (with_reducible refine LeO.bind ?_ (fun _ => ?_))
      | exact ih0 _ _ _
      | exact fadd_Add.mono _ _ _ _
      | exact fadd_Sub.mono _ _ _ _
      | exact vernierlaw07_alive.mono _
      | exact LeO.none _
      | refine LeO.ite ?_ ?_
      | refine LeO.bind ?_ (fun _ => ?_)
set_option maxHeartbeats 8000000 in
set_option maxRecDepth 100000 in
theorem vernierlaw07_FaddExact.calls (k : Nat) (a0 : Int) (a1 : Int) (a2 : Int) (a3 : Bool) (a4 : Bool) (r : Bool) (w : World) (h : vernierlaw07_FaddExact.f k a0 a1 a2 a3 a4 = some r) :
    Calls Try.prog 9 #[.int .u32 a0, .int .u32 a1, .int .u16 a2, .bool a3, .bool a4] w fun e w' => e = .returned (.bool r) ∧ Below w.heap.size w w' := by
  have HB := Aside0.mk (Below.refl w.heap.size w)
  have H : ((vernierlaw07_alive.f k).bind fun t425 => (if t425 = true then (if a3 = true then (vernierlaw07_FaddExact.j0 k a4 (IntKind.u64.wrap ((IntKind.u64.wrap ((IntKind.u64.wrap ((IntKind.u64.wrap (100 + (Int.tmod (IntKind.u64.wrap (a2)) 1800))) * 4503599627370496)) + (IntKind.u64.wrap ((IntKind.u64.wrap (a0)) * 524288)))) + 9223372036854775808)) (IntKind.u64.wrap ((IntKind.u64.wrap ((IntKind.u64.wrap (100 + (Int.tmod (IntKind.u64.wrap (a2)) 1800))) * 4503599627370496)) + (IntKind.u64.wrap ((IntKind.u64.wrap (a1)) * 524288))))) else (vernierlaw07_FaddExact.j0 k a4 (IntKind.u64.wrap ((IntKind.u64.wrap ((IntKind.u64.wrap (100 + (Int.tmod (IntKind.u64.wrap (a2)) 1800))) * 4503599627370496)) + (IntKind.u64.wrap ((IntKind.u64.wrap (a0)) * 524288)))) (IntKind.u64.wrap ((IntKind.u64.wrap ((IntKind.u64.wrap (100 + (Int.tmod (IntKind.u64.wrap (a2)) 1800))) * 4503599627370496)) + (IntKind.u64.wrap ((IntKind.u64.wrap (a1)) * 524288)))))) else (some false))) = some r := h
  clear h
  replace H := Option.bind_eq_some_iff.mp H
  obtain ⟨t425, A60, H⟩ := H
  replace H : (if t425 = true then (if a3 = true then (vernierlaw07_FaddExact.j0 k a4 (IntKind.u64.wrap ((IntKind.u64.wrap ((IntKind.u64.wrap ((IntKind.u64.wrap (100 + (Int.tmod (IntKind.u64.wrap (a2)) 1800))) * 4503599627370496)) + (IntKind.u64.wrap ((IntKind.u64.wrap (a0)) * 524288)))) + 9223372036854775808)) (IntKind.u64.wrap ((IntKind.u64.wrap ((IntKind.u64.wrap (100 + (Int.tmod (IntKind.u64.wrap (a2)) 1800))) * 4503599627370496)) + (IntKind.u64.wrap ((IntKind.u64.wrap (a1)) * 524288))))) else (vernierlaw07_FaddExact.j0 k a4 (IntKind.u64.wrap ((IntKind.u64.wrap ((IntKind.u64.wrap (100 + (Int.tmod (IntKind.u64.wrap (a2)) 1800))) * 4503599627370496)) + (IntKind.u64.wrap ((IntKind.u64.wrap (a0)) * 524288)))) (IntKind.u64.wrap ((IntKind.u64.wrap ((IntKind.u64.wrap (100 + (Int.tmod (IntKind.u64.wrap (a2)) 1800))) * 4503599627370496)) + (IntKind.u64.wrap ((IntKind.u64.wrap (a1)) * 524288)))))) else (some false)) = some r := H
  have A6 := Aside0.mk A60
  clear A60
  by_cases c7 : t425 = true
  · subst c7
    have H1 : (if a3 = true then (vernierlaw07_FaddExact.j0 k a4 (IntKind.u64.wrap ((IntKind.u64.wrap ((IntKind.u64.wrap ((IntKind.u64.wrap (100 + (Int.tmod (IntKind.u64.wrap (a2)) 1800))) * 4503599627370496)) + (IntKind.u64.wrap ((IntKind.u64.wrap (a0)) * 524288)))) + 9223372036854775808)) (IntKind.u64.wrap ((IntKind.u64.wrap ((IntKind.u64.wrap (100 + (Int.tmod (IntKind.u64.wrap (a2)) 1800))) * 4503599627370496)) + (IntKind.u64.wrap ((IntKind.u64.wrap (a1)) * 524288))))) else (vernierlaw07_FaddExact.j0 k a4 (IntKind.u64.wrap ((IntKind.u64.wrap ((IntKind.u64.wrap (100 + (Int.tmod (IntKind.u64.wrap (a2)) 1800))) * 4503599627370496)) + (IntKind.u64.wrap ((IntKind.u64.wrap (a0)) * 524288)))) (IntKind.u64.wrap ((IntKind.u64.wrap ((IntKind.u64.wrap (100 + (Int.tmod (IntKind.u64.wrap (a2)) 1800))) * 4503599627370496)) + (IntKind.u64.wrap ((IntKind.u64.wrap (a1)) * 524288)))))) = some r := by rw [if_pos rfl] at H; exact H
    clear H
    have H := H1
    clear H1
    have HC8 := Aside0.mk H
    clear H
    go_enter Try.func9, Try.ntmps9
    go_upto_if 36 with (first | ((with_reducible refine gate_callee (f := 45) rfl ?_); refine goesL_ (some 18) rfl rfl Try.func45 (by kernel_rfl) rfl #[] rfl (by (try simp only [List.map_toArray, List.map_cons, List.map_nil]); first | done | rfl | (simp only [List.length_drop, List.length_take]; rfl)) ?_; (with_reducible refine (vernierlaw07_alive.calls k  true _ A6.out).mono ?_); rintro e w9 ⟨rfl, hb⟩; refine ⟨_, rfl, ?_⟩; have n0_ := Aside0.mk (below_step (by repeat (first | (with_reducible first | exact HB.out | apply below_alloc | apply pw_below_drewN | apply below_drew1) | exact HB.out)) hb); clear HB; have HB := n0_; clear n0_; (try clear hb); (try clear hb2); (try clear hk); (try clear hi)))
    (try simp only [Act.put, List.setIfInBounds_toArray, List.set_cons_zero, List.set_cons_succ])
    go_cut [12] (fun v12 wc => ∃ (kq : Nat) (x12_7 : Int), v12 = .int .u64 x12_7 ∧ Aside0 (vernierlaw07_FaddExact.j0 kq a4 x12_7 (IntKind.u64.wrap ((IntKind.u64.wrap ((IntKind.u64.wrap (100 + (Int.tmod (IntKind.u64.wrap (a2)) 1800))) * 4503599627370496)) + (IntKind.u64.wrap ((IntKind.u64.wrap (a1)) * 524288)))) = some r) ∧ Aside0 (kq ≤ k) ∧ Aside0 (Below w.heap.size w wc))
    case first =>
      have H := HC8.out
      clear HC8
      by_cases c10 : a3 = true
      · subst c10
        have H1 : (vernierlaw07_FaddExact.j0 k a4 (IntKind.u64.wrap ((IntKind.u64.wrap ((IntKind.u64.wrap ((IntKind.u64.wrap (100 + (Int.tmod (IntKind.u64.wrap (a2)) 1800))) * 4503599627370496)) + (IntKind.u64.wrap ((IntKind.u64.wrap (a0)) * 524288)))) + 9223372036854775808)) (IntKind.u64.wrap ((IntKind.u64.wrap ((IntKind.u64.wrap (100 + (Int.tmod (IntKind.u64.wrap (a2)) 1800))) * 4503599627370496)) + (IntKind.u64.wrap ((IntKind.u64.wrap (a1)) * 524288))))) = some r := by rw [if_pos rfl] at H; exact H
        clear H
        have H := H1
        clear H1
        have H' := Aside0.mk H
        clear H
        go_wp2
        go_meet
        case rel => exact ⟨_, (IntKind.u64.wrap ((IntKind.u64.wrap ((IntKind.u64.wrap ((IntKind.u64.wrap (100 + (Int.tmod (IntKind.u64.wrap (a2)) 1800))) * 4503599627370496)) + (IntKind.u64.wrap ((IntKind.u64.wrap (a0)) * 524288)))) + 9223372036854775808)), (by first | rfl | (simp; done) | (simp [*]; done)), H', ⟨by first | omega | exact Nat.le_refl _⟩, ⟨by repeat (first | (with_reducible first | exact HB.out | apply below_alloc | apply pw_below_drewN | apply below_drew1) | exact HB.out)⟩⟩
      · replace c10 := Bool.eq_false_iff.mpr c10
        subst c10
        have H1 : (vernierlaw07_FaddExact.j0 k a4 (IntKind.u64.wrap ((IntKind.u64.wrap ((IntKind.u64.wrap (100 + (Int.tmod (IntKind.u64.wrap (a2)) 1800))) * 4503599627370496)) + (IntKind.u64.wrap ((IntKind.u64.wrap (a0)) * 524288)))) (IntKind.u64.wrap ((IntKind.u64.wrap ((IntKind.u64.wrap (100 + (Int.tmod (IntKind.u64.wrap (a2)) 1800))) * 4503599627370496)) + (IntKind.u64.wrap ((IntKind.u64.wrap (a1)) * 524288))))) = some r := by rw [if_neg (show ¬ (false = true) by decide)] at H; exact H
        clear H
        have H := H1
        clear H1
        have H' := Aside0.mk H
        clear H
        go_wp2
        go_meet
        case rel => exact ⟨_, (IntKind.u64.wrap ((IntKind.u64.wrap ((IntKind.u64.wrap (100 + (Int.tmod (IntKind.u64.wrap (a2)) 1800))) * 4503599627370496)) + (IntKind.u64.wrap ((IntKind.u64.wrap (a0)) * 524288)))), (by first | rfl | (simp; done) | (simp [*]; done)), H', ⟨by first | omega | exact Nat.le_refl _⟩, ⟨by repeat (first | (with_reducible first | exact HB.out | apply below_alloc | apply pw_below_drewN | apply below_drew1) | exact HB.out)⟩⟩
    case rest =>
      clear HC8
      try clear c1
      try clear p2
      try clear c4
      try clear c7
      try clear c9
      try clear c10
      obtain ⟨kq, x12_7, rfl, HA, HJ7, HB⟩ := hcut
      cases kq with
      | zero => exact absurd HA.out (by simp [vernierlaw07_FaddExact.j0])
      | succ kj7 =>
        have H := HA.out
        clear HA
        simp only [vernierlaw07_FaddExact.j0] at H
        by_cases c11 : a4 = true
        · subst c11
          have H1 : ((fadd_Add.f kj7 x12_7 (IntKind.u64.wrap ((IntKind.u64.wrap ((IntKind.u64.wrap ((IntKind.u64.wrap (100 + (Int.tmod (IntKind.u64.wrap (a2)) 1800))) * 4503599627370496)) + (IntKind.u64.wrap ((IntKind.u64.wrap (a1)) * 524288)))) + 9223372036854775808)) 0).bind fun bt426 => ((fadd_Sub.f kj7 bt426.1 (IntKind.u64.wrap ((IntKind.u64.wrap ((IntKind.u64.wrap ((IntKind.u64.wrap (100 + (Int.tmod (IntKind.u64.wrap (a2)) 1800))) * 4503599627370496)) + (IntKind.u64.wrap ((IntKind.u64.wrap (a1)) * 524288)))) + 9223372036854775808)) 0).bind fun bt428 => (if bt426.2 = 0 then (if bt428.2 = 0 then (some (bt428.1 == x12_7)) else (some false)) else (some false)))) = some r := by rw [if_pos rfl] at H; exact H
          clear H
          have H := H1
          clear H1
          replace H := Option.bind_eq_some_iff.mp H
          obtain ⟨⟨t426, t427⟩, A120, H⟩ := H
          replace H : ((fadd_Sub.f kj7 t426 (IntKind.u64.wrap ((IntKind.u64.wrap ((IntKind.u64.wrap ((IntKind.u64.wrap (100 + (Int.tmod (IntKind.u64.wrap (a2)) 1800))) * 4503599627370496)) + (IntKind.u64.wrap ((IntKind.u64.wrap (a1)) * 524288)))) + 9223372036854775808)) 0).bind fun bt428 => (if t427 = 0 then (if bt428.2 = 0 then (some (bt428.1 == x12_7)) else (some false)) else (some false))) = some r := H
          have A12 := Aside0.mk A120
          clear A120
          replace H := Option.bind_eq_some_iff.mp H
          obtain ⟨⟨t428, t429⟩, A130, H⟩ := H
          replace H : (if t427 = 0 then (if t429 = 0 then (some (t428 == x12_7)) else (some false)) else (some false)) = some r := H
          have A13 := Aside0.mk A130
          clear A130
          by_cases c14 : t427 = 0
          · rw [if_pos c14] at H
            have c14b0 : (t427 == 0) = true := beq_iff_eq.mpr c14
            have c14b1 : (t427 != 0) = false := bne_eq_false_iff_eq.mpr c14
            clear c14
            by_cases c15 : t429 = 0
            · rw [if_pos c15] at H
              have c15b0 : (t429 == 0) = true := beq_iff_eq.mpr c15
              have c15b1 : (t429 != 0) = false := bne_eq_false_iff_eq.mpr c15
              clear c15
              obtain rfl := Option.some.inj H
              go_wp2_with (first | ((with_reducible refine gate_callee (f := 46) rfl ?_); refine goesL_ (some 45) rfl rfl Try.func46 (by kernel_rfl) rfl #[.int .u64 x12_7, .int .u64 (IntKind.u64.wrap ((IntKind.u64.wrap ((IntKind.u64.wrap ((IntKind.u64.wrap (100 + (Int.tmod (IntKind.u64.wrap (a2)) 1800))) * 4503599627370496)) + (IntKind.u64.wrap ((IntKind.u64.wrap (a1)) * 524288)))) + 9223372036854775808)), .int .i64 0] rfl (by (try simp only [List.map_toArray, List.map_cons, List.map_nil]); first | done | rfl | (simp only [List.length_drop, List.length_take]; rfl)) ?_; (with_reducible refine (fadd_Add.calls kj7 x12_7 (IntKind.u64.wrap ((IntKind.u64.wrap ((IntKind.u64.wrap ((IntKind.u64.wrap (100 + (Int.tmod (IntKind.u64.wrap (a2)) 1800))) * 4503599627370496)) + (IntKind.u64.wrap ((IntKind.u64.wrap (a1)) * 524288)))) + 9223372036854775808)) 0 t426 t427 _ A12.out).mono ?_); rintro e w16 ⟨rfl, hb⟩; refine ⟨_, rfl, ?_⟩; have n0_ := Aside0.mk (below_step (by repeat (first | (with_reducible first | exact HB.out | apply below_alloc | apply pw_below_drewN | apply below_drew1) | exact HB.out)) hb); clear HB; have HB := n0_; clear n0_; (try clear hb); (try clear hb2); (try clear hk); (try clear hi)) | ((with_reducible refine gate_callee (f := 47) rfl ?_); refine goesL_ (some 51) rfl rfl Try.func47 (by kernel_rfl) rfl #[.int .u64 t426, .int .u64 (IntKind.u64.wrap ((IntKind.u64.wrap ((IntKind.u64.wrap ((IntKind.u64.wrap (100 + (Int.tmod (IntKind.u64.wrap (a2)) 1800))) * 4503599627370496)) + (IntKind.u64.wrap ((IntKind.u64.wrap (a1)) * 524288)))) + 9223372036854775808)), .int .i64 0] rfl (by (try simp only [List.map_toArray, List.map_cons, List.map_nil]); first | done | rfl | (simp only [List.length_drop, List.length_take]; rfl)) ?_; (with_reducible refine (fadd_Sub.calls kj7 t426 (IntKind.u64.wrap ((IntKind.u64.wrap ((IntKind.u64.wrap ((IntKind.u64.wrap (100 + (Int.tmod (IntKind.u64.wrap (a2)) 1800))) * 4503599627370496)) + (IntKind.u64.wrap ((IntKind.u64.wrap (a1)) * 524288)))) + 9223372036854775808)) 0 t428 t429 _ A13.out).mono ?_); rintro e w17 ⟨rfl, hb⟩; refine ⟨_, rfl, ?_⟩; have n0_ := Aside0.mk (below_step (by repeat (first | (with_reducible first | exact HB.out | apply below_alloc | apply pw_below_drewN | apply below_drew1) | exact HB.out)) hb); clear HB; have HB := n0_; clear n0_; (try clear hb); (try clear hb2); (try clear hk); (try clear hi)))
              go_ret
              exact ⟨by first | rfl | (simp [errW_none, errW_some] <;> rfl) | (simp [*, errW_none, errW_some] <;> rfl), by repeat (first | (with_reducible first | exact HB.out | apply below_alloc | apply pw_below_drewN | apply below_drew1) | exact HB.out)⟩
            · rw [if_neg c15] at H
              have c15b0 : (t429 == 0) = false := beq_eq_false_iff_ne.mpr c15
              have c15b1 : (t429 != 0) = true := bne_iff_ne.mpr c15
              obtain rfl := Option.some.inj H
              go_wp2_with (first | ((with_reducible refine gate_callee (f := 46) rfl ?_); refine goesL_ (some 45) rfl rfl Try.func46 (by kernel_rfl) rfl #[.int .u64 x12_7, .int .u64 (IntKind.u64.wrap ((IntKind.u64.wrap ((IntKind.u64.wrap ((IntKind.u64.wrap (100 + (Int.tmod (IntKind.u64.wrap (a2)) 1800))) * 4503599627370496)) + (IntKind.u64.wrap ((IntKind.u64.wrap (a1)) * 524288)))) + 9223372036854775808)), .int .i64 0] rfl (by (try simp only [List.map_toArray, List.map_cons, List.map_nil]); first | done | rfl | (simp only [List.length_drop, List.length_take]; rfl)) ?_; (with_reducible refine (fadd_Add.calls kj7 x12_7 (IntKind.u64.wrap ((IntKind.u64.wrap ((IntKind.u64.wrap ((IntKind.u64.wrap (100 + (Int.tmod (IntKind.u64.wrap (a2)) 1800))) * 4503599627370496)) + (IntKind.u64.wrap ((IntKind.u64.wrap (a1)) * 524288)))) + 9223372036854775808)) 0 t426 t427 _ A12.out).mono ?_); rintro e w18 ⟨rfl, hb⟩; refine ⟨_, rfl, ?_⟩; have n0_ := Aside0.mk (below_step (by repeat (first | (with_reducible first | exact HB.out | apply below_alloc | apply pw_below_drewN | apply below_drew1) | exact HB.out)) hb); clear HB; have HB := n0_; clear n0_; (try clear hb); (try clear hb2); (try clear hk); (try clear hi)) | ((with_reducible refine gate_callee (f := 47) rfl ?_); refine goesL_ (some 51) rfl rfl Try.func47 (by kernel_rfl) rfl #[.int .u64 t426, .int .u64 (IntKind.u64.wrap ((IntKind.u64.wrap ((IntKind.u64.wrap ((IntKind.u64.wrap (100 + (Int.tmod (IntKind.u64.wrap (a2)) 1800))) * 4503599627370496)) + (IntKind.u64.wrap ((IntKind.u64.wrap (a1)) * 524288)))) + 9223372036854775808)), .int .i64 0] rfl (by (try simp only [List.map_toArray, List.map_cons, List.map_nil]); first | done | rfl | (simp only [List.length_drop, List.length_take]; rfl)) ?_; (with_reducible refine (fadd_Sub.calls kj7 t426 (IntKind.u64.wrap ((IntKind.u64.wrap ((IntKind.u64.wrap ((IntKind.u64.wrap (100 + (Int.tmod (IntKind.u64.wrap (a2)) 1800))) * 4503599627370496)) + (IntKind.u64.wrap ((IntKind.u64.wrap (a1)) * 524288)))) + 9223372036854775808)) 0 t428 t429 _ A13.out).mono ?_); rintro e w19 ⟨rfl, hb⟩; refine ⟨_, rfl, ?_⟩; have n0_ := Aside0.mk (below_step (by repeat (first | (with_reducible first | exact HB.out | apply below_alloc | apply pw_below_drewN | apply below_drew1) | exact HB.out)) hb); clear HB; have HB := n0_; clear n0_; (try clear hb); (try clear hb2); (try clear hk); (try clear hi)))
              go_ret
              exact ⟨by first | rfl | (simp [errW_none, errW_some] <;> rfl) | (simp [*, errW_none, errW_some] <;> rfl), by repeat (first | (with_reducible first | exact HB.out | apply below_alloc | apply pw_below_drewN | apply below_drew1) | exact HB.out)⟩
          · rw [if_neg c14] at H
            have c14b0 : (t427 == 0) = false := beq_eq_false_iff_ne.mpr c14
            have c14b1 : (t427 != 0) = true := bne_iff_ne.mpr c14
            obtain rfl := Option.some.inj H
            go_wp2_with (first | ((with_reducible refine gate_callee (f := 46) rfl ?_); refine goesL_ (some 45) rfl rfl Try.func46 (by kernel_rfl) rfl #[.int .u64 x12_7, .int .u64 (IntKind.u64.wrap ((IntKind.u64.wrap ((IntKind.u64.wrap ((IntKind.u64.wrap (100 + (Int.tmod (IntKind.u64.wrap (a2)) 1800))) * 4503599627370496)) + (IntKind.u64.wrap ((IntKind.u64.wrap (a1)) * 524288)))) + 9223372036854775808)), .int .i64 0] rfl (by (try simp only [List.map_toArray, List.map_cons, List.map_nil]); first | done | rfl | (simp only [List.length_drop, List.length_take]; rfl)) ?_; (with_reducible refine (fadd_Add.calls kj7 x12_7 (IntKind.u64.wrap ((IntKind.u64.wrap ((IntKind.u64.wrap ((IntKind.u64.wrap (100 + (Int.tmod (IntKind.u64.wrap (a2)) 1800))) * 4503599627370496)) + (IntKind.u64.wrap ((IntKind.u64.wrap (a1)) * 524288)))) + 9223372036854775808)) 0 t426 t427 _ A12.out).mono ?_); rintro e w20 ⟨rfl, hb⟩; refine ⟨_, rfl, ?_⟩; have n0_ := Aside0.mk (below_step (by repeat (first | (with_reducible first | exact HB.out | apply below_alloc | apply pw_below_drewN | apply below_drew1) | exact HB.out)) hb); clear HB; have HB := n0_; clear n0_; (try clear hb); (try clear hb2); (try clear hk); (try clear hi)) | ((with_reducible refine gate_callee (f := 47) rfl ?_); refine goesL_ (some 51) rfl rfl Try.func47 (by kernel_rfl) rfl #[.int .u64 t426, .int .u64 (IntKind.u64.wrap ((IntKind.u64.wrap ((IntKind.u64.wrap ((IntKind.u64.wrap (100 + (Int.tmod (IntKind.u64.wrap (a2)) 1800))) * 4503599627370496)) + (IntKind.u64.wrap ((IntKind.u64.wrap (a1)) * 524288)))) + 9223372036854775808)), .int .i64 0] rfl (by (try simp only [List.map_toArray, List.map_cons, List.map_nil]); first | done | rfl | (simp only [List.length_drop, List.length_take]; rfl)) ?_; (with_reducible refine (fadd_Sub.calls kj7 t426 (IntKind.u64.wrap ((IntKind.u64.wrap ((IntKind.u64.wrap ((IntKind.u64.wrap (100 + (Int.tmod (IntKind.u64.wrap (a2)) 1800))) * 4503599627370496)) + (IntKind.u64.wrap ((IntKind.u64.wrap (a1)) * 524288)))) + 9223372036854775808)) 0 t428 t429 _ A13.out).mono ?_); rintro e w21 ⟨rfl, hb⟩; refine ⟨_, rfl, ?_⟩; have n0_ := Aside0.mk (below_step (by repeat (first | (with_reducible first | exact HB.out | apply below_alloc | apply pw_below_drewN | apply below_drew1) | exact HB.out)) hb); clear HB; have HB := n0_; clear n0_; (try clear hb); (try clear hb2); (try clear hk); (try clear hi)))
            go_ret
            exact ⟨by first | rfl | (simp [errW_none, errW_some] <;> rfl) | (simp [*, errW_none, errW_some] <;> rfl), by repeat (first | (with_reducible first | exact HB.out | apply below_alloc | apply pw_below_drewN | apply below_drew1) | exact HB.out)⟩
        · replace c11 := Bool.eq_false_iff.mpr c11
          subst c11
          have H1 : ((fadd_Add.f kj7 x12_7 (IntKind.u64.wrap ((IntKind.u64.wrap ((IntKind.u64.wrap (100 + (Int.tmod (IntKind.u64.wrap (a2)) 1800))) * 4503599627370496)) + (IntKind.u64.wrap ((IntKind.u64.wrap (a1)) * 524288)))) 0).bind fun bt430 => ((fadd_Sub.f kj7 bt430.1 (IntKind.u64.wrap ((IntKind.u64.wrap ((IntKind.u64.wrap (100 + (Int.tmod (IntKind.u64.wrap (a2)) 1800))) * 4503599627370496)) + (IntKind.u64.wrap ((IntKind.u64.wrap (a1)) * 524288)))) 0).bind fun bt432 => (if bt430.2 = 0 then (if bt432.2 = 0 then (some (bt432.1 == x12_7)) else (some false)) else (some false)))) = some r := by rw [if_neg (show ¬ (false = true) by decide)] at H; exact H
          clear H
          have H := H1
          clear H1
          replace H := Option.bind_eq_some_iff.mp H
          obtain ⟨⟨t430, t431⟩, A220, H⟩ := H
          replace H : ((fadd_Sub.f kj7 t430 (IntKind.u64.wrap ((IntKind.u64.wrap ((IntKind.u64.wrap (100 + (Int.tmod (IntKind.u64.wrap (a2)) 1800))) * 4503599627370496)) + (IntKind.u64.wrap ((IntKind.u64.wrap (a1)) * 524288)))) 0).bind fun bt432 => (if t431 = 0 then (if bt432.2 = 0 then (some (bt432.1 == x12_7)) else (some false)) else (some false))) = some r := H
          have A22 := Aside0.mk A220
          clear A220
          replace H := Option.bind_eq_some_iff.mp H
          obtain ⟨⟨t432, t433⟩, A230, H⟩ := H
          replace H : (if t431 = 0 then (if t433 = 0 then (some (t432 == x12_7)) else (some false)) else (some false)) = some r := H
          have A23 := Aside0.mk A230
          clear A230
          by_cases c24 : t431 = 0
          · rw [if_pos c24] at H
            have c24b0 : (t431 == 0) = true := beq_iff_eq.mpr c24
            have c24b1 : (t431 != 0) = false := bne_eq_false_iff_eq.mpr c24
            clear c24
            by_cases c25 : t433 = 0
            · rw [if_pos c25] at H
              have c25b0 : (t433 == 0) = true := beq_iff_eq.mpr c25
              have c25b1 : (t433 != 0) = false := bne_eq_false_iff_eq.mpr c25
              clear c25
              obtain rfl := Option.some.inj H
              go_wp2_with (first | ((with_reducible refine gate_callee (f := 46) rfl ?_); refine goesL_ (some 45) rfl rfl Try.func46 (by kernel_rfl) rfl #[.int .u64 x12_7, .int .u64 (IntKind.u64.wrap ((IntKind.u64.wrap ((IntKind.u64.wrap (100 + (Int.tmod (IntKind.u64.wrap (a2)) 1800))) * 4503599627370496)) + (IntKind.u64.wrap ((IntKind.u64.wrap (a1)) * 524288)))), .int .i64 0] rfl (by (try simp only [List.map_toArray, List.map_cons, List.map_nil]); first | done | rfl | (simp only [List.length_drop, List.length_take]; rfl)) ?_; (with_reducible refine (fadd_Add.calls kj7 x12_7 (IntKind.u64.wrap ((IntKind.u64.wrap ((IntKind.u64.wrap (100 + (Int.tmod (IntKind.u64.wrap (a2)) 1800))) * 4503599627370496)) + (IntKind.u64.wrap ((IntKind.u64.wrap (a1)) * 524288)))) 0 t430 t431 _ A22.out).mono ?_); rintro e w26 ⟨rfl, hb⟩; refine ⟨_, rfl, ?_⟩; have n0_ := Aside0.mk (below_step (by repeat (first | (with_reducible first | exact HB.out | apply below_alloc | apply pw_below_drewN | apply below_drew1) | exact HB.out)) hb); clear HB; have HB := n0_; clear n0_; (try clear hb); (try clear hb2); (try clear hk); (try clear hi)) | ((with_reducible refine gate_callee (f := 47) rfl ?_); refine goesL_ (some 51) rfl rfl Try.func47 (by kernel_rfl) rfl #[.int .u64 t430, .int .u64 (IntKind.u64.wrap ((IntKind.u64.wrap ((IntKind.u64.wrap (100 + (Int.tmod (IntKind.u64.wrap (a2)) 1800))) * 4503599627370496)) + (IntKind.u64.wrap ((IntKind.u64.wrap (a1)) * 524288)))), .int .i64 0] rfl (by (try simp only [List.map_toArray, List.map_cons, List.map_nil]); first | done | rfl | (simp only [List.length_drop, List.length_take]; rfl)) ?_; (with_reducible refine (fadd_Sub.calls kj7 t430 (IntKind.u64.wrap ((IntKind.u64.wrap ((IntKind.u64.wrap (100 + (Int.tmod (IntKind.u64.wrap (a2)) 1800))) * 4503599627370496)) + (IntKind.u64.wrap ((IntKind.u64.wrap (a1)) * 524288)))) 0 t432 t433 _ A23.out).mono ?_); rintro e w27 ⟨rfl, hb⟩; refine ⟨_, rfl, ?_⟩; have n0_ := Aside0.mk (below_step (by repeat (first | (with_reducible first | exact HB.out | apply below_alloc | apply pw_below_drewN | apply below_drew1) | exact HB.out)) hb); clear HB; have HB := n0_; clear n0_; (try clear hb); (try clear hb2); (try clear hk); (try clear hi)))
              go_ret
              exact ⟨by first | rfl | (simp [errW_none, errW_some] <;> rfl) | (simp [*, errW_none, errW_some] <;> rfl), by repeat (first | (with_reducible first | exact HB.out | apply below_alloc | apply pw_below_drewN | apply below_drew1) | exact HB.out)⟩
            · rw [if_neg c25] at H
              have c25b0 : (t433 == 0) = false := beq_eq_false_iff_ne.mpr c25
              have c25b1 : (t433 != 0) = true := bne_iff_ne.mpr c25
              obtain rfl := Option.some.inj H
              go_wp2_with (first | ((with_reducible refine gate_callee (f := 46) rfl ?_); refine goesL_ (some 45) rfl rfl Try.func46 (by kernel_rfl) rfl #[.int .u64 x12_7, .int .u64 (IntKind.u64.wrap ((IntKind.u64.wrap ((IntKind.u64.wrap (100 + (Int.tmod (IntKind.u64.wrap (a2)) 1800))) * 4503599627370496)) + (IntKind.u64.wrap ((IntKind.u64.wrap (a1)) * 524288)))), .int .i64 0] rfl (by (try simp only [List.map_toArray, List.map_cons, List.map_nil]); first | done | rfl | (simp only [List.length_drop, List.length_take]; rfl)) ?_; (with_reducible refine (fadd_Add.calls kj7 x12_7 (IntKind.u64.wrap ((IntKind.u64.wrap ((IntKind.u64.wrap (100 + (Int.tmod (IntKind.u64.wrap (a2)) 1800))) * 4503599627370496)) + (IntKind.u64.wrap ((IntKind.u64.wrap (a1)) * 524288)))) 0 t430 t431 _ A22.out).mono ?_); rintro e w28 ⟨rfl, hb⟩; refine ⟨_, rfl, ?_⟩; have n0_ := Aside0.mk (below_step (by repeat (first | (with_reducible first | exact HB.out | apply below_alloc | apply pw_below_drewN | apply below_drew1) | exact HB.out)) hb); clear HB; have HB := n0_; clear n0_; (try clear hb); (try clear hb2); (try clear hk); (try clear hi)) | ((with_reducible refine gate_callee (f := 47) rfl ?_); refine goesL_ (some 51) rfl rfl Try.func47 (by kernel_rfl) rfl #[.int .u64 t430, .int .u64 (IntKind.u64.wrap ((IntKind.u64.wrap ((IntKind.u64.wrap (100 + (Int.tmod (IntKind.u64.wrap (a2)) 1800))) * 4503599627370496)) + (IntKind.u64.wrap ((IntKind.u64.wrap (a1)) * 524288)))), .int .i64 0] rfl (by (try simp only [List.map_toArray, List.map_cons, List.map_nil]); first | done | rfl | (simp only [List.length_drop, List.length_take]; rfl)) ?_; (with_reducible refine (fadd_Sub.calls kj7 t430 (IntKind.u64.wrap ((IntKind.u64.wrap ((IntKind.u64.wrap (100 + (Int.tmod (IntKind.u64.wrap (a2)) 1800))) * 4503599627370496)) + (IntKind.u64.wrap ((IntKind.u64.wrap (a1)) * 524288)))) 0 t432 t433 _ A23.out).mono ?_); rintro e w29 ⟨rfl, hb⟩; refine ⟨_, rfl, ?_⟩; have n0_ := Aside0.mk (below_step (by repeat (first | (with_reducible first | exact HB.out | apply below_alloc | apply pw_below_drewN | apply below_drew1) | exact HB.out)) hb); clear HB; have HB := n0_; clear n0_; (try clear hb); (try clear hb2); (try clear hk); (try clear hi)))
              go_ret
              exact ⟨by first | rfl | (simp [errW_none, errW_some] <;> rfl) | (simp [*, errW_none, errW_some] <;> rfl), by repeat (first | (with_reducible first | exact HB.out | apply below_alloc | apply pw_below_drewN | apply below_drew1) | exact HB.out)⟩
          · rw [if_neg c24] at H
            have c24b0 : (t431 == 0) = false := beq_eq_false_iff_ne.mpr c24
            have c24b1 : (t431 != 0) = true := bne_iff_ne.mpr c24
            obtain rfl := Option.some.inj H
            go_wp2_with (first | ((with_reducible refine gate_callee (f := 46) rfl ?_); refine goesL_ (some 45) rfl rfl Try.func46 (by kernel_rfl) rfl #[.int .u64 x12_7, .int .u64 (IntKind.u64.wrap ((IntKind.u64.wrap ((IntKind.u64.wrap (100 + (Int.tmod (IntKind.u64.wrap (a2)) 1800))) * 4503599627370496)) + (IntKind.u64.wrap ((IntKind.u64.wrap (a1)) * 524288)))), .int .i64 0] rfl (by (try simp only [List.map_toArray, List.map_cons, List.map_nil]); first | done | rfl | (simp only [List.length_drop, List.length_take]; rfl)) ?_; (with_reducible refine (fadd_Add.calls kj7 x12_7 (IntKind.u64.wrap ((IntKind.u64.wrap ((IntKind.u64.wrap (100 + (Int.tmod (IntKind.u64.wrap (a2)) 1800))) * 4503599627370496)) + (IntKind.u64.wrap ((IntKind.u64.wrap (a1)) * 524288)))) 0 t430 t431 _ A22.out).mono ?_); rintro e w30 ⟨rfl, hb⟩; refine ⟨_, rfl, ?_⟩; have n0_ := Aside0.mk (below_step (by repeat (first | (with_reducible first | exact HB.out | apply below_alloc | apply pw_below_drewN | apply below_drew1) | exact HB.out)) hb); clear HB; have HB := n0_; clear n0_; (try clear hb); (try clear hb2); (try clear hk); (try clear hi)) | ((with_reducible refine gate_callee (f := 47) rfl ?_); refine goesL_ (some 51) rfl rfl Try.func47 (by kernel_rfl) rfl #[.int .u64 t430, .int .u64 (IntKind.u64.wrap ((IntKind.u64.wrap ((IntKind.u64.wrap (100 + (Int.tmod (IntKind.u64.wrap (a2)) 1800))) * 4503599627370496)) + (IntKind.u64.wrap ((IntKind.u64.wrap (a1)) * 524288)))), .int .i64 0] rfl (by (try simp only [List.map_toArray, List.map_cons, List.map_nil]); first | done | rfl | (simp only [List.length_drop, List.length_take]; rfl)) ?_; (with_reducible refine (fadd_Sub.calls kj7 t430 (IntKind.u64.wrap ((IntKind.u64.wrap ((IntKind.u64.wrap (100 + (Int.tmod (IntKind.u64.wrap (a2)) 1800))) * 4503599627370496)) + (IntKind.u64.wrap ((IntKind.u64.wrap (a1)) * 524288)))) 0 t432 t433 _ A23.out).mono ?_); rintro e w31 ⟨rfl, hb⟩; refine ⟨_, rfl, ?_⟩; have n0_ := Aside0.mk (below_step (by repeat (first | (with_reducible first | exact HB.out | apply below_alloc | apply pw_below_drewN | apply below_drew1) | exact HB.out)) hb); clear HB; have HB := n0_; clear n0_; (try clear hb); (try clear hb2); (try clear hk); (try clear hi)))
            go_ret
            exact ⟨by first | rfl | (simp [errW_none, errW_some] <;> rfl) | (simp [*, errW_none, errW_some] <;> rfl), by repeat (first | (with_reducible first | exact HB.out | apply below_alloc | apply pw_below_drewN | apply below_drew1) | exact HB.out)⟩
  · replace c7 := Bool.eq_false_iff.mpr c7
    subst c7
    have H1 : (some false) = some r := by rw [if_neg (show ¬ (false = true) by decide)] at H; exact H
    clear H
    have H := H1
    clear H1
    obtain rfl := Option.some.inj H
    go_enter Try.func9, Try.ntmps9
    go_wp2_with (first | ((with_reducible refine gate_callee (f := 45) rfl ?_); refine goesL_ (some 18) rfl rfl Try.func45 (by kernel_rfl) rfl #[] rfl (by (try simp only [List.map_toArray, List.map_cons, List.map_nil]); first | done | rfl | (simp only [List.length_drop, List.length_take]; rfl)) ?_; (with_reducible refine (vernierlaw07_alive.calls k  false _ A6.out).mono ?_); rintro e w32 ⟨rfl, hb⟩; refine ⟨_, rfl, ?_⟩; have n0_ := Aside0.mk (below_step (by repeat (first | (with_reducible first | exact HB.out | apply below_alloc | apply pw_below_drewN | apply below_drew1) | exact HB.out)) hb); clear HB; have HB := n0_; clear n0_; (try clear hb); (try clear hb2); (try clear hk); (try clear hi)))
    go_ret
    exact ⟨by first | rfl | (simp [errW_none, errW_some] <;> rfl) | (simp [*, errW_none, errW_some] <;> rfl), by repeat (first | (with_reducible first | exact HB.out | apply below_alloc | apply pw_below_drewN | apply below_drew1) | exact HB.out)⟩

/-- THE ONE PURE STATEMENT of vernierlaw07_FaddExact: yours. -/
def vernierlaw07_FaddExact.Pure : Prop := ∀ (a0 : Int) (a1 : Int) (a2 : Int) (a3 : Bool) (a4 : Bool), (Lit.int .u32 a0).wf = true → (Lit.int .u32 a1).wf = true → (Lit.int .u16 a2).wf = true → ∃ k, vernierlaw07_FaddExact.f k a0 a1 a2 a3 a4 = some true
theorem vernierlaw07_FaddExact.walk (P : vernierlaw07_FaddExact.Pure) (a0 : Int) (a1 : Int) (a2 : Int) (a3 : Bool) (a4 : Bool) (w : World) (w0 : (Lit.int .u32 a0).wf = true) (w1 : (Lit.int .u32 a1).wf = true) (w2 : (Lit.int .u16 a2).wf = true) :
    Calls Try.prog 9 #[.int .u32 a0, .int .u32 a1, .int .u16 a2, .bool a3, .bool a4] w fun e w' => e = .returned (.bool true) ∧ Below w.heap.size w w' := by
  obtain ⟨k, h⟩ := P a0 a1 a2 a3 a4 w0 w1 w2
  refine (vernierlaw07_FaddExact.calls k a0 a1 a2 a3 a4 true w h).mono ?_
  rintro e w' ⟨rfl, hd⟩
  exact ⟨rfl, hd⟩

end Go.Proofs.Ytjbpchebabhoeaa.P
