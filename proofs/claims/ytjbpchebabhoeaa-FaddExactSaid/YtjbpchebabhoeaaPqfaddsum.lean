/- The machine side of the laws, written by a program of this session over the kit's own print. -/
import Derived.Test.YtjbpchebabhoeaaP0
import Derived.Test.YtjbpchebabhoeaaPqpartsSplit
import Derived.Test.YtjbpchebabhoeaaPqfaddlift
import Derived.Test.YtjbpchebabhoeaaPqfaddjoin
import Derived.Test.YtjbpchebabhoeaaPqpartsRound
namespace Go.Proofs.Ytjbpchebabhoeaa.P
open Go.RowKit Go.Proofs.YtjbpchebabhoeaaW.PrintWords Go.Proofs.YtjbpchebabhoeaaW.PrintLast Go.Proofs.YtjbpchebabhoeaaW.PrintMore Go.Proofs.Ytjbpchebabhoeaa.X
attribute [local go_sem] max2_int min2_int max_two min_two max_three min_three max_four min_four   -- for this text's walks alone
set_option linter.unusedVariables false
set_option linter.unusedSimpArgs false

/-! ### fadd_sum: function 80 -/
def fadd_sum.f (k : Nat) (a0 : Int) (a1 : Int) (a2 : Int) : Option (Int × Int) := (parts_Split.f a0).bind fun bt384 => ((parts_Split.f a1).bind fun bt388 => (if (wrap64 (bt384.2.2.1 - bt388.2.2.1)) ≤ 60 then ((fadd_lift.f bt384.2.1 (wrap64 (bt384.2.2.1 - bt388.2.2.1))).bind fun bt392 => ((fadd_join.f bt392.1 bt392.2 bt388.2.1 (!(bt384.1 == bt388.1)) false).bind fun bt394 => ((parts_Round.f k bt384.1 bt394.1 bt394.2 bt388.2.2.1 false a2).bind fun bt396 => (some (bt396.1, bt396.2))))) else ((fadd_lift.f bt384.2.1 62).bind fun bt398 => (if (mn (wrap64 ((wrap64 (bt384.2.2.1 - bt388.2.2.1)) - 62)) 116) ≤ 0 then (if 0 ≤ (wrap64 (-(mn (wrap64 ((wrap64 (bt384.2.2.1 - bt388.2.2.1)) - 62)) 116))) then ((fadd_join.f bt398.1 bt398.2 (shl .u64 bt388.2.1 (wrap64 (-(mn (wrap64 ((wrap64 (bt384.2.2.1 - bt388.2.2.1)) - 62)) 116)))) (!(bt384.1 == bt388.1)) false).bind fun bt400 => ((parts_Round.f k bt384.1 bt400.1 bt400.2 (wrap64 (bt384.2.2.1 - 62)) false a2).bind fun bt402 => (some (bt402.1, bt402.2)))) else (none)) else (if (mn (wrap64 ((wrap64 (bt384.2.2.1 - bt388.2.2.1)) - 62)) 116) < 64 then (if 0 ≤ (mn (wrap64 ((wrap64 (bt384.2.2.1 - bt388.2.2.1)) - 62)) 116) then (if 0 ≤ (wrap64 (64 - (mn (wrap64 ((wrap64 (bt384.2.2.1 - bt388.2.2.1)) - 62)) 116))) then ((fadd_join.f bt398.1 bt398.2 (shr .u64 bt388.2.1 (mn (wrap64 ((wrap64 (bt384.2.2.1 - bt388.2.2.1)) - 62)) 116)) (!(bt384.1 == bt388.1)) ((shl .u64 bt388.2.1 (wrap64 (64 - (mn (wrap64 ((wrap64 (bt384.2.2.1 - bt388.2.2.1)) - 62)) 116)))) != 0)).bind fun bt404 => ((parts_Round.f k bt384.1 bt404.1 bt404.2 (wrap64 (bt384.2.2.1 - 62)) ((shl .u64 bt388.2.1 (wrap64 (64 - (mn (wrap64 ((wrap64 (bt384.2.2.1 - bt388.2.2.1)) - 62)) 116)))) != 0) a2).bind fun bt406 => (some (bt406.1, bt406.2)))) else (none)) else (none)) else ((fadd_join.f bt398.1 bt398.2 0 (!(bt384.1 == bt388.1)) (bt388.2.1 != 0)).bind fun bt408 => ((parts_Round.f k bt384.1 bt408.1 bt408.2 (wrap64 (bt384.2.2.1 - 62)) (bt388.2.1 != 0) a2).bind fun bt410 => (some (bt410.1, bt410.2)))))))))
theorem fadd_sum.mono : ∀ a0 a1 a2 k, LeO (fadd_sum.f k a0 a1 a2) (fadd_sum.f (k + 1) a0 a1 a2) := by
  intro a0 a1 a2 k
  unfold fadd_sum.f
  repeat' first
      | (with_reducible exact parts_Round.mono _ _ _ _ _ _ _)
      | (with_reducible exact LeO.refl _)
      | (with_reducible exact LeO.none _)
      | (with_reducible refine LeO.ite ?_ ?_)
      | (with_reducible refine LeO.bind ?_ (fun _ => ?_))
      | exact parts_Round.mono _ _ _ _ _ _ _
      | exact LeO.none _
      | refine LeO.ite ?_ ?_
      | refine LeO.bind ?_ (fun _ => ?_)
set_option maxHeartbeats 8000000 in
set_option maxRecDepth 100000 in
theorem fadd_sum.calls (k : Nat) (a0 : Int) (a1 : Int) (a2 : Int) (r1 : Int) (r2 : Int) (w : World) (h : fadd_sum.f k a0 a1 a2 = some (r1, r2)) :
    Calls Try.prog 80 #[.int .u64 a0, .int .u64 a1, .int .i64 a2] w fun e w' => e = .returned (.tuple #[.int .u64 r1, .int .i64 r2]) ∧ Below w.heap.size w w' := by
  have HB := Aside0.mk (Below.refl w.heap.size w)
  have H : ((parts_Split.f a0).bind fun bt384 => ((parts_Split.f a1).bind fun bt388 => (if (wrap64 (bt384.2.2.1 - bt388.2.2.1)) ≤ 60 then ((fadd_lift.f bt384.2.1 (wrap64 (bt384.2.2.1 - bt388.2.2.1))).bind fun bt392 => ((fadd_join.f bt392.1 bt392.2 bt388.2.1 (!(bt384.1 == bt388.1)) false).bind fun bt394 => ((parts_Round.f k bt384.1 bt394.1 bt394.2 bt388.2.2.1 false a2).bind fun bt396 => (some (bt396.1, bt396.2))))) else ((fadd_lift.f bt384.2.1 62).bind fun bt398 => (if (mn (wrap64 ((wrap64 (bt384.2.2.1 - bt388.2.2.1)) - 62)) 116) ≤ 0 then (if 0 ≤ (wrap64 (-(mn (wrap64 ((wrap64 (bt384.2.2.1 - bt388.2.2.1)) - 62)) 116))) then ((fadd_join.f bt398.1 bt398.2 (shl .u64 bt388.2.1 (wrap64 (-(mn (wrap64 ((wrap64 (bt384.2.2.1 - bt388.2.2.1)) - 62)) 116)))) (!(bt384.1 == bt388.1)) false).bind fun bt400 => ((parts_Round.f k bt384.1 bt400.1 bt400.2 (wrap64 (bt384.2.2.1 - 62)) false a2).bind fun bt402 => (some (bt402.1, bt402.2)))) else (none)) else (if (mn (wrap64 ((wrap64 (bt384.2.2.1 - bt388.2.2.1)) - 62)) 116) < 64 then (if 0 ≤ (mn (wrap64 ((wrap64 (bt384.2.2.1 - bt388.2.2.1)) - 62)) 116) then (if 0 ≤ (wrap64 (64 - (mn (wrap64 ((wrap64 (bt384.2.2.1 - bt388.2.2.1)) - 62)) 116))) then ((fadd_join.f bt398.1 bt398.2 (shr .u64 bt388.2.1 (mn (wrap64 ((wrap64 (bt384.2.2.1 - bt388.2.2.1)) - 62)) 116)) (!(bt384.1 == bt388.1)) ((shl .u64 bt388.2.1 (wrap64 (64 - (mn (wrap64 ((wrap64 (bt384.2.2.1 - bt388.2.2.1)) - 62)) 116)))) != 0)).bind fun bt404 => ((parts_Round.f k bt384.1 bt404.1 bt404.2 (wrap64 (bt384.2.2.1 - 62)) ((shl .u64 bt388.2.1 (wrap64 (64 - (mn (wrap64 ((wrap64 (bt384.2.2.1 - bt388.2.2.1)) - 62)) 116)))) != 0) a2).bind fun bt406 => (some (bt406.1, bt406.2)))) else (none)) else (none)) else ((fadd_join.f bt398.1 bt398.2 0 (!(bt384.1 == bt388.1)) (bt388.2.1 != 0)).bind fun bt408 => ((parts_Round.f k bt384.1 bt408.1 bt408.2 (wrap64 (bt384.2.2.1 - 62)) (bt388.2.1 != 0) a2).bind fun bt410 => (some (bt410.1, bt410.2)))))))))) = some (r1, r2) := h
  clear h
  replace H := Option.bind_eq_some_iff.mp H
  obtain ⟨⟨t384, t385, t386, t387⟩, A40, H⟩ := H
  replace H : ((parts_Split.f a1).bind fun bt388 => (if (wrap64 (t386 - bt388.2.2.1)) ≤ 60 then ((fadd_lift.f t385 (wrap64 (t386 - bt388.2.2.1))).bind fun bt392 => ((fadd_join.f bt392.1 bt392.2 bt388.2.1 (!(t384 == bt388.1)) false).bind fun bt394 => ((parts_Round.f k t384 bt394.1 bt394.2 bt388.2.2.1 false a2).bind fun bt396 => (some (bt396.1, bt396.2))))) else ((fadd_lift.f t385 62).bind fun bt398 => (if (mn (wrap64 ((wrap64 (t386 - bt388.2.2.1)) - 62)) 116) ≤ 0 then (if 0 ≤ (wrap64 (-(mn (wrap64 ((wrap64 (t386 - bt388.2.2.1)) - 62)) 116))) then ((fadd_join.f bt398.1 bt398.2 (shl .u64 bt388.2.1 (wrap64 (-(mn (wrap64 ((wrap64 (t386 - bt388.2.2.1)) - 62)) 116)))) (!(t384 == bt388.1)) false).bind fun bt400 => ((parts_Round.f k t384 bt400.1 bt400.2 (wrap64 (t386 - 62)) false a2).bind fun bt402 => (some (bt402.1, bt402.2)))) else (none)) else (if (mn (wrap64 ((wrap64 (t386 - bt388.2.2.1)) - 62)) 116) < 64 then (if 0 ≤ (mn (wrap64 ((wrap64 (t386 - bt388.2.2.1)) - 62)) 116) then (if 0 ≤ (wrap64 (64 - (mn (wrap64 ((wrap64 (t386 - bt388.2.2.1)) - 62)) 116))) then ((fadd_join.f bt398.1 bt398.2 (shr .u64 bt388.2.1 (mn (wrap64 ((wrap64 (t386 - bt388.2.2.1)) - 62)) 116)) (!(t384 == bt388.1)) ((shl .u64 bt388.2.1 (wrap64 (64 - (mn (wrap64 ((wrap64 (t386 - bt388.2.2.1)) - 62)) 116)))) != 0)).bind fun bt404 => ((parts_Round.f k t384 bt404.1 bt404.2 (wrap64 (t386 - 62)) ((shl .u64 bt388.2.1 (wrap64 (64 - (mn (wrap64 ((wrap64 (t386 - bt388.2.2.1)) - 62)) 116)))) != 0) a2).bind fun bt406 => (some (bt406.1, bt406.2)))) else (none)) else (none)) else ((fadd_join.f bt398.1 bt398.2 0 (!(t384 == bt388.1)) (bt388.2.1 != 0)).bind fun bt408 => ((parts_Round.f k t384 bt408.1 bt408.2 (wrap64 (t386 - 62)) (bt388.2.1 != 0) a2).bind fun bt410 => (some (bt410.1, bt410.2))))))))) = some (r1, r2) := H
  have A4 := Aside0.mk A40
  clear A40
  replace H := Option.bind_eq_some_iff.mp H
  obtain ⟨⟨t388, t389, t390, t391⟩, A50, H⟩ := H
  replace H : (if (wrap64 (t386 - t390)) ≤ 60 then ((fadd_lift.f t385 (wrap64 (t386 - t390))).bind fun bt392 => ((fadd_join.f bt392.1 bt392.2 t389 (!(t384 == t388)) false).bind fun bt394 => ((parts_Round.f k t384 bt394.1 bt394.2 t390 false a2).bind fun bt396 => (some (bt396.1, bt396.2))))) else ((fadd_lift.f t385 62).bind fun bt398 => (if (mn (wrap64 ((wrap64 (t386 - t390)) - 62)) 116) ≤ 0 then (if 0 ≤ (wrap64 (-(mn (wrap64 ((wrap64 (t386 - t390)) - 62)) 116))) then ((fadd_join.f bt398.1 bt398.2 (shl .u64 t389 (wrap64 (-(mn (wrap64 ((wrap64 (t386 - t390)) - 62)) 116)))) (!(t384 == t388)) false).bind fun bt400 => ((parts_Round.f k t384 bt400.1 bt400.2 (wrap64 (t386 - 62)) false a2).bind fun bt402 => (some (bt402.1, bt402.2)))) else (none)) else (if (mn (wrap64 ((wrap64 (t386 - t390)) - 62)) 116) < 64 then (if 0 ≤ (mn (wrap64 ((wrap64 (t386 - t390)) - 62)) 116) then (if 0 ≤ (wrap64 (64 - (mn (wrap64 ((wrap64 (t386 - t390)) - 62)) 116))) then ((fadd_join.f bt398.1 bt398.2 (shr .u64 t389 (mn (wrap64 ((wrap64 (t386 - t390)) - 62)) 116)) (!(t384 == t388)) ((shl .u64 t389 (wrap64 (64 - (mn (wrap64 ((wrap64 (t386 - t390)) - 62)) 116)))) != 0)).bind fun bt404 => ((parts_Round.f k t384 bt404.1 bt404.2 (wrap64 (t386 - 62)) ((shl .u64 t389 (wrap64 (64 - (mn (wrap64 ((wrap64 (t386 - t390)) - 62)) 116)))) != 0) a2).bind fun bt406 => (some (bt406.1, bt406.2)))) else (none)) else (none)) else ((fadd_join.f bt398.1 bt398.2 0 (!(t384 == t388)) (t389 != 0)).bind fun bt408 => ((parts_Round.f k t384 bt408.1 bt408.2 (wrap64 (t386 - 62)) (t389 != 0) a2).bind fun bt410 => (some (bt410.1, bt410.2)))))))) = some (r1, r2) := H
  have A5 := Aside0.mk A50
  clear A50
  by_cases c6 : (wrap64 (t386 - t390)) ≤ 60
  · rw [if_pos c6] at H
    have c6b0 : decide ((wrap64 (t386 - t390)) ≤ 60) = true := decide_eq_true c6
    clear c6
    replace H := Option.bind_eq_some_iff.mp H
    obtain ⟨⟨t392, t393⟩, A70, H⟩ := H
    replace H : ((fadd_join.f t392 t393 t389 (!(t384 == t388)) false).bind fun bt394 => ((parts_Round.f k t384 bt394.1 bt394.2 t390 false a2).bind fun bt396 => (some (bt396.1, bt396.2)))) = some (r1, r2) := H
    have A7 := Aside0.mk A70
    clear A70
    replace H := Option.bind_eq_some_iff.mp H
    obtain ⟨⟨t394, t395⟩, A80, H⟩ := H
    replace H : ((parts_Round.f k t384 t394 t395 t390 false a2).bind fun bt396 => (some (bt396.1, bt396.2))) = some (r1, r2) := H
    have A8 := Aside0.mk A80
    clear A80
    replace H := Option.bind_eq_some_iff.mp H
    obtain ⟨⟨t396, t397⟩, A90, H⟩ := H
    replace H : (some (t396, t397)) = some (r1, r2) := H
    have A9 := Aside0.mk A90
    clear A90
    simp only [Option.some.injEq, Prod.mk.injEq] at H
    obtain ⟨rfl, rfl⟩ := H
    go_enter Try.func80, Try.ntmps80
    go_wp2_with (first | (go_at_call 92; (with_reducible refine (parts_Split.calls a0 t384 t385 t386 t387 _ A4.out).mono ?_); rintro e w' ⟨rfl, ⟨nd, rfl⟩⟩; (try first | exact ⟨rfl, _, World.drewN_drewN _ _ _⟩ | exact ⟨rfl, _, Eq.trans (World.drewN_drewN _ _ _) (congrArg (World.drewN _) (Nat.add_assoc _ _ _))⟩)) | (go_at_call 92; (with_reducible refine (parts_Split.calls a1 t388 t389 t390 t391 _ A5.out).mono ?_); rintro e w' ⟨rfl, ⟨nd, rfl⟩⟩; (try first | exact ⟨rfl, _, World.drewN_drewN _ _ _⟩ | exact ⟨rfl, _, Eq.trans (World.drewN_drewN _ _ _) (congrArg (World.drewN _) (Nat.add_assoc _ _ _))⟩)) | (go_at_call 93; (with_reducible refine (fadd_lift.calls t385 (wrap64 (t386 - t390)) t392 t393 _ A7.out).mono ?_); rintro e w' ⟨rfl, ⟨nd, rfl⟩⟩; (try first | exact ⟨rfl, _, World.drewN_drewN _ _ _⟩ | exact ⟨rfl, _, Eq.trans (World.drewN_drewN _ _ _) (congrArg (World.drewN _) (Nat.add_assoc _ _ _))⟩)) | (go_at_call 94; (with_reducible refine (fadd_join.calls t392 t393 t389 (!(t384 == t388)) false t394 t395 _ A8.out).mono ?_); rintro e w' ⟨rfl, ⟨nd, rfl⟩⟩; (try first | exact ⟨rfl, _, World.drewN_drewN _ _ _⟩ | exact ⟨rfl, _, Eq.trans (World.drewN_drewN _ _ _) (congrArg (World.drewN _) (Nat.add_assoc _ _ _))⟩)) | (go_at_call 95; (with_reducible refine (parts_Round.calls k t384 t394 t395 t390 false a2 t396 t397 _ A9.out).mono ?_); rintro e w10 ⟨rfl, hb⟩; have n0_ := Aside0.mk (below_step (by repeat (first | (with_reducible first | exact HB.out | apply below_alloc | apply pw_below_drewN | apply below_drew1) | exact HB.out)) hb); clear HB; have HB := n0_; clear n0_; (try clear hb); (try clear hb2); (try clear hk); (try clear hi)))
    repeat (go_quiet (first | (go_at_call 92; (with_reducible refine (parts_Split.calls a0 t384 t385 t386 t387 _ A4.out).mono ?_); rintro e w' ⟨rfl, ⟨nd, rfl⟩⟩; (try first | exact ⟨rfl, _, World.drewN_drewN _ _ _⟩ | exact ⟨rfl, _, Eq.trans (World.drewN_drewN _ _ _) (congrArg (World.drewN _) (Nat.add_assoc _ _ _))⟩)) | (go_at_call 92; (with_reducible refine (parts_Split.calls a1 t388 t389 t390 t391 _ A5.out).mono ?_); rintro e w' ⟨rfl, ⟨nd, rfl⟩⟩; (try first | exact ⟨rfl, _, World.drewN_drewN _ _ _⟩ | exact ⟨rfl, _, Eq.trans (World.drewN_drewN _ _ _) (congrArg (World.drewN _) (Nat.add_assoc _ _ _))⟩)) | (go_at_call 93; (with_reducible refine (fadd_lift.calls t385 (wrap64 (t386 - t390)) t392 t393 _ A7.out).mono ?_); rintro e w' ⟨rfl, ⟨nd, rfl⟩⟩; (try first | exact ⟨rfl, _, World.drewN_drewN _ _ _⟩ | exact ⟨rfl, _, Eq.trans (World.drewN_drewN _ _ _) (congrArg (World.drewN _) (Nat.add_assoc _ _ _))⟩)) | (go_at_call 94; (with_reducible refine (fadd_join.calls t392 t393 t389 (!(t384 == t388)) false t394 t395 _ A8.out).mono ?_); rintro e w' ⟨rfl, ⟨nd, rfl⟩⟩; (try first | exact ⟨rfl, _, World.drewN_drewN _ _ _⟩ | exact ⟨rfl, _, Eq.trans (World.drewN_drewN _ _ _) (congrArg (World.drewN _) (Nat.add_assoc _ _ _))⟩)) | (go_at_call 95; (with_reducible refine (parts_Round.calls k t384 t394 t395 t390 false a2 t396 t397 _ A9.out).mono ?_); rintro e w10 ⟨rfl, hb⟩; have n0_ := Aside0.mk (below_step (by repeat (first | (with_reducible first | exact HB.out | apply below_alloc | apply pw_below_drewN | apply below_drew1) | exact HB.out)) hb); clear HB; have HB := n0_; clear n0_; (try clear hb); (try clear hb2); (try clear hk); (try clear hi))); try go_wp2_with (first | (go_at_call 92; (with_reducible refine (parts_Split.calls a0 t384 t385 t386 t387 _ A4.out).mono ?_); rintro e w' ⟨rfl, ⟨nd, rfl⟩⟩; (try first | exact ⟨rfl, _, World.drewN_drewN _ _ _⟩ | exact ⟨rfl, _, Eq.trans (World.drewN_drewN _ _ _) (congrArg (World.drewN _) (Nat.add_assoc _ _ _))⟩)) | (go_at_call 92; (with_reducible refine (parts_Split.calls a1 t388 t389 t390 t391 _ A5.out).mono ?_); rintro e w' ⟨rfl, ⟨nd, rfl⟩⟩; (try first | exact ⟨rfl, _, World.drewN_drewN _ _ _⟩ | exact ⟨rfl, _, Eq.trans (World.drewN_drewN _ _ _) (congrArg (World.drewN _) (Nat.add_assoc _ _ _))⟩)) | (go_at_call 93; (with_reducible refine (fadd_lift.calls t385 (wrap64 (t386 - t390)) t392 t393 _ A7.out).mono ?_); rintro e w' ⟨rfl, ⟨nd, rfl⟩⟩; (try first | exact ⟨rfl, _, World.drewN_drewN _ _ _⟩ | exact ⟨rfl, _, Eq.trans (World.drewN_drewN _ _ _) (congrArg (World.drewN _) (Nat.add_assoc _ _ _))⟩)) | (go_at_call 94; (with_reducible refine (fadd_join.calls t392 t393 t389 (!(t384 == t388)) false t394 t395 _ A8.out).mono ?_); rintro e w' ⟨rfl, ⟨nd, rfl⟩⟩; (try first | exact ⟨rfl, _, World.drewN_drewN _ _ _⟩ | exact ⟨rfl, _, Eq.trans (World.drewN_drewN _ _ _) (congrArg (World.drewN _) (Nat.add_assoc _ _ _))⟩)) | (go_at_call 95; (with_reducible refine (parts_Round.calls k t384 t394 t395 t390 false a2 t396 t397 _ A9.out).mono ?_); rintro e w10 ⟨rfl, hb⟩; have n0_ := Aside0.mk (below_step (by repeat (first | (with_reducible first | exact HB.out | apply below_alloc | apply pw_below_drewN | apply below_drew1) | exact HB.out)) hb); clear HB; have HB := n0_; clear n0_; (try clear hb); (try clear hb2); (try clear hk); (try clear hi))))
    go_ret2
    exact ⟨by first | rfl | (simp [errW_none, errW_some] <;> rfl) | (simp [*, errW_none, errW_some] <;> rfl), by repeat (first | (with_reducible first | exact HB.out | apply below_alloc | apply pw_below_drewN | apply below_drew1) | exact HB.out)⟩
  · rw [if_neg c6] at H
    have c6b0 : decide ((wrap64 (t386 - t390)) ≤ 60) = false := decide_eq_false c6
    clear c6
    replace H := Option.bind_eq_some_iff.mp H
    obtain ⟨⟨t398, t399⟩, A110, H⟩ := H
    replace H : (if (mn (wrap64 ((wrap64 (t386 - t390)) - 62)) 116) ≤ 0 then (if 0 ≤ (wrap64 (-(mn (wrap64 ((wrap64 (t386 - t390)) - 62)) 116))) then ((fadd_join.f t398 t399 (shl .u64 t389 (wrap64 (-(mn (wrap64 ((wrap64 (t386 - t390)) - 62)) 116)))) (!(t384 == t388)) false).bind fun bt400 => ((parts_Round.f k t384 bt400.1 bt400.2 (wrap64 (t386 - 62)) false a2).bind fun bt402 => (some (bt402.1, bt402.2)))) else (none)) else (if (mn (wrap64 ((wrap64 (t386 - t390)) - 62)) 116) < 64 then (if 0 ≤ (mn (wrap64 ((wrap64 (t386 - t390)) - 62)) 116) then (if 0 ≤ (wrap64 (64 - (mn (wrap64 ((wrap64 (t386 - t390)) - 62)) 116))) then ((fadd_join.f t398 t399 (shr .u64 t389 (mn (wrap64 ((wrap64 (t386 - t390)) - 62)) 116)) (!(t384 == t388)) ((shl .u64 t389 (wrap64 (64 - (mn (wrap64 ((wrap64 (t386 - t390)) - 62)) 116)))) != 0)).bind fun bt404 => ((parts_Round.f k t384 bt404.1 bt404.2 (wrap64 (t386 - 62)) ((shl .u64 t389 (wrap64 (64 - (mn (wrap64 ((wrap64 (t386 - t390)) - 62)) 116)))) != 0) a2).bind fun bt406 => (some (bt406.1, bt406.2)))) else (none)) else (none)) else ((fadd_join.f t398 t399 0 (!(t384 == t388)) (t389 != 0)).bind fun bt408 => ((parts_Round.f k t384 bt408.1 bt408.2 (wrap64 (t386 - 62)) (t389 != 0) a2).bind fun bt410 => (some (bt410.1, bt410.2)))))) = some (r1, r2) := H
    have A11 := Aside0.mk A110
    clear A110
    obtain ⟨ji12, hji12⟩ : ∃ j_ : Int, (mn (wrap64 ((wrap64 (t386 - t390)) - 62)) 116) = j_ := ⟨_, rfl⟩
    replace H : (if (ji12) ≤ 0 then (if 0 ≤ (wrap64 (-(ji12))) then ((fadd_join.f t398 t399 (shl .u64 t389 (wrap64 (-(ji12)))) (!(t384 == t388)) false).bind fun bt400 => ((parts_Round.f k t384 bt400.1 bt400.2 (wrap64 (t386 - 62)) false a2).bind fun bt402 => (some (bt402.1, bt402.2)))) else (none)) else (if (ji12) < 64 then (if 0 ≤ (ji12) then (if 0 ≤ (wrap64 (64 - (ji12))) then ((fadd_join.f t398 t399 (shr .u64 t389 (ji12)) (!(t384 == t388)) ((shl .u64 t389 (wrap64 (64 - (ji12)))) != 0)).bind fun bt404 => ((parts_Round.f k t384 bt404.1 bt404.2 (wrap64 (t386 - 62)) ((shl .u64 t389 (wrap64 (64 - (ji12)))) != 0) a2).bind fun bt406 => (some (bt406.1, bt406.2)))) else (none)) else (none)) else ((fadd_join.f t398 t399 0 (!(t384 == t388)) (t389 != 0)).bind fun bt408 => ((parts_Round.f k t384 bt408.1 bt408.2 (wrap64 (t386 - 62)) (t389 != 0) a2).bind fun bt410 => (some (bt410.1, bt410.2)))))) = some (r1, r2) := by first | (rw [hji12] at H; exact H) | (simp only [hji12] at H ⊢; exact H)
    (try rw [hji12] at A4)
    (try rw [hji12] at A5)
    (try rw [hji12] at A11)
    (try (have hji12h : ji12 ≤ 116 := by (rw [← hji12]; unfold mn; (repeat' split) <;> omega)))
    (try (have hji12g : ji12 ≤ 64 := by omega))
    have hji12_ : (if 116 < (wrap64 ((wrap64 (t386 - t390)) - 62)) then 116 else (wrap64 ((wrap64 (t386 - t390)) - 62))) = ji12 := hji12
    (try (have hji12n := hji12_; simp only [Int.ofNat_lt] at hji12n))
    by_cases c13 : (ji12) ≤ 0
    · rw [if_pos c13] at H
      have c13b0 : decide ((ji12) ≤ 0) = true := decide_eq_true c13
      clear c13
      obtain ⟨ji14, hji14⟩ : ∃ j_ : Int, (wrap64 (-(ji12))) = j_ := ⟨_, rfl⟩
      replace H : (if 0 ≤ (ji14) then ((fadd_join.f t398 t399 (shl .u64 t389 (ji14)) (!(t384 == t388)) false).bind fun bt400 => ((parts_Round.f k t384 bt400.1 bt400.2 (wrap64 (t386 - 62)) false a2).bind fun bt402 => (some (bt402.1, bt402.2)))) else (none)) = some (r1, r2) := by first | (rw [hji14] at H; exact H) | (simp only [hji14] at H ⊢; exact H)
      (try rw [hji14] at A4)
      (try rw [hji14] at A5)
      (try rw [hji14] at A11)
      have hji14w : (IntKind.i64.wrap (-(ji12))) = ji14 := (i64_w _).trans hji14
      by_cases c15 : 0 ≤ (ji14)
      · rw [if_pos c15] at H
        have c15b0 := eq_true c15
        have c15b1 : decide (0 ≤ (ji14)) = true := decide_eq_true c15
        clear c15
        obtain ⟨ji16, hji16⟩ : ∃ j_ : Int, (shl .u64 t389 (ji14)) = j_ := ⟨_, rfl⟩
        replace H : ((fadd_join.f t398 t399 (ji16) (!(t384 == t388)) false).bind fun bt400 => ((parts_Round.f k t384 bt400.1 bt400.2 (wrap64 (t386 - 62)) false a2).bind fun bt402 => (some (bt402.1, bt402.2)))) = some (r1, r2) := by first | (rw [hji16] at H; exact H) | (simp only [hji16] at H ⊢; exact H)
        (try rw [hji16] at A4)
        (try rw [hji16] at A5)
        (try rw [hji16] at A11)
        have hji16_ : (IntKind.u64.wrap (t389 * 2 ^ min (ji14).toNat 64)) = ji16 := hji16
        have hji16z : (ji14) ≤ 64 → (IntKind.u64.wrap (t389 * 2 ^ (ji14).toNat)) = ji16 := shl_small hji16
        replace H := Option.bind_eq_some_iff.mp H
        obtain ⟨⟨t400, t401⟩, A170, H⟩ := H
        replace H : ((parts_Round.f k t384 t400 t401 (wrap64 (t386 - 62)) false a2).bind fun bt402 => (some (bt402.1, bt402.2))) = some (r1, r2) := H
        have A17 := Aside0.mk A170
        clear A170
        replace H := Option.bind_eq_some_iff.mp H
        obtain ⟨⟨t402, t403⟩, A180, H⟩ := H
        replace H : (some (t402, t403)) = some (r1, r2) := H
        have A18 := Aside0.mk A180
        clear A180
        simp only [Option.some.injEq, Prod.mk.injEq] at H
        obtain ⟨rfl, rfl⟩ := H
        go_enter Try.func80, Try.ntmps80
        go_wp2_with (first | (go_at_call 92; (with_reducible refine (parts_Split.calls a0 t384 t385 t386 t387 _ A4.out).mono ?_); rintro e w' ⟨rfl, ⟨nd, rfl⟩⟩; (try first | exact ⟨rfl, _, World.drewN_drewN _ _ _⟩ | exact ⟨rfl, _, Eq.trans (World.drewN_drewN _ _ _) (congrArg (World.drewN _) (Nat.add_assoc _ _ _))⟩)) | (go_at_call 92; (with_reducible refine (parts_Split.calls a1 t388 t389 t390 t391 _ A5.out).mono ?_); rintro e w' ⟨rfl, ⟨nd, rfl⟩⟩; (try first | exact ⟨rfl, _, World.drewN_drewN _ _ _⟩ | exact ⟨rfl, _, Eq.trans (World.drewN_drewN _ _ _) (congrArg (World.drewN _) (Nat.add_assoc _ _ _))⟩)) | (go_at_call 93; (with_reducible refine (fadd_lift.calls t385 62 t398 t399 _ A11.out).mono ?_); rintro e w' ⟨rfl, ⟨nd, rfl⟩⟩; (try first | exact ⟨rfl, _, World.drewN_drewN _ _ _⟩ | exact ⟨rfl, _, Eq.trans (World.drewN_drewN _ _ _) (congrArg (World.drewN _) (Nat.add_assoc _ _ _))⟩)) | (go_at_call 94; (with_reducible refine (fadd_join.calls t398 t399 ji16 (!(t384 == t388)) false t400 t401 _ A17.out).mono ?_); rintro e w' ⟨rfl, ⟨nd, rfl⟩⟩; (try first | exact ⟨rfl, _, World.drewN_drewN _ _ _⟩ | exact ⟨rfl, _, Eq.trans (World.drewN_drewN _ _ _) (congrArg (World.drewN _) (Nat.add_assoc _ _ _))⟩)) | (go_at_call 95; (with_reducible refine (parts_Round.calls k t384 t400 t401 (wrap64 (t386 - 62)) false a2 t402 t403 _ A18.out).mono ?_); rintro e w19 ⟨rfl, hb⟩; have n0_ := Aside0.mk (below_step (by repeat (first | (with_reducible first | exact HB.out | apply below_alloc | apply pw_below_drewN | apply below_drew1) | exact HB.out)) hb); clear HB; have HB := n0_; clear n0_; (try clear hb); (try clear hb2); (try clear hk); (try clear hi)))
        repeat (go_quiet (first | (go_at_call 92; (with_reducible refine (parts_Split.calls a0 t384 t385 t386 t387 _ A4.out).mono ?_); rintro e w' ⟨rfl, ⟨nd, rfl⟩⟩; (try first | exact ⟨rfl, _, World.drewN_drewN _ _ _⟩ | exact ⟨rfl, _, Eq.trans (World.drewN_drewN _ _ _) (congrArg (World.drewN _) (Nat.add_assoc _ _ _))⟩)) | (go_at_call 92; (with_reducible refine (parts_Split.calls a1 t388 t389 t390 t391 _ A5.out).mono ?_); rintro e w' ⟨rfl, ⟨nd, rfl⟩⟩; (try first | exact ⟨rfl, _, World.drewN_drewN _ _ _⟩ | exact ⟨rfl, _, Eq.trans (World.drewN_drewN _ _ _) (congrArg (World.drewN _) (Nat.add_assoc _ _ _))⟩)) | (go_at_call 93; (with_reducible refine (fadd_lift.calls t385 62 t398 t399 _ A11.out).mono ?_); rintro e w' ⟨rfl, ⟨nd, rfl⟩⟩; (try first | exact ⟨rfl, _, World.drewN_drewN _ _ _⟩ | exact ⟨rfl, _, Eq.trans (World.drewN_drewN _ _ _) (congrArg (World.drewN _) (Nat.add_assoc _ _ _))⟩)) | (go_at_call 94; (with_reducible refine (fadd_join.calls t398 t399 ji16 (!(t384 == t388)) false t400 t401 _ A17.out).mono ?_); rintro e w' ⟨rfl, ⟨nd, rfl⟩⟩; (try first | exact ⟨rfl, _, World.drewN_drewN _ _ _⟩ | exact ⟨rfl, _, Eq.trans (World.drewN_drewN _ _ _) (congrArg (World.drewN _) (Nat.add_assoc _ _ _))⟩)) | (go_at_call 95; (with_reducible refine (parts_Round.calls k t384 t400 t401 (wrap64 (t386 - 62)) false a2 t402 t403 _ A18.out).mono ?_); rintro e w19 ⟨rfl, hb⟩; have n0_ := Aside0.mk (below_step (by repeat (first | (with_reducible first | exact HB.out | apply below_alloc | apply pw_below_drewN | apply below_drew1) | exact HB.out)) hb); clear HB; have HB := n0_; clear n0_; (try clear hb); (try clear hb2); (try clear hk); (try clear hi))); try go_wp2_with (first | (go_at_call 92; (with_reducible refine (parts_Split.calls a0 t384 t385 t386 t387 _ A4.out).mono ?_); rintro e w' ⟨rfl, ⟨nd, rfl⟩⟩; (try first | exact ⟨rfl, _, World.drewN_drewN _ _ _⟩ | exact ⟨rfl, _, Eq.trans (World.drewN_drewN _ _ _) (congrArg (World.drewN _) (Nat.add_assoc _ _ _))⟩)) | (go_at_call 92; (with_reducible refine (parts_Split.calls a1 t388 t389 t390 t391 _ A5.out).mono ?_); rintro e w' ⟨rfl, ⟨nd, rfl⟩⟩; (try first | exact ⟨rfl, _, World.drewN_drewN _ _ _⟩ | exact ⟨rfl, _, Eq.trans (World.drewN_drewN _ _ _) (congrArg (World.drewN _) (Nat.add_assoc _ _ _))⟩)) | (go_at_call 93; (with_reducible refine (fadd_lift.calls t385 62 t398 t399 _ A11.out).mono ?_); rintro e w' ⟨rfl, ⟨nd, rfl⟩⟩; (try first | exact ⟨rfl, _, World.drewN_drewN _ _ _⟩ | exact ⟨rfl, _, Eq.trans (World.drewN_drewN _ _ _) (congrArg (World.drewN _) (Nat.add_assoc _ _ _))⟩)) | (go_at_call 94; (with_reducible refine (fadd_join.calls t398 t399 ji16 (!(t384 == t388)) false t400 t401 _ A17.out).mono ?_); rintro e w' ⟨rfl, ⟨nd, rfl⟩⟩; (try first | exact ⟨rfl, _, World.drewN_drewN _ _ _⟩ | exact ⟨rfl, _, Eq.trans (World.drewN_drewN _ _ _) (congrArg (World.drewN _) (Nat.add_assoc _ _ _))⟩)) | (go_at_call 95; (with_reducible refine (parts_Round.calls k t384 t400 t401 (wrap64 (t386 - 62)) false a2 t402 t403 _ A18.out).mono ?_); rintro e w19 ⟨rfl, hb⟩; have n0_ := Aside0.mk (below_step (by repeat (first | (with_reducible first | exact HB.out | apply below_alloc | apply pw_below_drewN | apply below_drew1) | exact HB.out)) hb); clear HB; have HB := n0_; clear n0_; (try clear hb); (try clear hb2); (try clear hk); (try clear hi))))
        go_ret2
        exact ⟨by first | rfl | (simp [errW_none, errW_some] <;> rfl) | (simp only [← hji12, ← hji14, ← hji16]; first | rfl | (simp [errW_none, errW_some] <;> rfl)) | (simp [*, errW_none, errW_some] <;> rfl), by repeat (first | (with_reducible first | exact HB.out | apply below_alloc | apply pw_below_drewN | apply below_drew1) | exact HB.out)⟩
      · rw [if_neg c15] at H
        exact absurd H (by simp)
    · rw [if_neg c13] at H
      have c13b0 : decide ((ji12) ≤ 0) = false := decide_eq_false c13
      clear c13
      by_cases c20 : (ji12) < 64
      · rw [if_pos c20] at H
        have c20b0 : decide ((ji12) < 64) = true := decide_eq_true c20
        clear c20
        by_cases c21 : 0 ≤ (ji12)
        · rw [if_pos c21] at H
          have c21b0 := eq_true c21
          have c21b1 : decide (0 ≤ (ji12)) = true := decide_eq_true c21
          clear c21
          obtain ⟨ji22, hji22⟩ : ∃ j_ : Int, (shr .u64 t389 (ji12)) = j_ := ⟨_, rfl⟩
          replace H : (if 0 ≤ (wrap64 (64 - (ji12))) then ((fadd_join.f t398 t399 (ji22) (!(t384 == t388)) ((shl .u64 t389 (wrap64 (64 - (ji12)))) != 0)).bind fun bt404 => ((parts_Round.f k t384 bt404.1 bt404.2 (wrap64 (t386 - 62)) ((shl .u64 t389 (wrap64 (64 - (ji12)))) != 0) a2).bind fun bt406 => (some (bt406.1, bt406.2)))) else (none)) = some (r1, r2) := by first | (rw [hji22] at H; exact H) | (simp only [hji22] at H ⊢; exact H)
          (try rw [hji22] at A4)
          (try rw [hji22] at A5)
          (try rw [hji22] at A11)
          have hji22_ : (t389 / 2 ^ min (ji12).toNat 64) = ji22 := hji22
          have hji22z : (ji12) ≤ 64 → (t389 / 2 ^ (ji12).toNat) = ji22 := shr_small hji22
          obtain ⟨ji23, hji23⟩ : ∃ j_ : Int, (wrap64 (64 - (ji12))) = j_ := ⟨_, rfl⟩
          replace H : (if 0 ≤ (ji23) then ((fadd_join.f t398 t399 (ji22) (!(t384 == t388)) ((shl .u64 t389 (ji23)) != 0)).bind fun bt404 => ((parts_Round.f k t384 bt404.1 bt404.2 (wrap64 (t386 - 62)) ((shl .u64 t389 (ji23)) != 0) a2).bind fun bt406 => (some (bt406.1, bt406.2)))) else (none)) = some (r1, r2) := by first | (rw [hji23] at H; exact H) | (simp only [hji23] at H ⊢; exact H)
          (try rw [hji23] at A4)
          (try rw [hji23] at A5)
          (try rw [hji23] at A11)
          have hji23w : (IntKind.i64.wrap (64 - (ji12))) = ji23 := (i64_w _).trans hji23
          by_cases c24 : 0 ≤ (ji23)
          · rw [if_pos c24] at H
            have c24b0 := eq_true c24
            have c24b1 : decide (0 ≤ (ji23)) = true := decide_eq_true c24
            clear c24
            obtain ⟨ji25, hji25⟩ : ∃ j_ : Int, (shl .u64 t389 (ji23)) = j_ := ⟨_, rfl⟩
            replace H : ((fadd_join.f t398 t399 (ji22) (!(t384 == t388)) ((ji25) != 0)).bind fun bt404 => ((parts_Round.f k t384 bt404.1 bt404.2 (wrap64 (t386 - 62)) ((ji25) != 0) a2).bind fun bt406 => (some (bt406.1, bt406.2)))) = some (r1, r2) := by first | (rw [hji25] at H; exact H) | (simp only [hji25] at H ⊢; exact H)
            (try rw [hji25] at A4)
            (try rw [hji25] at A5)
            (try rw [hji25] at A11)
            have hji25_ : (IntKind.u64.wrap (t389 * 2 ^ min (ji23).toNat 64)) = ji25 := hji25
            have hji25z : (ji23) ≤ 64 → (IntKind.u64.wrap (t389 * 2 ^ (ji23).toNat)) = ji25 := shl_small hji25
            replace H := Option.bind_eq_some_iff.mp H
            obtain ⟨⟨t404, t405⟩, A260, H⟩ := H
            replace H : ((parts_Round.f k t384 t404 t405 (wrap64 (t386 - 62)) ((ji25) != 0) a2).bind fun bt406 => (some (bt406.1, bt406.2))) = some (r1, r2) := H
            have A26 := Aside0.mk A260
            clear A260
            replace H := Option.bind_eq_some_iff.mp H
            obtain ⟨⟨t406, t407⟩, A270, H⟩ := H
            replace H : (some (t406, t407)) = some (r1, r2) := H
            have A27 := Aside0.mk A270
            clear A270
            simp only [Option.some.injEq, Prod.mk.injEq] at H
            obtain ⟨rfl, rfl⟩ := H
            go_enter Try.func80, Try.ntmps80
            go_wp2_with (first | (go_at_call 92; (with_reducible refine (parts_Split.calls a0 t384 t385 t386 t387 _ A4.out).mono ?_); rintro e w' ⟨rfl, ⟨nd, rfl⟩⟩; (try first | exact ⟨rfl, _, World.drewN_drewN _ _ _⟩ | exact ⟨rfl, _, Eq.trans (World.drewN_drewN _ _ _) (congrArg (World.drewN _) (Nat.add_assoc _ _ _))⟩)) | (go_at_call 92; (with_reducible refine (parts_Split.calls a1 t388 t389 t390 t391 _ A5.out).mono ?_); rintro e w' ⟨rfl, ⟨nd, rfl⟩⟩; (try first | exact ⟨rfl, _, World.drewN_drewN _ _ _⟩ | exact ⟨rfl, _, Eq.trans (World.drewN_drewN _ _ _) (congrArg (World.drewN _) (Nat.add_assoc _ _ _))⟩)) | (go_at_call 93; (with_reducible refine (fadd_lift.calls t385 62 t398 t399 _ A11.out).mono ?_); rintro e w' ⟨rfl, ⟨nd, rfl⟩⟩; (try first | exact ⟨rfl, _, World.drewN_drewN _ _ _⟩ | exact ⟨rfl, _, Eq.trans (World.drewN_drewN _ _ _) (congrArg (World.drewN _) (Nat.add_assoc _ _ _))⟩)) | (go_at_call 94; (with_reducible refine (fadd_join.calls t398 t399 ji22 (!(t384 == t388)) ((ji25) != 0) t404 t405 _ A26.out).mono ?_); rintro e w' ⟨rfl, ⟨nd, rfl⟩⟩; (try first | exact ⟨rfl, _, World.drewN_drewN _ _ _⟩ | exact ⟨rfl, _, Eq.trans (World.drewN_drewN _ _ _) (congrArg (World.drewN _) (Nat.add_assoc _ _ _))⟩)) | (go_at_call 95; (with_reducible refine (parts_Round.calls k t384 t404 t405 (wrap64 (t386 - 62)) ((ji25) != 0) a2 t406 t407 _ A27.out).mono ?_); rintro e w28 ⟨rfl, hb⟩; have n0_ := Aside0.mk (below_step (by repeat (first | (with_reducible first | exact HB.out | apply below_alloc | apply pw_below_drewN | apply below_drew1) | exact HB.out)) hb); clear HB; have HB := n0_; clear n0_; (try clear hb); (try clear hb2); (try clear hk); (try clear hi)))
            repeat (go_quiet (first | (go_at_call 92; (with_reducible refine (parts_Split.calls a0 t384 t385 t386 t387 _ A4.out).mono ?_); rintro e w' ⟨rfl, ⟨nd, rfl⟩⟩; (try first | exact ⟨rfl, _, World.drewN_drewN _ _ _⟩ | exact ⟨rfl, _, Eq.trans (World.drewN_drewN _ _ _) (congrArg (World.drewN _) (Nat.add_assoc _ _ _))⟩)) | (go_at_call 92; (with_reducible refine (parts_Split.calls a1 t388 t389 t390 t391 _ A5.out).mono ?_); rintro e w' ⟨rfl, ⟨nd, rfl⟩⟩; (try first | exact ⟨rfl, _, World.drewN_drewN _ _ _⟩ | exact ⟨rfl, _, Eq.trans (World.drewN_drewN _ _ _) (congrArg (World.drewN _) (Nat.add_assoc _ _ _))⟩)) | (go_at_call 93; (with_reducible refine (fadd_lift.calls t385 62 t398 t399 _ A11.out).mono ?_); rintro e w' ⟨rfl, ⟨nd, rfl⟩⟩; (try first | exact ⟨rfl, _, World.drewN_drewN _ _ _⟩ | exact ⟨rfl, _, Eq.trans (World.drewN_drewN _ _ _) (congrArg (World.drewN _) (Nat.add_assoc _ _ _))⟩)) | (go_at_call 94; (with_reducible refine (fadd_join.calls t398 t399 ji22 (!(t384 == t388)) ((ji25) != 0) t404 t405 _ A26.out).mono ?_); rintro e w' ⟨rfl, ⟨nd, rfl⟩⟩; (try first | exact ⟨rfl, _, World.drewN_drewN _ _ _⟩ | exact ⟨rfl, _, Eq.trans (World.drewN_drewN _ _ _) (congrArg (World.drewN _) (Nat.add_assoc _ _ _))⟩)) | (go_at_call 95; (with_reducible refine (parts_Round.calls k t384 t404 t405 (wrap64 (t386 - 62)) ((ji25) != 0) a2 t406 t407 _ A27.out).mono ?_); rintro e w28 ⟨rfl, hb⟩; have n0_ := Aside0.mk (below_step (by repeat (first | (with_reducible first | exact HB.out | apply below_alloc | apply pw_below_drewN | apply below_drew1) | exact HB.out)) hb); clear HB; have HB := n0_; clear n0_; (try clear hb); (try clear hb2); (try clear hk); (try clear hi))); try go_wp2_with (first | (go_at_call 92; (with_reducible refine (parts_Split.calls a0 t384 t385 t386 t387 _ A4.out).mono ?_); rintro e w' ⟨rfl, ⟨nd, rfl⟩⟩; (try first | exact ⟨rfl, _, World.drewN_drewN _ _ _⟩ | exact ⟨rfl, _, Eq.trans (World.drewN_drewN _ _ _) (congrArg (World.drewN _) (Nat.add_assoc _ _ _))⟩)) | (go_at_call 92; (with_reducible refine (parts_Split.calls a1 t388 t389 t390 t391 _ A5.out).mono ?_); rintro e w' ⟨rfl, ⟨nd, rfl⟩⟩; (try first | exact ⟨rfl, _, World.drewN_drewN _ _ _⟩ | exact ⟨rfl, _, Eq.trans (World.drewN_drewN _ _ _) (congrArg (World.drewN _) (Nat.add_assoc _ _ _))⟩)) | (go_at_call 93; (with_reducible refine (fadd_lift.calls t385 62 t398 t399 _ A11.out).mono ?_); rintro e w' ⟨rfl, ⟨nd, rfl⟩⟩; (try first | exact ⟨rfl, _, World.drewN_drewN _ _ _⟩ | exact ⟨rfl, _, Eq.trans (World.drewN_drewN _ _ _) (congrArg (World.drewN _) (Nat.add_assoc _ _ _))⟩)) | (go_at_call 94; (with_reducible refine (fadd_join.calls t398 t399 ji22 (!(t384 == t388)) ((ji25) != 0) t404 t405 _ A26.out).mono ?_); rintro e w' ⟨rfl, ⟨nd, rfl⟩⟩; (try first | exact ⟨rfl, _, World.drewN_drewN _ _ _⟩ | exact ⟨rfl, _, Eq.trans (World.drewN_drewN _ _ _) (congrArg (World.drewN _) (Nat.add_assoc _ _ _))⟩)) | (go_at_call 95; (with_reducible refine (parts_Round.calls k t384 t404 t405 (wrap64 (t386 - 62)) ((ji25) != 0) a2 t406 t407 _ A27.out).mono ?_); rintro e w28 ⟨rfl, hb⟩; have n0_ := Aside0.mk (below_step (by repeat (first | (with_reducible first | exact HB.out | apply below_alloc | apply pw_below_drewN | apply below_drew1) | exact HB.out)) hb); clear HB; have HB := n0_; clear n0_; (try clear hb); (try clear hb2); (try clear hk); (try clear hi))))
            go_ret2
            exact ⟨by first | rfl | (simp [errW_none, errW_some] <;> rfl) | (simp only [← hji12, ← hji22, ← hji23, ← hji25]; first | rfl | (simp [errW_none, errW_some] <;> rfl)) | (simp [*, errW_none, errW_some] <;> rfl), by repeat (first | (with_reducible first | exact HB.out | apply below_alloc | apply pw_below_drewN | apply below_drew1) | exact HB.out)⟩
          · rw [if_neg c24] at H
            exact absurd H (by simp)
        · rw [if_neg c21] at H
          exact absurd H (by simp)
      · rw [if_neg c20] at H
        have c20b0 : decide ((ji12) < 64) = false := decide_eq_false c20
        clear c20
        replace H := Option.bind_eq_some_iff.mp H
        obtain ⟨⟨t408, t409⟩, A290, H⟩ := H
        replace H : ((parts_Round.f k t384 t408 t409 (wrap64 (t386 - 62)) (t389 != 0) a2).bind fun bt410 => (some (bt410.1, bt410.2))) = some (r1, r2) := H
        have A29 := Aside0.mk A290
        clear A290
        replace H := Option.bind_eq_some_iff.mp H
        obtain ⟨⟨t410, t411⟩, A300, H⟩ := H
        replace H : (some (t410, t411)) = some (r1, r2) := H
        have A30 := Aside0.mk A300
        clear A300
        simp only [Option.some.injEq, Prod.mk.injEq] at H
        obtain ⟨rfl, rfl⟩ := H
        go_enter Try.func80, Try.ntmps80
        go_wp2_with (first | (go_at_call 92; (with_reducible refine (parts_Split.calls a0 t384 t385 t386 t387 _ A4.out).mono ?_); rintro e w' ⟨rfl, ⟨nd, rfl⟩⟩; (try first | exact ⟨rfl, _, World.drewN_drewN _ _ _⟩ | exact ⟨rfl, _, Eq.trans (World.drewN_drewN _ _ _) (congrArg (World.drewN _) (Nat.add_assoc _ _ _))⟩)) | (go_at_call 92; (with_reducible refine (parts_Split.calls a1 t388 t389 t390 t391 _ A5.out).mono ?_); rintro e w' ⟨rfl, ⟨nd, rfl⟩⟩; (try first | exact ⟨rfl, _, World.drewN_drewN _ _ _⟩ | exact ⟨rfl, _, Eq.trans (World.drewN_drewN _ _ _) (congrArg (World.drewN _) (Nat.add_assoc _ _ _))⟩)) | (go_at_call 93; (with_reducible refine (fadd_lift.calls t385 62 t398 t399 _ A11.out).mono ?_); rintro e w' ⟨rfl, ⟨nd, rfl⟩⟩; (try first | exact ⟨rfl, _, World.drewN_drewN _ _ _⟩ | exact ⟨rfl, _, Eq.trans (World.drewN_drewN _ _ _) (congrArg (World.drewN _) (Nat.add_assoc _ _ _))⟩)) | (go_at_call 94; (with_reducible refine (fadd_join.calls t398 t399 0 (!(t384 == t388)) (t389 != 0) t408 t409 _ A29.out).mono ?_); rintro e w' ⟨rfl, ⟨nd, rfl⟩⟩; (try first | exact ⟨rfl, _, World.drewN_drewN _ _ _⟩ | exact ⟨rfl, _, Eq.trans (World.drewN_drewN _ _ _) (congrArg (World.drewN _) (Nat.add_assoc _ _ _))⟩)) | (go_at_call 95; (with_reducible refine (parts_Round.calls k t384 t408 t409 (wrap64 (t386 - 62)) (t389 != 0) a2 t410 t411 _ A30.out).mono ?_); rintro e w31 ⟨rfl, hb⟩; have n0_ := Aside0.mk (below_step (by repeat (first | (with_reducible first | exact HB.out | apply below_alloc | apply pw_below_drewN | apply below_drew1) | exact HB.out)) hb); clear HB; have HB := n0_; clear n0_; (try clear hb); (try clear hb2); (try clear hk); (try clear hi)))
        repeat (go_quiet (first | (go_at_call 92; (with_reducible refine (parts_Split.calls a0 t384 t385 t386 t387 _ A4.out).mono ?_); rintro e w' ⟨rfl, ⟨nd, rfl⟩⟩; (try first | exact ⟨rfl, _, World.drewN_drewN _ _ _⟩ | exact ⟨rfl, _, Eq.trans (World.drewN_drewN _ _ _) (congrArg (World.drewN _) (Nat.add_assoc _ _ _))⟩)) | (go_at_call 92; (with_reducible refine (parts_Split.calls a1 t388 t389 t390 t391 _ A5.out).mono ?_); rintro e w' ⟨rfl, ⟨nd, rfl⟩⟩; (try first | exact ⟨rfl, _, World.drewN_drewN _ _ _⟩ | exact ⟨rfl, _, Eq.trans (World.drewN_drewN _ _ _) (congrArg (World.drewN _) (Nat.add_assoc _ _ _))⟩)) | (go_at_call 93; (with_reducible refine (fadd_lift.calls t385 62 t398 t399 _ A11.out).mono ?_); rintro e w' ⟨rfl, ⟨nd, rfl⟩⟩; (try first | exact ⟨rfl, _, World.drewN_drewN _ _ _⟩ | exact ⟨rfl, _, Eq.trans (World.drewN_drewN _ _ _) (congrArg (World.drewN _) (Nat.add_assoc _ _ _))⟩)) | (go_at_call 94; (with_reducible refine (fadd_join.calls t398 t399 0 (!(t384 == t388)) (t389 != 0) t408 t409 _ A29.out).mono ?_); rintro e w' ⟨rfl, ⟨nd, rfl⟩⟩; (try first | exact ⟨rfl, _, World.drewN_drewN _ _ _⟩ | exact ⟨rfl, _, Eq.trans (World.drewN_drewN _ _ _) (congrArg (World.drewN _) (Nat.add_assoc _ _ _))⟩)) | (go_at_call 95; (with_reducible refine (parts_Round.calls k t384 t408 t409 (wrap64 (t386 - 62)) (t389 != 0) a2 t410 t411 _ A30.out).mono ?_); rintro e w31 ⟨rfl, hb⟩; have n0_ := Aside0.mk (below_step (by repeat (first | (with_reducible first | exact HB.out | apply below_alloc | apply pw_below_drewN | apply below_drew1) | exact HB.out)) hb); clear HB; have HB := n0_; clear n0_; (try clear hb); (try clear hb2); (try clear hk); (try clear hi))); try go_wp2_with (first | (go_at_call 92; (with_reducible refine (parts_Split.calls a0 t384 t385 t386 t387 _ A4.out).mono ?_); rintro e w' ⟨rfl, ⟨nd, rfl⟩⟩; (try first | exact ⟨rfl, _, World.drewN_drewN _ _ _⟩ | exact ⟨rfl, _, Eq.trans (World.drewN_drewN _ _ _) (congrArg (World.drewN _) (Nat.add_assoc _ _ _))⟩)) | (go_at_call 92; (with_reducible refine (parts_Split.calls a1 t388 t389 t390 t391 _ A5.out).mono ?_); rintro e w' ⟨rfl, ⟨nd, rfl⟩⟩; (try first | exact ⟨rfl, _, World.drewN_drewN _ _ _⟩ | exact ⟨rfl, _, Eq.trans (World.drewN_drewN _ _ _) (congrArg (World.drewN _) (Nat.add_assoc _ _ _))⟩)) | (go_at_call 93; (with_reducible refine (fadd_lift.calls t385 62 t398 t399 _ A11.out).mono ?_); rintro e w' ⟨rfl, ⟨nd, rfl⟩⟩; (try first | exact ⟨rfl, _, World.drewN_drewN _ _ _⟩ | exact ⟨rfl, _, Eq.trans (World.drewN_drewN _ _ _) (congrArg (World.drewN _) (Nat.add_assoc _ _ _))⟩)) | (go_at_call 94; (with_reducible refine (fadd_join.calls t398 t399 0 (!(t384 == t388)) (t389 != 0) t408 t409 _ A29.out).mono ?_); rintro e w' ⟨rfl, ⟨nd, rfl⟩⟩; (try first | exact ⟨rfl, _, World.drewN_drewN _ _ _⟩ | exact ⟨rfl, _, Eq.trans (World.drewN_drewN _ _ _) (congrArg (World.drewN _) (Nat.add_assoc _ _ _))⟩)) | (go_at_call 95; (with_reducible refine (parts_Round.calls k t384 t408 t409 (wrap64 (t386 - 62)) (t389 != 0) a2 t410 t411 _ A30.out).mono ?_); rintro e w31 ⟨rfl, hb⟩; have n0_ := Aside0.mk (below_step (by repeat (first | (with_reducible first | exact HB.out | apply below_alloc | apply pw_below_drewN | apply below_drew1) | exact HB.out)) hb); clear HB; have HB := n0_; clear n0_; (try clear hb); (try clear hb2); (try clear hk); (try clear hi))))
        go_ret2
        exact ⟨by first | rfl | (simp [errW_none, errW_some] <;> rfl) | (simp only [← hji12]; first | rfl | (simp [errW_none, errW_some] <;> rfl)) | (simp [*, errW_none, errW_some] <;> rfl), by repeat (first | (with_reducible first | exact HB.out | apply below_alloc | apply pw_below_drewN | apply below_drew1) | exact HB.out)⟩

end Go.Proofs.Ytjbpchebabhoeaa.P
