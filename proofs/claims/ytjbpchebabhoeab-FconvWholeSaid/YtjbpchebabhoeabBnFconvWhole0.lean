/- Part 0 of what the law FconvWhole rests on: printed walks of its functions, and plain laws of what they compute. For every input that their premises tell. -/
import Derived.Test.YtjbpchebabhoeabProg
import Derived.Laws.Externs
import Derived.Test.YtjbpchebabhoeabVFconvWholeMore
import Derived.Shelf.Strconv.Itoa0
import Derived.Lib.BitFns
import Derived.Below
import Derived.Deep.Draws
import Derived.Deep.AppendLies
import Derived.Maps.AppendAt
import Derived.OwnWalk
import Derived.Laws.BytesArg
import Derived.Laws.MakeOwn
import Derived.Laws.OwnMore
import Derived.Deep.OwnRows
import Derived.Tactics
import Derived.Lib.ConvBytes
import Derived.Laws.Slices
import Derived.WalkKit
import Derived.KernelRfl
import Derived.RowKit3
import Derived.Deep.LoopGhost
import Derived.Deep.QuietTactic
import Derived.BigQuiet
import Derived.WideLaws
import Derived.Deep.DeepCutAuto
import Derived.Deep.CutBlock
import Derived.Deep.RegionHeld3
import Derived.Laws.Rows
import Derived.Lib.AppendStr
import Derived.ArgAppend
import Derived.Laws.IdiomCopy
import Derived.OrdersHeld
import Derived.Laws.BitsLemmas
import Derived.RowKit
import Derived.Test.YtjbpchebabhoeabVFconvWholeWords
import Derived.Test.YtjbpchebabhoeabVFconvWholeLast
import Derived.Test.YtjbpchebabhoeabVFconvWholeTab
import Derived.Test.YtjbpchebabhoeabVFconvWholeApart
import Derived.Test.YtjbpchebabhoeabVFconvWholeArr
import Derived.Test.YtjbpchebabhoeabVFconvWholeFoot
import Derived.Test.YtjbpchebabhoeabVFconvWholeKept
import Derived.Test.YtjbpchebabhoeabVFconvWholeShare
import Derived.Test.YtjbpchebabhoeabVFconvWholeN
import Derived.Test.YtjbpchebabhoeabVFconvWholeAt
import Derived.Laws.StructEq
import Derived.Test.YtjbpchebabhoeabVFconvWholeRepsOne
import Derived.Test.YtjbpchebabhoeabVFconvWholeGuard
section
set_option linter.unusedVariables false
namespace Go.Proofs.Ytjbpchebabhoeab.X
open Go.RowKit Go.Proofs.YtjbpchebabhoeabW.PrintWords Go.Proofs.YtjbpchebabhoeabW.PrintLast Go.Proofs.YtjbpchebabhoeabW.PrintMore
def ExtCalls (P : Program) (f : FuncId) (args : Array Value) (w : World) (R : Ending → World → Prop) : Prop :=
  ∃ v w', (callFunc f args).run P w = .ok (.value v) w' ∧ R (.returned v) w'
theorem ExtCalls.mono {P : Program} {f : FuncId} {args : Array Value} {w : World} {R R' : Ending → World → Prop} (h : ExtCalls P f args w R) (hr : ∀ e w', R e w' → R' e w') : ExtCalls P f args w R' := by
  obtain ⟨v, w', h1, h2⟩ := h
  exact ⟨v, w', h1, hr _ _ h2⟩
section
variable {P : Program} {ops : Array Oper} {o : Oper} {Q : Exit → Act → World → Prop}
theorem goesXL_ {rest : List Oper} {oi : Oper} {a : Act} {w : World} (N : Option Tmp) (hd : oi.dst = N) (hg : oi.guard = none) {f : FuncId} {aas : Array Operand} {ts : Array TypeId} (args : Array Value)
    (hop : oi.op = .call { callee := .value (.func f), args := aas, argTypes := ts }) (hargs : aas.map a.eval = args)
    (h : ExtCalls P f args w fun e w' => ∃ v, e = .returned v ∧ wpList P ops Q rest (a.put N v) w') : wpList P ops Q (oi :: rest) a w := by
  refine wpList_plain hg fun K hK => ?_
  obtain ⟨v, w', h1, v', h2, h3⟩ := h
  obtain rfl : v = v' := by injection h2
  have hrun : (execOp a.eval oi).run P w = .ok (.value v) w' := by
    unfold execOp
    simp [hop, resolve, Deferred.ofValue, invoke, Act.eval, hargs, h1]
  unfold Oper.wp
  rw [hrun, Oper.upon_value, hd]
  exact hK _ _ h3
theorem goesX_ {oi : Oper} {N : Option Tmp} {a : Act} {w : World} {K : Act → World → Prop} {f : FuncId} {aas : Array Operand} {ts : Array TypeId} (args : Array Value)
    (hw : Region.wanted oi (yielded ops a.tmps) = true) (hN : oi.dst = N) (hop : oi.op = .call { callee := .value (.func f), args := aas, argTypes := ts }) (hargs : aas.map a.eval = args)
    (h : ExtCalls P f args w fun e w' => ∃ v, e = .returned v ∧ K (a.put N v) w') : if Region.wanted oi (yielded ops a.tmps) = true then Oper.wp P oi a w K Q else K (a.put N undef) w := by
  rw [if_pos hw]
  obtain ⟨v, w', h1, v', h2, h3⟩ := h
  obtain rfl : v = v' := by injection h2
  have hrun : (execOp a.eval oi).run P w = .ok (.value v) w' := by
    unfold execOp
    simp [hop, resolve, Deferred.ofValue, invoke, Act.eval, hargs, h1]
  unfold Oper.wp
  rw [hrun, Oper.upon_value, hN]
  exact h3
end
def sub64Entry : Array Value → Sem Value := fun args => do
  let (x, y, b) ← Extern.MathBitsCarry.three "Sub64" args
  pure (Extern.MathBitsCarry.pair ((x + Extern.MathBitsCarry.m64 - y - b) % Extern.MathBitsCarry.m64) (if x < y + b then 1 else 0))
theorem run_sub64 {P : Program} (x y b : Nat) (hb : b ≤ 1) (w : World) :
    (sub64Entry #[.int .u64 x, .int .u64 y, .int .u64 b]).run P w =
      .ok (.tuple #[.int .u64 (((x + 18446744073709551616 - y - b) % 18446744073709551616 : Nat) : Int), .int .u64 ((if x < y + b then 1 else 0 : Nat) : Int)]) w := by
  have : b = 0 ∨ b = 1 := by omega
  rcases this with rfl | rfl <;> rfl
def bits_Add64.f (a0 : Int) (a1 : Int) (a2 : Int) : Option (Int × Int) := if 0 ≤ a0 ∧ 0 ≤ a1 ∧ 0 ≤ a2 ∧ a2 ≤ 1 then (some ((a0 + a1 + a2) % 18446744073709551616, (a0 + a1 + a2) / 18446744073709551616)) else (none)
theorem bits_Add64.calls (a0 : Int) (a1 : Int) (a2 : Int) (r1 : Int) (r2 : Int) (w : World) (h : bits_Add64.f a0 a1 a2 = some (r1, r2)) :
    ExtCalls Try.prog 43 #[.int .u64 a0, .int .u64 a1, .int .u64 a2] w fun e w' => e = .returned (.tuple #[.int .u64 r1, .int .u64 r2]) ∧ Drawn0 w w' := by
  unfold bits_Add64.f at h
  split at h
  · rename_i hc
    simp only [Option.some.injEq, Prod.mk.injEq] at h
    obtain ⟨rfl, rfl⟩ := h
    refine ⟨_, w, ?_, rfl, Drawn0.refl w⟩
    rw [run_callFunc_extern Try.func43 (by kernel_rfl) (by kernel_rfl) (by kernel_rfl) (e := add64Entry) (by kernel_rfl), run_add64 a0 a1 a2 hc.1 hc.2.1 hc.2.2.1 hc.2.2.2]
    rfl
  · cases h
def bits_Sub64.f (a0 : Int) (a1 : Int) (a2 : Int) : Option (Int × Int) := if 0 ≤ a0 ∧ 0 ≤ a1 ∧ 0 ≤ a2 ∧ a2 ≤ 1 ∧ a1 < 18446744073709551616 then (some ((a0 - a1 - a2) % 18446744073709551616, if a0 < a1 + a2 then 1 else 0)) else (none)
theorem bits_Sub64.calls (a0 : Int) (a1 : Int) (a2 : Int) (r1 : Int) (r2 : Int) (w : World) (h : bits_Sub64.f a0 a1 a2 = some (r1, r2)) :
    ExtCalls Try.prog 44 #[.int .u64 a0, .int .u64 a1, .int .u64 a2] w fun e w' => e = .returned (.tuple #[.int .u64 r1, .int .u64 r2]) ∧ Drawn0 w w' := by
  unfold bits_Sub64.f at h
  split at h
  · rename_i hc
    simp only [Option.some.injEq, Prod.mk.injEq] at h
    obtain ⟨rfl, rfl⟩ := h
    obtain ⟨h0, h1, h2, h3, h4⟩ := hc
    obtain ⟨x, rfl⟩ := Int.eq_ofNat_of_zero_le h0
    obtain ⟨y, rfl⟩ := Int.eq_ofNat_of_zero_le h1
    obtain ⟨b, rfl⟩ := Int.eq_ofNat_of_zero_le h2
    refine ⟨_, w, ?_, rfl, Drawn0.refl w⟩
    rw [run_callFunc_extern Try.func44 (by kernel_rfl) (by kernel_rfl) (by kernel_rfl) (e := sub64Entry) (by kernel_rfl), run_sub64 x y b (by omega)]
    have e1 : (((x + 18446744073709551616 - y - b) % 18446744073709551616 : Nat) : Int) = ((x : Int) - y - b) % 18446744073709551616 := by omega
    have e2 : ((if x < y + b then 1 else 0 : Nat) : Int) = if (x : Int) < (y : Int) + (b : Int) then 1 else 0 := by
      by_cases h : x < y + b
      · rw [if_pos h, if_pos (by omega)]; rfl
      · rw [if_neg h, if_neg (by omega)]; rfl
    rw [e1, e2]
    rfl
  · cases h
end Go.Proofs.Ytjbpchebabhoeab.X
end
section
namespace Go.Proofs
open Go.Shelf
def Try.lays129_ren : Go.Shelf.Ren := ⟨fun | 129 => 34 | n => n, fun | 53 => 22 | 3 => 3 | 4 => 4 | 46 => 49 | 5 => 5 | 9 => 9 | n => n, fun | n => n⟩
theorem Try.lays129 : Go.Proofs.Lays.n129 Try.prog Try.lays129_ren := {
  mixed := by kernel_rfl
  f129 := Try.func34.trans (congrArg some (by kernel_rfl))
  t3 := Try.underlying3
  a3 := Try.isAgg3
  z3 := Try.sizeOf3
  v3 := Try.zeroValue3
  t4 := Try.underlying4
  a4 := Try.isAgg4
  z4 := Try.sizeOf4
  v4 := Try.zeroValue4
  t5 := Try.underlying5
  a5 := Try.isAgg5
  z5 := Try.sizeOf5
  v5 := Try.zeroValue5
  t9 := Try.underlying9
  a9 := Try.isAgg9
  z9 := Try.sizeOf9
  v9 := Try.zeroValue9
  t46 := Try.underlying49
  a46 := Try.isAgg49
  z46 := Try.sizeOf49
  v46 := Try.zeroValue49
  t53 := Try.underlying22
  a53 := Try.isAgg22
  z53 := Try.sizeOf22
  v53 := Try.zeroValue22 }
theorem Try.bits_Len64 (x : Int) (w : World) (h0 : 0 ≤ x) (h1 : x ≤ 18446744073709551615) :
    Calls Try.prog 34 #[.int .u64 x] w fun e w' => e = .returned (.int .i64 (Lib.bitLen x.toNat)) ∧ w' = w := Any.bits_Len64 Try.lays129 x w h0 h1
end Go.Proofs
end
section
set_option linter.unusedVariables false
namespace Go.Proofs.Ytjbpchebabhoeab.X
open Go.RowKit Go.Proofs.YtjbpchebabhoeabW.PrintWords Go.Proofs.YtjbpchebabhoeabW.PrintLast Go.Proofs.YtjbpchebabhoeabW.PrintMore
theorem up_ {p q : Prop} (A : Aside0 q) (h : q → p := by intro h_; (with_reducible repeat (first | apply Kd.R_alloc | apply Kd.R_drewN | apply Kd.R_drew)); exact h_) : p := h A.out
theorem dn_ {p q : Prop} (A : Aside0 q) (h : q → p := by intro h_; repeat (first | (with_reducible first | exact h_ | apply below_alloc | apply pw_below_drewN | apply below_drew1) | exact h_)) : p := h A.out
theorem ar_ {p : Prop} (h : p := by (try simp only [List.map_toArray, List.map_cons, List.map_nil]); first | done | rfl | (simp only [List.length_drop, List.length_take]; rfl)) : p := h
theorem cs_ {p q : Prop} (A : q) (h : q → p := by intro h_; repeat (first | exact h_ | (with_reducible refine Kd.C_alloc ?_ _) | (with_reducible refine Kd.C_drewN ?_ _) | (with_reducible refine Kd.C_drew ?_))) : p := h A
theorem er_ {p : Prop} (h : p := by first | rfl | (simp [errW_none, errW_some] <;> rfl) | (simp [*, errW_none, errW_some] <;> rfl)) : p := h
theorem as_ {p : Prop} (h : p := by first | (with_reducible assumption) | assumption) : p := h
end Go.Proofs.Ytjbpchebabhoeab.X
end
section
set_option linter.unusedVariables false
namespace Go.Proofs.Ytjbpchebabhoeab.X
open Go.RowKit Go.Proofs.YtjbpchebabhoeabW.PrintWords Go.Proofs.YtjbpchebabhoeabW.PrintLast Go.Proofs.YtjbpchebabhoeabW.PrintMore
def bits_Len64.f (a0 : Int) : Option (Int) := if 0 ≤ a0 ∧ a0 ≤ 18446744073709551615 then (some (Lib.bitLen a0.toNat)) else (none)
theorem bits_Len64.calls (a0 : Int) (r : Int) (w : World) (h : bits_Len64.f a0 = some r) :
    Calls Try.prog 34 #[.int .u64 a0] w fun e w' => e = .returned (.int .i64 r) ∧ Drawn0 w w' := by
  unfold bits_Len64.f at h
  split at h
  · rename_i hc
    obtain rfl := Option.some.inj h
    exact (Try.bits_Len64 a0 w hc.1 hc.2).mono fun e w' ⟨he, hw⟩ => ⟨he, by subst hw; exact Drawn0.refl _⟩
  · cases h
theorem field_55_1 (x0 x1 : Value) (w : World) : (Instr.field 55 (.agg #[x0, x1]) 1).run Try.prog w = .ok (x1) w := by kernel_rfl
attribute [go_sem] field_55_1
end Go.Proofs.Ytjbpchebabhoeab.X
end
section
namespace Go.Proofs.Ytjbpchebabhoeab.P
open Go.RowKit Go.Proofs.YtjbpchebabhoeabW.PrintWords Go.Proofs.YtjbpchebabhoeabW.PrintLast Go.Proofs.YtjbpchebabhoeabW.PrintMore Go.Proofs.Ytjbpchebabhoeab.X
attribute [local go_sem] max2_int min2_int max_two min_two max_three min_three max_four min_four
set_option linter.unusedVariables false
set_option linter.unusedSimpArgs false
def errW : Option Int → Value
  | none => .nilIface
  | some c => .iface 0 (.int .i64 c)
theorem errW_none : errW none = .nilIface := rfl
theorem errW_some (c : Int) : errW (some c) = .iface 0 (.int .i64 c) := rfl
theorem info3 : (Try.prog.info? 3).map (fun i => (i.zero, i.size, i.bytes)) = some (some (.int .i64 0), 1, 8) := by kernel_rfl
theorem info22 : (Try.prog.info? 22).map (fun i => (i.zero, i.size, i.bytes)) = some (some (.int .u64 0), 1, 8) := by kernel_rfl
def parts_Split.f (a0 : Int) : Option (Bool × Int × Int × Int) := if (wrap64 (Go.bits .and .u64 (a0 / 4503599627370496) 2047)) = 2047 then (some (false, 0, 0, 23)) else (if (wrap64 (Go.bits .and .u64 (a0 / 4503599627370496) 2047)) = 0 then (some (((Go.bits .and .u64 a0 9223372036854775808) != 0), Go.bits .and .u64 a0 4503599627370495, (-1074), 0)) else (some (((Go.bits .and .u64 a0 9223372036854775808) != 0), Go.bits .or .u64 (Go.bits .and .u64 a0 4503599627370495) 4503599627370496, wrap64 ((wrap64 (Go.bits .and .u64 (a0 / 4503599627370496) 2047)) - 1075), 0)))
set_option maxHeartbeats 8000000 in
set_option maxRecDepth 100000 in
theorem parts_Split.calls (a0 : Int) (r1 : Bool) (r2 : Int) (r3 : Int) (r4 : Int) (w : World) (h : parts_Split.f a0 = some (r1, r2, r3, r4)) :
    Calls Try.prog 14 #[.int .u64 a0] w fun e w' => e = .returned (.tuple #[.bool r1, .int .u64 r2, .int .i64 r3, .int .i64 r4]) ∧ Drawn0 w w' := by
  have H : (if (wrap64 (Go.bits .and .u64 (a0 / 4503599627370496) 2047)) = 2047 then (some (false, 0, 0, 23)) else (if (wrap64 (Go.bits .and .u64 (a0 / 4503599627370496) 2047)) = 0 then (some (((Go.bits .and .u64 a0 9223372036854775808) != 0), Go.bits .and .u64 a0 4503599627370495, (-1074), 0)) else (some (((Go.bits .and .u64 a0 9223372036854775808) != 0), Go.bits .or .u64 (Go.bits .and .u64 a0 4503599627370495) 4503599627370496, wrap64 ((wrap64 (Go.bits .and .u64 (a0 / 4503599627370496) 2047)) - 1075), 0)))) = some (r1, r2, r3, r4) := h
  clear h
  by_cases c2 : (wrap64 (Go.bits .and .u64 (a0 / 4503599627370496) 2047)) = 2047
  · rw [if_pos c2] at H
    have c2b0 : ((wrap64 (Go.bits .and .u64 (a0 / 4503599627370496) 2047)) == 2047) = true := beq_iff_eq.mpr c2
    have c2b1 : ((wrap64 (Go.bits .and .u64 (a0 / 4503599627370496) 2047)) != 2047) = false := bne_eq_false_iff_eq.mpr c2
    clear c2
    simp only [Option.some.injEq, Prod.mk.injEq] at H
    obtain ⟨rfl, rfl, rfl, rfl⟩ := H
    go_enter Try.func14, Try.ntmps14
    go_wp2
    refine bodyPost_ret (results_list (rs := [.tmp 2, .tmp 3, .tmp 4, .tmp 5]) rfl (by simp) (.tmp (.tmp (.tmp (.tmp .nil))))) rfl ?_
    exact ⟨by first | rfl | (simp; done) | (simp [*]; done), by repeat (first | exact Drawn0.refl _ | apply Drawn0.step)⟩
  · rw [if_neg c2] at H
    have c2b0 : ((wrap64 (Go.bits .and .u64 (a0 / 4503599627370496) 2047)) == 2047) = false := beq_eq_false_iff_ne.mpr c2
    have c2b1 : ((wrap64 (Go.bits .and .u64 (a0 / 4503599627370496) 2047)) != 2047) = true := bne_iff_ne.mpr c2
    by_cases c3 : (wrap64 (Go.bits .and .u64 (a0 / 4503599627370496) 2047)) = 0
    · rw [if_pos c3] at H
      have c3b0 : ((wrap64 (Go.bits .and .u64 (a0 / 4503599627370496) 2047)) == 0) = true := beq_iff_eq.mpr c3
      have c3b1 : ((wrap64 (Go.bits .and .u64 (a0 / 4503599627370496) 2047)) != 0) = false := bne_eq_false_iff_eq.mpr c3
      clear c3
      simp only [Option.some.injEq, Prod.mk.injEq] at H
      obtain ⟨rfl, rfl, rfl, rfl⟩ := H
      go_enter Try.func14, Try.ntmps14
      go_wp2
      refine bodyPost_ret (results_list (rs := [.tmp 2, .tmp 3, .tmp 4, .tmp 5]) rfl (by simp) (.tmp (.tmp (.tmp (.tmp .nil))))) rfl ?_
      exact ⟨by first | rfl | (simp; done) | (simp [*]; done), by repeat (first | exact Drawn0.refl _ | apply Drawn0.step)⟩
    · rw [if_neg c3] at H
      have c3b0 : ((wrap64 (Go.bits .and .u64 (a0 / 4503599627370496) 2047)) == 0) = false := beq_eq_false_iff_ne.mpr c3
      have c3b1 : ((wrap64 (Go.bits .and .u64 (a0 / 4503599627370496) 2047)) != 0) = true := bne_iff_ne.mpr c3
      simp only [Option.some.injEq, Prod.mk.injEq] at H
      obtain ⟨rfl, rfl, rfl, rfl⟩ := H
      go_enter Try.func14, Try.ntmps14
      go_wp2
      refine bodyPost_ret (results_list (rs := [.tmp 2, .tmp 3, .tmp 4, .tmp 5]) rfl (by simp) (.tmp (.tmp (.tmp (.tmp .nil))))) rfl ?_
      exact ⟨by first | rfl | (simp; done) | (simp [*]; done), by repeat (first | exact Drawn0.refl _ | apply Drawn0.step)⟩
def parts_Class.j0 : Nat → Int → Int → Bool → Option (Int)
  | 0, _, _, _ => none
  | k + 1, x3, x4, x10 => if x10 = true then (some 3) else (if x3 = 2047 then (some 2) else (if x3 = 0 then (if x4 = 0 then (some 0) else (some 1)) else (some 1)))
def parts_Class.f (k : Nat) (a0 : Int) : Option (Int) := if (Go.bits .and .u64 (a0 / 4503599627370496) 2047) = 2047 then (parts_Class.j0 k (Go.bits .and .u64 (a0 / 4503599627370496) 2047) (Go.bits .and .u64 a0 4503599627370495) ((Go.bits .and .u64 a0 4503599627370495) != 0)) else (parts_Class.j0 k (Go.bits .and .u64 (a0 / 4503599627370496) 2047) (Go.bits .and .u64 a0 4503599627370495) false)
theorem parts_Class.mono_l : ∀ k, (∀ y0 y1 y2, LeO (parts_Class.j0 k y0 y1 y2) (parts_Class.j0 (k + 1) y0 y1 y2))
  | 0 => fun _ _ _ r h => by simp [parts_Class.j0] at h
  | k + 1 => by
    have ih0 := parts_Class.mono_l k
    · intro y0 y1 y2
      unfold parts_Class.j0
      repeat' first
      | (with_reducible exact ih0 _ _ _)
      | (with_reducible exact LeO.refl _)
      | (with_reducible exact LeO.none _)
      | (with_reducible refine LeO.ite ?_ ?_)
      | (with_reducible refine LeO.bind ?_ (fun _ => ?_))
      | exact ih0 _ _ _
      | exact LeO.none _
      | refine LeO.ite ?_ ?_
      | refine LeO.bind ?_ (fun _ => ?_)
theorem parts_Class.mono : ∀ a0 k, LeO (parts_Class.f k a0) (parts_Class.f (k + 1) a0) := by
  intro a0 k
  have ih0 := parts_Class.mono_l k
  unfold parts_Class.f
  repeat' first
      | (with_reducible exact ih0 _ _ _)
      | (with_reducible exact LeO.refl _)
      | (with_reducible exact LeO.none _)
      | (with_reducible refine LeO.ite ?_ ?_)
      | (with_reducible refine LeO.bind ?_ (fun _ => ?_))
      | exact ih0 _ _ _
      | exact LeO.none _
      | refine LeO.ite ?_ ?_
      | refine LeO.bind ?_ (fun _ => ?_)
set_option maxHeartbeats 8000000 in
set_option maxRecDepth 100000 in
theorem parts_Class.calls (k : Nat) (a0 : Int) (r : Int) (w : World) (h : parts_Class.f k a0 = some r) :
    Calls Try.prog 15 #[.int .u64 a0] w fun e w' => e = .returned (.int .i64 r) ∧ Drawn0 w w' := by
  have H : (if (Go.bits .and .u64 (a0 / 4503599627370496) 2047) = 2047 then (parts_Class.j0 k (Go.bits .and .u64 (a0 / 4503599627370496) 2047) (Go.bits .and .u64 a0 4503599627370495) ((Go.bits .and .u64 a0 4503599627370495) != 0)) else (parts_Class.j0 k (Go.bits .and .u64 (a0 / 4503599627370496) 2047) (Go.bits .and .u64 a0 4503599627370495) false)) = some r := h
  clear h
  have HC2 := Aside0.mk H
  clear H
  go_enter Try.func15, Try.ntmps15
  go_upto_region 2 with (fail)
  go_cut [10] (fun v10 wc => ∃ (kq : Nat) (x10_1 : Bool), v10 = .bool x10_1 ∧ Aside0 (parts_Class.j0 kq (Go.bits .and .u64 (a0 / 4503599627370496) 2047) (Go.bits .and .u64 a0 4503599627370495) x10_1 = some r) ∧ Aside0 (kq ≤ k) ∧ Drawn0 w wc)
  case first =>
    have H := HC2.out
    clear HC2
    by_cases c3 : (Go.bits .and .u64 (a0 / 4503599627370496) 2047) = 2047
    · rw [if_pos c3] at H
      have c3b0 : ((Go.bits .and .u64 (a0 / 4503599627370496) 2047) == 2047) = true := beq_iff_eq.mpr c3
      have c3b1 : ((Go.bits .and .u64 (a0 / 4503599627370496) 2047) != 2047) = false := bne_eq_false_iff_eq.mpr c3
      clear c3
      (first | rw [c3b0] | (simp only [i64_w, i32_w]; rw [c3b0]) | skip)
      have H' := Aside0.mk H
      clear H
      go_wp2
      first | go_meet | (refine Met.intro ?_; go_step; (repeat apply Exists.intro); refine ⟨?rel, (by first | (rw [c3b1]; done) | (rw [c3b1]; rfl) | (rw [c3b0]; done) | (rw [c3b0]; rfl) | ((try rw [c3b0]); (try rw [c3b1]); done) | ((try rw [c3b0]); (try rw [c3b1]); rfl))⟩)
      case rel => exact ⟨_, (((Go.bits .and .u64 a0 4503599627370495) != 0)), (by first | rfl | (simp; done) | (simp [*]; done)), H', ⟨by first | omega | exact Nat.le_refl _⟩, by repeat (first | exact Drawn0.refl _ | apply Drawn0.step)⟩
    · rw [if_neg c3] at H
      have c3b0 : ((Go.bits .and .u64 (a0 / 4503599627370496) 2047) == 2047) = false := beq_eq_false_iff_ne.mpr c3
      have c3b1 : ((Go.bits .and .u64 (a0 / 4503599627370496) 2047) != 2047) = true := bne_iff_ne.mpr c3
      (first | rw [c3b0] | (simp only [i64_w, i32_w]; rw [c3b0]) | skip)
      have H' := Aside0.mk H
      clear H
      go_wp2
      first | go_meet | (refine Met.intro ?_; go_step; (repeat apply Exists.intro); refine ⟨?rel, (by first | (rw [c3b1]; done) | (rw [c3b1]; rfl) | (rw [c3b0]; done) | (rw [c3b0]; rfl) | ((try rw [c3b0]); (try rw [c3b1]); done) | ((try rw [c3b0]); (try rw [c3b1]); rfl))⟩)
      case rel => exact ⟨_, (false), (by first | rfl | (simp; done) | (simp [*]; done)), H', ⟨by first | omega | exact Nat.le_refl _⟩, by repeat (first | exact Drawn0.refl _ | apply Drawn0.step)⟩
  case rest =>
    clear HC2
    try clear c1
    try clear p2
    try clear c3
    try clear c3b0
    try clear c3b1
    obtain ⟨kq, x10_1, rfl, HA, HJ1, ⟨mc1, rfl⟩⟩ := hcut
    cases kq with
    | zero => exact absurd HA.out (by simp [parts_Class.j0])
    | succ kj1 =>
      have H := HA.out
      clear HA
      simp only [parts_Class.j0] at H
      by_cases c4 : x10_1 = true
      · subst c4
        have H1 : (some 3) = some r := by rw [if_pos rfl] at H; exact H
        clear H
        have H := H1
        clear H1
        obtain rfl := Option.some.inj H
        go_wp2
        go_ret
        exact ⟨by first | rfl | (simp; done) | (simp [*]; done), by repeat (first | exact Drawn0.refl _ | apply Drawn0.step)⟩
      · replace c4 := Bool.eq_false_iff.mpr c4
        subst c4
        have H1 : (if (Go.bits .and .u64 (a0 / 4503599627370496) 2047) = 2047 then (some 2) else (if (Go.bits .and .u64 (a0 / 4503599627370496) 2047) = 0 then (if (Go.bits .and .u64 a0 4503599627370495) = 0 then (some 0) else (some 1)) else (some 1))) = some r := by rw [if_neg (show ¬ (false = true) by decide)] at H; exact H
        clear H
        have H := H1
        clear H1
        by_cases c5 : (Go.bits .and .u64 (a0 / 4503599627370496) 2047) = 2047
        · rw [if_pos c5] at H
          have c5b0 : ((Go.bits .and .u64 (a0 / 4503599627370496) 2047) == 2047) = true := beq_iff_eq.mpr c5
          have c5b1 : ((Go.bits .and .u64 (a0 / 4503599627370496) 2047) != 2047) = false := bne_eq_false_iff_eq.mpr c5
          clear c5
          obtain rfl := Option.some.inj H
          go_wp2
          go_ret
          exact ⟨by first | rfl | (simp; done) | (simp [*]; done), by repeat (first | exact Drawn0.refl _ | apply Drawn0.step)⟩
        · rw [if_neg c5] at H
          have c5b0 : ((Go.bits .and .u64 (a0 / 4503599627370496) 2047) == 2047) = false := beq_eq_false_iff_ne.mpr c5
          have c5b1 : ((Go.bits .and .u64 (a0 / 4503599627370496) 2047) != 2047) = true := bne_iff_ne.mpr c5
          by_cases c6 : (Go.bits .and .u64 (a0 / 4503599627370496) 2047) = 0
          · rw [if_pos c6] at H
            have c6b0 : ((Go.bits .and .u64 (a0 / 4503599627370496) 2047) == 0) = true := beq_iff_eq.mpr c6
            have c6b1 : ((Go.bits .and .u64 (a0 / 4503599627370496) 2047) != 0) = false := bne_eq_false_iff_eq.mpr c6
            clear c6
            by_cases c7 : (Go.bits .and .u64 a0 4503599627370495) = 0
            · rw [if_pos c7] at H
              have c7b0 : ((Go.bits .and .u64 a0 4503599627370495) == 0) = true := beq_iff_eq.mpr c7
              have c7b1 : ((Go.bits .and .u64 a0 4503599627370495) != 0) = false := bne_eq_false_iff_eq.mpr c7
              clear c7
              obtain rfl := Option.some.inj H
              go_wp2
              go_ret
              exact ⟨by first | rfl | (simp; done) | (simp [*]; done), by repeat (first | exact Drawn0.refl _ | apply Drawn0.step)⟩
            · rw [if_neg c7] at H
              have c7b0 : ((Go.bits .and .u64 a0 4503599627370495) == 0) = false := beq_eq_false_iff_ne.mpr c7
              have c7b1 : ((Go.bits .and .u64 a0 4503599627370495) != 0) = true := bne_iff_ne.mpr c7
              obtain rfl := Option.some.inj H
              go_wp2
              go_ret
              exact ⟨by first | rfl | (simp; done) | (simp [*]; done), by repeat (first | exact Drawn0.refl _ | apply Drawn0.step)⟩
          · rw [if_neg c6] at H
            have c6b0 : ((Go.bits .and .u64 (a0 / 4503599627370496) 2047) == 0) = false := beq_eq_false_iff_ne.mpr c6
            have c6b1 : ((Go.bits .and .u64 (a0 / 4503599627370496) 2047) != 0) = true := bne_iff_ne.mpr c6
            obtain rfl := Option.some.inj H
            go_wp2
            go_ret
            exact ⟨by first | rfl | (simp; done) | (simp [*]; done), by repeat (first | exact Drawn0.refl _ | apply Drawn0.step)⟩
def fconv_up.f (a0 : Bool) (a1 : Bool) (a2 : Bool) (a3 : Int) (a4 : Int) : Option (Bool) := if a4 = 1 then (some a1) else (if a4 = 2 then (some false) else (if a4 = 3 then (some (!a0)) else (if a4 = 4 then (some a0) else (if a1 = true then (if a2 = true then (some true) else (some ((Go.bits .and .u64 a3 1) == 1))) else (some false)))))
set_option maxHeartbeats 8000000 in
set_option maxRecDepth 100000 in
theorem fconv_up.calls (a0 : Bool) (a1 : Bool) (a2 : Bool) (a3 : Int) (a4 : Int) (r : Bool) (w : World) (h : fconv_up.f a0 a1 a2 a3 a4 = some r) :
    Calls Try.prog 26 #[.bool a0, .bool a1, .bool a2, .int .u64 a3, .int .i64 a4] w fun e w' => e = .returned (.bool r) ∧ Drawn0 w w' := by
  have H : (if a4 = 1 then (some a1) else (if a4 = 2 then (some false) else (if a4 = 3 then (some (!a0)) else (if a4 = 4 then (some a0) else (if a1 = true then (if a2 = true then (some true) else (some ((Go.bits .and .u64 a3 1) == 1))) else (some false)))))) = some r := h
  clear h
  by_cases c6 : a4 = 1
  · rw [if_pos c6] at H
    have c6b0 : (a4 == 1) = true := beq_iff_eq.mpr c6
    have c6b1 : (a4 != 1) = false := bne_eq_false_iff_eq.mpr c6
    clear c6
    obtain rfl := Option.some.inj H
    go_enter Try.func26, Try.ntmps26
    go_wp2
    go_ret
    exact ⟨by first | rfl | (simp; done) | (simp [*]; done), by repeat (first | exact Drawn0.refl _ | apply Drawn0.step)⟩
  · rw [if_neg c6] at H
    have c6b0 : (a4 == 1) = false := beq_eq_false_iff_ne.mpr c6
    have c6b1 : (a4 != 1) = true := bne_iff_ne.mpr c6
    by_cases c7 : a4 = 2
    · rw [if_pos c7] at H
      have c7b0 : (a4 == 2) = true := beq_iff_eq.mpr c7
      have c7b1 : (a4 != 2) = false := bne_eq_false_iff_eq.mpr c7
      clear c7
      obtain rfl := Option.some.inj H
      go_enter Try.func26, Try.ntmps26
      go_wp2
      go_ret
      exact ⟨by first | rfl | (simp; done) | (simp [*]; done), by repeat (first | exact Drawn0.refl _ | apply Drawn0.step)⟩
    · rw [if_neg c7] at H
      have c7b0 : (a4 == 2) = false := beq_eq_false_iff_ne.mpr c7
      have c7b1 : (a4 != 2) = true := bne_iff_ne.mpr c7
      by_cases c8 : a4 = 3
      · rw [if_pos c8] at H
        have c8b0 : (a4 == 3) = true := beq_iff_eq.mpr c8
        have c8b1 : (a4 != 3) = false := bne_eq_false_iff_eq.mpr c8
        clear c8
        obtain rfl := Option.some.inj H
        go_enter Try.func26, Try.ntmps26
        go_wp2
        go_ret
        exact ⟨by first | rfl | (simp; done) | (simp [*]; done), by repeat (first | exact Drawn0.refl _ | apply Drawn0.step)⟩
      · rw [if_neg c8] at H
        have c8b0 : (a4 == 3) = false := beq_eq_false_iff_ne.mpr c8
        have c8b1 : (a4 != 3) = true := bne_iff_ne.mpr c8
        by_cases c9 : a4 = 4
        · rw [if_pos c9] at H
          have c9b0 : (a4 == 4) = true := beq_iff_eq.mpr c9
          have c9b1 : (a4 != 4) = false := bne_eq_false_iff_eq.mpr c9
          clear c9
          obtain rfl := Option.some.inj H
          go_enter Try.func26, Try.ntmps26
          go_wp2
          go_ret
          exact ⟨by first | rfl | (simp; done) | (simp [*]; done), by repeat (first | exact Drawn0.refl _ | apply Drawn0.step)⟩
        · rw [if_neg c9] at H
          have c9b0 : (a4 == 4) = false := beq_eq_false_iff_ne.mpr c9
          have c9b1 : (a4 != 4) = true := bne_iff_ne.mpr c9
          by_cases c10 : a1 = true
          · subst c10
            have H1 : (if a2 = true then (some true) else (some ((Go.bits .and .u64 a3 1) == 1))) = some r := by rw [if_pos rfl] at H; exact H
            clear H
            have H := H1
            clear H1
            by_cases c11 : a2 = true
            · subst c11
              have H1 : (some true) = some r := by rw [if_pos rfl] at H; exact H
              clear H
              have H := H1
              clear H1
              obtain rfl := Option.some.inj H
              go_enter Try.func26, Try.ntmps26
              go_wp2
              go_ret
              exact ⟨by first | rfl | (simp; done) | (simp [*]; done), by repeat (first | exact Drawn0.refl _ | apply Drawn0.step)⟩
            · replace c11 := Bool.eq_false_iff.mpr c11
              subst c11
              have H1 : (some ((Go.bits .and .u64 a3 1) == 1)) = some r := by rw [if_neg (show ¬ (false = true) by decide)] at H; exact H
              clear H
              have H := H1
              clear H1
              obtain rfl := Option.some.inj H
              go_enter Try.func26, Try.ntmps26
              go_wp2
              go_ret
              exact ⟨by first | rfl | (simp; done) | (simp [*]; done), by repeat (first | exact Drawn0.refl _ | apply Drawn0.step)⟩
          · replace c10 := Bool.eq_false_iff.mpr c10
            subst c10
            have H1 : (some false) = some r := by rw [if_neg (show ¬ (false = true) by decide)] at H; exact H
            clear H
            have H := H1
            clear H1
            obtain rfl := Option.some.inj H
            go_enter Try.func26, Try.ntmps26
            go_wp2
            go_ret
            exact ⟨by first | rfl | (simp; done) | (simp [*]; done), by repeat (first | exact Drawn0.refl _ | apply Drawn0.step)⟩
def fconv_near.j0 : Nat → Bool → Int → Int → Bool → Bool → Bool → Option (Int × Bool)
  | 0, _, _, _, _, _, _ => none
  | k + 1, x0, x3, x10, x11, x12, x36 => if x36 = true then (some (x10, false)) else ((fconv_up.f x0 x11 x12 x10 x3).bind fun t101 => (if t101 = true then (some (IntKind.u64.wrap (x10 + 1), true)) else (some (x10, true))))
def fconv_near.f (k : Nat) (a0 : Bool) (a1 : Int) (a2 : Int) (a3 : Int) : Option (Int × Bool) := if 0 ≤ (mn a2 63) then (if 0 ≤ (wrap64 ((mn a2 63) - 1)) then (if ((Go.bits .and .u64 (shr .u64 a1 (wrap64 ((mn a2 63) - 1))) 1) = 1) then (fconv_near.j0 k a0 a3 (a1 / 2 ^ (mn a2 63).toNat) ((Go.bits .and .u64 (shr .u64 a1 (wrap64 ((mn a2 63) - 1))) 1) == 1) ((Go.bits .and .u64 a1 (IntKind.u64.wrap ((shl .u64 1 (wrap64 ((mn a2 63) - 1))) - 1))) != 0) false) else (fconv_near.j0 k a0 a3 (a1 / 2 ^ (mn a2 63).toNat) ((Go.bits .and .u64 (shr .u64 a1 (wrap64 ((mn a2 63) - 1))) 1) == 1) ((Go.bits .and .u64 a1 (IntKind.u64.wrap ((shl .u64 1 (wrap64 ((mn a2 63) - 1))) - 1))) != 0) (!((Go.bits .and .u64 a1 (IntKind.u64.wrap ((shl .u64 1 (wrap64 ((mn a2 63) - 1))) - 1))) != 0)))) else (none)) else (none)
theorem fconv_near.mono_l : ∀ k, (∀ y0 y1 y2 y3 y4 y5, LeO (fconv_near.j0 k y0 y1 y2 y3 y4 y5) (fconv_near.j0 (k + 1) y0 y1 y2 y3 y4 y5))
  | 0 => fun _ _ _ _ _ _ r h => by simp [fconv_near.j0] at h
  | k + 1 => by
    have ih0 := fconv_near.mono_l k
    · intro y0 y1 y2 y3 y4 y5
      unfold fconv_near.j0
      repeat' first
      | (with_reducible exact ih0 _ _ _ _ _ _)
      | (with_reducible exact LeO.refl _)
      | (with_reducible exact LeO.none _)
      | (with_reducible refine LeO.ite ?_ ?_)
      | (with_reducible refine LeO.bind ?_ (fun _ => ?_))
      | exact ih0 _ _ _ _ _ _
      | exact LeO.none _
      | refine LeO.ite ?_ ?_
      | refine LeO.bind ?_ (fun _ => ?_)
theorem fconv_near.mono : ∀ a0 a1 a2 a3 k, LeO (fconv_near.f k a0 a1 a2 a3) (fconv_near.f (k + 1) a0 a1 a2 a3) := by
  intro a0 a1 a2 a3 k
  have ih0 := fconv_near.mono_l k
  unfold fconv_near.f
  repeat' first
      | (with_reducible exact ih0 _ _ _ _ _ _)
      | (with_reducible exact LeO.refl _)
      | (with_reducible exact LeO.none _)
      | (with_reducible refine LeO.ite ?_ ?_)
      | (with_reducible refine LeO.bind ?_ (fun _ => ?_))
      | exact ih0 _ _ _ _ _ _
      | exact LeO.none _
      | refine LeO.ite ?_ ?_
      | refine LeO.bind ?_ (fun _ => ?_)
set_option maxHeartbeats 8000000 in
set_option maxRecDepth 100000 in
theorem fconv_near.calls (k : Nat) (a0 : Bool) (a1 : Int) (a2 : Int) (a3 : Int) (r1 : Int) (r2 : Bool) (w : World) (h : fconv_near.f k a0 a1 a2 a3 = some (r1, r2)) :
    Calls Try.prog 16 #[.bool a0, .int .u64 a1, .int .i64 a2, .int .i64 a3] w fun e w' => e = .returned (.tuple #[.int .u64 r1, .bool r2]) ∧ Below w.heap.size w w' := by
  have HB := Aside0.mk (Below.refl w.heap.size w)
  have H : (if 0 ≤ (mn a2 63) then (if 0 ≤ (wrap64 ((mn a2 63) - 1)) then (if ((Go.bits .and .u64 (shr .u64 a1 (wrap64 ((mn a2 63) - 1))) 1) = 1) then (fconv_near.j0 k a0 a3 (a1 / 2 ^ (mn a2 63).toNat) ((Go.bits .and .u64 (shr .u64 a1 (wrap64 ((mn a2 63) - 1))) 1) == 1) ((Go.bits .and .u64 a1 (IntKind.u64.wrap ((shl .u64 1 (wrap64 ((mn a2 63) - 1))) - 1))) != 0) false) else (fconv_near.j0 k a0 a3 (a1 / 2 ^ (mn a2 63).toNat) ((Go.bits .and .u64 (shr .u64 a1 (wrap64 ((mn a2 63) - 1))) 1) == 1) ((Go.bits .and .u64 a1 (IntKind.u64.wrap ((shl .u64 1 (wrap64 ((mn a2 63) - 1))) - 1))) != 0) (!((Go.bits .and .u64 a1 (IntKind.u64.wrap ((shl .u64 1 (wrap64 ((mn a2 63) - 1))) - 1))) != 0)))) else (none)) else (none)) = some (r1, r2) := h
  clear h
  obtain ⟨ji5, hji5⟩ : ∃ j_ : Int, (mn a2 63) = j_ := ⟨_, rfl⟩
  replace H : (if 0 ≤ (ji5) then (if 0 ≤ (wrap64 ((ji5) - 1)) then (if ((Go.bits .and .u64 (shr .u64 a1 (wrap64 ((ji5) - 1))) 1) = 1) then (fconv_near.j0 k a0 a3 (a1 / 2 ^ (ji5).toNat) ((Go.bits .and .u64 (shr .u64 a1 (wrap64 ((ji5) - 1))) 1) == 1) ((Go.bits .and .u64 a1 (IntKind.u64.wrap ((shl .u64 1 (wrap64 ((ji5) - 1))) - 1))) != 0) false) else (fconv_near.j0 k a0 a3 (a1 / 2 ^ (ji5).toNat) ((Go.bits .and .u64 (shr .u64 a1 (wrap64 ((ji5) - 1))) 1) == 1) ((Go.bits .and .u64 a1 (IntKind.u64.wrap ((shl .u64 1 (wrap64 ((ji5) - 1))) - 1))) != 0) (!((Go.bits .and .u64 a1 (IntKind.u64.wrap ((shl .u64 1 (wrap64 ((ji5) - 1))) - 1))) != 0)))) else (none)) else (none)) = some (r1, r2) := by first | (rw [hji5] at H; exact H) | (simp only [hji5] at H ⊢; exact H)
  (try (have hji5h : ji5 ≤ 63 := by (rw [← hji5]; unfold mn; (repeat' split) <;> omega)))
  (try (have hji5g : ji5 ≤ 64 := by omega))
  have hji5_ : (if 63 < a2 then 63 else a2) = ji5 := hji5
  (try (have hji5n := hji5_; simp only [Int.ofNat_lt] at hji5n))
  by_cases c6 : 0 ≤ (ji5)
  · rw [if_pos c6] at H
    have c6b0 := eq_true c6
    have c6b1 : decide (0 ≤ (ji5)) = true := decide_eq_true c6
    clear c6
    obtain ⟨ji7, hji7⟩ : ∃ j_ : Int, (wrap64 ((ji5) - 1)) = j_ := ⟨_, rfl⟩
    replace H : (if 0 ≤ (ji7) then (if ((Go.bits .and .u64 (shr .u64 a1 (ji7)) 1) = 1) then (fconv_near.j0 k a0 a3 (a1 / 2 ^ (ji5).toNat) ((Go.bits .and .u64 (shr .u64 a1 (ji7)) 1) == 1) ((Go.bits .and .u64 a1 (IntKind.u64.wrap ((shl .u64 1 (ji7)) - 1))) != 0) false) else (fconv_near.j0 k a0 a3 (a1 / 2 ^ (ji5).toNat) ((Go.bits .and .u64 (shr .u64 a1 (ji7)) 1) == 1) ((Go.bits .and .u64 a1 (IntKind.u64.wrap ((shl .u64 1 (ji7)) - 1))) != 0) (!((Go.bits .and .u64 a1 (IntKind.u64.wrap ((shl .u64 1 (ji7)) - 1))) != 0)))) else (none)) = some (r1, r2) := by first | (rw [hji7] at H; exact H) | (simp only [hji7] at H ⊢; exact H)
    have hji7w : (IntKind.i64.wrap ((ji5) - 1)) = ji7 := (i64_w _).trans hji7
    by_cases c8 : 0 ≤ (ji7)
    · rw [if_pos c8] at H
      have c8b0 := eq_true c8
      have c8b1 : decide (0 ≤ (ji7)) = true := decide_eq_true c8
      clear c8
      obtain ⟨ji9, hji9⟩ : ∃ j_ : Int, (shr .u64 a1 (ji7)) = j_ := ⟨_, rfl⟩
      replace H : (if ((Go.bits .and .u64 (ji9) 1) = 1) then (fconv_near.j0 k a0 a3 (a1 / 2 ^ (ji5).toNat) ((Go.bits .and .u64 (ji9) 1) == 1) ((Go.bits .and .u64 a1 (IntKind.u64.wrap ((shl .u64 1 (ji7)) - 1))) != 0) false) else (fconv_near.j0 k a0 a3 (a1 / 2 ^ (ji5).toNat) ((Go.bits .and .u64 (ji9) 1) == 1) ((Go.bits .and .u64 a1 (IntKind.u64.wrap ((shl .u64 1 (ji7)) - 1))) != 0) (!((Go.bits .and .u64 a1 (IntKind.u64.wrap ((shl .u64 1 (ji7)) - 1))) != 0)))) = some (r1, r2) := by first | (rw [hji9] at H; exact H) | (simp only [hji9] at H ⊢; exact H)
      have hji9_ : (a1 / 2 ^ min (ji7).toNat 64) = ji9 := hji9
      have hji9z : (ji7) ≤ 64 → (a1 / 2 ^ (ji7).toNat) = ji9 := shr_small hji9
      have c10b0 := eq_true (of_decide_eq_true as_ : 0 ≤ (ji7))
      obtain ⟨ji11, hji11⟩ : ∃ j_ : Int, (shl .u64 1 (ji7)) = j_ := ⟨_, rfl⟩
      replace H : (if ((Go.bits .and .u64 (ji9) 1) = 1) then (fconv_near.j0 k a0 a3 (a1 / 2 ^ (ji5).toNat) ((Go.bits .and .u64 (ji9) 1) == 1) ((Go.bits .and .u64 a1 (IntKind.u64.wrap ((ji11) - 1))) != 0) false) else (fconv_near.j0 k a0 a3 (a1 / 2 ^ (ji5).toNat) ((Go.bits .and .u64 (ji9) 1) == 1) ((Go.bits .and .u64 a1 (IntKind.u64.wrap ((ji11) - 1))) != 0) (!((Go.bits .and .u64 a1 (IntKind.u64.wrap ((ji11) - 1))) != 0)))) = some (r1, r2) := by first | (rw [hji11] at H; exact H) | (simp only [hji11] at H ⊢; exact H)
      have hji11_ : (IntKind.u64.wrap (1 * 2 ^ min (ji7).toNat 64)) = ji11 := hji11
      have hji11z : (ji7) ≤ 64 → (IntKind.u64.wrap (1 * 2 ^ (ji7).toNat)) = ji11 := shl_small hji11
      have hji11u : (IntKind.u64.wrap (2 ^ min (ji7).toNat 64)) = ji11 := by have h_ := hji11_; rw [Int.one_mul] at h_; exact h_
      have hji11v : (ji7) ≤ 64 → (IntKind.u64.wrap (2 ^ (ji7).toNat)) = ji11 := fun hle_ => by have h_ := hji11z hle_; rw [Int.one_mul] at h_; exact h_
      have HC12 := Aside0.mk H
      clear H
      go_enter Try.func16, Try.ntmps16
      go_upto_region 5 with (fail)
      go_cut [36] (fun v36 wc => ∃ (kq : Nat) (x36_11 : Bool), v36 = .bool x36_11 ∧ Aside0 (fconv_near.j0 kq a0 a3 (a1 / 2 ^ (ji5).toNat) ((Go.bits .and .u64 (ji9) 1) == 1) ((Go.bits .and .u64 a1 (IntKind.u64.wrap ((ji11) - 1))) != 0) x36_11 = some (r1, r2)) ∧ Aside0 (kq ≤ k) ∧ Aside0 (Below w.heap.size w wc))
      case first =>
        have H := HC12.out
        clear HC12
        by_cases c13 : ((Go.bits .and .u64 (ji9) 1) = 1)
        · rw [if_pos c13] at H
          have c13b0 : ((Go.bits .and .u64 (ji9) 1) == 1) = true := beq_iff_eq.mpr c13
          have c13b1 : ((Go.bits .and .u64 (ji9) 1) != 1) = false := bne_eq_false_iff_eq.mpr c13
          clear c13
          (first | rw [c13b0] | (simp only [i64_w, i32_w]; rw [c13b0]) | skip)
          have H' := Aside0.mk H
          clear H
          go_wp2
          first | go_meet | (refine Met.intro ?_; go_step; (repeat apply Exists.intro); refine ⟨?rel, (by first | (rw [c13b1]; done) | (rw [c13b1]; rfl) | (rw [c13b0]; done) | (rw [c13b0]; rfl) | ((try rw [c13b0]); (try rw [c13b1]); done) | ((try rw [c13b0]); (try rw [c13b1]); rfl))⟩)
          case rel => exact ⟨_, (false), (by first | rfl | (simp; done) | (simp [*]; done)), H', ⟨by first | omega | exact Nat.le_refl _⟩, ⟨dn_ HB⟩⟩
        · rw [if_neg c13] at H
          have c13b0 : ((Go.bits .and .u64 (ji9) 1) == 1) = false := beq_eq_false_iff_ne.mpr c13
          have c13b1 : ((Go.bits .and .u64 (ji9) 1) != 1) = true := bne_iff_ne.mpr c13
          (first | rw [c13b0] | (simp only [i64_w, i32_w]; rw [c13b0]) | skip)
          have H' := Aside0.mk H
          clear H
          go_wp2
          first | go_meet | (refine Met.intro ?_; go_step; (repeat apply Exists.intro); refine ⟨?rel, (by first | (rw [c13b1]; done) | (rw [c13b1]; rfl) | (rw [c13b0]; done) | (rw [c13b0]; rfl) | ((try rw [c13b0]); (try rw [c13b1]); done) | ((try rw [c13b0]); (try rw [c13b1]); rfl))⟩)
          case rel => exact ⟨_, (!((Go.bits .and .u64 a1 (IntKind.u64.wrap ((ji11) - 1))) != 0)), (by first | rfl | (simp; done) | (simp only [← hji11] <;> (first | rfl | simp)) | (simp [*]; done)), H', ⟨by first | omega | exact Nat.le_refl _⟩, ⟨dn_ HB⟩⟩
      case rest =>
        clear HC12
        try clear c1
        try clear p2
        try clear c6
        try clear c6b0
        try clear c6b1
        try clear p6
        try clear c8
        try clear c8b0
        try clear c8b1
        try clear c10
        try clear c10b0
        try clear c13
        try clear c13b0
        try clear c13b1
        obtain ⟨kq, x36_11, rfl, HA, HJ11, HB⟩ := hcut
        cases kq with
        | zero => exact absurd HA.out (by simp [fconv_near.j0])
        | succ kj11 =>
          have H := HA.out
          clear HA
          simp only [fconv_near.j0] at H
          by_cases c14 : x36_11 = true
          · subst c14
            have H1 : (some ((a1 / 2 ^ (ji5).toNat), false)) = some (r1, r2) := by rw [if_pos rfl] at H; exact H
            clear H
            have H := H1
            clear H1
            simp only [Option.some.injEq, Prod.mk.injEq] at H
            obtain ⟨rfl, rfl⟩ := H
            go_wp2
            go_ret2
            exact ⟨by first | rfl | (simp [errW_none, errW_some] <;> rfl) | (simp only [← hji5, ← hji7, ← hji9, ← hji11]; first | rfl | (simp [errW_none, errW_some] <;> rfl)) | (simp [*, errW_none, errW_some] <;> rfl), dn_ HB⟩
          · replace c14 := Bool.eq_false_iff.mpr c14
            subst c14
            have H1 : ((fconv_up.f a0 ((Go.bits .and .u64 (ji9) 1) == 1) ((Go.bits .and .u64 a1 (IntKind.u64.wrap ((ji11) - 1))) != 0) (a1 / 2 ^ (ji5).toNat) a3).bind fun t101 => (if t101 = true then (some (IntKind.u64.wrap ((a1 / 2 ^ (ji5).toNat) + 1), true)) else (some ((a1 / 2 ^ (ji5).toNat), true)))) = some (r1, r2) := by rw [if_neg (show ¬ (false = true) by decide)] at H; exact H
            clear H
            have H := H1
            clear H1
            replace H := Option.bind_eq_some_iff.mp H
            obtain ⟨t101, A150, H⟩ := H
            replace H : (if t101 = true then (some (IntKind.u64.wrap ((a1 / 2 ^ (ji5).toNat) + 1), true)) else (some ((a1 / 2 ^ (ji5).toNat), true))) = some (r1, r2) := H
            have A15 := Aside0.mk A150
            clear A150
            by_cases c16 : t101 = true
            · subst c16
              have H1 : (some (IntKind.u64.wrap ((a1 / 2 ^ (ji5).toNat) + 1), true)) = some (r1, r2) := by rw [if_pos rfl] at H; exact H
              clear H
              have H := H1
              clear H1
              simp only [Option.some.injEq, Prod.mk.injEq] at H
              obtain ⟨rfl, rfl⟩ := H
              go_wp2_with (first | ((with_reducible refine gate_callee (f := 26) rfl ?_); refine goesL_ (some 43) rfl rfl Try.func26 (by kernel_rfl) rfl #[.bool a0, .bool ((Go.bits .and .u64 (ji9) 1) == 1), .bool ((Go.bits .and .u64 a1 (IntKind.u64.wrap ((ji11) - 1))) != 0), .int .u64 (a1 / 2 ^ (ji5).toNat), .int .i64 a3] rfl (by (try simp only [List.map_toArray, List.map_cons, List.map_nil]); first | done | (simp only [hji11, hji5, hji9]; rfl) | rfl | (simp only [List.length_drop, List.length_take]; rfl)) ?_; (with_reducible refine (fconv_up.calls a0 ((Go.bits .and .u64 (ji9) 1) == 1) ((Go.bits .and .u64 a1 (IntKind.u64.wrap ((ji11) - 1))) != 0) (a1 / 2 ^ (ji5).toNat) a3 true _ A15.out).mono ?_); rintro e w' ⟨rfl, ⟨nd, rfl⟩⟩; refine ⟨_, rfl, ?_⟩))
              go_ret2
              exact ⟨by first | rfl | (simp [errW_none, errW_some] <;> rfl) | (simp only [← hji5, ← hji7, ← hji9, ← hji11]; first | rfl | (simp [errW_none, errW_some] <;> rfl)) | (simp [*, errW_none, errW_some] <;> rfl), dn_ HB⟩
            · replace c16 := Bool.eq_false_iff.mpr c16
              subst c16
              have H1 : (some ((a1 / 2 ^ (ji5).toNat), true)) = some (r1, r2) := by rw [if_neg (show ¬ (false = true) by decide)] at H; exact H
              clear H
              have H := H1
              clear H1
              simp only [Option.some.injEq, Prod.mk.injEq] at H
              obtain ⟨rfl, rfl⟩ := H
              go_wp2_with (first | ((with_reducible refine gate_callee (f := 26) rfl ?_); refine goesL_ (some 43) rfl rfl Try.func26 (by kernel_rfl) rfl #[.bool a0, .bool ((Go.bits .and .u64 (ji9) 1) == 1), .bool ((Go.bits .and .u64 a1 (IntKind.u64.wrap ((ji11) - 1))) != 0), .int .u64 (a1 / 2 ^ (ji5).toNat), .int .i64 a3] rfl (by (try simp only [List.map_toArray, List.map_cons, List.map_nil]); first | done | (simp only [hji11, hji5, hji9]; rfl) | rfl | (simp only [List.length_drop, List.length_take]; rfl)) ?_; (with_reducible refine (fconv_up.calls a0 ((Go.bits .and .u64 (ji9) 1) == 1) ((Go.bits .and .u64 a1 (IntKind.u64.wrap ((ji11) - 1))) != 0) (a1 / 2 ^ (ji5).toNat) a3 false _ A15.out).mono ?_); rintro e w' ⟨rfl, ⟨nd, rfl⟩⟩; refine ⟨_, rfl, ?_⟩))
              go_ret2
              exact ⟨by first | rfl | (simp [errW_none, errW_some] <;> rfl) | (simp only [← hji5, ← hji7, ← hji9, ← hji11]; first | rfl | (simp [errW_none, errW_some] <;> rfl)) | (simp [*, errW_none, errW_some] <;> rfl), dn_ HB⟩
    · rw [if_neg c8] at H
      exact absurd H (by simp)
  · rw [if_neg c6] at H
    exact absurd H (by simp)
def parts_wide_len.f (a0_0 : Int) (a0_1 : Int) : Option (Int) := if a0_0 = 0 then ((bits_Len64.f a0_1).bind fun t103 => (some t103)) else ((bits_Len64.f a0_0).bind fun t104 => (some (wrap64 (64 + t104))))
set_option maxHeartbeats 8000000 in
set_option maxRecDepth 100000 in
theorem parts_wide_len.calls (a0_0 : Int) (a0_1 : Int) (r : Int) (w : World) (h : parts_wide_len.f a0_0 a0_1 = some r) :
    Calls Try.prog 27 #[.agg #[.int .u64 a0_0, .int .u64 a0_1]] w fun e w' => e = .returned (.int .i64 r) ∧ Below w.heap.size w w' := by
  have hu55 := Try.underlying55
  have HB := Aside0.mk (Below.refl w.heap.size w)
  have H : (if a0_0 = 0 then ((bits_Len64.f a0_1).bind fun t103 => (some t103)) else ((bits_Len64.f a0_0).bind fun t104 => (some (wrap64 (64 + t104))))) = some r := h
  clear h
  by_cases c2 : a0_0 = 0
  · rw [if_pos c2] at H
    have c2b0 : (a0_0 == 0) = true := beq_iff_eq.mpr c2
    have c2b1 : (a0_0 != 0) = false := bne_eq_false_iff_eq.mpr c2
    clear c2
    replace H := Option.bind_eq_some_iff.mp H
    obtain ⟨t103, A30, H⟩ := H
    replace H : (some t103) = some r := H
    have A3 := Aside0.mk A30
    clear A30
    obtain rfl := Option.some.inj H
    go_enter Try.func27, Try.ntmps27
    go_wp2_with (first | ((with_reducible refine gate_dst (N := 1) rfl ?_); refine box_event ?hg (N := 1) ?hd (cs := #[.int .u64 a0_0, .int .u64 a0_1]) (t := 55) ?hr ?_; (case hd => rfl); (case hg => rfl); (case hr => first | (go_simp; done) | (go_simp; rfl)); intro gb102 hg w4 hbox hb; have n0_ := Aside0.mk (below_step (dn_ HB) hb); have n1_ := Aside0.mk (hbox); have n2_ := Aside0.mk ((by rw [hg]; exact (below_size (dn_ HB)) : w.heap.size ≤ gb102)); have n3_ := Aside0.mk ((by rw [hg]; exact (below_size (dn_ HB)) : w.heap.size ≤ gb102)); clear HB; have HB := n0_; have BK102 := n1_; have GW102 := n2_; have GE102 := n3_; clear n0_ n1_ n2_ n3_; clear hb hbox hg; have hcz5_0 : w4.cell? ⟨gb102, 0, none⟩ = some (.int .u64 a0_0) := (blk_cell BK102.out 0).trans rfl; have hcz5_1 : w4.cell? ⟨gb102, 1, none⟩ = some (.int .u64 a0_1) := (blk_cell BK102.out 1).trans rfl; have hfz5_0 := blk_frozen BK102.out 0; have hfz5_1 := blk_frozen BK102.out 1) | ((with_reducible refine gate_callee (f := 34) rfl ?_); refine goesL_ (some 12) rfl rfl Try.func34 (by kernel_rfl) rfl #[.int .u64 a0_1] rfl ar_ ?_; (with_reducible refine (bits_Len64.calls a0_1 t103 _ A3.out).mono ?_); rintro e w' ⟨rfl, ⟨nd, rfl⟩⟩; refine ⟨_, rfl, ?_⟩))
    go_ret
    exact ⟨er_, by repeat (first | (with_reducible first | exact HB.out | apply below_alloc | apply pw_below_drewN | apply below_drew1 | refine below_set ?_ GE102.out) | exact HB.out)⟩
  · rw [if_neg c2] at H
    have c2b0 : (a0_0 == 0) = false := beq_eq_false_iff_ne.mpr c2
    have c2b1 : (a0_0 != 0) = true := bne_iff_ne.mpr c2
    replace H := Option.bind_eq_some_iff.mp H
    obtain ⟨t104, A60, H⟩ := H
    replace H : (some (wrap64 (64 + t104))) = some r := H
    have A6 := Aside0.mk A60
    clear A60
    obtain rfl := Option.some.inj H
    go_enter Try.func27, Try.ntmps27
    go_wp2_with (first | ((with_reducible refine gate_dst (N := 1) rfl ?_); refine box_event ?hg (N := 1) ?hd (cs := #[.int .u64 a0_0, .int .u64 a0_1]) (t := 55) ?hr ?_; (case hd => rfl); (case hg => rfl); (case hr => first | (go_simp; done) | (go_simp; rfl)); intro gb102 hg w7 hbox hb; have n0_ := Aside0.mk (below_step (dn_ HB) hb); have n1_ := Aside0.mk (hbox); have n2_ := Aside0.mk ((by rw [hg]; exact (below_size (dn_ HB)) : w.heap.size ≤ gb102)); have n3_ := Aside0.mk ((by rw [hg]; exact (below_size (dn_ HB)) : w.heap.size ≤ gb102)); clear HB; have HB := n0_; have BK102 := n1_; have GW102 := n2_; have GE102 := n3_; clear n0_ n1_ n2_ n3_; clear hb hbox hg; have hcz8_0 : w7.cell? ⟨gb102, 0, none⟩ = some (.int .u64 a0_0) := (blk_cell BK102.out 0).trans rfl; have hcz8_1 : w7.cell? ⟨gb102, 1, none⟩ = some (.int .u64 a0_1) := (blk_cell BK102.out 1).trans rfl; have hfz8_0 := blk_frozen BK102.out 0; have hfz8_1 := blk_frozen BK102.out 1) | ((with_reducible refine gate_callee (f := 34) rfl ?_); refine goesL_ (some 8) rfl rfl Try.func34 (by kernel_rfl) rfl #[.int .u64 a0_0] rfl ar_ ?_; (with_reducible refine (bits_Len64.calls a0_0 t104 _ A6.out).mono ?_); rintro e w' ⟨rfl, ⟨nd, rfl⟩⟩; refine ⟨_, rfl, ?_⟩))
    go_ret
    exact ⟨er_, by repeat (first | (with_reducible first | exact HB.out | apply below_alloc | apply pw_below_drewN | apply below_drew1 | refine below_set ?_ GE102.out) | exact HB.out)⟩
def parts_Zero.f (a0 : Bool) : Option (Int) := if a0 = true then (some 9223372036854775808) else (some 0)
set_option maxHeartbeats 8000000 in
set_option maxRecDepth 100000 in
theorem parts_Zero.calls (a0 : Bool) (r : Int) (w : World) (h : parts_Zero.f a0 = some r) :
    Calls Try.prog 28 #[.bool a0] w fun e w' => e = .returned (.int .u64 r) ∧ Drawn0 w w' := by
  have H : (if a0 = true then (some 9223372036854775808) else (some 0)) = some r := h
  clear h
  by_cases c2 : a0 = true
  · subst c2
    have H1 : (some 9223372036854775808) = some r := by rw [if_pos rfl] at H; exact H
    clear H
    have H := H1
    clear H1
    obtain rfl := Option.some.inj H
    go_enter Try.func28, Try.ntmps28
    go_wp2
    go_ret
    exact ⟨by first | rfl | (simp; done) | (simp [*]; done), by repeat (first | exact Drawn0.refl _ | apply Drawn0.step)⟩
  · replace c2 := Bool.eq_false_iff.mpr c2
    subst c2
    have H1 : (some 0) = some r := by rw [if_neg (show ¬ (false = true) by decide)] at H; exact H
    clear H
    have H := H1
    clear H1
    obtain rfl := Option.some.inj H
    go_enter Try.func28, Try.ntmps28
    go_wp2
    go_ret
    exact ⟨by first | rfl | (simp; done) | (simp [*]; done), by repeat (first | exact Drawn0.refl _ | apply Drawn0.step)⟩
def parts_wide_shr.f (a0_0 : Int) (a0_1 : Int) (a1 : Int) : Option (Int × Int) := if a1 ≥ 128 then (some (0, 0)) else (if a1 ≥ 64 then (if 0 ≤ (wrap64 (a1 - 64)) then (some (0, shr .u64 a0_0 (wrap64 (a1 - 64)))) else (none)) else (if a1 = 0 then (some (a0_0, a0_1)) else (if 0 ≤ a1 then (if 0 ≤ (wrap64 (64 - a1)) then (some (shr .u64 a0_0 a1, Go.bits .or .u64 (shr .u64 a0_1 a1) (shl .u64 a0_0 (wrap64 (64 - a1))))) else (none)) else (none))))
def parts_wide_shr.T7 : Bool × List (List Nat × List Nat) := (true, [([], []), ([0], [0]), ([], []), ([1, 2], [1, 2]), ([], []), ([4], [4]), ([], []), ([5, 6], [5, 6]), ([], []), ([8], [8]), ([], []), ([10], [10]), ([9, 11], [9, 11]), ([7, 12], [7, 12]), ([3, 13], [3, 13]), ([14, 0, 1, 2, 3, 4, 5, 6, 7, 8, 9, 10, 11, 12, 13, 14], [14])])
def parts_wide_shr.B7 : List Nat := [0, 1, 0, 7, 0, 16, 0, 112, 0, 256, 0, 1024, 3840, 8176, 16383, 32767]
theorem parts_wide_shr.tab7 : rtab .any (opsOf Try.f35 7) = parts_wide_shr.T7 := by kernel_rfl
theorem parts_wide_shr.bits7 : waitsOk parts_wide_shr.T7.2 parts_wide_shr.B7 = true := by kernel_rfl
set_option maxHeartbeats 8000000 in
set_option maxRecDepth 100000 in
theorem parts_wide_shr.calls (a0_0 : Int) (a0_1 : Int) (a1 : Int) (r1 : Int) (r2 : Int) (w : World) (h : parts_wide_shr.f a0_0 a0_1 a1 = some (r1, r2)) :
    Calls Try.prog 35 #[.agg #[.int .u64 a0_0, .int .u64 a0_1], .int .i64 a1] w fun e w' => e = .returned (.agg #[.int .u64 r1, .int .u64 r2]) ∧ Below w.heap.size w w' := by
  have hu55 := Try.underlying55
  have HB := Aside0.mk (Below.refl w.heap.size w)
  have H : (if a1 ≥ 128 then (some (0, 0)) else (if a1 ≥ 64 then (if 0 ≤ (wrap64 (a1 - 64)) then (some (0, shr .u64 a0_0 (wrap64 (a1 - 64)))) else (none)) else (if a1 = 0 then (some (a0_0, a0_1)) else (if 0 ≤ a1 then (if 0 ≤ (wrap64 (64 - a1)) then (some (shr .u64 a0_0 a1, Go.bits .or .u64 (shr .u64 a0_1 a1) (shl .u64 a0_0 (wrap64 (64 - a1))))) else (none)) else (none))))) = some (r1, r2) := h
  clear h
  by_cases c3 : a1 ≥ 128
  · rw [if_pos c3] at H
    have c3b0 : decide (128 ≤ a1) = true := decide_eq_true c3
    clear c3
    simp only [Option.some.injEq, Prod.mk.injEq] at H
    obtain ⟨rfl, rfl⟩ := H
    go_enter Try.func35, Try.ntmps35
    go_wp2_with (first | ((with_reducible refine gate_dst (N := 2) rfl ?_); refine box_event ?hg (N := 2) ?hd (cs := #[.int .u64 a0_0, .int .u64 a0_1]) (t := 55) ?hr ?_; (case hd => rfl); (case hg => rfl); (case hr => first | (go_simp; done) | (go_simp; rfl)); intro gb105 hg w4 hbox hb; have n0_ := Aside0.mk (below_step (dn_ HB) hb); have n1_ := Aside0.mk (hbox); have n2_ := Aside0.mk ((by rw [hg]; exact (below_size (dn_ HB)) : w.heap.size ≤ gb105)); have n3_ := Aside0.mk ((by rw [hg]; exact (below_size (dn_ HB)) : w.heap.size ≤ gb105)); clear HB; have HB := n0_; have BK105 := n1_; have GW105 := n2_; have GE105 := n3_; clear n0_ n1_ n2_ n3_; clear hb hbox hg) | ((with_reducible refine gate_dst (N := 4) rfl ?_); refine box_event ?hg (N := 4) ?hd (cs := #[.int .u64 0, .int .u64 0]) (t := 55) ?hr ?_; (case hd => rfl); (case hg => rfl); (case hr => first | (go_simp; done) | (go_simp; rfl)); intro gb106 hg w5 hbox hb; have n0_ := Aside0.mk (blk_below (g := gb105) (o := .cells #[.int .u64 a0_0, .int .u64 a0_1] 55 (0, 0)) (by (with_reducible repeat (first | refine blk_drewN ?_ _ | refine blk_drew ?_ | refine blk_alloc ?_ _)); exact BK105.out) hb); have n1_ := Aside0.mk (below_step (by repeat (first | (with_reducible first | exact HB.out | apply below_alloc | apply pw_below_drewN | apply below_drew1 | refine below_set ?_ GE105.out) | exact HB.out)) hb); have n2_ := Aside0.mk (hbox); have n3_ := Aside0.mk ((by rw [hg]; exact (below_size (by repeat (first | (with_reducible first | exact HB.out | apply below_alloc | apply pw_below_drewN | apply below_drew1 | refine below_set ?_ GE105.out) | exact HB.out))) : w.heap.size ≤ gb106)); have n4_ := Aside0.mk ((by rw [hg]; exact (below_size (by repeat (first | (with_reducible first | exact HB.out | apply below_alloc | apply pw_below_drewN | apply below_drew1 | refine below_set ?_ GE105.out) | exact HB.out))) : w.heap.size ≤ gb106)); have n5_ := Aside0.mk ((by rw [hg]; exact Nat.ne_of_lt (blk_lt (g := gb105) (o := .cells #[.int .u64 a0_0, .int .u64 a0_1] 55 (0, 0)) (by (with_reducible repeat (first | refine blk_drewN ?_ _ | refine blk_drew ?_ | refine blk_alloc ?_ _)); exact BK105.out)) : gb105 ≠ gb106)); have n6_ := Aside0.mk ((by rw [hg]; exact Nat.ne_of_gt (blk_lt (g := gb105) (o := .cells #[.int .u64 a0_0, .int .u64 a0_1] 55 (0, 0)) (by (with_reducible repeat (first | refine blk_drewN ?_ _ | refine blk_drew ?_ | refine blk_alloc ?_ _)); exact BK105.out)) : gb106 ≠ gb105)); clear BK105; clear HB; have BK105 := n0_; have HB := n1_; have BK106 := n2_; have GW106 := n3_; have GE106 := n4_; have NB105_106 := n5_; have NB106_105 := n6_; clear n0_ n1_ n2_ n3_ n4_ n5_ n6_; clear hb hbox hg; have hnb6 := NB106_105.out; have hnc6 := NB105_106.out; have hcz7_0 : w5.cell? ⟨gb106, 0, none⟩ = some (.int .u64 0) := (blk_cell BK106.out 0).trans rfl; have hcz7_1 : w5.cell? ⟨gb106, 1, none⟩ = some (.int .u64 0) := (blk_cell BK106.out 1).trans rfl; have hfz7_0 := blk_frozen BK106.out 0; have hfz7_1 := blk_frozen BK106.out 1))
    refine bodyPost_ret (results_cell_row rfl _ _ gb106 55 #[.int .u64 0, .int .u64 0] (0, 0) _ rfl (by (with_reducible repeat (first | refine blk_drewN ?_ _ | refine blk_drew ?_ | refine blk_alloc ?_ _)); refine blk_put (cs := #[.int .u64 0, .int .u64 0]) ?_ 1 _ rfl; (with_reducible repeat (first | refine blk_drewN ?_ _ | refine blk_drew ?_ | refine blk_alloc ?_ _)); refine blk_put (cs := #[.int .u64 0, .int .u64 0]) ?_ 0 _ rfl; (with_reducible repeat (first | refine blk_drewN ?_ _ | refine blk_drew ?_ | refine blk_alloc ?_ _)); exact BK106.out) Try.underlying55 rfl (by kernel_rfl)) rfl ?_
    exact ⟨er_, by repeat (first | (with_reducible first | exact HB.out | apply below_alloc | apply pw_below_drewN | apply below_drew1 | refine below_set ?_ GE105.out | refine below_set ?_ GE106.out) | exact HB.out)⟩
  · rw [if_neg c3] at H
    have c3b0 : decide (128 ≤ a1) = false := decide_eq_false c3
    clear c3
    by_cases c8 : a1 ≥ 64
    · rw [if_pos c8] at H
      have c8b0 : decide (64 ≤ a1) = true := decide_eq_true c8
      clear c8
      obtain ⟨ji9, hji9⟩ : ∃ j_ : Int, (wrap64 (a1 - 64)) = j_ := ⟨_, rfl⟩
      replace H : (if 0 ≤ (ji9) then (some (0, shr .u64 a0_0 (ji9))) else (none)) = some (r1, r2) := by first | (rw [hji9] at H; exact H) | (simp only [hji9] at H ⊢; exact H)
      have hji9w : (IntKind.i64.wrap (a1 - 64)) = ji9 := (i64_w _).trans hji9
      by_cases c10 : 0 ≤ (ji9)
      · rw [if_pos c10] at H
        have c10b0 := eq_true c10
        have c10b1 : decide (0 ≤ (ji9)) = true := decide_eq_true c10
        clear c10
        obtain ⟨ji11, hji11⟩ : ∃ j_ : Int, (shr .u64 a0_0 (ji9)) = j_ := ⟨_, rfl⟩
        replace H : (some (0, ji11)) = some (r1, r2) := by first | (rw [hji11] at H; exact H) | (simp only [hji11] at H ⊢; exact H)
        have hji11_ : (a0_0 / 2 ^ min (ji9).toNat 64) = ji11 := hji11
        have hji11z : (ji9) ≤ 64 → (a0_0 / 2 ^ (ji9).toNat) = ji11 := shr_small hji11
        simp only [Option.some.injEq, Prod.mk.injEq] at H
        obtain ⟨rfl, rfl⟩ := H
        go_enter Try.func35, Try.ntmps35
        go_wp2_with (first | ((with_reducible refine gate_dst (N := 2) rfl ?_); refine box_event ?hg (N := 2) ?hd (cs := #[.int .u64 a0_0, .int .u64 a0_1]) (t := 55) ?hr ?_; (case hd => rfl); (case hg => rfl); (case hr => first | (go_simp; done) | (go_simp; rfl)); intro gb105 hg w12 hbox hb; have n0_ := Aside0.mk (below_step (dn_ HB) hb); have n1_ := Aside0.mk (hbox); have n2_ := Aside0.mk ((by rw [hg]; exact (below_size (dn_ HB)) : w.heap.size ≤ gb105)); have n3_ := Aside0.mk ((by rw [hg]; exact (below_size (dn_ HB)) : w.heap.size ≤ gb105)); clear HB; have HB := n0_; have BK105 := n1_; have GW105 := n2_; have GE105 := n3_; clear n0_ n1_ n2_ n3_; clear hb hbox hg) | ((with_reducible refine gate_dst (N := 4) rfl ?_); refine box_event ?hg (N := 4) ?hd (cs := #[.int .u64 0, .int .u64 0]) (t := 55) ?hr ?_; (case hd => rfl); (case hg => rfl); (case hr => first | (go_simp; done) | (go_simp; rfl)); intro gb106 hg w13 hbox hb; have n0_ := Aside0.mk (blk_below (g := gb105) (o := .cells #[.int .u64 a0_0, .int .u64 a0_1] 55 (0, 0)) (by (with_reducible repeat (first | refine blk_drewN ?_ _ | refine blk_drew ?_ | refine blk_alloc ?_ _)); exact BK105.out) hb); have n1_ := Aside0.mk (below_step (by repeat (first | (with_reducible first | exact HB.out | apply below_alloc | apply pw_below_drewN | apply below_drew1 | refine below_set ?_ GE105.out) | exact HB.out)) hb); have n2_ := Aside0.mk (hbox); have n3_ := Aside0.mk ((by rw [hg]; exact (below_size (by repeat (first | (with_reducible first | exact HB.out | apply below_alloc | apply pw_below_drewN | apply below_drew1 | refine below_set ?_ GE105.out) | exact HB.out))) : w.heap.size ≤ gb106)); have n4_ := Aside0.mk ((by rw [hg]; exact (below_size (by repeat (first | (with_reducible first | exact HB.out | apply below_alloc | apply pw_below_drewN | apply below_drew1 | refine below_set ?_ GE105.out) | exact HB.out))) : w.heap.size ≤ gb106)); have n5_ := Aside0.mk ((by rw [hg]; exact Nat.ne_of_lt (blk_lt (g := gb105) (o := .cells #[.int .u64 a0_0, .int .u64 a0_1] 55 (0, 0)) (by (with_reducible repeat (first | refine blk_drewN ?_ _ | refine blk_drew ?_ | refine blk_alloc ?_ _)); exact BK105.out)) : gb105 ≠ gb106)); have n6_ := Aside0.mk ((by rw [hg]; exact Nat.ne_of_gt (blk_lt (g := gb105) (o := .cells #[.int .u64 a0_0, .int .u64 a0_1] 55 (0, 0)) (by (with_reducible repeat (first | refine blk_drewN ?_ _ | refine blk_drew ?_ | refine blk_alloc ?_ _)); exact BK105.out)) : gb106 ≠ gb105)); clear BK105; clear HB; have BK105 := n0_; have HB := n1_; have BK106 := n2_; have GW106 := n3_; have GE106 := n4_; have NB105_106 := n5_; have NB106_105 := n6_; clear n0_ n1_ n2_ n3_ n4_ n5_ n6_; clear hb hbox hg; have hnb14 := NB105_106.out; have hnc14 := NB106_105.out; have hcz15_0 : w13.cell? ⟨gb105, 0, none⟩ = some (.int .u64 a0_0) := (blk_cell BK105.out 0).trans rfl; have hcz15_1 : w13.cell? ⟨gb105, 1, none⟩ = some (.int .u64 a0_1) := (blk_cell BK105.out 1).trans rfl; have hfz15_0 := blk_frozen BK105.out 0; have hfz15_1 := blk_frozen BK105.out 1; have hcz16_0 : w13.cell? ⟨gb106, 0, none⟩ = some (.int .u64 0) := (blk_cell BK106.out 0).trans rfl; have hcz16_1 : w13.cell? ⟨gb106, 1, none⟩ = some (.int .u64 0) := (blk_cell BK106.out 1).trans rfl; have hfz16_0 := blk_frozen BK106.out 0; have hfz16_1 := blk_frozen BK106.out 1))
        refine bodyPost_ret (results_cell_row rfl _ _ gb106 55 #[.int .u64 0, .int .u64 ji11] (0, 0) _ rfl (by (with_reducible repeat (first | refine blk_drewN ?_ _ | refine blk_drew ?_ | refine blk_alloc ?_ _)); refine blk_put (cs := #[.int .u64 0, .int .u64 0]) ?_ 1 _ rfl; (with_reducible repeat (first | refine blk_drewN ?_ _ | refine blk_drew ?_ | refine blk_alloc ?_ _)); refine blk_put (cs := #[.int .u64 0, .int .u64 0]) ?_ 0 _ rfl; (with_reducible repeat (first | refine blk_drewN ?_ _ | refine blk_drew ?_ | refine blk_alloc ?_ _)); exact BK106.out) Try.underlying55 rfl (by kernel_rfl)) rfl ?_
        exact ⟨by first | rfl | (simp [errW_none, errW_some] <;> rfl) | (simp only [← hji9, ← hji11]; first | rfl | (simp [errW_none, errW_some] <;> rfl)) | (simp [*, errW_none, errW_some] <;> rfl), by repeat (first | (with_reducible first | exact HB.out | apply below_alloc | apply pw_below_drewN | apply below_drew1 | refine below_set ?_ GE105.out | refine below_set ?_ GE106.out) | exact HB.out)⟩
      · rw [if_neg c10] at H
        exact absurd H (by simp)
    · rw [if_neg c8] at H
      have c8b0 : decide (64 ≤ a1) = false := decide_eq_false c8
      clear c8
      by_cases c17 : a1 = 0
      · rw [if_pos c17] at H
        have c17b0 : (a1 == 0) = true := beq_iff_eq.mpr c17
        have c17b1 : (a1 != 0) = false := bne_eq_false_iff_eq.mpr c17
        clear c17
        simp only [Option.some.injEq, Prod.mk.injEq] at H
        obtain ⟨rfl, rfl⟩ := H
        go_enter Try.func35, Try.ntmps35
        go_wp2_with (first | ((with_reducible refine gate_dst (N := 2) rfl ?_); refine box_event ?hg (N := 2) ?hd (cs := #[.int .u64 a0_0, .int .u64 a0_1]) (t := 55) ?hr ?_; (case hd => rfl); (case hg => rfl); (case hr => first | (go_simp; done) | (go_simp; rfl)); intro gb105 hg w18 hbox hb; have n0_ := Aside0.mk (below_step (dn_ HB) hb); have n1_ := Aside0.mk (hbox); have n2_ := Aside0.mk ((by rw [hg]; exact (below_size (dn_ HB)) : w.heap.size ≤ gb105)); have n3_ := Aside0.mk ((by rw [hg]; exact (below_size (dn_ HB)) : w.heap.size ≤ gb105)); clear HB; have HB := n0_; have BK105 := n1_; have GW105 := n2_; have GE105 := n3_; clear n0_ n1_ n2_ n3_; clear hb hbox hg) | ((with_reducible refine gate_dst (N := 4) rfl ?_); refine box_event ?hg (N := 4) ?hd (cs := #[.int .u64 0, .int .u64 0]) (t := 55) ?hr ?_; (case hd => rfl); (case hg => rfl); (case hr => first | (go_simp; done) | (go_simp; rfl)); intro gb106 hg w19 hbox hb; have n0_ := Aside0.mk (blk_below (g := gb105) (o := .cells #[.int .u64 a0_0, .int .u64 a0_1] 55 (0, 0)) (by (with_reducible repeat (first | refine blk_drewN ?_ _ | refine blk_drew ?_ | refine blk_alloc ?_ _)); exact BK105.out) hb); have n1_ := Aside0.mk (below_step (by repeat (first | (with_reducible first | exact HB.out | apply below_alloc | apply pw_below_drewN | apply below_drew1 | refine below_set ?_ GE105.out) | exact HB.out)) hb); have n2_ := Aside0.mk (hbox); have n3_ := Aside0.mk ((by rw [hg]; exact (below_size (by repeat (first | (with_reducible first | exact HB.out | apply below_alloc | apply pw_below_drewN | apply below_drew1 | refine below_set ?_ GE105.out) | exact HB.out))) : w.heap.size ≤ gb106)); have n4_ := Aside0.mk ((by rw [hg]; exact (below_size (by repeat (first | (with_reducible first | exact HB.out | apply below_alloc | apply pw_below_drewN | apply below_drew1 | refine below_set ?_ GE105.out) | exact HB.out))) : w.heap.size ≤ gb106)); have n5_ := Aside0.mk ((by rw [hg]; exact Nat.ne_of_lt (blk_lt (g := gb105) (o := .cells #[.int .u64 a0_0, .int .u64 a0_1] 55 (0, 0)) (by (with_reducible repeat (first | refine blk_drewN ?_ _ | refine blk_drew ?_ | refine blk_alloc ?_ _)); exact BK105.out)) : gb105 ≠ gb106)); have n6_ := Aside0.mk ((by rw [hg]; exact Nat.ne_of_gt (blk_lt (g := gb105) (o := .cells #[.int .u64 a0_0, .int .u64 a0_1] 55 (0, 0)) (by (with_reducible repeat (first | refine blk_drewN ?_ _ | refine blk_drew ?_ | refine blk_alloc ?_ _)); exact BK105.out)) : gb106 ≠ gb105)); clear BK105; clear HB; have BK105 := n0_; have HB := n1_; have BK106 := n2_; have GW106 := n3_; have GE106 := n4_; have NB105_106 := n5_; have NB106_105 := n6_; clear n0_ n1_ n2_ n3_ n4_ n5_ n6_; clear hb hbox hg; have hnb20 := NB105_106.out; have hnc20 := NB106_105.out; have hcz21_0 : w19.cell? ⟨gb105, 0, none⟩ = some (.int .u64 a0_0) := (blk_cell BK105.out 0).trans rfl; have hcz21_1 : w19.cell? ⟨gb105, 1, none⟩ = some (.int .u64 a0_1) := (blk_cell BK105.out 1).trans rfl; have hfz21_0 := blk_frozen BK105.out 0; have hfz21_1 := blk_frozen BK105.out 1; have hcz22_0 : w19.cell? ⟨gb106, 0, none⟩ = some (.int .u64 0) := (blk_cell BK106.out 0).trans rfl; have hcz22_1 : w19.cell? ⟨gb106, 1, none⟩ = some (.int .u64 0) := (blk_cell BK106.out 1).trans rfl; have hfz22_0 := blk_frozen BK106.out 0; have hfz22_1 := blk_frozen BK106.out 1))
        refine bodyPost_ret (results_cell_row rfl _ _ gb106 55 #[.int .u64 a0_0, .int .u64 a0_1] (0, 0) _ rfl (by (with_reducible repeat (first | refine blk_drewN ?_ _ | refine blk_drew ?_ | refine blk_alloc ?_ _)); refine blk_put (cs := #[.int .u64 a0_0, .int .u64 0]) ?_ 1 _ rfl; (with_reducible repeat (first | refine blk_drewN ?_ _ | refine blk_drew ?_ | refine blk_alloc ?_ _)); refine blk_put (cs := #[.int .u64 0, .int .u64 0]) ?_ 0 _ rfl; (with_reducible repeat (first | refine blk_drewN ?_ _ | refine blk_drew ?_ | refine blk_alloc ?_ _)); exact BK106.out) Try.underlying55 rfl (by kernel_rfl)) rfl ?_
        exact ⟨er_, by repeat (first | (with_reducible first | exact HB.out | apply below_alloc | apply pw_below_drewN | apply below_drew1 | refine below_set ?_ GE105.out | refine below_set ?_ GE106.out) | exact HB.out)⟩
      · rw [if_neg c17] at H
        have c17b0 : (a1 == 0) = false := beq_eq_false_iff_ne.mpr c17
        have c17b1 : (a1 != 0) = true := bne_iff_ne.mpr c17
        by_cases c23 : 0 ≤ a1
        · rw [if_pos c23] at H
          have c23b0 := eq_true c23
          have c23b1 : decide (0 ≤ a1) = true := decide_eq_true c23
          clear c23
          obtain ⟨ji24, hji24⟩ : ∃ j_ : Int, (shr .u64 a0_0 a1) = j_ := ⟨_, rfl⟩
          replace H : (if 0 ≤ (wrap64 (64 - a1)) then (some (ji24, Go.bits .or .u64 (shr .u64 a0_1 a1) (shl .u64 a0_0 (wrap64 (64 - a1))))) else (none)) = some (r1, r2) := by first | (rw [hji24] at H; exact H) | (simp only [hji24] at H ⊢; exact H)
          have hji24_ : (a0_0 / 2 ^ min a1.toNat 64) = ji24 := hji24
          have hji24z : a1 ≤ 64 → (a0_0 / 2 ^ a1.toNat) = ji24 := shr_small hji24
          have c25b0 := eq_true (of_decide_eq_true as_ : 0 ≤ a1)
          obtain ⟨ji26, hji26⟩ : ∃ j_ : Int, (shr .u64 a0_1 a1) = j_ := ⟨_, rfl⟩
          replace H : (if 0 ≤ (wrap64 (64 - a1)) then (some (ji24, Go.bits .or .u64 (ji26) (shl .u64 a0_0 (wrap64 (64 - a1))))) else (none)) = some (r1, r2) := by first | (rw [hji26] at H; exact H) | (simp only [hji26] at H ⊢; exact H)
          have hji26_ : (a0_1 / 2 ^ min a1.toNat 64) = ji26 := hji26
          have hji26z : a1 ≤ 64 → (a0_1 / 2 ^ a1.toNat) = ji26 := shr_small hji26
          obtain ⟨ji27, hji27⟩ : ∃ j_ : Int, (wrap64 (64 - a1)) = j_ := ⟨_, rfl⟩
          replace H : (if 0 ≤ (ji27) then (some (ji24, Go.bits .or .u64 (ji26) (shl .u64 a0_0 (ji27)))) else (none)) = some (r1, r2) := by first | (rw [hji27] at H; exact H) | (simp only [hji27] at H ⊢; exact H)
          have hji27w : (IntKind.i64.wrap (64 - a1)) = ji27 := (i64_w _).trans hji27
          by_cases c28 : 0 ≤ (ji27)
          · rw [if_pos c28] at H
            have c28b0 := eq_true c28
            have c28b1 : decide (0 ≤ (ji27)) = true := decide_eq_true c28
            clear c28
            obtain ⟨ji29, hji29⟩ : ∃ j_ : Int, (shl .u64 a0_0 (ji27)) = j_ := ⟨_, rfl⟩
            replace H : (some (ji24, Go.bits .or .u64 (ji26) (ji29))) = some (r1, r2) := by first | (rw [hji29] at H; exact H) | (simp only [hji29] at H ⊢; exact H)
            have hji29_ : (IntKind.u64.wrap (a0_0 * 2 ^ min (ji27).toNat 64)) = ji29 := hji29
            have hji29z : (ji27) ≤ 64 → (IntKind.u64.wrap (a0_0 * 2 ^ (ji27).toNat)) = ji29 := shl_small hji29
            simp only [Option.some.injEq, Prod.mk.injEq] at H
            obtain ⟨rfl, rfl⟩ := H
            go_enter Try.func35, Try.ntmps35
            try go_wp2_with (first | ((with_reducible refine gate_dst (N := 2) rfl ?_); refine box_event ?hg (N := 2) ?hd (cs := #[.int .u64 a0_0, .int .u64 a0_1]) (t := 55) ?hr ?_; (case hd => rfl); (case hg => rfl); (case hr => first | (go_simp; done) | (go_simp; rfl)); intro gb105 hg w30 hbox hb; have n0_ := Aside0.mk (below_step (dn_ HB) hb); have n1_ := Aside0.mk (hbox); have n2_ := Aside0.mk ((by rw [hg]; exact (below_size (dn_ HB)) : w.heap.size ≤ gb105)); have n3_ := Aside0.mk ((by rw [hg]; exact (below_size (dn_ HB)) : w.heap.size ≤ gb105)); clear HB; have HB := n0_; have BK105 := n1_; have GW105 := n2_; have GE105 := n3_; clear n0_ n1_ n2_ n3_; clear hb hbox hg) | ((with_reducible refine gate_dst (N := 4) rfl ?_); refine box_event ?hg (N := 4) ?hd (cs := #[.int .u64 0, .int .u64 0]) (t := 55) ?hr ?_; (case hd => rfl); (case hg => rfl); (case hr => first | (go_simp; done) | (go_simp; rfl)); intro gb106 hg w31 hbox hb; have n0_ := Aside0.mk (blk_below (g := gb105) (o := .cells #[.int .u64 a0_0, .int .u64 a0_1] 55 (0, 0)) (by (with_reducible repeat (first | refine blk_drewN ?_ _ | refine blk_drew ?_ | refine blk_alloc ?_ _)); exact BK105.out) hb); have n1_ := Aside0.mk (below_step (by repeat (first | (with_reducible first | exact HB.out | apply below_alloc | apply pw_below_drewN | apply below_drew1 | refine below_set ?_ GE105.out) | exact HB.out)) hb); have n2_ := Aside0.mk (hbox); have n3_ := Aside0.mk ((by rw [hg]; exact (below_size (by repeat (first | (with_reducible first | exact HB.out | apply below_alloc | apply pw_below_drewN | apply below_drew1 | refine below_set ?_ GE105.out) | exact HB.out))) : w.heap.size ≤ gb106)); have n4_ := Aside0.mk ((by rw [hg]; exact (below_size (by repeat (first | (with_reducible first | exact HB.out | apply below_alloc | apply pw_below_drewN | apply below_drew1 | refine below_set ?_ GE105.out) | exact HB.out))) : w.heap.size ≤ gb106)); have n5_ := Aside0.mk ((by rw [hg]; exact Nat.ne_of_lt (blk_lt (g := gb105) (o := .cells #[.int .u64 a0_0, .int .u64 a0_1] 55 (0, 0)) (by (with_reducible repeat (first | refine blk_drewN ?_ _ | refine blk_drew ?_ | refine blk_alloc ?_ _)); exact BK105.out)) : gb105 ≠ gb106)); have n6_ := Aside0.mk ((by rw [hg]; exact Nat.ne_of_gt (blk_lt (g := gb105) (o := .cells #[.int .u64 a0_0, .int .u64 a0_1] 55 (0, 0)) (by (with_reducible repeat (first | refine blk_drewN ?_ _ | refine blk_drew ?_ | refine blk_alloc ?_ _)); exact BK105.out)) : gb106 ≠ gb105)); clear BK105; clear HB; have BK105 := n0_; have HB := n1_; have BK106 := n2_; have GW106 := n3_; have GE106 := n4_; have NB105_106 := n5_; have NB106_105 := n6_; clear n0_ n1_ n2_ n3_ n4_ n5_ n6_; clear hb hbox hg))
            have n0_ := Aside0.mk (blk_drew BK105.out)
            have n1_ := Aside0.mk (blk_drew BK106.out)
            have n2_ := Aside0.mk (below_drew1 HB.out)
            clear BK105
            clear BK106
            clear HB
            have BK105 := n0_
            have BK106 := n1_
            have HB := n2_
            clear n0_ n1_ n2_
            refine start_ (n := 16) (S := fun w' => w'.cell? ⟨gb105, 0, none⟩ = some (.int .u64 a0_0) ∧ w'.cell? ⟨gb105, 1, none⟩ = some (.int .u64 a0_1)) (ds := []) #[false, false, false, false, false, false, false, false, false, false, false, false, false, false, false, false] (by kernel_rfl) rfl rfl ⟨(blk_cell BK105.out 0).trans rfl, (blk_cell BK105.out 1).trans rfl⟩ (fun hHeld => ?_); refine with_tabW parts_wide_shr.tab7 parts_wide_shr.bits7 (fun HT_ HW_ => ?_)
            generalize w31.drew = w32 at BK105 BK106 HB hHeld ⊢
            refine pure_ (i := 0) (N := some 22) (v := ?_) (a' := ?_) #[true, false, false, false, false, false, false, false, false, false, false, false, false, false, false, false] rfl rfl (any_of HT_.out (by kernel_rfl)) (fun _ _ _ h => h) (Or.inl ⟨by rfl, ?_⟩) ?_ ?_
            rotate_left
            · intro w'
              go_simp
              with_reducible rfl
            rotate_left
            · simp only [Act.put, List.setIfInBounds_toArray, List.set_cons_zero, List.set_cons_succ, i64_w, i32_w]
              rfl
            refine pure_ (i := 2) (N := some 24) (v := ?_) (a' := ?_) #[true, false, true, false, false, false, false, false, false, false, false, false, false, false, false, false] rfl rfl (any_of HT_.out (by kernel_rfl)) (fun _ _ _ h => h) (Or.inl ⟨by rfl, ?_⟩) ?_ ?_
            rotate_left
            · intro w'
              go_simp
              with_reducible rfl
            rotate_left
            · simp only [Act.put, List.setIfInBounds_toArray, List.set_cons_zero, List.set_cons_succ, i64_w, i32_w]
              rfl
            refine pure_ (i := 4) (N := some 26) (v := ?_) (a' := ?_) #[true, false, true, false, true, false, false, false, false, false, false, false, false, false, false, false] rfl rfl (any_of HT_.out (by kernel_rfl)) (fun _ _ _ h => h) (Or.inl ⟨by rfl, ?_⟩) ?_ ?_
            rotate_left
            · intro w'
              go_simp
              with_reducible rfl
            rotate_left
            · simp only [Act.put, List.setIfInBounds_toArray, List.set_cons_zero, List.set_cons_succ, i64_w, i32_w]
              rfl
            refine pure_ (i := 6) (N := some 28) (v := ?_) (a' := ?_) #[true, false, true, false, true, false, true, false, false, false, false, false, false, false, false, false] rfl rfl (any_of HT_.out (by kernel_rfl)) (fun _ _ _ h => h) (Or.inl ⟨by rfl, ?_⟩) ?_ ?_
            rotate_left
            · intro w'
              go_simp
              with_reducible rfl
            rotate_left
            · simp only [Act.put, List.setIfInBounds_toArray, List.set_cons_zero, List.set_cons_succ, i64_w, i32_w]
              rfl
            refine pure_ (i := 8) (N := some 30) (v := ?_) (a' := ?_) #[true, false, true, false, true, false, true, false, true, false, false, false, false, false, false, false] rfl rfl (any_of HT_.out (by kernel_rfl)) (fun _ _ _ h => h) (Or.inl ⟨by rfl, ?_⟩) ?_ ?_
            rotate_left
            · intro w'
              go_simp
              with_reducible rfl
            rotate_left
            · simp only [Act.put, List.setIfInBounds_toArray, List.set_cons_zero, List.set_cons_succ, i64_w, i32_w]
              rfl
            refine pure_ (i := 10) (N := some 32) (v := ?_) (a' := ?_) #[true, false, true, false, true, false, true, false, true, false, true, false, false, false, false, false] rfl rfl (any_of HT_.out (by kernel_rfl)) (fun _ _ _ h => h) (Or.inl ⟨by rfl, ?_⟩) ?_ ?_
            rotate_left
            · intro w'
              go_simp
              with_reducible rfl
            rotate_left
            · simp only [Act.put, List.setIfInBounds_toArray, List.set_cons_zero, List.set_cons_succ, i64_w, i32_w]
              rfl
            refine pure_ (i := 11) (N := some 33) (v := ?_) (a' := ?_) #[true, false, true, false, true, false, true, false, true, false, true, true, false, false, false, false] rfl rfl (any_of HT_.out (by kernel_rfl)) (fun _ _ _ h => h) (Or.inl ⟨by rfl, ?_⟩) ?_ ?_
            rotate_left
            · intro w'
              go_simp
              with_reducible rfl
            rotate_left
            · simp only [Act.put, List.setIfInBounds_toArray, List.set_cons_zero, List.set_cons_succ, i64_w, i32_w]
              rfl
            refine take_ (i := 1) (N := some 23) (v := ?_) (a' := ?_) #[true, true, true, false, true, false, true, false, true, false, true, true, false, false, false, false] rfl rfl (take_ofW HT_.out HW_.out (by kernel_rfl)) (fun _ _ _ h => h) (Or.inl ⟨by rfl, ?_⟩) hHeld ?_ ?_
            rotate_left
            · rintro w' ⟨s0, s1⟩
              go_simp
              with_reducible rfl
            rotate_left
            · simp only [Act.put, List.setIfInBounds_toArray, List.set_cons_zero, List.set_cons_succ, i64_w, i32_w]
              rfl
            refine pure_ (i := 3) (N := some 25) (v := ?_) (a' := ?_) #[true, true, true, true, true, false, true, false, true, false, true, true, false, false, false, false] rfl rfl (any_of HT_.out (by kernel_rfl)) (fun _ _ _ h => h) (Or.inl ⟨by rfl, ?_⟩) ?_ ?_
            rotate_left
            · intro w'
              go_simp
              with_reducible rfl
            rotate_left
            · simp only [Act.put, List.setIfInBounds_toArray, List.set_cons_zero, List.set_cons_succ, i64_w, i32_w]
              rfl
            refine take_ (i := 5) (N := some 27) (v := ?_) (a' := ?_) #[true, true, true, true, true, true, true, false, true, false, true, true, false, false, false, false] rfl rfl (take_ofW HT_.out HW_.out (by kernel_rfl)) (fun _ _ _ h => h) (Or.inl ⟨by rfl, ?_⟩) hHeld ?_ ?_
            rotate_left
            · rintro w' ⟨s0, s1⟩
              go_simp
              with_reducible rfl
            rotate_left
            · simp only [Act.put, List.setIfInBounds_toArray, List.set_cons_zero, List.set_cons_succ, i64_w, i32_w]
              rfl
            refine pure_ (i := 7) (N := some 29) (v := ?_) (a' := ?_) #[true, true, true, true, true, true, true, true, true, false, true, true, false, false, false, false] rfl rfl (any_of HT_.out (by kernel_rfl)) (fun _ _ _ h => h) (Or.inl ⟨by rfl, ?_⟩) ?_ ?_
            rotate_left
            · intro w'
              go_simp
              with_reducible rfl
            rotate_left
            · simp only [Act.put, List.setIfInBounds_toArray, List.set_cons_zero, List.set_cons_succ, i64_w, i32_w]
              rfl
            refine take_ (i := 9) (N := some 31) (v := ?_) (a' := ?_) #[true, true, true, true, true, true, true, true, true, true, true, true, false, false, false, false] rfl rfl (take_ofW HT_.out HW_.out (by kernel_rfl)) (fun _ _ _ h => h) (Or.inl ⟨by rfl, ?_⟩) hHeld ?_ ?_
            rotate_left
            · rintro w' ⟨s0, s1⟩
              go_simp
              with_reducible rfl
            rotate_left
            · simp only [Act.put, List.setIfInBounds_toArray, List.set_cons_zero, List.set_cons_succ, i64_w, i32_w]
              rfl
            refine pure_ (i := 12) (N := some 34) (v := ?_) (a' := ?_) #[true, true, true, true, true, true, true, true, true, true, true, true, true, false, false, false] rfl rfl (any_of HT_.out (by kernel_rfl)) (fun _ _ _ h => h) (Or.inl ⟨by rfl, ?_⟩) ?_ ?_
            rotate_left
            · intro w'
              go_simp
              with_reducible rfl
            rotate_left
            · simp only [Act.put, List.setIfInBounds_toArray, List.set_cons_zero, List.set_cons_succ, i64_w, i32_w]
              rfl
            refine pure_ (i := 13) (N := some 35) (v := ?_) (a' := ?_) #[true, true, true, true, true, true, true, true, true, true, true, true, true, true, false, false] rfl rfl (any_of HT_.out (by kernel_rfl)) (fun _ _ _ h => h) (Or.inl ⟨by rfl, ?_⟩) ?_ ?_
            rotate_left
            · intro w'
              go_simp
              with_reducible rfl
            rotate_left
            · simp only [Act.put, List.setIfInBounds_toArray, List.set_cons_zero, List.set_cons_succ, i64_w, i32_w]
              rfl
            refine pure_ (i := 14) (N := some 36) (v := ?_) (a' := ?_) #[true, true, true, true, true, true, true, true, true, true, true, true, true, true, true, false] rfl rfl (any_of HT_.out (by kernel_rfl)) (fun _ _ _ h => h) (Or.inl ⟨by rfl, ?_⟩) ?_ ?_
            rotate_left
            · intro w'
              go_simp
              with_reducible rfl
            rotate_left
            · simp only [Act.put, List.setIfInBounds_toArray, List.set_cons_zero, List.set_cons_succ, i64_w, i32_w]
              rfl
            refine one_ (i := 15) (N := none) #[true, true, true, true, true, true, true, true, true, true, true, true, true, true, true, true] rfl rfl (one_of HT_.out (by kernel_rfl)) (by decide) (fun K hK => ?_)
            have hs33 : w32.cell? ⟨gb106, 0, none⟩ = some (.int .u64 0) := (blk_cell BK106.out 0).trans rfl
            have hfs33 := blk_frozen BK106.out 0
            have hns33_0 := NB105_106.out
            have hms33_0 := NB106_105.out
            have hs34 : w32.cell? ⟨gb106, 1, none⟩ = some (.int .u64 0) := (blk_cell BK106.out 1).trans rfl
            have hfs34 := blk_frozen BK106.out 1
            have hns34_0 := NB105_106.out
            have hms34_0 := NB106_105.out
            refine skip_ (w1 := ?_) (by rfl) rfl ?_ ?_
            rotate_left
            · go_simp
              rfl
            refine hK.out _ _ ⟨((cell_far (p := ⟨gb106, _, none⟩) NB105_106.out _).trans (((cell_far (p := ⟨gb106, _, none⟩) NB105_106.out _).trans (hHeld.1)))), ((cell_far (p := ⟨gb106, _, none⟩) NB105_106.out _).trans (((cell_far (p := ⟨gb106, _, none⟩) NB105_106.out _).trans (hHeld.2))))⟩ (fun hHeld => ?_)
            clear hK K
            refine done_ (done_of HT_.out (by kernel_rfl)) ?_
            try go_wp2
            refine bodyPost_ret (results_cell_row rfl _ _ gb106 55 #[.int .u64 ji24, .int .u64 (Go.bits .or .u64 (ji26) (ji29))] (0, 0) _ rfl (by (with_reducible repeat (first | refine blk_drewN ?_ _ | refine blk_drew ?_ | refine blk_alloc ?_ _)); refine blk_put (cs := #[.int .u64 ji24, .int .u64 0]) ?_ 1 _ rfl; (with_reducible repeat (first | refine blk_drewN ?_ _ | refine blk_drew ?_ | refine blk_alloc ?_ _)); refine blk_put (cs := #[.int .u64 0, .int .u64 0]) ?_ 0 _ rfl; (with_reducible repeat (first | refine blk_drewN ?_ _ | refine blk_drew ?_ | refine blk_alloc ?_ _)); exact BK106.out) Try.underlying55 rfl (by kernel_rfl)) rfl ?_
            exact ⟨by first | rfl | (simp [errW_none, errW_some] <;> rfl) | (simp only [← hji24, ← hji26, ← hji27, ← hji29]; first | rfl | (simp [errW_none, errW_some] <;> rfl)) | (simp [*, errW_none, errW_some] <;> rfl), by repeat (first | (with_reducible first | exact HB.out | apply below_alloc | apply pw_below_drewN | apply below_drew1 | refine below_set ?_ GE105.out | refine below_set ?_ GE106.out) | exact HB.out)⟩
          · rw [if_neg c28] at H
            exact absurd H (by simp)
        · rw [if_neg c23] at H
          exact absurd H (by simp)
def parts_wide_cut.l0 : Nat → Int → Bool → Int → Int → Int → Int → Option (Int × Bool × Bool)
  | 0, _, _, _, _, _, _ => none
  | k + 1, x7, x8, x30, x31, x108000, x108001 => if x31 < x30 then ((parts_wide_shr.f x108000 x108001 x31).bind fun bt112 => (if (Go.bits .and .u64 bt112.2 1) = 1 then (some (x7, x8, true)) else (parts_wide_cut.l0 k x7 x8 x30 (wrap64 (x31 + 1)) x108000 x108001))) else (some (x7, x8, false))
def parts_wide_cut.f (k : Nat) (a0_0 : Int) (a0_1 : Int) (a1 : Int) : Option (Int × Bool × Bool) := if a1 ≤ 0 then (if 0 ≤ (wrap64 (-a1)) then (some (shl .u64 a0_1 (wrap64 (-a1)), false, false)) else (none)) else ((parts_wide_shr.f a0_0 a0_1 a1).bind fun bt108 => ((parts_wide_shr.f a0_0 a0_1 (wrap64 (a1 - 1))).bind fun bt110 => (parts_wide_cut.l0 k bt108.2 ((Go.bits .and .u64 bt110.2 1) == 1) (mn (wrap64 (a1 - 1)) 128) 0 a0_0 a0_1)))
theorem parts_wide_cut.mono_l : ∀ k, (∀ y0 y1 y2 y3 y4 y5, LeO (parts_wide_cut.l0 k y0 y1 y2 y3 y4 y5) (parts_wide_cut.l0 (k + 1) y0 y1 y2 y3 y4 y5))
  | 0 => fun _ _ _ _ _ _ r h => by simp [parts_wide_cut.l0] at h
  | k + 1 => by
    have ih0 := parts_wide_cut.mono_l k
    · intro y0 y1 y2 y3 y4 y5
      unfold parts_wide_cut.l0
      repeat' first
      | (with_reducible exact ih0 _ _ _ _ _ _)
      | (with_reducible exact LeO.refl _)
      | (with_reducible exact LeO.none _)
      | (with_reducible refine LeO.ite ?_ ?_)
      | (with_reducible refine LeO.bind ?_ (fun _ => ?_))
      | exact ih0 _ _ _ _ _ _
      | exact LeO.none _
      | refine LeO.ite ?_ ?_
      | refine LeO.bind ?_ (fun _ => ?_)
theorem parts_wide_cut.mono : ∀ a0 a1 a2 k, LeO (parts_wide_cut.f k a0 a1 a2) (parts_wide_cut.f (k + 1) a0 a1 a2) := by
  intro a0 a1 a2 k
  have ih0 := parts_wide_cut.mono_l k
  unfold parts_wide_cut.f
  repeat' first
      | (with_reducible exact ih0 _ _ _ _ _ _)
      | (with_reducible exact LeO.refl _)
      | (with_reducible exact LeO.none _)
      | (with_reducible refine LeO.ite ?_ ?_)
      | (with_reducible refine LeO.bind ?_ (fun _ => ?_))
      | exact ih0 _ _ _ _ _ _
      | exact LeO.none _
      | refine LeO.ite ?_ ?_
      | refine LeO.bind ?_ (fun _ => ?_)
set_option maxHeartbeats 8000000 in
set_option maxRecDepth 100000 in
theorem parts_wide_cut.calls (k : Nat) (a0_0 : Int) (a0_1 : Int) (a1 : Int) (r1 : Int) (r2 : Bool) (r3 : Bool) (w : World) (h : parts_wide_cut.f k a0_0 a0_1 a1 = some (r1, r2, r3)) :
    Calls Try.prog 29 #[.agg #[.int .u64 a0_0, .int .u64 a0_1], .int .i64 a1] w fun e w' => e = .returned (.tuple #[.int .u64 r1, .bool r2, .bool r3]) ∧ Below w.heap.size w w' := by
  have hu55 := Try.underlying55
  have HB := Aside0.mk (Below.refl w.heap.size w)
  have H : (if a1 ≤ 0 then (if 0 ≤ (wrap64 (-a1)) then (some (shl .u64 a0_1 (wrap64 (-a1)), false, false)) else (none)) else ((parts_wide_shr.f a0_0 a0_1 a1).bind fun bt108 => ((parts_wide_shr.f a0_0 a0_1 (wrap64 (a1 - 1))).bind fun bt110 => (parts_wide_cut.l0 k bt108.2 ((Go.bits .and .u64 bt110.2 1) == 1) (mn (wrap64 (a1 - 1)) 128) 0 a0_0 a0_1)))) = some (r1, r2, r3) := h
  clear h
  by_cases c3 : a1 ≤ 0
  · rw [if_pos c3] at H
    have c3b0 : decide (a1 ≤ 0) = true := decide_eq_true c3
    clear c3
    obtain ⟨ji4, hji4⟩ : ∃ j_ : Int, (wrap64 (-a1)) = j_ := ⟨_, rfl⟩
    replace H : (if 0 ≤ (ji4) then (some (shl .u64 a0_1 (ji4), false, false)) else (none)) = some (r1, r2, r3) := by first | (rw [hji4] at H; exact H) | (simp only [hji4] at H ⊢; exact H)
    have hji4w : (IntKind.i64.wrap (-a1)) = ji4 := (i64_w _).trans hji4
    by_cases c5 : 0 ≤ (ji4)
    · rw [if_pos c5] at H
      have c5b0 := eq_true c5
      have c5b1 : decide (0 ≤ (ji4)) = true := decide_eq_true c5
      clear c5
      obtain ⟨ji6, hji6⟩ : ∃ j_ : Int, (shl .u64 a0_1 (ji4)) = j_ := ⟨_, rfl⟩
      replace H : (some (ji6, false, false)) = some (r1, r2, r3) := by first | (rw [hji6] at H; exact H) | (simp only [hji6] at H ⊢; exact H)
      have hji6_ : (IntKind.u64.wrap (a0_1 * 2 ^ min (ji4).toNat 64)) = ji6 := hji6
      have hji6z : (ji4) ≤ 64 → (IntKind.u64.wrap (a0_1 * 2 ^ (ji4).toNat)) = ji6 := shl_small hji6
      simp only [Option.some.injEq, Prod.mk.injEq] at H
      obtain ⟨rfl, rfl, rfl⟩ := H
      go_enter Try.func29, Try.ntmps29
      go_wp2_with (first | ((with_reducible refine gate_dst (N := 2) rfl ?_); refine box_event ?hg (N := 2) ?hd (cs := #[.int .u64 a0_0, .int .u64 a0_1]) (t := 55) ?hr ?_; (case hd => rfl); (case hg => rfl); (case hr => first | (go_simp; done) | (go_simp; rfl)); intro gb107 hg w7 hbox hb; have n0_ := Aside0.mk (below_step (dn_ HB) hb); have n1_ := Aside0.mk (hbox); have n2_ := Aside0.mk ((by rw [hg]; exact (below_size (dn_ HB)) : w.heap.size ≤ gb107)); have n3_ := Aside0.mk ((by rw [hg]; exact (below_size (dn_ HB)) : w.heap.size ≤ gb107)); clear HB; have HB := n0_; have BK107 := n1_; have GW107 := n2_; have GE107 := n3_; clear n0_ n1_ n2_ n3_; clear hb hbox hg; have hcz8_0 : w7.cell? ⟨gb107, 0, none⟩ = some (.int .u64 a0_0) := (blk_cell BK107.out 0).trans rfl; have hcz8_1 : w7.cell? ⟨gb107, 1, none⟩ = some (.int .u64 a0_1) := (blk_cell BK107.out 1).trans rfl; have hfz8_0 := blk_frozen BK107.out 0; have hfz8_1 := blk_frozen BK107.out 1))
      go_ret3
      exact ⟨by first | rfl | (simp [errW_none, errW_some] <;> rfl) | (simp only [← hji4, ← hji6]; first | rfl | (simp [errW_none, errW_some] <;> rfl)) | (simp [*, errW_none, errW_some] <;> rfl), by repeat (first | (with_reducible first | exact HB.out | apply below_alloc | apply pw_below_drewN | apply below_drew1 | refine below_set ?_ GE107.out) | exact HB.out)⟩
    · rw [if_neg c5] at H
      exact absurd H (by simp)
  · rw [if_neg c3] at H
    have c3b0 : decide (a1 ≤ 0) = false := decide_eq_false c3
    clear c3
    replace H := Option.bind_eq_some_iff.mp H
    obtain ⟨⟨t108, t109⟩, A90, H⟩ := H
    replace H : ((parts_wide_shr.f a0_0 a0_1 (wrap64 (a1 - 1))).bind fun bt110 => (parts_wide_cut.l0 k t109 ((Go.bits .and .u64 bt110.2 1) == 1) (mn (wrap64 (a1 - 1)) 128) 0 a0_0 a0_1)) = some (r1, r2, r3) := H
    have A9 := Aside0.mk A90
    clear A90
    replace H := Option.bind_eq_some_iff.mp H
    obtain ⟨⟨t110, t111⟩, A100, H⟩ := H
    replace H : (parts_wide_cut.l0 k t109 ((Go.bits .and .u64 t111 1) == 1) (mn (wrap64 (a1 - 1)) 128) 0 a0_0 a0_1) = some (r1, r2, r3) := H
    have A10 := Aside0.mk A100
    clear A100
    obtain ⟨ji11, hji11⟩ : ∃ j_ : Int, (mn (wrap64 (a1 - 1)) 128) = j_ := ⟨_, rfl⟩
    replace H : (parts_wide_cut.l0 k t109 ((Go.bits .and .u64 t111 1) == 1) ji11 0 a0_0 a0_1) = some (r1, r2, r3) := by first | (rw [hji11] at H; exact H) | (simp only [hji11] at H ⊢; exact H)
    (try rw [hji11] at A9)
    (try rw [hji11] at A10)
    (try (have hji11h : ji11 ≤ 128 := by (rw [← hji11]; unfold mn; (repeat' split) <;> omega)))
    (try (have hji11g : ji11 ≤ 64 := by omega))
    have hji11_ : (if 128 < (wrap64 (a1 - 1)) then 128 else (wrap64 (a1 - 1))) = ji11 := hji11
    (try (have hji11n := hji11_; simp only [Int.ofNat_lt] at hji11n))
    have H' := Aside0.mk H
    clear H
    go_enter Try.func29, Try.ntmps29
    go_wp2_with (first | ((with_reducible refine gate_dst (N := 2) rfl ?_); refine box_event ?hg (N := 2) ?hd (cs := #[.int .u64 a0_0, .int .u64 a0_1]) (t := 55) ?hr ?_; (case hd => rfl); (case hg => rfl); (case hr => first | (go_simp; done) | (go_simp; rfl)); intro gb107 hg w12 hbox hb; have n0_ := Aside0.mk (below_step (dn_ HB) hb); have n1_ := Aside0.mk (hbox); have n2_ := Aside0.mk ((by rw [hg]; exact (below_size (dn_ HB)) : w.heap.size ≤ gb107)); have n3_ := Aside0.mk ((by rw [hg]; exact (below_size (dn_ HB)) : w.heap.size ≤ gb107)); clear HB; have HB := n0_; have BK107 := n1_; have GW107 := n2_; have GE107 := n3_; clear n0_ n1_ n2_ n3_; clear hb hbox hg; have hcz13_0 : w12.cell? ⟨gb107, 0, none⟩ = some (.int .u64 a0_0) := (blk_cell BK107.out 0).trans rfl; have hcz13_1 : w12.cell? ⟨gb107, 1, none⟩ = some (.int .u64 a0_1) := (blk_cell BK107.out 1).trans rfl; have hfz13_0 := blk_frozen BK107.out 0; have hfz13_1 := blk_frozen BK107.out 1) | ((with_reducible refine gate_callee (f := 35) rfl ?_); refine goesL_ (some 19) rfl rfl Try.func35 (by kernel_rfl) rfl #[.agg #[.int .u64 a0_0, .int .u64 a0_1], .int .i64 a1] rfl ar_ ?_; (with_reducible refine (parts_wide_shr.calls a0_0 a0_1 a1 t108 t109 _ A9.out).mono ?_); rintro e w14 ⟨rfl, hb⟩; refine ⟨_, rfl, ?_⟩; have n0_ := Aside0.mk (blk_below (g := gb107) (o := .cells #[.int .u64 a0_0, .int .u64 a0_1] 55 (0, 0)) (by (with_reducible repeat (first | refine blk_drewN ?_ _ | refine blk_drew ?_ | refine blk_alloc ?_ _)); exact BK107.out) hb); have n1_ := Aside0.mk (below_step (by repeat (first | (with_reducible first | exact HB.out | apply below_alloc | apply pw_below_drewN | apply below_drew1 | refine below_set ?_ GE107.out) | exact HB.out)) hb); clear BK107; clear HB; have BK107 := n0_; have HB := n1_; clear n0_ n1_; (try clear hb); have hcz15_0 : w14.cell? ⟨gb107, 0, none⟩ = some (.int .u64 a0_0) := (blk_cell BK107.out 0).trans rfl; have hcz15_1 : w14.cell? ⟨gb107, 1, none⟩ = some (.int .u64 a0_1) := (blk_cell BK107.out 1).trans rfl; have hfz15_0 := blk_frozen BK107.out 0; have hfz15_1 := blk_frozen BK107.out 1) | ((with_reducible refine gate_callee (f := 35) rfl ?_); refine goesL_ (some 24) rfl rfl Try.func35 (by kernel_rfl) rfl #[.agg #[.int .u64 a0_0, .int .u64 a0_1], .int .i64 (wrap64 (a1 - 1))] rfl ar_ ?_; (with_reducible refine (parts_wide_shr.calls a0_0 a0_1 (wrap64 (a1 - 1)) t110 t111 _ A10.out).mono ?_); rintro e w16 ⟨rfl, hb⟩; refine ⟨_, rfl, ?_⟩; have n0_ := Aside0.mk (blk_below (g := gb107) (o := .cells #[.int .u64 a0_0, .int .u64 a0_1] 55 (0, 0)) (by (with_reducible repeat (first | refine blk_drewN ?_ _ | refine blk_drew ?_ | refine blk_alloc ?_ _)); exact BK107.out) hb); have n1_ := Aside0.mk (below_step (by repeat (first | (with_reducible first | exact HB.out | apply below_alloc | apply pw_below_drewN | apply below_drew1 | refine below_set ?_ GE107.out) | exact HB.out)) hb); clear BK107; clear HB; have BK107 := n0_; have HB := n1_; clear n0_ n1_; (try clear hb)))
    go_loopg [31] k (fun kq v31 w' => ∃ (x31_1 : Int), v31 = .int .i64 x31_1 ∧ Aside0 (parts_wide_cut.l0 kq t109 ((Go.bits .and .u64 t111 1) == 1) ji11 x31_1 a0_0 a0_1 = some (r1, r2, r3)) ∧ Aside0 (kq ≤ k) ∧ Aside0 (w'.heap[gb107]? = some (.cells #[.int .u64 a0_0, .int .u64 a0_1] 55 (0, 0))) ∧ Aside0 (Below w.heap.size w w'))
    case atStart => exact ⟨(0), (by first | rfl | (simp; done) | (simp [*]; done)), H', ⟨Nat.le_refl _⟩, ⟨by (with_reducible repeat (first | refine blk_drewN ?_ _ | refine blk_drew ?_ | refine blk_alloc ?_ _)); exact BK107.out⟩, ⟨by repeat (first | (with_reducible first | exact HB.out | apply below_alloc | apply pw_below_drewN | apply below_drew1 | refine below_set ?_ GE107.out) | exact HB.out)⟩⟩
    case round =>
      clear H'
      try clear c2
      try clear p2
      try clear c3
      try clear c3b0
      try clear c5
      try clear c5b0
      try clear c5b1
      try clear p6
      try clear hcz13_0
      try clear hcz13_1
      try clear hcz15_0
      try clear hcz15_1
      try clear hcz8_0
      try clear hcz8_1
      try clear hfz13_0
      try clear hfz13_1
      try clear hfz15_0
      try clear hfz15_1
      try clear hfz8_0
      try clear hfz8_1
      obtain ⟨x31_1, rfl, HA, HK1, BK107, HB⟩ := hrel
      cases gk with
      | zero => exact absurd HA.out (by simp [parts_wide_cut.l0])
      | succ k1 =>
        have H := HA.out
        clear HA
        simp only [parts_wide_cut.l0] at H
        by_cases c17 : x31_1 < ji11
        · rw [if_pos c17] at H
          have c17b0 : decide (x31_1 < ji11) = true := decide_eq_true c17
          clear c17
          replace H := Option.bind_eq_some_iff.mp H
          obtain ⟨⟨t112, t113⟩, A180, H⟩ := H
          replace H : (if (Go.bits .and .u64 t113 1) = 1 then (some (t109, ((Go.bits .and .u64 t111 1) == 1), true)) else (parts_wide_cut.l0 k1 t109 ((Go.bits .and .u64 t111 1) == 1) ji11 (wrap64 (x31_1 + 1)) a0_0 a0_1)) = some (r1, r2, r3) := H
          have A18 := Aside0.mk A180
          clear A180
          by_cases c19 : (Go.bits .and .u64 t113 1) = 1
          · rw [if_pos c19] at H
            have c19b0 : ((Go.bits .and .u64 t113 1) == 1) = true := beq_iff_eq.mpr c19
            have c19b1 : ((Go.bits .and .u64 t113 1) != 1) = false := bne_eq_false_iff_eq.mpr c19
            clear c19
            simp only [Option.some.injEq, Prod.mk.injEq] at H
            obtain ⟨rfl, rfl, rfl⟩ := H
            have hcz20_0 : wr.cell? ⟨gb107, 0, none⟩ = some (.int .u64 a0_0) := (blk_cell BK107.out 0).trans rfl
            have hcz20_1 : wr.cell? ⟨gb107, 1, none⟩ = some (.int .u64 a0_1) := (blk_cell BK107.out 1).trans rfl
            have hfz20_0 := blk_frozen BK107.out 0
            have hfz20_1 := blk_frozen BK107.out 1
            go_wp2_with (first | ((with_reducible refine gate_callee (f := 35) rfl ?_); refine goesL_ (some 36) rfl rfl Try.func35 (by kernel_rfl) rfl #[.agg #[.int .u64 a0_0, .int .u64 a0_1], .int .i64 x31_1] rfl ar_ ?_; (with_reducible refine (parts_wide_shr.calls a0_0 a0_1 x31_1 t112 t113 _ A18.out).mono ?_); rintro e w21 ⟨rfl, hb⟩; refine ⟨_, rfl, ?_⟩; have n0_ := Aside0.mk (blk_below (g := gb107) (o := .cells #[.int .u64 a0_0, .int .u64 a0_1] 55 (0, 0)) (by (with_reducible repeat (first | refine blk_drewN ?_ _ | refine blk_drew ?_ | refine blk_alloc ?_ _)); exact BK107.out) hb); have n1_ := Aside0.mk (below_step (by repeat (first | (with_reducible first | exact HB.out | apply below_alloc | apply pw_below_drewN | apply below_drew1 | refine below_set ?_ GE107.out) | exact HB.out)) hb); clear BK107; clear HB; have BK107 := n0_; have HB := n1_; clear n0_ n1_; (try clear hb)))
            go_ret3
            exact ⟨by first | rfl | (simp [errW_none, errW_some] <;> rfl) | (simp only [← hji11]; first | rfl | (simp [errW_none, errW_some] <;> rfl)) | (simp [*, errW_none, errW_some] <;> rfl), by repeat (first | (with_reducible first | exact HB.out | apply below_alloc | apply pw_below_drewN | apply below_drew1 | refine below_set ?_ GE107.out) | exact HB.out)⟩
          · rw [if_neg c19] at H
            have c19b0 : ((Go.bits .and .u64 t113 1) == 1) = false := beq_eq_false_iff_ne.mpr c19
            have c19b1 : ((Go.bits .and .u64 t113 1) != 1) = true := bne_iff_ne.mpr c19
            have H' := Aside0.mk H
            clear H
            have hcz22_0 : wr.cell? ⟨gb107, 0, none⟩ = some (.int .u64 a0_0) := (blk_cell BK107.out 0).trans rfl
            have hcz22_1 : wr.cell? ⟨gb107, 1, none⟩ = some (.int .u64 a0_1) := (blk_cell BK107.out 1).trans rfl
            have hfz22_0 := blk_frozen BK107.out 0
            have hfz22_1 := blk_frozen BK107.out 1
            go_wp2_with (first | ((with_reducible refine gate_callee (f := 35) rfl ?_); refine goesL_ (some 36) rfl rfl Try.func35 (by kernel_rfl) rfl #[.agg #[.int .u64 a0_0, .int .u64 a0_1], .int .i64 x31_1] rfl ar_ ?_; (with_reducible refine (parts_wide_shr.calls a0_0 a0_1 x31_1 t112 t113 _ A18.out).mono ?_); rintro e w23 ⟨rfl, hb⟩; refine ⟨_, rfl, ?_⟩; have n0_ := Aside0.mk (blk_below (g := gb107) (o := .cells #[.int .u64 a0_0, .int .u64 a0_1] 55 (0, 0)) (by (with_reducible repeat (first | refine blk_drewN ?_ _ | refine blk_drew ?_ | refine blk_alloc ?_ _)); exact BK107.out) hb); have n1_ := Aside0.mk (below_step (by repeat (first | (with_reducible first | exact HB.out | apply below_alloc | apply pw_below_drewN | apply below_drew1 | refine below_set ?_ GE107.out) | exact HB.out)) hb); clear BK107; clear HB; have BK107 := n0_; have HB := n1_; clear n0_ n1_; (try clear hb)))
            go_roundg k1
            case measure => have := HK1.out; omega
            case rel => exact ⟨(wrap64 (x31_1 + 1)), (by first | rfl | (simp; done) | (simp [*]; done)), H', ⟨by have := HK1.out; omega⟩, ⟨by (with_reducible repeat (first | refine blk_drewN ?_ _ | refine blk_drew ?_ | refine blk_alloc ?_ _)); exact BK107.out⟩, ⟨by repeat (first | (with_reducible first | exact HB.out | apply below_alloc | apply pw_below_drewN | apply below_drew1 | refine below_set ?_ GE107.out) | exact HB.out)⟩⟩
        · rw [if_neg c17] at H
          have c17b0 : decide (x31_1 < ji11) = false := decide_eq_false c17
          clear c17
          simp only [Option.some.injEq, Prod.mk.injEq] at H
          obtain ⟨rfl, rfl, rfl⟩ := H
          go_wp2
          go_ret3
          exact ⟨by first | rfl | (simp [errW_none, errW_some] <;> rfl) | (simp only [← hji11]; first | rfl | (simp [errW_none, errW_some] <;> rfl)) | (simp [*, errW_none, errW_some] <;> rfl), by repeat (first | (with_reducible first | exact HB.out | apply below_alloc | apply pw_below_drewN | apply below_drew1 | refine below_set ?_ GE107.out) | exact HB.out)⟩
def parts_up.f (a0 : Bool) (a1 : Int) (a2 : Bool) (a3 : Bool) (a4 : Int) : Option (Bool) := if a4 = 1 then (some a2) else (if a4 = 2 then (some false) else (if a4 = 3 then (if a0 = true then (some false) else (if a2 = true then (some true) else (some a3))) else (if a4 = 4 then (if a0 = true then (if a2 = true then (some true) else (some a3)) else (some false)) else (if a2 = true then (if a3 = true then (some true) else (some ((Go.bits .and .u64 a1 1) == 1))) else (some false)))))
set_option maxHeartbeats 8000000 in
set_option maxRecDepth 100000 in
theorem parts_up.calls (a0 : Bool) (a1 : Int) (a2 : Bool) (a3 : Bool) (a4 : Int) (r : Bool) (w : World) (h : parts_up.f a0 a1 a2 a3 a4 = some r) :
    Calls Try.prog 30 #[.bool a0, .int .u64 a1, .bool a2, .bool a3, .int .i64 a4] w fun e w' => e = .returned (.bool r) ∧ Drawn0 w w' := by
  have H : (if a4 = 1 then (some a2) else (if a4 = 2 then (some false) else (if a4 = 3 then (if a0 = true then (some false) else (if a2 = true then (some true) else (some a3))) else (if a4 = 4 then (if a0 = true then (if a2 = true then (some true) else (some a3)) else (some false)) else (if a2 = true then (if a3 = true then (some true) else (some ((Go.bits .and .u64 a1 1) == 1))) else (some false)))))) = some r := h
  clear h
  by_cases c6 : a4 = 1
  · rw [if_pos c6] at H
    have c6b0 : (a4 == 1) = true := beq_iff_eq.mpr c6
    have c6b1 : (a4 != 1) = false := bne_eq_false_iff_eq.mpr c6
    clear c6
    obtain rfl := Option.some.inj H
    go_enter Try.func30, Try.ntmps30
    go_wp2
    go_ret
    exact ⟨by first | rfl | (simp; done) | (simp [*]; done), by repeat (first | exact Drawn0.refl _ | apply Drawn0.step)⟩
  · rw [if_neg c6] at H
    have c6b0 : (a4 == 1) = false := beq_eq_false_iff_ne.mpr c6
    have c6b1 : (a4 != 1) = true := bne_iff_ne.mpr c6
    by_cases c7 : a4 = 2
    · rw [if_pos c7] at H
      have c7b0 : (a4 == 2) = true := beq_iff_eq.mpr c7
      have c7b1 : (a4 != 2) = false := bne_eq_false_iff_eq.mpr c7
      clear c7
      obtain rfl := Option.some.inj H
      go_enter Try.func30, Try.ntmps30
      go_wp2
      go_ret
      exact ⟨by first | rfl | (simp; done) | (simp [*]; done), by repeat (first | exact Drawn0.refl _ | apply Drawn0.step)⟩
    · rw [if_neg c7] at H
      have c7b0 : (a4 == 2) = false := beq_eq_false_iff_ne.mpr c7
      have c7b1 : (a4 != 2) = true := bne_iff_ne.mpr c7
      by_cases c8 : a4 = 3
      · rw [if_pos c8] at H
        have c8b0 : (a4 == 3) = true := beq_iff_eq.mpr c8
        have c8b1 : (a4 != 3) = false := bne_eq_false_iff_eq.mpr c8
        clear c8
        by_cases c9 : a0 = true
        · subst c9
          have H1 : (some false) = some r := by rw [if_pos rfl] at H; exact H
          clear H
          have H := H1
          clear H1
          obtain rfl := Option.some.inj H
          go_enter Try.func30, Try.ntmps30
          go_wp2
          go_ret
          exact ⟨by first | rfl | (simp; done) | (simp [*]; done), by repeat (first | exact Drawn0.refl _ | apply Drawn0.step)⟩
        · replace c9 := Bool.eq_false_iff.mpr c9
          subst c9
          have H1 : (if a2 = true then (some true) else (some a3)) = some r := by rw [if_neg (show ¬ (false = true) by decide)] at H; exact H
          clear H
          have H := H1
          clear H1
          by_cases c10 : a2 = true
          · subst c10
            have H1 : (some true) = some r := by rw [if_pos rfl] at H; exact H
            clear H
            have H := H1
            clear H1
            obtain rfl := Option.some.inj H
            go_enter Try.func30, Try.ntmps30
            go_wp2
            go_ret
            exact ⟨by first | rfl | (simp; done) | (simp [*]; done), by repeat (first | exact Drawn0.refl _ | apply Drawn0.step)⟩
          · replace c10 := Bool.eq_false_iff.mpr c10
            subst c10
            have H1 : (some a3) = some r := by rw [if_neg (show ¬ (false = true) by decide)] at H; exact H
            clear H
            have H := H1
            clear H1
            obtain rfl := Option.some.inj H
            go_enter Try.func30, Try.ntmps30
            go_wp2
            go_ret
            exact ⟨by first | rfl | (simp; done) | (simp [*]; done), by repeat (first | exact Drawn0.refl _ | apply Drawn0.step)⟩
      · rw [if_neg c8] at H
        have c8b0 : (a4 == 3) = false := beq_eq_false_iff_ne.mpr c8
        have c8b1 : (a4 != 3) = true := bne_iff_ne.mpr c8
        by_cases c11 : a4 = 4
        · rw [if_pos c11] at H
          have c11b0 : (a4 == 4) = true := beq_iff_eq.mpr c11
          have c11b1 : (a4 != 4) = false := bne_eq_false_iff_eq.mpr c11
          clear c11
          by_cases c12 : a0 = true
          · subst c12
            have H1 : (if a2 = true then (some true) else (some a3)) = some r := by rw [if_pos rfl] at H; exact H
            clear H
            have H := H1
            clear H1
            by_cases c13 : a2 = true
            · subst c13
              have H1 : (some true) = some r := by rw [if_pos rfl] at H; exact H
              clear H
              have H := H1
              clear H1
              obtain rfl := Option.some.inj H
              go_enter Try.func30, Try.ntmps30
              go_wp2
              go_ret
              exact ⟨by first | rfl | (simp; done) | (simp [*]; done), by repeat (first | exact Drawn0.refl _ | apply Drawn0.step)⟩
            · replace c13 := Bool.eq_false_iff.mpr c13
              subst c13
              have H1 : (some a3) = some r := by rw [if_neg (show ¬ (false = true) by decide)] at H; exact H
              clear H
              have H := H1
              clear H1
              obtain rfl := Option.some.inj H
              go_enter Try.func30, Try.ntmps30
              go_wp2
              go_ret
              exact ⟨by first | rfl | (simp; done) | (simp [*]; done), by repeat (first | exact Drawn0.refl _ | apply Drawn0.step)⟩
          · replace c12 := Bool.eq_false_iff.mpr c12
            subst c12
            have H1 : (some false) = some r := by rw [if_neg (show ¬ (false = true) by decide)] at H; exact H
            clear H
            have H := H1
            clear H1
            obtain rfl := Option.some.inj H
            go_enter Try.func30, Try.ntmps30
            go_wp2
            go_ret
            exact ⟨by first | rfl | (simp; done) | (simp [*]; done), by repeat (first | exact Drawn0.refl _ | apply Drawn0.step)⟩
        · rw [if_neg c11] at H
          have c11b0 : (a4 == 4) = false := beq_eq_false_iff_ne.mpr c11
          have c11b1 : (a4 != 4) = true := bne_iff_ne.mpr c11
          by_cases c14 : a2 = true
          · subst c14
            have H1 : (if a3 = true then (some true) else (some ((Go.bits .and .u64 a1 1) == 1))) = some r := by rw [if_pos rfl] at H; exact H
            clear H
            have H := H1
            clear H1
            by_cases c15 : a3 = true
            · subst c15
              have H1 : (some true) = some r := by rw [if_pos rfl] at H; exact H
              clear H
              have H := H1
              clear H1
              obtain rfl := Option.some.inj H
              go_enter Try.func30, Try.ntmps30
              go_wp2
              go_ret
              exact ⟨by first | rfl | (simp; done) | (simp [*]; done), by repeat (first | exact Drawn0.refl _ | apply Drawn0.step)⟩
            · replace c15 := Bool.eq_false_iff.mpr c15
              subst c15
              have H1 : (some ((Go.bits .and .u64 a1 1) == 1)) = some r := by rw [if_neg (show ¬ (false = true) by decide)] at H; exact H
              clear H
              have H := H1
              clear H1
              obtain rfl := Option.some.inj H
              go_enter Try.func30, Try.ntmps30
              go_wp2
              go_ret
              exact ⟨by first | rfl | (simp; done) | (simp [*]; done), by repeat (first | exact Drawn0.refl _ | apply Drawn0.step)⟩
          · replace c14 := Bool.eq_false_iff.mpr c14
            subst c14
            have H1 : (some false) = some r := by rw [if_neg (show ¬ (false = true) by decide)] at H; exact H
            clear H
            have H := H1
            clear H1
            obtain rfl := Option.some.inj H
            go_enter Try.func30, Try.ntmps30
            go_wp2
            go_ret
            exact ⟨by first | rfl | (simp; done) | (simp [*]; done), by repeat (first | exact Drawn0.refl _ | apply Drawn0.step)⟩
def parts_Inf.f (a0 : Bool) : Option (Int) := (parts_Zero.f a0).bind fun t114 => (some (Go.bits .or .u64 t114 9218868437227405312))
set_option maxHeartbeats 8000000 in
set_option maxRecDepth 100000 in
theorem parts_Inf.calls (a0 : Bool) (r : Int) (w : World) (h : parts_Inf.f a0 = some r) :
    Calls Try.prog 36 #[.bool a0] w fun e w' => e = .returned (.int .u64 r) ∧ Drawn0 w w' := by
  have H : ((parts_Zero.f a0).bind fun t114 => (some (Go.bits .or .u64 t114 9218868437227405312))) = some r := h
  clear h
  replace H := Option.bind_eq_some_iff.mp H
  obtain ⟨t114, A20, H⟩ := H
  replace H : (some (Go.bits .or .u64 t114 9218868437227405312)) = some r := H
  have A2 := Aside0.mk A20
  clear A20
  obtain rfl := Option.some.inj H
  go_enter Try.func36, Try.ntmps36
  go_wp2_with (first | ((with_reducible refine gate_callee (f := 28) rfl ?_); refine goesL_ (some 4) rfl rfl Try.func28 (by kernel_rfl) rfl #[.bool a0] rfl ar_ ?_; (with_reducible refine (parts_Zero.calls a0 t114 _ A2.out).mono ?_); rintro e w' ⟨rfl, ⟨nd, rfl⟩⟩; refine ⟨_, rfl, ?_⟩))
  go_ret
  exact ⟨by first | rfl | (simp; done) | (simp [*]; done), by repeat (first | exact Drawn0.refl _ | apply Drawn0.step)⟩
def parts_greatest.f (a0 : Bool) : Option (Int) := (parts_Inf.f a0).bind fun t115 => (some (IntKind.u64.wrap (t115 - 1)))
set_option maxHeartbeats 8000000 in
set_option maxRecDepth 100000 in
theorem parts_greatest.calls (a0 : Bool) (r : Int) (w : World) (h : parts_greatest.f a0 = some r) :
    Calls Try.prog 37 #[.bool a0] w fun e w' => e = .returned (.int .u64 r) ∧ Drawn0 w w' := by
  have H : ((parts_Inf.f a0).bind fun t115 => (some (IntKind.u64.wrap (t115 - 1)))) = some r := h
  clear h
  replace H := Option.bind_eq_some_iff.mp H
  obtain ⟨t115, A20, H⟩ := H
  replace H : (some (IntKind.u64.wrap (t115 - 1))) = some r := H
  have A2 := Aside0.mk A20
  clear A20
  obtain rfl := Option.some.inj H
  go_enter Try.func37, Try.ntmps37
  go_wp2_with (first | ((with_reducible refine gate_callee (f := 36) rfl ?_); refine goesL_ (some 4) rfl rfl Try.func36 (by kernel_rfl) rfl #[.bool a0] rfl ar_ ?_; (with_reducible refine (parts_Inf.calls a0 t115 _ A2.out).mono ?_); rintro e w' ⟨rfl, ⟨nd, rfl⟩⟩; refine ⟨_, rfl, ?_⟩))
  go_ret
  exact ⟨by first | rfl | (simp; done) | (simp [*]; done), by repeat (first | exact Drawn0.refl _ | apply Drawn0.step)⟩
def parts_over.j0 : Nat → Bool → Bool → Option (Int × Int)
  | 0, _, _ => none
  | k + 1, x0, x6 => if x6 = true then ((parts_Inf.f x0).bind fun t116 => (some (t116, 20))) else ((parts_greatest.f x0).bind fun t117 => (some (t117, 20)))
def parts_over.f (k : Nat) (a0 : Bool) (a1 : Int) : Option (Int × Int) := if a1 < 2 then (parts_over.j0 k a0 true) else (if a1 > 4 then (parts_over.j0 k a0 true) else (if a1 = 3 then (if a0 = true then (if a1 = 4 then (parts_over.j0 k a0 a0) else (parts_over.j0 k a0 false)) else (parts_over.j0 k a0 true)) else (if a1 = 4 then (parts_over.j0 k a0 a0) else (parts_over.j0 k a0 false))))
theorem parts_over.mono_l : ∀ k, (∀ y0 y1, LeO (parts_over.j0 k y0 y1) (parts_over.j0 (k + 1) y0 y1))
  | 0 => fun _ _ r h => by simp [parts_over.j0] at h
  | k + 1 => by
    have ih0 := parts_over.mono_l k
    · intro y0 y1
      unfold parts_over.j0
      repeat' first
      | (with_reducible exact ih0 _ _)
      | (with_reducible exact LeO.refl _)
      | (with_reducible exact LeO.none _)
      | (with_reducible refine LeO.ite ?_ ?_)
      | (with_reducible refine LeO.bind ?_ (fun _ => ?_))
      | exact ih0 _ _
      | exact LeO.none _
      | refine LeO.ite ?_ ?_
      | refine LeO.bind ?_ (fun _ => ?_)
theorem parts_over.mono : ∀ a0 a1 k, LeO (parts_over.f k a0 a1) (parts_over.f (k + 1) a0 a1) := by
  intro a0 a1 k
  have ih0 := parts_over.mono_l k
  unfold parts_over.f
  repeat' first
      | (with_reducible exact ih0 _ _)
      | (with_reducible exact LeO.refl _)
      | (with_reducible exact LeO.none _)
      | (with_reducible refine LeO.ite ?_ ?_)
      | (with_reducible refine LeO.bind ?_ (fun _ => ?_))
      | exact ih0 _ _
      | exact LeO.none _
      | refine LeO.ite ?_ ?_
      | refine LeO.bind ?_ (fun _ => ?_)
set_option maxHeartbeats 8000000 in
set_option maxRecDepth 100000 in
theorem parts_over.calls (k : Nat) (a0 : Bool) (a1 : Int) (r1 : Int) (r2 : Int) (w : World) (h : parts_over.f k a0 a1 = some (r1, r2)) :
    Calls Try.prog 31 #[.bool a0, .int .i64 a1] w fun e w' => e = .returned (.tuple #[.int .u64 r1, .int .i64 r2]) ∧ Drawn0 w w' := by
  have H : (if a1 < 2 then (parts_over.j0 k a0 true) else (if a1 > 4 then (parts_over.j0 k a0 true) else (if a1 = 3 then (if a0 = true then (if a1 = 4 then (parts_over.j0 k a0 a0) else (parts_over.j0 k a0 false)) else (parts_over.j0 k a0 true)) else (if a1 = 4 then (parts_over.j0 k a0 a0) else (parts_over.j0 k a0 false))))) = some (r1, r2) := h
  clear h
  have HC3 := Aside0.mk H
  clear H
  go_enter Try.func31, Try.ntmps31
  go_upto_region 1 with (fail)
  go_cut [6] (fun v6 wc => ∃ (kq : Nat) (x6_2 : Bool), v6 = .bool x6_2 ∧ Aside0 (parts_over.j0 kq a0 x6_2 = some (r1, r2)) ∧ Aside0 (kq ≤ k) ∧ Drawn0 w wc)
  case first =>
    have H := HC3.out
    clear HC3
    by_cases c4 : a1 < 2
    · rw [if_pos c4] at H
      have c4b0 : decide (a1 < 2) = true := decide_eq_true c4
      clear c4
      (first | rw [c4b0] | (simp only [i64_w, i32_w]; rw [c4b0]) | skip)
      have H' := Aside0.mk H
      clear H
      go_wp2
      go_meet
      case rel => exact ⟨_, (true), (by first | rfl | (simp; done) | (simp [*]; done)), H', ⟨by first | omega | exact Nat.le_refl _⟩, by repeat (first | exact Drawn0.refl _ | apply Drawn0.step)⟩
    · rw [if_neg c4] at H
      have c4b0 : decide (a1 < 2) = false := decide_eq_false c4
      clear c4
      (first | rw [c4b0] | (simp only [i64_w, i32_w]; rw [c4b0]) | skip)
      by_cases c5 : a1 > 4
      · rw [if_pos c5] at H
        have c5b0 : decide (4 < a1) = true := decide_eq_true c5
        clear c5
        have H' := Aside0.mk H
        clear H
        go_wp2
        go_meet
        case rel => exact ⟨_, (true), (by first | rfl | (simp; done) | (simp [*]; done)), H', ⟨by first | omega | exact Nat.le_refl _⟩, by repeat (first | exact Drawn0.refl _ | apply Drawn0.step)⟩
      · rw [if_neg c5] at H
        have c5b0 : decide (4 < a1) = false := decide_eq_false c5
        clear c5
        by_cases c6 : a1 = 3
        · rw [if_pos c6] at H
          have c6b0 : (a1 == 3) = true := beq_iff_eq.mpr c6
          have c6b1 : (a1 != 3) = false := bne_eq_false_iff_eq.mpr c6
          clear c6
          by_cases c7 : a0 = true
          · subst c7
            have H1 : (if a1 = 4 then (parts_over.j0 k true true) else (parts_over.j0 k true false)) = some (r1, r2) := by rw [if_pos rfl] at H; exact H
            clear H
            have H := H1
            clear H1
            by_cases c8 : a1 = 4
            · rw [if_pos c8] at H
              have c8b0 : (a1 == 4) = true := beq_iff_eq.mpr c8
              have c8b1 : (a1 != 4) = false := bne_eq_false_iff_eq.mpr c8
              clear c8
              have H' := Aside0.mk H
              clear H
              go_wp2
              go_meet
              case rel => exact ⟨_, (true), (by first | rfl | (simp; done) | (simp [*]; done)), H', ⟨by first | omega | exact Nat.le_refl _⟩, by repeat (first | exact Drawn0.refl _ | apply Drawn0.step)⟩
            · rw [if_neg c8] at H
              have c8b0 : (a1 == 4) = false := beq_eq_false_iff_ne.mpr c8
              have c8b1 : (a1 != 4) = true := bne_iff_ne.mpr c8
              have H' := Aside0.mk H
              clear H
              go_wp2
              go_meet
              case rel => exact ⟨_, (false), (by first | rfl | (simp; done) | (simp [*]; done)), H', ⟨by first | omega | exact Nat.le_refl _⟩, by repeat (first | exact Drawn0.refl _ | apply Drawn0.step)⟩
          · replace c7 := Bool.eq_false_iff.mpr c7
            subst c7
            have H1 : (parts_over.j0 k false true) = some (r1, r2) := by rw [if_neg (show ¬ (false = true) by decide)] at H; exact H
            clear H
            have H := H1
            clear H1
            have H' := Aside0.mk H
            clear H
            go_wp2
            go_meet
            case rel => exact ⟨_, (true), (by first | rfl | (simp; done) | (simp [*]; done)), H', ⟨by first | omega | exact Nat.le_refl _⟩, by repeat (first | exact Drawn0.refl _ | apply Drawn0.step)⟩
        · rw [if_neg c6] at H
          have c6b0 : (a1 == 3) = false := beq_eq_false_iff_ne.mpr c6
          have c6b1 : (a1 != 3) = true := bne_iff_ne.mpr c6
          by_cases c9 : a1 = 4
          · rw [if_pos c9] at H
            have c9b0 : (a1 == 4) = true := beq_iff_eq.mpr c9
            have c9b1 : (a1 != 4) = false := bne_eq_false_iff_eq.mpr c9
            clear c9
            have H' := Aside0.mk H
            clear H
            go_wp2
            go_meet
            case rel => exact ⟨_, (a0), (by first | rfl | (simp; done) | (simp [*]; done)), H', ⟨by first | omega | exact Nat.le_refl _⟩, by repeat (first | exact Drawn0.refl _ | apply Drawn0.step)⟩
          · rw [if_neg c9] at H
            have c9b0 : (a1 == 4) = false := beq_eq_false_iff_ne.mpr c9
            have c9b1 : (a1 != 4) = true := bne_iff_ne.mpr c9
            have H' := Aside0.mk H
            clear H
            go_wp2
            go_meet
            case rel => exact ⟨_, (false), (by first | rfl | (simp; done) | (simp [*]; done)), H', ⟨by first | omega | exact Nat.le_refl _⟩, by repeat (first | exact Drawn0.refl _ | apply Drawn0.step)⟩
  case rest =>
    clear HC3
    try clear p2
    try clear c3
    try clear c4
    try clear c4b0
    try clear c5
    try clear c5b0
    try clear c6
    try clear c6b0
    try clear c6b1
    try clear c7
    try clear c8
    try clear c8b0
    try clear c8b1
    try clear c9
    try clear c9b0
    try clear c9b1
    obtain ⟨kq, x6_2, rfl, HA, HJ2, ⟨mc2, rfl⟩⟩ := hcut
    cases kq with
    | zero => exact absurd HA.out (by simp [parts_over.j0])
    | succ kj2 =>
      have H := HA.out
      clear HA
      simp only [parts_over.j0] at H
      by_cases c10 : x6_2 = true
      · subst c10
        have H1 : ((parts_Inf.f a0).bind fun t116 => (some (t116, 20))) = some (r1, r2) := by rw [if_pos rfl] at H; exact H
        clear H
        have H := H1
        clear H1
        replace H := Option.bind_eq_some_iff.mp H
        obtain ⟨t116, A110, H⟩ := H
        replace H : (some (t116, 20)) = some (r1, r2) := H
        have A11 := Aside0.mk A110
        clear A110
        simp only [Option.some.injEq, Prod.mk.injEq] at H
        obtain ⟨rfl, rfl⟩ := H
        go_wp2_with (first | ((with_reducible refine gate_callee (f := 36) rfl ?_); refine goesL_ (some 30) rfl rfl Try.func36 (by kernel_rfl) rfl #[.bool a0] rfl ar_ ?_; (with_reducible refine (parts_Inf.calls a0 t116 _ A11.out).mono ?_); rintro e w' ⟨rfl, ⟨nd, rfl⟩⟩; refine ⟨_, rfl, ?_⟩))
        go_ret2
        exact ⟨by first | rfl | (simp; done) | (simp [*]; done), by repeat (first | exact Drawn0.refl _ | apply Drawn0.step)⟩
      · replace c10 := Bool.eq_false_iff.mpr c10
        subst c10
        have H1 : ((parts_greatest.f a0).bind fun t117 => (some (t117, 20))) = some (r1, r2) := by rw [if_neg (show ¬ (false = true) by decide)] at H; exact H
        clear H
        have H := H1
        clear H1
        replace H := Option.bind_eq_some_iff.mp H
        obtain ⟨t117, A120, H⟩ := H
        replace H : (some (t117, 20)) = some (r1, r2) := H
        have A12 := Aside0.mk A120
        clear A120
        simp only [Option.some.injEq, Prod.mk.injEq] at H
        obtain ⟨rfl, rfl⟩ := H
        go_wp2_with (first | ((with_reducible refine gate_callee (f := 37) rfl ?_); refine goesL_ (some 32) rfl rfl Try.func37 (by kernel_rfl) rfl #[.bool a0] rfl ar_ ?_; (with_reducible refine (parts_greatest.calls a0 t117 _ A12.out).mono ?_); rintro e w' ⟨rfl, ⟨nd, rfl⟩⟩; refine ⟨_, rfl, ?_⟩))
        go_ret2
        exact ⟨by first | rfl | (simp; done) | (simp [*]; done), by repeat (first | exact Drawn0.refl _ | apply Drawn0.step)⟩
def parts_put.f (a0 : Bool) (a1 : Int) (a2 : Int) : Option (Int) := if a1 < 4503599627370496 then ((parts_Zero.f a0).bind fun t118 => (some (Go.bits .or .u64 t118 a1))) else ((parts_Zero.f a0).bind fun t119 => (some (Go.bits .or .u64 (Go.bits .or .u64 t119 (IntKind.u64.wrap ((IntKind.u64.wrap (wrap64 (a2 + 1075))) * 4503599627370496))) (Go.bits .and .u64 a1 4503599627370495))))
set_option maxHeartbeats 8000000 in
set_option maxRecDepth 100000 in
theorem parts_put.calls (a0 : Bool) (a1 : Int) (a2 : Int) (r : Int) (w : World) (h : parts_put.f a0 a1 a2 = some r) :
    Calls Try.prog 32 #[.bool a0, .int .u64 a1, .int .i64 a2] w fun e w' => e = .returned (.int .u64 r) ∧ Drawn0 w w' := by
  have H : (if a1 < 4503599627370496 then ((parts_Zero.f a0).bind fun t118 => (some (Go.bits .or .u64 t118 a1))) else ((parts_Zero.f a0).bind fun t119 => (some (Go.bits .or .u64 (Go.bits .or .u64 t119 (IntKind.u64.wrap ((IntKind.u64.wrap (wrap64 (a2 + 1075))) * 4503599627370496))) (Go.bits .and .u64 a1 4503599627370495))))) = some r := h
  clear h
  by_cases c4 : a1 < 4503599627370496
  · rw [if_pos c4] at H
    have c4b0 : decide (a1 < 4503599627370496) = true := decide_eq_true c4
    clear c4
    replace H := Option.bind_eq_some_iff.mp H
    obtain ⟨t118, A50, H⟩ := H
    replace H : (some (Go.bits .or .u64 t118 a1)) = some r := H
    have A5 := Aside0.mk A50
    clear A50
    obtain rfl := Option.some.inj H
    go_enter Try.func32, Try.ntmps32
    go_wp2_with (first | ((with_reducible refine gate_callee (f := 28) rfl ?_); refine goesL_ (some 10) rfl rfl Try.func28 (by kernel_rfl) rfl #[.bool a0] rfl ar_ ?_; (with_reducible refine (parts_Zero.calls a0 t118 _ A5.out).mono ?_); rintro e w' ⟨rfl, ⟨nd, rfl⟩⟩; refine ⟨_, rfl, ?_⟩))
    go_ret
    exact ⟨by first | rfl | (simp; done) | (simp [*]; done), by repeat (first | exact Drawn0.refl _ | apply Drawn0.step)⟩
  · rw [if_neg c4] at H
    have c4b0 : decide (a1 < 4503599627370496) = false := decide_eq_false c4
    clear c4
    replace H := Option.bind_eq_some_iff.mp H
    obtain ⟨t119, A60, H⟩ := H
    replace H : (some (Go.bits .or .u64 (Go.bits .or .u64 t119 (IntKind.u64.wrap ((IntKind.u64.wrap (wrap64 (a2 + 1075))) * 4503599627370496))) (Go.bits .and .u64 a1 4503599627370495))) = some r := H
    have A6 := Aside0.mk A60
    clear A60
    obtain rfl := Option.some.inj H
    go_enter Try.func32, Try.ntmps32
    go_wp2_with (first | ((with_reducible refine gate_callee (f := 28) rfl ?_); refine goesL_ (some 14) rfl rfl Try.func28 (by kernel_rfl) rfl #[.bool a0] rfl ar_ ?_; (with_reducible refine (parts_Zero.calls a0 t119 _ A6.out).mono ?_); rintro e w' ⟨rfl, ⟨nd, rfl⟩⟩; refine ⟨_, rfl, ?_⟩))
    go_ret
    exact ⟨by first | rfl | (simp; done) | (simp [*]; done), by repeat (first | exact Drawn0.refl _ | apply Drawn0.step)⟩
mutual
def parts_Round.j0 : Nat → Bool → Int → Bool → Int → Int → Int → Int → Option (Int × Int)
  | 0, _, _, _, _, _, _, _ => none
  | k + 1, x0, x3, x4, x5, x15, x121000, x121001 => (parts_wide_cut.f k x121000 x121001 (wrap64 ((mx (wrap64 ((wrap64 ((wrap64 (x3 + x15)) - 1)) - 52)) (-1074)) - x3))).bind fun bt123 => (if bt123.2.2 = true then (parts_Round.j1 k x0 x3 x5 x15 (mx (wrap64 ((wrap64 ((wrap64 (x3 + x15)) - 1)) - 52)) (-1074)) bt123.1 bt123.2.1 true) else (parts_Round.j1 k x0 x3 x5 x15 (mx (wrap64 ((wrap64 ((wrap64 (x3 + x15)) - 1)) - 52)) (-1074)) bt123.1 bt123.2.1 x4))
def parts_Round.j1 : Nat → Bool → Int → Int → Int → Int → Int → Bool → Bool → Option (Int × Int)
  | 0, _, _, _, _, _, _, _, _ => none
  | k + 1, x0, x3, x5, x15, x16, x17, x18, x19 => if x18 = true then (parts_Round.j2 k x0 x3 x5 x15 x16 x17 x18 x19 0 true) else (parts_Round.j2 k x0 x3 x5 x15 x16 x17 x18 x19 0 x19)
def parts_Round.j2 : Nat → Bool → Int → Int → Int → Int → Int → Bool → Bool → Int → Bool → Option (Int × Int)
  | 0, _, _, _, _, _, _, _, _, _, _ => none
  | k + 1, x0, x3, x5, x15, x16, x17, x18, x19, x20, x64 => if x64 = true then (if (wrap64 ((wrap64 (x3 + x15)) - 1)) < (-1022) then (parts_Round.j3 k x0 x5 x16 x17 x18 x19 (Go.bits .or .i64 16 8)) else (parts_Round.j3 k x0 x5 x16 x17 x18 x19 16)) else (parts_Round.j3 k x0 x5 x16 x17 x18 x19 x20)
def parts_Round.j3 : Nat → Bool → Int → Int → Int → Bool → Bool → Int → Option (Int × Int)
  | 0, _, _, _, _, _, _, _ => none
  | k + 1, x0, x5, x16, x17, x18, x19, x20 => (parts_up.f x0 x17 x18 x19 x5).bind fun t126 => (if t126 = true then (parts_Round.j4 k x0 x5 x16 (IntKind.u64.wrap (x17 + 1)) x20) else (parts_Round.j4 k x0 x5 x16 x17 x20))
def parts_Round.j4 : Nat → Bool → Int → Int → Int → Int → Option (Int × Int)
  | 0, _, _, _, _, _ => none
  | k + 1, x0, x5, x16, x17, x20 => if x17 = 9007199254740992 then (parts_Round.j5 k x0 x5 (wrap64 (x16 + 1)) 4503599627370496 x20) else (parts_Round.j5 k x0 x5 x16 x17 x20)
def parts_Round.j5 : Nat → Bool → Int → Int → Int → Int → Option (Int × Int)
  | 0, _, _, _, _, _ => none
  | k + 1, x0, x5, x16, x17, x20 => if x17 ≥ 4503599627370496 then (parts_Round.j6 k x0 x5 x16 x17 x20 (decide ((wrap64 (x16 + 1075)) ≥ 2047))) else (parts_Round.j6 k x0 x5 x16 x17 x20 false)
def parts_Round.j6 : Nat → Bool → Int → Int → Int → Int → Bool → Option (Int × Int)
  | 0, _, _, _, _, _, _ => none
  | k + 1, x0, x5, x16, x17, x20, x90 => if x90 = true then ((parts_over.f k x0 x5).bind fun bt127 => (some (bt127.1, bt127.2))) else ((parts_put.f x0 x17 x16).bind fun t129 => (some (t129, x20)))
end
def parts_Round.f (k : Nat) (a0 : Bool) (a1 : Int) (a2 : Int) (a3 : Int) (a4 : Bool) (a5 : Int) : Option (Int × Int) := (parts_wide_len.f a1 a2).bind fun t121 => (if t121 = 0 then ((parts_Zero.f a0).bind fun t122 => (some (t122, 0))) else (if a4 = true then (if t121 ≥ 55 then (parts_Round.j0 k a0 (mn (mx a3 (-16384)) 16384) true a5 t121 a1 a2) else (parts_Round.j0 k a0 (mn (mx a3 (-16384)) 16384) (decide ((mn (mx a3 (-16384)) 16384) ≤ (-1080))) a5 t121 a1 a2)) else (parts_Round.j0 k a0 (mn (mx a3 (-16384)) 16384) false a5 t121 a1 a2)))
theorem parts_Round.mono_l : ∀ k, (∀ y0 y1 y2 y3 y4 y5 y6, LeO (parts_Round.j0 k y0 y1 y2 y3 y4 y5 y6) (parts_Round.j0 (k + 1) y0 y1 y2 y3 y4 y5 y6)) ∧ (∀ y0 y1 y2 y3 y4 y5 y6 y7, LeO (parts_Round.j1 k y0 y1 y2 y3 y4 y5 y6 y7) (parts_Round.j1 (k + 1) y0 y1 y2 y3 y4 y5 y6 y7)) ∧ (∀ y0 y1 y2 y3 y4 y5 y6 y7 y8 y9, LeO (parts_Round.j2 k y0 y1 y2 y3 y4 y5 y6 y7 y8 y9) (parts_Round.j2 (k + 1) y0 y1 y2 y3 y4 y5 y6 y7 y8 y9)) ∧ (∀ y0 y1 y2 y3 y4 y5 y6, LeO (parts_Round.j3 k y0 y1 y2 y3 y4 y5 y6) (parts_Round.j3 (k + 1) y0 y1 y2 y3 y4 y5 y6)) ∧ (∀ y0 y1 y2 y3 y4, LeO (parts_Round.j4 k y0 y1 y2 y3 y4) (parts_Round.j4 (k + 1) y0 y1 y2 y3 y4)) ∧ (∀ y0 y1 y2 y3 y4, LeO (parts_Round.j5 k y0 y1 y2 y3 y4) (parts_Round.j5 (k + 1) y0 y1 y2 y3 y4)) ∧ (∀ y0 y1 y2 y3 y4 y5, LeO (parts_Round.j6 k y0 y1 y2 y3 y4 y5) (parts_Round.j6 (k + 1) y0 y1 y2 y3 y4 y5))
  | 0 => ⟨fun _ _ _ _ _ _ _ r h => by simp [parts_Round.j0] at h, fun _ _ _ _ _ _ _ _ r h => by simp [parts_Round.j1] at h, fun _ _ _ _ _ _ _ _ _ _ r h => by simp [parts_Round.j2] at h, fun _ _ _ _ _ _ _ r h => by simp [parts_Round.j3] at h, fun _ _ _ _ _ r h => by simp [parts_Round.j4] at h, fun _ _ _ _ _ r h => by simp [parts_Round.j5] at h, fun _ _ _ _ _ _ r h => by simp [parts_Round.j6] at h⟩
  | k + 1 => by
    obtain ⟨ih0, ih1, ih2, ih3, ih4, ih5, ih6⟩ := parts_Round.mono_l k
    refine ⟨?_, ?_, ?_, ?_, ?_, ?_, ?_⟩
    · intro y0 y1 y2 y3 y4 y5 y6
      unfold parts_Round.j0
      repeat' first
      | (with_reducible exact ih0 _ _ _ _ _ _ _)
      | (with_reducible exact ih1 _ _ _ _ _ _ _ _)
      | (with_reducible exact ih2 _ _ _ _ _ _ _ _ _ _)
      | (with_reducible exact ih3 _ _ _ _ _ _ _)
      | (with_reducible exact ih4 _ _ _ _ _)
      | (with_reducible exact ih5 _ _ _ _ _)
      | (with_reducible exact ih6 _ _ _ _ _ _)
      | (with_reducible exact parts_over.mono _ _ _)
      | (with_reducible exact parts_wide_cut.mono _ _ _ _)
      | (with_reducible exact LeO.refl _)
      | (with_reducible exact LeO.none _)
      | (with_reducible refine LeO.ite ?_ ?_)
      | (with_reducible refine LeO.bind ?_ (fun _ => ?_))
      | exact ih0 _ _ _ _ _ _ _
      | exact ih1 _ _ _ _ _ _ _ _
      | exact ih2 _ _ _ _ _ _ _ _ _ _
      | exact ih3 _ _ _ _ _ _ _
      | exact ih4 _ _ _ _ _
      | exact ih5 _ _ _ _ _
      | exact ih6 _ _ _ _ _ _
      | exact parts_over.mono _ _ _
      | exact parts_wide_cut.mono _ _ _ _
      | exact LeO.none _
      | refine LeO.ite ?_ ?_
      | refine LeO.bind ?_ (fun _ => ?_)
    · intro y0 y1 y2 y3 y4 y5 y6 y7
      unfold parts_Round.j1
      repeat' first
      | (with_reducible exact ih0 _ _ _ _ _ _ _)
      | (with_reducible exact ih1 _ _ _ _ _ _ _ _)
      | (with_reducible exact ih2 _ _ _ _ _ _ _ _ _ _)
      | (with_reducible exact ih3 _ _ _ _ _ _ _)
      | (with_reducible exact ih4 _ _ _ _ _)
      | (with_reducible exact ih5 _ _ _ _ _)
      | (with_reducible exact ih6 _ _ _ _ _ _)
      | (with_reducible exact parts_over.mono _ _ _)
      | (with_reducible exact parts_wide_cut.mono _ _ _ _)
      | (with_reducible exact LeO.refl _)
      | (with_reducible exact LeO.none _)
      | (with_reducible refine LeO.ite ?_ ?_)
      | (with_reducible refine LeO.bind ?_ (fun _ => ?_))
      | exact ih0 _ _ _ _ _ _ _
      | exact ih1 _ _ _ _ _ _ _ _
      | exact ih2 _ _ _ _ _ _ _ _ _ _
      | exact ih3 _ _ _ _ _ _ _
      | exact ih4 _ _ _ _ _
      | exact ih5 _ _ _ _ _
      | exact ih6 _ _ _ _ _ _
      | exact parts_over.mono _ _ _
      | exact parts_wide_cut.mono _ _ _ _
      | exact LeO.none _
      | refine LeO.ite ?_ ?_
      | refine LeO.bind ?_ (fun _ => ?_)
    · intro y0 y1 y2 y3 y4 y5 y6 y7 y8 y9
      unfold parts_Round.j2
      repeat' first
      | (with_reducible exact ih0 _ _ _ _ _ _ _)
      | (with_reducible exact ih1 _ _ _ _ _ _ _ _)
      | (with_reducible exact ih2 _ _ _ _ _ _ _ _ _ _)
      | (with_reducible exact ih3 _ _ _ _ _ _ _)
      | (with_reducible exact ih4 _ _ _ _ _)
      | (with_reducible exact ih5 _ _ _ _ _)
      | (with_reducible exact ih6 _ _ _ _ _ _)
      | (with_reducible exact parts_over.mono _ _ _)
      | (with_reducible exact parts_wide_cut.mono _ _ _ _)
      | (with_reducible exact LeO.refl _)
      | (with_reducible exact LeO.none _)
      | (with_reducible refine LeO.ite ?_ ?_)
      | (with_reducible refine LeO.bind ?_ (fun _ => ?_))
      | exact ih0 _ _ _ _ _ _ _
      | exact ih1 _ _ _ _ _ _ _ _
      | exact ih2 _ _ _ _ _ _ _ _ _ _
      | exact ih3 _ _ _ _ _ _ _
      | exact ih4 _ _ _ _ _
      | exact ih5 _ _ _ _ _
      | exact ih6 _ _ _ _ _ _
      | exact parts_over.mono _ _ _
      | exact parts_wide_cut.mono _ _ _ _
      | exact LeO.none _
      | refine LeO.ite ?_ ?_
      | refine LeO.bind ?_ (fun _ => ?_)
    · intro y0 y1 y2 y3 y4 y5 y6
      unfold parts_Round.j3
      repeat' first
      | (with_reducible exact ih0 _ _ _ _ _ _ _)
      | (with_reducible exact ih1 _ _ _ _ _ _ _ _)
      | (with_reducible exact ih2 _ _ _ _ _ _ _ _ _ _)
      | (with_reducible exact ih3 _ _ _ _ _ _ _)
      | (with_reducible exact ih4 _ _ _ _ _)
      | (with_reducible exact ih5 _ _ _ _ _)
      | (with_reducible exact ih6 _ _ _ _ _ _)
      | (with_reducible exact parts_over.mono _ _ _)
      | (with_reducible exact parts_wide_cut.mono _ _ _ _)
      | (with_reducible exact LeO.refl _)
      | (with_reducible exact LeO.none _)
      | (with_reducible refine LeO.ite ?_ ?_)
      | (with_reducible refine LeO.bind ?_ (fun _ => ?_))
      | exact ih0 _ _ _ _ _ _ _
      | exact ih1 _ _ _ _ _ _ _ _
      | exact ih2 _ _ _ _ _ _ _ _ _ _
      | exact ih3 _ _ _ _ _ _ _
      | exact ih4 _ _ _ _ _
      | exact ih5 _ _ _ _ _
      | exact ih6 _ _ _ _ _ _
      | exact parts_over.mono _ _ _
      | exact parts_wide_cut.mono _ _ _ _
      | exact LeO.none _
      | refine LeO.ite ?_ ?_
      | refine LeO.bind ?_ (fun _ => ?_)
    · intro y0 y1 y2 y3 y4
      unfold parts_Round.j4
      repeat' first
      | (with_reducible exact ih0 _ _ _ _ _ _ _)
      | (with_reducible exact ih1 _ _ _ _ _ _ _ _)
      | (with_reducible exact ih2 _ _ _ _ _ _ _ _ _ _)
      | (with_reducible exact ih3 _ _ _ _ _ _ _)
      | (with_reducible exact ih4 _ _ _ _ _)
      | (with_reducible exact ih5 _ _ _ _ _)
      | (with_reducible exact ih6 _ _ _ _ _ _)
      | (with_reducible exact parts_over.mono _ _ _)
      | (with_reducible exact parts_wide_cut.mono _ _ _ _)
      | (with_reducible exact LeO.refl _)
      | (with_reducible exact LeO.none _)
      | (with_reducible refine LeO.ite ?_ ?_)
      | (with_reducible refine LeO.bind ?_ (fun _ => ?_))
      | exact ih0 _ _ _ _ _ _ _
      | exact ih1 _ _ _ _ _ _ _ _
      | exact ih2 _ _ _ _ _ _ _ _ _ _
      | exact ih3 _ _ _ _ _ _ _
      | exact ih4 _ _ _ _ _
      | exact ih5 _ _ _ _ _
      | exact ih6 _ _ _ _ _ _
      | exact parts_over.mono _ _ _
      | exact parts_wide_cut.mono _ _ _ _
      | exact LeO.none _
      | refine LeO.ite ?_ ?_
      | refine LeO.bind ?_ (fun _ => ?_)
    · intro y0 y1 y2 y3 y4
      unfold parts_Round.j5
      repeat' first
      | (with_reducible exact ih0 _ _ _ _ _ _ _)
      | (with_reducible exact ih1 _ _ _ _ _ _ _ _)
      | (with_reducible exact ih2 _ _ _ _ _ _ _ _ _ _)
      | (with_reducible exact ih3 _ _ _ _ _ _ _)
      | (with_reducible exact ih4 _ _ _ _ _)
      | (with_reducible exact ih5 _ _ _ _ _)
      | (with_reducible exact ih6 _ _ _ _ _ _)
      | (with_reducible exact parts_over.mono _ _ _)
      | (with_reducible exact parts_wide_cut.mono _ _ _ _)
      | (with_reducible exact LeO.refl _)
      | (with_reducible exact LeO.none _)
      | (with_reducible refine LeO.ite ?_ ?_)
      | (with_reducible refine LeO.bind ?_ (fun _ => ?_))
      | exact ih0 _ _ _ _ _ _ _
      | exact ih1 _ _ _ _ _ _ _ _
      | exact ih2 _ _ _ _ _ _ _ _ _ _
      | exact ih3 _ _ _ _ _ _ _
      | exact ih4 _ _ _ _ _
      | exact ih5 _ _ _ _ _
      | exact ih6 _ _ _ _ _ _
      | exact parts_over.mono _ _ _
      | exact parts_wide_cut.mono _ _ _ _
      | exact LeO.none _
      | refine LeO.ite ?_ ?_
      | refine LeO.bind ?_ (fun _ => ?_)
    · intro y0 y1 y2 y3 y4 y5
      unfold parts_Round.j6
      repeat' first
      | (with_reducible exact ih0 _ _ _ _ _ _ _)
      | (with_reducible exact ih1 _ _ _ _ _ _ _ _)
      | (with_reducible exact ih2 _ _ _ _ _ _ _ _ _ _)
      | (with_reducible exact ih3 _ _ _ _ _ _ _)
      | (with_reducible exact ih4 _ _ _ _ _)
      | (with_reducible exact ih5 _ _ _ _ _)
      | (with_reducible exact ih6 _ _ _ _ _ _)
      | (with_reducible exact parts_over.mono _ _ _)
      | (with_reducible exact parts_wide_cut.mono _ _ _ _)
      | (with_reducible exact LeO.refl _)
      | (with_reducible exact LeO.none _)
      | (with_reducible refine LeO.ite ?_ ?_)
      | (with_reducible refine LeO.bind ?_ (fun _ => ?_))
      | exact ih0 _ _ _ _ _ _ _
      | exact ih1 _ _ _ _ _ _ _ _
      | exact ih2 _ _ _ _ _ _ _ _ _ _
      | exact ih3 _ _ _ _ _ _ _
      | exact ih4 _ _ _ _ _
      | exact ih5 _ _ _ _ _
      | exact ih6 _ _ _ _ _ _
      | exact parts_over.mono _ _ _
      | exact parts_wide_cut.mono _ _ _ _
      | exact LeO.none _
      | refine LeO.ite ?_ ?_
      | refine LeO.bind ?_ (fun _ => ?_)
theorem parts_Round.mono : ∀ a0 a1 a2 a3 a4 a5 k, LeO (parts_Round.f k a0 a1 a2 a3 a4 a5) (parts_Round.f (k + 1) a0 a1 a2 a3 a4 a5) := by
  intro a0 a1 a2 a3 a4 a5 k
  obtain ⟨ih0, ih1, ih2, ih3, ih4, ih5, ih6⟩ := parts_Round.mono_l k
  unfold parts_Round.f
  repeat' first
      | (with_reducible exact ih0 _ _ _ _ _ _ _)
      | (with_reducible exact ih1 _ _ _ _ _ _ _ _)
      | (with_reducible exact ih2 _ _ _ _ _ _ _ _ _ _)
      | (with_reducible exact ih3 _ _ _ _ _ _ _)
      | (with_reducible exact ih4 _ _ _ _ _)
      | (with_reducible exact ih5 _ _ _ _ _)
      | (with_reducible exact ih6 _ _ _ _ _ _)
      | (with_reducible exact parts_over.mono _ _ _)
      | (with_reducible exact parts_wide_cut.mono _ _ _ _)
      | (with_reducible exact LeO.refl _)
      | (with_reducible exact LeO.none _)
      | (with_reducible refine LeO.ite ?_ ?_)
      | (with_reducible refine LeO.bind ?_ (fun _ => ?_))
      | exact ih0 _ _ _ _ _ _ _
      | exact ih1 _ _ _ _ _ _ _ _
      | exact ih2 _ _ _ _ _ _ _ _ _ _
      | exact ih3 _ _ _ _ _ _ _
      | exact ih4 _ _ _ _ _
      | exact ih5 _ _ _ _ _
      | exact ih6 _ _ _ _ _ _
      | exact parts_over.mono _ _ _
      | exact parts_wide_cut.mono _ _ _ _
      | exact LeO.none _
      | refine LeO.ite ?_ ?_
      | refine LeO.bind ?_ (fun _ => ?_)
set_option maxHeartbeats 8000000 in
set_option maxRecDepth 100000 in
theorem parts_Round.calls (k : Nat) (a0 : Bool) (a1 : Int) (a2 : Int) (a3 : Int) (a4 : Bool) (a5 : Int) (r1 : Int) (r2 : Int) (w : World) (h : parts_Round.f k a0 a1 a2 a3 a4 a5 = some (r1, r2)) :
    Calls Try.prog 17 #[.bool a0, .int .u64 a1, .int .u64 a2, .int .i64 a3, .bool a4, .int .i64 a5] w fun e w' => e = .returned (.tuple #[.int .u64 r1, .int .i64 r2]) ∧ Below w.heap.size w w' := by
  have hu55 := Try.underlying55
  have HB := Aside0.mk (Below.refl w.heap.size w)
  have H : ((parts_wide_len.f a1 a2).bind fun t121 => (if t121 = 0 then ((parts_Zero.f a0).bind fun t122 => (some (t122, 0))) else (if a4 = true then (if t121 ≥ 55 then (parts_Round.j0 k a0 (mn (mx a3 (-16384)) 16384) true a5 t121 a1 a2) else (parts_Round.j0 k a0 (mn (mx a3 (-16384)) 16384) (decide ((mn (mx a3 (-16384)) 16384) ≤ (-1080))) a5 t121 a1 a2)) else (parts_Round.j0 k a0 (mn (mx a3 (-16384)) 16384) false a5 t121 a1 a2)))) = some (r1, r2) := h
  clear h
  replace H := Option.bind_eq_some_iff.mp H
  obtain ⟨t121, A70, H⟩ := H
  replace H : (if t121 = 0 then ((parts_Zero.f a0).bind fun t122 => (some (t122, 0))) else (if a4 = true then (if t121 ≥ 55 then (parts_Round.j0 k a0 (mn (mx a3 (-16384)) 16384) true a5 t121 a1 a2) else (parts_Round.j0 k a0 (mn (mx a3 (-16384)) 16384) (decide ((mn (mx a3 (-16384)) 16384) ≤ (-1080))) a5 t121 a1 a2)) else (parts_Round.j0 k a0 (mn (mx a3 (-16384)) 16384) false a5 t121 a1 a2))) = some (r1, r2) := H
  have A7 := Aside0.mk A70
  clear A70
  obtain ⟨ji8, hji8⟩ : ∃ j_ : Int, (mx a3 (-16384)) = j_ := ⟨_, rfl⟩
  replace H : (if t121 = 0 then ((parts_Zero.f a0).bind fun t122 => (some (t122, 0))) else (if a4 = true then (if t121 ≥ 55 then (parts_Round.j0 k a0 (mn (ji8) 16384) true a5 t121 a1 a2) else (parts_Round.j0 k a0 (mn (ji8) 16384) (decide ((mn (ji8) 16384) ≤ (-1080))) a5 t121 a1 a2)) else (parts_Round.j0 k a0 (mn (ji8) 16384) false a5 t121 a1 a2))) = some (r1, r2) := by first | (rw [hji8] at H; exact H) | (simp only [hji8] at H ⊢; exact H)
  (try rw [hji8] at A7)
  have hji8_ : (if a3 < (-16384) then (-16384) else a3) = ji8 := hji8
  (try (have hji8n := hji8_; simp only [Int.ofNat_lt] at hji8n))
  obtain ⟨ji9, hji9⟩ : ∃ j_ : Int, (mn (ji8) 16384) = j_ := ⟨_, rfl⟩
  replace H : (if t121 = 0 then ((parts_Zero.f a0).bind fun t122 => (some (t122, 0))) else (if a4 = true then (if t121 ≥ 55 then (parts_Round.j0 k a0 ji9 true a5 t121 a1 a2) else (parts_Round.j0 k a0 ji9 (decide ((ji9) ≤ (-1080))) a5 t121 a1 a2)) else (parts_Round.j0 k a0 ji9 false a5 t121 a1 a2))) = some (r1, r2) := by first | (rw [hji9] at H; exact H) | (simp only [hji9] at H ⊢; exact H)
  (try rw [hji9] at A7)
  have hji9_ : (if 16384 < (ji8) then 16384 else (ji8)) = ji9 := hji9
  (try (have hji9n := hji9_; simp only [Int.ofNat_lt] at hji9n))
  by_cases c10 : t121 = 0
  · rw [if_pos c10] at H
    have c10b0 : (t121 == 0) = true := beq_iff_eq.mpr c10
    have c10b1 : (t121 != 0) = false := bne_eq_false_iff_eq.mpr c10
    clear c10
    replace H := Option.bind_eq_some_iff.mp H
    obtain ⟨t122, A110, H⟩ := H
    replace H : (some (t122, 0)) = some (r1, r2) := H
    have A11 := Aside0.mk A110
    clear A110
    simp only [Option.some.injEq, Prod.mk.injEq] at H
    obtain ⟨rfl, rfl⟩ := H
    go_enter Try.func17, Try.ntmps17
    go_wp2_with (first | ((with_reducible refine gate_dst (N := 14) rfl ?_); refine box_event ?hg (N := 14) ?hd (cs := #[.int .u64 0, .int .u64 0]) (t := 55) ?hr ?_; (case hd => rfl); (case hg => rfl); (case hr => first | (go_simp; done) | (go_simp; rfl)); intro gb120 hg w12 hbox hb; have n0_ := Aside0.mk (below_step (dn_ HB) hb); have n1_ := Aside0.mk (hbox); have n2_ := Aside0.mk ((by rw [hg]; exact (below_size (dn_ HB)) : w.heap.size ≤ gb120)); have n3_ := Aside0.mk ((by rw [hg]; exact (below_size (dn_ HB)) : w.heap.size ≤ gb120)); clear HB; have HB := n0_; have BK120 := n1_; have GW120 := n2_; have GE120 := n3_; clear n0_ n1_ n2_ n3_; clear hb hbox hg; have hcz13_0 : w12.cell? ⟨gb120, 0, none⟩ = some (.int .u64 0) := (blk_cell BK120.out 0).trans rfl; have hcz13_1 : w12.cell? ⟨gb120, 1, none⟩ = some (.int .u64 0) := (blk_cell BK120.out 1).trans rfl; have hfz13_0 := blk_frozen BK120.out 0; have hfz13_1 := blk_frozen BK120.out 1) | ((with_reducible refine gate_callee (f := 27) rfl ?_); refine goesL_ (some 25) rfl rfl Try.func27 (by kernel_rfl) rfl #[.agg #[.int .u64 a1, .int .u64 a2]] rfl ar_ ?_; (with_reducible refine (parts_wide_len.calls a1 a2 t121 _ A7.out).mono ?_); rintro e w14 ⟨rfl, hb⟩; refine ⟨_, rfl, ?_⟩; have n0_ := Aside0.mk (blk_below (g := gb120) (o := .cells #[.int .u64 a1, .int .u64 a2] 55 (0, 0)) (by (with_reducible repeat (first | refine blk_drewN ?_ _ | refine blk_drew ?_ | refine blk_alloc ?_ _)); refine blk_put (cs := #[.int .u64 a1, .int .u64 0]) ?_ 1 _ rfl; (with_reducible repeat (first | refine blk_drewN ?_ _ | refine blk_drew ?_ | refine blk_alloc ?_ _)); refine blk_put (cs := #[.int .u64 0, .int .u64 0]) ?_ 0 _ rfl; (with_reducible repeat (first | refine blk_drewN ?_ _ | refine blk_drew ?_ | refine blk_alloc ?_ _)); exact BK120.out) hb); have n1_ := Aside0.mk (below_step (by repeat (first | (with_reducible first | exact HB.out | apply below_alloc | apply pw_below_drewN | apply below_drew1 | refine below_set ?_ GE120.out) | exact HB.out)) hb); clear BK120; clear HB; have BK120 := n0_; have HB := n1_; clear n0_ n1_; (try clear hb)) | ((with_reducible refine gate_callee (f := 28) rfl ?_); refine goesL_ (some 32) rfl rfl Try.func28 (by kernel_rfl) rfl #[.bool a0] rfl ar_ ?_; (with_reducible refine (parts_Zero.calls a0 t122 _ A11.out).mono ?_); rintro e w' ⟨rfl, ⟨nd, rfl⟩⟩; refine ⟨_, rfl, ?_⟩))
    go_ret2
    exact ⟨by first | rfl | (simp [errW_none, errW_some] <;> rfl) | (simp only [← hji8, ← hji9]; first | rfl | (simp [errW_none, errW_some] <;> rfl)) | (simp [*, errW_none, errW_some] <;> rfl), by repeat (first | (with_reducible first | exact HB.out | apply below_alloc | apply pw_below_drewN | apply below_drew1 | refine below_set ?_ GE120.out) | exact HB.out)⟩
  · rw [if_neg c10] at H
    have c10b0 : (t121 == 0) = false := beq_eq_false_iff_ne.mpr c10
    have c10b1 : (t121 != 0) = true := bne_iff_ne.mpr c10
    have HC15 := Aside0.mk H
    clear H
    go_enter Try.func17, Try.ntmps17
    go_upto_region 6 with (first | ((with_reducible refine gate_dst (N := 14) rfl ?_); refine box_event ?hg (N := 14) ?hd (cs := #[.int .u64 0, .int .u64 0]) (t := 55) ?hr ?_; (case hd => rfl); (case hg => rfl); (case hr => first | (go_simp; done) | (go_simp; rfl)); intro gb120 hg w16 hbox hb; have n0_ := Aside0.mk (below_step (dn_ HB) hb); have n1_ := Aside0.mk (hbox); have n2_ := Aside0.mk ((by rw [hg]; exact (below_size (dn_ HB)) : w.heap.size ≤ gb120)); have n3_ := Aside0.mk ((by rw [hg]; exact (below_size (dn_ HB)) : w.heap.size ≤ gb120)); clear HB; have HB := n0_; have BK120 := n1_; have GW120 := n2_; have GE120 := n3_; clear n0_ n1_ n2_ n3_; clear hb hbox hg; have hcz17_0 : w16.cell? ⟨gb120, 0, none⟩ = some (.int .u64 0) := (blk_cell BK120.out 0).trans rfl; have hcz17_1 : w16.cell? ⟨gb120, 1, none⟩ = some (.int .u64 0) := (blk_cell BK120.out 1).trans rfl; have hfz17_0 := blk_frozen BK120.out 0; have hfz17_1 := blk_frozen BK120.out 1) | ((with_reducible refine gate_callee (f := 27) rfl ?_); refine goesL_ (some 25) rfl rfl Try.func27 (by kernel_rfl) rfl #[.agg #[.int .u64 a1, .int .u64 a2]] rfl ar_ ?_; (with_reducible refine (parts_wide_len.calls a1 a2 t121 _ A7.out).mono ?_); rintro e w18 ⟨rfl, hb⟩; refine ⟨_, rfl, ?_⟩; have n0_ := Aside0.mk (blk_below (g := gb120) (o := .cells #[.int .u64 a1, .int .u64 a2] 55 (0, 0)) (by (with_reducible repeat (first | refine blk_drewN ?_ _ | refine blk_drew ?_ | refine blk_alloc ?_ _)); refine blk_put (cs := #[.int .u64 a1, .int .u64 0]) ?_ 1 _ rfl; (with_reducible repeat (first | refine blk_drewN ?_ _ | refine blk_drew ?_ | refine blk_alloc ?_ _)); refine blk_put (cs := #[.int .u64 0, .int .u64 0]) ?_ 0 _ rfl; (with_reducible repeat (first | refine blk_drewN ?_ _ | refine blk_drew ?_ | refine blk_alloc ?_ _)); exact BK120.out) hb); have n1_ := Aside0.mk (below_step (by repeat (first | (with_reducible first | exact HB.out | apply below_alloc | apply pw_below_drewN | apply below_drew1 | refine below_set ?_ GE120.out) | exact HB.out)) hb); clear BK120; clear HB; have BK120 := n0_; have HB := n1_; clear n0_ n1_; (try clear hb)))
    (try simp only [Act.put, List.setIfInBounds_toArray, List.set_cons_zero, List.set_cons_succ])
    go_cut [4] (fun v4 wc => ∃ (kq : Nat) (x4_14 : Bool), v4 = .bool x4_14 ∧ Aside0 (parts_Round.j0 kq a0 ji9 x4_14 a5 t121 a1 a2 = some (r1, r2)) ∧ Aside0 (kq ≤ k) ∧ Aside0 (wc.heap[gb120]? = some (.cells #[.int .u64 a1, .int .u64 a2] 55 (0, 0))) ∧ Aside0 (Below w.heap.size w wc))
    case first =>
      have H := HC15.out
      clear HC15
      by_cases c19 : a4 = true
      · subst c19
        have H1 : (if t121 ≥ 55 then (parts_Round.j0 k a0 ji9 true a5 t121 a1 a2) else (parts_Round.j0 k a0 ji9 (decide ((ji9) ≤ (-1080))) a5 t121 a1 a2)) = some (r1, r2) := by rw [if_pos rfl] at H; exact H
        clear H
        have H := H1
        clear H1
        by_cases c20 : t121 ≥ 55
        · rw [if_pos c20] at H
          have c20b0 : decide (55 ≤ t121) = true := decide_eq_true c20
          clear c20
          (first | rw [c20b0] | (simp only [i64_w, i32_w]; rw [c20b0]) | skip)
          have H' := Aside0.mk H
          clear H
          go_wp2
          go_meet
          case rel => exact ⟨_, (true), (by first | rfl | (simp; done) | (simp [*]; done)), H', ⟨by first | omega | exact Nat.le_refl _⟩, ⟨by (with_reducible repeat (first | refine blk_drewN ?_ _ | refine blk_drew ?_ | refine blk_alloc ?_ _)); exact BK120.out⟩, ⟨by repeat (first | (with_reducible first | exact HB.out | apply below_alloc | apply pw_below_drewN | apply below_drew1 | refine below_set ?_ GE120.out) | exact HB.out)⟩⟩
        · rw [if_neg c20] at H
          have c20b0 : decide (55 ≤ t121) = false := decide_eq_false c20
          clear c20
          (first | rw [c20b0] | (simp only [i64_w, i32_w]; rw [c20b0]) | skip)
          have H' := Aside0.mk H
          clear H
          go_wp2
          go_meet
          case rel => exact ⟨_, (decide ((ji9) ≤ (-1080))), (by first | rfl | (simp; done) | (simp only [← hji9] <;> (first | rfl | simp)) | (simp [*]; done)), H', ⟨by first | omega | exact Nat.le_refl _⟩, ⟨by (with_reducible repeat (first | refine blk_drewN ?_ _ | refine blk_drew ?_ | refine blk_alloc ?_ _)); exact BK120.out⟩, ⟨by repeat (first | (with_reducible first | exact HB.out | apply below_alloc | apply pw_below_drewN | apply below_drew1 | refine below_set ?_ GE120.out) | exact HB.out)⟩⟩
      · replace c19 := Bool.eq_false_iff.mpr c19
        subst c19
        have H1 : (parts_Round.j0 k a0 ji9 false a5 t121 a1 a2) = some (r1, r2) := by rw [if_neg (show ¬ (false = true) by decide)] at H; exact H
        clear H
        have H := H1
        clear H1
        have H' := Aside0.mk H
        clear H
        go_wp2
        go_meet
        case rel => exact ⟨_, (false), (by first | rfl | (simp; done) | (simp [*]; done)), H', ⟨by first | omega | exact Nat.le_refl _⟩, ⟨by (with_reducible repeat (first | refine blk_drewN ?_ _ | refine blk_drew ?_ | refine blk_alloc ?_ _)); exact BK120.out⟩, ⟨by repeat (first | (with_reducible first | exact HB.out | apply below_alloc | apply pw_below_drewN | apply below_drew1 | refine below_set ?_ GE120.out) | exact HB.out)⟩⟩
    case rest =>
      clear HC15
      try clear c1
      try clear c2
      try clear p2
      try clear c10
      try clear c10b0
      try clear c10b1
      try clear c17
      try clear c19
      try clear c20
      try clear c20b0
      try clear hcz13_0
      try clear hcz13_1
      try clear hcz17_0
      try clear hcz17_1
      try clear hfz13_0
      try clear hfz13_1
      try clear hfz17_0
      try clear hfz17_1
      obtain ⟨kq, x4_14, rfl, HA, HJ14, BK120, HB⟩ := hcut
      cases kq with
      | zero => exact absurd HA.out (by simp [parts_Round.j0])
      | succ kj14 =>
        have H := HA.out
        clear HA
        simp only [parts_Round.j0] at H
        obtain ⟨ji21, hji21⟩ : ∃ j_ : Int, (mx (wrap64 ((wrap64 ((wrap64 (ji9 + t121)) - 1)) - 52)) (-1074)) = j_ := ⟨_, rfl⟩
        replace H : ((parts_wide_cut.f kj14 a1 a2 (wrap64 ((ji21) - ji9))).bind fun bt123 => (if bt123.2.2 = true then (parts_Round.j1 kj14 a0 ji9 a5 t121 ji21 bt123.1 bt123.2.1 true) else (parts_Round.j1 kj14 a0 ji9 a5 t121 ji21 bt123.1 bt123.2.1 x4_14))) = some (r1, r2) := by first | (rw [hji21] at H; exact H) | (simp only [hji21] at H ⊢; exact H)
        have hji21_ : (if (wrap64 ((wrap64 ((wrap64 (ji9 + t121)) - 1)) - 52)) < (-1074) then (-1074) else (wrap64 ((wrap64 ((wrap64 (ji9 + t121)) - 1)) - 52))) = ji21 := hji21
        (try (have hji21n := hji21_; simp only [Int.ofNat_lt] at hji21n))
        replace H := Option.bind_eq_some_iff.mp H
        obtain ⟨⟨t123, t124, t125⟩, A220, H⟩ := H
        replace H : (if t125 = true then (parts_Round.j1 kj14 a0 ji9 a5 t121 ji21 t123 t124 true) else (parts_Round.j1 kj14 a0 ji9 a5 t121 ji21 t123 t124 x4_14)) = some (r1, r2) := H
        have A22 := Aside0.mk A220
        clear A220
        have HC23 := Aside0.mk H
        clear H
        have hcz24_0 : wc.cell? ⟨gb120, 0, none⟩ = some (.int .u64 a1) := (blk_cell BK120.out 0).trans rfl
        have hcz24_1 : wc.cell? ⟨gb120, 1, none⟩ = some (.int .u64 a2) := (blk_cell BK120.out 1).trans rfl
        have hfz24_0 := blk_frozen BK120.out 0
        have hfz24_1 := blk_frozen BK120.out 1
        go_upto_region 9 with (first | ((with_reducible refine gate_callee (f := 29) rfl ?_); refine goesL_ (some 53) rfl rfl Try.func29 (by kernel_rfl) rfl #[.agg #[.int .u64 a1, .int .u64 a2], .int .i64 (wrap64 ((ji21) - ji9))] rfl (by (try simp only [List.map_toArray, List.map_cons, List.map_nil]); first | done | (simp only [hji21, hji9]; rfl) | rfl | (simp only [List.length_drop, List.length_take]; rfl)) ?_; (with_reducible refine (parts_wide_cut.calls kj14 a1 a2 (wrap64 ((ji21) - ji9)) t123 t124 t125 _ A22.out).mono ?_); rintro e w25 ⟨rfl, hb⟩; refine ⟨_, rfl, ?_⟩; have n0_ := Aside0.mk (blk_below (g := gb120) (o := .cells #[.int .u64 a1, .int .u64 a2] 55 (0, 0)) (by (with_reducible repeat (first | refine blk_drewN ?_ _ | refine blk_drew ?_ | refine blk_alloc ?_ _)); exact BK120.out) hb); have n1_ := Aside0.mk (below_step (by repeat (first | (with_reducible first | exact HB.out | apply below_alloc | apply pw_below_drewN | apply below_drew1 | refine below_set ?_ GE120.out) | exact HB.out)) hb); clear BK120; clear HB; have BK120 := n0_; have HB := n1_; clear n0_ n1_; (try clear hb)))
        (try simp only [Act.put, List.setIfInBounds_toArray, List.set_cons_zero, List.set_cons_succ])
        go_cut [19] (fun v19 wc => ∃ (kq : Nat) (x19_22 : Bool), v19 = .bool x19_22 ∧ Aside0 (parts_Round.j1 kq a0 ji9 a5 t121 ji21 t123 t124 x19_22 = some (r1, r2)) ∧ Aside0 (kq ≤ kj14) ∧ Aside0 (wc.heap[gb120]? = some (.cells #[.int .u64 a1, .int .u64 a2] 55 (0, 0))) ∧ Aside0 (Below w.heap.size w wc))
        case first =>
          have H := HC23.out
          clear HC23
          by_cases c26 : t125 = true
          · subst c26
            have H1 : (parts_Round.j1 kj14 a0 ji9 a5 t121 ji21 t123 t124 true) = some (r1, r2) := by rw [if_pos rfl] at H; exact H
            clear H
            have H := H1
            clear H1
            have H' := Aside0.mk H
            clear H
            go_wp2
            go_meet
            case rel => exact ⟨_, (true), (by first | rfl | (simp; done) | (simp [*]; done)), H', ⟨by have := HJ14.out; first | omega | exact Nat.le_refl _⟩, ⟨by (with_reducible repeat (first | refine blk_drewN ?_ _ | refine blk_drew ?_ | refine blk_alloc ?_ _)); exact BK120.out⟩, ⟨by repeat (first | (with_reducible first | exact HB.out | apply below_alloc | apply pw_below_drewN | apply below_drew1 | refine below_set ?_ GE120.out) | exact HB.out)⟩⟩
          · replace c26 := Bool.eq_false_iff.mpr c26
            subst c26
            have H1 : (parts_Round.j1 kj14 a0 ji9 a5 t121 ji21 t123 t124 x4_14) = some (r1, r2) := by rw [if_neg (show ¬ (false = true) by decide)] at H; exact H
            clear H
            have H := H1
            clear H1
            have H' := Aside0.mk H
            clear H
            go_wp2
            go_meet
            case rel => exact ⟨_, (x4_14), (by first | rfl | (simp; done) | (simp [*]; done)), H', ⟨by have := HJ14.out; first | omega | exact Nat.le_refl _⟩, ⟨by (with_reducible repeat (first | refine blk_drewN ?_ _ | refine blk_drew ?_ | refine blk_alloc ?_ _)); exact BK120.out⟩, ⟨by repeat (first | (with_reducible first | exact HB.out | apply below_alloc | apply pw_below_drewN | apply below_drew1 | refine below_set ?_ GE120.out) | exact HB.out)⟩⟩
        case rest =>
          clear HC23
          try clear c1
          try clear c2
          try clear p2
          try clear p6
          try clear c10
          try clear c10b0
          try clear c10b1
          try clear c17
          try clear c19
          try clear c20
          try clear c20b0
          try clear c26
          try clear hcz13_0
          try clear hcz13_1
          try clear hcz17_0
          try clear hcz17_1
          try clear hcz24_0
          try clear hcz24_1
          try clear hfz13_0
          try clear hfz13_1
          try clear hfz17_0
          try clear hfz17_1
          try clear hfz24_0
          try clear hfz24_1
          try clear p2
          obtain ⟨kq, x19_22, rfl, HA, HJ22, BK120, HB⟩ := hcut
          cases kq with
          | zero => exact absurd HA.out (by simp [parts_Round.j1])
          | succ kj22 =>
            have H := HA.out
            clear HA
            simp only [parts_Round.j1] at H
            have HC27 := Aside0.mk H
            clear H
            go_upto_region 11 with (fail)
            go_cut [64] (fun v64 wc => ∃ (kq : Nat) (x64_26 : Bool), v64 = .bool x64_26 ∧ Aside0 (parts_Round.j2 kq a0 ji9 a5 t121 ji21 t123 t124 x19_22 0 x64_26 = some (r1, r2)) ∧ Aside0 (kq ≤ kj22) ∧ Aside0 (wc.heap[gb120]? = some (.cells #[.int .u64 a1, .int .u64 a2] 55 (0, 0))) ∧ Aside0 (Below w.heap.size w wc))
            case first =>
              have H := HC27.out
              clear HC27
              by_cases c28 : t124 = true
              · subst c28
                have H1 : (parts_Round.j2 kj22 a0 ji9 a5 t121 ji21 t123 true x19_22 0 true) = some (r1, r2) := by rw [if_pos rfl] at H; exact H
                clear H
                have H := H1
                clear H1
                have H' := Aside0.mk H
                clear H
                go_wp2
                go_meet
                case rel => exact ⟨_, (true), (by first | rfl | (simp; done) | (simp [*]; done)), H', ⟨by have := HJ14.out; have := HJ22.out; first | omega | exact Nat.le_refl _⟩, ⟨by (with_reducible repeat (first | refine blk_drewN ?_ _ | refine blk_drew ?_ | refine blk_alloc ?_ _)); exact BK120.out⟩, ⟨by repeat (first | (with_reducible first | exact HB.out | apply below_alloc | apply pw_below_drewN | apply below_drew1 | refine below_set ?_ GE120.out) | exact HB.out)⟩⟩
              · replace c28 := Bool.eq_false_iff.mpr c28
                subst c28
                have H1 : (parts_Round.j2 kj22 a0 ji9 a5 t121 ji21 t123 false x19_22 0 x19_22) = some (r1, r2) := by rw [if_neg (show ¬ (false = true) by decide)] at H; exact H
                clear H
                have H := H1
                clear H1
                have H' := Aside0.mk H
                clear H
                go_wp2
                go_meet
                case rel => exact ⟨_, (x19_22), (by first | rfl | (simp; done) | (simp [*]; done)), H', ⟨by have := HJ14.out; have := HJ22.out; first | omega | exact Nat.le_refl _⟩, ⟨by (with_reducible repeat (first | refine blk_drewN ?_ _ | refine blk_drew ?_ | refine blk_alloc ?_ _)); exact BK120.out⟩, ⟨by repeat (first | (with_reducible first | exact HB.out | apply below_alloc | apply pw_below_drewN | apply below_drew1 | refine below_set ?_ GE120.out) | exact HB.out)⟩⟩
            case rest =>
              clear HC27
              try clear c1
              try clear c2
              try clear p2
              try clear p6
              try clear c10
              try clear c10b0
              try clear c10b1
              try clear c17
              try clear c19
              try clear c20
              try clear c20b0
              try clear c26
              try clear c27
              try clear c28
              try clear hcz13_0
              try clear hcz13_1
              try clear hcz17_0
              try clear hcz17_1
              try clear hcz24_0
              try clear hcz24_1
              try clear hfz13_0
              try clear hfz13_1
              try clear hfz17_0
              try clear hfz17_1
              try clear hfz24_0
              try clear hfz24_1
              try clear p2
              try clear p6
              obtain ⟨kq, x64_26, rfl, HA, HJ26, BK120, HB⟩ := hcut
              cases kq with
              | zero => exact absurd HA.out (by simp [parts_Round.j2])
              | succ kj26 =>
                have H := HA.out
                clear HA
                simp only [parts_Round.j2] at H
                have HC29 := Aside0.mk H
                clear H
                go_upto_if 64 with (fail)
                go_cut [20] (fun v20 wc => ∃ (kq : Nat) (x20_28 : Int), v20 = .int .i64 x20_28 ∧ Aside0 (parts_Round.j3 kq a0 a5 ji21 t123 t124 x19_22 x20_28 = some (r1, r2)) ∧ Aside0 (kq ≤ kj26) ∧ Aside0 (wc.heap[gb120]? = some (.cells #[.int .u64 a1, .int .u64 a2] 55 (0, 0))) ∧ Aside0 (Below w.heap.size w wc))
                case first =>
                  have H := HC29.out
                  clear HC29
                  by_cases c30 : x64_26 = true
                  · subst c30
                    have H1 : (if (wrap64 ((wrap64 (ji9 + t121)) - 1)) < (-1022) then (parts_Round.j3 kj26 a0 a5 ji21 t123 t124 x19_22 (Go.bits .or .i64 16 8)) else (parts_Round.j3 kj26 a0 a5 ji21 t123 t124 x19_22 16)) = some (r1, r2) := by rw [if_pos rfl] at H; exact H
                    clear H
                    have H := H1
                    clear H1
                    by_cases c31 : (wrap64 ((wrap64 (ji9 + t121)) - 1)) < (-1022)
                    · rw [if_pos c31] at H
                      have c31b0 : decide ((wrap64 ((wrap64 (ji9 + t121)) - 1)) < (-1022)) = true := decide_eq_true c31
                      clear c31
                      (first | rw [c31b0] | (simp only [i64_w, i32_w]; rw [c31b0]) | skip)
                      have H' := Aside0.mk H
                      clear H
                      go_wp2
                      go_meet
                      case rel => exact ⟨_, (Go.bits .or .i64 16 8), (by first | rfl | (simp; done) | (simp [*]; done)), H', ⟨by have := HJ14.out; have := HJ22.out; have := HJ26.out; first | omega | exact Nat.le_refl _⟩, ⟨by (with_reducible repeat (first | refine blk_drewN ?_ _ | refine blk_drew ?_ | refine blk_alloc ?_ _)); exact BK120.out⟩, ⟨by repeat (first | (with_reducible first | exact HB.out | apply below_alloc | apply pw_below_drewN | apply below_drew1 | refine below_set ?_ GE120.out) | exact HB.out)⟩⟩
                    · rw [if_neg c31] at H
                      have c31b0 : decide ((wrap64 ((wrap64 (ji9 + t121)) - 1)) < (-1022)) = false := decide_eq_false c31
                      clear c31
                      (first | rw [c31b0] | (simp only [i64_w, i32_w]; rw [c31b0]) | skip)
                      have H' := Aside0.mk H
                      clear H
                      go_wp2
                      go_meet
                      case rel => exact ⟨_, (16), (by first | rfl | (simp; done) | (simp [*]; done)), H', ⟨by have := HJ14.out; have := HJ22.out; have := HJ26.out; first | omega | exact Nat.le_refl _⟩, ⟨by (with_reducible repeat (first | refine blk_drewN ?_ _ | refine blk_drew ?_ | refine blk_alloc ?_ _)); exact BK120.out⟩, ⟨by repeat (first | (with_reducible first | exact HB.out | apply below_alloc | apply pw_below_drewN | apply below_drew1 | refine below_set ?_ GE120.out) | exact HB.out)⟩⟩
                  · replace c30 := Bool.eq_false_iff.mpr c30
                    subst c30
                    have H1 : (parts_Round.j3 kj26 a0 a5 ji21 t123 t124 x19_22 0) = some (r1, r2) := by rw [if_neg (show ¬ (false = true) by decide)] at H; exact H
                    clear H
                    have H := H1
                    clear H1
                    have H' := Aside0.mk H
                    clear H
                    go_wp2
                    go_meet
                    case rel => exact ⟨_, (0), (by first | rfl | (simp; done) | (simp [*]; done)), H', ⟨by have := HJ14.out; have := HJ22.out; have := HJ26.out; first | omega | exact Nat.le_refl _⟩, ⟨by (with_reducible repeat (first | refine blk_drewN ?_ _ | refine blk_drew ?_ | refine blk_alloc ?_ _)); exact BK120.out⟩, ⟨by repeat (first | (with_reducible first | exact HB.out | apply below_alloc | apply pw_below_drewN | apply below_drew1 | refine below_set ?_ GE120.out) | exact HB.out)⟩⟩
                case rest =>
                  clear HC29
                  try clear c1
                  try clear c2
                  try clear p2
                  try clear c3
                  try clear p6
                  try clear c10
                  try clear c10b0
                  try clear c10b1
                  try clear c17
                  try clear c19
                  try clear c20
                  try clear c20b0
                  try clear c26
                  try clear c27
                  try clear c28
                  try clear c29
                  try clear c30
                  try clear c31
                  try clear c31b0
                  try clear hcz13_0
                  try clear hcz13_1
                  try clear hcz17_0
                  try clear hcz17_1
                  try clear hcz24_0
                  try clear hcz24_1
                  try clear hfz13_0
                  try clear hfz13_1
                  try clear hfz17_0
                  try clear hfz17_1
                  try clear hfz24_0
                  try clear hfz24_1
                  try clear p2
                  try clear p6
                  obtain ⟨kq, x20_28, rfl, HA, HJ28, BK120, HB⟩ := hcut
                  cases kq with
                  | zero => exact absurd HA.out (by simp [parts_Round.j3])
                  | succ kj28 =>
                    have H := HA.out
                    clear HA
                    simp only [parts_Round.j3] at H
                    replace H := Option.bind_eq_some_iff.mp H
                    obtain ⟨t126, A320, H⟩ := H
                    replace H : (if t126 = true then (parts_Round.j4 kj28 a0 a5 ji21 (IntKind.u64.wrap (t123 + 1)) x20_28) else (parts_Round.j4 kj28 a0 a5 ji21 t123 x20_28)) = some (r1, r2) := H
                    have A32 := Aside0.mk A320
                    clear A320
                    have HC33 := Aside0.mk H
                    clear H
                    go_upto_if 77 with (first | ((with_reducible refine gate_callee (f := 30) rfl ?_); refine goesL_ (some 77) rfl rfl Try.func30 (by kernel_rfl) rfl #[.bool a0, .int .u64 t123, .bool t124, .bool x19_22, .int .i64 a5] rfl ar_ ?_; (with_reducible refine (parts_up.calls a0 t123 t124 x19_22 a5 t126 _ A32.out).mono ?_); rintro e w' ⟨rfl, ⟨nd, rfl⟩⟩; refine ⟨_, rfl, ?_⟩))
                    (try simp only [Act.put, List.setIfInBounds_toArray, List.set_cons_zero, List.set_cons_succ])
                    go_cut [17] (fun v17 wc => ∃ (kq : Nat) (x17_32 : Int), v17 = .int .u64 x17_32 ∧ Aside0 (parts_Round.j4 kq a0 a5 ji21 x17_32 x20_28 = some (r1, r2)) ∧ Aside0 (kq ≤ kj28) ∧ Aside0 (wc.heap[gb120]? = some (.cells #[.int .u64 a1, .int .u64 a2] 55 (0, 0))) ∧ Aside0 (Below w.heap.size w wc))
                    case first =>
                      have H := HC33.out
                      clear HC33
                      by_cases c34 : t126 = true
                      · subst c34
                        have H1 : (parts_Round.j4 kj28 a0 a5 ji21 (IntKind.u64.wrap (t123 + 1)) x20_28) = some (r1, r2) := by rw [if_pos rfl] at H; exact H
                        clear H
                        have H := H1
                        clear H1
                        have H' := Aside0.mk H
                        clear H
                        go_wp2
                        go_meet
                        case rel => exact ⟨_, (IntKind.u64.wrap (t123 + 1)), (by first | rfl | (simp; done) | (simp [*]; done)), H', ⟨by have := HJ14.out; have := HJ22.out; have := HJ26.out; have := HJ28.out; first | omega | exact Nat.le_refl _⟩, ⟨by (with_reducible repeat (first | refine blk_drewN ?_ _ | refine blk_drew ?_ | refine blk_alloc ?_ _)); exact BK120.out⟩, ⟨by repeat (first | (with_reducible first | exact HB.out | apply below_alloc | apply pw_below_drewN | apply below_drew1 | refine below_set ?_ GE120.out) | exact HB.out)⟩⟩
                      · replace c34 := Bool.eq_false_iff.mpr c34
                        subst c34
                        have H1 : (parts_Round.j4 kj28 a0 a5 ji21 t123 x20_28) = some (r1, r2) := by rw [if_neg (show ¬ (false = true) by decide)] at H; exact H
                        clear H
                        have H := H1
                        clear H1
                        have H' := Aside0.mk H
                        clear H
                        go_wp2
                        go_meet
                        case rel => exact ⟨_, (t123), (by first | rfl | (simp; done) | (simp [*]; done)), H', ⟨by have := HJ14.out; have := HJ22.out; have := HJ26.out; have := HJ28.out; first | omega | exact Nat.le_refl _⟩, ⟨by (with_reducible repeat (first | refine blk_drewN ?_ _ | refine blk_drew ?_ | refine blk_alloc ?_ _)); exact BK120.out⟩, ⟨by repeat (first | (with_reducible first | exact HB.out | apply below_alloc | apply pw_below_drewN | apply below_drew1 | refine below_set ?_ GE120.out) | exact HB.out)⟩⟩
                    case rest =>
                      clear HC33
                      try clear c1
                      try clear c2
                      try clear p2
                      try clear c3
                      try clear p6
                      try clear c10
                      try clear c10b0
                      try clear c10b1
                      try clear c17
                      try clear c19
                      try clear c20
                      try clear c20b0
                      try clear c26
                      try clear c27
                      try clear c28
                      try clear c29
                      try clear c30
                      try clear c31
                      try clear c31b0
                      try clear c34
                      try clear hcz13_0
                      try clear hcz13_1
                      try clear hcz17_0
                      try clear hcz17_1
                      try clear hcz24_0
                      try clear hcz24_1
                      try clear hfz13_0
                      try clear hfz13_1
                      try clear hfz17_0
                      try clear hfz17_1
                      try clear hfz24_0
                      try clear hfz24_1
                      try clear p2
                      try clear p6
                      obtain ⟨kq, x17_32, rfl, HA, HJ32, BK120, HB⟩ := hcut
                      cases kq with
                      | zero => exact absurd HA.out (by simp [parts_Round.j4])
                      | succ kj32 =>
                        have H := HA.out
                        clear HA
                        simp only [parts_Round.j4] at H
                        have HC35 := Aside0.mk H
                        clear H
                        go_upto_if 81 with (fail)
                        go_cut [16, 17] (fun v16 v17 wc => ∃ (kq : Nat) (x16_34 : Int) (x17_34 : Int), v16 = .int .i64 x16_34 ∧ v17 = .int .u64 x17_34 ∧ Aside0 (parts_Round.j5 kq a0 a5 x16_34 x17_34 x20_28 = some (r1, r2)) ∧ Aside0 (kq ≤ kj32) ∧ Aside0 (wc.heap[gb120]? = some (.cells #[.int .u64 a1, .int .u64 a2] 55 (0, 0))) ∧ Aside0 (Below w.heap.size w wc))
                        case first =>
                          have H := HC35.out
                          clear HC35
                          by_cases c36 : x17_32 = 9007199254740992
                          · rw [if_pos c36] at H
                            have c36b0 : (x17_32 == 9007199254740992) = true := beq_iff_eq.mpr c36
                            have c36b1 : (x17_32 != 9007199254740992) = false := bne_eq_false_iff_eq.mpr c36
                            clear c36
                            (first | rw [c36b0] | (simp only [i64_w, i32_w]; rw [c36b0]) | skip)
                            have H' := Aside0.mk H
                            clear H
                            go_wp2
                            go_meet
                            case rel => exact ⟨_, (wrap64 (ji21 + 1)), (4503599627370496), (by first | rfl | (simp; done) | (simp only [← hji21] <;> (first | rfl | simp)) | (simp [*]; done)), (by first | rfl | (simp; done) | (simp [*]; done)), H', ⟨by have := HJ14.out; have := HJ22.out; have := HJ26.out; have := HJ28.out; have := HJ32.out; first | omega | exact Nat.le_refl _⟩, ⟨by (with_reducible repeat (first | refine blk_drewN ?_ _ | refine blk_drew ?_ | refine blk_alloc ?_ _)); exact BK120.out⟩, ⟨by repeat (first | (with_reducible first | exact HB.out | apply below_alloc | apply pw_below_drewN | apply below_drew1 | refine below_set ?_ GE120.out) | exact HB.out)⟩⟩
                          · rw [if_neg c36] at H
                            have c36b0 : (x17_32 == 9007199254740992) = false := beq_eq_false_iff_ne.mpr c36
                            have c36b1 : (x17_32 != 9007199254740992) = true := bne_iff_ne.mpr c36
                            (first | rw [c36b0] | (simp only [i64_w, i32_w]; rw [c36b0]) | skip)
                            have H' := Aside0.mk H
                            clear H
                            go_wp2
                            go_meet
                            case rel => exact ⟨_, (ji21), (x17_32), (by first | rfl | (simp; done) | (simp only [← hji21] <;> (first | rfl | simp)) | (simp [*]; done)), (by first | rfl | (simp; done) | (simp [*]; done)), H', ⟨by have := HJ14.out; have := HJ22.out; have := HJ26.out; have := HJ28.out; have := HJ32.out; first | omega | exact Nat.le_refl _⟩, ⟨by (with_reducible repeat (first | refine blk_drewN ?_ _ | refine blk_drew ?_ | refine blk_alloc ?_ _)); exact BK120.out⟩, ⟨by repeat (first | (with_reducible first | exact HB.out | apply below_alloc | apply pw_below_drewN | apply below_drew1 | refine below_set ?_ GE120.out) | exact HB.out)⟩⟩
                        case rest =>
                          clear HC35
                          try clear c1
                          try clear c2
                          try clear p2
                          try clear c3
                          try clear p6
                          try clear c10
                          try clear c10b0
                          try clear c10b1
                          try clear c17
                          try clear c19
                          try clear c20
                          try clear c20b0
                          try clear c26
                          try clear c27
                          try clear c28
                          try clear c29
                          try clear c30
                          try clear c31
                          try clear c31b0
                          try clear c34
                          try clear c36
                          try clear c36b0
                          try clear c36b1
                          try clear hcz13_0
                          try clear hcz13_1
                          try clear hcz17_0
                          try clear hcz17_1
                          try clear hcz24_0
                          try clear hcz24_1
                          try clear hfz13_0
                          try clear hfz13_1
                          try clear hfz17_0
                          try clear hfz17_1
                          try clear hfz24_0
                          try clear hfz24_1
                          try clear p2
                          try clear p6
                          obtain ⟨kq, x16_34, x17_34, rfl, rfl, HA, HJ34, BK120, HB⟩ := hcut
                          cases kq with
                          | zero => exact absurd HA.out (by simp [parts_Round.j5])
                          | succ kj34 =>
                            have H := HA.out
                            clear HA
                            simp only [parts_Round.j5] at H
                            have HC37 := Aside0.mk H
                            clear H
                            go_upto_region 19 with (fail)
                            go_cut [90] (fun v90 wc => ∃ (kq : Nat) (x90_36 : Bool), v90 = .bool x90_36 ∧ Aside0 (parts_Round.j6 kq a0 a5 x16_34 x17_34 x20_28 x90_36 = some (r1, r2)) ∧ Aside0 (kq ≤ kj34) ∧ Aside0 (wc.heap[gb120]? = some (.cells #[.int .u64 a1, .int .u64 a2] 55 (0, 0))) ∧ Aside0 (Below w.heap.size w wc))
                            case first =>
                              have H := HC37.out
                              clear HC37
                              by_cases c38 : x17_34 ≥ 4503599627370496
                              · rw [if_pos c38] at H
                                have c38b0 : decide (4503599627370496 ≤ x17_34) = true := decide_eq_true c38
                                clear c38
                                (first | rw [c38b0] | (simp only [i64_w, i32_w]; rw [c38b0]) | skip)
                                have H' := Aside0.mk H
                                clear H
                                go_wp2
                                go_meet
                                case rel => exact ⟨_, (decide ((wrap64 (x16_34 + 1075)) ≥ 2047)), (by first | rfl | (simp; done) | (simp [*]; done)), H', ⟨by have := HJ14.out; have := HJ22.out; have := HJ26.out; have := HJ28.out; have := HJ32.out; have := HJ34.out; first | omega | exact Nat.le_refl _⟩, ⟨by (with_reducible repeat (first | refine blk_drewN ?_ _ | refine blk_drew ?_ | refine blk_alloc ?_ _)); exact BK120.out⟩, ⟨by repeat (first | (with_reducible first | exact HB.out | apply below_alloc | apply pw_below_drewN | apply below_drew1 | refine below_set ?_ GE120.out) | exact HB.out)⟩⟩
                              · rw [if_neg c38] at H
                                have c38b0 : decide (4503599627370496 ≤ x17_34) = false := decide_eq_false c38
                                clear c38
                                (first | rw [c38b0] | (simp only [i64_w, i32_w]; rw [c38b0]) | skip)
                                have H' := Aside0.mk H
                                clear H
                                go_wp2
                                go_meet
                                case rel => exact ⟨_, (false), (by first | rfl | (simp; done) | (simp [*]; done)), H', ⟨by have := HJ14.out; have := HJ22.out; have := HJ26.out; have := HJ28.out; have := HJ32.out; have := HJ34.out; first | omega | exact Nat.le_refl _⟩, ⟨by (with_reducible repeat (first | refine blk_drewN ?_ _ | refine blk_drew ?_ | refine blk_alloc ?_ _)); exact BK120.out⟩, ⟨by repeat (first | (with_reducible first | exact HB.out | apply below_alloc | apply pw_below_drewN | apply below_drew1 | refine below_set ?_ GE120.out) | exact HB.out)⟩⟩
                            case rest =>
                              clear HC37
                              try clear c1
                              try clear c2
                              try clear p2
                              try clear c3
                              try clear p6
                              try clear c10
                              try clear c10b0
                              try clear c10b1
                              try clear c17
                              try clear c19
                              try clear c20
                              try clear c20b0
                              try clear c26
                              try clear c27
                              try clear c28
                              try clear c29
                              try clear c30
                              try clear c31
                              try clear c31b0
                              try clear c34
                              try clear c36
                              try clear c36b0
                              try clear c36b1
                              try clear c38
                              try clear c38b0
                              try clear hcz13_0
                              try clear hcz13_1
                              try clear hcz17_0
                              try clear hcz17_1
                              try clear hcz24_0
                              try clear hcz24_1
                              try clear hfz13_0
                              try clear hfz13_1
                              try clear hfz17_0
                              try clear hfz17_1
                              try clear hfz24_0
                              try clear hfz24_1
                              try clear p2
                              try clear p6
                              obtain ⟨kq, x90_36, rfl, HA, HJ36, BK120, HB⟩ := hcut
                              cases kq with
                              | zero => exact absurd HA.out (by simp [parts_Round.j6])
                              | succ kj36 =>
                                have H := HA.out
                                clear HA
                                simp only [parts_Round.j6] at H
                                by_cases c39 : x90_36 = true
                                · subst c39
                                  have H1 : ((parts_over.f kj36 a0 a5).bind fun bt127 => (some (bt127.1, bt127.2))) = some (r1, r2) := by rw [if_pos rfl] at H; exact H
                                  clear H
                                  have H := H1
                                  clear H1
                                  replace H := Option.bind_eq_some_iff.mp H
                                  obtain ⟨⟨t127, t128⟩, A400, H⟩ := H
                                  replace H : (some (t127, t128)) = some (r1, r2) := H
                                  have A40 := Aside0.mk A400
                                  clear A400
                                  simp only [Option.some.injEq, Prod.mk.injEq] at H
                                  obtain ⟨rfl, rfl⟩ := H
                                  go_wp2_with (first | ((with_reducible refine gate_callee (f := 31) rfl ?_); refine goesL_ (some 93) rfl rfl Try.func31 (by kernel_rfl) rfl #[.bool a0, .int .i64 a5] rfl ar_ ?_; (with_reducible refine (parts_over.calls kj36 a0 a5 t127 t128 _ A40.out).mono ?_); rintro e w' ⟨rfl, ⟨nd, rfl⟩⟩; refine ⟨_, rfl, ?_⟩))
                                  go_ret2
                                  exact ⟨by first | rfl | (simp [errW_none, errW_some] <;> rfl) | (simp only [← hji8, ← hji9, ← hji21]; first | rfl | (simp [errW_none, errW_some] <;> rfl)) | (simp [*, errW_none, errW_some] <;> rfl), by repeat (first | (with_reducible first | exact HB.out | apply below_alloc | apply pw_below_drewN | apply below_drew1 | refine below_set ?_ GE120.out) | exact HB.out)⟩
                                · replace c39 := Bool.eq_false_iff.mpr c39
                                  subst c39
                                  have H1 : ((parts_put.f a0 x17_34 x16_34).bind fun t129 => (some (t129, x20_28))) = some (r1, r2) := by rw [if_neg (show ¬ (false = true) by decide)] at H; exact H
                                  clear H
                                  have H := H1
                                  clear H1
                                  replace H := Option.bind_eq_some_iff.mp H
                                  obtain ⟨t129, A410, H⟩ := H
                                  replace H : (some (t129, x20_28)) = some (r1, r2) := H
                                  have A41 := Aside0.mk A410
                                  clear A410
                                  simp only [Option.some.injEq, Prod.mk.injEq] at H
                                  obtain ⟨rfl, rfl⟩ := H
                                  go_wp2_with (first | ((with_reducible refine gate_callee (f := 32) rfl ?_); refine goesL_ (some 99) rfl rfl Try.func32 (by kernel_rfl) rfl #[.bool a0, .int .u64 x17_34, .int .i64 x16_34] rfl ar_ ?_; (with_reducible refine (parts_put.calls a0 x17_34 x16_34 t129 _ A41.out).mono ?_); rintro e w' ⟨rfl, ⟨nd, rfl⟩⟩; refine ⟨_, rfl, ?_⟩))
                                  go_ret2
                                  exact ⟨by first | rfl | (simp [errW_none, errW_some] <;> rfl) | (simp only [← hji8, ← hji9, ← hji21]; first | rfl | (simp [errW_none, errW_some] <;> rfl)) | (simp [*, errW_none, errW_some] <;> rfl), by repeat (first | (with_reducible first | exact HB.out | apply below_alloc | apply pw_below_drewN | apply below_drew1 | refine below_set ?_ GE120.out) | exact HB.out)⟩
def fconv_Whole.f (k : Nat) (a0 : Int) (a1 : Int) : Option (Int × Int) := (parts_Split.f a0).bind fun bt130 => ((parts_Class.f k a0).bind fun t134 => (if t134 = 3 then (some (9221120237041090560, 0)) else (if t134 = 1 then (if bt130.2.2.1 < 0 then ((fconv_near.f k bt130.1 bt130.2.1 (wrap64 (-bt130.2.2.1)) a1).bind fun bt135 => (if bt135.2 = true then ((parts_Round.f k bt130.1 0 bt135.1 0 false 0).bind fun bt137 => (some (bt137.1, 16))) else ((parts_Round.f k bt130.1 0 bt135.1 0 false 0).bind fun bt139 => (some (bt139.1, 0))))) else (some (a0, 0))) else (some (a0, 0)))))
theorem fconv_Whole.mono : ∀ a0 a1 k, LeO (fconv_Whole.f k a0 a1) (fconv_Whole.f (k + 1) a0 a1) := by
  intro a0 a1 k
  unfold fconv_Whole.f
  repeat' first
      | (with_reducible exact fconv_near.mono _ _ _ _ _)
      | (with_reducible exact parts_Class.mono _ _)
      | (with_reducible exact parts_Round.mono _ _ _ _ _ _ _)
      | (with_reducible exact LeO.refl _)
      | (with_reducible exact LeO.none _)
      | (with_reducible refine LeO.ite ?_ ?_)
      | (with_reducible refine LeO.bind ?_ (fun _ => ?_))
      | exact fconv_near.mono _ _ _ _ _
      | exact parts_Class.mono _ _
      | exact parts_Round.mono _ _ _ _ _ _ _
      | exact LeO.none _
      | refine LeO.ite ?_ ?_
      | refine LeO.bind ?_ (fun _ => ?_)
set_option maxHeartbeats 8000000 in
set_option maxRecDepth 100000 in
theorem fconv_Whole.calls (k : Nat) (a0 : Int) (a1 : Int) (r1 : Int) (r2 : Int) (w : World) (h : fconv_Whole.f k a0 a1 = some (r1, r2)) :
    Calls Try.prog 5 #[.int .u64 a0, .int .i64 a1] w fun e w' => e = .returned (.tuple #[.int .u64 r1, .int .i64 r2]) ∧ Below w.heap.size w w' := by
  have HB := Aside0.mk (Below.refl w.heap.size w)
  have H : ((parts_Split.f a0).bind fun bt130 => ((parts_Class.f k a0).bind fun t134 => (if t134 = 3 then (some (9221120237041090560, 0)) else (if t134 = 1 then (if bt130.2.2.1 < 0 then ((fconv_near.f k bt130.1 bt130.2.1 (wrap64 (-bt130.2.2.1)) a1).bind fun bt135 => (if bt135.2 = true then ((parts_Round.f k bt130.1 0 bt135.1 0 false 0).bind fun bt137 => (some (bt137.1, 16))) else ((parts_Round.f k bt130.1 0 bt135.1 0 false 0).bind fun bt139 => (some (bt139.1, 0))))) else (some (a0, 0))) else (some (a0, 0)))))) = some (r1, r2) := h
  clear h
  replace H := Option.bind_eq_some_iff.mp H
  obtain ⟨⟨t130, t131, t132, t133⟩, A30, H⟩ := H
  replace H : ((parts_Class.f k a0).bind fun t134 => (if t134 = 3 then (some (9221120237041090560, 0)) else (if t134 = 1 then (if t132 < 0 then ((fconv_near.f k t130 t131 (wrap64 (-t132)) a1).bind fun bt135 => (if bt135.2 = true then ((parts_Round.f k t130 0 bt135.1 0 false 0).bind fun bt137 => (some (bt137.1, 16))) else ((parts_Round.f k t130 0 bt135.1 0 false 0).bind fun bt139 => (some (bt139.1, 0))))) else (some (a0, 0))) else (some (a0, 0))))) = some (r1, r2) := H
  have A3 := Aside0.mk A30
  clear A30
  replace H := Option.bind_eq_some_iff.mp H
  obtain ⟨t134, A40, H⟩ := H
  replace H : (if t134 = 3 then (some (9221120237041090560, 0)) else (if t134 = 1 then (if t132 < 0 then ((fconv_near.f k t130 t131 (wrap64 (-t132)) a1).bind fun bt135 => (if bt135.2 = true then ((parts_Round.f k t130 0 bt135.1 0 false 0).bind fun bt137 => (some (bt137.1, 16))) else ((parts_Round.f k t130 0 bt135.1 0 false 0).bind fun bt139 => (some (bt139.1, 0))))) else (some (a0, 0))) else (some (a0, 0)))) = some (r1, r2) := H
  have A4 := Aside0.mk A40
  clear A40
  by_cases c5 : t134 = 3
  · rw [if_pos c5] at H
    have c5b0 : (t134 == 3) = true := beq_iff_eq.mpr c5
    have c5b1 : (t134 != 3) = false := bne_eq_false_iff_eq.mpr c5
    clear c5
    simp only [Option.some.injEq, Prod.mk.injEq] at H
    obtain ⟨rfl, rfl⟩ := H
    go_enter Try.func5, Try.ntmps5
    go_wp2_with (first | ((with_reducible refine gate_callee (f := 14) rfl ?_); refine goesL_ (some 17) rfl rfl Try.func14 (by kernel_rfl) rfl #[.int .u64 a0] rfl ar_ ?_; (with_reducible refine (parts_Split.calls a0 t130 t131 t132 t133 _ A3.out).mono ?_); rintro e w' ⟨rfl, ⟨nd, rfl⟩⟩; refine ⟨_, rfl, ?_⟩) | ((with_reducible refine gate_callee (f := 15) rfl ?_); refine goesL_ (some 23) rfl rfl Try.func15 (by kernel_rfl) rfl #[.int .u64 a0] rfl ar_ ?_; (with_reducible refine (parts_Class.calls k a0 t134 _ A4.out).mono ?_); rintro e w' ⟨rfl, ⟨nd, rfl⟩⟩; refine ⟨_, rfl, ?_⟩))
    go_ret2
    exact ⟨er_, dn_ HB⟩
  · rw [if_neg c5] at H
    have c5b0 : (t134 == 3) = false := beq_eq_false_iff_ne.mpr c5
    have c5b1 : (t134 != 3) = true := bne_iff_ne.mpr c5
    by_cases c6 : t134 = 1
    · rw [if_pos c6] at H
      have c6b0 : (t134 == 1) = true := beq_iff_eq.mpr c6
      have c6b1 : (t134 != 1) = false := bne_eq_false_iff_eq.mpr c6
      clear c6
      by_cases c7 : t132 < 0
      · rw [if_pos c7] at H
        have c7b0 : decide (t132 < 0) = true := decide_eq_true c7
        clear c7
        replace H := Option.bind_eq_some_iff.mp H
        obtain ⟨⟨t135, t136⟩, A80, H⟩ := H
        replace H : (if t136 = true then ((parts_Round.f k t130 0 t135 0 false 0).bind fun bt137 => (some (bt137.1, 16))) else ((parts_Round.f k t130 0 t135 0 false 0).bind fun bt139 => (some (bt139.1, 0)))) = some (r1, r2) := H
        have A8 := Aside0.mk A80
        clear A80
        by_cases c9 : t136 = true
        · subst c9
          have H1 : ((parts_Round.f k t130 0 t135 0 false 0).bind fun bt137 => (some (bt137.1, 16))) = some (r1, r2) := by rw [if_pos rfl] at H; exact H
          clear H
          have H := H1
          clear H1
          replace H := Option.bind_eq_some_iff.mp H
          obtain ⟨⟨t137, t138⟩, A100, H⟩ := H
          replace H : (some (t137, 16)) = some (r1, r2) := H
          have A10 := Aside0.mk A100
          clear A100
          simp only [Option.some.injEq, Prod.mk.injEq] at H
          obtain ⟨rfl, rfl⟩ := H
          go_enter Try.func5, Try.ntmps5
          go_wp2_with (first | ((with_reducible refine gate_callee (f := 14) rfl ?_); refine goesL_ (some 17) rfl rfl Try.func14 (by kernel_rfl) rfl #[.int .u64 a0] rfl ar_ ?_; (with_reducible refine (parts_Split.calls a0 t130 t131 t132 t133 _ A3.out).mono ?_); rintro e w' ⟨rfl, ⟨nd, rfl⟩⟩; refine ⟨_, rfl, ?_⟩) | ((with_reducible refine gate_callee (f := 15) rfl ?_); refine goesL_ (some 23) rfl rfl Try.func15 (by kernel_rfl) rfl #[.int .u64 a0] rfl ar_ ?_; (with_reducible refine (parts_Class.calls k a0 t134 _ A4.out).mono ?_); rintro e w' ⟨rfl, ⟨nd, rfl⟩⟩; refine ⟨_, rfl, ?_⟩) | ((with_reducible refine gate_callee (f := 16) rfl ?_); refine goesL_ (some 37) rfl rfl Try.func16 (by kernel_rfl) rfl #[.bool t130, .int .u64 t131, .int .i64 (wrap64 (-t132)), .int .i64 a1] rfl ar_ ?_; (with_reducible refine (fconv_near.calls k t130 t131 (wrap64 (-t132)) a1 t135 true _ A8.out).mono ?_); rintro e w11 ⟨rfl, hb⟩; refine ⟨_, rfl, ?_⟩; have n0_ := Aside0.mk (below_step (dn_ HB) hb); clear HB; have HB := n0_; clear n0_; (try clear hb)) | ((with_reducible refine gate_callee (f := 17) rfl ?_); refine goesL_ (some 44) rfl rfl Try.func17 (by kernel_rfl) rfl #[.bool t130, .int .u64 0, .int .u64 t135, .int .i64 0, .bool false, .int .i64 0] rfl ar_ ?_; (with_reducible refine (parts_Round.calls k t130 0 t135 0 false 0 t137 t138 _ A10.out).mono ?_); rintro e w12 ⟨rfl, hb⟩; refine ⟨_, rfl, ?_⟩; have n0_ := Aside0.mk (below_step (dn_ HB) hb); clear HB; have HB := n0_; clear n0_; (try clear hb)))
          go_ret2
          exact ⟨er_, dn_ HB⟩
        · replace c9 := Bool.eq_false_iff.mpr c9
          subst c9
          have H1 : ((parts_Round.f k t130 0 t135 0 false 0).bind fun bt139 => (some (bt139.1, 0))) = some (r1, r2) := by rw [if_neg (show ¬ (false = true) by decide)] at H; exact H
          clear H
          have H := H1
          clear H1
          replace H := Option.bind_eq_some_iff.mp H
          obtain ⟨⟨t139, t140⟩, A130, H⟩ := H
          replace H : (some (t139, 0)) = some (r1, r2) := H
          have A13 := Aside0.mk A130
          clear A130
          simp only [Option.some.injEq, Prod.mk.injEq] at H
          obtain ⟨rfl, rfl⟩ := H
          go_enter Try.func5, Try.ntmps5
          go_wp2_with (first | ((with_reducible refine gate_callee (f := 14) rfl ?_); refine goesL_ (some 17) rfl rfl Try.func14 (by kernel_rfl) rfl #[.int .u64 a0] rfl ar_ ?_; (with_reducible refine (parts_Split.calls a0 t130 t131 t132 t133 _ A3.out).mono ?_); rintro e w' ⟨rfl, ⟨nd, rfl⟩⟩; refine ⟨_, rfl, ?_⟩) | ((with_reducible refine gate_callee (f := 15) rfl ?_); refine goesL_ (some 23) rfl rfl Try.func15 (by kernel_rfl) rfl #[.int .u64 a0] rfl ar_ ?_; (with_reducible refine (parts_Class.calls k a0 t134 _ A4.out).mono ?_); rintro e w' ⟨rfl, ⟨nd, rfl⟩⟩; refine ⟨_, rfl, ?_⟩) | ((with_reducible refine gate_callee (f := 16) rfl ?_); refine goesL_ (some 37) rfl rfl Try.func16 (by kernel_rfl) rfl #[.bool t130, .int .u64 t131, .int .i64 (wrap64 (-t132)), .int .i64 a1] rfl ar_ ?_; (with_reducible refine (fconv_near.calls k t130 t131 (wrap64 (-t132)) a1 t135 false _ A8.out).mono ?_); rintro e w14 ⟨rfl, hb⟩; refine ⟨_, rfl, ?_⟩; have n0_ := Aside0.mk (below_step (dn_ HB) hb); clear HB; have HB := n0_; clear n0_; (try clear hb)) | ((with_reducible refine gate_callee (f := 17) rfl ?_); refine goesL_ (some 44) rfl rfl Try.func17 (by kernel_rfl) rfl #[.bool t130, .int .u64 0, .int .u64 t135, .int .i64 0, .bool false, .int .i64 0] rfl ar_ ?_; (with_reducible refine (parts_Round.calls k t130 0 t135 0 false 0 t139 t140 _ A13.out).mono ?_); rintro e w15 ⟨rfl, hb⟩; refine ⟨_, rfl, ?_⟩; have n0_ := Aside0.mk (below_step (dn_ HB) hb); clear HB; have HB := n0_; clear n0_; (try clear hb)))
          go_ret2
          exact ⟨er_, dn_ HB⟩
      · rw [if_neg c7] at H
        have c7b0 : decide (t132 < 0) = false := decide_eq_false c7
        clear c7
        simp only [Option.some.injEq, Prod.mk.injEq] at H
        obtain ⟨rfl, rfl⟩ := H
        go_enter Try.func5, Try.ntmps5
        go_wp2_with (first | ((with_reducible refine gate_callee (f := 14) rfl ?_); refine goesL_ (some 17) rfl rfl Try.func14 (by kernel_rfl) rfl #[.int .u64 a0] rfl ar_ ?_; (with_reducible refine (parts_Split.calls a0 t130 t131 t132 t133 _ A3.out).mono ?_); rintro e w' ⟨rfl, ⟨nd, rfl⟩⟩; refine ⟨_, rfl, ?_⟩) | ((with_reducible refine gate_callee (f := 15) rfl ?_); refine goesL_ (some 23) rfl rfl Try.func15 (by kernel_rfl) rfl #[.int .u64 a0] rfl ar_ ?_; (with_reducible refine (parts_Class.calls k a0 t134 _ A4.out).mono ?_); rintro e w' ⟨rfl, ⟨nd, rfl⟩⟩; refine ⟨_, rfl, ?_⟩))
        go_ret2
        exact ⟨er_, dn_ HB⟩
    · rw [if_neg c6] at H
      have c6b0 : (t134 == 1) = false := beq_eq_false_iff_ne.mpr c6
      have c6b1 : (t134 != 1) = true := bne_iff_ne.mpr c6
      simp only [Option.some.injEq, Prod.mk.injEq] at H
      obtain ⟨rfl, rfl⟩ := H
      go_enter Try.func5, Try.ntmps5
      go_wp2_with (first | ((with_reducible refine gate_callee (f := 14) rfl ?_); refine goesL_ (some 17) rfl rfl Try.func14 (by kernel_rfl) rfl #[.int .u64 a0] rfl ar_ ?_; (with_reducible refine (parts_Split.calls a0 t130 t131 t132 t133 _ A3.out).mono ?_); rintro e w' ⟨rfl, ⟨nd, rfl⟩⟩; refine ⟨_, rfl, ?_⟩) | ((with_reducible refine gate_callee (f := 15) rfl ?_); refine goesL_ (some 23) rfl rfl Try.func15 (by kernel_rfl) rfl #[.int .u64 a0] rfl ar_ ?_; (with_reducible refine (parts_Class.calls k a0 t134 _ A4.out).mono ?_); rintro e w' ⟨rfl, ⟨nd, rfl⟩⟩; refine ⟨_, rfl, ?_⟩))
      go_ret2
      exact ⟨er_, dn_ HB⟩
def fconv_FromInt.f (k : Nat) (a0 : Int) (a1 : Int) : Option (Int × Int) := if a0 < 0 then (if a0 = 0 then (some (0, 0)) else ((parts_Round.f k (decide (a0 < 0)) 0 (IntKind.u64.wrap (-(IntKind.u64.wrap (a0)))) 0 false a1).bind fun bt141 => (some (bt141.1, bt141.2)))) else (if a0 = 0 then (some (0, 0)) else ((parts_Round.f k (decide (a0 < 0)) 0 (IntKind.u64.wrap (a0)) 0 false a1).bind fun bt143 => (some (bt143.1, bt143.2))))
theorem fconv_FromInt.mono : ∀ a0 a1 k, LeO (fconv_FromInt.f k a0 a1) (fconv_FromInt.f (k + 1) a0 a1) := by
  intro a0 a1 k
  unfold fconv_FromInt.f
  repeat' first
      | (with_reducible exact parts_Round.mono _ _ _ _ _ _ _)
      | (with_reducible exact LeO.refl _)
      | (with_reducible exact LeO.none _)
      | (with_reducible refine LeO.ite ?_ ?_)
      | (with_reducible refine LeO.bind ?_ (fun _ => ?_))
      | exact parts_Round.mono _ _ _ _ _ _ _
      | exact LeO.none _
      | refine LeO.ite ?_ ?_
      | refine LeO.bind ?_ (fun _ => ?_)
set_option maxHeartbeats 8000000 in
set_option maxRecDepth 100000 in
theorem fconv_FromInt.calls (k : Nat) (a0 : Int) (a1 : Int) (r1 : Int) (r2 : Int) (w : World) (h : fconv_FromInt.f k a0 a1 = some (r1, r2)) :
    Calls Try.prog 18 #[.int .i64 a0, .int .i64 a1] w fun e w' => e = .returned (.tuple #[.int .u64 r1, .int .i64 r2]) ∧ Below w.heap.size w w' := by
  have HB := Aside0.mk (Below.refl w.heap.size w)
  have H : (if a0 < 0 then (if a0 = 0 then (some (0, 0)) else ((parts_Round.f k (decide (a0 < 0)) 0 (IntKind.u64.wrap (-(IntKind.u64.wrap (a0)))) 0 false a1).bind fun bt141 => (some (bt141.1, bt141.2)))) else (if a0 = 0 then (some (0, 0)) else ((parts_Round.f k (decide (a0 < 0)) 0 (IntKind.u64.wrap (a0)) 0 false a1).bind fun bt143 => (some (bt143.1, bt143.2))))) = some (r1, r2) := h
  clear h
  by_cases c3 : a0 < 0
  · rw [if_pos c3] at H
    have c3b0 : decide (a0 < 0) = true := decide_eq_true c3
    (try simp only [c3b0] at H)
    clear c3
    by_cases c4 : a0 = 0
    · rw [if_pos c4] at H
      have c4b0 : (a0 == 0) = true := beq_iff_eq.mpr c4
      have c4b1 : (a0 != 0) = false := bne_eq_false_iff_eq.mpr c4
      clear c4
      simp only [Option.some.injEq, Prod.mk.injEq] at H
      obtain ⟨rfl, rfl⟩ := H
      go_enter Try.func18, Try.ntmps18
      go_wp2
      go_ret2
      exact ⟨er_, dn_ HB⟩
    · rw [if_neg c4] at H
      have c4b0 : (a0 == 0) = false := beq_eq_false_iff_ne.mpr c4
      have c4b1 : (a0 != 0) = true := bne_iff_ne.mpr c4
      replace H := Option.bind_eq_some_iff.mp H
      obtain ⟨⟨t141, t142⟩, A50, H⟩ := H
      replace H : (some (t141, t142)) = some (r1, r2) := H
      have A5 := Aside0.mk A50
      clear A50
      simp only [Option.some.injEq, Prod.mk.injEq] at H
      obtain ⟨rfl, rfl⟩ := H
      go_enter Try.func18, Try.ntmps18
      go_wp2_with (first | ((with_reducible refine gate_callee (f := 17) rfl ?_); refine goesL_ (some 19) rfl rfl Try.func17 (by kernel_rfl) rfl #[.bool true, .int .u64 0, .int .u64 (IntKind.u64.wrap (-(IntKind.u64.wrap (a0)))), .int .i64 0, .bool false, .int .i64 a1] rfl ar_ ?_; (with_reducible refine (parts_Round.calls k true 0 (IntKind.u64.wrap (-(IntKind.u64.wrap (a0)))) 0 false a1 t141 t142 _ A5.out).mono ?_); rintro e w6 ⟨rfl, hb⟩; refine ⟨_, rfl, ?_⟩; have n0_ := Aside0.mk (below_step (dn_ HB) hb); clear HB; have HB := n0_; clear n0_; (try clear hb)))
      go_ret2
      exact ⟨er_, dn_ HB⟩
  · rw [if_neg c3] at H
    have c3b0 : decide (a0 < 0) = false := decide_eq_false c3
    (try simp only [c3b0] at H)
    clear c3
    by_cases c7 : a0 = 0
    · rw [if_pos c7] at H
      have c7b0 : (a0 == 0) = true := beq_iff_eq.mpr c7
      have c7b1 : (a0 != 0) = false := bne_eq_false_iff_eq.mpr c7
      clear c7
      simp only [Option.some.injEq, Prod.mk.injEq] at H
      obtain ⟨rfl, rfl⟩ := H
      go_enter Try.func18, Try.ntmps18
      go_wp2
      go_ret2
      exact ⟨er_, dn_ HB⟩
    · rw [if_neg c7] at H
      have c7b0 : (a0 == 0) = false := beq_eq_false_iff_ne.mpr c7
      have c7b1 : (a0 != 0) = true := bne_iff_ne.mpr c7
      replace H := Option.bind_eq_some_iff.mp H
      obtain ⟨⟨t143, t144⟩, A80, H⟩ := H
      replace H : (some (t143, t144)) = some (r1, r2) := H
      have A8 := Aside0.mk A80
      clear A80
      simp only [Option.some.injEq, Prod.mk.injEq] at H
      obtain ⟨rfl, rfl⟩ := H
      go_enter Try.func18, Try.ntmps18
      go_wp2_with (first | ((with_reducible refine gate_callee (f := 17) rfl ?_); refine goesL_ (some 19) rfl rfl Try.func17 (by kernel_rfl) rfl #[.bool false, .int .u64 0, .int .u64 (IntKind.u64.wrap (a0)), .int .i64 0, .bool false, .int .i64 a1] rfl ar_ ?_; (with_reducible refine (parts_Round.calls k false 0 (IntKind.u64.wrap (a0)) 0 false a1 t143 t144 _ A8.out).mono ?_); rintro e w9 ⟨rfl, hb⟩; refine ⟨_, rfl, ?_⟩; have n0_ := Aside0.mk (below_step (dn_ HB) hb); clear HB; have HB := n0_; clear n0_; (try clear hb)))
      go_ret2
      exact ⟨er_, dn_ HB⟩
mutual
def fadd_odd.j0 : Nat → Int → Int → Int → Int → Bool → Option (Int × Int × Bool)
  | 0, _, _, _, _, _ => none
  | k + 1, x0, x1, x7, x8, x13 => if x13 = true then (some (9221120237041090560, 0, true)) else (if x7 = 2 then (if x8 = 2 then (fadd_odd.j1 k x0 x1 x7 x8 (x0 != x1)) else (fadd_odd.j1 k x0 x1 x7 x8 false)) else (fadd_odd.j1 k x0 x1 x7 x8 false))
def fadd_odd.j1 : Nat → Int → Int → Int → Int → Bool → Option (Int × Int × Bool)
  | 0, _, _, _, _, _ => none
  | k + 1, x0, x1, x7, x8, x20 => if x20 = true then (some (9221120237041090560, 1, true)) else (if x7 = 2 then (some (x0, 0, true)) else (if x8 = 2 then (some (x1, 0, true)) else (some (0, 0, false))))
end
def fadd_odd.f (k : Nat) (a0 : Int) (a1 : Int) : Option (Int × Int × Bool) := (parts_Class.f k a0).bind fun t145 => ((parts_Class.f k a1).bind fun t146 => (if t145 = 3 then (fadd_odd.j0 k a0 a1 t145 t146 true) else (fadd_odd.j0 k a0 a1 t145 t146 (t146 == 3))))
theorem fadd_odd.mono_l : ∀ k, (∀ y0 y1 y2 y3 y4, LeO (fadd_odd.j0 k y0 y1 y2 y3 y4) (fadd_odd.j0 (k + 1) y0 y1 y2 y3 y4)) ∧ (∀ y0 y1 y2 y3 y4, LeO (fadd_odd.j1 k y0 y1 y2 y3 y4) (fadd_odd.j1 (k + 1) y0 y1 y2 y3 y4))
  | 0 => ⟨fun _ _ _ _ _ r h => by simp [fadd_odd.j0] at h, fun _ _ _ _ _ r h => by simp [fadd_odd.j1] at h⟩
  | k + 1 => by
    obtain ⟨ih0, ih1⟩ := fadd_odd.mono_l k
    refine ⟨?_, ?_⟩
    · intro y0 y1 y2 y3 y4
      unfold fadd_odd.j0
      repeat' first
      | (with_reducible exact ih0 _ _ _ _ _)
      | (with_reducible exact ih1 _ _ _ _ _)
      | (with_reducible exact parts_Class.mono _ _)
      | (with_reducible exact LeO.refl _)
      | (with_reducible exact LeO.none _)
      | (with_reducible refine LeO.ite ?_ ?_)
      | (with_reducible refine LeO.bind ?_ (fun _ => ?_))
      | exact ih0 _ _ _ _ _
      | exact ih1 _ _ _ _ _
      | exact parts_Class.mono _ _
      | exact LeO.none _
      | refine LeO.ite ?_ ?_
      | refine LeO.bind ?_ (fun _ => ?_)
    · intro y0 y1 y2 y3 y4
      unfold fadd_odd.j1
      repeat' first
      | (with_reducible exact ih0 _ _ _ _ _)
      | (with_reducible exact ih1 _ _ _ _ _)
      | (with_reducible exact parts_Class.mono _ _)
      | (with_reducible exact LeO.refl _)
      | (with_reducible exact LeO.none _)
      | (with_reducible refine LeO.ite ?_ ?_)
      | (with_reducible refine LeO.bind ?_ (fun _ => ?_))
      | exact ih0 _ _ _ _ _
      | exact ih1 _ _ _ _ _
      | exact parts_Class.mono _ _
      | exact LeO.none _
      | refine LeO.ite ?_ ?_
      | refine LeO.bind ?_ (fun _ => ?_)
theorem fadd_odd.mono : ∀ a0 a1 k, LeO (fadd_odd.f k a0 a1) (fadd_odd.f (k + 1) a0 a1) := by
  intro a0 a1 k
  obtain ⟨ih0, ih1⟩ := fadd_odd.mono_l k
  unfold fadd_odd.f
  repeat' first
      | (with_reducible exact ih0 _ _ _ _ _)
      | (with_reducible exact ih1 _ _ _ _ _)
      | (with_reducible exact parts_Class.mono _ _)
      | (with_reducible exact LeO.refl _)
      | (with_reducible exact LeO.none _)
      | (with_reducible refine LeO.ite ?_ ?_)
      | (with_reducible refine LeO.bind ?_ (fun _ => ?_))
      | exact ih0 _ _ _ _ _
      | exact ih1 _ _ _ _ _
      | exact parts_Class.mono _ _
      | exact LeO.none _
      | refine LeO.ite ?_ ?_
      | refine LeO.bind ?_ (fun _ => ?_)
set_option maxHeartbeats 8000000 in
set_option maxRecDepth 100000 in
theorem fadd_odd.calls (k : Nat) (a0 : Int) (a1 : Int) (r1 : Int) (r2 : Int) (r3 : Bool) (w : World) (h : fadd_odd.f k a0 a1 = some (r1, r2, r3)) :
    Calls Try.prog 38 #[.int .u64 a0, .int .u64 a1] w fun e w' => e = .returned (.tuple #[.int .u64 r1, .int .i64 r2, .bool r3]) ∧ Drawn0 w w' := by
  have H : ((parts_Class.f k a0).bind fun t145 => ((parts_Class.f k a1).bind fun t146 => (if t145 = 3 then (fadd_odd.j0 k a0 a1 t145 t146 true) else (fadd_odd.j0 k a0 a1 t145 t146 (t146 == 3))))) = some (r1, r2, r3) := h
  clear h
  replace H := Option.bind_eq_some_iff.mp H
  obtain ⟨t145, A30, H⟩ := H
  replace H : ((parts_Class.f k a1).bind fun t146 => (if t145 = 3 then (fadd_odd.j0 k a0 a1 t145 t146 true) else (fadd_odd.j0 k a0 a1 t145 t146 (t146 == 3)))) = some (r1, r2, r3) := H
  have A3 := Aside0.mk A30
  clear A30
  replace H := Option.bind_eq_some_iff.mp H
  obtain ⟨t146, A40, H⟩ := H
  replace H : (if t145 = 3 then (fadd_odd.j0 k a0 a1 t145 t146 true) else (fadd_odd.j0 k a0 a1 t145 t146 (t146 == 3))) = some (r1, r2, r3) := H
  have A4 := Aside0.mk A40
  clear A40
  have HC5 := Aside0.mk H
  clear H
  go_enter Try.func38, Try.ntmps38
  go_upto_region 2 with (first | ((with_reducible refine gate_callee (f := 15) rfl ?_); refine goesL_ (some 10) rfl rfl Try.func15 (by kernel_rfl) rfl #[.int .u64 a0] rfl ar_ ?_; (with_reducible refine (parts_Class.calls k a0 t145 _ A3.out).mono ?_); rintro e w' ⟨rfl, ⟨nd, rfl⟩⟩; refine ⟨_, rfl, ?_⟩) | ((with_reducible refine gate_callee (f := 15) rfl ?_); refine goesL_ (some 12) rfl rfl Try.func15 (by kernel_rfl) rfl #[.int .u64 a1] rfl ar_ ?_; (with_reducible refine (parts_Class.calls k a1 t146 _ A4.out).mono ?_); rintro e w' ⟨rfl, ⟨nd, rfl⟩⟩; refine ⟨_, rfl, ?_⟩))
  (try simp only [Act.put, List.setIfInBounds_toArray, List.set_cons_zero, List.set_cons_succ])
  go_cut [13] (fun v13 wc => ∃ (kq : Nat) (x13_4 : Bool), v13 = .bool x13_4 ∧ Aside0 (fadd_odd.j0 kq a0 a1 t145 t146 x13_4 = some (r1, r2, r3)) ∧ Aside0 (kq ≤ k) ∧ Drawn0 w wc)
  case first =>
    have H := HC5.out
    clear HC5
    by_cases c6 : t145 = 3
    · rw [if_pos c6] at H
      have c6b0 : (t145 == 3) = true := beq_iff_eq.mpr c6
      have c6b1 : (t145 != 3) = false := bne_eq_false_iff_eq.mpr c6
      clear c6
      (first | rw [c6b0] | (simp only [i64_w, i32_w]; rw [c6b0]) | skip)
      have H' := Aside0.mk H
      clear H
      go_wp2
      go_meet
      case rel => exact ⟨_, (true), (by first | rfl | (simp; done) | (simp [*]; done)), H', ⟨by first | omega | exact Nat.le_refl _⟩, by repeat (first | exact Drawn0.refl _ | apply Drawn0.step)⟩
    · rw [if_neg c6] at H
      have c6b0 : (t145 == 3) = false := beq_eq_false_iff_ne.mpr c6
      have c6b1 : (t145 != 3) = true := bne_iff_ne.mpr c6
      (first | rw [c6b0] | (simp only [i64_w, i32_w]; rw [c6b0]) | skip)
      have H' := Aside0.mk H
      clear H
      go_wp2
      go_meet
      case rel => exact ⟨_, ((t146 == 3)), (by first | rfl | (simp; done) | (simp [*]; done)), H', ⟨by first | omega | exact Nat.le_refl _⟩, by repeat (first | exact Drawn0.refl _ | apply Drawn0.step)⟩
  case rest =>
    clear HC5
    try clear c1
    try clear p2
    try clear c3
    try clear c6
    try clear c6b0
    try clear c6b1
    obtain ⟨kq, x13_4, rfl, HA, HJ4, ⟨mc4, rfl⟩⟩ := hcut
    cases kq with
    | zero => exact absurd HA.out (by simp [fadd_odd.j0])
    | succ kj4 =>
      have H := HA.out
      clear HA
      simp only [fadd_odd.j0] at H
      by_cases c7 : x13_4 = true
      · subst c7
        have H1 : (some (9221120237041090560, 0, true)) = some (r1, r2, r3) := by rw [if_pos rfl] at H; exact H
        clear H
        have H := H1
        clear H1
        simp only [Option.some.injEq, Prod.mk.injEq] at H
        obtain ⟨rfl, rfl, rfl⟩ := H
        go_wp2
        go_ret3
        exact ⟨by first | rfl | (simp; done) | (simp [*]; done), by repeat (first | exact Drawn0.refl _ | apply Drawn0.step)⟩
      · replace c7 := Bool.eq_false_iff.mpr c7
        subst c7
        have H1 : (if t145 = 2 then (if t146 = 2 then (fadd_odd.j1 kj4 a0 a1 t145 t146 (a0 != a1)) else (fadd_odd.j1 kj4 a0 a1 t145 t146 false)) else (fadd_odd.j1 kj4 a0 a1 t145 t146 false)) = some (r1, r2, r3) := by rw [if_neg (show ¬ (false = true) by decide)] at H; exact H
        clear H
        have H := H1
        clear H1
        have HC8 := Aside0.mk H
        clear H
        go_upto_region 4 with (fail)
        go_cut [20] (fun v20 wc => ∃ (kq : Nat) (x20_7 : Bool), v20 = .bool x20_7 ∧ Aside0 (fadd_odd.j1 kq a0 a1 t145 t146 x20_7 = some (r1, r2, r3)) ∧ Aside0 (kq ≤ kj4) ∧ Drawn0 w wc)
        case first =>
          have H := HC8.out
          clear HC8
          by_cases c9 : t145 = 2
          · rw [if_pos c9] at H
            have c9b0 : (t145 == 2) = true := beq_iff_eq.mpr c9
            have c9b1 : (t145 != 2) = false := bne_eq_false_iff_eq.mpr c9
            clear c9
            (first | rw [c9b0] | (simp only [i64_w, i32_w]; rw [c9b0]) | skip)
            by_cases c10 : t146 = 2
            · rw [if_pos c10] at H
              have c10b0 : (t146 == 2) = true := beq_iff_eq.mpr c10
              have c10b1 : (t146 != 2) = false := bne_eq_false_iff_eq.mpr c10
              clear c10
              have H' := Aside0.mk H
              clear H
              go_wp2
              go_meet
              case rel => exact ⟨_, ((a0 != a1)), (by first | rfl | (simp; done) | (simp [*]; done)), H', ⟨by have := HJ4.out; first | omega | exact Nat.le_refl _⟩, by repeat (first | exact Drawn0.refl _ | apply Drawn0.step)⟩
            · rw [if_neg c10] at H
              have c10b0 : (t146 == 2) = false := beq_eq_false_iff_ne.mpr c10
              have c10b1 : (t146 != 2) = true := bne_iff_ne.mpr c10
              have H' := Aside0.mk H
              clear H
              go_wp2
              go_meet
              case rel => exact ⟨_, (false), (by first | rfl | (simp; done) | (simp [*]; done)), H', ⟨by have := HJ4.out; first | omega | exact Nat.le_refl _⟩, by repeat (first | exact Drawn0.refl _ | apply Drawn0.step)⟩
          · rw [if_neg c9] at H
            have c9b0 : (t145 == 2) = false := beq_eq_false_iff_ne.mpr c9
            have c9b1 : (t145 != 2) = true := bne_iff_ne.mpr c9
            (first | rw [c9b0] | (simp only [i64_w, i32_w]; rw [c9b0]) | skip)
            have H' := Aside0.mk H
            clear H
            go_wp2
            go_meet
            case rel => exact ⟨_, (false), (by first | rfl | (simp; done) | (simp [*]; done)), H', ⟨by have := HJ4.out; first | omega | exact Nat.le_refl _⟩, by repeat (first | exact Drawn0.refl _ | apply Drawn0.step)⟩
        case rest =>
          clear HC8
          try clear c1
          try clear p2
          try clear c3
          try clear c4
          try clear c6
          try clear c6b0
          try clear c6b1
          try clear c7
          try clear c9
          try clear c9b0
          try clear c9b1
          try clear c10
          try clear c10b0
          try clear c10b1
          try clear p2
          obtain ⟨kq, x20_7, rfl, HA, HJ7, ⟨mc7, rfl⟩⟩ := hcut
          cases kq with
          | zero => exact absurd HA.out (by simp [fadd_odd.j1])
          | succ kj7 =>
            have H := HA.out
            clear HA
            simp only [fadd_odd.j1] at H
            by_cases c11 : x20_7 = true
            · subst c11
              have H1 : (some (9221120237041090560, 1, true)) = some (r1, r2, r3) := by rw [if_pos rfl] at H; exact H
              clear H
              have H := H1
              clear H1
              simp only [Option.some.injEq, Prod.mk.injEq] at H
              obtain ⟨rfl, rfl, rfl⟩ := H
              go_wp2
              go_ret3
              exact ⟨by first | rfl | (simp; done) | (simp [*]; done), by repeat (first | exact Drawn0.refl _ | apply Drawn0.step)⟩
            · replace c11 := Bool.eq_false_iff.mpr c11
              subst c11
              have H1 : (if t145 = 2 then (some (a0, 0, true)) else (if t146 = 2 then (some (a1, 0, true)) else (some (0, 0, false)))) = some (r1, r2, r3) := by rw [if_neg (show ¬ (false = true) by decide)] at H; exact H
              clear H
              have H := H1
              clear H1
              by_cases c12 : t145 = 2
              · rw [if_pos c12] at H
                have c12b0 : (t145 == 2) = true := beq_iff_eq.mpr c12
                have c12b1 : (t145 != 2) = false := bne_eq_false_iff_eq.mpr c12
                clear c12
                simp only [Option.some.injEq, Prod.mk.injEq] at H
                obtain ⟨rfl, rfl, rfl⟩ := H
                go_wp2
                go_ret3
                exact ⟨by first | rfl | (simp; done) | (simp [*]; done), by repeat (first | exact Drawn0.refl _ | apply Drawn0.step)⟩
              · rw [if_neg c12] at H
                have c12b0 : (t145 == 2) = false := beq_eq_false_iff_ne.mpr c12
                have c12b1 : (t145 != 2) = true := bne_iff_ne.mpr c12
                by_cases c13 : t146 = 2
                · rw [if_pos c13] at H
                  have c13b0 : (t146 == 2) = true := beq_iff_eq.mpr c13
                  have c13b1 : (t146 != 2) = false := bne_eq_false_iff_eq.mpr c13
                  clear c13
                  simp only [Option.some.injEq, Prod.mk.injEq] at H
                  obtain ⟨rfl, rfl, rfl⟩ := H
                  go_wp2
                  go_ret3
                  exact ⟨by first | rfl | (simp; done) | (simp [*]; done), by repeat (first | exact Drawn0.refl _ | apply Drawn0.step)⟩
                · rw [if_neg c13] at H
                  have c13b0 : (t146 == 2) = false := beq_eq_false_iff_ne.mpr c13
                  have c13b1 : (t146 != 2) = true := bne_iff_ne.mpr c13
                  simp only [Option.some.injEq, Prod.mk.injEq] at H
                  obtain ⟨rfl, rfl, rfl⟩ := H
                  go_wp2
                  go_ret3
                  exact ⟨by first | rfl | (simp; done) | (simp [*]; done), by repeat (first | exact Drawn0.refl _ | apply Drawn0.step)⟩
def fadd_nought.f (a0 : Int) (a1 : Int) (a2 : Int) : Option (Int) := if (Go.bits .and .u64 a0 9223372036854775808) = (Go.bits .and .u64 a1 9223372036854775808) then (some (Go.bits .and .u64 a0 9223372036854775808)) else ((parts_Zero.f (a2 == 4)).bind fun t147 => (some t147))
set_option maxHeartbeats 8000000 in
set_option maxRecDepth 100000 in
theorem fadd_nought.calls (a0 : Int) (a1 : Int) (a2 : Int) (r : Int) (w : World) (h : fadd_nought.f a0 a1 a2 = some r) :
    Calls Try.prog 39 #[.int .u64 a0, .int .u64 a1, .int .i64 a2] w fun e w' => e = .returned (.int .u64 r) ∧ Drawn0 w w' := by
  have H : (if (Go.bits .and .u64 a0 9223372036854775808) = (Go.bits .and .u64 a1 9223372036854775808) then (some (Go.bits .and .u64 a0 9223372036854775808)) else ((parts_Zero.f (a2 == 4)).bind fun t147 => (some t147))) = some r := h
  clear h
  by_cases c4 : (Go.bits .and .u64 a0 9223372036854775808) = (Go.bits .and .u64 a1 9223372036854775808)
  · rw [if_pos c4] at H
    have c4b0 : ((Go.bits .and .u64 a0 9223372036854775808) == (Go.bits .and .u64 a1 9223372036854775808)) = true := beq_iff_eq.mpr c4
    have c4b1 : ((Go.bits .and .u64 a0 9223372036854775808) != (Go.bits .and .u64 a1 9223372036854775808)) = false := bne_eq_false_iff_eq.mpr c4
    clear c4
    obtain rfl := Option.some.inj H
    go_enter Try.func39, Try.ntmps39
    go_wp2
    go_ret
    exact ⟨by first | rfl | (simp; done) | (simp [*]; done), by repeat (first | exact Drawn0.refl _ | apply Drawn0.step)⟩
  · rw [if_neg c4] at H
    have c4b0 : ((Go.bits .and .u64 a0 9223372036854775808) == (Go.bits .and .u64 a1 9223372036854775808)) = false := beq_eq_false_iff_ne.mpr c4
    have c4b1 : ((Go.bits .and .u64 a0 9223372036854775808) != (Go.bits .and .u64 a1 9223372036854775808)) = true := bne_iff_ne.mpr c4
    replace H := Option.bind_eq_some_iff.mp H
    obtain ⟨t147, A50, H⟩ := H
    replace H : (some t147) = some r := H
    have A5 := Aside0.mk A50
    clear A50
    obtain rfl := Option.some.inj H
    go_enter Try.func39, Try.ntmps39
    go_wp2_with (first | ((with_reducible refine gate_callee (f := 28) rfl ?_); refine goesL_ (some 16) rfl rfl Try.func28 (by kernel_rfl) rfl #[.bool (a2 == 4)] rfl ar_ ?_; (with_reducible refine (parts_Zero.calls (a2 == 4) t147 _ A5.out).mono ?_); rintro e w' ⟨rfl, ⟨nd, rfl⟩⟩; refine ⟨_, rfl, ?_⟩))
    go_ret
    exact ⟨by first | rfl | (simp; done) | (simp [*]; done), by repeat (first | exact Drawn0.refl _ | apply Drawn0.step)⟩
def fadd_lift.f (a0 : Int) (a1 : Int) : Option (Int × Int) := if a1 = 0 then (some (0, a0)) else (if 0 ≤ (wrap64 (64 - a1)) then (if 0 ≤ a1 then (some (shr .u64 a0 (wrap64 (64 - a1)), shl .u64 a0 a1)) else (none)) else (none))
set_option maxHeartbeats 8000000 in
set_option maxRecDepth 100000 in
theorem fadd_lift.calls (a0 : Int) (a1 : Int) (r1 : Int) (r2 : Int) (w : World) (h : fadd_lift.f a0 a1 = some (r1, r2)) :
    Calls Try.prog 41 #[.int .u64 a0, .int .i64 a1] w fun e w' => e = .returned (.tuple #[.int .u64 r1, .int .u64 r2]) ∧ Drawn0 w w' := by
  have H : (if a1 = 0 then (some (0, a0)) else (if 0 ≤ (wrap64 (64 - a1)) then (if 0 ≤ a1 then (some (shr .u64 a0 (wrap64 (64 - a1)), shl .u64 a0 a1)) else (none)) else (none))) = some (r1, r2) := h
  clear h
  by_cases c3 : a1 = 0
  · rw [if_pos c3] at H
    have c3b0 : (a1 == 0) = true := beq_iff_eq.mpr c3
    have c3b1 : (a1 != 0) = false := bne_eq_false_iff_eq.mpr c3
    clear c3
    simp only [Option.some.injEq, Prod.mk.injEq] at H
    obtain ⟨rfl, rfl⟩ := H
    go_enter Try.func41, Try.ntmps41
    go_wp2
    repeat (go_quiet (fail); try go_wp2)
    go_ret2
    exact ⟨by first | rfl | (simp; done) | (simp [*]; done), by repeat (first | exact Drawn0.refl _ | apply Drawn0.step)⟩
  · rw [if_neg c3] at H
    have c3b0 : (a1 == 0) = false := beq_eq_false_iff_ne.mpr c3
    have c3b1 : (a1 != 0) = true := bne_iff_ne.mpr c3
    obtain ⟨ji4, hji4⟩ : ∃ j_ : Int, (wrap64 (64 - a1)) = j_ := ⟨_, rfl⟩
    replace H : (if 0 ≤ (ji4) then (if 0 ≤ a1 then (some (shr .u64 a0 (ji4), shl .u64 a0 a1)) else (none)) else (none)) = some (r1, r2) := by first | (rw [hji4] at H; exact H) | (simp only [hji4] at H ⊢; exact H)
    have hji4w : (IntKind.i64.wrap (64 - a1)) = ji4 := (i64_w _).trans hji4
    by_cases c5 : 0 ≤ (ji4)
    · rw [if_pos c5] at H
      have c5b0 := eq_true c5
      have c5b1 : decide (0 ≤ (ji4)) = true := decide_eq_true c5
      clear c5
      obtain ⟨ji6, hji6⟩ : ∃ j_ : Int, (shr .u64 a0 (ji4)) = j_ := ⟨_, rfl⟩
      replace H : (if 0 ≤ a1 then (some (ji6, shl .u64 a0 a1)) else (none)) = some (r1, r2) := by first | (rw [hji6] at H; exact H) | (simp only [hji6] at H ⊢; exact H)
      have hji6_ : (a0 / 2 ^ min (ji4).toNat 64) = ji6 := hji6
      have hji6z : (ji4) ≤ 64 → (a0 / 2 ^ (ji4).toNat) = ji6 := shr_small hji6
      by_cases c7 : 0 ≤ a1
      · rw [if_pos c7] at H
        have c7b0 := eq_true c7
        have c7b1 : decide (0 ≤ a1) = true := decide_eq_true c7
        clear c7
        obtain ⟨ji8, hji8⟩ : ∃ j_ : Int, (shl .u64 a0 a1) = j_ := ⟨_, rfl⟩
        replace H : (some (ji6, ji8)) = some (r1, r2) := by first | (rw [hji8] at H; exact H) | (simp only [hji8] at H ⊢; exact H)
        have hji8_ : (IntKind.u64.wrap (a0 * 2 ^ min a1.toNat 64)) = ji8 := hji8
        have hji8z : a1 ≤ 64 → (IntKind.u64.wrap (a0 * 2 ^ a1.toNat)) = ji8 := shl_small hji8
        simp only [Option.some.injEq, Prod.mk.injEq] at H
        obtain ⟨rfl, rfl⟩ := H
        go_enter Try.func41, Try.ntmps41
        go_wp2
        repeat (go_quiet (fail); try go_wp2)
        go_ret2
        exact ⟨by first | rfl | (simp; done) | (simp only [← hji4, ← hji6, ← hji8] <;> (first | rfl | simp)) | (simp [*]; done), by repeat (first | exact Drawn0.refl _ | apply Drawn0.step)⟩
      · rw [if_neg c7] at H
        exact absurd H (by simp)
    · rw [if_neg c5] at H
      exact absurd H (by simp)
def fadd_join.f (a0 : Int) (a1 : Int) (a2 : Int) (a3 : Bool) (a4 : Bool) : Option (Int × Int) := if a3 = true then (if a4 = true then ((bits_Sub64.f a1 a2 1).bind fun bt148 => (some (IntKind.u64.wrap (a0 - bt148.2), bt148.1))) else ((bits_Sub64.f a1 a2 0).bind fun bt150 => (some (IntKind.u64.wrap (a0 - bt150.2), bt150.1)))) else ((bits_Add64.f a1 a2 0).bind fun bt152 => (some (IntKind.u64.wrap (a0 + bt152.2), bt152.1)))
set_option maxHeartbeats 8000000 in
set_option maxRecDepth 100000 in
theorem fadd_join.calls (a0 : Int) (a1 : Int) (a2 : Int) (a3 : Bool) (a4 : Bool) (r1 : Int) (r2 : Int) (w : World) (h : fadd_join.f a0 a1 a2 a3 a4 = some (r1, r2)) :
    Calls Try.prog 42 #[.int .u64 a0, .int .u64 a1, .int .u64 a2, .bool a3, .bool a4] w fun e w' => e = .returned (.tuple #[.int .u64 r1, .int .u64 r2]) ∧ Drawn0 w w' := by
  have H : (if a3 = true then (if a4 = true then ((bits_Sub64.f a1 a2 1).bind fun bt148 => (some (IntKind.u64.wrap (a0 - bt148.2), bt148.1))) else ((bits_Sub64.f a1 a2 0).bind fun bt150 => (some (IntKind.u64.wrap (a0 - bt150.2), bt150.1)))) else ((bits_Add64.f a1 a2 0).bind fun bt152 => (some (IntKind.u64.wrap (a0 + bt152.2), bt152.1)))) = some (r1, r2) := h
  clear h
  by_cases c6 : a3 = true
  · subst c6
    have H1 : (if a4 = true then ((bits_Sub64.f a1 a2 1).bind fun bt148 => (some (IntKind.u64.wrap (a0 - bt148.2), bt148.1))) else ((bits_Sub64.f a1 a2 0).bind fun bt150 => (some (IntKind.u64.wrap (a0 - bt150.2), bt150.1)))) = some (r1, r2) := by rw [if_pos rfl] at H; exact H
    clear H
    have H := H1
    clear H1
    by_cases c7 : a4 = true
    · subst c7
      have H1 : ((bits_Sub64.f a1 a2 1).bind fun bt148 => (some (IntKind.u64.wrap (a0 - bt148.2), bt148.1))) = some (r1, r2) := by rw [if_pos rfl] at H; exact H
      clear H
      have H := H1
      clear H1
      replace H := Option.bind_eq_some_iff.mp H
      obtain ⟨⟨t148, t149⟩, A80, H⟩ := H
      replace H : (some (IntKind.u64.wrap (a0 - t149), t148)) = some (r1, r2) := H
      have A8 := Aside0.mk A80
      clear A80
      simp only [Option.some.injEq, Prod.mk.injEq] at H
      obtain ⟨rfl, rfl⟩ := H
      go_enter Try.func42, Try.ntmps42
      go_wp2_with (first | ((with_reducible refine gate_callee (f := 44) rfl ?_); refine goesXL_ (some 34) rfl rfl #[.int .u64 a1, .int .u64 a2, .int .u64 1] rfl ar_ ?_; (with_reducible refine (bits_Sub64.calls a1 a2 1 t148 t149 _ A8.out).mono ?_); rintro e w' ⟨rfl, ⟨nd, rfl⟩⟩; refine ⟨_, rfl, ?_⟩))
      go_ret2
      exact ⟨by first | rfl | (simp; done) | (simp [*]; done), by repeat (first | exact Drawn0.refl _ | apply Drawn0.step)⟩
    · replace c7 := Bool.eq_false_iff.mpr c7
      subst c7
      have H1 : ((bits_Sub64.f a1 a2 0).bind fun bt150 => (some (IntKind.u64.wrap (a0 - bt150.2), bt150.1))) = some (r1, r2) := by rw [if_neg (show ¬ (false = true) by decide)] at H; exact H
      clear H
      have H := H1
      clear H1
      replace H := Option.bind_eq_some_iff.mp H
      obtain ⟨⟨t150, t151⟩, A90, H⟩ := H
      replace H : (some (IntKind.u64.wrap (a0 - t151), t150)) = some (r1, r2) := H
      have A9 := Aside0.mk A90
      clear A90
      simp only [Option.some.injEq, Prod.mk.injEq] at H
      obtain ⟨rfl, rfl⟩ := H
      go_enter Try.func42, Try.ntmps42
      go_wp2_with (first | ((with_reducible refine gate_callee (f := 44) rfl ?_); refine goesXL_ (some 34) rfl rfl #[.int .u64 a1, .int .u64 a2, .int .u64 0] rfl ar_ ?_; (with_reducible refine (bits_Sub64.calls a1 a2 0 t150 t151 _ A9.out).mono ?_); rintro e w' ⟨rfl, ⟨nd, rfl⟩⟩; refine ⟨_, rfl, ?_⟩))
      go_ret2
      exact ⟨by first | rfl | (simp; done) | (simp [*]; done), by repeat (first | exact Drawn0.refl _ | apply Drawn0.step)⟩
  · replace c6 := Bool.eq_false_iff.mpr c6
    subst c6
    have H1 : ((bits_Add64.f a1 a2 0).bind fun bt152 => (some (IntKind.u64.wrap (a0 + bt152.2), bt152.1))) = some (r1, r2) := by rw [if_neg (show ¬ (false = true) by decide)] at H; exact H
    clear H
    have H := H1
    clear H1
    replace H := Option.bind_eq_some_iff.mp H
    obtain ⟨⟨t152, t153⟩, A100, H⟩ := H
    replace H : (some (IntKind.u64.wrap (a0 + t153), t152)) = some (r1, r2) := H
    have A10 := Aside0.mk A100
    clear A100
    simp only [Option.some.injEq, Prod.mk.injEq] at H
    obtain ⟨rfl, rfl⟩ := H
    go_enter Try.func42, Try.ntmps42
    go_wp2_with (first | ((with_reducible refine gate_callee (f := 43) rfl ?_); refine goesXL_ (some 22) rfl rfl #[.int .u64 a1, .int .u64 a2, .int .u64 0] rfl ar_ ?_; (with_reducible refine (bits_Add64.calls a1 a2 0 t152 t153 _ A10.out).mono ?_); rintro e w' ⟨rfl, ⟨nd, rfl⟩⟩; refine ⟨_, rfl, ?_⟩))
    go_ret2
    exact ⟨by first | rfl | (simp; done) | (simp [*]; done), by repeat (first | exact Drawn0.refl _ | apply Drawn0.step)⟩
def fadd_sum.f (k : Nat) (a0 : Int) (a1 : Int) (a2 : Int) : Option (Int × Int) := (parts_Split.f a0).bind fun bt154 => ((parts_Split.f a1).bind fun bt158 => (if (wrap64 (bt154.2.2.1 - bt158.2.2.1)) ≤ 60 then ((fadd_lift.f bt154.2.1 (wrap64 (bt154.2.2.1 - bt158.2.2.1))).bind fun bt162 => ((fadd_join.f bt162.1 bt162.2 bt158.2.1 (!(bt154.1 == bt158.1)) false).bind fun bt164 => ((parts_Round.f k bt154.1 bt164.1 bt164.2 bt158.2.2.1 false a2).bind fun bt166 => (some (bt166.1, bt166.2))))) else ((fadd_lift.f bt154.2.1 62).bind fun bt168 => (if (mn (wrap64 ((wrap64 (bt154.2.2.1 - bt158.2.2.1)) - 62)) 116) ≤ 0 then (if 0 ≤ (wrap64 (-(mn (wrap64 ((wrap64 (bt154.2.2.1 - bt158.2.2.1)) - 62)) 116))) then ((fadd_join.f bt168.1 bt168.2 (shl .u64 bt158.2.1 (wrap64 (-(mn (wrap64 ((wrap64 (bt154.2.2.1 - bt158.2.2.1)) - 62)) 116)))) (!(bt154.1 == bt158.1)) false).bind fun bt170 => ((parts_Round.f k bt154.1 bt170.1 bt170.2 (wrap64 (bt154.2.2.1 - 62)) false a2).bind fun bt172 => (some (bt172.1, bt172.2)))) else (none)) else (if (mn (wrap64 ((wrap64 (bt154.2.2.1 - bt158.2.2.1)) - 62)) 116) < 64 then (if 0 ≤ (mn (wrap64 ((wrap64 (bt154.2.2.1 - bt158.2.2.1)) - 62)) 116) then (if 0 ≤ (wrap64 (64 - (mn (wrap64 ((wrap64 (bt154.2.2.1 - bt158.2.2.1)) - 62)) 116))) then ((fadd_join.f bt168.1 bt168.2 (shr .u64 bt158.2.1 (mn (wrap64 ((wrap64 (bt154.2.2.1 - bt158.2.2.1)) - 62)) 116)) (!(bt154.1 == bt158.1)) ((shl .u64 bt158.2.1 (wrap64 (64 - (mn (wrap64 ((wrap64 (bt154.2.2.1 - bt158.2.2.1)) - 62)) 116)))) != 0)).bind fun bt174 => ((parts_Round.f k bt154.1 bt174.1 bt174.2 (wrap64 (bt154.2.2.1 - 62)) ((shl .u64 bt158.2.1 (wrap64 (64 - (mn (wrap64 ((wrap64 (bt154.2.2.1 - bt158.2.2.1)) - 62)) 116)))) != 0) a2).bind fun bt176 => (some (bt176.1, bt176.2)))) else (none)) else (none)) else ((fadd_join.f bt168.1 bt168.2 0 (!(bt154.1 == bt158.1)) (bt158.2.1 != 0)).bind fun bt178 => ((parts_Round.f k bt154.1 bt178.1 bt178.2 (wrap64 (bt154.2.2.1 - 62)) (bt158.2.1 != 0) a2).bind fun bt180 => (some (bt180.1, bt180.2)))))))))
theorem fadd_sum.mono : ∀ a0 a1 a2 k, LeO (fadd_sum.f k a0 a1 a2) (fadd_sum.f (k + 1) a0 a1 a2) := by
  intro a0 a1 a2 k
  unfold fadd_sum.f
  repeat' first
      | (with_reducible exact parts_Round.mono _ _ _ _ _ _ _)
      | (with_reducible exact LeO.refl _)
      | (with_reducible exact LeO.none _)
      | (with_reducible refine LeO.ite ?_ ?_)
      | (with_reducible refine LeO.bind ?_ (fun _ => ?_))
      | exact parts_Round.mono _ _ _ _ _ _ _
      | exact LeO.none _
      | refine LeO.ite ?_ ?_
      | refine LeO.bind ?_ (fun _ => ?_)
set_option maxHeartbeats 8000000 in
set_option maxRecDepth 100000 in
theorem fadd_sum.calls (k : Nat) (a0 : Int) (a1 : Int) (a2 : Int) (r1 : Int) (r2 : Int) (w : World) (h : fadd_sum.f k a0 a1 a2 = some (r1, r2)) :
    Calls Try.prog 40 #[.int .u64 a0, .int .u64 a1, .int .i64 a2] w fun e w' => e = .returned (.tuple #[.int .u64 r1, .int .i64 r2]) ∧ Below w.heap.size w w' := by
  have HB := Aside0.mk (Below.refl w.heap.size w)
  have H : ((parts_Split.f a0).bind fun bt154 => ((parts_Split.f a1).bind fun bt158 => (if (wrap64 (bt154.2.2.1 - bt158.2.2.1)) ≤ 60 then ((fadd_lift.f bt154.2.1 (wrap64 (bt154.2.2.1 - bt158.2.2.1))).bind fun bt162 => ((fadd_join.f bt162.1 bt162.2 bt158.2.1 (!(bt154.1 == bt158.1)) false).bind fun bt164 => ((parts_Round.f k bt154.1 bt164.1 bt164.2 bt158.2.2.1 false a2).bind fun bt166 => (some (bt166.1, bt166.2))))) else ((fadd_lift.f bt154.2.1 62).bind fun bt168 => (if (mn (wrap64 ((wrap64 (bt154.2.2.1 - bt158.2.2.1)) - 62)) 116) ≤ 0 then (if 0 ≤ (wrap64 (-(mn (wrap64 ((wrap64 (bt154.2.2.1 - bt158.2.2.1)) - 62)) 116))) then ((fadd_join.f bt168.1 bt168.2 (shl .u64 bt158.2.1 (wrap64 (-(mn (wrap64 ((wrap64 (bt154.2.2.1 - bt158.2.2.1)) - 62)) 116)))) (!(bt154.1 == bt158.1)) false).bind fun bt170 => ((parts_Round.f k bt154.1 bt170.1 bt170.2 (wrap64 (bt154.2.2.1 - 62)) false a2).bind fun bt172 => (some (bt172.1, bt172.2)))) else (none)) else (if (mn (wrap64 ((wrap64 (bt154.2.2.1 - bt158.2.2.1)) - 62)) 116) < 64 then (if 0 ≤ (mn (wrap64 ((wrap64 (bt154.2.2.1 - bt158.2.2.1)) - 62)) 116) then (if 0 ≤ (wrap64 (64 - (mn (wrap64 ((wrap64 (bt154.2.2.1 - bt158.2.2.1)) - 62)) 116))) then ((fadd_join.f bt168.1 bt168.2 (shr .u64 bt158.2.1 (mn (wrap64 ((wrap64 (bt154.2.2.1 - bt158.2.2.1)) - 62)) 116)) (!(bt154.1 == bt158.1)) ((shl .u64 bt158.2.1 (wrap64 (64 - (mn (wrap64 ((wrap64 (bt154.2.2.1 - bt158.2.2.1)) - 62)) 116)))) != 0)).bind fun bt174 => ((parts_Round.f k bt154.1 bt174.1 bt174.2 (wrap64 (bt154.2.2.1 - 62)) ((shl .u64 bt158.2.1 (wrap64 (64 - (mn (wrap64 ((wrap64 (bt154.2.2.1 - bt158.2.2.1)) - 62)) 116)))) != 0) a2).bind fun bt176 => (some (bt176.1, bt176.2)))) else (none)) else (none)) else ((fadd_join.f bt168.1 bt168.2 0 (!(bt154.1 == bt158.1)) (bt158.2.1 != 0)).bind fun bt178 => ((parts_Round.f k bt154.1 bt178.1 bt178.2 (wrap64 (bt154.2.2.1 - 62)) (bt158.2.1 != 0) a2).bind fun bt180 => (some (bt180.1, bt180.2)))))))))) = some (r1, r2) := h
  clear h
  replace H := Option.bind_eq_some_iff.mp H
  obtain ⟨⟨t154, t155, t156, t157⟩, A40, H⟩ := H
  replace H : ((parts_Split.f a1).bind fun bt158 => (if (wrap64 (t156 - bt158.2.2.1)) ≤ 60 then ((fadd_lift.f t155 (wrap64 (t156 - bt158.2.2.1))).bind fun bt162 => ((fadd_join.f bt162.1 bt162.2 bt158.2.1 (!(t154 == bt158.1)) false).bind fun bt164 => ((parts_Round.f k t154 bt164.1 bt164.2 bt158.2.2.1 false a2).bind fun bt166 => (some (bt166.1, bt166.2))))) else ((fadd_lift.f t155 62).bind fun bt168 => (if (mn (wrap64 ((wrap64 (t156 - bt158.2.2.1)) - 62)) 116) ≤ 0 then (if 0 ≤ (wrap64 (-(mn (wrap64 ((wrap64 (t156 - bt158.2.2.1)) - 62)) 116))) then ((fadd_join.f bt168.1 bt168.2 (shl .u64 bt158.2.1 (wrap64 (-(mn (wrap64 ((wrap64 (t156 - bt158.2.2.1)) - 62)) 116)))) (!(t154 == bt158.1)) false).bind fun bt170 => ((parts_Round.f k t154 bt170.1 bt170.2 (wrap64 (t156 - 62)) false a2).bind fun bt172 => (some (bt172.1, bt172.2)))) else (none)) else (if (mn (wrap64 ((wrap64 (t156 - bt158.2.2.1)) - 62)) 116) < 64 then (if 0 ≤ (mn (wrap64 ((wrap64 (t156 - bt158.2.2.1)) - 62)) 116) then (if 0 ≤ (wrap64 (64 - (mn (wrap64 ((wrap64 (t156 - bt158.2.2.1)) - 62)) 116))) then ((fadd_join.f bt168.1 bt168.2 (shr .u64 bt158.2.1 (mn (wrap64 ((wrap64 (t156 - bt158.2.2.1)) - 62)) 116)) (!(t154 == bt158.1)) ((shl .u64 bt158.2.1 (wrap64 (64 - (mn (wrap64 ((wrap64 (t156 - bt158.2.2.1)) - 62)) 116)))) != 0)).bind fun bt174 => ((parts_Round.f k t154 bt174.1 bt174.2 (wrap64 (t156 - 62)) ((shl .u64 bt158.2.1 (wrap64 (64 - (mn (wrap64 ((wrap64 (t156 - bt158.2.2.1)) - 62)) 116)))) != 0) a2).bind fun bt176 => (some (bt176.1, bt176.2)))) else (none)) else (none)) else ((fadd_join.f bt168.1 bt168.2 0 (!(t154 == bt158.1)) (bt158.2.1 != 0)).bind fun bt178 => ((parts_Round.f k t154 bt178.1 bt178.2 (wrap64 (t156 - 62)) (bt158.2.1 != 0) a2).bind fun bt180 => (some (bt180.1, bt180.2))))))))) = some (r1, r2) := H
  have A4 := Aside0.mk A40
  clear A40
  replace H := Option.bind_eq_some_iff.mp H
  obtain ⟨⟨t158, t159, t160, t161⟩, A50, H⟩ := H
  replace H : (if (wrap64 (t156 - t160)) ≤ 60 then ((fadd_lift.f t155 (wrap64 (t156 - t160))).bind fun bt162 => ((fadd_join.f bt162.1 bt162.2 t159 (!(t154 == t158)) false).bind fun bt164 => ((parts_Round.f k t154 bt164.1 bt164.2 t160 false a2).bind fun bt166 => (some (bt166.1, bt166.2))))) else ((fadd_lift.f t155 62).bind fun bt168 => (if (mn (wrap64 ((wrap64 (t156 - t160)) - 62)) 116) ≤ 0 then (if 0 ≤ (wrap64 (-(mn (wrap64 ((wrap64 (t156 - t160)) - 62)) 116))) then ((fadd_join.f bt168.1 bt168.2 (shl .u64 t159 (wrap64 (-(mn (wrap64 ((wrap64 (t156 - t160)) - 62)) 116)))) (!(t154 == t158)) false).bind fun bt170 => ((parts_Round.f k t154 bt170.1 bt170.2 (wrap64 (t156 - 62)) false a2).bind fun bt172 => (some (bt172.1, bt172.2)))) else (none)) else (if (mn (wrap64 ((wrap64 (t156 - t160)) - 62)) 116) < 64 then (if 0 ≤ (mn (wrap64 ((wrap64 (t156 - t160)) - 62)) 116) then (if 0 ≤ (wrap64 (64 - (mn (wrap64 ((wrap64 (t156 - t160)) - 62)) 116))) then ((fadd_join.f bt168.1 bt168.2 (shr .u64 t159 (mn (wrap64 ((wrap64 (t156 - t160)) - 62)) 116)) (!(t154 == t158)) ((shl .u64 t159 (wrap64 (64 - (mn (wrap64 ((wrap64 (t156 - t160)) - 62)) 116)))) != 0)).bind fun bt174 => ((parts_Round.f k t154 bt174.1 bt174.2 (wrap64 (t156 - 62)) ((shl .u64 t159 (wrap64 (64 - (mn (wrap64 ((wrap64 (t156 - t160)) - 62)) 116)))) != 0) a2).bind fun bt176 => (some (bt176.1, bt176.2)))) else (none)) else (none)) else ((fadd_join.f bt168.1 bt168.2 0 (!(t154 == t158)) (t159 != 0)).bind fun bt178 => ((parts_Round.f k t154 bt178.1 bt178.2 (wrap64 (t156 - 62)) (t159 != 0) a2).bind fun bt180 => (some (bt180.1, bt180.2)))))))) = some (r1, r2) := H
  have A5 := Aside0.mk A50
  clear A50
  by_cases c6 : (wrap64 (t156 - t160)) ≤ 60
  · rw [if_pos c6] at H
    have c6b0 : decide ((wrap64 (t156 - t160)) ≤ 60) = true := decide_eq_true c6
    clear c6
    replace H := Option.bind_eq_some_iff.mp H
    obtain ⟨⟨t162, t163⟩, A70, H⟩ := H
    replace H : ((fadd_join.f t162 t163 t159 (!(t154 == t158)) false).bind fun bt164 => ((parts_Round.f k t154 bt164.1 bt164.2 t160 false a2).bind fun bt166 => (some (bt166.1, bt166.2)))) = some (r1, r2) := H
    have A7 := Aside0.mk A70
    clear A70
    replace H := Option.bind_eq_some_iff.mp H
    obtain ⟨⟨t164, t165⟩, A80, H⟩ := H
    replace H : ((parts_Round.f k t154 t164 t165 t160 false a2).bind fun bt166 => (some (bt166.1, bt166.2))) = some (r1, r2) := H
    have A8 := Aside0.mk A80
    clear A80
    replace H := Option.bind_eq_some_iff.mp H
    obtain ⟨⟨t166, t167⟩, A90, H⟩ := H
    replace H : (some (t166, t167)) = some (r1, r2) := H
    have A9 := Aside0.mk A90
    clear A90
    simp only [Option.some.injEq, Prod.mk.injEq] at H
    obtain ⟨rfl, rfl⟩ := H
    go_enter Try.func40, Try.ntmps40
    go_wp2_with (first | (go_at_call 14; (with_reducible refine (parts_Split.calls a0 t154 t155 t156 t157 _ A4.out).mono ?_); rintro e w' ⟨rfl, ⟨nd, rfl⟩⟩; (try first | exact ⟨rfl, _, World.drewN_drewN _ _ _⟩ | exact ⟨rfl, _, Eq.trans (World.drewN_drewN _ _ _) (congrArg (World.drewN _) (Nat.add_assoc _ _ _))⟩)) | (go_at_call 14; (with_reducible refine (parts_Split.calls a1 t158 t159 t160 t161 _ A5.out).mono ?_); rintro e w' ⟨rfl, ⟨nd, rfl⟩⟩; (try first | exact ⟨rfl, _, World.drewN_drewN _ _ _⟩ | exact ⟨rfl, _, Eq.trans (World.drewN_drewN _ _ _) (congrArg (World.drewN _) (Nat.add_assoc _ _ _))⟩)) | (go_at_call 41; (with_reducible refine (fadd_lift.calls t155 (wrap64 (t156 - t160)) t162 t163 _ A7.out).mono ?_); rintro e w' ⟨rfl, ⟨nd, rfl⟩⟩; (try first | exact ⟨rfl, _, World.drewN_drewN _ _ _⟩ | exact ⟨rfl, _, Eq.trans (World.drewN_drewN _ _ _) (congrArg (World.drewN _) (Nat.add_assoc _ _ _))⟩)) | (go_at_call 42; (with_reducible refine (fadd_join.calls t162 t163 t159 (!(t154 == t158)) false t164 t165 _ A8.out).mono ?_); rintro e w' ⟨rfl, ⟨nd, rfl⟩⟩; (try first | exact ⟨rfl, _, World.drewN_drewN _ _ _⟩ | exact ⟨rfl, _, Eq.trans (World.drewN_drewN _ _ _) (congrArg (World.drewN _) (Nat.add_assoc _ _ _))⟩)) | (go_at_call 17; (with_reducible refine (parts_Round.calls k t154 t164 t165 t160 false a2 t166 t167 _ A9.out).mono ?_); rintro e w10 ⟨rfl, hb⟩; have n0_ := Aside0.mk (below_step (dn_ HB) hb); clear HB; have HB := n0_; clear n0_; (try clear hb)))
    repeat (go_quiet (first | (go_at_call 14; (with_reducible refine (parts_Split.calls a0 t154 t155 t156 t157 _ A4.out).mono ?_); rintro e w' ⟨rfl, ⟨nd, rfl⟩⟩; (try first | exact ⟨rfl, _, World.drewN_drewN _ _ _⟩ | exact ⟨rfl, _, Eq.trans (World.drewN_drewN _ _ _) (congrArg (World.drewN _) (Nat.add_assoc _ _ _))⟩)) | (go_at_call 14; (with_reducible refine (parts_Split.calls a1 t158 t159 t160 t161 _ A5.out).mono ?_); rintro e w' ⟨rfl, ⟨nd, rfl⟩⟩; (try first | exact ⟨rfl, _, World.drewN_drewN _ _ _⟩ | exact ⟨rfl, _, Eq.trans (World.drewN_drewN _ _ _) (congrArg (World.drewN _) (Nat.add_assoc _ _ _))⟩)) | (go_at_call 41; (with_reducible refine (fadd_lift.calls t155 (wrap64 (t156 - t160)) t162 t163 _ A7.out).mono ?_); rintro e w' ⟨rfl, ⟨nd, rfl⟩⟩; (try first | exact ⟨rfl, _, World.drewN_drewN _ _ _⟩ | exact ⟨rfl, _, Eq.trans (World.drewN_drewN _ _ _) (congrArg (World.drewN _) (Nat.add_assoc _ _ _))⟩)) | (go_at_call 42; (with_reducible refine (fadd_join.calls t162 t163 t159 (!(t154 == t158)) false t164 t165 _ A8.out).mono ?_); rintro e w' ⟨rfl, ⟨nd, rfl⟩⟩; (try first | exact ⟨rfl, _, World.drewN_drewN _ _ _⟩ | exact ⟨rfl, _, Eq.trans (World.drewN_drewN _ _ _) (congrArg (World.drewN _) (Nat.add_assoc _ _ _))⟩)) | (go_at_call 17; (with_reducible refine (parts_Round.calls k t154 t164 t165 t160 false a2 t166 t167 _ A9.out).mono ?_); rintro e w10 ⟨rfl, hb⟩; have n0_ := Aside0.mk (below_step (dn_ HB) hb); clear HB; have HB := n0_; clear n0_; (try clear hb))); try go_wp2_with (first | (go_at_call 14; (with_reducible refine (parts_Split.calls a0 t154 t155 t156 t157 _ A4.out).mono ?_); rintro e w' ⟨rfl, ⟨nd, rfl⟩⟩; (try first | exact ⟨rfl, _, World.drewN_drewN _ _ _⟩ | exact ⟨rfl, _, Eq.trans (World.drewN_drewN _ _ _) (congrArg (World.drewN _) (Nat.add_assoc _ _ _))⟩)) | (go_at_call 14; (with_reducible refine (parts_Split.calls a1 t158 t159 t160 t161 _ A5.out).mono ?_); rintro e w' ⟨rfl, ⟨nd, rfl⟩⟩; (try first | exact ⟨rfl, _, World.drewN_drewN _ _ _⟩ | exact ⟨rfl, _, Eq.trans (World.drewN_drewN _ _ _) (congrArg (World.drewN _) (Nat.add_assoc _ _ _))⟩)) | (go_at_call 41; (with_reducible refine (fadd_lift.calls t155 (wrap64 (t156 - t160)) t162 t163 _ A7.out).mono ?_); rintro e w' ⟨rfl, ⟨nd, rfl⟩⟩; (try first | exact ⟨rfl, _, World.drewN_drewN _ _ _⟩ | exact ⟨rfl, _, Eq.trans (World.drewN_drewN _ _ _) (congrArg (World.drewN _) (Nat.add_assoc _ _ _))⟩)) | (go_at_call 42; (with_reducible refine (fadd_join.calls t162 t163 t159 (!(t154 == t158)) false t164 t165 _ A8.out).mono ?_); rintro e w' ⟨rfl, ⟨nd, rfl⟩⟩; (try first | exact ⟨rfl, _, World.drewN_drewN _ _ _⟩ | exact ⟨rfl, _, Eq.trans (World.drewN_drewN _ _ _) (congrArg (World.drewN _) (Nat.add_assoc _ _ _))⟩)) | (go_at_call 17; (with_reducible refine (parts_Round.calls k t154 t164 t165 t160 false a2 t166 t167 _ A9.out).mono ?_); rintro e w10 ⟨rfl, hb⟩; have n0_ := Aside0.mk (below_step (dn_ HB) hb); clear HB; have HB := n0_; clear n0_; (try clear hb))))
    go_ret2
    exact ⟨er_, dn_ HB⟩
  · rw [if_neg c6] at H
    have c6b0 : decide ((wrap64 (t156 - t160)) ≤ 60) = false := decide_eq_false c6
    clear c6
    replace H := Option.bind_eq_some_iff.mp H
    obtain ⟨⟨t168, t169⟩, A110, H⟩ := H
    replace H : (if (mn (wrap64 ((wrap64 (t156 - t160)) - 62)) 116) ≤ 0 then (if 0 ≤ (wrap64 (-(mn (wrap64 ((wrap64 (t156 - t160)) - 62)) 116))) then ((fadd_join.f t168 t169 (shl .u64 t159 (wrap64 (-(mn (wrap64 ((wrap64 (t156 - t160)) - 62)) 116)))) (!(t154 == t158)) false).bind fun bt170 => ((parts_Round.f k t154 bt170.1 bt170.2 (wrap64 (t156 - 62)) false a2).bind fun bt172 => (some (bt172.1, bt172.2)))) else (none)) else (if (mn (wrap64 ((wrap64 (t156 - t160)) - 62)) 116) < 64 then (if 0 ≤ (mn (wrap64 ((wrap64 (t156 - t160)) - 62)) 116) then (if 0 ≤ (wrap64 (64 - (mn (wrap64 ((wrap64 (t156 - t160)) - 62)) 116))) then ((fadd_join.f t168 t169 (shr .u64 t159 (mn (wrap64 ((wrap64 (t156 - t160)) - 62)) 116)) (!(t154 == t158)) ((shl .u64 t159 (wrap64 (64 - (mn (wrap64 ((wrap64 (t156 - t160)) - 62)) 116)))) != 0)).bind fun bt174 => ((parts_Round.f k t154 bt174.1 bt174.2 (wrap64 (t156 - 62)) ((shl .u64 t159 (wrap64 (64 - (mn (wrap64 ((wrap64 (t156 - t160)) - 62)) 116)))) != 0) a2).bind fun bt176 => (some (bt176.1, bt176.2)))) else (none)) else (none)) else ((fadd_join.f t168 t169 0 (!(t154 == t158)) (t159 != 0)).bind fun bt178 => ((parts_Round.f k t154 bt178.1 bt178.2 (wrap64 (t156 - 62)) (t159 != 0) a2).bind fun bt180 => (some (bt180.1, bt180.2)))))) = some (r1, r2) := H
    have A11 := Aside0.mk A110
    clear A110
    obtain ⟨ji12, hji12⟩ : ∃ j_ : Int, (mn (wrap64 ((wrap64 (t156 - t160)) - 62)) 116) = j_ := ⟨_, rfl⟩
    replace H : (if (ji12) ≤ 0 then (if 0 ≤ (wrap64 (-(ji12))) then ((fadd_join.f t168 t169 (shl .u64 t159 (wrap64 (-(ji12)))) (!(t154 == t158)) false).bind fun bt170 => ((parts_Round.f k t154 bt170.1 bt170.2 (wrap64 (t156 - 62)) false a2).bind fun bt172 => (some (bt172.1, bt172.2)))) else (none)) else (if (ji12) < 64 then (if 0 ≤ (ji12) then (if 0 ≤ (wrap64 (64 - (ji12))) then ((fadd_join.f t168 t169 (shr .u64 t159 (ji12)) (!(t154 == t158)) ((shl .u64 t159 (wrap64 (64 - (ji12)))) != 0)).bind fun bt174 => ((parts_Round.f k t154 bt174.1 bt174.2 (wrap64 (t156 - 62)) ((shl .u64 t159 (wrap64 (64 - (ji12)))) != 0) a2).bind fun bt176 => (some (bt176.1, bt176.2)))) else (none)) else (none)) else ((fadd_join.f t168 t169 0 (!(t154 == t158)) (t159 != 0)).bind fun bt178 => ((parts_Round.f k t154 bt178.1 bt178.2 (wrap64 (t156 - 62)) (t159 != 0) a2).bind fun bt180 => (some (bt180.1, bt180.2)))))) = some (r1, r2) := by first | (rw [hji12] at H; exact H) | (simp only [hji12] at H ⊢; exact H)
    (try rw [hji12] at A4)
    (try rw [hji12] at A5)
    (try rw [hji12] at A11)
    (try (have hji12h : ji12 ≤ 116 := by (rw [← hji12]; unfold mn; (repeat' split) <;> omega)))
    (try (have hji12g : ji12 ≤ 64 := by omega))
    have hji12_ : (if 116 < (wrap64 ((wrap64 (t156 - t160)) - 62)) then 116 else (wrap64 ((wrap64 (t156 - t160)) - 62))) = ji12 := hji12
    (try (have hji12n := hji12_; simp only [Int.ofNat_lt] at hji12n))
    by_cases c13 : (ji12) ≤ 0
    · rw [if_pos c13] at H
      have c13b0 : decide ((ji12) ≤ 0) = true := decide_eq_true c13
      clear c13
      obtain ⟨ji14, hji14⟩ : ∃ j_ : Int, (wrap64 (-(ji12))) = j_ := ⟨_, rfl⟩
      replace H : (if 0 ≤ (ji14) then ((fadd_join.f t168 t169 (shl .u64 t159 (ji14)) (!(t154 == t158)) false).bind fun bt170 => ((parts_Round.f k t154 bt170.1 bt170.2 (wrap64 (t156 - 62)) false a2).bind fun bt172 => (some (bt172.1, bt172.2)))) else (none)) = some (r1, r2) := by first | (rw [hji14] at H; exact H) | (simp only [hji14] at H ⊢; exact H)
      (try rw [hji14] at A4)
      (try rw [hji14] at A5)
      (try rw [hji14] at A11)
      have hji14w : (IntKind.i64.wrap (-(ji12))) = ji14 := (i64_w _).trans hji14
      by_cases c15 : 0 ≤ (ji14)
      · rw [if_pos c15] at H
        have c15b0 := eq_true c15
        have c15b1 : decide (0 ≤ (ji14)) = true := decide_eq_true c15
        clear c15
        obtain ⟨ji16, hji16⟩ : ∃ j_ : Int, (shl .u64 t159 (ji14)) = j_ := ⟨_, rfl⟩
        replace H : ((fadd_join.f t168 t169 (ji16) (!(t154 == t158)) false).bind fun bt170 => ((parts_Round.f k t154 bt170.1 bt170.2 (wrap64 (t156 - 62)) false a2).bind fun bt172 => (some (bt172.1, bt172.2)))) = some (r1, r2) := by first | (rw [hji16] at H; exact H) | (simp only [hji16] at H ⊢; exact H)
        (try rw [hji16] at A4)
        (try rw [hji16] at A5)
        (try rw [hji16] at A11)
        have hji16_ : (IntKind.u64.wrap (t159 * 2 ^ min (ji14).toNat 64)) = ji16 := hji16
        have hji16z : (ji14) ≤ 64 → (IntKind.u64.wrap (t159 * 2 ^ (ji14).toNat)) = ji16 := shl_small hji16
        replace H := Option.bind_eq_some_iff.mp H
        obtain ⟨⟨t170, t171⟩, A170, H⟩ := H
        replace H : ((parts_Round.f k t154 t170 t171 (wrap64 (t156 - 62)) false a2).bind fun bt172 => (some (bt172.1, bt172.2))) = some (r1, r2) := H
        have A17 := Aside0.mk A170
        clear A170
        replace H := Option.bind_eq_some_iff.mp H
        obtain ⟨⟨t172, t173⟩, A180, H⟩ := H
        replace H : (some (t172, t173)) = some (r1, r2) := H
        have A18 := Aside0.mk A180
        clear A180
        simp only [Option.some.injEq, Prod.mk.injEq] at H
        obtain ⟨rfl, rfl⟩ := H
        go_enter Try.func40, Try.ntmps40
        go_wp2_with (first | (go_at_call 14; (with_reducible refine (parts_Split.calls a0 t154 t155 t156 t157 _ A4.out).mono ?_); rintro e w' ⟨rfl, ⟨nd, rfl⟩⟩; (try first | exact ⟨rfl, _, World.drewN_drewN _ _ _⟩ | exact ⟨rfl, _, Eq.trans (World.drewN_drewN _ _ _) (congrArg (World.drewN _) (Nat.add_assoc _ _ _))⟩)) | (go_at_call 14; (with_reducible refine (parts_Split.calls a1 t158 t159 t160 t161 _ A5.out).mono ?_); rintro e w' ⟨rfl, ⟨nd, rfl⟩⟩; (try first | exact ⟨rfl, _, World.drewN_drewN _ _ _⟩ | exact ⟨rfl, _, Eq.trans (World.drewN_drewN _ _ _) (congrArg (World.drewN _) (Nat.add_assoc _ _ _))⟩)) | (go_at_call 41; (with_reducible refine (fadd_lift.calls t155 62 t168 t169 _ A11.out).mono ?_); rintro e w' ⟨rfl, ⟨nd, rfl⟩⟩; (try first | exact ⟨rfl, _, World.drewN_drewN _ _ _⟩ | exact ⟨rfl, _, Eq.trans (World.drewN_drewN _ _ _) (congrArg (World.drewN _) (Nat.add_assoc _ _ _))⟩)) | (go_at_call 42; (with_reducible refine (fadd_join.calls t168 t169 ji16 (!(t154 == t158)) false t170 t171 _ A17.out).mono ?_); rintro e w' ⟨rfl, ⟨nd, rfl⟩⟩; (try first | exact ⟨rfl, _, World.drewN_drewN _ _ _⟩ | exact ⟨rfl, _, Eq.trans (World.drewN_drewN _ _ _) (congrArg (World.drewN _) (Nat.add_assoc _ _ _))⟩)) | (go_at_call 17; (with_reducible refine (parts_Round.calls k t154 t170 t171 (wrap64 (t156 - 62)) false a2 t172 t173 _ A18.out).mono ?_); rintro e w19 ⟨rfl, hb⟩; have n0_ := Aside0.mk (below_step (dn_ HB) hb); clear HB; have HB := n0_; clear n0_; (try clear hb)))
        repeat (go_quiet (first | (go_at_call 14; (with_reducible refine (parts_Split.calls a0 t154 t155 t156 t157 _ A4.out).mono ?_); rintro e w' ⟨rfl, ⟨nd, rfl⟩⟩; (try first | exact ⟨rfl, _, World.drewN_drewN _ _ _⟩ | exact ⟨rfl, _, Eq.trans (World.drewN_drewN _ _ _) (congrArg (World.drewN _) (Nat.add_assoc _ _ _))⟩)) | (go_at_call 14; (with_reducible refine (parts_Split.calls a1 t158 t159 t160 t161 _ A5.out).mono ?_); rintro e w' ⟨rfl, ⟨nd, rfl⟩⟩; (try first | exact ⟨rfl, _, World.drewN_drewN _ _ _⟩ | exact ⟨rfl, _, Eq.trans (World.drewN_drewN _ _ _) (congrArg (World.drewN _) (Nat.add_assoc _ _ _))⟩)) | (go_at_call 41; (with_reducible refine (fadd_lift.calls t155 62 t168 t169 _ A11.out).mono ?_); rintro e w' ⟨rfl, ⟨nd, rfl⟩⟩; (try first | exact ⟨rfl, _, World.drewN_drewN _ _ _⟩ | exact ⟨rfl, _, Eq.trans (World.drewN_drewN _ _ _) (congrArg (World.drewN _) (Nat.add_assoc _ _ _))⟩)) | (go_at_call 42; (with_reducible refine (fadd_join.calls t168 t169 ji16 (!(t154 == t158)) false t170 t171 _ A17.out).mono ?_); rintro e w' ⟨rfl, ⟨nd, rfl⟩⟩; (try first | exact ⟨rfl, _, World.drewN_drewN _ _ _⟩ | exact ⟨rfl, _, Eq.trans (World.drewN_drewN _ _ _) (congrArg (World.drewN _) (Nat.add_assoc _ _ _))⟩)) | (go_at_call 17; (with_reducible refine (parts_Round.calls k t154 t170 t171 (wrap64 (t156 - 62)) false a2 t172 t173 _ A18.out).mono ?_); rintro e w19 ⟨rfl, hb⟩; have n0_ := Aside0.mk (below_step (dn_ HB) hb); clear HB; have HB := n0_; clear n0_; (try clear hb))); try go_wp2_with (first | (go_at_call 14; (with_reducible refine (parts_Split.calls a0 t154 t155 t156 t157 _ A4.out).mono ?_); rintro e w' ⟨rfl, ⟨nd, rfl⟩⟩; (try first | exact ⟨rfl, _, World.drewN_drewN _ _ _⟩ | exact ⟨rfl, _, Eq.trans (World.drewN_drewN _ _ _) (congrArg (World.drewN _) (Nat.add_assoc _ _ _))⟩)) | (go_at_call 14; (with_reducible refine (parts_Split.calls a1 t158 t159 t160 t161 _ A5.out).mono ?_); rintro e w' ⟨rfl, ⟨nd, rfl⟩⟩; (try first | exact ⟨rfl, _, World.drewN_drewN _ _ _⟩ | exact ⟨rfl, _, Eq.trans (World.drewN_drewN _ _ _) (congrArg (World.drewN _) (Nat.add_assoc _ _ _))⟩)) | (go_at_call 41; (with_reducible refine (fadd_lift.calls t155 62 t168 t169 _ A11.out).mono ?_); rintro e w' ⟨rfl, ⟨nd, rfl⟩⟩; (try first | exact ⟨rfl, _, World.drewN_drewN _ _ _⟩ | exact ⟨rfl, _, Eq.trans (World.drewN_drewN _ _ _) (congrArg (World.drewN _) (Nat.add_assoc _ _ _))⟩)) | (go_at_call 42; (with_reducible refine (fadd_join.calls t168 t169 ji16 (!(t154 == t158)) false t170 t171 _ A17.out).mono ?_); rintro e w' ⟨rfl, ⟨nd, rfl⟩⟩; (try first | exact ⟨rfl, _, World.drewN_drewN _ _ _⟩ | exact ⟨rfl, _, Eq.trans (World.drewN_drewN _ _ _) (congrArg (World.drewN _) (Nat.add_assoc _ _ _))⟩)) | (go_at_call 17; (with_reducible refine (parts_Round.calls k t154 t170 t171 (wrap64 (t156 - 62)) false a2 t172 t173 _ A18.out).mono ?_); rintro e w19 ⟨rfl, hb⟩; have n0_ := Aside0.mk (below_step (dn_ HB) hb); clear HB; have HB := n0_; clear n0_; (try clear hb))))
        go_ret2
        exact ⟨by first | rfl | (simp [errW_none, errW_some] <;> rfl) | (simp only [← hji12, ← hji14, ← hji16]; first | rfl | (simp [errW_none, errW_some] <;> rfl)) | (simp [*, errW_none, errW_some] <;> rfl), dn_ HB⟩
      · rw [if_neg c15] at H
        exact absurd H (by simp)
    · rw [if_neg c13] at H
      have c13b0 : decide ((ji12) ≤ 0) = false := decide_eq_false c13
      clear c13
      by_cases c20 : (ji12) < 64
      · rw [if_pos c20] at H
        have c20b0 : decide ((ji12) < 64) = true := decide_eq_true c20
        clear c20
        by_cases c21 : 0 ≤ (ji12)
        · rw [if_pos c21] at H
          have c21b0 := eq_true c21
          have c21b1 : decide (0 ≤ (ji12)) = true := decide_eq_true c21
          clear c21
          obtain ⟨ji22, hji22⟩ : ∃ j_ : Int, (shr .u64 t159 (ji12)) = j_ := ⟨_, rfl⟩
          replace H : (if 0 ≤ (wrap64 (64 - (ji12))) then ((fadd_join.f t168 t169 (ji22) (!(t154 == t158)) ((shl .u64 t159 (wrap64 (64 - (ji12)))) != 0)).bind fun bt174 => ((parts_Round.f k t154 bt174.1 bt174.2 (wrap64 (t156 - 62)) ((shl .u64 t159 (wrap64 (64 - (ji12)))) != 0) a2).bind fun bt176 => (some (bt176.1, bt176.2)))) else (none)) = some (r1, r2) := by first | (rw [hji22] at H; exact H) | (simp only [hji22] at H ⊢; exact H)
          (try rw [hji22] at A4)
          (try rw [hji22] at A5)
          (try rw [hji22] at A11)
          have hji22_ : (t159 / 2 ^ min (ji12).toNat 64) = ji22 := hji22
          have hji22z : (ji12) ≤ 64 → (t159 / 2 ^ (ji12).toNat) = ji22 := shr_small hji22
          obtain ⟨ji23, hji23⟩ : ∃ j_ : Int, (wrap64 (64 - (ji12))) = j_ := ⟨_, rfl⟩
          replace H : (if 0 ≤ (ji23) then ((fadd_join.f t168 t169 (ji22) (!(t154 == t158)) ((shl .u64 t159 (ji23)) != 0)).bind fun bt174 => ((parts_Round.f k t154 bt174.1 bt174.2 (wrap64 (t156 - 62)) ((shl .u64 t159 (ji23)) != 0) a2).bind fun bt176 => (some (bt176.1, bt176.2)))) else (none)) = some (r1, r2) := by first | (rw [hji23] at H; exact H) | (simp only [hji23] at H ⊢; exact H)
          (try rw [hji23] at A4)
          (try rw [hji23] at A5)
          (try rw [hji23] at A11)
          have hji23w : (IntKind.i64.wrap (64 - (ji12))) = ji23 := (i64_w _).trans hji23
          by_cases c24 : 0 ≤ (ji23)
          · rw [if_pos c24] at H
            have c24b0 := eq_true c24
            have c24b1 : decide (0 ≤ (ji23)) = true := decide_eq_true c24
            clear c24
            obtain ⟨ji25, hji25⟩ : ∃ j_ : Int, (shl .u64 t159 (ji23)) = j_ := ⟨_, rfl⟩
            replace H : ((fadd_join.f t168 t169 (ji22) (!(t154 == t158)) ((ji25) != 0)).bind fun bt174 => ((parts_Round.f k t154 bt174.1 bt174.2 (wrap64 (t156 - 62)) ((ji25) != 0) a2).bind fun bt176 => (some (bt176.1, bt176.2)))) = some (r1, r2) := by first | (rw [hji25] at H; exact H) | (simp only [hji25] at H ⊢; exact H)
            (try rw [hji25] at A4)
            (try rw [hji25] at A5)
            (try rw [hji25] at A11)
            have hji25_ : (IntKind.u64.wrap (t159 * 2 ^ min (ji23).toNat 64)) = ji25 := hji25
            have hji25z : (ji23) ≤ 64 → (IntKind.u64.wrap (t159 * 2 ^ (ji23).toNat)) = ji25 := shl_small hji25
            replace H := Option.bind_eq_some_iff.mp H
            obtain ⟨⟨t174, t175⟩, A260, H⟩ := H
            replace H : ((parts_Round.f k t154 t174 t175 (wrap64 (t156 - 62)) ((ji25) != 0) a2).bind fun bt176 => (some (bt176.1, bt176.2))) = some (r1, r2) := H
            have A26 := Aside0.mk A260
            clear A260
            replace H := Option.bind_eq_some_iff.mp H
            obtain ⟨⟨t176, t177⟩, A270, H⟩ := H
            replace H : (some (t176, t177)) = some (r1, r2) := H
            have A27 := Aside0.mk A270
            clear A270
            simp only [Option.some.injEq, Prod.mk.injEq] at H
            obtain ⟨rfl, rfl⟩ := H
            go_enter Try.func40, Try.ntmps40
            go_wp2_with (first | (go_at_call 14; (with_reducible refine (parts_Split.calls a0 t154 t155 t156 t157 _ A4.out).mono ?_); rintro e w' ⟨rfl, ⟨nd, rfl⟩⟩; (try first | exact ⟨rfl, _, World.drewN_drewN _ _ _⟩ | exact ⟨rfl, _, Eq.trans (World.drewN_drewN _ _ _) (congrArg (World.drewN _) (Nat.add_assoc _ _ _))⟩)) | (go_at_call 14; (with_reducible refine (parts_Split.calls a1 t158 t159 t160 t161 _ A5.out).mono ?_); rintro e w' ⟨rfl, ⟨nd, rfl⟩⟩; (try first | exact ⟨rfl, _, World.drewN_drewN _ _ _⟩ | exact ⟨rfl, _, Eq.trans (World.drewN_drewN _ _ _) (congrArg (World.drewN _) (Nat.add_assoc _ _ _))⟩)) | (go_at_call 41; (with_reducible refine (fadd_lift.calls t155 62 t168 t169 _ A11.out).mono ?_); rintro e w' ⟨rfl, ⟨nd, rfl⟩⟩; (try first | exact ⟨rfl, _, World.drewN_drewN _ _ _⟩ | exact ⟨rfl, _, Eq.trans (World.drewN_drewN _ _ _) (congrArg (World.drewN _) (Nat.add_assoc _ _ _))⟩)) | (go_at_call 42; (with_reducible refine (fadd_join.calls t168 t169 ji22 (!(t154 == t158)) ((ji25) != 0) t174 t175 _ A26.out).mono ?_); rintro e w' ⟨rfl, ⟨nd, rfl⟩⟩; (try first | exact ⟨rfl, _, World.drewN_drewN _ _ _⟩ | exact ⟨rfl, _, Eq.trans (World.drewN_drewN _ _ _) (congrArg (World.drewN _) (Nat.add_assoc _ _ _))⟩)) | (go_at_call 17; (with_reducible refine (parts_Round.calls k t154 t174 t175 (wrap64 (t156 - 62)) ((ji25) != 0) a2 t176 t177 _ A27.out).mono ?_); rintro e w28 ⟨rfl, hb⟩; have n0_ := Aside0.mk (below_step (dn_ HB) hb); clear HB; have HB := n0_; clear n0_; (try clear hb)))
            repeat (go_quiet (first | (go_at_call 14; (with_reducible refine (parts_Split.calls a0 t154 t155 t156 t157 _ A4.out).mono ?_); rintro e w' ⟨rfl, ⟨nd, rfl⟩⟩; (try first | exact ⟨rfl, _, World.drewN_drewN _ _ _⟩ | exact ⟨rfl, _, Eq.trans (World.drewN_drewN _ _ _) (congrArg (World.drewN _) (Nat.add_assoc _ _ _))⟩)) | (go_at_call 14; (with_reducible refine (parts_Split.calls a1 t158 t159 t160 t161 _ A5.out).mono ?_); rintro e w' ⟨rfl, ⟨nd, rfl⟩⟩; (try first | exact ⟨rfl, _, World.drewN_drewN _ _ _⟩ | exact ⟨rfl, _, Eq.trans (World.drewN_drewN _ _ _) (congrArg (World.drewN _) (Nat.add_assoc _ _ _))⟩)) | (go_at_call 41; (with_reducible refine (fadd_lift.calls t155 62 t168 t169 _ A11.out).mono ?_); rintro e w' ⟨rfl, ⟨nd, rfl⟩⟩; (try first | exact ⟨rfl, _, World.drewN_drewN _ _ _⟩ | exact ⟨rfl, _, Eq.trans (World.drewN_drewN _ _ _) (congrArg (World.drewN _) (Nat.add_assoc _ _ _))⟩)) | (go_at_call 42; (with_reducible refine (fadd_join.calls t168 t169 ji22 (!(t154 == t158)) ((ji25) != 0) t174 t175 _ A26.out).mono ?_); rintro e w' ⟨rfl, ⟨nd, rfl⟩⟩; (try first | exact ⟨rfl, _, World.drewN_drewN _ _ _⟩ | exact ⟨rfl, _, Eq.trans (World.drewN_drewN _ _ _) (congrArg (World.drewN _) (Nat.add_assoc _ _ _))⟩)) | (go_at_call 17; (with_reducible refine (parts_Round.calls k t154 t174 t175 (wrap64 (t156 - 62)) ((ji25) != 0) a2 t176 t177 _ A27.out).mono ?_); rintro e w28 ⟨rfl, hb⟩; have n0_ := Aside0.mk (below_step (dn_ HB) hb); clear HB; have HB := n0_; clear n0_; (try clear hb))); try go_wp2_with (first | (go_at_call 14; (with_reducible refine (parts_Split.calls a0 t154 t155 t156 t157 _ A4.out).mono ?_); rintro e w' ⟨rfl, ⟨nd, rfl⟩⟩; (try first | exact ⟨rfl, _, World.drewN_drewN _ _ _⟩ | exact ⟨rfl, _, Eq.trans (World.drewN_drewN _ _ _) (congrArg (World.drewN _) (Nat.add_assoc _ _ _))⟩)) | (go_at_call 14; (with_reducible refine (parts_Split.calls a1 t158 t159 t160 t161 _ A5.out).mono ?_); rintro e w' ⟨rfl, ⟨nd, rfl⟩⟩; (try first | exact ⟨rfl, _, World.drewN_drewN _ _ _⟩ | exact ⟨rfl, _, Eq.trans (World.drewN_drewN _ _ _) (congrArg (World.drewN _) (Nat.add_assoc _ _ _))⟩)) | (go_at_call 41; (with_reducible refine (fadd_lift.calls t155 62 t168 t169 _ A11.out).mono ?_); rintro e w' ⟨rfl, ⟨nd, rfl⟩⟩; (try first | exact ⟨rfl, _, World.drewN_drewN _ _ _⟩ | exact ⟨rfl, _, Eq.trans (World.drewN_drewN _ _ _) (congrArg (World.drewN _) (Nat.add_assoc _ _ _))⟩)) | (go_at_call 42; (with_reducible refine (fadd_join.calls t168 t169 ji22 (!(t154 == t158)) ((ji25) != 0) t174 t175 _ A26.out).mono ?_); rintro e w' ⟨rfl, ⟨nd, rfl⟩⟩; (try first | exact ⟨rfl, _, World.drewN_drewN _ _ _⟩ | exact ⟨rfl, _, Eq.trans (World.drewN_drewN _ _ _) (congrArg (World.drewN _) (Nat.add_assoc _ _ _))⟩)) | (go_at_call 17; (with_reducible refine (parts_Round.calls k t154 t174 t175 (wrap64 (t156 - 62)) ((ji25) != 0) a2 t176 t177 _ A27.out).mono ?_); rintro e w28 ⟨rfl, hb⟩; have n0_ := Aside0.mk (below_step (dn_ HB) hb); clear HB; have HB := n0_; clear n0_; (try clear hb))))
            go_ret2
            exact ⟨by first | rfl | (simp [errW_none, errW_some] <;> rfl) | (simp only [← hji12, ← hji22, ← hji23, ← hji25]; first | rfl | (simp [errW_none, errW_some] <;> rfl)) | (simp [*, errW_none, errW_some] <;> rfl), dn_ HB⟩
          · rw [if_neg c24] at H
            exact absurd H (by simp)
        · rw [if_neg c21] at H
          exact absurd H (by simp)
      · rw [if_neg c20] at H
        have c20b0 : decide ((ji12) < 64) = false := decide_eq_false c20
        clear c20
        replace H := Option.bind_eq_some_iff.mp H
        obtain ⟨⟨t178, t179⟩, A290, H⟩ := H
        replace H : ((parts_Round.f k t154 t178 t179 (wrap64 (t156 - 62)) (t159 != 0) a2).bind fun bt180 => (some (bt180.1, bt180.2))) = some (r1, r2) := H
        have A29 := Aside0.mk A290
        clear A290
        replace H := Option.bind_eq_some_iff.mp H
        obtain ⟨⟨t180, t181⟩, A300, H⟩ := H
        replace H : (some (t180, t181)) = some (r1, r2) := H
        have A30 := Aside0.mk A300
        clear A300
        simp only [Option.some.injEq, Prod.mk.injEq] at H
        obtain ⟨rfl, rfl⟩ := H
        go_enter Try.func40, Try.ntmps40
        go_wp2_with (first | (go_at_call 14; (with_reducible refine (parts_Split.calls a0 t154 t155 t156 t157 _ A4.out).mono ?_); rintro e w' ⟨rfl, ⟨nd, rfl⟩⟩; (try first | exact ⟨rfl, _, World.drewN_drewN _ _ _⟩ | exact ⟨rfl, _, Eq.trans (World.drewN_drewN _ _ _) (congrArg (World.drewN _) (Nat.add_assoc _ _ _))⟩)) | (go_at_call 14; (with_reducible refine (parts_Split.calls a1 t158 t159 t160 t161 _ A5.out).mono ?_); rintro e w' ⟨rfl, ⟨nd, rfl⟩⟩; (try first | exact ⟨rfl, _, World.drewN_drewN _ _ _⟩ | exact ⟨rfl, _, Eq.trans (World.drewN_drewN _ _ _) (congrArg (World.drewN _) (Nat.add_assoc _ _ _))⟩)) | (go_at_call 41; (with_reducible refine (fadd_lift.calls t155 62 t168 t169 _ A11.out).mono ?_); rintro e w' ⟨rfl, ⟨nd, rfl⟩⟩; (try first | exact ⟨rfl, _, World.drewN_drewN _ _ _⟩ | exact ⟨rfl, _, Eq.trans (World.drewN_drewN _ _ _) (congrArg (World.drewN _) (Nat.add_assoc _ _ _))⟩)) | (go_at_call 42; (with_reducible refine (fadd_join.calls t168 t169 0 (!(t154 == t158)) (t159 != 0) t178 t179 _ A29.out).mono ?_); rintro e w' ⟨rfl, ⟨nd, rfl⟩⟩; (try first | exact ⟨rfl, _, World.drewN_drewN _ _ _⟩ | exact ⟨rfl, _, Eq.trans (World.drewN_drewN _ _ _) (congrArg (World.drewN _) (Nat.add_assoc _ _ _))⟩)) | (go_at_call 17; (with_reducible refine (parts_Round.calls k t154 t178 t179 (wrap64 (t156 - 62)) (t159 != 0) a2 t180 t181 _ A30.out).mono ?_); rintro e w31 ⟨rfl, hb⟩; have n0_ := Aside0.mk (below_step (dn_ HB) hb); clear HB; have HB := n0_; clear n0_; (try clear hb)))
        repeat (go_quiet (first | (go_at_call 14; (with_reducible refine (parts_Split.calls a0 t154 t155 t156 t157 _ A4.out).mono ?_); rintro e w' ⟨rfl, ⟨nd, rfl⟩⟩; (try first | exact ⟨rfl, _, World.drewN_drewN _ _ _⟩ | exact ⟨rfl, _, Eq.trans (World.drewN_drewN _ _ _) (congrArg (World.drewN _) (Nat.add_assoc _ _ _))⟩)) | (go_at_call 14; (with_reducible refine (parts_Split.calls a1 t158 t159 t160 t161 _ A5.out).mono ?_); rintro e w' ⟨rfl, ⟨nd, rfl⟩⟩; (try first | exact ⟨rfl, _, World.drewN_drewN _ _ _⟩ | exact ⟨rfl, _, Eq.trans (World.drewN_drewN _ _ _) (congrArg (World.drewN _) (Nat.add_assoc _ _ _))⟩)) | (go_at_call 41; (with_reducible refine (fadd_lift.calls t155 62 t168 t169 _ A11.out).mono ?_); rintro e w' ⟨rfl, ⟨nd, rfl⟩⟩; (try first | exact ⟨rfl, _, World.drewN_drewN _ _ _⟩ | exact ⟨rfl, _, Eq.trans (World.drewN_drewN _ _ _) (congrArg (World.drewN _) (Nat.add_assoc _ _ _))⟩)) | (go_at_call 42; (with_reducible refine (fadd_join.calls t168 t169 0 (!(t154 == t158)) (t159 != 0) t178 t179 _ A29.out).mono ?_); rintro e w' ⟨rfl, ⟨nd, rfl⟩⟩; (try first | exact ⟨rfl, _, World.drewN_drewN _ _ _⟩ | exact ⟨rfl, _, Eq.trans (World.drewN_drewN _ _ _) (congrArg (World.drewN _) (Nat.add_assoc _ _ _))⟩)) | (go_at_call 17; (with_reducible refine (parts_Round.calls k t154 t178 t179 (wrap64 (t156 - 62)) (t159 != 0) a2 t180 t181 _ A30.out).mono ?_); rintro e w31 ⟨rfl, hb⟩; have n0_ := Aside0.mk (below_step (dn_ HB) hb); clear HB; have HB := n0_; clear n0_; (try clear hb))); try go_wp2_with (first | (go_at_call 14; (with_reducible refine (parts_Split.calls a0 t154 t155 t156 t157 _ A4.out).mono ?_); rintro e w' ⟨rfl, ⟨nd, rfl⟩⟩; (try first | exact ⟨rfl, _, World.drewN_drewN _ _ _⟩ | exact ⟨rfl, _, Eq.trans (World.drewN_drewN _ _ _) (congrArg (World.drewN _) (Nat.add_assoc _ _ _))⟩)) | (go_at_call 14; (with_reducible refine (parts_Split.calls a1 t158 t159 t160 t161 _ A5.out).mono ?_); rintro e w' ⟨rfl, ⟨nd, rfl⟩⟩; (try first | exact ⟨rfl, _, World.drewN_drewN _ _ _⟩ | exact ⟨rfl, _, Eq.trans (World.drewN_drewN _ _ _) (congrArg (World.drewN _) (Nat.add_assoc _ _ _))⟩)) | (go_at_call 41; (with_reducible refine (fadd_lift.calls t155 62 t168 t169 _ A11.out).mono ?_); rintro e w' ⟨rfl, ⟨nd, rfl⟩⟩; (try first | exact ⟨rfl, _, World.drewN_drewN _ _ _⟩ | exact ⟨rfl, _, Eq.trans (World.drewN_drewN _ _ _) (congrArg (World.drewN _) (Nat.add_assoc _ _ _))⟩)) | (go_at_call 42; (with_reducible refine (fadd_join.calls t168 t169 0 (!(t154 == t158)) (t159 != 0) t178 t179 _ A29.out).mono ?_); rintro e w' ⟨rfl, ⟨nd, rfl⟩⟩; (try first | exact ⟨rfl, _, World.drewN_drewN _ _ _⟩ | exact ⟨rfl, _, Eq.trans (World.drewN_drewN _ _ _) (congrArg (World.drewN _) (Nat.add_assoc _ _ _))⟩)) | (go_at_call 17; (with_reducible refine (parts_Round.calls k t154 t178 t179 (wrap64 (t156 - 62)) (t159 != 0) a2 t180 t181 _ A30.out).mono ?_); rintro e w31 ⟨rfl, hb⟩; have n0_ := Aside0.mk (below_step (dn_ HB) hb); clear HB; have HB := n0_; clear n0_; (try clear hb))))
        go_ret2
        exact ⟨by first | rfl | (simp [errW_none, errW_some] <;> rfl) | (simp only [← hji12]; first | rfl | (simp [errW_none, errW_some] <;> rfl)) | (simp [*, errW_none, errW_some] <;> rfl), dn_ HB⟩
end Go.Proofs.Ytjbpchebabhoeab.P
end
