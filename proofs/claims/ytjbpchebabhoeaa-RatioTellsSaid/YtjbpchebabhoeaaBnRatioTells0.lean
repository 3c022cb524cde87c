/- Part 0 of what the law RatioTells rests on: printed walks of its functions, and plain laws of what they compute. For every input that their premises tell. -/
import Derived.Test.YtjbpchebabhoeaaProg
import Derived.ChangeArms
import Derived.ChangeSlices
import Derived.WideShapes
import Derived.KernelRfl
import Derived.Below
import Derived.Carry
import Derived.ProofKit
import Derived.Laws.Externs
import Derived.Test.YtjbpchebabhoeaaVRatioTellsMore
import Derived.Shelf.Small.Bits
import Derived.Shelf.Strconv.Itoa0
import Derived.Shelf.Bits.Mul64
import Derived.Ground.SlgnProg
import Derived.Shelf.SlicesE.Clone
import Derived.Lib.BitFns
import Derived.Lib.SliceRun
import Derived.Lib.Walk
import Derived.WalkKit
import Derived.Laws.AppendOwn
import Derived.Shelf.RegionOpenPlain
import Derived.Deep.LoopGhost
import Derived.Deep.Draws
import Derived.Deep.AppendLies
import Derived.Maps.AppendAt
import Derived.OwnWalk
import Derived.Laws.BytesArg
import Derived.Laws.MakeOwn
import Derived.Laws.OwnMore
import Derived.Deep.OwnRows
import Derived.Tactics
import Derived.Lib.ConvBytes
import Derived.Laws.Slices
import Derived.RowKit3
import Derived.Deep.QuietTactic
import Derived.BigQuiet
import Derived.WideLaws
import Derived.Deep.DeepCutAuto
import Derived.Deep.CutBlock
import Derived.Deep.RegionHeld3
import Derived.Laws.Rows
import Derived.Lib.AppendStr
import Derived.ArgAppend
import Derived.Laws.IdiomCopy
import Derived.OrdersHeld
import Derived.Laws.BitsLemmas
import Derived.RowKit
import Derived.Test.YtjbpchebabhoeaaVRatioTellsWords
import Derived.Test.YtjbpchebabhoeaaVRatioTellsLast
import Derived.Test.YtjbpchebabhoeaaVRatioTellsTab
import Derived.Test.YtjbpchebabhoeaaVRatioTellsApart
import Derived.Test.YtjbpchebabhoeaaVRatioTellsFoot
import Derived.Test.YtjbpchebabhoeaaVRatioTellsKept
import Derived.Test.YtjbpchebabhoeaaVRatioTellsShare
import Derived.Test.YtjbpchebabhoeaaVRatioTellsN
import Derived.Test.YtjbpchebabhoeaaVRatioTellsAt
import Derived.Laws.StructEq
import Derived.Test.YtjbpchebabhoeaaVRatioTellsRepsOne
import Derived.Test.YtjbpchebabhoeaaVRatioTellsInvWords
import Derived.Test.YtjbpchebabhoeaaVRatioTellsGuard
import Derived.Laws.Cells
import Derived.RangeFuncNested
import Derived.RangeFuncBound
import Derived.RangeFuncCalls
import Derived.RangeFuncLeaves
import Derived.RangeFuncWrites
import Derived.RangeFuncBox
import Derived.Shelf.Abstract
import Derived.Shelf.RegionOpen
import Derived.OwnWalkIn
import Derived.TacticsInMore
import Derived.LoopNIn
import Derived.LoopIn
import Derived.OrdersIn
import Derived.Laws.Bits64b
import Derived.Lib.ItoaNum
section
set_option linter.unusedVariables false
namespace Go.Proofs.Ytjbpchebabhoeaa.Rw
open Go.ChangeShapes Go.WideShapes
def IsRow (k : IntKind) (w : World) (a : Option Addr) (len cap : Nat) (zs : List Int) : Prop :=
  (a = none ∧ len = 0 ∧ cap = 0 ∧ zs = []) ∨
  ∃ x, a = some x ∧ len ≤ cap ∧ cap ≤ maxLen ∧ zs.length = cap ∧ (∀ i, i < zs.length → w.cell? (x.add i) = some (.int k (zs.getD i 0))) ∧ ∀ n ∈ zs, (Lit.int k n).wf = true
section
variable {H : Type} {enc : TypeId × Value → H} {P : Program} {W : World} {base : Nat} {held : Bool} {fuel : Nat} {t e : TypeId} {k : IntKind} {x : DataW H × List MemPlace}
theorem row_of {cs : List Value} (ht : P.underlying t = some (.slice e)) (he : P.underlying e = some (.int k)) (hc : P.cellsOf e = 1) (h : DataW.trod enc P W base (fun _ => true) held fuel t cs = some x) :
    ∃ a len cap zs, cs = [.slice a len cap] ∧ IsRow k W a len cap zs := by
  rcases open_ints ht he hc h with ⟨hcs, _⟩ | ⟨y, l, c, zs, hcs, _, hl, hm, hz, _, hcell, hwz⟩
  · exact ⟨none, 0, 0, [], hcs, .inl ⟨rfl, rfl, rfl, rfl⟩⟩
  · exact ⟨some y, l, c, zs, hcs, .inr ⟨_, rfl, hl, hm, by simpa using hz, hcell, hwz⟩⟩
end
theorem cells_bool : Try.prog.cellsOf 4 = 1 := by kernel_rfl
theorem cells_u64s : Try.prog.cellsOf 22 = 1 := by kernel_rfl
theorem cells_ratio : Try.prog.cellsOf 47 = 3 := by kernel_rfl
theorem cells_whole : Try.prog.cellsOf 45 = 2 := by kernel_rfl
set_option maxRecDepth 100000 in
theorem ratio_of {H : Type} {enc : TypeId × Value → H} {W : World} {v : Value} {d : DataW H} {ps : List MemPlace} {b : Nat} (hv : Value.okWide Try.prog W .any b 47 v) (h : DataW.Trod enc Try.prog W 0 (fun _ => true) true 47 v d ps) :
    ∃ neg a len cap zs a' len' cap' zs', v = .agg #[.bool neg, .slice a len cap, .slice a' len' cap'] ∧ IsRow .u64 W a len cap zs ∧ IsRow .u64 W a' len' cap' zs' := by
  obtain ⟨cs, rfl, hsz⟩ := okWide_struct Try.underlying47 hv
  rw [cells_ratio] at hsz
  obtain ⟨l⟩ := cs
  match l, hsz with
  | [c0, c1, c2], _ =>
  obtain ⟨fuel, hf⟩ := h
  obtain ⟨xs, n, -, -, -, hlen, hfs⟩ := DataW.trod_struct Try.underlying47 hf
  have hlen2 : xs.length = 2 := hlen
  match xs, hlen2 with
  | [x0, x1], _ =>
  obtain ⟨ys, m, -, -, -, hlen', hgs⟩ := DataW.trod_struct Try.underlying45 (hfs 0 _ rfl)
  have hlen2' : ys.length = 2 := hlen'
  match ys, hlen2' with
  | [y0, y1], _ =>
  obtain ⟨neg, e0, -⟩ := DataW.trod_bool Try.underlying4 (hgs 0 _ rfl)
  obtain ⟨a, len, cap, zs, e1, hr⟩ := row_of Try.underlying22 Try.underlying55 (by kernel_rfl) (hgs 1 _ rfl)
  obtain ⟨a', len', cap', zs', e2, hr'⟩ := row_of Try.underlying22 Try.underlying55 (by kernel_rfl) (hfs 1 _ rfl)
  simp [Value.cells, cells_bool, cells_whole] at e0
  simp [Value.cells, cells_u64s, cells_whole] at e1
  simp [Value.cells, cells_u64s] at e2
  subst e0 e1 e2
  exact ⟨_, _, _, _, _, _, _, _, _, rfl, hr, hr'⟩
end Go.Proofs.Ytjbpchebabhoeaa.Rw
end
section
set_option linter.unusedVariables false
namespace Go.Proofs.Ytjbpchebabhoeaa.X
open Go.RowKit Go.Proofs.YtjbpchebabhoeaaW.PrintWords Go.Proofs.YtjbpchebabhoeaaW.PrintLast Go.Proofs.YtjbpchebabhoeaaW.PrintMore
def ExtCalls (P : Program) (f : FuncId) (args : Array Value) (w : World) (R : Ending → World → Prop) : Prop :=
  ∃ v w', (callFunc f args).run P w = .ok (.value v) w' ∧ R (.returned v) w'
theorem ExtCalls.mono {P : Program} {f : FuncId} {args : Array Value} {w : World} {R R' : Ending → World → Prop} (h : ExtCalls P f args w R) (hr : ∀ e w', R e w' → R' e w') : ExtCalls P f args w R' := by
  obtain ⟨v, w', h1, h2⟩ := h
  exact ⟨v, w', h1, hr _ _ h2⟩
section
variable {P : Program} {ops : Array Oper} {o : Oper} {Q : Exit → Act → World → Prop}
theorem goesXL_ {rest : List Oper} {oi : Oper} {a : Act} {w : World} (N : Option Tmp) (hd : oi.dst = N) (hg : oi.guard = none) {f : FuncId} {aas : Array Operand} {ts : Array TypeId} (args : Array Value)
    (hop : oi.op = .call { callee := .value (.func f), args := aas, argTypes := ts }) (hargs : aas.map a.eval = args)
    (h : ExtCalls P f args w fun e w' => ∃ v, e = .returned v ∧ wpList P ops Q rest (a.put N v) w') : wpList P ops Q (oi :: rest) a w := by
  refine wpList_plain hg fun K hK => ?_
  obtain ⟨v, w', h1, v', h2, h3⟩ := h
  obtain rfl : v = v' := by injection h2
  have hrun : (execOp a.eval oi).run P w = .ok (.value v) w' := by
    unfold execOp
    simp [hop, resolve, Deferred.ofValue, invoke, Act.eval, hargs, h1]
  unfold Oper.wp
  rw [hrun, Oper.upon_value, hd]
  exact hK _ _ h3
theorem goesX_ {oi : Oper} {N : Option Tmp} {a : Act} {w : World} {K : Act → World → Prop} {f : FuncId} {aas : Array Operand} {ts : Array TypeId} (args : Array Value)
    (hw : Region.wanted oi (yielded ops a.tmps) = true) (hN : oi.dst = N) (hop : oi.op = .call { callee := .value (.func f), args := aas, argTypes := ts }) (hargs : aas.map a.eval = args)
    (h : ExtCalls P f args w fun e w' => ∃ v, e = .returned v ∧ K (a.put N v) w') : if Region.wanted oi (yielded ops a.tmps) = true then Oper.wp P oi a w K Q else K (a.put N undef) w := by
  rw [if_pos hw]
  obtain ⟨v, w', h1, v', h2, h3⟩ := h
  obtain rfl : v = v' := by injection h2
  have hrun : (execOp a.eval oi).run P w = .ok (.value v) w' := by
    unfold execOp
    simp [hop, resolve, Deferred.ofValue, invoke, Act.eval, hargs, h1]
  unfold Oper.wp
  rw [hrun, Oper.upon_value, hN]
  exact h3
end
def sub64Entry : Array Value → Sem Value := fun args => do
  let (x, y, b) ← Extern.MathBitsCarry.three "Sub64" args
  pure (Extern.MathBitsCarry.pair ((x + Extern.MathBitsCarry.m64 - y - b) % Extern.MathBitsCarry.m64) (if x < y + b then 1 else 0))
theorem run_sub64 {P : Program} (x y b : Nat) (hb : b ≤ 1) (w : World) :
    (sub64Entry #[.int .u64 x, .int .u64 y, .int .u64 b]).run P w =
      .ok (.tuple #[.int .u64 (((x + 18446744073709551616 - y - b) % 18446744073709551616 : Nat) : Int), .int .u64 ((if x < y + b then 1 else 0 : Nat) : Int)]) w := by
  have : b = 0 ∨ b = 1 := by omega
  rcases this with rfl | rfl <;> rfl
def bits_Add64.f (a0 : Int) (a1 : Int) (a2 : Int) : Option (Int × Int) := if 0 ≤ a0 ∧ 0 ≤ a1 ∧ 0 ≤ a2 ∧ a2 ≤ 1 then (some ((a0 + a1 + a2) % 18446744073709551616, (a0 + a1 + a2) / 18446744073709551616)) else (none)
theorem bits_Add64.calls (a0 : Int) (a1 : Int) (a2 : Int) (r1 : Int) (r2 : Int) (w : World) (h : bits_Add64.f a0 a1 a2 = some (r1, r2)) :
    ExtCalls Try.prog 58 #[.int .u64 a0, .int .u64 a1, .int .u64 a2] w fun e w' => e = .returned (.tuple #[.int .u64 r1, .int .u64 r2]) ∧ Drawn0 w w' := by
  unfold bits_Add64.f at h
  split at h
  · rename_i hc
    simp only [Option.some.injEq, Prod.mk.injEq] at h
    obtain ⟨rfl, rfl⟩ := h
    refine ⟨_, w, ?_, rfl, Drawn0.refl w⟩
    rw [run_callFunc_extern Try.func58 (by kernel_rfl) (by kernel_rfl) (by kernel_rfl) (e := add64Entry) (by kernel_rfl), run_add64 a0 a1 a2 hc.1 hc.2.1 hc.2.2.1 hc.2.2.2]
    rfl
  · cases h
def bits_Sub64.f (a0 : Int) (a1 : Int) (a2 : Int) : Option (Int × Int) := if 0 ≤ a0 ∧ 0 ≤ a1 ∧ 0 ≤ a2 ∧ a2 ≤ 1 ∧ a1 < 18446744073709551616 then (some ((a0 - a1 - a2) % 18446744073709551616, if a0 < a1 + a2 then 1 else 0)) else (none)
theorem bits_Sub64.calls (a0 : Int) (a1 : Int) (a2 : Int) (r1 : Int) (r2 : Int) (w : World) (h : bits_Sub64.f a0 a1 a2 = some (r1, r2)) :
    ExtCalls Try.prog 90 #[.int .u64 a0, .int .u64 a1, .int .u64 a2] w fun e w' => e = .returned (.tuple #[.int .u64 r1, .int .u64 r2]) ∧ Drawn0 w w' := by
  unfold bits_Sub64.f at h
  split at h
  · rename_i hc
    simp only [Option.some.injEq, Prod.mk.injEq] at h
    obtain ⟨rfl, rfl⟩ := h
    obtain ⟨h0, h1, h2, h3, h4⟩ := hc
    obtain ⟨x, rfl⟩ := Int.eq_ofNat_of_zero_le h0
    obtain ⟨y, rfl⟩ := Int.eq_ofNat_of_zero_le h1
    obtain ⟨b, rfl⟩ := Int.eq_ofNat_of_zero_le h2
    refine ⟨_, w, ?_, rfl, Drawn0.refl w⟩
    rw [run_callFunc_extern Try.func90 (by kernel_rfl) (by kernel_rfl) (by kernel_rfl) (e := sub64Entry) (by kernel_rfl), run_sub64 x y b (by omega)]
    have e1 : (((x + 18446744073709551616 - y - b) % 18446744073709551616 : Nat) : Int) = ((x : Int) - y - b) % 18446744073709551616 := by omega
    have e2 : ((if x < y + b then 1 else 0 : Nat) : Int) = if (x : Int) < (y : Int) + (b : Int) then 1 else 0 := by
      by_cases h : x < y + b
      · rw [if_pos h, if_pos (by omega)]; rfl
      · rw [if_neg h, if_neg (by omega)]; rfl
    rw [e1, e2]
    rfl
  · cases h
end Go.Proofs.Ytjbpchebabhoeaa.X
end
section
namespace Go.Proofs
open Go.Shelf
def Try.lays134_ren : Go.Shelf.Ren := ⟨fun | 134 => 51 | 129 => 57 | n => n, fun | 53 => 55 | 3 => 3 | 4 => 4 | 46 => 69 | 5 => 5 | 9 => 9 | n => n, fun | n => n⟩
theorem Try.lays134 : Go.Proofs.Lays.n134 Try.prog Try.lays134_ren := {
  mixed := by kernel_rfl
  f129 := Try.func57.trans (congrArg some (by kernel_rfl))
  f134 := Try.func51.trans (congrArg some (by kernel_rfl))
  t3 := Try.underlying3
  a3 := Try.isAgg3
  z3 := Try.sizeOf3
  v3 := Try.zeroValue3
  t4 := Try.underlying4
  a4 := Try.isAgg4
  z4 := Try.sizeOf4
  v4 := Try.zeroValue4
  t5 := Try.underlying5
  a5 := Try.isAgg5
  z5 := Try.sizeOf5
  v5 := Try.zeroValue5
  t9 := Try.underlying9
  a9 := Try.isAgg9
  z9 := Try.sizeOf9
  v9 := Try.zeroValue9
  t46 := Try.underlying69
  a46 := Try.isAgg69
  z46 := Try.sizeOf69
  v46 := Try.zeroValue69
  t53 := Try.underlying55
  a53 := Try.isAgg55
  z53 := Try.sizeOf55
  v53 := Try.zeroValue55 }
theorem Try.bits_LeadingZeros64 (x : Int) (w : World) (h0 : 0 ≤ x) (h1 : x ≤ 18446744073709551615) :
    Calls Try.prog 51 #[.int .u64 x] w fun e w' => e = .returned (.int .i64 (64 - (Lib.bitLen x.toNat : Int))) ∧ w' = w := Any.bits_LeadingZeros64 Try.lays134 x w h0 h1
def Try.lays129_ren : Go.Shelf.Ren := ⟨fun | 129 => 57 | n => n, fun | 53 => 55 | 3 => 3 | 4 => 4 | 46 => 69 | 5 => 5 | 9 => 9 | n => n, fun | n => n⟩
theorem Try.lays129 : Go.Proofs.Lays.n129 Try.prog Try.lays129_ren := {
  mixed := by kernel_rfl
  f129 := Try.func57.trans (congrArg some (by kernel_rfl))
  t3 := Try.underlying3
  a3 := Try.isAgg3
  z3 := Try.sizeOf3
  v3 := Try.zeroValue3
  t4 := Try.underlying4
  a4 := Try.isAgg4
  z4 := Try.sizeOf4
  v4 := Try.zeroValue4
  t5 := Try.underlying5
  a5 := Try.isAgg5
  z5 := Try.sizeOf5
  v5 := Try.zeroValue5
  t9 := Try.underlying9
  a9 := Try.isAgg9
  z9 := Try.sizeOf9
  v9 := Try.zeroValue9
  t46 := Try.underlying69
  a46 := Try.isAgg69
  z46 := Try.sizeOf69
  v46 := Try.zeroValue69
  t53 := Try.underlying55
  a53 := Try.isAgg55
  z53 := Try.sizeOf55
  v53 := Try.zeroValue55 }
theorem Try.bits_Len64 (x : Int) (w : World) (h0 : 0 ≤ x) (h1 : x ≤ 18446744073709551615) :
    Calls Try.prog 57 #[.int .u64 x] w fun e w' => e = .returned (.int .i64 (Lib.bitLen x.toNat)) ∧ w' = w := Any.bits_Len64 Try.lays129 x w h0 h1
def Try.lays264_ren : Go.Shelf.Ren := ⟨fun | 264 => 89 | n => n, fun | 53 => 55 | 46 => 69 | n => n, fun | n => n⟩
theorem Try.lays264 : Go.Proofs.Lays.n264 Try.prog Try.lays264_ren := {
  mixed := by kernel_rfl
  f264 := Try.func89.trans (congrArg some (by kernel_rfl))
  t46 := Try.underlying69
  a46 := Try.isAgg69
  z46 := Try.sizeOf69
  v46 := Try.zeroValue69
  t53 := Try.underlying55
  a53 := Try.isAgg55
  z53 := Try.sizeOf55
  v53 := Try.zeroValue55 }
open Go.RowKit Go.Lib in
theorem Try.bits_Mul64 (x y : Nat) (hx : x < 18446744073709551616) (hy : y < 18446744073709551616) (w : World) :
    Calls Try.prog 89 #[.int .u64 x, .int .u64 y] w fun e w' => e = .returned (.tuple #[.int .u64 ((x * y / 18446744073709551616 : Nat) : Int), .int .u64 ((x * y % 18446744073709551616 : Nat) : Int)]) ∧ w' = w := Any.bits_Mul64 Try.lays264 x y hx hy w
end Go.Proofs
end
section
set_option linter.unusedVariables false
namespace Go.Proofs.Ytjbpchebabhoeaa.X
open Go.RowKit Go.Proofs.YtjbpchebabhoeaaW.PrintWords Go.Proofs.YtjbpchebabhoeaaW.PrintLast Go.Proofs.YtjbpchebabhoeaaW.PrintMore
theorem up_ {p q : Prop} (A : Aside0 q) (h : q → p := by intro h_; (with_reducible repeat (first | apply Kd.R_alloc | apply Kd.R_drewN | apply Kd.R_drew)); exact h_) : p := h A.out
theorem dn_ {p q : Prop} (A : Aside0 q) (h : q → p := by intro h_; repeat (first | (with_reducible first | exact h_ | apply below_alloc | apply pw_below_drewN | apply below_drew1) | exact h_)) : p := h A.out
theorem ar_ {p : Prop} (h : p := by (try simp only [List.map_toArray, List.map_cons, List.map_nil]); first | done | rfl | (simp only [List.length_drop, List.length_take]; rfl)) : p := h
theorem cs_ {p q : Prop} (A : q) (h : q → p := by intro h_; repeat (first | exact h_ | (with_reducible refine Kd.C_alloc ?_ _) | (with_reducible refine Kd.C_drewN ?_ _) | (with_reducible refine Kd.C_drew ?_))) : p := h A
theorem er_ {p : Prop} (h : p := by first | rfl | (simp [errW_none, errW_some] <;> rfl) | (simp [*, errW_none, errW_some] <;> rfl)) : p := h
theorem as_ {p : Prop} (h : p := by first | (with_reducible assumption) | assumption) : p := h
end Go.Proofs.Ytjbpchebabhoeaa.X
end
section
set_option linter.unusedVariables false
namespace Go.Proofs.Ytjbpchebabhoeaa.X
open Go.RowKit Go.Proofs.YtjbpchebabhoeaaW.PrintWords Go.Proofs.YtjbpchebabhoeaaW.PrintLast Go.Proofs.YtjbpchebabhoeaaW.PrintMore
def bits_Len64.f (a0 : Int) : Option (Int) := if 0 ≤ a0 ∧ a0 ≤ 18446744073709551615 then (some (Lib.bitLen a0.toNat)) else (none)
theorem bits_Len64.calls (a0 : Int) (r : Int) (w : World) (h : bits_Len64.f a0 = some r) :
    Calls Try.prog 57 #[.int .u64 a0] w fun e w' => e = .returned (.int .i64 r) ∧ Drawn0 w w' := by
  unfold bits_Len64.f at h
  split at h
  · rename_i hc
    obtain rfl := Option.some.inj h
    exact (Try.bits_Len64 a0 w hc.1 hc.2).mono fun e w' ⟨he, hw⟩ => ⟨he, by subst hw; exact Drawn0.refl _⟩
  · cases h
def bits_LeadingZeros64.f (a0 : Int) : Option (Int) := if 0 ≤ a0 ∧ a0 ≤ 18446744073709551615 then (some (64 - (Lib.bitLen a0.toNat : Int))) else (none)
theorem bits_LeadingZeros64.calls (a0 : Int) (r : Int) (w : World) (h : bits_LeadingZeros64.f a0 = some r) :
    Calls Try.prog 51 #[.int .u64 a0] w fun e w' => e = .returned (.int .i64 r) ∧ Drawn0 w w' := by
  unfold bits_LeadingZeros64.f at h
  split at h
  · rename_i hc
    obtain rfl := Option.some.inj h
    exact (Try.bits_LeadingZeros64 a0 w hc.1 hc.2).mono fun e w' ⟨he, hw⟩ => ⟨he, by subst hw; exact Drawn0.refl _⟩
  · cases h
def bits_Mul64.f (a0 : Int) (a1 : Int) : Option (Int × Int) := if 0 ≤ a0 ∧ a0 < 18446744073709551616 ∧ 0 ≤ a1 ∧ a1 < 18446744073709551616 then (some (a0 * a1 / 18446744073709551616, a0 * a1 % 18446744073709551616)) else (none)
theorem bits_Mul64.calls (a0 : Int) (a1 : Int) (r1 : Int) (r2 : Int) (w : World) (h : bits_Mul64.f a0 a1 = some (r1, r2)) :
    Calls Try.prog 89 #[.int .u64 a0, .int .u64 a1] w fun e w' => e = .returned (.tuple #[.int .u64 r1, .int .u64 r2]) ∧ Drawn0 w w' := by
  unfold bits_Mul64.f at h
  split at h
  · rename_i hc
    simp only [Option.some.injEq, Prod.mk.injEq] at h
    obtain ⟨rfl, rfl⟩ := h
    obtain ⟨h0, h1, h2, h3⟩ := hc
    obtain ⟨x, rfl⟩ := Int.eq_ofNat_of_zero_le h0
    obtain ⟨y, rfl⟩ := Int.eq_ofNat_of_zero_le h2
    refine (Try.bits_Mul64 x y (by omega) (by omega) w).mono fun e w' ⟨he, hw⟩ => ⟨?_, by subst hw; exact Drawn0.refl _⟩
    rw [he, Int.natCast_ediv, Int.natCast_emod, Int.natCast_mul]
    rfl
  · cases h
def slices_Clone_uint64_uint64.f (l0 : List Int) : Option (List Int) := if l0.length ≤ 17592186044416 then (some l0) else (none)
set_option maxHeartbeats 4000000 in
set_option maxRecDepth 100000 in
theorem slices_Clone_uint64_uint64.calls (A0 : Option Addr) (c0 : Nat) (l0 : List Int) (r : List Int) (w : World) (hr0 : Kd.C (Kd.int .u64) w A0 l0.length l0) (hc0 : l0.length ≤ c0) (h : slices_Clone_uint64_uint64.f l0 = some r) :
    Calls Try.prog 61 #[.slice A0 l0.length c0] w fun e w' => ∃ v0_ : Value, e = .returned (v0_) ∧ Kd.R (Kd.int .u64) 55 w' w.heap.size (fun _ => True) v0_ r ∧ Below w.heap.size w w' := by
  unfold slices_Clone_uint64_uint64.f at h
  split at h
  · rename_i hlen
    obtain rfl := Option.some.inj h
    clear h
    have hq : ∀ (w : World) (a : Option Addr) (n c n' c' : Nat), (binOp .eql 22 (.slice a n c) (.slice none n' c')).run Try.prog w = .ok (.bool a.isNone) w := fun w a n c n' c' => Lib.run_eql_slice_nil w _ _ a n c n' c' Try.underlying22
    cases A0 with
    | none =>
      have hz : l0 = [] := by
        rcases l0 with _ | ⟨x, xs⟩
        · rfl
        · obtain ⟨ad, e, _⟩ := hr0.2.2 (by simp)
          cases e
      subst hz
      clear hr0 hlen
      go_enter Try.func61, Try.ntmps61
      go_wp2
      go_ret
      exact ⟨_, rfl, Kd.R_nil _ _ _ _ _, Below.refl _ _⟩
    | some ad =>
      have hcell : ∀ j u, (encs (fun x : Int => Value.int .u64 x) l0)[j]? = some u → w.cell? (ad.add j) = some u := by
        intro j u hj
        have hjl : j < l0.length := by
          have := (List.getElem?_eq_some_iff.1 hj).1
          rwa [encs_length] at this
        obtain ⟨ad', e, hc⟩ := Kd.at_int hr0 (j : Int) (by omega) (by omega)
        cases e
        have h2 := encs_get (enc := fun x : Int => Value.int .u64 x) (d := 0) l0 j hjl
        rw [h2] at hj
        rw [Int.toNat_natCast] at hc
        rw [hc, ← hj, rd, Int.toNat_natCast]
      have HC := Aside0.mk hcell
      clear hcell hr0
      obtain ⟨i0, hi, hz0, hz1, hz2⟩ := info_parts (show (Try.prog.info? 55).map (fun i => (i.zero, i.size, i.bytes)) = some (some (.int .u64 0), 1, 8) by kernel_rfl)
      go_enter Try.func61, Try.ntmps61
      go_wp2_with (at_builtin; refine wpList_append_own _ rfl _ _ 22 rfl w.heap.size 55 i0 (.int .u64 0) 1 8 Try.underlying22 hi hz0 hz1 hz2 rfl (by decide) _ _ _ rfl (World.ownsRow_made w #[] 0 (Nat.le_refl _) (Nat.zero_le _) (by simp)) ad l0.length c0 (encs (fun x : Int => Value.int .u64 x) l0) rfl ?qc1 ?qc2 ?qc3 ?qc4 ?qc5 ?qc6 ?_)
      case qc1 => rw [encs_length, Nat.mul_one]
      case qc2 =>
        intro j u hj
        exact Lib.cell?_alloc_some _ (HC.out j u hj)
      case qc3 =>
        intro u hu
        obtain ⟨x, _, rfl⟩ := List.mem_map.1 hu
        rfl
      case qc4 => rw [Nat.zero_add]; simp only [maxLen]; omega
      case qc5 => rw [Nat.zero_add]; omega
      case qc6 => simp
      intro v' w1 hown hgrow hnil
      go_wp2
      go_ret
      refine ⟨v', rfl, Kd.R_of_own (by simpa using hown) (fun _ _ => trivial), ?_⟩
      exact ((Below.refl _ w).alloc (Nat.le_refl _) _).grown hgrow (by simp) (by intro k hk; simp [Value.ownBlock] at hk; omega)
  · cases h
theorem field_45_0 (x0 x1 : Value) (w : World) : (Instr.field 45 (.agg #[x0, x1]) 0).run Try.prog w = .ok (x0) w := by kernel_rfl
attribute [go_sem] field_45_0
theorem field_45_1 (x0 x1 : Value) (w : World) : (Instr.field 45 (.agg #[x0, x1]) 1).run Try.prog w = .ok (x1) w := by kernel_rfl
attribute [go_sem] field_45_1
theorem field_121_1 (x0 x1 : Value) (w : World) : (Instr.field 121 (.agg #[x0, x1]) 1).run Try.prog w = .ok (x1) w := by kernel_rfl
attribute [go_sem] field_121_1
end Go.Proofs.Ytjbpchebabhoeaa.X
end
section
namespace Go.Proofs.Ytjbpchebabhoeaa.P
open Go.RowKit Go.Proofs.YtjbpchebabhoeaaW.PrintWords Go.Proofs.YtjbpchebabhoeaaW.PrintLast Go.Proofs.YtjbpchebabhoeaaW.PrintMore Go.Proofs.Ytjbpchebabhoeaa.X
attribute [local go_sem] max2_int min2_int max_two min_two max_three min_three max_four min_four
set_option linter.unusedVariables false
set_option linter.unusedSimpArgs false
def errW : Option Int → Value
  | none => .nilIface
  | some c => .iface 0 (.int .i64 c)
theorem errW_none : errW none = .nilIface := rfl
theorem errW_some (c : Int) : errW (some c) = .iface 0 (.int .i64 c) := rfl
theorem info55 : (Try.prog.info? 55).map (fun i => (i.zero, i.size, i.bytes)) = some (some (.int .u64 0), 1, 8) := by kernel_rfl
end Go.Proofs.Ytjbpchebabhoeaa.P
end
section
set_option linter.unusedVariables false
set_option linter.unusedSimpArgs false
namespace Go.Proofs.Ytjbpchebabhoeaa.H
open Go.RowKit Go.Proofs.YtjbpchebabhoeaaW.PrintWords Go.Proofs.YtjbpchebabhoeaaW.PrintLast Go.Proofs.YtjbpchebabhoeaaW.PrintMore Go.Proofs.Ytjbpchebabhoeaa.X
inductive Item where
  | row (k : IntKind) (A : Option Addr) (c : Nat) (l : List Int)
  | rd (A : Option Addr) (cs : List Value)
  | box (g : Nat) (t : TypeId) (cs : List Value)
def Far (A : Option Addr) (n g : Nat) : Prop := ∀ ad, A = some ad → 0 < n → ad.block ≠ g
def Item.ok (w : World) : Item → Prop
  | .row k A c l => (Kd.int k).C w A l.length l ∧ l.length ≤ c
  | .rd A cs => ∀ i v, cs[i]? = some v → ∃ ad, A = some ad ∧ w.cell? (ad.add i) = some v
  | .box g t cs => w.heap[g]? = some (.cells cs.toArray t (0, 0))
def Item.far (g : Nat) : Item → Prop
  | .row _ A _ l => Far A l.length g
  | .rd A cs => Far A cs.length g
  | .box g' _ _ => g' ≠ g
def Item.apart (x y : Item) : Prop := (∀ g t cs, x = .box g t cs → y.far g) ∧ (∀ g t cs, y = .box g t cs → x.far g)
def Item.still : Item → Prop
  | .box _ _ _ => False
  | _ => True
structure Holds (w0 : World) (S : Nat → Prop) (Γ : List Item) (w : World) : Prop where
  below : Below w0.heap.size w0 w
  inv : True
  old : ∀ g, S g → g < w0.heap.size
  own : ∀ g t cs, Item.box g t cs ∈ Γ → w0.heap.size ≤ g
  ok : ∀ x ∈ Γ, x.ok w
  apart : Γ.Pairwise Item.apart
  free : ∀ x ∈ Γ, ∀ g, S g → x.far g
section
variable {w0 w w' : World} {S : Nat → Prop} {Γ Δ : List Item} {x : Item} {g : Nat} {t : TypeId} {cs cs' : List Value}
theorem cell_lt {p : Addr} {v : Value} (h : w.cell? p = some v) : p.block < w.heap.size := by
  unfold World.cell? at h
  split at h
  · next c _ _ he => exact (Array.getElem?_eq_some_iff.1 he).1
  · cases h
theorem add_block (ad : Addr) (i : Nat) : (ad.add i).block = ad.block := by unfold Addr.add; split <;> rfl
theorem ok_below (h : x.ok w) (hb : Below w.heap.size w w') : x.ok w' := by
  cases x with
  | row k A c l => exact ⟨Kd.C_below h.1 hb, h.2⟩
  | rd A cs =>
    intro i v hi
    obtain ⟨ad, e, hc⟩ := h i v hi
    exact ⟨ad, e, (hb.cell (p := ad.add i) (cell_lt hc)).trans hc⟩
  | box g t cs => exact (hb.block g (blk_lt h)).trans h
theorem far_new (h : x.ok w) {g : Nat} (hg : w.heap.size ≤ g) : x.far g := by
  cases x with
  | row k A c l =>
    rintro ad rfl hl he
    obtain ⟨ad', e, hc⟩ := Kd.at_int h.1 0 (by omega) (by omega)
    cases e
    have := cell_lt hc
    rw [add_block] at this
    omega
  | rd A cs =>
    rintro ad rfl hl he
    obtain ⟨ad', e, hc⟩ := h 0 cs[0] (by simp [hl])
    cases e
    have := cell_lt hc
    rw [add_block] at this
    omega
  | box g' t cs =>
    have := blk_lt h
    show g' ≠ g
    omega
theorem Holds.step (h : Holds w0 S Γ w) (hb : Below w.heap.size w w') : Holds w0 S Γ w' :=
  ⟨below_step h.below hb, h.inv, h.old, h.own, fun x hx => ok_below (h.ok x hx) hb, h.apart, h.free⟩
theorem Holds.drew (h : Holds w0 S Γ w) : Holds w0 S Γ w.drew := h.step (below_drew1 (Below.refl _ _))
theorem Holds.drewN (h : Holds w0 S Γ w) (n : Nat) : Holds w0 S Γ (w.drewN n) := h.step (pw_below_drewN (Below.refl _ _) n)
theorem Holds.add (h : Holds w0 S Γ w) (hs : x.still) (hx : x.ok w) (hS : ∀ g, S g → x.far g) (hf : ∀ g t cs, Item.box g t cs ∈ Γ → x.far g) : Holds w0 S (x :: Γ) w := by
  refine ⟨h.below, h.inv, h.old, ?_, ?_, ?_, ?_⟩
  · intro g t cs hm
    rcases List.mem_cons.1 hm with e | hm
    · subst e; exact hs.elim
    · exact h.own g t cs hm
  · intro y hy
    rcases List.mem_cons.1 hy with rfl | hy
    · exact hx
    · exact h.ok y hy
  · refine List.pairwise_cons.2 ⟨fun y hy => ⟨fun g t cs e => ?_, fun g t cs e => ?_⟩, h.apart⟩
    · subst e; exact hs.elim
    · subst e; exact hf g t cs hy
  · intro y hy g hg
    rcases List.mem_cons.1 hy with rfl | hy
    · exact hS g hg
    · exact h.free y hy g hg
theorem Holds.make (h : Holds w0 S Γ w) (hg : g = w.heap.size) (hb : Below w.heap.size w w') (hn : w'.heap[g]? = some (.cells cs.toArray t (0, 0))) : Holds w0 S (.box g t cs :: Γ) w' := by
  have h' := h.step hb
  have hge := below_size h.below
  refine ⟨h'.below, h'.inv, h'.old, ?_, ?_, ?_, ?_⟩
  · intro g' t' cs' hm
    rcases List.mem_cons.1 hm with e | hm
    · cases e; omega
    · exact h.own g' t' cs' hm
  · intro y hy
    rcases List.mem_cons.1 hy with rfl | hy
    · exact hn
    · exact h'.ok y hy
  · refine List.pairwise_cons.2 ⟨fun y hy => ⟨fun g' t' cs' e => ?_, fun g' t' cs' e => ?_⟩, h.apart⟩
    · cases e; exact far_new (h.ok y hy) (by omega)
    · subst e
      have := blk_lt (h.ok _ hy)
      show g ≠ g'
      omega
  · intro y hy g' hS
    rcases List.mem_cons.1 hy with rfl | hy
    · have := h.old g' hS
      show g ≠ g'
      omega
    · exact h.free y hy g' hS
inductive Upd (g : Nat) (t : TypeId) (cs cs' : List Value) : List Item → List Item → Prop
  | head {Γ : List Item} : Upd g t cs cs' (.box g t cs :: Γ) (.box g t cs' :: Γ)
  | tail {Γ Γ' : List Item} {x : Item} : Upd g t cs cs' Γ Γ' → Upd g t cs cs' (x :: Γ) (x :: Γ')
structure Turned (g : Nat) (t : TypeId) (cs' : List Value) (w w' : World) : Prop where
  os : w'.os = w.os
  tape : w'.tape = w.tape
  output : w'.output = w.output
  size : w'.heap.size = w.heap.size
  other : ∀ k, k ≠ g → w'.heap[k]? = w.heap[k]?
  now : w'.heap[g]? = some (.cells cs'.toArray t (0, 0))
theorem far_ok (h : x.ok w) (hf : x.far g) (ht : Turned g t cs' w w') : x.ok w' := by
  cases x with
  | row k A c l => exact ⟨Kd.C_keep 0 h.1 ⟨by rw [ht.size]; exact Nat.le_refl _, fun i _ hi _ => ht.other i hi⟩ hf, h.2⟩
  | rd A cs =>
    intro i v hi
    obtain ⟨ad, e, hc⟩ := h i v hi
    subst e
    have hl : 0 < cs.length := by have := (List.getElem?_eq_some_iff.1 hi).1; omega
    exact ⟨ad, rfl, (World.cell?_of_block (w := w) (a := ad.add i) (ht.other _ (by rw [add_block]; exact hf ad rfl hl))).trans hc⟩
  | box g' t' cs => exact (ht.other g' hf).trans h
theorem Upd.mem_old {Γ' : List Item} (h : Upd g t cs cs' Γ Γ') : ∀ y ∈ Γ', y = .box g t cs' ∨ y ∈ Γ := by
  induction h with
  | head =>
    intro y hy
    rcases List.mem_cons.1 hy with rfl | hy
    · exact .inl rfl
    · exact .inr (List.mem_cons_of_mem _ hy)
  | tail _ ih =>
    intro y hy
    rcases List.mem_cons.1 hy with rfl | hy
    · exact .inr List.mem_cons_self
    · exact (ih y hy).imp id (List.mem_cons_of_mem _)
theorem Upd.mem_box {Γ' : List Item} (h : Upd g t cs cs' Γ Γ') : Item.box g t cs ∈ Γ := by
  induction h with
  | head => exact List.mem_cons_self
  | tail _ ih => exact List.mem_cons_of_mem _ ih
theorem apart_turn {y : Item} (h : y.apart (.box g t cs)) : y.apart (.box g t cs') := by
  refine ⟨fun g1 t1 cs1 e => h.1 g1 t1 cs1 e, fun g1 t1 cs1 e => ?_⟩
  cases e
  exact h.2 g t cs rfl
theorem apart_turn' {y : Item} (h : Item.apart (.box g t cs) y) : Item.apart (.box g t cs') y := by
  refine ⟨fun g1 t1 cs1 e => ?_, fun g1 t1 cs1 e => h.2 g1 t1 cs1 e⟩
  cases e
  exact h.1 g t cs rfl
theorem Upd.pairwise {Γ' : List Item} (h : Upd g t cs cs' Γ Γ') (hp : Γ.Pairwise Item.apart) : Γ'.Pairwise Item.apart := by
  induction h with
  | head =>
    obtain ⟨h1, h2⟩ := List.pairwise_cons.1 hp
    exact List.pairwise_cons.2 ⟨fun y hy => apart_turn' (h1 y hy), h2⟩
  | tail hu ih =>
    obtain ⟨h1, h2⟩ := List.pairwise_cons.1 hp
    refine List.pairwise_cons.2 ⟨fun y hy => ?_, ih h2⟩
    rcases hu.mem_old y hy with rfl | hy
    · exact apart_turn (h1 _ hu.mem_box)
    · exact h1 y hy
theorem Upd.ok {Γ' : List Item} (h : Upd g t cs cs' Γ Γ') (hp : Γ.Pairwise Item.apart) (ho : ∀ y ∈ Γ, y.ok w) (ht : Turned g t cs' w w') : ∀ y ∈ Γ', y.ok w' := by
  induction h with
  | head =>
    obtain ⟨h1, h2⟩ := List.pairwise_cons.1 hp
    intro y hy
    rcases List.mem_cons.1 hy with rfl | hy
    · exact ht.now
    · exact far_ok (ho y (List.mem_cons_of_mem _ hy)) ((h1 y hy).1 g t cs rfl) ht
  | tail hu ih =>
    obtain ⟨h1, h2⟩ := List.pairwise_cons.1 hp
    intro y hy
    rcases List.mem_cons.1 hy with rfl | hy
    · exact far_ok (ho y List.mem_cons_self) ((h1 _ hu.mem_box).2 g t cs rfl) ht
    · exact ih h2 (fun z hz => ho z (List.mem_cons_of_mem _ hz)) y hy
theorem Holds.put {Γ' : List Item} (h : Holds w0 S Γ w) (hu : Upd g t cs cs' Γ Γ') (ht : Turned g t cs' w w') : Holds w0 S Γ' w' := by
  have hg := h.own g t cs hu.mem_box
  refine ⟨?_, h.inv, h.old, ?_, hu.ok h.apart h.ok ht, hu.pairwise h.apart, ?_⟩
  · exact h.below.trans ⟨ht.os, ht.tape, ht.output, by rw [ht.size]; exact Nat.le_refl _, fun k hk => ht.other k (by omega)⟩
  · intro g' t' cs1 hm
    rcases hu.mem_old _ hm with e | hm
    · cases e; exact hg
    · exact h.own g' t' cs1 hm
  · intro y hy g' hS
    rcases hu.mem_old y hy with rfl | hy
    · exact h.free _ hu.mem_box g' hS
    · exact h.free y hy g' hS
theorem pw_still : ∀ Δ : List Item, (∀ y ∈ Δ, y.still) → Δ.Pairwise Item.apart
  | [], _ => List.Pairwise.nil
  | x :: Δ, h => by
    refine List.pairwise_cons.2 ⟨fun y hy => ⟨fun g t cs e => ?_, fun g t cs e => ?_⟩, pw_still Δ fun y hy => h y (List.mem_cons_of_mem _ hy)⟩
    · have := h x List.mem_cons_self
      rw [e] at this
      exact this.elim
    · have := h y (List.mem_cons_of_mem _ hy)
      rw [e] at this
      exact this.elim
theorem Holds.sub (h : Holds w0 S Γ w) (hd : ∀ y ∈ Δ, y ∈ Γ ∧ y.still) : Holds w0 S Δ w := by
  exact ⟨h.below, h.inv, h.old, fun g t cs hm => h.own g t cs (hd _ hm).1, fun y hy => h.ok y (hd y hy).1, pw_still Δ fun y hy => (hd y hy).2, fun y hy => h.free y (hd y hy).1⟩
end
end Go.Proofs.Ytjbpchebabhoeaa.H
end
section
set_option linter.unusedVariables false
set_option linter.unusedSimpArgs false
namespace Go.Proofs.Ytjbpchebabhoeaa.H
open Go.RowKit Go.Proofs.YtjbpchebabhoeaaW.PrintWords Go.Proofs.YtjbpchebabhoeaaW.PrintLast Go.Proofs.YtjbpchebabhoeaaW.PrintMore Go.Proofs.Ytjbpchebabhoeaa.X
def Post (R : Value → List Item → Prop) (w : World) (S : Nat → Prop) (Δ : List Item) (e : Ending) (w' : World) : Prop := ∃ v Θ, e = .returned v ∧ R v Θ ∧ (∀ y ∈ Θ, y.still) ∧ Holds w S (Θ ++ Δ) w'
def HC (P : Program) (f : Nat) (Δ : List Item) (args : Array Value) (R : Value → List Item → Prop) : Prop :=
  ∀ w S, Holds w S Δ w → Calls P f args w (Post R w S Δ)
section
variable {w0 w w' : World} {S : Nat → Prop} {Γ Δ Θ : List Item} {x : Item} {g : Nat} {t : TypeId} {cs cs' : List Value}
theorem Holds.inv_now (h : Holds w0 S Γ w) : True := trivial
theorem still_far : ∀ {Γ : List Item}, Γ.Pairwise Item.apart → ∀ y ∈ Γ, y.still → ∀ g t cs, Item.box g t cs ∈ Γ → y.far g
  | [], _, _, h, _, _, _, _, _ => by cases h
  | x :: Γ, hp, y, hy, hs, g, t, cs, hb => by
    obtain ⟨h1, h2⟩ := List.pairwise_cons.1 hp
    rcases List.mem_cons.1 hy with e | hy2
    · subst e
      rcases List.mem_cons.1 hb with e | hb2
      · subst e; exact hs.elim
      · exact (h1 _ hb2).2 g t cs rfl
    · rcases List.mem_cons.1 hb with e | hb2
      · subst e; exact (h1 _ hy2).1 g t cs rfl
      · exact still_far h2 y hy2 hs g t cs hb2
theorem Holds.call (h : Holds w0 S Γ w) (hd : ∀ y ∈ Δ, y ∈ Γ ∧ y.still) : Holds w (fun g => S g ∨ ∃ t cs, Item.box g t cs ∈ Γ) Δ w := by
  refine ⟨Below.refl _ _, h.inv_now, ?_, ?_, fun y hy => h.ok y (hd y hy).1, pw_still Δ fun y hy => (hd y hy).2, ?_⟩
  · rintro g (hg | ⟨t, cs, hm⟩)
    · exact Nat.lt_of_lt_of_le (h.old g hg) (below_size h.below)
    · exact blk_lt (h.ok _ hm)
  · intro g t cs hm
    exact (hd _ hm).2.elim
  · rintro y hy g (hg | ⟨t, cs, hm⟩)
    · exact h.free y (hd y hy).1 g hg
    · exact still_far h.apart y (hd y hy).1 (hd y hy).2 g t cs hm
theorem Holds.back (h : Holds w0 S Γ w) : ∀ {Θ : List Item}, (∀ y ∈ Θ, y.still) → Holds w (fun g => S g ∨ ∃ t cs, Item.box g t cs ∈ Γ) (Θ ++ Δ) w' → Holds w0 S (Θ ++ Γ) w'
  | [], _, h' => h.step h'.below
  | x :: Θ, hs, h' => by
    have hx : x ∈ x :: Θ ++ Δ := List.mem_cons_self
    have h2 : Holds w (fun g => S g ∨ ∃ t cs, Item.box g t cs ∈ Γ) (Θ ++ Δ) w' :=
      ⟨h'.below, h'.inv, h'.old, fun g t cs hm => h'.own g t cs (List.mem_cons_of_mem _ hm), fun y hy => h'.ok y (List.mem_cons_of_mem _ hy), (List.pairwise_cons.1 h'.apart).2, fun y hy => h'.free y (List.mem_cons_of_mem _ hy)⟩
    have ih := Holds.back h (fun y hy => hs y (List.mem_cons_of_mem _ hy)) h2
    refine ih.add (hs x List.mem_cons_self) (h'.ok x hx) (fun g hg => h'.free x hx g (.inl hg)) fun g t cs hm => ?_
    rcases List.mem_append.1 hm with hm | hm
    · exact (hs _ (List.mem_cons_of_mem _ hm)).elim
    · exact h'.free x hx g (.inr ⟨t, cs, hm⟩)
theorem fresh_ok {k : IntKind} {e : TypeId} {ok : Nat → Prop} {v : Value} {l : List Int} (ho : (Kd.int k).R e w' w.heap.size ok v l) : ∃ A c, v = .slice A l.length c ∧ (Item.row k A c l).ok w' ∧ ∀ g, g < w.heap.size → (Item.row k A c l).far g := by
  obtain ⟨A, c, rfl⟩ := Kd.R_slice ho
  obtain ⟨_, h2, h3⟩ := Kd.R_reads' ho
  refine ⟨A, c, rfl, ⟨h3, h2⟩, fun g hg ad hA hl he => ?_⟩
  subst hA
  rcases Kd.R_base2 ho with h | ⟨k, h, hk⟩
  · simp [Value.ownBlock] at h
  · simp [Value.ownBlock] at h
    omega
theorem HC.of {P : Program} {f : Nat} {args : Array Value} {R : Value → List Item → Prop}
    (h : ∀ w S, Holds w S Δ w → Calls P f args w fun e w' => ∃ v Θ, e = .returned v ∧ R v Θ ∧ (∀ y ∈ Θ, y.still ∧ y.ok w' ∧ ∀ g, g < w.heap.size → y.far g) ∧ Below w.heap.size w w') : HC P f Δ args R := by
  intro w S HF
  refine (h w S HF).mono ?_
  rintro e w' ⟨v, Θ, he, hR, hΘ, hb⟩
  refine ⟨v, Θ, he, hR, fun y hy => (hΘ y hy).1, ?_⟩
  have HF' := HF.step hb
  clear hR
  induction Θ with
  | nil => exact HF'
  | cons x Θ ih =>
    have hx := hΘ x List.mem_cons_self
    have hΘ' : ∀ y ∈ Θ, y.still ∧ y.ok w' ∧ ∀ g, g < w.heap.size → y.far g := fun y hy => hΘ y (List.mem_cons_of_mem _ hy)
    refine (ih hΘ').add hx.1 hx.2.1 (fun g hg => hx.2.2 g (HF.old g hg)) fun g t cs hm => ?_
    rcases List.mem_append.1 hm with hm | hm
    · exact (hΘ' _ hm).1.elim
    · exact hx.2.2 g (blk_lt (HF.ok _ hm))
def Row (k : IntKind) (l : List Int) (v : Value) (Θ : List Item) : Prop := ∃ A c, v = .slice A l.length c ∧ Θ = [.row k A c l]
def Val (u : Value) (v : Value) (Θ : List Item) : Prop := v = u ∧ Θ = []
theorem HC.row1 {P : Program} {f : Nat} {args : Array Value} {k : IntKind} {t : TypeId} {ok : World → Value → Nat → Prop} {l : List Int}
    (h : ∀ w S, Holds w S Δ w → Calls P f args w fun e w' => ∃ v : Value, e = .returned v ∧ (Kd.int k).R t w' w.heap.size (ok w v) v l ∧ Below w.heap.size w w') : HC P f Δ args (Row k l) := by
  refine HC.of fun w S HF => (h w S HF).mono ?_
  rintro e w' ⟨v, he, ho, hb⟩
  obtain ⟨A, c, hv, h1, h2⟩ := fresh_ok ho
  refine ⟨v, [.row k A c l], he, ⟨A, c, hv, rfl⟩, fun y hy => ?_, hb⟩
  rw [List.mem_singleton] at hy
  subst hy
  exact ⟨trivial, h1, h2⟩
theorem HC.val {P : Program} {f : Nat} {args : Array Value} {u : Value} (h : ∀ w S, Holds w S Δ w → Calls P f args w fun e w' => e = .returned u ∧ Below w.heap.size w w') : HC P f Δ args (Val u) := by
  refine HC.of fun w S HF => (h w S HF).mono ?_
  rintro e w' ⟨he, hb⟩
  exact ⟨u, [], he, ⟨rfl, rfl⟩, fun y hy => (by cases hy), hb⟩
theorem HC.drawn {P : Program} {f : Nat} {args : Array Value} {u : Value} (h : ∀ w S, Holds w S Δ w → Calls P f args w fun e w' => e = .returned u ∧ Drawn0 w w') : HC P f Δ args (Val u) :=
  HC.val fun w S HF => (h w S HF).mono fun e w' ⟨he, hd⟩ => ⟨he, by obtain ⟨n, rfl⟩ := hd; exact pw_below_drewN (Below.refl _ _) n⟩
theorem HC.imp {P : Program} {f : Nat} {args : Array Value} {R R' : Value → List Item → Prop} (h : HC P f Δ args R) (hR : ∀ v Θ, R v Θ → R' v Θ) : HC P f Δ args R' := by
  intro w S HF
  refine (h w S HF).mono ?_
  rintro e w' ⟨v, Θ, he, h1, h2⟩
  exact ⟨v, Θ, he, hR v Θ h1, h2⟩
end
section
variable {P : Program} {ops : Array Oper} {rest : List Oper} {o : Oper} {a : Act} {Q : Exit → Act → World → Prop} {w0 w : World} {S : Nat → Prop} {Γ Δ : List Item}
theorem call_ {f : FuncId} {fn : Func} {aas : Array Operand} {ts : Array TypeId} {args : Array Value} {R : Value → List Item → Prop} {N : Option Tmp} (HF : Holds w0 S Γ w) (hf : P.funcs[f]? = some fn) (hc : HC P f Δ args R)
    (hΔ : ∀ y ∈ Δ, y ∈ Γ ∧ y.still)
    (h : ∀ v Θ w', R v Θ → Holds w0 S (Θ ++ Γ) w' → wpList P ops Q rest (a.put N v) w')
    (hd : o.dst = N := by rfl) (hg : o.guard = none := by rfl) (hop : o.op = .call { callee := .value (.func f), args := aas, argTypes := ts } := by rfl) (hargs : aas.map a.eval = args := by exact ar_)
    (hname : (fn.name == "runtime.NumGoroutine") = false := by kernel_rfl) (hb : fn.body.isSome = true := by rfl) : wpList P ops Q (o :: rest) a w := by
  refine goesL_ N hd hg hf hname hb args hop hargs ((hc w _ (HF.call hΔ)).mono ?_)
  rintro e w' ⟨v, Θ, he, hR, hs, hh⟩
  exact ⟨v, he, h v Θ w' hR (HF.back hs hh)⟩
theorem box_ {t : TypeId} {x : Operand} {u : Value} {cs : List Value} {N : Option Tmp} (HF : Holds w0 S Γ w) (hop : o.op = .box t x) (hx : a.eval x = u) (hu : u.cells = cs.toArray)
    (h : ∀ g w', Holds w0 S (.box g t cs :: Γ) w' → wpList P ops Q rest (a.put N (.pointer (some ⟨g, 0, none⟩))) w')
    (hd : o.dst = N := by rfl) (hg : o.guard = none := by rfl) : wpList P ops Q (o :: rest) a w := by
  refine wpList_plain hg fun K hK => ?_
  have hrun : (execOp a.eval o).run P w = .ok (.value (.pointer (some ⟨w.heap.size, 0, none⟩))) (w.alloc (.cells cs.toArray t (0, 0))) := by
    unfold execOp
    rw [hop]
    simp only [hx, Instr.box, newVar, newRow, newObj, hu]
    rfl
  unfold Oper.wp
  rw [hrun, Oper.upon_value, hd]
  exact hK _ _ (h _ _ (HF.make rfl (below_alloc (Below.refl _ _) _) (blk_new w _)))
theorem alloc_ {t : TypeId} {z : Value} {cs : List Value} {N : Option Tmp} (HF : Holds w0 S Γ w) (hop : o.op = .alloc t) (hz : ∀ w, (zeroValue t).run P w = .ok z w) (hu : z.cells = cs.toArray)
    (h : ∀ g w', Holds w0 S (.box g t cs :: Γ) w' → wpList P ops Q rest (a.put N (.pointer (some ⟨g, 0, none⟩))) w')
    (hd : o.dst = N := by rfl) (hg : o.guard = none := by rfl) : wpList P ops Q (o :: rest) a w := by
  refine wpList_plain hg fun K hK => ?_
  have hrun : (execOp a.eval o).run P w = .ok (.value (.pointer (some ⟨w.heap.size, 0, none⟩))) (w.alloc (.cells cs.toArray t (0, 0))) := by
    unfold execOp
    rw [hop]
    simp [Instr.alloc, hz, newVar, newRow, newObj, hu]
    rfl
  unfold Oper.wp
  rw [hrun, Oper.upon_value, hd]
  exact hK _ _ (h _ _ (HF.make rfl (below_alloc (Below.refl _ _) _) (blk_new w _)))
end
inductive At (g : Nat) (cs : List Value) : List Item → Prop
  | box {t : TypeId} {Γ : List Item} : At g cs (.box g t cs :: Γ)
  | rd {Γ : List Item} : At g cs (.rd (some ⟨g, 0, none⟩) cs :: Γ)
  | tail {x : Item} {Γ : List Item} : At g cs Γ → At g cs (x :: Γ)
theorem add_at (g off i : Nat) : (⟨g, off, none⟩ : Addr).add i = ⟨g, off + i, none⟩ := by
  unfold Addr.add
  split
  · next h => subst h; rfl
  · rfl
def Lies (w : World) (g : Nat) (cs : List Value) : Prop := ∀ i v, cs[i]? = some v → w.cell? ⟨g, i, none⟩ = some v
theorem At.lies {g : Nat} {cs : List Value} {Γ : List Item} {w : World} (h : At g cs Γ) (hk : ∀ x ∈ Γ, x.ok w) : Lies w g cs := by
  induction h with
  | box =>
    intro i v hi
    rw [blk_cell (hk _ List.mem_cons_self)]
    simpa using hi
  | rd =>
    intro i v hi
    obtain ⟨ad, e, hc⟩ := hk _ List.mem_cons_self i v hi
    cases e
    rw [add_at, Nat.zero_add] at hc
    exact hc
  | tail _ ih => exact ih fun x hx => hk x (List.mem_cons_of_mem _ hx)
def Loads (P : Program) (t : TypeId) (g : Nat) (cs : List Value) (off : Nat) (v : Value) : Prop := ∀ w, Lies w g cs → (loadVar t ⟨g, off, none⟩).run P w = .ok v w
structure AggT (P : Program) (t : TypeId) (n : Nat) : Prop where
  agg : ∀ w, (isAgg t).run P w = .ok true w
  size : ∀ w, (sizeOf t).run P w = .ok n w
structure OneT (P : Program) (t : TypeId) : Prop where
  one : ∀ w, (isAgg t).run P w = .ok false w
  size : ∀ w, (sizeOf t).run P w = .ok 1 w
theorem Loads.agg {P : Program} {t : TypeId} {n g off : Nat} {cs : List Value} (h : AggT P t n) (hl : off + n ≤ cs.length) : Loads P t g cs off (.agg ((cs.drop off).take n).toArray) := by
  intro w hw
  have hlen : ((cs.drop off).take n).length = n := by rw [List.length_take, List.length_drop]; omega
  have h2 := run_loadCells_list (P := P) w ⟨g, off, none⟩ ((cs.drop off).take n) fun j v hj => by
    rw [add_at]
    refine hw _ _ ?_
    rw [List.getElem?_take] at hj
    split at hj
    · rw [List.getElem?_drop] at hj; exact hj
    · cases hj
  rw [hlen] at h2
  unfold loadVar
  simp [h.agg, h.size, h2]
theorem Loads.one {P : Program} {t : TypeId} {g off : Nat} {cs : List Value} {v : Value} (h : OneT P t) (hv : cs[off]? = some v) : Loads P t g cs off v := by
  intro w hw
  unfold loadVar
  simp [h.one, hw off v hv]
def setAll : List Value → Nat → List Value → List Value
  | cs, _, [] => cs
  | cs, j, v :: vs => setAll (cs.set j v) (j + 1) vs
theorem Turned.trans {g : Nat} {t : TypeId} {cs cs' : List Value} {w w1 w2 : World} (h : Turned g t cs w w1) (k : Turned g t cs' w1 w2) : Turned g t cs' w w2 :=
  ⟨k.os.trans h.os, k.tape.trans h.tape, k.output.trans h.output, k.size.trans h.size, fun i hi => (k.other i hi).trans (h.other i hi), k.now⟩
theorem run_storeCells {P : Program} {g off : Nat} {t : TypeId} : ∀ (vs : List Value) (i : Nat) (cs : List Value) (w : World), w.heap[g]? = some (.cells cs.toArray t (0, 0)) → off + i + vs.length ≤ cs.length → (∀ v ∈ vs, v.oneCell' = true) →
    ∃ w', (storeCells ⟨g, off, none⟩ vs i).run P w = .ok () w' ∧ Turned g t (setAll cs (off + i) vs) w w'
  | [], i, cs, w, hb, _, _ => ⟨w, rfl, ⟨rfl, rfl, rfl, rfl, fun _ _ => rfl, hb⟩⟩
  | v :: vs, i, cs, w, hb, hl, h1 => by
    simp only [List.length_cons] at hl
    have hset : (w.setCell ⟨g, off + i, none⟩ v).heap[g]? = some (.cells (cs.set (off + i) v).toArray t (0, 0)) := by
      have := blk_set hb (off + i) v
      rw [this]
      simp
    obtain ⟨w', hr, ht⟩ := run_storeCells (P := P) (off := off) vs (i + 1) (cs.set (off + i) v) (w.setCell ⟨g, off + i, none⟩ v) hset (by simp; omega) (fun u hu => h1 u (List.mem_cons_of_mem _ hu))
    have hT : Turned g t (cs.set (off + i) v) w (w.setCell ⟨g, off + i, none⟩ v) := ⟨rfl, rfl, rfl, by simp [World.setCell], fun k hk => Below.heap_setCell w _ v k hk, hset⟩
    refine ⟨w', ?_, hT.trans ht⟩
    have hcell : w.cell? ⟨g, off + i, none⟩ = some (cs[off + i]'(by omega)) := by
      rw [blk_cell hb]
      simp
    have hfz := blk_frozen hb (off + i)
    have hv := h1 v List.mem_cons_self
    unfold storeCells
    rw [add_at]
    cases v <;> first | (simp [Value.oneCell'] at hv; done) | (simp [store, Sem.run, Bind.bind, Sem.bind, hcell, hfz]; exact hr)
structure Stores (P : Program) (t : TypeId) (cs : List Value) (off : Nat) (v : Value) (cs' : List Value) : Prop where
  size : ∀ w, (sizeOf t).run P w = .ok v.cells.size w
  room : off + v.cells.size ≤ cs.length
  one : ∀ u ∈ v.cells.toList, u.oneCell' = true
  now : setAll cs off v.cells.toList = cs'
theorem Stores.run {P : Program} {t T : TypeId} {g off : Nat} {cs cs' : List Value} {v : Value} {w : World} (h : Stores P t cs off v cs') (hb : w.heap[g]? = some (.cells cs.toArray T (0, 0))) :
    ∃ w', (storeVar t ⟨g, off, none⟩ v).run P w = .ok () w' ∧ Turned g T cs' w w' := by
  obtain ⟨w', hr, ht⟩ := run_storeCells (P := P) (off := off) v.cells.toList 0 cs w hb (by simpa using h.room) h.one
  rw [Nat.add_zero, h.now] at ht
  refine ⟨w', ?_, ht⟩
  unfold storeVar
  simp [h.size, hr]
section
variable {P : Program} {ops : Array Oper} {rest : List Oper} {o : Oper} {a : Act} {Q : Exit → Act → World → Prop} {w0 w : World} {S : Nat → Prop} {Γ Δ Γ' : List Item}
theorem load_ {t : TypeId} {x : Operand} {g off : Nat} {cs : List Value} {v : Value} {N : Option Tmp} (HF : Holds w0 S Γ w) (hop : o.op = .load t x) (hx : a.eval x = .pointer (some ⟨g, off, none⟩)) (hat : At g cs Γ) (hv : Loads P t g cs off v)
    (h : wpList P ops Q rest (a.put N v) w) (hd : o.dst = N := by rfl) (hg : o.guard = none := by rfl) : wpList P ops Q (o :: rest) a w := by
  refine wpList_plain hg fun K hK => ?_
  have hrun : (execOp a.eval o).run P w = .ok (.value v) w := by
    have := hv w (hat.lies HF.ok)
    unfold execOp
    rw [hop]
    simp [hx, Instr.loadAt, Instr.sureAddr, this]
  unfold Oper.wp
  rw [hrun, Oper.upon_value, hd]
  exact hK _ _ h
theorem store_ {t T : TypeId} {x y : Operand} {g off : Nat} {cs cs' : List Value} {v : Value} (HF : Holds w0 S Γ w) (hop : o.op = .store t x y) (hx : a.eval x = .pointer (some ⟨g, off, none⟩)) (hy : a.eval y = v) (hu : Upd g T cs cs' Γ Γ') (hs : Stores P t cs off v cs')
    (h : ∀ w', Holds w0 S Γ' w' → wpList P ops Q rest a w') (hd : o.dst = none := by rfl) (hg : o.guard = none := by rfl) : wpList P ops Q (o :: rest) a w := by
  obtain ⟨w', hr, ht⟩ := hs.run (w := w) (T := T) (g := g) (HF.ok _ hu.mem_box)
  refine wpList_plain hg fun K hK => ?_
  have hrun : (execOp a.eval o).run P w = .ok .skip w' := by
    unfold execOp
    rw [hop]
    simp [hx, hy, Instr.storeAt, Instr.sureAddr, hr]
  unfold Oper.wp
  rw [hrun, Oper.upon_skip, hd]
  exact hK _ _ (h _ (HF.put hu ht))
end
inductive Part (Γ : List Item) : List Item → Prop
  | nil : Part Γ []
  | cons {x : Item} {Δ : List Item} : x ∈ Γ → x.still → Part Γ Δ → Part Γ (x :: Δ)
theorem Part.all {Γ Δ : List Item} (h : Part Γ Δ) : ∀ y ∈ Δ, y ∈ Γ ∧ y.still := by
  induction h with
  | nil => intro y hy; cases hy
  | cons h1 h2 _ ih =>
    intro y hy
    rcases List.mem_cons.1 hy with rfl | hy
    · exact ⟨h1, h2⟩
    · exact ih y hy
section
variable {P : Program} {fn : Func} {a : Act} {R : Ending → World → Prop} {w0 w : World} {S : Nat → Prop} {Γ Δ : List Item} {p p' u u' : Tmp} {ty ty' : TypeId} {g g' : Nat} {cs cs' : List Value} {v v' : Value}
theorem ret_c (HF : Holds w0 S Γ w) (h : fn.results = #[.cell p ty]) (hp : a.tmps.getD p undef = .pointer (some ⟨g, 0, none⟩)) (hat : At g cs Γ) (hv : Loads P ty g cs 0 v) (hd : a.defers = []) (hR : R (.returned v) w) : bodyPost P fn R .ret a w := by
  have h1 := hv w (hat.lies HF.ok)
  have hp' : a.tmps[p]?.getD undef = .pointer (some ⟨g, 0, none⟩) := by simpa using hp
  exact ⟨hd, v, by simp [results, h, hp', asAddr, h1], hR⟩
theorem ret_ct (HF : Holds w0 S Γ w) (h : fn.results = #[.cell p ty, .tmp u]) (hp : a.tmps.getD p undef = .pointer (some ⟨g, 0, none⟩)) (hat : At g cs Γ) (hv : Loads P ty g cs 0 v) (hd : a.defers = []) (hR : R (.returned (.tuple #[v, a.tmps.getD u undef])) w) : bodyPost P fn R .ret a w := by
  have h1 := hv w (hat.lies HF.ok)
  have hp' : a.tmps[p]?.getD undef = .pointer (some ⟨g, 0, none⟩) := by simpa using hp
  exact ⟨hd, _, by simp [results, h, hp', asAddr, h1]; rfl, by simpa using hR⟩
end
end Go.Proofs.Ytjbpchebabhoeaa.H
end
section
set_option linter.unusedVariables false
set_option linter.unusedSimpArgs false
namespace Go.Proofs.Ytjbpchebabhoeaa.X
open Go.RowKit Go.Shelf Go.Proofs.YtjbpchebabhoeaaW.PrintWords Go.Proofs.YtjbpchebabhoeaaW.PrintLast Go.Proofs.YtjbpchebabhoeaaW.PrintMore
attribute [local go_sem] Oper.semAt_some
def KeepOn (S : Nat → Prop) (W W' : World) : Prop := ∀ k, S k → W'.heap[k]? = W.heap[k]?
theorem KeepOn.refl (S : Nat → Prop) (W : World) : KeepOn S W W := fun _ _ => rfl
theorem KeepOn.trans {S : Nat → Prop} {A B C : World} (h : KeepOn S A B) (k : KeepOn S B C) : KeepOn S A C := fun i hi => (k i hi).trans (h i hi)
theorem KeepOn.of_below {S : Nat → Prop} {W W' : World} {n : Nat} (hS : ∀ k, S k → k < n) (h : Below n W W') : KeepOn S W W' := fun k hk => h.block k (hS k hk)
theorem KeepOn.putObj {S : Nat → Prop} {n : Nat} (hS : ∀ k, S k → k < n) (W : World) (l : Nat) (o : Obj) (hl : n ≤ l) : KeepOn S W (W.putObj l o) := fun k hk => World.putObj_heap_other (by have := hS k hk; omega)
theorem KeepOn.cell {S : Nat → Prop} {W W' : World} (h : KeepOn S W W') {b i : Nat} (hb : S b) {j : Option (Nat × Nat × Nat)} {p : Addr} (hp : p.block = b) : W'.cell? p = W.cell? p := by
  subst hp
  simp [World.cell?, h _ hb]
def downF (n : Nat) : Nat → List (Fin n)
  | 0 => []
  | k + 1 => if h : k < n then downF n k ++ [⟨n - 1 - k, by omega⟩] else downF n k
theorem downF_succ {n k : Nat} (h : k < n) : downF n (k + 1) = downF n k ++ [⟨n - 1 - k, by omega⟩] := by simp only [downF]; rw [dif_pos h]
theorem downF_length {n : Nat} : ∀ {k : Nat}, k ≤ n → (downF n k).length = k
  | 0, _ => rfl
  | k + 1, h => by rw [downF_succ (by omega), List.length_append, downF_length (by omega)]; rfl
set_option maxRecDepth 100000 in
set_option maxHeartbeats 4000000 in
theorem back1_in (F : Fence) (n : Nat) (hF : F.fn 87) (hro : F.round = none) (hn : 1 ≤ n) (l Bs : Nat) (S : Nat → Prop) (A : Option Addr) (cap : Nat) (zs : List Int) (hlen : zs.length ≤ 35184372088832) (J Jx : List (Fin zs.length) → World → Prop)
    (hY : ∀ pre (x : Fin zs.length) W, J pre W → pre.length < zs.length → YieldAt F (n - 1) Try.prog l #[.int .i64 ((x.1 : Nat) : Int), .int .u64 (rd zs ((x.1 : Nat) : Int))] W fun e W' =>
      (e = .returned (.bool true) ∧ J (pre ++ [x]) W' ∧ KeepOn S W W') ∨ (e = .returned (.bool false) ∧ Jx (pre ++ [x]) W'))
    (W : World) (hSB : S Bs) (hBs : W.cell? ⟨Bs, 0, none⟩ = some (.slice A zs.length cap)) (hc : ∀ W', KeepOn S W W' → Kd.C (Kd.int .u64) W' A zs.length zs) (h0 : J [] W) :
    CallsIn F n Try.prog 87 #[.func (.yield l) #[] #[], .pointer (some ⟨Bs, 0, none⟩)] W fun e W' => (∃ v, e = .returned v) ∧
      ((∃ ys, ys = downF zs.length zs.length ∧ J ys W') ∨ (∃ pre, (∃ k, k ≤ zs.length ∧ pre = downF zs.length k) ∧ Jx pre W')) := by
  refine callsIn_of_wp Try.func87 rfl hF ?_ hro
  simp only [Try.ntmps87, List.size_toArray, List.length_cons, List.length_nil, Nat.reduceAdd, Nat.reduceSub, Array.replicate_succ, Array.replicate_zero, List.push_toArray, List.append_toArray, List.nil_append, List.cons_append]
  gi_wp2
  gi_loopw [3] (fun i wr => ∃ k : Nat, k ≤ zs.length ∧ i = .int .i64 ((zs.length : Int) - 1 - k) ∧ J (downF zs.length k) wr ∧ KeepOn S W wr)
    (fun i _ => (intOf i + 1).toNat)
  case atStart => exact ⟨0, Nat.zero_le _, by rw [show (((0 : Nat) : Int)) = 0 from rfl, Int.sub_zero], h0, KeepOn.refl _ _⟩
  case round =>
    obtain ⟨k, hk, rfl, hJs, hnx⟩ := hrel
    have hbx : wr.cell? ⟨Bs, 0, none⟩ = some (.slice A zs.length cap) := (hnx.cell (i := 0) (j := none) hSB rfl).trans hBs
    by_cases hlt : k < zs.length
    · obtain ⟨fn, tmps, assign, body, hy, hR⟩ := hY _ ⟨zs.length - 1 - k, by omega⟩ wr hJs (by rw [downF_length (by omega)]; exact hlt)
      dsimp only at hy
      rw [show ((zs.length - 1 - k : Nat) : Int) = (zs.length : Int) - 1 - k by omega] at hy
      obtain ⟨i, hi⟩ : ∃ i : Int, (zs.length : Int) - 1 - k = i := ⟨_, rfl⟩
      rw [hi] at hy ⊢
      have p1 : 0 ≤ i := by omega
      have q1 : i < (zs.length : Int) := by omega
      obtain ⟨ad, e1, hx⟩ := Kd.at_int (hc wr hnx) i p1 q1
      cases e1
      have c1 : decide (0 ≤ i) = true := decide_eq_true p1
      have p2 := eq_true p1
      have q2 := eq_true q1
      gi_wp2
      refine hR.mono ?_
      rintro e W3 (⟨rfl, hJ3, hk3⟩ | ⟨rfl, hJx3⟩)
      · gi_wp2
        go_roundw
        case rel => exact ⟨k + 1, by omega, by rw [← hi]; simp [Int.sub_sub]; omega, by rw [downF_succ hlt]; exact hJ3, hnx.trans hk3⟩
        case measure => simp [intOf]; omega
      · gi_wp2
        refine bodyPost_ret (results_none rfl _ _ _) rfl ?_
        exact ⟨⟨_, rfl⟩, .inr ⟨_, ⟨k + 1, by omega, (downF_succ hlt).symm⟩, hJx3⟩⟩
    · obtain rfl : k = zs.length := by omega
      have c1 : decide (0 ≤ (zs.length : Int) - 1 - (zs.length : Int)) = false := decide_eq_false (by omega)
      gi_wp2
      go_end0
      exact ⟨⟨_, rfl⟩, .inl ⟨_, rfl, hJs⟩⟩
set_option maxHeartbeats 1000000 in
theorem backward_in (F : Fence) (n : Nat) (hF : F.fn 53) (hro : F.round = none) (a : Option Addr) (len cap : Nat) (w : World) :
    CallsIn F n Try.prog 53 #[.slice a len cap] w fun e w' => e = .returned (.func (.func 87) #[] #[.pointer (some ⟨w.heap.size, 0, none⟩)]) ∧ w' = w.alloc (.cells #[.slice a len cap] 22) := by
  refine callsIn_of_wp Try.func53 rfl hF ?_ hro
  simp only [Try.ntmps53, List.size_toArray, List.length_cons, List.length_nil, Nat.reduceAdd, Nat.reduceSub, Array.replicate_succ, Array.replicate_zero, List.push_toArray, List.append_toArray, List.nil_append, List.cons_append]
  gi_wp2
  go_ret
  exact ⟨rfl, rfl⟩
theorem backward_stops (F : Fence) (n : Nat) (hF : F.fn 87) (hro : F.round = none) (hn : 1 ≤ n) (Bs : Nat) (S : Nat → Prop) (A : Option Addr) (cap len : Nat) (zs : List Int) (hzl : zs.length = len) (hlen : zs.length ≤ 35184372088832) (w : World)
    (hS : ∀ k, S k → k < w.heap.size) (hSB : S Bs) (hBs : w.cell? ⟨Bs, 0, none⟩ = some (.slice A len cap)) (hc : ∀ W', KeepOn S w W' → Kd.C (Kd.int .u64) W' A zs.length zs) :
    SeqStopsK F n Try.prog 87 #[.pointer (some ⟨Bs, 0, none⟩)] (fun x : Fin len => #[Value.int .i64 ((x.1 : Nat) : Int), Value.int .u64 (rd zs ((x.1 : Nat) : Int))]) (KeepOn S) (fun ys => ys = downF len len)
      (fun pre => ∃ k, k ≤ len ∧ pre = downF len k) len w := fun l J Jx W hW _ _ hY h0 => by
  subst hzl
  have hk := KeepOn.of_below hS hW
  exact back1_in F n hF hro hn l Bs S A cap zs hlen J Jx hY W hSB ((hk.cell (i := 0) (j := none) hSB rfl).trans hBs) (fun W' h => hc W' (hk.trans h)) h0
end Go.Proofs.Ytjbpchebabhoeaa.X
end
section
set_option linter.unusedVariables false
set_option linter.unusedSimpArgs false
namespace Go.Proofs.Ytjbpchebabhoeaa.X
open Go.RowKit Go.Proofs.YtjbpchebabhoeaaW.PrintWords Go.Proofs.YtjbpchebabhoeaaW.PrintLast Go.Proofs.YtjbpchebabhoeaaW.PrintMore
def noDefer (ops : Array Oper) : Bool := ops.toList.all fun o => match o.op with
  | .defer _ => false
  | _ => true
theorem noDefer_spec {ops : Array Oper} (h : noDefer ops = true) (i : Nat) (o : Oper) (hi : ops[i]? = some o) : ∀ c, o.op ≠ .defer c := by
  intro c hc
  have hm : o ∈ ops.toList := by
    rw [← Array.getElem?_toList] at hi
    exact List.mem_of_getElem? hi
  have := List.all_eq_true.1 h o hm
  rw [hc] at this
  cases this
def OnlyN (Q : Exit → Act → World → Prop) : Exit → Act → World → Prop
  | .normal, a, w => Q .normal a w
  | _, _, _ => False
section
variable {P : Program} {l n : Nat} {ops : Array Oper} {Q : Exit → Act → World → Prop}
theorem rows_round {row : String} {args : Array Value} {w : World} {R R' : Value → World → Prop} (hR : ∀ v w, R v w → R' v w) (h : Rows P row args w R) : RowsIn (Fence.wide.inRound l) n P row args w R' := fun c cs _ => by
  obtain ⟨v, w', r, s⟩ := h c cs
  exact ⟨v, w', hR _ _ r, stepsIn_wide.2 s⟩
theorem upon_round {o : Oper} {a : Act} {K K' : Act → World → Prop} (hK : ∀ a w, K a w → K' a w) : ∀ {R : Result Next} (h : o.upon P a K (OnlyN Q) R), o.uponIn (Fence.wide.inRound l) n P a K' Q R
  | .ok (.value v) w', h => hK _ _ h
  | .ok .skip w', h => hK _ _ h
  | .ok (.defer d) w', h => hK _ _ h
  | .ok (.enter f args) w', h => by
    refine ⟨fun h0 => (by cases h0), CallsIn.inRound l (callsIn_wide.2 (Calls.mono h fun e w' he => ?_))⟩
    cases e with
    | returned v => exact hK _ _ he
    | panicked c => exact he.elim
    | outgrown => obtain ⟨a2, w2, h2⟩ := he; exact h2.elim
  | .ok (.row row args) w', h => ⟨fun h0 => (by cases h0), rows_round (fun v w h => hK _ _ h) h⟩
  | .ok (.round l f tmps assign body) w', h => h.elim
  | .halt (.panic v) w', h => h.elim
theorem wpOp_round (hnd : noDefer ops = true) {i : Nat} {K K' : Act → World → Prop} (hK : ∀ a w, K a w → K' a w) {a : Act} {w : World} (h : wpOp P ops (OnlyN Q) i K a w) : wpOpIn (Fence.wide.inRound l) n P ops Q i K' a w := by
  unfold wpOp at h
  unfold wpOpIn
  cases hi : ops[i]? with
  | none => rw [hi] at h; exact hK _ _ h
  | some o =>
    rw [hi] at h
    simp only at h ⊢
    by_cases hw : Region.wanted o (yielded ops a.tmps) = true
    · rw [if_pos hw] at h ⊢
      refine ⟨fun _ _ => trivial, ?_⟩
      rw [show (Fence.wide.inRound l).round = some l from rfl, Oper.semAt_eq _ _ _ (noDefer_spec hnd i o hi)]
      rcases h with h | ⟨_, a2, w2, h2⟩
      · exact upon_round hK h
      · exact h2.elim
    · rw [if_neg hw] at h ⊢
      exact ⟨fun _ _ => trivial, hK _ _ h⟩
theorem any_round (hnd : noDefer ops = true) {md : Region.Mode} : ∀ (fuel : Nat) (listed : Array Bool) (a : Act) (w : World), wpAny P md ops (OnlyN Q) fuel listed a w → wpAnyIn (Fence.wide.inRound l) n P md ops Q fuel listed a w
  | 0, _, _, _, h => h
  | fuel + 1, _, _, _, h => ⟨h.1, fun i hi => wpOp_round hnd (fun a' w' h' => any_round hnd fuel _ a' w' h') (h.2 i hi)⟩
theorem startR_ {S : World → Prop} {ds : List Nat} {id N : Nat} {a : Act} {w : World} (L : Array Bool) (hm : P.follows .mixedOrders = true) (hnd : noDefer ops = true) (hn : ops.size = N) (hl : Array.replicate N false = L) (hS : S w.drew)
    (h : S w.drew → wpAnyLast P .any ops (OnlyN Q) S ds N L a w.drew) : (Code.region id ops true).wpIn (Fence.wide.inRound l) n P Q a w := by
  subst hn
  subst hl
  exact wpIn_region_any hm (any_round hnd _ _ _ _ (wpAny_of_last _ _ _ _ (h hS)))
theorem OnlyN.imp : ∀ (e : Exit) (a : Act) (w : World), OnlyN Q e a w → Q e a w
  | .normal, _, _, h => h
  | .ret, _, _, h => h.elim
  | .exit _, _, _, h => h.elim
  | .goto _, _, _, h => h.elim
  | .panic _, _, _, h => h.elim
  | .outgrown, _, _, h => h.elim
theorem onlyN {a : Act} {w : World} (h : Q .normal a w) : OnlyN Q .normal a w := h
end
end Go.Proofs.Ytjbpchebabhoeaa.X
end
section
namespace Go.Proofs.Ytjbpchebabhoeaa.Dg
def val (b : Nat) : List Int → Nat
  | [] => 0
  | x :: xs => x.toNat + b * val b xs
def Wf (b : Nat) (xs : List Int) : Prop := ∀ x ∈ xs, 0 ≤ x ∧ x < (b : Int)
def digs (b : Nat) (n : Nat) : List Int :=
  if _h : n = 0 ∨ b ≤ 1 then [] else ((n % b : Nat) : Int) :: digs b (n / b)
termination_by n
decreasing_by exact Nat.div_lt_self (by omega) (by omega)
theorem digs_zero (b : Nat) : digs b 0 = [] := by rw [digs]; simp
theorem digs_pos {b n : Nat} (hb : 1 < b) (hn : 0 < n) : digs b n = ((n % b : Nat) : Int) :: digs b (n / b) := by
  rw [digs, dif_neg (by omega)]
theorem val_digs {b : Nat} (hb : 1 < b) : ∀ n : Nat, val b (digs b n) = n := by
  intro n
  induction n using Nat.strongRecOn with
  | _ n ih =>
    rcases Nat.eq_zero_or_pos n with rfl | hn
    · rw [digs_zero]; rfl
    · rw [digs_pos hb hn]
      simp only [val]
      rw [ih (n / b) (Nat.div_lt_self hn hb)]
      have := Nat.mod_add_div n b
      omega
theorem wf_digs {b : Nat} (hb : 1 < b) : ∀ n : Nat, Wf b (digs b n) := by
  intro n
  induction n using Nat.strongRecOn with
  | _ n ih =>
    rcases Nat.eq_zero_or_pos n with rfl | hn
    · rw [digs_zero]; intro x hx; cases hx
    · rw [digs_pos hb hn]
      intro x hx
      rcases List.mem_cons.1 hx with rfl | hx
      · have := Nat.mod_lt n (show b > 0 by omega)
        omega
      · exact ih _ (Nat.div_lt_self hn hb) x hx
theorem Wf.nil (b : Nat) : Wf b [] := fun x hx => by cases hx
theorem Wf.cons {b : Nat} {x : Int} {xs : List Int} (h0 : 0 ≤ x) (h1 : x < b) (h : Wf b xs) : Wf b (x :: xs) := by
  intro y hy
  rcases List.mem_cons.1 hy with rfl | hy
  · exact ⟨h0, h1⟩
  · exact h y hy
theorem Wf.head {b : Nat} {x : Int} {xs : List Int} (h : Wf b (x :: xs)) : 0 ≤ x ∧ x < b := h x (by simp)
theorem Wf.tail {b : Nat} {x : Int} {xs : List Int} (h : Wf b (x :: xs)) : Wf b xs := fun y hy => h y (by simp [hy])
theorem Wf.append {b : Nat} {xs ys : List Int} (h : Wf b xs) (k : Wf b ys) : Wf b (xs ++ ys) := by
  intro y hy
  rcases List.mem_append.1 hy with hy | hy
  · exact h y hy
  · exact k y hy
theorem Wf.right {b : Nat} {xs ys : List Int} (h : Wf b (xs ++ ys)) : Wf b ys := fun y hy => h y (by simp [hy])
theorem Wf.take {b : Nat} {xs : List Int} (h : Wf b xs) (n : Nat) : Wf b (xs.take n) := fun y hy => h y (List.mem_of_mem_take hy)
theorem Wf.drop {b : Nat} {xs : List Int} (h : Wf b xs) (n : Nat) : Wf b (xs.drop n) := fun y hy => h y (List.mem_of_mem_drop hy)
theorem Wf.zeros {b : Nat} (hb : 0 < b) (n : Nat) : Wf b (List.replicate n 0) := by
  intro y hy
  rw [List.eq_of_mem_replicate hy]
  omega
theorem Wf.set {b : Nat} {xs : List Int} (h : Wf b xs) (i : Nat) {y : Int} (h0 : 0 ≤ y) (h1 : y < b) : Wf b (xs.set i y) := by
  intro z hz
  rcases List.mem_or_eq_of_mem_set hz with hz | rfl
  · exact h z hz
  · exact ⟨h0, h1⟩
theorem Wf.getD {b : Nat} {xs : List Int} (hb : 0 < b) (h : Wf b xs) (i : Nat) : 0 ≤ xs.getD i 0 ∧ xs.getD i 0 < b := by
  rw [List.getD_eq_getElem?_getD]
  by_cases hi : i < xs.length
  · rw [List.getElem?_eq_getElem hi]
    exact h _ (List.getElem_mem hi)
  · rw [List.getElem?_eq_none (by omega)]
    simp
    omega
theorem val_nil (b : Nat) : val b [] = 0 := rfl
theorem val_cons (b : Nat) (x : Int) (xs : List Int) : val b (x :: xs) = x.toNat + b * val b xs := rfl
theorem val_append (b : Nat) (xs ys : List Int) : val b (xs ++ ys) = val b xs + b ^ xs.length * val b ys := by
  induction xs with
  | nil => simp [val]
  | cons x xs ih =>
    simp only [List.cons_append, val, List.length_cons, ih]
    rw [Nat.mul_add, Nat.pow_succ, ← Nat.mul_assoc, Nat.mul_comm (b ^ xs.length) b]
    omega
theorem val_zeros (b n : Nat) : val b (List.replicate n 0) = 0 := by
  induction n with
  | zero => rfl
  | succ n ih => simp [List.replicate_succ, val, ih]
theorem val_lt {b : Nat} {xs : List Int} (h : Wf b xs) : val b xs < b ^ xs.length := by
  induction xs with
  | nil => simp [val]
  | cons x xs ih =>
    have := ih h.tail
    have h1 := h.head
    simp only [val, List.length_cons]
    rw [Nat.pow_succ, Nat.mul_comm (b ^ xs.length) b]
    have h2 : b * (val b xs + 1) ≤ b * b ^ xs.length := Nat.mul_le_mul_left b this
    rw [Nat.mul_add] at h2
    omega
theorem digs_val {b : Nat} (hb : 1 < b) : ∀ {xs : List Int}, Wf b xs → (xs ≠ [] → 0 < xs.getD (xs.length - 1) 0) → digs b (val b xs) = xs := by
  intro xs
  induction xs with
  | nil => intro _ _; simp [val, digs_zero]
  | cons x xs ih =>
    intro h hl
    have h1 := h.head
    have hpos : 0 < val b (x :: xs) := by
      rcases Nat.eq_zero_or_pos (val b (x :: xs)) with h0 | h0
      · exfalso
        have hl' := hl (by simp)
        have key : ∀ (ys : List Int), Wf b ys → val b ys = 0 → ∀ i, ys.getD i 0 = 0 := by
          intro ys
          induction ys with
          | nil => intro _ _ i; simp
          | cons y ys ihy =>
            intro hy h0 i
            simp only [val] at h0
            have hy1 := hy.head
            have h00 : val b ys = 0 := by
              rcases Nat.eq_zero_or_pos (val b ys) with h | h
              · exact h
              · have := Nat.mul_pos (show 0 < b by omega) h
                omega
            cases i with
            | zero => simp; omega
            | succ i => simpa using ihy hy.tail h00 i
        rw [key _ h h0] at hl'
        omega
      · exact h0
    rw [digs_pos hb hpos]
    simp only [val]
    have e1 : (x.toNat + b * val b xs) % b = x.toNat := by
      rw [Nat.add_mul_mod_self_left]
      exact Nat.mod_eq_of_lt (by omega)
    have e2 : (x.toNat + b * val b xs) / b = val b xs := by
      rw [Nat.add_mul_div_left _ _ (by omega), Nat.div_eq_of_lt (by omega)]
      omega
    rw [e1, e2, ih h.tail ?_]
    · congr 1
      omega
    · intro hne
      have := hl (by simp)
      cases xs with
      | nil => exact absurd rfl hne
      | cons y ys => simpa using this
theorem digs_last {b : Nat} (hb : 1 < b) : ∀ n : Nat, digs b n ≠ [] → 0 < (digs b n).getD ((digs b n).length - 1) 0 := by
  intro n
  induction n using Nat.strongRecOn with
  | _ n ih =>
    rcases Nat.eq_zero_or_pos n with rfl | hn
    · rw [digs_zero]; intro h; exact absurd rfl h
    · intro _
      rw [digs_pos hb hn]
      have hlt := Nat.div_lt_self hn hb
      by_cases h0 : n / b = 0
      · rw [h0, digs_zero]
        simp
        have := Nat.mod_add_div n b
        rw [h0] at this
        simp at this
        omega
      · have hq := Nat.pos_of_ne_zero h0
        have := ih (n / b) hlt (by rw [digs_pos hb hq]; simp)
        have hl : 0 < (digs b (n / b)).length := by rw [digs_pos hb hq]; simp
        rw [show ((n % b : Nat) : Int) :: digs b (n / b) = [((n % b : Nat) : Int)] ++ digs b (n / b) from rfl]
        rw [List.getD_eq_getElem?_getD] at this ⊢
        rw [List.getElem?_append_right (by simp; omega)]
        simpa using this
theorem val_take_zeros {b : Nat} {xs : List Int} {n : Nat} (h : ∀ i, n ≤ i → i < xs.length → xs.getD i 0 = 0) : val b (xs.take n) = val b xs := by
  have hz : ∀ (ys : List Int), (∀ i, i < ys.length → ys.getD i 0 = 0) → val b ys = 0 := by
    intro ys
    induction ys with
    | nil => intro _; rfl
    | cons y ys ih =>
      intro h
      have h0 := h 0 (by simp)
      simp at h0
      have := ih (fun i hi => by simpa using h (i + 1) (by simp; omega))
      simp [val, h0, this]
  by_cases hn : n ≤ xs.length
  · have e := val_append b (xs.take n) (xs.drop n)
    rw [List.take_append_drop] at e
    rw [e, hz (xs.drop n)]
    · simp
    · intro i hi
      simp at hi
      have := h (n + i) (by omega) (by omega)
      rw [List.getD_eq_getElem?_getD] at this ⊢
      rw [List.getElem?_drop]
      exact this
  · rw [List.take_of_length_le (by omega)]
theorem digs_length_le {b : Nat} (hb : 1 < b) : ∀ (k n : Nat), n < b ^ k → (digs b n).length ≤ k := by
  intro k
  induction k with
  | zero => intro n h; simp at h; subst h; rw [digs_zero]; simp
  | succ k ih =>
    intro n h
    rcases Nat.eq_zero_or_pos n with rfl | hn
    · rw [digs_zero]; simp
    · rw [digs_pos hb hn]
      have : n / b < b ^ k := by
        rw [Nat.div_lt_iff_lt_mul (by omega)]
        rwa [Nat.pow_succ] at h
      have := ih _ this
      simp
      omega
theorem le_of_digs_length {b : Nat} (hb : 1 < b) (n : Nat) : n < b ^ (digs b n).length := by
  have := val_lt (wf_digs hb n)
  rwa [val_digs hb] at this
theorem digs_inj {b : Nat} (hb : 1 < b) {n m : Nat} (h : digs b n = digs b m) : n = m := by
  have := congrArg (val b) h
  rwa [val_digs hb, val_digs hb] at this
theorem digs_eq_nil {b : Nat} (hb : 1 < b) {n : Nat} : digs b n = [] ↔ n = 0 := by
  constructor
  · intro h
    apply digs_inj hb
    rw [h, digs_zero]
  · rintro rfl
    exact digs_zero b
theorem val_drop (b : Nat) (l : List Int) (i : Nat) : val b (l.drop i) = (l.getD i 0).toNat + b * val b (l.drop (i + 1)) := by
  by_cases h : i < l.length
  · rw [List.drop_eq_getElem_cons h, val_cons, List.getD_eq_getElem?_getD, List.getElem?_eq_getElem h]
    rfl
  · rw [List.drop_eq_nil_of_le (by omega), List.drop_eq_nil_of_le (by omega), List.getD_eq_getElem?_getD, List.getElem?_eq_none (by omega)]
    rfl
theorem val_split (b : Nat) (l : List Int) (i : Nat) : val b l = val b (l.take i) + b ^ i * val b (l.drop i) := by
  by_cases h : i ≤ l.length
  · have e := val_append b (l.take i) (l.drop i)
    rw [List.take_append_drop, List.length_take, Nat.min_eq_left h] at e
    exact e
  · rw [List.take_of_length_le (by omega), List.drop_eq_nil_of_le (by omega), val_nil, Nat.mul_zero, Nat.add_zero]
theorem val_take_succ (b : Nat) (l : List Int) (i : Nat) : val b (l.take (i + 1)) = val b (l.take i) + b ^ i * (l.getD i 0).toNat := by
  by_cases h : i < l.length
  · rw [List.take_succ_eq_append_getElem h, val_append, List.length_take, Nat.min_eq_left (by omega), List.getD_eq_getElem?_getD, List.getElem?_eq_getElem h]
    simp [val]
  · rw [List.take_of_length_le (by omega), List.take_of_length_le (by omega), List.getD_eq_getElem?_getD, List.getElem?_eq_none (by omega)]
    simp
theorem val_set {b : Nat} {l : List Int} {i : Nat} (h : i < l.length) (x : Int) : val b (l.set i x) + b ^ i * (l.getD i 0).toNat = val b l + b ^ i * x.toNat := by
  induction l generalizing i with
  | nil => simp at h
  | cons y ys ih =>
    cases i with
    | zero => simp [val]; omega
    | succ i =>
      have := ih (i := i) (by simpa using h)
      have e : (y :: ys).getD (i + 1) 0 = ys.getD i 0 := by simp
      rw [e, List.set_cons_succ, val_cons, val_cons, Nat.pow_succ, Nat.mul_comm (b ^ i) b, Nat.mul_assoc, Nat.mul_assoc]
      have h2 := congrArg (b * ·) this
      simp only [Nat.mul_add] at h2
      omega
theorem getD_ge {l : List Int} {i : Nat} (h : l.length ≤ i) : l.getD i 0 = 0 := by
  rw [List.getD_eq_getElem?_getD, List.getElem?_eq_none h]; rfl
theorem digs_take {b : Nat} (hb : 1 < b) {l : List Int} (h : Wf b l) {i : Nat} (hi : i ≤ l.length) (hz : ∀ j, i ≤ j → j < l.length → l.getD j 0 = 0) (hl : i ≠ 0 → l.getD (i - 1) 0 ≠ 0) : digs b (val b l) = l.take i := by
  have e := val_take_zeros (b := b) hz
  rw [← e]
  apply digs_val hb (h.take i)
  intro hne
  have hi0 : i ≠ 0 := by rintro rfl; simp at hne
  have hlen : (l.take i).length = i := by rw [List.length_take, Nat.min_eq_left hi]
  rw [hlen]
  have h1 : (l.take i).getD (i - 1) 0 = l.getD (i - 1) 0 := by
    rw [List.getD_eq_getElem?_getD, List.getD_eq_getElem?_getD, List.getElem?_take_of_lt (by omega)]
  rw [h1]
  have h2 := h.getD (by omega) (i - 1)
  have h3 := hl hi0
  omega
theorem digs_len_mono {b : Nat} (hb : 1 < b) {n m : Nat} (h : n ≤ m) : (digs b n).length ≤ (digs b m).length :=
  digs_length_le hb _ _ (Nat.lt_of_le_of_lt h (le_of_digs_length hb m))
end Go.Proofs.Ytjbpchebabhoeaa.Dg
end
section
set_option linter.unusedVariables false
set_option linter.unusedSimpArgs false
namespace Go.Proofs.Ytjbpchebabhoeaa.Bt
open Go.RowKit Go.Proofs.YtjbpchebabhoeaaW.PrintWords
theorem w64 {x : Int} (h0 : -9223372036854775808 ≤ x) (h1 : x < 9223372036854775808) : wrap64 x = x := by unfold wrap64; omega
theorem u64 (x : Int) : IntKind.u64.wrap x = x % 18446744073709551616 := IntKind.wrap_u64 x
theorem u64_in {x : Int} (h0 : 0 ≤ x) (h1 : x < 18446744073709551616) : IntKind.u64.wrap x = x := by rw [u64]; omega
theorem and_mask (k : Nat) (hk : k ≤ 64) {x : Int} (h0 : 0 ≤ x) (h1 : x < 18446744073709551616) : bits .and .u64 x (((2 ^ k - 1 : Nat)) : Int) = x % ((2 ^ k : Nat) : Int) := by
  obtain ⟨n, rfl⟩ := Int.eq_ofNat_of_zero_le h0
  have hp : 2 ^ k ≤ 2 ^ 64 := Nat.pow_le_pow_right (by omega) hk
  rw [bits_and_u64_nat n (2 ^ k - 1) (by omega) (by omega), Nat.and_two_pow_sub_one_eq_mod]
  rfl
theorem and_m32 {x : Int} (h0 : 0 ≤ x) (h1 : x < 18446744073709551616) : bits .and .u64 x 4294967295 = x % 4294967296 := and_mask 32 (by omega) h0 h1
theorem or_add_nat (k a b : Nat) (hb : b < 2 ^ k) (h : 2 ^ k * a + b < 18446744073709551616) : bits .or .u64 ((2 ^ k * a : Nat) : Int) (b : Int) = ((2 ^ k * a + b : Nat) : Int) := by
  rw [bits_or_u64_nat _ _ (by omega) (by omega), Nat.two_pow_add_eq_or_of_lt hb]
theorem or_comm_nat (a b : Nat) (ha : a < 18446744073709551616) (hb : b < 18446744073709551616) : bits .or .u64 (a : Int) (b : Int) = bits .or .u64 (b : Int) (a : Int) := by
  rw [bits_or_u64_nat a b ha hb, bits_or_u64_nat b a hb ha, Nat.or_comm]
theorem shl_u64 {x n : Int} (hn0 : 0 ≤ n) (hn : n ≤ 64) : shl .u64 x n = (x * (2 ^ n.toNat : Nat)) % 18446744073709551616 := by
  unfold shl
  rw [Nat.min_eq_left (show n.toNat ≤ IntKind.u64.bits from by show n.toNat ≤ 64; omega), u64]
  rw [Int.natCast_pow]; rfl
theorem shr_u64 {x n : Int} (hn0 : 0 ≤ n) (hn : n ≤ 64) : shr .u64 x n = x / (2 ^ n.toNat : Nat) := by
  unfold shr
  rw [Nat.min_eq_left (show n.toNat ≤ IntKind.u64.bits from by show n.toNat ≤ 64; omega)]
  rw [Int.natCast_pow]; rfl
def blen (n : Nat) : Nat := if n = 0 then 0 else n.log2 + 1
theorem blen_zero : blen 0 = 0 := rfl
theorem blen_le {n k : Nat} (h : n < 2 ^ k) : blen n ≤ k := by
  unfold blen
  split
  · omega
  · rename_i h0
    have := (Nat.log2_lt h0).2 h
    omega
theorem lt_blen (n : Nat) : n < 2 ^ blen n := by
  unfold blen
  split
  · omega
  · exact Nat.lt_log2_self
theorem blen_ge {n : Nat} (h : 0 < n) : 2 ^ (blen n - 1) ≤ n := by
  unfold blen
  rw [if_neg (by omega)]
  simpa using Nat.log2_self_le (by omega)
theorem blen_pos {n : Nat} (h : 0 < n) : 0 < blen n := by unfold blen; rw [if_neg (by omega)]; omega
theorem blen_eq {n k : Nat} (h0 : 2 ^ k ≤ n) (h1 : n < 2 ^ (k + 1)) : blen n = k + 1 := by
  have a := blen_le h1
  have hp : 0 < n := Nat.lt_of_lt_of_le (Nat.two_pow_pos k) h0
  have b := lt_blen n
  have c : k < blen n := by
    have := Nat.lt_of_le_of_lt h0 b
    exact (Nat.pow_lt_pow_iff_right (by omega)).1 this
  omega
theorem bitLen_eq (n : Nat) (h : n < 18446744073709551616) : Lib.bitLen n = blen n := by
  rcases Nat.eq_zero_or_pos n with rfl | hp
  · rfl
  · have := Lib.bitLenAux_bounds 64 n (by omega) (by omega)
    unfold Lib.bitLen
    obtain ⟨m, hm⟩ : ∃ m, Lib.bitLenAux 64 n = m + 1 := ⟨Lib.bitLenAux 64 n - 1, by omega⟩
    rw [hm] at this ⊢
    simp at this
    exact (blen_eq this.1 this.2).symm
end Go.Proofs.Ytjbpchebabhoeaa.Bt
end
section
namespace Go.Proofs.Ytjbpchebabhoeaa.P
open Go.RowKit Go.Proofs.YtjbpchebabhoeaaW.PrintWords Go.Proofs.YtjbpchebabhoeaaW.PrintLast Go.Proofs.YtjbpchebabhoeaaW.PrintMore Go.Proofs.Ytjbpchebabhoeaa.X
attribute [local go_sem] max2_int min2_int max_two min_two max_three min_three max_four min_four
set_option linter.unusedVariables false
set_option linter.unusedSimpArgs false
def nat_size.l0 : Nat → List Int → Int → Option (Int)
  | 0, _, _ => none
  | k + 1, x0, x3 => if x3 > 0 then (if 0 ≤ (wrap64 (x3 - 1)) then (if (wrap64 (x3 - 1)) < (x0.length : Int) then (if (rd x0 (wrap64 (x3 - 1))) = 0 then (nat_size.l0 k x0 (wrap64 (x3 - 1))) else (some x3)) else (none)) else (none)) else (some x3)
def nat_size.f (k : Nat) (l0 : List Int) : Option (Int) := nat_size.l0 k l0 (l0.length : Int)
theorem nat_size.mono_l : ∀ k, (∀ y0 y1, LeO (nat_size.l0 k y0 y1) (nat_size.l0 (k + 1) y0 y1))
  | 0 => fun _ _ r h => by simp [nat_size.l0] at h
  | k + 1 => by
    have ih0 := nat_size.mono_l k
    · intro y0 y1
      unfold nat_size.l0
      repeat' first
      | (with_reducible exact ih0 _ _)
      | (with_reducible exact LeO.refl _)
      | (with_reducible exact LeO.none _)
      | (with_reducible refine LeO.ite ?_ ?_)
      | (with_reducible refine LeO.bind ?_ (fun _ => ?_))
      | exact ih0 _ _
      | exact LeO.none _
      | refine LeO.ite ?_ ?_
      | refine LeO.bind ?_ (fun _ => ?_)
theorem nat_size.mono : ∀ a0 k, LeO (nat_size.f k a0) (nat_size.f (k + 1) a0) := by
  intro a0 k
  have ih0 := nat_size.mono_l k
  unfold nat_size.f
  repeat' first
      | (with_reducible exact ih0 _ _)
      | (with_reducible exact LeO.refl _)
      | (with_reducible exact LeO.none _)
      | (with_reducible refine LeO.ite ?_ ?_)
      | (with_reducible refine LeO.bind ?_ (fun _ => ?_))
      | exact ih0 _ _
      | exact LeO.none _
      | refine LeO.ite ?_ ?_
      | refine LeO.bind ?_ (fun _ => ?_)
set_option maxHeartbeats 8000000 in
set_option maxRecDepth 100000 in
theorem nat_size.calls (k : Nat) (A0 : Option Addr) (c0 : Nat) (l0 : List Int) (r : Int) (w : World) (hr0 : Kd.C (Kd.int .u64) w A0 l0.length l0) (hc0 : l0.length ≤ c0) (h : nat_size.f k l0 = some r) :
    Calls Try.prog 56 #[.slice A0 l0.length c0] w fun e w' => e = .returned (.int .i64 r) ∧ Drawn0 w w' := by
  have HR0 := Aside0.mk hr0
  have HC0 := Aside0.mk hc0
  clear hr0 hc0
  have H : (nat_size.l0 k l0 (l0.length : Int)) = some r := h
  clear h
  have H' := Aside0.mk H
  clear H
  go_enter Try.func56, Try.ntmps56
  go_wp2
  go_loopg [3] k (fun kq v3 w' => ∃ (x3_1 : Int), v3 = .int .i64 x3_1 ∧ Aside0 (nat_size.l0 kq l0 x3_1 = some r) ∧ Aside0 (kq ≤ k) ∧ Drawn0 w w')
  case atStart => exact ⟨((l0.length : Int)), (by first | rfl | (simp; done) | (simp [*]; done)), H', ⟨Nat.le_refl _⟩, by repeat (first | exact Drawn0.refl _ | apply Drawn0.step)⟩
  case round =>
    clear H'
    obtain ⟨x3_1, rfl, HA, HK1, ⟨m1, rfl⟩⟩ := hrel
    cases gk with
    | zero => exact absurd HA.out (by simp [nat_size.l0])
    | succ k1 =>
      have H := HA.out
      clear HA
      simp only [nat_size.l0] at H
      by_cases c2 : x3_1 > 0
      · rw [if_pos c2] at H
        have c2b0 : decide (0 < x3_1) = true := decide_eq_true c2
        clear c2
        obtain ⟨ji3, hji3⟩ : ∃ j_ : Int, (wrap64 (x3_1 - 1)) = j_ := ⟨_, rfl⟩
        replace H : (if 0 ≤ (ji3) then (if (ji3) < (l0.length : Int) then (if (rd l0 (ji3)) = 0 then (nat_size.l0 k1 l0 ji3) else (some x3_1)) else (none)) else (none)) = some r := by first | (rw [hji3] at H; exact H) | (simp only [hji3] at H ⊢; exact H)
        have hji3w : (IntKind.i64.wrap (x3_1 - 1)) = ji3 := (i64_w _).trans hji3
        by_cases c4 : 0 ≤ (ji3)
        · rw [if_pos c4] at H
          have c4b0 : decide (0 ≤ (ji3)) = true := decide_eq_true c4
          clear c4
          by_cases c5 : (ji3) < (l0.length : Int)
          · rw [if_pos c5] at H
            have c5b0 : decide ((ji3) < (l0.length : Int)) = true := decide_eq_true c5
            clear c5
            by_cases c6 : (rd l0 (ji3)) = 0
            · rw [if_pos c6] at H
              have c6b0 : ((rd l0 (ji3)) == 0) = true := beq_iff_eq.mpr c6
              have c6b1 : ((rd l0 (ji3)) != 0) = false := bne_eq_false_iff_eq.mpr c6
              clear c6
              have H' := Aside0.mk H
              clear H
              have p101 : 0 ≤ ((ji3) : Int) := of_decide_eq_true as_
              have q101 : (ji3) < (l0.length : Int) := of_decide_eq_true as_
              obtain ⟨ad101, e101, hx101_0⟩ := Kd.at_int HR0.out (ji3) p101 q101
              cases e101
              replace p101 := eq_true p101
              replace q101 := eq_true q101
              (try (have q101n := q101; simp only [Int.ofNat_lt] at q101n))
              (try (have q101d := q101; simp only [List.length_drop] at q101d))
              go_wp2
              go_roundg k1
              case measure => have := HK1.out; omega
              case rel => exact ⟨(ji3), (by first | rfl | (simp; done) | (simp only [← hji3] <;> (first | rfl | simp)) | (simp [*]; done)), H', ⟨by have := HK1.out; omega⟩, by repeat (first | exact Drawn0.refl _ | apply Drawn0.step)⟩
            · rw [if_neg c6] at H
              have c6b0 : ((rd l0 (ji3)) == 0) = false := beq_eq_false_iff_ne.mpr c6
              have c6b1 : ((rd l0 (ji3)) != 0) = true := bne_iff_ne.mpr c6
              obtain rfl := Option.some.inj H
              have p101 : 0 ≤ ((ji3) : Int) := of_decide_eq_true as_
              have q101 : (ji3) < (l0.length : Int) := of_decide_eq_true as_
              obtain ⟨ad101, e101, hx101_0⟩ := Kd.at_int HR0.out (ji3) p101 q101
              cases e101
              replace p101 := eq_true p101
              replace q101 := eq_true q101
              (try (have q101n := q101; simp only [Int.ofNat_lt] at q101n))
              (try (have q101d := q101; simp only [List.length_drop] at q101d))
              go_wp2
              go_ret
              exact ⟨by first | rfl | (simp; done) | (simp only [← hji3] <;> (first | rfl | simp)) | (simp [*]; done), by repeat (first | exact Drawn0.refl _ | apply Drawn0.step)⟩
          · rw [if_neg c5] at H
            exact absurd H (by simp)
        · rw [if_neg c4] at H
          exact absurd H (by simp)
      · rw [if_neg c2] at H
        have c2b0 : decide (0 < x3_1) = false := decide_eq_false c2
        clear c2
        obtain rfl := Option.some.inj H
        go_wp2
        go_ret
        exact ⟨by first | rfl | (simp; done) | (simp [*]; done), by repeat (first | exact Drawn0.refl _ | apply Drawn0.step)⟩
def nat_order.f (a0 : Bool) : Option (Int) := if a0 = true then (some (-1)) else (some 1)
set_option maxHeartbeats 8000000 in
set_option maxRecDepth 100000 in
theorem nat_order.calls (a0 : Bool) (r : Int) (w : World) (h : nat_order.f a0 = some r) :
    Calls Try.prog 62 #[.bool a0] w fun e w' => e = .returned (.int .i64 r) ∧ Drawn0 w w' := by
  have H : (if a0 = true then (some (-1)) else (some 1)) = some r := h
  clear h
  by_cases c2 : a0 = true
  · subst c2
    have H1 : (some (-1)) = some r := by rw [if_pos rfl] at H; exact H
    clear H
    have H := H1
    clear H1
    obtain rfl := Option.some.inj H
    go_enter Try.func62, Try.ntmps62
    go_wp2
    go_ret
    exact ⟨by first | rfl | (simp; done) | (simp [*]; done), by repeat (first | exact Drawn0.refl _ | apply Drawn0.step)⟩
  · replace c2 := Bool.eq_false_iff.mpr c2
    subst c2
    have H1 : (some 1) = some r := by rw [if_neg (show ¬ (false = true) by decide)] at H; exact H
    clear H
    have H := H1
    clear H1
    obtain rfl := Option.some.inj H
    go_enter Try.func62, Try.ntmps62
    go_wp2
    go_ret
    exact ⟨by first | rfl | (simp; done) | (simp [*]; done), by repeat (first | exact Drawn0.refl _ | apply Drawn0.step)⟩
end Go.Proofs.Ytjbpchebabhoeaa.P
end
section
set_option linter.unusedVariables false
set_option linter.unusedSimpArgs false
namespace Go.Proofs.Ytjbpchebabhoeaa.X
open Go.RowKit Go.Shelf Go.Proofs.Ytjbpchebabhoeaa.P Go.Proofs.YtjbpchebabhoeaaW.PrintWords Go.Proofs.YtjbpchebabhoeaaW.PrintLast Go.Proofs.YtjbpchebabhoeaaW.PrintMore
attribute [local go_sem] Oper.semAt_some
def szAt (l : List Int) : Nat → Nat
  | 0 => 0
  | k + 1 => if rd l (k : Int) = 0 then szAt l k else k + 1
def cmpAt (a b : List Int) : Nat → Int
  | 0 => 0
  | k + 1 => if rd a (k : Int) = rd b (k : Int) then cmpAt a b k else if rd a (k : Int) < rd b (k : Int) then -1 else 1
theorem szAt_le (l : List Int) : ∀ k, szAt l k ≤ k
  | 0 => Nat.le_refl _
  | k + 1 => by
    simp only [szAt]
    split
    · have := szAt_le l k; omega
    · omega
theorem w64' {x : Int} (h0 : -9223372036854775808 ≤ x) (h1 : x < 9223372036854775808) : wrap64 x = x := by
  unfold wrap64
  omega
theorem size_loop {l : List Int} (hl : l.length ≤ 35184372088832) : ∀ (n k : Nat), n ≤ l.length → n < k → nat_size.l0 k l (n : Int) = some (szAt l n : Int) := by
  intro n
  induction n with
  | zero =>
    intro k hn hk
    obtain ⟨k, rfl⟩ : ∃ m, k = m + 1 := ⟨k - 1, by omega⟩
    simp only [nat_size.l0]
    rw [if_neg (by omega)]
    rfl
  | succ n ih =>
    intro k hn hk
    obtain ⟨k, rfl⟩ : ∃ m, k = m + 1 := ⟨k - 1, by omega⟩
    simp only [nat_size.l0]
    rw [if_pos (by omega), w64' (by omega) (by omega), show (((n + 1 : Nat) : Int) - 1) = (n : Int) by omega, if_pos (by omega), if_pos (by omega)]
    simp only [szAt]
    by_cases e : rd l (n : Int) = 0
    · rw [if_pos e, if_pos e]
      exact ih k (by omega) (by omega)
    · rw [if_neg e, if_neg e]
theorem size_f {l : List Int} (hl : l.length ≤ 35184372088832) {k : Nat} (hk : l.length < k) : nat_size.f k l = some (szAt l l.length : Int) := size_loop hl l.length k (Nat.le_refl _) hk
def nat_Cmp.f (l0 l1 : List Int) : Option (Int) := if l0.length ≤ 35184372088832 ∧ l1.length ≤ 35184372088832 then some (if szAt l0 l0.length = szAt l1 l1.length then cmpAt l0 l1 (szAt l0 l0.length) else if szAt l0 l0.length < szAt l1 l1.length then -1 else 1) else none
theorem cmpAt_zero {a b : List Int} : ∀ n : Nat, (∀ k : Nat, k < n → rd a (k : Int) = rd b (k : Int)) → cmpAt a b n = 0
  | 0, _ => rfl
  | n + 1, h => by
    simp only [cmpAt]
    rw [if_pos (h n (by omega))]
    exact cmpAt_zero n (fun k hk => h k (by omega))
theorem cmpAt_at {a b : List Int} {m : Nat} (hm : rd a (m : Int) ≠ rd b (m : Int)) : ∀ n : Nat, m < n → (∀ k : Nat, m < k → k < n → rd a (k : Int) = rd b (k : Int)) → cmpAt a b n = if rd a (m : Int) < rd b (m : Int) then -1 else 1
  | 0, h, _ => absurd h (by omega)
  | n + 1, h, he => by
    simp only [cmpAt]
    by_cases e : m = n
    · subst e
      rw [if_neg hm]
    · rw [if_pos (he n (by omega) (by omega))]
      exact cmpAt_at hm n (by omega) (fun k h1 h2 => he k h1 (by omega))
theorem downF_mem {n : Nat} (x : Fin n) : ∀ {k : Nat}, k ≤ n → n - k ≤ x.1 → x ∈ downF n k
  | 0, _, h => absurd x.2 (by omega)
  | k + 1, hk, h => by
    rw [downF_succ (by omega), List.mem_append, List.mem_singleton]
    by_cases e : x.1 = n - 1 - k
    · exact .inr (Fin.ext e)
    · exact .inl (downF_mem x (by omega) (by omega))
set_option maxRecDepth 100000 in
set_option maxHeartbeats 2000000 in
theorem nat_Cmp.calls (A0 : Option Addr) (c0 : Nat) (l0 : List Int) (A1 : Option Addr) (c1 : Nat) (l1 : List Int) (r : Int) (w : World) (hr0 : Kd.C (Kd.int .u64) w A0 l0.length l0) (hc0 : l0.length ≤ c0) (hr1 : Kd.C (Kd.int .u64) w A1 l1.length l1) (hc1 : l1.length ≤ c1) (h : nat_Cmp.f l0 l1 = some r) :
    Calls Try.prog 18 #[.slice A0 l0.length c0, .slice A1 l1.length c1] w fun e w' => e = .returned (.int .i64 r) ∧ Below w.heap.size w w' := by
  unfold nat_Cmp.f at h
  by_cases hlen : l0.length ≤ 35184372088832 ∧ l1.length ≤ 35184372088832
  case neg => rw [if_neg hlen] at h; cases h
  rw [if_pos hlen] at h
  obtain ⟨hlen0, hlen1⟩ := hlen
  have H := Option.some.inj h
  clear h
  have hs0 := size_f hlen0 (k := l0.length + 1) (by omega)
  have hs1 := size_f hlen1 (k := l1.length + 1) (by omega)
  have hz0 := szAt_le l0 l0.length
  have hz1 := szAt_le l1 l1.length
  revert H hs0 hs1 hz0 hz1
  generalize szAt l0 l0.length = s0
  generalize szAt l1 l1.length = s1
  intro H hs0 hs1 hz0 hz1
  have HR0 := Aside0.mk hr0
  have HR1 := Aside0.mk hr1
  have HS0 := Aside0.mk hs0
  have HS1 := Aside0.mk hs1
  have HH := Aside0.mk H
  clear hr0 hr1 hs0 hs1 H
  refine (callsIn_wide (n := 3)).1 ?_
  refine callsIn_of_wp_marks Try.func18 rfl trivial ?_ rfl
  simp only [Try.ntmps18, List.size_toArray, List.length_cons, List.length_nil, Nat.reduceAdd, Nat.reduceSub, Array.replicate_succ, Array.replicate_zero, List.push_toArray, List.append_toArray, List.nil_append, List.cons_append]
  by_cases hne : s0 = s1
  case neg =>
    have b1 : ((s0 : Int) != (s1 : Int)) = true := by simp; omega
    have ho : nat_order.f (decide (s0 < s1)) = some r := by
      rw [← HH.out, if_neg hne]
      unfold nat_order.f
      by_cases hlt : s0 < s1
      · simp [hlt]
      · simp [hlt]
    gi_wp2_with (first
      | (refine ⟨trivial, ?_⟩; gi_at_call 56; (with_reducible refine (callsIn_wide.2 (nat_size.calls _ A0 c0 l0 (s0 : Int) _ ?sa hc0 HS0.out)).mono ?_); (case sa => repeat (first | exact HR0.out | (with_reducible refine Kd.C_alloc ?_ _) | (with_reducible refine Kd.C_drewN ?_ _) | (with_reducible refine Kd.C_drew ?_))); rintro e w' ⟨rfl, ⟨m0, rfl⟩⟩)
      | (refine ⟨trivial, ?_⟩; gi_at_call 56; (with_reducible refine (callsIn_wide.2 (nat_size.calls _ A1 c1 l1 (s1 : Int) _ ?sa hc1 HS1.out)).mono ?_); (case sa => repeat (first | exact HR1.out | (with_reducible refine Kd.C_alloc ?_ _) | (with_reducible refine Kd.C_drewN ?_ _) | (with_reducible refine Kd.C_drew ?_))); rintro e w' ⟨rfl, ⟨m1, rfl⟩⟩)
      | (refine ⟨trivial, ?_⟩; gi_at_call 62; (with_reducible refine (callsIn_wide.2 (nat_order.calls _ r _ ho)).mono ?_); rintro e w' ⟨rfl, ⟨m3, rfl⟩⟩))
    have hb := blk_new ((w.alloc (Obj.cells #[Value.slice A0 l0.length c0] 22)).alloc (Obj.cells #[Value.slice A1 l1.length c1] 22)) (Obj.cells #[Value.int IntKind.i64 0] 3)
    rw [World.size_alloc, World.size_alloc] at hb
    have hcell := blk_cell (blk_set (blk_drewN hb (m0 + m1 + m3)) 0 (Value.int IntKind.i64 r)) 0
    refine ⟨_, ?_, rfl, ?_⟩
    · simp [results, Try.f18, go_sem, hcell]
    · exact (pw_below_drewN (below_alloc (below_alloc (below_alloc (Below.refl _ w) _) _) _) _).setCell (p := ⟨w.heap.size + 1 + 1, 0, none⟩) (by show w.heap.size ≤ w.heap.size + 1 + 1; omega) _
  case pos =>
    subst hne
    have b1 : ((s0 : Int) != (s0 : Int)) = false := by simp
    have b2 : ((s0 : Int) ≤ (l0.length : Int)) = True := eq_true (by omega)
    gi_wp2_with (first
      | (refine ⟨trivial, ?_⟩; gi_at_call 56; (with_reducible refine (callsIn_wide.2 (nat_size.calls _ A0 c0 l0 (s0 : Int) _ ?sa hc0 HS0.out)).mono ?_); (case sa => repeat (first | exact HR0.out | (with_reducible refine Kd.C_alloc ?_ _) | (with_reducible refine Kd.C_drewN ?_ _) | (with_reducible refine Kd.C_drew ?_))); rintro e w' ⟨rfl, ⟨m0, rfl⟩⟩)
      | (refine ⟨trivial, ?_⟩; gi_at_call 56; (with_reducible refine (callsIn_wide.2 (nat_size.calls _ A1 c1 l1 (s0 : Int) _ ?sa hc1 HS1.out)).mono ?_); (case sa => repeat (first | exact HR1.out | (with_reducible refine Kd.C_alloc ?_ _) | (with_reducible refine Kd.C_drewN ?_ _) | (with_reducible refine Kd.C_drew ?_))); rintro e w' ⟨rfl, ⟨m1, rfl⟩⟩)
      | (refine ⟨trivial, ?_⟩; gi_at_call 53; refine (backward_in Fence.wide _ trivial rfl _ _ _ _).mono ?_; rintro e w' ⟨rfl, rfl⟩))
    have hw3 := blk_new ((w.alloc (Obj.cells #[Value.slice A0 l0.length c0] 22)).alloc (Obj.cells #[Value.slice A1 l1.length c1] 22)) (Obj.cells #[Value.int IntKind.i64 0] 3)
    have hw2 := blk_alloc (blk_new (w.alloc (Obj.cells #[Value.slice A0 l0.length c0] 22)) (Obj.cells #[Value.slice A1 l1.length c1] 22)) (Obj.cells #[Value.int IntKind.i64 0] 3)
    have hw1 := blk_alloc (blk_alloc (blk_new w (Obj.cells #[Value.slice A0 l0.length c0] 22)) (Obj.cells #[Value.slice A1 l1.length c1] 22)) (Obj.cells #[Value.int IntKind.i64 0] 3)
    have hB0 := below_alloc (pw_below_drewN (below_alloc (below_alloc (below_alloc (Below.refl _ w) (Obj.cells #[Value.slice A0 l0.length c0] 22)) (Obj.cells #[Value.slice A1 l1.length c1] 22)) (Obj.cells #[Value.int IntKind.i64 0] 3)) (m0 + m1)) (Obj.cells #[Value.slice A0 s0 c0] 22)
    replace hw3 := blk_alloc (blk_drewN hw3 (m0 + m1)) (Obj.cells #[Value.slice A0 s0 c0] 22)
    replace hw2 := blk_alloc (blk_drewN hw2 (m0 + m1)) (Obj.cells #[Value.slice A0 s0 c0] 22)
    replace hw1 := blk_alloc (blk_drewN hw1 (m0 + m1)) (Obj.cells #[Value.slice A0 s0 c0] 22)
    have hw4 := blk_new ((((w.alloc (Obj.cells #[Value.slice A0 l0.length c0] 22)).alloc (Obj.cells #[Value.slice A1 l1.length c1] 22)).alloc (Obj.cells #[Value.int IntKind.i64 0] 3)).drewN (m0 + m1)) (Obj.cells #[Value.slice A0 s0 c0] 22)
    rw [World.size_alloc, World.size_alloc] at hw3
    rw [World.size_alloc] at hw2
    have hsz : (((((w.alloc (Obj.cells #[Value.slice A0 l0.length c0] 22)).alloc (Obj.cells #[Value.slice A1 l1.length c1] 22)).alloc (Obj.cells #[Value.int IntKind.i64 0] 3)).drewN (m0 + m1)).alloc (Obj.cells #[Value.slice A0 s0 c0] 22)).heap.size = w.heap.size + 4 := by
      simp [World.drewN]
    have hsz4 : ((((w.alloc (Obj.cells #[Value.slice A0 l0.length c0] 22)).alloc (Obj.cells #[Value.slice A1 l1.length c1] 22)).alloc (Obj.cells #[Value.int IntKind.i64 0] 3)).drewN (m0 + m1)).heap.size = w.heap.size + 1 + 1 + 1 := by
      simp [World.drewN]
    rw [hsz4] at hw4
    obtain ⟨W0, hW0⟩ : ∃ W0, (((((w.alloc (Obj.cells #[Value.slice A0 l0.length c0] 22)).alloc (Obj.cells #[Value.slice A1 l1.length c1] 22)).alloc (Obj.cells #[Value.int IntKind.i64 0] 3)).drewN (m0 + m1)).alloc (Obj.cells #[Value.slice A0 s0 c0] 22)) = W0 := ⟨_, rfl⟩
    rw [hW0] at hw1 hw2 hw3 hw4 hB0 hsz ⊢
    have hlz : (l0.take s0).length = s0 := by rw [List.length_take]; omega
    have hC0 : ∀ W', Below w.heap.size w W' → Kd.C (Kd.int .u64) W' A0 l0.length l0 := fun W' h => Kd.C_below HR0.out h
    have hC1 : ∀ W', Below w.heap.size w W' → Kd.C (Kd.int .u64) W' A1 l1.length l1 := fun W' h => Kd.C_below HR1.out h
    have hfr : ∀ W', KeepOn (fun k => k < W0.heap.size) W0 W' → ∀ ad, A0 = some ad → 0 < l0.length → True := fun _ _ _ _ _ => trivial
    have hCt : ∀ W', KeepOn (fun k => k < W0.heap.size) W0 W' → Kd.C (Kd.int .u64) W' A0 (l0.take s0).length (l0.take s0) := by
      intro W' hk
      have h1 := Kd.C_take (k := Kd.int .u64) (hC0 W0 hB0) (m := s0) hz0
      refine ⟨h1.1, h1.2.1, fun hn => ?_⟩
      obtain ⟨ad, e, hc⟩ := h1.2.2 hn
      refine ⟨ad, e, fun j p hj => ?_⟩
      obtain ⟨c, hc1, hc2, hc3⟩ := hc j p hj
      refine ⟨c, hc1, hc2, fun i u hu => ?_⟩
      have := hc3 i u hu
      rw [← this]
      exact hk.cell (i := 0) (j := none) (World.block_lt_of_cell? W0 _ this) rfl
    refine wpIn_rangeFunc_ownG rfl (by omega) (gf := 87) (lb := #[.pointer (some ⟨w.heap.size + 1 + 1 + 1, 0, none⟩)]) rfl trivial (enters_of Try.func87 (by kernel_rfl) rfl)
      (backward_stops Fence.wide (3 - 1) trivial rfl (by omega) (w.heap.size + 1 + 1 + 1) (fun k => k < W0.heap.size) A0 c0 s0 (l0.take s0) hlz (by omega) W0 (fun _ h => h) (by show w.heap.size + 1 + 1 + 1 < W0.heap.size; omega) (blk_cell hw4 0) hCt)
      (fun h k => h.trans k) (fun W l o o' hl _ _ _ => KeepOn.putObj (fun _ h => h) W l o' hl) (Below.refl _ _) (fun _ => rfl)
      (fun pre W => (∀ x ∈ pre, rd l0 ((x.1 : Nat) : Int) = rd l1 ((x.1 : Nat) : Int)) ∧ Below W0.heap.size W0 W)
      (fun c pre W => c = .ret ∧ (∃ ini last, pre = ini ++ [last] ∧ (∀ x ∈ ini, rd l0 ((x.1 : Nat) : Int) = rd l1 ((x.1 : Nat) : Int)) ∧ rd l0 ((last.1 : Nat) : Int) ≠ rd l1 ((last.1 : Nat) : Int) ∧ W.heap[w.heap.size + 1 + 1]? = some (.cells #[.int .i64 (if rd l0 ((last.1 : Nat) : Int) < rd l1 ((last.1 : Nat) : Int) then -1 else 1)] 3 (0, 0))) ∧ Below w.heap.size w W)
      ?hI ?hIx ⟨by simp, Below.refl _ _⟩
      (fun x => { tmps := #[Value.slice A0 l0.length c0, Value.slice A1 l1.length c1, Value.pointer (some ⟨w.heap.size, 0, none⟩), Value.pointer (some ⟨w.heap.size + 1, 0, none⟩), Value.pointer (some ⟨w.heap.size + 1 + 1, 0, none⟩), .int .i64 s0, .int .i64 s0, .int .i64 ((x.1 : Nat) : Int), Value.slice A0 l0.length c0, .int .i64 s0, Value.slice A1 l1.length c1, .int .i64 s0, .int .i64 s0, .int .i64 s0, .bool false, undef, undef, undef, undef, Value.slice A0 l0.length c0, .int .i64 s0, Value.slice A0 s0 c0, .func (.func 87) #[] #[.pointer (some ⟨w.heap.size + 1 + 1 + 1, 0, none⟩)], .int .i64 ((x.1 : Nat) : Int), .int .u64 (rd (l0.take s0) ((x.1 : Nat) : Int)), undef, undef, undef, undef, undef, undef, undef, undef, undef, undef, undef, undef, undef, undef, undef, undef, undef, undef, undef], defers := [] }) ?assign ?body ?done ?stop
    case hI => exact OwnFrom.and (ownFrom_pure _ _) (ownFrom_below (Nat.le_refl _) (Nat.le_refl _))
    case hIx =>
      rintro c pre X Y row ⟨rfl, ⟨ini, last, e1, e2, e3, e4⟩, hb⟩ hg hr
      refine ⟨rfl, ⟨ini, last, e1, e2, e3, ?_⟩, hb.grown hg hb.size (fun k e => by have := (hr k e).1; omega)⟩
      refine (hg.block _ (blk_lt e4) (fun e => ?_)).trans e4
      obtain ⟨_, o, ho, hn⟩ := hr _ e.symm
      rw [e4] at ho
      cases ho
      cases hn
    case assign =>
      intro l x W K hK
      gi_wp2
      exact hK
    case body =>
      rintro l pre x W ⟨he, hB⟩ _
      have hi := x.2
      obtain ⟨i, hxi⟩ : ∃ i : Int, ((x.1 : Nat) : Int) = i := ⟨_, rfl⟩
      have hBw : Below w.heap.size w W := hB0.trans (hB.mono hB0.size)
      have k1 := (hB.block _ (blk_lt hw1)).trans hw1
      have k2 := (hB.block _ (blk_lt hw2)).trans hw2
      have k3 := (hB.block _ (blk_lt hw3)).trans hw3
      have g1 := blk_cell k1 0
      have g2 := blk_cell k2 0
      have g3 := blk_cell k3 0
      have f3 := blk_frozen k3 0
      simp only [List.getElem?_toArray, List.getElem?_cons_zero] at g1 g2 g3
      have p0 : 0 ≤ i := by omega
      have q0 : i < (l0.length : Int) := by omega
      have q1 : i < (l1.length : Int) := by omega
      obtain ⟨ad0, e0, hx0⟩ := Kd.at_int (hC0 W hBw) i p0 q0
      obtain ⟨ad1, e1, hx1⟩ := Kd.at_int (hC1 W hBw) i p0 q1
      subst e0 e1
      rw [hxi]
      have hp0 := eq_true p0
      have hq0 := eq_true q0
      have hq1 := eq_true q1
      have hmx : Try.prog.follows .mixedOrders = true := by kernel_rfl
      by_cases hne : rd l0 i = rd l1 i
      · have b3 : (rd l0 i != rd l1 i) = false := bne_eq_false_iff_eq.mpr hne
        gi_wp2
        refine startR_ (N := 9) (S := fun w' => w'.cell? ⟨w.heap.size, 0, none⟩ = some (Value.slice (some ad0) l0.length c0) ∧ w'.cell? ⟨w.heap.size + 1, 0, none⟩ = some (Value.slice (some ad1) l1.length c1) ∧ w'.cell? (ad0.add i.toNat) = some (.int .u64 (rd l0 i)) ∧ w'.cell? (ad1.add i.toNat) = some (.int .u64 (rd l1 i))) (ds := []) #[false, false, false, false, false, false, false, false, false] hmx (by kernel_rfl) rfl rfl ⟨g1, g2, hx0, hx1⟩ (fun hHeld => ?_)
        refine take_ (i := 0) (N := (some 25)) (v := ?_) (a' := ?_) #[true, false, false, false, false, false, false, false, false] rfl rfl (by kernel_rfl) (fun _ _ _ h => h) (Or.inl ⟨by rfl, ?_⟩) hHeld ?_ ?_
        rotate_left
        · rintro w' ⟨s0_, s1_, s2_, s3_⟩
          go_simp
          with_reducible rfl
        rotate_left
        · simp only [Act.put, List.setIfInBounds_toArray, List.set_cons_zero, List.set_cons_succ, i64_w, i32_w]
          rfl
        refine pure_ (i := 1) (N := (some 26)) (v := ?_) (a' := ?_) #[true, true, false, false, false, false, false, false, false] rfl rfl (by kernel_rfl) (fun _ _ _ h => h) (Or.inl ⟨by rfl, ?_⟩) ?_ ?_
        rotate_left
        · intro w'
          go_simp
          with_reducible rfl
        rotate_left
        · simp only [Act.put, List.setIfInBounds_toArray, List.set_cons_zero, List.set_cons_succ, i64_w, i32_w]
          rfl
        refine pure_ (i := 2) (N := (some 27)) (v := ?_) (a' := ?_) #[true, true, true, false, false, false, false, false, false] rfl rfl (by kernel_rfl) (fun _ _ _ h => h) (Or.inl ⟨by rfl, ?_⟩) ?_ ?_
        rotate_left
        · intro w'
          go_simp
          with_reducible rfl
        rotate_left
        · simp only [Act.put, List.setIfInBounds_toArray, List.set_cons_zero, List.set_cons_succ, i64_w, i32_w]
          rfl
        refine take_ (i := 3) (N := (some 28)) (v := ?_) (a' := ?_) #[true, true, true, true, false, false, false, false, false] rfl rfl (by kernel_rfl) (fun _ _ _ h => h) (Or.inl ⟨by rfl, ?_⟩) hHeld ?_ ?_
        rotate_left
        · rintro w' ⟨s0_, s1_, s2_, s3_⟩
          go_simp
          with_reducible rfl
        rotate_left
        · simp only [Act.put, List.setIfInBounds_toArray, List.set_cons_zero, List.set_cons_succ, i64_w, i32_w]
          rfl
        refine take_ (i := 4) (N := (some 29)) (v := ?_) (a' := ?_) #[true, true, true, true, true, false, false, false, false] rfl rfl (by kernel_rfl) (fun _ _ _ h => h) (Or.inl ⟨by rfl, ?_⟩) hHeld ?_ ?_
        rotate_left
        · rintro w' ⟨s0_, s1_, s2_, s3_⟩
          go_simp
          with_reducible rfl
        rotate_left
        · simp only [Act.put, List.setIfInBounds_toArray, List.set_cons_zero, List.set_cons_succ, i64_w, i32_w]
          rfl
        refine pure_ (i := 5) (N := (some 30)) (v := ?_) (a' := ?_) #[true, true, true, true, true, true, false, false, false] rfl rfl (by kernel_rfl) (fun _ _ _ h => h) (Or.inl ⟨by rfl, ?_⟩) ?_ ?_
        rotate_left
        · intro w'
          go_simp
          with_reducible rfl
        rotate_left
        · simp only [Act.put, List.setIfInBounds_toArray, List.set_cons_zero, List.set_cons_succ, i64_w, i32_w]
          rfl
        refine pure_ (i := 6) (N := (some 31)) (v := ?_) (a' := ?_) #[true, true, true, true, true, true, true, false, false] rfl rfl (by kernel_rfl) (fun _ _ _ h => h) (Or.inl ⟨by rfl, ?_⟩) ?_ ?_
        rotate_left
        · intro w'
          go_simp
          with_reducible rfl
        rotate_left
        · simp only [Act.put, List.setIfInBounds_toArray, List.set_cons_zero, List.set_cons_succ, i64_w, i32_w]
          rfl
        refine take_ (i := 7) (N := (some 32)) (v := ?_) (a' := ?_) #[true, true, true, true, true, true, true, true, false] rfl rfl (by kernel_rfl) (fun _ _ _ h => h) (Or.inl ⟨by rfl, ?_⟩) hHeld ?_ ?_
        rotate_left
        · rintro w' ⟨s0_, s1_, s2_, s3_⟩
          go_simp
          with_reducible rfl
        rotate_left
        · simp only [Act.put, List.setIfInBounds_toArray, List.set_cons_zero, List.set_cons_succ, i64_w, i32_w]
          rfl
        refine pure_ (i := 8) (N := (some 33)) (v := ?_) (a' := ?_) #[true, true, true, true, true, true, true, true, true] rfl rfl (by kernel_rfl) (fun _ _ _ h => h) (Or.inl ⟨by rfl, ?_⟩) ?_ ?_
        rotate_left
        · intro w'
          go_simp
          with_reducible rfl
        rotate_left
        · simp only [Act.put, List.setIfInBounds_toArray, List.set_cons_zero, List.set_cons_succ, i64_w, i32_w]
          rfl
        refine done_ (by kernel_rfl) (onlyN ?_)
        gi_wp2
        refine ⟨⟨Nat.le_refl _, fun _ _ _ h _ => h⟩, fun _ _ => rfl, ?_, below_drew hB⟩
        intro y hy
        rcases List.mem_append.1 hy with hy | hy
        · exact he y hy
        · obtain rfl := List.mem_singleton.1 hy
          rw [hxi]
          exact hne
      · have b3 : (rd l0 i != rd l1 i) = true := bne_iff_ne.mpr hne
        gi_wp2
        refine startR_ (N := 9) (S := fun w' => w'.cell? ⟨w.heap.size, 0, none⟩ = some (Value.slice (some ad0) l0.length c0) ∧ w'.cell? ⟨w.heap.size + 1, 0, none⟩ = some (Value.slice (some ad1) l1.length c1) ∧ w'.cell? (ad0.add i.toNat) = some (.int .u64 (rd l0 i)) ∧ w'.cell? (ad1.add i.toNat) = some (.int .u64 (rd l1 i))) (ds := []) #[false, false, false, false, false, false, false, false, false] hmx (by kernel_rfl) rfl rfl ⟨g1, g2, hx0, hx1⟩ (fun hHeld => ?_)
        refine take_ (i := 0) (N := (some 25)) (v := ?_) (a' := ?_) #[true, false, false, false, false, false, false, false, false] rfl rfl (by kernel_rfl) (fun _ _ _ h => h) (Or.inl ⟨by rfl, ?_⟩) hHeld ?_ ?_
        rotate_left
        · rintro w' ⟨s0_, s1_, s2_, s3_⟩
          go_simp
          with_reducible rfl
        rotate_left
        · simp only [Act.put, List.setIfInBounds_toArray, List.set_cons_zero, List.set_cons_succ, i64_w, i32_w]
          rfl
        refine pure_ (i := 1) (N := (some 26)) (v := ?_) (a' := ?_) #[true, true, false, false, false, false, false, false, false] rfl rfl (by kernel_rfl) (fun _ _ _ h => h) (Or.inl ⟨by rfl, ?_⟩) ?_ ?_
        rotate_left
        · intro w'
          go_simp
          with_reducible rfl
        rotate_left
        · simp only [Act.put, List.setIfInBounds_toArray, List.set_cons_zero, List.set_cons_succ, i64_w, i32_w]
          rfl
        refine pure_ (i := 2) (N := (some 27)) (v := ?_) (a' := ?_) #[true, true, true, false, false, false, false, false, false] rfl rfl (by kernel_rfl) (fun _ _ _ h => h) (Or.inl ⟨by rfl, ?_⟩) ?_ ?_
        rotate_left
        · intro w'
          go_simp
          with_reducible rfl
        rotate_left
        · simp only [Act.put, List.setIfInBounds_toArray, List.set_cons_zero, List.set_cons_succ, i64_w, i32_w]
          rfl
        refine take_ (i := 3) (N := (some 28)) (v := ?_) (a' := ?_) #[true, true, true, true, false, false, false, false, false] rfl rfl (by kernel_rfl) (fun _ _ _ h => h) (Or.inl ⟨by rfl, ?_⟩) hHeld ?_ ?_
        rotate_left
        · rintro w' ⟨s0_, s1_, s2_, s3_⟩
          go_simp
          with_reducible rfl
        rotate_left
        · simp only [Act.put, List.setIfInBounds_toArray, List.set_cons_zero, List.set_cons_succ, i64_w, i32_w]
          rfl
        refine take_ (i := 4) (N := (some 29)) (v := ?_) (a' := ?_) #[true, true, true, true, true, false, false, false, false] rfl rfl (by kernel_rfl) (fun _ _ _ h => h) (Or.inl ⟨by rfl, ?_⟩) hHeld ?_ ?_
        rotate_left
        · rintro w' ⟨s0_, s1_, s2_, s3_⟩
          go_simp
          with_reducible rfl
        rotate_left
        · simp only [Act.put, List.setIfInBounds_toArray, List.set_cons_zero, List.set_cons_succ, i64_w, i32_w]
          rfl
        refine pure_ (i := 5) (N := (some 30)) (v := ?_) (a' := ?_) #[true, true, true, true, true, true, false, false, false] rfl rfl (by kernel_rfl) (fun _ _ _ h => h) (Or.inl ⟨by rfl, ?_⟩) ?_ ?_
        rotate_left
        · intro w'
          go_simp
          with_reducible rfl
        rotate_left
        · simp only [Act.put, List.setIfInBounds_toArray, List.set_cons_zero, List.set_cons_succ, i64_w, i32_w]
          rfl
        refine pure_ (i := 6) (N := (some 31)) (v := ?_) (a' := ?_) #[true, true, true, true, true, true, true, false, false] rfl rfl (by kernel_rfl) (fun _ _ _ h => h) (Or.inl ⟨by rfl, ?_⟩) ?_ ?_
        rotate_left
        · intro w'
          go_simp
          with_reducible rfl
        rotate_left
        · simp only [Act.put, List.setIfInBounds_toArray, List.set_cons_zero, List.set_cons_succ, i64_w, i32_w]
          rfl
        refine take_ (i := 7) (N := (some 32)) (v := ?_) (a' := ?_) #[true, true, true, true, true, true, true, true, false] rfl rfl (by kernel_rfl) (fun _ _ _ h => h) (Or.inl ⟨by rfl, ?_⟩) hHeld ?_ ?_
        rotate_left
        · rintro w' ⟨s0_, s1_, s2_, s3_⟩
          go_simp
          with_reducible rfl
        rotate_left
        · simp only [Act.put, List.setIfInBounds_toArray, List.set_cons_zero, List.set_cons_succ, i64_w, i32_w]
          rfl
        refine pure_ (i := 8) (N := (some 33)) (v := ?_) (a' := ?_) #[true, true, true, true, true, true, true, true, true] rfl rfl (by kernel_rfl) (fun _ _ _ h => h) (Or.inl ⟨by rfl, ?_⟩) ?_ ?_
        rotate_left
        · intro w'
          go_simp
          with_reducible rfl
        rotate_left
        · simp only [Act.put, List.setIfInBounds_toArray, List.set_cons_zero, List.set_cons_succ, i64_w, i32_w]
          rfl
        refine done_ (by kernel_rfl) (onlyN ?_)
        gi_wp2
        refine startR_ (N := 11) (S := fun w' => w'.cell? ⟨w.heap.size, 0, none⟩ = some (Value.slice (some ad0) l0.length c0) ∧ w'.cell? ⟨w.heap.size + 1, 0, none⟩ = some (Value.slice (some ad1) l1.length c1) ∧ w'.cell? (ad0.add i.toNat) = some (.int .u64 (rd l0 i)) ∧ w'.cell? (ad1.add i.toNat) = some (.int .u64 (rd l1 i))) (ds := [10]) #[false, false, false, false, false, false, false, false, false, false, false] hmx (by kernel_rfl) rfl rfl ⟨g1, g2, hx0, hx1⟩ (fun hHeld => ?_)
        refine take_ (i := 0) (N := (some 34)) (v := ?_) (a' := ?_) #[true, false, false, false, false, false, false, false, false, false, false] rfl rfl (by kernel_rfl) (fun _ _ _ h => h) (Or.inl ⟨by rfl, ?_⟩) hHeld ?_ ?_
        rotate_left
        · rintro w' ⟨s0_, s1_, s2_, s3_⟩
          go_simp
          with_reducible rfl
        rotate_left
        · simp only [Act.put, List.setIfInBounds_toArray, List.set_cons_zero, List.set_cons_succ, i64_w, i32_w]
          rfl
        refine pure_ (i := 1) (N := (some 35)) (v := ?_) (a' := ?_) #[true, true, false, false, false, false, false, false, false, false, false] rfl rfl (by kernel_rfl) (fun _ _ _ h => h) (Or.inl ⟨by rfl, ?_⟩) ?_ ?_
        rotate_left
        · intro w'
          go_simp
          with_reducible rfl
        rotate_left
        · simp only [Act.put, List.setIfInBounds_toArray, List.set_cons_zero, List.set_cons_succ, i64_w, i32_w]
          rfl
        refine pure_ (i := 2) (N := (some 36)) (v := ?_) (a' := ?_) #[true, true, true, false, false, false, false, false, false, false, false] rfl rfl (by kernel_rfl) (fun _ _ _ h => h) (Or.inl ⟨by rfl, ?_⟩) ?_ ?_
        rotate_left
        · intro w'
          go_simp
          with_reducible rfl
        rotate_left
        · simp only [Act.put, List.setIfInBounds_toArray, List.set_cons_zero, List.set_cons_succ, i64_w, i32_w]
          rfl
        refine take_ (i := 3) (N := (some 37)) (v := ?_) (a' := ?_) #[true, true, true, true, false, false, false, false, false, false, false] rfl rfl (by kernel_rfl) (fun _ _ _ h => h) (Or.inl ⟨by rfl, ?_⟩) hHeld ?_ ?_
        rotate_left
        · rintro w' ⟨s0_, s1_, s2_, s3_⟩
          go_simp
          with_reducible rfl
        rotate_left
        · simp only [Act.put, List.setIfInBounds_toArray, List.set_cons_zero, List.set_cons_succ, i64_w, i32_w]
          rfl
        refine take_ (i := 4) (N := (some 38)) (v := ?_) (a' := ?_) #[true, true, true, true, true, false, false, false, false, false, false] rfl rfl (by kernel_rfl) (fun _ _ _ h => h) (Or.inl ⟨by rfl, ?_⟩) hHeld ?_ ?_
        rotate_left
        · rintro w' ⟨s0_, s1_, s2_, s3_⟩
          go_simp
          with_reducible rfl
        rotate_left
        · simp only [Act.put, List.setIfInBounds_toArray, List.set_cons_zero, List.set_cons_succ, i64_w, i32_w]
          rfl
        refine pure_ (i := 5) (N := (some 39)) (v := ?_) (a' := ?_) #[true, true, true, true, true, true, false, false, false, false, false] rfl rfl (by kernel_rfl) (fun _ _ _ h => h) (Or.inl ⟨by rfl, ?_⟩) ?_ ?_
        rotate_left
        · intro w'
          go_simp
          with_reducible rfl
        rotate_left
        · simp only [Act.put, List.setIfInBounds_toArray, List.set_cons_zero, List.set_cons_succ, i64_w, i32_w]
          rfl
        refine pure_ (i := 6) (N := (some 40)) (v := ?_) (a' := ?_) #[true, true, true, true, true, true, true, false, false, false, false] rfl rfl (by kernel_rfl) (fun _ _ _ h => h) (Or.inl ⟨by rfl, ?_⟩) ?_ ?_
        rotate_left
        · intro w'
          go_simp
          with_reducible rfl
        rotate_left
        · simp only [Act.put, List.setIfInBounds_toArray, List.set_cons_zero, List.set_cons_succ, i64_w, i32_w]
          rfl
        refine take_ (i := 7) (N := (some 41)) (v := ?_) (a' := ?_) #[true, true, true, true, true, true, true, true, false, false, false] rfl rfl (by kernel_rfl) (fun _ _ _ h => h) (Or.inl ⟨by rfl, ?_⟩) hHeld ?_ ?_
        rotate_left
        · rintro w' ⟨s0_, s1_, s2_, s3_⟩
          go_simp
          with_reducible rfl
        rotate_left
        · simp only [Act.put, List.setIfInBounds_toArray, List.set_cons_zero, List.set_cons_succ, i64_w, i32_w]
          rfl
        refine pure_ (i := 8) (N := (some 42)) (v := ?_) (a' := ?_) #[true, true, true, true, true, true, true, true, true, false, false] rfl rfl (by kernel_rfl) (fun _ _ _ h => h) (Or.inl ⟨by rfl, ?_⟩) ?_ ?_
        rotate_left
        · intro w'
          go_simp
          with_reducible rfl
        rotate_left
        · simp only [Act.put, List.setIfInBounds_toArray, List.set_cons_zero, List.set_cons_succ, i64_w, i32_w]
          rfl
        have ho : nat_order.f (decide (rd l0 i < rd l1 i)) = some (if rd l0 i < rd l1 i then -1 else 1) := by
          unfold nat_order.f
          by_cases hlt : rd l0 i < rd l1 i
          · simp [hlt]
          · simp [hlt]
        obtain ⟨vv, hvv⟩ : ∃ vv : Int, (if rd l0 i < rd l1 i then -1 else 1) = vv := ⟨_, rfl⟩
        rw [hvv] at ho
        refine one_ (i := 9) (N := some 43) #[true, true, true, true, true, true, true, true, true, true, false] rfl rfl (by kernel_rfl) (by decide) (fun K hK => ?_)
        refine goes_ Try.func62 (by kernel_rfl) rfl #[.bool (decide (rd l0 i < rd l1 i))] (by rfl) rfl rfl ar_ ?_
        refine (nat_order.calls _ _ _ ho).mono ?_
        rintro e w' ⟨rfl, ⟨m3, rfl⟩⟩
        refine ⟨_, rfl, hK.out _ _ hHeld (fun hHeld => ?_)⟩
        clear hK K
        refine norm_ (a' := ?_) ?_ ?_
        rotate_left
        · simp only [Act.put, List.setIfInBounds_toArray, List.set_cons_zero, List.set_cons_succ, i64_w, i32_w]
          rfl
        refine last_ (i := 10) (N := none) #[true, true, true, true, true, true, true, true, true, true, true] rfl rfl (by kernel_rfl) (by decide) (fun K hK => ?_)
        have k3' := blk_drewN (blk_drew (blk_drew k3)) m3
        have g3' := blk_cell k3' 0
        have f3' := blk_frozen k3' 0
        simp only [List.getElem?_toArray, List.getElem?_cons_zero] at g3'
        refine skip_ (w1 := ?_) (by rfl) rfl ?_ ?_
        rotate_left
        · go_simp
          rfl
        refine hK.out _ _ ?_
        clear hK K
        refine done_ (by kernel_rfl) (onlyN ?_)
        gi_wp2
        refine ⟨?_, rfl, ⟨pre, x, rfl, he, ?_, ?_⟩, ?_⟩
        · exact ⟨by simp [World.drewN, World.drew], fun k o hk ho hn => (Below.heap_setCell _ _ _ k (by show k ≠ w.heap.size + 1 + 1; omega)).trans ho⟩
        · rw [hxi]; exact hne
        · rw [hxi, hvv]
          exact blk_set (blk_drewN k3 _) 0 _
        · exact (pw_below_drewN hBw _).setCell (p := ⟨w.heap.size + 1 + 1, 0, none⟩) (by show w.heap.size ≤ w.heap.size + 1 + 1; omega) _
    case done =>
      rintro D ys W hD rfl ⟨he, hB⟩ hK
      have hBw : Below w.heap.size w W := hB0.trans (hB.mono hB0.size)
      have k3 := (hB.block _ (blk_lt hw3)).trans hw3
      have g3 := blk_cell k3 0
      have f3 := blk_frozen k3 0
      simp only [List.getElem?_toArray, List.getElem?_cons_zero] at g3
      have hr0 := HH.out
      rw [if_true, cmpAt_zero s0 (fun k hk => he ⟨k, hk⟩ (downF_mem _ (Nat.le_refl _) (by omega)))] at hr0
      subst hr0
      gi_wp2
      have hK' := (KeepsOthers.setCell W ⟨w.heap.size + 1 + 1, 0, none⟩ (.int .i64 0)).same D _ hK rfl
      refine ⟨by simp, .inl ⟨_, _, rfl, run_takeDeferred hK', ?_⟩⟩
      have hc5 := cell_kept (blk_cell (blk_set k3 0 (.int .i64 0)) 0) (grownBy_putObj' _ D (.deferred none)) (fun r e => by cases e; exact ⟨_, hK', rfl⟩)
      refine ⟨.int .i64 0, ?_, rfl, (hBw.setCell (p := ⟨w.heap.size + 1 + 1, 0, none⟩) (by show w.heap.size ≤ w.heap.size + 1 + 1; omega) _).trans (belowK_b (w := w) (Nat.le_refl _) _ D _ _ (by omega) hK' rfl rfl)⟩
      simp [results, Try.f18, go_sem, hc5]
    case stop =>
      rintro D c pre W hD ⟨k, hk, rfl⟩ ⟨rfl, ⟨ini, last, e1, e2, e3, e4⟩, hBw⟩ hK
      obtain ⟨k, rfl⟩ : ∃ k', k = k' + 1 := by
        cases k with
        | zero => simp [downF] at e1
        | succ k' => exact ⟨k', rfl⟩
      rw [downF_succ (by omega)] at e1
      obtain ⟨rfl, e5⟩ := List.append_inj' e1 rfl
      have e6 : (⟨s0 - 1 - k, by omega⟩ : Fin s0) = last := by simpa using e5
      have hr0 := HH.out
      have e7 : last.1 = s0 - 1 - k := by rw [← e6]
      rw [if_true, cmpAt_at e3 s0 last.2 (fun j h1 h2 => e2 ⟨j, h2⟩ (downF_mem _ (by omega) (by simp only; omega)))] at hr0
      rw [hr0] at e4
      gi_wp2
      refine ⟨by simp, .inl ⟨_, _, rfl, run_takeDeferred hK, ?_⟩⟩
      have hc5 := cell_kept (blk_cell e4 0) (grownBy_putObj' _ D (.deferred none)) (fun r e => by cases e; exact ⟨_, hK, rfl⟩)
      refine ⟨.int .i64 r, ?_, rfl, hBw.trans (belowK_b (w := w) (Nat.le_refl _) _ D _ _ (by omega) hK rfl rfl)⟩
      simp [results, Try.f18, go_sem, hc5]
end Go.Proofs.Ytjbpchebabhoeaa.X
end
section
namespace Go.Proofs.Ytjbpchebabhoeaa.P
open Go.RowKit Go.Proofs.YtjbpchebabhoeaaW.PrintWords Go.Proofs.YtjbpchebabhoeaaW.PrintLast Go.Proofs.YtjbpchebabhoeaaW.PrintMore Go.Proofs.Ytjbpchebabhoeaa.X
attribute [local go_sem] max2_int min2_int max_two min_two max_three min_three max_four min_four
set_option linter.unusedVariables false
set_option linter.unusedSimpArgs false
def nat_Norm.l0 : Nat → List Int → Int → Option (List Int)
  | 0, _, _ => none
  | k + 1, x0, x3 => if x3 > 0 then (if 0 ≤ (wrap64 (x3 - 1)) then (if (wrap64 (x3 - 1)) < (x0.length : Int) then (if (rd x0 (wrap64 (x3 - 1))) = 0 then (nat_Norm.l0 k x0 (wrap64 (x3 - 1))) else (if 0 ≤ x3 then (if x3 ≤ (x0.length : Int) then ((slices_Clone_uint64_uint64.f (x0.take (x3 : Int).toNat)).bind fun t120 => (some t120)) else (none)) else (none))) else (none)) else (none)) else (if 0 ≤ x3 then (if x3 ≤ (x0.length : Int) then ((slices_Clone_uint64_uint64.f (x0.take (x3 : Int).toNat)).bind fun t124 => (some t124)) else (none)) else (none))
def nat_Norm.f (k : Nat) (l0 : List Int) : Option (List Int) := nat_Norm.l0 k l0 (l0.length : Int)
theorem nat_Norm.mono_l : ∀ k, (∀ y0 y1, LeO (nat_Norm.l0 k y0 y1) (nat_Norm.l0 (k + 1) y0 y1))
  | 0 => fun _ _ r h => by simp [nat_Norm.l0] at h
  | k + 1 => by
    have ih0 := nat_Norm.mono_l k
    · intro y0 y1
      unfold nat_Norm.l0
      repeat' first
      | (with_reducible exact ih0 _ _)
      | (with_reducible exact LeO.refl _)
      | (with_reducible exact LeO.none _)
      | (with_reducible refine LeO.ite ?_ ?_)
      | (with_reducible refine LeO.bind ?_ (fun _ => ?_))
      | exact ih0 _ _
      | exact LeO.none _
      | refine LeO.ite ?_ ?_
      | refine LeO.bind ?_ (fun _ => ?_)
theorem nat_Norm.mono : ∀ a0 k, LeO (nat_Norm.f k a0) (nat_Norm.f (k + 1) a0) := by
  intro a0 k
  have ih0 := nat_Norm.mono_l k
  unfold nat_Norm.f
  repeat' first
      | (with_reducible exact ih0 _ _)
      | (with_reducible exact LeO.refl _)
      | (with_reducible exact LeO.none _)
      | (with_reducible refine LeO.ite ?_ ?_)
      | (with_reducible refine LeO.bind ?_ (fun _ => ?_))
      | exact ih0 _ _
      | exact LeO.none _
      | refine LeO.ite ?_ ?_
      | refine LeO.bind ?_ (fun _ => ?_)
set_option maxHeartbeats 8000000 in
set_option maxRecDepth 100000 in
theorem nat_Norm.calls (k : Nat) (A0 : Option Addr) (c0 : Nat) (l0 : List Int) (r : List Int) (w : World) (hr0 : Kd.C (Kd.int .u64) w A0 l0.length l0) (hc0 : l0.length ≤ c0) (h : nat_Norm.f k l0 = some r) :
    Calls Try.prog 17 #[.slice A0 l0.length c0] w fun e w' => ∃ v0_ : Value, e = .returned (v0_) ∧ Kd.R (Kd.int .u64) 55 w' w.heap.size (fun _ => True) v0_ r ∧ Below w.heap.size w w' := by
  have HR0 := Aside0.mk hr0
  have HC0 := Aside0.mk hc0
  clear hr0 hc0
  have HB := Aside0.mk (Below.refl w.heap.size w)
  have H : (nat_Norm.l0 k l0 (l0.length : Int)) = some r := h
  clear h
  have H' := Aside0.mk H
  clear H
  go_enter Try.func17, Try.ntmps17
  go_wp2
  go_loopg [3] k (fun kq v3 w' => ∃ (x3_1 : Int), v3 = .int .i64 x3_1 ∧ Aside0 (nat_Norm.l0 kq l0 x3_1 = some r) ∧ Aside0 (kq ≤ k) ∧ Aside0 (Below w.heap.size w w'))
  case atStart => exact ⟨((l0.length : Int)), (by first | rfl | (simp; done) | (simp [*]; done)), H', ⟨Nat.le_refl _⟩, ⟨dn_ HB⟩⟩
  case round =>
    clear H'
    try clear c1
    obtain ⟨x3_1, rfl, HA, HK1, HB⟩ := hrel
    cases gk with
    | zero => exact absurd HA.out (by simp [nat_Norm.l0])
    | succ k1 =>
      have H := HA.out
      clear HA
      simp only [nat_Norm.l0] at H
      by_cases c2 : x3_1 > 0
      · rw [if_pos c2] at H
        have c2b0 : decide (0 < x3_1) = true := decide_eq_true c2
        clear c2
        obtain ⟨ji3, hji3⟩ : ∃ j_ : Int, (wrap64 (x3_1 - 1)) = j_ := ⟨_, rfl⟩
        replace H : (if 0 ≤ (ji3) then (if (ji3) < (l0.length : Int) then (if (rd l0 (ji3)) = 0 then (nat_Norm.l0 k1 l0 ji3) else (if 0 ≤ x3_1 then (if x3_1 ≤ (l0.length : Int) then ((slices_Clone_uint64_uint64.f (l0.take (x3_1 : Int).toNat)).bind fun t120 => (some t120)) else (none)) else (none))) else (none)) else (none)) = some r := by first | (rw [hji3] at H; exact H) | (simp only [hji3] at H ⊢; exact H)
        have hji3w : (IntKind.i64.wrap (x3_1 - 1)) = ji3 := (i64_w _).trans hji3
        by_cases c4 : 0 ≤ (ji3)
        · rw [if_pos c4] at H
          have c4b0 : decide (0 ≤ (ji3)) = true := decide_eq_true c4
          clear c4
          by_cases c5 : (ji3) < (l0.length : Int)
          · rw [if_pos c5] at H
            have c5b0 : decide ((ji3) < (l0.length : Int)) = true := decide_eq_true c5
            clear c5
            by_cases c6 : (rd l0 (ji3)) = 0
            · rw [if_pos c6] at H
              have c6b0 : ((rd l0 (ji3)) == 0) = true := beq_iff_eq.mpr c6
              have c6b1 : ((rd l0 (ji3)) != 0) = false := bne_eq_false_iff_eq.mpr c6
              clear c6
              have H' := Aside0.mk H
              clear H
              have p118 : 0 ≤ ((ji3) : Int) := of_decide_eq_true as_
              have q118 : (ji3) < (l0.length : Int) := of_decide_eq_true as_
              obtain ⟨ad118, e118, hx118_0⟩ := Kd.at_int HR0.out (ji3) p118 q118
              cases e118
              replace hx118_0 := (HB.out.cell (World.block_lt_of_cell? w _ hx118_0)).trans hx118_0
              replace p118 := eq_true p118
              replace q118 := eq_true q118
              (try (have q118n := q118; simp only [Int.ofNat_lt] at q118n))
              (try (have q118d := q118; simp only [List.length_drop] at q118d))
              go_wp2
              go_roundg k1
              case measure => have := HK1.out; omega
              case rel => exact ⟨(ji3), (by first | rfl | (simp; done) | (simp only [← hji3] <;> (first | rfl | simp)) | (simp [*]; done)), H', ⟨by have := HK1.out; omega⟩, ⟨dn_ HB⟩⟩
            · rw [if_neg c6] at H
              have c6b0 : ((rd l0 (ji3)) == 0) = false := beq_eq_false_iff_ne.mpr c6
              have c6b1 : ((rd l0 (ji3)) != 0) = true := bne_iff_ne.mpr c6
              by_cases c7 : 0 ≤ x3_1
              · rw [if_pos c7] at H
                have c7b0 := eq_true c7
                have c7b1 : decide (0 ≤ x3_1) = true := decide_eq_true c7
                clear c7
                by_cases c8 : x3_1 ≤ (l0.length : Int)
                · rw [if_pos c8] at H
                  have c8b0 := eq_true c8
                  have c8b1 : decide (x3_1 ≤ (l0.length : Int)) = true := decide_eq_true c8
                  clear c8
                  replace H := Option.bind_eq_some_iff.mp H
                  obtain ⟨t120, A90, H⟩ := H
                  replace H : (some t120) = some r := H
                  have A9 := Aside0.mk A90
                  clear A90
                  obtain rfl := Option.some.inj H
                  have p118 : 0 ≤ ((ji3) : Int) := of_decide_eq_true as_
                  have q118 : (ji3) < (l0.length : Int) := of_decide_eq_true as_
                  obtain ⟨ad118, e118, hx118_0⟩ := Kd.at_int HR0.out (ji3) p118 q118
                  cases e118
                  replace hx118_0 := (HB.out.cell (World.block_lt_of_cell? w _ hx118_0)).trans hx118_0
                  replace p118 := eq_true p118
                  replace q118 := eq_true q118
                  (try (have q118n := q118; simp only [Int.ofNat_lt] at q118n))
                  (try (have q118d := q118; simp only [List.length_drop] at q118d))
                  obtain ⟨i010, hi010, _, hsz10, _⟩ := info_parts info55
                  obtain ⟨hcut10, hA10, hC10⟩ := print_take_of (P := Try.prog) (Value.int .u64) 0 22 55 .i64 Try.underlying22 hi010 hsz10 (some ad118) c0 l0 x3_1 (of_decide_eq_true as_) (of_decide_eq_true as_) HC0.out
                  have HR119 := Aside0.mk (Kd.C_of_reads (h1 := fun _ => rfl) (hA10 _ (Kd.reads_of_C HR0.out)))
                  have HC119 := Aside0.mk hC10
                  clear hA10 hC10 hi010 hsz10
                  go_wp2_with (first | ((with_reducible refine gate_callee (f := 61) rfl ?_); refine goesL_ (some 21) rfl rfl Try.func61 (by kernel_rfl) rfl #[.slice (some ad118) (l0.take (x3_1 : Int).toNat).length c0] rfl (by (try simp only [List.map_toArray, List.map_cons, List.map_nil]); first | done | (rw [show (l0.take (x3_1 : Int).toNat).length = x3_1.toNat from (by rw [List.length_take]; have h_ : (x3_1 : Int) ≤ (l0.length : Int) := of_decide_eq_true as_; omega)] <;> rfl) | rfl | (simp only [List.length_drop, List.length_take]; rfl)) ?_; (with_reducible refine (slices_Clone_uint64_uint64.calls _ _ (l0.take (x3_1 : Int).toNat) t120 _ ?side1 ?side2 A9.out).mono ?_); (case side1 => repeat (first | exact (Kd.C_below HR119.out HB.out) | (with_reducible refine Kd.C_alloc ?_ _) | (with_reducible refine Kd.C_drewN ?_ _) | (with_reducible refine Kd.C_drew ?_))); (case side2 => exact HC119.out); rintro e w11 ⟨v121, rfl, ho0, hb⟩; refine ⟨_, rfl, ?_⟩; have n0_ := Aside0.mk (Kd.R_lower ho0 (below_size (dn_ HB))); have n1_ := Aside0.mk (below_step (dn_ HB) hb); clear HB; have HO122 := n0_; have HB := n1_; clear n0_ n1_; (try clear hb); (try clear ho0)))
                  go_ret
                  exact ⟨_, by first | rfl | (simp [errW_none, errW_some] <;> rfl) | (simp only [← hji3]; first | rfl | (simp [errW_none, errW_some] <;> rfl)) | (simp [*, errW_none, errW_some] <;> rfl), by (with_reducible repeat (first | apply Kd.R_alloc | apply Kd.R_drewN | apply Kd.R_drew)); exact HO122.out, dn_ HB⟩
                · rw [if_neg c8] at H
                  exact absurd H (by simp)
              · rw [if_neg c7] at H
                exact absurd H (by simp)
          · rw [if_neg c5] at H
            exact absurd H (by simp)
        · rw [if_neg c4] at H
          exact absurd H (by simp)
      · rw [if_neg c2] at H
        have c2b0 : decide (0 < x3_1) = false := decide_eq_false c2
        clear c2
        by_cases c12 : 0 ≤ x3_1
        · rw [if_pos c12] at H
          have c12b0 := eq_true c12
          have c12b1 : decide (0 ≤ x3_1) = true := decide_eq_true c12
          clear c12
          by_cases c13 : x3_1 ≤ (l0.length : Int)
          · rw [if_pos c13] at H
            have c13b0 := eq_true c13
            have c13b1 : decide (x3_1 ≤ (l0.length : Int)) = true := decide_eq_true c13
            clear c13
            replace H := Option.bind_eq_some_iff.mp H
            obtain ⟨t124, A140, H⟩ := H
            replace H : (some t124) = some r := H
            have A14 := Aside0.mk A140
            clear A140
            obtain rfl := Option.some.inj H
            obtain ⟨i015, hi015, _, hsz15, _⟩ := info_parts info55
            obtain ⟨hcut15, hA15, hC15⟩ := print_take_of (P := Try.prog) (Value.int .u64) 0 22 55 .i64 Try.underlying22 hi015 hsz15 A0 c0 l0 x3_1 (of_decide_eq_true as_) (of_decide_eq_true as_) HC0.out
            have HR123 := Aside0.mk (Kd.C_of_reads (h1 := fun _ => rfl) (hA15 _ (Kd.reads_of_C HR0.out)))
            have HC123 := Aside0.mk hC15
            clear hA15 hC15 hi015 hsz15
            go_wp2_with (first | ((with_reducible refine gate_callee (f := 61) rfl ?_); refine goesL_ (some 21) rfl rfl Try.func61 (by kernel_rfl) rfl #[.slice A0 (l0.take (x3_1 : Int).toNat).length c0] rfl (by (try simp only [List.map_toArray, List.map_cons, List.map_nil]); first | done | (rw [show (l0.take (x3_1 : Int).toNat).length = x3_1.toNat from (by rw [List.length_take]; have h_ : (x3_1 : Int) ≤ (l0.length : Int) := of_decide_eq_true as_; omega)] <;> rfl) | rfl | (simp only [List.length_drop, List.length_take]; rfl)) ?_; (with_reducible refine (slices_Clone_uint64_uint64.calls _ _ (l0.take (x3_1 : Int).toNat) t124 _ ?side1 ?side2 A14.out).mono ?_); (case side1 => repeat (first | exact (Kd.C_below HR123.out HB.out) | (with_reducible refine Kd.C_alloc ?_ _) | (with_reducible refine Kd.C_drewN ?_ _) | (with_reducible refine Kd.C_drew ?_))); (case side2 => exact HC123.out); rintro e w16 ⟨v125, rfl, ho0, hb⟩; refine ⟨_, rfl, ?_⟩; have n0_ := Aside0.mk (Kd.R_lower ho0 (below_size (dn_ HB))); have n1_ := Aside0.mk (below_step (dn_ HB) hb); clear HB; have HO126 := n0_; have HB := n1_; clear n0_ n1_; (try clear hb); (try clear ho0)))
            go_ret
            exact ⟨_, er_, by (with_reducible repeat (first | apply Kd.R_alloc | apply Kd.R_drewN | apply Kd.R_drew)); exact HO126.out, dn_ HB⟩
          · rw [if_neg c13] at H
            exact absurd H (by simp)
        · rw [if_neg c12] at H
          exact absurd H (by simp)
def nat_at.f (l0 : List Int) (a1 : Int) : Option (Int) := if a1 < (l0.length : Int) then (if 0 ≤ a1 then (some (rd l0 a1)) else (none)) else (some 0)
set_option maxHeartbeats 8000000 in
set_option maxRecDepth 100000 in
theorem nat_at.calls (A0 : Option Addr) (c0 : Nat) (l0 : List Int) (a1 : Int) (r : Int) (w : World) (hr0 : Kd.C (Kd.int .u64) w A0 l0.length l0) (hc0 : l0.length ≤ c0) (h : nat_at.f l0 a1 = some r) :
    Calls Try.prog 59 #[.slice A0 l0.length c0, .int .i64 a1] w fun e w' => e = .returned (.int .u64 r) ∧ Drawn0 w w' := by
  have HR0 := Aside0.mk hr0
  have HC0 := Aside0.mk hc0
  clear hr0 hc0
  have H : (if a1 < (l0.length : Int) then (if 0 ≤ a1 then (some (rd l0 a1)) else (none)) else (some 0)) = some r := h
  clear h
  by_cases c3 : a1 < (l0.length : Int)
  · rw [if_pos c3] at H
    have c3b0 : decide (a1 < (l0.length : Int)) = true := decide_eq_true c3
    clear c3
    by_cases c4 : 0 ≤ a1
    · rw [if_pos c4] at H
      have c4b0 : decide (0 ≤ a1) = true := decide_eq_true c4
      clear c4
      obtain rfl := Option.some.inj H
      have p105 : 0 ≤ (a1 : Int) := of_decide_eq_true as_
      have q105 : a1 < (l0.length : Int) := of_decide_eq_true as_
      obtain ⟨ad105, e105, hx105_0⟩ := Kd.at_int HR0.out a1 p105 q105
      cases e105
      replace p105 := eq_true p105
      replace q105 := eq_true q105
      (try (have q105n := q105; simp only [Int.ofNat_lt] at q105n))
      (try (have q105d := q105; simp only [List.length_drop] at q105d))
      go_enter Try.func59, Try.ntmps59
      go_wp2
      go_ret
      exact ⟨by first | rfl | (simp; done) | (simp [*]; done), by repeat (first | exact Drawn0.refl _ | apply Drawn0.step)⟩
    · rw [if_neg c4] at H
      exact absurd H (by simp)
  · rw [if_neg c3] at H
    have c3b0 : decide (a1 < (l0.length : Int)) = false := decide_eq_false c3
    clear c3
    obtain rfl := Option.some.inj H
    go_enter Try.func59, Try.ntmps59
    go_wp2
    go_ret
    exact ⟨by first | rfl | (simp; done) | (simp [*]; done), by repeat (first | exact Drawn0.refl _ | apply Drawn0.step)⟩
def nat_Add.l0 : Nat → List Int → List Int → List Int → Int → Int → Int → Option (List Int)
  | 0, _, _, _, _, _, _ => none
  | k + 1, x0, x1, x5, x6, x16, x17 => if x17 < x16 then ((nat_at.f x0 x17).bind fun t109 => ((nat_at.f x1 x17).bind fun t110 => ((bits_Add64.f t109 t110 x6).bind fun bt111 => (if 0 ≤ x17 then (if x17 < (x5.length : Int) then (nat_Add.l0 k x0 x1 (x5.set (x17 : Int).toNat bt111.1) bt111.2 x16 (wrap64 (x17 + 1))) else (none)) else (none))))) else ((nat_size.f k x5).bind fun t114 => (if 0 ≤ t114 then (if t114 ≤ (x5.length : Int) then (some (x5.take (t114 : Int).toNat)) else (none)) else (none)))
def nat_Add.f (k : Nat) (l0 : List Int) (l1 : List Int) : Option (List Int) := if 0 ≤ (wrap64 ((mx (l0.length : Int) (l1.length : Int)) + 1)) then (if (wrap64 ((mx (l0.length : Int) (l1.length : Int)) + 1) : Int).toNat ≤ 35184372088832 then ((some (List.replicate (wrap64 ((mx (l0.length : Int) (l1.length : Int)) + 1) : Int).toNat 0 : List Int)).bind fun y106 => (nat_Add.l0 k l0 l1 y106 0 (y106.length : Int) 0)) else (none)) else (none)
theorem nat_Add.mono_l : ∀ k, (∀ y0 y1 y2 y3 y4 y5, LeO (nat_Add.l0 k y0 y1 y2 y3 y4 y5) (nat_Add.l0 (k + 1) y0 y1 y2 y3 y4 y5))
  | 0 => fun _ _ _ _ _ _ r h => by simp [nat_Add.l0] at h
  | k + 1 => by
    have ih0 := nat_Add.mono_l k
    · intro y0 y1 y2 y3 y4 y5
      unfold nat_Add.l0
      repeat' first
      | (with_reducible exact ih0 _ _ _ _ _ _)
      | (with_reducible exact nat_size.mono _ _)
      | (with_reducible exact LeO.refl _)
      | (with_reducible exact LeO.none _)
      | (with_reducible refine LeO.ite ?_ ?_)
      | (with_reducible refine LeO.bind ?_ (fun _ => ?_))
      | exact ih0 _ _ _ _ _ _
      | exact nat_size.mono _ _
      | exact LeO.none _
      | refine LeO.ite ?_ ?_
      | refine LeO.bind ?_ (fun _ => ?_)
theorem nat_Add.mono : ∀ a0 a1 k, LeO (nat_Add.f k a0 a1) (nat_Add.f (k + 1) a0 a1) := by
  intro a0 a1 k
  have ih0 := nat_Add.mono_l k
  unfold nat_Add.f
  repeat' first
      | (with_reducible exact ih0 _ _ _ _ _ _)
      | (with_reducible exact nat_size.mono _ _)
      | (with_reducible exact LeO.refl _)
      | (with_reducible exact LeO.none _)
      | (with_reducible refine LeO.ite ?_ ?_)
      | (with_reducible refine LeO.bind ?_ (fun _ => ?_))
      | exact ih0 _ _ _ _ _ _
      | exact nat_size.mono _ _
      | exact LeO.none _
      | refine LeO.ite ?_ ?_
      | refine LeO.bind ?_ (fun _ => ?_)
set_option maxHeartbeats 8000000 in
set_option maxRecDepth 100000 in
theorem nat_Add.calls (k : Nat) (A0 : Option Addr) (c0 : Nat) (l0 : List Int) (A1 : Option Addr) (c1 : Nat) (l1 : List Int) (r : List Int) (w : World) (hr0 : Kd.C (Kd.int .u64) w A0 l0.length l0) (hc0 : l0.length ≤ c0) (hr1 : Kd.C (Kd.int .u64) w A1 l1.length l1) (hc1 : l1.length ≤ c1) (h : nat_Add.f k l0 l1 = some r) :
    Calls Try.prog 15 #[.slice A0 l0.length c0, .slice A1 l1.length c1] w fun e w' => ∃ v0_ : Value, e = .returned (v0_) ∧ Kd.R (Kd.int .u64) 55 w' w.heap.size (fun _ => True) v0_ r ∧ Below w.heap.size w w' := by
  have HR0 := Aside0.mk hr0
  have HC0 := Aside0.mk hc0
  clear hr0 hc0
  have HR1 := Aside0.mk hr1
  have HC1 := Aside0.mk hc1
  clear hr1 hc1
  have HB := Aside0.mk (Below.refl w.heap.size w)
  have H : (if 0 ≤ (wrap64 ((mx (l0.length : Int) (l1.length : Int)) + 1)) then (if (wrap64 ((mx (l0.length : Int) (l1.length : Int)) + 1) : Int).toNat ≤ 35184372088832 then ((some (List.replicate (wrap64 ((mx (l0.length : Int) (l1.length : Int)) + 1) : Int).toNat 0 : List Int)).bind fun y106 => (nat_Add.l0 k l0 l1 y106 0 (y106.length : Int) 0)) else (none)) else (none)) = some r := h
  clear h
  obtain ⟨ji3, hji3⟩ : ∃ j_ : Int, (mx (l0.length : Int) (l1.length : Int)) = j_ := ⟨_, rfl⟩
  replace H : (if 0 ≤ (wrap64 ((ji3) + 1)) then (if (wrap64 ((ji3) + 1) : Int).toNat ≤ 35184372088832 then ((some (List.replicate (wrap64 ((ji3) + 1) : Int).toNat 0 : List Int)).bind fun y106 => (nat_Add.l0 k l0 l1 y106 0 (y106.length : Int) 0)) else (none)) else (none)) = some r := by first | (rw [hji3] at H; exact H) | (simp only [hji3] at H ⊢; exact H)
  (try (have hji3l : 0 ≤ ji3 := by (rw [← hji3]; unfold mx; (repeat' split) <;> omega)))
  (try (have hji3m : 0 ≤ ji3 := by omega))
  have hji3_ : (if (l0.length : Int) < (l1.length : Int) then (l1.length : Int) else (l0.length : Int)) = ji3 := hji3
  (try (have hji3n := hji3_; simp only [Int.ofNat_lt] at hji3n))
  obtain ⟨ji4, hji4⟩ : ∃ j_ : Int, (wrap64 ((ji3) + 1)) = j_ := ⟨_, rfl⟩
  replace H : (if 0 ≤ (ji4) then (if (ji4 : Int).toNat ≤ 35184372088832 then ((some (List.replicate (ji4 : Int).toNat 0 : List Int)).bind fun y106 => (nat_Add.l0 k l0 l1 y106 0 (y106.length : Int) 0)) else (none)) else (none)) = some r := by first | (rw [hji4] at H; exact H) | (simp only [hji4] at H ⊢; exact H)
  have hji4w : (IntKind.i64.wrap ((ji3) + 1)) = ji4 := (i64_w _).trans hji4
  by_cases c5 : 0 ≤ (ji4)
  · rw [if_pos c5] at H
    have c5b0 := eq_true c5
    have c5b1 : decide (0 ≤ (ji4)) = true := decide_eq_true c5
    clear c5
    by_cases c6 : (ji4 : Int).toNat ≤ 35184372088832
    · rw [if_pos c6] at H
      have c6b0 := eq_true c6
      have c6b1 : decide ((ji4 : Int).toNat ≤ 35184372088832) = true := decide_eq_true c6
      clear c6
      obtain ⟨y106, hy106⟩ : ∃ y_ : List Int, y_ = (List.replicate (ji4 : Int).toNat 0) := ⟨_, rfl⟩
      replace H : (nat_Add.l0 k l0 l1 y106 0 (y106.length : Int) 0) = some r := by first | (rw [hy106]; with_reducible exact H) | (have H2_ := (Option.bind_some _ _).symm.trans H; rw [hy106]; with_reducible exact H2_) | (have H2_ := (Option.bind_some _ _).symm.trans H; with_reducible exact H2_) | with_reducible exact H | (rw [hy106]; exact H) | exact H
      have Ny106 := Aside0.mk hy106
      clear hy106
      have H' := Aside0.mk H
      clear H
      go_enter Try.func15, Try.ntmps15
      go_wp2_with (first | ((with_reducible refine gate_dst (N := 14) rfl ?_); refine Kd.R_make (Kd.int .u64) _ 55 rfl (N := 14) rfl 22 _ _ rfl ji4 rfl rfl Try.underlying22 (.int .u64 0) 8 info55 rfl (by decide) (by omega) 0 (ok := fun _ => True) (okp := fun _ => True) rfl (fun _ hk => hk) trivial (of_decide_eq_true as_) (Nat.le_trans (Nat.mul_le_mul_right _ (of_decide_eq_true as_ : ji4.toNat ≤ 35184372088832)) (by omega)) (Below.refl _ _) (Nat.le_refl _) ?_; intro v107 w7 ho8 hb hg_ hnew_; clear hg_ hnew_; (first | rw [← Ny106.out] at ho8 | (simp only [Int.reduceToNat] at ho8; rw [← Ny106.out] at ho8)); have n0_ := Aside0.mk (Kd.R_lower ho8 (below_size (dn_ HB))); have n1_ := Aside0.mk (below_step (dn_ HB) hb); clear HB; have HO108 := n0_; have HB := n1_; clear n0_ n1_; clear hb ho8; obtain ⟨Ao9, co9, eo9⟩ := Kd.R_slice HO108.out; subst eo9))
      go_loopg [6, 17] k (fun kq v6 v17 w' => ∃ (x5_1 : List Int) (x6_1 : Int) (x17_1 : Int), v6 = .int .u64 x6_1 ∧ v17 = .int .i64 x17_1 ∧ Aside0 (nat_Add.l0 kq l0 l1 x5_1 x6_1 (y106.length : Int) x17_1 = some r) ∧ Aside0 (kq ≤ k) ∧ Aside0 (Kd.R (Kd.int .u64) 55 w' w.heap.size (fun _ => True) (.slice Ao9 y106.length co9) x5_1) ∧ Aside0 (Below w.heap.size w w'))
      case atStart => exact ⟨(y106), (0), (0), (by first | rfl | (simp; done) | (simp [*]; done)), (by first | rfl | (simp; done) | (simp [*]; done)), H', ⟨Nat.le_refl _⟩, ⟨by (with_reducible repeat (first | apply Kd.R_alloc | apply Kd.R_drewN | apply Kd.R_drew)); exact HO108.out⟩, ⟨dn_ HB⟩⟩
      case round =>
        clear H'
        try clear c1
        try clear p2
        try clear c5
        try clear c5b0
        try clear c5b1
        try clear c6
        try clear c6b0
        try clear c6b1
        try clear p6
        obtain ⟨x5_1, x6_1, x17_1, rfl, rfl, HA, HK1, HO_5, HB⟩ := hrel
        have hl5_1 := (Kd.R_reads' HO_5.out).1
        rw [hl5_1] at HO_5
        (try simp only [hl5_1])
        cases gk with
        | zero => exact absurd HA.out (by simp [nat_Add.l0])
        | succ k1 =>
          have H := HA.out
          clear HA
          simp only [nat_Add.l0] at H
          by_cases c10 : x17_1 < (y106.length : Int)
          · rw [if_pos c10] at H
            have c10b0 : decide (x17_1 < (y106.length : Int)) = true := decide_eq_true c10
            (try (have c10b0nhl5_1 := c10b0; rw [hl5_1] at c10b0nhl5_1))
            clear c10
            replace H := Option.bind_eq_some_iff.mp H
            obtain ⟨t109, A110, H⟩ := H
            replace H : ((nat_at.f l1 x17_1).bind fun t110 => ((bits_Add64.f t109 t110 x6_1).bind fun bt111 => (if 0 ≤ x17_1 then (if x17_1 < (x5_1.length : Int) then (nat_Add.l0 k1 l0 l1 (x5_1.set (x17_1 : Int).toNat bt111.1) bt111.2 (y106.length : Int) (wrap64 (x17_1 + 1))) else (none)) else (none)))) = some r := H
            have A11 := Aside0.mk A110
            clear A110
            replace H := Option.bind_eq_some_iff.mp H
            obtain ⟨t110, A120, H⟩ := H
            replace H : ((bits_Add64.f t109 t110 x6_1).bind fun bt111 => (if 0 ≤ x17_1 then (if x17_1 < (x5_1.length : Int) then (nat_Add.l0 k1 l0 l1 (x5_1.set (x17_1 : Int).toNat bt111.1) bt111.2 (y106.length : Int) (wrap64 (x17_1 + 1))) else (none)) else (none))) = some r := H
            have A12 := Aside0.mk A120
            clear A120
            replace H := Option.bind_eq_some_iff.mp H
            obtain ⟨⟨t111, t112⟩, A130, H⟩ := H
            replace H : (if 0 ≤ x17_1 then (if x17_1 < (x5_1.length : Int) then (nat_Add.l0 k1 l0 l1 (x5_1.set (x17_1 : Int).toNat t111) t112 (y106.length : Int) (wrap64 (x17_1 + 1))) else (none)) else (none)) = some r := H
            have A13 := Aside0.mk A130
            clear A130
            by_cases c14 : 0 ≤ x17_1
            · rw [if_pos c14] at H
              have c14b0 : decide (0 ≤ x17_1) = true := decide_eq_true c14
              clear c14
              by_cases c15 : x17_1 < (x5_1.length : Int)
              · rw [if_pos c15] at H
                have c15b0 : decide (x17_1 < (x5_1.length : Int)) = true := decide_eq_true c15
                (try (have c15b0nhl5_1 := c15b0; rw [hl5_1] at c15b0nhl5_1))
                clear c15
                obtain ⟨y113, hy113⟩ : ∃ y_ : List Int, y_ = (x5_1.set (x17_1 : Int).toNat t111) := ⟨_, rfl⟩
                replace H : (nat_Add.l0 k1 l0 l1 y113 t112 (y106.length : Int) (wrap64 (x17_1 + 1))) = some r := by first | (rw [hy113]; with_reducible exact H) | (have H2_ := (Option.bind_some _ _).symm.trans H; rw [hy113]; with_reducible exact H2_) | (have H2_ := (Option.bind_some _ _).symm.trans H; with_reducible exact H2_) | with_reducible exact H | (rw [hy113]; exact H) | exact H
                have Ny113 := Aside0.mk hy113
                clear hy113
                have H' := Aside0.mk H
                clear H
                go_wp2_with (first | ((with_reducible refine gate_callee (f := 59) rfl ?_); refine goesL_ (some 25) rfl rfl Try.func59 (by kernel_rfl) rfl #[.slice A0 l0.length c0, .int .i64 x17_1] rfl ar_ ?_; (with_reducible refine (nat_at.calls _ _ l0 x17_1 t109 _ ?side1 ?side2 A11.out).mono ?_); (case side1 => repeat (first | exact (Kd.C_below HR0.out HB.out) | (with_reducible refine Kd.C_alloc ?_ _) | (with_reducible refine Kd.C_drewN ?_ _) | (with_reducible refine Kd.C_drew ?_))); (case side2 => exact HC0.out); rintro e w' ⟨rfl, ⟨nd, rfl⟩⟩; refine ⟨_, rfl, ?_⟩; (try (rw [drewN_self wr]; generalize hq_ : World.drewN wr _ = wr; have n0_ : Aside0 (Kd.R (Kd.int .u64) 55 wr w.heap.size (fun _ => True) (.slice Ao9 x5_1.length co9) x5_1) := ⟨by rw [← hq_]; exact (up_ HO_5)⟩; have n1_ : Aside0 (Below w.heap.size w wr) := ⟨by rw [← hq_]; exact (dn_ HB)⟩; clear HO_5 HB hq_; have HO_5 := n0_; have HB := n1_; clear n0_ n1_))) | ((with_reducible refine gate_callee (f := 59) rfl ?_); refine goesL_ (some 28) rfl rfl Try.func59 (by kernel_rfl) rfl #[.slice A1 l1.length c1, .int .i64 x17_1] rfl ar_ ?_; (with_reducible refine (nat_at.calls _ _ l1 x17_1 t110 _ ?side1 ?side2 A12.out).mono ?_); (case side1 => repeat (first | exact (Kd.C_below HR1.out HB.out) | (with_reducible refine Kd.C_alloc ?_ _) | (with_reducible refine Kd.C_drewN ?_ _) | (with_reducible refine Kd.C_drew ?_))); (case side2 => exact HC1.out); rintro e w' ⟨rfl, ⟨nd, rfl⟩⟩; refine ⟨_, rfl, ?_⟩; (try (rw [drewN_self wr]; generalize hq_ : World.drewN wr _ = wr; have n0_ : Aside0 (Kd.R (Kd.int .u64) 55 wr w.heap.size (fun _ => True) (.slice Ao9 x5_1.length co9) x5_1) := ⟨by rw [← hq_]; exact (up_ HO_5)⟩; have n1_ : Aside0 (Below w.heap.size w wr) := ⟨by rw [← hq_]; exact (dn_ HB)⟩; clear HO_5 HB hq_; have HO_5 := n0_; have HB := n1_; clear n0_ n1_))) | ((with_reducible refine gate_callee (f := 58) rfl ?_); refine goesXL_ (some 30) rfl rfl #[.int .u64 t109, .int .u64 t110, .int .u64 x6_1] rfl ar_ ?_; (with_reducible refine (bits_Add64.calls t109 t110 x6_1 t111 t112 _ A13.out).mono ?_); rintro e w' ⟨rfl, ⟨nd, rfl⟩⟩; refine ⟨_, rfl, ?_⟩; (try (rw [drewN_self wr]; generalize hq_ : World.drewN wr _ = wr; have n0_ : Aside0 (Kd.R (Kd.int .u64) 55 wr w.heap.size (fun _ => True) (.slice Ao9 x5_1.length co9) x5_1) := ⟨by rw [← hq_]; exact (up_ HO_5)⟩; have n1_ : Aside0 (Below w.heap.size w wr) := ⟨by rw [← hq_]; exact (dn_ HB)⟩; clear HO_5 HB hq_; have HO_5 := n0_; have HB := n1_; clear n0_ n1_)); have p16 : 0 ≤ (x17_1 : Int) := of_decide_eq_true as_; have q16 : (x17_1 : Int) < ((x5_1.length : Int) : Int) := of_decide_eq_true as_; obtain ⟨go16, co16, eo16, gb16, gl16, cl16, HG16⟩ := Kd.R_form HO_5.out (by omega); (first | cases eo16 | (injection eo16 with ea_ en_ ec_; (first | subst ea_ | (injection ea_ with ea_; subst ea_)); subst ec_; clear en_)); have GB16 := Aside0.mk gb16; have GG16 := Aside0.mk HG16; clear gb16 gl16 HG16; obtain ⟨hx16_0, hf16_0⟩ := Kd.R_celln 0 HO_5.out (x17_1 : Int) p16 q16; replace p16 := eq_true p16; replace q16 := eq_true q16; obtain ⟨hy17_, hz17_⟩ := Kd.R_celln 0 HO_5.out (x17_1 : Int) (of_decide_eq_true as_) (of_decide_eq_true as_); have HP17 := Kd.R_putg HO_5.out (x17_1 : Int) t111) | ((with_reducible refine gate_store (t := 55) (p := 33) rfl ?_); refine store_event (t := 55) (p := 33) (v := ?vo_w18) (w1 := (wr.setCell ⟨go16, (x17_1 : Int).toNat, none⟩ (.int .u64 t111))) ?hg ?ho ?hn ?hr ?_; (case ho => rfl); (case hg => rfl); (case hn => rfl); (case hr => first | (go_simp; done) | (go_simp; rfl)); intro w18 hw; have hg : wr.grownBy w18 (some go16) := (by rw [hw]; exact HP17.2); have hp_ : Kd.R (Kd.int .u64) 55 w18 w.heap.size (fun _ => True) (.slice (some ⟨go16, 0, none⟩) x5_1.length co9) y113 := (by rw [hw, Ny113.out]; exact HP17.1); clear HP17; have n0_ := Aside0.mk (hp_); have n1_ := Aside0.mk ((by rw [hw]; exact below_set (HB.out) GB16.out : Below w.heap.size w w18)); clear HO_5; clear HB; have HO_5 := n0_; have HB := n1_; clear n0_ n1_; clear hg hw hp_))
                (try simp only [← hl5_1])
                go_roundg k1
                case measure => have := HK1.out; omega
                case rel => exact ⟨(y113), (t112), (wrap64 (x17_1 + 1)), (by first | rfl | (simp; done) | (simp [*]; done)), (by first | rfl | (simp; done) | (simp [*]; done)), H', ⟨by have := HK1.out; omega⟩, ⟨by (try simp only [hl5_1]); (with_reducible repeat (first | apply Kd.R_alloc | apply Kd.R_drewN | apply Kd.R_drew)); exact HO_5.out⟩, ⟨dn_ HB⟩⟩
              · rw [if_neg c15] at H
                exact absurd H (by simp)
            · rw [if_neg c14] at H
              exact absurd H (by simp)
          · rw [if_neg c10] at H
            have c10b0 : decide (x17_1 < (y106.length : Int)) = false := decide_eq_false c10
            (try (have c10b0nhl5_1 := c10b0; rw [hl5_1] at c10b0nhl5_1))
            clear c10
            replace H := Option.bind_eq_some_iff.mp H
            obtain ⟨t114, A190, H⟩ := H
            replace H : (if 0 ≤ t114 then (if t114 ≤ (x5_1.length : Int) then (some (x5_1.take (t114 : Int).toNat)) else (none)) else (none)) = some r := H
            have A19 := Aside0.mk A190
            clear A190
            by_cases c20 : 0 ≤ t114
            · rw [if_pos c20] at H
              have c20b0 := eq_true c20
              have c20b1 : decide (0 ≤ t114) = true := decide_eq_true c20
              clear c20
              by_cases c21 : t114 ≤ (x5_1.length : Int)
              · rw [if_pos c21] at H
                have c21b0 := eq_true c21
                have c21b1 : decide (t114 ≤ (x5_1.length : Int)) = true := decide_eq_true c21
                (try (have c21b1nhl5_1 := c21b1; rw [hl5_1] at c21b1nhl5_1))
                clear c21
                obtain ⟨y115, hy115⟩ : ∃ y_ : List Int, y_ = (x5_1.take (t114 : Int).toNat) := ⟨_, rfl⟩
                replace H : (some y115) = some r := by first | (rw [hy115]; with_reducible exact H) | (have H2_ := (Option.bind_some _ _).symm.trans H; rw [hy115]; with_reducible exact H2_) | (have H2_ := (Option.bind_some _ _).symm.trans H; with_reducible exact H2_) | with_reducible exact H | (rw [hy115]; exact H) | exact H
                have Ny115 := Aside0.mk hy115
                clear hy115
                obtain rfl := Option.some.inj H
                go_wp2_with (first | ((with_reducible refine gate_callee (f := 56) rfl ?_); refine goesL_ (some 37) rfl rfl Try.func56 (by kernel_rfl) rfl #[.slice Ao9 x5_1.length co9] rfl ar_ ?_; (with_reducible refine (nat_size.calls k1 _ _ x5_1 t114 _ ?side1 ?side2 A19.out).mono ?_); (case side1 => exact cs_ (Kd.R_reads' HO_5.out).2.2); (case side2 => exact (Kd.R_reads' HO_5.out).2.1); rintro e w' ⟨rfl, ⟨nd, rfl⟩⟩; refine ⟨_, rfl, ?_⟩; have q22 : (t114 : Int) ≤ ((x5_1.length : Int) : Int) := of_decide_eq_true as_; obtain ⟨i022, hi022, _, hsz22, _⟩ := info_parts info55; have hcut22 := cut_to (P := Try.prog) 22 55 .i64 Try.underlying22 hi022 Ao9 x5_1.length co9 t114 (of_decide_eq_true as_) q22 (Kd.R_reads' HO_5.out).2.1; have hr22 := Kd.R_take (m := (t114 : Int).toNat) HO_5.out (by omega); have hy22 : y115.length = (t114 : Int).toNat := (by rw [Ny115.out, List.length_take]; omega); rw [← Ny115.out] at hr22; rw [← hy22] at hr22 hcut22; clear hy22 hi022 hsz22 HO_5; have HO117 := Aside0.mk hr22; clear hr22; replace q22 := eq_true q22))
                go_ret
                exact ⟨_, by first | rfl | (simp [errW_none, errW_some] <;> rfl) | (simp only [← hji3, ← hji4]; first | rfl | (simp [errW_none, errW_some] <;> rfl)) | (simp [*, errW_none, errW_some] <;> rfl), by (with_reducible repeat (first | apply Kd.R_alloc | apply Kd.R_drewN | apply Kd.R_drew)); exact HO117.out, dn_ HB⟩
              · rw [if_neg c21] at H
                exact absurd H (by simp)
            · rw [if_neg c20] at H
              exact absurd H (by simp)
    · rw [if_neg c6] at H
      exact absurd H (by simp)
  · rw [if_neg c5] at H
    exact absurd H (by simp)
mutual
def nat_Sub.j0 : Nat → List Int → List Int → Option (List Int)
  | 0, _, _ => none
  | k + 1, x0, x1 => if 0 ≤ (x0.length : Int) then (if ((x0.length : Int) : Int).toNat ≤ 35184372088832 then ((some (List.replicate ((x0.length : Int) : Int).toNat 0 : List Int)).bind fun y128 => (nat_Sub.l0 k x0 x1 y128 0 (y128.length : Int) 0)) else (none)) else (none)
def nat_Sub.l0 : Nat → List Int → List Int → List Int → Int → Int → Int → Option (List Int)
  | 0, _, _, _, _, _, _ => none
  | k + 1, x0, x1, x5, x6, x18, x19 => if x19 < x18 then (if 0 ≤ x19 then (if x19 < (x0.length : Int) then ((nat_at.f x1 x19).bind fun t132 => ((bits_Sub64.f (rd x0 x19) t132 x6).bind fun bt133 => (if x19 < (x5.length : Int) then (nat_Sub.l0 k x0 x1 (x5.set (x19 : Int).toNat bt133.1) bt133.2 x18 (wrap64 (x19 + 1))) else (none)))) else (none)) else (none)) else ((nat_size.f k x5).bind fun t136 => (if 0 ≤ t136 then (if t136 ≤ (x5.length : Int) then (some (x5.take (t136 : Int).toNat)) else (none)) else (none)))
end
def nat_Sub.f (k : Nat) (l0 : List Int) (l1 : List Int) : Option (List Int) := (nat_Cmp.f l0 l1).bind fun t127 => (if t127 < 0 then (nat_Sub.j0 k l1 l0) else (nat_Sub.j0 k l0 l1))
theorem nat_Sub.mono_l : ∀ k, (∀ y0 y1, LeO (nat_Sub.j0 k y0 y1) (nat_Sub.j0 (k + 1) y0 y1)) ∧ (∀ y0 y1 y2 y3 y4 y5, LeO (nat_Sub.l0 k y0 y1 y2 y3 y4 y5) (nat_Sub.l0 (k + 1) y0 y1 y2 y3 y4 y5))
  | 0 => ⟨fun _ _ r h => by simp [nat_Sub.j0] at h, fun _ _ _ _ _ _ r h => by simp [nat_Sub.l0] at h⟩
  | k + 1 => by
    obtain ⟨ih0, ih1⟩ := nat_Sub.mono_l k
    refine ⟨?_, ?_⟩
    · intro y0 y1
      unfold nat_Sub.j0
      repeat' first
      | (with_reducible exact ih0 _ _)
      | (with_reducible exact ih1 _ _ _ _ _ _)
      | (with_reducible exact nat_size.mono _ _)
      | (with_reducible exact LeO.refl _)
      | (with_reducible exact LeO.none _)
      | (with_reducible refine LeO.ite ?_ ?_)
      | (with_reducible refine LeO.bind ?_ (fun _ => ?_))
      | exact ih0 _ _
      | exact ih1 _ _ _ _ _ _
      | exact nat_size.mono _ _
      | exact LeO.none _
      | refine LeO.ite ?_ ?_
      | refine LeO.bind ?_ (fun _ => ?_)
    · intro y0 y1 y2 y3 y4 y5
      unfold nat_Sub.l0
      repeat' first
      | (with_reducible exact ih0 _ _)
      | (with_reducible exact ih1 _ _ _ _ _ _)
      | (with_reducible exact nat_size.mono _ _)
      | (with_reducible exact LeO.refl _)
      | (with_reducible exact LeO.none _)
      | (with_reducible refine LeO.ite ?_ ?_)
      | (with_reducible refine LeO.bind ?_ (fun _ => ?_))
      | exact ih0 _ _
      | exact ih1 _ _ _ _ _ _
      | exact nat_size.mono _ _
      | exact LeO.none _
      | refine LeO.ite ?_ ?_
      | refine LeO.bind ?_ (fun _ => ?_)
theorem nat_Sub.mono : ∀ a0 a1 k, LeO (nat_Sub.f k a0 a1) (nat_Sub.f (k + 1) a0 a1) := by
  intro a0 a1 k
  obtain ⟨ih0, ih1⟩ := nat_Sub.mono_l k
  unfold nat_Sub.f
  repeat' first
      | (with_reducible exact ih0 _ _)
      | (with_reducible exact ih1 _ _ _ _ _ _)
      | (with_reducible exact nat_size.mono _ _)
      | (with_reducible exact LeO.refl _)
      | (with_reducible exact LeO.none _)
      | (with_reducible refine LeO.ite ?_ ?_)
      | (with_reducible refine LeO.bind ?_ (fun _ => ?_))
      | exact ih0 _ _
      | exact ih1 _ _ _ _ _ _
      | exact nat_size.mono _ _
      | exact LeO.none _
      | refine LeO.ite ?_ ?_
      | refine LeO.bind ?_ (fun _ => ?_)
def nat_Sub.T8 : Bool × List (List Nat × List Nat) := (true, [([], []), ([], []), ([], []), ([], []), ([2, 3], [2, 3]), ([4], [4]), ([], []), ([], []), ([6, 7], [6, 7]), ([], []), ([5, 8, 9, 8], [5, 8, 9]), ([10], [10]), ([11], [11]), ([11], [11]), ([0, 1, 0, 1, 2, 3, 4, 5, 6, 7, 8, 9, 10, 11, 12], [0, 1]), ([14, 12, 10, 0, 1, 2, 3, 4, 5, 6, 7, 8, 9, 10, 11, 12], [12, 14]), ([13, 15, 0, 1, 2, 3, 4, 5, 6, 7, 8, 9, 10, 11, 12, 13, 14, 15], [9, 13])])
def nat_Sub.B8 : List Nat := [0, 0, 0, 0, 12, 28, 0, 0, 192, 0, 1020, 2044, 4092, 4092, 8191, 24575, 65535]
theorem nat_Sub.tab8 : rtab .any (opsOf Try.f77 8) = nat_Sub.T8 := by kernel_rfl
theorem nat_Sub.bits8 : waitsOk nat_Sub.T8.2 nat_Sub.B8 = true := by kernel_rfl
set_option maxHeartbeats 8000000 in
set_option maxRecDepth 100000 in
theorem nat_Sub.calls (k : Nat) (P0_ : Nat → Prop) (A0 : Option Addr) (c0 : Nat) (l0 : List Int) (P1_ : Nat → Prop) (A1 : Option Addr) (c1 : Nat) (l1 : List Int) (r : List Int) (w : World) (hs0 : Kd.V (Kd.int .u64) 55 w w.heap.size (fun k_ => P0_ k_) (.slice A0 l0.length c0) l0) (hs1 : Kd.V (Kd.int .u64) 55 w w.heap.size (fun k_ => P1_ k_) (.slice A1 l1.length c1) l1) (h : nat_Sub.f k l0 l1 = some r) :
    Calls Try.prog 77 #[.slice A0 l0.length c0, .slice A1 l1.length c1] w fun e w' => ∃ v0_ : Value, e = .returned (v0_) ∧ Kd.R (Kd.int .u64) 55 w' w.heap.size (fun k_ => (w.heap.size ≤ k_)) v0_ r ∧ Below w.heap.size w w' := by
  have HO0 := Aside0.mk (show Kd.V (Kd.int .u64) 55 w w.heap.size (fun k_ => ((P0_ k_ ∨ P1_ k_) ∨ w.heap.size ≤ k_)) (.slice A0 l0.length c0) l0 from Kd.V_mono hs0 (fun k_ hk => .inl (.inl hk)))
  have HO1 := Aside0.mk (show Kd.V (Kd.int .u64) 55 w w.heap.size (fun k_ => ((P0_ k_ ∨ P1_ k_) ∨ w.heap.size ≤ k_)) (.slice A1 l1.length c1) l1 from Kd.V_mono hs1 (fun k_ hk => .inl (.inr hk)))
  have HB := Aside0.mk (Below.refl w.heap.size w)
  have H : ((nat_Cmp.f l0 l1).bind fun t127 => (if t127 < 0 then (nat_Sub.j0 k l1 l0) else (nat_Sub.j0 k l0 l1))) = some r := h
  clear h
  replace H := Option.bind_eq_some_iff.mp H
  obtain ⟨t127, A30, H⟩ := H
  replace H : (if t127 < 0 then (nat_Sub.j0 k l1 l0) else (nat_Sub.j0 k l0 l1)) = some r := H
  have A3 := Aside0.mk A30
  clear A30
  have HC4 := Aside0.mk H
  clear H
  go_enter Try.func77, Try.ntmps77
  go_upto_if 11 with (first | ((with_reducible refine gate_callee (f := 18) rfl ?_); refine goesL_ (some 10) rfl rfl Try.func18 (by kernel_rfl) rfl #[.slice A0 l0.length c0, .slice A1 l1.length c1] rfl ar_ ?_; (with_reducible refine (nat_Cmp.calls _ _ l0 _ _ l1 t127 _ ?side1 ?side2 ?side3 ?side4 A3.out).mono ?_); (case side1 => repeat (first | exact (Kd.V_reads' HO0.out).2.2 | (with_reducible refine Kd.C_alloc ?_ _) | (with_reducible refine Kd.C_drewN ?_ _) | (with_reducible refine Kd.C_drew ?_))); (case side2 => exact (Kd.V_reads' HO0.out).2.1); (case side3 => repeat (first | exact (Kd.V_reads' HO1.out).2.2 | (with_reducible refine Kd.C_alloc ?_ _) | (with_reducible refine Kd.C_drewN ?_ _) | (with_reducible refine Kd.C_drew ?_))); (case side4 => exact (Kd.V_reads' HO1.out).2.1); rintro e w5 ⟨rfl, hb⟩; refine ⟨_, rfl, ?_⟩; have n0_ := Aside0.mk (Kd.V_below (by (with_reducible repeat (first | apply Kd.V_alloc | apply Kd.V_drewN | apply Kd.V_drew)); exact HO0.out) hb); have n1_ := Aside0.mk (Kd.V_below (by (with_reducible repeat (first | apply Kd.V_alloc | apply Kd.V_drewN | apply Kd.V_drew)); exact HO1.out) hb); have n2_ := Aside0.mk (below_step (dn_ HB) hb); clear HO0; clear HO1; clear HB; have HO0 := n0_; have HO1 := n1_; have HB := n2_; clear n0_ n1_ n2_; (try clear hb); (try clear hk)))
  (try simp only [Act.put, List.setIfInBounds_toArray, List.set_cons_zero, List.set_cons_succ])
  go_cut [0, 1] (fun v0 v1 wc => ∃ (kq : Nat) (x0_3 : List Int) (x1_3 : List Int), Aside0 (nat_Sub.j0 kq x0_3 x1_3 = some r) ∧ Aside0 (kq ≤ k) ∧ Aside0 (Kd.V (Kd.int .u64) 55 wc w.heap.size (fun k_ => ((P0_ k_ ∨ P1_ k_) ∨ w.heap.size ≤ k_)) v0 x0_3) ∧ Aside0 (Kd.V (Kd.int .u64) 55 wc w.heap.size (fun k_ => ((P0_ k_ ∨ P1_ k_) ∨ w.heap.size ≤ k_)) v1 x1_3) ∧ Aside0 (Below w.heap.size w wc))
  case first =>
    have H := HC4.out
    clear HC4
    by_cases c6 : t127 < 0
    · rw [if_pos c6] at H
      have c6b0 : decide (t127 < 0) = true := decide_eq_true c6
      clear c6
      (first | rw [c6b0] | (simp only [i64_w, i32_w]; rw [c6b0]) | skip)
      have H' := Aside0.mk H
      clear H
      go_wp2
      go_meet
      case rel => exact ⟨_, (l1), (l0), H', ⟨by first | omega | exact Nat.le_refl _⟩, ⟨by (with_reducible repeat (first | apply Kd.V_alloc | apply Kd.V_drewN | apply Kd.V_drew)); exact HO1.out⟩, ⟨by (with_reducible repeat (first | apply Kd.V_alloc | apply Kd.V_drewN | apply Kd.V_drew)); exact HO0.out⟩, ⟨dn_ HB⟩⟩
    · rw [if_neg c6] at H
      have c6b0 : decide (t127 < 0) = false := decide_eq_false c6
      clear c6
      (first | rw [c6b0] | (simp only [i64_w, i32_w]; rw [c6b0]) | skip)
      have H' := Aside0.mk H
      clear H
      go_wp2
      go_meet
      case rel => exact ⟨_, (l0), (l1), H', ⟨by first | omega | exact Nat.le_refl _⟩, ⟨by (with_reducible repeat (first | apply Kd.V_alloc | apply Kd.V_drewN | apply Kd.V_drew)); exact HO0.out⟩, ⟨by (with_reducible repeat (first | apply Kd.V_alloc | apply Kd.V_drewN | apply Kd.V_drew)); exact HO1.out⟩, ⟨dn_ HB⟩⟩
  case rest =>
    clear HC4
    try clear c1
    try clear p2
    try clear c6
    try clear c6b0
    obtain ⟨kq, x0_3, x1_3, HA, HJ3, HO_0, HO_1, HB⟩ := hcut
    cases kq with
    | zero => exact absurd HA.out (by simp [nat_Sub.j0])
    | succ kj3 =>
      have H := HA.out
      clear HA
      simp only [nat_Sub.j0] at H
      by_cases c7 : 0 ≤ (x0_3.length : Int)
      · rw [if_pos c7] at H
        have c7b0 := eq_true c7
        have c7b1 : decide (0 ≤ (x0_3.length : Int)) = true := decide_eq_true c7
        clear c7
        by_cases c8 : ((x0_3.length : Int) : Int).toNat ≤ 35184372088832
        · rw [if_pos c8] at H
          have c8b0 := eq_true c8
          have c8b1 : decide (((x0_3.length : Int) : Int).toNat ≤ 35184372088832) = true := decide_eq_true c8
          clear c8
          obtain ⟨y128, hy128⟩ : ∃ y_ : List Int, y_ = (List.replicate ((x0_3.length : Int) : Int).toNat 0) := ⟨_, rfl⟩
          replace H : (nat_Sub.l0 kj3 x0_3 x1_3 y128 0 (y128.length : Int) 0) = some r := by first | (rw [hy128]; with_reducible exact H) | (have H2_ := (Option.bind_some _ _).symm.trans H; rw [hy128]; with_reducible exact H2_) | (have H2_ := (Option.bind_some _ _).symm.trans H; with_reducible exact H2_) | with_reducible exact H | (rw [hy128]; exact H) | exact H
          have Ny128 := Aside0.mk hy128
          clear hy128
          have H' := Aside0.mk H
          clear H
          obtain ⟨Ao9, co9, eo9⟩ := Kd.V_slice HO_0.out
          subst eo9
          go_wp2_with (first | ((with_reducible refine gate_dst (N := 16) rfl ?_); refine Kd.R_make (Kd.int .u64) _ 55 rfl (N := 16) rfl 22 _ _ rfl (x0_3.length : Int) rfl rfl Try.underlying22 (.int .u64 0) 8 info55 rfl (by decide) (by omega) 0 (ok := fun _ => True) (okp := fun _ => True) rfl (fun _ hk => hk) trivial (of_decide_eq_true as_) (Nat.le_trans (Nat.mul_le_mul_right _ (of_decide_eq_true as_ : (x0_3.length : Int).toNat ≤ 35184372088832)) (by omega)) (Below.refl _ _) (Nat.le_refl _) ?_; intro v129 w10 ho11 hb hg_ hnew_; clear hg_ hnew_; (first | rw [← Ny128.out] at ho11 | (simp only [Int.reduceToNat] at ho11; rw [← Ny128.out] at ho11)); have n0_ := Aside0.mk (Kd.V_elder' (by (with_reducible repeat (first | apply Kd.V_alloc | apply Kd.V_drewN | apply Kd.V_drew)); exact HO_0.out) (Kd.R_base ho11) hb); have n1_ := Aside0.mk (Kd.V_elder' (by (with_reducible repeat (first | apply Kd.V_alloc | apply Kd.V_drewN | apply Kd.V_drew)); exact HO_1.out) (Kd.R_base ho11) hb); have n2_ := Aside0.mk (Kd.R_lower (Kd.R_newM (M := fun k_ => (w.heap.size ≤ k_)) ho11 (below_size (dn_ HB)) (fun k_ h_ => h_)) (below_size (dn_ HB))); have n3_ := Aside0.mk (below_step (dn_ HB) hb); clear HO_0; clear HO_1; clear HB; have HO_0 := n0_; have HO_1 := n1_; have HO130 := n2_; have HB := n3_; clear n0_ n1_ n2_ n3_; clear hb ho11; obtain ⟨Ao12, co12, eo12⟩ := Kd.R_slice HO130.out; subst eo12))
          go_loopg [6, 19] kj3 (fun kq v6 v19 w' => ∃ (x5_2 : List Int) (x6_2 : Int) (x19_2 : Int), v6 = .int .u64 x6_2 ∧ v19 = .int .i64 x19_2 ∧ Aside0 (nat_Sub.l0 kq x0_3 x1_3 x5_2 x6_2 (y128.length : Int) x19_2 = some r) ∧ Aside0 (kq ≤ kj3) ∧ Aside0 (Kd.V (Kd.int .u64) 55 w' w.heap.size (fun k_ => ((P0_ k_ ∨ P1_ k_) ∨ w.heap.size ≤ k_) ∧ some k_ ≠ ((.slice Ao12 y128.length co12) : Value).ownBlock) (.slice Ao9 x0_3.length co9) x0_3) ∧ Aside0 (Kd.V (Kd.int .u64) 55 w' w.heap.size (fun k_ => ((P0_ k_ ∨ P1_ k_) ∨ w.heap.size ≤ k_) ∧ some k_ ≠ ((.slice Ao12 y128.length co12) : Value).ownBlock) u1 x1_3) ∧ Aside0 (Kd.R (Kd.int .u64) 55 w' w.heap.size (fun k_ => (w.heap.size ≤ k_)) (.slice Ao12 y128.length co12) x5_2) ∧ Aside0 (Below w.heap.size w w'))
          case atStart => exact ⟨(y128), (0), (0), (by first | rfl | (simp; done) | (simp [*]; done)), (by first | rfl | (simp; done) | (simp [*]; done)), H', ⟨Nat.le_refl _⟩, ⟨by (with_reducible repeat (first | apply Kd.V_alloc | apply Kd.V_drewN | apply Kd.V_drew)); exact HO_0.out⟩, ⟨by (with_reducible repeat (first | apply Kd.V_alloc | apply Kd.V_drewN | apply Kd.V_drew)); exact HO_1.out⟩, ⟨by (with_reducible repeat (first | apply Kd.R_alloc | apply Kd.R_drewN | apply Kd.R_drew)); exact Kd.R_mono HO130.out (fun _ hk => hk.1)⟩, ⟨dn_ HB⟩⟩
          case round =>
            clear H'
            try clear c1
            try clear p2
            try clear c6
            try clear c6b0
            try clear c7
            try clear c7b0
            try clear c7b1
            try clear c8
            try clear c8b0
            try clear c8b1
            try clear p2
            obtain ⟨x5_2, x6_2, x19_2, rfl, rfl, HA, HK2, HO_0, HO_1, HO_5, HB⟩ := hrel
            have hl5_2 := (Kd.R_reads' HO_5.out).1
            rw [hl5_2] at HO_5
            (try simp only [hl5_2])
            (try simp only [hl5_2] at HO_0)
            (try simp only [hl5_2] at HO_1)
            cases gk with
            | zero => exact absurd HA.out (by simp [nat_Sub.l0])
            | succ k2 =>
              have H := HA.out
              clear HA
              simp only [nat_Sub.l0] at H
              by_cases c13 : x19_2 < (y128.length : Int)
              · rw [if_pos c13] at H
                have c13b0 : decide (x19_2 < (y128.length : Int)) = true := decide_eq_true c13
                (try (have c13b0nhl5_2 := c13b0; rw [hl5_2] at c13b0nhl5_2))
                clear c13
                by_cases c14 : 0 ≤ x19_2
                · rw [if_pos c14] at H
                  have c14b0 : decide (0 ≤ x19_2) = true := decide_eq_true c14
                  clear c14
                  by_cases c15 : x19_2 < (x0_3.length : Int)
                  · rw [if_pos c15] at H
                    have c15b0 : decide (x19_2 < (x0_3.length : Int)) = true := decide_eq_true c15
                    (try (have c15b0nhl5_2 := c15b0; rw [hl5_2] at c15b0nhl5_2))
                    clear c15
                    replace H := Option.bind_eq_some_iff.mp H
                    obtain ⟨t132, A160, H⟩ := H
                    replace H : ((bits_Sub64.f (rd x0_3 x19_2) t132 x6_2).bind fun bt133 => (if x19_2 < (x5_2.length : Int) then (nat_Sub.l0 k2 x0_3 x1_3 (x5_2.set (x19_2 : Int).toNat bt133.1) bt133.2 (y128.length : Int) (wrap64 (x19_2 + 1))) else (none))) = some r := H
                    have A16 := Aside0.mk A160
                    clear A160
                    replace H := Option.bind_eq_some_iff.mp H
                    obtain ⟨⟨t133, t134⟩, A170, H⟩ := H
                    replace H : (if x19_2 < (x5_2.length : Int) then (nat_Sub.l0 k2 x0_3 x1_3 (x5_2.set (x19_2 : Int).toNat t133) t134 (y128.length : Int) (wrap64 (x19_2 + 1))) else (none)) = some r := H
                    have A17 := Aside0.mk A170
                    clear A170
                    by_cases c18 : x19_2 < (x5_2.length : Int)
                    · rw [if_pos c18] at H
                      have c18b0 : decide (x19_2 < (x5_2.length : Int)) = true := decide_eq_true c18
                      (try (have c18b0nhl5_2 := c18b0; rw [hl5_2] at c18b0nhl5_2))
                      clear c18
                      obtain ⟨y135, hy135⟩ : ∃ y_ : List Int, y_ = (x5_2.set (x19_2 : Int).toNat t133) := ⟨_, rfl⟩
                      replace H : (nat_Sub.l0 k2 x0_3 x1_3 y135 t134 (y128.length : Int) (wrap64 (x19_2 + 1))) = some r := by first | (rw [hy135]; with_reducible exact H) | (have H2_ := (Option.bind_some _ _).symm.trans H; rw [hy135]; with_reducible exact H2_) | (have H2_ := (Option.bind_some _ _).symm.trans H; with_reducible exact H2_) | with_reducible exact H | (rw [hy135]; exact H) | exact H
                      have Ny135 := Aside0.mk hy135
                      clear hy135
                      have H' := Aside0.mk H
                      clear H
                      try go_wp2
                      have n0_ := Aside0.mk (Kd.V_drew HO_0.out)
                      have n1_ := Aside0.mk (Kd.V_drew HO_1.out)
                      have n2_ := Aside0.mk (Kd.R_drew HO_5.out)
                      have n3_ := Aside0.mk (below_drew1 HB.out)
                      clear HO_0
                      clear HO_1
                      clear HO_5
                      clear HB
                      have HO_0 := n0_
                      have HO_1 := n1_
                      have HO_5 := n2_
                      have HB := n3_
                      clear n0_ n1_ n2_ n3_
                      have p131 : 0 ≤ (x19_2 : Int) := of_decide_eq_true as_
                      have q131 : x19_2 < (x0_3.length : Int) := of_decide_eq_true as_
                      obtain ⟨ad131, e131, hx131_0⟩ := Kd.at_int (Kd.V_reads' HO_0.out).2.2 x19_2 p131 q131
                      cases e131
                      replace p131 := eq_true p131
                      replace q131 := eq_true q131
                      (try (have q131n := q131; simp only [Int.ofNat_lt] at q131n))
                      (try (have q131d := q131; simp only [List.length_drop] at q131d))
                      obtain ⟨Ao21, co21, eo21⟩ := Kd.V_slice HO_1.out
                      (first | subst eo21 | (injection eo21 with f1_ f2_ f3_; have f4_ := f1_.symm; have f5_ := f3_.symm; clear f1_ f2_ f3_; subst f4_; subst f5_))
                      refine start_ (n := 17) (S := fun w' => w'.cell? (ad131.add (x19_2).toNat) = some (.int .u64 (rd x0_3 x19_2))) (ds := [15]) #[false, false, false, false, false, false, false, false, false, false, false, false, false, false, false, false, false] (by kernel_rfl) rfl rfl (hx131_0) (fun hHeld => ?_); refine with_tabW nat_Sub.tab8 nat_Sub.bits8 (fun HT_ HW_ => ?_)
                      generalize wr.drew = w20 at HO_0 HO_1 HO_5 HB hx131_0 hHeld ⊢
                      refine pure_ (i := 0) (N := some 23) (v := ?_) (a' := ?_) #[true, false, false, false, false, false, false, false, false, false, false, false, false, false, false, false, false] rfl rfl (any_of HT_.out (by kernel_rfl)) (fun _ _ _ h => h) (Or.inl ⟨by rfl, ?_⟩) ?_ ?_
                      rotate_left
                      · intro w'
                        go_simp
                        with_reducible rfl
                      rotate_left
                      · simp only [Act.put, List.setIfInBounds_toArray, List.set_cons_zero, List.set_cons_succ, i64_w, i32_w]
                        rfl
                      refine pure_ (i := 1) (N := some 24) (v := ?_) (a' := ?_) #[true, true, false, false, false, false, false, false, false, false, false, false, false, false, false, false, false] rfl rfl (any_of HT_.out (by kernel_rfl)) (fun _ _ _ h => h) (Or.inl ⟨by rfl, ?_⟩) ?_ ?_
                      rotate_left
                      · intro w'
                        go_simp
                        with_reducible rfl
                      rotate_left
                      · simp only [Act.put, List.setIfInBounds_toArray, List.set_cons_zero, List.set_cons_succ, i64_w, i32_w]
                        rfl
                      refine pure_ (i := 2) (N := some 25) (v := ?_) (a' := ?_) #[true, true, true, false, false, false, false, false, false, false, false, false, false, false, false, false, false] rfl rfl (any_of HT_.out (by kernel_rfl)) (fun _ _ _ h => h) (Or.inl ⟨by rfl, ?_⟩) ?_ ?_
                      rotate_left
                      · intro w'
                        go_simp
                        with_reducible rfl
                      rotate_left
                      · simp only [Act.put, List.setIfInBounds_toArray, List.set_cons_zero, List.set_cons_succ, i64_w, i32_w]
                        rfl
                      refine pure_ (i := 3) (N := some 26) (v := ?_) (a' := ?_) #[true, true, true, true, false, false, false, false, false, false, false, false, false, false, false, false, false] rfl rfl (any_of HT_.out (by kernel_rfl)) (fun _ _ _ h => h) (Or.inl ⟨by rfl, ?_⟩) ?_ ?_
                      rotate_left
                      · intro w'
                        go_simp
                        with_reducible rfl
                      rotate_left
                      · simp only [Act.put, List.setIfInBounds_toArray, List.set_cons_zero, List.set_cons_succ, i64_w, i32_w]
                        rfl
                      refine pure_ (i := 4) (N := some 27) (v := ?_) (a' := ?_) #[true, true, true, true, true, false, false, false, false, false, false, false, false, false, false, false, false] rfl rfl (any_of HT_.out (by kernel_rfl)) (fun _ _ _ h => h) (Or.inl ⟨by rfl, ?_⟩) ?_ ?_
                      rotate_left
                      · intro w'
                        go_simp
                        with_reducible rfl
                      rotate_left
                      · simp only [Act.put, List.setIfInBounds_toArray, List.set_cons_zero, List.set_cons_succ, i64_w, i32_w]
                        rfl
                      refine pure_ (i := 6) (N := some 29) (v := ?_) (a' := ?_) #[true, true, true, true, true, false, true, false, false, false, false, false, false, false, false, false, false] rfl rfl (any_of HT_.out (by kernel_rfl)) (fun _ _ _ h => h) (Or.inl ⟨by rfl, ?_⟩) ?_ ?_
                      rotate_left
                      · intro w'
                        go_simp
                        with_reducible rfl
                      rotate_left
                      · simp only [Act.put, List.setIfInBounds_toArray, List.set_cons_zero, List.set_cons_succ, i64_w, i32_w]
                        rfl
                      refine pure_ (i := 7) (N := some 30) (v := ?_) (a' := ?_) #[true, true, true, true, true, false, true, true, false, false, false, false, false, false, false, false, false] rfl rfl (any_of HT_.out (by kernel_rfl)) (fun _ _ _ h => h) (Or.inl ⟨by rfl, ?_⟩) ?_ ?_
                      rotate_left
                      · intro w'
                        go_simp
                        with_reducible rfl
                      rotate_left
                      · simp only [Act.put, List.setIfInBounds_toArray, List.set_cons_zero, List.set_cons_succ, i64_w, i32_w]
                        rfl
                      refine pure_ (i := 9) (N := some 32) (v := ?_) (a' := ?_) #[true, true, true, true, true, false, true, true, false, true, false, false, false, false, false, false, false] rfl rfl (any_of HT_.out (by kernel_rfl)) (fun _ _ _ h => h) (Or.inl ⟨by rfl, ?_⟩) ?_ ?_
                      rotate_left
                      · intro w'
                        go_simp
                        with_reducible rfl
                      rotate_left
                      · simp only [Act.put, List.setIfInBounds_toArray, List.set_cons_zero, List.set_cons_succ, i64_w, i32_w]
                        rfl
                      refine take_ (i := 5) (N := some 28) (v := ?_) (a' := ?_) #[true, true, true, true, true, true, true, true, false, true, false, false, false, false, false, false, false] rfl rfl (take_ofW HT_.out HW_.out (by kernel_rfl)) (fun _ _ _ h => h) (Or.inl ⟨by rfl, ?_⟩) hHeld ?_ ?_
                      rotate_left
                      · intro w' s0
                        go_simp
                        with_reducible rfl
                      rotate_left
                      · simp only [Act.put, List.setIfInBounds_toArray, List.set_cons_zero, List.set_cons_succ, i64_w, i32_w]
                        rfl
                      refine one_ (i := 8) (N := some 31) #[true, true, true, true, true, true, true, true, true, true, false, false, false, false, false, false, false] rfl rfl (one_of HT_.out (by kernel_rfl)) (by decide) (fun K hK => ?_)
                      refine goes_ Try.func59 (by kernel_rfl) rfl #[.slice Ao21 x1_3.length co21, .int .i64 x19_2] (by rfl) rfl rfl ar_ ?_
                      with_reducible refine (nat_at.calls _ _ x1_3 x19_2 t132 _ ?side1 ?side2 A16.out).mono ?_
                      (case side1 => repeat (first | exact (Kd.V_reads' HO_1.out).2.2 | (with_reducible refine Kd.C_alloc ?_ _) | (with_reducible refine Kd.C_drewN ?_ _) | (with_reducible refine Kd.C_drew ?_)))
                      (case side2 => exact (Kd.V_reads' HO_1.out).2.1)
                      rintro e w' ⟨rfl, ⟨nd, rfl⟩⟩
                      refine ⟨_, rfl, ?_⟩
                      refine hK.out _ _ (hHeld) (fun hHeld => ?_)
                      clear hK K
                      refine norm_ (a' := ?_) ?_ ?_
                      rotate_left
                      · show Act.put _ (some 31) _ = _
                        simp only [Act.put, List.setIfInBounds_toArray, List.set_cons_zero, List.set_cons_succ, i64_w, i32_w]
                        rfl
                      refine one_ (i := 10) (N := some 33) #[true, true, true, true, true, true, true, true, true, true, true, false, false, false, false, false, false] rfl rfl (one_of HT_.out (by kernel_rfl)) (by decide) (fun K hK => ?_)
                      refine goesX_ #[.int .u64 (rd x0_3 x19_2), .int .u64 t132, .int .u64 x6_2] (by rfl) rfl rfl ar_ ?_
                      with_reducible refine (bits_Sub64.calls (rd x0_3 x19_2) t132 x6_2 t133 t134 _ A17.out).mono ?_
                      rintro e w' ⟨rfl, ⟨nd, rfl⟩⟩
                      refine ⟨_, rfl, ?_⟩
                      have p19 : 0 ≤ (x19_2 : Int) := of_decide_eq_true as_
                      have q19 : (x19_2 : Int) < ((x5_2.length : Int) : Int) := of_decide_eq_true as_
                      obtain ⟨go19, co19, eo19, gb19, gl19, cl19, HG19⟩ := Kd.R_form HO_5.out (by omega)
                      (first | cases eo19 | (injection eo19 with ea_ en_ ec_; (first | subst ea_ | (injection ea_ with ea_; subst ea_)); subst ec_; clear en_))
                      have GB19 := Aside0.mk gb19
                      have GG19 := Aside0.mk HG19
                      clear gb19 gl19 HG19
                      obtain ⟨hx19_0, hf19_0⟩ := Kd.R_celln 0 HO_5.out (x19_2 : Int) p19 q19
                      (try simp only [Int.toNat_natCast] at hx19_0 hf19_0)
                      replace p19 := eq_true p19
                      replace q19 := eq_true q19
                      (try (have q19n := q19; simp only [Int.ofNat_lt] at q19n))
                      (try (have q19d := q19; simp only [List.length_drop] at q19d))
                      have HP22 := Kd.R_putn HO_5.out (x19_2 : Int) t133
                      rw [← Ny135.out] at HP22
                      have HQ22 := Aside0.mk HP22
                      clear HP22
                      refine hK.out _ _ (hHeld) (fun hHeld => ?_)
                      clear hK K
                      refine norm_ (a' := ?_) ?_ ?_
                      rotate_left
                      · show Act.put _ (some 33) _ = _
                        simp only [Act.put, List.setIfInBounds_toArray, List.set_cons_zero, List.set_cons_succ, i64_w, i32_w]
                        rfl
                      refine pure_ (i := 11) (N := some 22) (v := ?_) (a' := ?_) #[true, true, true, true, true, true, true, true, true, true, true, true, false, false, false, false, false] rfl rfl (any_of HT_.out (by kernel_rfl)) (fun _ _ _ h => h) (Or.inl ⟨by rfl, ?_⟩) ?_ ?_
                      rotate_left
                      · intro w'
                        go_simp
                        with_reducible rfl
                      rotate_left
                      · simp only [Act.put, List.setIfInBounds_toArray, List.set_cons_zero, List.set_cons_succ, i64_w, i32_w]
                        rfl
                      refine pure_ (i := 12) (N := some 34) (v := ?_) (a' := ?_) #[true, true, true, true, true, true, true, true, true, true, true, true, true, false, false, false, false] rfl rfl (any_of HT_.out (by kernel_rfl)) (fun _ _ _ h => h) (Or.inl ⟨by rfl, ?_⟩) ?_ ?_
                      rotate_left
                      · intro w'
                        go_simp
                        with_reducible rfl
                      rotate_left
                      · simp only [Act.put, List.setIfInBounds_toArray, List.set_cons_zero, List.set_cons_succ, i64_w, i32_w]
                        rfl
                      refine pure_ (i := 13) (N := some 35) (v := ?_) (a' := ?_) #[true, true, true, true, true, true, true, true, true, true, true, true, true, true, false, false, false] rfl rfl (any_of HT_.out (by kernel_rfl)) (fun _ _ _ h => h) (Or.inl ⟨by rfl, ?_⟩) ?_ ?_
                      rotate_left
                      · intro w'
                        go_simp
                        with_reducible rfl
                      rotate_left
                      · simp only [Act.put, List.setIfInBounds_toArray, List.set_cons_zero, List.set_cons_succ, i64_w, i32_w]
                        rfl
                      refine pure_ (i := 14) (N := some 36) (v := ?_) (a' := ?_) #[true, true, true, true, true, true, true, true, true, true, true, true, true, true, true, false, false] rfl rfl (any_of HT_.out (by kernel_rfl)) (fun _ _ _ h => h) (Or.inl ⟨by rfl, ?_⟩) ?_ ?_
                      rotate_left
                      · intro w'
                        go_simp
                        with_reducible rfl
                      rotate_left
                      · simp only [Act.put, List.setIfInBounds_toArray, List.set_cons_zero, List.set_cons_succ, i64_w, i32_w]
                        rfl
                      refine last_ (i := 15) (N := none) #[true, true, true, true, true, true, true, true, true, true, true, true, true, true, true, true, false] rfl rfl (one_of HT_.out (by kernel_rfl)) (by decide) (fun K hK => ?_)
                      refine skip_ (w1 := ?_) (by rfl) rfl ?_ ?_
                      rotate_left
                      · go_simp
                        rfl
                      refine hK.out _ _ ?_
                      clear hK K
                      refine pure_ (i := 16) (N := some 6) (v := ?_) (a' := ?_) #[true, true, true, true, true, true, true, true, true, true, true, true, true, true, true, true, true] rfl rfl (any_of HT_.out (by kernel_rfl)) (fun _ _ _ h => h) (Or.inl ⟨by rfl, ?_⟩) ?_ ?_
                      rotate_left
                      · intro w'
                        go_simp
                        with_reducible rfl
                      rotate_left
                      · simp only [Act.put, List.setIfInBounds_toArray, List.set_cons_zero, List.set_cons_succ, i64_w, i32_w]
                        rfl
                      refine done_ (done_of HT_.out (by kernel_rfl)) ?_
                      try go_wp2
                      (try simp only [← hl5_2])
                      go_roundg k2
                      case measure => have := HJ3.out; have := HK2.out; omega
                      case rel => exact ⟨(y135), (t134), (wrap64 (x19_2 + 1)), (by first | rfl | (simp; done) | (simp [*]; done)), (by first | rfl | (simp; done) | (simp [*]; done)), H', ⟨by have := HJ3.out; have := HK2.out; omega⟩, ⟨by (try simp only [hl5_2]); (with_reducible repeat (first | apply Kd.V_alloc | apply Kd.V_drewN | apply Kd.V_drew)); exact Kd.V_mono (Kd.V_far (p := ⟨go19, (x19_2 : Int).toNat, none⟩) (Kd.V_mono HO_0.out (fun k_ hk => (⟨hk, fun e_ => hk.2 (by rw [e_]; rfl)⟩ : _ ∧ k_ ≠ go19))) (fun _ hk => hk.2) (.int .u64 t133)) (fun _ hk => ⟨hk.1.1, hk.1.2⟩)⟩, ⟨by (try simp only [hl5_2]); (with_reducible repeat (first | apply Kd.V_alloc | apply Kd.V_drewN | apply Kd.V_drew)); exact Kd.V_mono (Kd.V_far (p := ⟨go19, (x19_2 : Int).toNat, none⟩) (Kd.V_mono HO_1.out (fun k_ hk => (⟨hk, fun e_ => hk.2 (by rw [e_]; rfl)⟩ : _ ∧ k_ ≠ go19))) (fun _ hk => hk.2) (.int .u64 t133)) (fun _ hk => ⟨hk.1.1, hk.1.2⟩)⟩, ⟨by (try simp only [hl5_2]); (with_reducible repeat (first | apply Kd.R_alloc | apply Kd.R_drewN | apply Kd.R_drew)); exact HQ22.out⟩, ⟨by repeat (first | (with_reducible first | exact HB.out | apply below_alloc | apply pw_below_drewN | apply below_drew1 | refine below_set ?_ GB19.out) | exact HB.out)⟩⟩
                    · rw [if_neg c18] at H
                      exact absurd H (by simp)
                  · rw [if_neg c15] at H
                    exact absurd H (by simp)
                · rw [if_neg c14] at H
                  exact absurd H (by simp)
              · rw [if_neg c13] at H
                have c13b0 : decide (x19_2 < (y128.length : Int)) = false := decide_eq_false c13
                (try (have c13b0nhl5_2 := c13b0; rw [hl5_2] at c13b0nhl5_2))
                clear c13
                replace H := Option.bind_eq_some_iff.mp H
                obtain ⟨t136, A230, H⟩ := H
                replace H : (if 0 ≤ t136 then (if t136 ≤ (x5_2.length : Int) then (some (x5_2.take (t136 : Int).toNat)) else (none)) else (none)) = some r := H
                have A23 := Aside0.mk A230
                clear A230
                by_cases c24 : 0 ≤ t136
                · rw [if_pos c24] at H
                  have c24b0 := eq_true c24
                  have c24b1 : decide (0 ≤ t136) = true := decide_eq_true c24
                  clear c24
                  by_cases c25 : t136 ≤ (x5_2.length : Int)
                  · rw [if_pos c25] at H
                    have c25b0 := eq_true c25
                    have c25b1 : decide (t136 ≤ (x5_2.length : Int)) = true := decide_eq_true c25
                    (try (have c25b1nhl5_2 := c25b1; rw [hl5_2] at c25b1nhl5_2))
                    clear c25
                    obtain ⟨y137, hy137⟩ : ∃ y_ : List Int, y_ = (x5_2.take (t136 : Int).toNat) := ⟨_, rfl⟩
                    replace H : (some y137) = some r := by first | (rw [hy137]; with_reducible exact H) | (have H2_ := (Option.bind_some _ _).symm.trans H; rw [hy137]; with_reducible exact H2_) | (have H2_ := (Option.bind_some _ _).symm.trans H; with_reducible exact H2_) | with_reducible exact H | (rw [hy137]; exact H) | exact H
                    have Ny137 := Aside0.mk hy137
                    clear hy137
                    obtain rfl := Option.some.inj H
                    go_wp2_with (first | ((with_reducible refine gate_callee (f := 56) rfl ?_); refine goesL_ (some 40) rfl rfl Try.func56 (by kernel_rfl) rfl #[.slice Ao12 x5_2.length co12] rfl ar_ ?_; (with_reducible refine (nat_size.calls k2 _ _ x5_2 t136 _ ?side1 ?side2 A23.out).mono ?_); (case side1 => exact cs_ (Kd.R_reads' HO_5.out).2.2); (case side2 => exact (Kd.R_reads' HO_5.out).2.1); rintro e w' ⟨rfl, ⟨nd, rfl⟩⟩; refine ⟨_, rfl, ?_⟩; have q26 : (t136 : Int) ≤ ((x5_2.length : Int) : Int) := of_decide_eq_true as_; obtain ⟨i026, hi026, _, hsz26, _⟩ := info_parts info55; have hcut26 := cut_to (P := Try.prog) 22 55 .i64 Try.underlying22 hi026 Ao12 x5_2.length co12 t136 (of_decide_eq_true as_) q26 (Kd.R_reads' HO_5.out).2.1; have hr26 := Kd.R_take (m := (t136 : Int).toNat) HO_5.out (by omega); have hy26 : y137.length = (t136 : Int).toNat := (by rw [Ny137.out, List.length_take]; omega); rw [← Ny137.out] at hr26; rw [← hy26] at hr26 hcut26; clear hy26 hi026 hsz26 HO_5; have HO139 := Aside0.mk hr26; clear hr26; replace q26 := eq_true q26))
                    go_ret
                    exact ⟨_, er_, by (with_reducible repeat (first | apply Kd.R_alloc | apply Kd.R_drewN | apply Kd.R_drew)); exact HO139.out, dn_ HB⟩
                  · rw [if_neg c25] at H
                    exact absurd H (by simp)
                · rw [if_neg c24] at H
                  exact absurd H (by simp)
        · rw [if_neg c8] at H
          exact absurd H (by simp)
      · rw [if_neg c7] at H
        exact absurd H (by simp)
def nat_Bits.f (k : Nat) (l0 : List Int) : Option (Int) := (nat_size.f k l0).bind fun t102 => (if t102 = 0 then (some 0) else (if 0 ≤ (wrap64 (t102 - 1)) then (if (wrap64 (t102 - 1)) < (l0.length : Int) then ((bits_Len64.f (rd l0 (wrap64 (t102 - 1)))).bind fun t104 => (some (wrap64 ((wrap64 (64 * (wrap64 (t102 - 1)))) + t104)))) else (none)) else (none)))
theorem nat_Bits.mono : ∀ a0 k, LeO (nat_Bits.f k a0) (nat_Bits.f (k + 1) a0) := by
  intro a0 k
  unfold nat_Bits.f
  repeat' first
      | (with_reducible exact nat_size.mono _ _)
      | (with_reducible exact LeO.refl _)
      | (with_reducible exact LeO.none _)
      | (with_reducible refine LeO.ite ?_ ?_)
      | (with_reducible refine LeO.bind ?_ (fun _ => ?_))
      | exact nat_size.mono _ _
      | exact LeO.none _
      | refine LeO.ite ?_ ?_
      | refine LeO.bind ?_ (fun _ => ?_)
set_option maxHeartbeats 8000000 in
set_option maxRecDepth 100000 in
theorem nat_Bits.calls (k : Nat) (A0 : Option Addr) (c0 : Nat) (l0 : List Int) (r : Int) (w : World) (hr0 : Kd.C (Kd.int .u64) w A0 l0.length l0) (hc0 : l0.length ≤ c0) (h : nat_Bits.f k l0 = some r) :
    Calls Try.prog 13 #[.slice A0 l0.length c0] w fun e w' => e = .returned (.int .i64 r) ∧ Drawn0 w w' := by
  have HR0 := Aside0.mk hr0
  have HC0 := Aside0.mk hc0
  clear hr0 hc0
  have H : ((nat_size.f k l0).bind fun t102 => (if t102 = 0 then (some 0) else (if 0 ≤ (wrap64 (t102 - 1)) then (if (wrap64 (t102 - 1)) < (l0.length : Int) then ((bits_Len64.f (rd l0 (wrap64 (t102 - 1)))).bind fun t104 => (some (wrap64 ((wrap64 (64 * (wrap64 (t102 - 1)))) + t104)))) else (none)) else (none)))) = some r := h
  clear h
  replace H := Option.bind_eq_some_iff.mp H
  obtain ⟨t102, A20, H⟩ := H
  replace H : (if t102 = 0 then (some 0) else (if 0 ≤ (wrap64 (t102 - 1)) then (if (wrap64 (t102 - 1)) < (l0.length : Int) then ((bits_Len64.f (rd l0 (wrap64 (t102 - 1)))).bind fun t104 => (some (wrap64 ((wrap64 (64 * (wrap64 (t102 - 1)))) + t104)))) else (none)) else (none))) = some r := H
  have A2 := Aside0.mk A20
  clear A20
  by_cases c3 : t102 = 0
  · rw [if_pos c3] at H
    have c3b0 : (t102 == 0) = true := beq_iff_eq.mpr c3
    have c3b1 : (t102 != 0) = false := bne_eq_false_iff_eq.mpr c3
    clear c3
    obtain rfl := Option.some.inj H
    go_enter Try.func13, Try.ntmps13
    go_wp2_with (first | ((with_reducible refine gate_callee (f := 56) rfl ?_); refine goesL_ (some 5) rfl rfl Try.func56 (by kernel_rfl) rfl #[.slice A0 l0.length c0] rfl ar_ ?_; (with_reducible refine (nat_size.calls k _ _ l0 t102 _ ?side1 ?side2 A2.out).mono ?_); (case side1 => repeat (first | exact HR0.out | (with_reducible refine Kd.C_alloc ?_ _) | (with_reducible refine Kd.C_drewN ?_ _) | (with_reducible refine Kd.C_drew ?_))); (case side2 => exact HC0.out); rintro e w' ⟨rfl, ⟨nd, rfl⟩⟩; refine ⟨_, rfl, ?_⟩))
    go_ret
    exact ⟨by first | rfl | (simp; done) | (simp [*]; done), by repeat (first | exact Drawn0.refl _ | apply Drawn0.step)⟩
  · rw [if_neg c3] at H
    have c3b0 : (t102 == 0) = false := beq_eq_false_iff_ne.mpr c3
    have c3b1 : (t102 != 0) = true := bne_iff_ne.mpr c3
    obtain ⟨ji4, hji4⟩ : ∃ j_ : Int, (wrap64 (t102 - 1)) = j_ := ⟨_, rfl⟩
    replace H : (if 0 ≤ (ji4) then (if (ji4) < (l0.length : Int) then ((bits_Len64.f (rd l0 (ji4))).bind fun t104 => (some (wrap64 ((wrap64 (64 * (ji4))) + t104)))) else (none)) else (none)) = some r := by first | (rw [hji4] at H; exact H) | (simp only [hji4] at H ⊢; exact H)
    (try rw [hji4] at A2)
    have hji4w : (IntKind.i64.wrap (t102 - 1)) = ji4 := (i64_w _).trans hji4
    by_cases c5 : 0 ≤ (ji4)
    · rw [if_pos c5] at H
      have c5b0 : decide (0 ≤ (ji4)) = true := decide_eq_true c5
      clear c5
      by_cases c6 : (ji4) < (l0.length : Int)
      · rw [if_pos c6] at H
        have c6b0 : decide ((ji4) < (l0.length : Int)) = true := decide_eq_true c6
        clear c6
        replace H := Option.bind_eq_some_iff.mp H
        obtain ⟨t104, A70, H⟩ := H
        replace H : (some (wrap64 ((wrap64 (64 * (ji4))) + t104))) = some r := H
        have A7 := Aside0.mk A70
        clear A70
        obtain rfl := Option.some.inj H
        go_enter Try.func13, Try.ntmps13
        go_wp2_with (first | ((with_reducible refine gate_callee (f := 56) rfl ?_); refine goesL_ (some 5) rfl rfl Try.func56 (by kernel_rfl) rfl #[.slice A0 l0.length c0] rfl ar_ ?_; (with_reducible refine (nat_size.calls k _ _ l0 t102 _ ?side1 ?side2 A2.out).mono ?_); (case side1 => repeat (first | exact HR0.out | (with_reducible refine Kd.C_alloc ?_ _) | (with_reducible refine Kd.C_drewN ?_ _) | (with_reducible refine Kd.C_drew ?_))); (case side2 => exact HC0.out); rintro e w' ⟨rfl, ⟨nd, rfl⟩⟩; refine ⟨_, rfl, ?_⟩; have p103 : 0 ≤ ((ji4) : Int) := of_decide_eq_true as_; have q103 : (ji4) < (l0.length : Int) := of_decide_eq_true as_; obtain ⟨ad103, e103, hx103_0⟩ := Kd.at_int HR0.out (ji4) p103 q103; cases e103; replace p103 := eq_true p103; replace q103 := eq_true q103) | ((with_reducible refine gate_callee (f := 57) rfl ?_); refine goesL_ (some 16) rfl rfl Try.func57 (by kernel_rfl) rfl #[.int .u64 (rd l0 (ji4))] rfl (by (try simp only [List.map_toArray, List.map_cons, List.map_nil]); first | done | (simp only [hji4]; rfl) | rfl | (simp only [List.length_drop, List.length_take]; rfl)) ?_; (with_reducible refine (bits_Len64.calls (rd l0 (ji4)) t104 _ A7.out).mono ?_); rintro e w' ⟨rfl, ⟨nd, rfl⟩⟩; refine ⟨_, rfl, ?_⟩))
        go_ret
        exact ⟨by first | rfl | (simp; done) | (simp only [← hji4] <;> (first | rfl | simp)) | (simp [*]; done), by repeat (first | exact Drawn0.refl _ | apply Drawn0.step)⟩
      · rw [if_neg c6] at H
        exact absurd H (by simp)
    · rw [if_neg c5] at H
      exact absurd H (by simp)
end Go.Proofs.Ytjbpchebabhoeaa.P
end
section
set_option linter.unusedVariables false
set_option linter.unusedSimpArgs false
namespace Go.Proofs.Ytjbpchebabhoeaa.Nt
open Go.RowKit Go.Proofs.Ytjbpchebabhoeaa.P Go.Proofs.Ytjbpchebabhoeaa.X Go.Proofs.Ytjbpchebabhoeaa.Bt Go.Proofs.Ytjbpchebabhoeaa.Dg Go.Proofs.YtjbpchebabhoeaaW.PrintWords
abbrev W64 (l : List Int) : Prop := Wf 18446744073709551616 l
abbrev V (l : List Int) : Nat := val 18446744073709551616 l
def L (n : Nat) : List Int := digs 18446744073709551616 n
theorem L_wf (n : Nat) : W64 (L n) := wf_digs (by omega) n
theorem L_val (n : Nat) : V (L n) = n := val_digs (by omega) n
theorem L_zero : L 0 = [] := digs_zero _
theorem L_nil {n : Nat} : L n = [] ↔ n = 0 := digs_eq_nil (by omega)
theorem L_len0 {n : Nat} : (L n).length = 0 ↔ n = 0 := by rw [List.length_eq_zero_iff]; exact L_nil
theorem L_mono {n m : Nat} (h : n ≤ m) : (L n).length ≤ (L m).length := digs_len_mono (by omega) h
theorem L_le {k n : Nat} (h : n < 18446744073709551616 ^ k) : (L n).length ≤ k := digs_length_le (by omega) k n h
theorem lt_L (n : Nat) : n < 18446744073709551616 ^ (L n).length := le_of_digs_length (by omega) n
theorem V_lt {l : List Int} (h : W64 l) : V l < 18446744073709551616 ^ l.length := val_lt h
theorem rd_nat (l : List Int) (i : Nat) : rd l (i : Int) = l.getD i 0 := by simp [rd]
theorem limb {l : List Int} (h : W64 l) (i : Nat) : 0 ≤ l.getD i 0 ∧ l.getD i 0 < 18446744073709551616 := by
  have := h.getD (by omega) i
  omega
theorem szAt_zeros (l : List Int) : ∀ k j : Nat, szAt l k ≤ j → j < k → l.getD j 0 = 0
  | 0, j, _, h => absurd h (by omega)
  | k + 1, j, h1, h2 => by
    simp only [szAt] at h1
    by_cases e : rd l (k : Int) = 0
    · rw [if_pos e] at h1
      by_cases hj : j = k
      · subst hj; rwa [rd_nat] at e
      · exact szAt_zeros l k j h1 (by omega)
    · rw [if_neg e] at h1; omega
theorem szAt_top (l : List Int) : ∀ k : Nat, szAt l k ≠ 0 → l.getD (szAt l k - 1) 0 ≠ 0
  | 0, h => absurd rfl h
  | k + 1, h => by
    simp only [szAt] at h ⊢
    by_cases e : rd l (k : Int) = 0
    · rw [if_pos e] at h ⊢; exact szAt_top l k h
    · rw [if_neg e, Nat.add_sub_cancel]
      rwa [rd_nat] at e
theorem cut_digs {l : List Int} (h : W64 l) : l.take (szAt l l.length) = L (V l) :=
  (digs_take (by omega) h (szAt_le l _) (fun j h1 h2 => szAt_zeros l _ j h1 h2) (szAt_top l _)).symm
theorem sz_len {l : List Int} (h : W64 l) : szAt l l.length = (L (V l)).length := by
  rw [← cut_digs h, List.length_take, Nat.min_eq_left (szAt_le l _)]
theorem Norm_loop {l : List Int} (h : W64 l) (hl : l.length ≤ 17592186044416) : ∀ (n k : Nat), n ≤ l.length → n < k → szAt l l.length = szAt l n → nat_Norm.l0 k l (n : Int) = some (L (V l)) := by
  intro n
  have fin : ∀ m : Nat, m ≤ l.length → szAt l l.length = m → (slices_Clone_uint64_uint64.f (l.take ((m : Int)).toNat)).bind (fun t => some t) = some (L (V l)) := by
    intro m hm he
    rw [Int.toNat_natCast, ← he, cut_digs h]
    unfold slices_Clone_uint64_uint64.f
    rw [if_pos (by have := sz_len h; have := szAt_le l l.length; omega)]
    rfl
  induction n with
  | zero =>
    intro k hn hk hz
    obtain ⟨k, rfl⟩ : ∃ m, k = m + 1 := ⟨k - 1, by omega⟩
    simp only [nat_Norm.l0]
    rw [if_neg (by omega), if_pos (by omega), if_pos (by omega)]
    exact fin 0 (by omega) hz
  | succ n ih =>
    intro k hn hk hz
    obtain ⟨k, rfl⟩ : ∃ m, k = m + 1 := ⟨k - 1, by omega⟩
    simp only [nat_Norm.l0]
    rw [if_pos (by omega), w64 (by omega) (by omega), show (((n + 1 : Nat) : Int) - 1) = (n : Int) by omega, if_pos (by omega), if_pos (by omega)]
    simp only [szAt] at hz
    by_cases e : rd l (n : Int) = 0
    · rw [if_pos e]
      rw [if_pos e] at hz
      exact ih k (by omega) (by omega) hz
    · rw [if_neg e, if_pos (by omega), if_pos (by omega)]
      rw [if_neg e] at hz
      exact fin (n + 1) hn hz
theorem Norm_f {l : List Int} (h : W64 l) (hl : l.length ≤ 17592186044416) {k : Nat} (hk : l.length < k) : nat_Norm.f k l = some (L (V l)) := Norm_loop h hl l.length k (Nat.le_refl _) hk rfl
def sign3 (n m : Nat) : Int := if n < m then -1 else if m < n then 1 else 0
theorem cmpAt_val {a b : List Int} (ha : W64 a) (hb : W64 b) : ∀ n : Nat, n ≤ a.length → n ≤ b.length → cmpAt a b n = sign3 (V (a.take n)) (V (b.take n))
  | 0, _, _ => by simp [cmpAt, sign3, val_nil]
  | n + 1, h1, h2 => by
    simp only [cmpAt]
    rw [cmpAt_val ha hb n (by omega) (by omega), rd_nat, rd_nat]
    have ta := val_take_succ 18446744073709551616 a n
    have tb := val_take_succ 18446744073709551616 b n
    have la : V (a.take n) < 18446744073709551616 ^ n := by have := val_lt (ha.take n); rwa [List.length_take, Nat.min_eq_left (by omega)] at this
    have lb : V (b.take n) < 18446744073709551616 ^ n := by have := val_lt (hb.take n); rwa [List.length_take, Nat.min_eq_left (by omega)] at this
    have ga := limb ha n
    have gb := limb hb n
    unfold V sign3 at *
    generalize 18446744073709551616 ^ n = T at ta tb la lb
    generalize val 18446744073709551616 (a.take n) = x at ta la ⊢
    generalize val 18446744073709551616 (b.take n) = y at tb lb ⊢
    rw [ta, tb]
    clear ta tb
    by_cases e : a.getD n 0 = b.getD n 0
    · rw [if_pos e, e]
      generalize T * (b.getD n 0).toNat = Z
      split
      · rw [if_pos (by omega)]
      · split
        · rw [if_neg (by omega), if_pos (by omega)]
        · rw [if_neg (by omega), if_neg (by omega)]
    · rw [if_neg e]
      by_cases e1 : a.getD n 0 < b.getD n 0
      · rw [if_pos e1]
        have h3 := Nat.mul_le_mul_left T (show (a.getD n 0).toNat + 1 ≤ (b.getD n 0).toNat by omega)
        rw [Nat.mul_add] at h3
        rw [if_pos (by omega)]
      · rw [if_neg e1]
        have h3 := Nat.mul_le_mul_left T (show (b.getD n 0).toNat + 1 ≤ (a.getD n 0).toNat by omega)
        rw [Nat.mul_add] at h3
        rw [if_neg (by omega), if_pos (by omega)]
theorem Cmp_f {a b : List Int} (ha : W64 a) (hb : W64 b) (fa : a.length ≤ 35184372088832) (fb : b.length ≤ 35184372088832) : nat_Cmp.f a b = some (sign3 (V a) (V b)) := by
  unfold nat_Cmp.f
  rw [if_pos ⟨fa, fb⟩]
  have sa := sz_len ha
  have sb := sz_len hb
  have hlt : ∀ u v : Nat, (L u).length < (L v).length → u < v := by
    intro u v hl
    apply Nat.lt_of_not_le
    intro hle
    have := L_mono hle
    omega
  by_cases h : szAt a a.length = szAt b b.length
  · have za := szAt_le a a.length
    have zb := szAt_le b b.length
    rw [if_pos h, cmpAt_val ha hb _ za (by omega)]
    congr 2
    · rw [cut_digs ha, L_val]
    · rw [h, cut_digs hb, L_val]
  · rw [if_neg h]
    unfold sign3
    by_cases h1 : szAt a a.length < szAt b b.length
    · rw [if_pos h1, if_pos (hlt _ _ (by omega))]
    · rw [if_neg h1]
      have := hlt (V b) (V a) (by omega)
      rw [if_neg (by omega), if_pos this]
theorem at_f (l : List Int) (i : Nat) : nat_at.f l (i : Int) = some (l.getD i 0) := by
  unfold nat_at.f
  by_cases h : (i : Int) < (l.length : Int)
  · rw [if_pos h, if_pos (by omega), rd_nat]
  · rw [if_neg h, getD_ge (by omega)]
theorem Add64_f {x y c : Int} (hx : 0 ≤ x) (hy : 0 ≤ y) (hc : 0 ≤ c) (hc1 : c ≤ 1) : bits_Add64.f x y c = some ((x + y + c) % 18446744073709551616, (x + y + c) / 18446744073709551616) := by
  unfold bits_Add64.f
  rw [if_pos ⟨hx, hy, hc, hc1⟩]
theorem take_set {l : List Int} {i : Nat} (h : i < l.length) (x : Int) : (l.set i x).take (i + 1) = l.take i ++ [x] := by
  rw [List.take_succ_eq_append_getElem (by rw [List.length_set]; exact h), List.take_set_of_le (Nat.le_refl _), List.getElem_set_self]
theorem V_snoc (l : List Int) (x : Int) : V (l ++ [x]) = V l + 18446744073709551616 ^ l.length * x.toNat := by
  unfold V
  rw [val_append, val_cons, val_nil, Nat.mul_zero, Nat.add_zero]
theorem fin_size {out : List Int} (h : W64 out) (hl : out.length ≤ 35184372088832) {k : Nat} (hk : out.length < k) :
    ((nat_size.f k out).bind fun t => (if 0 ≤ t then (if t ≤ (out.length : Int) then (some (out.take (t : Int).toNat)) else (none)) else (none))) = some (L (V out)) := by
  rw [size_f hl hk, Option.bind_some]
  have := szAt_le out out.length
  rw [if_pos (by omega), if_pos (by omega), Int.toNat_natCast, cut_digs h]
theorem pow_le {i j : Nat} (h : i ≤ j) : 18446744073709551616 ^ i ≤ 18446744073709551616 ^ j := Nat.pow_le_pow_right (by omega) h
theorem Add_loop {a b : List Int} (ha : W64 a) (hb : W64 b) (N : Nat) (hN : max a.length b.length + 1 = N) (hN2 : N ≤ 35184372088832) (d : Nat) : ∀ (i : Nat) (out : List Int) (c : Int) (k : Nat), i + d = N → d + N + 2 < k → out.length = N → W64 out → 0 ≤ c → c ≤ 1 →
    V (out.take i) + 18446744073709551616 ^ i * (c.toNat + V (a.drop i) + V (b.drop i)) = V a + V b →
    nat_Add.l0 k a b out c (N : Int) (i : Int) = some (L (V a + V b)) := by
  induction d with
  | zero =>
    intro i out c k hi hk hl hw h0 h1 hv
    obtain ⟨k, rfl⟩ : ∃ m, k = m + 1 := ⟨k - 1, by omega⟩
    simp only [nat_Add.l0]
    rw [if_neg (by omega), fin_size hw (by omega) (by omega)]
    rw [List.drop_eq_nil_of_le (by omega), List.drop_eq_nil_of_le (by omega), List.take_of_length_le (by omega)] at hv
    unfold V at *
    simp only [val_nil, Nat.add_zero] at hv
    have la := Nat.lt_of_lt_of_le (val_lt ha) (pow_le (show a.length ≤ N - 1 by omega))
    have lb := Nat.lt_of_lt_of_le (val_lt hb) (pow_le (show b.length ≤ N - 1 by omega))
    have e : 18446744073709551616 ^ N = 18446744073709551616 ^ (N - 1) * 18446744073709551616 := by rw [← Nat.pow_succ]; congr 1; omega
    have hi2 : i = N := by omega
    rw [hi2, e] at hv
    generalize 18446744073709551616 ^ (N - 1) = T at la lb hv
    have hc : c = 0 := by
      rcases (show c = 0 ∨ c = 1 by omega) with h | h
      · exact h
      · subst h
        rw [show (1 : Int).toNat = 1 from rfl] at hv
        omega
    subst hc
    rw [show (0 : Int).toNat = 0 from rfl, Nat.mul_zero, Nat.add_zero] at hv
    rw [hv]
  | succ d ih =>
    intro i out c k hi hk hl hw h0 h1 hv
    obtain ⟨k, rfl⟩ : ∃ m, k = m + 1 := ⟨k - 1, by omega⟩
    have da := limb ha i
    have db := limb hb i
    simp only [nat_Add.l0]
    rw [if_pos (by omega), at_f, at_f, Option.bind_some, Option.bind_some, Add64_f da.1 db.1 h0 h1, Option.bind_some, if_pos (by omega), if_pos (by omega), w64 (by omega) (by omega), Int.toNat_natCast]
    have := ih (i + 1) (out.set i ((a.getD i 0 + b.getD i 0 + c) % 18446744073709551616)) ((a.getD i 0 + b.getD i 0 + c) / 18446744073709551616) k (by omega) (by omega) (by rw [List.length_set]; exact hl) (hw.set i (by omega) (by omega)) (by omega) (by omega) ?_
    · rw [← this]; congr 1
    · rw [take_set (by omega), V_snoc, List.length_take, Nat.min_eq_left (by omega), ← hv, Nat.pow_succ]
      unfold V
      rw [val_drop 18446744073709551616 a i, val_drop 18446744073709551616 b i]
      have e : c.toNat + ((a.getD i 0).toNat + 18446744073709551616 * val 18446744073709551616 (a.drop (i + 1))) + ((b.getD i 0).toNat + 18446744073709551616 * val 18446744073709551616 (b.drop (i + 1))) = ((a.getD i 0 + b.getD i 0 + c) % 18446744073709551616).toNat + 18446744073709551616 * (((a.getD i 0 + b.getD i 0 + c) / 18446744073709551616).toNat + val 18446744073709551616 (a.drop (i + 1)) + val 18446744073709551616 (b.drop (i + 1))) := by omega
      rw [e]
      generalize ((a.getD i 0 + b.getD i 0 + c) / 18446744073709551616).toNat + val 18446744073709551616 (a.drop (i + 1)) + val 18446744073709551616 (b.drop (i + 1)) = Z
      rw [Nat.mul_add, Nat.mul_assoc, Nat.add_assoc]
theorem mx_max (x y : Nat) : mx (x : Int) (y : Int) = ((max x y : Nat) : Int) := by
  unfold mx
  split <;> omega
theorem Add_f {a b : List Int} (ha : W64 a) (hb : W64 b) (fa : a.length < 35184372088832) (fb : b.length < 35184372088832) {k : Nat} (hk : 2 * max a.length b.length + 10 < k) : nat_Add.f k a b = some (L (V a + V b)) := by
  unfold nat_Add.f
  rw [mx_max, w64 (by omega) (by omega)]
  obtain ⟨N, hN⟩ : ∃ N, max a.length b.length + 1 = N := ⟨_, rfl⟩
  rw [show (((max a.length b.length : Nat) : Int) + 1) = (N : Int) by omega, if_pos (by omega), Int.toNat_natCast, if_pos (by omega), Option.bind_some, List.length_replicate]
  exact Add_loop ha hb N hN (by omega) N 0 (List.replicate N 0) 0 k (by omega) (by omega) (by simp) (Wf.zeros (by omega) _) (by omega) (by omega) (by simp [val_nil])
theorem Sub64_f {x y c : Int} (hx : 0 ≤ x) (hy : 0 ≤ y) (hy1 : y < 18446744073709551616) (hc : 0 ≤ c) (hc1 : c ≤ 1) : bits_Sub64.f x y c = some ((x - y - c) % 18446744073709551616, if x < y + c then 1 else 0) := by
  unfold bits_Sub64.f
  rw [if_pos ⟨hx, hy, hc, hc1, hy1⟩]
theorem Sub_loop {a b : List Int} (ha : W64 a) (hb : W64 b) (hl2 : (L (V b)).length ≤ a.length) (fa : a.length ≤ 35184372088832) (hge : V b ≤ V a) (hbl : V (b.drop a.length) = 0) (d : Nat) : ∀ (i : Nat) (out : List Int) (c : Int) (k : Nat), i + d = a.length → d + a.length + 2 < k → out.length = a.length → W64 out → 0 ≤ c → c ≤ 1 →
    (V (out.take i) : Int) + (18446744073709551616 ^ i : Nat) * ((V (a.drop i) : Int) - V (b.drop i) - c) = (V a : Int) - V b →
    nat_Sub.l0 k a b out c (a.length : Int) (i : Int) = some (L (V a - V b)) := by
  induction d with
  | zero =>
    intro i out c k hi hk hl hw h0 h1 hv
    obtain ⟨k, rfl⟩ : ∃ m, k = m + 1 := ⟨k - 1, by omega⟩
    simp only [nat_Sub.l0]
    rw [if_neg (by omega), fin_size hw (by omega) (by omega)]
    have hi2 : i = a.length := by omega
    rw [hi2, hbl, List.drop_length, List.take_of_length_le (by omega)] at hv
    have ho := V_lt hw
    rw [hl] at ho
    unfold V at *
    simp only [val_nil] at hv
    generalize 18446744073709551616 ^ a.length = T at ho hv
    have hc : c = 0 := by
      rcases (show c = 0 ∨ c = 1 by omega) with h | h
      · exact h
      · subst h
        omega
    subst hc
    congr 2
    omega
  | succ d ih =>
    intro i out c k hi hk hl hw h0 h1 hv
    obtain ⟨k, rfl⟩ : ∃ m, k = m + 1 := ⟨k - 1, by omega⟩
    have da := limb ha i
    have db := limb hb i
    simp only [nat_Sub.l0]
    rw [if_pos (by omega), if_pos (by omega), if_pos (by omega), at_f, Option.bind_some, rd_nat, Sub64_f da.1 db.1 db.2 h0 h1, Option.bind_some, if_pos (by omega), w64 (by omega) (by omega), Int.toNat_natCast]
    have := ih (i + 1) (out.set i ((a.getD i 0 - b.getD i 0 - c) % 18446744073709551616)) (if a.getD i 0 < b.getD i 0 + c then 1 else 0) k (by omega) (by omega) (by rw [List.length_set]; exact hl) (hw.set i (by omega) (by omega)) (by split <;> omega) (by split <;> omega) ?_
    · rw [← this]; congr 1
    · rw [take_set (by omega), V_snoc, List.length_take, Nat.min_eq_left (by omega), ← hv, Nat.pow_succ]
      unfold V
      rw [val_drop 18446744073709551616 a i, val_drop 18446744073709551616 b i]
      have e : ((((a.getD i 0).toNat + 18446744073709551616 * val 18446744073709551616 (a.drop (i + 1)) : Nat) : Int) - (((b.getD i 0).toNat + 18446744073709551616 * val 18446744073709551616 (b.drop (i + 1)) : Nat) : Int) - c) = (((a.getD i 0 - b.getD i 0 - c) % 18446744073709551616).toNat : Int) + 18446744073709551616 * ((val 18446744073709551616 (a.drop (i + 1)) : Int) - (val 18446744073709551616 (b.drop (i + 1)) : Int) - (if a.getD i 0 < b.getD i 0 + c then 1 else 0)) := by
        split <;> omega
      rw [e]
      generalize ((val 18446744073709551616 (a.drop (i + 1)) : Int) - (val 18446744073709551616 (b.drop (i + 1)) : Int) - (if a.getD i 0 < b.getD i 0 + c then 1 else 0)) = Z
      rw [Int.mul_add, Int.natCast_add, Int.natCast_mul, Int.natCast_mul, ← Int.mul_assoc, Int.add_assoc]
      rfl
theorem Sub_j {a b : List Int} (ha : W64 a) (hb : W64 b) (fa : a.length ≤ 35184372088832) (hge : V b ≤ V a) {k : Nat} (hk : 2 * a.length + 10 < k) : nat_Sub.j0 k a b = some (L (V a - V b)) := by
  obtain ⟨k, rfl⟩ : ∃ m, k = m + 1 := ⟨k - 1, by omega⟩
  simp only [nat_Sub.j0]
  rw [if_pos (by omega), Int.toNat_natCast, if_pos (by omega), Option.bind_some, List.length_replicate]
  have hbl : V (b.drop a.length) = 0 := by
    have h1 := val_split 18446744073709551616 b a.length
    have h2 := V_lt ha
    unfold V at *
    rcases Nat.eq_zero_or_pos (val 18446744073709551616 (b.drop a.length)) with h | h
    · exact h
    · have := Nat.mul_le_mul_left (18446744073709551616 ^ a.length) h
      omega
  exact Sub_loop ha hb (L_le (Nat.lt_of_le_of_lt hge (V_lt ha))) fa hge hbl a.length 0 (List.replicate a.length 0) 0 k (by omega) (by omega) (by simp) (Wf.zeros (by omega) _) (by omega) (by omega) (by simp [val_nil])
theorem Sub_f {a b : List Int} (ha : W64 a) (hb : W64 b) (fa : a.length ≤ 35184372088832) (fb : b.length ≤ 35184372088832) {k : Nat} (hk : 2 * (a.length + b.length) + 20 < k) : nat_Sub.f k a b = some (L (if V a < V b then V b - V a else V a - V b)) := by
  unfold nat_Sub.f
  rw [Cmp_f ha hb fa fb, Option.bind_some]
  unfold sign3
  by_cases h : V a < V b
  · rw [if_pos h, if_pos h, if_pos (by omega)]
    exact Sub_j hb ha fb (by omega) (by omega)
  · rw [if_neg h, if_neg h]
    have : ¬ ((if V b < V a then (1 : Int) else 0) < 0) := by split <;> omega
    rw [if_neg this]
    exact Sub_j ha hb fa (by omega) (by omega)
theorem Bits_f {l : List Int} (h : W64 l) (hl : l.length ≤ 35184372088832) {k : Nat} (hk : l.length < k) : nat_Bits.f k l = some ((blen (V l) : Nat) : Int) := by
  unfold nat_Bits.f
  rw [size_f hl hk, Option.bind_some]
  have hz := szAt_le l l.length
  have ht := szAt_top l l.length
  have hd := cut_digs h
  have hs := val_split 18446744073709551616 l (szAt l l.length)
  have h0 : V (l.drop (szAt l l.length)) = 0 := by
    have h3 := congrArg V hd
    rw [L_val] at h3
    unfold V at *
    rw [h3] at hs
    have := Nat.pow_pos (n := szAt l l.length) (show 0 < 18446744073709551616 by omega)
    rcases Nat.eq_zero_or_pos (val 18446744073709551616 (l.drop (szAt l l.length))) with h4 | h4
    · exact h4
    · have := Nat.mul_pos this h4
      omega
  obtain ⟨s, es⟩ : ∃ s, szAt l l.length = s := ⟨_, rfl⟩
  rw [es] at hz ht hd hs h0 ⊢
  unfold V at *
  rw [h0, Nat.mul_zero, Nat.add_zero] at hs
  by_cases e : s = 0
  · subst e
    rw [if_pos (show ((0 : Nat) : Int) = 0 from rfl), hs, List.take_zero, val_nil, blen_zero]
    rfl
  · rw [if_neg (by omega), w64 (x := (s : Int) - 1) (by omega) (by omega), if_pos (by omega), if_pos (by omega)]
    obtain ⟨m, rfl⟩ : ∃ m, s = m + 1 := ⟨s - 1, by omega⟩
    rw [show ((m + 1 : Nat) : Int) - 1 = (m : Int) by omega, rd_nat]
    rw [Nat.add_sub_cancel] at ht
    have hm := limb h m
    have hx := ht (by omega)
    obtain ⟨x, hxx⟩ : ∃ x : Nat, (l.getD m 0) = (x : Int) := ⟨(l.getD m 0).toNat, by omega⟩
    rw [val_take_succ, hxx, Int.toNat_natCast] at hs
    rw [hxx] at hm hx ⊢
    unfold bits_Len64.f
    rw [if_pos (by omega), Option.bind_some, Int.toNat_natCast, bitLen_eq x (by omega)]
    have hxl : blen x ≤ 64 := blen_le (by omega)
    rw [w64 (x := 64 * (m : Int)) (by omega) (by omega), w64 (by omega) (by omega)]
    have hlow : val 18446744073709551616 (l.take m) < 18446744073709551616 ^ m := by
      have := val_lt (h.take m)
      rwa [List.length_take, Nat.min_eq_left (by omega)] at this
    have e2 : (18446744073709551616 : Nat) ^ m = 2 ^ (64 * m) := by rw [Nat.pow_mul]
    have hb : blen (val 18446744073709551616 l) = 64 * m + blen x := by
      have hxp : 0 < x := by omega
      have b1 := blen_ge hxp
      have b2 := lt_blen x
      have b3 := blen_pos hxp
      obtain ⟨t, htt⟩ : ∃ t, blen x = t + 1 := ⟨blen x - 1, by omega⟩
      rw [htt] at b1 b2 ⊢
      rw [Nat.add_sub_cancel] at b1
      rw [show 64 * m + (t + 1) = (64 * m + t) + 1 by omega]
      apply blen_eq
      · rw [hs, e2, Nat.pow_add]
        have := Nat.mul_le_mul_left (2 ^ (64 * m)) b1
        omega
      · rw [hs, e2, show 64 * m + t + 1 = 64 * m + (t + 1) by omega, Nat.pow_add]
        rw [e2] at hlow
        have := Nat.mul_le_mul_left (2 ^ (64 * m)) (show x + 1 ≤ 2 ^ (t + 1) by omega)
        rw [Nat.mul_add] at this
        omega
    rw [hb]
    congr 1
end Go.Proofs.Ytjbpchebabhoeaa.Nt
end
section
namespace Go.Proofs.Ytjbpchebabhoeaa.P
open Go.RowKit Go.Proofs.YtjbpchebabhoeaaW.PrintWords Go.Proofs.YtjbpchebabhoeaaW.PrintLast Go.Proofs.YtjbpchebabhoeaaW.PrintMore Go.Proofs.Ytjbpchebabhoeaa.X
attribute [local go_sem] max2_int min2_int max_two min_two max_three min_three max_four min_four
set_option linter.unusedVariables false
set_option linter.unusedSimpArgs false
def nat_row.l0 : Nat → List Int → List Int → Int → Int → List Int → Int → Int → Option (List Int)
  | 0, _, _, _, _, _, _, _ => none
  | k + 1, x0, x1, x2, x6, x12, x13, x14 => if x14 < x13 then (if 0 ≤ x14 then (if x14 < (x12.length : Int) then ((bits_Mul64.f x2 (rd x12 x14)).bind fun bt181 => ((bits_Add64.f bt181.2 x6 0).bind fun bt183 => (if x14 < (x0.length : Int) then ((bits_Add64.f (rd x0 x14) bt183.1 0).bind fun bt186 => (nat_row.l0 k (x0.set (x14 : Int).toNat bt186.1) x1 x2 (IntKind.u64.wrap ((IntKind.u64.wrap (bt181.1 + bt183.2)) + bt186.2)) x12 x13 (wrap64 (x14 + 1)))) else (none)))) else (none)) else (none)) else (if 0 ≤ (x1.length : Int) then (if (x1.length : Int) < (x0.length : Int) then (some (x0.set ((x1.length : Int) : Int).toNat x6)) else (none)) else (none))
def nat_row.f (k : Nat) (l0 : List Int) (l1 : List Int) (a2 : Int) : Option (List Int) := nat_row.l0 k l0 l1 a2 0 l1 (l1.length : Int) 0
theorem nat_row.mono_l : ∀ k, (∀ y0 y1 y2 y3 y4 y5 y6, LeO (nat_row.l0 k y0 y1 y2 y3 y4 y5 y6) (nat_row.l0 (k + 1) y0 y1 y2 y3 y4 y5 y6))
  | 0 => fun _ _ _ _ _ _ _ r h => by simp [nat_row.l0] at h
  | k + 1 => by
    have ih0 := nat_row.mono_l k
    · intro y0 y1 y2 y3 y4 y5 y6
      unfold nat_row.l0
      repeat' first
      | (with_reducible exact ih0 _ _ _ _ _ _ _)
      | (with_reducible exact LeO.refl _)
      | (with_reducible exact LeO.none _)
      | (with_reducible refine LeO.ite ?_ ?_)
      | (with_reducible refine LeO.bind ?_ (fun _ => ?_))
      | exact ih0 _ _ _ _ _ _ _
      | exact LeO.none _
      | refine LeO.ite ?_ ?_
      | refine LeO.bind ?_ (fun _ => ?_)
theorem nat_row.mono : ∀ a0 a1 a2 k, LeO (nat_row.f k a0 a1 a2) (nat_row.f (k + 1) a0 a1 a2) := by
  intro a0 a1 a2 k
  have ih0 := nat_row.mono_l k
  unfold nat_row.f
  repeat' first
      | (with_reducible exact ih0 _ _ _ _ _ _ _)
      | (with_reducible exact LeO.refl _)
      | (with_reducible exact LeO.none _)
      | (with_reducible refine LeO.ite ?_ ?_)
      | (with_reducible refine LeO.bind ?_ (fun _ => ?_))
      | exact ih0 _ _ _ _ _ _ _
      | exact LeO.none _
      | refine LeO.ite ?_ ?_
      | refine LeO.bind ?_ (fun _ => ?_)
set_option maxHeartbeats 8000000 in
set_option maxRecDepth 100000 in
theorem nat_row.calls (k : Nat) (P0_ : Nat → Prop) (u9000_ : Value) (l0 : List Int) (A1 : Option Addr) (c1 : Nat) (l1 : List Int) (a2 : Int) (r : List Int) (w0 w : World) (hB : Below w0.heap.size w0 w) (ho0 : Kd.R (Kd.int .u64) 55 w w0.heap.size P0_ u9000_ l0) (hr1 : ∀ W_, Kept w W_ (fun k_ => P0_ k_) → Kd.C (Kd.int .u64) W_ A1 l1.length l1) (hc1 : l1.length ≤ c1) (h : nat_row.f k l0 l1 a2 = some r) :
    Calls Try.prog 60 #[u9000_, .slice A1 l1.length c1, .int .u64 a2] w fun e w' => e = .returned (.tuple #[]) ∧ Kd.R (Kd.int .u64) 55 w' w0.heap.size (fun k_ => (P0_ k_ ∨ w.heap.size ≤ k_)) u9000_ r ∧ Below w0.heap.size w0 w' ∧ Kept w w' (fun k_ => P0_ k_) := by
  have HO0 := Aside0.mk (show Kd.R (Kd.int .u64) 55 w w0.heap.size (fun k_ => (P0_ k_ ∨ w.heap.size ≤ k_)) u9000_ l0 from Kd.R_mono ho0 (fun k_ hk => (.inl hk)))
  have HR1 := Aside0.mk hr1
  have HC1 := Aside0.mk hc1
  clear hr1 hc1
  have HK := Aside0.mk (Kept.refl w (fun k_ => P0_ k_))
  have HW0 := Aside0.mk hB.size
  have HB := Aside0.mk hB
  clear hB
  have H : (nat_row.l0 k l0 l1 a2 0 l1 (l1.length : Int) 0) = some r := h
  clear h
  have H' := Aside0.mk H
  clear H
  go_enter Try.func60, Try.ntmps60
  go_wp2
  go_loopg [6, 14] k (fun kq v6 v14 w' => ∃ (x0_1 : List Int) (x6_1 : Int) (x14_1 : Int), v6 = .int .u64 x6_1 ∧ v14 = .int .i64 x14_1 ∧ Aside0 (nat_row.l0 kq x0_1 l1 a2 x6_1 l1 (l1.length : Int) x14_1 = some r) ∧ Aside0 (kq ≤ k) ∧ Aside0 (Kd.R (Kd.int .u64) 55 w' w0.heap.size (fun k_ => (P0_ k_ ∨ w.heap.size ≤ k_)) u9000_ x0_1) ∧ Aside0 (Kept w w' (fun k_ => P0_ k_)) ∧ Aside0 (Below w0.heap.size w0 w'))
  case atStart => exact ⟨(l0), (0), (0), (by first | rfl | (simp; done) | (simp [*]; done)), (by first | rfl | (simp; done) | (simp [*]; done)), H', ⟨Nat.le_refl _⟩, ⟨by (with_reducible repeat (first | apply Kd.R_alloc | apply Kd.R_drewN | apply Kd.R_drew)); exact HO0.out⟩, ⟨by repeat (first | (with_reducible first | exact HK.out | apply Kept.alloc | apply Kept.drewN | apply Kept.drew) | exact HK.out)⟩, ⟨dn_ HB⟩⟩
  case round =>
    clear H'
    try clear c1
    try clear p2
    obtain ⟨x0_1, x6_1, x14_1, rfl, rfl, HA, HK1, HO_0, HK, HB⟩ := hrel
    cases gk with
    | zero => exact absurd HA.out (by simp [nat_row.l0])
    | succ k1 =>
      have H := HA.out
      clear HA
      simp only [nat_row.l0] at H
      by_cases c4 : x14_1 < (l1.length : Int)
      · rw [if_pos c4] at H
        have c4b0 : decide (x14_1 < (l1.length : Int)) = true := decide_eq_true c4
        clear c4
        by_cases c5 : 0 ≤ x14_1
        · rw [if_pos c5] at H
          have c5b0 : decide (0 ≤ x14_1) = true := decide_eq_true c5
          clear c5
          by_cases c6 : x14_1 < (l1.length : Int)
          · rw [if_pos c6] at H
            have c6b0 : decide (x14_1 < (l1.length : Int)) = true := decide_eq_true c6
            clear c6
            replace H := Option.bind_eq_some_iff.mp H
            obtain ⟨⟨t181, t182⟩, A70, H⟩ := H
            replace H : ((bits_Add64.f t182 x6_1 0).bind fun bt183 => (if x14_1 < (x0_1.length : Int) then ((bits_Add64.f (rd x0_1 x14_1) bt183.1 0).bind fun bt186 => (nat_row.l0 k1 (x0_1.set (x14_1 : Int).toNat bt186.1) l1 a2 (IntKind.u64.wrap ((IntKind.u64.wrap (t181 + bt183.2)) + bt186.2)) l1 (l1.length : Int) (wrap64 (x14_1 + 1)))) else (none))) = some r := H
            have A7 := Aside0.mk A70
            clear A70
            replace H := Option.bind_eq_some_iff.mp H
            obtain ⟨⟨t183, t184⟩, A80, H⟩ := H
            replace H : (if x14_1 < (x0_1.length : Int) then ((bits_Add64.f (rd x0_1 x14_1) t183 0).bind fun bt186 => (nat_row.l0 k1 (x0_1.set (x14_1 : Int).toNat bt186.1) l1 a2 (IntKind.u64.wrap ((IntKind.u64.wrap (t181 + t184)) + bt186.2)) l1 (l1.length : Int) (wrap64 (x14_1 + 1)))) else (none)) = some r := H
            have A8 := Aside0.mk A80
            clear A80
            by_cases c9 : x14_1 < (x0_1.length : Int)
            · rw [if_pos c9] at H
              have c9b0 : decide (x14_1 < (x0_1.length : Int)) = true := decide_eq_true c9
              clear c9
              replace H := Option.bind_eq_some_iff.mp H
              obtain ⟨⟨t186, t187⟩, A100, H⟩ := H
              replace H : (nat_row.l0 k1 (x0_1.set (x14_1 : Int).toNat t186) l1 a2 (IntKind.u64.wrap ((IntKind.u64.wrap (t181 + t184)) + t187)) l1 (l1.length : Int) (wrap64 (x14_1 + 1))) = some r := H
              have A10 := Aside0.mk A100
              clear A100
              obtain ⟨y188, hy188⟩ : ∃ y_ : List Int, y_ = (x0_1.set (x14_1 : Int).toNat t186) := ⟨_, rfl⟩
              replace H : (nat_row.l0 k1 y188 l1 a2 (IntKind.u64.wrap ((IntKind.u64.wrap (t181 + t184)) + t187)) l1 (l1.length : Int) (wrap64 (x14_1 + 1))) = some r := by first | (rw [hy188]; with_reducible exact H) | (have H2_ := (Option.bind_some _ _).symm.trans H; rw [hy188]; with_reducible exact H2_) | (have H2_ := (Option.bind_some _ _).symm.trans H; with_reducible exact H2_) | with_reducible exact H | (rw [hy188]; exact H) | exact H
              have Ny188 := Aside0.mk hy188
              clear hy188
              have H' := Aside0.mk H
              clear H
              have p180 : 0 ≤ (x14_1 : Int) := of_decide_eq_true as_
              have q180 : x14_1 < (l1.length : Int) := of_decide_eq_true as_
              obtain ⟨ad180, e180, hx180_0⟩ := Kd.at_int (Kd.C_kept_now HR1.out HK.out) x14_1 p180 q180
              cases e180
              replace p180 := eq_true p180
              replace q180 := eq_true q180
              (try (have q180n := q180; simp only [Int.ofNat_lt] at q180n))
              (try (have q180d := q180; simp only [List.length_drop] at q180d))
              go_wp2_with (first | ((with_reducible refine gate_callee (f := 89) rfl ?_); refine goesL_ (some 22) rfl rfl Try.func89 (by kernel_rfl) rfl #[.int .u64 a2, .int .u64 (rd l1 x14_1)] rfl ar_ ?_; (with_reducible refine (bits_Mul64.calls a2 (rd l1 x14_1) t181 t182 _ A7.out).mono ?_); rintro e w' ⟨rfl, ⟨nd, rfl⟩⟩; refine ⟨_, rfl, ?_⟩; (try (rw [drewN_self wr]; generalize hq_ : World.drewN wr _ = wr; have n0_ : Aside0 (Kd.R (Kd.int .u64) 55 wr w0.heap.size (fun k_ => (P0_ k_ ∨ w.heap.size ≤ k_)) u9000_ x0_1) := ⟨by rw [← hq_]; exact (up_ HO_0)⟩; have n1_ : Aside0 (Kept w wr (fun k_ => P0_ k_)) := ⟨by rw [← hq_]; exact (by repeat (first | (with_reducible first | exact HK.out | apply Kept.alloc | apply Kept.drewN | apply Kept.drew) | exact HK.out))⟩; have n2_ : Aside0 (Below w0.heap.size w0 wr) := ⟨by rw [← hq_]; exact (dn_ HB)⟩; clear HO_0 HK HB hq_; have HO_0 := n0_; have HK := n1_; have HB := n2_; clear n0_ n1_ n2_))) | ((with_reducible refine gate_callee (f := 58) rfl ?_); refine goesXL_ (some 28) rfl rfl #[.int .u64 t182, .int .u64 x6_1, .int .u64 0] rfl ar_ ?_; (with_reducible refine (bits_Add64.calls t182 x6_1 0 t183 t184 _ A8.out).mono ?_); rintro e w' ⟨rfl, ⟨nd, rfl⟩⟩; refine ⟨_, rfl, ?_⟩; (try (rw [drewN_self wr]; generalize hq_ : World.drewN wr _ = wr; have n0_ : Aside0 (Kd.R (Kd.int .u64) 55 wr w0.heap.size (fun k_ => (P0_ k_ ∨ w.heap.size ≤ k_)) u9000_ x0_1) := ⟨by rw [← hq_]; exact (up_ HO_0)⟩; have n1_ : Aside0 (Kept w wr (fun k_ => P0_ k_)) := ⟨by rw [← hq_]; exact (by repeat (first | (with_reducible first | exact HK.out | apply Kept.alloc | apply Kept.drewN | apply Kept.drew) | exact HK.out))⟩; have n2_ : Aside0 (Below w0.heap.size w0 wr) := ⟨by rw [← hq_]; exact (dn_ HB)⟩; clear HO_0 HK HB hq_; have HO_0 := n0_; have HK := n1_; have HB := n2_; clear n0_ n1_ n2_)); obtain ⟨Ao12, co12, eo12⟩ := Kd.R_slice HO_0.out; subst eo12; have p185 : 0 ≤ (x14_1 : Int) := of_decide_eq_true as_; have q185 : x14_1 < (x0_1.length : Int) := of_decide_eq_true as_; obtain ⟨ad185, e185, hx185_0⟩ := Kd.at_int (Kd.R_reads' HO_0.out).2.2 x14_1 p185 q185; cases e185; replace p185 := eq_true p185; replace q185 := eq_true q185) | ((with_reducible refine gate_callee (f := 58) rfl ?_); refine goesXL_ (some 42) rfl rfl #[.int .u64 (rd x0_1 x14_1), .int .u64 t183, .int .u64 0] rfl ar_ ?_; (with_reducible refine (bits_Add64.calls (rd x0_1 x14_1) t183 0 t186 t187 _ A10.out).mono ?_); rintro e w' ⟨rfl, ⟨nd, rfl⟩⟩; refine ⟨_, rfl, ?_⟩; (try (rw [drewN_self wr]; generalize hq_ : World.drewN wr _ = wr; have n0_ : Aside0 (Kd.R (Kd.int .u64) 55 wr w0.heap.size (fun k_ => (P0_ k_ ∨ w.heap.size ≤ k_)) (.slice (some ad185) x0_1.length co12) x0_1) := ⟨by rw [← hq_]; exact (up_ HO_0)⟩; have n1_ : Aside0 (Kept w wr (fun k_ => P0_ k_)) := ⟨by rw [← hq_]; exact (by repeat (first | (with_reducible first | exact HK.out | apply Kept.alloc | apply Kept.drewN | apply Kept.drew) | exact HK.out))⟩; have n2_ : Aside0 (Below w0.heap.size w0 wr) := ⟨by rw [← hq_]; exact (dn_ HB)⟩; clear HO_0 HK HB hq_; have HO_0 := n0_; have HK := n1_; have HB := n2_; clear n0_ n1_ n2_)); have p11 : 0 ≤ (x14_1 : Int) := of_decide_eq_true as_; have q11 : (x14_1 : Int) < ((x0_1.length : Int) : Int) := of_decide_eq_true as_; obtain ⟨go11, co11, eo11, gb11, gl11, cl11, HG11⟩ := Kd.R_form HO_0.out (by omega); (first | cases eo11 | (injection eo11 with ea_ en_ ec_; (first | subst ea_ | (injection ea_ with ea_; subst ea_)); subst ec_; clear en_)); have GB11 := Aside0.mk gb11; have GG11 := Aside0.mk HG11; clear gb11 gl11 HG11; have HMgo11 := Aside0.mk (show (P0_ go11 ∨ w.heap.size ≤ go11) from (HO_0.out.1 _ rfl)); (first | simp only [add_plain] at hx185_0 | skip); obtain ⟨hx11_0, hf11_0⟩ := Kd.R_celln 0 HO_0.out (x14_1 : Int) p11 q11; replace p11 := eq_true p11; replace q11 := eq_true q11; obtain ⟨hy13_, hz13_⟩ := Kd.R_celln 0 HO_0.out (x14_1 : Int) (of_decide_eq_true as_) (of_decide_eq_true as_); have HP13 := Kd.R_putg HO_0.out (x14_1 : Int) t186) | ((with_reducible refine gate_store (t := 55) (p := 45) rfl ?_); refine store_event (t := 55) (p := 45) (v := ?vo_w14) (w1 := (wr.setCell ⟨go11, (x14_1 : Int).toNat, none⟩ (.int .u64 t186))) ?hg ?ho ?hn ?hr ?_; (case ho => rfl); (case hg => rfl); (case hn => rfl); (case hr => first | (go_simp; done) | (go_simp; rfl)); intro w14 hw; have hg : wr.grownBy w14 (some go11) := (by rw [hw]; exact HP13.2); have hp_ : Kd.R (Kd.int .u64) 55 w14 w0.heap.size (fun k_ => (P0_ k_ ∨ w.heap.size ≤ k_)) (.slice (some ⟨go11, 0, none⟩) x0_1.length co12) y188 := (by rw [hw, Ny188.out]; exact HP13.1); clear HP13; have n0_ := Aside0.mk (hp_); have n1_ := Aside0.mk ((by rw [hw]; exact below_set (HB.out) GB11.out : Below w0.heap.size w0 w14)); have n2_ := Aside0.mk (Kept.of_grown (S := (fun k_ => P0_ k_)) hg (by repeat (first | (with_reducible first | exact HK.out | apply Kept.alloc | apply Kept.drewN | apply Kept.drew) | exact HK.out)) (fun k_ e_ => (HO_0.out.1 k_ e_))); clear HO_0; clear HB; clear HK; have HO_0 := n0_; have HB := n1_; have HK := n2_; clear n0_ n1_ n2_; clear hg hw hp_))
              go_roundg k1
              case measure => have := HK1.out; omega
              case rel => exact ⟨(y188), (IntKind.u64.wrap ((IntKind.u64.wrap (t181 + t184)) + t187)), (wrap64 (x14_1 + 1)), (by first | rfl | (simp; done) | (simp [*]; done)), (by first | rfl | (simp; done) | (simp [*]; done)), H', ⟨by have := HK1.out; omega⟩, ⟨by (with_reducible repeat (first | apply Kd.R_alloc | apply Kd.R_drewN | apply Kd.R_drew)); exact HO_0.out⟩, ⟨by repeat (first | (with_reducible first | exact HK.out | apply Kept.alloc | apply Kept.drewN | apply Kept.drew) | exact HK.out)⟩, ⟨dn_ HB⟩⟩
            · rw [if_neg c9] at H
              exact absurd H (by simp)
          · rw [if_neg c6] at H
            exact absurd H (by simp)
        · rw [if_neg c5] at H
          exact absurd H (by simp)
      · rw [if_neg c4] at H
        have c4b0 : decide (x14_1 < (l1.length : Int)) = false := decide_eq_false c4
        clear c4
        by_cases c15 : 0 ≤ (l1.length : Int)
        · rw [if_pos c15] at H
          have c15b0 : decide (0 ≤ (l1.length : Int)) = true := decide_eq_true c15
          have c15b1 : decide (0 ≤ l1.length) = true := decide_eq_true (by omega)
          clear c15
          by_cases c16 : (l1.length : Int) < (x0_1.length : Int)
          · rw [if_pos c16] at H
            have c16b0 : decide ((l1.length : Int) < (x0_1.length : Int)) = true := decide_eq_true c16
            have c16b1 : decide (l1.length < x0_1.length) = true := decide_eq_true (Int.ofNat_lt.mp c16)
            clear c16
            obtain ⟨y189, hy189⟩ : ∃ y_ : List Int, y_ = (x0_1.set ((l1.length : Int) : Int).toNat x6_1) := ⟨_, rfl⟩
            replace H : (some y189) = some r := by first | (rw [hy189]; with_reducible exact H) | (have H2_ := (Option.bind_some _ _).symm.trans H; rw [hy189]; with_reducible exact H2_) | (have H2_ := (Option.bind_some _ _).symm.trans H; with_reducible exact H2_) | with_reducible exact H | (rw [hy189]; exact H) | exact H
            have Ny189 := Aside0.mk hy189
            clear hy189
            obtain rfl := Option.some.inj H
            have p17 : 0 ≤ ((l1.length : Int) : Int) := of_decide_eq_true as_
            have q17 : ((l1.length : Int) : Int) < ((x0_1.length : Int) : Int) := of_decide_eq_true as_
            obtain ⟨go17, co17, eo17, gb17, gl17, cl17, HG17⟩ := Kd.R_form HO_0.out (by omega)
            (first | cases eo17 | (injection eo17 with ea_ en_ ec_; (first | subst ea_ | (injection ea_ with ea_; subst ea_)); subst ec_; clear en_))
            have GB17 := Aside0.mk gb17
            have GG17 := Aside0.mk HG17
            clear gb17 gl17 HG17
            have HMgo17 := Aside0.mk (show (P0_ go17 ∨ w.heap.size ≤ go17) from (HO_0.out.1 _ rfl))
            obtain ⟨hx17_0, hf17_0⟩ := Kd.R_celln 0 HO_0.out ((l1.length : Int) : Int) p17 q17
            (try simp only [Int.toNat_natCast] at hx17_0 hf17_0)
            replace p17 := eq_true p17
            replace q17 := eq_true q17
            (try (have q17n := q17; simp only [Int.ofNat_lt] at q17n))
            (try (have q17d := q17; simp only [List.length_drop] at q17d))
            have HP18 := Kd.R_putg HO_0.out ((l1.length : Int) : Int) x6_1
            go_wp2_with (first | ((with_reducible refine gate_store (t := 55) (p := 54) rfl ?_); refine store_event (t := 55) (p := 54) (v := ?vo_w19) (w1 := (wr.setCell ⟨go17, ((l1.length : Int) : Int).toNat, none⟩ (.int .u64 x6_1))) ?hg ?ho ?hn ?hr ?_; (case ho => rfl); (case hg => rfl); (case hn => rfl); (case hr => first | (go_simp; done) | (go_simp; rfl)); intro w19 hw; have hg : wr.grownBy w19 (some go17) := (by rw [hw]; exact HP18.2); have hp_ : Kd.R (Kd.int .u64) 55 w19 w0.heap.size (fun k_ => (P0_ k_ ∨ w.heap.size ≤ k_)) (.slice (some ⟨go17, 0, none⟩) x0_1.length co17) y189 := (by rw [hw, Ny189.out]; exact HP18.1); clear HP18; have n0_ := Aside0.mk (hp_); have n1_ := Aside0.mk ((by rw [hw]; exact below_set (HB.out) GB17.out : Below w0.heap.size w0 w19)); have n2_ := Aside0.mk (Kept.of_grown (S := (fun k_ => P0_ k_)) hg (by repeat (first | (with_reducible first | exact HK.out | apply Kept.alloc | apply Kept.drewN | apply Kept.drew) | exact HK.out)) (fun k_ e_ => (HO_0.out.1 k_ e_))); clear HO_0; clear HB; clear HK; have HO_0 := n0_; have HB := n1_; have HK := n2_; clear n0_ n1_ n2_; clear hg hw hp_))
            first | go_end0 | ((try simp only [Exit.inBlock, Exit.then]); refine bodyPost_ret (results_none rfl _ _ _) rfl ?_)
            exact ⟨er_, by (with_reducible repeat (first | apply Kd.R_alloc | apply Kd.R_drewN | apply Kd.R_drew)); exact HO_0.out, dn_ HB, by repeat (first | (with_reducible first | exact HK.out | apply Kept.alloc | apply Kept.drewN | apply Kept.drew) | exact HK.out)⟩
          · rw [if_neg c16] at H
            exact absurd H (by simp)
        · rw [if_neg c15] at H
          exact absurd H (by simp)
end Go.Proofs.Ytjbpchebabhoeaa.P
end
section
set_option linter.unusedVariables false
set_option linter.unusedSimpArgs false
namespace Go.Proofs.Ytjbpchebabhoeaa.X
open Go.RowKit Go.Proofs.Ytjbpchebabhoeaa.P Go.Proofs.YtjbpchebabhoeaaW.PrintWords Go.Proofs.YtjbpchebabhoeaaW.PrintLast Go.Proofs.YtjbpchebabhoeaaW.PrintMore
theorem set_behind (xs ys : List Int) (off i : Nat) (x : Int) (h : xs.length = off) : (xs ++ ys).set (off + i) x = xs ++ ys.set i x := by
  rw [List.set_append_right _ _ (by omega), h, Nat.add_sub_cancel_left]
theorem rd_behind (xs ys : List Int) (off i : Nat) (h : xs.length = off) : rdOf 0 (xs ++ ys) ((off + i : Nat) : Int) = rd ys (i : Int) := by
  unfold rdOf rd
  rw [Int.toNat_natCast, Int.toNat_natCast, List.getD_eq_getElem?_getD, List.getD_eq_getElem?_getD, List.getElem?_append_right (by omega), h, Nat.add_sub_cancel_left]
set_option maxHeartbeats 2000000 in
set_option maxRecDepth 100000 in
theorem row_part (k : Nat) (ok : Nat → Prop) (g off n cap : Nat) (full : List Int) (A1 : Option Addr) (c1 : Nat) (l1 : List Int) (a2 : Int) (r : List Int) (w0 w : World) (hB : Below w0.heap.size w0 w) (hgb : w0.heap.size ≤ g)
    (ho : Kd.R (Kd.int .u64) 55 w w0.heap.size ok (.slice (some ⟨g, 0, none⟩) n cap) full) (hoff : off ≤ n)
    (hr1 : ∀ W', KeepBut w W' g none → Kd.C (Kd.int .u64) W' A1 l1.length l1) (h : nat_row.f k (full.drop off) l1 a2 = some r) :
    Calls Try.prog 60 #[.slice (some ⟨g, off, none⟩) (n - off) (cap - off), .slice A1 l1.length c1, .int .u64 a2] w fun e w' => e = .returned (.tuple #[]) ∧ Kd.R (Kd.int .u64) 55 w' w0.heap.size ok (.slice (some ⟨g, 0, none⟩) n cap) (full.take off ++ r) ∧ Below w0.heap.size w0 w' ∧ KeepBut w w' g none := by
  have hn := (Kd.R_reads' ho).1
  have hlen : (full.take off).length = off := by rw [List.length_take]; omega
  have hmax := (hr1 w (KeepBut.refl _ _ _)).2.1
  have H : nat_row.l0 k (full.drop off) l1 a2 0 l1 (l1.length : Int) 0 = some r := h
  have H' := Aside0.mk H
  have HO := Aside0.mk (show Kd.R (Kd.int .u64) 55 w w0.heap.size ok (.slice (some ⟨g, 0, none⟩) n cap) (full.take off ++ full.drop off) by rw [List.take_append_drop]; exact ho)
  have HR1 := Aside0.mk hr1
  have HBB := Aside0.mk hB
  have hld : (full.drop off).length = n - off := by rw [List.length_drop]; omega
  generalize full.take off = pre at HO hlen ⊢
  generalize full.drop off = x0 at HO H' hld
  generalize hcc : cap - off = cc
  obtain ⟨m, hm⟩ : ∃ m, n - off = m := ⟨_, rfl⟩
  rw [hm] at hld ⊢
  clear h H ho hr1 hB hcc hn
  go_enter Try.func60, Try.ntmps60
  go_wp2
  go_loopg [6, 14] k (fun kq v6 v14 w' => ∃ (y : List Int) (x6 : Int) (i : Nat), v6 = .int .u64 x6 ∧ v14 = .int .i64 (i : Int) ∧ y.length = m ∧ Aside0 (nat_row.l0 kq y l1 a2 x6 l1 (l1.length : Int) (i : Int) = some r) ∧ Aside0 (kq ≤ k) ∧ Aside0 (Kd.R (Kd.int .u64) 55 w' w0.heap.size ok (.slice (some ⟨g, 0, none⟩) n cap) (pre ++ y)) ∧ Aside0 (KeepBut w w' g none) ∧ Aside0 (Below w0.heap.size w0 w'))
  case atStart => exact ⟨x0, 0, 0, rfl, rfl, hld, H', ⟨Nat.le_refl _⟩, HO, ⟨KeepBut.refl _ _ _⟩, HBB⟩
  case round =>
    clear H' HO HBB
    obtain ⟨y, x6, i, rfl, rfl, hy, HA, HK1, HO, HK, HB⟩ := hrel
    cases gk with
    | zero => exact absurd HA.out (by simp [nat_row.l0])
    | succ k1 =>
      have H := HA.out
      clear HA
      simp only [nat_row.l0] at H
      by_cases c4 : (i : Int) < (l1.length : Int)
      · rw [if_pos c4, if_pos (by omega), if_pos c4] at H
        obtain ⟨⟨t1, t2⟩, A1_, H⟩ := Option.bind_eq_some_iff.mp H
        obtain ⟨⟨t3, t4⟩, A2_, H⟩ := Option.bind_eq_some_iff.mp H
        simp only at A2_ H
        by_cases c9 : (i : Int) < (y.length : Int)
        case neg => rw [if_neg c9] at H; cases H
        rw [if_pos c9] at H
        obtain ⟨⟨t5, t6⟩, A3_, H⟩ := Option.bind_eq_some_iff.mp H
        simp only [Int.toNat_natCast] at A3_ H
        have A1' := Aside0.mk A1_
        have A2' := Aside0.mk A2_
        have A3' := Aside0.mk A3_
        have H' := Aside0.mk H
        clear A1_ A2_ A3_ H
        obtain ⟨ad1, e1, hx1⟩ := Kd.at_int (HR1.out wr HK.out) (i : Int) (by omega) c4
        cases e1
        rw [Int.toNat_natCast] at hx1
        have hq : ((off + i : Nat) : Int) < (n : Int) := by omega
        obtain ⟨hx2, hf2⟩ := Kd.R_celln 0 HO.out ((off + i : Nat) : Int) (by omega) hq
        rw [Int.toNat_natCast, rd_behind pre y off i hlen] at hx2
        rw [Int.toNat_natCast] at hf2
        have b1 : ((i : Int) < (l1.length : Int)) = True := eq_true c4
        have b2 : (i < l1.length) = True := eq_true (by omega)
        have b3 : ((i : Int) < (m : Int)) = True := eq_true (by omega)
        have b4 : (i < m) = True := eq_true (by omega)
        have b5 : decide ((i : Int) < (l1.length : Int)) = true := decide_eq_true c4
        go_wp2_with (first
          | ((with_reducible refine gate_callee (f := 89) rfl ?_); refine goesL_ (some 22) rfl rfl Try.func89 (by kernel_rfl) rfl #[.int .u64 a2, .int .u64 (rd l1 (i : Int))] rfl ar_ ?_; (with_reducible refine (bits_Mul64.calls a2 (rd l1 (i : Int)) t1 t2 _ A1'.out).mono ?_); rintro e w' ⟨rfl, ⟨nd, rfl⟩⟩; refine ⟨_, rfl, ?_⟩)
          | ((with_reducible refine gate_callee (f := 58) rfl ?_); refine goesXL_ (some 28) rfl rfl #[.int .u64 t2, .int .u64 x6, .int .u64 0] rfl ar_ ?_; (with_reducible refine (bits_Add64.calls t2 x6 0 t3 t4 _ A2'.out).mono ?_); rintro e w' ⟨rfl, ⟨nd2, rfl⟩⟩; refine ⟨_, rfl, ?_⟩)
          | ((with_reducible refine gate_callee (f := 58) rfl ?_); refine goesXL_ (some 42) rfl rfl #[.int .u64 (rd y (i : Int)), .int .u64 t3, .int .u64 0] rfl ar_ ?_; (with_reducible refine (bits_Add64.calls (rd y (i : Int)) t3 0 t5 t6 _ A3'.out).mono ?_); rintro e w' ⟨rfl, ⟨nd3, rfl⟩⟩; refine ⟨_, rfl, ?_⟩))
        go_roundg k1
        case measure => have := HK1.out; omega
        case rel =>
          have hp := Kd.R_putn (Kd.R_drewN HO.out (nd + nd2 + nd3)) ((off + i : Nat) : Int) t5
          rw [Int.toNat_natCast, set_behind pre y off i _ hlen] at hp
          refine ⟨y.set i t5, (IntKind.u64.wrap ((IntKind.u64.wrap (t1 + t4)) + t6)), i + 1, rfl, by simp, by rw [List.length_set]; exact hy, ?_, ⟨by have := HK1.out; omega⟩, ⟨hp⟩, ⟨?_⟩, ⟨(pw_below_drewN HB.out _).setCell (p := ⟨g, off + i, none⟩) hgb _⟩⟩
          · have := H'.out
            rw [w64' (by omega) (by omega)] at this
            exact ⟨this⟩
          · exact (HK.out.trans (KeepBut.of_below (pw_below_drewN (Below.refl _ _) _) g none) (.inl rfl)).set_ _ _
      · rw [if_neg c4, if_pos (by omega)] at H
        by_cases c16 : (l1.length : Int) < (y.length : Int)
        case neg => rw [if_neg c16] at H; cases H
        rw [if_pos c16, Int.toNat_natCast] at H
        obtain rfl := Option.some.inj H
        have hq : ((off + l1.length : Nat) : Int) < (n : Int) := by omega
        obtain ⟨hx2, hf2⟩ := Kd.R_celln 0 HO.out ((off + l1.length : Nat) : Int) (by omega) hq
        rw [Int.toNat_natCast, rd_behind pre y off l1.length hlen] at hx2
        rw [Int.toNat_natCast] at hf2
        have b1 : ((i : Int) < (l1.length : Int)) = False := eq_false c4
        have b2 : (i < l1.length) = False := eq_false (by omega)
        have b3 : ((l1.length : Int) < (m : Int)) = True := eq_true (by omega)
        have b4 : (l1.length < m) = True := eq_true (by omega)
        have b5 : decide ((i : Int) < (l1.length : Int)) = false := decide_eq_false c4
        go_wp2
        first | go_end0 | ((try simp only [Exit.inBlock, Exit.then]); refine bodyPost_ret (results_none rfl _ _ _) rfl ?_)
        have hp := Kd.R_putn HO.out ((off + l1.length : Nat) : Int) x6
        rw [Int.toNat_natCast, set_behind pre y off l1.length _ hlen] at hp
        exact ⟨rfl, hp, HB.out.setCell (p := ⟨g, off + l1.length, none⟩) hgb _, HK.out.set_ _ _⟩
def mulRows (l0 : List Int) : List Int → Nat → List Int → Option (List Int)
  | [], _, out => some out
  | x :: xs, i, out => (nat_row.f (l0.length + 2) (out.drop i) l0 x).bind fun r => mulRows l0 xs (i + 1) (out.take i ++ r)
def nat_Mul.f (l0 l1 : List Int) : Option (List Int) := if l0.length + l1.length + 1 ≤ 35184372088832 then (mulRows l0 l1 0 (List.replicate (l0.length + l1.length + 1) 0)).bind fun out => if out.length = l0.length + l1.length + 1 then some (out.take (szAt out out.length)) else none else none
set_option maxHeartbeats 2000000 in
set_option maxRecDepth 100000 in
theorem nat_Mul.calls (A0 : Option Addr) (c0 : Nat) (l0 : List Int) (A1 : Option Addr) (c1 : Nat) (l1 : List Int) (r : List Int) (w : World) (hr0 : Kd.C (Kd.int .u64) w A0 l0.length l0) (hc0 : l0.length ≤ c0) (hr1 : Kd.C (Kd.int .u64) w A1 l1.length l1) (hc1 : l1.length ≤ c1) (h : nat_Mul.f l0 l1 = some r) :
    Calls Try.prog 16 #[.slice A0 l0.length c0, .slice A1 l1.length c1] w fun e w' => ∃ v0_ : Value, e = .returned (v0_) ∧ Kd.R (Kd.int .u64) 55 w' w.heap.size (fun _ => True) v0_ r ∧ Below w.heap.size w w' := by
  unfold nat_Mul.f at h
  by_cases hlen : l0.length + l1.length + 1 ≤ 35184372088832
  case neg => rw [if_neg hlen] at h; cases h
  rw [if_pos hlen] at h
  obtain ⟨fin, hfin, h⟩ := Option.bind_eq_some_iff.mp h
  by_cases hfl : fin.length = l0.length + l1.length + 1
  case neg => rw [if_neg hfl] at h; cases h
  rw [if_pos hfl] at h
  obtain rfl := Option.some.inj h
  clear h
  have HR0 := Aside0.mk hr0
  have HR1 := Aside0.mk hr1
  have HF := Aside0.mk hfin
  have HB := Aside0.mk (Below.refl w.heap.size w)
  clear hr0 hr1 hfin
  obtain ⟨N, hN⟩ : ∃ N, l0.length + l1.length + 1 = N := ⟨_, rfl⟩
  rw [hN] at hfl HF hlen
  have e1 : wrap64 (wrap64 ((l0.length : Int) + (l1.length : Int)) + 1) = (N : Int) := by rw [w64' (x := (l0.length : Int) + (l1.length : Int)) (by omega) (by omega), w64' (by omega) (by omega)]; omega
  have b0 : decide (0 ≤ (N : Int)) = true := decide_eq_true (by omega)
  go_enter Try.func16, Try.ntmps16
  go_wp2_with (first | ((with_reducible refine gate_dst (N := 14) rfl ?_); refine Kd.R_make (Kd.int .u64) _ 55 rfl (N := 14) rfl 22 _ _ rfl ((l0.length : Int) + (l1.length : Int) + 1) rfl rfl Try.underlying22 (.int .u64 0) 8 info55 rfl (by decide) (by omega) 0 (ok := fun _ => True) (okp := fun _ => True) rfl (fun _ hk => hk) trivial (by omega) (by omega) (Below.refl _ _) (Nat.le_refl _) ?_; intro v7 w7 ho7 hb7 hg7 hnew7; rw [show ((l0.length : Int) + (l1.length : Int) + 1).toNat = N by omega] at ho7; obtain ⟨g, cap, rfl, hgb, hgl, cl, hcl⟩ := Kd.R_form ho7 (by rw [List.length_replicate]; omega); rw [List.length_replicate] at ho7))
  have hNc : N ≤ cap := (Kd.R_reads' ho7).2.1
  have HO := Aside0.mk ho7
  have HB7 := Aside0.mk hb7
  clear ho7 hb7 hcl hg7 hnew7 HB
  go_loopg [17] l1.length (fun kq v17 w' => ∃ (i : Nat) (out : List Int), v17 = .int .i64 (i : Int) ∧ i + kq = l1.length ∧ Aside0 (mulRows l0 (l1.drop i) i out = some fin) ∧ Aside0 (Kd.R (Kd.int .u64) 55 w' w.heap.size (fun _ => True) (.slice (some ⟨g, 0, none⟩) N cap) out) ∧ Aside0 (Below w.heap.size w w'))
  case atStart => exact ⟨0, List.replicate N 0, by first | rfl | simp, by omega, HF, HO, HB7⟩
  case round =>
    clear HF HO HB7
    obtain ⟨i, out, rfl, hik, HF, HO, HB⟩ := hrel
    cases gk with
    | zero =>
      have ei : i = l1.length := by omega
      subst ei
      have hf := HF.out
      rw [List.drop_length] at hf
      obtain rfl := Option.some.inj hf
      have b1 : ((l1.length : Int) < (l1.length : Int)) = False := eq_false (by omega)
      have b5 : decide ((l1.length : Int) < (l1.length : Int)) = false := decide_eq_false (by omega)
      have hon : N = out.length := (Kd.R_reads' HO.out).1
      subst hon
      have hsz := size_f (l := out) (by omega) (k := out.length + 1) (by omega)
      have hle := szAt_le out out.length
      obtain ⟨s, hs⟩ : ∃ s, szAt out out.length = s := ⟨_, rfl⟩
      rw [hs] at hsz hle
      have b2 : ((s : Int) ≤ (out.length : Int)) = True := eq_true (by omega)
      have b3 : (s ≤ out.length) = True := eq_true hle
      have HS := Aside0.mk hsz
      clear hsz
      go_wp2_with (first | ((with_reducible refine gate_callee (f := 56) rfl ?_); refine goesL_ (some 31) rfl rfl Try.func56 (by kernel_rfl) rfl #[.slice (some ⟨g, 0, none⟩) out.length cap] rfl ar_ ?_; (with_reducible refine (nat_size.calls _ _ cap out (s : Int) _ ?sd hNc HS.out).mono ?_); (case sd => exact (Kd.R_reads' HO.out).2.2); rintro e w' ⟨rfl, ⟨nd, rfl⟩⟩; refine ⟨_, rfl, ?_⟩))
      go_ret
      refine ⟨_, rfl, ?_, pw_below_drewN HB.out _⟩
      exact Kd.R_take (Kd.R_drewN HO.out _) hle
    | succ k1 =>
      have hi : i < l1.length := by omega
      have hf := HF.out
      rw [List.drop_eq_getElem_cons hi] at hf
      simp only [mulRows] at hf
      obtain ⟨ro, hro, hf⟩ := Option.bind_eq_some_iff.mp hf
      have hge : l1[i] = rd l1 (i : Int) := by
        unfold rd
        rw [Int.toNat_natCast, List.getD_eq_getElem?_getD, List.getElem?_eq_getElem hi]
        rfl
      rw [hge] at hro
      have HRO := Aside0.mk hro
      have HF2 := Aside0.mk hf
      clear hro hf HF hge
      obtain ⟨ad1, e1, hx1⟩ := Kd.at_int (Kd.C_below HR1.out HB.out) (i : Int) (by omega) (by omega)
      cases e1
      rw [Int.toNat_natCast] at hx1
      have b1 : ((i : Int) < (l1.length : Int)) = True := eq_true (by omega)
      have b2 : (i < l1.length) = True := eq_true (by omega)
      have b3 : ((i : Int) ≤ (N : Int)) = True := eq_true (by omega)
      have b4 : (i ≤ N) = True := eq_true (by omega)
      have b5 : decide ((i : Int) < (l1.length : Int)) = true := decide_eq_true (by omega)
      have b6 : (cap = i) = False := eq_false (by omega)
      have HK0 := Aside0.mk (Kd.C_foot_came (Kd.heap_int .u64) HR0.out HB.out hgb)
      go_wp2_with (first | ((with_reducible refine gate_callee (f := 60) rfl ?_); refine goesL_ (some 27) rfl rfl Try.func60 (by kernel_rfl) rfl #[.slice (some ⟨g, i, none⟩) (N - i) (cap - i), .slice A0 l0.length c0, .int .u64 (rd l1 (i : Int))] rfl ar_ ?_; (refine (row_part _ (fun _ => True) g i N cap out A0 c0 l0 (rd l1 (i : Int)) ro w _ HB.out hgb HO.out (by omega) HK0.out HRO.out).mono ?_); rintro e w2 ⟨rfl, hro2, hb2, hk2⟩; refine ⟨_, rfl, ?_⟩))
      go_roundg k1
      case measure => omega
      case rel => exact ⟨i + 1, out.take i ++ ro, by simp, by omega, HF2, ⟨hro2⟩, ⟨hb2⟩⟩
end Go.Proofs.Ytjbpchebabhoeaa.X
end
section
set_option linter.unusedVariables false
set_option linter.unusedSimpArgs false
namespace Go.Proofs.Ytjbpchebabhoeaa.X
open Go.RowKit Go.Proofs.Ytjbpchebabhoeaa.P Go.Proofs.YtjbpchebabhoeaaW.PrintWords Go.Proofs.YtjbpchebabhoeaaW.PrintLast Go.Proofs.YtjbpchebabhoeaaW.PrintMore
def shlRows (s : Nat) : List Int → Int → List Int → List Int
  | [], c, out => out ++ [c]
  | x :: xs, c, out => shlRows s xs (x / 2 / 2 ^ (63 - s)) (out ++ [Go.bits .or .u64 (IntKind.u64.wrap (x * 2 ^ s)) c])
theorem shlRows_length (s : Nat) : ∀ (xs : List Int) (c : Int) (out : List Int), (shlRows s xs c out).length = out.length + xs.length + 1
  | [], c, out => by simp [shlRows]
  | x :: xs, c, out => by
    simp only [shlRows]
    rw [shlRows_length s xs]
    simp
    omega
def natdiv_shl.f (l0 : List Int) (n : Int) : Option (List Int) := if 0 ≤ n ∧ n ≤ 1099511627776 ∧ n.toNat / 64 + l0.length + 1 ≤ 17592186044416 then nat_Norm.f (n.toNat + l0.length + 3) (shlRows (n.toNat % 64) l0 0 (List.replicate (n.toNat / 64) 0)) else none
set_option maxHeartbeats 2000000 in
set_option maxRecDepth 100000 in
theorem natdiv_shl.calls (A0 : Option Addr) (c0 : Nat) (l0 : List Int) (a1 : Int) (r : List Int) (w : World) (hr0 : Kd.C (Kd.int .u64) w A0 l0.length l0) (hc0 : l0.length ≤ c0) (h : natdiv_shl.f l0 a1 = some r) :
    Calls Try.prog 52 #[.slice A0 l0.length c0, .int .i64 a1] w fun e w' => ∃ v0_ : Value, e = .returned (v0_) ∧ Kd.R (Kd.int .u64) 55 w' w.heap.size (fun _ => True) v0_ r ∧ Below w.heap.size w w' := by
  unfold natdiv_shl.f at h
  by_cases hc : 0 ≤ a1 ∧ a1 ≤ 1099511627776 ∧ a1.toNat / 64 + l0.length + 1 ≤ 17592186044416
  case neg => rw [if_neg hc] at h; cases h
  rw [if_pos hc] at h
  obtain ⟨h0, h1, hlen⟩ := hc
  obtain ⟨n, rfl⟩ := Int.eq_ofNat_of_zero_le h0
  rw [Int.toNat_natCast] at h
  obtain ⟨s, hs⟩ : ∃ s, n % 64 = s := ⟨_, rfl⟩
  obtain ⟨q, hq⟩ : ∃ q, n / 64 = q := ⟨_, rfl⟩
  rw [hs, hq] at h
  rw [Int.toNat_natCast, hq] at hlen
  have hs64 : s < 64 := by omega
  have hq2 : q ≤ 17179869184 := by omega
  have HR0 := Aside0.mk hr0
  have HF := Aside0.mk h
  clear hr0 h
  have e1 : Int.tdiv (n : Int) 64 = (q : Int) := by rw [Int.tdiv_eq_ediv_of_nonneg (by omega)]; omega
  have e2 : Int.tmod (n : Int) 64 = (s : Int) := by rw [Int.tmod_eq_emod_of_nonneg (by omega)]; omega
  have e3 : IntKind.u64.wrap (s : Int) = (s : Int) := by simp only [IntKind.wrap, IntKind.signed, IntKind.bits, Bool.false_and, Bool.false_eq_true, if_false]; omega
  have e4 : IntKind.u64.wrap (63 - (s : Int)) = ((63 - s : Nat) : Int) := by simp only [IntKind.wrap, IntKind.signed, IntKind.bits, Bool.false_and, Bool.false_eq_true, if_false]; omega
  obtain ⟨C, hC⟩ : ∃ C, q + l0.length + 1 = C := ⟨_, rfl⟩
  have hmk : ∀ w, (Instr.makeSlice 22 (.int .i64 (q : Int)) (.int .i64 ((q : Int) + (l0.length : Int) + 1))).run Try.prog w = .ok (.slice (some ⟨w.heap.size, 0, none⟩) q C) (w.alloc (.cells (madeCells #[.int .u64 0] C) 55)) := by
    intro w
    obtain ⟨i0, hi, hz0, hz1, hz2⟩ := info_parts info55
    have := run_make (P := Try.prog) w 22 55 i0 (.int .u64 0) Try.underlying22 hi hz0 .i64 .i64 (q : Int) ((q : Int) + (l0.length : Int) + 1) (by omega) (by omega) (by rw [hz2]; omega) (by omega)
    rw [this, hz1, show ((q : Int) + (l0.length : Int) + 1).toNat = C by omega, Int.toNat_natCast, Nat.mul_one]
    rfl
  have hO := Kd.R_take (m := q) (Kd.R_of_own (enc := Value.int .u64) (h1 := fun _ => rfl) (ok := fun _ => True) (own_made' w w.heap.size 55 .u64 C (Nat.le_refl _) (by omega)) (fun _ _ => trivial)) (by rw [List.length_replicate]; omega)
  rw [show (List.replicate C (0 : Int)).take q = List.replicate q 0 by rw [List.take_replicate]; congr 1; omega] at hO
  have HO := Aside0.mk hO
  clear hO
  have HB := Aside0.mk ((Below.refl w.heap.size w).alloc (Nat.le_refl _) (.cells (madeCells #[.int .u64 0] C) 55))
  go_enter Try.func52, Try.ntmps52
  go_wp2
  generalize w.alloc (.cells (madeCells #[.int .u64 0] C) 55) = w7 at HO HB ⊢
  generalize (Value.slice (some ⟨w.heap.size, 0, none⟩) q C) = v7 at HO ⊢
  go_loopg [5, 7, 24] l0.length (fun kq v5 v7 v24 w' => ∃ (i : Nat) (out : List Int) (c : Int), v24 = .int .i64 (i : Int) ∧ v7 = .int .u64 c ∧ i + kq = l0.length ∧ out.length = q + i ∧ Aside0 (nat_Norm.f (n + l0.length + 3) (shlRows s (l0.drop i) c out) = some r) ∧ Aside0 (Kd.R (Kd.int .u64) 55 w' w.heap.size (fun _ => True) v5 out) ∧ Aside0 (Below w.heap.size w w'))
  case atStart => exact ⟨0, List.replicate q 0, 0, by first | rfl | simp, by first | rfl | simp, by omega, by rw [List.length_replicate]; omega, HF, HO, HB⟩
  case round =>
    clear HF HO HB
    obtain ⟨i, out, c, rfl, rfl, hik, hol, HF, HO, HB⟩ := hrel
    cases gk with
    | zero =>
      have ei : i = l0.length := by omega
      subst ei
      have hf := HF.out
      rw [List.drop_length] at hf
      simp only [shlRows] at hf
      have HF2 := Aside0.mk hf
      clear hf HF
      have b1 : ((l0.length : Int) < (l0.length : Int)) = False := eq_false (by omega)
      have b5 : decide ((l0.length : Int) < (l0.length : Int)) = false := decide_eq_false (by omega)
      go_wp2_with (first
        | ((with_reducible refine gate_builtin (b := .append) (xs := #[.tmp 42, .tmp 44]) rfl ?_); at_builtin; refine Kd.R_append (Kd.int .u64) (w0 := w) w.heap.size rfl (.tmp 42) (.tmp 44) 22 55 (.int .u64 0) 8 rfl Try.underlying22 info55 rfl (by decide) (by omega) u5 out c [.int .u64 c] (fun _ => True) (fun _ => False) rfl rfl rfl (fun _ hk => hk.elim) (fun _ _ => trivial) HO.out HB.out HB.out.size (by omega) ?_; intro v2 w2 ho2 hb2 hg2 hat2)
        | ((with_reducible refine gate_callee (f := 17) rfl ?_); obtain ⟨A2, c2, e2_⟩ := Kd.R_slice ho2; subst e2_; refine goesL_ (some 46) rfl rfl Try.func17 (by kernel_rfl) rfl #[.slice A2 (out ++ [c]).length c2] rfl ar_ ?_; (with_reducible refine (nat_Norm.calls _ A2 c2 (out ++ [c]) r _ ?sd1 ?sd2 HF2.out).mono ?_); (case sd1 => exact (Kd.R_reads' ho2).2.2); (case sd2 => exact (Kd.R_reads' ho2).2.1); rintro e w3 ⟨v3, rfl, ho3, hb3⟩; refine ⟨_, rfl, ?_⟩))
      go_ret
      exact ⟨_, rfl, Kd.R_lower ho3 hb2.size, hb2.trans (hb3.mono hb2.size)⟩
    | succ k1 =>
      have hi : i < l0.length := by omega
      have hf := HF.out
      have hge : l0[i] = rd l0 (i : Int) := by
        unfold rd
        rw [Int.toNat_natCast, List.getD_eq_getElem?_getD, List.getElem?_eq_getElem hi]
        rfl
      rw [List.drop_eq_getElem_cons hi, hge] at hf
      simp only [shlRows] at hf
      have HF2 := Aside0.mk hf
      clear hf HF hge
      obtain ⟨ad1, e1, hx1⟩ := Kd.at_int (Kd.C_below HR0.out HB.out) (i : Int) (by omega) (by omega)
      cases e1
      rw [Int.toNat_natCast] at hx1
      obtain ⟨xs, hxs⟩ : ∃ x, rd l0 (i : Int) = x := ⟨_, rfl⟩
      rw [hxs] at hx1 HF2
      have b1 : ((i : Int) < (l0.length : Int)) = True := eq_true (by omega)
      have b2 : (i < l0.length) = True := eq_true (by omega)
      have b5 : decide ((i : Int) < (l0.length : Int)) = true := decide_eq_true (by omega)
      go_wp2_with (first | ((with_reducible refine gate_builtin (b := .append) (xs := #[.tmp 28, .tmp 34]) rfl ?_); at_builtin; refine Kd.R_append (Kd.int .u64) (w0 := w) w.heap.size rfl (.tmp 28) (.tmp 34) 22 55 (.int .u64 0) 8 rfl Try.underlying22 info55 rfl (by decide) (by omega) u5 out (Go.bits .or .u64 (IntKind.u64.wrap (xs * 2 ^ s)) c) [.int .u64 (Go.bits .or .u64 (IntKind.u64.wrap (xs * 2 ^ s)) c)] (fun _ => True) (fun _ => False) rfl rfl rfl (fun _ hk => hk.elim) (fun _ _ => trivial) HO.out HB.out HB.out.size (by omega) ?_; intro v2 w2 ho2 hb2 hg2 hat2))
      go_roundg k1
      case measure => omega
      case rel => exact ⟨i + 1, out ++ [Go.bits .or .u64 (IntKind.u64.wrap (xs * 2 ^ s)) c], xs / 2 / 2 ^ (63 - s), by simp, by simp, by omega, by simp; omega, HF2, ⟨ho2⟩, ⟨hb2⟩⟩
end Go.Proofs.Ytjbpchebabhoeaa.X
end
