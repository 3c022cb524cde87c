/- Part 2 of what the law RatioTells rests on: printed walks of its functions, and plain laws of what they compute. For every input that their premises tell. -/
import Derived.LoopN
import Derived.Test.YtjbpchebabhoeaaBnRatioTells0
import Derived.Test.YtjbpchebabhoeaaBnRatioTells1
section
set_option linter.unusedVariables false
set_option linter.unusedSimpArgs false
namespace Go.Proofs.Ytjbpchebabhoeaa.H
open Go.RowKit Go.Proofs.YtjbpchebabhoeaaW.PrintWords Go.Proofs.YtjbpchebabhoeaaW.PrintLast Go.Proofs.YtjbpchebabhoeaaW.PrintMore Go.Proofs.Ytjbpchebabhoeaa.X
theorem at_ {ops : Array Oper} {i : Nat} {oi : Oper} (h : ops.toList[i]? = some oi) : ops[i]? = some oi := by rw [← Array.getElem?_toList]; exact h
def OK (Γ : List Item) (w : World) : Prop := ∀ x ∈ Γ, x.ok w
inductive Sub (Γ : List Item) : List Item → Prop
  | nil : Sub Γ []
  | cons {x : Item} {Δ : List Item} : x ∈ Γ → Sub Γ Δ → Sub Γ (x :: Δ)
theorem Sub.all {Γ Δ : List Item} (h : Sub Γ Δ) : ∀ y ∈ Δ, y ∈ Γ := by
  induction h with
  | nil => intro y hy; cases hy
  | cons h1 _ ih =>
    intro y hy
    rcases List.mem_cons.1 hy with rfl | hy
    · exact h1
    · exact ih y hy
section
variable {ops : Array Oper} {a a' : Act} {Q : Exit → Act → World → Prop} {w0 w : World} {S : Nat → Prop} {Γ Γ1 Γ' Δ : List Item} {md : Region.Mode} {ds : List Nat} {fuel : Nat} {l : Array Bool} {oi : Oper} {N : Option Tmp} {v : Value}
theorem Sub.ok {w : World} (h : Sub Γ Γ1) (HF : Holds w0 S Γ w) : OK Γ1 w := fun x hx => HF.ok x (h.all x hx)
theorem startH_ (n : Nat) (Γ1 : List Item) (l : Array Bool) {id : Nat} (HF : Holds w0 S Γ w) (h : ∀ w', Holds w0 S Γ w' → wpAnyLast Try.prog .any ops Q (OK Γ1) [] n l a w')
    (hm : Try.prog.follows .mixedOrders = true := by kernel_rfl) (hn : ops.size = n := by rfl) (hl : Array.replicate n false = l := by rfl)
    (hs : Sub Γ Γ1 := by (repeat (first | exact Sub.nil | refine Sub.cons (by (repeat (first | exact List.mem_cons_self | apply List.mem_cons_of_mem))) ?_))) : (Code.region id ops true).wp Try.prog Q a w :=
  start_ l hm hn hl (hs.ok HF.drew) fun _ => h _ HF.drew
theorem startD_ (n : Nat) (ds : List Nat) (Γ1 : List Item) (l : Array Bool) {id : Nat} (HF : Holds w0 S Γ w) (h : ∀ w', Holds w0 S Γ w' → wpAnyLast Try.prog .any ops Q (OK Γ1) ds n l a w')
    (hm : Try.prog.follows .mixedOrders = true := by kernel_rfl) (hn : ops.size = n := by rfl) (hl : Array.replicate n false = l := by rfl)
    (hs : Sub Γ Γ1 := by (repeat (first | exact Sub.nil | refine Sub.cons (by (repeat (first | exact List.mem_cons_self | apply List.mem_cons_of_mem))) ?_))) : (Code.region id ops true).wp Try.prog Q a w :=
  start_ l hm hn hl (hs.ok HF.drew) fun _ => h _ HF.drew
theorem hz_ (i : Nat) (h : wpAnyLast Try.prog md ops Q (OK Γ1) ds fuel (l.setIfInBounds i true) a' w) (hi : ops.toList[i]? = some oi := by rfl) (hN : oi.dst = N := by (first | exact dst_s rfl | exact dst_n rfl))
    (hy : Yields Try.prog ops oi v a := by (refine Or.inl ⟨by rfl, ?_⟩; intro w_; go_simp; with_reducible rfl)) (ha : a.put N v = a' := by (simp only [Act.put, List.setIfInBounds_toArray, List.set_cons_zero, List.set_cons_succ, i64_w, i32_w]; rfl))
    (hc : anyB md ops l (l.setIfInBounds i true) i = true := by kernel_rfl) (hQ : ∀ c a w, Q (.panic c) (a.put oi.dst v) w → Q (.panic c) a w := by exact fun _ _ _ h => h) : wpAnyLast Try.prog md ops Q (OK Γ1) ds (fuel + 1) l a w :=
  pure_ _ (at_ hi) hN hc hQ hy ha h
theorem loadIf {t : TypeId} {x : Operand} {g off : Nat} {cs : List Value} (hw : Region.wanted oi (yielded ops a.tmps) = true) (hop : oi.op = .load t x) (hx : a.eval x = .pointer (some ⟨g, off, none⟩)) (hat : At g cs Γ1) (hv : Loads Try.prog t g cs off v) : YieldsIf Try.prog ops (OK Γ1) oi v a := by
  refine Or.inl ⟨hw, fun w hok => ?_⟩
  have := hv w (hat.lies hok)
  unfold execOp
  rw [hop]
  simp [hx, Instr.loadAt, Instr.sureAddr, this]
theorem ht_ (i : Nat) {t : TypeId} {x : Operand} {g off : Nat} {cs : List Value} (HF : Holds w0 S Γ w) (h : wpAnyLast Try.prog md ops Q (OK Γ1) ds fuel (l.setIfInBounds i true) a' w) (hi : ops.toList[i]? = some oi := by rfl) (hN : oi.dst = N := by (first | exact dst_s rfl | exact dst_n rfl)) (hw : Region.wanted oi (yielded ops a.tmps) = true := by rfl)
    (hop : oi.op = .load t x := by rfl) (hx : a.eval x = .pointer (some ⟨g, off, none⟩) := by (first | exact ev_ rfl | rfl)) (hat : At g cs Γ1 := by (repeat (first | exact At.box | exact At.rd | apply At.tail))) (hv : Loads Try.prog t g cs off v := by (first
      | exact Loads.one one_bool rfl
      | exact Loads.one one_int rfl
      | exact Loads.one one_u64s rfl
      | exact Loads.one one_errno rfl
      | exact Loads.one one_u64 rfl
      | exact Loads.agg' agg_whole (Nat.le_of_ble_eq_true rfl)
      | exact Loads.agg' agg_dyadic (Nat.le_of_ble_eq_true rfl)
      | exact Loads.agg' agg_ratio (Nat.le_of_ble_eq_true rfl)
      | fail))
    (ha : a.put N v = a' := by (simp only [Act.put, List.setIfInBounds_toArray, List.set_cons_zero, List.set_cons_succ, i64_w, i32_w]; rfl))
    (hc : takeB md ops ds l (l.setIfInBounds i true) i = true := by kernel_rfl) (hs : Sub Γ Γ1 := by (repeat (first | exact Sub.nil | refine Sub.cons (by (repeat (first | exact List.mem_cons_self | apply List.mem_cons_of_mem))) ?_))) (hQ : ∀ c a w, Q (.panic c) (a.put oi.dst v) w → Q (.panic c) a w := by exact fun _ _ _ h => h) : wpAnyLast Try.prog md ops Q (OK Γ1) ds (fuel + 1) l a w :=
  take_ _ (at_ hi) hN hc hQ (loadIf hw hop hx hat hv) (hs.ok HF) ha h
theorem hcal_ (i : Nat) {f : FuncId} {fn : Func} {aas : Array Operand} {ts : Array TypeId} {args : Array Value} {R : Value → List Item → Prop} (HF : Holds w0 S Γ w) (hf : Try.prog.funcs[f]? = some fn) (hc : HC Try.prog f Δ args R)
    (h : ∀ v Θ w', R v Θ → Holds w0 S (Θ ++ Γ) w' → wpAnyLast Try.prog md ops Q (OK Γ1) ds fuel (l.setIfInBounds i true) (a.put N v) w')
    (hi : ops.toList[i]? = some oi := by rfl) (hop : oi.op = .call { callee := .value (.func f), args := aas, argTypes := ts } := by rfl) (hargs : aas.map a.eval = args := by (first | rfl | exact ar_)) (hN : oi.dst = N := by (first | exact dst_s rfl | exact dst_n rfl))
    (hw : Region.wanted oi (yielded ops a.tmps) = true := by rfl) (hr : readyB md ops l (l.setIfInBounds i true) i = true := by kernel_rfl) (hd : i ∉ ds := by decide) (hs : Sub Γ Γ1 := by (repeat (first | exact Sub.nil | refine Sub.cons (by (repeat (first | exact List.mem_cons_self | apply List.mem_cons_of_mem))) ?_)))
    (hΔ : Part Γ Δ := by (repeat (first | exact Part.nil | refine Part.cons (by (repeat (first | exact List.mem_cons_self | apply List.mem_cons_of_mem))) trivial ?_)))
    (hname : (fn.name == "runtime.NumGoroutine") = false := by kernel_rfl) (hb : fn.body.isSome = true := by rfl) : wpAnyLast Try.prog md ops Q (OK Γ1) ds (fuel + 1) l a w := by
  refine one_ _ (at_ hi) hN hr hd fun K hK => goes_ hf hname hb args hw hN hop hargs ((hc w _ (HF.call hΔ.all)).mono ?_)
  rintro e w' ⟨v, Θ, he, hR, hst, hh⟩
  have HF' := HF.back hst hh
  exact ⟨v, he, hK.out _ _ (fun x hx => HF'.ok x (List.mem_append_right _ (hs.all x hx))) fun _ => h v Θ w' hR HF'⟩
theorem hsto_ (i : Nat) {n : Nat} {t T : TypeId} {x y : Operand} {g off : Nat} {cs cs' : List Value} (HF : Holds w0 S Γ w) (h : ∀ w', Holds w0 S Γ' w' → wpAnyLast Try.prog md ops Q (OK Γ1) ds fuel (l.setIfInBounds i true) a w')
    (hi : ops.toList[i]? = some oi := by rfl) (hop : oi.op = .store t x y := by rfl) (hx : a.eval x = .pointer (some ⟨g, off, none⟩) := by (first | exact ev_ rfl | rfl)) (hy : a.eval y = v := by (first | exact ev_ rfl | rfl)) (hat : At g cs Γ := by (repeat (first | exact At.box | exact At.rd | apply At.tail)))
    (hsz : SizeT Try.prog t n := by (first
      | exact one_bool.sz
      | exact one_int.sz
      | exact one_u64s.sz
      | exact one_errno.sz
      | exact one_u64.sz
      | exact agg_whole.sz
      | exact agg_dyadic.sz
      | exact agg_ratio.sz
      | fail)) (hsn : v.cells.size = n := by rfl) (hrm : off + v.cells.size ≤ cs.length := by exact Nat.le_of_ble_eq_true rfl) (ho : (v.cells.toList.all Value.oneCell') = true := by rfl)
    (hn : setAll cs off v.cells.toList = cs' := by (simp only [Value.cells, setAll, List.set_cons_zero, List.set_cons_succ]; first | done | rfl)) (hu : Upd g T cs cs' Γ Γ' := by (first | exact Upd.head | exact (Upd.tail Upd.head) | exact (Upd.tail (Upd.tail Upd.head)) | exact (Upd.tail (Upd.tail (Upd.tail Upd.head))) | exact (Upd.tail (Upd.tail (Upd.tail (Upd.tail Upd.head)))) | exact (Upd.tail (Upd.tail (Upd.tail (Upd.tail (Upd.tail Upd.head))))) | exact (Upd.tail (Upd.tail (Upd.tail (Upd.tail (Upd.tail (Upd.tail Upd.head)))))) | exact (Upd.tail (Upd.tail (Upd.tail (Upd.tail (Upd.tail (Upd.tail (Upd.tail Upd.head))))))) | exact (Upd.tail (Upd.tail (Upd.tail (Upd.tail (Upd.tail (Upd.tail (Upd.tail (Upd.tail Upd.head)))))))) | exact (Upd.tail (Upd.tail (Upd.tail (Upd.tail (Upd.tail (Upd.tail (Upd.tail (Upd.tail (Upd.tail Upd.head))))))))) | exact (Upd.tail (Upd.tail (Upd.tail (Upd.tail (Upd.tail (Upd.tail (Upd.tail (Upd.tail (Upd.tail (Upd.tail Upd.head)))))))))) | exact (Upd.tail (Upd.tail (Upd.tail (Upd.tail (Upd.tail (Upd.tail (Upd.tail (Upd.tail (Upd.tail (Upd.tail (Upd.tail Upd.head))))))))))) | exact (Upd.tail (Upd.tail (Upd.tail (Upd.tail (Upd.tail (Upd.tail (Upd.tail (Upd.tail (Upd.tail (Upd.tail (Upd.tail (Upd.tail Upd.head)))))))))))) | exact (Upd.tail (Upd.tail (Upd.tail (Upd.tail (Upd.tail (Upd.tail (Upd.tail (Upd.tail (Upd.tail (Upd.tail (Upd.tail (Upd.tail (Upd.tail Upd.head))))))))))))) | exact (Upd.tail (Upd.tail (Upd.tail (Upd.tail (Upd.tail (Upd.tail (Upd.tail (Upd.tail (Upd.tail (Upd.tail (Upd.tail (Upd.tail (Upd.tail (Upd.tail Upd.head)))))))))))))) | exact (Upd.tail (Upd.tail (Upd.tail (Upd.tail (Upd.tail (Upd.tail (Upd.tail (Upd.tail (Upd.tail (Upd.tail (Upd.tail (Upd.tail (Upd.tail (Upd.tail (Upd.tail Upd.head))))))))))))))) | exact (Upd.tail (Upd.tail (Upd.tail (Upd.tail (Upd.tail (Upd.tail (Upd.tail (Upd.tail (Upd.tail (Upd.tail (Upd.tail (Upd.tail (Upd.tail (Upd.tail (Upd.tail (Upd.tail Upd.head)))))))))))))))) | exact (Upd.tail (Upd.tail (Upd.tail (Upd.tail (Upd.tail (Upd.tail (Upd.tail (Upd.tail (Upd.tail (Upd.tail (Upd.tail (Upd.tail (Upd.tail (Upd.tail (Upd.tail (Upd.tail (Upd.tail Upd.head))))))))))))))))) | exact (Upd.tail (Upd.tail (Upd.tail (Upd.tail (Upd.tail (Upd.tail (Upd.tail (Upd.tail (Upd.tail (Upd.tail (Upd.tail (Upd.tail (Upd.tail (Upd.tail (Upd.tail (Upd.tail (Upd.tail (Upd.tail Upd.head)))))))))))))))))) | exact (Upd.tail (Upd.tail (Upd.tail (Upd.tail (Upd.tail (Upd.tail (Upd.tail (Upd.tail (Upd.tail (Upd.tail (Upd.tail (Upd.tail (Upd.tail (Upd.tail (Upd.tail (Upd.tail (Upd.tail (Upd.tail (Upd.tail Upd.head))))))))))))))))))) | exact (Upd.tail (Upd.tail (Upd.tail (Upd.tail (Upd.tail (Upd.tail (Upd.tail (Upd.tail (Upd.tail (Upd.tail (Upd.tail (Upd.tail (Upd.tail (Upd.tail (Upd.tail (Upd.tail (Upd.tail (Upd.tail (Upd.tail (Upd.tail Upd.head)))))))))))))))))))) | exact (Upd.tail (Upd.tail (Upd.tail (Upd.tail (Upd.tail (Upd.tail (Upd.tail (Upd.tail (Upd.tail (Upd.tail (Upd.tail (Upd.tail (Upd.tail (Upd.tail (Upd.tail (Upd.tail (Upd.tail (Upd.tail (Upd.tail (Upd.tail (Upd.tail Upd.head))))))))))))))))))))))) (hN : oi.dst = none := by rfl)
    (hw : Region.wanted oi (yielded ops a.tmps) = true := by rfl) (hr : readyB md ops l (l.setIfInBounds i true) i = true := by kernel_rfl) (hd : i ∉ ds := by decide) (hs : Sub Γ' Γ1 := by (repeat (first | exact Sub.nil | refine Sub.cons (by (repeat (first | exact List.mem_cons_self | apply List.mem_cons_of_mem))) ?_))) : wpAnyLast Try.prog md ops Q (OK Γ1) ds (fuel + 1) l a w := by
  refine one_ _ (at_ hi) hN hr hd fun K hK => ?_
  obtain ⟨w', hrr, ht⟩ := Stores.run (P := Try.prog) (t := t) (off := off) (v := v) (w := w) (T := T) (g := g) ⟨fun w => by rw [hsn]; exact hsz.size w, hrm, fun u hu => List.all_eq_true.1 ho u hu, hn⟩ (HF.ok _ hu.mem_box)
  have hrun : (execOp a.eval oi).run Try.prog w = .ok .skip w' := by
    unfold execOp
    rw [hop]
    simp [hx, hy, Instr.storeAt, Instr.sureAddr, hrr]
  have HF' := HF.put hu ht
  rw [if_pos hw]
  unfold Oper.wp
  rw [hrun, Oper.upon_skip, hN]
  exact hK.out _ _ (hs.ok HF') fun _ => h w' HF'
theorem hstl_ (i : Nat) {n : Nat} {t T : TypeId} {x y : Operand} {g off : Nat} {cs cs' : List Value} (HF : Holds w0 S Γ w) (h : ∀ w', Holds w0 S Γ' w' → wpAnyLast Try.prog md ops Q (OK Γ1) ds fuel (l.setIfInBounds i true) a w')
    (hi : ops.toList[i]? = some oi := by rfl) (hop : oi.op = .store t x y := by rfl) (hx : a.eval x = .pointer (some ⟨g, off, none⟩) := by (first | exact ev_ rfl | rfl)) (hy : a.eval y = v := by (first | exact ev_ rfl | rfl)) (hat : At g cs Γ := by (repeat (first | exact At.box | exact At.rd | apply At.tail)))
    (hsz : SizeT Try.prog t n := by (first
      | exact one_bool.sz
      | exact one_int.sz
      | exact one_u64s.sz
      | exact one_errno.sz
      | exact one_u64.sz
      | exact agg_whole.sz
      | exact agg_dyadic.sz
      | exact agg_ratio.sz
      | fail)) (hsn : v.cells.size = n := by rfl) (hrm : off + v.cells.size ≤ cs.length := by exact Nat.le_of_ble_eq_true rfl) (ho : (v.cells.toList.all Value.oneCell') = true := by rfl)
    (hn : setAll cs off v.cells.toList = cs' := by (simp only [Value.cells, setAll, List.set_cons_zero, List.set_cons_succ]; first | done | rfl)) (hu : Upd g T cs cs' Γ Γ' := by (first | exact Upd.head | exact (Upd.tail Upd.head) | exact (Upd.tail (Upd.tail Upd.head)) | exact (Upd.tail (Upd.tail (Upd.tail Upd.head))) | exact (Upd.tail (Upd.tail (Upd.tail (Upd.tail Upd.head)))) | exact (Upd.tail (Upd.tail (Upd.tail (Upd.tail (Upd.tail Upd.head))))) | exact (Upd.tail (Upd.tail (Upd.tail (Upd.tail (Upd.tail (Upd.tail Upd.head)))))) | exact (Upd.tail (Upd.tail (Upd.tail (Upd.tail (Upd.tail (Upd.tail (Upd.tail Upd.head))))))) | exact (Upd.tail (Upd.tail (Upd.tail (Upd.tail (Upd.tail (Upd.tail (Upd.tail (Upd.tail Upd.head)))))))) | exact (Upd.tail (Upd.tail (Upd.tail (Upd.tail (Upd.tail (Upd.tail (Upd.tail (Upd.tail (Upd.tail Upd.head))))))))) | exact (Upd.tail (Upd.tail (Upd.tail (Upd.tail (Upd.tail (Upd.tail (Upd.tail (Upd.tail (Upd.tail (Upd.tail Upd.head)))))))))) | exact (Upd.tail (Upd.tail (Upd.tail (Upd.tail (Upd.tail (Upd.tail (Upd.tail (Upd.tail (Upd.tail (Upd.tail (Upd.tail Upd.head))))))))))) | exact (Upd.tail (Upd.tail (Upd.tail (Upd.tail (Upd.tail (Upd.tail (Upd.tail (Upd.tail (Upd.tail (Upd.tail (Upd.tail (Upd.tail Upd.head)))))))))))) | exact (Upd.tail (Upd.tail (Upd.tail (Upd.tail (Upd.tail (Upd.tail (Upd.tail (Upd.tail (Upd.tail (Upd.tail (Upd.tail (Upd.tail (Upd.tail Upd.head))))))))))))) | exact (Upd.tail (Upd.tail (Upd.tail (Upd.tail (Upd.tail (Upd.tail (Upd.tail (Upd.tail (Upd.tail (Upd.tail (Upd.tail (Upd.tail (Upd.tail (Upd.tail Upd.head)))))))))))))) | exact (Upd.tail (Upd.tail (Upd.tail (Upd.tail (Upd.tail (Upd.tail (Upd.tail (Upd.tail (Upd.tail (Upd.tail (Upd.tail (Upd.tail (Upd.tail (Upd.tail (Upd.tail Upd.head))))))))))))))) | exact (Upd.tail (Upd.tail (Upd.tail (Upd.tail (Upd.tail (Upd.tail (Upd.tail (Upd.tail (Upd.tail (Upd.tail (Upd.tail (Upd.tail (Upd.tail (Upd.tail (Upd.tail (Upd.tail Upd.head)))))))))))))))) | exact (Upd.tail (Upd.tail (Upd.tail (Upd.tail (Upd.tail (Upd.tail (Upd.tail (Upd.tail (Upd.tail (Upd.tail (Upd.tail (Upd.tail (Upd.tail (Upd.tail (Upd.tail (Upd.tail (Upd.tail Upd.head))))))))))))))))) | exact (Upd.tail (Upd.tail (Upd.tail (Upd.tail (Upd.tail (Upd.tail (Upd.tail (Upd.tail (Upd.tail (Upd.tail (Upd.tail (Upd.tail (Upd.tail (Upd.tail (Upd.tail (Upd.tail (Upd.tail (Upd.tail Upd.head)))))))))))))))))) | exact (Upd.tail (Upd.tail (Upd.tail (Upd.tail (Upd.tail (Upd.tail (Upd.tail (Upd.tail (Upd.tail (Upd.tail (Upd.tail (Upd.tail (Upd.tail (Upd.tail (Upd.tail (Upd.tail (Upd.tail (Upd.tail (Upd.tail Upd.head))))))))))))))))))) | exact (Upd.tail (Upd.tail (Upd.tail (Upd.tail (Upd.tail (Upd.tail (Upd.tail (Upd.tail (Upd.tail (Upd.tail (Upd.tail (Upd.tail (Upd.tail (Upd.tail (Upd.tail (Upd.tail (Upd.tail (Upd.tail (Upd.tail (Upd.tail Upd.head)))))))))))))))))))) | exact (Upd.tail (Upd.tail (Upd.tail (Upd.tail (Upd.tail (Upd.tail (Upd.tail (Upd.tail (Upd.tail (Upd.tail (Upd.tail (Upd.tail (Upd.tail (Upd.tail (Upd.tail (Upd.tail (Upd.tail (Upd.tail (Upd.tail (Upd.tail (Upd.tail Upd.head))))))))))))))))))))))) (hN : oi.dst = none := by rfl)
    (hw : Region.wanted oi (yielded ops a.tmps) = true := by rfl) (hr : readyB md ops l (l.setIfInBounds i true) i = true := by kernel_rfl) (hd : i ∈ ds := by decide) : wpAnyLast Try.prog md ops Q (OK Γ1) ds (fuel + 1) l a w := by
  refine last_ _ (at_ hi) hN hr hd fun K hK => ?_
  obtain ⟨w', hrr, ht⟩ := Stores.run (P := Try.prog) (t := t) (off := off) (v := v) (w := w) (T := T) (g := g) ⟨fun w => by rw [hsn]; exact hsz.size w, hrm, fun u hu => List.all_eq_true.1 ho u hu, hn⟩ (HF.ok _ hu.mem_box)
  have hrun : (execOp a.eval oi).run Try.prog w = .ok .skip w' := by
    unfold execOp
    rw [hop]
    simp [hx, hy, Instr.storeAt, Instr.sureAddr, hrr]
  have HF' := HF.put hu ht
  rw [if_pos hw]
  unfold Oper.wp
  rw [hrun, Oper.upon_skip, hN]
  exact hK.out _ _ (h w' HF')
theorem hend_ (h : Q .normal a w) (hr : (Region.ready md ops l == []) = true := by kernel_rfl) : wpAnyLast Try.prog md ops Q (OK Γ1) ds fuel l a w := done_ hr h
theorem hn_ (h : wpAnyLast Try.prog md ops Q (OK Γ1) ds fuel l a' w) (ha : a = a' := by (simp only [Act.put, List.setIfInBounds_toArray, List.set_cons_zero, List.set_cons_succ, i64_w, i32_w]; first | done | rfl)) : wpAnyLast Try.prog md ops Q (OK Γ1) ds fuel l a w := by subst ha; exact h
end
end Go.Proofs.Ytjbpchebabhoeaa.H
end
section
set_option linter.unusedVariables false
set_option linter.unusedSimpArgs false
namespace Go.Proofs.Ytjbpchebabhoeaa.H
open Go.RowKit Go.Proofs.YtjbpchebabhoeaaW.PrintWords Go.Proofs.YtjbpchebabhoeaaW.PrintLast Go.Proofs.YtjbpchebabhoeaaW.PrintMore Go.Proofs.Ytjbpchebabhoeaa.X
theorem pw_perm {Γ Γ' : List Item} (h : Γ.Perm Γ') (hp : Γ.Pairwise Item.apart) : Γ'.Pairwise Item.apart :=
  h.pairwise hp fun hab => ⟨hab.2, hab.1⟩
theorem Holds.perm {w0 w : World} {S : Nat → Prop} {Γ Γ' : List Item} (h : Holds w0 S Γ w) (hp : Γ.Perm Γ') : Holds w0 S Γ' w :=
  ⟨h.below, h.inv, h.old, fun g t cs hm => h.own g t cs (hp.mem_iff.2 hm), fun x hx => h.ok x (hp.mem_iff.2 hx), pw_perm hp h.apart, fun x hx => h.free x (hp.mem_iff.2 hx)⟩
structure FS where
  i : Nat
  d : Tmp
  dep : List Nat
  spec : Value → List Item → Prop
def FS.Ok (P : Program) (ops : Array Oper) (a : Act) (w0 : World) (S : Nat → Prop) (Γ0 : List Item) (all : List FS) (st : FS) : Prop :=
  ∃ o, ops.toList[st.i]? = some o ∧ o.dst = some st.d ∧ o.guard = none ∧
    ∀ (b : Act) (η : Nat → Value × List Item) (Γ : List Item) (w : World) (K : Act → World → Prop) (Q : Exit → Act → World → Prop),
      (∀ x, (∀ s ∈ all, s.d ≠ x) → b.tmps.getD x undef = a.tmps.getD x undef) →
      (∀ s ∈ all, s.i ∈ st.dep → b.tmps.getD s.d undef = (η s.i).1 ∧ s.spec (η s.i).1 (η s.i).2 ∧ ∀ y ∈ (η s.i).2, y ∈ Γ) →
      (∀ y ∈ Γ0, y ∈ Γ) → Holds w0 S Γ w → (∀ v Θ w', st.spec v Θ → Holds w0 S (Θ ++ Γ) w' → K (b.put (some st.d) v) w') → Oper.wp P o b w K Q
def edges (md : Region.Mode) (ops : Array Oper) (i : Nat) : List Nat := ((ops.toList[i]?).map fun o => needsOf md o).getD []
def floatB (md : Region.Mode) (ops : Array Oper) (l : Array Bool) (size : Nat) (is : List Nat) (ds : List Nat) (deps : List (List Nat)) : Bool :=
  (is.all fun i => i < l.size && !l.getD i true) && (ds.all fun d => d < size) && is.Nodup && ds.Nodup &&
  ((is.zip deps).all fun p => p.2.all fun j => (edges md ops p.1).contains j) &&
  ((List.range ops.size).all fun j => l.getD j true || is.contains j || is.all fun i => (edges md ops j).contains i) &&
  ((List.range is.length).all fun k => (edges md ops (is.getD k 0)).all fun e => l.getD e false || (is.take k).contains e)
theorem edges_mem {md : Region.Mode} {ops : Array Oper} {i j : Nat} {o : Oper} (ho : ops[i]? = some o) : j ∈ edges md ops i ↔ ∃ e ∈ o.after, Region.binds md e = true ∧ e.on = j := by
  unfold edges needsOf
  rw [Array.getElem?_toList, ho]
  simp only [Option.map_some, Option.getD_some, List.mem_map, List.mem_filter]
  constructor
  · rintro ⟨e, ⟨h1, h2⟩, h3⟩
    exact ⟨e, Array.mem_toList_iff.1 h1, h2, h3⟩
  · rintro ⟨e, h1, h2, h3⟩
    exact ⟨e, ⟨Array.mem_toList_iff.2 h1, h2⟩, h3⟩
def flat (dn : Nat → Bool) (η : Nat → Value × List Item) (steps : List FS) : List Item := steps.flatMap fun st => if dn st.i = true then (η st.i).2 else []
theorem flat_same {dn dn' : Nat → Bool} {η η' : Nat → Value × List Item} : ∀ {steps : List FS}, (∀ s ∈ steps, dn s.i = dn' s.i ∧ η s.i = η' s.i) → flat dn η steps = flat dn' η' steps
  | [], _ => rfl
  | s :: r, h => by
    have h0 := h s List.mem_cons_self
    have ih := flat_same (steps := r) fun s hs => h s (List.mem_cons_of_mem _ hs)
    unfold flat at ih ⊢
    rw [List.flatMap_cons, List.flatMap_cons, ih, h0.1, h0.2]
theorem flat_add {dn : Nat → Bool} {η : Nat → Value × List Item} {st : FS} (r : Value × List Item) : ∀ {steps : List FS}, (steps.map (·.i)).Nodup → st ∈ steps → dn st.i = false →
    (r.2 ++ flat dn η steps).Perm (flat (fun k => k == st.i || dn k) (fun k => if k = st.i then r else η k) steps)
  | [], _, h, _ => by cases h
  | s :: rest, hnd, hm, hd => by
    rw [List.map_cons, List.nodup_cons] at hnd
    by_cases hs : s.i = st.i
    · have hsame : flat dn η rest = flat (fun k => k == st.i || dn k) (fun k => if k = st.i then r else η k) rest := flat_same fun s' hs' => by
        have hne : s'.i ≠ st.i := fun e => hnd.1 (by rw [hs, ← e]; exact List.mem_map_of_mem hs')
        simp [hne]
      unfold flat at hsame ⊢
      rw [List.flatMap_cons, List.flatMap_cons, ← hsame]
      simp [hs, hd]
    · have hm' : st ∈ rest := by
        rcases List.mem_cons.1 hm with e | hm'
        · exact absurd (by rw [e]) hs
        · exact hm'
      have ih := flat_add (η := η) r hnd.2 hm' hd
      unfold flat at ih ⊢
      rw [List.flatMap_cons, List.flatMap_cons]
      have hh : (if (fun k => k == st.i || dn k) s.i = true then ((fun k => if k = st.i then r else η k) s.i).2 else []) = if dn s.i = true then (η s.i).2 else [] := by simp [hs]
      rw [hh]
      refine List.Perm.trans ?_ (List.Perm.append_left _ ih)
      rw [← List.append_assoc, ← List.append_assoc]
      exact List.Perm.append_right _ List.perm_append_comm
theorem putAll_defers : ∀ (L : List (Tmp × Value)) (a : Act), (putAll a L).defers = a.defers
  | [], _ => rfl
  | (n, v) :: r, a => by show (putAll (a.put (some n) v) r).defers = _; rw [putAll_defers r]; rfl
theorem putAll_size : ∀ (L : List (Tmp × Value)) (a : Act), (putAll a L).tmps.size = a.tmps.size
  | [], _ => rfl
  | (n, v) :: r, a => by show (putAll (a.put (some n) v) r).tmps.size = _; rw [putAll_size r]; simp [Act.put]
theorem put_get (a : Act) (d x : Tmp) (v : Value) : (a.put (some d) v).tmps.getD x undef = if d = x ∧ d < a.tmps.size then v else a.tmps.getD x undef := by
  simp only [Act.put, Array.getD_eq_getD_getElem?, Array.getElem?_setIfInBounds]
  by_cases h : d = x
  · subst h
    by_cases hs : d < a.tmps.size
    · simp [hs]
    · simp [hs]
  · simp [h]
theorem putAll_other : ∀ (L : List (Tmp × Value)) (a : Act) (x : Tmp), (∀ p ∈ L, p.1 ≠ x) → (putAll a L).tmps.getD x undef = a.tmps.getD x undef
  | [], _, _, _ => rfl
  | (n, v) :: r, a, x, h => by
    show (putAll (a.put (some n) v) r).tmps.getD x undef = _
    rw [putAll_other r _ x fun p hp => h p (List.mem_cons_of_mem _ hp), put_get, if_neg]
    exact fun e => h (n, v) List.mem_cons_self e.1
theorem putAll_at : ∀ (L : List (Tmp × Value)) (a : Act), (L.map (·.1)).Nodup → ∀ p ∈ L, p.1 < a.tmps.size → (putAll a L).tmps.getD p.1 undef = p.2
  | [], _, _, p, h, _ => by cases h
  | (n, v) :: r, a, hnd, p, hp, hs => by
    rw [List.map_cons, List.nodup_cons] at hnd
    show (putAll (a.put (some n) v) r).tmps.getD p.1 undef = _
    rcases List.mem_cons.1 hp with rfl | hp
    · rw [putAll_other r _ _ fun q hq e => hnd.1 (by rw [← e]; exact List.mem_map_of_mem hq), put_get, if_pos ⟨rfl, hs⟩]
    · exact putAll_at r _ hnd.2 p hp (by simpa [Act.put] using hs)
theorem act_ext {a b : Act} (hd : a.defers = b.defers) (hs : a.tmps.size = b.tmps.size) (h : ∀ x, a.tmps.getD x undef = b.tmps.getD x undef) : a = b := by
  cases a with
  | mk t d =>
  cases b with
  | mk t' d' =>
  simp only at hd hs h
  subst hd
  congr 1
  apply Array.ext hs
  intro i h1 h2
  have := h i
  simpa [Array.getD_eq_getD_getElem?, h1, h2] using this
theorem set_get (l : Array Bool) (i j : Nat) (b : Bool) : (l.setIfInBounds i true).getD j b = if i = j ∧ i < l.size then true else l.getD j b := by
  simp only [Array.getD_eq_getD_getElem?, Array.getElem?_setIfInBounds]
  by_cases h : i = j
  · subst h
    by_cases hs : i < l.size
    · simp [hs]
    · simp [hs]
  · simp [h]
def setsAll : Array Bool → List Nat → Array Bool
  | l, [] => l
  | l, i :: r => setsAll (l.setIfInBounds i true) r
theorem setsAll_size : ∀ (is : List Nat) (l : Array Bool), (setsAll l is).size = l.size
  | [], _ => rfl
  | i :: r, l => by show (setsAll (l.setIfInBounds i true) r).size = _; rw [setsAll_size r]; simp
theorem setsAll_get : ∀ (is : List Nat) (l : Array Bool) (j : Nat) (b : Bool), (∀ i ∈ is, i < l.size) → (setsAll l is).getD j b = if j ∈ is then true else l.getD j b
  | [], _, _, _, _ => by simp [setsAll]
  | i :: r, l, j, b, h => by
    show (setsAll (l.setIfInBounds i true) r).getD j b = _
    rw [setsAll_get r _ j b fun k hk => by simpa using h k (List.mem_cons_of_mem _ hk), set_get]
    have hi := h i List.mem_cons_self
    by_cases hj : j ∈ r
    · simp [hj]
    · by_cases hij : i = j
      · subst hij
        simp [hj, hi]
      · simp [hj, hij, Ne.symm hij]
theorem bools_ext {l l' : Array Bool} (hs : l.size = l'.size) (h : ∀ j, l.getD j false = l'.getD j false) : l = l' := by
  apply Array.ext hs
  intro i h1 h2
  have := h i
  simpa [Array.getD_eq_getD_getElem?, h1, h2] using this
theorem map_inj {α β : Type} {f : α → β} : ∀ {l : List α}, (l.map f).Nodup → ∀ s ∈ l, ∀ t ∈ l, f s = f t → s = t
  | [], _, _, h, _, _, _ => by cases h
  | x :: r, hnd, s, hs, t, ht, e => by
    rw [List.map_cons, List.nodup_cons] at hnd
    rcases List.mem_cons.1 hs with e1 | hs
    · rcases List.mem_cons.1 ht with e2 | ht
      · rw [e1, e2]
      · exact absurd (by rw [← e1, e]; exact List.mem_map_of_mem ht) hnd.1
    · rcases List.mem_cons.1 ht with e2 | ht
      · exact absurd (by rw [← e2, ← e]; exact List.mem_map_of_mem hs) hnd.1
      · exact map_inj hnd.2 s hs t ht e
theorem count_step {dn : Nat → Bool} {st : FS} : ∀ {q : List FS}, (q.map (·.i)).Nodup → st ∈ q → dn st.i = false → (q.filter fun s => !dn s.i).length = (q.filter fun s => !(s.i == st.i || dn s.i)).length + 1
  | [], _, h, _ => by cases h
  | s :: q, hnd, hm, hd => by
    rw [List.map_cons, List.nodup_cons] at hnd
    by_cases hs : s.i = st.i
    · have hd' : dn s.i = false := by rw [hs]; exact hd
      have hrest : q.filter (fun s => !(s.i == st.i || dn s.i)) = q.filter (fun s => !dn s.i) := List.filter_congr fun s' hs' => by
        have : s'.i ≠ st.i := fun e => hnd.1 (by rw [hs, ← e]; exact List.mem_map_of_mem hs')
        simp [this]
      rw [List.filter_cons, List.filter_cons, hrest]
      simp [hs, hd]
    · have hm' : st ∈ q := by
        rcases List.mem_cons.1 hm with e | h
        · exact absurd (by rw [e]) hs
        · exact h
      have ih := count_step hnd.2 hm' hd
      have hbe : (s.i == st.i) = false := by simpa using hs
      rw [List.filter_cons, List.filter_cons, hbe, Bool.false_or]
      cases dn s.i
      · simp only [Bool.not_false, if_true, List.length_cons]
        omega
      · simpa using ih
section
variable {md : Region.Mode} {ops : Array Oper} {a : Act} {w0 : World} {S : Nat → Prop} {Γ0 : List Item} {Q : Exit → Act → World → Prop} {l : Array Bool}
theorem float_go {P : Program} {Γ1 : List Item} (hΓ1 : ∀ x ∈ Γ1, x ∈ Γ0) (steps : List FS) (fuel : Nat) (hok : ∀ st ∈ steps, st.Ok P ops a w0 S Γ0 steps) (hc : floatB md ops l a.tmps.size (steps.map (·.i)) (steps.map (·.d)) (steps.map (·.dep)) = true)
    (hend : ∀ (η : Nat → Value × List Item) (w' : World), (∀ st ∈ steps, st.spec (η st.i).1 (η st.i).2) → Holds w0 S (flat (fun _ => true) η steps ++ Γ0) w' →
      wpAnyLast P md ops Q (OK Γ1) [] fuel (setsAll l (steps.map (·.i))) (putAll a (steps.map fun st => (st.d, (η st.i).1))) w') :
    ∀ (r : Nat) (dn : Nat → Bool) (b : Act) (lD : Array Bool) (Γ : List Item) (η : Nat → Value × List Item) (w : World),
      (steps.filter fun st => !dn st.i).length = r → (∀ k, dn k = true → ∃ st ∈ steps, st.i = k) → lD.size = l.size → (∀ j c, lD.getD j c = if dn j = true then true else l.getD j c) →
      b.defers = a.defers → b.tmps.size = a.tmps.size → (∀ st ∈ steps, dn st.i = true → b.tmps.getD st.d undef = (η st.i).1) → (∀ x, (∀ st ∈ steps, dn st.i = true → st.d ≠ x) → b.tmps.getD x undef = a.tmps.getD x undef) →
      (∀ st ∈ steps, dn st.i = true → st.spec (η st.i).1 (η st.i).2) → Holds w0 S Γ w → Γ.Perm (flat dn η steps ++ Γ0) → wpAnyLast P md ops Q (OK Γ1) [] (fuel + r) lD b w := by
  unfold floatB at hc
  simp only [Bool.and_eq_true, decide_eq_true_eq] at hc
  obtain ⟨⟨⟨⟨⟨⟨c1, c2⟩, c3⟩, c4⟩, c5⟩, c6⟩, c7⟩ := hc
  have hsz : ∀ st ∈ steps, st.i < l.size ∧ l.getD st.i true = false := fun st hst => by
    have := List.all_eq_true.1 c1 st.i (List.mem_map_of_mem hst)
    simpa using this
  have hds : ∀ st ∈ steps, st.d < a.tmps.size := fun st hst => by
    have := List.all_eq_true.1 c2 st.d (List.mem_map_of_mem hst)
    simpa using this
  have hinj : ∀ s ∈ steps, ∀ t ∈ steps, s.i = t.i → s = t := map_inj c3
  have hdinj : ∀ s ∈ steps, ∀ t ∈ steps, s.d = t.d → s = t := map_inj c4
  have hdep : ∀ st ∈ steps, ∀ j ∈ st.dep, j ∈ edges md ops st.i := fun st hst j hj => by
    obtain ⟨n, hn, rfl⟩ := List.getElem_of_mem hst
    have hz : ((steps[n]).i, (steps[n]).dep) ∈ (steps.map (·.i)).zip (steps.map (·.dep)) := by
      rw [List.zip_map']
      exact List.mem_map_of_mem (f := fun s : FS => (s.i, s.dep)) (List.getElem_mem hn)
    have := List.all_eq_true.1 c5 _ hz
    have := List.all_eq_true.1 this j hj
    simpa using this
  have hlast : ∀ j, j < ops.size → l.getD j true = false → (∀ st ∈ steps, st.i ≠ j) → ∀ st ∈ steps, st.i ∈ edges md ops j := fun j hj hl hn st hst => by
    have := List.all_eq_true.1 c6 j (List.mem_range.2 hj)
    simp only [Bool.or_eq_true, hl, Bool.false_eq_true, false_or] at this
    rcases this with h | h
    · have hm : j ∈ steps.map (·.i) := by simpa using h
      obtain ⟨s, hs, e⟩ := List.mem_map.1 hm
      exact absurd e (hn s hs)
    · have := List.all_eq_true.1 h st.i (List.mem_map_of_mem hst)
      simpa using this
  have hord : ∀ k (hk : k < steps.length), ∀ e ∈ edges md ops (steps[k]).i, l.getD e false = true ∨ ∃ k', ∃ hk' : k' < k, (steps[k']).i = e := fun k hk e he => by
    have := List.all_eq_true.1 c7 k (List.mem_range.2 (by simpa using hk))
    have he2 : e ∈ edges md ops ((steps.map (·.i)).getD k 0) := by
      rw [List.getD_eq_getElem?_getD, List.getElem?_map, List.getElem?_eq_getElem hk]
      exact he
    have := List.all_eq_true.1 this e he2
    simp only [Bool.or_eq_true] at this
    rcases this with h | h
    · exact .inl h
    · right
      have hm : e ∈ (steps.map (·.i)).take k := by simpa using h
      obtain ⟨n, hn, e2⟩ := List.getElem_of_mem hm
      rw [List.length_take, List.length_map] at hn
      refine ⟨n, by omega, ?_⟩
      rw [List.getElem_take, List.getElem_map] at e2
      exact e2
  intro r
  induction r with
  | zero =>
    intro dn b lD Γ η w hr hdn hls hlD hbd hbs hb1 hb2 hsp hH hP
    have hall : ∀ st ∈ steps, dn st.i = true := fun st hst => by
      have h0 := List.length_eq_zero_iff.1 hr
      have := List.filter_eq_nil_iff.1 h0 st hst
      simpa using this
    have e1 : lD = setsAll l (steps.map (·.i)) := by
      refine bools_ext (by rw [hls, setsAll_size]) fun j => ?_
      rw [hlD, setsAll_get _ _ _ _ fun i hi => by
        obtain ⟨s, hs, rfl⟩ := List.mem_map.1 hi
        exact (hsz s hs).1]
      by_cases hj : j ∈ steps.map (·.i)
      · obtain ⟨s, hs, rfl⟩ := List.mem_map.1 hj
        rw [if_pos (hall s hs), if_pos hj]
      · rw [if_neg hj, if_neg]
        intro h
        obtain ⟨s, hs, e⟩ := hdn j h
        exact hj (e ▸ List.mem_map_of_mem hs)
    have e2 : b = putAll a (steps.map fun st => (st.d, (η st.i).1)) := by
      refine act_ext (by rw [hbd, putAll_defers]) (by rw [hbs, putAll_size]) fun x => ?_
      by_cases hx : ∃ st ∈ steps, st.d = x
      · obtain ⟨st, hst, rfl⟩ := hx
        rw [hb1 st hst (hall st hst)]
        have := putAll_at (steps.map fun st => (st.d, (η st.i).1)) a (by rw [List.map_map]; exact c4) (st.d, (η st.i).1) (List.mem_map_of_mem (f := fun st : FS => (st.d, (η st.i).1)) hst) (hds st hst)
        exact this.symm
      · rw [hb2 x fun st hst _ e => hx ⟨st, hst, e⟩, putAll_other]
        intro p hp e
        obtain ⟨st, hst, rfl⟩ := List.mem_map.1 hp
        exact hx ⟨st, hst, e⟩
    rw [e1, e2]
    refine hend η w (fun st hst => hsp st hst (hall st hst)) ?_
    rw [flat_same (dn' := dn) (η' := η) fun s hs => ⟨(hall s hs).symm, rfl⟩]
    exact hH.perm hP
  | succ r ih =>
    intro dn b lD Γ η w hr hdn hls hlD hbd hbs hb1 hb2 hsp hH hP
    have hopen : ∃ k, ∃ hk : k < steps.length, dn (steps[k]).i = false ∧ ∀ k', (h' : k' < k) → dn (steps[k']).i = true := by
      have hex : ∃ k, ∃ hk : k < steps.length, dn (steps[k]).i = false := by
        have hne : steps.filter (fun st => !dn st.i) ≠ [] := fun h => by rw [h] at hr; cases hr
        obtain ⟨st, hst⟩ := List.exists_mem_of_ne_nil _ hne
        obtain ⟨h1, h2⟩ := List.mem_filter.1 hst
        obtain ⟨k, hk, rfl⟩ := List.getElem_of_mem h1
        exact ⟨k, hk, by simpa using h2⟩
      have key : ∀ n, (∃ k, k ≤ n ∧ ∃ hk : k < steps.length, dn (steps[k]).i = false) → ∃ k, ∃ hk : k < steps.length, dn (steps[k]).i = false ∧ ∀ k', (h' : k' < k) → dn (steps[k']).i = true := by
        intro n
        induction n using Nat.strongRecOn with
        | _ n ihn =>
          rintro ⟨k, hkn, hk, hd⟩
          by_cases hall : ∀ k', (h' : k' < k) → dn (steps[k']).i = true
          · exact ⟨k, hk, hd, hall⟩
          · have : ∃ k', ∃ h' : k' < k, dn (steps[k']).i = false := by
              refine Classical.byContradiction fun hcon => hall fun k' h' => ?_
              cases hdk : dn (steps[k']).i with
              | true => rfl
              | false => exact absurd ⟨k', h', hdk⟩ hcon
            obtain ⟨k', h', hd'⟩ := this
            exact ihn k' (by omega) ⟨k', Nat.le_refl _, by omega, hd'⟩
      obtain ⟨k, hk, hd⟩ := hex
      exact key k ⟨k, Nat.le_refl _, hk, hd⟩
    have hops : ∀ st ∈ steps, ∃ o, ops[st.i]? = some o := fun st hst => by
      obtain ⟨o, ho, _⟩ := hok st hst
      exact ⟨o, at_ ho⟩
    refine ⟨fun hnil => ?_, fun j hj => ?_⟩
    · obtain ⟨k, hk, hd, hbefore⟩ := hopen
      obtain ⟨o, ho⟩ := hops (steps[k]) (List.getElem_mem hk)
      have hmem : (steps[k]).i ∈ Region.ready md ops lD := by
        refine mem_ready.2 ⟨?_, o, ho, fun e he hb => ?_⟩
        · rw [hlD, hd]
          exact (hsz _ (List.getElem_mem hk)).2
        · rw [hlD]
          rcases hord k hk e.on ((edges_mem ho).2 ⟨e, he, hb, rfl⟩) with h | ⟨k', hk', e2⟩
          · rw [h]; simp
          · rw [← e2, hbefore k' hk']; rfl
      rw [hnil] at hmem
      cases hmem
    · obtain ⟨hj1, o, ho, hafter⟩ := mem_ready.1 hj
      have hjl : l.getD j true = false ∧ dn j = false := by
        rw [hlD] at hj1
        split at hj1
        · cases hj1
        · next h => exact ⟨hj1, by simpa using h⟩
      have hjs : ∃ st ∈ steps, st.i = j := by
        refine Classical.byContradiction fun hcon => ?_
        have hn : ∀ st ∈ steps, st.i ≠ j := fun st hst e => hcon ⟨st, hst, e⟩
        obtain ⟨k, hk, hd, _⟩ := hopen
        have hjlt : j < ops.size := (Array.getElem?_eq_some_iff.1 ho).1
        obtain ⟨e, he, hb, hon⟩ := (edges_mem ho).1 (hlast j hjlt hjl.1 hn _ (List.getElem_mem hk))
        have := hafter e he hb
        rw [hon, hlD, hd] at this
        have h2 := (hsz _ (List.getElem_mem hk))
        have h3 : l.getD (steps[k]).i false = false := by
          have := h2.2
          simp only [Array.getD_eq_getD_getElem?, Array.getElem?_eq_getElem h2.1, Option.getD_some] at this ⊢
          exact this
        simp only [Bool.false_eq_true, if_false] at this
        rw [h3] at this
        cases this
      obtain ⟨st, hst, rfl⟩ := hjs
      obtain ⟨o', ho', hdst, hg, hstep⟩ := hok st hst
      obtain rfl : o = o' := Option.some.inj (ho.symm.trans (at_ ho'))
      have hdone : ∀ s ∈ steps, s.i ∈ st.dep → dn s.i = true := fun s hs hd => by
        obtain ⟨e, he, hb, hon⟩ := (edges_mem ho).1 (hdep st hst _ hd)
        have := hafter e he hb
        rw [hon, hlD] at this
        cases hdn : dn s.i with
        | true => rfl
        | false =>
          rw [hdn] at this
          have h2 := hsz s hs
          have h3 : l.getD s.i false = false := by
            have := h2.2
            simp only [Array.getD_eq_getD_getElem?, Array.getElem?_eq_getElem h2.1, Option.getD_some] at this ⊢
            exact this
          simp only [Bool.false_eq_true, if_false] at this
          rw [h3] at this
          cases this
      have hwant : Region.wanted o (yielded ops b.tmps) = true := by simp [Region.wanted, hg]
      have hmemΓ : ∀ s ∈ steps, dn s.i = true → ∀ y ∈ (η s.i).2, y ∈ Γ := fun s hs hd y hy => by
        refine hP.mem_iff.2 (List.mem_append_left _ ?_)
        exact List.mem_flatMap.2 ⟨s, hs, by rw [if_pos hd]; exact hy⟩
      unfold wpOp
      rw [ho]
      simp only [hwant, if_true]
      refine .inl (hstep b η Γ w _ Q ?_ ?_ ?_ hH ?_)
      · exact fun x hx => hb2 x fun s hs _ => hx s hs
      · exact fun s hs hd => ⟨hb1 s hs (hdone s hs hd), hsp s hs (hdone s hs hd), hmemΓ s hs (hdone s hs hd)⟩
      · exact fun y hy => hP.mem_iff.2 (List.mem_append_right _ hy)
      · intro v Θ w' hspec hH'
        refine ⟨fun _ _ x hx => hH'.ok x (List.mem_append_right _ (hP.mem_iff.2 (List.mem_append_right _ (hΓ1 x hx)))), ?_⟩
        refine ih (fun k => k == st.i || dn k) (b.put (some st.d) v) (lD.setIfInBounds st.i true) (Θ ++ Γ) (fun k => if k = st.i then (v, Θ) else η k) w' ?_ ?_ ?_ ?_ ?_ ?_ ?_ ?_ ?_ hH' ?_
        · have h2 := count_step c3 hst hjl.2
          rw [hr] at h2
          show (steps.filter fun s => !(s.i == st.i || dn s.i)).length = r
          omega
        · intro k hk
          have hk2 : k = st.i ∨ dn k = true := by simpa using hk
          rcases hk2 with rfl | hk
          · exact ⟨st, hst, rfl⟩
          · exact hdn k hk
        · simp [hls]
        · intro j c
          rw [set_get, hlD]
          have := (hsz st hst).1
          by_cases hj : st.i = j
          · subst hj
            simp [hls, this]
          · simp [hj, Ne.symm hj]
        · show (b.put (some st.d) v).defers = _
          exact hbd
        · simpa [Act.put] using hbs
        · intro s hs hd
          rw [put_get]
          by_cases hsi : s.i = st.i
          · have := hinj s hs st hst hsi
            subst this
            simp [hbs, hds s hs]
          · have hne : st.d ≠ s.d := fun e => hsi (by rw [hdinj st hst s hs e])
            simp only [hne, false_and, if_false, hsi]
            refine hb1 s hs ?_
            simpa [hsi] using hd
        · intro x hx
          rw [put_get, if_neg (fun e => hx st hst (by simp) e.1)]
          exact hb2 x fun s hs hd => hx s hs (by simp [hd])
        · intro s hs hd
          by_cases hsi : s.i = st.i
          · have := hinj s hs st hst hsi
            subst this
            simpa using hspec
          · simp only [hsi, if_false]
            refine hsp s hs ?_
            simpa [hsi] using hd
        · refine List.Perm.trans (List.Perm.append_left Θ hP) ?_
          rw [← List.append_assoc]
          exact List.Perm.append_right _ (flat_add (η := η) (v, Θ) c3 hst hjl.2)
def ends : List FS → List (Tmp × Value) → List Item → (List (Tmp × Value) → List Item → Prop) → Prop
  | [], L, Θ, K => K L Θ
  | st :: r, L, Θ, K => ∀ v Θ', st.spec v Θ' → ends r (L ++ [(st.d, v)]) (Θ ++ Θ') K
theorem ends_of {K : List (Tmp × Value) → List Item → Prop} (η : Nat → Value × List Item) : ∀ (steps : List FS) (L : List (Tmp × Value)) (Θ : List Item), ends steps L Θ K → (∀ st ∈ steps, st.spec (η st.i).1 (η st.i).2) →
    K (L ++ steps.map fun st => (st.d, (η st.i).1)) (Θ ++ flat (fun _ => true) η steps)
  | [], L, Θ, h, _ => by simpa [flat, ends] using h
  | st :: r, L, Θ, h, hs => by
    have := ends_of η r _ _ (h _ _ (hs st List.mem_cons_self)) fun s hm => hs s (List.mem_cons_of_mem _ hm)
    simpa [flat, List.append_assoc] using this
end
theorem float_ {ops : Array Oper} {a : Act} {w0 w : World} {S : Nat → Prop} {Γ Γ1 : List Item} {Q : Exit → Act → World → Prop} {l : Array Bool} {md : Region.Mode} {n : Nat} (steps : List FS) (fuel : Nat) (HF : Holds w0 S Γ w)
    (hok : ∀ st ∈ steps, st.Ok Try.prog ops a w0 S Γ steps)
    (hend : ends steps [] [] fun L Θ => ∀ w', Holds w0 S (Θ ++ Γ) w' → wpAnyLast Try.prog md ops Q (OK Γ1) [] fuel (setsAll l (steps.map (·.i))) (putAll a L) w')
    (hn : fuel + steps.length = n := by rfl) (hs : Sub Γ Γ1 := by (repeat (first | exact Sub.nil | refine Sub.cons (by (repeat (first | exact List.mem_cons_self | apply List.mem_cons_of_mem))) ?_)))
    (hc : floatB md ops l a.tmps.size (steps.map (·.i)) (steps.map (·.d)) (steps.map (·.dep)) = true := by kernel_rfl) : wpAnyLast Try.prog md ops Q (OK Γ1) [] n l a w := by
  subst hn
  refine float_go (P := Try.prog) (S := S) (w0 := w0) (Γ0 := Γ) hs.all steps fuel hok hc (fun η w' hsp hH => ?_) steps.length (fun _ => false) a l Γ (fun _ => (undef, [])) w ?_ ?_ rfl ?_ rfl rfl ?_ ?_ ?_ HF ?_
  · have := ends_of η steps [] [] hend hsp
    rw [List.nil_append, List.nil_append] at this
    exact this w' hH
  · simp
  · intro k hk; cases hk
  · intro j c; simp
  · intro st _ h; cases h
  · intro x _; rfl
  · intro st _ h; cases h
  · have : flat (fun _ => false) (fun _ => (undef, ([] : List Item))) steps = [] := by
      unfold flat
      rw [List.flatMap_eq_nil_iff]
      intro s _
      rfl
    rw [this]
    exact List.Perm.refl _
theorem hf_ {ops : Array Oper} {a a' : Act} {w : World} {Γ1 : List Item} {Q : Exit → Act → World → Prop} {l : Array Bool} {md : Region.Mode} {n : Nat} {L : List (Tmp × Value)} {ds : List Nat} (h : wpAnyLast Try.prog md ops Q (OK Γ1) ds n l a' w)
    (ha : putAll a L = a' := by (simp only [List.nil_append, List.cons_append, putAll, Act.put, List.setIfInBounds_toArray, List.set_cons_zero, List.set_cons_succ]; first | done | rfl)) : wpAnyLast Try.prog md ops Q (OK Γ1) ds n l (putAll a L) w := by subst ha; exact h
section
variable {ops : Array Oper} {a : Act} {w0 : World} {S : Nat → Prop} {Γ0 : List Item} {all : List FS} {i : Nat} {d : Tmp} {dep : List Nat} {o : Oper}
structure Frm (a : Act) (Γ0 : List Item) (all : List FS) (dep : List Nat) (b : Act) (η : Nat → Value × List Item) (Γ : List Item) : Prop where
  out : ∀ x, (all.all fun s => !(s.d == x)) = true → b.tmps.getD x undef = a.tmps.getD x undef
  dep : ∀ (k : Nat) (s : FS), all[k]? = some s → dep.contains s.i = true → b.tmps.getD s.d undef = (η s.i).1 ∧ s.spec (η s.i).1 (η s.i).2 ∧ ∀ y ∈ (η s.i).2, y ∈ Γ
  sub : ∀ y ∈ Γ0, y ∈ Γ
theorem frm {b : Act} {η : Nat → Value × List Item} {Γ : List Item} (h1 : ∀ x, (∀ s ∈ all, s.d ≠ x) → b.tmps.getD x undef = a.tmps.getD x undef)
    (h2 : ∀ s ∈ all, s.i ∈ dep → b.tmps.getD s.d undef = (η s.i).1 ∧ s.spec (η s.i).1 (η s.i).2 ∧ ∀ y ∈ (η s.i).2, y ∈ Γ) (h3 : ∀ y ∈ Γ0, y ∈ Γ) : Frm a Γ0 all dep b η Γ :=
  ⟨fun x hx => h1 x fun s hs e => by have := List.all_eq_true.1 hx s hs; simp [e] at this, fun k s hk hd => h2 s (List.mem_of_getElem? hk) (by simpa using hd), h3⟩
theorem Frm.part {b : Act} {η : Nat → Value × List Item} {Γ Δ : List Item} (F : Frm a Γ0 all dep b η Γ) (hp : Part Γ0 Δ := by (repeat (first | exact Part.nil | refine Part.cons (by (repeat (first | exact List.mem_cons_self | apply List.mem_cons_of_mem))) trivial ?_))) : ∀ y ∈ Δ, y ∈ Γ ∧ y.still := fun y hy => ⟨F.sub y (hp.all y hy).1, (hp.all y hy).2⟩
theorem Frm.tm {b : Act} {η : Nat → Value × List Item} {Γ : List Item} (F : Frm a Γ0 all dep b η Γ) (x : Tmp) {v : Value} (hx : (all.all fun s => !(s.d == x)) = true := by rfl) (hv : a.tmps.toList[x]? = some v := by rfl) : b.eval (.tmp x) = v := by
  have h1 := F.out x hx
  have h2 := ev_ hv
  exact h1.trans h2
theorem Frm.e {b : Act} {η : Nat → Value × List Item} {Γ : List Item} (F : Frm a Γ0 all dep b η Γ) (k : Nat) {s : FS} (hs : all[k]? = some s := by rfl) (hd : dep.contains s.i = true := by rfl) : s.spec (b.eval (.tmp s.d)) (η s.i).2 ∧ ∀ y ∈ (η s.i).2, y ∈ Γ := by
  obtain ⟨h1, h2, h3⟩ := F.dep k s hs hd
  refine ⟨?_, h3⟩
  show s.spec (b.tmps.getD s.d undef) _
  rw [h1]
  exact h2
theorem get_eval (b : Act) (x : Tmp) : b.tmps[x]?.getD undef = b.eval (.tmp x) := by
  show _ = b.tmps.getD x undef
  simp
theorem fcal_ {spec : Value → List Item → Prop} {f : FuncId} {fn : Func} {aas : Array Operand} {ts : Array TypeId} (hf : Try.prog.funcs[f]? = some fn)
    (h : ∀ b η Γ, Frm a Γ0 all dep b η Γ → ∃ args Δ, aas.map b.eval = args ∧ (∀ y ∈ Δ, y ∈ Γ ∧ y.still) ∧ HC Try.prog f Δ args spec)
    (hi : ops.toList[i]? = some o := by rfl) (hop : o.op = .call { callee := .value (.func f), args := aas, argTypes := ts } := by rfl) (hd : o.dst = some d := by rfl) (hg : o.guard = none := by rfl)
    (hname : (fn.name == "runtime.NumGoroutine") = false := by kernel_rfl) (hb : fn.body.isSome = true := by rfl) : FS.Ok Try.prog ops a w0 S Γ0 all ⟨i, d, dep, spec⟩ := by
  refine ⟨o, hi, hd, hg, fun b η Γ w K Q h1 h2 h3 HF hK => ?_⟩
  obtain ⟨args, Δ, hargs, hΔ, hc⟩ := h b η Γ (frm h1 h2 h3)
  have hw : Region.wanted o (yielded ops b.tmps) = true := by simp [Region.wanted, hg]
  have := goes_ (P := Try.prog) (ops := ops) (Q := Q) (oi := o) (N := some d) (a := b) (w := w) (K := K) hf hname hb args hw hd hop hargs ((hc w _ (HF.call hΔ)).mono (R' := fun e w' => ∃ v, e = .returned v ∧ K (b.put (some d) v) w') ?_)
  · rw [if_pos hw] at this
    exact this
  · rintro e w' ⟨v, Θ, he, hR, hst, hh⟩
    exact ⟨v, he, hK v Θ w' hR (HF.back hst hh)⟩
theorem fpure_ {spec : Value → List Item → Prop} (h : ∀ b η Γ, Frm a Γ0 all dep b η Γ → ∃ v, (∀ w, (execOp b.eval o).run Try.prog w = .ok (.value v) w) ∧ spec v [])
    (hi : ops.toList[i]? = some o := by rfl) (hd : o.dst = some d := by rfl) (hg : o.guard = none := by rfl) : FS.Ok Try.prog ops a w0 S Γ0 all ⟨i, d, dep, spec⟩ := by
  refine ⟨o, hi, hd, hg, fun b η Γ w K Q h1 h2 h3 HF hK => ?_⟩
  obtain ⟨v, hr, hs⟩ := h b η Γ (frm h1 h2 h3)
  unfold Oper.wp
  rw [hr w, Oper.upon_value, hd]
  exact hK v [] w hs HF
def NewBox (t : TypeId) (cs : List Value) (v : Value) (Θ : List Item) : Prop := ∃ g, v = .pointer (some ⟨g, 0, none⟩) ∧ Θ = [.box g t cs]
theorem falo_ {t : TypeId} {z : Value} {cs : List Value} (hi : ops.toList[i]? = some o := by rfl) (hop : o.op = .alloc t := by rfl) (hz : ZeroT Try.prog t z cs := by (first
      | exact zero_whole
      | exact zero_dyadic
      | exact zero_ratio
      | fail)) (hd : o.dst = some d := by rfl) (hg : o.guard = none := by rfl) :
    FS.Ok Try.prog ops a w0 S Γ0 all ⟨i, d, dep, NewBox t cs⟩ := by
  refine ⟨o, hi, hd, hg, fun b η Γ w K Q h1 h2 h3 HF hK => ?_⟩
  have hrun : (execOp b.eval o).run Try.prog w = .ok (.value (.pointer (some ⟨w.heap.size, 0, none⟩))) (w.alloc (.cells cs.toArray t (0, 0))) := by
    unfold execOp
    rw [hop]
    simp [Instr.alloc, hz.zero, newVar, newRow, newObj, hz.cells]
    rfl
  unfold Oper.wp
  rw [hrun, Oper.upon_value, hd]
  exact hK _ [.box w.heap.size t cs] _ ⟨_, rfl, rfl⟩ (HF.make rfl (below_alloc (Below.refl _ _) _) (blk_new w _))
end
end Go.Proofs.Ytjbpchebabhoeaa.H
end
section
set_option linter.unusedVariables false
set_option linter.unusedSimpArgs false
set_option maxHeartbeats 4000000
set_option maxRecDepth 100000
namespace Go.Proofs.Ytjbpchebabhoeaa.H
open Go.RowKit Go.Proofs.YtjbpchebabhoeaaW.PrintWords Go.Proofs.YtjbpchebabhoeaaW.PrintLast Go.Proofs.YtjbpchebabhoeaaW.PrintMore Go.Proofs.Ytjbpchebabhoeaa.X Go.Proofs.Ytjbpchebabhoeaa.P Go.Proofs.Ytjbpchebabhoeaa.Nt Go.Proofs.Ytjbpchebabhoeaa.Bt Go.Proofs.Ytjbpchebabhoeaa.Dg
def WholeR (neg : Bool) (l : List Int) (v : Value) (Θ : List Item) : Prop := ∃ A c, v = .agg #[.bool neg, .slice A l.length c] ∧ Θ = [U A c l]
def wv (n : Bool) (m : Nat) : Int := if n = true then -(m : Int) else m
def WholeZ (z : Int) : Value → List Item → Prop := WholeR (decide (z < 0)) (L z.natAbs)
def sgnZ (z : Int) : Int := if z = 0 then 0 else if z < 0 then -1 else 1
theorem wv_neg (n : Bool) (m : Nat) : decide (wv n m < 0) = (n && decide (0 < m)) := by
  cases n with
  | true => rw [Bool.true_and]; exact decide_eq_decide.mpr (by unfold wv; rw [if_pos rfl]; omega)
  | false => rw [Bool.false_and]; exact decide_eq_false (by unfold wv; rw [if_neg (by decide)]; omega)
theorem wv_abs (n : Bool) (m : Nat) : (wv n m).natAbs = m := by
  cases n with
  | true => unfold wv; rw [if_pos rfl]; omega
  | false => unfold wv; rw [if_neg (by decide)]; omega
theorem wv_not (n : Bool) (m : Nat) : wv (!n) m = -wv n m := by
  cases n <;> simp [wv]
theorem wv_mul (n n' : Bool) (m m' : Nat) : wv (n != n') (m * m') = wv n m * wv n' m' := by
  cases n <;> cases n' <;> simp [wv, Int.neg_mul, Int.mul_neg]
theorem wholeZ (n : Bool) (m : Nat) : WholeZ (wv n m) = WholeR (n && decide (0 < m)) (L m) := by unfold WholeZ; rw [wv_neg, wv_abs]
section
variable {A A' : Option Addr} {c c' : Nat} {l l' : List Int}
theorem lenL_nat (n : Nat) : decide (0 < (L n).length) = decide (0 < n) := by
  have := @L_len0 n
  exact decide_eq_decide.mpr (by omega)
theorem len_mul (h : W64 l) (h' : W64 l') : (L (V l * V l')).length ≤ l.length + l'.length := by
  refine L_le ?_
  rw [Nat.pow_add]
  exact Nat.mul_lt_mul'' (V_lt h) (V_lt h')
theorem len_add (h : W64 l) (h' : W64 l') : (L (V l + V l')).length ≤ l.length + l'.length + 1 := by
  refine L_le ?_
  have h1 := Nat.lt_of_lt_of_le (V_lt h) (pow_le (show l.length ≤ l.length + l'.length by omega))
  have h2 := Nat.lt_of_lt_of_le (V_lt h') (pow_le (show l'.length ≤ l.length + l'.length by omega))
  rw [Nat.pow_succ]
  omega
theorem len_sub (h : W64 l) (h' : W64 l') : (L (if V l < V l' then V l' - V l else V l - V l')).length ≤ l.length + l'.length := by
  refine L_le ?_
  have h1 := Nat.lt_of_lt_of_le (V_lt h) (pow_le (show l.length ≤ l.length + l'.length by omega))
  have h2 := Nat.lt_of_lt_of_le (V_lt h') (pow_le (show l'.length ≤ l.length + l'.length by omega))
  split <;> omega
theorem made_h (neg : Bool) (h : W64 l) (hl : l.length ≤ 17592186044416) : HC Try.prog 75 [U A c l] #[.bool neg, .slice A l.length c] (WholeZ (wv neg (V l))) := by
  rw [wholeZ]
  intro w S HF
  go_enter Try.func75, Try.ntmps75
  cases neg with
  | true =>
    go_wp2_with (first
      | ((with_reducible refine gate_dst (N := 4) rfl ?_); refine alo_ HF ?_; clear HF; intro g w_ HF)
      | (refine cal_ HF Try.func17 (Norm_h h hl) ?_; clear HF; rintro v_ Θ_ w_ ⟨A1, c1, rfl, rfl⟩ HF; simp only [List.cons_append, List.nil_append] at HF)
      | (refine lo_ HF ?_)
      | (refine sto_ HF ?_; clear HF; intro w_ HF))
    refine retc_ HF (post_ (Θ := [U A1 c1 _]) HF ⟨A1, c1, ?_, rfl⟩)
    rw [lenL_nat]
    rfl
  | false =>
    go_wp2_with (first
      | ((with_reducible refine gate_dst (N := 4) rfl ?_); refine alo_ HF ?_; clear HF; intro g w_ HF)
      | (refine cal_ HF Try.func17 (Norm_h h hl) ?_; clear HF; rintro v_ Θ_ w_ ⟨A1, c1, rfl, rfl⟩ HF; simp only [List.cons_append, List.nil_append] at HF)
      | (refine lo_ HF ?_)
      | (refine sto_ HF ?_; clear HF; intro w_ HF))
    exact retc_ HF (post_ (Θ := [U A1 c1 _]) HF ⟨A1, c1, rfl, rfl⟩)
theorem made_hL (neg : Bool) (m : Nat) (hl : (L m).length ≤ 17592186044416) : HC Try.prog 75 [U A c (L m)] #[.bool neg, .slice A (L m).length c] (WholeZ (wv neg m)) := by
  have := made_h (A := A) (c := c) neg (L_wf m) hl
  rwa [L_val] at this
theorem wMul_h (n n' : Bool) (h : W64 l) (h' : W64 l') (f : l.length + l'.length + 1 ≤ 17592186044416) : HC Try.prog 39 [U A c l, U A' c' l'] #[.agg #[.bool n, .slice A l.length c], .agg #[.bool n', .slice A' l'.length c']] (WholeZ (wv n (V l) * wv n' (V l'))) := by
  have hlen := len_mul h h'
  rw [← wv_mul]
  intro w S HF
  go_enter Try.func39, Try.ntmps39
  go_upto_region 1 with (first
    | ((with_reducible refine gate_dst (N := 2) rfl ?_); refine bxo_ HF ?_; clear HF; intro g1 w_ HF)
    | ((with_reducible refine gate_dst (N := 3) rfl ?_); refine bxo_ HF ?_; clear HF; intro g2 w_ HF)
    | ((with_reducible refine gate_dst (N := 4) rfl ?_); refine alo_ HF ?_; clear HF; intro g3 w_ HF)
    | (refine lo_ HF ?_)
    | (refine sto_ HF ?_; clear HF; intro w_ HF))
  refine startH_ 12 [.box g1 _ _, .box g2 _ _] #[false, false, false, false, false, false, false, false, false, false, false, false] HF ?_
  clear HF
  intro w_ HF
  refine hz_ 0 ?_
  refine ht_ 1 HF ?_
  refine hz_ 2 ?_
  refine ht_ 3 HF ?_
  refine hz_ 4 ?_
  refine hz_ 5 ?_
  refine ht_ 6 HF ?_
  refine hz_ 7 ?_
  refine ht_ 8 HF ?_
  refine hcal_ 9 HF Try.func16 (Mul_h h h' (by omega)) ?_
  clear HF
  rintro v_ Θ_ w_ ⟨A1, c1, rfl, rfl⟩ HF
  simp only [List.cons_append, List.nil_append] at HF
  refine hn_ ?_
  refine hcal_ 10 HF Try.func75 (made_hL (n != n') (V l * V l') (by omega)) ?_
  clear HF
  rintro v_ Θ_ w_ ⟨A2, c2, rfl, rfl⟩ HF
  simp only [List.cons_append, List.nil_append] at HF
  refine hn_ ?_
  refine hsto_ 11 HF ?_
  clear HF
  intro w_ HF
  refine hend_ ?_
  go_wp2
  exact retc_ HF (post_ (Θ := [U A2 c2 _]) HF ⟨A2, c2, rfl, rfl⟩)
theorem wNorm_h (n : Bool) (h : W64 l) (f : l.length ≤ 17592186044416) : HC Try.prog 72 [U A c l] #[.agg #[.bool n, .slice A l.length c]] (WholeZ (wv n (V l))) := by
  intro w S HF
  go_enter Try.func72, Try.ntmps72
  go_wp2_with (first
    | ((with_reducible refine gate_dst (N := 1) rfl ?_); refine bxo_ HF ?_; clear HF; intro g1 w_ HF)
    | ((with_reducible refine gate_dst (N := 2) rfl ?_); refine alo_ HF ?_; clear HF; intro g2 w_ HF)
    | (refine cal_ HF Try.func75 (made_h n h f) ?_; clear HF; rintro v_ Θ_ w_ ⟨A1, c1, rfl, rfl⟩ HF; simp only [List.cons_append, List.nil_append] at HF)
    | (refine lo_ HF ?_)
    | (refine sto_ HF ?_; clear HF; intro w_ HF))
  exact retc_ HF (post_ (Θ := [U A1 c1 _]) HF ⟨A1, c1, rfl, rfl⟩)
theorem wNorm_L (n : Bool) (m : Nat) (f : (L m).length ≤ 17592186044416) : HC Try.prog 72 [U A c (L m)] #[.agg #[.bool n, .slice A (L m).length c]] (WholeZ (wv n m)) := by
  have := wNorm_h (A := A) (c := c) n (L_wf m) f
  rwa [L_val] at this
theorem wNeg_h (n : Bool) (h : W64 l) (f : l.length ≤ 17592186044416) : HC Try.prog 44 [U A c l] #[.agg #[.bool n, .slice A l.length c]] (WholeZ (-wv n (V l))) := by
  rw [← wv_not]
  intro w S HF
  go_enter Try.func44, Try.ntmps44
  go_wp2_with (first
    | ((with_reducible refine gate_dst (N := 1) rfl ?_); refine bxo_ HF ?_; clear HF; intro g1 w_ HF)
    | ((with_reducible refine gate_dst (N := 2) rfl ?_); refine alo_ HF ?_; clear HF; intro g2 w_ HF)
    | (refine cal_ HF Try.func75 (made_h (!n) h f) ?_; clear HF; rintro v_ Θ_ w_ ⟨A1, c1, rfl, rfl⟩ HF; simp only [List.cons_append, List.nil_append] at HF)
    | (refine lo_ HF ?_)
    | (refine sto_ HF ?_; clear HF; intro w_ HF))
  exact retc_ HF (post_ (Θ := [U A1 c1 _]) HF ⟨A1, c1, rfl, rfl⟩)
theorem wSign_h (n : Bool) (h : W64 l) (f : l.length ≤ 17592186044416) : HC Try.prog 43 [U A c l] #[.agg #[.bool n, .slice A l.length c]] (Val (.int .i64 (sgnZ (wv n (V l))))) := by
  intro w S HF
  go_enter Try.func43, Try.ntmps43
  by_cases hz : V l = 0
  · rw [hz]
    have e1 : blen (V l) = 0 := by rw [hz]; rfl
    go_wp2_with (first
      | ((with_reducible refine gate_dst (N := 1) rfl ?_); refine bxo_ HF ?_; clear HF; intro g1 w_ HF)
      | (refine cal_ HF Try.func13 (Bits_h h (by omega)) ?_; clear HF; rintro v_ Θ_ w_ ⟨rfl, rfl⟩ HF; simp only [List.cons_append, List.nil_append] at HF)
      | (refine lo_ HF ?_)
      | (refine sto_ HF ?_; clear HF; intro w_ HF))
    go_ret
    exact post_ HF ⟨by cases n <;> rfl, rfl⟩
  · have e1 : (((blen (V l) : Nat) : Int) == 0) = false := by have := blen_pos (Nat.pos_of_ne_zero hz); simp; omega
    have e2 : sgnZ (wv n (V l)) = if n = true then -1 else 1 := by
      cases n with
      | false => rw [show wv false (V l) = V l from rfl]; unfold sgnZ; rw [if_neg (by omega), if_neg (by omega)]; rfl
      | true => rw [show wv true (V l) = -(V l : Int) from rfl]; unfold sgnZ; rw [if_neg (by omega), if_pos (by omega)]; rfl
    rw [e2]
    cases n with
    | true =>
      go_wp2_with (first
        | ((with_reducible refine gate_dst (N := 1) rfl ?_); refine bxo_ HF ?_; clear HF; intro g1 w_ HF)
        | (refine cal_ HF Try.func13 (Bits_h h (by omega)) ?_; clear HF; rintro v_ Θ_ w_ ⟨rfl, rfl⟩ HF; simp only [List.cons_append, List.nil_append] at HF)
        | (refine lo_ HF ?_)
        | (refine sto_ HF ?_; clear HF; intro w_ HF))
      go_ret
      exact post_ HF ⟨rfl, rfl⟩
    | false =>
      go_wp2_with (first
        | ((with_reducible refine gate_dst (N := 1) rfl ?_); refine bxo_ HF ?_; clear HF; intro g1 w_ HF)
        | (refine cal_ HF Try.func13 (Bits_h h (by omega)) ?_; clear HF; rintro v_ Θ_ w_ ⟨rfl, rfl⟩ HF; simp only [List.cons_append, List.nil_append] at HF)
        | (refine lo_ HF ?_)
        | (refine sto_ HF ?_; clear HF; intro w_ HF))
      go_ret
      exact post_ HF ⟨rfl, rfl⟩
theorem either_h (b n n' : Bool) : HC Try.prog 76 [U A c l, U A' c' l'] #[.bool b, .agg #[.bool n, .slice A l.length c], .agg #[.bool n', .slice A' l'.length c']] (Val (if b = true then .agg #[.bool n, .slice A l.length c] else .agg #[.bool n', .slice A' l'.length c'])) := by
  intro w S HF
  go_enter Try.func76, Try.ntmps76
  cases b with
  | true =>
    go_wp2_with (first
      | ((with_reducible refine gate_dst (N := 4) rfl ?_); refine bxo_ HF ?_; clear HF; intro g1 w_ HF)
      | ((with_reducible refine gate_dst (N := 5) rfl ?_); refine bxo_ HF ?_; clear HF; intro g2 w_ HF)
      | ((with_reducible refine gate_dst (N := 6) rfl ?_); refine alo_ HF ?_; clear HF; intro g3 w_ HF)
      | (refine lo_ HF ?_)
      | (refine sto_ HF ?_; clear HF; intro w_ HF))
    exact retc_ HF (post_ (Θ := []) HF ⟨rfl, rfl⟩)
  | false =>
    go_wp2_with (first
      | ((with_reducible refine gate_dst (N := 4) rfl ?_); refine bxo_ HF ?_; clear HF; intro g1 w_ HF)
      | ((with_reducible refine gate_dst (N := 5) rfl ?_); refine bxo_ HF ?_; clear HF; intro g2 w_ HF)
      | ((with_reducible refine gate_dst (N := 6) rfl ?_); refine alo_ HF ?_; clear HF; intro g3 w_ HF)
      | (refine lo_ HF ?_)
      | (refine sto_ HF ?_; clear HF; intro w_ HF))
    exact retc_ HF (post_ (Θ := []) HF ⟨rfl, rfl⟩)
theorem wv_add (n : Bool) (m m' : Nat) : wv n (m + m') = wv n m + wv n m' := by
  cases n with
  | true => simp only [wv, if_true]; omega
  | false => simp only [wv]; rw [if_neg (by decide), if_neg (by decide), if_neg (by decide)]; omega
theorem wv_far {n n' : Bool} (hn : ¬ n = n') (m m' : Nat) : wv (if m < m' then n' else n) (if m < m' then m' - m else m - m') = wv n m + wv n' m' := by
  cases n <;> cases n' <;> first | exact absurd rfl hn | (by_cases h : m < m' <;> simp only [h, if_true, if_false, wv] <;> simp <;> omega)
theorem sign_lt (m m' : Nat) : decide (sign3 m m' < 0) = decide (m < m') := by
  unfold sign3
  by_cases h : m < m'
  · rw [if_pos h]; simp [h]
  · rw [if_neg h]; split <;> simp [h]
theorem wAdd_h (n n' : Bool) (h : W64 l) (h' : W64 l') (f : l.length + l'.length + 2 ≤ 17592186044416) : HC Try.prog 41 [U A c l, U A' c' l'] #[.agg #[.bool n, .slice A l.length c], .agg #[.bool n', .slice A' l'.length c']] (WholeZ (wv n (V l) + wv n' (V l'))) := by
  have hl1 := len_add h h'
  have hl2 := len_sub h h'
  intro w S HF
  go_enter Try.func41, Try.ntmps41
  by_cases hn : n = n'
  · subst hn
    rw [← wv_add]
    go_upto_region 2 with (first
      | ((with_reducible refine gate_dst (N := 2) rfl ?_); refine bxo_ HF ?_; clear HF; intro g1 w_ HF)
      | ((with_reducible refine gate_dst (N := 3) rfl ?_); refine bxo_ HF ?_; clear HF; intro g2 w_ HF)
      | ((with_reducible refine gate_dst (N := 4) rfl ?_); refine alo_ HF ?_; clear HF; intro g3 w_ HF)
      | (refine lo_ HF ?_)
      | (refine sto_ HF ?_; clear HF; intro w_ HF))
    refine startH_ 9 [.box g1 _ _, .box g2 _ _] #[false, false, false, false, false, false, false, false, false] HF ?_
    clear HF
    intro w_ HF
    refine hz_ 0 ?_
    refine ht_ 1 HF ?_
    refine hz_ 2 ?_
    refine ht_ 3 HF ?_
    refine hz_ 4 ?_
    refine ht_ 5 HF ?_
    refine hcal_ 6 HF Try.func15 (Add_h h h' (by omega) (by omega)) ?_
    clear HF
    rintro v_ Θ_ w_ ⟨A1, c1, rfl, rfl⟩ HF
    simp only [List.cons_append, List.nil_append] at HF
    refine hn_ ?_
    refine hcal_ 7 HF Try.func75 (made_hL n (V l + V l') (by omega)) ?_
    clear HF
    rintro v_ Θ_ w_ ⟨A2, c2, rfl, rfl⟩ HF
    simp only [List.cons_append, List.nil_append] at HF
    refine hn_ ?_
    refine hsto_ 8 HF ?_
    clear HF
    intro w_ HF
    refine hend_ ?_
    go_wp2
    exact retc_ HF (post_ (Θ := [U A2 c2 _]) HF ⟨A2, c2, rfl, rfl⟩)
  · have hb : (n == n') = false := by simpa using hn
    have hs := sign_lt (V l) (V l')
    rw [← wv_far hn]
    obtain ⟨nf, As, ns, cs, hv, hnf⟩ : ∃ nf As ns cs, (if decide (V l < V l') = true then Value.agg #[.bool n', .slice A' l'.length c'] else .agg #[.bool n, .slice A l.length c]) = .agg #[.bool nf, .slice As ns cs] ∧ nf = if V l < V l' then n' else n := by
      by_cases hlt : V l < V l'
      · rw [decide_eq_true hlt, if_pos rfl, if_pos hlt]; exact ⟨_, _, _, _, rfl, rfl⟩
      · rw [decide_eq_false hlt, if_neg (by decide), if_neg hlt]; exact ⟨_, _, _, _, rfl, rfl⟩
    rw [← hnf]
    have hei := either_h (A := A') (A' := A) (c := c') (c' := c) (l := l') (l' := l) (decide (V l < V l')) n' n
    rw [hv] at hei
    have hsub := Sub_h (A := A) (A' := A') (c := c) (c' := c') h h' (by omega) (by omega)
    clear hv hnf
    generalize (if V l < V l' then V l' - V l else V l - V l') = m at hsub hl2 ⊢
    go_upto_region 3 with (first
      | ((with_reducible refine gate_dst (N := 2) rfl ?_); refine bxo_ HF ?_; clear HF; intro g1 w_ HF)
      | ((with_reducible refine gate_dst (N := 3) rfl ?_); refine bxo_ HF ?_; clear HF; intro g2 w_ HF)
      | ((with_reducible refine gate_dst (N := 4) rfl ?_); refine alo_ HF ?_; clear HF; intro g3 w_ HF)
      | (refine lo_ HF ?_)
      | (refine sto_ HF ?_; clear HF; intro w_ HF))
    refine startH_ 11 [.box g1 _ _, .box g2 _ _] #[false, false, false, false, false, false, false, false, false, false, false] HF ?_
    clear HF
    intro w_ HF
    refine hz_ 0 ?_
    refine ht_ 1 HF ?_
    refine hz_ 2 ?_
    refine ht_ 3 HF ?_
    refine ht_ 6 HF ?_
    refine ht_ 7 HF ?_
    refine float_ [⟨4, 23, [], Val (.int .i64 (sign3 (V l) (V l')))⟩, ⟨5, 24, [4], Val (.bool (decide (V l < V l')))⟩, ⟨8, 27, [5], Val (.agg #[.bool nf, .slice As ns cs])⟩, ⟨9, 5, [], NewBox 45 [.bool false, .slice none 0 0]⟩] 1 HF ?_ ?_
    · simp only [List.forall_mem_cons]
      refine ⟨?_, ?_, ?_, ?_, fun _ h => by cases h⟩
      · refine fcal_ Try.func18 fun b η Γ F => ?_
        refine ⟨_, [U A c l, U A' c' l'], ?_, F.part, Cmp_h h h' (by omega) (by omega)⟩
        simp only [List.map_toArray, List.map_cons, List.map_nil, F.tm 20, F.tm 22]
      · refine fpure_ fun b η Γ F => ?_
        obtain ⟨⟨e, -⟩, -⟩ := F.e 0
        dsimp only at e
        rw [← get_eval] at e
        refine ⟨_, fun w => ?_, rfl, rfl⟩
        go_simp
      · refine fcal_ Try.func76 fun b η Γ F => ?_
        obtain ⟨⟨e, -⟩, -⟩ := F.e 1
        refine ⟨_, [U A' c' l', U A c l], ?_, F.part, hei⟩
        simp only [List.map_toArray, List.map_cons, List.map_nil, e, F.tm 25, F.tm 26]
      · exact falo_
    · simp only [ends]
      clear HF
      rintro _ _ ⟨rfl, rfl⟩ _ _ ⟨rfl, rfl⟩ _ _ ⟨rfl, rfl⟩ _ _ ⟨g4, rfl, rfl⟩ w_ HF
      simp only [List.nil_append, List.cons_append] at HF
      refine hf_ ?_
      refine hsto_ 10 HF ?_
      clear HF
      intro w_ HF
      refine hend_ ?_
      go_upto_region 4 with (first
        | (refine lo_ HF ?_)
        | (refine sto_ HF ?_; clear HF; intro w_ HF))
      refine startH_ 9 [.box g1 _ _, .box g2 _ _, .box g4 _ _] #[false, false, false, false, false, false, false, false, false] HF ?_
      clear HF
      intro w_ HF
      refine hz_ 0 ?_
      refine ht_ 1 HF ?_
      refine hz_ 2 ?_
      refine ht_ 3 HF ?_
      refine hz_ 4 ?_
      refine ht_ 5 HF ?_
      refine hcal_ 6 HF Try.func77 (hsub) ?_
      clear HF
      rintro v_ Θ_ w_ ⟨A1, c1, rfl, rfl⟩ HF
      simp only [List.cons_append, List.nil_append] at HF
      refine hn_ ?_
      refine hcal_ 7 HF Try.func75 (made_hL nf m (by omega)) ?_
      clear HF
      rintro v_ Θ_ w_ ⟨A2, c2, rfl, rfl⟩ HF
      simp only [List.cons_append, List.nil_append] at HF
      refine hn_ ?_
      refine hsto_ 8 HF ?_
      clear HF
      intro w_ HF
      refine hend_ ?_
      go_wp2
      exact retc_ HF (post_ (Θ := [U A2 c2 _]) HF ⟨A2, c2, rfl, rfl⟩)
theorem wv_z (z : Int) : wv (decide (z < 0)) (V (L z.natAbs)) = z := by
  rw [L_val]
  by_cases h : z < 0
  · rw [decide_eq_true h]; unfold wv; rw [if_pos rfl]; omega
  · rw [decide_eq_false h]; unfold wv; rw [if_neg (by decide)]; omega
theorem len_z (n : Bool) (h : W64 l) : (L (wv n (V l)).natAbs).length ≤ l.length := by rw [wv_abs]; exact L_le (V_lt h)
theorem len_neg (n : Bool) (h : W64 l) : (L (-wv n (V l)).natAbs).length ≤ l.length := by rw [Int.natAbs_neg]; exact len_z n h
theorem abs_lt (n : Bool) {k : Nat} (h : W64 l) (hk : l.length ≤ k) : (wv n (V l)).natAbs < 18446744073709551616 ^ k := by
  rw [wv_abs]
  exact Nat.lt_of_lt_of_le (V_lt h) (pow_le hk)
theorem len_subz (n n' : Bool) (h : W64 l) (h' : W64 l') : (L (wv n (V l) - wv n' (V l')).natAbs).length ≤ l.length + l'.length + 1 := by
  refine L_le ?_
  have h1 := abs_lt n (k := l.length + l'.length) h (by omega)
  have h2 := abs_lt n' (k := l.length + l'.length) h' (by omega)
  rw [Nat.pow_succ]
  omega
theorem wSub_h (n n' : Bool) (h : W64 l) (h' : W64 l') (f : l.length + l'.length + 2 ≤ 17592186044416) : HC Try.prog 42 [U A c l, U A' c' l'] #[.agg #[.bool n, .slice A l.length c], .agg #[.bool n', .slice A' l'.length c']] (WholeZ (wv n (V l) - wv n' (V l'))) := by
  have hl1 := len_neg n' h'
  have e : wv n (V l) - wv n' (V l') = wv n (V l) + wv (decide (-wv n' (V l') < 0)) (V (L (-wv n' (V l')).natAbs)) := by rw [wv_z]; omega
  rw [e]
  clear e
  intro w S HF
  go_enter Try.func42, Try.ntmps42
  go_upto_region 1 with (first
    | ((with_reducible refine gate_dst (N := 2) rfl ?_); refine bxo_ HF ?_; clear HF; intro g1 w_ HF)
    | ((with_reducible refine gate_dst (N := 3) rfl ?_); refine bxo_ HF ?_; clear HF; intro g2 w_ HF)
    | ((with_reducible refine gate_dst (N := 4) rfl ?_); refine alo_ HF ?_; clear HF; intro g3 w_ HF)
    | (refine lo_ HF ?_)
    | (refine sto_ HF ?_; clear HF; intro w_ HF))
  refine startH_ 5 [.box g1 _ _, .box g2 _ _] #[false, false, false, false, false] HF ?_
  clear HF
  intro w_ HF
  refine ht_ 0 HF ?_
  refine ht_ 1 HF ?_
  refine hcal_ 2 HF Try.func44 (wNeg_h n' h' (by omega)) ?_
  clear HF
  rintro v_ Θ_ w_ ⟨A1, c1, rfl, rfl⟩ HF
  simp only [List.cons_append, List.nil_append] at HF
  refine hn_ ?_
  refine hcal_ 3 HF Try.func41 (wAdd_h (l' := L (-wv n' (V l')).natAbs) n (decide (-wv n' (V l') < 0)) h (L_wf _) (by omega)) ?_
  clear HF
  rintro v_ Θ_ w_ ⟨A2, c2, rfl, rfl⟩ HF
  simp only [List.cons_append, List.nil_append] at HF
  refine hn_ ?_
  refine hsto_ 4 HF ?_
  clear HF
  intro w_ HF
  refine hend_ ?_
  go_wp2
  exact retc_ HF (post_ (Θ := [U A2 c2 _]) HF ⟨A2, c2, rfl, rfl⟩)
theorem wCmp_h (n n' : Bool) (h : W64 l) (h' : W64 l') (f : l.length + l'.length + 2 ≤ 17592186044416) : HC Try.prog 40 [U A c l, U A' c' l'] #[.agg #[.bool n, .slice A l.length c], .agg #[.bool n', .slice A' l'.length c']] (Val (.int .i64 (sgnZ (wv n (V l) - wv n' (V l'))))) := by
  have hl1 := len_subz n n' h h'
  intro w S HF
  go_enter Try.func40, Try.ntmps40
  go_wp2_with (first
    | ((with_reducible refine gate_dst (N := 2) rfl ?_); refine bxo_ HF ?_; clear HF; intro g1 w_ HF)
    | ((with_reducible refine gate_dst (N := 3) rfl ?_); refine bxo_ HF ?_; clear HF; intro g2 w_ HF)
    | (refine cal_ HF Try.func42 (wSub_h n n' h h' f) ?_; clear HF; rintro v_ Θ_ w_ ⟨A1, c1, rfl, rfl⟩ HF; simp only [List.cons_append, List.nil_append] at HF)
    | (refine cal_ HF Try.func43 (wSign_h (l := L (wv n (V l) - wv n' (V l')).natAbs) (decide (wv n (V l) - wv n' (V l') < 0)) (L_wf _) (by omega)) ?_; clear HF; rintro v_ Θ_ w_ ⟨rfl, rfl⟩ HF; simp only [List.cons_append, List.nil_append] at HF)
    | (refine lo_ HF ?_)
    | (refine sto_ HF ?_; clear HF; intro w_ HF))
  go_ret
  exact post_ HF ⟨by rw [wv_z]; rfl, rfl⟩
abbrev wz (z : Int) (A : Option Addr) (c : Nat) : Value := .agg #[.bool (decide (z < 0)), .slice A (L z.natAbs).length c]
theorem wAdd_zz (x y : Int) (f : (L x.natAbs).length + (L y.natAbs).length + 2 ≤ 17592186044416) : HC Try.prog 41 [U A c (L x.natAbs), U A' c' (L y.natAbs)] #[wz x A c, wz y A' c'] (WholeZ (x + y)) := by
  have := wAdd_h (A := A) (A' := A') (c := c) (c' := c') (decide (x < 0)) (decide (y < 0)) (L_wf x.natAbs) (L_wf y.natAbs) f
  rwa [wv_z, wv_z] at this
theorem wSub_zz (x y : Int) (f : (L x.natAbs).length + (L y.natAbs).length + 2 ≤ 17592186044416) : HC Try.prog 42 [U A c (L x.natAbs), U A' c' (L y.natAbs)] #[wz x A c, wz y A' c'] (WholeZ (x - y)) := by
  have := wSub_h (A := A) (A' := A') (c := c) (c' := c') (decide (x < 0)) (decide (y < 0)) (L_wf x.natAbs) (L_wf y.natAbs) f
  rwa [wv_z, wv_z] at this
theorem wCmp_zz (x y : Int) (f : (L x.natAbs).length + (L y.natAbs).length + 2 ≤ 17592186044416) : HC Try.prog 40 [U A c (L x.natAbs), U A' c' (L y.natAbs)] #[wz x A c, wz y A' c'] (Val (.int .i64 (sgnZ (x - y)))) := by
  have := wCmp_h (A := A) (A' := A') (c := c) (c' := c') (decide (x < 0)) (decide (y < 0)) (L_wf x.natAbs) (L_wf y.natAbs) f
  rwa [wv_z, wv_z] at this
theorem wSign_z (x : Int) (f : (L x.natAbs).length ≤ 17592186044416) : HC Try.prog 43 [U A c (L x.natAbs)] #[wz x A c] (Val (.int .i64 (sgnZ x))) := by
  have := wSign_h (A := A) (c := c) (decide (x < 0)) (L_wf x.natAbs) f
  rwa [wv_z] at this
theorem wNeg_z (x : Int) (f : (L x.natAbs).length ≤ 17592186044416) : HC Try.prog 44 [U A c (L x.natAbs)] #[wz x A c] (WholeZ (-x)) := by
  have := wNeg_h (A := A) (c := c) (decide (x < 0)) (L_wf x.natAbs) f
  rwa [wv_z] at this
end
end Go.Proofs.Ytjbpchebabhoeaa.H
end
section
set_option linter.unusedVariables false
set_option linter.unusedSimpArgs false
set_option maxHeartbeats 4000000
set_option maxRecDepth 100000
namespace Go.Proofs.Ytjbpchebabhoeaa.H
open Go.RowKit Go.Proofs.YtjbpchebabhoeaaW.PrintWords Go.Proofs.YtjbpchebabhoeaaW.PrintLast Go.Proofs.YtjbpchebabhoeaaW.PrintMore Go.Proofs.Ytjbpchebabhoeaa.X Go.Proofs.Ytjbpchebabhoeaa.P Go.Proofs.Ytjbpchebabhoeaa.Nt Go.Proofs.Ytjbpchebabhoeaa.Bt Go.Proofs.Ytjbpchebabhoeaa.Dg
abbrev RatV (z : Int) (d : Nat) (A : Option Addr) (c : Nat) (A' : Option Addr) (c' : Nat) : Value := .agg #[.bool (decide (z < 0)), .slice A (L z.natAbs).length c, .slice A' (L d).length c']
def RatR (z : Int) (d : Nat) (v : Value) (Θ : List Item) : Prop := ∃ A c A' c', v = RatV z d A c A' c' ∧ Θ = [U A c (L z.natAbs), U A' c' (L d)]
def RatE (z : Int) (d : Nat) (v : Value) (Θ : List Item) : Prop := ∃ A c A' c', v = .tuple #[RatV z d A c A' c', .int .i64 0] ∧ Θ = [U A c (L z.natAbs), U A' c' (L d)]
abbrev noRat (e : Int) : Value := .tuple #[.agg #[.bool false, .slice none 0 0, .slice none 0 0], .int .i64 e]
abbrev ratA (n : Bool) (A : Option Addr) (c : Nat) (l : List Int) (A' : Option Addr) (c' : Nat) (l' : List Int) : Value := .agg #[.bool n, .slice A l.length c, .slice A' l'.length c']
section
variable {A A' B B' : Option Addr} {c c' e e' : Nat} {l l' m m' : List Int}
theorem rCheck_h (n : Bool) (h' : W64 l') (f : l'.length ≤ 17592186044416) : HC Try.prog 33 [U A' c' l'] #[ratA n A c l A' c' l'] (Val (.int .i64 (if V l' = 0 then 9 else 0))) := by
  intro w S HF
  go_enter Try.func33, Try.ntmps33
  by_cases hz : V l' = 0
  · rw [if_pos hz]
    have e1 : blen (V l') = 0 := by rw [hz]; rfl
    go_wp2_with (first
      | ((with_reducible refine gate_dst (N := 1) rfl ?_); refine bxo_ HF ?_; clear HF; intro g1 w_ HF)
      | (refine cal_ HF Try.func13 (Bits_h h' (by omega)) ?_; clear HF; rintro v_ Θ_ w_ ⟨rfl, rfl⟩ HF; simp only [List.cons_append, List.nil_append] at HF)
      | (refine lo_ HF ?_)
      | (refine sto_ HF ?_; clear HF; intro w_ HF))
    go_ret
    exact post_ HF ⟨rfl, rfl⟩
  · rw [if_neg hz]
    have e1 : (((blen (V l') : Nat) : Int) == 0) = false := by have := blen_pos (Nat.pos_of_ne_zero hz); simp; omega
    go_wp2_with (first
      | ((with_reducible refine gate_dst (N := 1) rfl ?_); refine bxo_ HF ?_; clear HF; intro g1 w_ HF)
      | (refine cal_ HF Try.func13 (Bits_h h' (by omega)) ?_; clear HF; rintro v_ Θ_ w_ ⟨rfl, rfl⟩ HF; simp only [List.cons_append, List.nil_append] at HF)
      | (refine lo_ HF ?_)
      | (refine sto_ HF ?_; clear HF; intro w_ HF))
    go_ret
    exact post_ HF ⟨rfl, rfl⟩
theorem rounds_go {P : Program} {c : Code} {Q : Exit → Act → World → Prop} {n : Nat} {a : Act} {w : World} (h : c.wp P (Exit.then (Code.rounds P c Q n) Q) a w) : Code.rounds P c Q (n + 1) a w := h
theorem rchecked_h (n k : Bool) (h : W64 l') (h' : W64 m') (f : l'.length ≤ 17592186044416) (f' : m'.length ≤ 17592186044416) : HC Try.prog 73 [U A' c' l', U B' e' m'] #[ratA n A c l A' c' l', ratA k B e m B' e' m'] (Val (.int .i64 (if V l' = 0 ∨ V m' = 0 then 9 else 0))) := by
  have i0 : ∀ w, (Instr.index 111 (.agg #[.bool n, .slice A l.length c, .slice A' l'.length c', .bool k, .slice B m.length e, .slice B' m'.length e']) (.int .i64 0)).run Try.prog w = .ok (ratA n A c l A' c' l') w := fun w => by kernel_rfl
  have i1 : ∀ w, (Instr.index 111 (.agg #[.bool n, .slice A l.length c, .slice A' l'.length c', .bool k, .slice B m.length e, .slice B' m'.length e']) (.int .i64 1)).run Try.prog w = .ok (ratA k B e m B' e' m') w := fun w => by kernel_rfl
  intro w S HF
  go_enter Try.func73, Try.ntmps73
  have hk := rCheck_h (A := A) (c := c) (l := l) (A' := A') (c' := c') n h f
  have hk' := rCheck_h (A := B) (c := e) (l := m) (A' := B') (c' := e') k h' f'
  by_cases hz : V l' = 0
  · rw [if_pos (.inl hz)]
    rw [if_pos hz] at hk
    clear hz
    go_wp2_with (first
      | ((with_reducible refine gate_dst (N := 2) rfl ?_); refine bxo_ HF ?_; clear HF; intro g1 w_ HF)
      | ((with_reducible refine gate_dst (N := 3) rfl ?_); refine bxo_ HF ?_; clear HF; intro g2 w_ HF)
      | ((with_reducible refine gate_dst (N := 6) rfl ?_); refine alo_ HF ?_; clear HF; intro g3 w_ HF)
      | (refine wp_loop_rounds 3 ?_)
      | (with_reducible refine rounds_go ?_)
      | (refine cal_ HF Try.func33 (hk) ?_; clear HF; rintro v_ Θ_ w_ ⟨rfl, rfl⟩ HF; simp only [List.cons_append, List.nil_append] at HF)
      | (refine lo_ HF ?_)
      | (refine sto_ HF ?_; clear HF; intro w_ HF))
    go_ret
    exact post_ HF ⟨rfl, rfl⟩
  · rw [if_neg hz] at hk
    by_cases hz' : V m' = 0
    · rw [if_pos (.inr hz')]
      rw [if_pos hz'] at hk'
      clear hz hz'
      go_wp2_with (first
        | ((with_reducible refine gate_dst (N := 2) rfl ?_); refine bxo_ HF ?_; clear HF; intro g1 w_ HF)
        | ((with_reducible refine gate_dst (N := 3) rfl ?_); refine bxo_ HF ?_; clear HF; intro g2 w_ HF)
        | ((with_reducible refine gate_dst (N := 6) rfl ?_); refine alo_ HF ?_; clear HF; intro g3 w_ HF)
        | (refine wp_loop_rounds 3 ?_)
        | (with_reducible refine rounds_go ?_)
        | (refine cal_ HF Try.func33 (hk) ?_; clear HF; rintro v_ Θ_ w_ ⟨rfl, rfl⟩ HF; simp only [List.cons_append, List.nil_append] at HF)
        | (refine cal_ HF Try.func33 (hk') ?_; clear HF; rintro v_ Θ_ w_ ⟨rfl, rfl⟩ HF; simp only [List.cons_append, List.nil_append] at HF)
        | (refine lo_ HF ?_)
        | (refine sto_ HF ?_; clear HF; intro w_ HF))
      go_ret
      exact post_ HF ⟨rfl, rfl⟩
    · rw [if_neg (by rintro (h | h); exact hz h; exact hz' h)]
      rw [if_neg hz'] at hk'
      clear hz hz'
      go_wp2_with (first
        | ((with_reducible refine gate_dst (N := 2) rfl ?_); refine bxo_ HF ?_; clear HF; intro g1 w_ HF)
        | ((with_reducible refine gate_dst (N := 3) rfl ?_); refine bxo_ HF ?_; clear HF; intro g2 w_ HF)
        | ((with_reducible refine gate_dst (N := 6) rfl ?_); refine alo_ HF ?_; clear HF; intro g3 w_ HF)
        | (refine wp_loop_rounds 3 ?_)
        | (with_reducible refine rounds_go ?_)
        | (refine cal_ HF Try.func33 (hk) ?_; clear HF; rintro v_ Θ_ w_ ⟨rfl, rfl⟩ HF; simp only [List.cons_append, List.nil_append] at HF)
        | (refine cal_ HF Try.func33 (hk') ?_; clear HF; rintro v_ Θ_ w_ ⟨rfl, rfl⟩ HF; simp only [List.cons_append, List.nil_append] at HF)
        | (refine lo_ HF ?_)
        | (refine sto_ HF ?_; clear HF; intro w_ HF))
      go_ret
      exact post_ HF ⟨rfl, rfl⟩
theorem times_h (n : Bool) (h : W64 l) (h' : W64 m) (f : l.length + m.length + 1 ≤ 17592186044416) : HC Try.prog 74 [U A c l, U B e m] #[.agg #[.bool n, .slice A l.length c], .slice B m.length e] (WholeZ (wv n (V l) * V m)) := by
  have hm := wMul_h (A := A) (c := c) (A' := B) (c' := e) n false h h' f
  rw [show wv false (V m) = (V m : Int) from rfl] at hm
  intro w S HF
  go_enter Try.func74, Try.ntmps74
  go_wp2_with (first
    | ((with_reducible refine gate_dst (N := 2) rfl ?_); refine bxo_ HF ?_; clear HF; intro g1 w_ HF)
    | ((with_reducible refine gate_dst (N := 4) rfl ?_); refine alo_ HF ?_; clear HF; intro g2 w_ HF)
    | (refine cal_ HF Try.func39 (hm) ?_; clear HF; rintro v_ Θ_ w_ ⟨A1, c1, rfl, rfl⟩ HF; simp only [List.cons_append, List.nil_append] at HF)
    | (refine lo_ HF ?_)
    | (refine sto_ HF ?_; clear HF; intro w_ HF))
  exact retc_ HF (post_ (Θ := [U A1 c1 _]) HF ⟨A1, c1, rfl, rfl⟩)
def Rn (z : Int) (d : Nat) : Int := z / (Nat.gcd z.natAbs d : Int)
def Rd (z : Int) (d : Nat) : Nat := d / Nat.gcd z.natAbs d
theorem Rn_wv (n : Bool) (a d : Nat) : Rn (wv n a) d = wv n (a / Nat.gcd a d) := by
  unfold Rn
  rw [wv_abs]
  cases n with
  | true =>
    show -(a : Int) / _ = -((a / Nat.gcd a d : Nat) : Int)
    rw [Int.neg_ediv_of_dvd (by exact_mod_cast Nat.gcd_dvd_left a d)]
    rfl
  | false => rfl
theorem Rd_wv (n : Bool) (a d : Nat) : Rd (wv n a) d = d / Nat.gcd a d := by
  unfold Rd
  rw [wv_abs]
theorem rtold_h (n : Bool) (h : W64 l) (h' : W64 m) (f : l.length ≤ 17592186044000) (f' : m.length ≤ 17592186044000) (hz : V m ≠ 0) : HC Try.prog 70 [U A c l, U B e m] #[.agg #[.bool n, .slice A l.length c], .slice B m.length e] (RatR (Rn (wv n (V l)) (V m)) (Rd (wv n (V l)) (V m))) := by
  have hg : Nat.gcd (V l) (V m) ≠ 0 := fun h => hz (Nat.gcd_eq_zero_iff.1 h).2
  have hgl := gcd_len (l0 := l) h' hz
  have hq : (L (V l / Nat.gcd (V l) (V m))).length ≤ l.length := L_le (Nat.lt_of_le_of_lt (Nat.div_le_self _ _) (V_lt h))
  have hG := Gcd_h (A := A) (c := c) (A' := B) (c' := e) h h' f f'
  rw [Rn_wv, Rd_wv]
  generalize Nat.gcd (V l) (V m) = G at hg hgl hq hG ⊢
  intro w S HF
  go_enter Try.func70, Try.ntmps70
  go_wp2_with (first
    | ((with_reducible refine gate_dst (N := 2) rfl ?_); refine bxo_ HF ?_; clear HF; intro g1 w_ HF)
    | ((with_reducible refine gate_dst (N := 4) rfl ?_); refine alo_ HF ?_; clear HF; intro g2 w_ HF)
    | (refine cal_ HF Try.func71 (hG) ?_; clear HF; rintro v_ Θ_ w_ ⟨A1, c1, rfl, rfl⟩ HF; simp only [List.cons_append, List.nil_append] at HF)
    | (refine cal_ HF Try.func12 (DivMod_hL G h f (by omega) hg) ?_; clear HF; rintro v_ Θ_ w_ ⟨A2, c2, A3, c3, rfl, rfl⟩ HF; simp only [List.cons_append, List.nil_append] at HF)
    | (refine cal_ HF Try.func12 (DivMod_hL G h' f' (by omega) hg) ?_; clear HF; rintro v_ Θ_ w_ ⟨A4, c4, A5, c5, rfl, rfl⟩ HF; simp only [List.cons_append, List.nil_append] at HF)
    | (refine cal_ HF Try.func72 (wNorm_L n (V l / G) (by omega)) ?_; clear HF; rintro v_ Θ_ w_ ⟨A6, c6, rfl, rfl⟩ HF; simp only [List.cons_append, List.nil_append] at HF)
    | (refine lo_ HF ?_)
    | (refine sto_ HF ?_; clear HF; intro w_ HF))
  exact retc_ HF (post_ (Θ := [U A6 c6 _, U A4 c4 _]) HF ⟨A6, c6, A4, c4, rfl, rfl⟩)
theorem rtold_z (z : Int) (d : Nat) (f : (L z.natAbs).length ≤ 17592186044000) (f' : (L d).length ≤ 17592186044000) (hz : d ≠ 0) : HC Try.prog 70 [U A c (L z.natAbs), U B e (L d)] #[wz z A c, .slice B (L d).length e] (RatR (Rn z d) (Rd z d)) := by
  have := rtold_h (A := A) (c := c) (B := B) (e := e) (decide (z < 0)) (L_wf z.natAbs) (L_wf d) f f' (by rw [L_val]; exact hz)
  rwa [wv_z, L_val] at this
theorem rNorm_h (n : Bool) (h : W64 l) (h' : W64 l') (f : l.length ≤ 17592186044000) (f' : l'.length ≤ 17592186044000) (hz : V l' ≠ 0) : HC Try.prog 31 [U A c l, U A' c' l'] #[ratA n A c l A' c' l'] (RatE (Rn (wv n (V l)) (V l')) (Rd (wv n (V l)) (V l'))) := by
  have hk := rCheck_h (A := A) (c := c) (l := l) (A' := A') (c' := c') n h' (by omega)
  rw [if_neg hz] at hk
  have ht := rtold_h (A := A) (c := c) (B := A') (e := c') n h h' f f' hz
  generalize Rn (wv n (V l)) (V l') = z at ht ⊢
  generalize Rd (wv n (V l)) (V l') = d at ht ⊢
  intro w S HF
  go_enter Try.func31, Try.ntmps31
  go_wp2_with (first
    | ((with_reducible refine gate_dst (N := 1) rfl ?_); refine bxo_ HF ?_; clear HF; intro g1 w_ HF)
    | ((with_reducible refine gate_dst (N := 2) rfl ?_); refine alo_ HF ?_; clear HF; intro g2 w_ HF)
    | (refine cal_ HF Try.func33 (hk) ?_; clear HF; rintro v_ Θ_ w_ ⟨rfl, rfl⟩ HF; simp only [List.cons_append, List.nil_append] at HF)
    | (refine cal_ HF Try.func70 (ht) ?_; clear HF; rintro v_ Θ_ w_ ⟨A1, c1, A2, c2, rfl, rfl⟩ HF; simp only [List.cons_append, List.nil_append] at HF)
    | (refine lo_ HF ?_)
    | (refine sto_ HF ?_; clear HF; intro w_ HF))
  exact retct_ HF (post_ (Θ := [U A1 c1 _, U A2 c2 _]) HF ⟨A1, c1, A2, c2, rfl, rfl⟩)
theorem len_times (n : Bool) (h : W64 l) (h' : W64 m) : (L (wv n (V l) * (V m : Int)).natAbs).length ≤ l.length + m.length := by
  rw [Int.natAbs_mul, wv_abs, Int.natAbs_natCast]
  exact len_mul h h'
theorem len_sum {x y : Int} {p q : Nat} (hx : (L x.natAbs).length ≤ p) (hy : (L y.natAbs).length ≤ q) : (L (x + y).natAbs).length ≤ p + q + 1 := by
  refine L_le ?_
  have h1 := Nat.lt_of_lt_of_le (lt_L x.natAbs) (pow_le (show _ ≤ p + q by omega))
  have h2 := Nat.lt_of_lt_of_le (lt_L y.natAbs) (pow_le (show _ ≤ p + q by omega))
  rw [Nat.pow_succ]
  omega
theorem wv_zero {n : Bool} {a : Nat} : wv n a = 0 ↔ a = 0 := by
  cases n with
  | true => show -(a : Int) = 0 ↔ _; omega
  | false => show (a : Int) = 0 ↔ _; omega
def quo (x : Int) (k : Bool) : Int := if k = true then -x else x
theorem quo_wv (x : Int) (k : Bool) : wv ((decide (x < 0)) != k) x.natAbs = quo x k := by
  have h := wv_z x
  rw [L_val] at h
  unfold quo
  cases k with
  | false => rw [if_neg (by decide), Bool.bne_false]; exact h
  | true => rw [if_pos rfl, Bool.bne_true, wv_not, h]
theorem V_mul_ne (hz : ¬ (V l' = 0 ∨ V m' = 0)) : V l' * V m' ≠ 0 := fun h => hz (Nat.mul_eq_zero.1 h)
section
variable (n k : Bool) (h : W64 l) (h' : W64 l') (hm : W64 m) (hm' : W64 m') (f : l.length + l'.length + m.length + m'.length + 5 ≤ 17592186044000)
include h' hm' f
theorem rCmp_bad (hz : V l' = 0 ∨ V m' = 0) : HC Try.prog 38 [U A c l, U A' c' l', U B e m, U B' e' m'] #[ratA n A c l A' c' l', ratA k B e m B' e' m'] (Val (.tuple #[.int .i64 0, .int .i64 9])) := by
  have hk := rchecked_h (A := A) (c := c) (l := l) (A' := A') (c' := c') (B := B) (e := e) (m := m) (B' := B') (e' := e') n k h' hm' (by omega) (by omega)
  rw [if_pos hz] at hk
  intro w S HF
  go_enter Try.func38, Try.ntmps38
  go_wp2_with (first
    | ((with_reducible refine gate_dst (N := 2) rfl ?_); refine bxo_ HF ?_; clear HF; intro g1 w_ HF)
    | ((with_reducible refine gate_dst (N := 3) rfl ?_); refine bxo_ HF ?_; clear HF; intro g2 w_ HF)
    | (refine cal_ HF Try.func73 (hk) ?_; clear HF; rintro v_ Θ_ w_ ⟨rfl, rfl⟩ HF; simp only [List.cons_append, List.nil_append] at HF)
    | (refine lo_ HF ?_)
    | (refine sto_ HF ?_; clear HF; intro w_ HF))
  go_ret2
  exact post_ (Θ := []) HF ⟨rfl, rfl⟩
theorem rAdd_bad (hz : V l' = 0 ∨ V m' = 0) : HC Try.prog 34 [U A c l, U A' c' l', U B e m, U B' e' m'] #[ratA n A c l A' c' l', ratA k B e m B' e' m'] (Val (noRat 9)) := by
  have hk := rchecked_h (A := A) (c := c) (l := l) (A' := A') (c' := c') (B := B) (e := e) (m := m) (B' := B') (e' := e') n k h' hm' (by omega) (by omega)
  rw [if_pos hz] at hk
  intro w S HF
  go_enter Try.func34, Try.ntmps34
  go_wp2_with (first
    | ((with_reducible refine gate_dst (N := 2) rfl ?_); refine bxo_ HF ?_; clear HF; intro g1 w_ HF)
    | ((with_reducible refine gate_dst (N := 3) rfl ?_); refine bxo_ HF ?_; clear HF; intro g2 w_ HF)
    | ((with_reducible refine gate_dst (N := 4) rfl ?_); refine alo_ HF ?_; clear HF; intro g3 w_ HF)
    | (refine cal_ HF Try.func73 (hk) ?_; clear HF; rintro v_ Θ_ w_ ⟨rfl, rfl⟩ HF; simp only [List.cons_append, List.nil_append] at HF)
    | (refine lo_ HF ?_)
    | (refine sto_ HF ?_; clear HF; intro w_ HF))
  exact retct_ HF (post_ (Θ := []) HF ⟨rfl, rfl⟩)
theorem rMul_bad (hz : V l' = 0 ∨ V m' = 0) : HC Try.prog 36 [U A c l, U A' c' l', U B e m, U B' e' m'] #[ratA n A c l A' c' l', ratA k B e m B' e' m'] (Val (noRat 9)) := by
  have hk := rchecked_h (A := A) (c := c) (l := l) (A' := A') (c' := c') (B := B) (e := e) (m := m) (B' := B') (e' := e') n k h' hm' (by omega) (by omega)
  rw [if_pos hz] at hk
  intro w S HF
  go_enter Try.func36, Try.ntmps36
  go_wp2_with (first
    | ((with_reducible refine gate_dst (N := 2) rfl ?_); refine bxo_ HF ?_; clear HF; intro g1 w_ HF)
    | ((with_reducible refine gate_dst (N := 3) rfl ?_); refine bxo_ HF ?_; clear HF; intro g2 w_ HF)
    | ((with_reducible refine gate_dst (N := 4) rfl ?_); refine alo_ HF ?_; clear HF; intro g3 w_ HF)
    | (refine cal_ HF Try.func73 (hk) ?_; clear HF; rintro v_ Θ_ w_ ⟨rfl, rfl⟩ HF; simp only [List.cons_append, List.nil_append] at HF)
    | (refine lo_ HF ?_)
    | (refine sto_ HF ?_; clear HF; intro w_ HF))
  exact retct_ HF (post_ (Θ := []) HF ⟨rfl, rfl⟩)
theorem rDiv_bad (hz : V l' = 0 ∨ V m' = 0) : HC Try.prog 37 [U A c l, U A' c' l', U B e m, U B' e' m'] #[ratA n A c l A' c' l', ratA k B e m B' e' m'] (Val (noRat 9)) := by
  have hk := rchecked_h (A := A) (c := c) (l := l) (A' := A') (c' := c') (B := B) (e := e) (m := m) (B' := B') (e' := e') n k h' hm' (by omega) (by omega)
  rw [if_pos hz] at hk
  intro w S HF
  go_enter Try.func37, Try.ntmps37
  go_wp2_with (first
    | ((with_reducible refine gate_dst (N := 2) rfl ?_); refine bxo_ HF ?_; clear HF; intro g1 w_ HF)
    | ((with_reducible refine gate_dst (N := 3) rfl ?_); refine bxo_ HF ?_; clear HF; intro g2 w_ HF)
    | ((with_reducible refine gate_dst (N := 4) rfl ?_); refine alo_ HF ?_; clear HF; intro g3 w_ HF)
    | (refine cal_ HF Try.func73 (hk) ?_; clear HF; rintro v_ Θ_ w_ ⟨rfl, rfl⟩ HF; simp only [List.cons_append, List.nil_append] at HF)
    | (refine lo_ HF ?_)
    | (refine sto_ HF ?_; clear HF; intro w_ HF))
  exact retct_ HF (post_ (Θ := []) HF ⟨rfl, rfl⟩)
theorem rDiv_zero (hm : W64 m) (hz : ¬ (V l' = 0 ∨ V m' = 0)) (h0 : V m = 0) : HC Try.prog 37 [U A c l, U A' c' l', U B e m, U B' e' m'] #[ratA n A c l A' c' l', ratA k B e m B' e' m'] (Val (noRat 7)) := by
  have hk := rchecked_h (A := A) (c := c) (l := l) (A' := A') (c' := c') (B := B) (e := e) (m := m) (B' := B') (e' := e') n k h' hm' (by omega) (by omega)
  rw [if_neg hz] at hk
  have hs := wSign_h (A := B) (c := e) k hm (by omega)
  rw [show sgnZ (wv k (V m)) = 0 by unfold sgnZ; rw [if_pos (wv_zero.2 h0)]] at hs
  intro w S HF
  go_enter Try.func37, Try.ntmps37
  go_wp2_with (first
    | ((with_reducible refine gate_dst (N := 2) rfl ?_); refine bxo_ HF ?_; clear HF; intro g1 w_ HF)
    | ((with_reducible refine gate_dst (N := 3) rfl ?_); refine bxo_ HF ?_; clear HF; intro g2 w_ HF)
    | ((with_reducible refine gate_dst (N := 4) rfl ?_); refine alo_ HF ?_; clear HF; intro g3 w_ HF)
    | (refine cal_ HF Try.func73 (hk) ?_; clear HF; rintro v_ Θ_ w_ ⟨rfl, rfl⟩ HF; simp only [List.cons_append, List.nil_append] at HF)
    | (refine cal_ HF Try.func43 (hs) ?_; clear HF; rintro v_ Θ_ w_ ⟨rfl, rfl⟩ HF; simp only [List.cons_append, List.nil_append] at HF)
    | (refine lo_ HF ?_)
    | (refine sto_ HF ?_; clear HF; intro w_ HF))
  exact retct_ HF (post_ (Θ := []) HF ⟨rfl, rfl⟩)
theorem rSub_bad (hm : W64 m) (hz : V l' = 0 ∨ V m' = 0) : HC Try.prog 35 [U A c l, U A' c' l', U B e m, U B' e' m'] #[ratA n A c l A' c' l', ratA k B e m B' e' m'] (Val (noRat 9)) := by
  have q1 := len_neg k hm
  have t1 := wNeg_h (A := B) (c := e) k hm (by omega)
  generalize -wv k (V m) = y at q1 t1 ⊢
  have t2 := fun B e => rAdd_bad (A := A) (c := c) (l := l) (A' := A') (c' := c') (B := B) (e := e) (m := L y.natAbs) (B' := B') (e' := e') n (decide (y < 0)) h' hm' (by omega) hz
  clear hz
  intro w S HF
  go_enter Try.func35, Try.ntmps35
  go_wp2_with (first
    | ((with_reducible refine gate_dst (N := 2) rfl ?_); refine bxo_ HF ?_; clear HF; intro g1 w_ HF)
    | ((with_reducible refine gate_dst (N := 3) rfl ?_); refine bxo_ HF ?_; clear HF; intro g2 w_ HF)
    | ((with_reducible refine gate_dst (N := 4) rfl ?_); refine alo_ HF ?_; clear HF; intro g3 w_ HF)
    | (refine cal_ HF Try.func44 (t1) ?_; clear HF; rintro v_ Θ_ w_ ⟨A1, c1, rfl, rfl⟩ HF; simp only [List.cons_append, List.nil_append] at HF)
    | (refine cal_ HF Try.func34 (t2 _ _) ?_; clear HF; rintro v_ Θ_ w_ ⟨rfl, rfl⟩ HF; simp only [List.cons_append, List.nil_append] at HF)
    | (refine lo_ HF ?_)
    | (refine sto_ HF ?_; clear HF; intro w_ HF))
  exact retct_ HF (post_ (Θ := []) HF ⟨rfl, rfl⟩)
include h hm
theorem rCmp_h (hz : ¬ (V l' = 0 ∨ V m' = 0)) : HC Try.prog 38 [U A c l, U A' c' l', U B e m, U B' e' m'] #[ratA n A c l A' c' l', ratA k B e m B' e' m'] (Val (.tuple #[.int .i64 (sgnZ (wv n (V l) * V m' - wv k (V m) * V l')), .int .i64 0])) := by
  have hk := rchecked_h (A := A) (c := c) (l := l) (A' := A') (c' := c') (B := B) (e := e) (m := m) (B' := B') (e' := e') n k h' hm' (by omega) (by omega)
  rw [if_neg hz] at hk
  have q1 := len_times n h hm'
  have q2 := len_times k hm h'
  have t1 := times_h (A := A) (c := c) (B := B') (e := e') n h hm' (by omega)
  have t2 := times_h (A := B) (c := e) (B := A') (e := c') k hm h' (by omega)
  generalize wv n (V l) * (V m' : Int) = x at q1 t1 ⊢
  generalize wv k (V m) * (V l' : Int) = y at q2 t2 ⊢
  intro w S HF
  go_enter Try.func38, Try.ntmps38
  go_upto_region 4 with (first
    | ((with_reducible refine gate_dst (N := 2) rfl ?_); refine bxo_ HF ?_; clear HF; intro g1 w_ HF)
    | ((with_reducible refine gate_dst (N := 3) rfl ?_); refine bxo_ HF ?_; clear HF; intro g2 w_ HF)
    | (refine cal_ HF Try.func73 (hk) ?_; clear HF; rintro v_ Θ_ w_ ⟨rfl, rfl⟩ HF; simp only [List.cons_append, List.nil_append] at HF)
    | (refine lo_ HF ?_)
    | (refine sto_ HF ?_; clear HF; intro w_ HF))
  refine startH_ 13 [.box g1 _ _, .box g2 _ _] #[false, false, false, false, false, false, false, false, false, false, false, false, false] HF ?_
  clear HF
  intro w_ HF
  refine hz_ 0 ?_
  refine ht_ 1 HF ?_
  refine hz_ 2 ?_
  refine ht_ 3 HF ?_
  refine hz_ 5 ?_
  refine ht_ 6 HF ?_
  refine hz_ 7 ?_
  refine ht_ 8 HF ?_
  refine hcal_ 4 HF Try.func74 (t1) ?_
  clear HF
  rintro v_ Θ_ w_ ⟨A1, c1, rfl, rfl⟩ HF
  simp only [List.cons_append, List.nil_append] at HF
  refine hn_ ?_
  refine hcal_ 9 HF Try.func74 (t2) ?_
  clear HF
  rintro v_ Θ_ w_ ⟨A2, c2, rfl, rfl⟩ HF
  simp only [List.cons_append, List.nil_append] at HF
  refine hn_ ?_
  refine hcal_ 10 HF Try.func40 (wCmp_zz x y (by omega)) ?_
  clear HF
  rintro v_ Θ_ w_ ⟨rfl, rfl⟩ HF
  simp only [List.cons_append, List.nil_append] at HF
  refine hn_ ?_
  refine hz_ 11 ?_
  refine hz_ 12 ?_
  refine hend_ ?_
  go_wp2
  go_ret2
  exact post_ (Θ := []) HF ⟨rfl, rfl⟩
theorem rAdd_h (hz : ¬ (V l' = 0 ∨ V m' = 0)) : HC Try.prog 34 [U A c l, U A' c' l', U B e m, U B' e' m'] #[ratA n A c l A' c' l', ratA k B e m B' e' m'] (RatE (Rn (wv n (V l) * V m' + wv k (V m) * V l') (V l' * V m')) (Rd (wv n (V l) * V m' + wv k (V m) * V l') (V l' * V m'))) := by
  have hk := rchecked_h (A := A) (c := c) (l := l) (A' := A') (c' := c') (B := B) (e := e) (m := m) (B' := B') (e' := e') n k h' hm' (by omega) (by omega)
  rw [if_neg hz] at hk
  have q1 := len_times n h hm'
  have q2 := len_times k hm h'
  have t1 := times_h (A := A) (c := c) (B := B') (e := e') n h hm' (by omega)
  have t2 := times_h (A := B) (c := e) (B := A') (e := c') k hm h' (by omega)
  have t3 := Mul_h (A := A') (c := c') (A' := B') (c' := e') h' hm' (by omega)
  have q3 := len_mul h' hm'
  have q4 := V_mul_ne hz
  generalize wv n (V l) * (V m' : Int) = x at q1 t1 ⊢
  generalize wv k (V m) * (V l' : Int) = y at q2 t2 ⊢
  generalize V l' * V m' = d at q3 t3 q4 ⊢
  have q5 := len_sum q1 q2
  have t4 := fun A c B e => rtold_z (A := A) (c := c) (B := B) (e := e) (x + y) d (by omega) (by omega) q4
  generalize Rn (x + y) d = zn at t4 ⊢
  generalize Rd (x + y) d = zd at t4 ⊢
  intro w S HF
  go_enter Try.func34, Try.ntmps34
  go_upto_region 4 with (first
    | ((with_reducible refine gate_dst (N := 2) rfl ?_); refine bxo_ HF ?_; clear HF; intro g1 w_ HF)
    | ((with_reducible refine gate_dst (N := 3) rfl ?_); refine bxo_ HF ?_; clear HF; intro g2 w_ HF)
    | ((with_reducible refine gate_dst (N := 4) rfl ?_); refine alo_ HF ?_; clear HF; intro g3 w_ HF)
    | (refine cal_ HF Try.func73 (hk) ?_; clear HF; rintro v_ Θ_ w_ ⟨rfl, rfl⟩ HF; simp only [List.cons_append, List.nil_append] at HF)
    | (refine lo_ HF ?_)
    | (refine sto_ HF ?_; clear HF; intro w_ HF))
  refine startH_ 19 [.box g1 _ _, .box g2 _ _] #[false, false, false, false, false, false, false, false, false, false, false, false, false, false, false, false, false, false, false] HF ?_
  clear HF
  intro w_ HF
  refine hz_ 0 ?_
  refine ht_ 1 HF ?_
  refine hz_ 2 ?_
  refine ht_ 3 HF ?_
  refine hz_ 5 ?_
  refine ht_ 6 HF ?_
  refine hz_ 7 ?_
  refine ht_ 8 HF ?_
  refine hz_ 11 ?_
  refine ht_ 12 HF ?_
  refine hz_ 13 ?_
  refine ht_ 14 HF ?_
  refine hcal_ 4 HF Try.func74 (t1) ?_
  clear HF
  rintro v_ Θ_ w_ ⟨A1, c1, rfl, rfl⟩ HF
  simp only [List.cons_append, List.nil_append] at HF
  refine hn_ ?_
  refine hcal_ 9 HF Try.func74 (t2) ?_
  clear HF
  rintro v_ Θ_ w_ ⟨A2, c2, rfl, rfl⟩ HF
  simp only [List.cons_append, List.nil_append] at HF
  refine hn_ ?_
  refine hcal_ 10 HF Try.func41 (wAdd_zz x y (by omega)) ?_
  clear HF
  rintro v_ Θ_ w_ ⟨A3, c3, rfl, rfl⟩ HF
  simp only [List.cons_append, List.nil_append] at HF
  refine hn_ ?_
  refine hcal_ 15 HF Try.func16 (t3) ?_
  clear HF
  rintro v_ Θ_ w_ ⟨A4, c4, rfl, rfl⟩ HF
  simp only [List.cons_append, List.nil_append] at HF
  refine hn_ ?_
  refine hcal_ 16 HF Try.func70 (t4 _ _ _ _) ?_
  clear HF
  rintro v_ Θ_ w_ ⟨A5, c5, A6, c6, rfl, rfl⟩ HF
  simp only [List.cons_append, List.nil_append] at HF
  refine hn_ ?_
  refine hsto_ 17 HF ?_
  clear HF
  intro w_ HF
  refine hz_ 18 ?_
  refine hend_ ?_
  go_wp2
  exact retct_ HF (post_ (Θ := [U A5 c5 _, U A6 c6 _]) HF ⟨A5, c5, A6, c6, rfl, rfl⟩)
theorem rMul_h (hz : ¬ (V l' = 0 ∨ V m' = 0)) : HC Try.prog 36 [U A c l, U A' c' l', U B e m, U B' e' m'] #[ratA n A c l A' c' l', ratA k B e m B' e' m'] (RatE (Rn (wv n (V l) * wv k (V m)) (V l' * V m')) (Rd (wv n (V l) * wv k (V m)) (V l' * V m'))) := by
  have hk := rchecked_h (A := A) (c := c) (l := l) (A' := A') (c' := c') (B := B) (e := e) (m := m) (B' := B') (e' := e') n k h' hm' (by omega) (by omega)
  rw [if_neg hz] at hk
  have q1 : (L (wv n (V l) * wv k (V m)).natAbs).length ≤ l.length + m.length := by
    rw [Int.natAbs_mul, wv_abs, wv_abs]
    exact len_mul h hm
  have t1 := wMul_h (A := A) (c := c) (A' := B) (c' := e) n k h hm (by omega)
  have t3 := Mul_h (A := A') (c := c') (A' := B') (c' := e') h' hm' (by omega)
  have q3 := len_mul h' hm'
  have q4 := V_mul_ne hz
  generalize wv n (V l) * wv k (V m) = x at q1 t1 ⊢
  generalize V l' * V m' = d at q3 t3 q4 ⊢
  have t4 := fun A c B e => rtold_z (A := A) (c := c) (B := B) (e := e) x d (by omega) (by omega) q4
  generalize Rn x d = zn at t4 ⊢
  generalize Rd x d = zd at t4 ⊢
  intro w S HF
  go_enter Try.func36, Try.ntmps36
  go_upto_region 4 with (first
    | ((with_reducible refine gate_dst (N := 2) rfl ?_); refine bxo_ HF ?_; clear HF; intro g1 w_ HF)
    | ((with_reducible refine gate_dst (N := 3) rfl ?_); refine bxo_ HF ?_; clear HF; intro g2 w_ HF)
    | ((with_reducible refine gate_dst (N := 4) rfl ?_); refine alo_ HF ?_; clear HF; intro g3 w_ HF)
    | (refine cal_ HF Try.func73 (hk) ?_; clear HF; rintro v_ Θ_ w_ ⟨rfl, rfl⟩ HF; simp only [List.cons_append, List.nil_append] at HF)
    | (refine lo_ HF ?_)
    | (refine sto_ HF ?_; clear HF; intro w_ HF))
  refine startH_ 13 [.box g1 _ _, .box g2 _ _] #[false, false, false, false, false, false, false, false, false, false, false, false, false] HF ?_
  clear HF
  intro w_ HF
  refine hz_ 0 ?_
  refine ht_ 1 HF ?_
  refine hz_ 2 ?_
  refine ht_ 3 HF ?_
  refine hz_ 5 ?_
  refine ht_ 6 HF ?_
  refine hz_ 7 ?_
  refine ht_ 8 HF ?_
  refine hcal_ 4 HF Try.func39 (t1) ?_
  clear HF
  rintro v_ Θ_ w_ ⟨A1, c1, rfl, rfl⟩ HF
  simp only [List.cons_append, List.nil_append] at HF
  refine hn_ ?_
  refine hcal_ 9 HF Try.func16 (t3) ?_
  clear HF
  rintro v_ Θ_ w_ ⟨A4, c4, rfl, rfl⟩ HF
  simp only [List.cons_append, List.nil_append] at HF
  refine hn_ ?_
  refine hcal_ 10 HF Try.func70 (t4 _ _ _ _) ?_
  clear HF
  rintro v_ Θ_ w_ ⟨A5, c5, A6, c6, rfl, rfl⟩ HF
  simp only [List.cons_append, List.nil_append] at HF
  refine hn_ ?_
  refine hsto_ 11 HF ?_
  clear HF
  intro w_ HF
  refine hz_ 12 ?_
  refine hend_ ?_
  go_wp2
  exact retct_ HF (post_ (Θ := [U A5 c5 _, U A6 c6 _]) HF ⟨A5, c5, A6, c6, rfl, rfl⟩)
theorem rDiv_h (hz : ¬ (V l' = 0 ∨ V m' = 0)) (h0 : V m ≠ 0) : HC Try.prog 37 [U A c l, U A' c' l', U B e m, U B' e' m'] #[ratA n A c l A' c' l', ratA k B e m B' e' m'] (RatE (Rn (quo (wv n (V l) * V m') k) (V l' * V m)) (Rd (quo (wv n (V l) * V m') k) (V l' * V m))) := by
  have hk := rchecked_h (A := A) (c := c) (l := l) (A' := A') (c' := c') (B := B) (e := e) (m := m) (B' := B') (e' := e') n k h' hm' (by omega) (by omega)
  rw [if_neg hz] at hk
  obtain ⟨sg, hsg, hsg0⟩ : ∃ sg, sgnZ (wv k (V m)) = sg ∧ (sg == 0) = false := ⟨_, rfl, by
    have : wv k (V m) ≠ 0 := fun e => h0 (wv_zero.1 e)
    unfold sgnZ
    rw [if_neg this]
    split <;> rfl⟩
  have hs := wSign_h (A := B) (c := e) k hm (by omega)
  rw [hsg] at hs
  clear hsg
  have q1 := len_times n h hm'
  have t1 := times_h (A := A) (c := c) (B := B') (e := e') n h hm' (by omega)
  have t3 := Mul_h (A := A') (c := c') (A' := B) (c' := e) h' hm (by omega)
  have q3 := len_mul h' hm
  have q4 : V l' * V m ≠ 0 := fun e => by rcases Nat.mul_eq_zero.1 e with e | e; exact hz (.inl e); exact h0 e
  generalize wv n (V l) * (V m' : Int) = x at q1 t1 ⊢
  generalize V l' * V m = d at q3 t3 q4 ⊢
  have t4 := fun A c B e => rtold_h (A := A) (c := c) (B := B) (e := e) (l := L x.natAbs) (m := L d) (decide (x < 0) != k) (L_wf x.natAbs) (L_wf d) (by omega) (by omega) (by rw [L_val]; exact q4)
  simp only [L_val, quo_wv] at t4
  generalize Rn (quo x k) d = zn at t4 ⊢
  generalize Rd (quo x k) d = zd at t4 ⊢
  clear hz h0 q4
  intro w S HF
  go_enter Try.func37, Try.ntmps37
  go_upto_region 8 with (first
    | ((with_reducible refine gate_dst (N := 2) rfl ?_); refine bxo_ HF ?_; clear HF; intro g1 w_ HF)
    | ((with_reducible refine gate_dst (N := 3) rfl ?_); refine bxo_ HF ?_; clear HF; intro g2 w_ HF)
    | ((with_reducible refine gate_dst (N := 4) rfl ?_); refine alo_ HF ?_; clear HF; intro g3 w_ HF)
    | ((with_reducible refine gate_dst (N := 7) rfl ?_); refine alo_ HF ?_; clear HF; intro g4 w_ HF)
    | (refine cal_ HF Try.func73 (hk) ?_; clear HF; rintro v_ Θ_ w_ ⟨rfl, rfl⟩ HF; simp only [List.cons_append, List.nil_append] at HF)
    | (refine cal_ HF Try.func43 (hs) ?_; clear HF; rintro v_ Θ_ w_ ⟨rfl, rfl⟩ HF; simp only [List.cons_append, List.nil_append] at HF)
    | (refine cal_ HF Try.func74 (t1) ?_; clear HF; rintro v_ Θ_ w_ ⟨A1, c1, rfl, rfl⟩ HF; simp only [List.cons_append, List.nil_append] at HF)
    | (refine lo_ HF ?_)
    | (refine sto_ HF ?_; clear HF; intro w_ HF))
  refine startH_ 10 [.box g4 _ _, .box g1 _ _, .box g2 _ _] #[false, false, false, false, false, false, false, false, false, false] HF ?_
  clear HF
  intro w_ HF
  refine ht_ 0 HF ?_
  refine hz_ 1 ?_
  refine ht_ 2 HF ?_
  refine hz_ 3 ?_
  refine hz_ 4 ?_
  refine ht_ 5 HF ?_
  refine hcal_ 6 HF Try.func16 (t3) ?_
  clear HF
  rintro v_ Θ_ w_ ⟨A4, c4, rfl, rfl⟩ HF
  simp only [List.cons_append, List.nil_append] at HF
  refine hn_ ?_
  refine hcal_ 7 HF Try.func70 (t4 _ _ _ _) ?_
  clear HF
  rintro v_ Θ_ w_ ⟨A5, c5, A6, c6, rfl, rfl⟩ HF
  simp only [List.cons_append, List.nil_append] at HF
  refine hn_ ?_
  refine hsto_ 8 HF ?_
  clear HF
  intro w_ HF
  refine hz_ 9 ?_
  refine hend_ ?_
  go_wp2
  exact retct_ HF (post_ (Θ := [U A5 c5 _, U A6 c6 _]) HF ⟨A5, c5, A6, c6, rfl, rfl⟩)
theorem rSub_h (hz : ¬ (V l' = 0 ∨ V m' = 0)) : HC Try.prog 35 [U A c l, U A' c' l', U B e m, U B' e' m'] #[ratA n A c l A' c' l', ratA k B e m B' e' m'] (RatE (Rn (wv n (V l) * V m' - wv k (V m) * V l') (V l' * V m')) (Rd (wv n (V l) * V m' - wv k (V m) * V l') (V l' * V m'))) := by
  have q1 := len_neg k hm
  have t1 := wNeg_h (A := B) (c := e) k hm (by omega)
  have ee : wv n (V l) * (V m' : Int) - wv k (V m) * V l' = wv n (V l) * V m' + -wv k (V m) * V l' := by rw [Int.neg_mul]; rfl
  rw [ee]
  clear ee
  generalize -wv k (V m) = y at q1 t1 ⊢
  have t2 := fun B e => rAdd_h (A := A) (c := c) (l := l) (A' := A') (c' := c') (B := B) (e := e) (m := L y.natAbs) (B' := B') (e' := e') n (decide (y < 0)) h h' (L_wf _) hm' (by omega) hz
  simp only [wv_z] at t2
  generalize Rn (wv n (V l) * (V m' : Int) + y * (V l' : Int)) (V l' * V m') = zn at t2 ⊢
  generalize Rd (wv n (V l) * (V m' : Int) + y * (V l' : Int)) (V l' * V m') = zd at t2 ⊢
  clear hz
  intro w S HF
  go_enter Try.func35, Try.ntmps35
  go_wp2_with (first
    | ((with_reducible refine gate_dst (N := 2) rfl ?_); refine bxo_ HF ?_; clear HF; intro g1 w_ HF)
    | ((with_reducible refine gate_dst (N := 3) rfl ?_); refine bxo_ HF ?_; clear HF; intro g2 w_ HF)
    | ((with_reducible refine gate_dst (N := 4) rfl ?_); refine alo_ HF ?_; clear HF; intro g3 w_ HF)
    | (refine cal_ HF Try.func44 (t1) ?_; clear HF; rintro v_ Θ_ w_ ⟨A1, c1, rfl, rfl⟩ HF; simp only [List.cons_append, List.nil_append] at HF)
    | (refine cal_ HF Try.func34 (t2 _ _) ?_; clear HF; rintro v_ Θ_ w_ ⟨A5, c5, A6, c6, rfl, rfl⟩ HF; simp only [List.cons_append, List.nil_append] at HF)
    | (refine lo_ HF ?_)
    | (refine sto_ HF ?_; clear HF; intro w_ HF))
  exact retct_ HF (post_ (Θ := [U A5 c5 _, U A6 c6 _]) HF ⟨A5, c5, A6, c6, rfl, rfl⟩)
end
end
end Go.Proofs.Ytjbpchebabhoeaa.H
end
section
set_option linter.unusedVariables false
set_option linter.unusedSimpArgs false
namespace Go.Proofs.Ytjbpchebabhoeaa.H
open Go.RowKit Go.Proofs.YtjbpchebabhoeaaW.PrintWords Go.Proofs.YtjbpchebabhoeaaW.PrintLast Go.Proofs.YtjbpchebabhoeaaW.PrintMore Go.Proofs.Ytjbpchebabhoeaa.X
section
variable {w0 w w' : World} {S : Nat → Prop} {Γ : List Item} {g : Nat} {t : TypeId} {cs : List Value}
theorem Holds.makeRd (h : Holds w0 S Γ w) (hg : g = w.heap.size) (hb : Below w.heap.size w w') (hn : w'.heap[g]? = some (.cells cs.toArray t (0, 0))) : Holds w0 S (.rd (some ⟨g, 0, none⟩) cs :: Γ) w' := by
  refine (h.step hb).add trivial ?_ ?_ ?_
  · intro i v hi
    refine ⟨_, rfl, ?_⟩
    rw [add_at, Nat.zero_add, blk_cell hn]
    simpa using hi
  · intro g' hS ad e _
    cases e
    have := h.old g' hS
    have := below_size h.below
    show g ≠ g'
    omega
  · intro g' t' cs' hm ad e _
    cases e
    have := blk_lt (h.ok _ hm)
    show g ≠ g'
    omega
theorem Holds.makeRow (h : Holds w0 S Γ w) {k : IntKind} {l : List Int} (hl : l.length ≤ 9223372036854775807) (hg : g = w.heap.size) (hb : Below w.heap.size w w') (hn : w'.heap[g]? = some (.cells (l.map (Value.int k)).toArray t (0, 0))) : Holds w0 S (.row k (some ⟨g, 0, none⟩) l.length l :: Γ) w' := by
  refine (h.step hb).add trivial ⟨?_, Nat.le_refl _⟩ ?_ ?_
  · refine ⟨rfl, hl, fun _ => ⟨_, rfl, fun j p hj => ⟨[.int k p], rfl, ?_, ?_⟩⟩⟩
    · exact rfl
    · intro i u hi
      have hi0 : i = 0 := by
        have := (List.getElem?_eq_some_iff.1 hi).1
        simpa using this
      subst hi0
      have hu : u = .int k p := by simpa using hi.symm
      subst hu
      show w'.cell? (Addr.add ⟨g, 0, none⟩ (j * 1 + 0)) = _
      rw [Nat.mul_one, Nat.add_zero, add_at, Nat.zero_add, blk_cell hn]
      simp [hj]
  · intro g' hS ad e _
    cases e
    have := h.old g' hS
    have := below_size h.below
    show g ≠ g'
    omega
  · intro g' t' cs' hm ad e _
    cases e
    have := blk_lt (h.ok _ hm)
    show g ≠ g'
    omega
theorem Holds.some (h : Holds w0 S Γ w) {k : IntKind} {A : Option Addr} {c : Nat} {x : Int} {r : List Int} (hm : Item.row k A c (x :: r) ∈ Γ) : ∃ ad, A = .some ad ∧ w.cell? ad = .some (.int k x) := by
  obtain ⟨ad, e, hc⟩ := Kd.at_int (h.ok _ hm).1 0 (by omega) (by simp)
  refine ⟨ad, e, ?_⟩
  rw [show ad.add (0 : Int).toNat = ad by simp [Addr.add]] at hc
  exact hc
end
section
variable {ops : Array Oper} {rest : List Oper} {o oi : Oper} {a a' : Act} {Q : Exit → Act → World → Prop} {w0 w : World} {S : Nat → Prop} {Γ Γ1 : List Item} {md : Region.Mode} {ds : List Nat} {fuel : Nat} {l : Array Bool} {N : Option Tmp}
theorem gg_ {p : Nat × Bool} (h : wpList Try.prog ops Q ({ o with guard := none } :: rest) a w) (hs : o.guard = some p := by rfl) (hw : Region.wanted o (yielded ops a.tmps) = true := by rfl) : wpList Try.prog ops Q (o :: rest) a w := gate_guard hw h
theorem bsl_ (n : Nat) (e : TypeId) (cs : List Value) (HF : Holds w0 S Γ w) (h : ∀ g w', Holds w0 S (.rd (some ⟨g, 0, none⟩) cs :: Γ) w' → wpList Try.prog ops Q rest (a.put N (.slice (some ⟨g, 0, none⟩) n n)) w')
    (hr : ∀ w, (execOp a.eval o).run Try.prog w = .ok (.value (.slice (some ⟨w.heap.size, 0, none⟩) n n)) (w.alloc (.cells cs.toArray e (0, 0))) := by (intro w_; kernel_rfl)) (hd : o.dst = N := by (first | exact dst_s rfl | exact dst_n rfl)) (hg : o.guard = none := by rfl) : wpList Try.prog ops Q (o :: rest) a w := by
  refine wpList_plain hg fun K hK => ?_
  unfold Oper.wp
  rw [hr w, Oper.upon_value, hd]
  exact hK _ _ (h _ _ (HF.makeRd (t := e) rfl (below_alloc (Below.refl _ _) _) (blk_new w _)))
theorem bslu_ (k : IntKind) (e : TypeId) (xs : List Int) (HF : Holds w0 S Γ w) (h : ∀ g w', Holds w0 S (.row k (some ⟨g, 0, none⟩) xs.length xs :: Γ) w' → wpList Try.prog ops Q rest (a.put N (.slice (some ⟨g, 0, none⟩) xs.length xs.length)) w')
    (hr : ∀ w, (execOp a.eval o).run Try.prog w = .ok (.value (.slice (some ⟨w.heap.size, 0, none⟩) xs.length xs.length)) (w.alloc (.cells (xs.map (Value.int k)).toArray e (0, 0))) := by (intro w_; kernel_rfl)) (hl : xs.length ≤ 9223372036854775807 := by exact Nat.le_of_ble_eq_true rfl) (hd : o.dst = N := by (first | exact dst_s rfl | exact dst_n rfl)) (hg : o.guard = none := by rfl) : wpList Try.prog ops Q (o :: rest) a w := by
  refine wpList_plain hg fun K hK => ?_
  unfold Oper.wp
  rw [hr w, Oper.upon_value, hd]
  exact hK _ _ (h _ _ (HF.makeRow (t := e) hl rfl (below_alloc (Below.refl _ _) _) (blk_new w _)))
inductive Fst (k : IntKind) (ad : Addr) (x : Int) : List Item → Prop
  | row {c : Nat} {r : List Int} {Γ : List Item} : Fst k ad x (.row k (some ad) c (x :: r) :: Γ)
  | tail {y : Item} {Γ : List Item} : Fst k ad x Γ → Fst k ad x (y :: Γ)
theorem Fst.cell {k : IntKind} {ad : Addr} {x : Int} {Γ : List Item} {w : World} (h : Fst k ad x Γ) (hk : ∀ y ∈ Γ, y.ok w) : w.cell? ad = some (.int k x) := by
  induction h with
  | row =>
    obtain ⟨ad', e, hc⟩ := Kd.at_int (hk _ List.mem_cons_self).1 0 (by omega) (by simp)
    cases e
    rw [show ad.add (0 : Int).toNat = ad by simp [Addr.add]] at hc
    exact hc
  | tail _ ih => exact ih fun y hy => hk y (List.mem_cons_of_mem _ hy)
theorem run_fst {t : TypeId} {x : Operand} {ad : Addr} {v : Value} {b : Act} (hop : o.op = .load t x) (hx : b.eval x = .pointer (some ad)) (ht : OneT Try.prog t) (hc : w.cell? ad = some v) : (execOp b.eval o).run Try.prog w = .ok (.value v) w := by
  unfold execOp
  rw [hop]
  have : (loadVar t ad).run Try.prog w = .ok v w := by
    unfold loadVar
    simp [ht.one, hc]
  simp [hx, Instr.loadAt, Instr.sureAddr, this]
theorem lof_ {t : TypeId} {x : Operand} {ad : Addr} {k : IntKind} {q : Int} (HF : Holds w0 S Γ w) (h : wpList Try.prog ops Q rest (a.put N (.int k q)) w) (hop : o.op = .load t x := by rfl) (hx : a.eval x = .pointer (some ad) := by (first | exact ev_ rfl | rfl))
    (hf : Fst k ad q Γ := by (repeat (first | exact Fst.row | apply Fst.tail))) (ht : OneT Try.prog t := by (first | exact one_u64 | exact one_int)) (hd : o.dst = N := by (first | exact dst_s rfl | exact dst_n rfl)) (hg : o.guard = none := by rfl) : wpList Try.prog ops Q (o :: rest) a w := by
  refine wpList_plain hg fun K hK => ?_
  unfold Oper.wp
  rw [run_fst hop hx ht (hf.cell HF.ok), Oper.upon_value, hd]
  exact hK _ _ h
theorem htf_ (i : Nat) {t : TypeId} {x : Operand} {ad : Addr} {k : IntKind} {q : Int} (HF : Holds w0 S Γ w) (h : wpAnyLast Try.prog md ops Q (OK Γ1) ds fuel (l.setIfInBounds i true) a' w) (hi : ops.toList[i]? = some oi := by rfl) (hN : oi.dst = N := by (first | exact dst_s rfl | exact dst_n rfl)) (hw : Region.wanted oi (yielded ops a.tmps) = true := by rfl)
    (hop : oi.op = .load t x := by rfl) (hx : a.eval x = .pointer (some ad) := by (first | exact ev_ rfl | rfl)) (hf : Fst k ad q Γ1 := by (repeat (first | exact Fst.row | apply Fst.tail))) (ht : OneT Try.prog t := by (first | exact one_u64 | exact one_int))
    (ha : a.put N (.int k q) = a' := by (simp only [Act.put, List.setIfInBounds_toArray, List.set_cons_zero, List.set_cons_succ, i64_w, i32_w]; rfl))
    (hc : takeB md ops ds l (l.setIfInBounds i true) i = true := by kernel_rfl) (hs : Sub Γ Γ1 := by (repeat (first | exact Sub.nil | refine Sub.cons (by (repeat (first | exact List.mem_cons_self | apply List.mem_cons_of_mem))) ?_))) (hQ : ∀ c a w, Q (.panic c) (a.put oi.dst (.int k q)) w → Q (.panic c) a w := by exact fun _ _ _ h => h) : wpAnyLast Try.prog md ops Q (OK Γ1) ds (fuel + 1) l a w :=
  take_ _ (at_ hi) hN hc hQ (.inl ⟨hw, fun w hok => run_fst hop hx ht (hf.cell hok)⟩) (hs.ok HF) ha h
end
theorem HC.imp2 {P : Program} {f : Nat} {Δ : List Item} {args : Array Value} {R R' : Value → List Item → Prop} (h : HC P f Δ args R) (hR : ∀ v Θ w S w', R v Θ → Holds w S (Θ ++ Δ) w' → R' v Θ) : HC P f Δ args R' := by
  intro w S HF
  refine (h w S HF).mono ?_
  rintro e w' ⟨v, Θ, he, h1, h2, h3⟩
  exact ⟨v, Θ, he, hR v Θ w S w' h1 h3, h2, h3⟩
end Go.Proofs.Ytjbpchebabhoeaa.H
end
section
namespace Go.Proofs.Ytjbpchebabhoeaa.P
open Go.RowKit Go.Proofs.YtjbpchebabhoeaaW.PrintWords Go.Proofs.YtjbpchebabhoeaaW.PrintLast Go.Proofs.YtjbpchebabhoeaaW.PrintMore Go.Proofs.Ytjbpchebabhoeaa.X
attribute [local go_sem] max2_int min2_int max_two min_two max_three min_three max_four min_four
set_option linter.unusedVariables false
set_option linter.unusedSimpArgs false
def vernierref01_Same.l0 : Nat → List Int → List Int → Int → Option (Bool)
  | 0, _, _, _ => none
  | k + 1, x0, x1, x5 => if x5 < (x0.length : Int) then (if 0 ≤ x5 then (if x5 < (x1.length : Int) then (if (rd x0 x5) = (rd x1 x5) then (vernierref01_Same.l0 k x0 x1 (wrap64 (x5 + 1))) else (some false)) else (none)) else (none)) else (some true)
def vernierref01_Same.f (k : Nat) (l0 : List Int) (l1 : List Int) : Option (Bool) := if (l0.length : Int) = (l1.length : Int) then (vernierref01_Same.l0 k l0 l1 0) else (some false)
theorem vernierref01_Same.mono_l : ∀ k, (∀ y0 y1 y2, LeO (vernierref01_Same.l0 k y0 y1 y2) (vernierref01_Same.l0 (k + 1) y0 y1 y2))
  | 0 => fun _ _ _ r h => by simp [vernierref01_Same.l0] at h
  | k + 1 => by
    have ih0 := vernierref01_Same.mono_l k
    · intro y0 y1 y2
      unfold vernierref01_Same.l0
      repeat' first
      | (with_reducible exact ih0 _ _ _)
      | (with_reducible exact LeO.refl _)
      | (with_reducible exact LeO.none _)
      | (with_reducible refine LeO.ite ?_ ?_)
      | (with_reducible refine LeO.bind ?_ (fun _ => ?_))
      | exact ih0 _ _ _
      | exact LeO.none _
      | refine LeO.ite ?_ ?_
      | refine LeO.bind ?_ (fun _ => ?_)
theorem vernierref01_Same.mono : ∀ a0 a1 k, LeO (vernierref01_Same.f k a0 a1) (vernierref01_Same.f (k + 1) a0 a1) := by
  intro a0 a1 k
  have ih0 := vernierref01_Same.mono_l k
  unfold vernierref01_Same.f
  repeat' first
      | (with_reducible exact ih0 _ _ _)
      | (with_reducible exact LeO.refl _)
      | (with_reducible exact LeO.none _)
      | (with_reducible refine LeO.ite ?_ ?_)
      | (with_reducible refine LeO.bind ?_ (fun _ => ?_))
      | exact ih0 _ _ _
      | exact LeO.none _
      | refine LeO.ite ?_ ?_
      | refine LeO.bind ?_ (fun _ => ?_)
set_option maxHeartbeats 8000000 in
set_option maxRecDepth 100000 in
theorem vernierref01_Same.calls (k : Nat) (A0 : Option Addr) (c0 : Nat) (l0 : List Int) (A1 : Option Addr) (c1 : Nat) (l1 : List Int) (r : Bool) (w : World) (hr0 : Kd.C (Kd.int .u64) w A0 l0.length l0) (hc0 : l0.length ≤ c0) (hr1 : Kd.C (Kd.int .u64) w A1 l1.length l1) (hc1 : l1.length ≤ c1) (h : vernierref01_Same.f k l0 l1 = some r) :
    Calls Try.prog 14 #[.slice A0 l0.length c0, .slice A1 l1.length c1] w fun e w' => e = .returned (.bool r) ∧ Drawn0 w w' := by
  have HR0 := Aside0.mk hr0
  have HC0 := Aside0.mk hc0
  clear hr0 hc0
  have HR1 := Aside0.mk hr1
  have HC1 := Aside0.mk hc1
  clear hr1 hc1
  have H : (if (l0.length : Int) = (l1.length : Int) then (vernierref01_Same.l0 k l0 l1 0) else (some false)) = some r := h
  clear h
  by_cases c3 : (l0.length : Int) = (l1.length : Int)
  · rw [if_pos c3] at H
    have c3b0 : ((l0.length : Int) == (l1.length : Int)) = true := beq_iff_eq.mpr c3
    have c3b1 : ((l0.length : Int) != (l1.length : Int)) = false := bne_eq_false_iff_eq.mpr c3
    have c3b2 : (l0.length == l1.length) = true := by first | simpa using c3 | (simp at c3 ⊢; omega)
    clear c3
    have H' := Aside0.mk H
    clear H
    go_enter Try.func14, Try.ntmps14
    go_wp2
    repeat (go_quiet (fail); try go_wp2)
    go_loopg [5] k (fun kq v5 w' => ∃ (x5_1 : Int), v5 = .int .i64 x5_1 ∧ Aside0 (vernierref01_Same.l0 kq l0 l1 x5_1 = some r) ∧ Aside0 (kq ≤ k) ∧ Drawn0 w w')
    case atStart => exact ⟨(0), (by first | rfl | (simp; done) | (simp [*]; done)), H', ⟨Nat.le_refl _⟩, by repeat (first | exact Drawn0.refl _ | apply Drawn0.step)⟩
    case round =>
      clear H'
      try clear c1
      try clear p2
      try clear c3
      try clear c3b0
      try clear c3b1
      try clear c3b2
      obtain ⟨x5_1, rfl, HA, HK1, ⟨m1, rfl⟩⟩ := hrel
      cases gk with
      | zero => exact absurd HA.out (by simp [vernierref01_Same.l0])
      | succ k1 =>
        have H := HA.out
        clear HA
        simp only [vernierref01_Same.l0] at H
        by_cases c4 : x5_1 < (l0.length : Int)
        · rw [if_pos c4] at H
          have c4b0 : decide (x5_1 < (l0.length : Int)) = true := decide_eq_true c4
          clear c4
          by_cases c5 : 0 ≤ x5_1
          · rw [if_pos c5] at H
            have c5b0 : decide (0 ≤ x5_1) = true := decide_eq_true c5
            clear c5
            by_cases c6 : x5_1 < (l1.length : Int)
            · rw [if_pos c6] at H
              have c6b0 : decide (x5_1 < (l1.length : Int)) = true := decide_eq_true c6
              clear c6
              by_cases c7 : (rd l0 x5_1) = (rd l1 x5_1)
              · rw [if_pos c7] at H
                have c7b0 : ((rd l0 x5_1) == (rd l1 x5_1)) = true := beq_iff_eq.mpr c7
                have c7b1 : ((rd l0 x5_1) != (rd l1 x5_1)) = false := bne_eq_false_iff_eq.mpr c7
                clear c7
                have H' := Aside0.mk H
                clear H
                have p225 : 0 ≤ (x5_1 : Int) := of_decide_eq_true as_
                have q225 : x5_1 < (l0.length : Int) := of_decide_eq_true as_
                obtain ⟨ad225, e225, hx225_0⟩ := Kd.at_int HR0.out x5_1 p225 q225
                cases e225
                replace p225 := eq_true p225
                replace q225 := eq_true q225
                (try (have q225n := q225; simp only [Int.ofNat_lt] at q225n))
                (try (have q225d := q225; simp only [List.length_drop] at q225d))
                have p226 : 0 ≤ (x5_1 : Int) := of_decide_eq_true as_
                have q226 : x5_1 < (l1.length : Int) := of_decide_eq_true as_
                obtain ⟨ad226, e226, hx226_0⟩ := Kd.at_int HR1.out x5_1 p226 q226
                cases e226
                replace p226 := eq_true p226
                replace q226 := eq_true q226
                (try (have q226n := q226; simp only [Int.ofNat_lt] at q226n))
                (try (have q226d := q226; simp only [List.length_drop] at q226d))
                go_wp2
                repeat (go_quiet (fail); try go_wp2)
                go_roundg k1
                case measure => have := HK1.out; omega
                case rel => exact ⟨(wrap64 (x5_1 + 1)), (by first | rfl | (simp; done) | (simp [*]; done)), H', ⟨by have := HK1.out; omega⟩, by repeat (first | exact Drawn0.refl _ | apply Drawn0.step)⟩
              · rw [if_neg c7] at H
                have c7b0 : ((rd l0 x5_1) == (rd l1 x5_1)) = false := beq_eq_false_iff_ne.mpr c7
                have c7b1 : ((rd l0 x5_1) != (rd l1 x5_1)) = true := bne_iff_ne.mpr c7
                obtain rfl := Option.some.inj H
                have p225 : 0 ≤ (x5_1 : Int) := of_decide_eq_true as_
                have q225 : x5_1 < (l0.length : Int) := of_decide_eq_true as_
                obtain ⟨ad225, e225, hx225_0⟩ := Kd.at_int HR0.out x5_1 p225 q225
                cases e225
                replace p225 := eq_true p225
                replace q225 := eq_true q225
                (try (have q225n := q225; simp only [Int.ofNat_lt] at q225n))
                (try (have q225d := q225; simp only [List.length_drop] at q225d))
                have p226 : 0 ≤ (x5_1 : Int) := of_decide_eq_true as_
                have q226 : x5_1 < (l1.length : Int) := of_decide_eq_true as_
                obtain ⟨ad226, e226, hx226_0⟩ := Kd.at_int HR1.out x5_1 p226 q226
                cases e226
                replace p226 := eq_true p226
                replace q226 := eq_true q226
                (try (have q226n := q226; simp only [Int.ofNat_lt] at q226n))
                (try (have q226d := q226; simp only [List.length_drop] at q226d))
                go_wp2
                repeat (go_quiet (fail); try go_wp2)
                go_ret
                exact ⟨by first | rfl | (simp; done) | (simp [*]; done), by repeat (first | exact Drawn0.refl _ | apply Drawn0.step)⟩
            · rw [if_neg c6] at H
              exact absurd H (by simp)
          · rw [if_neg c5] at H
            exact absurd H (by simp)
        · rw [if_neg c4] at H
          have c4b0 : decide (x5_1 < (l0.length : Int)) = false := decide_eq_false c4
          clear c4
          obtain rfl := Option.some.inj H
          go_wp2
          repeat (go_quiet (fail); try go_wp2)
          go_ret
          exact ⟨by first | rfl | (simp; done) | (simp [*]; done), by repeat (first | exact Drawn0.refl _ | apply Drawn0.step)⟩
  · rw [if_neg c3] at H
    have c3b0 : ((l0.length : Int) == (l1.length : Int)) = false := beq_eq_false_iff_ne.mpr c3
    have c3b1 : ((l0.length : Int) != (l1.length : Int)) = true := bne_iff_ne.mpr c3
    have c3b2 : (l0.length == l1.length) = false := by first | simpa using c3 | (simp at c3 ⊢; omega)
    obtain rfl := Option.some.inj H
    go_enter Try.func14, Try.ntmps14
    go_wp2
    repeat (go_quiet (fail); try go_wp2)
    go_ret
    exact ⟨by first | rfl | (simp; done) | (simp [*]; done), by repeat (first | exact Drawn0.refl _ | apply Drawn0.step)⟩
end Go.Proofs.Ytjbpchebabhoeaa.P
end
section
set_option linter.unusedVariables false
set_option linter.unusedSimpArgs false
namespace Go.Proofs.Ytjbpchebabhoeaa.Nt
open Go.RowKit Go.Proofs.Ytjbpchebabhoeaa.P Go.Proofs.Ytjbpchebabhoeaa.X Go.Proofs.Ytjbpchebabhoeaa.Bt Go.Proofs.YtjbpchebabhoeaaW.PrintWords
theorem rd_natS (l : List Int) (i : Nat) : rd l (i : Int) = l.getD i 0 := by simp [rd]
theorem Same_loop (a b : List Int) (hl : a.length = b.length) (hf : a.length ≤ 4611686018427387904) (d : Nat) : ∀ (i k : Nat), i + d = a.length → d < k → a.take i = b.take i → vernierref01_Same.l0 k a b i = some (decide (a = b)) := by
  induction d with
  | zero =>
    intro i k hi hk h
    obtain ⟨k, rfl⟩ : ∃ m, k = m + 1 := ⟨k - 1, by omega⟩
    simp only [vernierref01_Same.l0]
    rw [if_neg (by omega)]
    rw [List.take_of_length_le (by omega), List.take_of_length_le (by omega)] at h
    rw [decide_eq_true h]
  | succ d ih =>
    intro i k hi hk h
    obtain ⟨k, rfl⟩ : ∃ m, k = m + 1 := ⟨k - 1, by omega⟩
    simp only [vernierref01_Same.l0]
    rw [if_pos (by omega), if_pos (by omega), if_pos (by omega), rd_natS, rd_natS]
    have ea : a.getD i 0 = a[i]'(by omega) := by rw [List.getD_eq_getElem?_getD, List.getElem?_eq_getElem (by omega)]; rfl
    have eb : b.getD i 0 = b[i]'(by omega) := by rw [List.getD_eq_getElem?_getD, List.getElem?_eq_getElem (by omega)]; rfl
    by_cases c : a.getD i 0 = b.getD i 0
    · rw [if_pos c, w64 (by omega) (by omega)]
      refine ih (i + 1) k (by omega) (by omega) ?_
      rw [List.take_succ_eq_append_getElem (by omega), List.take_succ_eq_append_getElem (by omega), h]
      rw [ea, eb] at c
      rw [c]
    · rw [if_neg c]
      have : ¬ a = b := fun h2 => c (by rw [h2])
      rw [decide_eq_false this]
theorem Same_f (a b : List Int) (hf : a.length ≤ 4611686018427387904) {k : Nat} (hk : a.length + 1 < k) : vernierref01_Same.f k a b = some (decide (a = b)) := by
  unfold vernierref01_Same.f
  by_cases c : a.length = b.length
  · rw [if_pos (by omega)]
    exact Same_loop a b c hf a.length 0 k (by omega) (by omega) rfl
  · rw [if_neg (by omega)]
    have : ¬ a = b := fun h2 => c (by rw [h2])
    rw [decide_eq_false this]
end Go.Proofs.Ytjbpchebabhoeaa.Nt
end
section
set_option linter.unusedVariables false
set_option linter.unusedSimpArgs false
set_option maxHeartbeats 4000000
set_option maxRecDepth 100000
namespace Go.Proofs.Ytjbpchebabhoeaa.H
open Go.RowKit Go.Proofs.YtjbpchebabhoeaaW.PrintWords Go.Proofs.YtjbpchebabhoeaaW.PrintLast Go.Proofs.YtjbpchebabhoeaaW.PrintMore Go.Proofs.Ytjbpchebabhoeaa.X Go.Proofs.Ytjbpchebabhoeaa.P Go.Proofs.Ytjbpchebabhoeaa.Nt Go.Proofs.Ytjbpchebabhoeaa.Bt Go.Proofs.Ytjbpchebabhoeaa.Dg
theorem Same_h {A A' : Option Addr} {c c' : Nat} {l : List Int} (hl : l.length ≤ 4611686018427387904) : HC Try.prog 14 [U A c l, U A' c' l] #[.slice A l.length c, .slice A' l.length c'] (Val (.bool true)) :=
  HC.drawn fun w S HF => vernierref01_Same.calls (l.length + 2) A c l A' c' l true w (HF.rowC m0) (HF.rowc m0) (HF.rowC m1) (HF.rowc m1) (by rw [Same_f l l hl (by omega)]; simp)
theorem alive05_h : HC Try.prog 26 [] #[] (Val (.bool true)) := by
  have h3 : W64 [3] := fun x hx => by rw [List.mem_singleton] at hx; subst hx; exact ⟨by decide, by decide⟩
  have h6 : W64 [6] := fun x hx => by rw [List.mem_singleton] at hx; subst hx; exact ⟨by decide, by decide⟩
  have hn := fun A c A' c' => rNorm_h (A := A) (c := c) (A' := A') (c' := c') false h3 h6 (by decide) (by decide) (by decide)
  rw [show Rn (wv false (V [3])) (V [6]) = 1 by decide, show Rd (wv false (V [3])) (V [6]) = 2 by decide] at hn
  have hn' := fun A c A' c' => (hn A c A' c').imp2 (R' := fun v Θ => ∃ ad c ad' c', v = .tuple #[.agg #[.bool false, .slice (some ad) 1 c, .slice (some ad') 1 c'], .int .i64 0] ∧ Θ = [U (some ad) c [1], U (some ad') c' [2]]) (by
    rintro v Θ w S w' ⟨A, c, A', c', rfl, rfl⟩ HF
    unfold RatV
    rw [show (1 : Int).natAbs = 1 from rfl, L_small (n := 1) (by decide) (by decide), L_small (n := 2) (by decide) (by decide)] at HF ⊢
    obtain ⟨ad, rfl, -⟩ := HF.some (k := .u64) (A := A) (c := c) (x := 1) (r := []) m0
    obtain ⟨ad', rfl, -⟩ := HF.some (k := .u64) (A := A') (c := c') (x := 2) (r := []) m1
    exact ⟨ad, c, ad', c', rfl, rfl⟩)
  clear hn
  intro w S HF
  go_enter Try.func26, Try.ntmps26
  go_wp2_with (first
    | (refine gg_ ?_)
    | ((with_reducible refine gate_dst (N := 4) rfl ?_); refine bslu_ .u64 55 [3] HF ?_; clear HF; intro g1 w_ HF)
    | ((with_reducible refine gate_dst (N := 6) rfl ?_); refine bslu_ .u64 55 [6] HF ?_; clear HF; intro g2 w_ HF)
    | ((with_reducible refine gate_dst (N := 1) rfl ?_); refine alo_ HF ?_; clear HF; intro g3 w_ HF)
    | (refine cal_ HF Try.func31 (hn' _ _ _ _) ?_; clear HF; rintro v_ Θ_ w_ ⟨A1, c1, A2, c2, rfl, rfl⟩ HF; simp only [List.cons_append, List.nil_append] at HF)
    | (refine lo_ HF ?_)
    | (refine lof_ HF ?_)
    | (refine sto_ HF ?_; clear HF; intro w_ HF))
  go_ret
  exact post_ (Θ := []) HF ⟨rfl, rfl⟩
theorem zero05_h : HC Try.prog 29 [] #[.agg #[.bool false, .slice none 0 0, .slice none 0 0]] (Val (.bool true)) := by
  intro w S HF
  go_enter Try.func29, Try.ntmps29
  go_wp2_with (first
    | (refine gg_ ?_)
    | ((with_reducible refine gate_dst (N := 1) rfl ?_); refine bxo_ HF ?_; clear HF; intro g1 w_ HF)
    | (refine lo_ HF ?_)
    | (refine lof_ HF ?_)
    | (refine sto_ HF ?_; clear HF; intro w_ HF))
  go_ret
  exact post_ (Θ := []) HF ⟨rfl, rfl⟩
section
variable {A A' B B' : Option Addr} {c c' e e' : Nat} {l l' m m' : List Int}
theorem few2_no (n k : Bool) (g : Nat) (h : ¬ (l.length ≤ 6 ∧ l'.length ≤ 6 ∧ m.length ≤ 6 ∧ m'.length ≤ 6)) : HC Try.prog 30 [.rd (some ⟨g, 0, none⟩) [.bool n, .slice A l.length c, .slice A' l'.length c', .bool k, .slice B m.length e, .slice B' m'.length e']] #[.slice (some ⟨g, 0, none⟩) 2 2] (Val (.bool false)) := by
  intro w S HF
  go_enter Try.func30, Try.ntmps30
  by_cases hl : (6 : Int) < (l.length : Int)
  · go_wp2_with (first
      | (refine gg_ ?_)
      | (refine wp_loop_rounds 4 ?_)
      | (with_reducible refine rounds_go ?_)
      | (refine lo_ HF ?_)
      | (refine lof_ HF ?_)
      | (refine sto_ HF ?_; clear HF; intro w_ HF))
    go_ret
    exact post_ (Θ := []) HF ⟨rfl, rfl⟩
  · skip
    by_cases hl_ : (6 : Int) < (l'.length : Int)
    · go_wp2_with (first
        | (refine gg_ ?_)
        | (refine wp_loop_rounds 4 ?_)
        | (with_reducible refine rounds_go ?_)
        | (refine lo_ HF ?_)
        | (refine lof_ HF ?_)
        | (refine sto_ HF ?_; clear HF; intro w_ HF))
      go_ret
      exact post_ (Θ := []) HF ⟨rfl, rfl⟩
    · skip
      by_cases hm : (6 : Int) < (m.length : Int)
      · go_wp2_with (first
          | (refine gg_ ?_)
          | (refine wp_loop_rounds 4 ?_)
          | (with_reducible refine rounds_go ?_)
          | (refine lo_ HF ?_)
          | (refine lof_ HF ?_)
          | (refine sto_ HF ?_; clear HF; intro w_ HF))
        go_ret
        exact post_ (Θ := []) HF ⟨rfl, rfl⟩
      · skip
        by_cases hm_ : (6 : Int) < (m'.length : Int)
        · go_wp2_with (first
            | (refine gg_ ?_)
            | (refine wp_loop_rounds 4 ?_)
            | (with_reducible refine rounds_go ?_)
            | (refine lo_ HF ?_)
            | (refine lof_ HF ?_)
            | (refine sto_ HF ?_; clear HF; intro w_ HF))
          go_ret
          exact post_ (Θ := []) HF ⟨rfl, rfl⟩
        · skip
          exact absurd ⟨by omega, by omega, by omega, by omega⟩ h
theorem few2_yes (n k : Bool) (g : Nat) (h : l.length ≤ 6 ∧ l'.length ≤ 6 ∧ m.length ≤ 6 ∧ m'.length ≤ 6) : HC Try.prog 30 [.rd (some ⟨g, 0, none⟩) [.bool n, .slice A l.length c, .slice A' l'.length c', .bool k, .slice B m.length e, .slice B' m'.length e']] #[.slice (some ⟨g, 0, none⟩) 2 2] (Val (.bool true)) := by
  intro w S HF
  go_enter Try.func30, Try.ntmps30
  have h1 : ¬ (6 : Int) < (l.length : Int) := by omega
  have h2 : ¬ (6 : Int) < (l'.length : Int) := by omega
  have h3 : ¬ (6 : Int) < (m.length : Int) := by omega
  have h4 : ¬ (6 : Int) < (m'.length : Int) := by omega
  go_wp2_with (first
    | (refine gg_ ?_)
    | (refine wp_loop_rounds 4 ?_)
    | (with_reducible refine rounds_go ?_)
    | (refine lo_ HF ?_)
    | (refine lof_ HF ?_)
    | (refine sto_ HF ?_; clear HF; intro w_ HF))
  go_ret
  exact post_ (Θ := []) HF ⟨rfl, rfl⟩
theorem is05_h (z : Int) (d : Nat) (k : Bool) (h : W64 l) (hm : W64 m) (hg : Nat.gcd z.natAbs d = 1) (hd : d ≠ 0) (he : z * (V m : Int) = wv k (V l) * d) (f : (L z.natAbs).length + (L d).length + l.length + m.length + 5 ≤ 17592186044000) :
    HC Try.prog 32 [U A c (L z.natAbs), U A' c' (L d), U B e l, U B' e' m] #[RatV z d A c A' c', .agg #[.bool k, .slice B l.length e], .slice B' m.length e'] (Val (.bool true)) := by
  have t1 := Gcd_h (A := A) (c := c) (A' := A') (c' := c') (L_wf z.natAbs) (L_wf d) (by omega) (by omega)
  rw [L_val, L_val, hg, L_small (n := 1) (by decide) (by decide)] at t1
  have t1' := t1.imp2 (R' := fun v Θ => ∃ ad c, v = .slice (some ad) 1 c ∧ Θ = [U (some ad) c [1]]) (by
    rintro v Θ w S w' ⟨A, c, rfl, rfl⟩ HF
    obtain ⟨ad, rfl, -⟩ := HF.some (k := .u64) (A := A) (c := c) (x := 1) (r := []) m0
    exact ⟨ad, c, rfl, rfl⟩)
  clear t1
  have q1 := len_times (decide (z < 0)) (L_wf z.natAbs) hm
  have q2 := len_times k h (L_wf d)
  have t2 := wMul_h (A := A) (c := c) (A' := B') (c' := e') (decide (z < 0)) false (L_wf z.natAbs) hm (by omega)
  have t3 := wMul_h (A := B) (c := e) (A' := A') (c' := c') k false h (L_wf d) (by omega)
  have t4 := Norm_h (A := A') (c := c') (L_wf d) (by omega)
  have t5 := wNorm_h (A := A) (c := c) (decide (z < 0)) (L_wf z.natAbs) (by omega)
  rw [show ∀ x, wv false x = (x : Int) from fun _ => rfl] at t2 t3
  rw [wv_z] at t2 t5 q1
  rw [L_val] at t3 t4 q2
  rw [he] at t2 q1
  have t6 := fun A c A' c' => wCmp_zz (A := A) (c := c) (A' := A') (c' := c') (wv k (V l) * (d : Int)) (wv k (V l) * (d : Int)) (by omega)
  rw [show ∀ x : Int, sgnZ (x - x) = 0 from fun x => by unfold sgnZ; rw [if_pos (by omega)]] at t6
  have t7 := fun A c A' c' => Same_h (A := A) (c := c) (A' := A') (c' := c') (l := L d) (by omega)
  have t8 := fun A c A' c' => Same_h (A := A) (c := c) (A' := A') (c' := c') (l := L z.natAbs) (by omega)
  generalize wv k (V l) * (d : Int) = y at t2 t3 t6 q1 q2
  clear he hg hd q1 q2
  intro w S HF
  go_enter Try.func32, Try.ntmps32
  go_upto_region 4 with (first
    | (refine gg_ ?_)
    | ((with_reducible refine gate_dst (N := 3) rfl ?_); refine bxo_ HF ?_; clear HF; intro g1 w_ HF)
    | ((with_reducible refine gate_dst (N := 4) rfl ?_); refine bxo_ HF ?_; clear HF; intro g2 w_ HF)
    | ((with_reducible refine gate_dst (N := 8) rfl ?_); refine alo_ HF ?_; clear HF; intro g3 w_ HF)
    | ((with_reducible refine gate_dst (N := 9) rfl ?_); refine alo_ HF ?_; clear HF; intro g4 w_ HF)
    | (refine cal_ HF Try.func71 (t1') ?_; clear HF; rintro v_ Θ_ w_ ⟨ad, c1, rfl, rfl⟩ HF; simp only [List.cons_append, List.nil_append] at HF)
    | (refine cal_ HF Try.func39 (t2) ?_; clear HF; rintro v_ Θ_ w_ ⟨A2, c2, rfl, rfl⟩ HF; simp only [List.cons_append, List.nil_append] at HF)
    | (refine cal_ HF Try.func39 (t3) ?_; clear HF; rintro v_ Θ_ w_ ⟨A3, c3, rfl, rfl⟩ HF; simp only [List.cons_append, List.nil_append] at HF)
    | (refine lo_ HF ?_)
    | (refine lof_ HF ?_)
    | (refine sto_ HF ?_; clear HF; intro w_ HF))
  refine startH_ 44 [.box g1 _ _, .box g3 _ _, .box g4 _ _, U (some ad) _ [1]] #[false, false, false, false, false, false, false, false, false, false, false, false, false, false, false, false, false, false, false, false, false, false, false, false, false, false, false, false, false, false, false, false, false, false, false, false, false, false, false, false, false, false, false, false] HF ?_
  clear HF
  intro w_ HF
  refine ht_ 0 HF ?_
  refine ht_ 1 HF ?_
  refine hcal_ 2 HF Try.func40 (t6 _ _ _ _) ?_
  clear HF
  rintro v_ Θ_ w_ ⟨rfl, rfl⟩ HF
  simp only [List.cons_append, List.nil_append] at HF
  refine hn_ ?_
  refine hz_ 3 ?_
  refine hz_ 4 ?_
  refine hz_ 5 ?_
  refine hz_ 6 ?_
  refine hz_ 7 ?_
  refine hz_ 8 ?_
  refine hz_ 9 ?_
  refine hz_ 10 ?_
  refine hz_ 11 ?_
  refine htf_ 12 HF ?_
  refine hz_ 13 ?_
  refine hz_ 14 ?_
  refine hz_ 15 ?_
  refine hz_ 16 ?_
  refine ht_ 17 HF ?_
  refine hz_ 19 ?_
  refine ht_ 20 HF ?_
  refine hcal_ 18 HF Try.func17 (t4) ?_
  clear HF
  rintro v_ Θ_ w_ ⟨A5, c5, rfl, rfl⟩ HF
  simp only [List.cons_append, List.nil_append] at HF
  refine hn_ ?_
  refine hcal_ 21 HF Try.func14 (t7 _ _ _ _) ?_
  clear HF
  rintro v_ Θ_ w_ ⟨rfl, rfl⟩ HF
  simp only [List.cons_append, List.nil_append] at HF
  refine hn_ ?_
  refine hz_ 22 ?_
  refine hz_ 23 ?_
  refine hz_ 24 ?_
  refine ht_ 25 HF ?_
  refine hz_ 28 ?_
  refine hz_ 29 ?_
  refine ht_ 30 HF ?_
  refine hcal_ 26 HF Try.func72 (t5) ?_
  clear HF
  rintro v_ Θ_ w_ ⟨A6, c6, rfl, rfl⟩ HF
  simp only [List.cons_append, List.nil_append] at HF
  refine hn_ ?_
  refine hz_ 27 ?_
  refine hcal_ 31 HF Try.func14 (t8 _ _ _ _) ?_
  clear HF
  rintro v_ Θ_ w_ ⟨rfl, rfl⟩ HF
  simp only [List.cons_append, List.nil_append] at HF
  refine hn_ ?_
  refine hz_ 32 ?_
  refine hz_ 33 ?_
  refine hz_ 34 ?_
  refine ht_ 35 HF ?_
  refine hz_ 38 ?_
  refine hz_ 39 ?_
  refine ht_ 40 HF ?_
  refine hcal_ 36 HF Try.func72 (t5) ?_
  clear HF
  rintro v_ Θ_ w_ ⟨A7, c7, rfl, rfl⟩ HF
  simp only [List.cons_append, List.nil_append] at HF
  refine hn_ ?_
  refine hz_ 37 ?_
  refine hz_ 41 ?_
  refine hz_ 42 ?_
  refine hz_ 43 ?_
  refine hend_ ?_
  go_wp2
  go_ret
  exact post_ (Θ := []) HF ⟨rfl, rfl⟩
end
end Go.Proofs.Ytjbpchebabhoeaa.H
end
section
set_option linter.unusedVariables false
namespace Go.Proofs.Ytjbpchebabhoeaa.H
open Go.RowKit Go.Proofs.Ytjbpchebabhoeaa.Nt Go.Proofs.Ytjbpchebabhoeaa.Bt Go.Proofs.Ytjbpchebabhoeaa.Dg Go.Proofs.Ytjbpchebabhoeaa.X
theorem Rn_Rd (z : Int) (d : Nat) (hd : d ≠ 0) : Rn z d * (d : Int) = z * (Rd z d : Int) := by
  unfold Rn Rd
  have hg : 0 < Nat.gcd z.natAbs d := Nat.pos_of_ne_zero fun e => hd (Nat.gcd_eq_zero_iff.1 e).2
  obtain ⟨q, hq⟩ := Nat.gcd_dvd_right z.natAbs d
  obtain ⟨p, hp⟩ : (Nat.gcd z.natAbs d : Int) ∣ z := by
    rw [← Int.dvd_natAbs]
    exact_mod_cast Nat.gcd_dvd_left z.natAbs d
  generalize Nat.gcd z.natAbs d = g at hg hq hp ⊢
  rw [hq, Nat.mul_div_cancel_left _ hg, hp, Int.mul_ediv_cancel_left _ (by omega)]
  push_cast
  rw [← Int.mul_assoc, Int.mul_comm p g]
theorem Rd_ne (z : Int) (d : Nat) (hd : d ≠ 0) : Rd z d ≠ 0 := by
  unfold Rd
  have hg : 0 < Nat.gcd z.natAbs d := Nat.pos_of_ne_zero fun e => hd (Nat.gcd_eq_zero_iff.1 e).2
  have := Nat.div_pos (Nat.le_of_dvd (Nat.pos_of_ne_zero hd) (Nat.gcd_dvd_right z.natAbs d)) hg
  omega
theorem Rn_abs (z : Int) (d : Nat) : (Rn z d).natAbs = z.natAbs / Nat.gcd z.natAbs d := by
  unfold Rn
  have h : (Nat.gcd z.natAbs d : Int) ∣ z := by
    rw [← Int.dvd_natAbs]
    exact_mod_cast Nat.gcd_dvd_left z.natAbs d
  rw [Int.natAbs_ediv_of_dvd h]
  rfl
theorem Rn_gcd (z : Int) (d : Nat) (hd : d ≠ 0) : Nat.gcd (Rn z d).natAbs (Rd z d) = 1 := by
  rw [Rn_abs]
  unfold Rd
  exact Nat.gcd_div_gcd_div_gcd_of_pos_right (Nat.pos_of_ne_zero hd)
theorem Rn_len (z : Int) (d : Nat) : (L (Rn z d).natAbs).length ≤ (L z.natAbs).length := by
  rw [Rn_abs]
  exact L_mono (Nat.div_le_self _ _)
theorem Rd_len (z : Int) (d : Nat) : (L (Rd z d)).length ≤ (L d).length := L_mono (Nat.div_le_self _ _)
end Go.Proofs.Ytjbpchebabhoeaa.H
end
section
set_option linter.unusedVariables false
set_option linter.unusedSimpArgs false
set_option maxHeartbeats 8000000
set_option maxRecDepth 100000
namespace Go.Proofs.Ytjbpchebabhoeaa.H
open Go.RowKit Go.Proofs.YtjbpchebabhoeaaW.PrintWords Go.Proofs.YtjbpchebabhoeaaW.PrintLast Go.Proofs.YtjbpchebabhoeaaW.PrintMore Go.Proofs.Ytjbpchebabhoeaa.X Go.Proofs.Ytjbpchebabhoeaa.P Go.Proofs.Ytjbpchebabhoeaa.Nt Go.Proofs.Ytjbpchebabhoeaa.Bt Go.Proofs.Ytjbpchebabhoeaa.Dg
section
variable {A A' B B' : Option Addr} {c c' e e' : Nat} {l l' m m' : List Int}
theorem tells05_few (n k : Bool) (hf : ¬ (l.length ≤ 6 ∧ l'.length ≤ 6 ∧ m.length ≤ 6 ∧ m'.length ≤ 6)) : HC Try.prog 7 [U A c l, U A' c' l', U B e m, U B' e' m'] #[ratA n A c l A' c' l', ratA k B e m B' e' m'] (Val (.bool true)) := by
  have h1 := fun g => few2_no (A := A) (A' := A') (B := B) (B' := B') (c := c) (c' := c') (e := e) (e' := e') n k g hf
  clear hf
  intro w S HF
  go_enter Try.func7, Try.ntmps7
  go_wp2_with (first
    | (refine gg_ ?_)
    | ((with_reducible refine gate_dst (N := 2) rfl ?_); refine bxo_ HF ?_; clear HF; intro g1 w_ HF)
    | ((with_reducible refine gate_dst (N := 3) rfl ?_); refine bxo_ HF ?_; clear HF; intro g2 w_ HF)
    | ((with_reducible refine gate_dst (N := 22) rfl ?_); refine bsl_ 2 47 [.bool n, .slice A l.length c, .slice A' l'.length c', .bool k, .slice B m.length e, .slice B' m'.length e'] HF ?_; clear HF; intro g3 w_ HF)
    | (refine cal_ HF Try.func26 (alive05_h) ?_; clear HF; rintro v_ Θ_ w_ ⟨rfl, rfl⟩ HF; simp only [List.cons_append, List.nil_append] at HF)
    | (refine cal_ HF Try.func30 (h1 _) ?_; clear HF; rintro v_ Θ_ w_ ⟨rfl, rfl⟩ HF; simp only [List.cons_append, List.nil_append] at HF)
    | (refine lo_ HF ?_)
    | (refine lof_ HF ?_)
    | (refine sto_ HF ?_; clear HF; intro w_ HF))
  go_ret
  exact post_ (Θ := []) HF ⟨rfl, rfl⟩
theorem tells05_bad (n k : Bool) (h : W64 l) (h' : W64 l') (hm : W64 m) (hm' : W64 m') (hf : l.length ≤ 6 ∧ l'.length ≤ 6 ∧ m.length ≤ 6 ∧ m'.length ≤ 6) (hz : V l' = 0 ∨ V m' = 0) : HC Try.prog 7 [U A c l, U A' c' l', U B e m, U B' e' m'] #[ratA n A c l A' c' l', ratA k B e m B' e' m'] (Val (.bool true)) := by
  have h1 := fun g => few2_yes (A := A) (A' := A') (B := B) (B' := B') (c := c) (c' := c') (e := e) (e' := e') n k g hf
  have t1 := rAdd_bad (A := A) (c := c) (l := l) (A' := A') (c' := c') (B := B) (e := e) (m := m) (B' := B') (e' := e') n k h' hm' (by omega) hz
  have t2 := rSub_bad (A := A) (c := c) (l := l) (A' := A') (c' := c') (B := B) (e := e) (m := m) (B' := B') (e' := e') n k h' hm' (by omega) hm hz
  have t3 := rMul_bad (A := A) (c := c) (l := l) (A' := A') (c' := c') (B := B) (e := e) (m := m) (B' := B') (e' := e') n k h' hm' (by omega) hz
  have t4 := rDiv_bad (A := A) (c := c) (l := l) (A' := A') (c' := c') (B := B) (e := e) (m := m) (B' := B') (e' := e') n k h' hm' (by omega) hz
  have t5 := rCmp_bad (A := A) (c := c) (l := l) (A' := A') (c' := c') (B := B) (e := e) (m := m) (B' := B') (e' := e') n k h' hm' (by omega) hz
  have b1 := Bits_h (A := A') (c := c') h' (by omega)
  have b2 := Bits_h (A := B') (c := e') hm' (by omega)
  intro w S HF
  go_enter Try.func7, Try.ntmps7
  by_cases hz1 : V l' = 0
  · rw [hz1, blen_zero] at b1
    clear hz hz1 hf
    go_wp2_with (first
      | (refine gg_ ?_)
      | ((with_reducible refine gate_dst (N := 2) rfl ?_); refine bxo_ HF ?_; clear HF; intro g1 w_ HF)
      | ((with_reducible refine gate_dst (N := 3) rfl ?_); refine bxo_ HF ?_; clear HF; intro g2 w_ HF)
      | ((with_reducible refine gate_dst (N := 5) rfl ?_); refine alo_ HF ?_; clear HF; intro g5 w_ HF)
      | ((with_reducible refine gate_dst (N := 7) rfl ?_); refine alo_ HF ?_; clear HF; intro g7 w_ HF)
      | ((with_reducible refine gate_dst (N := 9) rfl ?_); refine alo_ HF ?_; clear HF; intro g9 w_ HF)
      | ((with_reducible refine gate_dst (N := 11) rfl ?_); refine alo_ HF ?_; clear HF; intro g11 w_ HF)
      | ((with_reducible refine gate_dst (N := 22) rfl ?_); refine bsl_ 2 47 [.bool n, .slice A l.length c, .slice A' l'.length c', .bool k, .slice B m.length e, .slice B' m'.length e'] HF ?_; clear HF; intro g3 w_ HF)
      | (refine cal_ HF Try.func26 (alive05_h) ?_; clear HF; rintro v_ Θ_ w_ ⟨rfl, rfl⟩ HF; simp only [List.cons_append, List.nil_append] at HF)
      | (refine cal_ HF Try.func30 (h1 _) ?_; clear HF; rintro v_ Θ_ w_ ⟨rfl, rfl⟩ HF; simp only [List.cons_append, List.nil_append] at HF)
      | (refine cal_ HF Try.func34 (t1) ?_; clear HF; rintro v_ Θ_ w_ ⟨rfl, rfl⟩ HF; simp only [List.cons_append, List.nil_append] at HF)
      | (refine cal_ HF Try.func35 (t2) ?_; clear HF; rintro v_ Θ_ w_ ⟨rfl, rfl⟩ HF; simp only [List.cons_append, List.nil_append] at HF)
      | (refine cal_ HF Try.func36 (t3) ?_; clear HF; rintro v_ Θ_ w_ ⟨rfl, rfl⟩ HF; simp only [List.cons_append, List.nil_append] at HF)
      | (refine cal_ HF Try.func37 (t4) ?_; clear HF; rintro v_ Θ_ w_ ⟨rfl, rfl⟩ HF; simp only [List.cons_append, List.nil_append] at HF)
      | (refine cal_ HF Try.func38 (t5) ?_; clear HF; rintro v_ Θ_ w_ ⟨rfl, rfl⟩ HF; simp only [List.cons_append, List.nil_append] at HF)
      | (refine cal_ HF Try.func13 (b1) ?_; clear HF; rintro v_ Θ_ w_ ⟨rfl, rfl⟩ HF; simp only [List.cons_append, List.nil_append] at HF)
      | (refine cal_ HF Try.func29 (zero05_h) ?_; clear HF; rintro v_ Θ_ w_ ⟨rfl, rfl⟩ HF; simp only [List.cons_append, List.nil_append] at HF)
      | (refine lo_ HF ?_)
      | (refine lof_ HF ?_)
      | (refine sto_ HF ?_; clear HF; intro w_ HF))
    go_ret
    exact post_ (Θ := []) HF ⟨rfl, rfl⟩
  · have hb1 : (((blen (V l') : Nat) : Int) == 0) = false := by have := blen_pos (Nat.pos_of_ne_zero hz1); simp; omega
    have hz2 : V m' = 0 := hz.resolve_left hz1
    rw [hz2, blen_zero] at b2
    clear hz hz1 hz2 hf
    generalize blen (V l') = q at b1 hb1
    go_wp2_with (first
      | (refine gg_ ?_)
      | ((with_reducible refine gate_dst (N := 2) rfl ?_); refine bxo_ HF ?_; clear HF; intro g1 w_ HF)
      | ((with_reducible refine gate_dst (N := 3) rfl ?_); refine bxo_ HF ?_; clear HF; intro g2 w_ HF)
      | ((with_reducible refine gate_dst (N := 5) rfl ?_); refine alo_ HF ?_; clear HF; intro g5 w_ HF)
      | ((with_reducible refine gate_dst (N := 7) rfl ?_); refine alo_ HF ?_; clear HF; intro g7 w_ HF)
      | ((with_reducible refine gate_dst (N := 9) rfl ?_); refine alo_ HF ?_; clear HF; intro g9 w_ HF)
      | ((with_reducible refine gate_dst (N := 11) rfl ?_); refine alo_ HF ?_; clear HF; intro g11 w_ HF)
      | ((with_reducible refine gate_dst (N := 22) rfl ?_); refine bsl_ 2 47 [.bool n, .slice A l.length c, .slice A' l'.length c', .bool k, .slice B m.length e, .slice B' m'.length e'] HF ?_; clear HF; intro g3 w_ HF)
      | (refine cal_ HF Try.func26 (alive05_h) ?_; clear HF; rintro v_ Θ_ w_ ⟨rfl, rfl⟩ HF; simp only [List.cons_append, List.nil_append] at HF)
      | (refine cal_ HF Try.func30 (h1 _) ?_; clear HF; rintro v_ Θ_ w_ ⟨rfl, rfl⟩ HF; simp only [List.cons_append, List.nil_append] at HF)
      | (refine cal_ HF Try.func34 (t1) ?_; clear HF; rintro v_ Θ_ w_ ⟨rfl, rfl⟩ HF; simp only [List.cons_append, List.nil_append] at HF)
      | (refine cal_ HF Try.func35 (t2) ?_; clear HF; rintro v_ Θ_ w_ ⟨rfl, rfl⟩ HF; simp only [List.cons_append, List.nil_append] at HF)
      | (refine cal_ HF Try.func36 (t3) ?_; clear HF; rintro v_ Θ_ w_ ⟨rfl, rfl⟩ HF; simp only [List.cons_append, List.nil_append] at HF)
      | (refine cal_ HF Try.func37 (t4) ?_; clear HF; rintro v_ Θ_ w_ ⟨rfl, rfl⟩ HF; simp only [List.cons_append, List.nil_append] at HF)
      | (refine cal_ HF Try.func38 (t5) ?_; clear HF; rintro v_ Θ_ w_ ⟨rfl, rfl⟩ HF; simp only [List.cons_append, List.nil_append] at HF)
      | (refine cal_ HF Try.func13 (b1) ?_; clear HF; rintro v_ Θ_ w_ ⟨rfl, rfl⟩ HF; simp only [List.cons_append, List.nil_append] at HF)
      | (refine cal_ HF Try.func13 (b2) ?_; clear HF; rintro v_ Θ_ w_ ⟨rfl, rfl⟩ HF; simp only [List.cons_append, List.nil_append] at HF)
      | (refine cal_ HF Try.func29 (zero05_h) ?_; clear HF; rintro v_ Θ_ w_ ⟨rfl, rfl⟩ HF; simp only [List.cons_append, List.nil_append] at HF)
      | (refine lo_ HF ?_)
      | (refine lof_ HF ?_)
      | (refine sto_ HF ?_; clear HF; intro w_ HF))
    go_ret
    exact post_ (Θ := []) HF ⟨rfl, rfl⟩
end
end Go.Proofs.Ytjbpchebabhoeaa.H
end
section
set_option linter.unusedVariables false
set_option linter.unusedSimpArgs false
set_option maxHeartbeats 8000000
set_option maxRecDepth 100000
namespace Go.Proofs.Ytjbpchebabhoeaa.H
open Go.RowKit Go.Proofs.YtjbpchebabhoeaaW.PrintWords Go.Proofs.YtjbpchebabhoeaaW.PrintLast Go.Proofs.YtjbpchebabhoeaaW.PrintMore Go.Proofs.Ytjbpchebabhoeaa.X Go.Proofs.Ytjbpchebabhoeaa.P Go.Proofs.Ytjbpchebabhoeaa.Nt Go.Proofs.Ytjbpchebabhoeaa.Bt Go.Proofs.Ytjbpchebabhoeaa.Dg
section
variable {A A' B B' : Option Addr} {c c' e e' : Nat} {l l' m m' : List Int}
theorem is05_q (Z : Int) (D : Nat) (hD : D ≠ 0) (f : (L Z.natAbs).length + (L D).length ≤ 1000) : HC Try.prog 32 [U A c (L (Rn Z D).natAbs), U A' c' (L (Rd Z D)), U B e (L Z.natAbs), U B' e' (L D)] #[RatV (Rn Z D) (Rd Z D) A c A' c', wz Z B e, .slice B' (L D).length e'] (Val (.bool true)) := by
  have h1 := Rn_len Z D
  have h2 := Rd_len Z D
  refine is05_h (Rn Z D) (Rd Z D) (decide (Z < 0)) (L_wf _) (L_wf _) (Rn_gcd Z D hD) (Rd_ne Z D hD) ?_ (by omega)
  rw [L_val, wv_z]
  exact Rn_Rd Z D hD
theorem len_x (n : Bool) (h : W64 l) (hm : W64 m) (f : l.length ≤ 6) (f' : m.length ≤ 6) : (L (wv n (V l) * (V m : Int)).natAbs).length ≤ 12 := by
  have := len_times n h hm
  omega
end
end Go.Proofs.Ytjbpchebabhoeaa.H
end
section
set_option linter.unusedVariables false
set_option linter.unusedSimpArgs false
set_option maxHeartbeats 8000000
set_option maxRecDepth 100000
namespace Go.Proofs.Ytjbpchebabhoeaa.H
open Go.RowKit Go.Proofs.YtjbpchebabhoeaaW.PrintWords Go.Proofs.YtjbpchebabhoeaaW.PrintLast Go.Proofs.YtjbpchebabhoeaaW.PrintMore Go.Proofs.Ytjbpchebabhoeaa.X Go.Proofs.Ytjbpchebabhoeaa.P Go.Proofs.Ytjbpchebabhoeaa.Nt Go.Proofs.Ytjbpchebabhoeaa.Bt Go.Proofs.Ytjbpchebabhoeaa.Dg
section
variable {A A' B B' : Option Addr} {c c' e e' : Nat} {l l' m m' : List Int}
theorem tells05_zero (n k : Bool) (h : W64 l) (h' : W64 l') (hm : W64 m) (hm' : W64 m') (hf : l.length ≤ 6 ∧ l'.length ≤ 6 ∧ m.length ≤ 6 ∧ m'.length ≤ 6) (hz : ¬ (V l' = 0 ∨ V m' = 0)) (h0 : V m = 0) : HC Try.prog 7 [U A c l, U A' c' l', U B e m, U B' e' m'] #[ratA n A c l A' c' l', ratA k B e m B' e' m'] (Val (.bool true)) := by
  have h1 := fun g => few2_yes (A := A) (A' := A') (B := B) (B' := B') (c := c) (c' := c') (e := e) (e' := e') n k g hf
  have t1 := rAdd_h (A := A) (c := c) (l := l) (A' := A') (c' := c') (B := B) (e := e) (m := m) (B' := B') (e' := e') n k h h' hm hm' (by omega) hz
  have t2 := rSub_h (A := A) (c := c) (l := l) (A' := A') (c' := c') (B := B) (e := e) (m := m) (B' := B') (e' := e') n k h h' hm hm' (by omega) hz
  have t3 := rMul_h (A := A) (c := c) (l := l) (A' := A') (c' := c') (B := B) (e := e) (m := m) (B' := B') (e' := e') n k h h' hm hm' (by omega) hz
  have t4 := rDiv_zero (A := A) (c := c) (l := l) (A' := A') (c' := c') (B := B) (e := e) (m := m) (B' := B') (e' := e') n k h' hm' (by omega) hm hz h0
  have t5 := rCmp_h (A := A) (c := c) (l := l) (A' := A') (c' := c') (B := B) (e := e) (m := m) (B' := B') (e' := e') n k h h' hm hm' (by omega) hz
  have b1 := Bits_h (A := A') (c := c') h' (by omega)
  have b2 := Bits_h (A := B') (c := e') hm' (by omega)
  have hb1 : (((blen (V l') : Nat) : Int) == 0) = false := by have := blen_pos (Nat.pos_of_ne_zero fun e => hz (.inl e)); simp; omega
  have hb2 : (((blen (V m') : Nat) : Int) == 0) = false := by have := blen_pos (Nat.pos_of_ne_zero fun e => hz (.inr e)); simp; omega
  generalize blen (V l') = qq at b1 hb1
  generalize blen (V m') = qq' at b2 hb2
  have u1 := wMul_h (A := A) (c := c) (A' := B') (c' := e') n false h hm' (by omega)
  have u2 := wMul_h (A := B) (c := e) (A' := A') (c' := c') k false hm h' (by omega)
  rw [show ∀ x, wv false x = (x : Int) from fun _ => rfl] at u1 u2
  have u3 := Mul_h (A := A') (c := c') (A' := B') (c' := e') h' hm' (by omega)
  have u7 := wMul_h (A := A) (c := c) (A' := B) (c' := e) n k h hm (by omega)
  have q1 := len_x n h hm' (by omega) (by omega)
  have q2 := len_x k hm h' (by omega) (by omega)
  have q3 := len_mul h' hm'
  have hD := V_mul_ne hz
  have q7 : (L (wv n (V l) * wv k (V m)).natAbs).length ≤ 12 := by
    rw [Int.natAbs_mul, wv_abs, wv_abs]
    have := len_mul h hm
    omega
  have v1 := wSign_h (A := B) (c := e) k hm (by omega)
  rw [show sgnZ (wv k (V m)) = 0 by unfold sgnZ; rw [if_pos (wv_zero.2 h0)]] at v1
  generalize wv n (V l) * (V m' : Int) = x at *
  generalize wv k (V m) * (V l' : Int) = y at *
  generalize wv n (V l) * wv k (V m) = p at *
  generalize V l' * V m' = D at *
  have q4 : (L (x + y).natAbs).length ≤ 25 := Nat.le_trans (len_sum q1 q2) (by omega)
  have q5 : (L (x - y).natAbs).length ≤ 25 := by
    have q2' : (L (-y).natAbs).length ≤ 12 := by rw [Int.natAbs_neg]; exact q2
    have := len_sum q1 q2'
    rw [← Int.sub_eq_add_neg] at this
    omega
  have u4 := fun A c A' c' => wCmp_zz (A := A) (c := c) (A' := A') (c' := c') x y (by omega)
  have u5 := fun A c A' c' => wAdd_zz (A := A) (c := c) (A' := A') (c' := c') x y (by omega)
  have u6 := fun A c A' c' => wSub_zz (A := A) (c := c) (A' := A') (c' := c') x y (by omega)
  have s1 := fun A c A' c' B e B' e' => is05_q (A := A) (c := c) (A' := A') (c' := c') (B := B) (e := e) (B' := B') (e' := e') (x + y) D hD (by omega)
  have s2 := fun A c A' c' B e B' e' => is05_q (A := A) (c := c) (A' := A') (c' := c') (B := B) (e := e) (B' := B') (e' := e') (x - y) D hD (by omega)
  have s3 := fun A c A' c' B e B' e' => is05_q (A := A) (c := c) (A' := A') (c' := c') (B := B) (e := e) (B' := B') (e' := e') p D hD (by omega)
  generalize Rn (x + y) D = z1 at *
  generalize Rd (x + y) D = d1 at *
  generalize Rn (x - y) D = z2 at *
  generalize Rd (x - y) D = d2 at *
  generalize Rn p D = z3 at *
  generalize Rd p D = d3 at *
  generalize sgnZ (x - y) = sc at *
  clear q1 q2 q3 q4 q5 q7 hD hz h0 hf h h' hm hm'
  intro w S HF
  go_enter Try.func7, Try.ntmps7
  go_upto_region 12 with (first
    | (refine gg_ ?_)
    | ((with_reducible refine gate_dst (N := 2) rfl ?_); refine bxo_ HF ?_; clear HF; intro g1 w_ HF)
    | ((with_reducible refine gate_dst (N := 3) rfl ?_); refine bxo_ HF ?_; clear HF; intro g2 w_ HF)
    | ((with_reducible refine gate_dst (N := 5) rfl ?_); refine alo_ HF ?_; clear HF; intro g5 w_ HF)
    | ((with_reducible refine gate_dst (N := 7) rfl ?_); refine alo_ HF ?_; clear HF; intro g7 w_ HF)
    | ((with_reducible refine gate_dst (N := 9) rfl ?_); refine alo_ HF ?_; clear HF; intro g9 w_ HF)
    | ((with_reducible refine gate_dst (N := 11) rfl ?_); refine alo_ HF ?_; clear HF; intro g11 w_ HF)
    | ((with_reducible refine gate_dst (N := 22) rfl ?_); refine bsl_ 2 47 [.bool n, .slice A l.length c, .slice A' l'.length c', .bool k, .slice B m.length e, .slice B' m'.length e'] HF ?_; clear HF; intro g3 w_ HF)
    | (refine cal_ HF Try.func26 (alive05_h) ?_; clear HF; rintro v_ Θ_ w_ ⟨rfl, rfl⟩ HF; simp only [List.cons_append, List.nil_append] at HF)
    | (refine cal_ HF Try.func30 (h1 _) ?_; clear HF; rintro v_ Θ_ w_ ⟨rfl, rfl⟩ HF; simp only [List.cons_append, List.nil_append] at HF)
    | (refine cal_ HF Try.func34 (t1) ?_; clear HF; rintro v_ Θ_ w_ ⟨A1, c1, A2, c2, rfl, rfl⟩ HF; simp only [List.cons_append, List.nil_append] at HF)
    | (refine cal_ HF Try.func35 (t2) ?_; clear HF; rintro v_ Θ_ w_ ⟨A3, c3, A4, c4, rfl, rfl⟩ HF; simp only [List.cons_append, List.nil_append] at HF)
    | (refine cal_ HF Try.func36 (t3) ?_; clear HF; rintro v_ Θ_ w_ ⟨A5, c5, A6, c6, rfl, rfl⟩ HF; simp only [List.cons_append, List.nil_append] at HF)
    | (refine cal_ HF Try.func37 (t4) ?_; clear HF; rintro v_ Θ_ w_ ⟨rfl, rfl⟩ HF; simp only [List.cons_append, List.nil_append] at HF)
    | (refine cal_ HF Try.func38 (t5) ?_; clear HF; rintro v_ Θ_ w_ ⟨rfl, rfl⟩ HF; simp only [List.cons_append, List.nil_append] at HF)
    | (refine cal_ HF Try.func13 (b1) ?_; clear HF; rintro v_ Θ_ w_ ⟨rfl, rfl⟩ HF; simp only [List.cons_append, List.nil_append] at HF)
    | (refine cal_ HF Try.func13 (b2) ?_; clear HF; rintro v_ Θ_ w_ ⟨rfl, rfl⟩ HF; simp only [List.cons_append, List.nil_append] at HF)
    | (refine lo_ HF ?_)
    | (refine lof_ HF ?_)
    | (refine sto_ HF ?_; clear HF; intro w_ HF))
  refine startH_ 16 [.box g1 _ _, .box g2 _ _] #[false, false, false, false, false, false, false, false, false, false, false, false, false, false, false, false] HF ?_
  clear HF
  intro w_ HF
  refine hz_ 0 ?_
  refine ht_ 1 HF ?_
  refine hz_ 2 ?_
  refine ht_ 3 HF ?_
  refine hz_ 4 ?_
  refine hz_ 6 ?_
  refine ht_ 7 HF ?_
  refine hz_ 8 ?_
  refine ht_ 9 HF ?_
  refine hz_ 10 ?_
  refine float_ [⟨5, 108, [], WholeZ x⟩, ⟨11, 114, [5], WholeZ y⟩, ⟨12, 15, [], NewBox 45 [.bool false, .slice none 0 0]⟩, ⟨13, 16, [], NewBox 45 [.bool false, .slice none 0 0]⟩] 2 HF ?_ ?_
  · simp only [List.forall_mem_cons]
    refine ⟨?_, ?_, falo_, falo_, fun _ h => by cases h⟩
    · refine fcal_ Try.func39 fun b η Γ F => ?_
      refine ⟨_, [U A c l, U B' e' m'], ?_, F.part, u1⟩
      simp only [List.map_toArray, List.map_cons, List.map_nil, F.tm 104, F.tm 107]
    · refine fcal_ Try.func39 fun b η Γ F => ?_
      refine ⟨_, [U B e m, U A' c' l'], ?_, F.part, u2⟩
      simp only [List.map_toArray, List.map_cons, List.map_nil, F.tm 110, F.tm 113]
  simp only [ends]
  clear HF
  rintro _ _ ⟨A9, c9, rfl, rfl⟩ _ _ ⟨A10, c10, rfl, rfl⟩ _ _ ⟨g15, rfl, rfl⟩ _ _ ⟨g16, rfl, rfl⟩ w_ HF
  simp only [List.nil_append, List.cons_append] at HF
  refine hf_ ?_
  refine hsto_ 14 HF ?_
  clear HF
  intro w_ HF
  refine hsto_ 15 HF ?_
  clear HF
  intro w_ HF
  refine hend_ ?_
  go_upto_region 14 with (first
    | (refine gg_ ?_)
    | (refine cal_ HF Try.func16 (u3) ?_; clear HF; rintro v_ Θ_ w_ ⟨A11, c11, rfl, rfl⟩ HF; simp only [List.cons_append, List.nil_append] at HF)
    | (refine lo_ HF ?_)
    | (refine lof_ HF ?_)
    | (refine sto_ HF ?_; clear HF; intro w_ HF))
  refine startH_ 50 [.box g5 _ _, .box g7 _ _, .box g9 _ _, .box g15 _ _, .box g16 _ _, .box g1 _ _, .box g2 _ _] #[false, false, false, false, false, false, false, false, false, false, false, false, false, false, false, false, false, false, false, false, false, false, false, false, false, false, false, false, false, false, false, false, false, false, false, false, false, false, false, false, false, false, false, false, false, false, false, false, false, false] HF ?_
  clear HF
  intro w_ HF
  refine hz_ 0 ?_
  refine hz_ 1 ?_
  refine hz_ 2 ?_
  refine hz_ 3 ?_
  refine hz_ 4 ?_
  refine hz_ 5 ?_
  refine hz_ 6 ?_
  refine hz_ 7 ?_
  refine hz_ 8 ?_
  refine hz_ 9 ?_
  refine hz_ 10 ?_
  refine hz_ 11 ?_
  refine hz_ 12 ?_
  refine hz_ 13 ?_
  refine hz_ 14 ?_
  refine hz_ 15 ?_
  refine ht_ 16 HF ?_
  refine ht_ 17 HF ?_
  refine hcal_ 18 HF Try.func40 (u4 _ _ _ _) ?_
  clear HF
  rintro v_ Θ_ w_ ⟨rfl, rfl⟩ HF
  simp only [List.cons_append, List.nil_append] at HF
  refine hn_ ?_
  refine hz_ 19 ?_
  refine hz_ 20 ?_
  refine hz_ 21 ?_
  refine ht_ 22 HF ?_
  refine ht_ 23 HF ?_
  refine ht_ 24 HF ?_
  refine hz_ 26 ?_
  refine hcal_ 25 HF Try.func41 (u5 _ _ _ _) ?_
  clear HF
  rintro v_ Θ_ w_ ⟨A12, c12, rfl, rfl⟩ HF
  simp only [List.cons_append, List.nil_append] at HF
  refine hn_ ?_
  refine hcal_ 27 HF Try.func32 (s1 _ _ _ _ _ _ _ _) ?_
  clear HF
  rintro v_ Θ_ w_ ⟨rfl, rfl⟩ HF
  simp only [List.cons_append, List.nil_append] at HF
  refine hn_ ?_
  refine hz_ 28 ?_
  refine hz_ 29 ?_
  refine hz_ 30 ?_
  refine ht_ 31 HF ?_
  refine ht_ 32 HF ?_
  refine ht_ 33 HF ?_
  refine hz_ 35 ?_
  refine hcal_ 34 HF Try.func42 (u6 _ _ _ _) ?_
  clear HF
  rintro v_ Θ_ w_ ⟨A13, c13, rfl, rfl⟩ HF
  simp only [List.cons_append, List.nil_append] at HF
  refine hn_ ?_
  refine hcal_ 36 HF Try.func32 (s2 _ _ _ _ _ _ _ _) ?_
  clear HF
  rintro v_ Θ_ w_ ⟨rfl, rfl⟩ HF
  simp only [List.cons_append, List.nil_append] at HF
  refine hn_ ?_
  refine hz_ 37 ?_
  refine hz_ 38 ?_
  refine hz_ 39 ?_
  refine ht_ 40 HF ?_
  refine hz_ 41 ?_
  refine ht_ 42 HF ?_
  refine hz_ 43 ?_
  refine ht_ 44 HF ?_
  refine hz_ 46 ?_
  refine hcal_ 45 HF Try.func39 (u7) ?_
  clear HF
  rintro v_ Θ_ w_ ⟨A14, c14, rfl, rfl⟩ HF
  simp only [List.cons_append, List.nil_append] at HF
  refine hn_ ?_
  refine hcal_ 47 HF Try.func32 (s3 _ _ _ _ _ _ _ _) ?_
  clear HF
  rintro v_ Θ_ w_ ⟨rfl, rfl⟩ HF
  simp only [List.cons_append, List.nil_append] at HF
  refine hn_ ?_
  refine hz_ 48 ?_
  refine hz_ 49 ?_
  refine hend_ ?_
  go_wp2_with (first
    | (refine gg_ ?_)
    | (refine cal_ HF Try.func43 (v1) ?_; clear HF; rintro v_ Θ_ w_ ⟨rfl, rfl⟩ HF; simp only [List.cons_append, List.nil_append] at HF)
    | (refine cal_ HF Try.func29 (zero05_h) ?_; clear HF; rintro v_ Θ_ w_ ⟨rfl, rfl⟩ HF; simp only [List.cons_append, List.nil_append] at HF)
    | (refine lo_ HF ?_)
    | (refine lof_ HF ?_)
    | (refine sto_ HF ?_; clear HF; intro w_ HF))
  go_ret
  exact post_ (Θ := []) HF ⟨rfl, rfl⟩
end
end Go.Proofs.Ytjbpchebabhoeaa.H
end
section
set_option linter.unusedVariables false
set_option linter.unusedSimpArgs false
set_option maxHeartbeats 8000000
set_option maxRecDepth 100000
namespace Go.Proofs.Ytjbpchebabhoeaa.H
open Go.RowKit Go.Proofs.YtjbpchebabhoeaaW.PrintWords Go.Proofs.YtjbpchebabhoeaaW.PrintLast Go.Proofs.YtjbpchebabhoeaaW.PrintMore Go.Proofs.Ytjbpchebabhoeaa.X Go.Proofs.Ytjbpchebabhoeaa.P Go.Proofs.Ytjbpchebabhoeaa.Nt Go.Proofs.Ytjbpchebabhoeaa.Bt Go.Proofs.Ytjbpchebabhoeaa.Dg
section
variable {A A' B B' : Option Addr} {c c' e e' : Nat} {l l' m m' : List Int}
theorem tells05_main (n k : Bool) (h : W64 l) (h' : W64 l') (hm : W64 m) (hm' : W64 m') (hf : l.length ≤ 6 ∧ l'.length ≤ 6 ∧ m.length ≤ 6 ∧ m'.length ≤ 6) (hz : ¬ (V l' = 0 ∨ V m' = 0)) (h0 : V m ≠ 0) : HC Try.prog 7 [U A c l, U A' c' l', U B e m, U B' e' m'] #[ratA n A c l A' c' l', ratA k B e m B' e' m'] (Val (.bool true)) := by
  have h1 := fun g => few2_yes (A := A) (A' := A') (B := B) (B' := B') (c := c) (c' := c') (e := e) (e' := e') n k g hf
  have t1 := rAdd_h (A := A) (c := c) (l := l) (A' := A') (c' := c') (B := B) (e := e) (m := m) (B' := B') (e' := e') n k h h' hm hm' (by omega) hz
  have t2 := rSub_h (A := A) (c := c) (l := l) (A' := A') (c' := c') (B := B) (e := e) (m := m) (B' := B') (e' := e') n k h h' hm hm' (by omega) hz
  have t3 := rMul_h (A := A) (c := c) (l := l) (A' := A') (c' := c') (B := B) (e := e) (m := m) (B' := B') (e' := e') n k h h' hm hm' (by omega) hz
  have t4 := rDiv_h (A := A) (c := c) (l := l) (A' := A') (c' := c') (B := B) (e := e) (m := m) (B' := B') (e' := e') n k h h' hm hm' (by omega) hz h0
  have t5 := rCmp_h (A := A) (c := c) (l := l) (A' := A') (c' := c') (B := B) (e := e) (m := m) (B' := B') (e' := e') n k h h' hm hm' (by omega) hz
  have b1 := Bits_h (A := A') (c := c') h' (by omega)
  have b2 := Bits_h (A := B') (c := e') hm' (by omega)
  have hb1 : (((blen (V l') : Nat) : Int) == 0) = false := by have := blen_pos (Nat.pos_of_ne_zero fun e => hz (.inl e)); simp; omega
  have hb2 : (((blen (V m') : Nat) : Int) == 0) = false := by have := blen_pos (Nat.pos_of_ne_zero fun e => hz (.inr e)); simp; omega
  generalize blen (V l') = qq at b1 hb1
  generalize blen (V m') = qq' at b2 hb2
  have u1 := wMul_h (A := A) (c := c) (A' := B') (c' := e') n false h hm' (by omega)
  have u2 := wMul_h (A := B) (c := e) (A' := A') (c' := c') k false hm h' (by omega)
  rw [show ∀ x, wv false x = (x : Int) from fun _ => rfl] at u1 u2
  have u3 := Mul_h (A := A') (c := c') (A' := B') (c' := e') h' hm' (by omega)
  have u7 := wMul_h (A := A) (c := c) (A' := B) (c' := e) n k h hm (by omega)
  have q1 := len_x n h hm' (by omega) (by omega)
  have q2 := len_x k hm h' (by omega) (by omega)
  have q3 := len_mul h' hm'
  have hD := V_mul_ne hz
  have q7 : (L (wv n (V l) * wv k (V m)).natAbs).length ≤ 12 := by
    rw [Int.natAbs_mul, wv_abs, wv_abs]
    have := len_mul h hm
    omega
  have hy : (wv k (V m) * (V l' : Int)).natAbs = V l' * V m := by rw [Int.natAbs_mul, wv_abs, Int.natAbs_natCast, Nat.mul_comm]
  have hD2 : V l' * V m ≠ 0 := fun e => by rcases Nat.mul_eq_zero.1 e with e | e; exact hz (.inl e); exact h0 e
  have hsy : decide (sgnZ (wv k (V m) * (V l' : Int)) < 0) = k := by
    have h1 : (0 : Int) < V m := by omega
    have h2 : (0 : Int) < V l' := by have := fun e => hz (.inl e); omega
    have h3 := Int.mul_pos h1 h2
    cases k with
    | true => rw [show wv true (V m) = -(V m : Int) from rfl, Int.neg_mul]; unfold sgnZ; rw [if_neg (by omega), if_pos (by omega)]; rfl
    | false => rw [show wv false (V m) = (V m : Int) from rfl]; unfold sgnZ; rw [if_neg (by omega), if_neg (by omega)]; rfl
  have q8 := len_mul h' hm
  obtain ⟨sg, hsg, hsg0⟩ : ∃ sg, sgnZ (wv k (V m)) = sg ∧ (sg == 0) = false := ⟨_, rfl, by
    have : wv k (V m) ≠ 0 := fun e => h0 (wv_zero.1 e)
    unfold sgnZ
    rw [if_neg this]
    split <;> rfl⟩
  have v1 := wSign_h (A := B) (c := e) k hm (by omega)
  rw [hsg] at v1
  clear hsg
  rw [← hy] at t4 hD2 q8
  generalize wv n (V l) * (V m' : Int) = x at *
  generalize wv k (V m) * (V l' : Int) = y at *
  generalize wv n (V l) * wv k (V m) = p at *
  generalize V l' * V m' = D at *
  have q4 : (L (x + y).natAbs).length ≤ 25 := Nat.le_trans (len_sum q1 q2) (by omega)
  have q5 : (L (x - y).natAbs).length ≤ 25 := by
    have q2' : (L (-y).natAbs).length ≤ 12 := by rw [Int.natAbs_neg]; exact q2
    have := len_sum q1 q2'
    rw [← Int.sub_eq_add_neg] at this
    omega
  have u4 := fun A c A' c' => wCmp_zz (A := A) (c := c) (A' := A') (c' := c') x y (by omega)
  have u5 := fun A c A' c' => wAdd_zz (A := A) (c := c) (A' := A') (c' := c') x y (by omega)
  have u6 := fun A c A' c' => wSub_zz (A := A) (c := c) (A' := A') (c' := c') x y (by omega)
  have s1 := fun A c A' c' B e B' e' => is05_q (A := A) (c := c) (A' := A') (c' := c') (B := B) (e := e) (B' := B') (e' := e') (x + y) D hD (by omega)
  have s2 := fun A c A' c' B e B' e' => is05_q (A := A) (c := c) (A' := A') (c' := c') (B := B) (e := e) (B' := B') (e' := e') (x - y) D hD (by omega)
  have s3 := fun A c A' c' B e B' e' => is05_q (A := A) (c := c) (A' := A') (c' := c') (B := B) (e := e) (B' := B') (e' := e') p D hD (by omega)
  generalize Rn (x + y) D = z1 at *
  generalize Rd (x + y) D = d1 at *
  generalize Rn (x - y) D = z2 at *
  generalize Rd (x - y) D = d2 at *
  generalize Rn p D = z3 at *
  generalize Rd p D = d3 at *
  generalize sgnZ (x - y) = sc at *
  have qx : (L (quo x k).natAbs).length ≤ 12 := by
    unfold quo
    split
    · rw [Int.natAbs_neg]; exact q1
    · exact q1
  have s4 := fun A c A' c' B e B' e' => is05_q (A := A) (c := c) (A' := A') (c' := c') (B := B) (e := e) (B' := B') (e' := e') (quo x k) y.natAbs hD2 (by omega)
  have v2 := fun A c => wSign_z (A := A) (c := c) y (by omega)
  have v3 := fun A c => wNeg_z (A := A) (c := c) x (by omega)
  have v4 := fun A c => wNeg_z (A := A) (c := c) y (by omega)
  generalize sgnZ y = sy at *
  generalize Rn (quo x k) y.natAbs = z4 at *
  generalize Rd (quo x k) y.natAbs = d4 at *
  clear hy hD2 q8 qx
  clear q1 q2 q3 q4 q5 q7 hD hz h0 hf h h' hm hm'
  intro w S HF
  go_enter Try.func7, Try.ntmps7
  go_upto_region 12 with (first
    | (refine gg_ ?_)
    | ((with_reducible refine gate_dst (N := 2) rfl ?_); refine bxo_ HF ?_; clear HF; intro g1 w_ HF)
    | ((with_reducible refine gate_dst (N := 3) rfl ?_); refine bxo_ HF ?_; clear HF; intro g2 w_ HF)
    | ((with_reducible refine gate_dst (N := 5) rfl ?_); refine alo_ HF ?_; clear HF; intro g5 w_ HF)
    | ((with_reducible refine gate_dst (N := 7) rfl ?_); refine alo_ HF ?_; clear HF; intro g7 w_ HF)
    | ((with_reducible refine gate_dst (N := 9) rfl ?_); refine alo_ HF ?_; clear HF; intro g9 w_ HF)
    | ((with_reducible refine gate_dst (N := 11) rfl ?_); refine alo_ HF ?_; clear HF; intro g11 w_ HF)
    | ((with_reducible refine gate_dst (N := 22) rfl ?_); refine bsl_ 2 47 [.bool n, .slice A l.length c, .slice A' l'.length c', .bool k, .slice B m.length e, .slice B' m'.length e'] HF ?_; clear HF; intro g3 w_ HF)
    | (refine cal_ HF Try.func26 (alive05_h) ?_; clear HF; rintro v_ Θ_ w_ ⟨rfl, rfl⟩ HF; simp only [List.cons_append, List.nil_append] at HF)
    | (refine cal_ HF Try.func30 (h1 _) ?_; clear HF; rintro v_ Θ_ w_ ⟨rfl, rfl⟩ HF; simp only [List.cons_append, List.nil_append] at HF)
    | (refine cal_ HF Try.func34 (t1) ?_; clear HF; rintro v_ Θ_ w_ ⟨A1, c1, A2, c2, rfl, rfl⟩ HF; simp only [List.cons_append, List.nil_append] at HF)
    | (refine cal_ HF Try.func35 (t2) ?_; clear HF; rintro v_ Θ_ w_ ⟨A3, c3, A4, c4, rfl, rfl⟩ HF; simp only [List.cons_append, List.nil_append] at HF)
    | (refine cal_ HF Try.func36 (t3) ?_; clear HF; rintro v_ Θ_ w_ ⟨A5, c5, A6, c6, rfl, rfl⟩ HF; simp only [List.cons_append, List.nil_append] at HF)
    | (refine cal_ HF Try.func37 (t4) ?_; clear HF; rintro v_ Θ_ w_ ⟨A7, c7, A8, c8, rfl, rfl⟩ HF; simp only [List.cons_append, List.nil_append] at HF)
    | (refine cal_ HF Try.func38 (t5) ?_; clear HF; rintro v_ Θ_ w_ ⟨rfl, rfl⟩ HF; simp only [List.cons_append, List.nil_append] at HF)
    | (refine cal_ HF Try.func13 (b1) ?_; clear HF; rintro v_ Θ_ w_ ⟨rfl, rfl⟩ HF; simp only [List.cons_append, List.nil_append] at HF)
    | (refine cal_ HF Try.func13 (b2) ?_; clear HF; rintro v_ Θ_ w_ ⟨rfl, rfl⟩ HF; simp only [List.cons_append, List.nil_append] at HF)
    | (refine lo_ HF ?_)
    | (refine lof_ HF ?_)
    | (refine sto_ HF ?_; clear HF; intro w_ HF))
  refine startH_ 16 [.box g1 _ _, .box g2 _ _] #[false, false, false, false, false, false, false, false, false, false, false, false, false, false, false, false] HF ?_
  clear HF
  intro w_ HF
  refine hz_ 0 ?_
  refine ht_ 1 HF ?_
  refine hz_ 2 ?_
  refine ht_ 3 HF ?_
  refine hz_ 4 ?_
  refine hz_ 6 ?_
  refine ht_ 7 HF ?_
  refine hz_ 8 ?_
  refine ht_ 9 HF ?_
  refine hz_ 10 ?_
  refine float_ [⟨5, 108, [], WholeZ x⟩, ⟨11, 114, [5], WholeZ y⟩, ⟨12, 15, [], NewBox 45 [.bool false, .slice none 0 0]⟩, ⟨13, 16, [], NewBox 45 [.bool false, .slice none 0 0]⟩] 2 HF ?_ ?_
  · simp only [List.forall_mem_cons]
    refine ⟨?_, ?_, falo_, falo_, fun _ h => by cases h⟩
    · refine fcal_ Try.func39 fun b η Γ F => ?_
      refine ⟨_, [U A c l, U B' e' m'], ?_, F.part, u1⟩
      simp only [List.map_toArray, List.map_cons, List.map_nil, F.tm 104, F.tm 107]
    · refine fcal_ Try.func39 fun b η Γ F => ?_
      refine ⟨_, [U B e m, U A' c' l'], ?_, F.part, u2⟩
      simp only [List.map_toArray, List.map_cons, List.map_nil, F.tm 110, F.tm 113]
  simp only [ends]
  clear HF
  rintro _ _ ⟨A9, c9, rfl, rfl⟩ _ _ ⟨A10, c10, rfl, rfl⟩ _ _ ⟨g15, rfl, rfl⟩ _ _ ⟨g16, rfl, rfl⟩ w_ HF
  simp only [List.nil_append, List.cons_append] at HF
  refine hf_ ?_
  refine hsto_ 14 HF ?_
  clear HF
  intro w_ HF
  refine hsto_ 15 HF ?_
  clear HF
  intro w_ HF
  refine hend_ ?_
  go_upto_region 14 with (first
    | (refine gg_ ?_)
    | (refine cal_ HF Try.func16 (u3) ?_; clear HF; rintro v_ Θ_ w_ ⟨A11, c11, rfl, rfl⟩ HF; simp only [List.cons_append, List.nil_append] at HF)
    | (refine lo_ HF ?_)
    | (refine lof_ HF ?_)
    | (refine sto_ HF ?_; clear HF; intro w_ HF))
  refine startH_ 50 [.box g5 _ _, .box g7 _ _, .box g9 _ _, .box g15 _ _, .box g16 _ _, .box g1 _ _, .box g2 _ _] #[false, false, false, false, false, false, false, false, false, false, false, false, false, false, false, false, false, false, false, false, false, false, false, false, false, false, false, false, false, false, false, false, false, false, false, false, false, false, false, false, false, false, false, false, false, false, false, false, false, false] HF ?_
  clear HF
  intro w_ HF
  refine hz_ 0 ?_
  refine hz_ 1 ?_
  refine hz_ 2 ?_
  refine hz_ 3 ?_
  refine hz_ 4 ?_
  refine hz_ 5 ?_
  refine hz_ 6 ?_
  refine hz_ 7 ?_
  refine hz_ 8 ?_
  refine hz_ 9 ?_
  refine hz_ 10 ?_
  refine hz_ 11 ?_
  refine hz_ 12 ?_
  refine hz_ 13 ?_
  refine hz_ 14 ?_
  refine hz_ 15 ?_
  refine ht_ 16 HF ?_
  refine ht_ 17 HF ?_
  refine hcal_ 18 HF Try.func40 (u4 _ _ _ _) ?_
  clear HF
  rintro v_ Θ_ w_ ⟨rfl, rfl⟩ HF
  simp only [List.cons_append, List.nil_append] at HF
  refine hn_ ?_
  refine hz_ 19 ?_
  refine hz_ 20 ?_
  refine hz_ 21 ?_
  refine ht_ 22 HF ?_
  refine ht_ 23 HF ?_
  refine ht_ 24 HF ?_
  refine hz_ 26 ?_
  refine hcal_ 25 HF Try.func41 (u5 _ _ _ _) ?_
  clear HF
  rintro v_ Θ_ w_ ⟨A12, c12, rfl, rfl⟩ HF
  simp only [List.cons_append, List.nil_append] at HF
  refine hn_ ?_
  refine hcal_ 27 HF Try.func32 (s1 _ _ _ _ _ _ _ _) ?_
  clear HF
  rintro v_ Θ_ w_ ⟨rfl, rfl⟩ HF
  simp only [List.cons_append, List.nil_append] at HF
  refine hn_ ?_
  refine hz_ 28 ?_
  refine hz_ 29 ?_
  refine hz_ 30 ?_
  refine ht_ 31 HF ?_
  refine ht_ 32 HF ?_
  refine ht_ 33 HF ?_
  refine hz_ 35 ?_
  refine hcal_ 34 HF Try.func42 (u6 _ _ _ _) ?_
  clear HF
  rintro v_ Θ_ w_ ⟨A13, c13, rfl, rfl⟩ HF
  simp only [List.cons_append, List.nil_append] at HF
  refine hn_ ?_
  refine hcal_ 36 HF Try.func32 (s2 _ _ _ _ _ _ _ _) ?_
  clear HF
  rintro v_ Θ_ w_ ⟨rfl, rfl⟩ HF
  simp only [List.cons_append, List.nil_append] at HF
  refine hn_ ?_
  refine hz_ 37 ?_
  refine hz_ 38 ?_
  refine hz_ 39 ?_
  refine ht_ 40 HF ?_
  refine hz_ 41 ?_
  refine ht_ 42 HF ?_
  refine hz_ 43 ?_
  refine ht_ 44 HF ?_
  refine hz_ 46 ?_
  refine hcal_ 45 HF Try.func39 (u7) ?_
  clear HF
  rintro v_ Θ_ w_ ⟨A14, c14, rfl, rfl⟩ HF
  simp only [List.cons_append, List.nil_append] at HF
  refine hn_ ?_
  refine hcal_ 47 HF Try.func32 (s3 _ _ _ _ _ _ _ _) ?_
  clear HF
  rintro v_ Θ_ w_ ⟨rfl, rfl⟩ HF
  simp only [List.cons_append, List.nil_append] at HF
  refine hn_ ?_
  refine hz_ 48 ?_
  refine hz_ 49 ?_
  refine hend_ ?_
  cases k with
  | true =>
    have s4' := s4
    rw [show quo x true = -x from if_pos rfl] at s4'
    simp only [← Int.natAbs_neg y] at s4'
    clear s4
    generalize -x = x' at v3 s4'
    generalize -y = y' at v4 s4'
    go_upto_region 19 with (first
      | (refine gg_ ?_)
      | (refine cal_ HF Try.func43 (v1) ?_; clear HF; rintro v_ Θ_ w_ ⟨rfl, rfl⟩ HF; simp only [List.cons_append, List.nil_append] at HF)
      | (refine cal_ HF Try.func43 (v2 _ _) ?_; clear HF; rintro v_ Θ_ w_ ⟨rfl, rfl⟩ HF; simp only [List.cons_append, List.nil_append] at HF)
      | (refine lo_ HF ?_)
      | (refine lof_ HF ?_)
      | (refine sto_ HF ?_; clear HF; intro w_ HF))
    refine startD_ 6 [4, 5] [.box g15 _ _, .box g16 _ _] #[false, false, false, false, false, false] HF ?_
    clear HF
    intro w_ HF
    refine ht_ 0 HF ?_
    refine ht_ 2 HF ?_
    refine hcal_ 1 HF Try.func44 (v3 _ _) ?_
    clear HF
    rintro v_ Θ_ w_ ⟨A15, c15, rfl, rfl⟩ HF
    simp only [List.cons_append, List.nil_append] at HF
    refine hn_ ?_
    refine hcal_ 3 HF Try.func44 (v4 _ _) ?_
    clear HF
    rintro v_ Θ_ w_ ⟨A16, c16, rfl, rfl⟩ HF
    simp only [List.cons_append, List.nil_append] at HF
    refine hn_ ?_
    refine hstl_ 4 HF ?_
    clear HF
    intro w_ HF
    refine hstl_ 5 HF ?_
    clear HF
    intro w_ HF
    refine hend_ ?_
    go_wp2_with (first
      | (refine gg_ ?_)
      | (refine cal_ HF Try.func32 (s4' _ _ _ _ _ _ _ _) ?_; clear HF; rintro v_ Θ_ w_ ⟨rfl, rfl⟩ HF; simp only [List.cons_append, List.nil_append] at HF)
      | (refine lo_ HF ?_)
      | (refine lof_ HF ?_)
      | (refine sto_ HF ?_; clear HF; intro w_ HF))
    go_ret
    exact post_ (Θ := []) HF ⟨rfl, rfl⟩
  | false =>
    rw [show quo x false = x from if_neg (fun h => by cases h)] at s4
    go_wp2_with (first
      | (refine gg_ ?_)
      | (refine cal_ HF Try.func43 (v1) ?_; clear HF; rintro v_ Θ_ w_ ⟨rfl, rfl⟩ HF; simp only [List.cons_append, List.nil_append] at HF)
      | (refine cal_ HF Try.func43 (v2 _ _) ?_; clear HF; rintro v_ Θ_ w_ ⟨rfl, rfl⟩ HF; simp only [List.cons_append, List.nil_append] at HF)
      | (refine cal_ HF Try.func32 (s4 _ _ _ _ _ _ _ _) ?_; clear HF; rintro v_ Θ_ w_ ⟨rfl, rfl⟩ HF; simp only [List.cons_append, List.nil_append] at HF)
      | (refine lo_ HF ?_)
      | (refine lof_ HF ?_)
      | (refine sto_ HF ?_; clear HF; intro w_ HF))
    go_ret
    exact post_ (Θ := []) HF ⟨rfl, rfl⟩
end
end Go.Proofs.Ytjbpchebabhoeaa.H
end
section
namespace Go.Proofs.Ytjbpchebabhoeaa.H
open Go.RowKit Go.Proofs.YtjbpchebabhoeaaW.PrintWords Go.Proofs.YtjbpchebabhoeaaW.PrintLast Go.Proofs.YtjbpchebabhoeaaW.PrintMore Go.Proofs.Ytjbpchebabhoeaa.X Go.Proofs.Ytjbpchebabhoeaa.P Go.Proofs.Ytjbpchebabhoeaa.Nt Go.Proofs.Ytjbpchebabhoeaa.Bt Go.Proofs.Ytjbpchebabhoeaa.Dg
theorem RatioTells_h {A A' B B' : Option Addr} {c c' e e' : Nat} {l l' m m' : List Int} (n k : Bool) (h : W64 l) (h' : W64 l') (hm : W64 m) (hm' : W64 m') : HC Try.prog 7 [U A c l, U A' c' l', U B e m, U B' e' m'] #[ratA n A c l A' c' l', ratA k B e m B' e' m'] (Val (.bool true)) := by
  by_cases hf : l.length ≤ 6 ∧ l'.length ≤ 6 ∧ m.length ≤ 6 ∧ m'.length ≤ 6
  · by_cases hz : V l' = 0 ∨ V m' = 0
    · exact tells05_bad n k h h' hm hm' hf hz
    · by_cases h0 : V m = 0
      · exact tells05_zero n k h h' hm hm' hf hz h0
      · exact tells05_main n k h h' hm hm' hf hz h0
  · exact tells05_few n k hf
end Go.Proofs.Ytjbpchebabhoeaa.H
end
