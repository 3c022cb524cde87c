/- The law RatioTells holds at every input that its statement lets in. -/
import Derived.Test.YtjbpchebabhoeaaRows
import Derived.WalkKit
import Derived.ProofKit
import Derived.OpenShut
import Derived.ShutString
import Derived.ChangeOld
import Derived.Below
import Derived.SizedLaws
import Derived.Test.YtjbpchebabhoeaaBnRatioTells0
import Derived.Test.YtjbpchebabhoeaaBnRatioTells1
import Derived.Test.YtjbpchebabhoeaaBnRatioTells2
namespace Go.Proofs.Ytjbpchebabhoeaa.ratioTells
open Go.ChangeShapes Go.WideShapes Go.ChangeAt Go.RowKit Go.Proofs.Ytjbpchebabhoeaa.Rw Go.Proofs.YtjbpchebabhoeaaW.PrintWords
open Go.ChangeMaps (open_string shut_string)
set_option linter.unusedVariables false
theorem own : ownKnob Try.prog.godebug = none := by kernel_rfl
theorem laidOut : laidOutB Try.prog = true := by kernel_rfl
set_option maxRecDepth 100000 in
set_option maxHeartbeats 1000000 in
theorem lifted (os : Os) (started : os.Started) (H : Type) (enc : TypeId × Value → H) :
    ReturnsInHanded {} Try.checked os 7 .any (Rows.ratioTellsSpec.pre6 enc Try.prog Try.f7 Rows.ratioTellsRow.domain false) (Rows.ratioTellsSpec.post enc Try.prog Try.f7 false true false false) := by
  refine returnsInHanded_of_change_sized (C := Try.checked) own started (by kernel_rfl) Try.func7
    (ChangeSpec.witness6 (enc := enc) (C := Try.checked) false ⟨#[], #[.agg #[.bool false, .slice none 0 0, .slice none 0 0], .agg #[.bool false, .slice none 0 0, .slice none 0 0]], []⟩ 8 (by kernel_rfl) (by kernel_rfl) (by kernel_rfl) (by kernel_rfl)) ?_
  intro W base args ds gs before hval0 hW hcnd hsz0 _
  have hval : ∀ (j : Nat) t v, Try.f7.params[j]? = some t → args[j]? = some v → Value.okWide Try.prog W .any base t v := hval0
  have hW' := hW
  obtain ⟨p, q, hA0, hV, rfl, hfz, hnd⟩ := hW
  have hA : DataW.TrodAll enc Try.prog W 0 (fun _ => true) true Try.f7.params.toList args.toList ds p := hA0
  rw [Try.params7] at hA hval
  obtain ⟨v0, vs0, d0, ds0, p0, q0, hargs, rfl, rfl, h0, r0⟩ := trodAll_cons hA
  obtain ⟨v1, vs1, d1, ds1, p1, q1, rfl, rfl, rfl, h1, r1⟩ := trodAll_cons r0
  obtain ⟨rfl, rfl, rfl⟩ := trodAll_nil r1
  obtain rfl : args = #[v0, v1] := by cases args; simp_all
  obtain ⟨rfl, rfl⟩ := trodVars_none hV
  have k0 := h0
  have lt0 : ∀ x ∈ p0, x.block < W.heap.size := by obtain ⟨m, hm⟩ := k0; exact DataW.trod_lt m _ _ _ hm
  obtain ⟨g0, a0, len0, cap0, z0, a0b, len0b, cap0b, z0b, rfl, w0, w0b⟩ := ratio_of (hval 0 47 v0 rfl rfl) h0
  have k1 := h1
  have lt1 : ∀ x ∈ p1, x.block < W.heap.size := by obtain ⟨m, hm⟩ := k1; exact DataW.trod_lt m _ _ _ hm
  obtain ⟨g1, a1, len1, cap1, z1, a1b, len1b, cap1b, z1b, rfl, w1, w1b⟩ := ratio_of (hval 1 47 v1 rfl rfl) h1
  clear hA0 hval0 hsz0
  obtain ⟨l0, rfl, hr0, hm0, hw0, hc0⟩ := ReadsInt.ofRowC w0
  obtain ⟨l0b, rfl, hr0b, hm0b, hw0b, hc0b⟩ := ReadsInt.ofRowC w0b
  obtain ⟨l1, rfl, hr1, hm1, hw1, hc1⟩ := ReadsInt.ofRowC w1
  obtain ⟨l1b, rfl, hr1b, hm1b, hw1b, hc1b⟩ := ReadsInt.ofRowC w1b
  refine (Go.Proofs.Ytjbpchebabhoeaa.H.HC.run (Go.Proofs.Ytjbpchebabhoeaa.H.RatioTells_h g0 g1 (Nt.w64_wf hw0) (Nt.w64_wf hw0b) (Nt.w64_wf hw1) (Nt.w64_wf hw1b)) (Go.Proofs.Ytjbpchebabhoeaa.H.still_row (Go.Proofs.Ytjbpchebabhoeaa.H.still_row (Go.Proofs.Ytjbpchebabhoeaa.H.still_row (Go.Proofs.Ytjbpchebabhoeaa.H.still_row Go.Proofs.Ytjbpchebabhoeaa.H.still_nil)))) (Go.Proofs.Ytjbpchebabhoeaa.H.ok_row (Kd.C_of_reads (d := (0 : Int)) (h1 := fun _ => rfl) hr0) hc0 (Go.Proofs.Ytjbpchebabhoeaa.H.ok_row (Kd.C_of_reads (d := (0 : Int)) (h1 := fun _ => rfl) hr0b) hc0b (Go.Proofs.Ytjbpchebabhoeaa.H.ok_row (Kd.C_of_reads (d := (0 : Int)) (h1 := fun _ => rfl) hr1) hc1 (Go.Proofs.Ytjbpchebabhoeaa.H.ok_row (Kd.C_of_reads (d := (0 : Int)) (h1 := fun _ => rfl) hr1b) hc1b Go.Proofs.Ytjbpchebabhoeaa.H.ok_nil)))) trivial).mono ?_
  rintro e W' ⟨he, bel⟩
  subst he
  exact ⟨_, rfl, _, _, _, [], _, [], hW', trodAll_mk1 (shut_bool Try.underlying4 _), (trodAll_cons_mk (Below.trod laidOut (by kernel_rfl) (of_decide_eq_true (by kernel_rfl)) k0 bel lt0) (trodAll_cons_mk (Below.trod laidOut (by kernel_rfl) (of_decide_eq_true (by kernel_rfl)) k1 bel lt1) trodAll_mk0)), rfl, bel.frame _, fun h => by cases h⟩
theorem over : Rows.ratioTellsRow.holds Try.pinned (OpenSpec.ofChange Rows.ratioTellsSpec) :=
  OpenClaim.holds_of_wide 7 Try.f7 rfl rfl rfl rfl rfl rfl rfl ⟨rfl, rfl, rfl, rfl, rfl⟩ rfl rfl rfl rfl rfl (by kernel_rfl) Try.func7 (by kernel_rfl)
    (of_decide_eq_true (by kernel_rfl)) (by unfold Func.isWrapper; first | (rw [if_pos (by decide +kernel)]; kernel_rfl) | (rw [if_neg (by decide +kernel)]; exact ⟨rfl, rfl⟩))
    (fun os started H enc _ => lifted os started H enc)
theorem proved : Rows.RatioTellsSaid := over
#print axioms proved
end Go.Proofs.Ytjbpchebabhoeaa.ratioTells
namespace Go.Proofs.Ytjbpchebabhoeaa
theorem ratioTells_holds : Rows.RatioTellsSaid := ratioTells.proved
end Go.Proofs.Ytjbpchebabhoeaa
