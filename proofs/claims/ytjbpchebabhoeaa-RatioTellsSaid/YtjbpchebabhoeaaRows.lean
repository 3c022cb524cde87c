/-
  No cell of these rows narrows 'for every input' (looked for: loops, veiled, ifaces, maps, wideKeys, modest, calm, conditions, laid).
  DERIVED. THE GIVEN ROWS OF THIS SEAT. 8 by the template 'for every input the law returns true; each argument reads behind the call as it read before'; 0 by the template 'total and deterministic' (their statements: YtjbpchebabhoeaaTotals.lean).
  GIVEN WITH THE SEED: the statements are not yours to turn. If you find one false, say at which input.
  Laid BY PROGRAM, IN A SANDBOX (cutbox-rows.mjs): the forced cells as the released guide's own fill.sh prints them over the translation 019a77f842df2e5a… (all of the seat's roots in one cut). By AI agents, Wed Nov 11 2026. No macro, syntax, notation, axiom, sorry.
-/
import Derived.Test.YtjbpchebabhoeaaChecked
import GoSem.Claim
import GoSem.ClaimJoined
import GoSem.ClaimMapViews
import Derived.JoinedTies
import Derived.KernelRfl
namespace Go.Proofs.Ytjbpchebabhoeaa
/- THE CELL 'sum', in the pinned program and in every row, IS THE sha256 OF THE DUMP (.gsa) THAT YtjbpchebabhoeaaProg.lean LOADS. Nothing in Lean hashes anything: it is a label: what it is worth is what the hold of that sum in a sandbox is worth. -/
noncomputable def Try.pinned : Pinned := { name := "ytjbpchebabhoeaa", sum := "019a77f842df2e5ab4f6354f6f606d7426883f68cded1e9220982d45cbf8a66a", checked := Try.checked }
namespace Rows
def none {H : Type} : Left H := { results := [], args := [] }

/-- 'vernierlaw02.NatdivBack': WHATEVER THE INPUT: true; the input reads as it did. -/
def natdivBackSpec : ChangeSpec := { name := "natdivBack", fn := fun _ => fun
  | [d1, d2] => { results := [.lit (.bool true)], args := [d1, d2] }
  | _ => none }
def natdivBackRow : OpenClaim := { program := "ytjbpchebabhoeaa", sum := "019a77f842df2e5ab4f6354f6f606d7426883f68cded1e9220982d45cbf8a66a", func := "vernier/vernierlaw02.NatdivBack", spec := "natdivBack", inPlace := ["math/bits.Add64", "math/bits.Sub64"], unfollowed := true, recurses := true, named := ["math/bits.divideError", "math/bits.overflowError"], apart := false }
def NatdivBackSaid : Prop := natdivBackRow.holds Try.pinned (OpenSpec.ofChange natdivBackSpec)

/-- ITS FALSE NEIGHBOUR: 'it returns false'. Refute it at one input. -/
def natdivBackWrong : ChangeSpec := { name := "natdivBack", fn := fun _ => fun
  | [d1, d2] => { results := [.lit (.bool false)], args := [d1, d2] }
  | _ => none }
def NatdivBackWrongFalsely : Prop := natdivBackRow.holds Try.pinned (OpenSpec.ofChange natdivBackWrong)

/-- 'vernierlaw02.NatdivTells': WHATEVER THE INPUT: true; the input reads as it did. -/
def natdivTellsSpec : ChangeSpec := { name := "natdivTells", fn := fun _ => fun
  | [d1, d2, d3] => { results := [.lit (.bool true)], args := [d1, d2, d3] }
  | _ => none }
def natdivTellsRow : OpenClaim := { program := "ytjbpchebabhoeaa", sum := "019a77f842df2e5ab4f6354f6f606d7426883f68cded1e9220982d45cbf8a66a", func := "vernier/vernierlaw02.NatdivTells", spec := "natdivTells", inPlace := ["math/bits.Add64", "math/bits.Sub64"], unfollowed := true, recurses := true, named := ["math/bits.divideError", "math/bits.overflowError"], apart := false }
def NatdivTellsSaid : Prop := natdivTellsRow.holds Try.pinned (OpenSpec.ofChange natdivTellsSpec)

/-- ITS FALSE NEIGHBOUR: 'it returns false'. Refute it at one input. -/
def natdivTellsWrong : ChangeSpec := { name := "natdivTells", fn := fun _ => fun
  | [d1, d2, d3] => { results := [.lit (.bool false)], args := [d1, d2, d3] }
  | _ => none }
def NatdivTellsWrongFalsely : Prop := natdivTellsRow.holds Try.pinned (OpenSpec.ofChange natdivTellsWrong)

/-- 'vernierlaw05.RatioMany': WHATEVER THE INPUT: true; the input reads as it did. -/
def ratioManySpec : ChangeSpec := { name := "ratioMany", fn := fun _ => fun
  | [d] => { results := [.lit (.bool true)], args := [d] }
  | _ => none }
def ratioManyRow : OpenClaim := { program := "ytjbpchebabhoeaa", sum := "019a77f842df2e5ab4f6354f6f606d7426883f68cded1e9220982d45cbf8a66a", func := "vernier/vernierlaw05.RatioMany", spec := "ratioMany", inPlace := ["math/bits.Add64", "math/bits.Sub64"], unfollowed := true, recurses := true, named := ["math/bits.divideError", "math/bits.overflowError"], apart := false }
def RatioManySaid : Prop := ratioManyRow.holds Try.pinned (OpenSpec.ofChange ratioManySpec)

/-- ITS FALSE NEIGHBOUR: 'it returns false'. Refute it at one input. -/
def ratioManyWrong : ChangeSpec := { name := "ratioMany", fn := fun _ => fun
  | [d] => { results := [.lit (.bool false)], args := [d] }
  | _ => none }
def RatioManyWrongFalsely : Prop := ratioManyRow.holds Try.pinned (OpenSpec.ofChange ratioManyWrong)

/-- 'vernierlaw05.RatioOf': WHATEVER THE INPUT: true; the input reads as it did. -/
def ratioOfSpec : ChangeSpec := { name := "ratioOf", fn := fun _ => fun
  | [d1, d2] => { results := [.lit (.bool true)], args := [d1, d2] }
  | _ => none }
def ratioOfRow : OpenClaim := { program := "ytjbpchebabhoeaa", sum := "019a77f842df2e5ab4f6354f6f606d7426883f68cded1e9220982d45cbf8a66a", func := "vernier/vernierlaw05.RatioOf", spec := "ratioOf", inPlace := ["math/bits.Add64", "math/bits.Sub64"], unfollowed := true, recurses := true, named := ["math/bits.divideError", "math/bits.overflowError"], apart := false }
def RatioOfSaid : Prop := ratioOfRow.holds Try.pinned (OpenSpec.ofChange ratioOfSpec)

/-- ITS FALSE NEIGHBOUR: 'it returns false'. Refute it at one input. -/
def ratioOfWrong : ChangeSpec := { name := "ratioOf", fn := fun _ => fun
  | [d1, d2] => { results := [.lit (.bool false)], args := [d1, d2] }
  | _ => none }
def RatioOfWrongFalsely : Prop := ratioOfRow.holds Try.pinned (OpenSpec.ofChange ratioOfWrong)

/-- 'vernierlaw05.RatioTells': WHATEVER THE INPUT: true; the input reads as it did. -/
def ratioTellsSpec : ChangeSpec := { name := "ratioTells", fn := fun _ => fun
  | [d1, d2] => { results := [.lit (.bool true)], args := [d1, d2] }
  | _ => none }
def ratioTellsRow : OpenClaim := { program := "ytjbpchebabhoeaa", sum := "019a77f842df2e5ab4f6354f6f606d7426883f68cded1e9220982d45cbf8a66a", func := "vernier/vernierlaw05.RatioTells", spec := "ratioTells", inPlace := ["math/bits.Add64", "math/bits.Sub64"], unfollowed := true, recurses := true, named := ["math/bits.divideError", "math/bits.overflowError"], apart := false }
def RatioTellsSaid : Prop := ratioTellsRow.holds Try.pinned (OpenSpec.ofChange ratioTellsSpec)

/-- ITS FALSE NEIGHBOUR: 'it returns false'. Refute it at one input. -/
def ratioTellsWrong : ChangeSpec := { name := "ratioTells", fn := fun _ => fun
  | [d1, d2] => { results := [.lit (.bool false)], args := [d1, d2] }
  | _ => none }
def RatioTellsWrongFalsely : Prop := ratioTellsRow.holds Try.pinned (OpenSpec.ofChange ratioTellsWrong)

/-- 'vernierlaw05.RatioBack': WHATEVER THE INPUT: true; the input reads as it did. -/
def ratioBackSpec : ChangeSpec := { name := "ratioBack", fn := fun _ => fun
  | [d1, d2] => { results := [.lit (.bool true)], args := [d1, d2] }
  | _ => none }
def ratioBackRow : OpenClaim := { program := "ytjbpchebabhoeaa", sum := "019a77f842df2e5ab4f6354f6f606d7426883f68cded1e9220982d45cbf8a66a", func := "vernier/vernierlaw05.RatioBack", spec := "ratioBack", inPlace := ["math/bits.Add64", "math/bits.Sub64"], unfollowed := true, recurses := true, named := ["math/bits.divideError", "math/bits.overflowError"], apart := false }
def RatioBackSaid : Prop := ratioBackRow.holds Try.pinned (OpenSpec.ofChange ratioBackSpec)

/-- ITS FALSE NEIGHBOUR: 'it returns false'. Refute it at one input. -/
def ratioBackWrong : ChangeSpec := { name := "ratioBack", fn := fun _ => fun
  | [d1, d2] => { results := [.lit (.bool false)], args := [d1, d2] }
  | _ => none }
def RatioBackWrongFalsely : Prop := ratioBackRow.holds Try.pinned (OpenSpec.ofChange ratioBackWrong)

/-- 'vernierlaw07.FaddExact': WHATEVER THE INPUT: true; the input reads as it did. -/
def faddExactSpec : ChangeSpec := { name := "faddExact", fn := fun _ => fun
  | [d1, d2, d3, d4, d5] => { results := [.lit (.bool true)], args := [d1, d2, d3, d4, d5] }
  | _ => none }
def faddExactRow : OpenClaim := { program := "ytjbpchebabhoeaa", sum := "019a77f842df2e5ab4f6354f6f606d7426883f68cded1e9220982d45cbf8a66a", func := "vernier/vernierlaw07.FaddExact", spec := "faddExact", inPlace := ["math/bits.Add64", "math/bits.Sub64"], apart := false }
def FaddExactSaid : Prop := faddExactRow.holds Try.pinned (OpenSpec.ofChange faddExactSpec)

/-- ITS FALSE NEIGHBOUR: 'it returns false'. Refute it at one input. -/
def faddExactWrong : ChangeSpec := { name := "faddExact", fn := fun _ => fun
  | [d1, d2, d3, d4, d5] => { results := [.lit (.bool false)], args := [d1, d2, d3, d4, d5] }
  | _ => none }
def FaddExactWrongFalsely : Prop := faddExactRow.holds Try.pinned (OpenSpec.ofChange faddExactWrong)

/-- 'vernierlaw07.FaddSums': WHATEVER THE INPUT: true; the input reads as it did. -/
def faddSumsSpec : ChangeSpec := { name := "faddSums", fn := fun _ => fun
  | [d1, d2] => { results := [.lit (.bool true)], args := [d1, d2] }
  | _ => none }
def faddSumsRow : OpenClaim := { program := "ytjbpchebabhoeaa", sum := "019a77f842df2e5ab4f6354f6f606d7426883f68cded1e9220982d45cbf8a66a", func := "vernier/vernierlaw07.FaddSums", spec := "faddSums", inPlace := ["math/bits.Add64", "math/bits.Sub64"], apart := false }
def FaddSumsSaid : Prop := faddSumsRow.holds Try.pinned (OpenSpec.ofChange faddSumsSpec)

/-- ITS FALSE NEIGHBOUR: 'it returns false'. Refute it at one input. -/
def faddSumsWrong : ChangeSpec := { name := "faddSums", fn := fun _ => fun
  | [d1, d2] => { results := [.lit (.bool false)], args := [d1, d2] }
  | _ => none }
def FaddSumsWrongFalsely : Prop := faddSumsRow.holds Try.pinned (OpenSpec.ofChange faddSumsWrong)

/- THE SECOND FORM. 'bulk': how many values and letters a reading holds, each counted each time it is reached (what is shared counts as often as it is met; a slice's spare places count too). A statement '..UptoSaid' is the law's where the arguments, and the package variables that the reading takes, are together of bulk at most 1048576: NARROWER than '..Said'. Prove '..Said' where nothing that the law and all that it calls make is longer than what came in: it says more and counts as full. Else prove '..UptoSaid'. A law counts once. -/
mutual
def uptoBulk {H : Type} : DataW H → Nat
  | .lit (.string bytes) => bytes.length + 1
  | .lit _ => 1
  | .nil => 1
  | .ptr d => uptoBulk d + 1
  | .slice elems spare => uptoBulkAll elems + uptoBulkAll spare + 1
  | .agg parts => uptoBulkAll parts + 1
  | .iface _ d => uptoBulk d + 1
  | .map entries => uptoBulkEntries entries + 1
  | .held _ => 1
def uptoBulkAll {H : Type} : List (DataW H) → Nat
  | [] => 0
  | d :: r => uptoBulk d + uptoBulkAll r
def uptoBulkEntries {H : Type} : List (Lit × DataW H) → Nat
  | [] => 0
  | x :: r => uptoBulkEntry x + uptoBulkEntries r
def uptoBulkEntry {H : Type} : Lit × DataW H → Nat
  | (.string bytes, d) => bytes.length + uptoBulk d + 1
  | (_, d) => uptoBulk d + 1
 end
def uptoSmall : (H : Type) → List (DataW H) → Bool := fun _ ds => decide (uptoBulkAll ds ≤ 1048576)
def OpenSpec.upto (s : _root_.Go.ChangeSpec) : _root_.Go.OpenSpec := { _root_.Go.OpenSpec.ofChange s with cond := some uptoSmall }

/-- 'vernierlaw02.NatdivBack', WHERE WHAT IT READS IS OF BULK AT MOST 1048576: true; the input reads as it did. -/
def natdivBackUptoRow : OpenClaim := { program := "ytjbpchebabhoeaa", sum := "019a77f842df2e5ab4f6354f6f606d7426883f68cded1e9220982d45cbf8a66a", func := "vernier/vernierlaw02.NatdivBack", spec := "natdivBack", inPlace := ["math/bits.Add64", "math/bits.Sub64"], unfollowed := true, recurses := true, named := ["math/bits.divideError", "math/bits.overflowError"], apart := false, narrowed := true }
def NatdivBackUptoSaid : Prop := natdivBackUptoRow.holds Try.pinned (OpenSpec.upto natdivBackSpec)

/-- 'vernierlaw02.NatdivTells', WHERE WHAT IT READS IS OF BULK AT MOST 1048576: true; the input reads as it did. -/
def natdivTellsUptoRow : OpenClaim := { program := "ytjbpchebabhoeaa", sum := "019a77f842df2e5ab4f6354f6f606d7426883f68cded1e9220982d45cbf8a66a", func := "vernier/vernierlaw02.NatdivTells", spec := "natdivTells", inPlace := ["math/bits.Add64", "math/bits.Sub64"], unfollowed := true, recurses := true, named := ["math/bits.divideError", "math/bits.overflowError"], apart := false, narrowed := true }
def NatdivTellsUptoSaid : Prop := natdivTellsUptoRow.holds Try.pinned (OpenSpec.upto natdivTellsSpec)

/-- 'vernierlaw05.RatioMany', WHERE WHAT IT READS IS OF BULK AT MOST 1048576: true; the input reads as it did. -/
def ratioManyUptoRow : OpenClaim := { program := "ytjbpchebabhoeaa", sum := "019a77f842df2e5ab4f6354f6f606d7426883f68cded1e9220982d45cbf8a66a", func := "vernier/vernierlaw05.RatioMany", spec := "ratioMany", inPlace := ["math/bits.Add64", "math/bits.Sub64"], unfollowed := true, recurses := true, named := ["math/bits.divideError", "math/bits.overflowError"], apart := false, narrowed := true }
def RatioManyUptoSaid : Prop := ratioManyUptoRow.holds Try.pinned (OpenSpec.upto ratioManySpec)

/-- 'vernierlaw05.RatioOf', WHERE WHAT IT READS IS OF BULK AT MOST 1048576: true; the input reads as it did. -/
def ratioOfUptoRow : OpenClaim := { program := "ytjbpchebabhoeaa", sum := "019a77f842df2e5ab4f6354f6f606d7426883f68cded1e9220982d45cbf8a66a", func := "vernier/vernierlaw05.RatioOf", spec := "ratioOf", inPlace := ["math/bits.Add64", "math/bits.Sub64"], unfollowed := true, recurses := true, named := ["math/bits.divideError", "math/bits.overflowError"], apart := false, narrowed := true }
def RatioOfUptoSaid : Prop := ratioOfUptoRow.holds Try.pinned (OpenSpec.upto ratioOfSpec)

/-- 'vernierlaw05.RatioTells', WHERE WHAT IT READS IS OF BULK AT MOST 1048576: true; the input reads as it did. -/
def ratioTellsUptoRow : OpenClaim := { program := "ytjbpchebabhoeaa", sum := "019a77f842df2e5ab4f6354f6f606d7426883f68cded1e9220982d45cbf8a66a", func := "vernier/vernierlaw05.RatioTells", spec := "ratioTells", inPlace := ["math/bits.Add64", "math/bits.Sub64"], unfollowed := true, recurses := true, named := ["math/bits.divideError", "math/bits.overflowError"], apart := false, narrowed := true }
def RatioTellsUptoSaid : Prop := ratioTellsUptoRow.holds Try.pinned (OpenSpec.upto ratioTellsSpec)

/-- 'vernierlaw05.RatioBack', WHERE WHAT IT READS IS OF BULK AT MOST 1048576: true; the input reads as it did. -/
def ratioBackUptoRow : OpenClaim := { program := "ytjbpchebabhoeaa", sum := "019a77f842df2e5ab4f6354f6f606d7426883f68cded1e9220982d45cbf8a66a", func := "vernier/vernierlaw05.RatioBack", spec := "ratioBack", inPlace := ["math/bits.Add64", "math/bits.Sub64"], unfollowed := true, recurses := true, named := ["math/bits.divideError", "math/bits.overflowError"], apart := false, narrowed := true }
def RatioBackUptoSaid : Prop := ratioBackUptoRow.holds Try.pinned (OpenSpec.upto ratioBackSpec)

/-- 'vernierlaw07.FaddExact', WHERE WHAT IT READS IS OF BULK AT MOST 1048576: true; the input reads as it did. -/
def faddExactUptoRow : OpenClaim := { program := "ytjbpchebabhoeaa", sum := "019a77f842df2e5ab4f6354f6f606d7426883f68cded1e9220982d45cbf8a66a", func := "vernier/vernierlaw07.FaddExact", spec := "faddExact", inPlace := ["math/bits.Add64", "math/bits.Sub64"], apart := false, narrowed := true }
def FaddExactUptoSaid : Prop := faddExactUptoRow.holds Try.pinned (OpenSpec.upto faddExactSpec)

/-- 'vernierlaw07.FaddSums', WHERE WHAT IT READS IS OF BULK AT MOST 1048576: true; the input reads as it did. -/
def faddSumsUptoRow : OpenClaim := { program := "ytjbpchebabhoeaa", sum := "019a77f842df2e5ab4f6354f6f606d7426883f68cded1e9220982d45cbf8a66a", func := "vernier/vernierlaw07.FaddSums", spec := "faddSums", inPlace := ["math/bits.Add64", "math/bits.Sub64"], apart := false, narrowed := true }
def FaddSumsUptoSaid : Prop := faddSumsUptoRow.holds Try.pinned (OpenSpec.upto faddSumsSpec)

end Rows
end Go.Proofs.Ytjbpchebabhoeaa
