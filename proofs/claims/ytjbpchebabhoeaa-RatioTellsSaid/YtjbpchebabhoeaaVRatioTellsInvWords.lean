/- Words of walks, of the kit's print, without remarks: those that the law RatioTells needs. -/
import Derived.Test.YtjbpchebabhoeaaVRatioTellsTab
import Derived.Test.YtjbpchebabhoeaaVRatioTellsN
namespace Go.Proofs.YtjbpchebabhoeaaW.PrintWords
open Go.RowKit
theorem Kd.R_slice1 {α : Type} {d : Kd α} {e base : Nat} {ok : Nat → Prop} {w : World} {v : Value} {xs : List α} (h : d.R e w base ok v xs) (hn : 0 < xs.length) : ∃ (ad : Addr) (c : Nat), v = .slice (some ad) xs.length c := by
  obtain ⟨A, c, rfl⟩ := Kd.R_slice h
  have h2 := (Kd.R_reads' h).2.2
  obtain ⟨ad, he, _⟩ := h2.2.2 hn
  subst he
  exact ⟨ad, c, rfl⟩
end Go.Proofs.YtjbpchebabhoeaaW.PrintWords
namespace Go.Proofs.YtjbpchebabhoeaaW.PrintLast
end Go.Proofs.YtjbpchebabhoeaaW.PrintLast
