/- Words of walks, of the kit's print, without remarks: those that the law RatioTells needs. -/
import Derived.Test.YtjbpchebabhoeaaVRatioTellsN
namespace Go.Proofs.YtjbpchebabhoeaaW.PrintWords
open Go.RowKit
namespace Kd
section
variable {α : Type} {d : Kd α} {e base n m : Nat} {ok : Nat → Prop} {w w' : World} {v : Value} {A : Option Addr} {xs : List α}
theorem R_at (hq : w.drewN m = w') (h : d.R e w base ok v xs) : d.R e w' base ok v xs := by subst hq; exact R_drewN h m
end
end Kd
end Go.Proofs.YtjbpchebabhoeaaW.PrintWords
