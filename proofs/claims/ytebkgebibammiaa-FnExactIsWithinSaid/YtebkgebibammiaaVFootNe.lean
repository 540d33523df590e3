-- The word file YtebkgebibammiaaWFootNe, cut down to what this claim comes to.
import Derived.Test.YtebkgebibammiaaVN
namespace Go.Proofs.YtebkgebibammiaaW.PrintWords
open Go.RowKit
namespace Kd
section
variable {α : Type} {d : Kd α} {W : World} {g n : Nat} {S ok : Nat → Prop} {A : Option Addr} {ad : Addr} {xs : List α}
end
end Kd
end Go.Proofs.YtebkgebibammiaaW.PrintWords
