/- Words that the walks lean on, struck down to what this claim uses (WFootNe). No conditions. -/
import Derived.Test.YtmheajenlhlbhaaGreatDoorVLeafRiseWN
namespace Go.Proofs.YtmheajenlhlbhaaGreatDoorW.PrintWords
open Go.RowKit
namespace Kd
section
variable {α : Type} {d : Kd α} {W : World} {g n : Nat} {S ok : Nat → Prop} {A : Option Addr} {ad : Addr} {xs : List α}
end
end Kd
end Go.Proofs.YtmheajenlhlbhaaGreatDoorW.PrintWords

