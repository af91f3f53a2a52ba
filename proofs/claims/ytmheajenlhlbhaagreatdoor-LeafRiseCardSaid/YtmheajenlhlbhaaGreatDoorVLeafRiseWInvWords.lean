/- Words that the walks lean on, struck down to what this claim uses (WInvWords). No conditions. -/
import Derived.Test.YtmheajenlhlbhaaGreatDoorVLeafRiseWInv
import Derived.Test.YtmheajenlhlbhaaGreatDoorVLeafRiseWFootNe
namespace Go.Proofs.YtmheajenlhlbhaaGreatDoorW.PrintWords
open Go.RowKit
end Go.Proofs.YtmheajenlhlbhaaGreatDoorW.PrintWords
namespace Go.Proofs.YtmheajenlhlbhaaGreatDoorW.PrintLast
section
variable {ops : Array Oper} {a : Act} {o og : Oper} {g : Nat} {t : Tmp} {u : Bool}
end
end Go.Proofs.YtmheajenlhlbhaaGreatDoorW.PrintLast

