/- Words that the walks lean on, struck down to what this claim uses (WInvWords). No conditions. -/
import Derived.Test.YtmheajenlhlbhaaVPackRoomWInv
import Derived.Test.YtmheajenlhlbhaaVPackRoomWFootNe
namespace Go.Proofs.YtmheajenlhlbhaaW.PrintWords
open Go.RowKit
end Go.Proofs.YtmheajenlhlbhaaW.PrintWords
namespace Go.Proofs.YtmheajenlhlbhaaW.PrintLast
section
variable {ops : Array Oper} {a : Act} {o og : Oper} {g : Nat} {t : Tmp} {u : Bool}
end
end Go.Proofs.YtmheajenlhlbhaaW.PrintLast

