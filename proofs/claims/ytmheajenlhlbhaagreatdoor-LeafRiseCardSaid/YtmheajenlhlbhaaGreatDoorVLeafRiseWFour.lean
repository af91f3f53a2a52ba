/- Words that the walks lean on, struck down to what this claim uses (WFour). No conditions. -/
import Derived.Test.YtmheajenlhlbhaaGreatDoorVLeafRiseWTab
namespace Go.Proofs.YtmheajenlhlbhaaGreatDoorW.PrintLast
section
variable {P : Program} {ops : Array Oper} {Q : Exit → Act → World → Prop} {md : Region.Mode} {S : World → Prop} {ds : List Nat} {T : Bool × List (List Nat × List Nat)}
end
end Go.Proofs.YtmheajenlhlbhaaGreatDoorW.PrintLast

