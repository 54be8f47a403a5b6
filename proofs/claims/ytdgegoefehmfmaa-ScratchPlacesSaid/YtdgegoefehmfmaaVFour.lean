-- Words of the kit's print, without those that this claim does not use (wip/tools/trim.py).
import Derived.Test.YtdgegoefehmfmaaVTab
namespace Go.Proofs.YtdgegoefehmfmaaW.PrintLast
section
variable {P : Program} {ops : Array Oper} {Q : Exit → Act → World → Prop} {md : Region.Mode} {S : World → Prop} {ds : List Nat} {T : Bool × List (List Nat × List Nat)}
end
end Go.Proofs.YtdgegoefehmfmaaW.PrintLast
