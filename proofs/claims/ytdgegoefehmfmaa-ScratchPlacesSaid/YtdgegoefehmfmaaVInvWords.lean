-- Words of the kit's print, without those that this claim does not use (wip/tools/trim.py).
import Derived.Test.YtdgegoefehmfmaaVInv
import Derived.Test.YtdgegoefehmfmaaVFootNe
namespace Go.Proofs.YtdgegoefehmfmaaW.PrintWords
open Go.RowKit
end Go.Proofs.YtdgegoefehmfmaaW.PrintWords
namespace Go.Proofs.YtdgegoefehmfmaaW.PrintLast
section
variable {ops : Array Oper} {a : Act} {o og : Oper} {g : Nat} {t : Tmp} {u : Bool}
end
end Go.Proofs.YtdgegoefehmfmaaW.PrintLast
