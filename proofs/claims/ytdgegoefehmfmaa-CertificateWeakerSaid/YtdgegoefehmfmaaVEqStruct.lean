-- Words of the kit's print, without those that this claim does not use (wip/tools/trim.py).
import Derived.Test.YtdgegoefehmfmaaVWords
import Derived.Laws.StructEq
namespace Go.Proofs.YtdgegoefehmfmaaW.PrintWords
open Go.RowKit
section
variable {P : Program} {d : Nat} {xs ys : Array Value} {f : Field} {fs : List Field} {a b : Value} {r s : Bool} {w : World}
end
end Go.Proofs.YtdgegoefehmfmaaW.PrintWords
