-- Words of the kit's print, without those that this claim does not use (wip/tools/trim.py).
import Derived.Test.YtdgegoefehmfmaaVN
namespace Go.Proofs.YtdgegoefehmfmaaW.PrintWords
open Go.RowKit
namespace Kd
section
variable {α : Type} {d : Kd α} {W : World} {g n : Nat} {S ok : Nat → Prop} {A : Option Addr} {ad : Addr} {xs : List α}
end
end Kd
end Go.Proofs.YtdgegoefehmfmaaW.PrintWords
