/-
  The tables of all regions that draw their order, reckoned ahead. Printed by program.
-/
import Derived.Test.YtjooaieolphomaaDoorFngTJ
import Derived.Test.YtjooaieolphomaaDoorFab
namespace Go.Proofs.YtjooaieolphomaaDoor
open Go Go.Eng
def rtB : RowT := .nil
theorem rtB_ok : RtsOk Tryd.prog (rtsB rtB) := rtsB_ok trivial
end Go.Proofs.YtjooaieolphomaaDoor
