/-
  What is told of functions, two chains beside each other. Printed by program.
-/
import Derived.Test.YtjooaieolphomaaGreatTmKa
import Derived.Test.YtjooaieolphomaaGreatTmAc
namespace Go.Proofs.YtjooaieolphomaaGreat
open Go.Eng
noncomputable def smY (n : Nat) (l : List (Int × Int)) : SM := smOr (smKa n l) (smAc n l)
theorem smY_ok (n : Nat) (l : List (Int × Int)) : SmOk (cxOf n l) (smY n l) := smOr_ok (smKa_ok n l) (smAc_ok n l)
end Go.Proofs.YtjooaieolphomaaGreat
