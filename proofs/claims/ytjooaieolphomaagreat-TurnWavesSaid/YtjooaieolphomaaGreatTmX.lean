/-
  What is told of functions, two chains beside each other. Printed by program.
-/
import Derived.Test.YtjooaieolphomaaGreatTmKa
import Derived.Test.YtjooaieolphomaaGreatTmAb
namespace Go.Proofs.YtjooaieolphomaaGreat
open Go.Eng
noncomputable def smX (n : Nat) (l : List (Int × Int)) : SM := smOr (smKa n l) (smAb n l)
theorem smX_ok (n : Nat) (l : List (Int × Int)) : SmOk (cxOf n l) (smX n l) := smOr_ok (smKa_ok n l) (smAb_ok n l)
end Go.Proofs.YtjooaieolphomaaGreat
