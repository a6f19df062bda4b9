/-
  Functions of Go's library at this program, by their contracts, as the engine takes them. Printed by program.
-/
import Derived.Test.YtlepjbacaffddaaGab
import Derived.Test.YtlepjbacaffddaaShelf
set_option linter.unusedVariables false
namespace Go.Proofs.Ytlepjbacaffddaa
open Go Go.Eng Go.RowKit
theorem sortC_ok : SortC Try.prog 37 := ⟨Try.slices_Sort_int, Try.slices_Sort_int_none⟩
noncomputable def libSort (m : Rc) (n : Nat) : Sm1 := sortT (m.cx (cxOf n)) 42
theorem libSort_ok (m : Rc) (n : Nat) : Sm1Ok (m.cx (cxOf n)) 37 (libSort m n) := fun ρ β s s' w args r v hρ hs h hr => sortT_ok (cx := m.cx (cxOf n)) sortC_ok (fun _ _ _ => rfl) ρ β s s' w args r v hρ hs h hr
theorem compC_ok : CompC Try.prog 38 := ⟨Try.slices_Compact_int, Try.slices_Compact_int_empty⟩
noncomputable def libComp (m : Rc) (n : Nat) : Sm1 := compT (m.cx (cxOf n)) 43 44
theorem libComp_ok (m : Rc) (n : Nat) : Sm1Ok (m.cx (cxOf n)) 38 (libComp m n) := fun ρ β s s' w args r v hρ hs h hr => compT_ok (cx := m.cx (cxOf n)) compC_ok (fun _ _ _ => rfl) (fun _ _ _ => rfl) ρ β s s' w args r v hρ hs h hr
noncomputable def libCompK (m : Rc) (n : Nat) : Sm1 := compKT
theorem libCompK_ok (m : Rc) (n : Nat) : Sm1Ok (m.cx (cxOf n)) 38 (libCompK m n) := fun ρ β s s' w args r v hρ hs h hr => compKT_ok (cx := m.cx (cxOf n)) compC_ok ρ β s s' w args r v hρ hs h hr
end Go.Proofs.Ytlepjbacaffddaa
