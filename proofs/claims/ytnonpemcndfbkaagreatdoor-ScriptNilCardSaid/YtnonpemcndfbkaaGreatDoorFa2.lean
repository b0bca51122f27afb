/-
  The types are laid out well: a part.
-/
import Derived.Test.YtnonpemcndfbkaaGreatDoorProg
import Derived.JoinedOf
import Derived.KernelRfl
namespace Go.Proofs.YtnonpemcndfbkaaGreatDoor
open Go
set_option maxRecDepth 100000
theorem laid2 : (List.range' 388 194).all (rowFine Tryz.prog) = true := by kernel_rfl
end Go.Proofs.YtnonpemcndfbkaaGreatDoor
