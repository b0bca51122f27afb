/-
  The types are laid out well: a part.
-/
import Derived.Test.YtnonpemcndfbkaaGreatDoorProg
import Derived.JoinedOf
import Derived.KernelRfl
namespace Go.Proofs.YtnonpemcndfbkaaGreatDoor
open Go
set_option maxRecDepth 100000
theorem laid3 : (List.range' 582 195).all (rowFine Tryz.prog) = true := by kernel_rfl
end Go.Proofs.YtnonpemcndfbkaaGreatDoor
