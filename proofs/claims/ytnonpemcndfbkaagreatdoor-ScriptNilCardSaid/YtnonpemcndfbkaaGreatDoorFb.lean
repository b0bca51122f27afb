/-
  A closed fact of the program.
-/
import Derived.Test.YtnonpemcndfbkaaGreatDoorProg
import Derived.JoinedOf
import Derived.KernelRfl
namespace Go.Proofs.YtnonpemcndfbkaaGreatDoor
open Go
set_option maxRecDepth 100000
theorem fact2 : (mapsRowed Tryz.prog) = true := by kernel_rfl
end Go.Proofs.YtnonpemcndfbkaaGreatDoor
