/-
  A closed fact of the tie.
-/
import Derived.Test.YtnonpemcndfbkaaGreatDoorProg
import Derived.LaidByTextLater
import Derived.LaidOnce
import Derived.KernelRfl
namespace Go.Proofs.YtnonpemcndfbkaaGreatDoor
open Go
set_option maxRecDepth 100000
theorem root_ok : Tryz.prog.worded rootWordLater = true := by kernel_rfl
end Go.Proofs.YtnonpemcndfbkaaGreatDoor
