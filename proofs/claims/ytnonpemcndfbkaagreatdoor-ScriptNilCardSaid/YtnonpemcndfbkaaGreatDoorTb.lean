/-
  A closed fact of the tie.
-/
import Derived.Test.YtnonpemcndfbkaaGreatDoorProg
import Derived.LaidByTextLater
import Derived.LaidOnce
import Derived.KernelRfl
namespace Go.Proofs.YtnonpemcndfbkaaGreatDoor
open Go
set_option maxRecDepth 100000
theorem word_no : Tryz.prog.worded (varsWordLater !true) = false := by kernel_rfl
end Go.Proofs.YtnonpemcndfbkaaGreatDoor
