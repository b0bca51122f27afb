/-
  The law by its name.
-/
import Derived.Test.YtnonpemcndfbkaaGreatDoorProg
import Derived.JoinedOf
import Derived.KernelRfl
namespace Go.Proofs.YtnonpemcndfbkaaGreatDoor
open Go
set_option maxRecDepth 100000
theorem named_ok : Tryz.prog.funcNamed "hornbook/hornbooklaw30.ScriptNil" = some 3 := by kernel_rfl
end Go.Proofs.YtnonpemcndfbkaaGreatDoor
