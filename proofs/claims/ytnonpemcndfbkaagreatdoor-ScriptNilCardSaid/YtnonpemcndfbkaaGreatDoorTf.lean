/-
  The door is run.
-/
import Derived.Test.YtnonpemcndfbkaaGreatDoorTd
namespace Go.Proofs.YtnonpemcndfbkaaGreatDoor
open Go
set_option maxRecDepth 100000
theorem door_ok (os : Os) (tape : Tape) : doorLeaves Tryz.prog 94 8 257 tieL os tape = some (tieL.filter fun x => x.2.handleName?.isNone, (funcsListed tieL).map (·.2.funcsOut)) := by kernel_rfl
end Go.Proofs.YtnonpemcndfbkaaGreatDoor
