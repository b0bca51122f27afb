/-
  A closed fact of the tie.
-/
import Derived.Test.YtnonpemcndfbkaaGreatDoorTd
namespace Go.Proofs.YtnonpemcndfbkaaGreatDoor
open Go
set_option maxRecDepth 100000
theorem lays_ok : varsNamedLaterB Tryz.prog (varsId Tryz.prog) tieL = true := by kernel_rfl
end Go.Proofs.YtnonpemcndfbkaaGreatDoor
