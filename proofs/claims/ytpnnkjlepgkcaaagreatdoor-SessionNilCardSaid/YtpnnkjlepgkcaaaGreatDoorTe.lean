/-
  A closed fact of the tie.
-/
import Derived.Test.YtpnnkjlepgkcaaaGreatDoorTd
namespace Go.Proofs.YtpnnkjlepgkcaaaGreatDoor
open Go
set_option maxRecDepth 100000
theorem lays_ok : varsNamedLaterB Tryz.prog (varsId Tryz.prog) tieL = true := by kernel_rfl
end Go.Proofs.YtpnnkjlepgkcaaaGreatDoor
