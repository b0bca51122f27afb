/-
  The types are laid out well: a part.
-/
import Derived.Test.YtpnnkjlepgkcaaaGreatDoorRows
import Derived.JoinedOf
import Derived.KernelRfl
namespace Go.Proofs.YtpnnkjlepgkcaaaGreatDoor
open Go
set_option maxRecDepth 100000
theorem laid0 : (List.range' 0 189).all (rowFine Tryz.prog) = true := by kernel_rfl
end Go.Proofs.YtpnnkjlepgkcaaaGreatDoor
