/-
  The law by its name.
-/
import Derived.Test.YtpnnkjlepgkcaaaGreatDoorRows
import Derived.KernelRfl
namespace Go.Proofs.YtpnnkjlepgkcaaaGreatDoor
open Go
set_option maxRecDepth 100000
theorem named_ok : Tryz.prog.funcNamed "hornbook/hornbooklaw29.SessionNil" = some 3 := by kernel_rfl
end Go.Proofs.YtpnnkjlepgkcaaaGreatDoor
