/-
  The road, as the row tells it.
-/
import Derived.Test.YtnonpemcndfbkaaGreatDoorFg
import Derived.Test.YtnonpemcndfbkaaGreatDoorRows
namespace Go.Proofs.YtnonpemcndfbkaaGreatDoor
open Go Go.Hb
set_option maxRecDepth 100000
theorem fact9 : (Rows.scriptNilRow.inPlace == Tryz.prog.inPlace 3) = true := by rw [inPlace_of road_ok inPlace_ok]; kernel_rfl
theorem fact10 : (Rows.scriptNilRow.unfollowed == Tryz.prog.unfollowed 3) = true := by rw [unf_ok]; rfl
theorem fact11 : (Rows.scriptNilRow.recurses == Tryz.prog.recurses 3) = true := by rw [recurses_of unf_ok]; rfl
theorem fact12 : (Rows.scriptNilRow.named == Tryz.prog.varsNamed 3) = true := by rw [varsNamed_of road_ok glob_ok read_ok]; kernel_rfl
end Go.Proofs.YtnonpemcndfbkaaGreatDoor
