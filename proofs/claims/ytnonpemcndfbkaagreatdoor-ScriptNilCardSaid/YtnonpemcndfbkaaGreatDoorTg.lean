/-
  The tie of the variables to the program's text.
-/
import Derived.Test.YtnonpemcndfbkaaGreatDoorTa
import Derived.Test.YtnonpemcndfbkaaGreatDoorTb
import Derived.Test.YtnonpemcndfbkaaGreatDoorTc
import Derived.Test.YtnonpemcndfbkaaGreatDoorTd
import Derived.Test.YtnonpemcndfbkaaGreatDoorTe
import Derived.Test.YtnonpemcndfbkaaGreatDoorTf
import Derived.SevenTiedAt
namespace Go.Proofs.YtnonpemcndfbkaaGreatDoor
open Go
set_option maxRecDepth 100000
theorem tie_ok : Tryz.prog.laidByTextLater tieL [.data, .data, .listed, .data] true := Program.laidByTextLater_by_one 94 8 257 word_ok word_no root_ok kinds_ok vars_ok lays_ok door_ok
theorem pin_ok : Tryz.pinned.checked.prog.pinnedFits "unicode/utf8.first" = true := by kernel_rfl
theorem noOwn : Tryz.pinned.checked.prog.headLifts.contains "ownunsafe" = false := by kernel_rfl
theorem fits_ok : Tryz.pinned.checked.prog.listedFits Rows.scriptNilRow.laid = true := by
  unfold Program.listedFits
  rw [noOwn]
  kernel_rfl
theorem rowTie : Rows.scriptNilRow.laidByTextAt .later Tryz.pinned [.data, .data, .listed, .data, .pinned] true :=
  OpenClaim.laidByTextAt_pinned rfl rfl tie_ok rfl rfl rfl rfl (fun y hy e => by
    simp only [Rows.scriptNilRow, List.zip_cons_cons, List.zip_nil_right, List.mem_cons, List.mem_nil_iff, or_false] at hy
    rcases hy with rfl | rfl | rfl | rfl | rfl
    · cases e
    · cases e
    · cases e
    · cases e
    · exact ⟨pin_ok, by kernel_rfl⟩) fits_ok
end Go.Proofs.YtnonpemcndfbkaaGreatDoor
