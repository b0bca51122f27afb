/-
  The types are laid out well.
-/
import Derived.Test.YtnonpemcndfbkaaGreatDoorFa0
import Derived.Test.YtnonpemcndfbkaaGreatDoorFa1
import Derived.Test.YtnonpemcndfbkaaGreatDoorFa2
import Derived.Test.YtnonpemcndfbkaaGreatDoorFa3
import Derived.Test.YtnonpemcndfbkaaGreatDoorHa
namespace Go.Proofs.YtnonpemcndfbkaaGreatDoor
open Go Go.Hb
set_option maxRecDepth 100000
theorem parts_ok : List.range Tryz.prog.types.size = List.range' 0 194 ++ (List.range' 194 194 ++ (List.range' 388 194 ++ List.range' 582 195)) := by kernel_rfl
theorem laidG : (Tryz.prog.globals.toList.all fun g => decide (g.type < Tryz.prog.types.size)) = true := by kernel_rfl
theorem laidF : (Tryz.prog.funcs.toList.all fun f => f.params.toList.all fun t => decide (t < Tryz.prog.types.size)) = true := by kernel_rfl
theorem fact1 : laidOutB Tryz.prog = true := by
  unfold laidOutB
  refine aT (aT ?_ ?_) ?_
  · rw [parts_ok]
    simp only [List.all_append, laid0, laid1, laid2, laid3, Bool.and_self]
  · rw [← Array.all_toList]; exact laidG
  · rw [← Array.all_toList]
    have h := laidF
    rw [List.all_eq_true] at h ⊢
    intro f hf
    rw [← Array.all_toList]
    exact h f hf
end Go.Proofs.YtnonpemcndfbkaaGreatDoor
