/-
  The types are laid out well.
-/
import Derived.Test.YtpnnkjlepgkcaaaGreatDoorFa0
import Derived.Test.YtpnnkjlepgkcaaaGreatDoorFa1
import Derived.Test.YtpnnkjlepgkcaaaGreatDoorFa2
import Derived.Test.YtpnnkjlepgkcaaaGreatDoorFa3
import Derived.Test.YtpnnkjlepgkcaaaGreatDoorHa
namespace Go.Proofs.YtpnnkjlepgkcaaaGreatDoor
open Go Go.Hb
set_option maxRecDepth 100000
theorem parts_ok : List.range Tryz.prog.types.size = List.range' 0 189 ++ (List.range' 189 189 ++ (List.range' 378 189 ++ List.range' 567 190)) := by kernel_rfl
theorem laidG : (Tryz.prog.globals.toList.all fun g => decide (g.type < Tryz.prog.types.size)) = true := by kernel_rfl
theorem laidF : (Tryz.prog.funcs.toList.all fun f => f.params.toList.all fun t => decide (t < Tryz.prog.types.size)) = true := by kernel_rfl
theorem fact1 : laidOutB Tryz.prog = true := by
  unfold laidOutB
  refine aT (aT ?_ ?_) ?_
  · rw [parts_ok]
    simp only [List.all_append, laid0, laid1, laid2, laid3, Bool.and_self]
  · rw [← Array.all_toList]; exact laidG
  · rw [← Array.all_toList]
    have h := laidF
    rw [List.all_eq_true] at h ⊢
    intro f hf
    rw [← Array.all_toList]
    exact h f hf
end Go.Proofs.YtpnnkjlepgkcaaaGreatDoor
