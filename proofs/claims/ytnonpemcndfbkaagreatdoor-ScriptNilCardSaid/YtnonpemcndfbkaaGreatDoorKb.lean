/-
  The law, run by the evaluator: it answers true.
-/
import Derived.Test.YtnonpemcndfbkaaGreatDoorKa
namespace Go.Proofs.YtnonpemcndfbkaaGreatDoor
open Go Go.Hb
theorem run_ok : isTrue (evO Tryz.prog X (ansL []) 100000 (.call 3 [.sym 0] ⟨firstSt st0, 64⟩)) = true := by kernel_rfl
end Go.Proofs.YtnonpemcndfbkaaGreatDoor
