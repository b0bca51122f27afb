/-
  What the card asks beside the row and the tie.
-/
import Derived.Test.YtnonpemcndfbkaaGreatDoorFg
import Derived.Test.YtnonpemcndfbkaaGreatDoorFh
import Derived.Test.YtnonpemcndfbkaaGreatDoorCards
import Derived.SevenTiedAt
import Derived.KernelRfl
namespace Go.Proofs.YtnonpemcndfbkaaGreatDoor
open Go Go.Hb
set_option maxRecDepth 100000
theorem goes_no : (Tryz.prog.funcs.toList.all fun fn => !fn.goes) = true := by kernel_rfl
theorem goes_get (g : Nat) : (Tryz.prog.funcs[g]?).any Func.goes = false := by
  cases h : Tryz.prog.funcs[g]? with
  | none => rfl
  | some fn =>
    have := List.all_eq_true.1 goes_no fn (Array.mem_toList_iff.2 (Array.mem_of_getElem? h))
    simpa using this
theorem goes_ok : false = Rows.scriptNilRow.goesBy Tryz.pinned.checked.prog := by
  have h : Rows.scriptNilRow.goesBy Tryz.pinned.checked.prog = ((Tryz.prog.funcNamed "hornbook/hornbooklaw30.ScriptNil").any Tryz.prog.goes || false) := rfl
  rw [h, named_ok, Bool.or_false, Option.any_some]
  have e1 : ((Tryz.prog.closure 3).any fun g => (Tryz.prog.funcs[g]?).any Func.goes) = false := by
    rw [List.any_eq_false]
    intro g _
    rw [goes_get g]; simp
  have e2 : Tryz.prog.funcs.any Func.goes = false := by
    rw [← Array.any_toList, List.any_eq_false]
    intro fn hf
    have := List.all_eq_true.1 goes_no fn hf
    simpa using this
  unfold Program.goes
  rw [e1, e2, Bool.and_false, Bool.or_false]
theorem main_ok : Tryz.pinned.checked.prog.mainIs = some (true, ("2eb6e8f5675fcce6b128ccbedc80815e6dd18998dc9743afc9260e4feb2db28c" : String).toList) := by kernel_rfl
theorem looks_ok : true = Tryz.pinned.checked.prog.looks [] := by kernel_rfl
theorem stands_ok : (([9] : List TypeId).all fun u => !Tryz.prog.wantsStandIn u) = true := by kernel_rfl
theorem wf_ok : Rows.scriptNilRow.wfByText (OpenSpec.ofChange Rows.scriptNilSpec) = true := by kernel_rfl
end Go.Proofs.YtnonpemcndfbkaaGreatDoor
