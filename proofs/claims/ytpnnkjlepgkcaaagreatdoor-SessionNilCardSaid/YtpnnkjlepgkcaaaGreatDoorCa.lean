/-
  What the card asks beside the row and the tie.
-/
import Derived.Test.YtpnnkjlepgkcaaaGreatDoorFg
import Derived.Test.YtpnnkjlepgkcaaaGreatDoorFh
import Derived.Test.YtpnnkjlepgkcaaaGreatDoorCards
import Derived.SevenTiedAt
import Derived.KernelRfl
namespace Go.Proofs.YtpnnkjlepgkcaaaGreatDoor
open Go Go.Hb
set_option maxRecDepth 100000
theorem goes_no : (Tryz.prog.funcs.toList.all fun fn => !fn.goes) = true := by kernel_rfl
theorem goes_get (g : Nat) : (Tryz.prog.funcs[g]?).any Func.goes = false := by
  cases h : Tryz.prog.funcs[g]? with
  | none => rfl
  | some fn =>
    have := List.all_eq_true.1 goes_no fn (Array.mem_toList_iff.2 (Array.mem_of_getElem? h))
    simpa using this
theorem goes_ok : false = Rows.sessionNilRow.goesBy Tryz.pinned.checked.prog := by
  have h : Rows.sessionNilRow.goesBy Tryz.pinned.checked.prog = ((Tryz.prog.funcNamed "hornbook/hornbooklaw29.SessionNil").any Tryz.prog.goes || false) := rfl
  rw [h, named_ok, Bool.or_false, Option.any_some]
  have e1 : ((Tryz.prog.closure 3).any fun g => (Tryz.prog.funcs[g]?).any Func.goes) = false := by
    rw [List.any_eq_false]
    intro g _
    rw [goes_get g]; simp
  have e2 : Tryz.prog.funcs.any Func.goes = false := by
    rw [← Array.any_toList, List.any_eq_false]
    intro fn hf
    have := List.all_eq_true.1 goes_no fn hf
    simpa using this
  unfold Program.goes
  rw [e1, e2, Bool.and_false, Bool.or_false]
theorem main_ok : Tryz.pinned.checked.prog.mainIs = some (true, ("cad2339b2ea6e0988089c7c886889ab60eac227db3687b56f2b475df95ef7997" : String).toList) := by kernel_rfl
theorem looks_ok : true = Tryz.pinned.checked.prog.looks [] := by kernel_rfl
theorem stands_ok : (([3] : List TypeId).all fun u => !Tryz.prog.wantsStandIn u) = true := by kernel_rfl
theorem wf_ok : Rows.sessionNilRow.wfByText (OpenSpec.ofChange Rows.sessionNilSpec) = true := by kernel_rfl
end Go.Proofs.YtpnnkjlepgkcaaaGreatDoor
