/-
  A closed fact of the tie.
-/
import Derived.Test.YtnonpemcndfbkaaGreatDoorRows
import Derived.LaidByTextLater
import Derived.LaidOnce
import Derived.KernelRfl
namespace Go.Proofs.YtnonpemcndfbkaaGreatDoor
open Go
set_option maxRecDepth 100000
abbrev tieL : List (String × DataW Unit) := [("unicode/utf8.acceptRanges", Rows.laid_unicode_utf8_acceptRanges), ("hornbook/ins.forms", Rows.laid_hornbook_ins_forms), ("unicode.White_Space", Rows.laid_unicode_White_Space), ("strings.asciiSpace", Rows.laid_strings_asciiSpace)]
theorem kinds_ok : tieL.map (fun x => Tryz.prog.kindOfLater x.1) = ([.data, .data, .listed, .data] : List LaidKind).map some := by kernel_rfl
theorem vars_ok : (Tryz.prog.funcNamed "gosem.cut.vars").isSome = true := by kernel_rfl
end Go.Proofs.YtnonpemcndfbkaaGreatDoor
