/-
  What the variables hold.
-/
import Derived.Test.YtnonpemcndfbkaaGreatDoorKa
import Derived.Test.YtnonpemcndfbkaaGreatDoorRows
namespace Go.Proofs.YtnonpemcndfbkaaGreatDoor
open Go Go.Hb
set_option maxRecDepth 100000
section
variable {τ : Nat → Value} {w : World} {ll : List (String × DataW Unit)}
theorem var0 (hW : w.ShapedOpen Tryz.prog) (hl : laidMet Tryz.prog ll w) (hm : ("hornbook/ins.forms", Rows.laid_hornbook_ins_forms) ∈ ll) : VarIs τ w 3 577 formsL :=
  varIs_shaped (t := 577) (f := 4) hW hl hm (by kernel_rfl) (by kernel_rfl) (by kernel_rfl) (by decide) (by kernel_rfl)
theorem var1 (hW : w.ShapedOpen Tryz.prog) (hl : laidMet Tryz.prog ll w) (hm : ("unicode/utf8.first", Rows.laid_unicode_utf8_first) ∈ ll) : VarIs τ w 1 442 firstL :=
  varIs_shaped (t := 442) (f := 4) hW hl hm (by kernel_rfl) (by kernel_rfl) (by kernel_rfl) (by decide) (by kernel_rfl)
theorem var2 (hW : w.ShapedOpen Tryz.prog) (hl : laidMet Tryz.prog ll w) (hm : ("unicode/utf8.acceptRanges", Rows.laid_unicode_utf8_acceptRanges) ∈ ll) : VarIs τ w 2 445 acceptL :=
  varIs_shaped (t := 445) (f := 4) hW hl hm (by kernel_rfl) (by kernel_rfl) (by kernel_rfl) (by decide) (by kernel_rfl)
theorem var3 (hW : w.ShapedOpen Tryz.prog) (hl : laidMet Tryz.prog ll w) (hm : ("strings.asciiSpace", Rows.laid_strings_asciiSpace) ∈ ll) : VarIs τ w 4 442 asciiL :=
  varIs_shaped (t := 442) (f := 4) hW hl hm (by kernel_rfl) (by kernel_rfl) (by kernel_rfl) (by decide) (by kernel_rfl)
end
end Go.Proofs.YtnonpemcndfbkaaGreatDoor
