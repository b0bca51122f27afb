/-
  The closed facts of the row.
-/
import Derived.Test.YtpnnkjlepgkcaaaGreatDoorRows
import Derived.JoinedOf
import Derived.KernelRfl
namespace Go.Proofs.YtpnnkjlepgkcaaaGreatDoor
open Go
set_option maxRecDepth 100000
theorem fact0 : (Rows.sessionNilRow.wf (OpenSpec.ofChange Rows.sessionNilSpec)) = true := by kernel_rfl
theorem fact3 : (Tryz.f3.params.all (Tryz.prog.readableRec ·)) = true := by kernel_rfl
theorem fact4 : (namedTie Tryz.prog Rows.sessionNilRow.named Rows.sessionNilSpec.vars) = true := by kernel_rfl
theorem fact5 : ((Rows.sessionNilRow.stops == [])) = true := by kernel_rfl
theorem fact6 : ((Tryz.prog.stops == [])) = true := by kernel_rfl
theorem fact7 : ((Rows.sessionNilRow.knobs == [])) = true := by kernel_rfl
theorem fact8 : ((Tryz.prog.stopKnobs == [])) = true := by kernel_rfl
theorem fact13 : ((Rows.sessionNilRow.maps == (Tryz.f3.params.toList ++ Rows.sessionNilSpec.plain.varTypes Tryz.prog).any (Tryz.prog.mapsRec ·))) = true := by kernel_rfl
theorem fact14 : ((Rows.sessionNilRow.ifaces == (Tryz.f3.params.toList ++ Rows.sessionNilSpec.plain.varTypes Tryz.prog).any (Tryz.prog.ifacesRec ·))) = true := by kernel_rfl
theorem fact15 : ((Rows.sessionNilRow.mapsOut == Tryz.prog.mapsAmong Tryz.f3.resultTypes.toList)) = true := by kernel_rfl
theorem fact16 : ((Rows.sessionNilRow.loops == (Tryz.f3.params.toList ++ Rows.sessionNilSpec.plain.varTypes Tryz.prog).any (Tryz.prog.loopsFrom ·))) = true := by kernel_rfl
theorem fact17 : ((Rows.sessionNilRow.wideKeys == (Tryz.f3.params.toList ++ Rows.sessionNilSpec.plain.varTypes Tryz.prog ++ Tryz.f3.resultTypes.toList).any (Tryz.prog.wideKeysFrom ·))) = true := by kernel_rfl
theorem fact18 : (Rows.sessionNilSpec.vars.all (Tryz.prog.varReadable ·)) = true := by kernel_rfl
theorem fact19 : (Tryz.f3.resultTypes.all (fun t => Tryz.prog.readableRec t && decide (t < Tryz.prog.types.size))) = true := by kernel_rfl
theorem fact20 : ((Rows.sessionNilRow.ifacesOut == Tryz.f3.resultTypes.toList.any (Tryz.prog.ifacesRec ·))) = true := by kernel_rfl
theorem fact21 : ((Rows.sessionNilRow.loopsOut == Tryz.f3.resultTypes.toList.any (Tryz.prog.loopsFrom ·))) = true := by kernel_rfl
theorem fact22 : ((Rows.sessionNilRow.plainKeys == Tryz.prog.plainKeys)) = true := by kernel_rfl
theorem fact23 : (Rows.sessionNilRow.shortTexts.isNone) = true := by kernel_rfl
theorem fact26 : ((Rows.sessionNilRow.lifted == Tryz.prog.liftsFinal)) = true := by kernel_rfl
theorem fact27 : ((Tryz.prog.make == some Rows.sessionNilRow.make)) = true := by kernel_rfl
theorem fact29 : ((Rows.sessionNilRow.pinned == Rows.sessionNilRow.pinnedBy)) = true := by kernel_rfl
theorem fact30 : ((Rows.sessionNilRow.veiled == (Tryz.f3.params.toList ++ Rows.sessionNilSpec.plain.varTypes Tryz.prog ++ Tryz.f3.resultTypes.toList).any (Tryz.prog.veiledRec ·))) = true := by kernel_rfl
theorem fact31 : (Rows.sessionNilRow.veiledFits Tryz.prog Tryz.f3.params.toList (Tryz.f3.params.toList ++ Rows.sessionNilSpec.plain.varTypes Tryz.prog ++ Tryz.f3.resultTypes.toList)) = true := by kernel_rfl
end Go.Proofs.YtpnnkjlepgkcaaaGreatDoor
