/-
  DERIVED. GIVEN WITH THE SEED: THE CARDS: each row of YtpnnkjlepgkcaaaGreatDoorRows.lean that lists a variable, with what it lists TIED to the program's text (the seventh form; the later family's looks); each row that meets fmt, with fmt's text TOLD by the authors' own Lean function (tested against real Go, not proved from fmt's source: count such statements apart). THE CARD IS WHAT COUNTS. Prove the row's statement (the work); the ties are given (YtpnnkjlepgkcaaaGreatDoorTie.lean); close each card by the builder's one call (the guide's Derived/Test/ToyasCard.lean, 'card_holds'). Laid BY PROGRAM, IN A SANDBOX (cutbox-door.mjs). By AI agents, Wed Nov 11 2026. No macro, syntax, notation, axiom, sorry.
-/
import Derived.Test.YtpnnkjlepgkcaaaGreatDoorRows
import GoSem.ClaimSeven
namespace Go.Proofs.YtpnnkjlepgkcaaaGreatDoor
namespace Rows

/-- THE TIED CARD OF 'hornbooklaw29.SessionNil'. -/
def sessionNilCard : Claim7 := { stood := { row := sessionNilRow, standIns := [], harness := (true, "cad2339b2ea6e0988089c7c886889ab60eac227db3687b56f2b475df95ef7997"), looks := true }, kinds := [], alts := [], laidByText := true, laidKinds := [.data, .data, .listed, .data, .pinned], laidTests := true, laidLooks := .later }
def SessionNilCardSaid : Prop := Claim7.holds Tryz.pinned (.plain (OpenSpec.ofChange sessionNilSpec)) sessionNilCard

/-- THE SECOND FORM's CARD OF 'hornbooklaw29.SessionNil'. -/
def sessionNilUptoCard : Claim7 := { stood := { row := sessionNilUptoRow, standIns := [], harness := (true, "cad2339b2ea6e0988089c7c886889ab60eac227db3687b56f2b475df95ef7997"), looks := true }, kinds := [], alts := [], laidByText := true, laidKinds := [.data, .data, .listed, .data, .pinned], laidTests := true, laidLooks := .later }
def SessionNilUptoCardSaid : Prop := Claim7.holds Tryz.pinned (.plain (OpenSpec.upto sessionNilSpec)) sessionNilUptoCard
end Rows
end Go.Proofs.YtpnnkjlepgkcaaaGreatDoor
