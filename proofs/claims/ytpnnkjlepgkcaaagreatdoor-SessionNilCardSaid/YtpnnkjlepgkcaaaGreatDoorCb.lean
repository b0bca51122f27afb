/-
  The law SessionNil answers true at every input; no conditions beside the variables that its text lays.
-/
import Derived.Test.YtpnnkjlepgkcaaaGreatDoorLb
import Derived.Test.YtpnnkjlepgkcaaaGreatDoorTg
import Derived.Test.YtpnnkjlepgkcaaaGreatDoorCa
namespace Go.Proofs.YtpnnkjlepgkcaaaGreatDoor
open Go
theorem card_ok : Rows.SessionNilCardSaid :=
  Claim7.holds_tied_plain_at .later [] [.data, .data, .listed, .data, .pinned] true (true, "cad2339b2ea6e0988089c7c886889ab60eac227db3687b56f2b475df95ef7997") true row_ok (fun _ h => by cases h) wf_ok (fun _ h => by cases h) rowTie rfl ⟨rfl, rfl⟩ main_ok rfl
    (fun f fn hf hfn => by
      obtain rfl : f = 3 := Option.some.inj (named_ok.symm.trans hf) |>.symm
      obtain rfl : fn = Tryz.f3 := (Option.some.inj (Tryz.func3.symm.trans hfn)).symm
      refine ⟨looks_ok, fun j t ht => ?_⟩
      rw [Tryz.params3] at ht
      have hm : t ∈ ([3] : List TypeId) := by simpa using Array.mem_of_getElem? ht
      exact (show Tryz.prog.wantsStandIn t = false by simpa using List.all_eq_true.1 stands_ok t hm))
    goes_ok
#print axioms card_ok
end Go.Proofs.YtpnnkjlepgkcaaaGreatDoor
