/-
  The law ScriptNil answers true at every input; no conditions beside the variables that its text lays.
-/
import Derived.Test.YtnonpemcndfbkaaGreatDoorLb
import Derived.Test.YtnonpemcndfbkaaGreatDoorTg
import Derived.Test.YtnonpemcndfbkaaGreatDoorCa
namespace Go.Proofs.YtnonpemcndfbkaaGreatDoor
open Go
theorem card_ok : Rows.ScriptNilCardSaid :=
  Claim7.holds_tied_plain_at .later [] [.data, .data, .listed, .data, .pinned] true (true, "2eb6e8f5675fcce6b128ccbedc80815e6dd18998dc9743afc9260e4feb2db28c") true row_ok (fun _ h => by cases h) wf_ok (fun _ h => by cases h) rowTie rfl ⟨rfl, rfl⟩ main_ok rfl
    (fun f fn hf hfn => by
      obtain rfl : f = 3 := Option.some.inj (named_ok.symm.trans hf) |>.symm
      obtain rfl : fn = Tryz.f3 := (Option.some.inj (Tryz.func3.symm.trans hfn)).symm
      refine ⟨looks_ok, fun j t ht => ?_⟩
      rw [Tryz.params3] at ht
      have hm : t ∈ ([9] : List TypeId) := by simpa using Array.mem_of_getElem? ht
      exact (show Tryz.prog.wantsStandIn t = false by simpa using List.all_eq_true.1 stands_ok t hm))
    goes_ok
#print axioms card_ok
end Go.Proofs.YtnonpemcndfbkaaGreatDoor
