/-
  The row: whatever the input, the law answers true.
-/
import Derived.Test.YtnonpemcndfbkaaGreatDoorKb
import Derived.Test.YtnonpemcndfbkaaGreatDoorLa
import Derived.Test.YtnonpemcndfbkaaGreatDoorFi
import Derived.OpenShut
import Derived.ShutString
import Derived.SizedLaws
import Derived.WalkKit
namespace Go.Proofs.YtnonpemcndfbkaaGreatDoor
open Go Go.Hb Go.RowKit
open Go.ChangeShapes Go.WideShapes Go.ChangeAt
open Go.ChangeMaps (open_string shut_string)
set_option maxRecDepth 100000 in
theorem lifted (os : Os) (started : os.Started) (H : Type) (enc : TypeId × Value → H) :
    ReturnsInHanded {} Tryz.checked os 3 .any (fun w args => (Rows.scriptNilSpec.pre enc Tryz.prog Tryz.f3 [] false w args ∧ laidMetH Tryz.prog laidL w) ∧ sizedMet enc Tryz.prog Tryz.f3 (OpenSpec.ofChange Rows.scriptNilSpec) false w args)
      (Rows.scriptNilSpec.post enc Tryz.prog Tryz.f3 false true false false) := by
  refine handed_of_change (C := Tryz.checked) (X := fun w _ => laidMetH Tryz.prog laidL w) (fun _ _ _ hh h => h.of_heap hh) own started noInit Tryz.func3 (start_ok os H enc) ?_
  intro W base args ds gs before hsh hval0 hW _ _ hL
  have hsh : W.ShapedOpen Tryz.prog := hsh
  have hval : ∀ (j : Nat) t v, Tryz.f3.params[j]? = some t → args[j]? = some v → Value.okWide Tryz.prog W .any base t v := hval0
  have hW' := hW
  obtain ⟨p, q, hA0, hV, rfl, hfz, hnd⟩ := hW
  have hA : DataW.TrodAll enc Tryz.prog W 0 (fun _ => true) true Tryz.f3.params.toList args.toList ds p := hA0
  rw [Tryz.params3] at hA hval
  obtain ⟨v0, d0, rfl, rfl, h0⟩ := trodAll_one hA
  obtain ⟨rfl, rfl⟩ := trodVars_none hV
  obtain ⟨a0, rfl, rfl, rfl, w0⟩ := open_string Tryz.underlying9 (hval 0 9 v0 rfl rfl) h0
  let τ : Nat → Value := fun _ => .string a0
  rw [MakeChecks.laidMetH_plain _ _ _ (by kernel_rfl)] at hL
  have hv : ∀ x ∈ st0, VarIs τ W x.1 x.2.1 x.2.2 := by
    intro x hx
    simp only [st0, List.mem_cons, List.not_mem_nil, or_false] at hx
    rcases hx with rfl | rfl | rfl | rfl
    · exact var0 hsh hL (List.mem_of_getElem? (i := 1) rfl)
    · exact var1 hsh hL (List.mem_of_getElem? (i := 4) rfl)
    · exact var2 hsh hL (List.mem_of_getElem? (i := 0) rfl)
    · exact var3 hsh hL (List.mem_of_getElem? (i := 3) rfl)
  have E : Env Tryz.prog τ X := env_ok (fun n => ⟨fun _ e => (by cases e), fun _ e => (by cases e)⟩) (fun n b e => (by cases e))
  have hr : RelL τ (ro0 W) [.sym 0] [τ 0] := .cons (.sym 0) .nil
  refine (law_of_rc (evO_ok E (fun _ _ _ _ _ h => (by cases h)) 100000) run_ok hv hr).mono fun e W' ⟨he, bel⟩ => ?_
  subst he
  exact ⟨_, rfl, _, _, _, [], _, [], hW', trodAll_mk1 (shut_bool Tryz.underlying4 _), trodAll_mk1 (shut_string Tryz.underlying9 w0), rfl, bel.frame _, fun h => by cases h⟩
theorem row_ok : Rows.ScriptNilSaid :=
  OpenClaim.holds_of_wide 3 Tryz.f3 rfl rfl rfl rfl rfl rfl rfl ⟨rfl, rfl, rfl, rfl, rfl⟩ rfl rfl rfl rfl rfl named_ok Tryz.func3 facts_ok
    (of_decide_eq_true (by kernel_rfl)) (by unfold Func.isWrapper; first | (rw [if_pos (by decide +kernel)]; kernel_rfl) | (rw [if_neg (by decide +kernel)]; exact ⟨rfl, rfl⟩))
    (fun os started H enc _ => lifted os started H enc)
#print axioms row_ok
end Go.Proofs.YtnonpemcndfbkaaGreatDoor
