/- THE TIED CARD OF EngineNames (viewportlaw27): the law's row holds, its listed variables tied to the program's text. Conditions: the cells of the row (laid). -/
import Derived.Test.YtfcoffpmcmhieaaGreatDoorEnLaw
import Derived.Test.YtfcoffpmcmhieaaGreatDoorEnRowC
import Derived.Test.YtfcoffpmcmhieaaGreatDoorTieC
import Derived.Test.YtfcoffpmcmhieaaGreatDoorCards
namespace Go.Proofs.YtfcoffpmcmhieaaGreatDoor
open Go
theorem engineNames_tied : Rows.engineNamesRow.laidByTextAt .later Tryz.pinned [.data] true :=
  OpenClaim.laidByTextAt_later rfl rfl Ties.tie1 Ties.noOwnUnsafe Ties.tie1Funcs
theorem engineNames_wf : Rows.engineNamesRow.wfByText (OpenSpec.ofChange Rows.engineNamesSpec) = true := by kernel_rfl
theorem engineNames_goes : false = Rows.engineNamesRow.goesBy Tryz.prog := by
  have e : Rows.engineNamesRow.goesBy Tryz.prog = ((Tryz.prog.funcNamed Rows.engineNamesRow.func).any Tryz.prog.goes || false) := by kernel_rfl
  rw [e, En.byName, Option.any_some, En.kGoes, Bool.or_false]
theorem engineNames_looks (f : FuncId) (fn : Func) (hf : Tryz.prog.funcNamed Rows.engineNamesRow.func = some f) (hfn : Tryz.prog.funcs[f]? = some fn) :
    true = Tryz.prog.looks [] ∧ ∀ (j : Nat) t, fn.params[j]? = some t → Tryz.prog.wantsStandIn t = false := by
  obtain rfl : f = 3 := (Option.some.inj (En.byName.symm.trans hf)).symm
  obtain rfl : fn = Tryz.f3 := (Option.some.inj (Tryz.func3.symm.trans hfn)).symm
  exact ⟨Ties.looks, fun j t ht => by
      rw [Tryz.params3] at ht
      simp at ht⟩
theorem engineNames_card : Rows.EngineNamesCardSaid :=
  Claim7.holds_tied_plain_at .later [] [.data] true (true, "c515678e7a330f6d0e05356b0395755f32a51dbaf8e6e284bbc6d9e648632e30") true
    En.row_holds (fun _ h => by cases h) engineNames_wf (fun _ h => by cases h) engineNames_tied rfl ⟨rfl, rfl⟩ Ties.mainIs rfl engineNames_looks engineNames_goes
#print axioms engineNames_card
end Go.Proofs.YtfcoffpmcmhieaaGreatDoor
