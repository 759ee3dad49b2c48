/- THE TIED CARD OF WorldNames (viewportlaw29): the law's row holds, its listed variables tied to the program's text. Conditions: the cells of the row (laid). -/
import Derived.Test.YtfcoffpmcmhieaaGreatDoorWoLaw
import Derived.Test.YtfcoffpmcmhieaaGreatDoorWoRowC
import Derived.Test.YtfcoffpmcmhieaaGreatDoorTieC
import Derived.Test.YtfcoffpmcmhieaaGreatDoorCards
namespace Go.Proofs.YtfcoffpmcmhieaaGreatDoor
open Go
theorem worldNames_tied : Rows.worldNamesRow.laidByTextAt .later Tryz.pinned [.data] true :=
  OpenClaim.laidByTextAt_later rfl rfl Ties.tie1 Ties.noOwnUnsafe Ties.tie1Funcs
theorem worldNames_wf : Rows.worldNamesRow.wfByText (OpenSpec.ofChange Rows.worldNamesSpec) = true := by kernel_rfl
theorem worldNames_goes : false = Rows.worldNamesRow.goesBy Tryz.prog := by
  have e : Rows.worldNamesRow.goesBy Tryz.prog = ((Tryz.prog.funcNamed Rows.worldNamesRow.func).any Tryz.prog.goes || false) := by kernel_rfl
  rw [e, Wo.byName, Option.any_some, Wo.kGoes, Bool.or_false]
theorem worldNames_looks (f : FuncId) (fn : Func) (hf : Tryz.prog.funcNamed Rows.worldNamesRow.func = some f) (hfn : Tryz.prog.funcs[f]? = some fn) :
    true = Tryz.prog.looks [] ∧ ∀ (j : Nat) t, fn.params[j]? = some t → Tryz.prog.wantsStandIn t = false := by
  obtain rfl : f = 5 := (Option.some.inj (Wo.byName.symm.trans hf)).symm
  obtain rfl : fn = Tryz.f5 := (Option.some.inj (Tryz.func5.symm.trans hfn)).symm
  exact ⟨Ties.looks, fun j t ht => by
      rw [Tryz.params5] at ht
      simp at ht⟩
theorem worldNames_card : Rows.WorldNamesCardSaid :=
  Claim7.holds_tied_plain_at .later [] [.data] true (true, "c515678e7a330f6d0e05356b0395755f32a51dbaf8e6e284bbc6d9e648632e30") true
    Wo.row_holds (fun _ h => by cases h) worldNames_wf (fun _ h => by cases h) worldNames_tied rfl ⟨rfl, rfl⟩ Ties.mainIs rfl worldNames_looks worldNames_goes
#print axioms worldNames_card
end Go.Proofs.YtfcoffpmcmhieaaGreatDoor
