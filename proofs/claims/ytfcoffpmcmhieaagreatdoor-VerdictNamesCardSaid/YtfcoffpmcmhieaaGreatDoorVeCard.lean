/- THE TIED CARD OF VerdictNames (viewportlaw30): the law's row holds, its listed variables tied to the program's text. Conditions: the cells of the row (laid). -/
import Derived.Test.YtfcoffpmcmhieaaGreatDoorVeLaw
import Derived.Test.YtfcoffpmcmhieaaGreatDoorVeRowC
import Derived.Test.YtfcoffpmcmhieaaGreatDoorTieF
import Derived.Test.YtfcoffpmcmhieaaGreatDoorCards
namespace Go.Proofs.YtfcoffpmcmhieaaGreatDoor
open Go
theorem verdictNames_tied : Rows.verdictNamesRow.laidByTextAt .later Tryz.pinned [.data, .data, .data] true :=
  OpenClaim.laidByTextAt_later rfl rfl Ties.tie3 Ties.noOwnUnsafe Ties.tie3Funcs
theorem verdictNames_wf : Rows.verdictNamesRow.wfByText (OpenSpec.ofChange Rows.verdictNamesSpec) = true := by kernel_rfl
theorem verdictNames_goes : false = Rows.verdictNamesRow.goesBy Tryz.prog := by
  have e : Rows.verdictNamesRow.goesBy Tryz.prog = ((Tryz.prog.funcNamed Rows.verdictNamesRow.func).any Tryz.prog.goes || false) := by kernel_rfl
  rw [e, Ve.byName, Option.any_some, Ve.kGoes, Bool.or_false]
theorem verdictNames_looks (f : FuncId) (fn : Func) (hf : Tryz.prog.funcNamed Rows.verdictNamesRow.func = some f) (hfn : Tryz.prog.funcs[f]? = some fn) :
    true = Tryz.prog.looks [] ∧ ∀ (j : Nat) t, fn.params[j]? = some t → Tryz.prog.wantsStandIn t = false := by
  obtain rfl : f = 6 := (Option.some.inj (Ve.byName.symm.trans hf)).symm
  obtain rfl : fn = Tryz.f6 := (Option.some.inj (Tryz.func6.symm.trans hfn)).symm
  exact ⟨Ties.looks, fun j t ht => by
      rw [Tryz.params6] at ht
      simp at ht⟩
theorem verdictNames_card : Rows.VerdictNamesCardSaid :=
  Claim7.holds_tied_plain_at .later [] [.data, .data, .data] true (true, "c515678e7a330f6d0e05356b0395755f32a51dbaf8e6e284bbc6d9e648632e30") true
    Ve.row_holds (fun _ h => by cases h) verdictNames_wf (fun _ h => by cases h) verdictNames_tied rfl ⟨rfl, rfl⟩ Ties.mainIs rfl verdictNames_looks verdictNames_goes
#print axioms verdictNames_card
end Go.Proofs.YtfcoffpmcmhieaaGreatDoor
