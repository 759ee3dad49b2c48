/- THE TIED CARD OF EngineNil (viewportlaw27): the law's row holds, its listed variables tied to the program's text. Conditions: the cells of the row (laid). -/
import Derived.Test.YtfcoffpmcmhieaaGreatDoorNilLaw
import Derived.Test.YtfcoffpmcmhieaaGreatDoorNilRowC
import Derived.Test.YtfcoffpmcmhieaaGreatDoorTieC
import Derived.Test.YtfcoffpmcmhieaaGreatDoorCards
namespace Go.Proofs.YtfcoffpmcmhieaaGreatDoor
open Go
theorem engineNil_tied : Rows.engineNilRow.laidByTextAt .later Tryz.pinned [.data] true :=
  OpenClaim.laidByTextAt_later rfl rfl Ties.tie1 Ties.noOwnUnsafe Ties.tie1Funcs
theorem engineNil_wf : Rows.engineNilRow.wfByText (OpenSpec.ofChange Rows.engineNilSpec) = true := by kernel_rfl
theorem want3 : Tryz.prog.wantsStandIn 3 = false := by kernel_rfl
theorem want9 : Tryz.prog.wantsStandIn 9 = false := by kernel_rfl
theorem engineNil_goes : false = Rows.engineNilRow.goesBy Tryz.prog := by
  have e : Rows.engineNilRow.goesBy Tryz.prog = ((Tryz.prog.funcNamed Rows.engineNilRow.func).any Tryz.prog.goes || false) := by kernel_rfl
  rw [e, Nil.byName, Option.any_some, Nil.kGoes, Bool.or_false]
theorem engineNil_looks (f : FuncId) (fn : Func) (hf : Tryz.prog.funcNamed Rows.engineNilRow.func = some f) (hfn : Tryz.prog.funcs[f]? = some fn) :
    true = Tryz.prog.looks [] ∧ ∀ (j : Nat) t, fn.params[j]? = some t → Tryz.prog.wantsStandIn t = false := by
  obtain rfl : f = 4 := (Option.some.inj (Nil.byName.symm.trans hf)).symm
  obtain rfl : fn = Tryz.f4 := (Option.some.inj (Tryz.func4.symm.trans hfn)).symm
  exact ⟨Ties.looks, fun j t ht => by
      rw [Tryz.params4] at ht
      match j, ht with
      | 0, ht => simp at ht; subst ht; exact want3
      | 1, ht => simp at ht; subst ht; exact want3
      | 2, ht => simp at ht; subst ht; exact want9
      | j + 3, ht => simp at ht⟩
theorem engineNil_card : Rows.EngineNilCardSaid :=
  Claim7.holds_tied_plain_at .later [] [.data] true (true, "c515678e7a330f6d0e05356b0395755f32a51dbaf8e6e284bbc6d9e648632e30") true
    Nil.row_holds (fun _ h => by cases h) engineNil_wf (fun _ h => by cases h) engineNil_tied rfl ⟨rfl, rfl⟩ Ties.mainIs rfl engineNil_looks engineNil_goes
#print axioms engineNil_card
end Go.Proofs.YtfcoffpmcmhieaaGreatDoor
