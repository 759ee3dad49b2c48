/- The row's closed facts, joined. -/
import Derived.Test.YtfcoffpmcmhieaaGreatDoorVeRowA
import Derived.Test.YtfcoffpmcmhieaaGreatDoorFacts
namespace Go.Proofs.YtfcoffpmcmhieaaGreatDoor.Ve
open Go
set_option maxHeartbeats 0 in
theorem joined : joinedFacts Tryz.prog 6 Tryz.f6 Rows.verdictNamesSpec Rows.verdictNamesRow = true := by
  unfold joinedFacts
  simp only [Bool.and_eq_true]
  repeat' apply And.intro
  · as_aux_lemma => kernel_rfl
  · exact Facts.lo
  · exact Facts.mr
  · as_aux_lemma => kernel_rfl
  · as_aux_lemma => kernel_rfl
  · as_aux_lemma => kernel_rfl
  · as_aux_lemma => kernel_rfl
  · as_aux_lemma => kernel_rfl
  · as_aux_lemma => kernel_rfl
  · exact kInPlace
  · exact kUnf2
  · exact kRec
  · exact kNamed
  · as_aux_lemma => kernel_rfl
  · as_aux_lemma => kernel_rfl
  · as_aux_lemma => kernel_rfl
  · as_aux_lemma => kernel_rfl
  · as_aux_lemma => kernel_rfl
  · as_aux_lemma => kernel_rfl
  · as_aux_lemma => kernel_rfl
  · as_aux_lemma => kernel_rfl
  · as_aux_lemma => kernel_rfl
  · as_aux_lemma => kernel_rfl
  · as_aux_lemma => kernel_rfl
  · as_aux_lemma => kernel_rfl
  · as_aux_lemma => kernel_rfl
  · as_aux_lemma => kernel_rfl
  · as_aux_lemma => kernel_rfl
  · as_aux_lemma => kernel_rfl
  · as_aux_lemma => kernel_rfl
  · as_aux_lemma => kernel_rfl
  · as_aux_lemma => kernel_rfl
theorem byName : Tryz.prog.funcNamed Rows.verdictNamesRow.func = some 6 := by kernel_rfl
theorem inst : Tryz.f6.isInstance Tryz.prog Rows.verdictNamesRow.origin Rows.verdictNamesRow.targs := of_decide_eq_true (by kernel_rfl)
theorem wrap : Tryz.f6.isWrapper Tryz.prog Rows.verdictNamesRow.wrapper Rows.verdictNamesRow.mainSum := by unfold Func.isWrapper; rw [if_neg (of_decide_eq_false (by kernel_rfl))]; exact ⟨rfl, rfl⟩
end Go.Proofs.YtfcoffpmcmhieaaGreatDoor.Ve
