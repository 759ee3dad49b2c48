/- THE TIED CARD OF MarksNames: the law's row holds, its one listed variable tied to the program's text. Conditions: the cells of the row (laid). -/
import Derived.Test.YtjjahilohhncjaaGreatDoorLaw
import Derived.Test.YtjjahilohhncjaaGreatDoorTie
import Derived.Test.YtjjahilohhncjaaGreatDoorCards
import Derived.SevenTiedAt
namespace Go.Proofs.YtjjahilohhncjaaGreatDoor
open Go
theorem marksNames_card : Rows.MarksNamesCardSaid :=
  Claim7.holds_tied_plain_at .later [] [.data] true (true, "2dca41483dd01a100569d248a3960b92bc63a4eeea491997323474c3e7ebd3ca") true
    row_holds (fun _ h => by cases h) (by kernel_rfl) (fun _ h => by cases h) marksNames_row_tie rfl ⟨rfl, rfl⟩ (by kernel_rfl) rfl
    (fun f fn hf hfn => by
      obtain rfl : f = 3 := Option.some.inj ((show Tryz.prog.funcNamed "viewport/viewportlaw19.MarksNames" = some 3 by kernel_rfl).symm.trans hf) |>.symm
      obtain rfl : fn = Tryz.f3 := (Option.some.inj (Tryz.func3.symm.trans hfn)).symm
      exact ⟨by kernel_rfl, fun j t ht => by
        rw [Tryz.params3] at ht
        simp at ht⟩)
    (by kernel_rfl)
#print axioms marksNames_card
end Go.Proofs.YtjjahilohhncjaaGreatDoor
