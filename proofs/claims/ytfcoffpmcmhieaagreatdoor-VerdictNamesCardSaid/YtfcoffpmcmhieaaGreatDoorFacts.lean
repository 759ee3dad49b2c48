/- Closed facts of the program, each by itself: memory is laid out as its types tell. -/
import Derived.Test.YtfcoffpmcmhieaaGreatDoorRows
import Derived.ProofKit
import Derived.LaidLaws
import Derived.OpenShut
import Derived.Handed
namespace Go.Proofs.YtfcoffpmcmhieaaGreatDoor.Facts
open Go
theorem lo1 : (List.range Tryz.prog.types.size).all (rowFine Tryz.prog) = true := by kernel_rfl
theorem lo2 : Tryz.prog.globals.all (fun g => decide (g.type < Tryz.prog.types.size)) = true := by kernel_rfl
theorem lo3 : Tryz.prog.funcs.all (fun f => f.params.all fun t => decide (t < Tryz.prog.types.size)) = true := by kernel_rfl
theorem lo : laidOutB Tryz.prog = true := by
  unfold laidOutB
  simp only [Bool.and_eq_true]
  exact ⟨⟨lo1, lo2⟩, lo3⟩
theorem mr : mapsRowed Tryz.prog = true := by kernel_rfl
end Go.Proofs.YtfcoffpmcmhieaaGreatDoor.Facts
