/-
  DERIVED. GIVEN WITH THE SEED: THE CARDS: each row of YtfcoffpmcmhieaaGreatDoorRows.lean that lists a variable, with what it lists TIED to the program's text (the seventh form; the later family's looks); each row that meets fmt, with fmt's text TOLD by the authors' own Lean function (tested against real Go, not proved from fmt's source: count such statements apart). THE CARD IS WHAT COUNTS. Prove the row's statement (the work); the ties are given (YtfcoffpmcmhieaaGreatDoorTie.lean); close each card by the builder's one call (the guide's Derived/Test/ToyasCard.lean, 'card_holds'). Laid BY PROGRAM, IN A SANDBOX (cutbox-door.mjs). By AI agents, Wed Nov 11 2026. No macro, syntax, notation, axiom, sorry.
-/
import Derived.Test.YtfcoffpmcmhieaaGreatDoorRows
import GoSem.ClaimSeven
namespace Go.Proofs.YtfcoffpmcmhieaaGreatDoor
namespace Rows

/-- THE TIED CARD OF 'viewportlaw27.EngineNames'. -/
def engineNamesCard : Claim7 := { stood := { row := engineNamesRow, standIns := [], harness := (true, "c515678e7a330f6d0e05356b0395755f32a51dbaf8e6e284bbc6d9e648632e30"), looks := true }, kinds := [], alts := [], laidByText := true, laidKinds := [.data], laidTests := true, laidLooks := .later }
def EngineNamesCardSaid : Prop := Claim7.holds Tryz.pinned (.plain (OpenSpec.ofChange engineNamesSpec)) engineNamesCard

/-- THE TIED CARD OF 'viewportlaw27.EngineNil'. -/
def engineNilCard : Claim7 := { stood := { row := engineNilRow, standIns := [], harness := (true, "c515678e7a330f6d0e05356b0395755f32a51dbaf8e6e284bbc6d9e648632e30"), looks := true }, kinds := [], alts := [], laidByText := true, laidKinds := [.data], laidTests := true, laidLooks := .later }
def EngineNilCardSaid : Prop := Claim7.holds Tryz.pinned (.plain (OpenSpec.ofChange engineNilSpec)) engineNilCard

/-- THE TIED CARD OF 'viewportlaw29.WorldNames'. -/
def worldNamesCard : Claim7 := { stood := { row := worldNamesRow, standIns := [], harness := (true, "c515678e7a330f6d0e05356b0395755f32a51dbaf8e6e284bbc6d9e648632e30"), looks := true }, kinds := [], alts := [], laidByText := true, laidKinds := [.data], laidTests := true, laidLooks := .later }
def WorldNamesCardSaid : Prop := Claim7.holds Tryz.pinned (.plain (OpenSpec.ofChange worldNamesSpec)) worldNamesCard

/-- THE TIED CARD OF 'viewportlaw30.VerdictNames'. -/
def verdictNamesCard : Claim7 := { stood := { row := verdictNamesRow, standIns := [], harness := (true, "c515678e7a330f6d0e05356b0395755f32a51dbaf8e6e284bbc6d9e648632e30"), looks := true }, kinds := [], alts := [], laidByText := true, laidKinds := [.data, .data, .data], laidTests := true, laidLooks := .later }
def VerdictNamesCardSaid : Prop := Claim7.holds Tryz.pinned (.plain (OpenSpec.ofChange verdictNamesSpec)) verdictNamesCard

/-- THE SECOND FORM's CARD OF 'viewportlaw27.EngineNames'. -/
def engineNamesUptoCard : Claim7 := { stood := { row := engineNamesUptoRow, standIns := [], harness := (true, "c515678e7a330f6d0e05356b0395755f32a51dbaf8e6e284bbc6d9e648632e30"), looks := true }, kinds := [], alts := [], laidByText := true, laidKinds := [.data], laidTests := true, laidLooks := .later }
def EngineNamesUptoCardSaid : Prop := Claim7.holds Tryz.pinned (.plain (OpenSpec.upto engineNamesSpec)) engineNamesUptoCard

/-- THE SECOND FORM's CARD OF 'viewportlaw27.EngineNil'. -/
def engineNilUptoCard : Claim7 := { stood := { row := engineNilUptoRow, standIns := [], harness := (true, "c515678e7a330f6d0e05356b0395755f32a51dbaf8e6e284bbc6d9e648632e30"), looks := true }, kinds := [], alts := [], laidByText := true, laidKinds := [.data], laidTests := true, laidLooks := .later }
def EngineNilUptoCardSaid : Prop := Claim7.holds Tryz.pinned (.plain (OpenSpec.upto engineNilSpec)) engineNilUptoCard

/-- THE SECOND FORM's CARD OF 'viewportlaw29.WorldNames'. -/
def worldNamesUptoCard : Claim7 := { stood := { row := worldNamesUptoRow, standIns := [], harness := (true, "c515678e7a330f6d0e05356b0395755f32a51dbaf8e6e284bbc6d9e648632e30"), looks := true }, kinds := [], alts := [], laidByText := true, laidKinds := [.data], laidTests := true, laidLooks := .later }
def WorldNamesUptoCardSaid : Prop := Claim7.holds Tryz.pinned (.plain (OpenSpec.upto worldNamesSpec)) worldNamesUptoCard

/-- THE SECOND FORM's CARD OF 'viewportlaw30.VerdictNames'. -/
def verdictNamesUptoCard : Claim7 := { stood := { row := verdictNamesUptoRow, standIns := [], harness := (true, "c515678e7a330f6d0e05356b0395755f32a51dbaf8e6e284bbc6d9e648632e30"), looks := true }, kinds := [], alts := [], laidByText := true, laidKinds := [.data, .data, .data], laidTests := true, laidLooks := .later }
def VerdictNamesUptoCardSaid : Prop := Claim7.holds Tryz.pinned (.plain (OpenSpec.upto verdictNamesSpec)) verdictNamesUptoCard
end Rows
end Go.Proofs.YtfcoffpmcmhieaaGreatDoor
