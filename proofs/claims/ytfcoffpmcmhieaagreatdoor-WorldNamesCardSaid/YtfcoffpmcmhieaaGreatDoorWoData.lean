/- The lemmas that the law's own run uses. -/
import Derived.Test.YtfcoffpmcmhieaaGreatDoorWoData0
import Derived.Test.YtfcoffpmcmhieaaGreatDoorWoData1
namespace Go.Proofs.YtfcoffpmcmhieaaGreatDoor.Wo
open Go AI
noncomputable section
def lsTop : List Lem := [L29, L40, L55, L56, L57, L58, L60, L67, L68]
end
end Go.Proofs.YtfcoffpmcmhieaaGreatDoor.Wo
