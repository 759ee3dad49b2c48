/- The lemmas that the law's own run uses. -/
import Derived.Test.YtfcoffpmcmhieaaGreatDoorEnData0
import Derived.Test.YtfcoffpmcmhieaaGreatDoorEnData1
namespace Go.Proofs.YtfcoffpmcmhieaaGreatDoor.En
open Go AI
noncomputable section
def lsTop : List Lem := [L22, L33, L48, L64, L68, L69, L72, L74, L124, L125]
end
end Go.Proofs.YtfcoffpmcmhieaaGreatDoor.En
