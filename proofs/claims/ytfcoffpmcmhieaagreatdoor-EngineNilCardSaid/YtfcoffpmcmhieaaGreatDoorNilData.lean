/- The lemmas that the law's own run uses. -/
import Derived.Test.YtfcoffpmcmhieaaGreatDoorNilData0
import Derived.Test.YtfcoffpmcmhieaaGreatDoorNilData1
namespace Go.Proofs.YtfcoffpmcmhieaaGreatDoor.Nil
open Go AI
noncomputable section
def lsTop : List Lem := [L72]
end
end Go.Proofs.YtfcoffpmcmhieaaGreatDoor.Nil
