/- The lemmas that the law's own run uses. -/
import Derived.Test.YtfcoffpmcmhieaaGreatDoorVeData0
import Derived.Test.YtfcoffpmcmhieaaGreatDoorVeData1
import Derived.Test.YtfcoffpmcmhieaaGreatDoorVeData2
import Derived.Test.YtfcoffpmcmhieaaGreatDoorVeData3
import Derived.Test.YtfcoffpmcmhieaaGreatDoorVeData4
import Derived.Test.YtfcoffpmcmhieaaGreatDoorVeData5
namespace Go.Proofs.YtfcoffpmcmhieaaGreatDoor.Ve
open Go AI
noncomputable section
def lsTop : List Lem := [L40, L63, L70, L102, L106, L107, L108, L109, L121, L128, L129, L136, L141, L143, L148, L150, L155, L176, L184, L185, L191, L192]
end
end Go.Proofs.YtfcoffpmcmhieaaGreatDoor.Ve
