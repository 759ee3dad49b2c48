/- The runs of lemmas, part 23: each is run through by the kernel. -/
import Derived.Test.YtfcoffpmcmhieaaGreatDoorEnData
namespace Go.Proofs.YtfcoffpmcmhieaaGreatDoor.En
open Go AI
theorem r108 : layH L108.pre 0 H.empty (fun h => enterA Tryz.prog L108.fn L108.args .normal [] h L108.pre.length (run Tryz.prog (extL []) (postOf L108 []) 3299)) = true := by kernel_rfl
theorem o108 : lemOk L108 = true := by kernel_rfl
theorem r109 : layH L109.pre 0 H.empty (fun h => enterA Tryz.prog L109.fn L109.args .normal [] h L109.pre.length (run Tryz.prog (extL [L108]) (postOf L109 [26]) 1197)) = true := by kernel_rfl
theorem o109 : lemOk L109 = true := by kernel_rfl
end Go.Proofs.YtfcoffpmcmhieaaGreatDoor.En
