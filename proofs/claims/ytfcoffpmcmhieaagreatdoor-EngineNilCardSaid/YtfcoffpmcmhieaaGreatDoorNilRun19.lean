/- The runs of lemmas, part 19: each is run through by the kernel. -/
import Derived.Test.YtfcoffpmcmhieaaGreatDoorNilData
namespace Go.Proofs.YtfcoffpmcmhieaaGreatDoor.Nil
open Go AI
theorem r56 : layH L56.pre 0 H.empty (fun h => enterA Tryz.prog L56.fn L56.args .normal [] h L56.pre.length (run Tryz.prog (extL []) (postOf L56 []) 3299)) = true := by kernel_rfl
theorem o56 : lemOk L56 = true := by kernel_rfl
theorem r57 : layH L57.pre 0 H.empty (fun h => enterA Tryz.prog L57.fn L57.args .normal [] h L57.pre.length (run Tryz.prog (extL [L56]) (postOf L57 [26]) 1197)) = true := by kernel_rfl
theorem o57 : lemOk L57 = true := by kernel_rfl
end Go.Proofs.YtfcoffpmcmhieaaGreatDoor.Nil
