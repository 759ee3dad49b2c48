/- The runs of lemmas, part 11: each is run through by the kernel. -/
import Derived.Test.YtfcoffpmcmhieaaGreatDoorWoData
namespace Go.Proofs.YtfcoffpmcmhieaaGreatDoor.Wo
open Go AI
theorem r67 : layH L67.pre 0 H.empty (fun h => enterA Tryz.prog L67.fn L67.args .normal [] h L67.pre.length (run Tryz.prog (extL [L40, L52, L61, L62, L63, L64, L66]) (postOf L67 [181, 182, 183, 184, 185, 186, 187, 188]) 3912)) = true := by kernel_rfl
theorem o67 : lemOk L67 = true := by kernel_rfl
theorem r68 : layH L68.pre 0 H.empty (fun h => enterA Tryz.prog L68.fn L68.args .normal [] h L68.pre.length (run Tryz.prog (extL []) (postOf L68 []) 1208)) = true := by kernel_rfl
theorem o68 : lemOk L68 = true := by kernel_rfl
end Go.Proofs.YtfcoffpmcmhieaaGreatDoor.Wo
