/- The runs of lemmas, part 12: each is run through by the kernel. -/
import Derived.Test.YtfcoffpmcmhieaaGreatDoorEnData
namespace Go.Proofs.YtfcoffpmcmhieaaGreatDoor.En
open Go AI
theorem r83 : layH L83.pre 0 H.empty (fun h => enterA Tryz.prog L83.fn L83.args .normal [] h L83.pre.length (run Tryz.prog (extL []) (postOf L83 []) 1359)) = true := by kernel_rfl
theorem o83 : lemOk L83 = true := by kernel_rfl
theorem r84 : layH L84.pre 0 H.empty (fun h => enterA Tryz.prog L84.fn L84.args .normal [] h L84.pre.length (run Tryz.prog (extL []) (postOf L84 []) 1359)) = true := by kernel_rfl
theorem o84 : lemOk L84 = true := by kernel_rfl
theorem r85 : layH L85.pre 0 H.empty (fun h => enterA Tryz.prog L85.fn L85.args .normal [] h L85.pre.length (run Tryz.prog (extL []) (postOf L85 []) 1659)) = true := by kernel_rfl
theorem o85 : lemOk L85 = true := by kernel_rfl
theorem r86 : layH L86.pre 0 H.empty (fun h => enterA Tryz.prog L86.fn L86.args .normal [] h L86.pre.length (run Tryz.prog (extL []) (postOf L86 []) 1359)) = true := by kernel_rfl
theorem o86 : lemOk L86 = true := by kernel_rfl
theorem r87 : layH L87.pre 0 H.empty (fun h => enterA Tryz.prog L87.fn L87.args .normal [] h L87.pre.length (run Tryz.prog (extL []) (postOf L87 []) 1295)) = true := by kernel_rfl
theorem o87 : lemOk L87 = true := by kernel_rfl
theorem r88 : layH L88.pre 0 H.empty (fun h => enterA Tryz.prog L88.fn L88.args .normal [] h L88.pre.length (run Tryz.prog (extL []) (postOf L88 []) 1329)) = true := by kernel_rfl
theorem o88 : lemOk L88 = true := by kernel_rfl
theorem r89 : layH L89.pre 0 H.empty (fun h => enterA Tryz.prog L89.fn L89.args .normal [] h L89.pre.length (run Tryz.prog (extL [L82, L83, L84, L85, L86, L87, L88]) (postOf L89 [62, 22, 31, 45]) 4951)) = true := by kernel_rfl
theorem o89 : lemOk L89 = true := by kernel_rfl
theorem r90 : layH L90.pre 0 H.empty (fun h => enterA Tryz.prog L90.fn L90.args .normal [] h L90.pre.length (run Tryz.prog (extL [L89]) (postOf L90 [50, 49, 51, 52, 53]) 2003)) = true := by kernel_rfl
theorem o90 : lemOk L90 = true := by kernel_rfl
theorem r91 : layH L91.pre 0 H.empty (fun h => enterA Tryz.prog L91.fn L91.args .normal [] h L91.pre.length (run Tryz.prog (extL []) (postOf L91 []) 3161)) = true := by kernel_rfl
theorem o91 : lemOk L91 = true := by kernel_rfl
theorem r92 : layH L92.pre 0 H.empty (fun h => enterA Tryz.prog L92.fn L92.args .normal [] h L92.pre.length (run Tryz.prog (extL [L91]) (postOf L92 []) 1725)) = true := by kernel_rfl
theorem o92 : lemOk L92 = true := by kernel_rfl
theorem r93 : layH L93.pre 0 H.empty (fun h => enterA Tryz.prog L93.fn L93.args .normal [] h L93.pre.length (run Tryz.prog (extL []) (postOf L93 []) 2285)) = true := by kernel_rfl
theorem o93 : lemOk L93 = true := by kernel_rfl
theorem r94 : layH L94.pre 0 H.empty (fun h => enterA Tryz.prog L94.fn L94.args .normal [] h L94.pre.length (run Tryz.prog (extL [L91, L92, L93]) (postOf L94 [108, 107, 81, 95]) 1901)) = true := by kernel_rfl
theorem o94 : lemOk L94 = true := by kernel_rfl
theorem r95 : layH L95.pre 0 H.empty (fun h => enterA Tryz.prog L95.fn L95.args .normal [] h L95.pre.length (run Tryz.prog (extL [L8, L9]) (postOf L95 []) 1342)) = true := by kernel_rfl
theorem o95 : lemOk L95 = true := by kernel_rfl
theorem r96 : layH L96.pre 0 H.empty (fun h => enterA Tryz.prog L96.fn L96.args .normal [] h L96.pre.length (run Tryz.prog (extL [L93, L95]) (postOf L96 [151, 147, 141, 123]) 4107)) = true := by kernel_rfl
theorem o96 : lemOk L96 = true := by kernel_rfl
theorem r97 : layH L97.pre 0 H.empty (fun h => enterA Tryz.prog L97.fn L97.args .normal [] h L97.pre.length (run Tryz.prog (extL []) (postOf L97 []) 2285)) = true := by kernel_rfl
theorem o97 : lemOk L97 = true := by kernel_rfl
end Go.Proofs.YtfcoffpmcmhieaaGreatDoor.En
