/- The runs of lemmas, part 10: each is run through by the kernel. -/
import Derived.Test.YtfcoffpmcmhieaaGreatDoorEnData
namespace Go.Proofs.YtfcoffpmcmhieaaGreatDoor.En
open Go AI
theorem r55 : layH L55.pre 0 H.empty (fun h => enterA Tryz.prog L55.fn L55.args .normal [] h L55.pre.length (run Tryz.prog (extL []) (postOf L55 []) 1624)) = true := by kernel_rfl
theorem o55 : lemOk L55 = true := by kernel_rfl
theorem r56 : layH L56.pre 0 H.empty (fun h => enterA Tryz.prog L56.fn L56.args .normal [] h L56.pre.length (run Tryz.prog (extL []) (postOf L56 []) 1329)) = true := by kernel_rfl
theorem o56 : lemOk L56 = true := by kernel_rfl
theorem r57 : layH L57.pre 0 H.empty (fun h => enterA Tryz.prog L57.fn L57.args .normal [] h L57.pre.length (run Tryz.prog (extL []) (postOf L57 []) 1517)) = true := by kernel_rfl
theorem o57 : lemOk L57 = true := by kernel_rfl
theorem r58 : layH L58.pre 0 H.empty (fun h => enterA Tryz.prog L58.fn L58.args .normal [] h L58.pre.length (run Tryz.prog (extL []) (postOf L58 []) 1288)) = true := by kernel_rfl
theorem o58 : lemOk L58 = true := by kernel_rfl
theorem r59 : layH L59.pre 0 H.empty (fun h => enterA Tryz.prog L59.fn L59.args .normal [] h L59.pre.length (run Tryz.prog (extL []) (postOf L59 []) 1517)) = true := by kernel_rfl
theorem o59 : lemOk L59 = true := by kernel_rfl
theorem r60 : layH L60.pre 0 H.empty (fun h => enterA Tryz.prog L60.fn L60.args .normal [] h L60.pre.length (run Tryz.prog (extL []) (postOf L60 []) 1288)) = true := by kernel_rfl
theorem o60 : lemOk L60 = true := by kernel_rfl
theorem r61 : layH L61.pre 0 H.empty (fun h => enterA Tryz.prog L61.fn L61.args .normal [] h L61.pre.length (run Tryz.prog (extL []) (postOf L61 []) 1254)) = true := by kernel_rfl
theorem o61 : lemOk L61 = true := by kernel_rfl
theorem r62 : layH L62.pre 0 H.empty (fun h => enterA Tryz.prog L62.fn L62.args .normal [] h L62.pre.length (run Tryz.prog (extL []) (postOf L62 []) 1288)) = true := by kernel_rfl
theorem o62 : lemOk L62 = true := by kernel_rfl
theorem r63 : layH L63.pre 0 H.empty (fun h => enterA Tryz.prog L63.fn L63.args .normal [] h L63.pre.length (run Tryz.prog (extL [L51, L52, L53, L54, L55, L56, L57, L58, L59, L60, L61, L62]) (postOf L63 [18, 19, 20, 21, 22, 23]) 6130)) = true := by kernel_rfl
theorem o63 : lemOk L63 = true := by kernel_rfl
theorem r64 : layH L64.pre 0 H.empty (fun h => enterA Tryz.prog L64.fn L64.args .normal [] h L64.pre.length (run Tryz.prog (extL [L49, L63]) (postOf L64 [42, 41, 43, 44, 45, 46, 47]) 1483)) = true := by kernel_rfl
theorem o64 : lemOk L64 = true := by kernel_rfl
theorem r65 : layH L65.pre 0 H.empty (fun h => enterA Tryz.prog L65.fn L65.args .normal [] h L65.pre.length (run Tryz.prog (extL []) (postOf L65 []) 1355)) = true := by kernel_rfl
theorem o65 : lemOk L65 = true := by kernel_rfl
theorem r66 : layH L66.pre 0 H.empty (fun h => enterA Tryz.prog L66.fn L66.args .normal [] h L66.pre.length (run Tryz.prog (extL [L65]) (postOf L66 []) 3566)) = true := by kernel_rfl
theorem o66 : lemOk L66 = true := by kernel_rfl
theorem r67 : layH L67.pre 0 H.empty (fun h => enterA Tryz.prog L67.fn L67.args .normal [] h L67.pre.length (run Tryz.prog (extL [L66]) (postOf L67 [16]) 1542)) = true := by kernel_rfl
theorem o67 : lemOk L67 = true := by kernel_rfl
theorem r68 : layH L68.pre 0 H.empty (fun h => enterA Tryz.prog L68.fn L68.args .normal [] h L68.pre.length (run Tryz.prog (extL [L66, L67]) (postOf L68 [14]) 2154)) = true := by kernel_rfl
theorem o68 : lemOk L68 = true := by kernel_rfl
theorem r69 : layH L69.pre 0 H.empty (fun h => enterA Tryz.prog L69.fn L69.args .normal [] h L69.pre.length (run Tryz.prog (extL []) (postOf L69 [13, 12, 10, 23, 11]) 1533)) = true := by kernel_rfl
theorem o69 : lemOk L69 = true := by kernel_rfl
end Go.Proofs.YtfcoffpmcmhieaaGreatDoor.En
