/- The runs of lemmas, part 22: each is run through by the kernel. -/
import Derived.Test.YtfcoffpmcmhieaaGreatDoorNilData
namespace Go.Proofs.YtfcoffpmcmhieaaGreatDoor.Nil
open Go AI
theorem e58 : startF (run Tryz.prog (extL [L55, L57]) (postOf L58 [125, 19]) 2585) S58_1 = true := by kernel_rfl
theorem o58 : lemOk L58 = true := by kernel_rfl
theorem r59 : layH L59.pre 0 H.empty (fun h => enterA Tryz.prog L59.fn L59.args .normal [] h L59.pre.length (run Tryz.prog (extL [L50, L51, L52, L53, L54, L58]) (postOf L59 [66, 67, 56]) 1848)) = true := by kernel_rfl
theorem o59 : lemOk L59 = true := by kernel_rfl
theorem r60 : layH L60.pre 0 H.empty (fun h => enterA Tryz.prog L60.fn L60.args .normal [] h L60.pre.length (run Tryz.prog (extL []) (postOf L60 []) 1888)) = true := by kernel_rfl
theorem o60 : lemOk L60 = true := by kernel_rfl
theorem r61 : layH L61.pre 0 H.empty (fun h => enterA Tryz.prog L61.fn L61.args .normal [] h L61.pre.length (run Tryz.prog (extL []) (postOf L61 []) 1476)) = true := by kernel_rfl
theorem o61 : lemOk L61 = true := by kernel_rfl
theorem r62 : layH L62.pre 0 H.empty (fun h => enterA Tryz.prog L62.fn L62.args .normal [] h L62.pre.length (run Tryz.prog (extL []) (postOf L62 [14, 90]) 3812)) = true := by kernel_rfl
theorem o62 : lemOk L62 = true := by kernel_rfl
theorem r63 : layH L63.pre 0 H.empty (fun h => enterA Tryz.prog L63.fn L63.args .normal [] h L63.pre.length (run Tryz.prog (extL [L62]) (postOf L63 [16, 31]) 1445)) = true := by kernel_rfl
theorem o63 : lemOk L63 = true := by kernel_rfl
theorem r64 : layH L64.pre 0 H.empty (fun h => enterA Tryz.prog L64.fn L64.args .normal [] h L64.pre.length (run Tryz.prog (extL [L62, L63]) (postOf L64 [48, 34, 46]) 1921)) = true := by kernel_rfl
theorem o64 : lemOk L64 = true := by kernel_rfl
theorem r65 : layH L65.pre 0 H.empty (fun h => enterA Tryz.prog L65.fn L65.args .normal [] h L65.pre.length (run Tryz.prog (extL [L60, L61, L64]) (postOf L65 [29]) 1670)) = true := by kernel_rfl
theorem o65 : lemOk L65 = true := by kernel_rfl
theorem r66 : layH L66.pre 0 H.empty (fun h => enterA Tryz.prog L66.fn L66.args .normal [] h L66.pre.length (run Tryz.prog (extL [L60, L61, L64]) (postOf L66 [39]) 2297)) = true := by kernel_rfl
theorem o66 : lemOk L66 = true := by kernel_rfl
theorem r67 : layH L67.pre 0 H.empty (fun h => enterA Tryz.prog L67.fn L67.args .normal [] h L67.pre.length (run Tryz.prog (extL [L59, L60, L61, L63, L64, L65, L66]) (postOf L67 [76, 12, 13, 14, 65, 47, 71, 60, 63, 48, 49, 69]) 2812)) = true := by kernel_rfl
theorem o67 : lemOk L67 = true := by kernel_rfl
theorem r68 : layH L68.pre 0 H.empty (fun h => enterA Tryz.prog L68.fn L68.args .normal [] h L68.pre.length (run Tryz.prog (extL [L55]) (postOf L68 []) 1254)) = true := by kernel_rfl
theorem o68 : lemOk L68 = true := by kernel_rfl
theorem r69 : layH L69.pre 0 H.empty (fun h => enterA Tryz.prog L69.fn L69.args .normal [] h L69.pre.length (run Tryz.prog (extL [L55]) (postOf L69 [19]) 1211)) = true := by kernel_rfl
theorem o69 : lemOk L69 = true := by kernel_rfl
theorem r70 : layH L70.pre 0 H.empty (fun h => enterA Tryz.prog L70.fn L70.args .normal [] h L70.pre.length (run Tryz.prog (extL [L55, L68, L69]) (postOf L70 [54, 52]) 1623)) = true := by kernel_rfl
theorem o70 : lemOk L70 = true := by kernel_rfl
theorem r71 : layH L71.pre 0 H.empty (fun h => enterA Tryz.prog L71.fn L71.args .normal [] h L71.pre.length (run Tryz.prog (extL [L55, L70]) (postOf L71 [79, 71, 76]) 2695)) = true := by kernel_rfl
theorem o71 : lemOk L71 = true := by kernel_rfl
theorem r72 : layH L72.pre 0 H.empty (fun h => enterA Tryz.prog L72.fn L72.args .normal [] h L72.pre.length (run Tryz.prog (extL [L29, L38, L49, L55, L67, L71]) (postOf L72 []) 3114)) = true := by kernel_rfl
theorem o72 : lemOk L72 = true := by kernel_rfl
end Go.Proofs.YtfcoffpmcmhieaaGreatDoor.Nil
