/- The runs of lemmas, part 11: each is run through by the kernel. -/
import Derived.Test.YtfcoffpmcmhieaaGreatDoorEnData
namespace Go.Proofs.YtfcoffpmcmhieaaGreatDoor.En
open Go AI
theorem r70 : layH L70.pre 0 H.empty (fun h => enterA Tryz.prog L70.fn L70.args .normal [] h L70.pre.length (run Tryz.prog (extL [L66]) (postOf L70 []) 4986)) = true := by kernel_rfl
theorem o70 : lemOk L70 = true := by kernel_rfl
theorem r71 : layH L71.pre 0 H.empty (fun h => enterA Tryz.prog L71.fn L71.args .normal [] h L71.pre.length (run Tryz.prog (extL []) (postOf L71 []) 1409)) = true := by kernel_rfl
theorem o71 : lemOk L71 = true := by kernel_rfl
theorem r72 : layH L72.pre 0 H.empty (fun h => enterA Tryz.prog L72.fn L72.args .normal [] h L72.pre.length (run Tryz.prog (extL [L66, L70, L71]) (postOf L72 [96, 95, 83]) 2280)) = true := by kernel_rfl
theorem o72 : lemOk L72 = true := by kernel_rfl
theorem r73 : layH L73.pre 0 H.empty (fun h => enterA Tryz.prog L73.fn L73.args .normal [] h L73.pre.length (run Tryz.prog (extL [L8, L9]) (postOf L73 []) 1224)) = true := by kernel_rfl
theorem o73 : lemOk L73 = true := by kernel_rfl
theorem r74 : layH L74.pre 0 H.empty (fun h => enterA Tryz.prog L74.fn L74.args .normal [] h L74.pre.length (run Tryz.prog (extL [L8, L9, L71, L73]) (postOf L74 [166, 118, 120]) 5649)) = true := by kernel_rfl
theorem o74 : lemOk L74 = true := by kernel_rfl
theorem r75 : layH L75.pre 0 H.empty (fun h => enterA Tryz.prog L75.fn L75.args .normal [] h L75.pre.length (run Tryz.prog (extL [L8, L9]) (postOf L75 []) 1929)) = true := by kernel_rfl
theorem o75 : lemOk L75 = true := by kernel_rfl
theorem r76 : layH L76.pre 0 H.empty (fun h => enterA Tryz.prog L76.fn L76.args .normal [] h L76.pre.length (run Tryz.prog (extL [L8, L9]) (postOf L76 []) 1235)) = true := by kernel_rfl
theorem o76 : lemOk L76 = true := by kernel_rfl
theorem r77 : layH L77.pre 0 H.empty (fun h => enterA Tryz.prog L77.fn L77.args .normal [] h L77.pre.length (run Tryz.prog (extL [L8, L9]) (postOf L77 []) 1224)) = true := by kernel_rfl
theorem o77 : lemOk L77 = true := by kernel_rfl
theorem r78 : layH L78.pre 0 H.empty (fun h => enterA Tryz.prog L78.fn L78.args .normal [] h L78.pre.length (run Tryz.prog (extL [L8, L9, L77]) (postOf L78 []) 1298)) = true := by kernel_rfl
theorem o78 : lemOk L78 = true := by kernel_rfl
theorem r79 : layH L79.pre 0 H.empty (fun h => enterA Tryz.prog L79.fn L79.args .normal [] h L79.pre.length (run Tryz.prog (extL [L8, L9]) (postOf L79 []) 1376)) = true := by kernel_rfl
theorem o79 : lemOk L79 = true := by kernel_rfl
theorem r80 : layH L80.pre 0 H.empty (fun h => enterA Tryz.prog L80.fn L80.args .normal [] h L80.pre.length (run Tryz.prog (extL [L8, L9, L75, L76, L77, L78, L79]) (postOf L80 [102, 83, 26, 63, 104]) 4051)) = true := by kernel_rfl
theorem o80 : lemOk L80 = true := by kernel_rfl
theorem r81 : layH L81.pre 0 H.empty (fun h => enterA Tryz.prog L81.fn L81.args .normal [] h L81.pre.length (run Tryz.prog (extL [L8, L9, L22, L80]) (postOf L81 [81, 77, 38, 80, 79, 58, 59, 39, 40, 41, 42, 43, 44, 45, 46, 47, 48]) 1940)) = true := by kernel_rfl
theorem o81 : lemOk L81 = true := by kernel_rfl
theorem r82 : layH L82.pre 0 H.empty (fun h => enterA Tryz.prog L82.fn L82.args .normal [] h L82.pre.length (run Tryz.prog (extL []) (postOf L82 []) 3161)) = true := by kernel_rfl
theorem o82 : lemOk L82 = true := by kernel_rfl
end Go.Proofs.YtfcoffpmcmhieaaGreatDoor.En
