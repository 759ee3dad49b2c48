/- The runs of lemmas, part 12: each is run through by the kernel. -/
import Derived.Test.YtfcoffpmcmhieaaGreatDoorVeData
namespace Go.Proofs.YtfcoffpmcmhieaaGreatDoor.Ve
open Go AI
theorem r64 : layH L64.pre 0 H.empty (fun h => enterA Tryz.prog L64.fn L64.args .normal [] h L64.pre.length (run Tryz.prog (extL [L49, L50]) (postOf L64 []) 1929)) = true := by kernel_rfl
theorem o64 : lemOk L64 = true := by kernel_rfl
theorem r65 : layH L65.pre 0 H.empty (fun h => enterA Tryz.prog L65.fn L65.args .normal [] h L65.pre.length (run Tryz.prog (extL [L49, L50]) (postOf L65 []) 1235)) = true := by kernel_rfl
theorem o65 : lemOk L65 = true := by kernel_rfl
theorem r66 : layH L66.pre 0 H.empty (fun h => enterA Tryz.prog L66.fn L66.args .normal [] h L66.pre.length (run Tryz.prog (extL [L49, L50]) (postOf L66 []) 1224)) = true := by kernel_rfl
theorem o66 : lemOk L66 = true := by kernel_rfl
theorem r67 : layH L67.pre 0 H.empty (fun h => enterA Tryz.prog L67.fn L67.args .normal [] h L67.pre.length (run Tryz.prog (extL [L49, L50, L66]) (postOf L67 []) 1298)) = true := by kernel_rfl
theorem o67 : lemOk L67 = true := by kernel_rfl
theorem r68 : layH L68.pre 0 H.empty (fun h => enterA Tryz.prog L68.fn L68.args .normal [] h L68.pre.length (run Tryz.prog (extL [L49, L50]) (postOf L68 []) 1376)) = true := by kernel_rfl
theorem o68 : lemOk L68 = true := by kernel_rfl
theorem r69 : layH L69.pre 0 H.empty (fun h => enterA Tryz.prog L69.fn L69.args .normal [] h L69.pre.length (run Tryz.prog (extL [L49, L50, L64, L65, L66, L67, L68]) (postOf L69 [102, 83, 26, 63, 104]) 4051)) = true := by kernel_rfl
theorem o69 : lemOk L69 = true := by kernel_rfl
theorem r70 : layH L70.pre 0 H.empty (fun h => enterA Tryz.prog L70.fn L70.args .normal [] h L70.pre.length (run Tryz.prog (extL [L49, L50, L63, L69]) (postOf L70 [81, 77, 38, 80, 79, 58, 59, 39, 40, 41, 42, 43, 44, 45, 46, 47, 48]) 1940)) = true := by kernel_rfl
theorem o70 : lemOk L70 = true := by kernel_rfl
theorem r71 : layH L71.pre 0 H.empty (fun h => enterA Tryz.prog L71.fn L71.args .normal [] h L71.pre.length (run Tryz.prog (extL []) (postOf L71 []) 3161)) = true := by kernel_rfl
theorem o71 : lemOk L71 = true := by kernel_rfl
theorem r72 : layH L72.pre 0 H.empty (fun h => enterA Tryz.prog L72.fn L72.args .normal [] h L72.pre.length (run Tryz.prog (extL [L71]) (postOf L72 [12]) 3271)) = true := by kernel_rfl
theorem o72 : lemOk L72 = true := by kernel_rfl
theorem r73 : layH L73.pre 0 H.empty (fun h => enterA Tryz.prog L73.fn L73.args .normal [] h L73.pre.length (run Tryz.prog (extL []) (postOf L73 []) 3161)) = true := by kernel_rfl
theorem o73 : lemOk L73 = true := by kernel_rfl
theorem r74 : layH L74.pre 0 H.empty (fun h => enterA Tryz.prog L74.fn L74.args .normal [] h L74.pre.length (run Tryz.prog (extL [L73]) (postOf L74 [12]) 2670)) = true := by kernel_rfl
theorem o74 : lemOk L74 = true := by kernel_rfl
theorem r75 : layH L75.pre 0 H.empty (fun h => enterA Tryz.prog L75.fn L75.args .normal [] h L75.pre.length (run Tryz.prog (extL [L49, L50]) (postOf L75 []) 1224)) = true := by kernel_rfl
theorem o75 : lemOk L75 = true := by kernel_rfl
theorem r76 : layH L76.pre 0 H.empty (fun h => enterA Tryz.prog L76.fn L76.args .normal [] h L76.pre.length (run Tryz.prog (extL [L49, L50, L75]) (postOf L76 []) 1298)) = true := by kernel_rfl
theorem o76 : lemOk L76 = true := by kernel_rfl
theorem r77 : layH L77.pre 0 H.empty (fun h => enterA Tryz.prog L77.fn L77.args .normal [] h L77.pre.length (run Tryz.prog (extL [L49, L50]) (postOf L77 []) 1376)) = true := by kernel_rfl
theorem o77 : lemOk L77 = true := by kernel_rfl
theorem r78 : layH L78.pre 0 H.empty (fun h => enterA Tryz.prog L78.fn L78.args .normal [] h L78.pre.length (run Tryz.prog (extL [L49, L50, L75, L76, L77]) (postOf L78 [63, 44, 65]) 2876)) = true := by kernel_rfl
theorem o78 : lemOk L78 = true := by kernel_rfl
theorem r79 : layH L79.pre 0 H.empty (fun h => enterA Tryz.prog L79.fn L79.args .normal [] h L79.pre.length (run Tryz.prog (extL [L73, L77, L78]) (postOf L79 []) 3762)) = true := by kernel_rfl
theorem o79 : lemOk L79 = true := by kernel_rfl
theorem r80 : layH L80.pre 0 H.empty (fun h => enterA Tryz.prog L80.fn L80.args .normal [] h L80.pre.length (run Tryz.prog (extL [L49, L50]) (postOf L80 []) 2036)) = true := by kernel_rfl
theorem o80 : lemOk L80 = true := by kernel_rfl
theorem r81 : layH L81.pre 0 H.empty (fun h => enterA Tryz.prog L81.fn L81.args .normal [] h L81.pre.length (run Tryz.prog (extL [L49, L50]) (postOf L81 []) 1342)) = true := by kernel_rfl
theorem o81 : lemOk L81 = true := by kernel_rfl
theorem r82 : layH L82.pre 0 H.empty (fun h => enterA Tryz.prog L82.fn L82.args .normal [] h L82.pre.length (run Tryz.prog (extL [L49, L50, L75, L76, L77, L80, L81]) (postOf L82 [102, 83, 26, 63, 104]) 4051)) = true := by kernel_rfl
theorem o82 : lemOk L82 = true := by kernel_rfl
theorem r83 : layH L83.pre 0 H.empty (fun h => enterA Tryz.prog L83.fn L83.args .normal [] h L83.pre.length (run Tryz.prog (extL []) (postOf L83 []) 3161)) = true := by kernel_rfl
theorem o83 : lemOk L83 = true := by kernel_rfl
theorem r84 : layH L84.pre 0 H.empty (fun h => enterA Tryz.prog L84.fn L84.args .normal [] h L84.pre.length (run Tryz.prog (extL [L83]) (postOf L84 [13]) 2001)) = true := by kernel_rfl
theorem o84 : lemOk L84 = true := by kernel_rfl
theorem r85 : layH L85.pre 0 H.empty (fun h => enterA Tryz.prog L85.fn L85.args .normal [] h L85.pre.length (run Tryz.prog (extL [L73]) (postOf L85 [13]) 1763)) = true := by kernel_rfl
theorem o85 : lemOk L85 = true := by kernel_rfl
theorem r86 : layH L86.pre 0 H.empty (fun h => enterA Tryz.prog L86.fn L86.args .normal [] h L86.pre.length (run Tryz.prog (extL [L49, L50, L73, L82, L84, L85]) (postOf L86 []) 1777)) = true := by kernel_rfl
theorem o86 : lemOk L86 = true := by kernel_rfl
theorem r87 : layH L87.pre 0 H.empty (fun h => enterA Tryz.prog L87.fn L87.args .normal [] h L87.pre.length (run Tryz.prog (extL [L73, L74, L79, L86]) (postOf L87 []) 2286)) = true := by kernel_rfl
theorem o87 : lemOk L87 = true := by kernel_rfl
theorem r88 : layH L88.pre 0 H.empty (fun h => enterA Tryz.prog L88.fn L88.args .normal [] h L88.pre.length (run Tryz.prog (extL [L73, L77, L78]) (postOf L88 []) 3762)) = true := by kernel_rfl
theorem o88 : lemOk L88 = true := by kernel_rfl
theorem r89 : layH L89.pre 0 H.empty (fun h => enterA Tryz.prog L89.fn L89.args .normal [] h L89.pre.length (run Tryz.prog (extL [L49, L50, L73, L82, L84, L85]) (postOf L89 []) 1777)) = true := by kernel_rfl
theorem o89 : lemOk L89 = true := by kernel_rfl
theorem r90 : layH L90.pre 0 H.empty (fun h => enterA Tryz.prog L90.fn L90.args .normal [] h L90.pre.length (run Tryz.prog (extL [L73, L74, L88, L89]) (postOf L90 []) 1596)) = true := by kernel_rfl
theorem o90 : lemOk L90 = true := by kernel_rfl
end Go.Proofs.YtfcoffpmcmhieaaGreatDoor.Ve
