/- The runs of lemmas, part 9: each is run through by the kernel. -/
import Derived.Test.YtfcoffpmcmhieaaGreatDoorWoData
namespace Go.Proofs.YtfcoffpmcmhieaaGreatDoor.Wo
open Go AI
theorem r39 : layH L39.pre 0 H.empty (fun h => enterA Tryz.prog L39.fn L39.args .normal [] h L39.pre.length (run Tryz.prog (extL []) (postOf L39 []) 3161)) = true := by kernel_rfl
theorem o39 : lemOk L39 = true := by kernel_rfl
theorem r40 : layH L40.pre 0 H.empty (fun h => enterA Tryz.prog L40.fn L40.args .normal [] h L40.pre.length (run Tryz.prog (extL [L39]) (postOf L40 [12]) 2670)) = true := by kernel_rfl
theorem o40 : lemOk L40 = true := by kernel_rfl
theorem r41 : layH L41.pre 0 H.empty (fun h => enterA Tryz.prog L41.fn L41.args .normal [] h L41.pre.length (run Tryz.prog (extL [L39]) (postOf L41 []) 1725)) = true := by kernel_rfl
theorem o41 : lemOk L41 = true := by kernel_rfl
theorem r42 : layH L42.pre 0 H.empty (fun h => enterA Tryz.prog L42.fn L42.args .normal [] h L42.pre.length (run Tryz.prog (extL []) (postOf L42 []) 2285)) = true := by kernel_rfl
theorem o42 : lemOk L42 = true := by kernel_rfl
theorem r43 : layH L43.pre 0 H.empty (fun h => enterA Tryz.prog L43.fn L43.args .normal [] h L43.pre.length (run Tryz.prog (extL [L39, L41, L42]) (postOf L43 [108, 107, 81, 95]) 1901)) = true := by kernel_rfl
theorem o43 : lemOk L43 = true := by kernel_rfl
theorem r44 : layH L44.pre 0 H.empty (fun h => enterA Tryz.prog L44.fn L44.args .normal [] h L44.pre.length (run Tryz.prog (extL [L8, L9]) (postOf L44 []) 1342)) = true := by kernel_rfl
theorem o44 : lemOk L44 = true := by kernel_rfl
theorem r45 : layH L45.pre 0 H.empty (fun h => enterA Tryz.prog L45.fn L45.args .normal [] h L45.pre.length (run Tryz.prog (extL [L42, L44]) (postOf L45 [151, 147, 141, 123]) 4107)) = true := by kernel_rfl
theorem o45 : lemOk L45 = true := by kernel_rfl
theorem r46 : layH L46.pre 0 H.empty (fun h => enterA Tryz.prog L46.fn L46.args .normal [] h L46.pre.length (run Tryz.prog (extL []) (postOf L46 []) 2285)) = true := by kernel_rfl
theorem o46 : lemOk L46 = true := by kernel_rfl
theorem r47 : layH L47.pre 0 H.empty (fun h => enterA Tryz.prog L47.fn L47.args .normal [] h L47.pre.length (run Tryz.prog (extL [L39, L46]) (postOf L47 [70, 24, 35, 49]) 1436)) = true := by kernel_rfl
theorem o47 : lemOk L47 = true := by kernel_rfl
theorem r48 : layH L48.pre 0 H.empty (fun h => enterA Tryz.prog L48.fn L48.args .normal [] h L48.pre.length (run Tryz.prog (extL [L39, L46, L47]) (postOf L48 [46, 45, 47, 48, 49]) 1907)) = true := by kernel_rfl
theorem o48 : lemOk L48 = true := by kernel_rfl
theorem r49 : layH L49.pre 0 H.empty (fun h => enterA Tryz.prog L49.fn L49.args .normal [] h L49.pre.length (run Tryz.prog (extL [L39, L46, L48]) (postOf L49 [65, 72, 67, 68, 69]) 1287)) = true := by kernel_rfl
theorem o49 : lemOk L49 = true := by kernel_rfl
theorem r50 : layH L50.pre 0 H.empty (fun h => enterA Tryz.prog L50.fn L50.args .normal [] h L50.pre.length (run Tryz.prog (extL [L43, L45, L49]) (postOf L50 [61, 78, 63, 64, 65]) 1535)) = true := by kernel_rfl
theorem o50 : lemOk L50 = true := by kernel_rfl
theorem r51 : layH L51.pre 0 H.empty (fun h => enterA Tryz.prog L51.fn L51.args .normal [] h L51.pre.length (run Tryz.prog (extL []) (postOf L51 []) 3161)) = true := by kernel_rfl
theorem o51 : lemOk L51 = true := by kernel_rfl
theorem r52 : layH L52.pre 0 H.empty (fun h => enterA Tryz.prog L52.fn L52.args .normal [] h L52.pre.length (run Tryz.prog (extL [L51]) (postOf L52 [12]) 3271)) = true := by kernel_rfl
theorem o52 : lemOk L52 = true := by kernel_rfl
end Go.Proofs.YtfcoffpmcmhieaaGreatDoor.Wo
