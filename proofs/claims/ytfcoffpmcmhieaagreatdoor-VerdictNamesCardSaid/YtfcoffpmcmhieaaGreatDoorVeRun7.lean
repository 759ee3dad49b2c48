/- The runs of lemmas, part 7: each is run through by the kernel. -/
import Derived.Test.YtfcoffpmcmhieaaGreatDoorVeData
namespace Go.Proofs.YtfcoffpmcmhieaaGreatDoor.Ve
open Go AI
theorem r36 : layH L36.pre 0 H.empty (fun h => enterA Tryz.prog L36.fn L36.args .normal [] h L36.pre.length (run Tryz.prog (extL [L25, L29, L31, L33, L35]) (postOf L36 [46, 42, 48, 49, 50, 44, 45]) 1451)) = true := by kernel_rfl
theorem o36 : lemOk L36 = true := by kernel_rfl
theorem r37 : layH L37.pre 0 H.empty (fun h => enterA Tryz.prog L37.fn L37.args .normal [] h L37.pre.length (run Tryz.prog (extL []) (postOf L37 []) 2054)) = true := by kernel_rfl
theorem o37 : lemOk L37 = true := by kernel_rfl
theorem r38 : layH L38.pre 0 H.empty (fun h => enterA Tryz.prog L38.fn L38.args .normal [] h L38.pre.length (run Tryz.prog (extL [L37]) (postOf L38 [20]) 2584)) = true := by kernel_rfl
theorem o38 : lemOk L38 = true := by kernel_rfl
theorem r39 : layH L39.pre 0 H.empty (fun h => enterA Tryz.prog L39.fn L39.args .normal [] h L39.pre.length (run Tryz.prog (extL [L37]) (postOf L39 [52]) 2934)) = true := by kernel_rfl
theorem o39 : lemOk L39 = true := by kernel_rfl
theorem r40 : layH L40.pre 0 H.empty (fun h => enterA Tryz.prog L40.fn L40.args .normal [] h L40.pre.length (run Tryz.prog (extL [L22, L26, L27, L32, L36, L37, L38, L39]) (postOf L40 [194, 35, 36, 37, 89, 90, 91, 137, 138, 104, 157, 191, 192, 158, 40, 41, 42, 61, 68, 78, 109, 116, 126, 163, 170, 180]) 2903)) = true := by kernel_rfl
theorem o40 : lemOk L40 = true := by kernel_rfl
theorem r41 : layH L41.pre 0 H.empty (fun h => enterA Tryz.prog L41.fn L41.args .normal [] h L41.pre.length (run Tryz.prog (extL []) (postOf L41 [24, 21]) 1586)) = true := by kernel_rfl
theorem o41 : lemOk L41 = true := by kernel_rfl
theorem r42 : layH L42.pre 0 H.empty (fun h => enterA Tryz.prog L42.fn L42.args .normal [] h L42.pre.length (run Tryz.prog (extL [L41]) (postOf L42 [10, 11]) 1194)) = true := by kernel_rfl
theorem o42 : lemOk L42 = true := by kernel_rfl
theorem r43 : layH L43.pre 0 H.empty (fun h => enterA Tryz.prog L43.fn L43.args .normal [] h L43.pre.length (run Tryz.prog (extL []) (postOf L43 [26, 23]) 2125)) = true := by kernel_rfl
theorem o43 : lemOk L43 = true := by kernel_rfl
theorem r44 : layH L44.pre 0 H.empty (fun h => enterA Tryz.prog L44.fn L44.args .normal [] h L44.pre.length (run Tryz.prog (extL []) (postOf L44 [67, 115, 68, 95, 104, 113]) 4172)) = true := by kernel_rfl
theorem o44 : lemOk L44 = true := by kernel_rfl
theorem r45 : layH L45.pre 0 H.empty (fun h => enterA Tryz.prog L45.fn L45.args .normal [] h L45.pre.length (run Tryz.prog (extL []) (postOf L45 []) 5925)) = true := by kernel_rfl
theorem o45 : lemOk L45 = true := by kernel_rfl
theorem r46 : layH L46.pre 0 H.empty (fun h => enterA Tryz.prog L46.fn L46.args .normal [] h L46.pre.length (run Tryz.prog (extL []) (postOf L46 []) 1209)) = true := by kernel_rfl
theorem o46 : lemOk L46 = true := by kernel_rfl
theorem r47 : layH L47.pre 0 H.empty (fun h => enterA Tryz.prog L47.fn L47.args .normal [] h L47.pre.length (run Tryz.prog (extL [L45, L46]) (postOf L47 [68]) 2482)) = true := by kernel_rfl
theorem o47 : lemOk L47 = true := by kernel_rfl
end Go.Proofs.YtfcoffpmcmhieaaGreatDoor.Ve
