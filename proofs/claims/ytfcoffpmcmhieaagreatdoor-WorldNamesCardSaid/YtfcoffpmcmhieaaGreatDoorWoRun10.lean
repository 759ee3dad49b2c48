/- The runs of lemmas, part 10: each is run through by the kernel. -/
import Derived.Test.YtfcoffpmcmhieaaGreatDoorWoData
namespace Go.Proofs.YtfcoffpmcmhieaaGreatDoor.Wo
open Go AI
theorem r53 : layH L53.pre 0 H.empty (fun h => enterA Tryz.prog L53.fn L53.args .normal [] h L53.pre.length (run Tryz.prog (extL [L51]) (postOf L53 [89]) 3285)) = true := by kernel_rfl
theorem o53 : lemOk L53 = true := by kernel_rfl
theorem r54 : layH L54.pre 0 H.empty (fun h => enterA Tryz.prog L54.fn L54.args .normal [] h L54.pre.length (run Tryz.prog (extL [L51, L52, L53]) (postOf L54 [81, 130, 131, 132, 90, 99, 113]) 2165)) = true := by kernel_rfl
theorem o54 : lemOk L54 = true := by kernel_rfl
theorem r55 : layH L55.pre 0 H.empty (fun h => enterA Tryz.prog L55.fn L55.args .normal [] h L55.pre.length (run Tryz.prog (extL [L38, L40, L50, L52, L54]) (postOf L55 [176, 107, 108, 94, 96, 98, 160, 161, 162, 167, 168, 169, 170, 109, 110, 111, 54, 63, 77, 120, 129, 143, 171, 172, 173]) 2431)) = true := by kernel_rfl
theorem o55 : lemOk L55 = true := by kernel_rfl
theorem r56 : layH L56.pre 0 H.empty (fun h => enterA Tryz.prog L56.fn L56.args .normal [] h L56.pre.length (run Tryz.prog (extL [L30]) (postOf L56 [12]) 3271)) = true := by kernel_rfl
theorem o56 : lemOk L56 = true := by kernel_rfl
theorem r57 : layH L57.pre 0 H.empty (fun h => enterA Tryz.prog L57.fn L57.args .normal [] h L57.pre.length (run Tryz.prog (extL [L30, L56]) (postOf L57 [122, 123, 82, 91, 105]) 2138)) = true := by kernel_rfl
theorem o57 : lemOk L57 = true := by kernel_rfl
theorem r58 : layH L58.pre 0 H.empty (fun h => enterA Tryz.prog L58.fn L58.args .normal [] h L58.pre.length (run Tryz.prog (extL [L37]) (postOf L58 [50, 49, 51, 52, 53]) 2074)) = true := by kernel_rfl
theorem o58 : lemOk L58 = true := by kernel_rfl
theorem r59 : layH L59.pre 0 H.empty (fun h => enterA Tryz.prog L59.fn L59.args .normal [] h L59.pre.length (run Tryz.prog (extL [L39, L41, L42]) (postOf L59 [108, 107, 81, 95]) 1901)) = true := by kernel_rfl
theorem o59 : lemOk L59 = true := by kernel_rfl
theorem r60 : layH L60.pre 0 H.empty (fun h => enterA Tryz.prog L60.fn L60.args .normal [] h L60.pre.length (run Tryz.prog (extL [L40, L45, L59]) (postOf L60 [119, 121, 123, 70, 54, 79, 88, 102, 55, 56, 57]) 2278)) = true := by kernel_rfl
theorem o60 : lemOk L60 = true := by kernel_rfl
theorem r61 : layH L61.pre 0 H.empty (fun h => enterA Tryz.prog L61.fn L61.args .normal [] h L61.pre.length (run Tryz.prog (extL [L40, L45]) (postOf L61 [119, 121, 123, 70, 79, 88, 102]) 2308)) = true := by kernel_rfl
theorem o61 : lemOk L61 = true := by kernel_rfl
theorem r62 : layH L62.pre 0 H.empty (fun h => enterA Tryz.prog L62.fn L62.args .normal [] h L62.pre.length (run Tryz.prog (extL [L40, L45]) (postOf L62 [119, 121, 123, 70, 79, 88, 102]) 2308)) = true := by kernel_rfl
theorem o62 : lemOk L62 = true := by kernel_rfl
theorem r63 : layH L63.pre 0 H.empty (fun h => enterA Tryz.prog L63.fn L63.args .normal [] h L63.pre.length (run Tryz.prog (extL [L45]) (postOf L63 [65]) 1213)) = true := by kernel_rfl
theorem o63 : lemOk L63 = true := by kernel_rfl
theorem r64 : layH L64.pre 0 H.empty (fun h => enterA Tryz.prog L64.fn L64.args .normal [] h L64.pre.length (run Tryz.prog (extL [L45]) (postOf L64 [66]) 1264)) = true := by kernel_rfl
theorem o64 : lemOk L64 = true := by kernel_rfl
theorem r65 : layH L65.pre 0 H.empty (fun h => enterA Tryz.prog L65.fn L65.args .normal [] h L65.pre.length (run Tryz.prog (extL [L39, L46, L48]) (postOf L65 [65, 72, 67, 68, 69]) 1287)) = true := by kernel_rfl
theorem o65 : lemOk L65 = true := by kernel_rfl
theorem r66 : layH L66.pre 0 H.empty (fun h => enterA Tryz.prog L66.fn L66.args .normal [] h L66.pre.length (run Tryz.prog (extL [L45, L65]) (postOf L66 [64, 73, 53, 66, 67, 68, 54, 55]) 1365)) = true := by kernel_rfl
theorem o66 : lemOk L66 = true := by kernel_rfl
end Go.Proofs.YtfcoffpmcmhieaaGreatDoor.Wo
