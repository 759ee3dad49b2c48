/- The runs of lemmas, part 11: each is run through by the kernel. -/
import Derived.Test.YtfcoffpmcmhieaaGreatDoorVeData
namespace Go.Proofs.YtfcoffpmcmhieaaGreatDoor.Ve
open Go AI
set_option maxHeartbeats 0 in
theorem c53_0 : (fun F => layH L53.pre 0 H.empty (fun h => enterA Tryz.prog L53.fn L53.args .normal [] h L53.pre.length (runTo Tryz.prog (extL [L49, L50, L52]) (postOf L53 [279, 19]) (cutGo L53.pre.length S53_0 F) 30000))) = fun F => F S53_0 := by kernel_rfl
theorem e53 : startF (run Tryz.prog (extL [L49, L50, L52]) (postOf L53 [279, 19]) 5574) S53_0 = true := by kernel_rfl
theorem o53 : lemOk L53 = true := by kernel_rfl
theorem r54 : layH L54.pre 0 H.empty (fun h => enterA Tryz.prog L54.fn L54.args .normal [] h L54.pre.length (run Tryz.prog (extL []) (postOf L54 []) 2362)) = true := by kernel_rfl
theorem o54 : lemOk L54 = true := by kernel_rfl
theorem r55 : layH L55.pre 0 H.empty (fun h => enterA Tryz.prog L55.fn L55.args .normal [] h L55.pre.length (run Tryz.prog (extL []) (postOf L55 []) 1826)) = true := by kernel_rfl
theorem o55 : lemOk L55 = true := by kernel_rfl
theorem r56 : layH L56.pre 0 H.empty (fun h => enterA Tryz.prog L56.fn L56.args .normal [] h L56.pre.length (run Tryz.prog (extL []) (postOf L56 [16, 150]) 7763)) = true := by kernel_rfl
theorem o56 : lemOk L56 = true := by kernel_rfl
theorem r57 : layH L57.pre 0 H.empty (fun h => enterA Tryz.prog L57.fn L57.args .normal [] h L57.pre.length (run Tryz.prog (extL [L56]) (postOf L57 [19, 21]) 3237)) = true := by kernel_rfl
theorem o57 : lemOk L57 = true := by kernel_rfl
theorem r58 : layH L58.pre 0 H.empty (fun h => enterA Tryz.prog L58.fn L58.args .normal [] h L58.pre.length (run Tryz.prog (extL []) (postOf L58 [41]) 1645)) = true := by kernel_rfl
theorem o58 : lemOk L58 = true := by kernel_rfl
theorem r59 : layH L59.pre 0 H.empty (fun h => enterA Tryz.prog L59.fn L59.args .normal [] h L59.pre.length (run Tryz.prog (extL [L56, L57, L58]) (postOf L59 [48, 26, 46]) 1530)) = true := by kernel_rfl
theorem o59 : lemOk L59 = true := by kernel_rfl
theorem r60 : layH L60.pre 0 H.empty (fun h => enterA Tryz.prog L60.fn L60.args .normal [] h L60.pre.length (run Tryz.prog (extL [L59]) (postOf L60 [18, 19, 20]) 1465)) = true := by kernel_rfl
theorem o60 : lemOk L60 = true := by kernel_rfl
theorem r61 : layH L61.pre 0 H.empty (fun h => enterA Tryz.prog L61.fn L61.args .normal [] h L61.pre.length (run Tryz.prog (extL [L54, L55, L60]) (postOf L61 [56]) 2348)) = true := by kernel_rfl
theorem o61 : lemOk L61 = true := by kernel_rfl
theorem r62 : layH L62.pre 0 H.empty (fun h => enterA Tryz.prog L62.fn L62.args .normal [] h L62.pre.length (run Tryz.prog (extL [L54, L55, L60]) (postOf L62 [23]) 1268)) = true := by kernel_rfl
theorem o62 : lemOk L62 = true := by kernel_rfl
theorem r63 : layH L63.pre 0 H.empty (fun h => enterA Tryz.prog L63.fn L63.args .normal [] h L63.pre.length (run Tryz.prog (extL [L42, L43, L44, L48, L53, L54, L55, L57, L60, L61, L62]) (postOf L63 [90, 38, 39, 28, 73, 65, 81, 75, 66, 67, 79]) 1960)) = true := by kernel_rfl
theorem o63 : lemOk L63 = true := by kernel_rfl
end Go.Proofs.YtfcoffpmcmhieaaGreatDoor.Ve
