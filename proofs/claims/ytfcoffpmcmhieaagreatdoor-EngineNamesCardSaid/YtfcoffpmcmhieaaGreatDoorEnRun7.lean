/- The runs of lemmas, part 7: each is run through by the kernel. -/
import Derived.Test.YtfcoffpmcmhieaaGreatDoorEnData
namespace Go.Proofs.YtfcoffpmcmhieaaGreatDoor.En
open Go AI
theorem e12 : startF (run Tryz.prog (extL [L8, L9, L11]) (postOf L12 [279, 19]) 5574) S12_0 = true := by kernel_rfl
theorem o12 : lemOk L12 = true := by kernel_rfl
theorem r13 : layH L13.pre 0 H.empty (fun h => enterA Tryz.prog L13.fn L13.args .normal [] h L13.pre.length (run Tryz.prog (extL []) (postOf L13 []) 2362)) = true := by kernel_rfl
theorem o13 : lemOk L13 = true := by kernel_rfl
theorem r14 : layH L14.pre 0 H.empty (fun h => enterA Tryz.prog L14.fn L14.args .normal [] h L14.pre.length (run Tryz.prog (extL []) (postOf L14 []) 1826)) = true := by kernel_rfl
theorem o14 : lemOk L14 = true := by kernel_rfl
theorem r15 : layH L15.pre 0 H.empty (fun h => enterA Tryz.prog L15.fn L15.args .normal [] h L15.pre.length (run Tryz.prog (extL []) (postOf L15 [16, 150]) 7763)) = true := by kernel_rfl
theorem o15 : lemOk L15 = true := by kernel_rfl
theorem r16 : layH L16.pre 0 H.empty (fun h => enterA Tryz.prog L16.fn L16.args .normal [] h L16.pre.length (run Tryz.prog (extL [L15]) (postOf L16 [19, 21]) 3237)) = true := by kernel_rfl
theorem o16 : lemOk L16 = true := by kernel_rfl
theorem r17 : layH L17.pre 0 H.empty (fun h => enterA Tryz.prog L17.fn L17.args .normal [] h L17.pre.length (run Tryz.prog (extL []) (postOf L17 [41]) 1645)) = true := by kernel_rfl
theorem o17 : lemOk L17 = true := by kernel_rfl
theorem r18 : layH L18.pre 0 H.empty (fun h => enterA Tryz.prog L18.fn L18.args .normal [] h L18.pre.length (run Tryz.prog (extL [L15, L16, L17]) (postOf L18 [48, 26, 46]) 1530)) = true := by kernel_rfl
theorem o18 : lemOk L18 = true := by kernel_rfl
theorem r19 : layH L19.pre 0 H.empty (fun h => enterA Tryz.prog L19.fn L19.args .normal [] h L19.pre.length (run Tryz.prog (extL [L18]) (postOf L19 [18, 19, 20]) 1465)) = true := by kernel_rfl
theorem o19 : lemOk L19 = true := by kernel_rfl
theorem r20 : layH L20.pre 0 H.empty (fun h => enterA Tryz.prog L20.fn L20.args .normal [] h L20.pre.length (run Tryz.prog (extL [L13, L14, L19]) (postOf L20 [56]) 2348)) = true := by kernel_rfl
theorem o20 : lemOk L20 = true := by kernel_rfl
theorem r21 : layH L21.pre 0 H.empty (fun h => enterA Tryz.prog L21.fn L21.args .normal [] h L21.pre.length (run Tryz.prog (extL [L13, L14, L19]) (postOf L21 [23]) 1268)) = true := by kernel_rfl
theorem o21 : lemOk L21 = true := by kernel_rfl
theorem r22 : layH L22.pre 0 H.empty (fun h => enterA Tryz.prog L22.fn L22.args .normal [] h L22.pre.length (run Tryz.prog (extL [L1, L2, L3, L7, L12, L13, L14, L16, L19, L20, L21]) (postOf L22 [90, 38, 39, 28, 73, 65, 81, 75, 66, 67, 79]) 1960)) = true := by kernel_rfl
theorem o22 : lemOk L22 = true := by kernel_rfl
end Go.Proofs.YtfcoffpmcmhieaaGreatDoor.En
