/- The runs of lemmas, part 0: each is run through by the kernel. -/
import Derived.Test.YtfcoffpmcmhieaaGreatDoorWoData
namespace Go.Proofs.YtfcoffpmcmhieaaGreatDoor.Wo
open Go AI
theorem r0 : layH L0.pre 0 H.empty (fun h => enterA Tryz.prog L0.fn L0.args .normal [] h L0.pre.length (run Tryz.prog (extL []) (postOf L0 [24, 21]) 1586)) = true := by kernel_rfl
theorem o0 : lemOk L0 = true := by kernel_rfl
theorem r1 : layH L1.pre 0 H.empty (fun h => enterA Tryz.prog L1.fn L1.args .normal [] h L1.pre.length (run Tryz.prog (extL [L0]) (postOf L1 [10, 11]) 1194)) = true := by kernel_rfl
theorem o1 : lemOk L1 = true := by kernel_rfl
theorem r2 : layH L2.pre 0 H.empty (fun h => enterA Tryz.prog L2.fn L2.args .normal [] h L2.pre.length (run Tryz.prog (extL []) (postOf L2 [26, 23]) 2125)) = true := by kernel_rfl
theorem o2 : lemOk L2 = true := by kernel_rfl
theorem r3 : layH L3.pre 0 H.empty (fun h => enterA Tryz.prog L3.fn L3.args .normal [] h L3.pre.length (run Tryz.prog (extL []) (postOf L3 [67, 115, 68, 95, 104, 113]) 4172)) = true := by kernel_rfl
theorem o3 : lemOk L3 = true := by kernel_rfl
theorem r4 : layH L4.pre 0 H.empty (fun h => enterA Tryz.prog L4.fn L4.args .normal [] h L4.pre.length (run Tryz.prog (extL []) (postOf L4 []) 5925)) = true := by kernel_rfl
theorem o4 : lemOk L4 = true := by kernel_rfl
theorem r5 : layH L5.pre 0 H.empty (fun h => enterA Tryz.prog L5.fn L5.args .normal [] h L5.pre.length (run Tryz.prog (extL []) (postOf L5 []) 1209)) = true := by kernel_rfl
theorem o5 : lemOk L5 = true := by kernel_rfl
theorem r6 : layH L6.pre 0 H.empty (fun h => enterA Tryz.prog L6.fn L6.args .normal [] h L6.pre.length (run Tryz.prog (extL [L4, L5]) (postOf L6 [68]) 2482)) = true := by kernel_rfl
theorem o6 : lemOk L6 = true := by kernel_rfl
end Go.Proofs.YtfcoffpmcmhieaaGreatDoor.Wo
