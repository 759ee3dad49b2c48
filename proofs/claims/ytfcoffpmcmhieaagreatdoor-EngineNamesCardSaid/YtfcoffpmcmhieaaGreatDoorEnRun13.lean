/- The runs of lemmas, part 13: each is run through by the kernel. -/
import Derived.Test.YtfcoffpmcmhieaaGreatDoorEnData
namespace Go.Proofs.YtfcoffpmcmhieaaGreatDoor.En
open Go AI
theorem r98 : layH L98.pre 0 H.empty (fun h => enterA Tryz.prog L98.fn L98.args .normal [] h L98.pre.length (run Tryz.prog (extL [L91, L97]) (postOf L98 [70, 24, 35, 49]) 1436)) = true := by kernel_rfl
theorem o98 : lemOk L98 = true := by kernel_rfl
theorem r99 : layH L99.pre 0 H.empty (fun h => enterA Tryz.prog L99.fn L99.args .normal [] h L99.pre.length (run Tryz.prog (extL [L91, L97, L98]) (postOf L99 [46, 45, 47, 48, 49]) 1907)) = true := by kernel_rfl
theorem o99 : lemOk L99 = true := by kernel_rfl
theorem r100 : layH L100.pre 0 H.empty (fun h => enterA Tryz.prog L100.fn L100.args .normal [] h L100.pre.length (run Tryz.prog (extL [L91, L97, L99]) (postOf L100 [65, 72, 67, 68, 69]) 1287)) = true := by kernel_rfl
theorem o100 : lemOk L100 = true := by kernel_rfl
theorem r101 : layH L101.pre 0 H.empty (fun h => enterA Tryz.prog L101.fn L101.args .normal [] h L101.pre.length (run Tryz.prog (extL [L94, L96, L100]) (postOf L101 [61, 78, 63, 64, 65]) 1535)) = true := by kernel_rfl
theorem o101 : lemOk L101 = true := by kernel_rfl
theorem r102 : layH L102.pre 0 H.empty (fun h => enterA Tryz.prog L102.fn L102.args .normal [] h L102.pre.length (run Tryz.prog (extL []) (postOf L102 []) 1421)) = true := by kernel_rfl
theorem o102 : lemOk L102 = true := by kernel_rfl
theorem r103 : layH L103.pre 0 H.empty (fun h => enterA Tryz.prog L103.fn L103.args .normal [] h L103.pre.length (run Tryz.prog (extL []) (postOf L103 []) 1392)) = true := by kernel_rfl
theorem o103 : lemOk L103 = true := by kernel_rfl
theorem r104 : layH L104.pre 0 H.empty (fun h => enterA Tryz.prog L104.fn L104.args .normal [] h L104.pre.length (run Tryz.prog (extL []) (postOf L104 []) 1392)) = true := by kernel_rfl
theorem o104 : lemOk L104 = true := by kernel_rfl
theorem r105 : layH L105.pre 0 H.empty (fun h => enterA Tryz.prog L105.fn L105.args .normal [] h L105.pre.length (run Tryz.prog (extL []) (postOf L105 [48, 49, 50, 60, 36, 56]) 2188)) = true := by kernel_rfl
theorem o105 : lemOk L105 = true := by kernel_rfl
end Go.Proofs.YtfcoffpmcmhieaaGreatDoor.En
