/- The runs of lemmas, part 17: each is run through by the kernel. -/
import Derived.Test.YtfcoffpmcmhieaaGreatDoorVeData
namespace Go.Proofs.YtfcoffpmcmhieaaGreatDoor.Ve
open Go AI
theorem r189 : layH L189.pre 0 H.empty (fun h => enterA Tryz.prog L189.fn L189.args .normal [] h L189.pre.length (run Tryz.prog (extL [L188]) (postOf L189 [16, 31]) 1445)) = true := by kernel_rfl
theorem o189 : lemOk L189 = true := by kernel_rfl
theorem r190 : layH L190.pre 0 H.empty (fun h => enterA Tryz.prog L190.fn L190.args .normal [] h L190.pre.length (run Tryz.prog (extL [L188, L189]) (postOf L190 [48, 34, 46]) 1921)) = true := by kernel_rfl
theorem o190 : lemOk L190 = true := by kernel_rfl
theorem r191 : layH L191.pre 0 H.empty (fun h => enterA Tryz.prog L191.fn L191.args .normal [] h L191.pre.length (run Tryz.prog (extL [L186, L187, L190]) (postOf L191 [29]) 1670)) = true := by kernel_rfl
theorem o191 : lemOk L191 = true := by kernel_rfl
theorem r192 : layH L192.pre 0 H.empty (fun h => enterA Tryz.prog L192.fn L192.args .normal [] h L192.pre.length (run Tryz.prog (extL [L186, L187, L190]) (postOf L192 [39]) 2297)) = true := by kernel_rfl
theorem o192 : lemOk L192 = true := by kernel_rfl
end Go.Proofs.YtfcoffpmcmhieaaGreatDoor.Ve
