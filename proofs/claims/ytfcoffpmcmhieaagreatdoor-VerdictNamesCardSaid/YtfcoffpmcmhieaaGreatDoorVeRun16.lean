/- The runs of lemmas, part 16: each is run through by the kernel. -/
import Derived.Test.YtfcoffpmcmhieaaGreatDoorVeData
namespace Go.Proofs.YtfcoffpmcmhieaaGreatDoor.Ve
open Go AI
theorem r163 : layH L163.pre 0 H.empty (fun h => enterA Tryz.prog L163.fn L163.args .normal [] h L163.pre.length (run Tryz.prog (extL [L162]) (postOf L163 [50, 49, 51, 52, 53]) 2003)) = true := by kernel_rfl
theorem o163 : lemOk L163 = true := by kernel_rfl
theorem r164 : layH L164.pre 0 H.empty (fun h => enterA Tryz.prog L164.fn L164.args .normal [] h L164.pre.length (run Tryz.prog (extL [L73]) (postOf L164 []) 1725)) = true := by kernel_rfl
theorem o164 : lemOk L164 = true := by kernel_rfl
theorem r165 : layH L165.pre 0 H.empty (fun h => enterA Tryz.prog L165.fn L165.args .normal [] h L165.pre.length (run Tryz.prog (extL []) (postOf L165 []) 2285)) = true := by kernel_rfl
theorem o165 : lemOk L165 = true := by kernel_rfl
theorem r166 : layH L166.pre 0 H.empty (fun h => enterA Tryz.prog L166.fn L166.args .normal [] h L166.pre.length (run Tryz.prog (extL [L73, L164, L165]) (postOf L166 [108, 107, 81, 95]) 1901)) = true := by kernel_rfl
theorem o166 : lemOk L166 = true := by kernel_rfl
theorem r167 : layH L167.pre 0 H.empty (fun h => enterA Tryz.prog L167.fn L167.args .normal [] h L167.pre.length (run Tryz.prog (extL [L81, L165]) (postOf L167 [151, 147, 141, 123]) 4107)) = true := by kernel_rfl
theorem o167 : lemOk L167 = true := by kernel_rfl
theorem r168 : layH L168.pre 0 H.empty (fun h => enterA Tryz.prog L168.fn L168.args .normal [] h L168.pre.length (run Tryz.prog (extL [L74, L166, L167]) (postOf L168 [116, 118, 120, 67, 51, 76, 85, 99, 52, 53, 54]) 2278)) = true := by kernel_rfl
theorem o168 : lemOk L168 = true := by kernel_rfl
theorem r169 : layH L169.pre 0 H.empty (fun h => enterA Tryz.prog L169.fn L169.args .normal [] h L169.pre.length (run Tryz.prog (extL []) (postOf L169 []) 2285)) = true := by kernel_rfl
theorem o169 : lemOk L169 = true := by kernel_rfl
theorem r170 : layH L170.pre 0 H.empty (fun h => enterA Tryz.prog L170.fn L170.args .normal [] h L170.pre.length (run Tryz.prog (extL [L73, L169]) (postOf L170 [70, 24, 35, 49]) 1436)) = true := by kernel_rfl
theorem o170 : lemOk L170 = true := by kernel_rfl
theorem r171 : layH L171.pre 0 H.empty (fun h => enterA Tryz.prog L171.fn L171.args .normal [] h L171.pre.length (run Tryz.prog (extL [L73, L169, L170]) (postOf L171 [46, 45, 47, 48, 49]) 1907)) = true := by kernel_rfl
theorem o171 : lemOk L171 = true := by kernel_rfl
theorem r172 : layH L172.pre 0 H.empty (fun h => enterA Tryz.prog L172.fn L172.args .normal [] h L172.pre.length (run Tryz.prog (extL [L73, L169, L171]) (postOf L172 [65, 72, 67, 68, 69]) 1287)) = true := by kernel_rfl
theorem o172 : lemOk L172 = true := by kernel_rfl
theorem r173 : layH L173.pre 0 H.empty (fun h => enterA Tryz.prog L173.fn L173.args .normal [] h L173.pre.length (run Tryz.prog (extL [L167, L172]) (postOf L173 [64, 81, 53, 66, 67, 68, 54, 55]) 1565)) = true := by kernel_rfl
theorem o173 : lemOk L173 = true := by kernel_rfl
theorem r174 : layH L174.pre 0 H.empty (fun h => enterA Tryz.prog L174.fn L174.args .normal [] h L174.pre.length (run Tryz.prog (extL [L83]) (postOf L174 [89]) 3285)) = true := by kernel_rfl
theorem o174 : lemOk L174 = true := by kernel_rfl
theorem r175 : layH L175.pre 0 H.empty (fun h => enterA Tryz.prog L175.fn L175.args .normal [] h L175.pre.length (run Tryz.prog (extL [L83, L91, L174]) (postOf L175 [81, 130, 131, 132, 90, 99, 113]) 2165)) = true := by kernel_rfl
theorem o175 : lemOk L175 = true := by kernel_rfl
theorem r176 : layH L176.pre 0 H.empty (fun h => enterA Tryz.prog L176.fn L176.args .normal [] h L176.pre.length (run Tryz.prog (extL [L74, L91, L163, L168, L173, L175]) (postOf L176 [196, 124, 125, 96, 98, 100, 105, 106, 107, 180, 181, 182, 187, 188, 189, 190, 127, 128, 129, 56, 65, 79, 110, 111, 112, 140, 149, 163, 191, 192, 193]) 2479)) = true := by kernel_rfl
theorem o176 : lemOk L176 = true := by kernel_rfl
theorem r177 : layH L177.pre 0 H.empty (fun h => enterA Tryz.prog L177.fn L177.args .normal [] h L177.pre.length (run Tryz.prog (extL []) (postOf L177 []) 2362)) = true := by kernel_rfl
theorem o177 : lemOk L177 = true := by kernel_rfl
theorem r178 : layH L178.pre 0 H.empty (fun h => enterA Tryz.prog L178.fn L178.args .normal [] h L178.pre.length (run Tryz.prog (extL []) (postOf L178 []) 1826)) = true := by kernel_rfl
theorem o178 : lemOk L178 = true := by kernel_rfl
theorem r179 : layH L179.pre 0 H.empty (fun h => enterA Tryz.prog L179.fn L179.args .normal [] h L179.pre.length (run Tryz.prog (extL []) (postOf L179 [16, 150]) 7763)) = true := by kernel_rfl
theorem o179 : lemOk L179 = true := by kernel_rfl
theorem r180 : layH L180.pre 0 H.empty (fun h => enterA Tryz.prog L180.fn L180.args .normal [] h L180.pre.length (run Tryz.prog (extL [L179]) (postOf L180 [19, 21]) 3237)) = true := by kernel_rfl
theorem o180 : lemOk L180 = true := by kernel_rfl
theorem r181 : layH L181.pre 0 H.empty (fun h => enterA Tryz.prog L181.fn L181.args .normal [] h L181.pre.length (run Tryz.prog (extL []) (postOf L181 [41]) 1645)) = true := by kernel_rfl
theorem o181 : lemOk L181 = true := by kernel_rfl
theorem r182 : layH L182.pre 0 H.empty (fun h => enterA Tryz.prog L182.fn L182.args .normal [] h L182.pre.length (run Tryz.prog (extL [L179, L180, L181]) (postOf L182 [48, 26, 46]) 1530)) = true := by kernel_rfl
theorem o182 : lemOk L182 = true := by kernel_rfl
theorem r183 : layH L183.pre 0 H.empty (fun h => enterA Tryz.prog L183.fn L183.args .normal [] h L183.pre.length (run Tryz.prog (extL [L182]) (postOf L183 [18, 19, 20]) 1465)) = true := by kernel_rfl
theorem o183 : lemOk L183 = true := by kernel_rfl
theorem r184 : layH L184.pre 0 H.empty (fun h => enterA Tryz.prog L184.fn L184.args .normal [] h L184.pre.length (run Tryz.prog (extL [L177, L178, L183]) (postOf L184 [56]) 2348)) = true := by kernel_rfl
theorem o184 : lemOk L184 = true := by kernel_rfl
theorem r185 : layH L185.pre 0 H.empty (fun h => enterA Tryz.prog L185.fn L185.args .normal [] h L185.pre.length (run Tryz.prog (extL [L177, L178, L183]) (postOf L185 [23]) 1268)) = true := by kernel_rfl
theorem o185 : lemOk L185 = true := by kernel_rfl
theorem r186 : layH L186.pre 0 H.empty (fun h => enterA Tryz.prog L186.fn L186.args .normal [] h L186.pre.length (run Tryz.prog (extL []) (postOf L186 []) 1888)) = true := by kernel_rfl
theorem o186 : lemOk L186 = true := by kernel_rfl
theorem r187 : layH L187.pre 0 H.empty (fun h => enterA Tryz.prog L187.fn L187.args .normal [] h L187.pre.length (run Tryz.prog (extL []) (postOf L187 []) 1476)) = true := by kernel_rfl
theorem o187 : lemOk L187 = true := by kernel_rfl
theorem r188 : layH L188.pre 0 H.empty (fun h => enterA Tryz.prog L188.fn L188.args .normal [] h L188.pre.length (run Tryz.prog (extL []) (postOf L188 [14, 90]) 3812)) = true := by kernel_rfl
theorem o188 : lemOk L188 = true := by kernel_rfl
end Go.Proofs.YtfcoffpmcmhieaaGreatDoor.Ve
