/- The runs of lemmas, part 6: each is run through by the kernel. -/
import Derived.Test.YtfcoffpmcmhieaaGreatDoorVeData
namespace Go.Proofs.YtfcoffpmcmhieaaGreatDoor.Ve
open Go AI
theorem e8 : startF (run Tryz.prog (extL [L5, L7]) (postOf L8 [125, 19]) 2585) S8_1 = true := by kernel_rfl
theorem o8 : lemOk L8 = true := by kernel_rfl
theorem r9 : layH L9.pre 0 H.empty (fun h => enterA Tryz.prog L9.fn L9.args .normal [] h L9.pre.length (run Tryz.prog (extL [L0, L1, L2, L3, L4, L8]) (postOf L9 [66, 67, 56]) 1848)) = true := by kernel_rfl
theorem o9 : lemOk L9 = true := by kernel_rfl
theorem r10 : layH L10.pre 0 H.empty (fun h => enterA Tryz.prog L10.fn L10.args .normal [] h L10.pre.length (run Tryz.prog (extL []) (postOf L10 []) 1888)) = true := by kernel_rfl
theorem o10 : lemOk L10 = true := by kernel_rfl
theorem r11 : layH L11.pre 0 H.empty (fun h => enterA Tryz.prog L11.fn L11.args .normal [] h L11.pre.length (run Tryz.prog (extL []) (postOf L11 []) 1476)) = true := by kernel_rfl
theorem o11 : lemOk L11 = true := by kernel_rfl
theorem r12 : layH L12.pre 0 H.empty (fun h => enterA Tryz.prog L12.fn L12.args .normal [] h L12.pre.length (run Tryz.prog (extL []) (postOf L12 [14, 90]) 3812)) = true := by kernel_rfl
theorem o12 : lemOk L12 = true := by kernel_rfl
theorem r13 : layH L13.pre 0 H.empty (fun h => enterA Tryz.prog L13.fn L13.args .normal [] h L13.pre.length (run Tryz.prog (extL [L12]) (postOf L13 [16, 31]) 1445)) = true := by kernel_rfl
theorem o13 : lemOk L13 = true := by kernel_rfl
theorem r14 : layH L14.pre 0 H.empty (fun h => enterA Tryz.prog L14.fn L14.args .normal [] h L14.pre.length (run Tryz.prog (extL [L12, L13]) (postOf L14 [48, 34, 46]) 1921)) = true := by kernel_rfl
theorem o14 : lemOk L14 = true := by kernel_rfl
theorem r15 : layH L15.pre 0 H.empty (fun h => enterA Tryz.prog L15.fn L15.args .normal [] h L15.pre.length (run Tryz.prog (extL [L10, L11, L14]) (postOf L15 [29]) 1670)) = true := by kernel_rfl
theorem o15 : lemOk L15 = true := by kernel_rfl
theorem r16 : layH L16.pre 0 H.empty (fun h => enterA Tryz.prog L16.fn L16.args .normal [] h L16.pre.length (run Tryz.prog (extL [L10, L11, L14]) (postOf L16 [39]) 2297)) = true := by kernel_rfl
theorem o16 : lemOk L16 = true := by kernel_rfl
theorem r17 : layH L17.pre 0 H.empty (fun h => enterA Tryz.prog L17.fn L17.args .normal [] h L17.pre.length (run Tryz.prog (extL [L9, L10, L11, L13, L14, L15, L16]) (postOf L17 [76, 12, 13, 14, 65, 47, 71, 60, 63, 48, 49, 69]) 2812)) = true := by kernel_rfl
theorem o17 : lemOk L17 = true := by kernel_rfl
theorem r18 : layH L18.pre 0 H.empty (fun h => enterA Tryz.prog L18.fn L18.args .normal [] h L18.pre.length (run Tryz.prog (extL [L5]) (postOf L18 []) 1254)) = true := by kernel_rfl
theorem o18 : lemOk L18 = true := by kernel_rfl
theorem r19 : layH L19.pre 0 H.empty (fun h => enterA Tryz.prog L19.fn L19.args .normal [] h L19.pre.length (run Tryz.prog (extL [L5]) (postOf L19 [19]) 1211)) = true := by kernel_rfl
theorem o19 : lemOk L19 = true := by kernel_rfl
theorem r20 : layH L20.pre 0 H.empty (fun h => enterA Tryz.prog L20.fn L20.args .normal [] h L20.pre.length (run Tryz.prog (extL [L5, L18, L19]) (postOf L20 [54, 52]) 1623)) = true := by kernel_rfl
theorem o20 : lemOk L20 = true := by kernel_rfl
theorem r21 : layH L21.pre 0 H.empty (fun h => enterA Tryz.prog L21.fn L21.args .normal [] h L21.pre.length (run Tryz.prog (extL [L5, L20]) (postOf L21 [79, 71, 76]) 2512)) = true := by kernel_rfl
theorem o21 : lemOk L21 = true := by kernel_rfl
theorem r22 : layH L22.pre 0 H.empty (fun h => enterA Tryz.prog L22.fn L22.args .normal [] h L22.pre.length (run Tryz.prog (extL [L5, L17, L21]) (postOf L22 [34, 35, 86, 33, 36, 37, 38, 39, 40, 41, 84, 58, 64, 42, 43, 44, 45, 46]) 1784)) = true := by kernel_rfl
theorem o22 : lemOk L22 = true := by kernel_rfl
theorem r23 : layH L23.pre 0 H.empty (fun h => enterA Tryz.prog L23.fn L23.args .normal [] h L23.pre.length (run Tryz.prog (extL []) (postOf L23 []) 2054)) = true := by kernel_rfl
theorem o23 : lemOk L23 = true := by kernel_rfl
theorem r24 : layH L24.pre 0 H.empty (fun h => enterA Tryz.prog L24.fn L24.args .normal [] h L24.pre.length (run Tryz.prog (extL [L23]) (postOf L24 [45, 17, 24, 34]) 7144)) = true := by kernel_rfl
theorem o24 : lemOk L24 = true := by kernel_rfl
theorem r25 : layH L25.pre 0 H.empty (fun h => enterA Tryz.prog L25.fn L25.args .normal [] h L25.pre.length (run Tryz.prog (extL []) (postOf L25 []) 2054)) = true := by kernel_rfl
theorem o25 : lemOk L25 = true := by kernel_rfl
theorem r26 : layH L26.pre 0 H.empty (fun h => enterA Tryz.prog L26.fn L26.args .normal [] h L26.pre.length (run Tryz.prog (extL [L25]) (postOf L26 [20]) 2247)) = true := by kernel_rfl
theorem o26 : lemOk L26 = true := by kernel_rfl
theorem r27 : layH L27.pre 0 H.empty (fun h => enterA Tryz.prog L27.fn L27.args .normal [] h L27.pre.length (run Tryz.prog (extL [L24, L26]) (postOf L27 [90, 91, 92, 44, 43, 62, 69, 79, 45, 46, 47]) 1655)) = true := by kernel_rfl
theorem o27 : lemOk L27 = true := by kernel_rfl
theorem r28 : layH L28.pre 0 H.empty (fun h => enterA Tryz.prog L28.fn L28.args .normal [] h L28.pre.length (run Tryz.prog (extL [L25]) (postOf L28 []) 1320)) = true := by kernel_rfl
theorem o28 : lemOk L28 = true := by kernel_rfl
theorem r29 : layH L29.pre 0 H.empty (fun h => enterA Tryz.prog L29.fn L29.args .normal [] h L29.pre.length (run Tryz.prog (extL []) (postOf L29 []) 1462)) = true := by kernel_rfl
theorem o29 : lemOk L29 = true := by kernel_rfl
theorem r30 : layH L30.pre 0 H.empty (fun h => enterA Tryz.prog L30.fn L30.args .normal [] h L30.pre.length (run Tryz.prog (extL [L29]) (postOf L30 [28, 30, 20]) 1534)) = true := by kernel_rfl
theorem o30 : lemOk L30 = true := by kernel_rfl
theorem r31 : layH L31.pre 0 H.empty (fun h => enterA Tryz.prog L31.fn L31.args .normal [] h L31.pre.length (run Tryz.prog (extL [L5, L29, L30]) (postOf L31 [87, 69, 74, 79]) 2305)) = true := by kernel_rfl
theorem o31 : lemOk L31 = true := by kernel_rfl
theorem r32 : layH L32.pre 0 H.empty (fun h => enterA Tryz.prog L32.fn L32.args .normal [] h L32.pre.length (run Tryz.prog (extL [L25, L28, L29, L31]) (postOf L32 [94, 86, 85, 67, 77]) 3407)) = true := by kernel_rfl
theorem o32 : lemOk L32 = true := by kernel_rfl
theorem r33 : layH L33.pre 0 H.empty (fun h => enterA Tryz.prog L33.fn L33.args .normal [] h L33.pre.length (run Tryz.prog (extL []) (postOf L33 []) 1462)) = true := by kernel_rfl
theorem o33 : lemOk L33 = true := by kernel_rfl
theorem r34 : layH L34.pre 0 H.empty (fun h => enterA Tryz.prog L34.fn L34.args .normal [] h L34.pre.length (run Tryz.prog (extL [L25, L33]) (postOf L34 [49, 19, 26, 36]) 1375)) = true := by kernel_rfl
theorem o34 : lemOk L34 = true := by kernel_rfl
theorem r35 : layH L35.pre 0 H.empty (fun h => enterA Tryz.prog L35.fn L35.args .normal [] h L35.pre.length (run Tryz.prog (extL [L25, L33, L34]) (postOf L35 [43, 41, 44, 45, 46]) 2795)) = true := by kernel_rfl
theorem o35 : lemOk L35 = true := by kernel_rfl
end Go.Proofs.YtfcoffpmcmhieaaGreatDoor.Ve
