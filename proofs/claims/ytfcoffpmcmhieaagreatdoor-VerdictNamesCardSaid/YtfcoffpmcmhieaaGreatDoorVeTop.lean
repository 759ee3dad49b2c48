/- The law's own run, cut at the lemmas, is run through by the kernel. -/
import Derived.Test.YtfcoffpmcmhieaaGreatDoorVeData
namespace Go.Proofs.YtfcoffpmcmhieaaGreatDoor.Ve
open Go AI
noncomputable section
def tab : List Nat := [0, 1, 56, 2, 57, 49, 28, 3, 61, 58, 42, 50, 38, 29, 17, 4, 62, 47, 59, 36, 45, 43, 51, 22, 53, 39, 33, 30, 24, 18, 12, 5, 63, 55, 48, 27, 60, 41, 37, 16, 46, 35, 44, 21, 52, 32, 23, 11, 54, 26, 40, 15, 34, 20, 31, 10, 25, 14, 19, 9, 13, 8, 7, 6]
def tab1 : List Nat := [1, 10, 100, 1000, 10000, 100000, 1000000, 10000000, 100000000, 1000000000, 10000000000, 100000000000, 1000000000000, 10000000000000, 100000000000000, 1000000000000000, 10000000000000000, 100000000000000000, 1000000000000000000, 10000000000000000000]
def tab2 : List Nat := [0, 1, 28, 2, 29, 14, 24, 3, 30, 22, 20, 15, 25, 17, 4, 8, 31, 27, 13, 23, 21, 19, 16, 7, 26, 12, 18, 6, 11, 5, 10, 9]
def v (n : Nat) : AV := .int .u64 (.ofNat n)
def Lt : Lem := { fn := 6, args := List.replicate 0 .top, pre := [.cells (tab.map u), .cells (tab1.map v), .cells (tab2.map u), d, d, d, d, d], res := .bool true, post := [.cells (tab.map u), .cells (tab1.map v), .cells (tab2.map u), d, d, d, d, d], kp := [false, false, false, false, false, false, false, false] }
end
theorem rt : layH Lt.pre 0 H.empty (fun h => enterA Tryz.prog Lt.fn Lt.args .normal [] h Lt.pre.length (run Tryz.prog (extL lsTop) (postOf Lt []) 11200)) = true := by kernel_rfl
theorem ot : lemOk Lt = true := by kernel_rfl
end Go.Proofs.YtfcoffpmcmhieaaGreatDoor.Ve
