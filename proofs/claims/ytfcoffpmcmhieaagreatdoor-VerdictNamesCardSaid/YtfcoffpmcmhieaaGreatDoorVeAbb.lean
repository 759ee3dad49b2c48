/- Short words for the data. -/
import Derived.Test.YtfcoffpmcmhieaaGreatDoorA6
import Derived.Test.YtfcoffpmcmhieaaGreatDoorProg
namespace Go.Proofs.YtfcoffpmcmhieaaGreatDoor.Ve
open Go AI
noncomputable section
abbrev i (n : Nat) : AV := .int .i64 (.ofNat n)
abbrev j (n : Nat) : AV := .int .i64 (.negSucc n)
abbrev u (n : Nat) : AV := .int .u8 (.ofNat n)
abbrev p (b o : Nat) : AV := .ptr b o
abbrev s (b o l c : Nat) (e : Bool) (z : Nat) : AV := .slice b o l c e z
abbrev d : LB := .dead
abbrev c (l : List AV) : LB := .cells l
abbrev m (l : List (AV × AV)) : LB := .map l
end
end Go.Proofs.YtfcoffpmcmhieaaGreatDoor.Ve
