/- the flags of the operations: the table as the program lays it. -/
import Derived.Test.YtknfphgncoojeaaDoorProg
import Derived.WalkKit
namespace Go.Proofs.YtknfphgncoojeaaDoor
def flagL : List (Nat × Nat) := [(9, 195), (0, 130), (0, 131), (1, 0), (1, 0), (2, 0), (0, 194), (128, 0), (2, 0), (128, 0), (207, 4), (64, 0), (64, 0), (0, 1), (0, 8), (0, 4), (0, 64), (0, 131), (0, 131), (0, 131), (0, 130), (0, 130), (0, 130), (0, 130), (0, 130), (0, 130), (0, 130), (0, 0), (0, 0), (0, 130), (0, 130), (0, 130), (0, 131), (0, 0), (0, 130), (0, 0), (207, 0), (0, 130), (0, 255), (1, 131), (1, 131), (0, 255), (0, 0), (9, 195), (0, 1), (0, 8), (0, 4), (0, 0), (0, 0), (0, 0), (0, 130), (0, 130), (0, 130), (0, 130), (0, 0), (0, 130), (0, 131), (0, 131), (9, 195), (0, 131), (9, 195), (0, 130), (0, 130), (1, 131), (9, 195), (0, 0), (0, 131), (0, 131), (0, 131), (0, 0)]
def needsT (o : Nat) : Nat := (flagL.getD o (0, 0)).1
def setsT (o : Nat) : Nat := (flagL.getD o (0, 0)).2
end Go.Proofs.YtknfphgncoojeaaDoor
