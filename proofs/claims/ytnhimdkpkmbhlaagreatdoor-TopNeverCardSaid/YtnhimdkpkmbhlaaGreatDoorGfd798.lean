import Derived.Test.YtnhimdkpkmbhlaaGreatDoorG8681f
set_option maxRecDepth 100000
set_option maxHeartbeats 8000000
set_option linter.unusedSimpArgs false
set_option linter.unusedVariables false
namespace Go.Proofs.YtnhimdkpkmbhlaaGreatDoor
open ChangeShapes WideShapes RowKit
def Nv (z:Int):List Value:=[iV z]
end Go.Proofs.YtnhimdkpkmbhlaaGreatDoor
