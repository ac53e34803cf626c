import Derived.Test.YtnhimdkpkmbhlaaGreatDoorG03927
set_option maxRecDepth 100000
set_option maxHeartbeats 8000000
set_option linter.unusedSimpArgs false
set_option linter.unusedVariables false
namespace Go.Proofs.YtnhimdkpkmbhlaaGreatDoor
open ChangeShapes WideShapes RowKit
theorem pY:fA 60 2 2:=λ_ _ _=>by kernel_rfl
end Go.Proofs.YtnhimdkpkmbhlaaGreatDoor
