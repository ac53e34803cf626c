import Derived.Test.YtnhimdkpkmbhlaaGreatDoorG03927
set_option maxRecDepth 100000
set_option maxHeartbeats 8000000
set_option linter.unusedSimpArgs false
set_option linter.unusedVariables false
namespace Go.Proofs.YtnhimdkpkmbhlaaGreatDoor
open ChangeShapes WideShapes RowKit
theorem KQ:fA 60 5 13:=λ_ _ _=>by kernel_rfl
theorem aFc (args:Array Value) (w:World):(callFunc 17 args).run tP w= .ok (.enter 17 args) w:=ay Tryz.func17 (by kernel_rfl) rfl args w
end Go.Proofs.YtnhimdkpkmbhlaaGreatDoor
