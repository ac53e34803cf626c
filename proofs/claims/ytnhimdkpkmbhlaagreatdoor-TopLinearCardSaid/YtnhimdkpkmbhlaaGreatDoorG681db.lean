import Derived.Laws.BitsAllLaws
import Derived.Test.YtnhimdkpkmbhlaaGreatDoorG435a5
set_option maxRecDepth 100000
set_option maxHeartbeats 8000000
set_option linter.unusedSimpArgs false
set_option linter.unusedVariables false
namespace Go.Proofs.YtnhimdkpkmbhlaaGreatDoor
open ChangeShapes WideShapes RowKit
theorem aFf (args:Array Value) (w:World):(callFunc 14 args).run tP w= .ok (.enter 14 args) w:=ay Tryz.func14 (by kernel_rfl) rfl args w
end Go.Proofs.YtnhimdkpkmbhlaaGreatDoor
