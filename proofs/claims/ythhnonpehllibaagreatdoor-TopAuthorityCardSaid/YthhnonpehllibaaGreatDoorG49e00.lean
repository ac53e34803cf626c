import Derived.Test.YthhnonpehllibaaGreatDoorGd6a48
set_option maxRecDepth 100000
set_option maxHeartbeats 8000000
set_option linter.unusedSimpArgs false
set_option linter.unusedVariables false
namespace Go.Proofs.YthhnonpehllibaaGreatDoor
open ChangeShapes WideShapes RowKit
theorem apx:fA 35 0 0:=λ_ _ _=>by kernel_rfl
theorem aCl (args:Array Value) (w:World):(callFunc 9 args).run tP w= .ok (.enter 9 args) w:=av Tryz.func9 (by kernel_rfl) rfl args w
end Go.Proofs.YthhnonpehllibaaGreatDoor
