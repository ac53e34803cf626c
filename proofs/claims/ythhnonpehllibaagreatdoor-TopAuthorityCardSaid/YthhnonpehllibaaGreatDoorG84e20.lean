import Derived.Test.YthhnonpehllibaaGreatDoorG332af
set_option maxRecDepth 100000
set_option maxHeartbeats 8000000
namespace Go.Proofs.YthhnonpehllibaaGreatDoor
open ChangeShapes WideShapes RowKit
theorem anl:fA 35 0 0:=λ_ _ _=>by kernel_rfl
theorem aye (args:Array Value) (w:World):(callFunc 9 args).run tP w= .ok (.enter 9 args) w:=av Tryz.func9 (by kernel_rfl) rfl args w
end Go.Proofs.YthhnonpehllibaaGreatDoor
