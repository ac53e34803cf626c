import Derived.Test.YtnhimdkpkmbhlaaGreatDoorGf7ab3
set_option maxRecDepth 100000
set_option maxHeartbeats 8000000
set_option linter.unusedSimpArgs false
set_option linter.unusedVariables false
namespace Go.Proofs.YtnhimdkpkmbhlaaGreatDoor
open ChangeShapes WideShapes RowKit
theorem ZR (a b:Ev) (w:World):(binOp .eql 55 (.agg #[iV a.kind,iV a.producer,iV a.id,iV a.body,iV a.aG,iV a.hno])
  (.agg #[iV b.kind,iV b.producer,iV b.id,iV b.body,iV b.aG,iV b.hno])).run Tryz.prog w= .ok (.bool (decide (a=b))) w:=by
 rw [<-Ev.Ue];exact xL (P:=Tryz.prog) w ZW ZX aeL a.kd b.kd
end Go.Proofs.YtnhimdkpkmbhlaaGreatDoor
