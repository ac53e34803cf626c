import Derived.Test.YtnhimdkpkmbhlaaGreatDoorG03927
set_option maxRecDepth 100000
set_option maxHeartbeats 8000000
set_option linter.unusedSimpArgs false
set_option linter.unusedVariables false
namespace Go.Proofs.YtnhimdkpkmbhlaaGreatDoor
open ChangeShapes WideShapes RowKit
theorem avB (args:Array Value) (w:World):(callFunc 19 args).run tP w= .ok (.enter 19 args) w:=ay Tryz.func19 (by kernel_rfl) rfl args w
theorem aFd (args:Array Value) (w:World):(callFunc 20 args).run tP w= .ok (.enter 20 args) w:=ay Tryz.func20 (by kernel_rfl) rfl args w
section
variable {P:Program} {N:Nat} {l l':Slots} {w w' w0:World} {ops:Array Oper} {o:Oper} {rest:List Oper} {Q:Exit->Act->World->Prop} {d B:Nat} {v p:Value} {fs fs':List Fact} {ex:Exit}
section
variable {t tt:TypeId} {kd:IntKind} {xo yo:Operand} {x y:Int}
theorem anQ (h:x=y) (ho:o.op= .binOp .eql t xo yo tt:=by exact rfl) (hx:ev l xo=some (.int kd x):=by exact rfl) (hy:ev l yo=some (.int kd y):=by exact rfl):iy P N l o w (.bool true):=aR ho hx hy (Rc h)
end
section
variable {b m f:Nat} {row row' cs:Array Value} {t ty:TypeId} {x y:Operand} {ds:TypeDesc} {z u:Value}
theorem pt {fn:Func} {R:Ending->World->Prop} {j:Nat} (hR:R (.returned (sF [v])) w) (hr:fn.results=[ResultVar.tmp j].toArray:=by exact rfl) (h2:lk l j=some v:=by exact rfl):wQ N (bodyPost P fn R) .ret l w:=dU (vs:=[v]) hr ⟨h2,trivial⟩ hR
end
section
theorem apx {q3:Exit->Act->World->Prop} (h:wQ N q3 .ret l w):wQ N (Exit.then (Code.ret.wp P q3) q3) .normal l w:=gK (om h)
theorem aFe {c4:Code} {q2:Exit->Act->World->Prop} {i6:Nat} {os5:List Oper} (h:wL P N os5.toArray (Exit.then (c4.wp P q2) q2) os5 l w):wC P N (Code.seq (Code.region i6 os5.toArray false) c4) q2 l w:=aH (aC h)
end
end
end Go.Proofs.YtnhimdkpkmbhlaaGreatDoor
