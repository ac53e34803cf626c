import Derived.Test.YtnhimdkpkmbhlaaGreatDoorG03927
set_option maxRecDepth 100000
set_option maxHeartbeats 8000000
set_option linter.unusedSimpArgs false
set_option linter.unusedVariables false
namespace Go.Proofs.YtnhimdkpkmbhlaaGreatDoor
open ChangeShapes WideShapes RowKit
theorem ayg:(tP.info? 3).map (λi=>(i.zero,i.size,i.bytes))=some (some (iV 0),1,8):=by kernel_rfl
section
variable {P:Program} {N:Nat} {l l':Slots} {w w' w0:World} {ops:Array Oper} {o:Oper} {rest:List Oper} {Q:Exit->Act->World->Prop} {d B:Nat} {v p:Value} {fs fs':List Fact} {ex:Exit}
section
variable {b m f:Nat} {row row' cs:Array Value} {t ty:TypeId} {x y:Operand} {ds:TypeDesc} {z u:Value}
theorem na {row:Array Value} (S:St B w0 w fs) (hz: ∀ w,(zeroValue t).run P w= .ok z w) (h: ∀ b w',St B w0 w' (.blk b row t::fs)->wL P N ops Q rest ((d,.pointer (some ⟨b,0,none⟩))::l) w') (hw:o.guard=none:=by exact rfl) (hd:o.dst=some d:=by exact rfl)
  (hN:Nat.blt d N=true:=by exact rfl) (ho:o.op= .alloc t:=by exact rfl) (hc:z.cells=row:=by exact rfl):wL P N ops Q (o::rest) l w:=je (V:=λb=> .pointer (some ⟨b,0,none⟩)) S (wn hw) hd hN (dZ ho (hz w) hc) h
end
end
end Go.Proofs.YtnhimdkpkmbhlaaGreatDoor
