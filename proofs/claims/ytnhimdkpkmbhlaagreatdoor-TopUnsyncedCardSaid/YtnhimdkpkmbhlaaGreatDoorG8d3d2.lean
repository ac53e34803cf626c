import Derived.Test.YtnhimdkpkmbhlaaGreatDoorG5039e
set_option maxRecDepth 100000
set_option maxHeartbeats 8000000
set_option linter.unusedSimpArgs false
set_option linter.unusedVariables false
namespace Go.Proofs.YtnhimdkpkmbhlaaGreatDoor
open ChangeShapes WideShapes RowKit
section
variable {X:Nd} {rs us:List dM} {t:List UInt8} {f:Nat->bJ} {q:Nat} {p:fP} {keep:Int}
theorem aml (h:vJ X rs us):FJ (X.crashed 0) rs [] λq=>jm (X.bs q):=by
 have hm:=h.may;have hd:X.data=bH rs++bH us:=by rw [h.data,kL]
 have hl:=congrArg List.length hd;rw [List.length_append] at hl;have hs:=h.syn;have e:lU X.data X.syn 0=(bH rs,((bH rs).length:Int),0):=by
  unfold lU;rw [if_pos hm,if_neg (by omega),if_neg (by omega),hs,Int.add_zero,Int.toNat_natCast,hd,List.take_left]
 have:=h.len;refine ⟨by unfold Nd.crashed;dsimp only;rw [e,List.append_nil],vo,h.tape,λq hq=>Qs h.mO hq,?_,?_,rfl,rfl,λ_ _=>Ka⟩
 ·unfold Nd.crashed;dsimp only;rw [e];dsimp only;omega
 unfold Nd.crashed;dsimp only;rw [e];dsimp only;omega
end
end Go.Proofs.YtnhimdkpkmbhlaaGreatDoor
