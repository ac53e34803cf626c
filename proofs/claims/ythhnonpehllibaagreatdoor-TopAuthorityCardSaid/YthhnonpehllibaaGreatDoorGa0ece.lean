import Derived.Test.YthhnonpehllibaaGreatDoorG5f7ac
set_option maxRecDepth 100000
set_option maxHeartbeats 8000000
namespace Go.Proofs.YthhnonpehllibaaGreatDoor
open ChangeShapes WideShapes RowKit
theorem ac9: ∀ (l:List Ac) {m:Cl} {k:Nat},Bs m k->(∀ a∈l,Lx a)->k+l.length<=100000->Bs (m.run l) (k+l.length)
 | [],m,k,h,_,_=>h
 | a::l,m,k,h,ha,hk=>by
  rw [List.length_cons] at hk;have:=ac9 l (JB h (ha a (by simp)) (by omega)) (λx hx=>ha x (by simp [hx])) (by omega);rw [List.length_cons,show k+(l.length+1)=k+1+l.length by omega];exact this
end Go.Proofs.YthhnonpehllibaaGreatDoor
