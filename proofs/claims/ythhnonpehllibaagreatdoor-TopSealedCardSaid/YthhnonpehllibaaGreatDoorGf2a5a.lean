import Derived.Test.YthhnonpehllibaaGreatDoorG68797
set_option maxRecDepth 100000
set_option maxHeartbeats 8000000
namespace Go.Proofs.YthhnonpehllibaaGreatDoor
open ChangeShapes WideShapes RowKit
theorem Dx {gs:List Gr} {m:Nat} {cr:Bool} {i:Nat} (hi:i<2) (n q:Nat):((dZ.run ((aY gs m cr).take i)).ah n).view q=bG\/((dZ.run ((aY gs m cr).take i)).ah n).view q=⟨1,1,0,0,0,[]⟩:=by
 match i,hi with
 | 0,_=>exact .inl rfl
 | 1,_=>
  rw [show dZ.run ((aY gs m cr).take 1)=abB from Vd];by_cases e:n=0
  ·subst e;by_cases e1:q=0
   ·subst e1;exact .inr rfl
   left
   show upd (λ_=>bG) 0 ⟨1,1,0,0,0,[]⟩ q=bG
   rw [upd_ne e1]
  left
  rw [show abB.ah n=nd0 from upd_ne e];rfl
end Go.Proofs.YthhnonpehllibaaGreatDoor
