import Derived.Test.YtceeleolddkibaaGreatDoorGa7170
import Derived.Test.YtceeleolddkibaaGreatDoorGc8d30
set_option linter.all false
set_option maxRecDepth 100000
set_option maxHeartbeats 8000000
namespace Go.Proofs.YtceeleolddkibaaGreatDoor
open List Nat Go.Proofs.Tryz ChangeShapes WideShapes RowKit
def NY{k:Int}{n:Nat}(h:(k=9\/k=3)/\n<5\/k=7/\n=0):dK (Qo k (n:Int))=0/\(Qo k (n:Int)).kd≠1:=by
 rcases h with⟨h1,h⟩|⟨rfl,rfl⟩
 ·have:n=0\/n=1\/n=2\/n=3\/n=4:=Y
  rcases h1 with rfl|rfl<;>rcases this with rfl|rfl|rfl|rfl|rfl<;>exact⟨E,by show(_:Int)≠1;decide⟩
 exact⟨E,by show(7:Int)≠1;decide⟩
def Td:∀(r:Nat),∀a∈AY r,dK a=0/\a.kd≠1
 | 0,a,h=>by cases h
 |r+1,a,h=>by
  rw[EO]at h
  rcases bD.1 h with h|h
  ·rcases bD.1 h with h|h
   ·exact Td r a h
   obtain⟨n,hn,rfl⟩:=nJ.1 h;exact NY (.inl ⟨.inr E,Lh.1 hn⟩)
  rw[aI]at h;subst h;exact NY (n:=0) (.inr ⟨E,E⟩)
def agQ(r:Nat):∀a∈starts 5++AY r,dK a=0/\a.kd≠1:=by
 intro a h
 rcases bD.1 h with h|h
 ·obtain⟨n,hn,rfl⟩:=nJ.1 h;exact NY (.inl ⟨.inl E,Lh.1 hn⟩)
 exact Td r a h
end Go.Proofs.YtceeleolddkibaaGreatDoor
