import Derived.Test.YtceeleolddkibaaGreatDoorGf7083
set_option linter.all false
set_option maxRecDepth 100000
set_option maxHeartbeats 8000000
namespace Go.Proofs.YtceeleolddkibaaGreatDoor
open List Nat Go.Proofs.Tryz ChangeShapes WideShapes RowKit
def aBw{L:List Nf}{m:Cl}{j q:Nat}{p:Nat×List BX}(h:P1 L m j p)(M:q<4):∃y,p.2[q]? =some y/\y.b=(m.au j).view q:=by
 have I:=h.bm;have hv:(vB (m.au j).view)[q]? =some ((m.au j).view q):=by
  have J:q=0\/q=1\/q=2\/q=3:=Y
  rcases J with rfl|rfl|rfl|rfl<;>rfl
 rw[<-I,qX]at hv
 cases h1:p.2[q]? with
 |none=>rw[h1]at hv;cases hv
 |some y=>rw[h1]at hv;exact⟨y,E,wT hv⟩
end Go.Proofs.YtceeleolddkibaaGreatDoor
