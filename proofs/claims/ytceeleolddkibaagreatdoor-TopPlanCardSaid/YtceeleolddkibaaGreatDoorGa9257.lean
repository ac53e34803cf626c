import Derived.Test.YtceeleolddkibaaGreatDoorGa7170
import Derived.Test.YtceeleolddkibaaGreatDoorGc8d30
set_option linter.all false
set_option maxRecDepth 100000
set_option maxHeartbeats 8000000
namespace Go.Proofs.YtceeleolddkibaaGreatDoor
open List Nat Go.Proofs.Tryz ChangeShapes WideShapes RowKit
def EX{n q k p i b he hn:Int}(h1:0<=n/\n<3)(Z:0<=q/\q<2)(h:(k=1/\0<=p/\p<2/\0<=i/\i<24/\0<=b/\b<1000/\he=0/\hn=0)\/(k=2/\p=0/\i=0/\b=0/\he=0/\hn=0)\/(k=3/\p=0/\i=0/\b=0/\0<=he/\he<3/\0<=hn/\hn<6)):dK ⟨2,n,q,0,0,k,p,i,b,he,hn⟩=0:=by
 rcases h with⟨rfl,I,J,M,O,h7,h8,rfl,rfl⟩|⟨rfl,rfl,rfl,rfl,rfl,rfl⟩|⟨rfl,rfl,rfl,rfl,I,J,M,O⟩
 all_goals
  simp[dK,dz,Rb,Ac.get,Ac.UA,fin,Co,Vy];omega
def ao9{k a b c:Int}(n q:Int)(h1:0<=n/\n<3)(h:0<=q/\q<2):dK ⟨2,n,q,0,0,if (qc k a b c).kind=4 then 2 else(qc k a b c).kind,(qc k a b c).Pv,(qc k a b c).id,(qc k a b c).body,(qc k a b c).Qs,(qc k a b c).Qz⟩=0:=by
 have p1:=oO (n:=a) (m:=2) dQ;have p2:=oO (n:=b) (m:=24) dQ;have p3:=oO (n:=c) (m:=1000) dQ;have I:=oO (n:=a) (m:=3) dQ;have J:=oO (n:=b) (m:=6) dQ;unfold qc
 split
 ·exact EX h1 h (.inl ⟨E,p1.1,p1.2,p2.1,p2.2,p3.1,p3.2,E,E⟩)
 split
 ·exact EX h1 h (.inr (.inl ⟨E,E,E,E,E,E⟩))
 split
 ·exact EX h1 h (.inr (.inr ⟨E,E,E,E,I.1,I.2,J.1,J.2⟩))
 exact EX h1 h (.inr (.inl ⟨E,E,E,E,E,E⟩))
def ZB(g:Gr)(cr:Bool):dK (iy g cr)=0/\(iy g cr).kd≠1:=by
 have p1:=oO (n:=g.a) (m:=3) dQ;have p2:=oO (n:=g.b) (m:=2) dQ;have p3:=oO (n:=g.c) (m:=20) dQ;have h:=oO (n:=g.c) (m:=120) dQ;unfold iy
 split
 ·exact⟨ao9 _ _ p1 p2,by unfold P7;dsimp only;omega⟩
 repeat' split
 all_goals
  refine⟨?_,by dsimp only;omega⟩;simp[dK,dz,Rb,Ac.get,Ac.UA,fin,Co,Vy]
  try omega
def akN:∀a∈mks,dK a=0:=by
 intro a h;simp only[mks,mem_cons,not_mem_nil,or_false]at h
 rcases h with rfl|rfl<;>rfl
def YW(gs:List Gr)(m:Nat)(cr:Bool):∀a∈bE gs m cr,dK a=0:=by
 intro a I
 rcases bD.1 I with h|h
 ·exact akN a h
 obtain⟨g,_,rfl⟩:=nJ.1 h;exact(ZB g cr).1
def Tc(gs:List Gr)(m:Nat)(cr:Bool):(bE gs m cr).length<=2+m:=by
 unfold bE mks;simp;omega
end Go.Proofs.YtceeleolddkibaaGreatDoor
