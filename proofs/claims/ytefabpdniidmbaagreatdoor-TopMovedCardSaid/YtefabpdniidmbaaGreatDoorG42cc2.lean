import Derived.Test.YtefabpdniidmbaaGreatDoorG7906b
set_option linter.all false
set_option maxRecDepth 100000
set_option maxHeartbeats 8000000
namespace Go.Proofs.YtefabpdniidmbaaGreatDoor
open List Nat Go.Proofs.Tryz ChangeShapes WideShapes RowKit
def KG(b:bC):Prop:=Qc b\/b.F9=3
structure agX (m:Cl)(q o:Nat):Prop where
 lt:o<5
 me:KG ((m.aj o).view q)
 oM:∀n,n<5->n≠o->KG ((m.aj n).view q)->((m.aj n).view q).ep< ((m.aj o).view q).ep
def AtQ(m:Cl)(q o n:Nat)(a:Int)(one:Bool):Prop:=(a= -1/\ ∀j,j<n-> ¬KG ((m.aj j).view q))\/ ∃k:Nat,a=(k:Int)/\k<n/\KG ((m.aj k).view q)/\(∀j,j<n->KG ((m.aj j).view q)->((m.aj j).view q).ep<=((m.aj k).view q).ep)/\(o<n->k=o/\one=true)
section
variable {m:Cl}{q o n:Nat}{a:Int}{one:Bool}{w:Cl}{B k:Nat}{G G':Nat->Gh}
def AtQ.first(h:AtQ m q o n a one)(M:agX m q o)(ha:a<0)(O:KG ((m.aj n).view q)):AtQ m q o (n+1) (n:Int) true:=by
 rcases h with⟨h1,I⟩|⟨k,h1,I,h3,h4,h5⟩
 ·exact .inr ⟨n,E,by omega,O,λj Z J=>(Gm.1 Z).elim (λh=>av J (I j h)) (λe=>e▸jg _),λh=>⟨(Gm.1 h).elim (λh=>av M.me (I o h)) Eq.symm,E⟩⟩
 omega
def AtQ.more{k:Nat}(h:AtQ m q o n (k:Int) one)(M:agX m q o)(hn:n<5)(J:KG ((m.aj n).view q))(hg:((m.aj k).view q).ep< ((m.aj n).view q).ep):AtQ m q o (n+1) (n:Int) true:=by
 rcases h with⟨h1,O⟩|⟨Z,h1,O,h3,h4,h5⟩
 ·omega
 obtain rfl:k=Z:=Y;refine .inr ⟨n,E,by omega,J,λj hj I=>(Gm.1 hj).elim (λh=>by have:=h4 j h I;omega) (λe=>e▸jg _),λh=>⟨?_,E⟩⟩
 rcases Gm.1 h with h|h
 ·exfalso
  obtain⟨rfl,_⟩:=h5 h;by_cases e:n=k
  ·omega
  have:=M.oM n hn e J;omega
 exact h.symm
def AtQ.done(h:AtQ m q o 5 a one)(I:agX m q o):a=(o:Int)/\one=true:=by
 rcases h with⟨h1,J⟩|⟨k,h1,J,Z,h4,M⟩
 ·exact av I.me (J o I.lt)
 obtain⟨rfl,O⟩:=M I.lt;exact⟨h1,O⟩
def agY{x:OX}{q:Nat}(I:q<4):∀(j:Nat) (u:Value),[Value.int .i64 (x.d.at q).node,Value.int .i64 (x.d.at q).ME][j]? =some u->(x.cells.toArray)[6+q*2+j]? =some u:=by
 have:q=0\/q=1\/q=2\/q=3:=by omega
 intro j u h
 match j with
 | 0=>rcases this with rfl|rfl|rfl|rfl<;>exact h
 | 1=>rcases this with rfl|rfl|rfl|rfl<;>exact h
 |j+2=>simp at h
def TK{m:Cl}(h:∀n,n<5->(m.aj n).up=true):∀j,j<=5->m.run (starts j)=m
 | 0,_=>rfl
 |j+1,hj=>by
  rw[Ku];have e:=TK h j Y;unfold Cl.run at e⊢;rw[uj,e]
  show m.start j=m
  unfold Cl.start;rw[au (h j Y)]
def avE:∀ {d e:TW},d.at 0=e.at 0->d.at 1=e.at 1->d.at 2=e.at 2->d.at 3=e.at 3->d=e
 |⟨_,_,_,_⟩,⟨_,_,_,_⟩,rfl,rfl,rfl,rfl=>rfl
end
end Go.Proofs.YtefabpdniidmbaaGreatDoor
