import Derived.Test.YtceeleolddkibaaGreatDoorGf7083
set_option linter.all false
set_option maxRecDepth 100000
set_option maxHeartbeats 8000000
namespace Go.Proofs.YtceeleolddkibaaGreatDoor
open List Nat Go.Proofs.Tryz ChangeShapes WideShapes RowKit
def Lg(b:bF):Prop:=QK b\/b.GR=3
structure ahw (m:Cl)(q o:Nat):Prop where
 lt:o<5
 me:Lg ((m.au o).view q)
 p8:∀n,n<5->n≠o->Lg ((m.au n).view q)->((m.au n).view q).ep< ((m.au o).view q).ep
def AtQ(m:Cl)(q o n:Nat)(a:Int)(one:Bool):Prop:=(a= -1/\ ∀j,j<n-> ¬Lg ((m.au j).view q))\/ ∃k:Nat,a=(k:Int)/\k<n/\Lg ((m.au k).view q)/\(∀j,j<n->Lg ((m.au j).view q)->((m.au j).view q).ep<=((m.au k).view q).ep)/\(o<n->k=o/\one=true)
section
variable {m:Cl}{q o n:Nat}{a:Int}{one:Bool}{w:Cl}{B k:Nat}{G G':Nat->Gh}
def AtQ.first(h:AtQ m q o n a one)(M:ahw m q o)(ha:a<0)(O:Lg ((m.au n).view q)):AtQ m q o (n+1) (n:Int) true:=by
 rcases h with⟨h1,I⟩|⟨k,h1,I,h3,h4,h5⟩
 ·exact .inr ⟨n,E,by omega,O,λj Z J=>(sO.1 Z).elim (λh=>av J (I j h)) (λe=>e▸gI _),λh=>⟨(sO.1 h).elim (λh=>av M.me (I o h)) Eq.symm,E⟩⟩
 omega
def AtQ.more{k:Nat}(h:AtQ m q o n (k:Int) one)(M:ahw m q o)(hn:n<5)(J:Lg ((m.au n).view q))(hg:((m.au k).view q).ep< ((m.au n).view q).ep):AtQ m q o (n+1) (n:Int) true:=by
 rcases h with⟨h1,O⟩|⟨Z,h1,O,h3,h4,h5⟩
 ·omega
 obtain rfl:k=Z:=Y;refine .inr ⟨n,E,by omega,J,λj hj I=>(sO.1 hj).elim (λh=>by have:=h4 j h I;omega) (λe=>e▸gI _),λh=>⟨?_,E⟩⟩
 rcases sO.1 h with h|h
 ·exfalso
  obtain⟨rfl,_⟩:=h5 h;by_cases e:n=k
  ·omega
  have:=M.p8 n hn e J;omega
 exact h.symm
def AtQ.done(h:AtQ m q o 5 a one)(I:ahw m q o):a=(o:Int)/\one=true:=by
 rcases h with⟨h1,J⟩|⟨k,h1,J,Z,h4,M⟩
 ·exact av I.me (J o I.lt)
 obtain⟨rfl,O⟩:=M I.lt;exact⟨h1,O⟩
def aq7{x:OX}{q:Nat}(I:q<4):∀(j:Nat) (u:Value),[Value.int .i64 (x.d.at q).node,Value.int .i64 (x.d.at q).Pf][j]? =some u->(x.cells.toArray)[6+q*2+j]? =some u:=by
 have:q=0\/q=1\/q=2\/q=3:=by omega
 intro j u h
 match j with
 | 0=>rcases this with rfl|rfl|rfl|rfl<;>exact h
 | 1=>rcases this with rfl|rfl|rfl|rfl<;>exact h
 |j+2=>simp at h
def Uu{m:Cl}(h:∀n,n<5->(m.au n).up=true):∀j,j<=5->m.run (starts j)=m
 | 0,_=>rfl
 |j+1,hj=>by
  rw[K3];have e:=Uu h j (by omega);unfold Cl.run at e⊢;rw[pR,e]
  show m.start j=m
  unfold Cl.start;rw[aj (h j (by omega))]
end
end Go.Proofs.YtceeleolddkibaaGreatDoor
