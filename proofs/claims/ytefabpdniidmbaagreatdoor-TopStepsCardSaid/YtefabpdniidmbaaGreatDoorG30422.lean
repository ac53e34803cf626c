import Derived.Test.YtefabpdniidmbaaGreatDoorG0aa69
import Derived.Test.YtefabpdniidmbaaGreatDoorG1bfb6
set_option linter.all false
set_option maxRecDepth 100000
set_option maxHeartbeats 8000000
namespace Go.Proofs.YtefabpdniidmbaaGreatDoor
open List Nat Go.Proofs.Tryz ChangeShapes WideShapes RowKit
def o5(f:Nat->Nat):Nat:=f 0+(f 1+(f 2+(f 3+f 4)))
def qD(F:Wy)(v:Nat->aU)(n:Nat):Nat:=if n≠F.own F.M/\(v n).Gq=3 then 1 else 0
def tgl(F:Wy)(b:aU):Nat:=if b.ep=F.M+1 then b.Gs.length+1 else 0
def pqR(F:Wy)(bo bt:aU):Nat:=if F.R=1 then bo.Gs.length+2-tgl F bt+(if bo.Gq=2 then 1 else 0)+2 else 0
def Uh(F:Wy)(d:Int):Nat:=if d=F.M then 0 else 1
def sH(F:Wy)(d:Int)(v:Nat->aU):Nat:=pqR F (v (F.own F.M)) (v F.tg.toNat)+Uh F d+o5 (qD F v)
def fI(F:Nat->Wy)(l:bH):Nat:=if (l.kd=2\/l.kd=4)/\ ¬calm (F l.q) l then 1 else 0
def rA:Option bS->Nat
 |none=>0
 |some _=>1
def vq(m:Cl)(q:Nat)(j:Nat):aU:=qG (m.ah j) q
noncomputable def PP(m:Cl)(F:Nat->Wy):Nat:=2*m.ws bO+(sH (F 0) (m.off.at 0).Mc (vq m 0)+sH (F 1) (m.off.at 1).Mc (vq m 1))
noncomputable def ZZ(m:Cl)(F:Nat->Wy):Nat:=8*PP m F+2*m.ws (fI F)+o5 λj=>rA (m.ah j).Mw
section
variable {m w m':Cl}{n q:Nat}{l:bH}{p:bS}{F F':Wy}{g g':Gh}{b b':aU}{v v':Nat->aU}{d:Int}{f f':Nat->Nat}
def XJ{a:Nat}(hn:n<5)(h:∀j,j≠n->f' j=f j)(I:f' n+a<=f n):o5 f'+a<=o5 f:=by
 unfold o5
 rcases five hn with rfl|rfl|rfl|rfl|rfl
 ·rw[h 1 (by decide),h 2 (by decide),h 3 (by decide),h 4 (by decide)];omega
 ·rw[h 0 (by decide),h 2 (by decide),h 3 (by decide),h 4 (by decide)];omega
 ·rw[h 0 (by decide),h 1 (by decide),h 3 (by decide),h 4 (by decide)];omega
 ·rw[h 0 (by decide),h 1 (by decide),h 2 (by decide),h 4 (by decide)];omega
 rw[h 0 (by decide),h 1 (by decide),h 2 (by decide),h 3 (by decide)];omega
def BI(h:∀j,j<5->f' j=f j):o5 f'=o5 f:=by
 unfold o5;rw[h 0 (by decide),h 1 (by decide),h 2 (by decide),h 3 (by decide),h 4 (by decide)]
def MX{a:Nat}(hn:n<5)(h:∀j,j≠n->f' j<=f j)(I:f' n<=f n+a):o5 f'<=o5 f+a:=by
 unfold o5;have k:∀j,j≠n->f' j<=f j:=h
 rcases five hn with rfl|rfl|rfl|rfl|rfl
 ·have:=h 1 (by decide);have:=h 2 (by decide);have:=h 3 (by decide);have:=h 4 (by decide);omega
 ·have:=h 0 (by decide);have:=h 2 (by decide);have:=h 3 (by decide);have:=h 4 (by decide);omega
 ·have:=h 0 (by decide);have:=h 1 (by decide);have:=h 3 (by decide);have:=h 4 (by decide);omega
 ·have:=h 0 (by decide);have:=h 1 (by decide);have:=h 2 (by decide);have:=h 4 (by decide);omega
 have:=h 0 (by decide);have:=h 1 (by decide);have:=h 2 (by decide);have:=h 3 (by decide);omega
def alZ:qD F v n<=1:=by unfold qD;split<;>omega
def ahO(h:∀j,(v' j).Gq=(v j).Gq/\(v' j).ep=(v j).ep/\(v' j).Gs=(v j).Gs):sH F d v'=sH F d v:=by
 have h1:o5 (qD F v')=o5 (qD F v):=BI λj _=>by unfold qD;rw[(h j).1]
 unfold sH pqR tgl;rw[h1,(h _).1,(h (F.own F.M)).2.2,(h F.tg.toNat).2.1,(h F.tg.toNat).2.2]
def mQ.pq(ho:F.own F.M<5)(h:mQ F F'):sH F' d v<=sH F d v:=by
 rcases h with⟨h1,J,O,I⟩|⟨h1,J,O,I,h5⟩
 ·have e:F'.own F'.M=F.own F.M:=by rw[h1];exact J _ (Nat.le_refl _)
  have Z:o5 (qD F' v)=o5 (qD F v):=BI λj _=>by unfold qD;rw[e]
  unfold sH pqR Uh tgl;rw[Z,e,h1,O,I];exact Nat.le_refl _
 have Z:o5 (qD F' v)<=o5 (qD F v)+1:=by
  refine MX ho (λj hj=>?_) (Nat.le_trans alZ (le_add_left _ _));unfold qD
  split
  ·rename_i c
   rw[if_pos ⟨hj,c.2⟩];exact Nat.le_refl _
  exact zero_le _
 unfold sH pqR Uh;rw[if_neg (by omega:¬F'.R=1),if_pos I]
 split<;>omega
def Dt{F:Nat->Wy}{x:bH}(h:x.kd≠2/\x.kd≠4\/calm (F x.q) x):fI F x=0:=by
 unfold fI;rw[if_neg]
 rcases h with h|h
 ·omega
 exact λc=>c.2 h
def RZ{F:Nat->Wy}(x:bH)(h:x.kd=6):fI F x=0:=Dt (.inl (by omega))
def mQ.sl{F F':Nat->Wy}(h:mQ (F l.q) (F' l.q)):fI F' l<=fI F l:=by
 unfold fI
 split
 ·rename_i c
  rw[if_pos ⟨c.1,λk=>c.2 (h.clm k)⟩];exact Nat.le_refl _
 exact zero_le _
def al0{V:Nat->aU}{P:Nat->Option bS}{U:Nat->Bool}{Lt:bH->Prop}{pl:Pl}{sh:Nat->Int×Int}{sv:List jJ}{bs:Nat->aU}{FF:Nat->Wy}(I:QC g V P U Lt pl sh sv)(hn:n<5)(hV:V n=bs l.q)(hpq:p.q=l.q)(hp:p.ok bs)(hS:Src (bs l.q) l p)(hk:Et g V n p)
  (AU:l.tg=n) (hM:(FF l.q).M=g.m) (ho:(FF l.q).own=g.own) (hR:(FF l.q).R=1↔(V g.o).Gq≠1) (hT:(FF l.q).tg=(V g.o).tg) (hgr:∀q x last,p=.QU q x last->(bs l.q).Gs.length<x.Gs.length) (hv:v n=bs l.q) (hvo:g.G.length<=(v g.o).Gs.length):
  sH (FF l.q) d (Na v n (p.b bs))+1<=sH (FF l.q) d v+2*bO l+fI FF l:=by
 have eo:(FF l.q).own (FF l.q).M=g.o:=by rw[hM,ho];rfl
 have o5':=I.o5;have htn:(FF l.q).R=1->(FF l.q).tg.toNat≠g.o:=λh=>by
  obtain⟨_,h1,h2,h3⟩:=I.Ru (hR.1 h);rw[<-hT]at h1 h2;omega
 have O:∀j,j≠n->Na v n (p.b bs) j=v j:=λj hj=>Kg hj;have auth:∀ {a c:Nat},n=g.o->(p.b bs).Gs.length<=(bs l.q).Gs.length+a->(if (p.b bs).Gq=2 then 1 else 0)+c<=(if (bs l.q).Gq=2 then 1 else 0)->(c=0\/(FF l.q).R=1)->sH (FF l.q) d (Na v n (p.b bs))+c<=sH (FF l.q) d v+a:=λ{a c} Nc h h3 hc=>by
  have e1:o5 (qD (FF l.q) (Na v n (p.b bs)))=o5 (qD (FF l.q) v):=BI λj _=>by
   unfold qD;by_cases e:j=n
   ·rw[eo,e,Nc,if_neg (λc=>c.1 E),if_neg (λc=>c.1 E)]
   rw[O j e]
  have e2:Na v n (p.b bs) g.o=p.b bs:=by rw[<-Nc];exact Ee _ _ _
  have e3:v g.o=bs l.q:=by rw[<-Nc];exact hv
  unfold sH pqR;rw[e1,eo,e2,e3];by_cases J:(FF l.q).R=1
  ·rw[if_pos J,if_pos J,O _ (by rw[Nc];exact htn J)];omega
  rw[if_neg J,if_neg J]
  rcases hc with hc|hc
  ·omega
  exact absurd hc J
 have Z:∀ {a c:Nat},n≠g.o->(if (p.b bs).Gq=3 then 1 else 0)+a<=(if (bs l.q).Gq=3 then 1 else 0)->
   ((FF l.q).R=1->(FF l.q).tg.toNat=n->(v g.o).Gs.length+2-tgl (FF l.q) (p.b bs)+c<=(v g.o).Gs.length+2-tgl (FF l.q) (bs l.q))->(c=0\/((FF l.q).R=1/\(FF l.q).tg.toNat=n))->sH (FF l.q) d (Na v n (p.b bs))+(a+c)<=sH (FF l.q) d v:=λ{a c} Nc h h1 hc=>by
  have e1:o5 (qD (FF l.q) (Na v n (p.b bs)))+a<=o5 (qD (FF l.q) v):=by
   refine XJ hn (λj hj=>by unfold qD;rw[O j hj]) ?_;unfold qD;rw[eo,Ee,hv];have:∀b:aU,(if n≠g.o/\b.Gq=3 then 1 else 0)=if b.Gq=3 then 1 else 0:=λb=>by
    by_cases e:b.Gq=3
    ·rw[if_pos ⟨Nc,e⟩,if_pos e]
    rw[if_neg (λc=>e c.2),if_neg e]
   rw[this,this];exact h
  have e2:Na v n (p.b bs) g.o=v g.o:=O _ (λe=>Nc e.symm);unfold sH pqR;rw[eo,e2];by_cases J:(FF l.q).R=1
  ·rw[if_pos J,if_pos J];by_cases ht:(FF l.q).tg.toNat=n
   ·have:=h1 J ht;rw[ht,Ee,hv];omega
   rw[O _ ht]
   rcases hc with hc|⟨_,hc⟩
   ·omega
   exact absurd hc ht
  rw[if_neg J,if_neg J]
  rcases hc with hc|⟨hc,_⟩
  ·omega
  exact absurd hc J
 have cl1:¬calm (FF l.q) l->(l.kd=2\/l.kd=4)->fI FF l=1:=λh h2=>if_pos ⟨h2,h⟩;have r3:∀ {r:Int},r≠3->(if r=3 then 1 else 0:Nat)=0:=λh=>if_neg h
 cases p with
 |serve k Gs op num a=>
  have e:k=l.q:=hpq;subst e;obtain⟨s1,_⟩:=hS;obtain⟨h1,h2,_⟩:=hp;have hc:bO l=1:=if_pos s1;have:=auth (a:=1) (c:=0) hk.1 (by
   show Gs.length<=_
   rw[h2,length_append,length_singleton];exact Nat.le_refl _) (Nat.le_refl _) (.inl E)
  omega
 |Ns k x=>
  have e:k=l.q:=hpq;subst e;obtain⟨s1,s2⟩:=hS;obtain⟨j,j1,j2,j3,j4,j5⟩:=hk;have Nc:=I.oJ j4;rw[hV]at j4 j5;have hle:l.ep=(j:Int)+1:=by have:=congrArg aU.ep (s2.symm.trans j1);exact this
  have hx:(bS.Ns l.q x).b bs=x:=rfl;have hxr:x.Gq=4:=by rw[j1]
  have hxe:x.ep=(j:Int)+1:=by rw[j1]
  have hxv:x.Gs.length=0:=by rw[j1];rfl
  have t0:tgl (FF l.q) (bs l.q)=0:=if_neg (by rw[hM];omega);by_cases c:calm (FF l.q) l
  ·rcases c with⟨c1,c2,c3⟩|⟨c1,c2,c3⟩
   ·exfalso
    rw[hM]at c2;rw[ho,AU]at c3;have:=I.ge (j+1) (by omega) (by omega);rw[show l.ep.toNat=j+1 by omega]at c3;rw[show g.own (j+1)=n by omega,hV]at this;omega
   have:=Z (a:=0) (c:=1) Nc (by rw[hx,r3 (r:=x.Gq) (by omega),r3 (by omega)];exact Nat.le_refl _) (λ_ _=>by
    rw[t0,hx];unfold tgl;rw[if_pos (by omega),hxv];omega) (.inr ⟨c2,by omega⟩)
   omega
  have h1:=cl1 c (.inl s1);have:=Z (a:=0) (c:=0) Nc (by rw[hx,r3 (r:=x.Gq) (by omega),r3 (by omega)];exact Nat.le_refl _) (λ_ _=>by rw[t0];omega) (.inl E);omega
 |QU k x last=>
  have e:k=l.q:=hpq;subst e;have hgrow:=hgr _ _ _ E;obtain⟨es,g1,g2,g3,g4,g5,g6,g7⟩:=uU hp;obtain⟨s1,s2,s3,s4,s5,s6,s7,s8,s9⟩:=hS;obtain⟨k1,k2,k3⟩:=hk;have Nc:n≠g.o:=I.oJ (.inr k1);rw[hV]at k1;have hx:(bS.QU l.q x last).b bs=x:=rfl;have hxr:x.Gq=4\/x.Gq=1:=by
   cases last with
   |true=>obtain⟨_,_,_,a4,_⟩:=k3 E;rw[a4];exact .inr E
   |false=>obtain⟨j,a1,_⟩:=k2 E;rw[a1];exact .inl (by show(V n).Gq=4;rw[hV];exact k1)
  have hbl:(bs l.q).Gs.length<=g.G.length:=by
   rcases I.mK n hn Nc with⟨h5,_⟩|⟨_,h5,_⟩|⟨k',_,h2,h3,h4,_,_,h7,_⟩
   ·rw[hV]at h5;omega
   ·rw[hV]at h5;omega
   rw[hV]at h7;exact Nat.le_trans h7 (I.Xk h3 h4)
  by_cases c:calm (FF l.q) l
  ·rcases c with⟨c1,c2,c3⟩|⟨c1,c2,c3⟩
   ·exfalso
    rw[hM]at c2;rw[ho,AU]at c3
    rcases I.mK n hn Nc with⟨h5,_⟩|⟨_,h5,_⟩|⟨k',_,h2,h3,h4,_,_,_,h8⟩
    ·rw[hV]at h5;omega
    ·rw[hV]at h5;omega
    rw[hV]at h2;rw[show l.ep.toNat=k'+1 by omega]at c3;exact h8 (by omega) (by omega)
   have:=Z (a:=0) (c:=1) Nc (by rw[hx,r3 (r:=x.Gq) (by omega),r3 (r:=(bs l.q).Gq) (by omega)];exact Nat.le_refl _) (λ_ _=>by
    rw[hx];unfold tgl;rw[if_pos (by omega),if_pos (by omega)];omega) (.inr ⟨c2,by omega⟩)
   omega
  have h1:=cl1 c (.inr s1);have:=Z (a:=0) (c:=0) Nc (by rw[hx,r3 (r:=x.Gq) (by omega),r3 (r:=(bs l.q).Gq) (by omega)];exact Nat.le_refl _) (λJ htn=>by
   have hne:¬(bs l.q).ep=((FF l.q).M:Int)+1:=λe=>c (.inr ⟨by omega,J,by
    obtain⟨_,_,h2,_⟩:=I.Ru (hR.1 J);rw[<-hT]at h2;omega⟩)
   rw[hx];unfold tgl;rw[if_neg hne,if_neg (by omega)];omega) (.inl E)
  omega
 |fG k x a=>
  have e:k=l.q:=hpq;subst e;obtain⟨h1,h2⟩:=hp;obtain⟨k1,k2,k3⟩:=hk;have hb:(bS.fG l.q x a).b bs=x:=rfl;have:=auth (a:=0) (c:=1) k1 (by rw[hb,h2];exact Nat.le_refl _) (by rw[hb,h2,h1];exact Nat.le_refl _) (.inr (hR.2 (by rw[<-k1,k2];decide)));omega
 |Ni k x=>
  have e:k=l.q:=hpq;subst e;obtain⟨h1,h2⟩:=hp;obtain⟨k1,k2,k3⟩:=hk;have Nc:n≠g.o:=λe=>by have:=I.ru;rw[<-e]at this;omega
  rw[hV]at k3;have hb:(bS.Ni l.q x).b bs=x:=rfl;have:=Z (a:=1) (c:=0) Nc (by rw[hb,h2,h1];exact Nat.le_refl _) (λ_ _=>by
   rw[hb,h2];unfold tgl;dsimp only;rw[if_neg (by omega),if_neg (by omega)];omega) (.inl E)
  omega
end
section
variable {m w m':Cl}{n q B:Nat}{l:bH}{p:bS}{G G':Nat->Gh}{g g':Gh}{b b':aU}{rs us:List cO}{V:Nat->aU}{P:Nat->Option bS}{U:Nat->Bool}{Lt:bH->Prop}{pl:Pl}{sh:Nat->Int×Int}{sv:List jJ}{F:Nat->Wy}
def al1(H:Hnd m n l m'):m'.off=m.off:=by
 cases H with
 |done a h1 h=>unfold Cl.done;split<;>rfl
 |part b h1 h I J M O=>unfold Cl.part;split<;>rfl
 |_=>rfl
def KR(H:Hnd m n l m'):∃new,m'.Ms=m.Ms++new/\ ∀x∈new,x.kd≠2:=by
 have one:∀ {x:bH},x.kd≠2-> ∀y∈[x],y.kd≠2:=λh y J=>by rw[mem_singleton]at J;subst J;exact h
 cases H with
 |same=>exact⟨[],by simp,λx I=>by cases I⟩
 |done a h1 M=>
  unfold Cl.done
  split
  ·exact⟨_,E,one (by show(1:Int)≠2;decide)⟩
  exact⟨_,E,one (by show(1:Int)≠2;decide)⟩
 |QM h1=>exact⟨_,E,one (by show(3:Int)≠2;decide)⟩
 |part b h1 M O Z h5 h6=>
  unfold Cl.part
  split
  ·exact⟨[],by simp;rfl,λx I=>by cases I⟩
  exact⟨_,E,one (by show(4:Int)≠2;decide)⟩
 |Mw p dz d h1 M O Z h5=>exact⟨[],by simp;rfl,λx I=>by cases I⟩
 |Ny h1=>exact⟨[],by simp;rfl,λx I=>by cases I⟩
def asc{x:aU}{last:Bool}(J:l.kd=4)(I:(m.ah n).Mw=none)(h:((m.Ng n l).ah n).Mw=some (.QU q x last)):x.Gs.length≠((m.ah n).bs l.q).Gs.length:=by
 rw[show m.Ng n l=m.QU n l by unfold Cl.Ng;rw[if_neg (by omega),if_neg (by omega),if_neg (by omega),if_pos J]]at h;unfold Cl.QU at h
 split at h
 ·rw[I]at h;cases h
 split at h
 ·rw[show((m.QM n l.q).ah n).Mw=none from I]at h;cases h
 split at h
 ·rw[I]at h;cases h
 rename_i c
 split at h
 ·rw[I]at h;cases h
 rw[aX]at h;simp only[Option.some.injEq,bS.QU.injEq]at h;rw[<-h.2.1];exact λe=>c (.inr e)
def Kc(h:m'.ah n=m.ah n):vq m' q n=vq m q n:=by unfold vq;rw[h]
def ase(R:Rmc m G B (uD (FF m G) l) (bO l))(hn:n<5)(hU:oC (m.ah n) rs [])(hp:(m.ah n).Mw=none)(hL:∀q,q<2->l.q=q->Es (G q) (vw m q) (m.off.at q) l)(AU:l.tg=n)(O:l.q<2)
  (lK:Ap m m' n) (H:Hnd m n l m') (aEq:∀q x last,l.kd=4->(m'.ah n).Mw=some (.QU q x last)->x.Gs.length≠((m.ah n).bs l.q).Gs.length):
  m'.ws (fI (FF m G))<=m.ws (fI (FF m G))/\(((m'.ah n).Mw=none/\PP m' (FF m G)<=PP m (FF m G)/\ZZ m' (FF m G)<=ZZ m (FF m G))\/
   ((m'.ah n).Mw≠none/\PP m' (FF m G)+1<=PP m (FF m G)+2*bO l+fI (FF m G) l/\ZZ m' (FF m G)+7<=ZZ m (FF m G)+16*bO l+8*fI (FF m G) l)):=by
 have hu:=R.up n hn;obtain⟨hbs,Tg⟩:=WL hu hp H;obtain⟨new,hf,hnew⟩:=Jy hu H;obtain⟨new2,hf2,hnew2⟩:=KR H;have en:new2=new:=append_cancel_left (hf2.symm.trans hf);subst en;have hs0:∀x∈new2,fI (FF m G) x=0:=λx hx=>by
  obtain⟨h1,M⟩:=hnew x hx;by_cases h4:x.kd=4
  ·obtain⟨h5,h6,h7,h8⟩:=M h4;refine Dt (.inr ?_);rw[h5];have hV:=gK (q:=l.q) hu;exact uW (R.qi _ O) hn (by rw[hV];exact h6) (by rw[hV];exact h7) (by rw[hV];exact h8)
  exact Dt (.inl ⟨hnew2 x hx,h4⟩)
 have hst:m'.ws (fI (FF m G))<=m.ws (fI (FF m G)):=oK hn lK.mK lK.iP hf2 hs0;have hcl:m'.ws bO<=m.ws bO:=oK hn lK.mK lK.iP hf2 λx hx=>sG (hnew x hx).1;have hoff:m'.off=m.off:=al1 H;refine⟨hst,?_⟩;have hpn:∀ {a:Nat},rA (m'.ah n).Mw<=a->(o5 λj=>rA (m'.ah j).Mw)<=(o5 λj=>rA (m.ah j).Mw)+a:=λ{a} h=>
  MX hn (λj hj=>by rw[lK.mK j hj];exact Nat.le_refl _) (by omega)
 have J:∀q,((m'.ah n).Mw=none\/ ∃p,(m'.ah n).Mw=some p/\p.q≠q)-> ∀d,sH (FF m G q) d (vq m' q)=sH (FF m G q) d (vq m q):=λq h d=>ahO λj=>by
  by_cases e:j=n
  ·subst e;unfold vq;rw[jR hp];have e:qG (m'.ah j) q=(m'.ah j).bs q:=by
    rcases h with h|⟨p,h,M⟩
    ·exact jR h
    exact yu h M
   rw[e];exact⟨(hbs q).1,(hbs q).2.2.1,(hbs q).2.2.2⟩
  rw[Kc (lK.mK j e)];exact⟨E,E,E⟩
 rcases Tg with⟨h1,M⟩|⟨p,h1,M,h3,h4,h5,h6⟩
 ·left
  have hP:PP m' (FF m G)<=PP m (FF m G):=by
   unfold PP;rw[J 0 (.inl h1),J 1 (.inl h1),hoff];omega
  refine⟨h1,hP,?_⟩;have:=hpn (a:=0) (by rw[h1];exact Nat.le_refl _);unfold ZZ;omega
 right
 have hV:=gK (q:=l.q) hu;have hff:=(iR hU.tape hU.lg h3 (by rw[M];omega)).2;have ac7:=Wp (R.qi _ O) hn hV E (hL _ O E) AU M E h3 h5 hff;have I:=R.qi _ O;have hRR:(FF m G l.q).R=1↔(vw m l.q (G l.q).o).Gq≠1:=by
  show(if (vw m l.q (G l.q).o).Gq=1 then 0 else 1)=1↔_
  split
  ·rename_i c;exact⟨λh=>by omega,λh=>absurd c h⟩
  rename_i c;exact⟨λ_=>c,λ_=>E⟩
 have hvo:(G l.q).G.length<=(vq m l.q (G l.q).o).Gs.length:=by
  have Z:=I.o5;rw[<-I.uy];unfold vq
  cases hpo:(m.ah (G l.q).o).Mw with
  |none=>rw[jR hpo,gK (R.up _ Z)];exact Nat.le_refl _
  |some p2=>
   by_cases e:p2.q=l.q
   ·rw[oU hpo e];have hpv:uz m l.q (G l.q).o=some p2:=by unfold uz;rw[hpo];exact Gb e
    obtain⟨_,hk⟩:=I.lu _ Z p2 hpv;have ae:=gK (q:=l.q) (R.up _ Z);have uy:=I.uy;have zS:=I.zS
    cases p2 with
    |serve k Gs op num a=>obtain⟨_,_,k3,_⟩:=hk;show _<=Gs.length;rw[k3,uy,length_append];omega
    |Ns k x=>obtain⟨_,_,_,_,k4,_⟩:=hk;omega
    |QU k x last=>have:=hk.1;omega
    |fG k x a=>obtain⟨_,_,k3⟩:=hk;show _<=x.Gs.length;rw[k3];exact Nat.le_refl _
    |Ni k x=>obtain⟨_,_,k3⟩:=hk;have:=I.ru;omega
   rw[yu hpo e,gK (R.up _ Z)];exact Nat.le_refl _
 have hpp:=al0 (FF:=FF m G) (d:=(m.off.at l.q).Mc) (v:=vq m l.q) I hn hV M h3 h5 ac7 AU E E hRR E (λq x last e=>by
  subst e;have hk4:l.kd=4:=h5.1;have hne:=aEq q x last hk4 h1;obtain⟨es,g1,g2,g3,g4,g5,g6,g7⟩:=uU h3;have e:q=l.q:=M;subst e
  cases last with
  |true=>simp only[if_true,length_singleton]at*;omega
  |false=>simp only[Bool.false_eq_true,if_false,length_nil]at*;omega) (by unfold vq;exact jR hp) hvo
 have e1:∀d,sH (FF m G l.q) d (vq m' l.q)=sH (FF m G l.q) d (Na (vq m l.q) n (p.b (m.ah n).bs)):=λd=>by
  congr 1
  funext j
  by_cases e:j=n
  ·subst e;rw[Ee];unfold vq;rw[oU h1 M,h4]
  rw[Kg e];exact Kc (lK.mK j e)
 have hP:PP m' (FF m G)+1<=PP m (FF m G)+2*bO l+fI (FF m G) l:=by
  have h01:l.q=0\/l.q=1:=by omega
  unfold PP;rw[hoff]
  rcases h01 with e|e
  ·rw[e]at hpp e1;have:=J 1 (.inr ⟨p,h1,by rw[M,e];decide⟩) (m.off.at 1).Mc;rw[this,e1];omega
  rw[e]at hpp e1;have:=J 0 (.inr ⟨p,h1,by rw[M,e];decide⟩) (m.off.at 0).Mc;rw[this,e1];omega
 refine⟨by rw[h1];simp,hP,?_⟩;have:=hpn (a:=1) (by rw[h1];exact Nat.le_refl _);unfold ZZ;omega
end
section
variable {m w m':Cl}{n q B:Nat}{l:bH}{p:bS}{G G':Nat->Gh}{g g':Gh}{b b':aU}{rs us:List cO}{F F':Nat->Wy}
def mU(hv:Vd m)(h:∀q,q<2->F q=F' q):PP m F=PP m F'/\m.ws (fI F)=m.ws (fI F')/\ZZ m F=ZZ m F':=by
 have h1:PP m F=PP m F':=by unfold PP;rw[h 0 (by decide),h 1 (by decide)]
 have e:∀l:bH,l.q<2->fI F l=fI F' l:=λl I=>by unfold fI;rw[h _ I]
 have M:m.ws (fI F)=m.ws (fI F'):=Nat.le_antisymm (RJ (λl I=>Nat.le_of_eq (e l (hv.Ms l I))) λj J l I=>Nat.le_of_eq (e l (hv.iP j J l I))) (RJ (λl I=>Nat.le_of_eq (e l (hv.Ms l I)).symm) λj J l I=>Nat.le_of_eq (e l (hv.iP j J l I)).symm);exact⟨h1,M,by unfold ZZ;rw[h1,M]⟩
def asf(hv:Vd m)(h:∀q,q<2->mQ (F q) (F' q)):m.ws (fI F')<=m.ws (fI F):=RJ (λl I=>(h _ (hv.Ms l I)).sl) λj J l I=>(h _ (hv.iP j J l I)).sl
def Ui(I:(m.ah n).up=true)(J:(m.ah n).Mw=some p)(O:p.ok (m.ah n).bs):∃new,(m.step n).Ms=m.Ms++new/\(∀x∈new,x.kd≠2)/\(m.step n).off=m.off:=by
 have one:∀ {x:bH},x.kd≠2-> ∀y∈[x],y.kd≠2:=λh y Z=>by rw[mem_singleton]at Z;subst Z;exact h
 cases p with
 |serve k Gs op num a=>
  rw[jw E I J E O.1];exact⟨_,E,one (by show(1:Int)≠2;decide),E⟩
 |Ns k b=>
  rw[nJ E I J];exact⟨_,E,one (by show(3:Int)≠2;decide),E⟩
 |QU k b last=>
  cases last with
  |true=>
   rw[jU E I J];exact⟨[],by rw[append_nil];rfl,(λx M=>absurd M not_mem_nil),E⟩
  |false=>
   rw[sD E I J];exact⟨_,E,one (by show(3:Int)≠2;decide),E⟩
 |fG k b at_=>
  rw[pX E I J];dsimp only;unfold lD
  split
  ·exact⟨[],by rw[append_nil],(λx M=>absurd M not_mem_nil),E⟩
  exact⟨_,E,one (by show(4:Int)≠2;decide),E⟩
 |Ni k b=>
  rw[l5 E I J];exact⟨[],by rw[append_nil];rfl,(λx M=>absurd M not_mem_nil),E⟩
def al2{T S dS K:Nat}(R:Rm m G B)(R':Rm (m.step n) G' B)(hW:∀q,q<2->mQ (FF m G q) (FF (m.step n) G' q))(hb:cu m T S dS K)(hn:n<5)(J:(m.ah n).Mw=some p):
 (m.step n).ws (fI (FF (m.step n) G'))<=m.ws (fI (FF m G))/\PP (m.step n) (FF (m.step n) G')<=PP m (FF m G)/\ZZ (m.step n) (FF (m.step n) G')+1<=ZZ m (FF m G)/\((m.step n).ah n).Mw=none:=by
 have hu:=R.up n hn;obtain⟨rs,us,hU⟩:=(hb.iK n hn).rC hu;obtain⟨h1,h2,h3⟩:=hU.F6 p J;obtain⟨_,hf⟩:=iR hU.tape hU.lg h2 h3;obtain⟨dz,y1,y2,y3,y4,y5,y6,y7,y8,y9,_⟩:=zT E hu J h3 hf h2;have eY:(m.step n).ah n=dz:=by rw[y1,Ee]
 have hvY:∀q,dz.bs q=qG (m.ah n) q:=λq=>by
  rw[y2];by_cases e:q=p.q
  ·subst e;rw[Ee,oU J E]
  rw[Kg e,yu J (λh=>e h.symm)]
 have I:∀j,j≠n->(m.step n).ah j=m.ah j:=λj hj=>by rw[y1,Kg hj]
 have M:((m.step n).ah n).Md=(m.ah n).Md:=by rw[eY,y7]
 obtain⟨new,Z,O⟩:=Qv hu J h2;obtain⟨new2,aEr,hnew2,hoff⟩:=Ui hu J h2;have en:new2=new:=append_cancel_left (aEr.symm.trans Z);subst en;have hpq:=R.vd.lu n hn p J;have hs0:∀x∈new2,fI (FF (m.step n) G') x=0:=λx hx=>by
  obtain⟨k1,k2⟩:=O x hx;by_cases h4:x.kd=4
  ·obtain⟨k5,k6,k7,k8⟩:=k2 h4;refine Dt (.inr ?_);rw[k5];have Ws:vw (m.step n) p.q n=qG (m.ah n) p.q:=by rw[gK (by rw[eY];exact y6),eY,hvY]
   exact uW (R'.qi _ hpq) hn (by rw[Ws];exact .inr k6) (by rw[Ws];exact k7) (by rw[Ws];exact k8)
  exact Dt (.inl ⟨hnew2 x hx,h4⟩)
 have hst:(m.step n).ws (fI (FF (m.step n) G'))<=m.ws (fI (FF m G)):=Nat.le_trans (oK hn I M Z hs0) (asf R.vd hW);have hcl:(m.step n).ws bO<=m.ws bO:=oK hn I M Z λx hx=>sG (O x hx).1;have hvq:∀q,vq (m.step n) q=vq m q:=λq=>by
  funext j
  by_cases e:j=n
  ·subst e;unfold vq;rw[eY,jR y5,hvY]
  exact Kc (I j e)
 have hP:PP (m.step n) (FF (m.step n) G')<=PP m (FF m G):=by
  have k:∀q,q<2-> ∀d v,sH (FF (m.step n) G' q) d v<=sH (FF m G q) d v:=λq hq d v=>(hW q hq).pq ((R.qi q hq).o5);unfold PP;rw[hvq,hvq,hoff];have:=k 0 (by decide) (m.off.at 0).Mc (vq m 0);have:=k 1 (by decide) (m.off.at 1).Mc (vq m 1);omega
 refine⟨hst,hP,?_,by rw[eY];exact y5⟩;have:=XJ (f:=λj=>rA (m.ah j).Mw) (f':=λj=>rA ((m.step n).ah j).Mw) (a:=1) hn (λj hj=>by show rA _=rA _;rw[I j hj]) (by show rA _+1<=rA _;rw[eY,y5,J];exact Nat.le_refl _);unfold ZZ;omega
def aaw(R:Rm m G B)(hn:n<5):(m.jV n).ws (fI (FF m G))<=m.ws (fI (FF m G))/\PP (m.jV n) (FF m G)<=PP m (FF m G)/\ZZ (m.jV n) (FF m G)<=ZZ m (FF m G):=by
 have hu:=R.up n hn;have J:(m.jV n).ah=Na m.ah n {m.ah n with turn:=(m.ah n).turn+1}:=rfl;have Z:(m.jV n).ah n={m.ah n with turn:=(m.ah n).turn+1}:=by rw[J,Ee]
 have I:∀j,j≠n->(m.jV n).ah j=m.ah j:=λj hj=>by rw[J,Kg hj]
 have hV:∀q,vw m q n=(m.ah n).bs q:=λq=>gK hu;have M:∀x∈gu n ((m.ah n).turn % 4) ((m.ah n).bs ((m.ah n).turn % 4)) ((m.ah n).Nf ((m.ah n).turn % 4)),bO x=0/\fI (FF m G) x=0:=by
  intro x h;have e5:∀y:bH,y.kd=5->bO y=0/\fI (FF m G) y=0:=λy hy=>⟨sG (by omega),Dt (.inl (by omega))⟩;unfold gu at h
  rcases mem_append.1 h with h|h
  ·rcases mem_append.1 h with h|h
   ·split at h
    ·rename_i hr
     rw[mem_singleton]at h;subst h;refine⟨sG (by show(2:Int)≠0;decide),Dt (.inr ?_)⟩;have h4:(m.ah n).turn % 4<2:=by
      by_cases c:(m.ah n).turn % 4<2
      ·exact c
      have:=R.vd.view hn hu (q:=(m.ah n).turn % 4) (by omega) (by omega);omega
     exact uW (R.qi _ h4) hn (by rw[hV];exact hr) (by rw[hV];rfl) (by rw[hV];rfl)
    simp at h
   split at h
   ·rw[mem_singleton]at h;subst h;exact e5 _ E
   simp at h
  split at h
  ·rw[mem_singleton]at h;subst h;exact e5 _ E
  simp at h
 have hst:(m.jV n).ws (fI (FF m G))<=m.ws (fI (FF m G)):=oK hn I (by rw[Z]) E λx h=>(M x h).2;have hcl:(m.jV n).ws bO<=m.ws bO:=oK hn I (by rw[Z]) E λx h=>(M x h).1;have O:∀q,vq (m.jV n) q=vq m q:=λq=>by
  funext j
  by_cases e:j=n
  ·subst e;unfold vq;rw[Z];rfl
  exact Kc (I j e)
 have hP:PP (m.jV n) (FF m G)<=PP m (FF m G):=by
  unfold PP;rw[O,O]
  show 2*(m.jV n).ws bO+(sH (FF m G 0) (m.off.at 0).Mc (vq m 0)+sH (FF m G 1) (m.off.at 1).Mc (vq m 1))<=_
  omega
 refine⟨hst,hP,?_⟩;have:(o5 λj=>rA ((m.jV n).ah j).Mw)=o5 λj=>rA (m.ah j).Mw:=BI λj _=>by
  show rA _=rA _
  by_cases e:j=n
  ·subst e;rw[Z]
  rw[I j e]
 unfold ZZ;omega
def axR(m m':Cl)(F F':Nat->Wy)(n:Nat):Prop:=
 m'.ws (fI F')<=m.ws (fI F)/\PP m' F'<=PP m F/\
 (((m.ah n).Mw=none/\(m'.ah n).Mw=none/\ZZ m' F'<=ZZ m F/\ ∀q,q<2->F' q=F q)\/((m.ah n).Mw≠none/\ZZ m' F'+1<=ZZ m F)\/
  ((m.ah n).Mw=none/\(m'.ah n).Mw≠none/\ZZ m' F'+1<=ZZ m F/\(m.ws (fI F)=0->ZZ m' F'+7<=ZZ m F)))
def al3(l:bH):fI F l<=1:=by unfold fI;split<;>omega
def ahP(l:bH)(h:fI F l≠0):bO l=0:=by
 unfold fI at h
 split at h
 ·rename_i c;exact sG (by omega)
 exact absurd E h
def aax{T S dS K:Nat}(R:Rm m G B)(hB:B+46<=100000)(hb:cu m T S dS K)(hn:n<5):∃G',Rm (m.step n) G' B/\(∀q,q<2->mQ (FF m G q) (FF (m.step n) G' q))/\axR m (m.step n) (FF m G) (FF (m.step n) G') n:=by
 have hu:=R.up n hn;obtain⟨rs,us,hU⟩:=(hb.iK n hn).rC hu
 cases hp:(m.ah n).Mw with
 |some p=>
  obtain⟨G',R',hW⟩:=alW R hb hn hp;obtain⟨h1,h2,h3,h4⟩:=al2 R R' hW hb hn hp;exact⟨G',R',hW,h1,h2,.inr (.inl ⟨by rw[hp];simp,h3⟩)⟩
 |none=>
  have key:=oN (n:=n) (λw=>O4 m n rs w/\ ∃Z,Rm w Z B/\(∀q,q<2->FF w Z q=FF m G q)/\w.ws (fI (FF m G))<=m.ws (fI (FF m G))/\PP w (FF m G)<=PP m (FF m G)/\
    (((w.ah n).Mw=none/\ZZ w (FF m G)<=ZZ m (FF m G))\/((w.ah n).Mw≠none/\ZZ w (FF m G)+1<=ZZ m (FF m G)/\(m.ws (fI (FF m G))=0->ZZ w (FF m G)+7<=ZZ m (FF m G))))) (λw l r ⟨H,Z,M,F1,S1,P1,O⟩ hp1 hin=>by
   obtain⟨h1,h2,h3,h4⟩:=oO (λl hl=>lF (hb.iP n hn l hl)) H hp1 hin;have hl0:l∈(w.ah n).Md:=by rw[hin];simp
   obtain⟨b1,b2⟩:=hb.iP n hn l (H.iP l hl0);have hlq:=M.vd.iP n hn l hl0;have Jq:(w.put n ((w.ah n).box r)).ah=Na w.ah n ((w.ah n).box r):=rfl;have e0:(w.put n ((w.ah n).box r)).ah n=(w.ah n).box r:=aX _;have I:∀j,j≠n->(w.put n ((w.ah n).box r)).ah j=w.ah j:=λj hj=>Kg hj;have hvw:∀q,vw (w.put n ((w.ah n).box r)) q=vw w q:=λq=>mO Jq E;have hF1:FF (w.put n ((w.ah n).box r)) Z=FF w Z:=by funext q;exact J9 (.refl _) (by rw[hvw]) (by rw[hvw])
   have hws:∀f:bH->Nat,(w.put n ((w.ah n).box r)).ws f+f l<=w.ws f:=λf=>Gf hn (λj hj=>by rw[I j hj]) (by
    rw[e0,hin]
    show dF f w.Ms+dF f r+f l<=dF f w.Ms+(f l+dF f r)
    omega)
   have R2:Rmc (w.put n ((w.ah n).box r)) Z B (uD (FF (w.put n ((w.ah n).box r)) Z) l) (bO l):=by
    refine⟨λj hj=>?_,M.vd.at_ (n:=n) (X:=(w.ah n).box r) E (λq h7 h8=>M.vd.rol n hn q h7 h8) (M.vd.lu n hn) (λx hx=>M.vd.iP n hn x (by rw[hin];exact mem_cons_of_mem _ hx)) (λx hx=>.inl hx),λq J=>?_,λj hj=>?_,λq J=>?_⟩
    ·by_cases e:j=n
     ·rw[e,e0];exact M.up n hn
     rw[I j e];exact M.up j hj
    ·exact(M.qi q J).far hn Jq E E E (λx hx=>by rw[hin];exact mem_cons_of_mem _ hx) (λx hx=>.inl hx) E E E
    ·have h5:=M.Gm j hj;have h6:=hws (uD (FF w Z));unfold Gm at h5⊢;rw[hF1];by_cases e:j=n
     ·rw[e]at h5⊢;rw[e0];have e1:∀q,qG ((w.ah n).box r) q=qG (w.ah n) q:=λ_=>E;have e2:((w.ah n).box r).data=(w.ah n).data:=rfl;rw[e1,e1,e2];omega
     rw[I j e];omega
    have h5:=M.cap q J;have h6:=Dr (d:=bO l) (d':=bO l) hn I (hws bO) (by rw[e0];show yM (w.ah n).Mw+_<=_;omega);rw[hF1];omega
   have hL:∀q,q<2->l.q=q->Es (Z q) (vw (w.put n ((w.ah n).box r)) q) (w.off.at q) l:=λq J apa=>by rw[hvw];exact(M.qi q J).mX l ⟨apa,.inr ⟨n,hn,hl0⟩⟩
   obtain⟨G2,R3,F2⟩:=afC R2 hB hn h2 (by rw[e0];exact hp1) hL b2 b1.2.1 b1.2.2.2 hlq (jW h1.1) h3;have hFF:∀q,q<2->FF (w.put n ((w.ah n).box r)) Z q=FF m G q:=λq J=>by rw[hF1];exact F1 q J
   obtain⟨z1,z2⟩:=ase R2 hn h2 (by rw[e0];exact hp1) hL b2 hlq (jW h1.1) h3 (λq x last hk4 hpe=>asc hk4 (by rw[e0];exact hp1) hpe);obtain⟨c1,c2,c3⟩:=mU R3.vd hFF;obtain⟨d1,d2,d3⟩:=mU R2.vd hFF;have es:fI (FF (w.put n ((w.ah n).box r)) Z) l=fI (FF m G) l:=by unfold fI;rw[hFF _ hlq]
   have hvq:∀q,vq (w.put n ((w.ah n).box r)) q=vq w q:=λq=>by
    funext j
    by_cases e:j=n
    ·subst e;unfold vq;rw[e0];rfl
    exact Kc (I j e)
   have hpn:(o5 λj=>rA ((w.put n ((w.ah n).box r)).ah j).Mw)=o5 λj=>rA (w.ah j).Mw:=BI λj _=>by
    show rA _=rA _
    by_cases e:j=n
    ·subst e;rw[e0];rfl
    rw[I j e]
   have hwc:=hws bO;have hwt:=hws (fI (FF m G));have hPw:PP (w.put n ((w.ah n).box r)) (FF m G)+2*bO l<=PP w (FF m G):=by
    unfold PP;rw[hvq,hvq]
    show 2*(w.put n ((w.ah n).box r)).ws bO+(sH (FF m G 0) (w.off.at 0).Mc (vq w 0)+sH (FF m G 1) (w.off.at 1).Mc (vq w 1))+_<=_
    omega
   have hZw:ZZ (w.put n ((w.ah n).box r)) (FF m G)+16*bO l+2*fI (FF m G) l<=ZZ w (FF m G):=by
    unfold ZZ;rw[hpn];omega
   have hZ1:ZZ w (FF m G)<=ZZ m (FF m G):=by
    rcases O with⟨_,O⟩|⟨O,_⟩
    ·exact O
    exact absurd hp1 O
   have s1:=al3 (F:=FF m G) l;have s2:=ahP (F:=FF m G) l;refine⟨h1.1,h4,G2,R3,λq J=>by rw[F2 q J];exact hFF q J,by rw[<-c2];omega,?_,?_⟩
   ·rw[<-c1]
    rcases z2 with⟨_,z3,_⟩|⟨_,z3,_⟩
    ·omega
    by_cases c:fI (FF m G) l=0
    ·omega
    have:=s2 c;omega
   rw[<-c3]
   rcases z2 with⟨z0,_,z3⟩|⟨z0,_,z3⟩
   ·exact .inl ⟨z0,by omega⟩
   refine .inr ⟨z0,by omega,λh0=>?_⟩;have:fI (FF m G) l=0:=by omega
   omega) _ m E ⟨BG hu ⟨_,hU⟩,G,R,λ_ _=>E,Nat.le_refl _,Nat.le_refl _,.inl ⟨hp,Nat.le_refl _⟩⟩
  obtain⟨H1,Z,M,F1,S1,P1,O⟩:=key;rw[jf hu hp];obtain⟨c1,c2,c3⟩:=mU M.vd F1
  split
  ·rename_i hpm
   have hZ1:ZZ (m.more n) (FF m G)<=ZZ m (FF m G):=by
    rcases O with⟨_,O⟩|⟨O,_⟩
    ·exact O
    exact absurd hpm O
   obtain⟨G2,R2,F2⟩:=alX M hn;obtain⟨d1,d2,d3⟩:=aaw M hn;obtain⟨e1,e2,e3⟩:=mU R2.vd F2;refine⟨G2,R2,λq J=>by rw[F2 q J,F1 q J];exact .refl _,by omega,by omega,.inl ⟨hp,?_,by omega,λq J=>by rw[F2 q J,F1 q J]⟩⟩
   show((Na (m.more n).ah n { (m.more n).ah n with turn:=((m.more n).ah n).turn+1}) n).Mw=none
   rw[Ee];exact hpm
  rename_i hpm
  have hZ1:ZZ (m.more n) (FF m G)+1<=ZZ m (FF m G)/\(m.ws (fI (FF m G))=0->ZZ (m.more n) (FF m G)+7<=ZZ m (FF m G)):=by
   rcases O with⟨O,_⟩|⟨_,O⟩
   ·exact absurd O hpm
   exact O
  exact⟨Z,M,λq J=>by rw[F1 q J];exact .refl _,by omega,by omega,.inr (.inr ⟨hp,hpm,by omega,λh=>by have:=hZ1.2 h;omega⟩)⟩
end
section
variable {m w m':Cl}{n q B:Nat}{l:bH}{p:bS}{G G':Nat->Gh}{g g':Gh}{F F':Nat->Wy}
def al4(I:q<4)(J:l.q<4):(m.off.at q).Mc<=((dH m.off l).at q).Mc:=by
 unfold dH
 split
 ·rename_i c
  obtain⟨M,f2,f3,O,Z⟩:=Jp c.2;rw[Z];dsimp only;rw[Int.toNat_natCast,nL J I]
  split
  ·rename_i e
   obtain⟨_,_,w3⟩:=nK (d:=m.off) (q:=l.q) (λh=>h M);rw[e];rw[w3,Int.toNat_natCast]at O
   show(m.off.at l.q).Mc<=l.ep+1
   omega
  exact Int.le_refl _
 exact Int.le_refl _
def Uj(h:q<4)(I:l.q<4):(m.off.at q).Mc<=((m.Nk l).off.at q).Mc:=by
 unfold Cl.Nk
 split
 ·exact Int.le_refl _
 split
 ·split<;>exact al4 h I
 split<;>exact Int.le_refl _
def Py:∀(ls:List bH) {m:Cl},q<4->(∀l∈ls,l.q<4)->(m.off.at q).Mc<=((ls.foldl Cl.Nk m).off.at q).Mc
 |[],_,_,_=>Int.le_refl _
 |l::ls,m,h,I=>by
  rw[foldl_cons];exact Int.le_trans (Uj h (I l mem_cons_self)) (Py ls h λx J=>I x (mem_cons_of_mem _ J))
def al5(h:q<4)(I:∀l∈m.Ms,l.q<4):(m.off.at q).Mc<=(m.all.off.at q).Mc:=Py m.Ms (m:={m with Ms:=[]}) h I
def asg{T S dS K:Nat}(R:Rm m G B)(hb:cu m T S dS K):m.all.ws (fI (FF m G))<=m.ws (fI (FF m G))/\PP m.all (FF m G)<=PP m (FF m G)/\ZZ m.all (FF m G)<=ZZ m (FF m G)/\
  ((∀q,q<2->m.all.off.at q=m.off.at q)\/ZZ m.all (FF m G)+7<=ZZ m (FF m G)):=by
 obtain⟨R',hF⟩:=WM R hb;have hst:m.all.ws (fI (FF m G))<=m.ws (fI (FF m G)):=CY RZ hb.mX;have hcl:m.all.ws bO<=m.ws bO:=CY Gn hb.mX;have I:∀q,vq m.all q=vq m q:=λq=>by
  funext j
  obtain⟨ib,e⟩:=uE m j;unfold vq;rw[e];rfl
 have hpn:(o5 λj=>rA (m.all.ah j).Mw)=o5 λj=>rA (m.ah j).Mw:=BI λj _=>by
  obtain⟨ib,e⟩:=uE m j
  show rA _=rA _
  rw[e]
 have hd:∀q,q<2->m.all.off.at q=m.off.at q\/(Uh (FF m G q) (m.all.off.at q).Mc+1<=Uh (FF m G q) (m.off.at q).Mc):=λq J=>by
  obtain⟨d,d1,d2,d3⟩:=(R.qi q J).dir;obtain⟨d',e1,e2,e3⟩:=(R'.qi q J).dir;have O:=al5 (m:=m) (q:=q) (by omega) λl hl=>(hb.mX l hl).1;rw[d1,e1]at O⊢;dsimp only at O⊢;have hm:(FF m G q).M=(G q).m:=rfl;by_cases c:d'=d
  ·left;rw[c]
  right
  unfold Uh;rw[hm,if_pos (by omega),if_neg (by omega)];exact Nat.le_refl _
 have Z:∀q,q<2->Uh (FF m G q) (m.all.off.at q).Mc<=Uh (FF m G q) (m.off.at q).Mc:=λq J=>by
  rcases hd q J with h|h
  ·rw[h];exact Nat.le_refl _
  omega
 have l0:=Z 0 (by decide);have l1:=Z 1 (by decide);have hP:PP m.all (FF m G)<=PP m (FF m G):=by
  unfold PP sH;rw[I,I];omega
 refine⟨hst,hP,by unfold ZZ;omega,?_⟩
 rcases hd 0 (by decide)with h0|h0
 ·rcases hd 1 (by decide)with h1|h1
  ·left
   intro q J;have:q=0\/q=1:=by omega
   rcases this with rfl|rfl
   ·exact h0
   exact h1
  right
  have:PP m.all (FF m G)+1<=PP m (FF m G):=by
   unfold PP sH;rw[I,I];omega
  unfold ZZ;omega
 right
 have:PP m.all (FF m G)+1<=PP m (FF m G):=by
  unfold PP sH;rw[I,I];omega
 unfold ZZ;omega
def Bn(m:Cl):Prop:= ∃T S dS K,cu m T S dS K
def Bn.step(h:Bn m)(hn:n<5):Bn (m.step n):=by obtain⟨T,S,dS,K,h⟩:=h;exact⟨_,_,_,_,O5 h hn⟩
def Bn.avz(h:Bn m):Bn m.all:=by obtain⟨T,S,dS,K,h⟩:=h;exact⟨_,_,_,_,TL h⟩
noncomputable def Cl.cB(m:Cl):Nat->Cl
 | 0=>m
 |i+1=>(m.cB i).step i
noncomputable def Cl.lU(m:Cl):Cl:=(m.cB 5).all
structure Qt (m m':Cl):Prop where
 lu:∀n,n<5->(m.ah n).Mw=none
 apb:∀n,n<5->(m'.ah n).Mw=none
 off:∀q,q<2->m'.off.at q=m.off.at q
def qW(h:Bn m):∀i,i<=5->Bn (m.cB i)
 | 0,_=>h
 |i+1,hi=>(qW h i (by omega)).step (by omega)
def Fu(h:Bn m):∀i,i<=5-> ∀j,i<=j->(m.cB i).ah j=m.ah j
 | 0,_,_,_=>rfl
 |i+1,hi,j,hj=>by
  obtain⟨T,S,dS,K,I⟩:=qW h i (by omega)
  show((m.cB i).step i).ah j=_
  rw[oP I (by omega) (by omega)];exact Fu h i (by omega) j (by omega)
def Ul(h:Bn m){n:Nat}:∀i,i<=5->n<i->(m.cB i).ah n=(m.cB (n+1)).ah n
 | 0,_,hn=>by omega
 |i+1,hi,hn=>by
  by_cases e:n=i
  ·subst e;rfl
  obtain⟨T,S,dS,K,I⟩:=qW h i (by omega)
  show((m.cB i).step i).ah n=_
  rw[oP I (by omega) e];exact Ul h i (by omega) (by omega)
def KS{T S dS K:Nat}(M:cu m T S dS K)(hn:n<5):(m.step n).off=m.off:=by
 cases I:(m.ah n).up with
 |false=>rw[mM I]
 |true=>
  obtain⟨rs,us,O⟩:=(M.iK n hn).rC I
  cases J:(m.ah n).Mw with
  |some p=>
   obtain⟨h1,Z,h3⟩:=O.F6 p J;obtain⟨_,_,_,h⟩:=Ui I J Z;exact h
  |none=>
   have H:=KG I ⟨us,O⟩ λl hl=>lF (M.iP n hn l hl);rw[jf I J]
   split
   ·exact H.keep.off
   exact H.keep.off
def Jz(R:Rm m G B)(hB:B+46<=100000)(O:Bn m):∀i,i<=5-> ∃G',Rm (m.cB i) G' B/\(∀q,q<2->mQ (FF m G q) (FF (m.cB i) G' q))/\(m.cB i).ws (fI (FF (m.cB i) G'))<=m.ws (fI (FF m G))/\PP (m.cB i) (FF (m.cB i) G')<=PP m (FF m G)/\
  (((∀n,n<i->(m.ah n).Mw=none/\((m.cB i).ah n).Mw=none)/\ZZ (m.cB i) (FF (m.cB i) G')<=ZZ m (FF m G)/\ ∀q,q<2->FF (m.cB i) G' q=FF m G q)\/
   (ZZ (m.cB i) (FF (m.cB i) G')+1<=ZZ m (FF m G)/\((∃n,n<5/\(m.ah n).Mw≠none)\/m.ws (fI (FF m G))≠0))\/ZZ (m.cB i) (FF (m.cB i) G')+7<=ZZ m (FF m G))
 | 0,_=>⟨G,R,λ_ _=>.refl _,Nat.le_refl _,Nat.le_refl _,.inl ⟨λn hn=>by omega,Nat.le_refl _,λ_ _=>E⟩⟩
 |i+1,hi=>by
  obtain⟨G1,R1,W1,S1,P1,Z⟩:=Jz R hB O i (by omega);obtain⟨T,S,dS,K,h⟩:=qW O i (by omega);obtain⟨M,R2,W2,S2,P2,Z2⟩:=aax R1 hB h (n:=i) (by omega);have e1:(m.cB i).ah i=m.ah i:=Fu O i (by omega) i (Nat.le_refl _);have I:∀n,n≠i->((m.cB i).step i).ah n=(m.cB i).ah n:=λn hn=>oP h (by omega) hn;refine⟨M,R2,λq J=>(W1 q J).trans (W2 q J),Nat.le_trans S2 S1,Nat.le_trans P2 P1,?_⟩
  show(_/\ZZ ((m.cB i).step i) (FF ((m.cB i).step i) M)<=_/\_)\/(ZZ ((m.cB i).step i) (FF ((m.cB i).step i) M)+1<=_/\_)\/ZZ ((m.cB i).step i) (FF ((m.cB i).step i) M)+7<=_
  rcases Z2 with⟨p1,p2,z,f⟩|⟨p1,z⟩|⟨p1,p2,z,z7⟩
  ·rcases Z with⟨a1,a2,a3⟩|⟨a1,a2⟩|a1
   ·refine .inl ⟨λn hn=>?_,by omega,λq J=>(f q J).trans (a3 q J)⟩;by_cases e:n=i
    ·subst e;rw[e1]at p1;exact⟨p1,p2⟩
    obtain⟨b1,b2⟩:=a1 n (by omega);exact⟨b1,by show(((m.cB i).step i).ah n).Mw=none;rw[I n e];exact b2⟩
   ·exact .inr (.inl ⟨by omega,a2⟩)
   exact .inr (.inr (by omega))
  ·rcases Z with⟨a1,a2,a3⟩|⟨a1,a2⟩|a1
   ·exact .inr (.inl ⟨by omega,.inl ⟨i,by omega,by rw[<-e1];exact p1⟩⟩)
   ·exact .inr (.inl ⟨by omega,a2⟩)
   exact .inr (.inr (by omega))
  rcases Z with⟨a1,a2,a3⟩|⟨a1,a2⟩|a1
  ·by_cases c:(m.cB i).ws (fI (FF (m.cB i) G1))=0
   ·have:=z7 c;exact .inr (.inr (by omega))
   exact .inr (.inl ⟨by omega,.inr (by omega)⟩)
  ·exact .inr (.inl ⟨by omega,a2⟩)
  exact .inr (.inr (by omega))
def Ke(R:Rm m G B)(hB:B+46<=100000)(Z:Bn m):∃G',Rm m.lU G' B/\Bn m.lU/\(∀q,q<2->mQ (FF m G q) (FF m.lU G' q))/\m.lU.ws (fI (FF m.lU G'))<=m.ws (fI (FF m G))/\PP m.lU (FF m.lU G')<=PP m (FF m G)/\
  ((Qt m m.lU/\ZZ m.lU (FF m.lU G')<=ZZ m (FF m G)/\ ∀q,q<2->FF m.lU G' q=FF m G q)\/
   (ZZ m.lU (FF m.lU G')+1<=ZZ m (FF m G)/\((∃n,n<5/\(m.ah n).Mw≠none)\/m.ws (fI (FF m G))≠0))\/ZZ m.lU (FF m.lU G')+7<=ZZ m (FF m G)):=by
 obtain⟨I,R1,W1,S1,P1,Z1⟩:=Jz R hB Z 5 (Nat.le_refl _);have M:=qW Z 5 (Nat.le_refl _);obtain⟨T,S,dS,K,h⟩:=id M;obtain⟨R2,F2⟩:=WM R1 h;obtain⟨a1,a2,a3,a4⟩:=asg R1 h;obtain⟨c1,c2,c3⟩:=mU R2.vd F2;have Tg:∀j,(m.lU.ah j).Mw=((m.cB 5).ah j).Mw:=λj=>by
  obtain⟨ib,e⟩:=uE (m.cB 5) j
  show((m.cB 5).all.ah j).Mw=_
  rw[e]
 have O:∀i,i<=5->(m.cB i).off=m.off:=by
  intro i
  induction i with
  |zero=>intro _;rfl
  |succ i ih=>
   intro hi;obtain⟨T,S,dS,K,h⟩:=qW Z i (by omega);exact(KS h (by omega)).trans (ih (by omega))
 refine⟨I,R2,M.avz,λq J=>by show mQ _ (FF (m.cB 5).all I q);rw[F2 q J];exact W1 q J,?_,?_,?_⟩
 ·show(m.cB 5).all.ws (fI (FF (m.cB 5).all I))<=_
  omega
 ·show PP (m.cB 5).all (FF (m.cB 5).all I)<=_
  omega
 show(Qt m m.lU/\ZZ (m.cB 5).all (FF (m.cB 5).all I)<=_/\ ∀q,q<2->FF (m.cB 5).all I q=_)\/(ZZ (m.cB 5).all (FF (m.cB 5).all I)+1<=_/\_)\/ZZ (m.cB 5).all (FF (m.cB 5).all I)+7<=_
 rcases Z1 with⟨b1,b2,b3⟩|⟨b1,b2⟩|b1
 ·rcases a4 with a4|a4
  ·refine .inl ⟨⟨λn hn=>(b1 n hn).1,λn hn=>by rw[Tg];exact(b1 n hn).2,λq J=>?_⟩,by omega,λq J=>(F2 q J).trans (b3 q J)⟩
   show(m.cB 5).all.off.at q=_
   rw[a4 q J,O 5 (Nat.le_refl _)]
  exact .inr (.inr (by omega))
 ·exact .inr (.inl ⟨by omega,b2⟩)
 exact .inr (.inr (by omega))
end
def Hl(X:Nd)(d:QK):Prop:= ∀q,q<2->X.Nf q=true->(X.bs q).Gq=1->(X.bs q).ep<=(d.at q).Mc
structure Su (m:Cl):Prop where
 iK:∀n,n<5->Hl (m.ah n) m.off
 two:m.off.at 2=nowhere
 WO:m.off.at 3=nowhere
section
variable {m w m':Cl}{n q k:Nat}{l:bH}{p:bS}{G G':Nat->Gh}{g g':Gh}{X dz:Nd}{d d':QK}{b:aU}
def Hl.up(h:Hl X d)(J:∀q,q<2->(d.at q).Mc<=(d'.at q).Mc)(h1:∀q,q<2->dz.Nf q=true->(dz.bs q).Gq=1->X.Nf q=true/\(X.bs q).Gq=1/\(dz.bs q).ep=(X.bs q).ep):Hl dz d':=λq I hs M=>by
 obtain⟨a,b,c⟩:=h1 q I hs M;have:=h q I a b;have:=J q I;omega
def Su.at_(h:Su m)(J:∀j,j≠n->m'.ah j=m.ah j)(I:m'.off=m.off)(hn:Hl (m'.ah n) m.off):Su m':=by
 refine⟨λj M=>?_,by rw[I];exact h.two,by rw[I];exact h.WO⟩;rw[I];by_cases e:j=n
 ·rw[e];exact hn
 rw[J j e];exact h.iK j M
def yI(h:Hl X d)(hs:dz.Nf=X.Nf)(M:dz.bs=Na X.bs q b)(J:b.Gq=1->(X.bs q).Gq=1/\b.ep=(X.bs q).ep):Hl dz d:=
 h.up (λ_ _=>Int.le_refl _) λk O h1 I=>by
  rw[hs]at h1;rw[M]at I⊢;by_cases e:k=q
  ·subst e;rw[Ee]at I⊢;exact⟨h1,(J I).1,(J I).2⟩
  rw[Kg e]at I⊢;exact⟨h1,I,E⟩
def Qw(hQ:∀q,q<2-> ∃g,QI m q g)(hv:Vd m){T S dS K:Nat}(hb:cu m T S dS K)(hn:n<5)(h:Su m):Su (m.step n):=by
 refine h.at_ (λj hj=>oP hb hn hj) (KS hb hn) ?_;have Z:=h.iK n hn
 cases J:(m.ah n).up with
 |false=>rw[mM J];exact Z
 |true=>
  obtain⟨rs,us,hU⟩:=(hb.iK n hn).rC J
  cases hp:(m.ah n).Mw with
  |some p=>
   obtain⟨_,h2,h3⟩:=hU.F6 p hp
   cases p with
   |serve k Gs op num a=>
    rw[jw E J hp E h2.1]
    show Hl (Na m.ah n _ n) m.off
    rw[Ee];exact yI Z E E λc=>⟨c,E⟩
   |Ns k b=>
    obtain⟨_,e,f,h4,_⟩:=h2;rw[nJ E J hp]
    show Hl (Na m.ah n _ n) m.off
    rw[Ee];exact yI Z E E λc=>by rw[h4]at c;exact absurd c (by show(4:Int)≠1;decide)
   |QU k b last=>
    cases last with
    |true=>
     rw[jU E J hp]
     show Hl (Na m.ah n _ n) m.off
     rw[Ee];refine Z.up (λ_ _=>Int.le_refl _) λj hj M s2=>?_;by_cases e:j=k
     ·subst e;have O:Na (m.ah n).Nf j false j=true:=M;rw[Ee]at O
      cases O
     have e1:(Na (m.ah n).Nf k false) j=(m.ah n).Nf j:=Kg e;have e2:(Na (m.ah n).bs k b) j=(m.ah n).bs j:=Kg e;have O:(m.ah n).Nf j=true:=e1.symm.trans M;have s2':((m.ah n).bs j).Gq=1:=(congrArg aU.Gq e2).symm.trans s2;exact⟨O,s2',congrArg aU.ep e2⟩
    |false=>
     obtain⟨h4,_,_,h5,_⟩:=h2;rw[sD E J hp]
     show Hl (Na m.ah n _ n) m.off
     rw[Ee];exact yI Z E E λc=>by rw[(h5 E).1]at c;exact absurd (h4.symm.trans c) (by decide)
   |fG k b at_=>
    obtain⟨h4,h5⟩:=h2;rw[pX E J hp]
    show Hl (Na m.ah n _ n) m.off
    rw[Ee];exact yI Z E E λc=>by rw[h5]at c;exact absurd c (by show(3:Int)≠1;decide)
   |Ni k b=>
    obtain⟨h4,h5⟩:=h2;rw[l5 E J hp]
    show Hl (Na m.ah n _ n) m.off
    rw[Ee];exact yI Z E E λc=>by rw[h5]at c;exact absurd c (by show(0:Int)≠1;decide)
  |none=>
   have Ny:∀ {X:Nd} {l:bH},Hl X m.off->l∈(m.ah n).Md->l.kd=6->Hl (X.Ny n l) m.off:=λ{X l} hX hl hk j hj M s2=>by
    unfold Nd.Ny at M s2⊢;dsimp only at M s2⊢
    split at M
    ·rename_i c
     by_cases e:j=l.q
     ·subst e;obtain⟨g,I⟩:=hQ _ hj;obtain⟨i,i1,i2,i3,_⟩:=(I.mX l ⟨E,.inr ⟨n,hn,hl⟩⟩).2.2.2 hk;rw[c.2,i1];exact i3
     rw[Kg e]at M;exact hX j hj M s2
    exact hX j hj M s2
   have key:=oN (n:=n) (λw=>O4 m n rs w/\Hl (w.ah n) m.off) (λw l r ⟨H,A⟩ hp1 hin=>by
    obtain⟨h1,h2,h3,h4⟩:=oO (λl hl=>lF (hb.iP n hn l hl)) H hp1 hin;have hl0:l∈(m.ah n).Md:=H.iP l (by rw[hin];simp);refine⟨h1.1,h4,?_⟩;have e0:(w.put n ((w.ah n).box r)).ah n=(w.ah n).box r:=aX _;have A0:Hl ((w.ah n).box r) m.off:=A;generalize (w.put n ((w.ah n).box r)).Ng n l=m2 at h3⊢;generalize w.put n ((w.ah n).box r)=w2 at h3 e0;rw[<-e0]at A0;clear e0 h2 h4 hin hp1 A H
    cases h3 with
    |same=>exact A0
    |done a c1 c2=>rw[(uV (m:=w2)).2.1];exact A0
    |QM c1=>exact A0
    |part b c1 c2 c3 c4 c5 c6=>
     obtain⟨g1,g2,g3⟩:=pY (m:=w2.ay n l.q b) (n:=n) (q:=l.q) (a:=l.at_);rw[g2,show(w2.ay n l.q b).ah n=(w2.ah n).ay l.q b from aX _];refine yI A0 E E λc=>?_
     rcases c4 with⟨c4,c7,_⟩|⟨c4,c7⟩
     ·rw[c7]at c;exact absurd (c4.symm.trans c) (by decide)
     rw[c7]at c;exact absurd (c4.symm.trans c) (by decide)
    |Mw p dz d c1 c2 c3 c4 c5=>
     rw[aX]
     rcases c1 with c1|⟨c0,c1⟩
     ·rw[c1];exact A0
     rw[c1];exact Ny A0 hl0 c0
    |Ny c1=>rw[aX];exact Ny A0 hl0 c1) _ m E ⟨BG J ⟨_,hU⟩,Z⟩
   obtain⟨H1,A1⟩:=key;rw[jf J hp]
   split
   ·show Hl (Na (m.more n).ah n { (m.more n).ah n with turn:=((m.more n).ah n).turn+1} n) m.off
    rw[Ee];exact A1
   exact A1
def ash(h:Su m)(hn:∀j,j<5->(m'.ah j).Nf=(m.ah j).Nf/\(m'.ah j).bs=(m.ah j).bs)(O:∀q,q<2->(m.off.at q).Mc<=(m'.off.at q).Mc)(Z:m'.off.at 2=m.off.at 2)(h3:m'.off.at 3=m.off.at 3):Su m':=by
 refine⟨λj I=>(h.iK j I).up O λq hq J M=>?_,Z.trans h.two,h3.trans h.WO⟩;rw[(hn j I).1]at J;rw[(hn j I).2]at M⊢;exact⟨J,M,E⟩
def aay(h:Su m)(O:l.q<2):Su (m.Nk l):=by
 refine ash h (λj _=>?_) (λq Z=>Uj (by omega) (by omega)) ?_ ?_
 ·obtain⟨ib,e⟩:=BH m l j;rw[e];exact⟨E,E⟩
 all_goals
  have I:∀q,2<=q->q<4->(dH m.off l).at q=m.off.at q:=λq h1 J=>by
   unfold dH
   split
   ·rename_i c
    obtain⟨_,_,_,_,M⟩:=Jp c.2;rw[M];dsimp only;rw[Int.toNat_natCast,nL (by omega) J,if_neg (by omega)]
   rfl
  unfold Cl.Nk
  split
  ·rfl
  split
  ·split<;>exact I _ (by decide) (by decide)
  split<;>rfl
def Um:∀(ls:List bH) {m:Cl},Su m->(∀l∈ls,l.q<2)->Su (ls.foldl Cl.Nk m)
 |[],_,h,_=>h
 |l::ls,m,h,I=>Um ls (aay h (I l mem_cons_self)) λx J=>I x (mem_cons_of_mem _ J)
def WQ(h:Su m)(hv:Vd m):Su m.all:=Um m.Ms (m:={m with Ms:=[]}) ⟨h.iK,h.two,h.WO⟩ hv.Ms
end
section
variable {m:Cl}{n:Nat}{l:bH}{rs:List cO}{b:aU}{G:List Ev}
def ahQ(h:oC (m.ah n) rs []):0<=(m.ah n).MC/\(m.ah n).MC<=(m.ah n).data.length:=by
 have h1:=h.MC;have I:=congrArg length h.data;rw[append_nil]at I;omega
def Cz{xs:List cO}(I:oC (m.ah n) rs [])(J:∀r∈xs,aH r=0)(h:(m.ah n).data.length+46*xs.length<=100000):∃x,(m.ah n).write xs=some x:=by
 obtain⟨h1,M⟩:=ahQ I;unfold Nd.write;rw[vH J h1 M h];exact⟨_,E⟩
def Qx{P:cO->Prop}{r:cO}(h:P r):∀x∈[r],P x:=λx I=>by rw[mem_singleton]at I;subst I;exact h
def VI(M:l.kd=2)(I:oC (m.ah n) rs [])(J:l.q<4)(hr:((m.ah n).bs l.q).Gq=0\/((m.ah n).bs l.q).Gq=4)(he:((m.ah n).bs l.q).ep<l.ep)(h1:1<=l.ep/\l.ep<=1048576)(h2:0<=l.fr/\l.fr<=4)(hd:(m.ah n).data.length+46<=100000):
 ((m.Ng n l).ah n).Mw≠none:=by
 have O:=I.lg l.q J;rw[show m.Ng n l=m.Qz n l by unfold Cl.Ng;rw[if_neg (by omega),if_pos M]];have Z:dw ((m.ah n).bs l.q) l.ep l.fr=(⟨4,l.ep,l.fr,0,0,[]⟩,0):=by
  unfold dw;rw[if_neg (λh=>h O),if_neg (by omega),if_neg (by omega),if_neg (by omega),if_neg (by omega)]
 obtain⟨x,hx⟩:=Cz (xs:=[fH 4 l.q l.ep l.fr aI]) I (Qx (oI (by decide) J (by omega) (by omega) (by decide))) (by rw[length_singleton];omega);unfold Cl.Qz;rw[Z];dsimp only;rw[if_neg (λh=>h E),if_neg (by omega),hx];dsimp only;rw[aX];simp
def VJ(I:l.kd=2)(J:au ((m.ah n).bs l.q)=0)(M:((m.ah n).bs l.q).Gq=4)(he:((m.ah n).bs l.q).ep=l.ep)(O:((m.ah n).bs l.q).fr=l.fr)(h1:1<=l.ep/\l.ep<=1048576)(h2:0<=l.fr/\l.fr<=4):m.Ng n l=m.QM n l.q:=by
 rw[show m.Ng n l=m.Qz n l by unfold Cl.Ng;rw[if_neg (by omega),if_pos I]];have Z:dw ((m.ah n).bs l.q) l.ep l.fr=((m.ah n).bs l.q,0):=by
  unfold dw;rw[if_neg (λh=>h J),if_neg (by omega),if_neg (by omega),if_pos ⟨M,he,O⟩]
 unfold Cl.Qz;rw[Z];dsimp only;rw[if_neg (λh=>h E),if_pos E]
def PartOf(b:aU)(n q:Nat)(a:Int)(x:bH):Prop:=x.kd=4/\x.fr=n/\x.tg=b.tg/\x.q=q/\x.ep=b.ep+1/\x.at_=a/\x.Gs=(b.Gs.drop a.toNat).take 3/\x.last=decide (b.Gq=3/\b.Gs.length<=a.toNat+3)
def LZ(J:au b=0)(M:b.Gq=2\/b.Gq=3)(O:0<=l.at_/\l.at_<=b.Gs.length)(he:(m.ah n).bs l.q=b):∃x∈(m.part n l.q l.at_).Ms,PartOf b n l.q l.at_ x:=by
 have I:ig b l.at_=((b.Gs.drop l.at_.toNat).take 3,decide (b.Gq=3/\b.Gs.length<=l.at_.toNat+3),0):=by
  unfold ig;rw[if_neg (λh=>h J),if_neg (by omega),if_neg (by omega)]
 unfold Cl.part;rw[he,I];rw[if_neg (λh=>h E)];refine⟨FY n l.q b l.at_,mem_append_right _ (mem_singleton.2 E),E,E,E,E,E,E,?_,?_⟩
 ·show(ig b l.at_).1=_;rw[I]
 show(ig b l.at_).2.1=_;rw[I]
def asi(hk:l.kd=3)(hU:oC (m.ah n) rs [])(hq:l.q<4)(hr:((m.ah n).bs l.q).Gq=2\/((m.ah n).bs l.q).Gq=3)(ht:((m.ah n).bs l.q).tg=l.fr)(he:((m.ah n).bs l.q).ep+1=l.ep)(ha:0<=l.at_/\l.at_<=((m.ah n).bs l.q).Gs.length)(hd:(m.ah n).data.length+46<=100000):
 ((m.Ng n l).ah n).Mw≠none\/((((m.ah n).bs l.q).Gq=3\/l.at_< ((m.ah n).bs l.q).Gs.length)/\ ∃x∈(m.Ng n l).Ms,PartOf ((m.ah n).bs l.q) n l.q l.at_ x):=by
 have M:=hU.lg l.q hq;rw[show m.Ng n l=m.QV n l by unfold Cl.Ng;rw[if_neg (by omega),if_neg (by omega),if_pos hk]];unfold Cl.QV;rw[if_neg (by omega)];have hs:=eO M;have I:∀b':aU,(((m.ay n l.q b').ah n).bs l.q)=b':=λb'=>by rw[show(m.ay n l.q b').ah n=(m.ah n).ay l.q b' from aX _];exact Ee _ _ _
 by_cases O:((m.ah n).bs l.q).Gq=3
 ·have J:bG ((m.ah n).bs l.q) l.at_=((m.ah n).bs l.q,0):=by
   unfold bG;rw[if_neg (λh=>h M),if_neg (by omega),if_neg (by omega),if_pos O]
  rw[J];dsimp only;rw[if_neg (λh=>h E),if_pos E];exact .inr ⟨.inl O,LZ (m:=m.ay n l.q ((m.ah n).bs l.q)) M hr ha (I _)⟩
 have h2:((m.ah n).bs l.q).Gq=2:=by omega
 by_cases c:l.at_=((m.ah n).bs l.q).Gs.length\/((m.ah n).bs l.q).rd=4
 ·left
  have J:bG ((m.ah n).bs l.q) l.at_=({ (m.ah n).bs l.q with Gq:=3,rd:=0},0):=by
   unfold bG;rw[if_neg (λh=>h M),if_neg (by omega),if_neg (by omega),if_neg O,if_pos c]
  unfold bq at hs;obtain⟨x,hx⟩:=Cz (xs:=[fH 3 l.q ((m.ah n).bs l.q).ep ((m.ah n).bs l.q).tg aI]) hU (Qx (oI (by decide) hq (by omega) (by omega) (by decide))) (by rw[length_singleton];omega);rw[J];dsimp only;rw[if_neg (λh=>h E),if_neg (by omega),hx];dsimp only;rw[aX];simp
 right
 have J:bG ((m.ah n).bs l.q) l.at_=({ (m.ah n).bs l.q with rd:=((m.ah n).bs l.q).rd+1},0):=by
  unfold bG;rw[if_neg (λh=>h M),if_neg (by omega),if_neg (by omega),if_neg O,if_neg c]
 rw[J];dsimp only;rw[if_neg (λh=>h E),if_pos E];have Z:au { (m.ah n).bs l.q with rd:=((m.ah n).bs l.q).rd+1}=0:=by
  have:=BM (b:=(m.ah n).bs l.q) (hv:=l.at_) M (by rw[J]);rw[J]at this;exact this
 refine⟨.inr (by omega),?_⟩;obtain⟨x,x1,x2⟩:=LZ (m:=m.ay n l.q { (m.ah n).bs l.q with rd:=((m.ah n).bs l.q).rd+1}) (n:=n) (l:=l) Z (.inl h2) ha (I _);exact⟨x,x1,x2⟩
def al6(hk:l.kd=6)(J:oC (m.ah n) rs [])(M:l.q<4)(Z:((m.ah n).bs l.q).Gq=3)(he:((m.ah n).bs l.q).ep<l.ep)(hd:(m.ah n).data.length+46<=100000):((m.Ng n l).ah n).Mw≠none:=by
 have O:=J.lg l.q M;rw[show m.Ng n l=m.Q9 n l by unfold Cl.Ng;rw[if_neg (by omega),if_neg (by omega),if_neg (by omega),if_neg (by omega)]];have hs:=eO O;unfold bq at hs;have hF:fT ((m.ah n).bs l.q) l.ep=(⟨0,((m.ah n).bs l.q).ep,0,0,0,[]⟩,0):=by
  unfold fT;rw[if_neg (λh=>h O),if_neg (λh=>h Z),if_neg (by omega)]
 obtain⟨x,hx⟩:=Cz (xs:=[fH 7 l.q ((m.ah n).bs l.q).ep 0 aI]) J (Qx (oI (by decide) M (by omega) (by omega) (by decide))) (by rw[length_singleton];omega);obtain⟨d,hw,hxe⟩:=pK hx;have I:((m.ah n).Ny n l).write [fH 7 l.q ((m.ah n).bs l.q).ep 0 aI]=some { (m.ah n).Ny n l with data:=d}:=by
  unfold Nd.write;rw[show((m.ah n).Ny n l).data=(m.ah n).data from E,show((m.ah n).Ny n l).MC=(m.ah n).MC from E,hw];rfl
 unfold Cl.Q9;rw[hF];dsimp only;rw[if_neg (λh=>h E),I];dsimp only;rw[aX];simp
def asj(hk:l.kd=4)(hU:oC (m.ah n) rs [])(hq:l.q<4)(hr:((m.ah n).bs l.q).Gq=4)(hf:((m.ah n).bs l.q).fr=l.fr)(he:((m.ah n).bs l.q).ep=l.ep)(ha:0<=l.at_/\l.at_<=((m.ah n).bs l.q).Gs.length)
  (h1:((m.ah n).bs l.q).Gs=G.take ((m.ah n).bs l.q).Gs.length) (h2:l.Gs=(G.drop l.at_.toNat).take l.Gs.length) (h3:l.at_.toNat+l.Gs.length<=G.length) (M:((m.ah n).bs l.q).Gs.length<l.at_.toNat+l.Gs.length\/l.last=true) (h5:l.last=true->l.at_.toNat+l.Gs.length=G.length)
  (hg:QJ G) (hg2:QJ (G++[aF])) (hd:(m.ah n).data.length+46*(G.length+1-((m.ah n).bs l.q).Gs.length)<=100000):((m.Ng n l).ah n).Mw≠none:=by
 have hb:=hU.lg l.q hq;have hs:=eO hb;have hlen:((m.ah n).bs l.q).Gs.length<=G.length:=by have:=congrArg length h1;rw[length_take]at this;omega
 rw[show m.Ng n l=m.QU n l by unfold Cl.Ng;rw[if_neg (by omega),if_neg (by omega),if_neg (by omega),if_pos hk]];generalize hB:(m.ah n).bs l.q=b at*;obtain⟨k,Z⟩:∃k:Nat,l.at_=k:=⟨l.at_.toNat,by omega⟩;rw[Z,Int.toNat_natCast]at h2 h3 M h5;rw[Z]at ha;have hkb:k<=b.Gs.length:=by omega
 have hj:b.Gs.length<=k+l.Gs.length:=by
  rcases M with M|M
  ·omega
  have:=h5 M;omega
 have hd1:l.Gs.drop (b.Gs.length-k)=(G.drop b.Gs.length).take (k+l.Gs.length-b.Gs.length):=by
  rw[congrArg (List.drop (b.Gs.length-k)) h2,drop_take,drop_drop,show k+(b.Gs.length-k)=b.Gs.length by omega]
  congr 1
  omega
 have e1:b.Gs++l.Gs.drop (b.Gs.length-k)=G.take (k+l.Gs.length):=by
  rw[hd1]
  conv=>lhs;lhs;rw[h1]
  have:=take_add (l:=G) (i:=b.Gs.length) (j:=k+l.Gs.length-b.Gs.length);rw[show b.Gs.length+(k+l.Gs.length-b.Gs.length)=k+l.Gs.length by omega]at this;exact this.symm
 have e2:(b.Gs.drop k).take l.Gs.length=l.Gs.take (b.Gs.length-k):=by
  have a1:b.Gs.drop k=(G.drop k).take (b.Gs.length-k):=by
   conv=>lhs;rw[h1]
   rw[drop_take]
  have a2:l.Gs.take (b.Gs.length-k)=(G.drop k).take (min (b.Gs.length-k) l.Gs.length):=by
   conv=>lhs;rw[h2]
   rw[take_take]
  rw[a1,a2,take_take,Nat.min_comm]
 have hge:QJ (G.take (k+l.Gs.length)):=nX hg;obtain⟨es,O⟩:∃es,G.take (k+l.Gs.length)=es:=⟨_,E⟩;have hel:es.length=k+l.Gs.length:=by rw[<-O,length_take];omega
 rw[O]at e1 hge;unfold bq at hs;obtain⟨res,hres,hrl,J⟩:∃res:aU,cK b l.ep l.at_ l.Gs l.last=(res,0)/\res.Gs.length=k+l.Gs.length+(if l.last=true then 1 else 0)/\(res.Gs=if l.last=true then es++[aF]else es)/\res.ep=b.ep:=by
  have hz:au (if l.last=true then⟨1,l.ep,0,0,0,es++[aF]⟩else{b with Gs:=es})=0:=by
   split
   ·rename_i c
    have:es=G:=by rw[<-O,h5 c,take_length]
    rw[this];exact lS (uR (by omega) (by omega) _) hg2
   exact lS (nI (eO hb) (by omega) _) hge
  refine⟨if l.last=true then⟨1,l.ep,0,0,0,es++[aF]⟩else{b with Gs:=es},?_,?_,?_,?_⟩
  ·unfold cK;rw[Z,Int.toNat_natCast,e1];rw[if_neg (λh=>h hb),if_neg (λh=>h hr),if_neg (λh=>h he),if_neg (by omega),if_neg (λh=>h e2),if_neg (by omega),if_neg (λh=>h hz)]
  ·split
   ·show(es++[aF]).length=_;rw[length_append,length_singleton,hel]
   exact hel
  ·split<;>rfl
  split
  ·exact he.symm
  rfl
 obtain⟨J,hre⟩:=J;have hgt:b.Gs.length<res.Gs.length:=by
  rw[hrl]
  split
  ·omega
  rename_i c
  rcases M with M|M
  ·omega
  exact absurd M c
 have hfe:∀e∈res.Gs,aZ e=0:=by
  rw[J]
  split
  ·rename_i c
   have:es=G:=by rw[<-O,h5 c,take_length]
   rw[this];exact AY E hg2
  exact AY E hge
 unfold Cl.QU;rw[hB,hres];dsimp only;rw[if_neg (by omega),if_neg (by decide),if_neg (by rintro(h|h)<;>omega)];obtain⟨x,hx⟩:=Cz (xs:=qb l.q res b.Gs.length (l.at_.toNat+l.Gs.length) l.last) hU (λr I=>by
  unfold qb at I
  rcases mem_append.1 I with I|I
  ·obtain⟨e,he1,rfl⟩:=mem_map.1 I;exact oI (by decide) hq (by omega) (by decide) (by
    rw[if_pos (by decide)];exact hfe e (mem_of_mem_take (mem_of_mem_drop he1)))
  ·split at I
   ·rw[mem_singleton]at I;subst I;exact oI (by decide) hq (by omega) (by decide) (by decide)
   simp at I) (by
  have:(qb l.q res b.Gs.length (l.at_.toNat+l.Gs.length) l.last).length<=G.length+1-b.Gs.length:=by
   unfold qb;rw[length_append,length_map,length_drop,length_take];by_cases c:l.last=true
   ·rw[if_pos c,length_singleton];omega
   rw[if_neg c,length_nil];omega
  omega)
 rw[hx];dsimp only;rw[aX];simp
end
end Go.Proofs.YtefabpdniidmbaaGreatDoor
