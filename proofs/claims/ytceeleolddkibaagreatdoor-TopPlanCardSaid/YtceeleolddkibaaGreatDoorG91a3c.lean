import Derived.Test.YtceeleolddkibaaGreatDoorG06df9
import Derived.Test.YtceeleolddkibaaGreatDoorG15dde
import Derived.Test.YtceeleolddkibaaGreatDoorG1f433
import Derived.Test.YtceeleolddkibaaGreatDoorG41636
import Derived.Test.YtceeleolddkibaaGreatDoorG5c241
import Derived.Test.YtceeleolddkibaaGreatDoorG671ca
import Derived.Test.YtceeleolddkibaaGreatDoorGa9257
set_option linter.all false
set_option maxRecDepth 100000
set_option maxHeartbeats 8000000
namespace Go.Proofs.YtceeleolddkibaaGreatDoor
open List Nat Go.Proofs.Tryz ChangeShapes WideShapes RowKit
section
variable {m w m':Cl}{n q k B d:Nat}{g g':Gh}{G G':Nat->Gh}{o:Nat}{tg:Int}{b:bF}{T:Nat}{ac:Ac}
def av3(dX:Cl)(n:Nat):dX.UN (Qo 3 (n:Int))=dX.step n:=by
 unfold Cl.UN;rw[ah (by show(3:Int)≠1;decide),ah (by show(3:Int)≠2;decide),aj (show(Qo 3 (n:Int)).kd=3 from E)];rfl
def apI(dX:Cl):dX.UN (Qo 7 0)=dX.all:=by
 unfold Cl.UN;rw[ah (by show(7:Int)≠1;decide),ah (by show(7:Int)≠2;decide),ah (by show(7:Int)≠3;decide),ah (by show ¬((7:Int)=4\/(7:Int)=5\/(7:Int)=6);decide),aj (show(Qo 7 0).kd=7 from E)]
def Tp(dX:Cl):∀j,dX.run (steps j)=dX.dI j
 | 0=>rfl
 |j+1=>by
  rw[OW];unfold Cl.run;rw[pR];have:=Tp dX j;unfold Cl.run at this;rw[this]
  show Cl.UN (dX.dI j) (Qo 3 (j:Int))=(dX.dI j).step j
  exact av3 _ _
def Oc(dX:Cl):∀r,dX.run (AY r)=dX.rs r
 | 0=>rfl
 |r+1=>by
  rw[EO];have h1:=Oc dX r;have h:=Tp (dX.rs r) 5;unfold Cl.run at h1 h⊢;rw[pR,pR,h1,h]
  show Cl.UN ((dX.rs r).dI 5) (Qo 7 0)=((dX.rs r).dI 5).all
  exact apI _
def CU:∀l:List Ac,qB l=200+qC M5 l
 |[]=>rfl
 |a::l=>by rw[qB,CU l,qC];omega
def XL:∀l:List Ac,8*qC yA l+2*qC acW l+qC acS l<=qC M5 l+l.length
 |[]=>aB
 |a::l=>by
  have h:=XL l;have h1:8*yA a+2*acW a+acS a<=M5 a+1:=by
   unfold yA acW acS M5
   split<;>split<;>split<;>split<;>omega
  rw[qC,qC,qC,qC,mO];omega
def aBx:Su nH:=by
 refine⟨λn _=>ag1 ?_,E,E⟩
 show(Qv (Qv l9.au 0 (nY 0)) 1 (nY 1) n).QA=_
 unfold Qv
 split
 ·rfl
 split<;>rfl
def ahx(n:Nat):(nH.au n).up=true/\((nH.au n).Pq=[]/\(nH.au n).PL=none)/\(nH.au n).turn=0:=by
 show(Qv (Qv l9.au 0 (nY 0)) 1 (nY 1) n).up=true/\((Qv (Qv l9.au 0 (nY 0)) 1 (nY 1) n).Pq=[]/\(Qv (Qv l9.au 0 (nY 0)) 1 (nY 1) n).PL=none)/\(Qv (Qv l9.au 0 (nY 0)) 1 (nY 1) n).turn=0
 unfold Qv
 split
 ·exact⟨E,⟨E,E⟩,E⟩
 split<;>exact⟨E,⟨E,E⟩,E⟩
def aq9(Z:q<2):yq (vw nH q) (g0 q)=0:=by
 have I:=(aqL Z).qi;have ho:(g0 q).o=q:=rfl;have Fy:=I.Fy;have wz:=I.wz;have M:∀n,vw nH q n=(nH.au n).bs q:=λn=>jk (ahx n).1;have O:∀n,(nH.au n).bs q=⟨1,1,0,0,0,[]⟩\/(nH.au n).bs q=bV:=λn=>by
  show(Qv (Qv l9.au 0 (nY 0)) 1 (nY 1) n).bs q=_\/(Qv (Qv l9.au 0 (nY 0)) 1 (nY 1) n).bs q=_
  have mk:∀k,(nY k).bs q=⟨1,1,0,0,0,[]⟩\/(nY k).bs q=bV:=λk=>by
   show Qv (λ_=>bV) k ⟨1,1,0,0,0,[]⟩ q=_\/Qv (λ_=>bV) k ⟨1,1,0,0,0,[]⟩ q=_
   unfold Qv
   split
   ·exact .inl E
   exact .inr E
  unfold Qv
  split
  ·exact mk 1
  split
  ·exact mk 0
  exact .inr E
 have hr:(vw nH q (g0 q).o).GR=1:=by
  rw[M]at Fy⊢
  rcases O (g0 q).o with h|h
  ·rw[h]
  rw[h]at Fy;exact av Fy (by decide)
 have J:∀n,yo (vw nH q) (g0 q) n=0:=λn=>by
  unfold yo;rw[ah];rintro⟨_,c⟩;rw[M]at c
  rcases O n with h|h<;>rw[h]at c<;>exact av c (by decide)
 unfold yq o5;rw[J,J,J,J,J,aj hr];rfl
def apJ:YY nH g0=0/\nH.cw=0/\nH.aS=0/\nH.tS=0:=by
 have v:=ahx;refine⟨?_,?_,?_,?_⟩
 ·unfold YY Cl.c0 Cl.ws Cl.K7 o5;dsimp only;rw[aq9 (q:=0) (by decide),aq9 (q:=1) (by decide)];rw[(v 0).1,(v 1).1,(v 2).1,(v 3).1,(v 4).1,(v 0).2.1.1,(v 1).2.1.1,(v 2).2.1.1,(v 3).2.1.1,(v 4).2.1.1,(v 0).2.1.2,(v 1).2.1.2,(v 2).2.1.2,(v 3).2.1.2,(v 4).2.1.2];rfl
 ·unfold Cl.cw uo;rw[(v 0).2.1.1,(v 1).2.1.1,(v 2).2.1.1,(v 3).2.1.1,(v 4).2.1.1,(v 0).2.1.2,(v 1).2.1.2,(v 2).2.1.2,(v 3).2.1.2,(v 4).2.1.2];rfl
 ·unfold Cl.aS o5;dsimp only;rw[(v 0).2.2,(v 1).2.2,(v 2).2.2,(v 3).2.2,(v 4).2.2];rfl
 unfold Cl.tS o5;dsimp only;rw[(v 0).2.2,(v 1).2.2,(v 2).2.2,(v 3).2.2,(v 4).2.2]
def Vl.fair(Z:Vl m w G G' B)(hn:n<5)(hq:q<2):¬((vw w q n).GR=2\/(vw w q n).GR=3)/\((vw w q n).GR=1->(w.off.at q).node=n/\(w.off.at q).Pf=(vw w q n).ep)/\((w.off.at q).node=n->(vw w q n).GR=1):=by
 have I:=Z.rm.qi q hq;have hz:=Z.zz;have O:(o5 λj=>tV (w.au j).PL)=0:=by unfold ZZ at hz;omega
 have hP:pE (FF w G' q) (w.off.at q).Pf (vq w q)=0:=by
  have h01:q=0\/q=1:=by omega
  unfold ZZ PP at hz
  rcases h01 with rfl|rfl<;>omega
 have hp:∀j,j<5->(w.au j).PL=none:=λj J=>by
  have h0:tV (w.au j).PL=0:=by
   unfold o5 at O;dsimp only at O
   rcases five J with rfl|rfl|rfl|rfl|rfl<;>omega
  cases e:(w.au j).PL with
  |none=>rfl
  |some p=>rw[e]at h0;exact av h0 (by show(1:Nat)≠0;decide)
 have hvq:∀j,j<5->vq w q j=vw w q j:=λj J=>by unfold vq;rw[jP (hp j J),jk (Z.rm.up j J)]
 have hR:(vw w q (G' q).o).GR=1:=MK λc=>by
  have:(FF w G' q).R=1:=ah c;unfold pE ZE at hP;rw[aj this]at hP;omega
 have hd:(w.off.at q).Pf=((G' q).m:Int):=MK λc=>by
  have:O6 (FF w G' q) (w.off.at q).Pf=1:=ah c;unfold pE at hP;omega
 have hol:∀j,j<5->j≠(G' q).o->(vw w q j).GR≠3:=λj J hjo c=>by
  have h1:pJ (FF w G' q) (vq w q) j=1:=aj ⟨hjo,by rw[hvq j J];exact c⟩;unfold pE o5 at hP
  rcases five J with rfl|rfl|rfl|rfl|rfl<;>omega
 obtain⟨d,d1,d2,d3⟩:=I.dir;have hdm:d=(G' q).m:=by rw[d1]at hd;dsimp only at hd;omega
 have M:(w.off.at q).node=(((G' q).o:Nat):Int):=by rw[d1,hdm];rfl
 have aHR:=I.wz;by_cases c:n=(G' q).o
 ·subst c;exact⟨by omega,λ_=>⟨M,by rw[hd,aHR]⟩,λ_=>hR⟩
 have h3:=hol n hn c;refine⟨?_,λh=>av (I.who hn (.inl h)) c,λh=>av (by omega) c⟩;rintro(h|h)
 ·exact c (I.who hn (.inr h))
 exact h3 h
structure Calm (w:Cl)(G:Nat->Gh)(B:Nat):Prop where
 rm:Rm w G B
 bn:Bn w
 su:Su w
 pn:∀n,n<5->(w.au n).PL=none
 eB:w.ws cu=0
 st:w.ws (gG (FF w G))=0
structure Rest (w:Cl)(G:Nat->Gh)(q:Nat):Prop where
 rl:(vw w q (G q).o).GR=1
 di:w.off.at q=⟨((G q).o:Nat),((G q).m:Nat)⟩
def Vl.calm(Z:Vl m w G G' B):Calm w G' B:=by
 have J:=Z.zz;unfold ZZ PP at J;refine⟨Z.rm,Z.bn,Z.su,λj M=>?_,by omega,by omega⟩;have h:(o5 λj=>tV (w.au j).PL)=0:=by omega
 have I:tV (w.au j).PL=0:=by
  unfold o5 at h;dsimp only at h
  rcases five M with rfl|rfl|rfl|rfl|rfl<;>omega
 cases e:(w.au j).PL with
 |none=>rfl
 |some p=>rw[e]at I;exact av I (by show(1:Nat)≠0;decide)
def Vl.rest(Z:Vl m w G G' B)(M:q<2):Rest w G' q:=by
 have I:=Z.rm.qi q M;obtain⟨a,b,c⟩:=Z.fair I.o5 M;have h1:(vw w q (G' q).o).GR=1:=by
  have:(vw w q (G' q).o).GR=1\/(vw w q (G' q).o).GR=2\/(vw w q (G' q).o).GR=3:=I.Fy;omega
 obtain⟨J,h⟩:=b h1;have O:(vw w q (G' q).o).ep=(G' q).m:=I.wz;refine⟨h1,?_⟩;rw[O]at h;generalize w.off.at q=p at J h⊢
 cases p;dsimp only at J h;rw[J,h]
def Calm.aBy(C:Calm w G B):iD w.off=0:=by
 refine zo λj hj=>?_;have h:∀q,q<2->Av (w.off.at q):=λq M=>by
  have I:=C.rm.qi q M;obtain⟨d,O,Z,d3⟩:=I.dir;have J:w.off.at q=⟨(G q).own d,d⟩:=O;have h5:=I.Z5 d Z (by omega);have hm:=I.aax;have hc:=C.rm.cap q M;rw[J];exact .inr ⟨by show(0:Int)<=((G q).own d:Nat);omega,by show((G q).own d:Int)<=4;omega,by show(1:Int)<=(d:Nat);omega,by show(d:Int)<=1048576;omega⟩
 have:j=0\/j=1\/j=2\/j=3:=by omega
 rcases this with rfl|rfl|rfl|rfl
 ·exact h 0 (by decide)
 ·exact h 1 (by decide)
 ·rw[C.su.two];exact .inl ⟨E,E⟩
 rw[C.su.tre];exact .inl ⟨E,E⟩
def Calm.azd(C:Calm w G B)(R:Rest w G q)(I:q<2):aN w.off q=(⟨((G q).o:Nat),((G q).m:Nat)⟩,0):=by
 have h:=Ee (q:=(q:Int)) C.aBy (by omega) (by
  rw[dW,R.di];intro e;have:=bM Pl.node e;have:((G q).o:Int)= -1:=this;omega)
 rw[h,dW,R.di]
def Calm.stay(C:Calm w G B)(R:Rest w G q)(h:q<2)(I:tg=((G q).o:Nat)):w.move q tg=w:=by
 unfold Cl.move;rw[C.azd R h,aj (.inr (.inl I.symm))]
def Calm.bs(C:Calm w G B)(R:Rest w G q)(h:q<2):((w.au (G q).o).bs q).GR=1/\((w.au (G q).o).bs q).ep=((G q).m:Nat)/\((w.au (G q).o).bs q).JU=(G q).G/\aA ((w.au (G q).o).bs q)=0:=by
 have I:=C.rm.qi q h;have J:=C.rm.up _ I.o5;obtain⟨T,S,fP,K,M⟩:=C.bn;have e:=jk (q:=q) J;refine⟨by rw[<-e];exact R.rl,by rw[<-e];exact I.wz,by rw[<-e];exact I.zk,(M.jO _ I.o5).nE q (by omega)⟩
def uq(w:Cl)(n q:Nat)(tg:Int):bF:=⟨2,((w.au n).bs q).ep,0,tg,0,((w.au n).bs q).JU⟩
def Calm.go(C:Calm w G B)(R:Rest w G q)(h:q<2)(O:0<=tg)(Z:tg<=4)(J:tg≠((G q).o:Nat)):w.move q tg=w.aF (G q).o q (uq w (G q).o q tg):=by
 have I:=C.rm.qi q h;obtain⟨b1,b2,b3,b4⟩:=C.bs R h;have hm:=I.aax;have hc:=C.rm.cap q h;have M:wh ((w.au (G q).o).bs q) tg=(uq w (G q).o q tg,0):=by
  unfold wh uq;rw[ah (λc=>c b4),ah (λc=>c ⟨O,Z⟩),ah (by omega),ah (λc=>c b1),ah (by omega)]
 unfold Cl.move;rw[C.azd R h];dsimp only;rw[dW,ah (by
  rintro(c|c|c)
  ·exact c E
  ·exact J c.symm
  rw[C.rm.up _ I.o5]at c;cases c),aj ⟨by rw[M],by rw[M];exact b2⟩,M]
def uU(I:(w.au o).up=true)(j:Nat):((w.aF o q b).au j).data=(w.au j).data/\((w.aF o q b).au j).Pq=(w.au j).Pq/\((w.aF o q b).au j).PL=(w.au j).PL/\((w.aF o q b).au j).up=(w.au j).up/\ ∀k,((w.aF o q b).au j).bs k=if j=o/\k=q then b else(w.au j).bs k:=by
 by_cases e:j=o
 ·subst e;rw[show(w.aF j q b).au j=(w.au j).aF q b from bL _];refine⟨E,E,E,E,λk=>?_⟩;by_cases h:k=q
  ·rw[aj ⟨E,h⟩,h];exact JR _ _ _
  rw[ah (λc=>h c.2)];exact Ph h
 rw[show(w.aF o q b).au j=w.au j from Ph e];exact⟨E,E,E,E,λk=>by rw[ah (λc=>e c.1)]⟩
def XM(h:∀j,j<5->(w.au j).up=true)(J:o<5){j:Nat}(I:j<5):vw (w.aF o q b) k j=if j=o/\k=q then b else vw w k j:=by
 obtain⟨_,_,_,M,O⟩:=uU (w:=w) (q:=q) (b:=b) (h o J) j;rw[jk (by rw[M];exact h j I),jk (h j I),O]
def XO(C:Calm w G B)(R:Rest w G q)(h:q<2)(M:b.GR=2)(J:k<2):FF (w.aF (G q).o q b) G k=if k=q then⟨(G q).m,(G q).own,1,b.tg⟩else FF w G k:=by
 have I:=C.rm.qi q h;have Ik:=C.rm.qi k J;have hv:=XM (b:=b) (q:=q) (k:=k) C.rm.up I.o5 Ik.o5;unfold FF zI;by_cases e:k=q
 ·subst e;rw[aj ⟨E,E⟩]at hv;rw[aj E,hv,ah (by omega)]
 rw[ah (λc=>e c.2)]at hv;rw[ah e,hv]
def XP(C:Calm w G B)(R:Rest w G q):FF w G q=⟨(G q).m,(G q).own,0,(vw w q (G q).o).tg⟩:=by
 unfold FF zI;rw[aj R.rl]
def Pb(C:Calm w G B)(R:Rest w G q)(I:q<2)(J:b.GR=2){l:bY}(M:l.q<2)(h:calm (FF w G l.q) l):calm (FF (w.aF (G q).o q b) G l.q) l:=by
 rw[XO C R I J M];by_cases e:l.q=q
 ·rw[aj e];rw[e,XP C R]at h
  rcases h with h|⟨_,h,_⟩
  ·exact .inl h
  exact av h (by show(0:Nat)≠1;decide)
 rw[ah e];exact h
def ak8{f f':bY->Nat}(I:(w.au o).up=true)(h:∀l,l.q<2->f' l<=f l)(hv:Vd w):(w.aF o q b).ws f'<=w.ws f:=by
 have e:(w.aF o q b).ws f'=w.ws f':=by
  unfold Cl.ws;rw[(uU I 0).2.1,(uU I 1).2.1,(uU I 2).2.1,(uU I 3).2.1,(uU I 4).2.1];rfl
 rw[e];exact Qe (λl J=>h l (hv.PI l J)) (λn hn l J=>h l (hv.jC n hn l J))
def Calm.drain(C:Calm w G B)(R:Rest w G q)(O:q<2)(h0:0<=tg)(h4:tg<=4)(hne:tg≠((G q).o:Nat))(hG:(G q).G.length<=290):
 Calm (w.move q tg) G (B+14100)/\(w.move q tg).off=w.off/\FF (w.move q tg) G q=⟨(G q).m,(G q).own,1,tg⟩/\(∀k,k<2->k≠q->FF (w.move q tg) G k=FF w G k/\(Rest w G k->Rest (w.move q tg) G k)/\pE (FF (w.move q tg) G k) (w.off.at k).Pf (vq (w.move q tg) k)=pE (FF w G k) (w.off.at k).Pf (vq w k))/\
   pE (FF (w.move q tg) G q) (w.off.at q).Pf (vq (w.move q tg) q)<=pE (FF w G q) (w.off.at q).Pf (vq w q)+((G q).G.length+5):=by
 have I:=C.rm.qi q O;have ho:=I.o5;have hu:=C.rm.up;obtain⟨b1,b2,b3,b4⟩:=C.bs R O;obtain⟨T,S,fP,K,hB⟩:=C.bn;have hqi:∀k,k<2->QI (w.move q tg) k (G k):=λk M=>(I5 (C.rm.qi k M) hB (by omega) (by omega)).1;have hvd:Vd (w.move q tg):=adA C.rm.vd O;have hbn:Bn (w.move q tg):=⟨_,_,_,_,Sy hB (by omega)⟩;have hgo:=C.go R O h0 h4 hne;rw[hgo]at hqi hvd hbn⊢;have hN:=uU (w:=w) (q:=q) (b:=uq w (G q).o q tg) (hu _ ho);have hF:=λk M=>XO (k:=k) (b:=uq w (G q).o q tg) C R O E M;have hR0:=XP C R;have hws:∀f f':bY->Nat,(∀l,l.q<2->f' l<=f l)->(w.aF (G q).o q (uq w (G q).o q tg)).ws f'<=w.ws f:=λf f' h=>ak8 (hu _ ho) h C.rm.vd;have hpn:∀j,j<5->((w.aF (G q).o q (uq w (G q).o q tg)).au j).PL=none:=λj J=>by rw[(hN j).2.2.1];exact C.pn j J
 have Z:∀k j,j<5->qK ((w.aF (G q).o q (uq w (G q).o q tg)).au j) k=if j=(G q).o/\k=q then uq w (G q).o q tg else qK (w.au j) k:=λk j J=>by
  rw[jP (hpn j J),jP (C.pn j J)];exact(hN j).2.2.2.2 k
 have hc0:∀m:Cl,(∀j,j<5->(m.au j).PL=none)->m.c0=m.ws cu:=λm h=>by
  unfold Cl.c0;rw[h 0 (by decide),h 1 (by decide),h 2 (by decide),h 3 (by decide),h 4 (by decide)];rfl
 have SL:(w.aF (G q).o q (uq w (G q).o q tg)).ws cu=0:=by
  have:=hws cu cu (λl _=>aB);have:=C.eB;omega
 have hlw:(w.aF (G q).o q (uq w (G q).o q tg)).ws (uF (FF (w.aF (G q).o q (uq w (G q).o q tg)) G))<=w.ws (uF (FF w G)):=hws _ _ λl hl=>by
  unfold uF;by_cases k0:l.kd=0
  ·rw[aj k0,aj k0];exact aB
  rw[ah k0,ah k0];by_cases c:l.kd=4/\ ¬calm (FF (w.aF (G q).o q (uq w (G q).o q tg)) G l.q) l
  ·rw[aj c,aj ⟨c.1,λh=>c.2 (Pb C R O E hl h)⟩];exact aB
  rw[ah c];exact aC _
 have hst:(w.aF (G q).o q (uq w (G q).o q tg)).ws (gG (FF (w.aF (G q).o q (uq w (G q).o q tg)) G))=0:=by
  have h:=hws (gG (FF w G)) (gG (FF (w.aF (G q).o q (uq w (G q).o q tg)) G)) λl hl=>by
   unfold gG;by_cases c:(l.kd=2\/l.kd=4)/\ ¬calm (FF (w.aF (G q).o q (uq w (G q).o q tg)) G l.q) l
   ·rw[aj c,aj ⟨c.1,λh=>c.2 (Pb C R O E hl h)⟩];exact aB
   rw[ah c];exact aC _
  have:=C.st;omega
 have hfi:∀k j,k<2->j<5->fi (FF (w.aF (G q).o q (uq w (G q).o q tg)) G k) j (qK ((w.aF (G q).o q (uq w (G q).o q tg)).au j) k)<=fi (FF w G k) j (qK (w.au j) k)+(if k=q then 14030 else 0):=λk j M J=>by
  rw[hF k M,Z k j J];by_cases e:k=q
  ·subst e;rw[aj E,aj E,hR0];have iB:(uq w (G k).o k tg).ep=((w.au (G k).o).bs k).ep:=rfl;have key:∀b' b:bF,b'.ep=b.ep->SK b'.GR<=SK b.GR+2->fi ⟨(G k).m,(G k).own,1,tg⟩ j b'<=fi ⟨(G k).m,(G k).own,0,(vw w k (G k).o).tg⟩ j b+14030:=λb' b he hr=>by
    unfold fi Xt;dsimp only;rw[he];have hz:¬((0:Nat)=1/\((j:Nat):Int)=(vw w k (G k).o).tg):=λc=>av c.1 (by decide);rw[ah hz]
    split<;>omega
   by_cases c:j=(G k).o/\k=k
   ·rw[aj c,jP (C.pn j J),c.1];have:=key (uq w (G k).o k tg) ((w.au (G k).o).bs k) E (by rw[show(uq w (G k).o k tg).GR=2 from E];unfold SK;rw[aj E];omega);rw[c.1]at this;exact this
   rw[ah c];exact key _ _ E (by omega)
  rw[ah e,ah (λc=>e c.2),ah e];exact aB
 have hrm:Rm (w.aF (G q).o q (uq w (G q).o q tg)) G (B+14100):=by
  refine⟨λj J=>by rw[(hN j).2.2.2.1];exact hu j J,hvd,hqi,λj J=>?_,λk M=>?_⟩
  ·have h:=C.rm.Dv j J;have f0:=hfi 0 j (by decide) J;have f1:=hfi 1 j (by decide) J;have h01:q=0\/q=1:=by omega
   unfold Dv at h⊢;rw[(hN j).1]
   rcases h01 with rfl|rfl
   ·rw[aj E]at f0;rw[ah (by decide)]at f1;omega
   rw[ah (by decide)]at f0;rw[aj E]at f1;omega
  have h:=C.rm.cap k M;rw[hc0 _ hpn,SL,hF k M];by_cases e:k=q
  ·subst e;rw[aj E];dsimp only;omega
  rw[ah e];omega
 have hsu:Su (w.aF (G q).o q (uq w (G q).o q tg)):=by
  refine Su.at_ (n:=(G q).o) C.su (λj J=>Ph J) E ?_;refine JO.up (X:=w.au (G q).o) (C.su.jO _ ho) (λ_ _=>gI _) λk M hs hr=>?_;rw[(hN _).2.2.2.2 k]at hr⊢;by_cases e:k=q
  ·rw[aj ⟨E,e⟩]at hr;exact av hr (by show(2:Int)≠1;decide)
  rw[ah (λc=>e c.2)]at hr⊢;rw[show(w.aF (G q).o q (uq w (G q).o q tg)).au (G q).o=(w.au (G q).o).aF q (uq w (G q).o q tg)from bL _]at hs;exact⟨hs,hr,E⟩
 refine⟨⟨hrm,hbn,hsu,hpn,SL,hst⟩,E,by rw[hF q O,aj E];rfl,λk M hkq=>?_,?_⟩
 ·have hFk:FF (w.aF (G q).o q (uq w (G q).o q tg)) G k=FF w G k:=by rw[hF k M,ah hkq]
  refine⟨hFk,λRk=>⟨?_,Rk.di⟩,?_⟩
  ·rw[XM hu ho (C.rm.qi k M).o5,ah (λc=>hkq c.2)];exact Rk.rl
  rw[hFk];have hv:vq (w.aF (G q).o q (uq w (G q).o q tg)) k=vq w k:=by
   funext j
   unfold vq;by_cases e:j=(G q).o
   ·subst e;rw[Z k _ ho,ah (λc=>hkq c.2)]
   rw[show(w.aF (G q).o q (uq w (G q).o q tg)).au j=w.au j from Ph e]
  rw[hv]
 rw[hF q O,aj E,hR0];have hG2:(uq w (G q).o q tg).JU=(G q).G:=b3;have e0:vq (w.aF (G q).o q (uq w (G q).o q tg)) q (G q).o=uq w (G q).o q tg:=by
  unfold vq;rw[Z q _ ho,aj ⟨E,E⟩]
 have hold:∀j,j<5->pJ ⟨(G q).m,(G q).own,1,tg⟩ (vq (w.aF (G q).o q (uq w (G q).o q tg)) q) j=pJ ⟨(G q).m,(G q).own,0,(vw w q (G q).o).tg⟩ (vq w q) j:=λj J=>by
  unfold pJ;dsimp only;by_cases e:j=(G q).o
  ·rw[ah (λc=>c.1 e),ah (λc=>c.1 e)]
  have:vq (w.aF (G q).o q (uq w (G q).o q tg)) q j=vq w q j:=by
   unfold vq;rw[Z q j J,ah (λc=>e c.1)]
  rw[this]
 have h5:o5 (pJ ⟨(G q).m,(G q).own,1,tg⟩ (vq (w.aF (G q).o q (uq w (G q).o q tg)) q))=o5 (pJ ⟨(G q).m,(G q).own,0,(vw w q (G q).o).tg⟩ (vq w q)):=Cz hold;have e1:vq (w.aF (G q).o q (uq w (G q).o q tg)) q ((G q).own (G q).m)=uq w (G q).o q tg:=e0;have hl:(uq w (G q).o q tg).JU.length=(G q).G.length:=by rw[hG2]
 have r1:ZE ⟨(G q).m,(G q).own,1,tg⟩ (vq (w.aF (G q).o q (uq w (G q).o q tg)) q ((G q).own (G q).m)) (vq (w.aF (G q).o q (uq w (G q).o q tg)) q tg.toNat)<=(G q).G.length+5:=by
  rw[e1];unfold ZE;rw[aj E,hl]
  split<;>omega
 have r2:O6 ⟨(G q).m,(G q).own,1,tg⟩ (w.off.at q).Pf=O6 ⟨(G q).m,(G q).own,0,(vw w q (G q).o).tg⟩ (w.off.at q).Pf:=rfl;rw[show(uq w (G q).o q tg).tg=tg from E];unfold pE;rw[h5];refine fG (Nat.add_le_add_right (Nat.add_le_add_right r1 _) _) ?_;rw[show O6 ⟨(G q).m,(G q).own,1,tg⟩ (w.off.at q).Pf=O6 ⟨(G q).m,(G q).own,0,(vw w q (G q).o).tg⟩ (w.off.at q).Pf from r2];omega
def av4{kk:Nat}(I:∀q,q<2->LW m q (G q) k)(hv:Vd m){T S fP K:Nat}(hb:eF m T S fP K)(J:∀n,n<5->(m.au n).up=true)(hk:k<=kk)(hc:m.cw<=kk)(hkk:kk<=127):Rm m G (460*kk+28244):=by
 refine⟨J,hv,λq h=>(I q h).qi,λn hn=>?_,λq h=>?_⟩
 ·obtain⟨rs,us,O⟩:=(hb.jO n hn).xV (J n hn);have hd:=(I 0 (by decide)).data n hn;have hw:=aAF (m:=m) (F:=FF m G);have Z:∀q,q<2->fi (FF m G q) n (qK (m.au n) q)<=46*(kk+3)+13984:=λq h=>by
   have hvb:aA (qK (m.au n) q)=0:=by
    cases hp:(m.au n).PL with
    |none=>rw[jP hp];exact O.nE q (by omega)
    |some p=>
     obtain⟨_,h2,h3⟩:=O.JD p hp;by_cases e:p.q=q
     ·rw[q9 hp e];exact(jI O.tape O.nE h2 h3).2
     rw[Ba hp e];exact O.nE q (by omega)
   have hs:=gH hvb;unfold bP at hs;have h1:=aBq (n:=n) (F:=FF m G q) (b:=qK (m.au n) q) (by omega) aq5;have h2:=(I q h).qi.aax;have h3:=(I q h).SA;have h4:(FF m G q).M=(G q).m:=rfl;omega
  have h0:=Z 0 (by decide);have h1:=Z 1 (by decide);unfold Dv;omega
 have h1:=(I q h).SA;have h2:=aBp (m:=m);have h3:(FF m G q).R<=1:=aq5;omega
def nI.mle{F F':Wy}(h:nI F F'):F.M<=F'.M:=by
 rcases h with h|h
 ·have:=h.1;omega
 have:=h.1;omega
def ad2(R:Rm m G B)(M:B+46<=100000)(O:Bn m):∀i,i<=5-> ∃G',Rm (m.dI i) G' B/\YY (m.dI i) G'<=YY m G
 | 0,_=>⟨G,R,aB⟩
 |i+1,hi=>by
  obtain⟨G1,J,y1⟩:=ad2 R M O i (by omega);obtain⟨T,S,fP,K,h⟩:=sW O i (by omega);obtain⟨G2,Z,W⟩:=ao6 J M h (n:=i) (by omega);exact⟨G2,Z,fG (adY (λq I=>J.qi q I) (λq I=>Z.qi q I) (λq I=>(W q I).mle) J.vd h (by omega)) y1⟩
def ara(R:Rm m G B)(M:B+46<=100000)(O:Bn m):∀T,∃G',Rm (m.rs T) G' B/\Bn (m.rs T)/\YY (m.rs T) G'<=YY m G
 | 0=>⟨G,R,O,aB⟩
 |T+1=>by
  obtain⟨G1,R1,b1,y1⟩:=ara R M O T;obtain⟨G2,I,y2⟩:=ad2 R1 M b1 5 aB;have b2:=sW b1 5 aB;obtain⟨T',S,fP,K,h⟩:=b2;obtain⟨Z,F3⟩:=SN I h;refine⟨G2,Z,Bn.asO ⟨_,_,_,_,h⟩,fG (fG ?_ y2) y1⟩;have:=JQ (m:=(m.rs T).dI 5) (m':=((m.rs T).dI 5).all) (G:=G2) (G':=G2) (k:=0) (d:=0) (u:=0) (λq J=>by have:=BH (I.qi q J) (Z.qi q J) aB (Ms (I.qi q J) h.nT (by omega)).2;omega) (by decide) (by
   have hc:=aiT h.nT;have hdn:((m.rs T).dI 5).all.K7=((m.rs T).dI 5).K7:=Dw λj _=>by obtain⟨ib,e⟩:=vN ((m.rs T).dI 5) j;rw[e]
   omega)
  exact this
structure Ends (w x:Cl)(G G2:Nat->Gh)(q:Nat):Prop where
 rest:Rest x G2 q
 lt:(G2 q).o<5
 stay:(FF w G q).R=0->(G2 q).o=(G q).o/\(G2 q).m=(G q).m
 went:(FF w G q).R=1->((G2 q).o:Int)=(FF w G q).tg/\(G2 q).m=(G q).m+1
def Calm.ends(C:Calm w G B)(O:B+46<=100000)(hp:8*(pE (FF w G 0) (w.off.at 0).Pf (vq w 0)+pE (FF w G 1) (w.off.at 1).Pf (vq w 1))+9<=T):∃G2,Vl w (w.rs T) G G2 B/\ ∀q,q<2->Ends w (w.rs T) G G2 q:=by
 have hz:ZZ w (FF w G)+9<=T:=by
  have h5:(o5 λj=>tV (w.au j).PL)=0:=by
   unfold o5;dsimp only;rw[C.pn 0 (by decide),C.pn 1 (by decide),C.pn 2 (by decide),C.pn 3 (by decide),C.pn 4 (by decide)];rfl
  have:=C.eB;have:=C.st;unfold ZZ PP;omega
 obtain⟨G2,Z⟩:=azc O C.rm C.bn C.su hz;refine⟨G2,Z,λq I=>?_⟩;have R:=Z.rest I;have J:=Z.le q I;have hR2:(FF (w.rs T) G2 q).R=0:=by
  unfold FF zI;exact aj R.rl
 have hM:(FF w G q).M=(G q).m:=rfl;have h:(FF (w.rs T) G2 q).M=(G2 q).m:=rfl;refine⟨R,(Z.rm.qi q I).o5,λh0=>?_,λh1=>?_⟩
 ·rcases J with⟨a,b,c,d⟩|⟨a,b,c,d,e⟩
  ·refine⟨?_,by omega⟩;have:=b (G q).m aB
   show(G2 q).own (G2 q).m=(G q).own (G q).m
   rw[<-h,a,hM];exact this
  omega
 rcases J with⟨a,b,c,d⟩|⟨a,b,c,d,e⟩
 ·omega
 refine⟨?_,by omega⟩
 show((G2 q).own (G2 q).m:Int)=_
 rw[<-h,a];exact c
def Vl.moves(Z:Vl m w G G' B)(hB:B+14146<=100000)(J:q<2)(h0:0<=tg)(h4:tg<=4)(M:tg≠((G' q).o:Nat))(hG:(G' q).G.length<=290)(hT:8*((G' q).G.length+5)+9<=T):
 ∃G2,Vl (w.move q tg) ((w.move q tg).rs T) G' G2 (B+14100)/\(G2 q).o=tg.toNat/\(G2 q).m=(G' q).m+1/\ ∀k,k<2->k≠q->(G2 k).o=(G' k).o/\(G2 k).m=(G' k).m:=by
 have C:=Z.calm;have R:=Z.rest J;obtain⟨C1,I,O,hk,hp⟩:=C.drain R J h0 h4 M hG;have hz:=Z.zz;unfold ZZ PP at hz;have h01:q=0\/q=1:=by omega
 obtain⟨G2,Z2,hE⟩:=C1.ends (T:=T) (by omega) (by
  rw[I]
  rcases h01 with rfl|rfl
  ·have h1:=(hk 1 (by decide) (by decide)).2.2;omega
  have h1:=(hk 0 (by decide) (by decide)).2.2;omega)
 refine⟨G2,Z2,?_,?_,λk h hkq=>?_⟩
 ·have:=((hE q J).went (by rw[O])).1;rw[O]at this;dsimp only at this;omega
 ·exact((hE q J).went (by rw[O])).2
 refine(hE k h).stay ?_;rw[(hk k h hkq).1];unfold FF zI;exact aj (Z.rest h).rl
structure Sc (m:Cl)(G:Nat->Gh)(k:Nat):Prop where
 lw:∀q,q<2->LW m q (G q) k
 vd:Vd m
 bs:Bs m k
 su:Su m
 up:∀n,n<5->(m.au n).up=true
def Nh{m':Cl}(h:∀q,q<2->LW m q (G q) k)(J:∀q,q<2-> ∃g',QI m' q g'/\rG (G q) g')(M:∀n,n<5->(m'.au n).data.length<=(m.au n).data.length+184):∃G':Nat->Gh,∀q,q<2->LW m' q (G' q) (k+1)/\(G q).m<=(G' q).m:=
 ahq (Q:=λq g'=>LW m' q g' (k+1)/\(G q).m<=g'.m) λq I=>by
  obtain⟨g',I',N⟩:=J q I;exact⟨g',⟨I',by have:=N.SA;have:=(h q I).SA;omega,λn hn=>by have:=M n hn;have:=(h q I).data n hn;omega⟩,N.m⟩
def av5(S:Sc m G k)(ha:Ko ac)(h1:ac.kd≠1)(h8:ac.kd≠8/\ac.kd≠9)(hqu:ac.qu<2)(hk:k<=540):∃G',Sc (m.UN ac) G' (k+1)/\YY (m.UN ac) G'<=YY m G+yA ac:=by
 have hB:=S.bs;have hQ:=λq hq=>(S.lw q hq).qi;have hbs:=M7 S.bs ha (by omega);obtain⟨a1,a2,a3,a4,a5,a6⟩:=ha;have hn:ac.nd.toNat<5:=by omega
 unfold Cl.UN at hbs⊢;rw[ah h1]at hbs⊢;by_cases h2:ac.kd=2
 ·rw[aj h2]at hbs⊢;obtain⟨G',hG⟩:=Nh (m':={m with PI:=m.PI++[ze ac.nd ac.qu.toNat ac.op m.calls],calls:=m.calls+1}) S.lw (λq hq=>⟨G q,(aky (hQ q hq) E).1,.refl _⟩) λn _=>nM _ _;refine⟨G',⟨λq hq=>(hG q hq).1,S.vd.au E (uK (x:=ze ac.nd ac.qu.toNat ac.op m.calls) (by show ac.qu.toNat<2;omega)),hbs,⟨S.su.jO,S.su.two,S.su.tre⟩,S.up⟩,?_⟩;refine JQ (k:=0) (d:=0) (λq hq=>by have:=BH (hQ q hq) (hG q hq).1.qi (hG q hq).2 E;omega) (by decide) ?_;rw[asR (.inl h2)];have:({m with PI:=m.PI++[ze ac.nd ac.qu.toNat ac.op m.calls],calls:=m.calls+1}:Cl).c0<=m.c0+1:=by
   have:=aiS (ze ac.nd ac.qu.toNat ac.op m.calls);unfold Cl.c0 Cl.ws;dsimp only;rw[yg,NS];omega
  have hdn:({m with PI:=m.PI++[ze ac.nd ac.qu.toNat ac.op m.calls],calls:=m.calls+1}:Cl).K7=m.K7:=rfl;omega
 rw[ah h2]at hbs⊢;by_cases h3:ac.kd=3
 ·rw[aj h3]at hbs⊢;obtain⟨G',hG⟩:=Nh (m':=m.step ac.nd.toNat) S.lw (λq hq=>by
   obtain⟨⟨g',I2,N2,s2⟩,d2⟩:=Xm (hQ q hq) hB hn (by have:=(S.lw q hq).data _ hn;omega) (by have:=(S.lw q hq).SA;omega);exact⟨g',I2,N2⟩) λj hj=>by
   by_cases e:j=ac.nd.toNat
   ·rw[e];exact(Xm (hQ 0 (by decide)) hB hn (by have:=(S.lw 0 (by decide)).data _ hn;omega) (by have:=(S.lw 0 (by decide)).SA;omega)).2
   rw[pI hB hn e];exact nM _ _
  refine⟨G',⟨λq hq=>(hG q hq).1,ady S.vd hB hn,hbs,Uq (λq hq=>⟨_,hQ q hq⟩) S.vd hB hn S.su,λj hj=>?_⟩,fG (adY hQ (λq hq=>(hG q hq).1.qi) (λq hq=>(hG q hq).2) S.vd hB hn) (nM _ _)⟩;by_cases e:j=ac.nd.toNat
  ·rw[e];exact(adX hB hn (S.up _ hn)).2.2
  rw[pI hB hn e];exact S.up j hj
 rw[ah h3]at hbs⊢;by_cases h4:ac.kd=4\/ac.kd=5\/ac.kd=6
 ·rw[aj h4]at hbs⊢;have hup:∀j,((m.pick ac.at_.toNat (decide (ac.kd≠5)) (decide (ac.kd=6))).au j).up=(m.au j).up:=λj=>by
   unfold Cl.pick
   split
   ·rfl
   dsimp only
   split
   ·rename_i l hl _
    obtain⟨ib,e⟩:=Eb (if decide (ac.kd=6)=true then m else{m with PI:=m.PI.eraseIdx (ac.at_.toNat % m.PI.length)}:Cl) l j;rw[e]
    split<;>rfl
   split<;>rfl
  obtain⟨G',hG⟩:=Nh (m':=m.pick ac.at_.toNat (decide (ac.kd≠5)) (decide (ac.kd=6))) S.lw (λq hq=>⟨G q,(Xo (hQ q hq) hB.nT (by omega)).1,.refl _⟩) λn _=>by rw[agp];exact nM _ _
  refine⟨G',⟨λq hq=>(hG q hq).1,ao4 S.vd hB.nT,hbs,?_,λj hj=>by rw[hup];exact S.up j hj⟩,?_⟩
  ·unfold Cl.pick
   split
   ·exact S.su
   rename_i l hl
   have hs:Su (if decide (ac.kd=6)=true then m else{m with PI:=m.PI.eraseIdx (ac.at_.toNat % m.PI.length)}:Cl):=by
    split
    ·exact S.su
    exact⟨S.su.jO,S.su.two,S.su.tre⟩
   dsimp only
   split
   ·exact adP hs (S.vd.PI l (jm hl))
   exact hs
  refine JQ (k:=0) (d:=0) (λq hq=>by have:=BH (hQ q hq) (hG q hq).1.qi (hG q hq).2 (Xo (hQ q hq) hB.nT (by omega)).2;omega) (by decide) ?_;have hc:=apE (w:=m) (at_:=ac.at_.toNat) (c:=decide (ac.kd≠5)) (s:=decide (ac.kd=6)) hB.nT;have hdn:(m.pick ac.at_.toNat (decide (ac.kd≠5)) (decide (ac.kd=6))).K7=m.K7:=Dw λj _=>hup j;by_cases h6:ac.kd=6
  ·rw[asR (.inr (.inl h6))]
   split at hc<;>omega
  rw[ah (by simpa using h6)]at hc;omega
 rw[ah h4]at hbs⊢;by_cases h7:ac.kd=7
 ·rw[aj h7]at hbs⊢;obtain⟨G',hG⟩:=Nh (m':=m.all) S.lw (λq hq=>⟨G q,(Ms (hQ q hq) hB.nT (by omega)).1,.refl _⟩) λn _=>by unfold Cl.all;rw[O4];exact nM _ _
  have hup:∀j,(m.all.au j).up=(m.au j).up:=λj=>by obtain⟨ib,e⟩:=vN m j;rw[e]
  refine⟨G',⟨λq hq=>(hG q hq).1,SI S.vd hB.nT,hbs,ZF S.su S.vd,λj hj=>by rw[hup];exact S.up j hj⟩,?_⟩;refine JQ (k:=0) (d:=0) (λq hq=>by have:=BH (hQ q hq) (hG q hq).1.qi (hG q hq).2 (Ms (hQ q hq) hB.nT (by omega)).2;omega) (by decide) ?_;have hc:=aiT hB.nT;have hdn:m.all.K7=m.K7:=Dw λj _=>hup j;omega
 rw[ah h7,ah h8.1,ah h8.2]at hbs⊢;have hqn:ac.qu.toNat<2:=by omega
 obtain⟨G',hG⟩:=Nh (m':=m.move ac.qu.toNat ac.nd) S.lw (λq hq=>⟨G q,(I5 (hQ q hq) hB (by omega) (by omega)).1,.refl _⟩) λn _=>by rw[(I5 (hQ 0 (by decide)) hB (by omega) (by decide)).2.2 n];exact nM _ _
 refine⟨G',⟨λq hq=>(hG q hq).1,adA S.vd hqn,hbs,?_,λj hj=>?_⟩,?_⟩
 ·unfold Cl.move
  split
  ·exact S.su
  split
  ·rename_i hg
   refine S.su.at_ (n:=(aN m.off ac.qu.toNat).1.node.toNat) (λj hj=>Ph hj) E ?_;by_cases c:(aN m.off ac.qu.toNat).1.node.toNat<5
   ·rw[show(m.aF (aN m.off ac.qu.toNat).1.node.toNat ac.qu.toNat _).au (aN m.off ac.qu.toNat).1.node.toNat=_ from bL _];exact BG (S.su.jO _ c) E E λc2=>av c2 (by rw[adZ hg.1];decide)
   intro q hq hs hr
   exfalso
   have hw:(aN m.off ac.qu.toNat).2=0:=MK λe=>by rename_i h0;exact h0 (.inl e)
   have:=(qd (d:=m.off) (q:=ac.qu.toNat) (λe=>e hw)).1;omega
  exact S.su
 ·have hS:∀o b,((m.aF o ac.qu.toNat b).au j).up=(m.au j).up:=λo b=>by
   by_cases e:j=o
   ·rw[e,show(m.aF o ac.qu.toNat b).au o=(m.au o).aF ac.qu.toNat b from bL _];rfl
   rw[show(m.aF o ac.qu.toNat b).au j=m.au j from Ph e]
  unfold Cl.move
  split
  ·exact S.up j hj
  split
  ·rw[hS];exact S.up j hj
  exact S.up j hj
 rw[asR (.inr (.inr (.inr (by omega))))];exact apF hQ (λq hq=>(hG q hq).1.qi) (λq hq=>(hG q hq).2) hB hqn
def ad3:∀(l:List Ac) {m:Cl} {k:Nat} {G:Nat->Gh},Sc m G k->(∀a∈l,Ko a/\a.kd≠1/\(a.kd≠8/\a.kd≠9)/\a.qu<2)->k+l.length<=540->
  ∃G':Nat->Gh,Sc (m.run l) G' (k+l.length)/\YY (m.run l) G'<=YY m G+qC yA l/\(m.run l).cw+m.aS<=m.cw+(m.run l).aS+qC acW l/\(m.run l).tS<=m.tS+qC acS l
 |[],m,k,G,S,_,_=>⟨G,S,aB,aB,aB⟩
 |a::l,m,k,G,S,h,I=>by
  rw[mO]at I;obtain⟨a1,a2,a3,a4⟩:=h a iT;obtain⟨O,J,Z⟩:=av5 S a1 a2 a3 a4 (by omega);obtain⟨c1,t1⟩:=apH S.bs S.vd a1 a2;obtain⟨G2,S2,y2,c2,t2⟩:=ad3 l J (λx M=>h x (dZ _ M)) (by omega);rw[mO,show k+(l.length+1)=k+1+l.length by omega];refine⟨G2,S2,?_,?_,?_⟩
  ·show YY ((m.UN a).run l) G2<=_;rw[qC];omega
  ·show((m.UN a).run l).cw+_<=_+((m.UN a).run l).aS+_;rw[qC];omega
  show((m.UN a).run l).tS<=_;rw[qC];omega
def ag6(g:Gr):(iy g false).kd≠8/\(iy g false).kd≠9:=by
 unfold iy
 split
 ·unfold P7;exact⟨by show(2:Int)≠8;decide,by show(2:Int)≠9;decide⟩
 split
 ·exact⟨by show(3:Int)≠8;decide,by show(3:Int)≠9;decide⟩
 split
 ·exact⟨by show(4:Int)≠8;decide,by show(4:Int)≠9;decide⟩
 split
 ·exact⟨by show(5:Int)≠8;decide,by show(5:Int)≠9;decide⟩
 split
 ·exact⟨by show(6:Int)≠8;decide,by show(6:Int)≠9;decide⟩
 split
 ·exact⟨by show(10:Int)≠8;decide,by show(10:Int)≠9;decide⟩
 rw[ah (λc=>av c.2 (by decide)),ah (λc=>av c.2 (by decide))];exact⟨by show(7:Int)≠8;decide,by show(7:Int)≠9;decide⟩
def ab1{gs:List Gr}{M:Nat}(h:M<=80):∃m G G',Vl m (l9.run (kS (bE gs M false) (qB (bE gs M false)))) G G' (460*(M+7)+28244)/\8*((G' 0).G.length+(G' 1).G.length)+240<=qB (bE gs M false)+M:=by
 have e:l9.run (bE gs M false)=nH.run ((gs.take M).map (iy · false)):=by
  unfold bE
  show Cl.run ((l9.UN (agq 0 0)).UN (agq 1 1)) (((gs.take M).map (iy · false)))=_
  rw[aiD,aiE]
 have hl:((gs.take M).map (iy · false)).length<=M:=by rw[gK,dV];omega
 have I:∀a∈(gs.take M).map (iy · false),Ko a/\a.kd≠1/\(a.kd≠8/\a.kd≠9)/\a.qu<2:=λa O=>by
  obtain⟨g,_,rfl⟩:=nJ.1 O;exact⟨aqE (ZB g false).1,(ZB g false).2,ag6 g,aBr g false⟩
 obtain⟨G',S,y,c,t⟩:=ad3 _ (k:=2) (G:=g0) ⟨λq J=>aqL J,aAD,aqM,aBx,λn _=>(ahx n).1⟩ I (by omega);obtain⟨z1,z2,z3,z4⟩:=apJ;have hcw:=aiG _ aqM (λa O=>(I a O).1) (by omega);rw[<-e]at S y c t hcw;have hsum:=XL ((gs.take M).map (iy · false));have hen:qB (bE gs M false)=240+qC M5 ((gs.take M).map (iy · false)):=by
  unfold bE;rw[CU,vO];have:qC M5 mks=40:=by decide
  omega
 have R:=av4 (kk:=M+7) S.lw S.vd S.bs S.up (by omega) (by omega) (by omega);have hz:=aBu R;have O:=aBv (m:=l9.run (bE gs M false));obtain⟨G2,Z⟩:=azc (by omega) R ⟨_,_,_,_,S.bs⟩ S.su (T:=qB (bE gs M false)) (by omega);obtain⟨G3,R3,b3,y3⟩:=ara R (by omega) ⟨_,_,_,_,S.bs⟩ (qB (bE gs M false));have hyy:=apG (G:=G3) (G':=G2) (λq J=>R3.qi q J) (λq J=>Z.rm.qi q J);have er:l9.run (kS (bE gs M false) (qB (bE gs M false)))=(l9.run (bE gs M false)).rs (qB (bE gs M false)):=by
  have u:=Uu S.up 5 aB;rw[<-Oc];generalize bE gs M false=s at u⊢;unfold kS;unfold Cl.run at u⊢;rw[pR,pR,u]
 rw[er];refine⟨_,G',G2,Z,?_⟩;have hg:(G2 0).G.length+(G2 1).G.length<=YY ((l9.run (bE gs M false)).rs (qB (bE gs M false))) G2:=by
  unfold YY yq;omega
 omega
def mvA(t q:Nat):Ac:=⟨10,(t:Nat),(q:Nat),0,0,0,0,0,0,0,0⟩
def ad4:∀r,qC M5 (AY r)=0
 | 0=>rfl
 |r+1=>by
  rw[EO,vO,vO,ad4 r]
  decide
def ad5(s:List Ac)(r:Nat):qB (kS s r)=qB s:=by
 rw[CU,CU];unfold kS;rw[vO,vO,ad4];have:qC M5 (starts 5)=0:=by decide
 omega
def av7(t q:Nat):w.UN (mvA t q)=w.move q (t:Nat):=by
 unfold Cl.UN;rw[ah (by show(10:Int)≠1;decide),ah (by show(10:Int)≠2;decide),ah (by show(10:Int)≠3;decide),ah (by show ¬((10:Int)=4\/(10:Int)=5\/(10:Int)=6);decide),ah (by show(10:Int)≠7;decide),ah (by show(10:Int)≠8;decide),ah (by show(10:Int)≠9;decide)];rfl
def ak9{s:List Ac}{r:Nat}(h:∀n,n<5->((l9.run s).au n).up=true):l9.run (kS s r)=(l9.run s).rs r:=by
 have u:=Uu h 5 aB;rw[<-Oc];unfold kS;unfold Cl.run at u⊢;rw[pR,pR,u]
def alW(gone:Nat->Bool)(ps:List rz):Prop:=(ps.map (·.Qu)).Nodup/\ ∀p∈ps,∃j t:Nat,p.Qu=(j:Nat)/\j<2/\gone j=false/\p.to=(t:Nat)/\t<5
def ala{now:List Ld}{gone:Nat->Bool}{fr:Nat}{gap:Int}{i:Nat}(h:wants now gone fr gap i=true):gone i=false:=by
 unfold wants at h
 split at h
 ·simp at h;exact h.1
 cases h
def ad6:∀(k:Nat) (now:List Ld) (gone:Nat->Bool),now.map (·.Qu)=[0,1]->alW gone (sH 5 k now gone)
 | 0,now,gone,_=>⟨nodup_nil,λp h=>by cases h⟩
 |k+1,now,gone,hq=>by
  have hlen:now.length=2:=by have:=bM length hq;simpa using this
  rw[sH]
  cases hb:xk 5 now gone with
  |none=>exact⟨nodup_nil,λp h=>by cases h⟩
  |some b=>
   dsimp only;have hlt:=ac1 hb;have hs:=vT (wants now gone (qz 5 now) (xH 5 now)) (Fe now) now.length;have M:kW (wants now gone (qz 5 now) (xH 5 now)) (Fe now) now.length=some b:=hb;rw[M]at hs;have hg:=ala hs.2.2.1;have I:Bo now b=(b:Nat):=by
    have h1:(now.map (·.Qu))[b]? =[(0:Int),1][b]? :=by rw[hq]
    rw[qX]at h1;unfold Bo;have:b=0\/b=1:=by omega
    cases hx:now[b]? with
    |none=>rw[List.getElem?_eq_none_iff]at hx;omega
    |some x=>
     rw[hx]at h1
     rcases this with rfl|rfl
     ·exact wT h1
     exact wT h1
   have O:(oW now b (oI 5 now)).map (·.Qu)=[0,1]:=by
    rw[<-hq];refine ext_getElem? λi=>?_;rw[qX,qX,yu]
    cases now[i]? with
    |none=>rfl
    |some x=>simp only[Option.map_some];split<;>rfl
   obtain⟨i1,i2⟩:=ad6 k (oW now b (oI 5 now)) (λj=>decide (j=b) || gone j) O;refine⟨?_,λp h=>?_⟩
   ·rw[DC,Lm];refine⟨λhm=>?_,i1⟩;obtain⟨p,h,Z⟩:=nJ.1 hm;obtain⟨j,t,e1,_,J,_⟩:=i2 p h;have hjb:j=b:=by
     have:p.Qu=Bo now b:=Z;rw[I,e1]at this;omega
    rw[hjb]at J;simp at J
   rcases iR.1 h with rfl|h
   ·exact⟨b,oI 5 now,I,by omega,hg,E,BK _ 5 (by decide)⟩
   obtain⟨j,t,e1,J,e3,e4⟩:=i2 p h;refine⟨j,t,e1,J,?_,e4⟩;simp at e3;exact e3.2
def XQ:∀(m k:Nat) (now:List Ld) (gone:Nat->Bool),(sH m k now gone).length<=k
 |_,0,_,_=>aB
 |m,k+1,now,gone=>by
  rw[sH]
  cases h:xk m now gone with
  |none=>exact aC _
  |some b=>
   dsimp only;rw[mO];have:=XQ m k (oW now b (oI m now)) (λj=>decide (j=b) || gone j);omega
def Calm.room{B':Nat}(C:Calm w G B)(h:B<=B'):Calm w G B':=
 ⟨⟨C.rm.up,C.rm.vd,C.rm.qi,λn hn=>fG (C.rm.Dv n hn) h,C.rm.cap⟩,C.bn,C.su,C.pn,C.eB,C.st⟩
def Calm.one(C:Calm w G B)(R:Rest w G q)(h:q<2)(I:0<=tg)(J:tg<=4)(M:(G q).G.length<=290):
 Calm (w.move q tg) G (B+14100)/\(w.move q tg).off=w.off/\((FF (w.move q tg) G q).R=0/\((G q).o:Int)=tg\/(FF (w.move q tg) G q).R=1/\(FF (w.move q tg) G q).tg=tg)/\(∀k,k<2->k≠q->FF (w.move q tg) G k=FF w G k/\(Rest w G k->Rest (w.move q tg) G k)/\pE (FF (w.move q tg) G k) (w.off.at k).Pf (vq (w.move q tg) k)=pE (FF w G k) (w.off.at k).Pf (vq w k))/\
   pE (FF (w.move q tg) G q) (w.off.at q).Pf (vq (w.move q tg) q)<=pE (FF w G q) (w.off.at q).Pf (vq w q)+((G q).G.length+5):=by
 by_cases e:tg=((G q).o:Nat)
 ·rw[C.stay R h e];exact⟨C.room (by omega),E,.inl ⟨by unfold FF zI;exact aj R.rl,e.symm⟩,λk _ _=>⟨E,id,E⟩,nM _ _⟩
 obtain⟨a,b,c,d,f⟩:=C.drain R h I J e M;exact⟨a,b,.inr ⟨by rw[c],by rw[c]⟩,d,f⟩
def FC(p:rz):Ac:=⟨10,p.to,p.Qu,0,0,0,0,0,0,0,0⟩
def uw(ps:List rz)(q:Nat)(n:Int):Int:=ps.foldl (λn p=>if p.Qu=(q:Int)then p.to else n) n
structure aaz (w0 w':Cl)(G:Nat->Gh)(B:Nat)(done:List rz):Prop where
 C:Calm w' G (B+14100*done.length)
 off:w'.off=w0.off
 rest:∀q:Nat,q<2->(∀p∈done,p.Qu≠(q:Int))->Rest w' G q
 pz:∀q:Nat,q<2->(∀p∈done,p.Qu≠(q:Int))->pE (FF w' G q) (w0.off.at q).Pf (vq w' q)=0
 way:∀q:Nat,q<2->(FF w' G q).R=0/\uw done q ((G q).o:Nat)=((G q).o:Nat)\/(FF w' G q).R=1/\uw done q ((G q).o:Nat)=(FF w' G q).tg
 pq:∀q:Nat,q<2->pE (FF w' G q) (w0.off.at q).Pf (vq w' q)<=(G q).G.length+5
def Vl.aHS(Z:Vl m w G G' B):aaz w w G' B []:=by
 have I:∀q,q<2->pE (FF w G' q) (w.off.at q).Pf (vq w q)=0:=λq h=>by
  have I:=Z.zz;unfold ZZ PP at I;have:q=0\/q=1:=by omega
  rcases this with rfl|rfl<;>omega
 exact⟨Z.calm,E,λq h _=>Z.rest h,λq h _=>I q h,λq h=>.inl ⟨by unfold FF zI;exact aj (Z.rest h).rl,E⟩,λq h=>by rw[I q h];exact aC _⟩
def aaz.snoc{w0:Cl}{done:List rz}{p:rz}(S:aaz w0 w G B done){j t:Nat}(e1:p.Qu=(j:Nat))(Z:j<2)(e2:p.to=(t:Nat))(ht:t<5)(hn:∀r∈done,r.Qu≠(j:Int))(hG:∀q,q<2->(G q).G.length<=290):aaz w0 (w.UN (FC p)) G B (done++[p]):=by
 have ea:w.UN (FC p)=w.move j (t:Nat):=by
  have:FC p=mvA t j:=by unfold FC mvA;rw[e1,e2]
  rw[this,av7]
 rw[ea];have R:=S.rest j Z hn;obtain⟨c1,c2,c3,O,c5⟩:=S.C.one R Z (tg:=(t:Nat)) (by omega) (by omega) (hG j Z);have hw:∀q:Nat,uw (done++[p]) q ((G q).o:Nat)=if j=q then(t:Int)else uw done q ((G q).o:Nat):=λq=>by
  unfold uw;rw[pR]
  show(if p.Qu=(q:Int)then p.to else _)=_
  rw[e1,e2];by_cases e:j=q
  ·rw[aj e,aj (by rw[e])]
  rw[ah e,ah (by omega)]
 have J:∀q:Nat,(∀r∈done++[p],r.Qu≠(q:Int))->q≠j/\ ∀r∈done,r.Qu≠(q:Int):=λq h=>⟨λe=>h p (by simp) (by rw[e1,e]),λr hr=>h r (bO _ hr)⟩;rw[S.off]at O c5;refine⟨by rw[aY,lZ,Nat.mul_add,<-jT];exact c1,by rw[c2];exact S.off,λq I h=>?_,λq I h=>?_,λq I=>?_,λq I=>?_⟩
 ·obtain⟨h1,M⟩:=J q h;exact(O q I h1).2.1 (S.rest q I M)
 ·obtain⟨h1,M⟩:=J q h;rw[(O q I h1).2.2];exact S.pz q I M
 ·rw[hw];by_cases e:j=q
  ·subst e;rw[aj E]
   rcases c3 with⟨h1,M⟩|⟨h1,M⟩
   ·exact .inl ⟨h1,M.symm⟩
   exact .inr ⟨h1,M.symm⟩
  rw[ah e,(O q I (λc=>e c.symm)).1];exact S.way q I
 by_cases e:j=q
 ·subst e;rw[S.pz j Z hn]at c5;omega
 rw[(O q I (λc=>e c.symm)).2.2];exact S.pq q I
def XR:∀(ps done:List rz) {w0 w:Cl},aaz w0 w G B done->((done++ps).map (·.Qu)).Nodup->(∀p∈ps,∃j t:Nat,p.Qu=(j:Nat)/\j<2/\p.to=(t:Nat)/\t<5)->(∀q,q<2->(G q).G.length<=290)->aaz w0 (w.run (ps.map FC)) G B (done++ps)
 |[],done,w0,w,S,_,_,_=>by rw[bI];exact S
 |p::ps,done,w0,w,S,hn,J,M=>by
  obtain⟨j,t,O,Z,e3,e4⟩:=J p iT;have h:((done++[p]++ps).map (·.Qu)).Nodup:=by rw[gq,List.singleton_append];exact hn
  have hd:∀r∈done,r.Qu≠(j:Int):=λr I e=>by
   rw[gX,nodup_append]at hn;exact hn.2.2 r.Qu (TY I) p.Qu (by simp) (by rw[e,O])
  have:=XR ps (done++[p]) (S.snoc O Z e3 e4 hd M) h (λr I=>J r (dZ _ I)) M;rw[gq,List.singleton_append]at this;exact this
end
def ML:fA 32 0 0:=λ_ _ _=>kQ
def ad7:fA 49 0 0:=λ_ _ _=>kQ
def ad8:fA 49 2 2:=λ_ _ _=>kQ
def apK:fA 58 0 0:=λ_ _ _=>kQ
def aBz{n0 n1 I wb:Int}{ps:List rz}{b0:Nat}{w:World}(J:ps=sH 5 2 [⟨0,n0,I⟩,⟨1,n1,wb⟩] (λ_=>false))(M:jo [⟨0,n0,I⟩,⟨1,n1,wb⟩] 5=0)(h:Rd w w.heap.size 3 (some ⟨b0,0,none⟩) 2 [D 0,D n0,D I,D 1,D n1,D wb]):
 Calls prog 9 #[.slice (some ⟨b0,0,none⟩) 2 2,D 5,D 2] w (λe w'=> ∃A c,e=.returned (.tuple #[.slice A ps.length c,D 0])/\St w.heap.size w w' [.dB 3 A ps.length (ps.flatMap rz.cells)]):=by
 have H:=aej (some ⟨b0,0,none⟩) 2 [⟨0,n0,I⟩,⟨1,n1,wb⟩] 5 2 w h (by show 2<=maxLen;unfold maxLen;omega);have O:LG [⟨0,n0,I⟩,⟨1,n1,wb⟩] 5 2=(ps,0):=by
  unfold LG;rw[ah (λc=>c M),ah (λc=>c (by decide)),J];rfl
 rw[O]at H;exact H
def av8{ps:List rz}{k q:Nat}{p:rz}{n:Int}(h:ps[k]? =some p)(e:p.Qu=(q:Int)):uw (ps.take (k+1)) q n=p.to:=by
 unfold uw;rw[mQ,h,pR];exact aj e
def av9{ps:List rz}{k q:Nat}{p:rz}{n:Int}(h:ps[k]? =some p)(e:¬p.Qu=(q:Int)):uw (ps.take (k+1)) q n=uw (ps.take k) q n:=by
 unfold uw;rw[mQ,h,pR];exact ah e
def apL{ps:List rz}{i:Nat}{p:rz}(h:ps[i]? =some p):(ps.take i).map FC++[FC p]=(ps.take (i+1)).map FC:=by
 rw[mQ,h,gX];rfl
def ab2{gs:List Gr}{s F S2 X:List Ac}{ps:List rz}{A:Option Addr}{c:Nat}{a b:Int}{w:World}(hs:s=bE gs 60 false)(hF:F=kS s (qB s))(hX:X=kS S2 (qB S2))(hg:∀g∈gs,g.ok)(h0:∀a∈F,dK a=0)(h02:∀a∈X,dK a=0)(hsl:s.length<=1000)(hFl:F.length<=50000)(hSl:S2.length<=50010)(hXl:X.length<=100000)(hen:qB s<=50000)(aPs:qB S2<=50000)(hu:Uk w.heap.size w)(h:Rd w w.heap.size 5 A gs.length (gs.flatMap Gr.cells))(aHT:∀w,Calls prog 8 #[D a,D 100] w (λe w'=>e=.returned (D (aW a 100))/\w'=w))(aHU:∀w,Calls prog 8 #[D b,D 100] w (λe w'=>e=.returned (D (aW b 100))/\w'=w))(hst:(∀q:Nat,q<2-> ∃o:Nat,o<5/\((l9.run F).off.at q).node=(o:Int))/\jo [⟨0,((l9.run F).off.at 0).node,aW a 100⟩,⟨1,((l9.run F).off.at 1).node,aW b 100⟩] 5=0/\ps=sH 5 2 [⟨0,((l9.run F).off.at 0).node,aW a 100⟩,⟨1,((l9.run F).off.at 1).node,aW b 100⟩] (λ_=>false)/\ps.length<=2/\alW (λ_=>false) ps/\S2=F++ps.map FC/\ ∀q:Nat,q<2-> ∃o:Nat,o<5/\((l9.run X).off.at q).node=(o:Int)/\uw ps q ((l9.run F).off.at q).node=(o:Int)/\(((l9.run X).au o).view q).GR=1):
 Calls prog 3 #[.slice A gs.length c,D a,D b] w (λe w'=>e=.returned (.bool true)/\Below w.heap.size w w'):=by
 have S:=(St.start w).dG h;refine iW 138 func3 ?_;refine cw [0,1,2] ?_;refine zN 8 ?_;refine eB eQ (ak7 (m:=60) hs (by decide) hg _ ((St.rd 0 S E))) ?_;rintro _ w3 ⟨A1,c2,rfl,T5⟩;refine⟨_,E,?_⟩;have S4:=S.ext T5 E;change St _ _ _ [.own 55 11 (.slice A1 s.length c2) s.length ((s).flatMap Ac.cells),_]at S4;refine zN 7 ?_;refine Vm eQ S4 (Jz (by omega) _ (St.Vj 0 S4 E)) ?_;intro w6 S7;refine eB eQ (aiV (r:=qB s) hF (by omega) (by omega) _ ((St.Vj 0 S7 E))) ?_;rintro _ KM ⟨A9,c10,rfl,T13⟩;refine⟨_,E,?_⟩;have rA:=S7.ext T13 E;change St _ _ _ [.own 55 11 (.slice A9 F.length c10) F.length ((F).flatMap Ac.cells),_,_]at rA;refine zN 6 ?_;refine eB eQ (aq8 h0 (by omega) rA hu (Ro.own (jm (i:=0) E))) ?_;rintro _ OE ⟨x,L0,rfl,aHV,ku⟩;refine⟨_,E,?_⟩;have hX1:=aHV;have rX:=ku.perm (show(L0++([.own 55 11 (.slice A9 F.length c10) F.length ((F).flatMap Ac.cells),.own 55 11 (.slice A1 s.length c2) s.length ((s).flatMap Ac.cells),.rd 5 A gs.length ((gs).flatMap Gr.cells)]:List Nf)).Perm (([.own 55 11 (.slice A9 F.length c10) F.length ((F).flatMap Ac.cells),.own 55 11 (.slice A1 s.length c2) s.length ((s).flatMap Ac.cells),.rd 5 A gs.length ((gs).flatMap Gr.cells)]:List Nf)++(L0++[])) by rw[bI];exact Bv);change St _ _ _ ((.own 55 11 (.slice A9 F.length c10) F.length ((F).flatMap Ac.cells))::(.own 55 11 (.slice A1 s.length c2) s.length ((s).flatMap Ac.cells))::(.rd 5 A gs.length ((gs).flatMap Gr.cells))::(L0++[]))at rX;have aHW:∀f∈L0,f∈(L0++[]):=λf h=>bO _ h;refine zN 3 ?_;refine mE (V:=λb=>pV b 0) (row:= #[D 0,.bool false,.bool false,.bool false,.bool false,.bool false,D 0,D 0,D 0,D 0,D 0,D 0,D 0,D 0,.slice none 0 0,.slice none 0 0,.slice none 0 0,D 0]) (t:=37) rX (wn E) E E (jJ E (Tryz.zeroValue37 _) E) ?_;intro M J4 sU;refine stA 0 sU kQ ?_;intro Jm lY;refine zN 13 ?_;obtain⟨hpn,hlf,hps,hp2,hok,hS2,hwn⟩:=hst;obtain⟨o0,ho0,hn0⟩:=hpn 0 (by decide);obtain⟨o1,ho1,hn1⟩:=hpn 1 (by decide);rw[<-hX1.d]at hn0 hn1 hlf hps;have hm0:max x.d.p0.node 0=x.d.p0.node:=by have:x.d.p0.node=(o0:Int):=hn0;omega
 have hm1:max x.d.p1.node 0=x.d.p1.node:=by have:x.d.p1.node=(o1:Int):=hn1;omega
 refine zQ ?_;have rJ:=lY.drew;refine aO 20 rJ [] ?_;refine eH ?_;refine ak (v:=pV M 6) 1 E rJ (λ_ _=>rV _ ML) ?_;refine ak (v:=.pointer (some ⟨M,6+0*2,none⟩)) 2 E rJ (λ_ _=>(aQ E E E (fu 0 underlying30 kQ E (by decide)))) ?_;refine aP 2 ?_;refine ak (v:=D x.d.p0.node) 5 E rJ (λ_ _=>(lg (vs:=[D x.d.p0.node,D 0]) E ⟨E,E,trivial⟩ λ_=>by rw[ap3,hm0])) ?_;refine aP 2 ?_;refine ak (v:=pV M 6) 10 E rJ (λ_ _=>rV _ ML) ?_;refine ak (v:=.pointer (some ⟨M,6+1*2,none⟩)) 11 E rJ (λ_ _=>(aQ E E E (fu 1 underlying30 kQ E (by decide)))) ?_;refine aP 2 ?_;refine ak (v:=D x.d.p1.node) 14 E rJ (λ_ _=>(lg (vs:=[D x.d.p1.node,D 0]) E ⟨E,E,trivial⟩ λ_=>by rw[ap3,hm1])) ?_;refine eH ?_;refine bG 7 ?_;refine lN 7 E eQ (aHT _) ?_;rintro _ w38 ⟨rfl,rfl⟩;refine⟨_,E,?_⟩;refine eH ?_;refine ak (v:=.agg #[D 0,D x.d.p0.node,D (aW a 100)]) 8 E rJ (λ_ _=>iE) ?_;refine bG 16 ?_;refine lN 16 E eQ (aHU _) ?_;rintro _ w40 ⟨rfl,rfl⟩;refine⟨_,E,?_⟩;refine eH ?_;refine ak (v:=.agg #[D 1,D x.d.p1.node,D (aW b 100)]) 17 E rJ (λ_ _=>iE) ?_;refine bG 18 ?_;refine lH (i:=18) E E (V:=λb=>.slice (some ⟨b,0,none⟩) 2 2) (row:= #[D 0,D x.d.p0.node,D (aW a 100),D 1,D x.d.p1.node,D (aW b 100)]) (t:=42) rJ (wn E) E E (bq (vs:=[(0,.agg #[D 0,D x.d.p0.node,D (aW a 100)]),(1,.agg #[D 1,D x.d.p1.node,D (aW b 100)])]) E ⟨E,E,E,E,trivial⟩ (by kernel_rfl)) ?_;intro b42 w43 Fq;refine aP 3 ?_;refine zN 4 ?_;refine DF (wn E) E E (jK (vs:=[.slice (some ⟨b42,0,none⟩) 2 2,D 5,D 2]) E eQ ⟨E,E,E,trivial⟩) (aBz hps hlf (St.nO 0 Fq E E E)) ?_;rintro _ Zf ⟨O,WV,rfl,T50⟩;refine⟨_,E,?_⟩;have yT:=Fq.ext T50 E;change St _ _ _ ((.dB 3 O ps.length ((ps).flatMap rz.cells))::_::_::_::_::_::(L0++[]))at yT;refine zN 14 ?_;have yh:=yT.bg [5,4,1];refine fV (X:=Nat×Nat×(Option Addr)×Nat×(List Ac)) (λJ=>[(6,.bool false),(8,pV M 0),(11,.slice O ps.length WV),(12,D 0),(7,.slice J.2.2.1 J.2.1 J.2.2.2.1),(13,D (J.1:Int))]) (λJ wr=>(J.1<=ps.length)/\(J.2.1=F.length+J.1)/\(J.2.2.2.2=F++(ps.take J.1).map FC)/\St w.heap.size w wr ((.dB 3 O ps.length ((ps).flatMap rz.cells))::(.Pj M (oX x) 37)::(.own 55 11 (.slice J.2.2.1 J.2.1 J.2.2.2.1) J.2.1 ((J.2.2.2.2).flatMap Ac.cells))::(L0++[]))) (λJ=>ps.length-J.1) (0,F.length,A9,c10,F) ?_ ?_ ?_
 ·exact⟨aC _,E,(by simp),yh⟩
 ·exact⟨E,E,E,E,E,E,trivial⟩
 rintro⟨i,n,Ab,cb,ys⟩ w52 ⟨aHX,Mg,af4,Az⟩
 try dsimp only at aHX Mg af4 Az
 refine bK (l':=[(6,.bool false),(8,pV M 0),(11,.slice O ps.length WV),(12,D 0),(7,.slice Ab n cb),(13,D (i:Int))]) ⟨E,E,E,E,E,E,trivial⟩ (aX (aX (aH (vm ?_))));refine zQ ?_;refine vv (v:=D (ps.length:Int)) (lg (vs:=[.slice O ps.length WV]) E ⟨E,trivial⟩ λ_=>PO E Tryz.underlying44) ?_;by_cases h57:(i:Int)< (ps.length:Int)
 ·refine zN 8 ?_;obtain⟨Z,alX⟩:=GX i (St.dB 0 Az E) (by omega);obtain⟨pj,pt,hq1,hq2,_,hq3,hq4⟩:=hok.2 Z (jm alX);have Gf:=Az.drew;refine aO 15 Gf [2] ?_;refine aP 3 ?_;obtain⟨b64,o65,rfl⟩:=Rd.addr (St.dB 0 Gf E) (by omega);refine ak (v:=.pointer (some ⟨b64,o65+i*3,none⟩)) 3 E (St.del 2 Gf) (λ_ _=>(aQ E E E (jD i Tryz.underlying44 kQ (by omega) (by omega)))) ?_;refine ak (v:=.pointer (some ⟨b64,o65+i*3,none⟩)) 4 E (St.del 2 Gf) (λ_ _=>rV _ ad7) ?_;refine ak (v:=D Z.Qu) 5 E (St.del 2 Gf) (λ_ aHY=>(ay E E (qO underlying3 E (Rd.Qg (i:=0) (St.dB 0 aHY E) (dw (enc:=rz.cells) (sz:=3) (λ_=>E) alX E))))) ?_;refine aP 2 ?_;refine ak (v:=.pointer (some ⟨b64,o65+i*3,none⟩)) 8 E (St.del 2 Gf) (λ_ _=>(aQ E E E (jD i Tryz.underlying44 kQ (by omega) (by omega)))) ?_;refine ak (v:=.pointer (some ⟨b64,o65+i*3+2,none⟩)) 9 E (St.del 2 Gf) (λ_ _=>rV _ ad8) ?_;refine ak (v:=D Z.to) 10 E (St.del 2 Gf) (λ_ aHZ=>(ay E E (qO underlying3 E (Rd.Qg (i:=2) (St.dB 0 aHZ E) (dw (enc:=rz.cells) (sz:=3) (λ_=>E) alX E))))) ?_;refine ak (v:=.agg #[D 10,D Z.to,D Z.Qu,D 0,D 0,D 0,D 0,D 0,D 0,D 0,D 0]) 11 E (St.del 2 Gf) (λ_ _=>iE) ?_;refine bG 12 ?_;refine Im 12 E Gf ?_;intro b75 w76 Fj;refine eH ?_;refine bG 13 ?_;refine aec (i:=13) E E (news:=[D 10,D Z.to,D Z.Qu,D 0,D 0,D 0,D 0,D 0,D 0,D 0,D 0]) (xs':=(ys++[FC Z]).flatMap Ac.cells) 3 Fj (wn E) E E E E E E (St.nO (xs:=[D 10,D Z.to,D Z.Qu,D 0,D 0,D 0,D 0,D 0,D 0,D 0,D 0]) 0 Fj E E E) underlying23 Jf E (by decide) (dh E) (by simp only[maxLen];omega) (by omega) (jV (enc:=Ac.cells) (x:=FC Z) E E) ?_;intro A78 c79 w80 aPt aPu xJ;refine aP 3 ?_;refine zN 4 ?_;refine vv (v:=D ((i+1:Nat):Int)) jB ?_;refine zN 2 ?_;have Hw:=xJ.bg [0];refine bQ (i+1,n+1,A78,c79,ys++[FC Z]) ?_ ⟨E,E,E,E,E,E,trivial⟩ (by first|omega|(dsimp only;omega));exact⟨(by dsimp only;omega),(by dsimp only;omega),(by dsimp only;rw[af4,gq];exact bM _ (apL alX)),Hw⟩
 refine zN 10 ?_;obtain rfl:i=ps.length:=by omega
 obtain rfl:S2=ys:=by rw[hS2,af4,jy]
 have hnl:n=S2.length:=by rw[hS2,aY,gK];omega
 subst hnl;refine zN 3 ?_;refine Vm eQ Az (Jz (by omega) _ (St.Vj 2 Az E)) ?_;intro w86 Ga;refine eB eQ (aiV (r:=qB S2) hX (by omega) (by omega) _ ((St.Vj 2 Ga E))) ?_;rintro _ w91 ⟨A89,c90,rfl,T93⟩;refine⟨_,E,?_⟩;have AB:=Ga.ext T93 E;refine eB eQ (aq8 h02 (by omega) AB hu (Ro.own (jm (i:=0) E))) ?_;rintro _ w94 ⟨x2,L2,rfl,aH0,KV⟩;refine⟨_,E,?_⟩;have hX2:=aH0;have EG:=KV.perm (perm_append_comm_assoc L2 ([.own 55 11 (.slice A89 X.length c90) X.length ((X).flatMap Ac.cells),.dB 3 O ps.length ((ps).flatMap rz.cells),.Pj M (oX x) 37,.own 55 11 (.slice Ab S2.length cb) S2.length ((S2).flatMap Ac.cells)]:List Nf) (L0++[]));have asS:∀f∈L2,f∈(L2++(L0++[])):=λf h=>bO _ h;have hmL:∀f∈L0,f∈(L2++(L0++[])):=λf h=>aL _ (aHW f h);refine zN 3 ?_;refine mE (V:=λb=>pV b 0) (row:= #[D 0,.bool false,.bool false,.bool false,.bool false,.bool false,D 0,D 0,D 0,D 0,D 0,D 0,D 0,D 0,.slice none 0 0,.slice none 0 0,.slice none 0 0,D 0]) (t:=37) EG (wn E) E E (jJ E (Tryz.zeroValue37 _) E) ?_;intro b98 w99 xM;refine stA 0 xM kQ ?_;intro arC uz;refine zN 19 ?_;obtain⟨ps2,aPv,azf,aH1⟩:=hX2.ps;obtain⟨bA2,oA2,azg⟩:=Ie azf uz (Qw 5 E asS) (by decide);refine zN 5 ?_;have wV:=uz.bg [4,1];refine fV (X:=Nat) (λJ=>[(6,.bool false),(8,pV M 0),(11,.slice O ps.length WV),(14,pV b98 0),(16,D (J:Int))]) (λJ wr=>(J<=2)/\St w.heap.size w wr ((.Pj b98 (oX x2) 37)::(.dB 3 O ps.length ((ps).flatMap rz.cells))::(.Pj M (oX x) 37)::(L2++(L0++[])))) (λJ=>2-J) (0) ?_ ?_ ?_
 ·exact⟨aC _,wV⟩
 ·exact⟨E,E,E,E,E,trivial⟩
 rintro q arJ ⟨aBA,rD⟩
 try dsimp only at aBA rD
 refine bK (l':=[(6,.bool false),(8,pV M 0),(11,.slice O ps.length WV),(14,pV b98 0),(16,D (q:Int))]) ⟨E,E,E,E,E,trivial⟩ (aX (aX (aH (vm ?_))));by_cases ar6:(q:Int)<2
 ·refine zN 12 ?_;refine vv (rV 6 ML) ?_;refine vv (v:=.pointer (some ⟨M,6+q*2,none⟩)) (aQ E E E (fu q underlying30 kQ E (by omega))) ?_;refine zQ ?_;refine vv (v:=D ((x.d.at q).node)) (ay E E (qO underlying3 E (St.cl 2 rD E (aq7 (x:=x) (by omega) 0 _ E)))) ?_;refine zN 10 ?_;refine fV (X:=Nat×Int) (λJ=>[(6,.bool false),(8,pV M 0),(11,.slice O ps.length WV),(14,pV b98 0),(16,D (q:Int)),(17,D J.2),(18,D (J.1:Int))]) (λJ wr=>(J.1<=ps.length)/\(J.2=uw (ps.take J.1) q (x.d.at q).node)/\St w.heap.size w wr ((.Pj b98 (oX x2) 37)::(.dB 3 O ps.length ((ps).flatMap rz.cells))::(.Pj M (oX x) 37)::(L2++(L0++[])))) (λJ=>ps.length-J.1) (0,(x.d.at q).node) ?_ ?_ ?_
  ·exact⟨aC _,E,rD⟩
  ·exact⟨E,E,E,E,E,E,E,trivial⟩
  rintro⟨k,u⟩ arK ⟨aBB,ahy,I⟩
  try dsimp only at aBB ahy I
  refine bK (l':=[(6,.bool false),(8,pV M 0),(11,.slice O ps.length WV),(14,pV b98 0),(16,D (q:Int)),(17,D u),(18,D (k:Int))]) ⟨E,E,E,E,E,E,E,trivial⟩ (aX (aX (aH (vm ?_))));refine zQ ?_;refine vv (v:=D (ps.length:Int)) (lg (vs:=[.slice O ps.length WV]) E ⟨E,trivial⟩ λ_=>PO E Tryz.underlying44) ?_;by_cases h112:(k:Int)< (ps.length:Int)
  ·refine zN 12 ?_;obtain⟨azh,alY,rfl⟩:=Rd.addr (St.dB 1 I E) (by omega);obtain⟨x115,aaA⟩:=GX k (St.dB 1 I E) (by omega);refine vv (v:=.pointer (some ⟨azh,alY+k*3,none⟩)) (aQ E E E (jD k Tryz.underlying44 kQ (by omega) (by omega))) ?_;refine vv (rV (alY+k*3) ad7) ?_;refine vv (ay E E (qO underlying3 E (Rd.Qg (i:=0) (St.dB 1 I E) (dw (enc:=rz.cells) (sz:=3) (λ_=>E) aaA E)))) ?_;refine zQ ?_;by_cases azi:x115.Qu=(q:Int)
   ·refine zN 7 ?_;refine vv (v:=.pointer (some ⟨azh,alY+k*3,none⟩)) (aQ E E E (jD k Tryz.underlying44 kQ (by omega) (by omega))) ?_;refine vv (rV (alY+k*3+2) ad8) ?_;refine vv (ay E E (qO underlying3 E (Rd.Qg (i:=2) (St.dB 1 I E) (dw (enc:=rz.cells) (sz:=3) (λ_=>E) aaA E)))) ?_;refine zN 6 ?_;refine vv (v:=D ((k+1:Nat):Int)) jB ?_;refine zN 2 ?_;refine bQ (k+1,x115.to) ?_ ⟨E,E,E,E,E,E,E,trivial⟩ (by first|omega|(dsimp only;omega));exact⟨(by dsimp only;omega),(by dsimp only;rw[av8 aaA azi]),I⟩
   refine zN 9 ?_;refine vv (v:=D ((k+1:Nat):Int)) jB ?_;refine zN 2 ?_;refine bQ (k+1,u) ?_ ⟨E,E,E,E,E,E,E,trivial⟩ (by first|omega|(dsimp only;omega));exact⟨(by dsimp only;omega),(by dsimp only;rw[av9 aaA azi];exact ahy),I⟩
  refine zN 10 ?_;obtain⟨o,ho5,hn5,hw5,hr5⟩:=hwn q (by omega);rw[<-hX2.d]at hn5;rw[<-hX1.d]at hw5;have hu5:u=(o:Int):=by rw[ahy,jE (by omega)];exact hw5
  subst hu5;obtain⟨p2,azj⟩:∃p,ps2[o]? =some p:=⟨_,dJ (by omega)⟩;have azk:=aH1 _ _ azj;obtain⟨y2,hy2,aH2⟩:=aBw azk (q:=q) (by omega);rw[<-aH2]at hr5;refine zN 3 ?_;refine vv (rV 6 ML) ?_;refine vv (v:=.pointer (some ⟨b98,6+q*2,none⟩)) (aQ E E E (fu q underlying30 kQ E (by omega))) ?_;refine zQ ?_;refine vv (v:=D ((x2.d.at q).node)) (ay E E (qO underlying3 E (St.cl 0 I E (aq7 (x:=x2) (by omega) 0 _ E)))) ?_;refine zN 6 ?_;refine vg (v:=.pointer (some ⟨bA2,oA2+o*1,none⟩)) (aQ E E E (mJ o azg underlying33 kQ E (by omega))) ?_;refine vg (v:=.slice (some ⟨p2.1,0,none⟩) 4 4) (ay E E (qO Tryz.underlying59 E (BF azf azg I (Qw 3 E asS) (dw (enc:=lG) (sz:=1) (k:=o) (j:=0) (λ_=>E) azj E)))) ?_;refine zQ ?_;refine vg (v:=.pointer (some ⟨p2.1,0+q*6,none⟩)) (aQ E E E (jD q Tryz.underlying59 kQ E (by omega))) ?_;refine vg (v:=.pointer (some ⟨p2.1,0+q*6,none⟩)) (rV _ apK) ?_;refine vg (v:=D y2.b.GR) (ay E E (qO underlying3 E (BF azk.rd E I (Qw 3 E asS) (dw (enc:=BX.cells) (sz:=6) (k:=q) (j:=0) (λ_=>E) hy2 E)))) ?_;refine zN 10 ?_;refine vv (v:=D ((q+1:Nat):Int)) jB ?_;refine zN 2 ?_;refine bQ (q+1) ?_ ⟨E,E,E,E,E,trivial⟩ (by first|omega|(dsimp only;omega));exact⟨(by omega),I⟩
 refine zN 16 ?_;exact⟨E,rD.QM⟩
def ZI:∀ps:List rz,qC M5 (ps.map FC)=20*ps.length
 |[]=>rfl
 |p::ps=>by
  rw[DC,qC,ZI ps,mO];have:M5 (FC p)=20:=rfl;omega
def alb(s t:List Ac):l9.run (s++t)=(l9.run s).run t:=by
 unfold Cl.run;rw[pR]
def apM{gs:List Gr}{s F S2 X:List Ac}{ps:List rz}{a b:Int}(hs:s=bE gs 60 false)(hF:F=kS s (qB s))
  (I:ps=sH 5 2 [⟨0,((l9.run F).off.at 0).node,a⟩,⟨1,((l9.run F).off.at 1).node,b⟩] (λ_=>false)) (hS:S2=F++ps.map FC) (hX:X=kS S2 (qB S2)):
  (∀q:Nat,q<2-> ∃o:Nat,o<5/\((l9.run F).off.at q).node=(o:Nat))/\ps.length<=2/\alW (λ_=>false) ps/\
   ∀q:Nat,q<2-> ∃o:Nat,o<5/\((l9.run X).off.at q).node=(o:Nat)/\uw ps q ((l9.run F).off.at q).node=(o:Nat)/\(((l9.run X).au o).view q).GR=1:=by
 subst hs hF hX;obtain⟨m0,G,G1,Z,hen⟩:=ab1 (gs:=gs) (M:=60) (by decide);have hel:=Sj (bE gs 60 false);have hsl:=Tc gs 60 false;have eS:qB S2=qB (bE gs 60 false)+20*ps.length:=by
  rw[hS,CU,vO,ZI,<-jT,<-CU,ad5]
 rw[eS];have h:l9.run S2=(l9.run (kS (bE gs 60 false) (qB (bE gs 60 false)))).run (ps.map FC):=by rw[hS,alb]
 generalize l9.run (kS (bE gs 60 false) (qB (bE gs 60 false)))=w at Z I h⊢;have hp2:ps.length<=2:=by rw[I];exact XQ _ _ _ _
 have J:alW (λ_=>false) ps:=by rw[I];exact ad6 2 _ _ E
 have hG:∀q:Nat,q<2->(G1 q).G.length<=290:=λq O=>by
  have:q=0\/q=1:=by omega
  rcases this with rfl|rfl<;>omega
 have P:=XR ps [] Z.aHS J.1 (λp hp=>by
  obtain⟨j,t,e1,e2,_,e3,e4⟩:=J.2 p hp;exact⟨j,t,e1,e2,e3,e4⟩) hG
 rw[nil_append,<-h]at P;have hq0:=P.pq 0 (by decide);have hq1:=P.pq 1 (by decide);obtain⟨G2,Z2,hE⟩:=P.C.ends (T:=qB (bE gs 60 false)+20*ps.length) (by omega) (by rw[P.off];omega);refine⟨λq O=>⟨(G1 q).o,(Z.rm.qi q O).o5,by rw[(Z.rest O).di]⟩,hp2,J,λq O=>?_⟩;have l7:=hE q O;rw[ak9 P.C.rm.up];refine⟨(G2 q).o,l7.lt,by rw[l7.rest.di],?_,l7.rest.rl⟩;rw[(Z.rest O).di]
 rcases P.way q O with⟨h1,h2⟩|⟨h1,h2⟩
 ·rw[(l7.stay h1).1];exact h2
 rw[(l7.went h1).1];exact h2
def XT{W:World}{v:Value}(h:Uw prog W v 3):∃b:Int,v=.int .i64 b/\ -9223372036854775808<=b/\b<=9223372036854775807:=by
 obtain⟨⟨base,J⟩,l,I,M⟩:=h;rw[show flat prog 30 3=some [.at_ (.int .i64)]from kQ]at I
 cases I;obtain⟨b,rfl⟩:=okWide_int underlying3 J;obtain⟨z,O,hw⟩:=M.1
 cases O;exact⟨_,E,wf_i64 hw⟩
def alc{p:rz}(h:∃j t:Nat,p.Qu=(j:Nat)/\j<2/\(λ_=>false) j=false/\p.to=(t:Nat)/\t<5):dK (FC p)=0:=by
 obtain⟨j,t,I,Z,_,J,e4⟩:=h;have e:FC p=mvA t j:=by unfold FC mvA;rw[I,J]
 rw[e];have M:j=0\/j=1:=by omega
 have O:t=0\/t=1\/t=2\/t=3\/t=4:=by omega
 rcases M with rfl|rfl<;>rcases O with rfl|rfl|rfl|rfl|rfl<;>rfl
def Pd{l:List Ac}{r:Nat}(h:∀a∈l,dK a=0):∀a∈kS l r,dK a=0:=by
 intro a I;unfold kS at I;rw[gq]at I
 rcases bD.1 I with I|I
 ·exact h a I
 exact(agQ r a I).1
def ald{n0 n1 h wb:Int}(I:0<=n0/\n0<5)(h1:0<=n1/\n1<5)(J:0<=h/\h<100)(M:0<=wb/\wb<100):jo [⟨0,n0,h⟩,⟨1,n1,wb⟩] 5=0:=by
 refine KE (by decide) λk x hx=>?_
 match k,hx with
 | 0,hx=>
  obtain rfl:=wT hx;exact⟨by show(-1:Int)<0;decide,by show(0:Int)<4;decide,I.1,I.2,J.1,by show h<=_;omega⟩
 | 1,hx=>
  obtain rfl:=wT hx;exact⟨by show(0:Int)<1;decide,by show(1:Int)<4;decide,h1.1,h1.2,M.1,by show wb<=_;omega⟩
 |k+2,hx=>cases hx
def VJ(W:World)(hu:Uk W.heap.size W)(args:Array Value)(h:fI (Uw prog W) args.toList Tryz.f3.params.toList):
 Calls prog 3 args W λe W'=>e=.returned (.bool true)/\Below W.heap.size W W':=by
 rw[params3]at h;obtain⟨v,l1,hv,h1,h0⟩:=fI.yZ h;obtain⟨v2,l2,hv2,Z,h02⟩:=fI.yZ h0;obtain⟨v3,l3,hv3,h3,h03⟩:=fI.yZ h02;have h4:=fI.Ak h03;subst h4;obtain rfl:args= #[v,v2,v3]:=by cases args;simp_all
 obtain⟨A,c,gs,rfl,hr,hg⟩:=af9 h1;obtain⟨a,rfl,ha⟩:=XT Z;obtain⟨b,rfl,hb⟩:=XT h3;have hpa:=oO (n:=a) (m:=100) (by decide);have hpb:=oO (n:=b) (m:=100) (by decide);have HA:=λw=>lD (n:=a) (m:=100) ha (by decide) w;have HB:=λw=>lD (n:=b) (m:=100) hb (by decide) w;have hsl:=Tc gs 60 false;have hen:=Sj (bE gs 60 false);have hsf:=YW gs 60 false;have P:=λ(ps:List rz) (S2 X:List Ac) (h1:ps=_) (Z:S2=_) (h3:X=_)=>apM (gs:=gs) (a:=aW a 100) (b:=aW b 100) E E (ps:=ps) (S2:=S2) (X:=X) h1 Z h3;have hFl:(kS (bE gs 60 false) (qB (bE gs 60 false))).length<=20000:=by rw[NK];omega
 have hFe:=ad5 (bE gs 60 false) (qB (bE gs 60 false));have I:=Pd (r:=qB (bE gs 60 false)) hsf;obtain⟨ps,J⟩:∃ps,ps=sH 5 2 [⟨0,((l9.run (kS (bE gs 60 false) (qB (bE gs 60 false)))).off.at 0).node,aW a 100⟩,⟨1,((l9.run (kS (bE gs 60 false) (qB (bE gs 60 false)))).off.at 1).node,aW b 100⟩] (λ_=>false):=⟨_,E⟩;obtain⟨q1,q2,q3,q4⟩:=P ps _ _ J E E;have M:qB (kS (bE gs 60 false) (qB (bE gs 60 false))++ps.map FC)=qB (bE gs 60 false)+20*ps.length:=by
  rw[CU,vO,ZI,<-jT,<-CU,hFe]
 have hSf:∀x∈kS (bE gs 60 false) (qB (bE gs 60 false))++ps.map FC,dK x=0:=λx O=>by
  rcases bD.1 O with O|O
  ·exact I x O
  obtain⟨p,hp,rfl⟩:=nJ.1 O;exact alc (q3.2 p hp)
 have hSl:(kS (bE gs 60 false) (qB (bE gs 60 false))++ps.map FC).length<=20002:=by rw[aY,gK];omega
 obtain⟨o0,ho0,hn0⟩:=q1 0 (by decide);obtain⟨o1,ho1,hn1⟩:=q1 1 (by decide);have hlf:=ald (n0:=((l9.run (kS (bE gs 60 false) (qB (bE gs 60 false)))).off.at 0).node) (n1:=((l9.run (kS (bE gs 60 false) (qB (bE gs 60 false)))).off.at 1).node) (by omega) (by omega) hpa hpb;exact ab2 E E E hg I (Pd hSf) (by omega) (by omega) (by omega) (by rw[NK,M];omega) (by omega) (by rw[M];omega) hu hr HA HB ⟨q1,hlf,J,q2,q3,E,q4⟩
end Go.Proofs.YtceeleolddkibaaGreatDoor
