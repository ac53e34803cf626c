import Derived.Test.YtefabpdniidmbaaGreatDoorG3d7ca
import Derived.Test.YtefabpdniidmbaaGreatDoorG42cc2
import Derived.Test.YtefabpdniidmbaaGreatDoorGddccb
set_option linter.all false
set_option maxRecDepth 100000
set_option maxHeartbeats 8000000
namespace Go.Proofs.YtefabpdniidmbaaGreatDoor
open List Nat Go.Proofs.Tryz ChangeShapes WideShapes RowKit
section
variable {m w m':Cl}{n q k B d:Nat}{g g':Gh}{G G':Nat->Gh}{o:Nat}{tg:Int}{b:bC}{T:Nat}{ac:Ac}{t e:Nat}{l:bO}{F F':Wy}{X cO:Nd}{p:dh}{T0:List tZ}{ls new:List bO}{x:Cl}{r:Nat}{G1 G2:Nat->Gh}
def avF(cO:Cl)(n:Nat):cO.Ub (PG 3 (n:Int))=cO.step n:=by
 unfold Cl.Ub;rw[ah (by show(3:Int)≠1;decide),ah (by show(3:Int)≠2;decide),au (show(PG 3 (n:Int)).kd=3 from E)];rfl
def aoW(cO:Cl):cO.Ub (PG 7 0)=cO.all:=by
 unfold Cl.Ub;rw[ah (by show(7:Int)≠1;decide),ah (by show(7:Int)≠2;decide),ah (by show(7:Int)≠3;decide),ah (by show ¬((7:Int)=4\/(7:Int)=5\/(7:Int)=6);decide),au (show(PG 7 0).kd=7 from E)]
def Sn(cO:Cl):∀j,cO.run (steps j)=cO.cu j
 | 0=>rfl
 |j+1=>by
  rw[Og];unfold Cl.run;rw[uj];have:=Sn cO j;unfold Cl.run at this;rw[this]
  show Cl.Ub (cO.cu j) (PG 3 (j:Int))=(cO.cu j).step j
  exact avF _ _
def Nl(cO:Cl):∀r,cO.run (Am r)=cO.rs r
 | 0=>rfl
 |r+1=>by
  rw[Et];have h1:=Nl cO r;have h:=Sn (cO.rs r) 5;unfold Cl.run at h1 h⊢;rw[uj,uj,h1,h]
  show Cl.Ub ((cO.rs r).cu 5) (PG 7 0)=((cO.rs r).cu 5).all
  exact aoW _
def MB:∀l:List Ac,jA l=200+rF PL l
 |[]=>rfl
 |a::l=>by rw[jA,MB l,rF];omega
def Xj:∀l:List Ac,8*rF yA l+2*rF acW l+rF acS l<=rF PL l+l.length
 |[]=>aB
 |a::l=>by
  have h:=Xj l;have h1:8*yA a+2*acW a+acS a<=PL a+1:=by
   unfold yA acW acS PL
   split<;>split<;>split<;>split<;>omega
  rw[rF,rF,rF,rF,mV];omega
def aBm:Su nL:=by
 have h:∀n,(PN (PN lT.aj 0 (nK 0)) 1 (nK 1) n).PZ=(λ_=>false)/\(PN (PN lT.aj 0 (nK 0)) 1 (nK 1) n).PS=λ_=>nowhere:=λn=>by
  unfold PN
  split
  ·exact⟨E,E⟩
  split<;>exact⟨E,E⟩
 refine⟨λn _=>agn (h n).1 (h n).2 λq I=>?_,E,E⟩;have:q=0\/q=1:=by omega
 rcases this with rfl|rfl<;>decide
def agZ(n:Nat):(nL.aj n).up=true/\((nL.aj n).Mv=[]/\(nL.aj n).OO=none)/\(nL.aj n).turn=0:=by
 show(PN (PN lT.aj 0 (nK 0)) 1 (nK 1) n).up=true/\((PN (PN lT.aj 0 (nK 0)) 1 (nK 1) n).Mv=[]/\(PN (PN lT.aj 0 (nK 0)) 1 (nK 1) n).OO=none)/\(PN (PN lT.aj 0 (nK 0)) 1 (nK 1) n).turn=0
 unfold PN
 split
 ·exact⟨E,⟨E,E⟩,E⟩
 split<;>exact⟨E,⟨E,E⟩,E⟩
def aqw(Z:q<2):yq (vw nL q) (g0 q)=0:=by
 have I:=(ap4 Z).qi;have ho:(g0 q).o=q:=rfl;have ES:=I.ES;have vV:=I.vV;have M:∀n,vw nL q n=(nL.aj n).bs q:=λn=>iC (agZ n).1;have O:∀n,(nL.aj n).bs q=⟨1,1,0,0,0,[]⟩\/(nL.aj n).bs q=bX:=λn=>by
  show(PN (PN lT.aj 0 (nK 0)) 1 (nK 1) n).bs q=_\/(PN (PN lT.aj 0 (nK 0)) 1 (nK 1) n).bs q=_
  have mk:∀k,(nK k).bs q=⟨1,1,0,0,0,[]⟩\/(nK k).bs q=bX:=λk=>by
   show PN (λ_=>bX) k ⟨1,1,0,0,0,[]⟩ q=_\/PN (λ_=>bX) k ⟨1,1,0,0,0,[]⟩ q=_
   unfold PN
   split
   ·exact .inl E
   exact .inr E
  unfold PN
  split
  ·exact mk 1
  split
  ·exact mk 0
  exact .inr E
 have hr:(vw nL q (g0 q).o).F9=1:=by
  rw[M]at ES⊢
  rcases O (g0 q).o with h|h
  ·rw[h]
  rw[h]at ES;exact av ES dQ
 have J:∀n,yo (vw nL q) (g0 q) n=0:=λn=>by
  unfold yo;rw[ah];rintro⟨_,c⟩;rw[M]at c
  rcases O n with h|h<;>rw[h]at c<;>exact av c dQ
 unfold yq o5;rw[J,J,J,J,J,au hr];rfl
def aoX:YY nL g0=0/\nL.cw=0/\nL.aS=0/\nL.tS=0:=by
 have v:=agZ;refine⟨?_,?_,?_,?_⟩
 ·unfold YY Cl.c0 Cl.ws Cl.Jk o5;dsimp only;rw[aqw (q:=0) dQ,aqw (q:=1) dQ];rw[(v 0).1,(v 1).1,(v 2).1,(v 3).1,(v 4).1,(v 0).2.1.1,(v 1).2.1.1,(v 2).2.1.1,(v 3).2.1.1,(v 4).2.1.1,(v 0).2.1.2,(v 1).2.1.2,(v 2).2.1.2,(v 3).2.1.2,(v 4).2.1.2];rfl
 ·unfold Cl.cw tX;rw[(v 0).2.1.1,(v 1).2.1.1,(v 2).2.1.1,(v 3).2.1.1,(v 4).2.1.1,(v 0).2.1.2,(v 1).2.1.2,(v 2).2.1.2,(v 3).2.1.2,(v 4).2.1.2];rfl
 ·unfold Cl.aS o5;dsimp only;rw[(v 0).2.2,(v 1).2.2,(v 2).2.2,(v 3).2.2,(v 4).2.2];rfl
 unfold Cl.tS o5;dsimp only;rw[(v 0).2.2,(v 1).2.2,(v 2).2.2,(v 3).2.2,(v 4).2.2]
def UA.fair(Z:UA m w G G' B)(hn:n<5)(hq:q<2):¬((vw w q n).F9=2\/(vw w q n).F9=3)/\((vw w q n).F9=1->(w.off.at q).node=n/\(w.off.at q).ME=(vw w q n).ep)/\((w.off.at q).node=n->(vw w q n).F9=1):=by
 have I:=Z.rm.qi q hq;have hz:=Z.zz;have O:(o5 λj=>sK (w.aj j).OO)=0:=by unfold ZZ at hz;omega
 have hP:qQ (FF w G' q) (w.off.at q).ME (vq w q)=0:=by
  have h01:q=0\/q=1:=by omega
  unfold ZZ PP at hz
  rcases h01 with rfl|rfl<;>omega
 have hp:∀j,j<5->(w.aj j).OO=none:=λj J=>by
  have h0:sK (w.aj j).OO=0:=by
   unfold o5 at O;dsimp only at O
   rcases five J with rfl|rfl|rfl|rfl|rfl<;>omega
  cases e:(w.aj j).OO with
  |none=>rfl
  |some p=>rw[e]at h0;exact av h0 (by show(1:Nat)≠0;decide)
 have hvq:∀j,j<5->vq w q j=vw w q j:=λj J=>by unfold vq;rw[jV (hp j J),iC (Z.rm.up j J)]
 have hR:(vw w q (G' q).o).F9=1:=GA λc=>by
  have:(FF w G' q).R=1:=ah c;unfold qQ Zg at hP;rw[au this]at hP;omega
 have hd:(w.off.at q).ME=((G' q).m:Int):=GA λc=>by
  have:Om (FF w G' q) (w.off.at q).ME=1:=ah c;unfold qQ at hP;omega
 have hol:∀j,j<5->j≠(G' q).o->(vw w q j).F9≠3:=λj J hjo c=>by
  have h1:pI (FF w G' q) (vq w q) j=1:=au ⟨hjo,by rw[hvq j J];exact c⟩;unfold qQ o5 at hP
  rcases five J with rfl|rfl|rfl|rfl|rfl<;>omega
 obtain⟨d,d1,d2,d3⟩:=I.dir;have hdm:d=(G' q).m:=by rw[d1]at hd;dsimp only at hd;omega
 have M:(w.off.at q).node=(((G' q).o:Nat):Int):=by rw[d1,hdm];rfl
 have aH1:=I.vV;by_cases c:n=(G' q).o
 ·subst c;exact⟨by omega,λ_=>⟨M,by rw[hd,aH1]⟩,λ_=>hR⟩
 have h3:=hol n hn c;refine⟨?_,λh=>av (I.who hn (.inl h)) c,λh=>av Y c⟩;rintro(h|h)
 ·exact c (I.who hn (.inr h))
 exact h3 h
structure Calm (w:Cl)(G:Nat->Gh)(B:Nat):Prop where
 rm:Rm w G B
 bn:Bn w
 su:Su w
 pn:∀n,n<5->(w.aj n).OO=none
 dZ:w.ws bV=0
 st:w.ws (fT (FF w G))=0
structure Rest (w:Cl)(G:Nat->Gh)(q:Nat):Prop where
 rl:(vw w q (G q).o).F9=1
 di:w.off.at q=⟨((G q).o:Nat),((G q).m:Nat)⟩
def UA.calm(Z:UA m w G G' B):Calm w G' B:=by
 have J:=Z.zz;unfold ZZ PP at J;refine⟨Z.rm,Z.bn,Z.su,λj M=>?_,by omega,by omega⟩;have h:(o5 λj=>sK (w.aj j).OO)=0:=by omega
 have I:sK (w.aj j).OO=0:=by
  unfold o5 at h;dsimp only at h
  rcases five M with rfl|rfl|rfl|rfl|rfl<;>omega
 cases e:(w.aj j).OO with
 |none=>rfl
 |some p=>rw[e]at I;exact av I (by show(1:Nat)≠0;decide)
def UA.rest(Z:UA m w G G' B)(M:q<2):Rest w G' q:=by
 have I:=Z.rm.qi q M;obtain⟨a,b,c⟩:=Z.fair I.o5 M;have h1:(vw w q (G' q).o).F9=1:=by
  have:(vw w q (G' q).o).F9=1\/(vw w q (G' q).o).F9=2\/(vw w q (G' q).o).F9=3:=I.ES;omega
 obtain⟨J,h⟩:=b h1;have O:(vw w q (G' q).o).ep=(G' q).m:=I.vV;refine⟨h1,?_⟩;rw[O]at h;generalize w.off.at q=p at J h⊢
 cases p;dsimp only at J h;rw[J,h]
def Calm.aBn(C:Calm w G B):iI w.off=0:=by
 refine yS λj hj=>?_;have h:∀q,q<2->zP (w.off.at q):=λq M=>by
  have I:=C.rm.qi q M;obtain⟨d,O,Z,d3⟩:=I.dir;have J:w.off.at q=⟨(G q).own d,d⟩:=O;have h5:=I.Zz d Z Y;have hm:=I.VE;have hc:=C.rm.cap q M;rw[J];exact .inr ⟨by show(0:Int)<=((G q).own d:Nat);omega,by show((G q).own d:Int)<=4;omega,by show(1:Int)<=(d:Nat);omega,by show(d:Int)<=1048576;omega⟩
 have:j=0\/j=1\/j=2\/j=3:=by omega
 rcases this with rfl|rfl|rfl|rfl
 ·exact h 0 dQ
 ·exact h 1 dQ
 ·rw[C.su.two];exact .inl ⟨E,E⟩
 rw[C.su.Vb];exact .inl ⟨E,E⟩
def Calm.ayR(C:Calm w G B)(R:Rest w G q)(I:q<2):aN w.off q=(⟨((G q).o:Nat),((G q).m:Nat)⟩,0):=by
 have h:=DY (q:=(q:Int)) C.aBn Y (by
  rw[fB,R.di];intro e;have:=bP Pl.node e;have:((G q).o:Int)= -1:=this;omega)
 rw[h,fB,R.di]
def Calm.stay(C:Calm w G B)(R:Rest w G q)(h:q<2)(I:tg=((G q).o:Nat)):w.move q tg=w:=by
 unfold Cl.move;rw[C.ayR R h,au (.inr (.inl I.symm))]
def Calm.bs(C:Calm w G B)(R:Rest w G q)(h:q<2):((w.aj (G q).o).bs q).F9=1/\((w.aj (G q).o).bs q).ep=((G q).m:Nat)/\((w.aj (G q).o).bs q).Jp=(G q).G/\ay ((w.aj (G q).o).bs q)=0:=by
 have I:=C.rm.qi q h;have J:=C.rm.up _ I.o5;obtain⟨T,S,eZ,K,M⟩:=C.bn;have e:=iC (q:=q) J;refine⟨by rw[<-e];exact R.rl,by rw[<-e];exact I.vV,by rw[<-e];exact I.yN,(M.jH _ I.o5).mG q Y⟩
def ru(w:Cl)(n q:Nat)(tg:Int):bC:=⟨2,((w.aj n).bs q).ep,0,tg,0,((w.aj n).bs q).Jp⟩
def Calm.go(C:Calm w G B)(R:Rest w G q)(h:q<2)(O:0<=tg)(Z:tg<=4)(J:tg≠((G q).o:Nat)):w.move q tg=w.aC (G q).o q (ru w (G q).o q tg):=by
 have I:=C.rm.qi q h;obtain⟨b1,b2,b3,b4⟩:=C.bs R h;have hm:=I.VE;have hc:=C.rm.cap q h;have M:vQ ((w.aj (G q).o).bs q) tg=(ru w (G q).o q tg,0):=by
  unfold vQ ru;rw[ah (λc=>c b4),ah (λc=>c ⟨O,Z⟩),ah Y,ah (λc=>c b1),ah Y]
 unfold Cl.move;rw[C.ayR R h];dsimp only;rw[fB,ah (by
  rintro(c|c|c)
  ·exact c E
  ·exact J c.symm
  rw[C.rm.up _ I.o5]at c;cases c),au ⟨by rw[M],by rw[M];exact b2⟩,M]
def uJ(I:(w.aj o).up=true)(j:Nat):((w.aC o q b).aj j).data=(w.aj j).data/\((w.aC o q b).aj j).Mv=(w.aj j).Mv/\((w.aC o q b).aj j).OO=(w.aj j).OO/\((w.aC o q b).aj j).up=(w.aj j).up/\ ∀k,((w.aC o q b).aj j).bs k=if j=o/\k=q then b else(w.aj j).bs k:=by
 by_cases e:j=o
 ·subst e;rw[show(w.aC j q b).aj j=(w.aj j).aC q b from aY _];refine⟨E,E,E,E,λk=>?_⟩;by_cases h:k=q
  ·rw[au ⟨E,h⟩,h];exact Jo _ _ _
  rw[ah (λc=>h c.2)];exact Ox h
 rw[show(w.aC o q b).aj j=w.aj j from Ox e];exact⟨E,E,E,E,λk=>by rw[ah (λc=>e c.1)]⟩
def Xk(h:∀j,j<5->(w.aj j).up=true)(J:o<5){j:Nat}(I:j<5):vw (w.aC o q b) k j=if j=o/\k=q then b else vw w k j:=by
 obtain⟨_,_,_,M,O⟩:=uJ (w:=w) (q:=q) (b:=b) (h o J) j;rw[iC (by rw[M];exact h j I),iC (h j I),O]
def Xl(C:Calm w G B)(R:Rest w G q)(h:q<2)(M:b.F9=2)(J:k<2):FF (w.aC (G q).o q b) G k=if k=q then⟨(G q).m,(G q).own,1,b.tg⟩else FF w G k:=by
 have I:=C.rm.qi q h;have Ik:=C.rm.qi k J;have hv:=Xk (b:=b) (q:=q) (k:=k) C.rm.up I.o5 Ik.o5;unfold FF Ap;by_cases e:k=q
 ·subst e;rw[au ⟨E,E⟩]at hv;rw[au E,hv,ah Y]
 rw[ah (λc=>e c.2)]at hv;rw[ah e,hv]
def Xm(C:Calm w G B)(R:Rest w G q):FF w G q=⟨(G q).m,(G q).own,0,(vw w q (G q).o).tg⟩:=by
 unfold FF Ap;rw[au R.rl]
def Ou(C:Calm w G B)(R:Rest w G q)(I:q<2)(J:b.F9=2){l:bO}(M:l.q<2)(h:calm (FF w G l.q) l):calm (FF (w.aC (G q).o q b) G l.q) l:=by
 rw[Xl C R I J M];by_cases e:l.q=q
 ·rw[au e];rw[e,Xm C R]at h
  rcases h with h|⟨_,h,_⟩
  ·exact .inl h
  exact av h (by show(0:Nat)≠1;decide)
 rw[ah e];exact h
def akx{f f':bO->Nat}(I:(w.aj o).up=true)(h:∀l,l.q<2->f' l<=f l)(hv:Vd w):(w.aC o q b).ws f'<=w.ws f:=by
 have e:(w.aC o q b).ws f'=w.ws f':=by
  unfold Cl.ws;rw[(uJ I 0).2.1,(uJ I 1).2.1,(uJ I 2).2.1,(uJ I 3).2.1,(uJ I 4).2.1];rfl
 rw[e];exact Pk (λl J=>h l (hv.OM l J)) (λn hn l J=>h l (hv.jk n hn l J))
def Calm.drain(C:Calm w G B)(R:Rest w G q)(O:q<2)(h0:0<=tg)(h4:tg<=4)(hne:tg≠((G q).o:Nat))(hG:(G q).G.length<=290):
 Calm (w.move q tg) G (B+14100)/\(w.move q tg).off=w.off/\FF (w.move q tg) G q=⟨(G q).m,(G q).own,1,tg⟩/\(∀k,k<2->k≠q->FF (w.move q tg) G k=FF w G k/\(Rest w G k->Rest (w.move q tg) G k)/\qQ (FF (w.move q tg) G k) (w.off.at k).ME (vq (w.move q tg) k)=qQ (FF w G k) (w.off.at k).ME (vq w k))/\
   qQ (FF (w.move q tg) G q) (w.off.at q).ME (vq (w.move q tg) q)<=qQ (FF w G q) (w.off.at q).ME (vq w q)+((G q).G.length+5):=by
 have I:=C.rm.qi q O;have ho:=I.o5;have hu:=C.rm.up;obtain⟨b1,b2,b3,b4⟩:=C.bs R O;obtain⟨T,S,eZ,K,hB⟩:=C.bn;have hqi:∀k,k<2->QI (w.move q tg) k (G k):=λk M=>(H8 (C.rm.qi k M) hB Y Y).1;have hvd:Vd (w.move q tg):=acR C.rm.vd O;have hbn:Bn (w.move q tg):=⟨_,_,_,_,Rz hB Y⟩;have hgo:=C.go R O h0 h4 hne;rw[hgo]at hqi hvd hbn⊢;have hN:=uJ (w:=w) (q:=q) (b:=ru w (G q).o q tg) (hu _ ho);have hF:=λk M=>Xl (k:=k) (b:=ru w (G q).o q tg) C R O E M;have hR0:=Xm C R;have hws:∀f f':bO->Nat,(∀l,l.q<2->f' l<=f l)->(w.aC (G q).o q (ru w (G q).o q tg)).ws f'<=w.ws f:=λf f' h=>akx (hu _ ho) h C.rm.vd;have hpn:∀j,j<5->((w.aC (G q).o q (ru w (G q).o q tg)).aj j).OO=none:=λj J=>by rw[(hN j).2.2.1];exact C.pn j J
 have Z:∀k j,j<5->qw ((w.aC (G q).o q (ru w (G q).o q tg)).aj j) k=if j=(G q).o/\k=q then ru w (G q).o q tg else qw (w.aj j) k:=λk j J=>by
  rw[jV (hpn j J),jV (C.pn j J)];exact(hN j).2.2.2.2 k
 have hc0:∀m:Cl,(∀j,j<5->(m.aj j).OO=none)->m.c0=m.ws bV:=λm h=>by
  unfold Cl.c0;rw[h 0 dQ,h 1 dQ,h 2 dQ,h 3 dQ,h 4 dQ];rfl
 have RZ:(w.aC (G q).o q (ru w (G q).o q tg)).ws bV=0:=by
  have:=hws bV bV (λl _=>aB);have:=C.dZ;omega
 have hlw:(w.aC (G q).o q (ru w (G q).o q tg)).ws (tJ (FF (w.aC (G q).o q (ru w (G q).o q tg)) G))<=w.ws (tJ (FF w G)):=hws _ _ λl hl=>by
  unfold tJ;by_cases k0:l.kd=0
  ·rw[au k0,au k0];exact aB
  rw[ah k0,ah k0];by_cases c:l.kd=4/\ ¬calm (FF (w.aC (G q).o q (ru w (G q).o q tg)) G l.q) l
  ·rw[au c,au ⟨c.1,λh=>c.2 (Ou C R O E hl h)⟩];exact aB
  rw[ah c];exact aG _
 have hst:(w.aC (G q).o q (ru w (G q).o q tg)).ws (fT (FF (w.aC (G q).o q (ru w (G q).o q tg)) G))=0:=by
  have h:=hws (fT (FF w G)) (fT (FF (w.aC (G q).o q (ru w (G q).o q tg)) G)) λl hl=>by
   unfold fT;by_cases c:(l.kd=2\/l.kd=4)/\ ¬calm (FF (w.aC (G q).o q (ru w (G q).o q tg)) G l.q) l
   ·rw[au c,au ⟨c.1,λh=>c.2 (Ou C R O E hl h)⟩];exact aB
   rw[ah c];exact aG _
  have:=C.st;omega
 have hfi:∀k j,k<2->j<5->fi (FF (w.aC (G q).o q (ru w (G q).o q tg)) G k) j (qw ((w.aC (G q).o q (ru w (G q).o q tg)).aj j) k)<=fi (FF w G k) j (qw (w.aj j) k)+(if k=q then 14030 else 0):=λk j M J=>by
  rw[hF k M,Z k j J];by_cases e:k=q
  ·subst e;rw[au E,au E,hR0];have iD:(ru w (G k).o k tg).ep=((w.aj (G k).o).bs k).ep:=rfl;have key:∀b' b:bC,b'.ep=b.ep->RP b'.F9<=RP b.F9+2->fi ⟨(G k).m,(G k).own,1,tg⟩ j b'<=fi ⟨(G k).m,(G k).own,0,(vw w k (G k).o).tg⟩ j b+14030:=λb' b he hr=>by
    unfold fi WS;dsimp only;rw[he];have hz:¬((0:Nat)=1/\((j:Nat):Int)=(vw w k (G k).o).tg):=λc=>av c.1 dQ;rw[ah hz]
    split<;>omega
   by_cases c:j=(G k).o/\k=k
   ·rw[au c,jV (C.pn j J),c.1];have:=key (ru w (G k).o k tg) ((w.aj (G k).o).bs k) E (by rw[show(ru w (G k).o k tg).F9=2 from E];unfold RP;rw[au E];omega);rw[c.1]at this;exact this
   rw[ah c];exact key _ _ E Y
  rw[ah e,ah (λc=>e c.2),ah e];exact aB
 have hrm:Rm (w.aC (G q).o q (ru w (G q).o q tg)) G (B+14100):=by
  refine⟨λj J=>by rw[(hN j).2.2.2.1];exact hu j J,hvd,hqi,λj J=>?_,λk M=>?_⟩
  ·have h:=C.rm.Ct j J;have f0:=hfi 0 j dQ J;have f1:=hfi 1 j dQ J;have h01:q=0\/q=1:=by omega
   unfold Ct at h⊢;rw[(hN j).1]
   rcases h01 with rfl|rfl
   ·rw[au E]at f0;rw[ah dQ]at f1;omega
   rw[ah dQ]at f0;rw[au E]at f1;omega
  have h:=C.rm.cap k M;rw[hc0 _ hpn,RZ,hF k M];by_cases e:k=q
  ·subst e;rw[au E];dsimp only;omega
  rw[ah e];omega
 have hsu:Su (w.aC (G q).o q (ru w (G q).o q tg)):=by
  refine Su.at_ (n:=(G q).o) C.su (λj J=>Ox J) E ?_;refine Jj.up (X:=w.aj (G q).o) (C.su.jH _ ho) (λ_ _=>jg _) (by rw[show(w.aC (G q).o q (ru w (G q).o q tg)).aj (G q).o=(w.aj (G q).o).aC q (ru w (G q).o q tg)from aY _];rfl) λk M hs hr=>?_;rw[(hN _).2.2.2.2 k]at hr⊢;by_cases e:k=q
  ·rw[au ⟨E,e⟩]at hr;exact av hr (by show(2:Int)≠1;decide)
  rw[ah (λc=>e c.2)]at hr⊢;rw[show(w.aC (G q).o q (ru w (G q).o q tg)).aj (G q).o=(w.aj (G q).o).aC q (ru w (G q).o q tg)from aY _]at hs;exact⟨hs,hr,E⟩
 refine⟨⟨hrm,hbn,hsu,hpn,RZ,hst⟩,E,by rw[hF q O,au E];rfl,λk M hkq=>?_,?_⟩
 ·have hFk:FF (w.aC (G q).o q (ru w (G q).o q tg)) G k=FF w G k:=by rw[hF k M,ah hkq]
  refine⟨hFk,λRk=>⟨?_,Rk.di⟩,?_⟩
  ·rw[Xk hu ho (C.rm.qi k M).o5,ah (λc=>hkq c.2)];exact Rk.rl
  rw[hFk];have hv:vq (w.aC (G q).o q (ru w (G q).o q tg)) k=vq w k:=by
   funext j
   unfold vq;by_cases e:j=(G q).o
   ·subst e;rw[Z k _ ho,ah (λc=>hkq c.2)]
   rw[show(w.aC (G q).o q (ru w (G q).o q tg)).aj j=w.aj j from Ox e]
  rw[hv]
 rw[hF q O,au E,hR0];have hG2:(ru w (G q).o q tg).Jp=(G q).G:=b3;have e0:vq (w.aC (G q).o q (ru w (G q).o q tg)) q (G q).o=ru w (G q).o q tg:=by
  unfold vq;rw[Z q _ ho,au ⟨E,E⟩]
 have hold:∀j,j<5->pI ⟨(G q).m,(G q).own,1,tg⟩ (vq (w.aC (G q).o q (ru w (G q).o q tg)) q) j=pI ⟨(G q).m,(G q).own,0,(vw w q (G q).o).tg⟩ (vq w q) j:=λj J=>by
  unfold pI;dsimp only;by_cases e:j=(G q).o
  ·rw[ah (λc=>c.1 e),ah (λc=>c.1 e)]
  have:vq (w.aC (G q).o q (ru w (G q).o q tg)) q j=vq w q j:=by
   unfold vq;rw[Z q j J,ah (λc=>e c.1)]
  rw[this]
 have h5:o5 (pI ⟨(G q).m,(G q).own,1,tg⟩ (vq (w.aC (G q).o q (ru w (G q).o q tg)) q))=o5 (pI ⟨(G q).m,(G q).own,0,(vw w q (G q).o).tg⟩ (vq w q)):=Ce hold;have e1:vq (w.aC (G q).o q (ru w (G q).o q tg)) q ((G q).own (G q).m)=ru w (G q).o q tg:=e0;have hl:(ru w (G q).o q tg).Jp.length=(G q).G.length:=by rw[hG2]
 have r1:Zg ⟨(G q).m,(G q).own,1,tg⟩ (vq (w.aC (G q).o q (ru w (G q).o q tg)) q ((G q).own (G q).m)) (vq (w.aC (G q).o q (ru w (G q).o q tg)) q tg.toNat)<=(G q).G.length+5:=by
  rw[e1];unfold Zg;rw[au E,hl]
  split<;>omega
 have r2:Om ⟨(G q).m,(G q).own,1,tg⟩ (w.off.at q).ME=Om ⟨(G q).m,(G q).own,0,(vw w q (G q).o).tg⟩ (w.off.at q).ME:=rfl;rw[show(ru w (G q).o q tg).tg=tg from E];unfold qQ;rw[h5];refine gB (Nat.add_le_add_right (Nat.add_le_add_right r1 _) _) ?_;rw[show Om ⟨(G q).m,(G q).own,1,tg⟩ (w.off.at q).ME=Om ⟨(G q).m,(G q).own,0,(vw w q (G q).o).tg⟩ (w.off.at q).ME from r2];omega
def avG{kk:Nat}(I:∀q,q<2->LW m q (G q) k)(hv:Vd m){T S eZ K:Nat}(hb:dW m T S eZ K)(J:∀n,n<5->(m.aj n).up=true)(hk:k<=kk)(hc:m.cw<=kk)(hkk:kk<=127):Rm m G (460*kk+28244):=by
 refine⟨J,hv,λq h=>(I q h).qi,λn hn=>?_,λq h=>?_⟩
 ·obtain⟨rs,us,O⟩:=(hb.jH n hn).uH (J n hn);have hd:=(I 0 dQ).data n hn;have hw:=aAk (m:=m) (F:=FF m G);have Z:∀q,q<2->fi (FF m G q) n (qw (m.aj n) q)<=46*(kk+3)+13984:=λq h=>by
   have hvb:ay (qw (m.aj n) q)=0:=by
    cases hp:(m.aj n).OO with
    |none=>rw[jV hp];exact O.mG q Y
    |some p=>
     obtain⟨_,h2,h3⟩:=O.FI p hp;by_cases e:p.q=q
     ·rw[q8 hp e];exact(jL O.tape O.mG h2 h3).2
     rw[Aq hp e];exact O.mG q Y
   have hs:=fI hvb;unfold bL at hs;have h1:=aBg (n:=n) (F:=FF m G q) (b:=qw (m.aj n) q) Y aqt;have h2:=(I q h).qi.VE;have h3:=(I q h).RF;have h4:(FF m G q).M=(G q).m:=rfl;omega
  have h0:=Z 0 dQ;have h1:=Z 1 dQ;unfold Ct;omega
 have h1:=(I q h).RF;have h2:=aBf (m:=m);have h3:(FF m G q).R<=1:=aqt;omega
def nu.mle{F F':Wy}(h:nu F F'):F.M<=F'.M:=by
 rcases h with h|h
 ·have:=h.1;omega
 have:=h.1;omega
def adt(R:Rm m G B)(M:B+46<=100000)(O:Bn m):∀i,i<=5-> ∃G',Rm (m.cu i) G' B/\YY (m.cu i) G'<=YY m G
 | 0,_=>⟨G,R,aB⟩
 |i+1,hi=>by
  obtain⟨G1,J,y1⟩:=adt R M O i Y;obtain⟨T,S,eZ,K,h⟩:=oW O i Y;obtain⟨G2,Z,W⟩:=aoo J M h (n:=i) Y;exact⟨G2,Z,gB (adn (λq I=>J.qi q I) (λq I=>Z.qi q I) (λq I=>(W q I).mle) J.vd h Y) y1⟩
def ag0(R:Rm m G B)(M:B+46<=100000)(O:Bn m):∀T,∃G',Rm (m.rs T) G' B/\Bn (m.rs T)/\YY (m.rs T) G'<=YY m G
 | 0=>⟨G,R,O,aB⟩
 |T+1=>by
  obtain⟨G1,R1,b1,y1⟩:=ag0 R M O T;obtain⟨G2,I,y2⟩:=adt R1 M b1 5 aB;have b2:=oW b1 5 aB;obtain⟨T',S,eZ,K,h⟩:=b2;obtain⟨Z,F3⟩:=R4 I h;refine⟨G2,Z,Bn.asc ⟨_,_,_,_,h⟩,gB (gB ?_ y2) y1⟩;have:=Jl (m:=(m.rs T).cu 5) (m':=((m.rs T).cu 5).all) (G:=G2) (G':=G2) (k:=0) (d:=0) (u:=0) (λq J=>by have:=Ba (I.qi q J) (Z.qi q J) aB (Lu (I.qi q J) h.nD Y).2;omega) dQ (by
   have hc:=aio h.nD;have hdn:((m.rs T).cu 5).all.Jk=((m.rs T).cu 5).Jk:=Dh λj _=>by obtain⟨ib,e⟩:=rX ((m.rs T).cu 5) j;rw[e]
   omega)
  exact this
structure Ends (w x:Cl)(G G2:Nat->Gh)(q:Nat):Prop where
 rest:Rest x G2 q
 lt:(G2 q).o<5
 stay:(FF w G q).R=0->(G2 q).o=(G q).o/\(G2 q).m=(G q).m
 went:(FF w G q).R=1->((G2 q).o:Int)=(FF w G q).tg/\(G2 q).m=(G q).m+1
def Calm.ends(C:Calm w G B)(O:B+46<=100000)(hp:8*(qQ (FF w G 0) (w.off.at 0).ME (vq w 0)+qQ (FF w G 1) (w.off.at 1).ME (vq w 1))+9<=T):∃G2,UA w (w.rs T) G G2 B/\ ∀q,q<2->Ends w (w.rs T) G G2 q:=by
 have hz:ZZ w (FF w G)+9<=T:=by
  have h5:(o5 λj=>sK (w.aj j).OO)=0:=by
   unfold o5;dsimp only;rw[C.pn 0 dQ,C.pn 1 dQ,C.pn 2 dQ,C.pn 3 dQ,C.pn 4 dQ];rfl
  have:=C.dZ;have:=C.st;unfold ZZ PP;omega
 obtain⟨G2,Z⟩:=asg O C.rm C.bn C.su hz;refine⟨G2,Z,λq I=>?_⟩;have R:=Z.rest I;have J:=Z.le q I;have hR2:(FF (w.rs T) G2 q).R=0:=by
  unfold FF Ap;exact au R.rl
 have hM:(FF w G q).M=(G q).m:=rfl;have h:(FF (w.rs T) G2 q).M=(G2 q).m:=rfl;refine⟨R,(Z.rm.qi q I).o5,λh0=>?_,λh1=>?_⟩
 ·rcases J with⟨a,b,c,d⟩|⟨a,b,c,d,e⟩
  ·refine⟨?_,by omega⟩;have:=b (G q).m aB
   show(G2 q).own (G2 q).m=(G q).own (G q).m
   rw[<-h,a,hM];exact this
  omega
 rcases J with⟨a,b,c,d⟩|⟨a,b,c,d,e⟩
 ·omega
 refine⟨?_,by omega⟩
 show((G2 q).own (G2 q).m:Int)=_
 rw[<-h,a];exact c
def UA.moves(Z:UA m w G G' B)(hB:B+14146<=100000)(J:q<2)(h0:0<=tg)(h4:tg<=4)(M:tg≠((G' q).o:Nat))(hG:(G' q).G.length<=290)(hT:8*((G' q).G.length+5)+9<=T):
 ∃G2,UA (w.move q tg) ((w.move q tg).rs T) G' G2 (B+14100)/\(G2 q).o=tg.toNat/\(G2 q).m=(G' q).m+1/\ ∀k,k<2->k≠q->(G2 k).o=(G' k).o/\(G2 k).m=(G' k).m:=by
 have C:=Z.calm;have R:=Z.rest J;obtain⟨C1,I,O,hk,hp⟩:=C.drain R J h0 h4 M hG;have hz:=Z.zz;unfold ZZ PP at hz;have h01:q=0\/q=1:=by omega
 obtain⟨G2,Z2,hE⟩:=C1.ends (T:=T) Y (by
  rw[I]
  rcases h01 with rfl|rfl
  ·have h1:=(hk 1 dQ dQ).2.2;omega
  have h1:=(hk 0 dQ dQ).2.2;omega)
 refine⟨G2,Z2,?_,?_,λk h hkq=>?_⟩
 ·have:=((hE q J).went (by rw[O])).1;rw[O]at this;dsimp only at this;omega
 ·exact((hE q J).went (by rw[O])).2
 refine(hE k h).stay ?_;rw[(hk k h hkq).1];unfold FF Ap;exact au (Z.rest h).rl
structure Sc (m:Cl)(G:Nat->Gh)(k:Nat):Prop where
 lw:∀q,q<2->LW m q (G q) k
 vd:Vd m
 bs:Bs m k
 su:Su m
 up:∀n,n<5->(m.aj n).up=true
def MC{m':Cl}(h:∀q,q<2->LW m q (G q) k)(J:∀q,q<2-> ∃g',QI m' q g'/\rE (G q) g')(M:∀n,n<5->(m'.aj n).data.length<=(m.aj n).data.length+184):∃G':Nat->Gh,∀q,q<2->LW m' q (G' q) (k+1)/\(G q).m<=(G' q).m:=
 agR (Q:=λq g'=>LW m' q g' (k+1)/\(G q).m<=g'.m) λq I=>by
  obtain⟨g',I',N⟩:=J q I;exact⟨g',⟨I',by have:=N.RF;have:=(h q I).RF;omega,λn hn=>by have:=M n hn;have:=(h q I).data n hn;omega⟩,N.m⟩
def avH(S:Sc m G k)(ha:Es ac)(h1:ac.kd≠1)(h8:ac.kd≠8/\ac.kd≠9)(hqu:ac.qu<2)(hk:k<=540):∃G',Sc (m.Ub ac) G' (k+1)/\YY (m.Ub ac) G'<=YY m G+yA ac:=by
 have hB:=S.bs;have hQ:=λq hq=>(S.lw q hq).qi;have hbs:=IZ S.bs ha Y;obtain⟨a1,a2,a3,a4,a5,a6⟩:=ha;have hn:ac.nd.toNat<5:=by omega
 unfold Cl.Ub at hbs⊢;rw[ah h1]at hbs⊢;by_cases h2:ac.kd=2
 ·rw[au h2]at hbs⊢;obtain⟨G',hG⟩:=MC (m':={m with OM:=m.OM++[xB ac.nd ac.qu.toNat ac.op m.calls],calls:=m.calls+1}) S.lw (λq hq=>⟨G q,(WM (hQ q hq) E).1,.refl _⟩) λn _=>oK _ _;refine⟨G',⟨λq hq=>(hG q hq).1,S.vd.aj E (sM (x:=xB ac.nd ac.qu.toNat ac.op m.calls) (by show ac.qu.toNat<2;omega)),hbs,⟨S.su.jH,S.su.two,S.su.Vb⟩,S.up⟩,?_⟩;refine Jl (k:=0) (d:=0) (λq hq=>by have:=Ba (hQ q hq) (hG q hq).1.qi (hG q hq).2 E;omega) dQ ?_;rw[ash (.inl h2)];have:({m with OM:=m.OM++[xB ac.nd ac.qu.toNat ac.op m.calls],calls:=m.calls+1}:Cl).c0<=m.c0+1:=by
   have:=ain (xB ac.nd ac.qu.toNat ac.op m.calls);unfold Cl.c0 Cl.ws;dsimp only;rw[vo,Ib];omega
  have hdn:({m with OM:=m.OM++[xB ac.nd ac.qu.toNat ac.op m.calls],calls:=m.calls+1}:Cl).Jk=m.Jk:=rfl;omega
 rw[ah h2]at hbs⊢;by_cases h3:ac.kd=3
 ·rw[au h3]at hbs⊢;obtain⟨G',hG⟩:=MC (m':=m.step ac.nd.toNat) S.lw (λq hq=>by
   obtain⟨⟨g',I2,N2,s2⟩,d2⟩:=WJ (hQ q hq) hB hn (by have:=(S.lw q hq).data _ hn;omega) (by have:=(S.lw q hq).RF;omega);exact⟨g',I2,N2⟩) λj hj=>by
   by_cases e:j=ac.nd.toNat
   ·rw[e];exact(WJ (hQ 0 dQ) hB hn (by have:=(S.lw 0 dQ).data _ hn;omega) (by have:=(S.lw 0 dQ).RF;omega)).2
   rw[nE hB hn e];exact oK _ _
  refine⟨G',⟨λq hq=>(hG q hq).1,acP S.vd hB hn,hbs,TH (λq hq=>⟨_,hQ q hq⟩) S.vd hB hn S.su,λj hj=>?_⟩,gB (adn hQ (λq hq=>(hG q hq).1.qi) (λq hq=>(hG q hq).2) S.vd hB hn) (oK _ _)⟩;by_cases e:j=ac.nd.toNat
  ·rw[e];exact(adl hB hn (S.up _ hn)).2.2
  rw[nE hB hn e];exact S.up j hj
 rw[ah h3]at hbs⊢;by_cases h4:ac.kd=4\/ac.kd=5\/ac.kd=6
 ·rw[au h4]at hbs⊢;have hup:∀j,((m.pick ac.at_.toNat (decide (ac.kd≠5)) (decide (ac.kd=6))).aj j).up=(m.aj j).up:=λj=>by
   unfold Cl.pick
   split
   ·rfl
   dsimp only
   split
   ·rename_i l hl _
    obtain⟨ib,e⟩:=AY (if decide (ac.kd=6)=true then m else{m with OM:=m.OM.eraseIdx (ac.at_.toNat % m.OM.length)}:Cl) l j;rw[e]
    split<;>rfl
   split<;>rfl
  obtain⟨G',hG⟩:=MC (m':=m.pick ac.at_.toNat (decide (ac.kd≠5)) (decide (ac.kd=6))) S.lw (λq hq=>⟨G q,(WL (hQ q hq) hB.nD Y).1,.refl _⟩) λn _=>by rw[afF];exact oK _ _
  refine⟨G',⟨λq hq=>(hG q hq).1,aok S.vd hB.nD,hbs,?_,λj hj=>by rw[hup];exact S.up j hj⟩,?_⟩
  ·unfold Cl.pick
   split
   ·exact S.su
   rename_i l hl
   have hs:Su (if decide (ac.kd=6)=true then m else{m with OM:=m.OM.eraseIdx (ac.at_.toNat % m.OM.length)}:Cl):=by
    split
    ·exact S.su
    exact⟨S.su.jH,S.su.two,S.su.Vb⟩
   dsimp only
   split
   ·exact ac9 hs (S.vd.OM l (jN hl))
   exact hs
  refine Jl (k:=0) (d:=0) (λq hq=>by have:=Ba (hQ q hq) (hG q hq).1.qi (hG q hq).2 (WL (hQ q hq) hB.nD Y).2;omega) dQ ?_;have hc:=aoU (w:=m) (at_:=ac.at_.toNat) (c:=decide (ac.kd≠5)) (s:=decide (ac.kd=6)) hB.nD;have hdn:(m.pick ac.at_.toNat (decide (ac.kd≠5)) (decide (ac.kd=6))).Jk=m.Jk:=Dh λj _=>hup j;by_cases h6:ac.kd=6
  ·rw[ash (.inr (.inl h6))]
   split at hc<;>omega
  rw[ah (by simpa using h6)]at hc;omega
 rw[ah h4]at hbs⊢;by_cases h7:ac.kd=7
 ·rw[au h7]at hbs⊢;obtain⟨G',hG⟩:=MC (m':=m.all) S.lw (λq hq=>⟨G q,(Lu (hQ q hq) hB.nD Y).1,.refl _⟩) λn _=>by unfold Cl.all;rw[Oi];exact oK _ _
  have hup:∀j,(m.all.aj j).up=(m.aj j).up:=λj=>by obtain⟨ib,e⟩:=rX m j;rw[e]
  refine⟨G',⟨λq hq=>(hG q hq).1,RO S.vd hB.nD,hbs,Zh S.su S.vd,λj hj=>by rw[hup];exact S.up j hj⟩,?_⟩;refine Jl (k:=0) (d:=0) (λq hq=>by have:=Ba (hQ q hq) (hG q hq).1.qi (hG q hq).2 (Lu (hQ q hq) hB.nD Y).2;omega) dQ ?_;have hc:=aio hB.nD;have hdn:m.all.Jk=m.Jk:=Dh λj _=>hup j;omega
 rw[ah h7,ah h8.1,ah h8.2]at hbs⊢;have hqn:ac.qu.toNat<2:=by omega
 obtain⟨G',hG⟩:=MC (m':=m.move ac.qu.toNat ac.nd) S.lw (λq hq=>⟨G q,(H8 (hQ q hq) hB Y Y).1,.refl _⟩) λn _=>by rw[(H8 (hQ 0 dQ) hB Y dQ).2.2 n];exact oK _ _
 refine⟨G',⟨λq hq=>(hG q hq).1,acR S.vd hqn,hbs,?_,λj hj=>?_⟩,?_⟩
 ·unfold Cl.move
  split
  ·exact S.su
  split
  ·rename_i hg
   refine S.su.at_ (n:=(aN m.off ac.qu.toNat).1.node.toNat) (λj hj=>Ox hj) E ?_;by_cases c:(aN m.off ac.qu.toNat).1.node.toNat<5
   ·rw[show(m.aC (aN m.off ac.qu.toNat).1.node.toNat ac.qu.toNat _).aj (aN m.off ac.qu.toNat).1.node.toNat=_ from aY _];exact AZ (S.su.jH _ c) E E E λc2=>av c2 (by rw[ado hg.1];decide)
   intro q hq
   exfalso
   have hw:(aN m.off ac.qu.toNat).2=0:=GA λe=>by rename_i h0;exact h0 (.inl e)
   have:=(qm (d:=m.off) (q:=ac.qu.toNat) (λe=>e hw)).1;omega
  exact S.su
 ·have hS:∀o b,((m.aC o ac.qu.toNat b).aj j).up=(m.aj j).up:=λo b=>by
   by_cases e:j=o
   ·rw[e,show(m.aC o ac.qu.toNat b).aj o=(m.aj o).aC ac.qu.toNat b from aY _];rfl
   rw[show(m.aC o ac.qu.toNat b).aj j=m.aj j from Ox e]
  unfold Cl.move
  split
  ·exact S.up j hj
  split
  ·rw[hS];exact S.up j hj
  exact S.up j hj
 rw[ash (.inr (.inr (.inr Y)))];exact adp hQ (λq hq=>(hG q hq).1.qi) (λq hq=>(hG q hq).2) hB hqn
def adu:∀(l:List Ac) {m:Cl} {k:Nat} {G:Nat->Gh},Sc m G k->(∀a∈l,Es a/\a.kd≠1/\(a.kd≠8/\a.kd≠9)/\a.qu<2)->k+l.length<=540->
  ∃G':Nat->Gh,Sc (m.run l) G' (k+l.length)/\YY (m.run l) G'<=YY m G+rF yA l/\(m.run l).cw+m.aS<=m.cw+(m.run l).aS+rF acW l/\(m.run l).tS<=m.tS+rF acS l
 |[],m,k,G,S,_,_=>⟨G,S,aB,aB,aB⟩
 |a::l,m,k,G,S,h,I=>by
  rw[mV]at I;obtain⟨a1,a2,a3,a4⟩:=h a gJ;obtain⟨G1,J,Z⟩:=avH S a1 a2 a3 a4 Y;obtain⟨c1,t1⟩:=aoV S.bs S.vd a1 a2;obtain⟨G2,M,y2,c2,t2⟩:=adu l J (λx O=>h x (dM _ O)) Y;rw[mV,show k+(l.length+1)=k+1+l.length by omega];refine⟨G2,M,?_,?_,?_⟩
  ·show YY ((m.Ub a).run l) G2<=_;rw[rF];omega
  ·show((m.Ub a).run l).cw+_<=_+((m.Ub a).run l).aS+_;rw[rF];omega
  show((m.Ub a).run l).tS<=_;rw[rF];omega
def agt(g:Gr):(iG g false).kd≠8/\(iG g false).kd≠9:=by
 unfold iG
 split
 ·unfold Pg;exact⟨by show(2:Int)≠8;decide,by show(2:Int)≠9;decide⟩
 split
 ·exact⟨by show(3:Int)≠8;decide,by show(3:Int)≠9;decide⟩
 split
 ·exact⟨by show(4:Int)≠8;decide,by show(4:Int)≠9;decide⟩
 split
 ·exact⟨by show(5:Int)≠8;decide,by show(5:Int)≠9;decide⟩
 split
 ·exact⟨by show(6:Int)≠8;decide,by show(6:Int)≠9;decide⟩
 split
 ·exact⟨by show(10:Int)≠8;decide,by show(10:Int)≠9;decide⟩
 rw[ah (λc=>av c.2 dQ),ah (λc=>av c.2 dQ)];exact⟨by show(7:Int)≠8;decide,by show(7:Int)≠9;decide⟩
def abw{gs:List Gr}{M:Nat}(h:M<=80):∃m G G',UA m (lT.run (iB (aH gs M false) (jA (aH gs M false)))) G G' (460*(M+7)+28244)/\8*((G' 0).G.length+(G' 1).G.length)+240<=jA (aH gs M false)+M:=by
 have e:lT.run (aH gs M false)=nL.run ((gs.take M).map (iG · false)):=by
  unfold aH
  show Cl.run ((lT.Ub (afG 0 0)).Ub (afG 1 1)) (((gs.take M).map (iG · false)))=_
  rw[ahZ,ah0]
 have hl:((gs.take M).map (iG · false)).length<=M:=by rw[iE,eD];omega
 have I:∀a∈(gs.take M).map (iG · false),Es a/\a.kd≠1/\(a.kd≠8/\a.kd≠9)/\a.qu<2:=λa O=>by
  obtain⟨g,_,rfl⟩:=pJ.1 O;exact⟨agO (Za g false).1,(Za g false).2,agt g,aBh g false⟩
 obtain⟨G',S,y,c,t⟩:=adu _ (k:=2) (G:=g0) ⟨λq J=>ap4 J,aAi,ap5,aBm,λn _=>(agZ n).1⟩ I Y;obtain⟨z1,z2,z3,z4⟩:=aoX;have hcw:=ah2 _ ap5 (λa O=>(I a O).1) Y;rw[<-e]at S y c t hcw;have hsum:=Xj ((gs.take M).map (iG · false));have hen:jA (aH gs M false)=240+rF PL ((gs.take M).map (iG · false)):=by
  unfold aH;rw[MB,zF];have:rF PL mks=40:=by decide
  omega
 have R:=avG (kk:=M+7) S.lw S.vd S.bs S.up Y Y Y;have hz:=aBk R;have O:=aBl (m:=lT.run (aH gs M false));obtain⟨G2,Z⟩:=asg Y R ⟨_,_,_,_,S.bs⟩ S.su (T:=jA (aH gs M false)) Y;obtain⟨G3,R3,b3,y3⟩:=ag0 R Y ⟨_,_,_,_,S.bs⟩ (jA (aH gs M false));have hyy:=adr (G:=G3) (G':=G2) (λq J=>R3.qi q J) (λq J=>Z.rm.qi q J);have er:lT.run (iB (aH gs M false) (jA (aH gs M false)))=(lT.run (aH gs M false)).rs (jA (aH gs M false)):=by
  have u:=TK S.up 5 aB;rw[<-Nl];generalize aH gs M false=s at u⊢;unfold iB;unfold Cl.run at u⊢;rw[uj,uj,u]
 rw[er];refine⟨_,G',G2,Z,?_⟩;have hg:(G2 0).G.length+(G2 1).G.length<=YY ((lT.run (aH gs M false)).rs (jA (aH gs M false))) G2:=by
  unfold YY yq;omega
 omega
def JW(t q:Nat):Ac:=⟨10,(t:Nat),(q:Nat),0,0,0,0,0,0,0,0⟩
def adv:∀r,rF PL (Am r)=0
 | 0=>rfl
 |r+1=>by
  rw[Et,zF,zF,adv r]
  decide
def adw(s:List Ac)(r:Nat):jA (iB s r)=jA s:=by
 rw[MB,MB];unfold iB;rw[zF,zF,adv];have:rF PL (starts 5)=0:=by decide
 omega
def avI(t q:Nat):w.Ub (JW t q)=w.move q (t:Nat):=by
 unfold Cl.Ub;rw[ah (by show(10:Int)≠1;decide),ah (by show(10:Int)≠2;decide),ah (by show(10:Int)≠3;decide),ah (by show ¬((10:Int)=4\/(10:Int)=5\/(10:Int)=6);decide),ah (by show(10:Int)≠7;decide),ah (by show(10:Int)≠8;decide),ah (by show(10:Int)≠9;decide)];rfl
def Nn{s:List Ac}{r:Nat}(h:∀n,n<5->((lT.run s).aj n).up=true):lT.run (iB s r)=(lT.run s).rs r:=by
 have u:=TK h 5 aB;rw[<-Nl];unfold iB;unfold Cl.run at u⊢;rw[uj,uj,u]
def adx(s:List Ac)(a:Ac):lT.run (s++[a])=(lT.run s).Ub a:=by
 unfold Cl.run;rw[uj];rfl
def Ve(F:Wy)(o t e:Nat):Prop:=F.own e=o/\1<=e/\t≠o/\((F.M=e/\F.R=1/\F.tg=(t:Nat))\/(F.M=e+1/\F.own (e+1)=t/\F.R=0))
def Ve.le(h:Ve F o t e)(hw:nu F F'):Ve F' o t e:=by
 obtain⟨a,a1,a2,h⟩:=h
 rcases h with⟨b,c,d⟩|⟨b,c,d⟩
 ·rcases hw with⟨h1,I,J,M⟩|⟨h1,I,J,M,O⟩
  ·exact⟨by rw[I e Y];exact a,a1,a2,.inl ⟨by omega,by omega,by rw[M];exact d⟩⟩
  refine⟨by rw[I e Y];exact a,a1,a2,.inr ⟨by omega,?_,O⟩⟩;rw[b,d]at J;omega
 rcases hw with⟨h1,I,J,M⟩|⟨h1,I,J,M,O⟩
 ·exact⟨by rw[I e Y];exact a,a1,a2,.inr ⟨by omega,by rw[I (e+1) Y];exact c,by omega⟩⟩
 omega
def hT(t e:Nat):Pl:=⟨(t:Nat),((e+1:Nat):Int)⟩
structure Ol (X:Nd)(q t e:Nat):Prop where
 rl:(X.bs q).F9≠4
 be:∀b,X.OO≠some (.P8 q b)
 hi:(X.PS q).ME<=e\/X.PS q=hT t e
 fo:((X.bs q).F9=0\/ ∃b,X.OO=some (.P5 q b))->X.PS q=hT t e
def Ol.set(O:Ol X q t e)(I:cO.bs=PN X.bs k b)(J:cO.PS=X.PS)(M:cO.OO=none)(h:k=q->b.F9≠4/\(b.F9=0->X.PS q=hT t e)):Ol cO q t e:=by
 refine⟨?_,λb=>by rw[M];exact nofun,by rw[J];exact O.hi,λc=>?_⟩
 ·rw[I];by_cases c:q=k
  ·subst c;rw[Jo];exact(h E).1
  rw[Ox c];exact O.rl
 rw[J]
 rcases c with c|⟨b,c⟩
 ·rw[I]at c;by_cases c2:q=k
  ·subst c2;rw[Jo]at c;exact(h E).2 c
  rw[Ox c2]at c;exact O.fo (.inl c)
 rw[M]at c;cases c
def Tel(F:Wy)(l:bO):Prop:= ∃k:Nat,l.ep=k/\1<=k/\k<=F.M/\(F.own k:Int)=l.nd
def Ve.tel(I:Ve F o t e)(h:Tel F l):l.ep<=e\/(⟨l.nd,l.ep⟩:Pl)=hT t e:=by
 obtain⟨k,h1,Z,h3,J⟩:=h;obtain⟨a,a1,a2,c⟩:=I;by_cases c1:k<=e
 ·left;omega
 right
 have M:k=e+1:=by rcases c with c|c<;>omega
 have O:F.own (e+1)=t:=by
  rcases c with c|c
  ·omega
  exact c.2.1
 subst M;unfold hT;rw[<-J,h1,O]
def Ol.Qf(O:Ol X q t e)(J:Ve F o t e)(M:l.q=q->Tel F l):Ol (X.Qf n l) q t e:=by
 have I:(X.Qf n l).PS q=if l.q=q/\(X.PS q).ME<l.ep then⟨l.nd,l.ep⟩else X.PS q:=by
  unfold Nd.Qf;dsimp only;by_cases c:l.q=q
  ·subst c;by_cases c2:(X.PS l.q).ME<l.ep
   ·rw[au c2,au ⟨E,c2⟩,Jo]
   rw[ah c2,ah (λh=>c2 h.2)]
  simp only[c,false_and,if_false]
  split
  ·exact Ox (λh=>c h.symm)
  rfl
 refine⟨O.rl,O.be,?_,λc=>?_⟩
 ·rw[I]
  split
  ·rename_i c;exact J.tel (M c.1)
  exact O.hi
 have h:=O.fo c;rw[I]
 split
 ·rename_i c2
  rcases J.tel (M c2.1)with Z|Z
  ·have:=c2.2;rw[h]at this;unfold hT at this;dsimp only at this;omega
  exact Z
 exact h
def Vf:((w.Ui n l).aj n).PS=((w.aj n).Qf n l).PS:=by
 unfold Cl.Ui
 split
 ·rw[aY]
 split
 ·rw[aY]
 rename_i x h
 obtain⟨d,_,e⟩:=qj h;rw[aY,e]
def Ol.hnd(O:Ol (w.aj o) q t e)(hM:Ve F o t e)(hc:l.q=q->l.kd=2->calm F l)(Z:l.tg=o)(iD:(e:Int)<=((w.aj o).bs q).ep)(h6:l.kd=6->l.q=q->Tel F l)(hp:(w.aj o).OO=none)
  (hh:l.kd=6->(m'.aj o).PS=((w.aj o).Qf o l).PS) (H:Hnd w o l m'):Ol (m'.aj o) q t e:=by
 cases H with
 |same=>exact O
 |done a c1 c2=>rw[(uI (m:=w)).2.1];exact O
 |TV c1=>exact O
 |part b c1 c2 c3 M c5 c6=>
  obtain⟨g1,g2,g3⟩:=oP (m:=w.aC o l.q b) (n:=o) (q:=l.q) (a:=l.at_);rw[g2,show(w.aC o l.q b).aj o=(w.aj o).aC l.q b from aY _];refine O.set E E hp λ_=>?_;have hr:b.F9=2\/b.F9=3:=by
   rcases M with⟨M,c7,_⟩|⟨M,c7⟩
   ·rw[c7];exact .inl M
   rw[c7];exact .inr M
  exact⟨by omega,λh=>by omega⟩
 |Qf c1=>rw[aY];exact O.Qf hM (h6 c1)
 |OO p cO d c1 c2 c3 M c5=>
  rw[aY]at hh⊢;have hY:Ol cO q t e:=by
   rcases c1 with c1|⟨c0,c1⟩
   ·rw[c1];exact O
   rw[c1];exact O.Qf hM (h6 c0)
  refine⟨hY.rl,λb hb=>?_,hY.hi,λc=>?_⟩
  ·have J:p=.P8 q b:=AU hb;subst J;obtain⟨k1,k2⟩:=c5;have k3:q=l.q:=c2;obtain⟨_,e1,f1,k4,k5,_⟩:=c3;have k6:l.ep=e1:=by rw[k2]at k4;exact bP bC.ep k4
   obtain⟨a,a1,a2,h⟩:=hM
   rcases hc k3.symm k1 with⟨d1,d2,d3⟩|⟨d1,d2,d3⟩
   ·rcases h with⟨h1,I,h3⟩|⟨h1,I,h3⟩
    ·omega
    have d4:l.ep.toNat=e+1:=by omega
    rw[d4,I,Z]at d3;omega
   rcases h with⟨h1,I,h3⟩|⟨h1,I,h3⟩
   ·rw[h3,Z]at d3;omega
   omega
  rcases c with c|⟨b,c⟩
  ·exact hY.fo (.inl c)
  have J:p=.P5 q b:=AU c;subst J;obtain⟨k1,k2⟩:=c5;have k3:q=l.q:=c2
  show cO.PS q=hT t e
  have h1:cO.PS=((w.aj o).Qf o l).PS:=hh k1;have I:=(O.Qf (n:=o) hM (h6 k1)).hi;rw[h1]
  rcases I with I|I
  ·exfalso
   rw[<-k3]at k2;have h3:l.ep<=(((w.aj o).Qf o l).PS q).ME:=by
    unfold Nd.Qf;dsimp only;subst k3;by_cases c2:((w.aj o).PS l.q).ME<l.ep
    ·rw[au c2,Jo];exact jg _
    rw[ah c2];omega
   omega
  exact I
def QI.avJ{g:Gh}(I:QI m q g)(J:(m.aj o).up=true)(h1:1<=e)(M:e<=g.m)(h:g.own e=o):(e:Int)<=((m.aj o).bs q).ep:=by
 have:=I.ge e h1 M;rwa [h,iC J]at this
def QI.tel{g:Gh}(I:QI m q g){V:Nat->bC}(h:ER g V (m.off.at q) l)(M:l.kd=6):∃k:Nat,l.ep=k/\1<=k/\k<=g.m/\(g.own k:Int)=l.nd:=by
 obtain⟨k,h1,O,J,Z⟩:=h.2.2.2 M;obtain⟨d,d1,d2,d3⟩:=I.dir;rw[d1]at J;have h3':(k:Int)<=(d:Nat):=J;exact⟨k,h1,O,by omega,Z⟩
def Xn{T S eZ K:Nat}{rs:List dN}(R:Rm m G B)(hB:B+46<=100000)(hb:dW m T S eZ K)(hn:n<5)(I:q<2)(ho:o<5)(hst:m.ws (fT (FF m G))=0)(hM:Ve (FF m G q) o t e)(O:Ol (m.aj o) q t e)(hU:∃us,pG (m.aj n) rs us)(Q:Cl->Prop)
  (hQ:∀w l r,Kt m n rs w->(∀j,j<5->(w.aj j).up=true)->Ol (w.aj o) q t e->(w.aj n).OO=none->(w.aj n).Mv=l::r->jY l->l.tg=n->l.q<2->pG ((w.put n ((w.aj n).box r)).aj n) rs []->Hnd (w.put n ((w.aj n).box r)) n l ((w.put n ((w.aj n).box r)).PY n l)->Q w->Q ((w.put n ((w.aj n).box r)).PY n l)) (h0:Q m):
  Kt m n rs (m.more n)/\Ol ((m.more n).aj o) q t e/\Q (m.more n):=by
 have key:=og (n:=n) (λw=>Kt m n rs w/\(∃G1,Rm w G1 B/\ ∀q,q<2->FF w G1 q=FF m G q)/\Ol (w.aj o) q t e/\Q w) (λw l r ⟨H,⟨G1,R1,F1⟩,A,q1⟩ J Z=>by
  obtain⟨h1,h2,h3,h4⟩:=oh (λl hl=>lM (hb.jk n hn l hl)) H J Z;have hl0:l∈(w.aj n).Mv:=by rw[Z];simp
  have hl1:=H.jk l hl0;obtain⟨b1,b2⟩:=hb.jk n hn l hl1;have hlq:=R1.vd.jk n hn l hl0;have e0:(w.put n ((w.aj n).box r)).aj n=(w.aj n).box r:=aY _;obtain⟨R2,hF1,hvw⟩:=adf R1 hn Z;have hL:∀q,q<2->l.q=q->ER (G1 q) (vw (w.put n ((w.aj n).box r)) q) (w.off.at q) l:=λq I VA=>by rw[hvw];exact(R1.qi q I).nD l ⟨VA,.inr ⟨n,hn,hl0⟩⟩
  obtain⟨G2,R3,F2⟩:=RY R2 hB hn h2 (by rw[e0];exact J) hL b2 b1.2.1 b1.2.2.2 hlq (jG h1.1) h3;refine⟨h1.1,h4,⟨G2,R3,λq I=>by rw[F2 q I,hF1];exact F1 q I⟩,?_,hQ w l r H R1.up A J Z b1 b2 hlq h2 h3 q1⟩;by_cases PX:o≠n
  ·rw[(jG (m:=w.put n ((w.aj n).box r)) (n:=n) (l:=l) h1.1).oM o PX,show(w.put n ((w.aj n).box r)).aj o=w.aj o from Ox PX];exact A
  have PX:=fE.1 PX;subst PX;have hM1:Ve (FF w G1 q) o t e:=by rw[F1 q I];exact hM
  have A0:Ol ((w.put o ((w.aj o).box r)).aj o) q t e:=by rw[e0];exact⟨A.rl,A.be,A.hi,A.fo⟩
  have hcl:l.q=q->l.kd=2->calm (FF w G1 q) l:=λc1 c2=>by
   rw[F1 q I];have h5:eB (fT (FF m G)) (m.aj o).Mv=0:=by
    unfold Cl.ws at hst
    rcases five hn with h|h|h|h|h<;>rw[h]<;>omega
   have h6:=zG h5 l hl1;unfold fT at h6;rw[c1]at h6;exact GA λc3=>by rw[au ⟨.inl c2,c3⟩]at h6;cases h6
  refine Ol.hnd A0 hM1 hcl b2 ?_ (λc1 c2=>?_) (by rw[e0];exact J) (λc1=>?_) h3
  ·rw[e0];obtain⟨a,a1,a2,c⟩:=hM1;exact(R1.qi q I).avJ (R1.up o ho) a1 (by show e<=(FF w G1 q).M;rcases c with c|c<;>omega) a
  ·exact(R1.qi q I).tel (hL q I c2) c1
  unfold Cl.PY;rw[ah Y,ah Y,ah Y,ah Y,Vf]) _ m E ⟨zx (R.up n hn) hU,⟨G,R,λ_ _=>E⟩,O,h0⟩
 exact⟨key.1,key.2.2.1,key.2.2.2⟩
def aoY{T S eZ K:Nat}(R:Rm m G B)(hB:B+46<=100000)(Z:dW m T S eZ K)(hn:n<5)(ho:o<5)(hq:q<2)(hst:m.ws (fT (FF m G))=0)(hM:Ve (FF m G q) o t e)(O:Ol (m.aj o) q t e):Ol ((m.step n).aj o) q t e:=by
 by_cases PX:o≠n
 ·rw[nE Z hn PX];exact O
 have PX:=fE.1 PX;subst PX;have J:=R.up o ho;obtain⟨rs,us,hU⟩:=(Z.jH o hn).uH J
 cases I:(m.aj o).OO with
 |some p=>
  obtain⟨_,M,h3⟩:=hU.FI p I
  cases p with
  |serve k Jp op num a=>
   rw[jS E J I E M.1]
   show Ol (PN m.aj o _ o) q t e
   rw[Jo];exact O.set E E E λc=>by subst c;exact⟨O.rl,λh=>O.fo (.inl h)⟩
  |P8 k b=>
   rw[ng E J I]
   show Ol (PN m.aj o _ o) q t e
   rw[Jo];exact O.set E E E λc=>by subst c;exact av I (O.be b)
  |T9 k b last=>
   have hr:=M.1
   cases last with
   |true=>
    rw[jP E J I]
    show Ol (PN m.aj o _ o) q t e
    rw[Jo];exact O.set (k:=k) (b:=b) E E E λc=>by subst c;exact av hr O.rl
   |false=>
    rw[qZ E J I]
    show Ol (PN m.aj o _ o) q t e
    rw[Jo];exact O.set E E E λc=>by subst c;exact av hr O.rl
  |gy k b at_=>
   obtain⟨h4,h5⟩:=M;rw[oO E J I]
   show Ol (PN m.aj o _ o) q t e
   rw[Jo];exact O.set E E E λ_=>by rw[h5];exact⟨by show(3:Int)≠4;decide,λh=>av h (by show(3:Int)≠0;decide)⟩
  |P5 k b=>
   obtain⟨h4,h5⟩:=M;rw[lK E J I]
   show Ol (PN m.aj o _ o) q t e
   rw[Jo];exact O.set E E E λc=>by subst c;exact⟨by rw[h5];show(0:Int)≠4;decide,λ_=>O.fo (.inr ⟨b,I⟩)⟩
 |none=>
  obtain⟨_,A1,_⟩:=Xn (n:=o) R hB Z hn hq ho hst hM O ⟨_,hU⟩ (λ_=>True) (λ_ _ _ _ _ _ _ _ _ _ _ _ _ _=>trivial) trivial;rw[jy J I]
  split
  ·show Ol (PN (m.more o).aj o { (m.more o).aj o with turn:=((m.more o).aj o).turn+1} o) q t e
   rw[Jo];exact⟨A1.rl,A1.be,A1.hi,A1.fo⟩
  exact A1
structure Ph (w:Cl)(G:Nat->Gh)(q o t e B:Nat):Prop where
 rm:Rm w G B
 bn:Bn w
 st:w.ws (fT (FF w G))=0
 mv:Ve (FF w G q) o t e
 ol:Ol (w.aj o) q t e
def Ph.cu(h:Ph m G q o t e B)(I:B+46<=100000)(J:q<2)(M:o<5):∀i,i<=5-> ∃G',Ph (m.cu i) G' q o t e B
 | 0,_=>⟨G,h⟩
 |i+1,hi=>by
  obtain⟨G1,h1⟩:=h.cu I J M i Y;obtain⟨T,S,eZ,K,O⟩:=h1.bn;obtain⟨G2,Z,W2,s2,_⟩:=Gz h.rm I h.bn (i+1) hi;have:=h.st;exact⟨G2,Z,oW h.bn _ hi,by omega,h.mv.le (W2 q J),aoY h1.rm I O Y M J h1.st h1.mv h1.ol⟩
def Ph.mo(h:Ph m G q o t e B)(I:B+46<=100000)(J:q<2)(M:o<5):∃G',Ph m.mo G' q o t e B:=by
 obtain⟨G1,h1⟩:=h.cu I J M 5 Y;obtain⟨G2,O,b2,Z,s2,_⟩:=Ji h.rm I h.bn;have:=h.st;refine⟨G2,O,b2,by omega,h.mv.le (Z q J),?_⟩;obtain⟨ib,e1⟩:=rX (m.cu 5) o
 show Ol ((m.cu 5).all.aj o) q t e
 rw[e1];exact⟨h1.ol.rl,h1.ol.be,h1.ol.hi,h1.ol.fo⟩
def Ph.rs(h:Ph m G q o t e B)(I:B+46<=100000)(J:q<2)(M:o<5):∀T,∃G',Ph (m.rs T) G' q o t e B
 | 0=>⟨G,h⟩
 |T+1=>by
  obtain⟨G1,h1⟩:=h.rs I J M T;exact h1.mo I J M
def Gd(t e:Nat)(x:tZ):Prop:=x.pl=hT t e/\x.Ut.code=7
structure Cb (w:Cl)(ls:List bO)(q o t e:Nat)(T0:List tZ):Prop where
 kf:∀l,l∈w.OM\/l∈ls->l.kd=0->l.q=q/\l.tg=o
 ki:∀n,n<5-> ∀l∈(w.aj n).Mv,l.kd=0->l.q=q/\l.tg=o
 rp:∀l,l∈w.OM\/l∈ls->l.tg= -1->l.kd=1/\Gd t e l.bQ
 sv:∀n,n<5->vC (w.aj n).OO=0
 td:∃r,w.bQ=T0++r/\(∀x∈r,Gd t e x)/\(r≠[]\/(∃l,(l∈w.OM\/l∈ls)/\(l.tg= -1\/l.kd=0))\/ ∃l∈(w.aj o).Mv,l.kd=0)
def Cb.ext(C:Cb m [] q o t e T0)(ho:∀j,j≠n->m'.aj j=m.aj j)(hi:(m'.aj n).Mv=(m.aj n).Mv)(hs:vC (m'.aj n).OO=0)(Z:m'.OM=m.OM++new)(J:∀x∈new,x.kd≠0/\x.tg≠ -1)(ht:m'.bQ=m.bQ):Cb m' [] q o t e T0:=by
 have M:∀j,(m'.aj j).Mv=(m.aj j).Mv:=λj=>by
  by_cases c:j=n
  ·subst c;exact hi
  rw[ho j c]
 refine⟨λl I O=>?_,λj hj l I=>?_,λl I O=>?_,λj hj=>?_,?_⟩
 ·rcases I with I|I
  ·rw[Z]at I
   rcases aP.1 I with I|I
   ·exact C.kf l (.inl I) O
   exact av O (J l I).1
  cases I
 ·rw[M]at I;exact C.ki j hj l I
 ·rcases I with I|I
  ·rw[Z]at I
   rcases aP.1 I with I|I
   ·exact C.rp l (.inl I) O
   exact av O (J l I).2
  cases I
 ·by_cases c:j=n
  ·subst c;exact hs
  rw[ho j c];exact C.sv j hj
 obtain⟨r,r1,r2,r3⟩:=C.td;refine⟨r,ht.trans r1,r2,?_⟩;rw[M]
 rcases r3 with h|⟨l,h|h,h2⟩|h
 ·exact .inl h
 ·exact .inr (.inl ⟨l,.inl (by rw[Z];exact bM _ h),h2⟩)
 ·cases h
 exact .inr (.inr h)
def Cb.box{r:List bO}(C:Cb w [] q o t e T0)(J:(w.aj n).Mv=l::r)(hk:l.kd≠0):Cb (w.put n ((w.aj n).box r)) [] q o t e T0:=by
 have O:(w.put n ((w.aj n).box r)).aj n=(w.aj n).box r:=aY _;have Z:∀j,j≠n->(w.put n ((w.aj n).box r)).aj j=w.aj j:=λj I=>Ox I;refine⟨C.kf,λj I x M=>?_,C.rp,λj I=>?_,?_⟩
 ·by_cases c:j=n
  ·subst c;rw[O]at M;exact C.ki j I x (by rw[J];exact dM _ M)
  rw[Z j c]at M;exact C.ki j I x M
 ·by_cases c:j=n
  ·subst c;rw[O];exact C.sv j I
  rw[Z j c];exact C.sv j I
 obtain⟨s,r1,r2,r3⟩:=C.td;refine⟨s,r1,r2,?_⟩
 rcases r3 with h|h|⟨x,h,h2⟩
 ·exact .inl h
 ·exact .inr (.inl h)
 refine .inr (.inr ?_);by_cases c:o=n
 ·subst c;rw[O];rw[J]at h
  rcases iq.1 h with h|h
  ·subst h;exact av h2 hk
  exact⟨x,h,h2⟩
 rw[Z o c];exact⟨x,h,h2⟩
def aoZ(I:b.F9=4)(h:ay b=0):(ou n q b).kd≠0/\(ou n q b).tg≠ -1:=by
 have hs:=fI h;unfold bL at hs;refine⟨by show(3:Int)≠0;decide,?_⟩
 show b.fr≠ -1
 omega
def agu{a:Int}{fl:List bO}(I:b.F9=2\/b.F9=3)(J:ay b=0):∃new,lI n q b a fl=fl++new/\ ∀x∈new,x.kd≠0/\x.tg≠ -1:=by
 unfold lI
 split
 ·exact⟨[],(bI _).symm,λx h=>by cases h⟩
 refine⟨_,E,λx h=>?_⟩;rw[aF]at h;subst h;have:=UY I J;refine⟨by show(4:Int)≠0;decide,?_⟩
 show b.tg≠ -1
 omega
def avK(H:Hnd w n l m')(hk:l.kd≠0)(J:(w.aj n).OO=none)(hq:l.q<4)(hb:∀q,q<4->ay ((w.aj n).bs q)=0):
 (∃new,m'.OM=w.OM++new/\ ∀x∈new,x.kd≠0/\x.tg≠ -1)/\m'.bQ=w.bQ/\vC (m'.aj n).OO=0/\(((w.aj n).bs q).F9=0->((m'.aj n).bs q).F9=0):=by
 have O:∃new,w.OM=w.OM++new/\ ∀x∈new,x.kd≠0/\x.tg≠ -1:=⟨[],(bI _).symm,λx M=>by cases M⟩
 cases H with
 |same=>exact⟨O,E,by rw[J];rfl,id⟩
 |done a c1 c2=>exact av c1 hk
 |TV c1=>
  refine⟨⟨[ou n l.q ((w.aj n).bs l.q)],E,λx M=>?_⟩,E,by show vC (w.aj n).OO=0;rw[J];rfl,id⟩;rw[aF]at M;subst M;exact aoZ c1 (hb _ hq)
 |part b c1 c2 c3 I c5 c6=>
  obtain⟨g1,g2,g3⟩:=oP (m:=w.aC n l.q b) (n:=n) (q:=l.q) (a:=l.at_);have Z:(w.aC n l.q b).aj n=(w.aj n).aC l.q b:=aY _;have e1:((w.aC n l.q b).aj n).bs l.q=b:=by rw[Z];exact Jo _ _ _
  have hr:b.F9=2\/b.F9=3:=by
   rcases I with⟨I,c7,_⟩|⟨I,c7⟩
   ·rw[c7];exact .inl I
   rw[c7];exact .inr I
  refine⟨?_,g1.bQ,?_,λh=>?_⟩
  ·rw[g3,e1];exact agu hr c6
  ·rw[g2,Z];show vC (w.aj n).OO=0;rw[J];rfl
  rw[g2,Z]
  show(PN (w.aj n).bs l.q b q).F9=0
  by_cases c:q=l.q
  ·subst c;omega
  rw[Ox c];exact h
 |OO p cO d c1 c2 c3 I c5=>
  refine⟨O,E,?_,?_⟩
  ·rw[aY]
   cases p with
   |serve k Jp op num a=>exact av c5.1 hk
   |P8 k b=>rfl
   |T9 k b la=>rfl
   |gy k b a=>rfl
   |P5 k b=>rfl
  rw[aY]
  rcases c1 with c1|⟨_,c1⟩
  ·rw[c1];exact id
  rw[c1];exact id
 |Qf c1=>exact⟨O,E,by rw[aY];show vC (w.aj n).OO=0;rw[J];rfl,by rw[aY];exact id⟩
def abx{op:Ev}(I:ay b=0)(M:b.F9=0)(h1:bK op=0)(J:op.kind≠4):iK b op=(b,rA 7,false,0):=by
 unfold iK;rw[ah (λh=>h I),ah (λh=>h h1),ah J,ah Y,au Y]
def Cb.call{r:List bO}(C:Cb w [] q o t e T0)(ho:o<5)(hin:(w.aj o).Mv=l::r)(hp:(w.aj o).OO=none)(hk:l.kd=0)(hl:jY l)(hlq:l.q=q)(hb:ay ((w.aj o).bs q)=0)(hr:((w.aj o).bs q).F9=0)(hh:(w.aj o).PS q=hT t e):
 Cb ((w.put o ((w.aj o).box r)).PY o l) [] q o t e T0/\((w.put o ((w.aj o).box r)).PY o l).aj o=(w.aj o).box r:=by
 have O:(w.put o ((w.aj o).box r)).aj o=(w.aj o).box r:=aY _;have e1:∀j,j≠o->(w.put o ((w.aj o).box r)).aj j=w.aj j:=λj J=>Ox J;obtain⟨h1,h2⟩:=hl.2.2.2 hk;have eS:iK ((w.aj o).bs q) l.op=((w.aj o).bs q,rA 7,false,0):=abx hb hr h1 h2;have eH:(w.put o ((w.aj o).box r)).PY o l=(w.put o ((w.aj o).box r)).send (mg o l.num (rA 7) (hT t e)):=by
  unfold Cl.PY;rw[au hk];unfold Cl.serve;rw[O,hlq,show((w.aj o).box r).bs q=(w.aj o).bs q from E,eS,au E];unfold Cl.done;rw[O,show((w.aj o).box r).bs q=(w.aj o).bs q from E,ah (by unfold Qc;omega),show((w.aj o).box r).PS q=(w.aj o).PS q from E,hh]
 rw[eH];have Z:∀x,x∈((w.put o ((w.aj o).box r)).send (mg o l.num (rA 7) (hT t e))).OM->x∈w.OM\/x=mg o l.num (rA 7) (hT t e):=λx h=>by
  rcases aP.1 h with h|h
  ·exact .inl h
  exact .inr (aF.1 h)
 refine⟨⟨λx h M=>?_,λj J x h=>?_,λx h ht=>?_,λj J=>?_,?_⟩,O⟩
 ·rcases h with h|h
  ·rcases Z x h with h|h
   ·exact C.kf x (.inl h) M
   rw[h]at M;exact av M (by show(1:Int)≠0;decide)
  cases h
 ·have I:x∈((w.put o ((w.aj o).box r)).aj j).Mv:=h;by_cases c:j=o
  ·subst c;rw[O]at I;exact C.ki j J x (by rw[hin];exact dM _ I)
  rw[e1 j c]at I;exact C.ki j J x I
 ·rcases h with h|h
  ·rcases Z x h with h|h
   ·exact C.rp x (.inl h) ht
   rw[h];exact⟨E,E,E⟩
  cases h
 ·show vC ((w.put o ((w.aj o).box r)).aj j).OO=0
  by_cases c:j=o
  ·subst c;rw[O];exact C.sv j J
  rw[e1 j c];exact C.sv j J
 obtain⟨s,r1,r2,_⟩:=C.td;exact⟨s,r1,r2,.inr (.inl ⟨_,.inl (aK _ (aF.2 E)),.inl E⟩)⟩
def ao0{s:Bool}(I:ay b=0):∀x∈ig n q b s,x.kd≠0/\x.tg≠ -1:=λx h=>by
 unfold ig at h
 rcases aP.1 h with h|h
 ·rcases aP.1 h with h|h
  ·split at h
   ·rename_i J
    rw[aF]at h;subst h;have:=UY J I;refine⟨by show(2:Int)≠0;decide,?_⟩
    show b.tg≠ -1
    omega
   simp at h
  split at h
  ·rw[aF]at h;subst h;exact⟨by show(5:Int)≠0;decide,by show(-2:Int)≠ -1;decide⟩
  simp at h
 split at h
 ·rw[aF]at h;subst h;exact⟨by show(5:Int)≠0;decide,by show(-2:Int)≠ -1;decide⟩
 simp at h
def ao1{T S eZ K:Nat}(R:Rm m G B)(hB:B+46<=100000)(hb:dW m T S eZ K)(hn:n<5)(ho:o<5)(hq:q<2)(hst:m.ws (fT (FF m G))=0)(hM:Ve (FF m G q) o t e)(O:Ol (m.aj o) q t e)(r0:((m.aj o).bs q).F9=0)(C:Cb m [] q o t e T0):
 (((m.step n).aj o).bs q).F9=0/\Cb (m.step n) [] q o t e T0:=by
 have hu:=R.up n hn;obtain⟨rs,us,hU⟩:=(hb.jH n hn).uH hu;have J:∀j,j≠n->(m.step n).aj j=m.aj j:=λj hj=>nE hb hn hj;have h00:∃new,m.OM=m.OM++new/\ ∀x∈new,x.kd≠0/\x.tg≠ -1:=⟨[],(bI _).symm,λx h=>by cases h⟩;have fin:∀ {Z:Cl} {k:Nat} {b:bC} {new:List bO} {cO:Nd},m.step n=Z->Z.aj=PN m.aj n cO->cO.bs=PN (m.aj n).bs k b->cO.Mv=(m.aj n).Mv->cO.OO=none->Z.bQ=m.bQ->Z.OM=m.OM++new->(∀x∈new,x.kd≠0/\x.tg≠ -1)->(n=o->k=q->b.F9=0)->(((m.step n).aj o).bs q).F9=0/\Cb (m.step n) [] q o t e T0:=λ{Z k b new cO} e1 e2 e3 e4 e5 e6 e7 e8 e9=>by
  have eY:(m.step n).aj n=cO:=by rw[e1,e2];exact Jo _ _ _
  refine⟨?_,C.ext (n:=n) (new:=new) J (by rw[eY];exact e4) (by rw[eY,e5];rfl) (by rw[e1];exact e7) e8 (by rw[e1];exact e6)⟩;by_cases c:o=n
  ·subst c;rw[eY,e3];by_cases c2:q=k
   ·subst c2;rw[Jo];exact e9 E E
   rw[Ox c2];exact r0
  rw[J o c];exact r0
 cases I:(m.aj n).OO with
 |some p=>
  obtain⟨_,h2,h3⟩:=hU.FI p I
  cases p with
  |serve k Jp op num a=>
   have:=C.sv n hn;rw[I]at this
   cases this
  |P8 k b=>
   obtain⟨_,e1,f1,h4,_,_,_,h5,_⟩:=h2;refine fin (ng E hu I) E E E E E E (λx h=>?_) λc1 c2=>?_
   ·rw[aF]at h;subst h;refine⟨by show(3:Int)≠0;decide,?_⟩
    show b.fr≠ -1
    rw[h4]
    show f1≠ -1
    omega
   subst c1 c2;exact av I (O.be b)
  |T9 k b last=>
   have hr:=h2.1;have hne:n=o->k=q->False:=λc1 c2=>by subst c1 c2;omega
   cases last with
   |true=>exact fin (k:=k) (b:=b) (jP E hu I) E E E E E (bI _).symm (λx h=>by cases h) λc1 c2=>(hne c1 c2).elim
   |false=>
    refine fin (qZ E hu I) E E E E E E (λx h=>?_) λc1 c2=>(hne c1 c2).elim;rw[aF]at h;subst h;have hs:=fI (hU.mG k h3);have h5:b.fr=((m.aj n).bs k).fr:=(bP bC.fr (h2.2.2.2.1 E).1).trans E;unfold bL at hs;refine⟨by show(3:Int)≠0;decide,?_⟩
    show b.fr≠ -1
    omega
  |gy k b at_=>
   obtain⟨h4,h5⟩:=h2;have hr:=UY (.inl h4) (hU.mG k h3);have h6:b.tg=((m.aj n).bs k).tg:=by rw[h5]
   obtain⟨new,f1,f2⟩:∃new,lI n k b at_ m.OM=m.OM++new/\ ∀x∈new,x.kd≠0/\x.tg≠ -1:=by
    unfold lI
    split
    ·exact h00
    refine⟨_,E,λx h=>?_⟩;rw[aF]at h;subst h;refine⟨by show(4:Int)≠0;decide,?_⟩
    show b.tg≠ -1
    omega
   exact fin (oO E hu I) E E E E E f1 f2 λc1 c2=>by subst c1 c2;omega
  |P5 k b=>
   obtain⟨h4,h5⟩:=h2;exact fin (lK E hu I) E E E E E (bI _).symm (λx h=>by cases h) λc1 c2=>by subst c1 c2;omega
 |none=>
  obtain⟨H1,A1,r1,C1⟩:=Xn R hB hb hn hq ho hst hM O ⟨_,hU⟩ (λw=>((w.aj o).bs q).F9=0/\Cb w [] q o t e T0) (λw l r H up A hp1 hin hlb Bd hlq hU2 h3 ⟨z0,z1⟩=>by
   have M:(w.put n ((w.aj n).box r)).aj n=(w.aj n).box r:=aY _;have hbk:∀q,q<4->ay ((w.aj n).bs q)=0:=λq hq=>by have:=hU2.mG q hq;rw[M]at this;exact this
   have hl0:l∈(w.aj n).Mv:=by rw[hin];simp
   by_cases hk:l.kd=0
   ·obtain⟨k1,k2⟩:=z1.ki n hn l hl0 hk;have PX:n=o:=by omega
    subst PX;obtain⟨y1,y2⟩:=z1.call hn hin hp1 hk hlb k1 (hbk q Y) z0 (A.fo (.inl z0));refine⟨?_,y1⟩;rw[y2];exact z0
   have mP:=jG (m:=w.put n ((w.aj n).box r)) (n:=n) (l:=l) Y;obtain⟨⟨new,f1,f2⟩,f3,f4,f5⟩:=avK (q:=q) h3 hk (by rw[M];exact hp1) Y (λq hq=>by rw[M];exact hbk q hq);refine⟨?_,(z1.box hin hk).ext mP.oM mP.jk f4 f1 f2 f3⟩;by_cases c:o=n
   ·subst c;exact f5 (by rw[M];exact z0)
   rw[mP.oM o c,show(w.put n ((w.aj n).box r)).aj o=w.aj o from Ox c];exact z0) ⟨r0,C⟩
  rw[jy hu I]
  split
  ·obtain⟨us2,hU2⟩:=H1.tape;have M:((m.more n).lu n).aj n={ (m.more n).aj n with turn:=((m.more n).aj n).turn+1}:=Jo _ _ _;have e1:∀j,j≠n->((m.more n).lu n).aj j=(m.more n).aj j:=λj hj=>Ox hj;refine⟨?_,C1.ext (n:=n) e1 (by rw[M]) (by rw[M];exact C1.sv n hn) E (ao0 (hU2.mG _ (mod_lt _ dQ))) E⟩;by_cases c:o=n
   ·subst c;rw[M];exact r1
   rw[e1 o c];exact r1
  exact⟨r1,C1⟩
def ao2(C:Cb w (l::ls) q o t e T0)(hl:jY l)(hup:∀j,j<5->(w.aj j).up=true):Cb (w.P6 l) ls q o t e T0:=by
 obtain⟨b1,b2,b3,b4⟩:=hl;have J:∀x,x∈w.OM\/x∈ls->x∈w.OM\/x∈l::ls:=λx I=>I.elim .inl λh=>.inr (dM _ h);obtain⟨r,r1,r2,r3⟩:=C.td;by_cases h1:l.tg= -1
 ·have e1:w.P6 l={w with bQ:=w.bQ++[l.bQ]}:=au h1;rw[e1];refine⟨λx I=>C.kf x (J x I),C.ki,λx I=>C.rp x (J x I),C.sv,r++[l.bQ],?_,λx I=>?_,.inl (by simp)⟩
  ·show w.bQ++[l.bQ]=_
   rw[r1,gP]
  rcases aP.1 I with I|I
  ·exact r2 x I
  rw[aF]at I;subst I;exact(C.rp l (.inr gJ) h1).2
 rcases b3 with b3|⟨b3,b5,b6,b7⟩|⟨b3,b5,b6⟩
 ·exact av b3 h1
 ·have r3':r≠[]\/(∃x,(x∈w.OM\/x∈ls)/\(x.tg= -1\/x.kd=0))\/ ∃x∈(w.aj o).Mv,x.kd=0:=by
   rcases r3 with h|⟨x,I,O⟩|h
   ·exact .inl h
   ·rcases I with I|I
    ·exact .inr (.inl ⟨x,.inl I,O⟩)
    rcases iq.1 I with I|I
    ·subst I;omega
    exact .inr (.inl ⟨x,.inr I,O⟩)
   exact .inr (.inr h)
  unfold Cl.P6;rw[ah h1,au b3]
  split
  ·have hm:∀x,(x∈w.OM++[mE l.fr l.q (aN (eu w.off l) l.q).1]\/x∈ls)->(x∈w.OM\/x∈l::ls)\/(x.kd≠0/\x.tg≠ -1):=λx I=>by
    rcases I with I|I
    ·rcases aP.1 I with I|I
     ·exact .inl (.inl I)
     rw[aF]at I;subst I;refine .inr ⟨by show(6:Int)≠0;decide,?_⟩
     show l.fr≠ -1
     omega
    exact .inl (.inr (dM _ I))
   refine⟨λx I M=>?_,C.ki,λx I M=>?_,C.sv,r,r1,r2,?_⟩
   ·rcases hm x I with I|I
    ·exact C.kf x I M
    exact av M I.1
   ·rcases hm x I with I|I
    ·exact C.rp x I M
    exact av M I.2
   rcases r3' with h|⟨x,I,O⟩|h
   ·exact .inl h
   ·exact .inr (.inl ⟨x,I.elim (λh=>.inl (bM _ h)) .inr,O⟩)
   exact .inr (.inr h)
  exact⟨λx I=>C.kf x (J x I),C.ki,λx I=>C.rp x (J x I),C.sv,r,r1,r2,r3'⟩
 have e1:w.P6 l=w.put l.tg.toNat {w.aj l.tg.toNat with Mv:=(w.aj l.tg.toNat).Mv++[l]}:=by
  unfold Cl.P6;rw[ah h1,ah Y,au (hup _ Y)]
 rw[e1];have e0:(w.put l.tg.toNat {w.aj l.tg.toNat with Mv:=(w.aj l.tg.toNat).Mv++[l]}).aj l.tg.toNat={w.aj l.tg.toNat with Mv:=(w.aj l.tg.toNat).Mv++[l]}:=aY _;have e2:∀j,j≠l.tg.toNat->(w.put l.tg.toNat {w.aj l.tg.toNat with Mv:=(w.aj l.tg.toNat).Mv++[l]}).aj j=w.aj j:=λj Z=>Ox Z;refine⟨λx I=>C.kf x (J x I),λj Z x I M=>?_,λx I=>C.rp x (J x I),λj Z=>?_,r,r1,r2,?_⟩
 ·by_cases c:j=l.tg.toNat
  ·subst c;rw[e0]at I
   rcases aP.1 I with I|I
   ·exact C.ki _ Z x I M
   rw[aF]at I;subst I;exact C.kf x (.inr gJ) M
  rw[e2 j c]at I;exact C.ki j Z x I M
 ·by_cases c:j=l.tg.toNat
  ·subst c;rw[e0];exact C.sv _ Z
  rw[e2 j c];exact C.sv j Z
 rcases r3 with h|⟨x,I,O⟩|⟨x,I,O⟩
 ·exact .inl h
 ·rcases I with I|I
  ·exact .inr (.inl ⟨x,.inl I,O⟩)
  rcases iq.1 I with I|I
  ·subst I;have M:x.kd=0:=by omega
   obtain⟨_,k2⟩:=C.kf x (.inr gJ) M;refine .inr (.inr ⟨x,?_,M⟩);have k3:x.tg.toNat=o:=by omega
   rw[<-k3,e0];exact aK _ (aF.2 E)
  exact .inr (.inl ⟨x,.inr I,O⟩)
 refine .inr (.inr ⟨x,?_,O⟩);by_cases c:o=l.tg.toNat
 ·rw[c,e0];rw[c]at I;exact bM _ I
 rw[e2 o c];exact I
def Xo:∀(ls:List bO) {w:Cl},Cb w ls q o t e T0->(∀l∈ls,jY l)->(∀j,j<5->(w.aj j).up=true)->Cb (ls.foldl Cl.P6 w) [] q o t e T0
 |[],_,C,_,_=>C
 |l::ls,w,C,I,h=>by
  rw[qX];refine Xo ls (ao2 C (I l gJ) h) (λx J=>I x (dM _ J)) λj M=>?_;obtain⟨Z,O⟩:=AY w l j;rw[O];exact h j M
def avL(C:Cb m [] q o t e T0)(M:∀l∈m.OM,jY l)(I:∀j,j<5->(m.aj j).up=true):Cb m.all [] q o t e T0:=by
 refine Xo m.OM (w:={m with OM:=[]}) ⟨λl h J=>?_,C.ki,λl h J=>?_,C.sv,?_⟩ M I
 ·rcases h with h|h
  ·cases h
  exact C.kf l (.inl h) J
 ·rcases h with h|h
  ·cases h
  exact C.rp l (.inl h) J
 obtain⟨r,O,Z,r3⟩:=C.td;refine⟨r,O,Z,?_⟩
 rcases r3 with h|⟨l,h|h,h2⟩|h
 ·exact .inl h
 ·exact .inr (.inl ⟨l,.inr h,h2⟩)
 ·cases h
 exact .inr (.inr h)
structure Xp (w:Cl)(G:Nat->Gh)(q o t e B:Nat)(T0:List tZ):Prop where
 ph:Ph w G q o t e B
 r0:((w.aj o).bs q).F9=0
 cb:Cb w [] q o t e T0
def Xp.cu(h:Xp m G q o t e B T0)(I:B+46<=100000)(J:q<2)(M:o<5):∀i,i<=5-> ∃G',Xp (m.cu i) G' q o t e B T0
 | 0,_=>⟨G,h⟩
 |i+1,hi=>by
  obtain⟨G1,h1⟩:=h.cu I J M i Y;obtain⟨T,S,eZ,K,O⟩:=h1.ph.bn;obtain⟨G2,Z⟩:=h.ph.cu I J M (i+1) hi;obtain⟨a,b⟩:=ao1 (n:=i) h1.ph.rm I O Y M J h1.ph.st h1.ph.mv h1.ph.ol h1.r0 h1.cb;exact⟨G2,Z,a,b⟩
def Xp.mo(h:Xp m G q o t e B T0)(I:B+46<=100000)(J:q<2)(M:o<5):∃G',Xp m.mo G' q o t e B T0:=by
 obtain⟨G1,h1⟩:=h.cu I J M 5 Y;obtain⟨T,S,eZ,K,O⟩:=h1.ph.bn;obtain⟨G2,Z⟩:=h.ph.mo I J M;refine⟨G2,Z,?_,avL h1.cb O.nD h1.ph.rm.up⟩;obtain⟨ib,e1⟩:=rX (m.cu 5) o
 show(((m.cu 5).all.aj o).bs q).F9=0
 rw[e1];exact h1.r0
def Xp.rs(h:Xp m G q o t e B T0)(I:B+46<=100000)(J:q<2)(M:o<5):∀T,∃G',Xp (m.rs T) G' q o t e B T0
 | 0=>⟨G,h⟩
 |T+1=>by
  obtain⟨G1,h1⟩:=h.rs I J M T;exact h1.mo I J M
def Xp.told(Z:o<5)(h:Xp (m.rs (k+1)) G q o t e B T0)(hc:(m.rs (k+1)).ws bV=0):∃x,(m.rs (k+1)).bQ.getLast?=some x/\Gd t e x:=by
 obtain⟨r,r1,r2,r3⟩:=h.cb.td;have h6:∀x∈(m.rs (k+1)).OM,x.kd=6:=Nj _ (w:={ ((m.rs k).cu 5)with OM:=[]}) λx hx=>by cases hx
 have M:r≠[]:=by
  rcases r3 with I|⟨l,I|I,J⟩|⟨l,I,J⟩
  ·exact I
  ·have O:=h6 l I
   rcases J with J|J
   ·have:=(h.cb.rp l (.inl I) J).1;omega
   omega
  ·cases I
  exfalso
  have O:eB bV ((m.rs (k+1)).aj o).Mv=0:=by
   unfold Cl.ws at hc
   rcases five Z with h|h|h|h|h<;>rw[h]<;>omega
  have:=zG O l I;unfold bV at this;rw[au J]at this
  cases this
 obtain⟨s,x,rfl⟩:∃s x,r=s++[x]:=⟨_,_,(List.dropLast_concat_getLast M).symm⟩;exact⟨x,by rw[r1,<-gP,getLast?_concat],r2 x (aK _ (aF.2 E))⟩
def Bf(o q:Nat):Ac:=⟨2,(o:Nat),(q:Nat),0,0,2,0,0,0,0,0⟩
def Ov(o q:Nat)(c:Int):bO:=xB (o:Nat) q ⟨2,0,0,0,0,0⟩ c
def aiq:w.Ub (Bf o q)={w with OM:=w.OM++[Ov o q w.calls],calls:=w.calls+1}:=by
 unfold Cl.Ub;rw[ah (by show(2:Int)≠1;decide),au (show(Bf o q).kd=2 from E)];rfl
def avM(h:o<5)(I:q<2):Es (Bf o q):=
 ⟨by show(1:Int)<=2/\(2:Int)<=10;decide,by show 0<=(o:Int)/\(o:Int)<=4;omega,by show 0<=(q:Int)/\(q:Int)<=3;omega,by show(0:Int)<=0/\(0:Int)<=1048576;decide,by show(0:Int)<=0/\(0:Int)<=100000;decide,λ_=>⟨by show bK (⟨2,0,0,0,0,0⟩:Ev)=0;decide,by show(2:Int)≠4;decide⟩⟩
def ao3(J:jY l)(h:∀x∈w.OM,x.tg≠ -1):∀x∈(w.P6 l).OM,x.tg≠ -1:=λx I=>by
 obtain⟨b1,b2,b3,b4⟩:=J;unfold Cl.P6 at I
 split at I
 ·exact h x I
 rename_i h1
 split at I
 ·rename_i M
  split at I
  ·rcases aP.1 I with I|I
   ·exact h x I
   rw[aF]at I;subst I
   show l.fr≠ -1
   omega
  exact h x I
 split at I
 ·exact h x I
 exact h x I
def Xq:∀(ls:List bO) {w:Cl},(∀x∈w.OM,x.tg≠ -1)->(∀l∈ls,jY l)-> ∀x∈(ls.foldl Cl.P6 w).OM,x.tg≠ -1
 |[],_,h,_=>h
 |l::ls,w,h,I=>by
  rw[qX];exact Xq ls (ao3 (I l gJ) h) λx J=>I x (dM _ J)
def avN(h:Bn m):∀x∈m.mo.OM,x.tg≠ -1:=by
 obtain⟨T,S,eZ,K,I⟩:=oW h 5 aB;exact Xq _ (w:={ (m.cu 5)with OM:=[]}) (λx J=>by cases J) I.nD
def Calm.moved(C:Calm w G B)(R:Rest w G q)(M:q<2)(ht:t<5)(O:t≠(G q).o)(hG:(G q).G.length<=290):Ph (w.move q (t:Nat)) G q (G q).o t (G q).m (B+14100):=by
 have I:=C.rm.qi q M;obtain⟨Z,_,hF,_⟩:=C.drain R M (tg:=(t:Nat)) Y Y Y hG;refine⟨Z.rm,Z.bn,Z.st,?_,?_⟩
 ·rw[hF];exact⟨E,I.m1,O,.inl ⟨E,E,E⟩⟩
 rw[C.go R M Y Y Y,show(w.aC (G q).o q (ru w (G q).o q (t:Nat))).aj (G q).o=(w.aj (G q).o).aC q (ru w (G q).o q (t:Nat))from aY _];have hr:(((w.aj (G q).o).aC q (ru w (G q).o q (t:Nat))).bs q).F9=2:=bP bC.F9 (Jo _ _ _);have hp:=C.pn _ I.o5;refine⟨by omega,λb hb=>?_,.inl ?_,λc=>?_⟩
 ·have J:(w.aj (G q).o).OO=_:=hb;rw[hp]at J;cases J
 ·have h:=(C.su.jH _ I.o5 q M).1;rw[R.di]at h;exact h
 rcases c with c|⟨b,c⟩
 ·omega
 have c':(w.aj (G q).o).OO=_:=c;rw[hp]at c';cases c'
def Ph.left(h:Ph x G' q o t e B)(Z:UA m x G G2 B)(M:q<2)(J:o<5)(h1:(G2 q).o=t)(hne:t≠o):((x.aj o).bs q).F9=0/\((x.aj o).bs q).Jp=[]/\(x.aj o).PS q=hT t e:=by
 have I:=Z.rm.qi q M;have O:=Z.rm.up o J;obtain⟨f1,_⟩:=Z.fair J M;rw[iC O]at f1;have hO:=I.oM o J Y;rw[iC O]at hO;have h4:=h.ol.rl;have hr:((x.aj o).bs q).F9=0:=by
  rcases hO with⟨a,_⟩|⟨k,a,_⟩|⟨k,a,_⟩
  ·exact a
  ·exact av (.inr a) f1
  exact av a h4
 obtain⟨T,S,eZ,K,hb⟩:=Z.bn;have hs:=fI ((hb.jH o J).mG q Y);unfold bL at hs;refine⟨hr,pW.1 Y,h.ol.fo (.inl hr)⟩
def UA.called(Z:UA m x G G2 B)(hB:B+92<=100000)(hq:q<2)(ho:o<5)(hM:Ve (FF x G2 q) o t e)(hO:Ol (x.aj o) q t e)(r0:((x.aj o).bs q).F9=0)(Bd:∀l∈x.OM,l.tg≠ -1)(hG:∀k,k<2->(G2 k).G.length<=290)(hr:25<=r):
 ∃y,((x.Ub (Bf o q)).rs r).bQ.getLast?=some y/\Gd t e y:=by
 have C:=Z.calm;obtain⟨T,S,eZ,K,hb⟩:=Z.bn;have hac:Es (Bf o q):=avM ho hq;have O:Bn (x.Ub (Bf o q)):=⟨_,_,_,_,WC hb hac⟩;rw[aiq]at O⊢;have hvw:∀q,vw ({x with OM:=x.OM++[Ov o q x.calls],calls:=x.calls+1}:Cl) q=vw x q:=λ_=>E;have hws:∀f:bO->Nat,({x with OM:=x.OM++[Ov o q x.calls],calls:=x.calls+1}:Cl).ws f=x.ws f+f (Ov o q x.calls):=λf=>by
  unfold Cl.ws;dsimp only;rw[vo,Ib];omega
 have hFF:FF ({x with OM:=x.OM++[Ov o q x.calls],calls:=x.calls+1}:Cl) G2=FF x G2:=rfl;have hk:(Ov o q x.calls).kd=0:=rfl;have hst:({x with OM:=x.OM++[Ov o q x.calls],calls:=x.calls+1}:Cl).ws (fT (FF x G2))=0:=by
  rw[hws,C.st,DV (.inl ⟨by rw[hk];decide,by rw[hk];decide⟩)]
 have M:({x with OM:=x.OM++[Ov o q x.calls],calls:=x.calls+1}:Cl).ws bV=1:=by
  rw[hws,C.dZ];rfl
 have hpn:=C.pn;have J:∀j,j<5->vC (x.aj j).OO=0:=λj hj=>by rw[hpn j hj];rfl
 have hc0:({x with OM:=x.OM++[Ov o q x.calls],calls:=x.calls+1}:Cl).c0=1:=by
  unfold Cl.c0;rw[M]
  show 1+(vC (x.aj 0).OO+(vC (x.aj 1).OO+(vC (x.aj 2).OO+(vC (x.aj 3).OO+vC (x.aj 4).OO))))=1
  rw[J 0 dQ,J 1 dQ,J 2 dQ,J 3 dQ,J 4 dQ]
 have hrm:Rm {x with OM:=x.OM++[Ov o q x.calls],calls:=x.calls+1} G2 (B+46):=by
  refine⟨Z.rm.up,Z.rm.vd.aj E (sM hq),λk hk2=>(WM (Z.rm.qi k hk2) E).1,λj hj=>?_,λk hk2=>?_⟩
  ·have h:=Z.rm.Ct j hj;unfold Ct at h⊢;rw[hFF,hws,show tJ (FF x G2) (Ov o q x.calls)=46 from au E]
   show(x.aj j).data.length+(x.ws (tJ (FF x G2))+46)+(fi (FF x G2 0) j (qw (x.aj j) 0)+fi (FF x G2 1) j (qw (x.aj j) 1))+0<=B+46
   omega
  have hR:(FF x G2 k).R<=1:=by
   unfold FF Ap;dsimp only
   split<;>omega
  have:=hG k hk2;rw[hc0,hFF];omega
 have hzz:ZZ {x with OM:=x.OM++[Ov o q x.calls],calls:=x.calls+1} (FF x G2)=16:=by
  have hz:=Z.zz;have hc:=C.dZ;have hs:=C.st;unfold ZZ PP at hz⊢;rw[M,hst];rw[hc,hs]at hz
  show 8*(2*1+(qQ (FF x G2 0) (x.off.at 0).ME (vq x 0)+qQ (FF x G2 1) (x.off.at 1).ME (vq x 1)))+2*0+(o5 λj=>sK (x.aj j).OO)=16
  omega
 obtain⟨G3,Z3⟩:=asg (T:=r) Y hrm O ⟨Z.su.jH,Z.su.two,Z.su.Vb⟩ (by rw[hFF,hzz];omega);have hf0:∀l∈x.OM,l.kd≠0:=λl I h0=>by
  have hc:=C.dZ;unfold Cl.ws at hc;have:=zG (f:=bV) (a:=x.OM) Y l I;unfold bV at this;rw[au h0]at this
  cases this
 have hi0:∀n,n<5-> ∀l∈(x.aj n).Mv,l.kd≠0:=λn hn l I h0=>by
  have hc:=C.dZ;unfold Cl.ws at hc;have:=zG (f:=bV) (a:=(x.aj n).Mv) (by rcases five hn with h|h|h|h|h<;>rw[h]<;>omega) l I;unfold bV at this;rw[au h0]at this
  cases this
 have hm:∀l,(l∈x.OM++[Ov o q x.calls]\/l∈([]:List bO))->l∈x.OM\/l=Ov o q x.calls:=λl I=>by
  rcases I with I|I
  ·rcases aP.1 I with I|I
   ·exact .inl I
   exact .inr (aF.1 I)
  cases I
 have P:Xp {x with OM:=x.OM++[Ov o q x.calls],calls:=x.calls+1} G2 q o t e (B+46) x.bQ:=by
  refine⟨⟨hrm,O,hst,hM,hO⟩,r0,λl I h0=>?_,λn hn l I h0=>av h0 (hi0 n hn l I),λl I h1=>?_,J,[],(bI _).symm,(λx hx=>by cases hx),.inr (.inl ⟨Ov o q x.calls,.inl (aK _ (aF.2 E)),.inr E⟩)⟩
  ·rcases hm l I with I|I
   ·exact av h0 (hf0 l I)
   rw[I];exact⟨E,E⟩
  rcases hm l I with I|I
  ·exact av h1 (Bd l I)
  rw[I]at h1;have h2:(o:Int)= -1:=h1;omega
 obtain⟨k,rfl⟩:∃k,r=k+1:=⟨r-1,by omega⟩;obtain⟨G4,P4⟩:=P.rs Y hq ho (k+1);exact P4.told ho Z3.calm.dZ
end
def ao4(a b:Int)(w:World):(binOp .neq 27 (.agg ([Value.int .i64 a,.int .i64 b]).toArray) (.agg ([Value.int .i64 a,.int .i64 b]).toArray)).run prog w=.ok (.bool false) w:=
 afd w (l:=(.at_ (.int .i64):: .at_ (.int .i64)::[])) (by kernel_rfl) (by kernel_rfl) (λxs=>by unfold mkV;rw[underlying27]) ⟨⟨_,E⟩,⟨_,E⟩,trivial⟩
def ao5(a b:Int)(w:World):(binOp .eql 27 (.agg ([Value.int .i64 a,.int .i64 b]).toArray) (.agg ([Value.int .i64 a,.int .i64 b]).toArray)).run prog w=.ok (.bool true) w:=
 Io w (l:=(.at_ (.int .i64):: .at_ (.int .i64)::[])) (by kernel_rfl) (by kernel_rfl) (λxs=>by unfold mkV;rw[underlying27]) ⟨⟨_,E⟩,⟨_,E⟩,trivial⟩
def aky(x:TW)(w:World):(binOp .eql 30 (.agg (x.cells).toArray) (.agg (x.cells).toArray)).run prog w=.ok (.bool true) w:=
 Io w (l:=(.at_ (.int .i64):: .at_ (.int .i64):: .at_ (.int .i64):: .at_ (.int .i64):: .at_ (.int .i64):: .at_ (.int .i64):: .at_ (.int .i64):: .at_ (.int .i64)::[])) (by kernel_rfl) (by kernel_rfl) (λxs=>by unfold mkV;rw[underlying30]) ⟨⟨_,E⟩,⟨_,E⟩,⟨_,E⟩,⟨_,E⟩,⟨_,E⟩,⟨_,E⟩,⟨_,E⟩,⟨_,E⟩,trivial⟩
def agv{d e:TW}(h:d=e)(w:World):(binOp .eql 30 (.agg d.cells.toArray) (.agg e.cells.toArray)).run prog w=.ok (.bool true) w:=by
 subst h;exact aky _ w
def TL:fA 30 0 0:=λ_ _ _=>kQ
def ady:fA 42 0 0:=λ_ _ _=>kQ
def ao6:fA 42 5 5:=λ_ _ _=>kQ
def ao7:fA 54 0 0:=λ_ _ _=>kQ
def ao8:fA 56 1 1:=λ_ _ _=>kQ
abbrev Jm:Array Value:= #[.int .i64 0,.bool false,.bool false,.bool false,.bool false,.bool false,.int .i64 0,.int .i64 0,.int .i64 0,.int .i64 0,.int .i64 0,.int .i64 0,.int .i64 0,.int .i64 0,.slice none 0 0,.slice none 0 0,.slice none 0 0,.int .i64 0]
abbrev Vg (o q:Nat):Array Value:= #[.int .i64 2,.int .i64 (o:Int),.int .i64 (q:Int),.int .i64 0,.int .i64 0,.int .i64 2,.int .i64 0,.int .i64 0,.int .i64 0,.int .i64 0,.int .i64 0]
def xL{l:List Ac}{A:Option Addr}{c n:Nat}(hn:n=l.length)(I:l.length<=100000)(w:World)(h:Rd w w.heap.size 11 A n (l.flatMap Ac.cells)):
 Calls prog 10 #[.slice A n c] w (λe w'=>e=.returned (.int .i64 ((jA l:Nat):Int))/\Below w.heap.size w w'):=by
 subst hn;exact Jf I w h
def Cu{s F:List Ac}{A:Option Addr}{c r n:Nat}(hn:n=s.length)(I:F=iB s r)(J:r<=100000)(M:s.length<=100000)(w:World)(h:Rd w w.heap.size 11 A n (s.flatMap Ac.cells)):
 Calls prog 9 #[.slice A n c,.int .i64 (r:Int)] w (λe w'=> ∃A' c',e=.returned (.slice A' F.length c')/\St w.heap.size w w' [.own 51 11 (.slice A' F.length c') F.length (F.flatMap Ac.cells)]):=by
 subst hn;exact ail I J M w h
section
variable {P:Program}{N:Nat}{ops:Array Oper}{Q:Exit->Act->World->Prop}{C:World->Prop}{n n':Nat}{listed listed':Array Bool}{l:P7}{w:World}{X:Type}
def yG(L:X->P7)(I:X->World->Prop)(h1:∀x w,I x w->wA P N ops Q C n' listed' (L x) w)(h:(∀x w,I x w->wA P N ops Q C n' listed' (L x) w)->wA P N ops Q C n listed l w):wA P N ops Q C n listed l w:=h h1
def lq{L:X->P7}{I:X->World->Prop}(h1:∀x w,I x w->wA P N ops Q C n listed (L x) w)(x:X)(h:I x w)(hs:KM l (L x)):wA P N ops Q C n listed l w:=λa F=>h1 x w h a (F.sub hs)
end
def Xr{l:List tZ}{y:tZ}(h:l.getLast?=some y):l[l.length-1]? =some y:=by rw[<-getLast?_eq_getElem?];exact h
def avO{y:tZ}{p:Pl}(h:y.pl=p):∀(j:Nat) (u:Value),[Value.int .i64 p.node,Value.int .i64 p.ME][j]? =some u->y.cells[5+j]? =some u:=by
 subst h;intro j u I
 match j with
 | 0=>exact I
 | 1=>exact I
 |j+2=>simp at I
def avP{y:tZ}(h:y.Ut.code=7):y.cells[1]? =some (.int .i64 7):=by
 rw[<-h];rfl
def YB{gs:List Gr}{s F S2 X cO:List Ac}{A:Option Addr}{c q t o e:Nat}{a b:Int}{w:World}(hs:s=aH gs 80 false)(hF:F=iB s (jA s))(hS2:S2=F++[JW t q])(hX:X=iB S2 (jA S2))(hY:cO=iB (X++[Bf o q]) (jA S2+20))(hg:∀g∈gs,g.ok)(h0:∀a∈F,dn a=0)(h02:∀a∈X,dn a=0)(h03:∀a∈cO,dn a=0)(hsl:s.length<=1000)(hl2:F.length+1=S2.length)(hFl:F.length<=50000)(hXl:X.length<=50000)(hYl:cO.length<=100000)(htl:(lT.run cO).bQ.length<=1000000000000)(hen:jA s<=50000)(aP9:jA S2<=50000)(hq:q<2)(ht:t<5)(ho:o<5)(he:e<=100000)(hu:Uk w.heap.size w)(h:Rd w w.heap.size 5 A gs.length (gs.flatMap Gr.cells))(aH2:∀w,Calls prog 11 #[.int .i64 a,.int .i64 2] w (λe w'=>e=.returned (.int .i64 (q:Int))/\w'=w))(aH3:∀w,Calls prog 11 #[.int .i64 b,.int .i64 5] w (λe w'=>e=.returned (.int .i64 (t:Int))/\w'=w))(hd:(lT.run F).off.at q=⟨(o:Int),(e:Int)⟩)(hst:(t=o->(lT.run X).off=(lT.run F).off)/\(t≠o->(lT.run X).off.at q=⟨(t:Int),((e+1:Nat):Int)⟩/\(((lT.run X).aj t).view q).F9=1/\(((lT.run X).aj o).view q).F9=0/\(((lT.run X).aj o).view q).Jp=[]/\ ∃y,(lT.run cO).bQ.getLast?=some y/\y.pl=⟨(t:Int),((e+1:Nat):Int)⟩/\y.Ut.code=7)):
 Calls prog 4 #[.slice A gs.length c,.int .i64 a,.int .i64 b] w (λe w'=>e=.returned (.bool true)/\Below w.heap.size w w'):=by
 have S:=(St.start w).dJ h;refine jc 171 Tryz.func4 ?_;refine cw [0,1,2] ?_;refine zN 8 ?_;refine dZ eQ (aH2 _) ?_;rintro _ w1 ⟨rfl,hq2⟩;refine⟨_,E,?_⟩
 replace hq2:=hq2.symm
 subst hq2;refine zN 6 ?_;refine dZ eQ (akr (m:=80) hs (by decide) hg _ ((St.rd 0 S E))) ?_;rintro _ w5 ⟨A3,c4,rfl,T7⟩;refine⟨_,E,?_⟩;have S6:=S.ext T7 E;refine zN 7 ?_;refine UR eQ S6 (Jf (by omega) _ (St.Uz 0 S6 E)) ?_;intro w8 S9;refine dZ eQ (ail (r:=jA s) hF (by omega) (by omega) _ ((St.Uz 0 S9 E))) ?_;rintro _ Fy ⟨A11,c12,rfl,T15⟩;refine⟨_,E,?_⟩;have pz:=S9.ext T15 E;refine zN 6 ?_;refine dZ eQ (Z9 h0 (by omega) pz hu (Ro.own (jN (i:=0) E))) ?_;rintro _ w16 ⟨x,L0,rfl,aH4,Bc⟩;refine⟨_,E,?_⟩;have hX1:=aH4;have tq:=Bc.perm (show(L0++([.own 51 11 (.slice A11 F.length c12) F.length ((F).flatMap Ac.cells),.own 51 11 (.slice A3 s.length c4) s.length ((s).flatMap Ac.cells),.rd 5 A gs.length ((gs).flatMap Gr.cells)]:List OJ)).Perm (([.own 51 11 (.slice A11 F.length c12) F.length ((F).flatMap Ac.cells),.own 51 11 (.slice A3 s.length c4) s.length ((s).flatMap Ac.cells),.rd 5 A gs.length ((gs).flatMap Gr.cells)]:List OJ)++(L0++[])) by rw[bI];exact AO);refine zN 3 ?_;refine nR (V:=λb=>.pointer (some ⟨b,0,none⟩)) (row:=Jm) (t:=35) tq (wn E) E E (gK E (zeroValue35 _) E) ?_;intro b20 Iz l6;refine stA 0 l6 kQ ?_;intro Ma l7;refine zN 14 ?_;have hd1:x.d.at q=⟨(o:Int),(e:Int)⟩:=by rw[hX1.d];exact hd
 refine zN 3 ?_;refine vv (vP 6 TL) ?_;refine vv (v:=.pointer (some ⟨b20,6+q*2,none⟩)) (bF E E E (fP q underlying28 kQ E (by omega))) ?_;refine vv (v:=.agg #[.int .i64 (o:Int),.int .i64 (e:Int)]) (aA E E (qc (cs:=[.int .i64 (o:Int),.int .i64 (e:Int)]) underlying27 E kQ E (λj u hu=>St.cl 0 l7 E (agY (x:=x) (by omega) j u (by rw[hd1];exact hu))))) ?_;refine nR (V:=λb=>.pointer (some ⟨b,0,none⟩)) (row:= #[.int .i64 0,.int .i64 0]) (t:=27) l7 (wn E) E E (gK E (zeroValue27 _) E) ?_;intro Z Pt vJ;refine stA 0 vJ kQ ?_;intro YQ vT;refine zN 5 ?_;refine dZ eQ (aH3 _) ?_;rintro _ YM ⟨rfl,asi⟩;refine⟨_,E,?_⟩
 replace asi:=asi.symm
 subst asi;refine zN 4 ?_;have wP:=vT.bq [4,3];refine zN 4 ?_;refine vv (v:=.agg #[.int .i64 10,.int .i64 (t:Int),.int .i64 (q:Int),.int .i64 0,.int .i64 0,.int .i64 0,.int .i64 0,.int .i64 0,.int .i64 0,.int .i64 0,.int .i64 0]) iJ ?_;refine Uc wP ?_;intro b33 w34 CV;refine eG (news:=[.int .i64 10,.int .i64 (t:Int),.int .i64 (q:Int),.int .i64 0,.int .i64 0,.int .i64 0,.int .i64 0,.int .i64 0,.int .i64 0,.int .i64 0,.int .i64 0]) (xs':=(S2).flatMap Ac.cells) 3 CV (wn E) E E E E E E (St.nP (xs:=[.int .i64 10,.int .i64 (t:Int),.int .i64 (q:Int),.int .i64 0,.int .i64 0,.int .i64 0,.int .i64 0,.int .i64 0,.int .i64 0,.int .i64 0,.int .i64 0]) 0 CV E E E) underlying23 Ch E (by decide) (dx E) (by simp only[maxLen];omega) (by omega) (jO (enc:=Ac.cells) (x:=JW t q) hS2.symm E) ?_;intro J M w38 axB axC Co;refine zN 4 ?_;have Ee:=Co.bq [0];refine zN 3 ?_;refine UR eQ Ee (xL hl2 (by omega) _ (St.Uz 2 Ee E)) ?_;intro w43 EK;refine dZ eQ (Cu (r:=jA S2) hl2 hX (by omega) (by omega) _ ((St.Uz 2 EK E))) ?_;rintro _ YR ⟨A46,c47,rfl,T50⟩;refine⟨_,E,?_⟩;have yM:=EK.ext T50 E;refine dZ eQ (Z9 h02 (by omega) yM hu (Ro.own (jN (i:=0) E))) ?_;rintro _ w51 ⟨x2,L2,rfl,aH5,qO⟩;refine⟨_,E,?_⟩;have hX2:=aH5;have CP:=qO.perm (perm_append_comm_assoc L2 ([.own 51 11 (.slice A46 X.length c47) X.length ((X).flatMap Ac.cells),.Oy Z #[.int .i64 (o:Int),.int .i64 (e:Int)] 27,.Oy b20 (oX x) 35,.own 51 11 (.slice J (F.length+1) M) (F.length+1) ((S2).flatMap Ac.cells)]:List OJ) (L0++[]));refine zN 3 ?_;refine nR (V:=λb=>.pointer (some ⟨b,0,none⟩)) (row:=Jm) (t:=35) CP (wn E) E E (gK E (zeroValue35 _) E) ?_;intro O w56 wY;refine stA 0 wY kQ ?_;intro w58 zT;refine zN 19 ?_;by_cases h60:(t:Int)=(o:Int)
 ·refine zN 5 ?_;have hdx:x2.d=x.d:=hX2.d.trans ((hst.1 (by omega)).trans hX1.d.symm);refine zN 2 ?_;refine vv (aA E E (qc (cs:=[.int .i64 x2.d.p0.node,.int .i64 x2.d.p0.ME,.int .i64 x2.d.p1.node,.int .i64 x2.d.p1.ME,.int .i64 x2.d.p2.node,.int .i64 x2.d.p2.ME,.int .i64 x2.d.p3.node,.int .i64 x2.d.p3.ME]) underlying30 E kQ E (St.rg 0 zT E (oG (x:=6) (m:=8) E)))) ?_;refine zQ ?_;refine vv (aA E E (qc (cs:=[.int .i64 x.d.p0.node,.int .i64 x.d.p0.ME,.int .i64 x.d.p1.node,.int .i64 x.d.p1.ME,.int .i64 x.d.p2.node,.int .i64 x.d.p2.ME,.int .i64 x.d.p3.node,.int .i64 x.d.p3.ME]) underlying30 E kQ E (St.rg 3 zT E (oG (x:=6) (m:=8) E)))) ?_;refine vv (v:=.bool true) (cK E E E (Dx (by kernel_rfl) (agv hdx _))) ?_;refine zN 6 ?_;exact⟨E,zT.Qe⟩
 refine zN 6 ?_;obtain⟨hd0,hr1,hr0,hev,yt,hy1,hy2,hy3⟩:=hst.2 (by omega);have hl3:X.length+1=(X++[Bf o q]).length:=by rw[aZ];rfl
 have hd2:x2.d.at q=⟨(t:Int),((e+1:Nat):Int)⟩:=by rw[hX2.d];exact hd0
 have IE:=zT.bq [1];refine zQ ?_;have Ef:=IE.drew;refine F8 (C:=λw'=>St w.heap.size w w' ((.Oy O (oX x2) 35)::(.Oy Z #[.int .i64 (o:Int),.int .i64 (e:Int)] 27)::(.Oy b20 (oX x) 35)::(.own 51 11 (.slice J (F.length+1) M) (F.length+1) ((S2).flatMap Ac.cells))::(L2++(L0++[])))) (n:=22) (listed:= #[false,false,false,false,false,false,false,false,false,false,false,false,false,false,false,false,false,false,false,false,false,false]) mixed E E ?_;refine yG (n':=1) (listed':= #[true,true,true,true,true,true,true,true,true,true,true,true,true,true,true,true,true,true,true,true,true,false]) (X:=Nat×OX×(Option Addr)×Nat×Nat×(Option Addr)×Nat×(List OJ)) (λI=>[(6,.bool false),(7,.int .i64 (q:Int)),(11,.pointer (some ⟨Z,0,none⟩)),(12,.int .i64 (t:Int)),(13,.pointer (some ⟨O,0,none⟩)),(82,.bool true),(15,.pointer (some ⟨I.1,0,none⟩))]) (λI wr=>(Z7 I.2.2.2.2.2.2.2 (lT.run cO) I.2.1)/\St w.heap.size w wr ((.Oy I.1 (oX I.2.1) 35)::(.own 51 11 (.slice I.2.2.1 cO.length I.2.2.2.1) cO.length ((cO).flatMap Ac.cells))::(.Oy I.2.2.2.2.1 (Vg o q) 51)::(.own 51 11 (.slice I.2.2.2.2.2.1 (X.length+1) I.2.2.2.2.2.2.1) (X.length+1) ((X++[Bf o q]).flatMap Ac.cells))::(.Oy O (oX x2) 35)::(.Oy Z #[.int .i64 (o:Int),.int .i64 (e:Int)] 27)::(.Oy b20 (oX x) 35)::(.own 51 11 (.slice J (F.length+1) M) (F.length+1) ((S2).flatMap Ac.cells))::(I.2.2.2.2.2.2.2++(L2++(L0++[]))))) ?_ (λayU=>?_)
 ·rintro⟨b64,ale,A66,c67,b68,A69,c70,L71⟩ w72 ⟨asj,tQ⟩
  try dsimp only at asj tQ
  try dsimp only
  refine qW (v:=.bool true) (i:=21) (n:=0) E (by kernel_rfl) (by kernel_rfl) (by kernel_rfl) (St.sub (tQ.lV [3,2,1,0]) (Sublist.cons_cons _ (Sublist.cons_cons _ (Sublist.cons_cons _ (Sublist.cons_cons _ (sublist_append_right _ _)))))) E (wn E) E E (λ_ _=>ya) ?_;refine dI ?_;refine zN 2 ?_;have asl:∀f∈L71,f∈(L71++(L2++(L0++[]))):=λf h=>bM _ h;have VF:∀f∈L2,f∈(L71++(L2++(L0++[]))):=λf h=>aK _ (bM _ h);have htn:=asj.tn;have hty:=Xr hy1;have htd:=asj.bQ;rw[<-htn]at hty;have htp:0<ale.tn:=by rw[htn];exact(dw.1 (Xr hy1)).1 |> Nat.lt_of_le_of_lt (aG _)
  obtain⟨bT,oT,hTa⟩:=DU htd tQ (PO 8 E asl) htp;obtain⟨jt,hjt⟩:∃jt,ale.tn=jt+1:=⟨ale.tn-1,by omega⟩;rw[show ale.tn-1=jt by omega]at hty;have hjb:jt<=1000000000000:=by omega
  obtain⟨ps2,aQa,alf,ayW⟩:=hX2.ps;obtain⟨bA2,oA2,aac⟩:=DU alf tQ (PO 8 E VF) (by decide);obtain⟨p7,hp7⟩:∃p,ps2[t]? =some p:=⟨_,eT (by omega)⟩;have ayX:=ayW _ _ hp7;obtain⟨y7,hy7,aH6⟩:=aqu ayX (q:=q) (by omega);obtain⟨p8,hp8⟩:∃p,ps2[o]? =some p:=⟨_,eT (by omega)⟩;have asn:=ayW _ _ hp8;obtain⟨y8,hy8,aH7⟩:=aqu asn (q:=q) (by omega);rw[<-aH6]at hr1;rw[<-aH7]at hr0 hev;have hel:y8.b.Jp.length=0:=by rw[hev];rfl
  refine zQ ?_;refine je tQ mixed (by kernel_rfl) ?_;refine zN 14 ?_;refine ug (v:=.int .i64 ((jt:Nat):Int)) (λ_ _=>ysu) ?_;refine ug (v:=.pointer (some ⟨bT,oT+jt*7,none⟩)) (λ_ _=>(bF E E E (jF jt hTa underlying33 kQ E (by omega)))) ?_;refine zQ ?_;refine ug (v:=.agg #[.int .i64 (t:Int),.int .i64 ((e+1:Nat):Int)]) (λ_ aH8=>(aA E E (qc (cs:=[.int .i64 (t:Int),.int .i64 ((e+1:Nat):Int)]) underlying27 E kQ E (λj u hu=>by rw[show oT+jt*7+5+j=oT+(jt*7+(5+j)) by omega];exact p9 htd hTa aH8 (PO 8 E asl) (dF (enc:=tZ.cells) (sz:=7) (k:=jt) (λ_=>E) hty (avO hy2 j u hu)))))) ?_;refine zN 2 ?_;refine ug (v:=.pointer (some ⟨O,6,none⟩)) (λ_ _=>vP _ TL) ?_;refine ug (v:=.pointer (some ⟨O,6+q*2,none⟩)) (λ_ _=>(bF E E E (fP q underlying28 kQ E (by omega)))) ?_;refine ug (v:=.agg #[.int .i64 (t:Int),.int .i64 ((e+1:Nat):Int)]) (λ_ aH9=>(aA E E (qc (cs:=[.int .i64 (t:Int),.int .i64 ((e+1:Nat):Int)]) underlying27 E kQ E (λj u hu=>St.cl 4 aH9 E (agY (x:=x2) (by omega) j u (by rw[hd2];exact hu)))))) ?_;refine ug (v:=.bool false) (λ_ _=>(cK E E E (Dx (by kernel_rfl) (ao4 _ _ _)))) ?_;refine zN 7 ?_;refine ug (v:=.int .i64 ((jt:Nat):Int)) (λ_ _=>ysu) ?_;refine ug (v:=.pointer (some ⟨bT,oT+jt*7,none⟩)) (λ_ _=>(bF E E E (jF jt hTa underlying33 kQ E (by omega)))) ?_;refine ug (v:=.pointer (some ⟨bT,oT+jt*7+1,none⟩)) (λ_ _=>vP _ ao8) ?_;refine ug (v:=.pointer (some ⟨bT,oT+jt*7+1,none⟩)) (λ_ _=>vP _ ao7) ?_;refine ug (v:=.int .i64 7) (λ_ aBo=>(aA E E (zI Tryz.underlying52 E (by rw[show oT+jt*7+1=oT+(jt*7+1) by omega];exact p9 htd hTa aBo (PO 8 E asl) (dF (enc:=tZ.cells) (sz:=7) (k:=jt) (j:=1) (λ_=>E) hty (avP hy3)))))) ?_;refine zN 2 ?_;refine jB λakJ sS=>?_;refine zN 5 ?_;refine je sS mixed (by kernel_rfl) ?_;refine zN 2 ?_;refine uv (v:=.pointer (some ⟨O,6,none⟩)) (λ_ _=>vP _ TL) ?_;refine uv (v:=.pointer (some ⟨O,6+q*2,none⟩)) (λ_ _=>(bF E E E (fP q underlying28 kQ E (by omega)))) ?_;refine uv (v:=.agg #[.int .i64 (t:Int),.int .i64 ((e+1:Nat):Int)]) (λ_ aBp=>(aA E E (qc (cs:=[.int .i64 (t:Int),.int .i64 ((e+1:Nat):Int)]) underlying27 E kQ E (λj u hu=>St.cl 4 aBp E (agY (x:=x2) (by omega) j u (by rw[hd2];exact hu)))))) ?_;refine zN 3 ?_;refine uv (v:=.int .i64 ((e+1:Nat):Int)) (λ_ _=>jW) ?_;refine uv (v:=.agg #[.int .i64 (t:Int),.int .i64 ((e+1:Nat):Int)]) (λ_ _=>iJ) ?_;refine uv (v:=.bool true) (λ_ _=>(cK E E E (Dx (by kernel_rfl) (ao5 _ _ _)))) ?_;refine zN 4 ?_;refine ug (v:=.pointer (some ⟨bA2,oA2+t*1,none⟩)) (λ_ _=>(bF E E E (jF t aac underlying31 kQ E (by omega)))) ?_;refine ug (v:=.slice (some ⟨p7.1,0,none⟩) 4 4) (λ_ aBq=>(aA E E (zI underlying43 E (p9 alf aac aBq (PO 8 E VF) (dF (enc:=kJ) (sz:=1) (k:=t) (j:=0) (λ_=>E) hp7 E))))) ?_;refine zQ ?_;refine ug (v:=.pointer (some ⟨p7.1,0+q*6,none⟩)) (λ_ _=>(bF E E E (rY q underlying43 kQ E (by omega)))) ?_;refine ug (v:=.pointer (some ⟨p7.1,0+q*6,none⟩)) (λ_ _=>vP _ ady) ?_;refine ug (v:=.int .i64 y7.b.F9) (λ_ aBr=>(aA E E (zI underlying3 E (p9 ayX.rd E aBr (PO 8 E VF) (dF (enc:=BX.cells) (sz:=6) (k:=q) (j:=0) (λ_=>E) hy7 E))))) ?_
  refine zN 7 ?_;refine ug (v:=.pointer (some ⟨bA2,oA2+o*1,none⟩)) (λ_ _=>(bF E E E (jF o aac underlying31 kQ E (by omega)))) ?_;refine ug (v:=.slice (some ⟨p8.1,0,none⟩) 4 4) (λ_ aBs=>(aA E E (zI underlying43 E (p9 alf aac aBs (PO 8 E VF) (dF (enc:=kJ) (sz:=1) (k:=o) (j:=0) (λ_=>E) hp8 E))))) ?_;refine zQ ?_;refine ug (v:=.pointer (some ⟨p8.1,0+q*6,none⟩)) (λ_ _=>(bF E E E (rY q underlying43 kQ E (by omega)))) ?_;refine ug (v:=.pointer (some ⟨p8.1,0+q*6,none⟩)) (λ_ _=>vP _ ady) ?_;refine ug (v:=.int .i64 y8.b.F9) (λ_ aBt=>(aA E E (zI underlying3 E (p9 asn.rd E aBt (PO 8 E VF) (dF (enc:=BX.cells) (sz:=6) (k:=q) (j:=0) (λ_=>E) hy8 E))))) ?_;refine zN 7 ?_;refine ug (v:=.pointer (some ⟨bA2,oA2+o*1,none⟩)) (λ_ _=>(bF E E E (jF o aac underlying31 kQ E (by omega)))) ?_;refine ug (v:=.slice (some ⟨p8.1,0,none⟩) 4 4) (λ_ aBu=>(aA E E (zI underlying43 E (p9 alf aac aBu (PO 8 E VF) (dF (enc:=kJ) (sz:=1) (k:=o) (j:=0) (λ_=>E) hp8 E))))) ?_;refine zQ ?_;refine ug (v:=.pointer (some ⟨p8.1,0+q*6,none⟩)) (λ_ _=>(bF E E E (rY q underlying43 kQ E (by omega)))) ?_;refine ug (v:=.pointer (some ⟨p8.1,0+q*6+5,none⟩)) (λ_ _=>vP _ ao6) ?_;refine ug (v:=.slice y8.A y8.b.Jp.length y8.c) (λ_ aBv=>(aA E E (zI underlying40 E (by rw[kR];exact p9 asn.rd E aBv (PO 8 E VF) (dF (enc:=BX.cells) (sz:=6) (k:=q) (j:=5) (λ_=>E) hy8 E))))) ?_;refine zN 4 ?_;refine jB λaQb aeR=>?_;refine zN 3 ?_;exact⟨E,aeR.Qe⟩
 refine yG (n':=6) (listed':= #[true,true,true,true,true,true,true,true,true,true,true,true,true,true,true,false,false,false,false,true,false,false]) (X:=(Option Addr)×Nat×Nat×Nat×(Option Addr)×Nat) (λI=>[(6,.bool false),(7,.int .i64 (q:Int)),(11,.pointer (some ⟨Z,0,none⟩)),(12,.int .i64 (t:Int)),(13,.pointer (some ⟨O,0,none⟩)),(79,.slice I.1 cO.length I.2.1),(15,.pointer (some ⟨I.2.2.1,0,none⟩))]) (λI wr=>St w.heap.size w wr ((.Oy I.2.2.1 Jm 35)::(.own 51 11 (.slice I.1 cO.length I.2.1) cO.length ((cO).flatMap Ac.cells))::(.Oy I.2.2.2.1 (Vg o q) 51)::(.own 51 11 (.slice I.2.2.2.2.1 (X.length+1) I.2.2.2.2.2) (X.length+1) ((X++[Bf o q]).flatMap Ac.cells))::(.Oy O (oX x2) 35)::(.Oy Z #[.int .i64 (o:Int),.int .i64 (e:Int)] 27)::(.Oy b20 (oX x) 35)::(.own 51 11 (.slice J (F.length+1) M) (F.length+1) ((S2).flatMap Ac.cells))::(L2++(L0++[])))) ?_ (λag1=>?_)
 ·rintro⟨ayY,c171,aq6,ayZ,ay0,c175⟩ aFz akX
  try dsimp only at akX
  try dsimp only
  refine bJ 15 ?_;refine ku 15 E eQ (Z9 h03 (by omega) akX hu (Ro.own (jN (i:=1) E))) ?_;rintro _ aEI ⟨ag2,ay1,rfl,aBw,Vs⟩;refine⟨_,E,?_⟩;have VB:=Vs.perm (perm_append_comm_assoc ay1 ([.Oy aq6 Jm 35,.own 51 11 (.slice ayY cO.length c171) cO.length ((cO).flatMap Ac.cells),.Oy ayZ (Vg o q) 51,.own 51 11 (.slice ay0 (X.length+1) c175) (X.length+1) ((X++[Bf o q]).flatMap Ac.cells),.Oy O (oX x2) 35,.Oy Z #[.int .i64 (o:Int),.int .i64 (e:Int)] 27,.Oy b20 (oX x) 35,.own 51 11 (.slice J (F.length+1) M) (F.length+1) ((S2).flatMap Ac.cells)]:List OJ) (L2++(L0++[])));refine⟨(St.sub (VB.lV [3,2,1,0]) (Sublist.cons_cons _ (Sublist.cons_cons _ (Sublist.cons_cons _ (Sublist.cons_cons _ (sublist_append_right _ _)))))),?_⟩;refine qW (v:=.tuple #[.agg (oX ag2),.bool true]) (i:=16) (n:=4) E (by kernel_rfl) (by kernel_rfl) (by kernel_rfl) (St.sub (VB.lV [3,2,1,0]) (Sublist.cons_cons _ (Sublist.cons_cons _ (Sublist.cons_cons _ (Sublist.cons_cons _ (sublist_append_right _ _)))))) E (wn E) E E (λ_ _=>ym) ?_;refine qW (v:=.agg (oX ag2)) (i:=17) (n:=3) E (by kernel_rfl) (by kernel_rfl) (by kernel_rfl) (St.sub (VB.lV [3,2,1,0]) (Sublist.cons_cons _ (Sublist.cons_cons _ (Sublist.cons_cons _ (Sublist.cons_cons _ (sublist_append_right _ _)))))) E (wn E) E E (λ_ _=>yx) ?_;refine qW (v:=.bool true) (i:=18) (n:=2) E (by kernel_rfl) (by kernel_rfl) (by kernel_rfl) (St.sub (VB.lV [3,2,1,0]) (Sublist.cons_cons _ (Sublist.cons_cons _ (Sublist.cons_cons _ (Sublist.cons_cons _ (sublist_append_right _ _)))))) E (wn E) E E (λ_ _=>yx) ?_;refine bJ 20 ?_;refine YL 20 E 0 VB kQ ?_;intro aGR ZN;refine⟨(St.sub (ZN.lV [3,2,1,0]) (Sublist.cons_cons _ (Sublist.cons_cons _ (Sublist.cons_cons _ (Sublist.cons_cons _ (sublist_append_right _ _)))))),?_⟩;exact lq ayU (aq6,ag2,ayY,c171,ayZ,ay0,c175,ay1) ⟨aBw,ZN⟩ ⟨E,E,E,E,E,E,E,trivial⟩
 refine yG (n':=9) (listed':= #[true,true,true,true,true,true,true,true,true,true,true,true,false,false,false,false,false,false,false,true,false,false]) (X:=(Option Addr)×Nat×Nat×Nat) (λI=>[(6,.bool false),(7,.int .i64 (q:Int)),(11,.pointer (some ⟨Z,0,none⟩)),(12,.int .i64 (t:Int)),(13,.pointer (some ⟨O,0,none⟩)),(76,.slice J (F.length+1) M),(75,.slice I.1 (X.length+1) I.2.1),(15,.pointer (some ⟨I.2.2.1,0,none⟩))]) (λI wr=>St w.heap.size w wr ((.Oy I.2.2.1 Jm 35)::(.Oy I.2.2.2 (Vg o q) 51)::(.own 51 11 (.slice I.1 (X.length+1) I.2.1) (X.length+1) ((X++[Bf o q]).flatMap Ac.cells))::(.Oy O (oX x2) 35)::(.Oy Z #[.int .i64 (o:Int),.int .i64 (e:Int)] 27)::(.Oy b20 (oX x) 35)::(.own 51 11 (.slice J (F.length+1) M) (F.length+1) ((S2).flatMap Ac.cells))::(L2++(L0++[])))) ?_ (λaqx=>?_)
 ·rintro⟨aIa,aIb,aIc,aId⟩ aQc aso
  try dsimp only at aso
  try dsimp only
  refine bJ 12 ?_;refine ku 12 E eQ (xL hl2 (by omega) _ (St.Uz 6 aso E)) ?_;rintro _ aQd ⟨rfl,aBx⟩;refine⟨_,E,?_⟩;have asq:=aso.on aBx;refine dI ?_;refine ak (v:=.int .i64 (((jA S2)+20:Nat):Int)) 13 E (asq.lV [2,1,0]) (λ_ _=>jW) ?_;refine bJ 14 ?_;refine ku 14 E eQ (Cu (r:=jA S2+20) (s:=X++[Bf o q]) hl3 hY (by omega) (by omega) _ ((St.Uz 2 asq E))) ?_;rintro _ aQe ⟨aIe,c201,rfl,aIf⟩;refine⟨_,E,?_⟩;have aIg:=asq.ext aIf E;refine dI ?_;have aq8:=aIg.fC [7,7,7,7,7,7,6,7];exact lq ag1 (aIe,c201,aIc,aId,aIa,aIb) aq8 ⟨E,E,E,E,E,E,E,trivial⟩
 refine yG (n':=10) (listed':= #[true,true,true,true,true,true,true,true,true,true,false,true,false,false,false,false,false,false,false,true,false,false]) (X:=(Option Addr)×Nat×Nat×Nat) (λI=>[(6,.bool false),(7,.int .i64 (q:Int)),(11,.pointer (some ⟨Z,0,none⟩)),(12,.int .i64 (t:Int)),(13,.pointer (some ⟨O,0,none⟩)),(76,.slice J (F.length+1) M),(68,.slice I.1 X.length I.2.1),(74,.slice (some ⟨I.2.2.1,0,none⟩) 1 1),(15,.pointer (some ⟨I.2.2.2,0,none⟩))]) (λI wr=>St w.heap.size w wr ((.Oy I.2.2.2 Jm 35)::(.Oy I.2.2.1 (Vg o q) 51)::(.own 51 11 (.slice I.1 X.length I.2.1) X.length ((X).flatMap Ac.cells))::(.Oy O (oX x2) 35)::(.Oy Z #[.int .i64 (o:Int),.int .i64 (e:Int)] 27)::(.Oy b20 (oX x) 35)::(.own 51 11 (.slice J (F.length+1) M) (F.length+1) ((S2).flatMap Ac.cells))::(L2++(L0++[])))) ?_ (λag3=>?_)
 ·rintro⟨aQf,c208,aIh,axj⟩ aEL aeT
  try dsimp only at aeT
  try dsimp only
  refine bJ 10 ?_;refine Qr (i:=10) E E (news:=[.int .i64 2,.int .i64 (o:Int),.int .i64 (q:Int),.int .i64 0,.int .i64 0,.int .i64 2,.int .i64 0,.int .i64 0,.int .i64 0,.int .i64 0,.int .i64 0]) (xs':=(X++[Bf o q]).flatMap Ac.cells) 2 aeT (wn E) E E E E E E (St.nP (xs:=[.int .i64 2,.int .i64 (o:Int),.int .i64 (q:Int),.int .i64 0,.int .i64 0,.int .i64 2,.int .i64 0,.int .i64 0,.int .i64 0,.int .i64 0,.int .i64 0]) 1 aeT E E E) underlying23 Ch E (by decide) (dx E) (by simp only[maxLen];omega) (by omega) (jO (enc:=Ac.cells) (x:=Bf o q) E E) ?_;intro aIi aIj aQg aLe aLf aIk;refine dI ?_;exact lq aqx (aIi,aIj,axj,aIh) aIk ⟨E,E,E,E,E,E,E,E,trivial⟩
 refine yG (n':=11) (listed':= #[true,true,true,true,true,true,true,true,true,true,false,true,false,false,false,false,false,false,false,false,false,false]) (X:=(Option Addr)×Nat×Nat) (λI=>[(6,.bool false),(7,.int .i64 (q:Int)),(11,.pointer (some ⟨Z,0,none⟩)),(12,.int .i64 (t:Int)),(13,.pointer (some ⟨O,0,none⟩)),(76,.slice J (F.length+1) M),(68,.slice I.1 X.length I.2.1),(74,.slice (some ⟨I.2.2,0,none⟩) 1 1)]) (λI wr=>St w.heap.size w wr ((.Oy I.2.2 (Vg o q) 51)::(.own 51 11 (.slice I.1 X.length I.2.1) X.length ((X).flatMap Ac.cells))::(.Oy O (oX x2) 35)::(.Oy Z #[.int .i64 (o:Int),.int .i64 (e:Int)] 27)::(.Oy b20 (oX x) 35)::(.own 51 11 (.slice J (F.length+1) M) (F.length+1) ((S2).flatMap Ac.cells))::(L2++(L0++[])))) ?_ (λaqy=>?_)
 ·rintro⟨aIl,aIm,aad⟩ aQh alg
  try dsimp only at alg
  try dsimp only
  refine gL (n:=10) (r:=10) (s:=19) (by kernel_rfl) ?_ ?_
  ·refine Qr (i:=10) E E (news:=[.int .i64 2,.int .i64 (o:Int),.int .i64 (q:Int),.int .i64 0,.int .i64 0,.int .i64 2,.int .i64 0,.int .i64 0,.int .i64 0,.int .i64 0,.int .i64 0]) (xs':=(X++[Bf o q]).flatMap Ac.cells) 1 alg (wn E) E E E E E E (St.nP (xs:=[.int .i64 2,.int .i64 (o:Int),.int .i64 (q:Int),.int .i64 0,.int .i64 0,.int .i64 2,.int .i64 0,.int .i64 0,.int .i64 0,.int .i64 0,.int .i64 0]) 0 alg E E E) underlying23 Ch E (by decide) (dx E) (by simp only[maxLen];omega) (by omega) (jO (enc:=Ac.cells) (x:=Bf o q) E E) ?_;intro agw c226 aQi aLg aLh asr;refine dI ?_;refine gL (n:=9) (r:=12) (s:=19) (by kernel_rfl) ?_ ?_
   ·refine ku 12 E eQ (xL hl2 (by omega) _ (St.Uz 5 asr E)) ?_;rintro _ aQj ⟨rfl,aBy⟩;refine⟨_,E,?_⟩;have alh:=asr.on aBy;refine dI ?_;refine ak (v:=.int .i64 (((jA S2)+20:Nat):Int)) 13 E (alh.lV [1,0]) (λ_ _=>jW) ?_;refine gL (n:=7) (r:=14) (s:=19) (by kernel_rfl) ?_ ?_
    ·refine ku 14 E eQ (Cu (r:=jA S2+20) (s:=X++[Bf o q]) hl3 hY (by omega) (by omega) _ ((St.Uz 1 alh E))) ?_;rintro _ aQk ⟨asu,c236,rfl,aIn⟩;refine⟨_,E,?_⟩;have ay2:=alh.ext aIn E;refine dI ?_;refine gL (n:=6) (r:=15) (s:=19) (by kernel_rfl) ?_ ?_
     ·refine ku 15 E eQ (Z9 h03 (by omega) ay2 hu (Ro.own (jN (i:=0) E))) ?_;rintro _ aG2 ⟨ag4,ay3,rfl,aBz,afW⟩;refine⟨_,E,?_⟩;have agx:=afW.perm (perm_append_comm_assoc ay3 ([.own 51 11 (.slice asu cO.length c236) cO.length ((cO).flatMap Ac.cells),.Oy aad (Vg o q) 51,.own 51 11 (.slice agw (X.length+1) c226) (X.length+1) ((X++[Bf o q]).flatMap Ac.cells),.Oy O (oX x2) 35,.Oy Z #[.int .i64 (o:Int),.int .i64 (e:Int)] 27,.Oy b20 (oX x) 35,.own 51 11 (.slice J (F.length+1) M) (F.length+1) ((S2).flatMap Ac.cells)]:List OJ) (L2++(L0++[])));refine⟨(St.sub (agx.lV [2,1,0]) (Sublist.cons_cons _ (Sublist.cons_cons _ (Sublist.cons_cons _ (Sublist.cons_cons _ (sublist_append_right _ _)))))),?_⟩;refine qW (v:=.tuple #[.agg (oX ag4),.bool true]) (i:=16) (n:=5) E (by kernel_rfl) (by kernel_rfl) (by kernel_rfl) (St.sub (agx.lV [2,1,0]) (Sublist.cons_cons _ (Sublist.cons_cons _ (Sublist.cons_cons _ (Sublist.cons_cons _ (sublist_append_right _ _)))))) E (wn E) E E (λ_ _=>ym) ?_;refine qW (v:=.agg (oX ag4)) (i:=17) (n:=4) E (by kernel_rfl) (by kernel_rfl) (by kernel_rfl) (St.sub (agx.lV [2,1,0]) (Sublist.cons_cons _ (Sublist.cons_cons _ (Sublist.cons_cons _ (Sublist.cons_cons _ (sublist_append_right _ _)))))) E (wn E) E E (λ_ _=>yx) ?_;refine qW (v:=.bool true) (i:=18) (n:=3) E (by kernel_rfl) (by kernel_rfl) (by kernel_rfl) (St.sub (agx.lV [2,1,0]) (Sublist.cons_cons _ (Sublist.cons_cons _ (Sublist.cons_cons _ (Sublist.cons_cons _ (sublist_append_right _ _)))))) E (wn E) E E (λ_ _=>yx) ?_;refine bJ 19 ?_;refine jm (i:=19) E E (V:=λb=>.pointer (some ⟨b,0,none⟩)) (row:=Jm) (t:=35) agx (wn E) E E (gK E (zeroValue35 _) E) ?_;intro aIo aG4 Vu;refine⟨(St.sub (Vu.lV [3,2,1,0]) (Sublist.cons_cons _ (Sublist.cons_cons _ (Sublist.cons_cons _ (Sublist.cons_cons _ (sublist_append_right _ _)))))),?_⟩;refine bJ 20 ?_;refine YL 20 E 0 Vu kQ ?_;intro aQl afX;refine⟨(St.sub (afX.lV [3,2,1,0]) (Sublist.cons_cons _ (Sublist.cons_cons _ (Sublist.cons_cons _ (Sublist.cons_cons _ (sublist_append_right _ _)))))),?_⟩;exact lq ayU (aIo,ag4,asu,c236,aad,agw,c226,ay3) ⟨aBz,afX⟩ ⟨E,E,E,E,E,E,E,trivial⟩
     refine jm (i:=19) E E (V:=λb=>.pointer (some ⟨b,0,none⟩)) (row:=Jm) (t:=35) ay2 (wn E) E E (gK E (zeroValue35 _) E) ?_;intro axn aER arb;refine dI ?_;exact lq ag1 (asu,c236,axn,aad,agw,c226) arb ⟨E,E,E,E,E,E,E,trivial⟩
    refine jm (i:=19) E E (V:=λb=>.pointer (some ⟨b,0,none⟩)) (row:=Jm) (t:=35) alh (wn E) E E (gK E (zeroValue35 _) E) ?_;intro aIp aQm akO;refine dI ?_;refine bJ 14 ?_;refine ku 14 E eQ (Cu (r:=jA S2+20) (s:=X++[Bf o q]) hl3 hY (by omega) (by omega) _ ((St.Uz 2 akO E))) ?_;rintro _ aG8 ⟨aIq,aIr,rfl,aIs⟩;refine⟨_,E,?_⟩;have arZ:=akO.ext aIs E;refine dI ?_;have aIt:=arZ.fC [7,7,7,7,7,7,6,7];exact lq ag1 (aIq,aIr,aIp,aad,agw,c226) aIt ⟨E,E,E,E,E,E,E,trivial⟩
   refine jm (i:=19) E E (V:=λb=>.pointer (some ⟨b,0,none⟩)) (row:=Jm) (t:=35) asr (wn E) E E (gK E (zeroValue35 _) E) ?_;intro aIu aQn aIv;refine dI ?_;exact lq aqx (agw,c226,aIu,aad) aIv ⟨E,E,E,E,E,E,E,E,trivial⟩
  refine jm (i:=19) E E (V:=λb=>.pointer (some ⟨b,0,none⟩)) (row:=Jm) (t:=35) alg (wn E) E E (gK E (zeroValue35 _) E) ?_;intro aIw aQo ard;refine dI ?_;exact lq ag3 (aIl,aIm,aad,aIw) ard ⟨E,E,E,E,E,E,E,E,E,trivial⟩
 refine yG (n':=11) (listed':= #[true,true,true,true,true,true,true,true,true,false,false,true,false,false,false,false,false,false,false,true,false,false]) (X:=(Option Addr)×Nat×Nat) (λI=>[(6,.bool false),(7,.int .i64 (q:Int)),(11,.pointer (some ⟨Z,0,none⟩)),(12,.int .i64 (t:Int)),(13,.pointer (some ⟨O,0,none⟩)),(73,.agg (Vg o q)),(76,.slice J (F.length+1) M),(68,.slice I.1 X.length I.2.1),(15,.pointer (some ⟨I.2.2,0,none⟩))]) (λI wr=>St w.heap.size w wr ((.Oy I.2.2 Jm 35)::(.own 51 11 (.slice I.1 X.length I.2.1) X.length ((X).flatMap Ac.cells))::(.Oy O (oX x2) 35)::(.Oy Z #[.int .i64 (o:Int),.int .i64 (e:Int)] 27)::(.Oy b20 (oX x) 35)::(.own 51 11 (.slice J (F.length+1) M) (F.length+1) ((S2).flatMap Ac.cells))::(L2++(L0++[])))) ?_ (λaqz=>?_)
 ·rintro⟨aIx,aIy,aIz⟩ aQp ay4
  try dsimp only at ay4
  try dsimp only
  refine bJ 9 ?_;refine zM 9 E ay4 ?_;intro aIA aQq aIB;refine dI ?_;have aIC:=aIB.fC [6,6,6,6,6,5,6];exact lq ag3 (aIx,aIy,aIA,aIz) aIC ⟨E,E,E,E,E,E,E,E,E,trivial⟩
 refine yG (n':=11) (listed':= #[true,true,true,false,true,true,true,true,true,true,false,true,false,false,false,false,false,false,false,true,false,false]) (X:=Nat×Nat) (λI=>[(6,.bool false),(7,.int .i64 (q:Int)),(11,.pointer (some ⟨Z,0,none⟩)),(12,.int .i64 (t:Int)),(13,.pointer (some ⟨O,0,none⟩)),(65,.slice J (F.length+1) M),(76,.slice J (F.length+1) M),(67,.int .i64 ((jA S2:Nat):Int)),(74,.slice (some ⟨I.1,0,none⟩) 1 1),(15,.pointer (some ⟨I.2,0,none⟩))]) (λI wr=>St w.heap.size w wr ((.Oy I.2 Jm 35)::(.Oy I.1 (Vg o q) 51)::(.Oy O (oX x2) 35)::(.Oy Z #[.int .i64 (o:Int),.int .i64 (e:Int)] 27)::(.Oy b20 (oX x) 35)::(.own 51 11 (.slice J (F.length+1) M) (F.length+1) ((S2).flatMap Ac.cells))::(L2++(L0++[])))) ?_ (λag5=>?_)
 ·rintro⟨aID,aIE⟩ aQr asv
  try dsimp only at asv
  try dsimp only
  refine bJ 3 ?_;refine ku 3 E eQ (Cu (r:=jA S2) hl2 hX (by omega) (by omega) _ ((St.Uz 5 asv E))) ?_;rintro _ aQs ⟨aIF,aIG,rfl,aIH⟩;refine⟨_,E,?_⟩;have ar1:=asv.ext aIH E;refine dI ?_;have arf:=ar1.fC [6,6,6,6,4,6,6];exact lq ag3 (aIF,aIG,aID,aIE) arf ⟨E,E,E,E,E,E,E,E,E,trivial⟩
 refine yG (n':=12) (listed':= #[true,true,true,false,true,true,true,true,true,true,false,true,false,false,false,false,false,false,false,false,false,false]) (X:=Nat) (λI=>[(6,.bool false),(7,.int .i64 (q:Int)),(11,.pointer (some ⟨Z,0,none⟩)),(12,.int .i64 (t:Int)),(13,.pointer (some ⟨O,0,none⟩)),(65,.slice J (F.length+1) M),(76,.slice J (F.length+1) M),(67,.int .i64 ((jA S2:Nat):Int)),(74,.slice (some ⟨I,0,none⟩) 1 1)]) (λI wr=>St w.heap.size w wr ((.Oy I (Vg o q) 51)::(.Oy O (oX x2) 35)::(.Oy Z #[.int .i64 (o:Int),.int .i64 (e:Int)] 27)::(.Oy b20 (oX x) 35)::(.own 51 11 (.slice J (F.length+1) M) (F.length+1) ((S2).flatMap Ac.cells))::(L2++(L0++[])))) ?_ (λaqA=>?_)
 ·rintro ay5 aHg ZT
  try dsimp only at ZT
  try dsimp only
  refine gL (n:=11) (r:=3) (s:=19) (by kernel_rfl) ?_ ?_
  ·refine ku 3 E eQ (Cu (r:=jA S2) hl2 hX (by omega) (by omega) _ ((St.Uz 4 ZT E))) ?_;rintro _ aQt ⟨aII,aIJ,rfl,aIK⟩;refine⟨_,E,?_⟩;have aIL:=ZT.ext aIK E;refine dI ?_;have aIM:=aIL.fC [5,5,5,5,4,5];exact lq aqy (aII,aIJ,ay5) aIM ⟨E,E,E,E,E,E,E,E,trivial⟩
  refine jm (i:=19) E E (V:=λb=>.pointer (some ⟨b,0,none⟩)) (row:=Jm) (t:=35) ZT (wn E) E E (gK E (zeroValue35 _) E) ?_;intro aIN aQu aIO;refine dI ?_;exact lq ag5 (ay5,aIN) aIO ⟨E,E,E,E,E,E,E,E,E,E,trivial⟩
 refine yG (n':=12) (listed':= #[true,true,true,false,true,true,true,true,true,false,false,true,false,false,false,false,false,false,false,true,false,false]) (X:=Nat) (λI=>[(6,.bool false),(7,.int .i64 (q:Int)),(11,.pointer (some ⟨Z,0,none⟩)),(12,.int .i64 (t:Int)),(13,.pointer (some ⟨O,0,none⟩)),(65,.slice J (F.length+1) M),(73,.agg (Vg o q)),(76,.slice J (F.length+1) M),(67,.int .i64 ((jA S2:Nat):Int)),(15,.pointer (some ⟨I,0,none⟩))]) (λI wr=>St w.heap.size w wr ((.Oy I Jm 35)::(.Oy O (oX x2) 35)::(.Oy Z #[.int .i64 (o:Int),.int .i64 (e:Int)] 27)::(.Oy b20 (oX x) 35)::(.own 51 11 (.slice J (F.length+1) M) (F.length+1) ((S2).flatMap Ac.cells))::(L2++(L0++[])))) ?_ (λaqB=>?_)
 ·rintro ay6 aQv ali
  try dsimp only at ali
  try dsimp only
  refine gL (n:=11) (r:=3) (s:=9) (by kernel_rfl) ?_ ?_
  ·refine ku 3 E eQ (Cu (r:=jA S2) hl2 hX (by omega) (by omega) _ ((St.Uz 4 ali E))) ?_;rintro _ aHj ⟨aIP,aIQ,rfl,aIR⟩;refine⟨_,E,?_⟩;have ak5:=ali.ext aIR E;refine dI ?_;have ak6:=ak5.fC [5,5,5,5,4,5];exact lq aqz (aIP,aIQ,ay6) ak6 ⟨E,E,E,E,E,E,E,E,E,trivial⟩
  refine zM 9 E ali ?_;intro aIS aQw aIT;refine dI ?_;have aIU:=aIT.fC [5,5,5,5,4,5];exact lq ag5 (aIS,ay6) aIU ⟨E,E,E,E,E,E,E,E,E,E,trivial⟩
 refine yG (n':=12) (listed':= #[true,true,false,false,true,true,true,true,true,true,false,true,false,false,false,false,false,false,false,true,false,false]) (X:=Nat×Nat) (λI=>[(6,.bool false),(7,.int .i64 (q:Int)),(11,.pointer (some ⟨Z,0,none⟩)),(12,.int .i64 (t:Int)),(13,.pointer (some ⟨O,0,none⟩)),(65,.slice J (F.length+1) M),(66,.slice J (F.length+1) M),(76,.slice J (F.length+1) M),(74,.slice (some ⟨I.1,0,none⟩) 1 1),(15,.pointer (some ⟨I.2,0,none⟩))]) (λI wr=>St w.heap.size w wr ((.Oy I.2 Jm 35)::(.Oy I.1 (Vg o q) 51)::(.Oy O (oX x2) 35)::(.Oy Z #[.int .i64 (o:Int),.int .i64 (e:Int)] 27)::(.Oy b20 (oX x) 35)::(.own 51 11 (.slice J (F.length+1) M) (F.length+1) ((S2).flatMap Ac.cells))::(L2++(L0++[])))) ?_ (λaqC=>?_)
 ·rintro⟨aIV,axp⟩ aEX aeW
  try dsimp only at aeW
  try dsimp only
  refine bJ 2 ?_;refine ku 2 E eQ (xL hl2 (by omega) _ (St.Uz 5 aeW E)) ?_;rintro _ aHk ⟨rfl,aBA⟩;refine⟨_,E,?_⟩;have ar2:=aeW.on aBA;refine dI ?_;exact lq ag5 (aIV,axp) ar2 ⟨E,E,E,E,E,E,E,E,E,E,trivial⟩
 refine aW 5 ?_;refine ak (v:=.agg #[.int .i64 2,.int .i64 0,.int .i64 0,.int .i64 0,.int .i64 0,.int .i64 0]) 7 E Ef (λ_ _=>iJ) ?_;refine ak (v:=.agg (Vg o q)) 8 E Ef (λ_ _=>iJ) ?_;refine dI ?_;refine GL (n:=13) (r:=2) (s:=9) (t:=19) (by kernel_rfl) ?_ ?_ ?_
 ·refine ku 2 E eQ (xL hl2 (by omega) _ (St.Uz 3 Ef E)) ?_;rintro _ aQx ⟨rfl,aBB⟩;refine⟨_,E,?_⟩;have alj:=Ef.on aBB;refine dI ?_;refine GL (n:=12) (r:=3) (s:=9) (t:=19) (by kernel_rfl) ?_ ?_ ?_
  ·refine ku 3 E eQ (Cu (r:=jA S2) hl2 hX (by omega) (by omega) _ ((St.Uz 3 alj E))) ?_;rintro _ aHm ⟨ay7,ay8,rfl,aIW⟩;refine⟨_,E,?_⟩;have ak7:=alj.ext aIW E;refine dI ?_;refine gL (n:=11) (r:=9) (s:=19) (by kernel_rfl) ?_ ?_
   ·refine zM 9 E ak7 ?_;intro aIX aQy aIY;refine dI ?_;exact lq aqy (ay7,ay8,aIX) aIY ⟨E,E,E,E,E,E,E,E,trivial⟩
   refine jm (i:=19) E E (V:=λb=>.pointer (some ⟨b,0,none⟩)) (row:=Jm) (t:=35) ak7 (wn E) E E (gK E (zeroValue35 _) E) ?_;intro aIZ aQz aI0;refine dI ?_;exact lq aqz (ay7,ay8,aIZ) aI0 ⟨E,E,E,E,E,E,E,E,E,trivial⟩
  ·refine zM 9 E alj ?_;intro aI1 aQA aI2;refine dI ?_;exact lq aqA aI1 aI2 ⟨E,E,E,E,E,E,E,E,E,trivial⟩
  refine jm (i:=19) E E (V:=λb=>.pointer (some ⟨b,0,none⟩)) (row:=Jm) (t:=35) alj (wn E) E E (gK E (zeroValue35 _) E) ?_;intro aI3 aQB aI4;refine dI ?_;exact lq aqB aI3 aI4 ⟨E,E,E,E,E,E,E,E,E,E,trivial⟩
 ·refine zM 9 E Ef ?_;intro ay9 aQC asw;refine dI ?_;refine gL (n:=12) (r:=2) (s:=19) (by kernel_rfl) ?_ ?_
  ·refine ku 2 E eQ (xL hl2 (by omega) _ (St.Uz 4 asw E)) ?_;rintro _ aQD ⟨rfl,aBC⟩;refine⟨_,E,?_⟩;have aI5:=asw.on aBC;refine dI ?_;exact lq aqA ay9 aI5 ⟨E,E,E,E,E,E,E,E,E,trivial⟩
  refine jm (i:=19) E E (V:=λb=>.pointer (some ⟨b,0,none⟩)) (row:=Jm) (t:=35) asw (wn E) E E (gK E (zeroValue35 _) E) ?_;intro aI6 aQE aI7;refine dI ?_;exact lq aqC (ay9,aI6) aI7 ⟨E,E,E,E,E,E,E,E,E,E,trivial⟩
 refine jm (i:=19) E E (V:=λb=>.pointer (some ⟨b,0,none⟩)) (row:=Jm) (t:=35) Ef (wn E) E E (gK E (zeroValue35 _) E) ?_;intro aza aQF asx;refine dI ?_;refine gL (n:=12) (r:=2) (s:=9) (by kernel_rfl) ?_ ?_
 ·refine ku 2 E eQ (xL hl2 (by omega) _ (St.Uz 4 asx E)) ?_;rintro _ aQG ⟨rfl,aBD⟩;refine⟨_,E,?_⟩;have aI8:=asx.on aBD;refine dI ?_;exact lq aqB aza aI8 ⟨E,E,E,E,E,E,E,E,E,E,trivial⟩
 refine zM 9 E asx ?_;intro aI9 aQH aJa;refine dI ?_;have aJb:=aJa.fC [5,5,5,5,4,5];exact lq aqC (aI9,aza) aJb ⟨E,E,E,E,E,E,E,E,E,E,trivial⟩
section
variable {m w x:Cl}{n q o k B:Nat}{G G' G1 G2:Nat->Gh}
def ao9(C:Calm w G B)(R:∀k,k<2->Rest w G k):YY w G<=(G 0).G.length+(G 1).G.length+10:=by
 have O:=C.pn;have I:∀j,j<5->vC (w.aj j).OO=0:=λj Z=>by rw[O j Z];rfl
 have hc0:w.c0=0:=by
  unfold Cl.c0;rw[C.dZ,I 0 dQ,I 1 dQ,I 2 dQ,I 3 dQ,I 4 dQ]
 have J:∀j,j<5->(if (w.aj j).up=true then 0 else 1)=0:=λj Z=>au (C.rm.up j Z);have hdn:w.Jk=0:=by
  unfold Cl.Jk o5;dsimp only;rw[J 0 dQ,J 1 dQ,J 2 dQ,J 3 dQ,J 4 dQ]
 have M:∀k,yq (vw w k) (G k)<=(G k).G.length+5+2*(if (vw w k (G k).o).F9=1 then 0 else 1):=λk=>by
  have h:∀j,yo (vw w k) (G k) j<=1:=λj=>by unfold yo;split<;>omega
  have:=h 0;have:=h 1;have:=h 2;have:=h 3;have:=h 4;unfold yq o5;omega
 have h0:=M 0;have h1:=M 1;rw[au (R 0 dQ).rl]at h0;rw[au (R 1 dQ).rl]at h1;unfold YY;omega
def agy(h:∀n,n<5->(x.aj n).up=true):∀n,n<5->((x.Ub (Bf o q)).aj n).up=true:=by
 rw[aiq];exact h
def apa{gs:List Gr}{s F S2 X:List Ac}{t:Nat}(hs:s=aH gs 80 false)(hF:F=iB s (jA s))(hS:S2=F++[JW t q])(hX:X=iB S2 (jA S2))(h:q<2)(ht:t<5):
 ∃o e:Nat,o<5/\e<=1000/\(lT.run F).off.at q=⟨(o:Nat),(e:Nat)⟩/\(t=o->(lT.run X).off=(lT.run F).off)/\
   (t≠o->(lT.run X).off.at q=hT t e/\(vw (lT.run X) q t).F9=1/\(vw (lT.run X) q o).F9=0/\(vw (lT.run X) q o).Jp=[]/\
    ∃y,(lT.run (iB (X++[Bf o q]) (jA S2+20))).bQ.getLast?=some y/\y.pl=hT t e/\y.Ut.code=7):=by
 subst hs hF hS hX;obtain⟨m0,G,G1,Z,hen⟩:=abw (gs:=gs) (M:=80) aB;have R:=Z.rest h;have I:=Z.rm.qi q h;have h5:(G1 q).o<5:=I.o5;have eS:jA (iB (aH gs 80 false) (jA (aH gs 80 false))++[JW t q])=jA (aH gs 80 false)+20:=by
  rw[LH,adw];rfl
 have hel:=R9 (aH gs 80 false);have hsl:=R6 gs 80 false;have he2:200<=jA (aH gs 80 false):=by rw[MB];omega
 rw[eS];generalize hw:lT.run (iB (aH gs 80 false) (jA (aH gs 80 false)))=w at Z R I⊢;have eW:lT.run (iB (aH gs 80 false) (jA (aH gs 80 false))++[JW t q])=w.move q (t:Nat):=by rw[adx,hw,avI]
 have hqq:∀k,k<2->(G1 k).G.length<=(G1 0).G.length+(G1 1).G.length:=λk J=>by
  have:k=0\/k=1:=by omega
  rcases this with rfl|rfl<;>omega
 have aQI:=hqq q h;refine⟨(G1 q).o,(G1 q).m,h5,by have:=I.VE;omega,R.di,λe=>?_,λhne=>?_⟩
 ·have hst:=Z.calm.stay (tg:=(t:Nat)) R h (by rw[e]);rw[Nn (by rw[eW,hst];exact Z.rm.up),eW,hst];obtain⟨G2,O,a,b,c⟩:=ads dQ Z (jA (aH gs 80 false)+20);exact avE (b 0 dQ) (b 1 dQ) (O.su.two.trans Z.su.two.symm) (O.su.Vb.trans Z.su.Vb.symm)
 obtain⟨G2,O,h1,h2,h3⟩:=Z.moves (T:=jA (aH gs 80 false)+20) (tg:=(t:Nat)) Y h Y Y Y Y Y;obtain⟨C1,_⟩:=Z.calm.drain R h (tg:=(t:Nat)) Y Y Y Y;have hP:=Z.calm.moved R h ht hne Y;obtain⟨T,hT1⟩:∃T,jA (aH gs 80 false)+20=T+1:=⟨jA (aH gs 80 false)+19,E⟩;have hx:lT.run (iB (iB (aH gs 80 false) (jA (aH gs 80 false))++[JW t q]) (jA (aH gs 80 false)+20))=(w.move q (t:Nat)).rs (jA (aH gs 80 false)+20):=by
  rw[Nn (by rw[eW];exact C1.rm.up),eW]
 obtain⟨G3,P3⟩:=hP.rs Y h h5 (jA (aH gs 80 false)+20);obtain⟨G4,P4⟩:=hP.rs Y h h5 T;obtain⟨G5,R5,_,y5⟩:=ag0 C1.rm Y C1.bn (jA (aH gs 80 false)+20);have y6:=adr (λk J=>R5.qi k J) λk J=>O.rm.qi k J;obtain⟨T',S',D',K',hbw⟩:=Z.bn;have y7:=adp (q':=q) (tg:=(t:Nat)) (λk J=>Z.rm.qi k J) (λk J=>C1.rm.qi k J) (λ_ _=>aB) hbw h;have y8:=ao9 Z.calm λk J=>Z.rest J;have hG:∀k,k<2->(G2 k).G.length<=290:=λk J=>by
  have h9:(G2 0).G.length+(G2 1).G.length<=YY ((w.move q (t:Nat)).rs (jA (aH gs 80 false)+20)) G2:=by
   unfold YY yq;omega
  have:k=0\/k=1:=by omega
  rcases this with rfl|rfl<;>omega
 rw[fB]at h1;obtain⟨l1,l2,l3⟩:=P3.left O h h5 h1 hne;have Bd:∀l∈((w.move q (t:Nat)).rs (jA (aH gs 80 false)+20)).OM,l.tg≠ -1:=by
  rw[hT1];exact avN P4.bn
 obtain⟨y,c1,c2,c3⟩:=O.called (r:=jA (aH gs 80 false)+20+20) Y h h5 (hP.mv.le (O.le q h)) P3.ol l1 Bd hG Y;have R2:=O.rest h;have hup:=O.rm.up;have hy:lT.run (iB (iB (iB (aH gs 80 false) (jA (aH gs 80 false))++[JW t q]) (jA (aH gs 80 false)+20)++[Bf (G1 q).o q]) (jA (aH gs 80 false)+20+20))=(((w.move q (t:Nat)).rs (jA (aH gs 80 false)+20)).Ub (Bf (G1 q).o q)).rs (jA (aH gs 80 false)+20+20):=by
  have e1:lT.run (iB (iB (aH gs 80 false) (jA (aH gs 80 false))++[JW t q]) (jA (aH gs 80 false)+20)++[Bf (G1 q).o q])=((w.move q (t:Nat)).rs (jA (aH gs 80 false)+20)).Ub (Bf (G1 q).o q):=by rw[adx,hx]
  rw[Nn (by rw[e1];exact agy hup),e1]
 rw[hx,hy];refine⟨?_,?_,?_,?_,y,c1,c2,c3⟩
 ·rw[R2.di,h1,h2];rfl
 ·have:=R2.rl;rw[h1]at this;exact this
 ·rw[iC (hup _ h5)];exact l1
 rw[iC (hup _ h5)];exact l2
end
def Xt{W:World}{v:Value}(h:TN prog W v 3):∃b:Int,v=.int .i64 b/\ -9223372036854775808<=b/\b<=9223372036854775807:=by
 obtain⟨⟨base,J⟩,l,I,M⟩:=h;rw[show flat prog 30 3=some [.at_ (.int .i64)]from kQ]at I
 cases I;obtain⟨b,rfl⟩:=okWide_int underlying3 J;obtain⟨z,O,hw⟩:=M.1
 cases O;exact⟨_,E,wf_i64 hw⟩
def apb{q t:Nat}(J:q<2)(h:t<5):dn (JW t q)=0:=by
 have I:q=0\/q=1:=by omega
 have h:t=0\/t=1\/t=2\/t=3\/t=4:=by omega
 rcases I with rfl|rfl<;>rcases h with rfl|rfl|rfl|rfl|rfl<;>rfl
def apc{q o:Nat}(J:q<2)(M:o<5):dn (Bf o q)=0:=by
 have h:q=0\/q=1:=by omega
 have I:o=0\/o=1\/o=2\/o=3\/o=4:=by omega
 rcases h with rfl|rfl<;>rcases I with rfl|rfl|rfl|rfl|rfl<;>rfl
def FX{l:List Ac}{r:Nat}(h:∀a∈l,dn a=0):∀a∈iB l r,dn a=0:=by
 intro a I;unfold iB at I;rw[gP]at I
 rcases aP.1 I with I|I
 ·exact h a I
 exact(afS r a I).1
def Ow{l:List Ac}{x:Ac}(h:∀a∈l,dn a=0)(J:dn x=0):∀a∈l++[x],dn a=0:=λa I=>by
 rcases aP.1 I with I|I
 ·exact h a I
 rw[aF]at I;subst I;exact J
def apd{l:List Ac}(h:∀a∈l,dn a=0)(J:l.length<=100000):(lT.run l).bQ.length<=1000000000000:=by
 have:=(ahT l arD (λa I=>agO (h a I)) (by omega)).bQ;omega
def Sq{n m:Int}(h:0<m):∃k:Nat,bE n m=(k:Int)/\(k:Int)<m:=by
 have:=pX (n:=n) h;exact⟨(bE n m).toNat,by omega,by omega⟩
def aeg(W:World)(hu:Uk W.heap.size W)(args:Array Value)(h:fD (TN prog W) args.toList Tryz.f4.params.toList):
 Calls prog 4 args W λe W'=>e=.returned (.bool true)/\Below W.heap.size W W':=by
 rw[Tryz.params4]at h;obtain⟨v,l1,hv,h1,h0⟩:=fD.yH h;obtain⟨v2,l2,hv2,h2,h02⟩:=fD.yH h0;obtain⟨v3,l3,hv3,h3,h03⟩:=fD.yH h02;have h4:=fD.zH h03;subst h4;obtain rfl:args= #[v,v2,v3]:=by cases args;simp_all
 obtain⟨A,c,gs,rfl,hr,hg⟩:=af0 h1;obtain⟨a,rfl,ha⟩:=Xt h2;obtain⟨b,rfl,hb⟩:=Xt h3;obtain⟨q,hpa,hq⟩:=Sq (n:=a) (m:=2) dQ;obtain⟨t,hpb,ht⟩:=Sq (n:=b) (m:=5) dQ;have HA:=λw=>lJ (n:=a) (m:=2) ha dQ w;have HB:=λw=>lJ (n:=b) (m:=5) hb dQ w;rw[hpa]at HA;rw[hpb]at HB;have I:q<2:=by omega
 have J:t<5:=by omega
 have hsl:=R6 gs 80 false;have hen:=R9 (aH gs 80 false);have hsf:=Yx gs 80 false;have hFl:(iB (aH gs 80 false) (jA (aH gs 80 false))).length<=20000:=by rw[Hz];omega
 have hFe:=adw (aH gs 80 false) (jA (aH gs 80 false));have M:=FX (r:=jA (aH gs 80 false)) hsf;obtain⟨o,e,ho,he,hd,hs1,hs2⟩:=apa (gs:=gs) (q:=q) (t:=t) E E E E I J;have O:jA (iB (aH gs 80 false) (jA (aH gs 80 false))++[JW t q])=jA (aH gs 80 false)+20:=by
  rw[LH,hFe];rfl
 have hSf:=Ow M (apb I J);have Z:=FX (r:=jA (iB (aH gs 80 false) (jA (aH gs 80 false))++[JW t q])) hSf;have hYf:=FX (r:=jA (iB (aH gs 80 false) (jA (aH gs 80 false))++[JW t q])+20) (Ow Z (apc I ho));have hl2:(iB (aH gs 80 false) (jA (aH gs 80 false))).length+1=(iB (aH gs 80 false) (jA (aH gs 80 false))++[JW t q]).length:=by rw[aZ];rfl
 have hXl:(iB (iB (aH gs 80 false) (jA (aH gs 80 false))++[JW t q]) (jA (iB (aH gs 80 false) (jA (aH gs 80 false))++[JW t q]))).length<=40000:=by rw[Hz,<-hl2,O];omega
 have hYl:(iB (iB (iB (aH gs 80 false) (jA (aH gs 80 false))++[JW t q]) (jA (iB (aH gs 80 false) (jA (aH gs 80 false))++[JW t q]))++[Bf o q]) (jA (iB (aH gs 80 false) (jA (aH gs 80 false))++[JW t q])+20)).length<=100000:=by
  rw[Hz,aZ,l8];omega
 exact YB E E E E E hg M Z hYf (by omega) hl2 (by omega) (by omega) hYl (apd hYf hYl) (by omega) (by rw[O];omega) I J ho (by omega) hu hr HA HB hd ⟨hs1,hs2⟩
end Go.Proofs.YtefabpdniidmbaaGreatDoor
