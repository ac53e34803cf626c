import Derived.Test.YtceeleolddkibaaGreatDoorGf7083
set_option linter.all false
set_option maxRecDepth 100000
set_option maxHeartbeats 8000000
namespace Go.Proofs.YtceeleolddkibaaGreatDoor
open List Nat Go.Proofs.Tryz ChangeShapes WideShapes RowKit
def Cl.K7(m:Cl):Nat:=o5 λn=>if (m.au n).up=true then 0 else 1
noncomputable def YY(m:Cl)(G:Nat->Gh):Nat:=2*m.c0+(yq (vw m 0) (G 0)+yq (vw m 1) (G 1))+2*m.K7
def yA(a:Ac):Nat:=if a.kd=2\/a.kd=6\/a.kd=8\/a.kd=10 then 2 else 0
section
variable {m w m':Cl}{n q k B d:Nat}{l:bY}{p:cZ}{g g':Gh}{G G':Nat->Gh}{b b':bF}{ac:Ac}{X:Nd}{rs us:List dN}
def Dw(h:∀j,j<5->(m'.au j).up=(m.au j).up):m'.K7=m.K7:=Cz λj I=>by rw[h j I]
def adW(I:lF l):(w.QG l).c0<=w.c0+cu l:=by
 have h:=adB (w:=w) (f:=cu) JI I;have hs:∀j,((w.QG l).au j).PL=(w.au j).PL:=λj=>by obtain⟨J,e⟩:=Eb w l j;rw[e]
 unfold Cl.c0;rw[hs,hs,hs,hs,hs];omega
def O9(f:bY->Nat):∀(a:List bY) (i:Nat) (l:bY),a[i]? =some l->eG f (a.eraseIdx i)+f l=eG f a
 |[],i,l,h=>by cases h
 |x::a,0,l,h=>by cases h;rw[eraseIdx_cons_zero,eG];omega
 |x::a,i+1,l,h=>by
  rw[TA,eG,eG];have:=O9 f a i l (by simpa using h);omega
def aiS(l:bY):cu l<=1:=by unfold cu;split<;>omega
def apE{at_:Nat}{c s:Bool}(J:∀l∈w.PI,lF l):(w.pick at_ c s).c0<=w.c0+if s=true then 1 else 0:=by
 unfold Cl.pick
 split
 ·exact nM _ _
 rename_i l I
 have h:=J l (jm I);have h1:=aiS l;have he:({w with PI:=w.PI.eraseIdx (at_ % w.PI.length)}:Cl).c0+cu l=w.c0:=by
  have:=O9 cu _ _ _ I;unfold Cl.c0 Cl.ws;dsimp only;omega
 cases s with
 |true=>
  simp only[if_true]
  split
  ·have:=adW (w:=w) h;omega
  exact nM _ _
 |false=>
  simp only[Bool.false_eq_true,if_false]
  split
  ·have:=adW (w:={w with PI:=w.PI.eraseIdx (at_ % w.PI.length)}) h;omega
  omega
def aiT(I:∀l∈m.PI,lF l):m.all.c0<=m.c0:=by
 have J:m.all.ws cu<=m.ws cu:=FB JI I;have h:∀j,(m.all.au j).PL=(m.au j).PL:=λj=>by obtain⟨M,e⟩:=vN m j;rw[e]
 unfold Cl.c0;rw[h,h,h,h,h];omega
def adX{T S fP K:Nat}(hB:eF m T S fP K)(hn:n<5)(Z:(m.au n).up=true):(m.step n).c0+ES (m.au n).PL<=m.c0/\((m.au n).PL=none-> ∀q,Sm (((m.step n).au n).bs q) ((m.au n).bs q))/\((m.step n).au n).up=true:=by
 obtain⟨rs,us,hU⟩:=(hB.jO n hn).xV Z;have I:=λj (M:j≠n)=>pI (m:=m) hB hn M
 cases hp:(m.au n).PL with
 |some p=>
  obtain⟨h1,h2,O⟩:=hU.JD p hp;obtain⟨_,hf⟩:=jI hU.tape hU.nE h2 O;obtain⟨dX,y1,y2,y3,y4,y5,y6,y7,y8,_⟩:=CS E Z hp O hf h2;have eY:(m.step n).au n=dX:=by rw[y1,JR]
  obtain⟨new,hfl,J⟩:=Um Z hp h2;have hw:(m.step n).ws cu+0<=m.ws cu:=qP hn I (by rw[eY,y7]) hfl λx hx=>vM (J x hx).1;refine⟨JJ (d:=0) hn I hw (by rw[eY,y5,hp];show 0+_<=_;omega),(λh=>nomatch h),by rw[eY];exact y6⟩
 |none=>
  have key:=qZ (n:=n) (λw=>Sv m n rs w/\w.c0<=m.c0/\ ∀q,Sm ((w.au n).bs q) ((m.au n).bs q)) (λw l r ⟨H,A,A2⟩ hp1 hin=>by
   obtain⟨h1,h2,O,h4⟩:=q8 (λl hl=>nu (hB.jC n hn l hl)) H hp1 hin;have e0:(w.put n ((w.au n).box r)).au n=(w.au n).box r:=bL _;have hot:∀j,j≠n->(w.put n ((w.au n).box r)).au j=w.au j:=λj M=>Ph M;have hws:(w.put n ((w.au n).box r)).ws cu+cu l<=w.ws cu:=Le hn (λj M=>by rw[hot j M]) (by
    rw[e0,hin]
    show eG cu w.PI+eG cu r+cu l<=eG cu w.PI+(cu l+eG cu r)
    omega)
   have c1:=JJ (d:=cu l) (d':=cu l) hn hot hws (by rw[e0];show ES (w.au n).PL+_<=_;omega);have hu2:((w.put n ((w.au n).box r)).au n).up=true:=by rw[e0];exact H.up
   have hp2:((w.put n ((w.au n).box r)).au n).PL=none:=by rw[e0];exact hp1
   obtain⟨hbs,WM⟩:=Zu hu2 hp2 O;obtain⟨new,hf,J⟩:=MB hu2 O;have l7:=kJ (m:=w.put n ((w.au n).box r)) (n:=n) (l:=l) h1.1;have hw2:((w.put n ((w.au n).box r)).QB n l).ws cu+0<=(w.put n ((w.au n).box r)).ws cu:=qP hn l7.p8 l7.jC hf λx hx=>vM (J x hx).1;have hs:ES (((w.put n ((w.au n).box r)).QB n l).au n).PL<=cu l:=by
    rcases WM with⟨h1,_⟩|⟨p,h1,h2,O,h4,h5,h6⟩
    ·rw[h1];exact aC _
    rw[h1]
    cases p with
    |serve k JU op num a=>rw[show cu l=1 from aj h5.1];exact aB
    |_=>exact aC _
   have c2:((w.put n ((w.au n).box r)).QB n l).c0<=(w.put n ((w.au n).box r)).c0+cu l:=by
    have I:=l7.p8;unfold Cl.c0
    rcases five hn with rfl|rfl|rfl|rfl|rfl
    ·rw[I 1 (by decide),I 2 (by decide),I 3 (by decide),I 4 (by decide)];omega
    ·rw[I 0 (by decide),I 2 (by decide),I 3 (by decide),I 4 (by decide)];omega
    ·rw[I 0 (by decide),I 1 (by decide),I 3 (by decide),I 4 (by decide)];omega
    ·rw[I 0 (by decide),I 1 (by decide),I 2 (by decide),I 4 (by decide)];omega
    rw[I 0 (by decide),I 1 (by decide),I 2 (by decide),I 3 (by decide)];omega
   refine⟨h1.1,h4,by omega,λq=>(ZG O q).trans ?_⟩;rw[e0];exact A2 q) _ m E ⟨D8 Z ⟨_,hU⟩,aB,λ_=>.refl _⟩
  obtain⟨H,A,A2⟩:=key;have es:=jX Z hp
  show(m.step n).c0+0<=_/\_
  by_cases c:((m.more n).au n).PL=none
  ·rw[aj c]at es;have e1:(m.step n).au n={ (m.more n).au n with turn:=((m.more n).au n).turn+1}:=by
    rw[es]
    show Qv (m.more n).au n _ n=_
    exact JR _ _ _
   have hc:((m.more n).lM n).c0<=(m.more n).c0:=by
    have:=JJ (m:=m.more n) (m':=(m.more n).lM n) (d:=0) (d':=0) hn (λj M=>Ph M) (XG hn) (by
     show ES (Qv (m.more n).au n _ n).PL+0<=_
     rw[JR];exact aB)
    exact this
   refine⟨by rw[es];omega,λ_ q=>by rw[e1];exact A2 q,by rw[e1];exact H.up⟩
  rw[ah c]at es;exact⟨by rw[es];omega,λ_ q=>by rw[es];exact A2 q,by rw[es];exact H.up⟩
def JQ{u:Nat}(h:∀q,q<2->yq (vw m' q) (G' q)<=yq (vw m q) (G q)+(if q=k then d else 0))(M:k<2)(O:2*m'.c0+d+2*m'.K7<=2*m.c0+2*m.K7+u):YY m' G'<=YY m G+u:=by
 have J:=h 0 (by decide);have h1:=h 1 (by decide);have I:k=0\/k=1:=by omega
 unfold YY
 rcases I with rfl|rfl
 ·rw[aj E]at J;rw[ah (by decide)]at h1;omega
 rw[ah (by decide)]at J;rw[aj E]at h1;omega
def BH(I:QI m q g)(I':QI m' q g')(N:g.m<=g'.m)(h:vw m' q=vw m q):yq (vw m' q) g'<=yq (vw m q) g:=
 ahv (n:=0) (b':=vw m q 0) I I' N (by decide) (by rw[h];exact(aJ E).symm) (.refl _)
def adY{T S fP K:Nat}(hQ:∀q,q<2->QI m q (G q))(I:∀q,q<2->QI (m.step n) q (G' q))(N:∀q,q<2->(G q).m<=(G' q).m)(hv:Vd m)(hB:eF m T S fP K)(hn:n<5):YY (m.step n) G'<=YY m G:=by
 have J:=λj (hj:j≠n)=>pI (m:=m) hB hn hj
 cases M:(m.au n).up with
 |false=>
  have e:=oN M;refine JQ (k:=0) (d:=0) (u:=0) (λq h=>?_) (by decide) (by rw[e];exact aB);have:=BH (hQ q h) (I q h) (N q h) (by rw[e]);omega
 |true=>
  obtain⟨c1,c2,c3⟩:=adX hB hn M;have hdn:(m.step n).K7=m.K7:=Dw λj _=>by
   by_cases e:j=n
   ·rw[e,c3,M]
   rw[J j e]
  have O:∀q,vw (m.step n) q=Qv (vw m q) n (((m.step n).au n).bs q):=λq=>by
   funext j
   by_cases e:j=n
   ·subst e;rw[JR,jk c3]
   rw[Ph e];unfold vw;rw[J j e]
  cases Z:(m.au n).PL with
  |none=>
   rw[Z]at c1;refine JQ (k:=0) (d:=0) (u:=0) (λq h=>?_) (by decide) (by have:ES none=0:=rfl;omega);have:=ahv (hQ q h) (I q h) (N q h) hn (O q) (by rw[jk M];exact c2 Z q);omega
  |some p=>
   rw[Z]at c1;obtain⟨rs,us,hU⟩:=(hB.jO n hn).xV M;obtain⟨h1,h2,h3⟩:=hU.JD p Z;obtain⟨_,hf⟩:=jI hU.tape hU.nE h2 h3;obtain⟨dX,y1,y2,_⟩:=CS E M Z h3 hf h2;have eY:(m.step n).au n=dX:=by rw[y1,JR]
   have hpq:=hv.nU n hn p Z;refine JQ (k:=p.q) (d:=ES (some p)) (u:=0) (λq h=>?_) hpq (by omega);by_cases e:q=p.q
   ·rw[aj e];exact apD (hQ q h) (I q h) (N q h) hn M Z e.symm (O q) (.inl (by rw[eY,y2,e,JR]))
   rw[ah e];exact ahv (hQ q h) (I q h) (N q h) hn (O q) (by rw[jk M,eY,y2,Ph e];exact .refl _)
def adZ{tg:Int}(h:(wh b tg).2=0):(wh b tg).1.GR=2:=by
 unfold wh at h⊢;by_cases c1:aA b≠0
 ·rw[aj c1]at h;exact av h c1
 rw[ah c1]at h⊢;by_cases c2:¬(0<=tg/\tg<=4)
 ·rw[aj c2]at h;exact av h (by decide)
 rw[ah c2]at h⊢;by_cases c3:b.GR=2\/b.GR=3
 ·rw[aj c3]at h;exact av h (by decide)
 rw[ah c3]at h⊢;by_cases c4:b.GR≠1
 ·rw[aj c4]at h;exact av h (by decide)
 rw[ah c4]at h⊢;by_cases c5:b.ep=1048576
 ·rw[aj c5]at h;exact av h (by decide)
 rw[ah c5]
def apF{q':Nat}{tg:Int}{T S fP K:Nat}(hQ:∀q,q<2->QI m q (G q))(hQ':∀q,q<2->QI (m.move q' tg) q (G' q))(N:∀q,q<2->(G q).m<=(G' q).m)(hB:eF m T S fP K)(hq':q'<2):YY (m.move q' tg) G'<=YY m G+2:=by
 have hL:=λq (hq:q<2)=>I5 (q':=q') (tg:=tg) (hQ q hq) hB (by omega) (by omega);have key:∀q,q<2->yq (vw (m.move q' tg) q) (G q)<=yq (vw m q) (G q)+(if q=q' then 2 else 0):=λq hq=>by
  have I:=hQ q hq;have I2:=(hL q hq).1;unfold Cl.move at I2⊢
  split
  ·omega
  rename_i h0
  rw[ah h0]at I2
  split
  ·rename_i h1
   rw[aj h1]at I2;have hu:(m.au (aN m.off q').1.node.toNat).up=true:=by
    cases e:(m.au (aN m.off q').1.node.toNat).up with
    |true=>rfl
    |false=>exact av (.inr (.inr e)) h0
   have hV:∀j,vw (m.aF (aN m.off q').1.node.toNat q' (wh ((m.au (aN m.off q').1.node.toNat).bs q') tg).1) q j=if j=(aN m.off q').1.node.toNat/\q=q' then(wh ((m.au (aN m.off q').1.node.toNat).bs q') tg).1 else vw m q j:=λj=>by
    by_cases e:j=(aN m.off q').1.node.toNat
    ·unfold vw;rw[e,show ∀b,(m.aF (aN m.off q').1.node.toNat q' b).au (aN m.off q').1.node.toNat=(m.au (aN m.off q').1.node.toNat).aF q' b from λb=>bL _];rw[show ∀b,((m.au (aN m.off q').1.node.toNat).aF q' b).view=((m.au (aN m.off q').1.node.toNat).aF q' b).bs from λb=>fO hu,fO hu];by_cases e2:q=q'
     ·rw[aj ⟨E,e2⟩,e2];exact JR _ _ _
     rw[ah (λc=>e2 c.2)];exact Ph e2
    rw[ah (λc=>e c.1)];unfold vw;rw[show ∀b,(m.aF (aN m.off q').1.node.toNat q' b).au j=m.au j from λb=>Ph e]
   have tQ:∀j,j<5->yo (vw (m.aF (aN m.off q').1.node.toNat q' (wh ((m.au (aN m.off q').1.node.toNat).bs q') tg).1) q) (G q) j<=yo (vw m q) (G q) j:=λj hj=>by
    unfold yo;rw[hV];by_cases c2:j=(aN m.off q').1.node.toNat/\q=q'
    ·rw[aj c2,ah (λc=>av c.2 (by rw[adZ h1.1];decide))];exact aC _
    rw[ah c2];exact aB
   have h5:o5 (yo (vw (m.aF (aN m.off q').1.node.toNat q' (wh ((m.au (aN m.off q').1.node.toNat).bs q') tg).1) q) (G q))<=o5 (yo (vw m q) (G q)):=by
    have:=tQ 0 (by decide);have:=tQ 1 (by decide);have:=tQ 2 (by decide);have:=tQ 3 (by decide);have:=tQ 4 (by decide);unfold o5;omega
   unfold yq;by_cases e:q=q'
   ·rw[aj e];split<;>split<;>omega
   have hVo:=hV (G q).o;rw[ah (λc=>e c.2)]at hVo;rw[ah e,hVo];omega
  omega
 refine JQ (k:=q') (d:=2) (λq hq=>?_) hq' ?_
 ·have h1:=key q hq;have h2:=BH (hL q hq).1 (hQ' q hq) (N q hq) E;omega
 have hc:(m.move q' tg).c0=m.c0/\(m.move q' tg).K7=m.K7:=by
  unfold Cl.move
  split
  ·exact⟨E,E⟩
  split
  ·have hk:∀n b j,((m.aF n q' b).au j).Pq=(m.au j).Pq/\((m.aF n q' b).au j).PL=(m.au j).PL/\((m.aF n q' b).au j).up=(m.au j).up:=λn b j=>by
    by_cases e:j=n
    ·rw[e,show(m.aF n q' b).au n=(m.au n).aF q' b from bL _];exact⟨E,E,E⟩
    rw[show(m.aF n q' b).au j=m.au j from Ph e];exact⟨E,E,E⟩
   refine⟨?_,Dw λj _=>(hk _ _ j).2.2⟩;unfold Cl.c0 Cl.ws;rw[(hk _ _ 0).1,(hk _ _ 1).1,(hk _ _ 2).1,(hk _ _ 3).1,(hk _ _ 4).1,(hk _ _ 0).2.1,(hk _ _ 1).2.1,(hk _ _ 2).2.1,(hk _ _ 3).2.1,(hk _ _ 4).2.1];rfl
  exact⟨E,E⟩
 omega
def asR(h:ac.kd=2\/ac.kd=6\/ac.kd=8\/ac.kd=10):yA ac=2:=aj h
def qC(f:Ac->Nat):List Ac->Nat
 |[]=>0
 |a::l=>f a+qC f l
def vO(f:Ac->Nat):∀(a b:List Ac),qC f (a++b)=qC f a+qC f b
 |[],b=>by simp[qC]
 |x::a,b=>by rw[wO,qC,qC,vO f a b];omega
def ag1(h:X.QA=λ_=>false){d:UE}:JO X d:=λq _ hs=>by rw[h]at hs;cases hs
def av2(I:QI m q g)(I':QI m q g')(h:g.m<=g'.m):g'.m=g.m:=by
 have h1:=I'.wz;have J:=I'.Fy;have e:=I.top I'.o5 J (by omega);have M:=I.wz;rw[e]at h1;omega
def ad1(I:QI m q g)(I':QI m q g'):yq (vw m q) g'<=yq (vw m q) g:=by
 refine BH I I' ?_ E;by_cases c:g.m<=g'.m
 ·exact c
 have:=av2 I' I (by omega);omega
def apG(h:∀q,q<2->QI m q (G q))(I:∀q,q<2->QI m q (G' q)):YY m G'<=YY m G:=by
 have J:=ad1 (h 0 (by decide)) (I 0 (by decide));have h1:=ad1 (h 1 (by decide)) (I 1 (by decide));unfold YY;omega
def aBu(R:Rm m G B):ZZ m (FF m G)+9<=8*YY m G+94+2*m.cw:=by
 have hst:m.ws (gG (FF m G))<=m.cw:=by
  have h1:∀l:bY,gG (FF m G) l<=JF l:=λl=>by
   unfold gG JF
   split
   ·rename_i c
    rw[aj (by omega)];exact aB
   exact aC _
  have h:∀a:List bY,eG (gG (FF m G)) a<=qJ a:=by
   intro a
   induction a with
   |nil=>exact aB
   |cons l r ih=>have:=h1 l;rw[eG,qJ];omega
  have h0:=h m.PI;have i0:=h (m.au 0).Pq;have i1:=h (m.au 1).Pq;have i2:=h (m.au 2).Pq;have i3:=h (m.au 3).Pq;have i4:=h (m.au 4).Pq;unfold Cl.ws Cl.cw uo;omega
 have hc:m.ws cu<=m.c0:=by unfold Cl.c0;omega
 have O:(o5 λj=>tV (m.au j).PL)<=5:=by
  have h1:∀o:Option cZ,tV o<=1:=λo=>by cases o<;>simp[tV]
  unfold o5;dsimp only;have i0:=h1 (m.au 0).PL;have i1:=h1 (m.au 1).PL;have i2:=h1 (m.au 2).PL;have i3:=h1 (m.au 3).PL;have i4:=h1 (m.au 4).PL;omega
 have hq:∀q,q<2->pE (FF m G q) (m.off.at q).Pf (vq m q)<=yq (vw m q) (G q)+5:=λq hq=>by
  have I:=R.qi q hq;have o5':=I.o5;have eo:(FF m G q).own (FF m G q).M=(G q).o:=rfl;have Z:∀n,n<5-> ∀p,(m.au n).PL=some p->p.q=q->HY (G q) (vw m q) n p:=λn hn p O hpq=>(I.nU n hn p (by unfold Cy;rw[O];exact Qc hpq)).2;have J:∀n,n<5->pJ (FF m G q) (vq m q) n<=yo (vw m q) (G q) n:=λn hn=>by
   unfold pJ yo;rw[eo]
   split
   ·rename_i c
    obtain⟨c1,c2⟩:=c;unfold vq at c2
    cases O:(m.au n).PL with
    |none=>rw[jP O]at c2;rw[aj ⟨c1,by rw[jk (R.up n hn)];exact c2⟩];exact aB
    |some p=>
     by_cases e:p.q=q
     ·have hk:=Z n hn p O e;rw[q9 O e]at c2
      exfalso
      cases p with
      |serve k JU op num a=>exact c1 hk.1
      |QL k x=>obtain⟨j,j1,_⟩:=hk;have c3:x.GR=3:=c2;rw[j1]at c3;exact av c3 (by show(4:Int)≠3;decide)
      |UK k x last=>
       have c3:x.GR=3:=c2;obtain⟨k1,k2,k3⟩:=hk
       cases last with
       |true=>obtain⟨_,_,_,a4,_⟩:=k3 E;rw[a4]at c3;exact av c3 (by show(1:Int)≠3;decide)
       |false=>obtain⟨j,a1,_⟩:=k2 E;rw[a1]at c3;exact av (k1.symm.trans c3) (by decide)
      |gJ k x a=>exact c1 hk.1
      |QE k x=>obtain⟨_,j2,_⟩:=hk;have c3:x.GR=3:=c2;rw[j2]at c3;exact av c3 (by show(0:Int)≠3;decide)
     rw[Ba O e]at c2;rw[aj ⟨c1,by rw[jk (R.up n hn)];exact c2⟩];exact aB
   exact aC _
  have hol:o5 (pJ (FF m G q) (vq m q))<=o5 (yo (vw m q) (G q)):=by
   have:=J 0 (by decide);have:=J 1 (by decide);have:=J 2 (by decide);have:=J 3 (by decide);have:=J 4 (by decide);unfold o5;omega
  have hev:(vq m q (G q).o).JU.length<=(G q).G.length+1:=by
   have zk:=I.zk;have ae:=jk (q:=q) (R.up _ o5');unfold vq
   cases O:(m.au (G q).o).PL with
   |none=>rw[jP O,<-ae,zk];exact l6 _
   |some p=>
    by_cases e:p.q=q
    ·have hk:=Z _ o5' p O e;rw[q9 O e];have Fy:=I.Fy
     cases p with
     |serve k JU op num a=>obtain⟨_,_,k3,_⟩:=hk;show JU.length<=_;rw[k3,aY];exact aB
     |QL k x=>obtain⟨_,_,_,_,k4,_⟩:=hk;omega
     |UK k x last=>have:=hk.1;omega
     |gJ k x a=>obtain⟨_,_,k3⟩:=hk;show x.JU.length<=_;rw[k3];show(vw m q (G q).o).JU.length<=_;rw[zk];exact l6 _
     |QE k x=>obtain⟨_,_,k3⟩:=hk;have:=I.wz;omega
    rw[Ba O e,<-ae,zk];exact l6 _
  have hd:O6 (FF m G q) (m.off.at q).Pf<=1:=by unfold O6;split<;>omega
  have hR:(FF m G q).R=if (vw m q (G q).o).GR=1 then 0 else 1:=rfl
  unfold pE ZE yq;rw[eo];by_cases c:(vw m q (G q).o).GR=1
  ·rw[aj c]at hR;rw[ah (by omega),aj c];omega
  rw[ah c]at hR;rw[aj hR,ah c]
  split<;>omega
 have h0:=hq 0 (by decide);have h1:=hq 1 (by decide);unfold ZZ PP YY;omega
end
end Go.Proofs.YtceeleolddkibaaGreatDoor
