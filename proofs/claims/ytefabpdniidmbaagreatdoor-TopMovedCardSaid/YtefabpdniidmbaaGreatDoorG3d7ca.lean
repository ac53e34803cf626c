import Derived.Test.YtefabpdniidmbaaGreatDoorG7906b
set_option linter.all false
set_option maxRecDepth 100000
set_option maxHeartbeats 8000000
namespace Go.Proofs.YtefabpdniidmbaaGreatDoor
open List Nat Go.Proofs.Tryz ChangeShapes WideShapes RowKit
def akr{gs:List Gr}{A:Option Addr}{c m:Nat}{cr:Bool}{s:List Ac}(hs:s=aH gs m cr)(I:m<=1000)(J:∀g∈gs,g.ok)(w:World)(h:Rd w w.heap.size 5 A gs.length (gs.flatMap Gr.cells)):
 Calls prog 7 #[.slice A gs.length c,.int .i64 (m:Int),.bool cr] w (λe w'=> ∃A' c',e=.returned (.slice A' s.length c')/\St w.heap.size w w' [.own 51 11 (.slice A' s.length c') s.length (s.flatMap Ac.cells)]):=by
 subst hs;exact U2 I J w h
def agm{l:List Ac}(h:∀a∈l,dn a=0)(I:l.length<=100000):EB l=0:=by
 rw[TG Y];clear I
 induction l with
 |nil=>rfl
 |cons a l J=>rw[yJ,ah (by rw[h a gJ];simp),J λx M=>h x (dM _ M)]
def ail{s F:List Ac}{A:Option Addr}{c r:Nat}(I:F=iB s r)(J:r<=100000)(M:s.length<=100000)(w:World)(h:Rd w w.heap.size 11 A s.length (s.flatMap Ac.cells)):
 Calls prog 9 #[.slice A s.length c,.int .i64 (r:Int)] w (λe w'=> ∃A' c',e=.returned (.slice A' F.length c')/\St w.heap.size w w' [.own 51 11 (.slice A' F.length c') F.length (F.flatMap Ac.cells)]):=by
 subst I;exact abl J M w h
def Z9{B:Nat}{w0 w:World}{fs:List OJ}{A:Option Addr}{c:Nat}{F:List Ac}(I:∀a∈F,dn a=0)(J:F.length<=100000)(S:St B w0 w fs)(M:Uk B w0)(h:Ro fs 11 A F.length (F.flatMap Ac.cells)):
 Calls prog 8 #[.slice A F.length c] w (ac3 B w0 fs F):=agj (agm I J) S M h hQ
def Cl.Jk(m:Cl):Nat:=o5 λn=>if (m.aj n).up=true then 0 else 1
noncomputable def YY(m:Cl)(G:Nat->Gh):Nat:=2*m.c0+(yq (vw m 0) (G 0)+yq (vw m 1) (G 1))+2*m.Jk
def yA(a:Ac):Nat:=if a.kd=2\/a.kd=6\/a.kd=8\/a.kd=10 then 2 else 0
section
variable {m w m':Cl}{n q k B d:Nat}{l:bO}{p:dh}{g g':Gh}{G G':Nat->Gh}{b b':bC}{ac:Ac}{X:Nd}{rs us:List dN}
def Dh(h:∀j,j<5->(m'.aj j).up=(m.aj j).up):m'.Jk=m.Jk:=Ce λj I=>by rw[h j I]
def adk(I:jY l):(w.P6 l).c0<=w.c0+bV l:=by
 have h:=acT (w:=w) (f:=bV) Jc I;have hs:∀j,((w.P6 l).aj j).OO=(w.aj j).OO:=λj=>by obtain⟨J,e⟩:=AY w l j;rw[e]
 unfold Cl.c0;rw[hs,hs,hs,hs,hs];omega
def Ot(f:bO->Nat):∀(a:List bO) (i:Nat) (l:bO),a[i]? =some l->eB f (a.eraseIdx i)+f l=eB f a
 |[],i,l,h=>by cases h
 |x::a,0,l,h=>by cases h;rw[eraseIdx_cons_zero,eB];omega
 |x::a,i+1,l,h=>by
  rw[SH,eB,eB];have:=Ot f a i l (by simpa using h);omega
def ain(l:bO):bV l<=1:=by unfold bV;split<;>omega
def aoU{at_:Nat}{c s:Bool}(J:∀l∈w.OM,jY l):(w.pick at_ c s).c0<=w.c0+if s=true then 1 else 0:=by
 unfold Cl.pick
 split
 ·exact oK _ _
 rename_i l I
 have h:=J l (jN I);have h1:=ain l;have he:({w with OM:=w.OM.eraseIdx (at_ % w.OM.length)}:Cl).c0+bV l=w.c0:=by
  have:=Ot bV _ _ _ I;unfold Cl.c0 Cl.ws;dsimp only;omega
 cases s with
 |true=>
  simp only[if_true]
  split
  ·have:=adk (w:=w) h;omega
  exact oK _ _
 |false=>
  simp only[Bool.false_eq_true,if_false]
  split
  ·have:=adk (w:={w with OM:=w.OM.eraseIdx (at_ % w.OM.length)}) h;omega
  omega
def aio(I:∀l∈m.OM,jY l):m.all.c0<=m.c0:=by
 have J:m.all.ws bV<=m.ws bV:=ET Jc I;have h:∀j,(m.all.aj j).OO=(m.aj j).OO:=λj=>by obtain⟨M,e⟩:=rX m j;rw[e]
 unfold Cl.c0;rw[h,h,h,h,h];omega
def adl{T S eZ K:Nat}(hB:dW m T S eZ K)(hn:n<5)(Z:(m.aj n).up=true):(m.step n).c0+vC (m.aj n).OO<=m.c0/\((m.aj n).OO=none-> ∀q,Sm (((m.step n).aj n).bs q) ((m.aj n).bs q))/\((m.step n).aj n).up=true:=by
 obtain⟨rs,us,hU⟩:=(hB.jH n hn).uH Z;have I:=λj (M:j≠n)=>nE (m:=m) hB hn M
 cases hp:(m.aj n).OO with
 |some p=>
  obtain⟨h1,h2,O⟩:=hU.FI p hp;obtain⟨_,hf⟩:=jL hU.tape hU.mG h2 O;obtain⟨cO,y1,y2,y3,y4,y5,y6,y7,y8,_⟩:=Cr E Z hp O hf h2;have eY:(m.step n).aj n=cO:=by rw[y1,Jo]
  obtain⟨new,hfl,J⟩:=TD Z hp h2;have hw:(m.step n).ws bV+0<=m.ws bV:=qP hn I (by rw[eY,y7]) hfl λx hx=>vD (J x hx).1;refine⟨Jd (d:=0) hn I hw (by rw[eY,y5,hp];show 0+_<=_;omega),(λh=>nomatch h),by rw[eY];exact y6⟩
 |none=>
  have key:=og (n:=n) (λw=>Kt m n rs w/\w.c0<=m.c0/\ ∀q,Sm ((w.aj n).bs q) ((m.aj n).bs q)) (λw l r ⟨H,A,A2⟩ hp1 hin=>by
   obtain⟨h1,h2,O,h4⟩:=oh (λl hl=>lM (hB.jk n hn l hl)) H hp1 hin;have e0:(w.put n ((w.aj n).box r)).aj n=(w.aj n).box r:=aY _;have hot:∀j,j≠n->(w.put n ((w.aj n).box r)).aj j=w.aj j:=λj M=>Ox M;have hws:(w.put n ((w.aj n).box r)).ws bV+bV l<=w.ws bV:=KE hn (λj M=>by rw[hot j M]) (by
    rw[e0,hin]
    show eB bV w.OM+eB bV r+bV l<=eB bV w.OM+(bV l+eB bV r)
    omega)
   have c1:=Jd (d:=bV l) (d':=bV l) hn hot hws (by rw[e0];show vC (w.aj n).OO+_<=_;omega);have hu2:((w.put n ((w.aj n).box r)).aj n).up=true:=by rw[e0];exact H.up
   have hp2:((w.put n ((w.aj n).box r)).aj n).OO=none:=by rw[e0];exact hp1
   obtain⟨hbs,V5⟩:=Y9 hu2 hp2 O;obtain⟨new,hf,J⟩:=LG hu2 O;have mP:=jG (m:=w.put n ((w.aj n).box r)) (n:=n) (l:=l) h1.1;have hw2:((w.put n ((w.aj n).box r)).PY n l).ws bV+0<=(w.put n ((w.aj n).box r)).ws bV:=qP hn mP.oM mP.jk hf λx hx=>vD (J x hx).1;have hs:vC (((w.put n ((w.aj n).box r)).PY n l).aj n).OO<=bV l:=by
    rcases V5 with⟨h1,_⟩|⟨p,h1,h2,O,h4,h5,h6⟩
    ·rw[h1];exact aG _
    rw[h1]
    cases p with
    |serve k Jp op num a=>rw[show bV l=1 from au h5.1];exact aB
    |_=>exact aG _
   have c2:((w.put n ((w.aj n).box r)).PY n l).c0<=(w.put n ((w.aj n).box r)).c0+bV l:=by
    have I:=mP.oM;unfold Cl.c0
    rcases five hn with rfl|rfl|rfl|rfl|rfl
    ·rw[I 1 dQ,I 2 dQ,I 3 dQ,I 4 dQ];omega
    ·rw[I 0 dQ,I 2 dQ,I 3 dQ,I 4 dQ];omega
    ·rw[I 0 dQ,I 1 dQ,I 3 dQ,I 4 dQ];omega
    ·rw[I 0 dQ,I 1 dQ,I 2 dQ,I 4 dQ];omega
    rw[I 0 dQ,I 1 dQ,I 2 dQ,I 3 dQ];omega
   refine⟨h1.1,h4,by omega,λq=>(Zi O q).trans ?_⟩;rw[e0];exact A2 q) _ m E ⟨zx Z ⟨_,hU⟩,aB,λ_=>.refl _⟩
  obtain⟨H,A,A2⟩:=key;have es:=jy Z hp
  show(m.step n).c0+0<=_/\_
  by_cases c:((m.more n).aj n).OO=none
  ·rw[au c]at es;have e1:(m.step n).aj n={ (m.more n).aj n with turn:=((m.more n).aj n).turn+1}:=by
    rw[es]
    show PN (m.more n).aj n _ n=_
    exact Jo _ _ _
   have hc:((m.more n).lu n).c0<=(m.more n).c0:=by
    have:=Jd (m:=m.more n) (m':=(m.more n).lu n) (d:=0) (d':=0) hn (λj M=>Ox M) (Xf hn) (by
     show vC (PN (m.more n).aj n _ n).OO+0<=_
     rw[Jo];exact aB)
    exact this
   refine⟨by rw[es];omega,λ_ q=>by rw[e1];exact A2 q,by rw[e1];exact H.up⟩
  rw[ah c]at es;exact⟨by rw[es];omega,λ_ q=>by rw[es];exact A2 q,by rw[es];exact H.up⟩
def Jl{u:Nat}(h:∀q,q<2->yq (vw m' q) (G' q)<=yq (vw m q) (G q)+(if q=k then d else 0))(M:k<2)(O:2*m'.c0+d+2*m'.Jk<=2*m.c0+2*m.Jk+u):YY m' G'<=YY m G+u:=by
 have J:=h 0 dQ;have h1:=h 1 dQ;have I:k=0\/k=1:=by omega
 unfold YY
 rcases I with rfl|rfl
 ·rw[au E]at J;rw[ah dQ]at h1;omega
 rw[ah dQ]at J;rw[au E]at h1;omega
def Ba(I:QI m q g)(I':QI m' q g')(N:g.m<=g'.m)(h:vw m' q=vw m q):yq (vw m' q) g'<=yq (vw m q) g:=
 agW (n:=0) (b':=vw m q 0) I I' N dQ (by rw[h];exact(aJ E).symm) (.refl _)
def adn{T S eZ K:Nat}(hQ:∀q,q<2->QI m q (G q))(I:∀q,q<2->QI (m.step n) q (G' q))(N:∀q,q<2->(G q).m<=(G' q).m)(hv:Vd m)(hB:dW m T S eZ K)(hn:n<5):YY (m.step n) G'<=YY m G:=by
 have J:=λj (hj:j≠n)=>nE (m:=m) hB hn hj
 cases M:(m.aj n).up with
 |false=>
  have e:=oN M;refine Jl (k:=0) (d:=0) (u:=0) (λq h=>?_) dQ (by rw[e];exact aB);have:=Ba (hQ q h) (I q h) (N q h) (by rw[e]);omega
 |true=>
  obtain⟨c1,c2,c3⟩:=adl hB hn M;have hdn:(m.step n).Jk=m.Jk:=Dh λj _=>by
   by_cases e:j=n
   ·rw[e,c3,M]
   rw[J j e]
  have O:∀q,vw (m.step n) q=PN (vw m q) n (((m.step n).aj n).bs q):=λq=>by
   funext j
   by_cases e:j=n
   ·subst e;rw[Jo,iC c3]
   rw[Ox e];unfold vw;rw[J j e]
  cases Z:(m.aj n).OO with
  |none=>
   rw[Z]at c1;refine Jl (k:=0) (d:=0) (u:=0) (λq h=>?_) dQ (by have:vC none=0:=rfl;omega);have:=agW (hQ q h) (I q h) (N q h) hn (O q) (by rw[iC M];exact c2 Z q);omega
  |some p=>
   rw[Z]at c1;obtain⟨rs,us,hU⟩:=(hB.jH n hn).uH M;obtain⟨h1,h2,h3⟩:=hU.FI p Z;obtain⟨_,hf⟩:=jL hU.tape hU.mG h2 h3;obtain⟨cO,y1,y2,_⟩:=Cr E M Z h3 hf h2;have eY:(m.step n).aj n=cO:=by rw[y1,Jo]
   have hpq:=hv.nQ n hn p Z;refine Jl (k:=p.q) (d:=vC (some p)) (u:=0) (λq h=>?_) hpq Y;by_cases e:q=p.q
   ·rw[au e];exact aoT (hQ q h) (I q h) (N q h) hn M Z e.symm (O q) (.inl (by rw[eY,y2,e,Jo]))
   rw[ah e];exact agW (hQ q h) (I q h) (N q h) hn (O q) (by rw[iC M,eY,y2,Ox e];exact .refl _)
def ado{tg:Int}(h:(vQ b tg).2=0):(vQ b tg).1.F9=2:=by
 unfold vQ at h⊢;by_cases c1:ay b≠0
 ·rw[au c1]at h;exact av h c1
 rw[ah c1]at h⊢;by_cases c2:¬(0<=tg/\tg<=4)
 ·rw[au c2]at h;exact av h dQ
 rw[ah c2]at h⊢;by_cases c3:b.F9=2\/b.F9=3
 ·rw[au c3]at h;exact av h dQ
 rw[ah c3]at h⊢;by_cases c4:b.F9≠1
 ·rw[au c4]at h;exact av h dQ
 rw[ah c4]at h⊢;by_cases c5:b.ep=1048576
 ·rw[au c5]at h;exact av h dQ
 rw[ah c5]
def adp{q':Nat}{tg:Int}{T S eZ K:Nat}(hQ:∀q,q<2->QI m q (G q))(hQ':∀q,q<2->QI (m.move q' tg) q (G' q))(N:∀q,q<2->(G q).m<=(G' q).m)(hB:dW m T S eZ K)(hq':q'<2):YY (m.move q' tg) G'<=YY m G+2:=by
 have hL:=λq (hq:q<2)=>H8 (q':=q') (tg:=tg) (hQ q hq) hB Y Y;have key:∀q,q<2->yq (vw (m.move q' tg) q) (G q)<=yq (vw m q) (G q)+(if q=q' then 2 else 0):=λq hq=>by
  have I:=hQ q hq;have I2:=(hL q hq).1;unfold Cl.move at I2⊢
  split
  ·omega
  rename_i h0
  rw[ah h0]at I2
  split
  ·rename_i h1
   rw[au h1]at I2;have hu:(m.aj (aN m.off q').1.node.toNat).up=true:=by
    cases e:(m.aj (aN m.off q').1.node.toNat).up with
    |true=>rfl
    |false=>exact av (.inr (.inr e)) h0
   have hV:∀j,vw (m.aC (aN m.off q').1.node.toNat q' (vQ ((m.aj (aN m.off q').1.node.toNat).bs q') tg).1) q j=if j=(aN m.off q').1.node.toNat/\q=q' then(vQ ((m.aj (aN m.off q').1.node.toNat).bs q') tg).1 else vw m q j:=λj=>by
    by_cases e:j=(aN m.off q').1.node.toNat
    ·unfold vw;rw[e,show ∀b,(m.aC (aN m.off q').1.node.toNat q' b).aj (aN m.off q').1.node.toNat=(m.aj (aN m.off q').1.node.toNat).aC q' b from λb=>aY _];rw[show ∀b,((m.aj (aN m.off q').1.node.toNat).aC q' b).view=((m.aj (aN m.off q').1.node.toNat).aC q' b).bs from λb=>fZ hu,fZ hu];by_cases e2:q=q'
     ·rw[au ⟨E,e2⟩,e2];exact Jo _ _ _
     rw[ah (λc=>e2 c.2)];exact Ox e2
    rw[ah (λc=>e c.1)];unfold vw;rw[show ∀b,(m.aC (aN m.off q').1.node.toNat q' b).aj j=m.aj j from λb=>Ox e]
   have tF:∀j,j<5->yo (vw (m.aC (aN m.off q').1.node.toNat q' (vQ ((m.aj (aN m.off q').1.node.toNat).bs q') tg).1) q) (G q) j<=yo (vw m q) (G q) j:=λj hj=>by
    unfold yo;rw[hV];by_cases c2:j=(aN m.off q').1.node.toNat/\q=q'
    ·rw[au c2,ah (λc=>av c.2 (by rw[ado h1.1];decide))];exact aG _
    rw[ah c2];exact aB
   have h5:o5 (yo (vw (m.aC (aN m.off q').1.node.toNat q' (vQ ((m.aj (aN m.off q').1.node.toNat).bs q') tg).1) q) (G q))<=o5 (yo (vw m q) (G q)):=by
    have:=tF 0 dQ;have:=tF 1 dQ;have:=tF 2 dQ;have:=tF 3 dQ;have:=tF 4 dQ;unfold o5;omega
   unfold yq;by_cases e:q=q'
   ·rw[au e];split<;>split<;>omega
   have hVo:=hV (G q).o;rw[ah (λc=>e c.2)]at hVo;rw[ah e,hVo];omega
  omega
 refine Jl (k:=q') (d:=2) (λq hq=>?_) hq' ?_
 ·have h1:=key q hq;have h2:=Ba (hL q hq).1 (hQ' q hq) (N q hq) E;omega
 have hc:(m.move q' tg).c0=m.c0/\(m.move q' tg).Jk=m.Jk:=by
  unfold Cl.move
  split
  ·exact⟨E,E⟩
  split
  ·have hk:∀n b j,((m.aC n q' b).aj j).Mv=(m.aj j).Mv/\((m.aC n q' b).aj j).OO=(m.aj j).OO/\((m.aC n q' b).aj j).up=(m.aj j).up:=λn b j=>by
    by_cases e:j=n
    ·rw[e,show(m.aC n q' b).aj n=(m.aj n).aC q' b from aY _];exact⟨E,E,E⟩
    rw[show(m.aC n q' b).aj j=m.aj j from Ox e];exact⟨E,E,E⟩
   refine⟨?_,Dh λj _=>(hk _ _ j).2.2⟩;unfold Cl.c0 Cl.ws;rw[(hk _ _ 0).1,(hk _ _ 1).1,(hk _ _ 2).1,(hk _ _ 3).1,(hk _ _ 4).1,(hk _ _ 0).2.1,(hk _ _ 1).2.1,(hk _ _ 2).2.1,(hk _ _ 3).2.1,(hk _ _ 4).2.1];rfl
  exact⟨E,E⟩
 omega
def ash(h:ac.kd=2\/ac.kd=6\/ac.kd=8\/ac.kd=10):yA ac=2:=au h
def rF(f:Ac->Nat):List Ac->Nat
 |[]=>0
 |a::l=>f a+rF f l
def zF(f:Ac->Nat):∀(a b:List Ac),rF f (a++b)=rF f a+rF f b
 |[],b=>by simp[rF]
 |x::a,b=>by rw[vW,rF,rF,zF f a b];omega
def agn(h:X.PZ=λ_=>false){d:TW}(I:X.PS=λ_=>nowhere)(J:∀q,q<2->0<=(d.at q).ME):Jj X d:=λq M=>⟨by rw[I];exact J q M,λhs=>by rw[h]at hs;cases hs⟩
def avD(I:QI m q g)(I':QI m q g')(h:g.m<=g'.m):g'.m=g.m:=by
 have h1:=I'.vV;have J:=I'.ES;have e:=I.top I'.o5 J Y;have M:=I.vV;rw[e]at h1;omega
def adq(I:QI m q g)(I':QI m q g'):yq (vw m q) g'<=yq (vw m q) g:=by
 refine Ba I I' ?_ E;by_cases c:g.m<=g'.m
 ·exact c
 have:=avD I' I Y;omega
def adr(h:∀q,q<2->QI m q (G q))(I:∀q,q<2->QI m q (G' q)):YY m G'<=YY m G:=by
 have J:=adq (h 0 dQ) (I 0 dQ);have h1:=adq (h 1 dQ) (I 1 dQ);unfold YY;omega
def aBk(R:Rm m G B):ZZ m (FF m G)+9<=8*YY m G+94+2*m.cw:=by
 have hst:m.ws (fT (FF m G))<=m.cw:=by
  have h1:∀l:bO,fT (FF m G) l<=I5 l:=λl=>by
   unfold fT I5
   split
   ·rename_i c
    rw[au Y];exact aB
   exact aG _
  have h:∀a:List bO,eB (fT (FF m G)) a<=qL a:=by
   intro a
   induction a with
   |nil=>exact aB
   |cons l r ih=>have:=h1 l;rw[eB,qL];omega
  have h0:=h m.OM;have i0:=h (m.aj 0).Mv;have i1:=h (m.aj 1).Mv;have i2:=h (m.aj 2).Mv;have i3:=h (m.aj 3).Mv;have i4:=h (m.aj 4).Mv;unfold Cl.ws Cl.cw tX;omega
 have hc:m.ws bV<=m.c0:=by unfold Cl.c0;omega
 have O:(o5 λj=>sK (m.aj j).OO)<=5:=by
  have h1:∀o:Option dh,sK o<=1:=λo=>by cases o<;>simp[sK]
  unfold o5;dsimp only;have i0:=h1 (m.aj 0).OO;have i1:=h1 (m.aj 1).OO;have i2:=h1 (m.aj 2).OO;have i3:=h1 (m.aj 3).OO;have i4:=h1 (m.aj 4).OO;omega
 have hq:∀q,q<2->qQ (FF m G q) (m.off.at q).ME (vq m q)<=yq (vw m q) (G q)+5:=λq hq=>by
  have I:=R.qi q hq;have o5':=I.o5;have eo:(FF m G q).own (FF m G q).M=(G q).o:=rfl;have Z:∀n,n<5-> ∀p,(m.aj n).OO=some p->p.q=q->Gq (G q) (vw m q) n p:=λn hn p O hpq=>(I.nQ n hn p (by unfold Cc;rw[O];exact Pj hpq)).2;have J:∀n,n<5->pI (FF m G q) (vq m q) n<=yo (vw m q) (G q) n:=λn hn=>by
   unfold pI yo;rw[eo]
   split
   ·rename_i c
    obtain⟨c1,c2⟩:=c;unfold vq at c2
    cases O:(m.aj n).OO with
    |none=>rw[jV O]at c2;rw[au ⟨c1,by rw[iC (R.up n hn)];exact c2⟩];exact aB
    |some p=>
     by_cases e:p.q=q
     ·have hk:=Z n hn p O e;rw[q8 O e]at c2
      exfalso
      cases p with
      |serve k Jp op num a=>exact c1 hk.1
      |P8 k x=>obtain⟨j,j1,_⟩:=hk;have c3:x.F9=3:=c2;rw[j1]at c3;exact av c3 (by show(4:Int)≠3;decide)
      |T9 k x last=>
       have c3:x.F9=3:=c2;obtain⟨k1,k2,k3⟩:=hk
       cases last with
       |true=>obtain⟨_,_,_,a4,_⟩:=k3 E;rw[a4]at c3;exact av c3 (by show(1:Int)≠3;decide)
       |false=>obtain⟨j,a1,_⟩:=k2 E;rw[a1]at c3;exact av (k1.symm.trans c3) dQ
      |gy k x a=>exact c1 hk.1
      |P5 k x=>obtain⟨_,j2,_⟩:=hk;have c3:x.F9=3:=c2;rw[j2]at c3;exact av c3 (by show(0:Int)≠3;decide)
     rw[Aq O e]at c2;rw[au ⟨c1,by rw[iC (R.up n hn)];exact c2⟩];exact aB
   exact aG _
  have hol:o5 (pI (FF m G q) (vq m q))<=o5 (yo (vw m q) (G q)):=by
   have:=J 0 dQ;have:=J 1 dQ;have:=J 2 dQ;have:=J 3 dQ;have:=J 4 dQ;unfold o5;omega
  have hev:(vq m q (G q).o).Jp.length<=(G q).G.length+1:=by
   have yN:=I.yN;have ae:=iC (q:=q) (R.up _ o5');unfold vq
   cases O:(m.aj (G q).o).OO with
   |none=>rw[jV O,<-ae,yN];exact mh _
   |some p=>
    by_cases e:p.q=q
    ·have hk:=Z _ o5' p O e;rw[q8 O e];have ES:=I.ES
     cases p with
     |serve k Jp op num a=>obtain⟨_,_,k3,_⟩:=hk;show Jp.length<=_;rw[k3,aZ];exact aB
     |P8 k x=>obtain⟨_,_,_,_,k4,_⟩:=hk;omega
     |T9 k x last=>have:=hk.1;omega
     |gy k x a=>obtain⟨_,_,k3⟩:=hk;show x.Jp.length<=_;rw[k3];show(vw m q (G q).o).Jp.length<=_;rw[yN];exact mh _
     |P5 k x=>obtain⟨_,_,k3⟩:=hk;have:=I.vV;omega
    rw[Aq O e,<-ae,yN];exact mh _
  have hd:Om (FF m G q) (m.off.at q).ME<=1:=by unfold Om;split<;>omega
  have hR:(FF m G q).R=if (vw m q (G q).o).F9=1 then 0 else 1:=rfl
  unfold qQ Zg yq;rw[eo];by_cases c:(vw m q (G q).o).F9=1
  ·rw[au c]at hR;rw[ah Y,au c];omega
  rw[ah c]at hR;rw[au hR,ah c]
  split<;>omega
 have h0:=hq 0 dQ;have h1:=hq 1 dQ;unfold ZZ PP YY;omega
end
end Go.Proofs.YtefabpdniidmbaaGreatDoor
