import Derived.Test.YtefabpdniidmbaaGreatDoorG24f19
import Derived.Test.YtefabpdniidmbaaGreatDoorGbedf8
set_option linter.all false
set_option maxRecDepth 100000
set_option maxHeartbeats 8000000
namespace Go.Proofs.YtefabpdniidmbaaGreatDoor
open List Nat Go.Proofs.Tryz ChangeShapes WideShapes RowKit
def bO(l:bH):Nat:=if l.kd=0 then 1 else 0
def yM:Option bS->Nat
 |some (.serve _ _ _ _ _)=>1
 |_=>0
def Cl.c0(m:Cl):Nat:=m.ws bO+(yM (m.ah 0).Mw+(yM (m.ah 1).Mw+(yM (m.ah 2).Mw+(yM (m.ah 3).Mw+yM (m.ah 4).Mw))))
noncomputable def FF(m:Cl)(G:Nat->Gh):Nat->Wy:=λq=>Cw m q (G q)
noncomputable def Gm(m:Cl)(G:Nat->Gh)(n:Nat):Nat:=(m.ah n).data.length+m.ws (uD (FF m G))+(fi (FF m G 0) n (qG (m.ah n) 0)+fi (FF m G 1) n (qG (m.ah n) 1))
structure Rmc (m:Cl)(G:Nat->Gh)(B c e:Nat):Prop where
 up:∀n,n<5->(m.ah n).up=true
 vd:Vd m
 qi:∀q,q<2->QI m q (G q)
 Gm:∀n,n<5->Gm m G n+c<=B
 cap:∀q,q<2->(G q).G.length+m.c0+e+(FF m G q).R<=300
def Rm(m:Cl)(G:Nat->Gh)(B:Nat):Prop:=Rmc m G B 0 0
section
variable {m w m':Cl}{n q B c e:Nat}{X X':Nd}{l:bH}{p:bS}{G G':Nat->Gh}{g g':Gh}{b b':aU}{rs us:List cO}{V:Nat->aU}{P:Nat->Option bS}{U:Nat->Bool}{Lt:bH->Prop}{pl:Pl}{sh:Nat->Int×Int}{sv:List jJ}
def RY{Q:Nat->Gh->Prop}(h:∀q,q<2-> ∃g,Q q g):∃G:Nat->Gh,∀q,q<2->Q q (G q):=by
 obtain⟨a,I⟩:=h 0 dQ;obtain⟨b,J⟩:=h 1 dQ;refine⟨λq=>if q=0 then a else b,λq M=>?_⟩;have:q=0\/q=1:=Y
 rcases this with rfl|rfl
 ·exact I
 exact J
def mQ.trans{F F' J:Wy}(h:mQ F F')(M:mQ F' J):mQ F J:=by
 rcases h with⟨a1,a2,a3,a4⟩|⟨a1,a2,a3,a4,a5⟩
 ·rcases M with⟨b1,b2,b3,b4⟩|⟨b1,b2,b3,b4,b5⟩
  ·exact .inl ⟨by omega,λk I=>(b2 k Y).trans (a2 k I),by omega,b4.trans a4⟩
  exact .inr ⟨by omega,λk I=>(b2 k Y).trans (a2 k I),by rw[<-a1,b3,a4],by omega,b5⟩
 rcases M with⟨b1,b2,b3,b4⟩|⟨b1,b2,b3,b4,b5⟩
 ·exact .inr ⟨by omega,λk I=>(b2 k Y).trans (a2 k I),by rw[b2 _ Y];exact a3,a4,by omega⟩
 omega
def Gn(x:bH)(h:x.kd=6):bO x=0:=if_neg Y
def sG{x:bH}(h:x.kd≠0):bO x=0:=if_neg h
def WK{f:bH->Nat}:∀ {a:List bH},(∀x∈a,f x=0)->dF f a=0
 |[],_=>rfl
 |l::a,h=>by rw[dF,h l mem_cons_self,WK (a:=a) λx I=>h x (mem_cons_of_mem _ I)]
def oK{f:bH->Nat}{new:List bH}(hn:n<5)(h:∀j,j≠n->m'.ah j=m.ah j)(hi:(m'.ah n).Md=(m.ah n).Md)(I:m'.Ms=m.Ms++new)(J:∀x∈new,f x=0):m'.ws f<=m.ws f:=
 Gf (d:=0) hn (λj M=>by rw[h j M]) (by rw[hi,I,u7,WK J];omega)
def Dr{d d':Nat}(hn:n<5)(h:∀j,j≠n->m'.ah j=m.ah j)(hw:m'.ws bO+d<=m.ws bO)(I:yM (m'.ah n).Mw+d'<=yM (m.ah n).Mw+d):m'.c0+d'<=m.c0:=by
 unfold Cl.c0
 rcases five hn with rfl|rfl|rfl|rfl|rfl
 ·rw[h 1 dQ,h 2 dQ,h 3 dQ,h 4 dQ];omega
 ·rw[h 0 dQ,h 2 dQ,h 3 dQ,h 4 dQ];omega
 ·rw[h 0 dQ,h 1 dQ,h 3 dQ,h 4 dQ];omega
 ·rw[h 0 dQ,h 1 dQ,h 2 dQ,h 4 dQ];omega
 rw[h 0 dQ,h 1 dQ,h 2 dQ,h 3 dQ];omega
def KQ{new:List bH}(hv:Vd m)(Z:∀j,j<5->Gm m G j+c<=B)(hn:n<5)(M:∀j,j≠n->m'.ah j=m.ah j)(hi:(m'.ah n).Md=(m.ah n).Md)(hf:m'.Ms=m.Ms++new)
  (h:∀q,q<2->mQ (FF m G q) (FF m' G' q)) (h0:∀x∈new,uD (FF m' G') x=0)
  (hd:(m'.ah n).data.length+(fi (FF m G 0) n (qG (m'.ah n) 0)+fi (FF m G 1) n (qG (m'.ah n) 1))<=(m.ah n).data.length+c+(fi (FF m G 0) n (qG (m.ah n) 0)+fi (FF m G 1) n (qG (m.ah n) 1))):∀j,j<5->Gm m' G' j<=B:=by
 have h1:m'.ws (uD (FF m' G'))<=m.ws (uD (FF m' G')):=oK hn M hi hf h0;have h2:m.ws (uD (FF m' G'))<=m.ws (uD (FF m G)):=RJ (λl I=>(h _ (hv.Ms l I)).lw) λj J l I=>(h _ (hv.iP j J l I)).lw;intro j J;have hp:=Z j J;have f0:=(h 0 dQ).fi_ (n:=j) (b:=qG (m'.ah j) 0);have f1:=(h 1 dQ).fi_ (n:=j) (b:=qG (m'.ah j) 1);unfold Gm at hp⊢;by_cases O:j=n
 ·subst O;omega
 rw[M j O]at f0 f1⊢;omega
def uW(I:QC g V P U Lt pl sh sv)(hn:n<5)(J:(V n).Gq=2\/(V n).Gq=3){x:bH}(he:x.ep=(V n).ep+1)(h:x.tg=(V n).tg):calm ⟨g.m,g.own,if (V g.o).Gq=1 then 0 else 1,(V g.o).tg⟩ x:=by
 by_cases e:n=g.o
 ·rw[e]at J he h;rw[I.ru]at he;exact .inr ⟨he,if_neg Y,h⟩
 rcases I.mK n hn e with⟨Z,_⟩|⟨k,M,k2,k3,k4,k5,k6,O⟩|⟨k,M,_⟩
 ·omega
 ·refine .inl ⟨by omega,by show x.ep<=(g.m:Int);omega,?_⟩
  show x.tg=((g.own x.ep.toNat:Nat):Int)
  rw[show x.ep.toNat=k+1 by omega,h,O]
 omega
def Jy(hu:(m.ah n).up=true)(H:Hnd m n l m'):∃new,m'.Ms=m.Ms++new/\ ∀x∈new,x.kd≠0/\(x.kd=4->x.q=l.q/\(((m.ah n).bs l.q).Gq=2\/((m.ah n).bs l.q).Gq=3)/\x.ep=((m.ah n).bs l.q).ep+1/\x.tg=((m.ah n).bs l.q).tg):=by
 have one:∀ {x:bH} {Q:bH->Prop},Q x-> ∀y∈[x],Q y:=λh y M=>by rw[mem_singleton]at M;subst M;exact h
 cases H with
 |same=>exact⟨[],by simp,λx J=>by cases J⟩
 |done a h1 O=>
  unfold Cl.done
  split
  ·exact⟨_,E,one ⟨by show(1:Int)≠0;decide,λh=>absurd (show(1:Int)=4 from h) dQ⟩⟩
  exact⟨_,E,one ⟨by show(1:Int)≠0;decide,λh=>absurd (show(1:Int)=4 from h) dQ⟩⟩
 |QM h1=>exact⟨_,E,one ⟨by show(3:Int)≠0;decide,λh=>absurd (show(3:Int)=4 from h) dQ⟩⟩
 |part b h1 O h3 I h5 h6=>
  obtain⟨g1,g2,Z⟩:=pY (m:=m.ay n l.q b) (n:=n) (q:=l.q) (a:=l.at_);have e0:((m.ay n l.q b).ah n).bs l.q=b:=by rw[show(m.ay n l.q b).ah n=(m.ah n).ay l.q b from aX _];exact Ee _ _ _
  rw[e0]at Z;rw[Z];unfold lD
  split
  ·exact⟨[],by rw[append_nil];rfl,λx J=>by cases J⟩
  refine⟨_,E,one ⟨by show(4:Int)≠0;decide,λ_=>⟨E,?_,?_,?_⟩⟩⟩
  ·rcases I with⟨I,_⟩|⟨I,_⟩
   ·exact .inl I
   exact .inr I
  ·show b.ep+1=_
   rcases I with⟨_,I,_⟩|⟨_,I⟩<;>rw[I]
  show b.tg=_
  rcases I with⟨_,I,_⟩|⟨_,I⟩<;>rw[I]
 |Mw p dz d h1 O h3 I h5=>exact⟨[],by rw[append_nil];rfl,λx J=>by cases J⟩
 |Ny h1=>exact⟨[],by rw[append_nil];rfl,λx J=>by cases J⟩
def WL(hu:(m.ah n).up=true)(M:(m.ah n).Mw=none)(H:Hnd m n l m'):
 (∀q,((m'.ah n).bs q).Gq=((m.ah n).bs q).Gq/\((m'.ah n).bs q).tg=((m.ah n).bs q).tg/\((m'.ah n).bs q).ep=((m.ah n).bs q).ep/\((m'.ah n).bs q).Gs=((m.ah n).bs q).Gs)/\
  (((m'.ah n).Mw=none/\(m'.ah n).data=(m.ah n).data)\/(∃p,(m'.ah n).Mw=some p/\p.q=l.q/\p.ok (m.ah n).bs/\(m'.ah n).bs=(m.ah n).bs/\Src ((m.ah n).bs l.q) l p/\(m'.ah n).data.length<=(m.ah n).data.length+46*(p.rs (m.ah n).bs).length)):=by
 have I:∀ {dz:Nd},dz=m.ah n->(∀q,(dz.bs q).Gq=((m.ah n).bs q).Gq/\(dz.bs q).tg=((m.ah n).bs q).tg/\(dz.bs q).ep=((m.ah n).bs q).ep/\(dz.bs q).Gs=((m.ah n).bs q).Gs)/\((dz.Mw=none/\dz.data=(m.ah n).data)\/(∃p,dz.Mw=some p/\p.q=l.q/\p.ok (m.ah n).bs/\dz.bs=(m.ah n).bs/\Src ((m.ah n).bs l.q) l p/\dz.data.length<=(m.ah n).data.length+46*(p.rs (m.ah n).bs).length)):=λh=>by
  subst h;exact⟨λq=>⟨E,E,E,E⟩,.inl ⟨M,E⟩⟩
 cases H with
 |same=>exact I E
 |done a h1 O=>exact I (by rw[(uV (m:=m)).2.1])
 |QM h1=>exact I E
 |part b h1 O Z J h5 h6=>
  obtain⟨g1,g2,g3⟩:=pY (m:=m.ay n l.q b) (n:=n) (q:=l.q) (a:=l.at_);have e0:((m.ay n l.q b).part n l.q l.at_).ah n=(m.ah n).ay l.q b:=by rw[g2];exact aX _
  rw[e0];refine⟨λq=>?_,.inl ⟨M,E⟩⟩;by_cases hq:q=l.q
  ·rw[hq,show((m.ah n).ay l.q b).bs l.q=b from Ee _ _ _]
   rcases J with⟨_,J,_⟩|⟨_,J⟩<;>rw[J]<;>exact⟨E,E,E,E⟩
  rw[show((m.ah n).ay l.q b).bs q=(m.ah n).bs q from Kg hq];exact⟨E,E,E,E⟩
 |Mw p dz d h1 O Z J h5=>
  have hY:dz.bs=(m.ah n).bs:=by rcases h1 with h1|⟨_,h1⟩<;>rw[h1]<;>rfl
  rw[aX];dsimp only;rw[hY];refine⟨λq=>⟨E,E,E,E⟩,.inr ⟨p,E,O,Z,E,h5,?_⟩⟩;obtain⟨w1,_,_⟩:=qC J;have:=xK (p.rs (m.ah n).bs);rw[w1,length_append];omega
 |Ny h1=>
  rw[aX];exact⟨λq=>⟨E,E,E,E⟩,.inl ⟨M,E⟩⟩
def J9(h:qg g g')(I:(vw m' q g.o).Gq=(vw m q g.o).Gq)(J:(vw m' q g.o).tg=(vw m q g.o).tg):Cw m' q g'=Cw m q g:=by
 unfold Cw;rw[h.m,h.own,h.o,I,J]
def ar9(h:m'.ah n=m.ah n):vw m' q n=vw m q n:=by unfold vw;rw[h]
def afC(R:Rmc m G B (uD (FF m G) l) (bO l))(hB:B+46<=100000)(hn:n<5)(hU:oC (m.ah n) rs [])(hp:(m.ah n).Mw=none)(hL:∀q,q<2->l.q=q->Es (G q) (vw m q) (m.off.at q) l)(AU:l.tg=n)(hl3:l.Gs.length<=3)(hk:l.kd=0->aZ l.op=0/\l.op.kind≠4)(M:l.q<2)
  (lK:Ap m m' n) (H:Hnd m n l m'):∃G',Rm m' G' B/\ ∀q,q<2->FF m' G' q=FF m G q:=by
 have hu:=R.up n hn;have hdat:(m.ah n).data.length+46<=100000:=by
  have:=R.Gm n hn;unfold Gm at this;omega
 have hG:∀q,q<2->(G q).G.length<=300:=λq O=>by have:=R.cap q O;omega
 obtain⟨G',hG'⟩:=RY (Q:=λq g'=>QI m' q g'/\qg (G q) g') λq O=>by
  obtain⟨g',h1,Z,_⟩:=Z9 (R.qi q O) hn hu hU hp (hL q O) AU hk Y hdat (by have:=hG q O;omega) H;exact⟨g',h1,Z⟩
 have hu':(m'.ah n).up=true:=lK.up.trans hu;obtain⟨hbs,Tg⟩:=WL hu hp H;have hVs:∀q j,(vw m' q j).Gq=(vw m q j).Gq/\(vw m' q j).tg=(vw m q j).tg:=λq j=>by
  by_cases e:j=n
  ·subst e;rw[gK hu,gK hu'];exact⟨(hbs q).1,(hbs q).2.1⟩
  rw[ar9 (lK.mK j e)];exact⟨E,E⟩
 have hFe:∀q,q<2->FF m' G' q=FF m G q:=λq O=>J9 (hG' q O).2 (hVs q _).1 (hVs q _).2;obtain⟨new,hf,hnew⟩:=Jy hu H;have adP:∀x∈new,uD (FF m' G') x=0:=λx hx=>by
  obtain⟨h1,Z⟩:=hnew x hx;refine aeh h1 λh4=>?_;obtain⟨h5,h6,h7,h8⟩:=Z h4;rw[h5,hFe _ M];have hV:=gK (q:=l.q) hu;exact uW (R.qi _ M) hn (by rw[hV];exact h6) (by rw[hV];exact h7) (by rw[hV];exact h8)
 refine⟨G',⟨λj hj=>?_,afr R.vd hn hu hp M H,λq O=>(hG' q O).1,?_,λq O=>?_⟩,hFe⟩
 ·by_cases e:j=n
  ·rw[e];exact hu'
  rw[lK.mK j e];exact R.up j hj
 ·refine KQ (c:=uD (FF m G) l) R.vd R.Gm hn lK.mK lK.iP hf (λq O=>by rw[hFe q O];exact .refl _) adP ?_;have J:∀q,((m'.ah n).Mw=none\/ ∃p,(m'.ah n).Mw=some p/\p.q≠q)->fi (FF m G q) n (qG (m'.ah n) q)=fi (FF m G q) n (qG (m.ah n) q):=λq h=>by
   rw[jR hp];have e:qG (m'.ah n) q=(m'.ah n).bs q:=by
    rcases h with h|⟨p,h,Z⟩
    ·exact jR h
    exact yu h Z
   rw[e];exact alC (hbs q).1 (hbs q).2.2.1 (hbs q).2.2.2
  rcases Tg with⟨h1,Z⟩|⟨p,h1,Z,h3,h4,h5,h6⟩
  ·rw[J 0 (.inl h1),J 1 (.inl h1),Z];omega
  have hV:=gK (q:=l.q) hu;have hf:=(iR hU.tape hU.lg h3 (by rw[Z];omega)).2;have ac7:=Wp (R.qi _ M) hn hV E (hL _ M E) AU Z E h3 h5 hf;have hpp:=ahn (FF:=FF m G) (R.qi _ M) hn hV Z h3 h5 ac7 AU hl3 (hG _ M) E E;have e1:qG (m'.ah n) l.q=p.b (m.ah n).bs:=by rw[oU h1 Z,h4]
  have e2:qG (m.ah n) l.q=(m.ah n).bs l.q:=jR hp;rw[<-e1,<-e2]at hpp;have h01:l.q=0\/l.q=1:=Y
  rcases h01 with e|e
  ·rw[e]at hpp;have:=J 1 (.inr ⟨p,h1,by rw[Z,e];decide⟩);omega
  rw[e]at hpp;have:=J 0 (.inr ⟨p,h1,by rw[Z,e];decide⟩);omega
 have hc:=R.cap q O;rw[hFe q O,(hG' q O).2.G];have hw:m'.ws bO+0<=m.ws bO:=oK hn lK.mK lK.iP hf λx hx=>sG (hnew x hx).1;have hs:yM (m'.ah n).Mw<=bO l:=by
  rcases Tg with⟨h1,_⟩|⟨p,h1,Z,h3,h4,h5,h6⟩
  ·rw[h1];exact zero_le _
  rw[h1]
  cases p with
  |serve k Gs op num a=>rw[show bO l=1 from if_pos h5.1];exact Nat.le_refl _
  |_=>exact zero_le _
 have h0:yM (m.ah n).Mw=0:=by rw[hp];rfl
 have:m'.c0<=m.c0+bO l:=by
  have I:=lK.mK;unfold Cl.c0
  rcases five hn with rfl|rfl|rfl|rfl|rfl
  ·rw[I 1 dQ,I 2 dQ,I 3 dQ,I 4 dQ];omega
  ·rw[I 0 dQ,I 2 dQ,I 3 dQ,I 4 dQ];omega
  ·rw[I 0 dQ,I 1 dQ,I 3 dQ,I 4 dQ];omega
  ·rw[I 0 dQ,I 1 dQ,I 2 dQ,I 4 dQ];omega
  rw[I 0 dQ,I 1 dQ,I 2 dQ,I 3 dQ];omega
 omega
end
section
variable {m w m':Cl}{n q B c e d:Nat}{X X' dz:Nd}{l:bH}{p:bS}{G G':Nat->Gh}{g g':Gh}{b b':aU}{rs us:List cO}{V:Nat->aU}{P:Nat->Option bS}{U:Nat->Bool}{Lt:bH->Prop}{pl:Pl}{sh:Nat->Int×Int}{sv:List jJ}
def QC.top(I:QC g V P U Lt pl sh sv)(hn:n<5)(J:(V n).Gq=1\/(V n).Gq=2\/(V n).Gq=3)(he:(g.m:Int)<=(V n).ep):n=g.o:=by
 by_cases e:n=g.o
 ·exact e
 rcases I.mK n hn e with⟨M,_⟩|⟨k,h,O,Z,k4,_⟩|⟨k,h,_⟩
 ·omega
 ·omega
 omega
def xM(I:QI m q g)(I':QI m' q g')(N:lT g g')(hn:n<5)(hV:vw m' q=Na (vw m q) n b')
  (h1:n=g.o->b'.ep=(vw m q n).ep/\b'.tg=(vw m q n).tg/\(b'.Gq=1↔(vw m q n).Gq=1)/\b'.Gs.length<=(vw m q n).Gs.length+d)
  (h2:n≠g.o->b'.Gq=0\/b'.Gq=4\/(b'.Gq=3/\b'.ep<g.m)\/(b'.Gq=1/\b'.ep=(g.m:Int)+1/\(vw m q g.o).Gq=3/\(vw m q g.o).tg=n/\b'.Gs.length=g.G.length+1)):
  mQ (Cw m q g) (Cw m' q g')/\g'.G.length+(Cw m' q g').R<=g.G.length+(Cw m q g).R+d:=by
 have o5:=I'.o5;have J:=I'.ru;have M:=I'.uy;have O:=I'.zS;have hm:=N.m;have keep:g'.o≠n->g'.o=g.o:=λe=>by
  rw[hV,Kg e]at J O;exact I.top o5 O Y
 have Z:g'.o=g.o->(vw m' q g.o).ep=g.m->g'.m=g.m:=λe h=>by
  rw[e]at J;have:=J.symm.trans h;omega
 by_cases c:n=g.o
 ·obtain⟨a1,a2,a3,a4⟩:=h1 c;subst c;have eV:vw m' q g.o=b':=by rw[hV,Ee]
  have eo:g'.o=g.o:=by
   by_cases e:g'.o=g.o
   ·exact e
   exact keep e
  have em:=Z eo (by rw[eV,a1];exact I.ru);have hG:g'.G.length=b'.Gs.length:=by rw[<-M,eo,eV]
  have hG0:g.G.length=(vw m q g.o).Gs.length:=by rw[I.uy]
  have hR:(Cw m' q g').R=(Cw m q g).R:=by
   unfold Cw;dsimp only;rw[eo,eV];by_cases c1:(vw m q g.o).Gq=1
   ·rw[if_pos c1,if_pos (a3.2 c1)]
   rw[if_neg c1,if_neg (λh=>c1 (a3.1 h))]
  refine⟨.inl ⟨em,N.own,hR,?_⟩,by omega⟩
  show(vw m' q g'.o).tg=(vw m q g.o).tg
  rw[eo,eV,a2]
 have eVo:vw m' q g.o=vw m q g.o:=by rw[hV,Kg (λe=>c e.symm)]
 by_cases e:g'.o=n
 ·rw[e]at J M O;rw[hV,Ee]at J M O
  rcases h2 c with h|h|⟨_,h⟩|⟨k1,k2,k3,k4,k5⟩
  ·omega
  ·omega
  ·omega
  have em:g'.m=g.m+1:=Y;have hR:(Cw m q g).R=1:=if_neg Y;have hR':(Cw m' q g').R=0:=if_pos (by rw[e,hV,Ee];exact k1);have hG:g'.G.length=g.G.length+1:=by rw[<-M,k5]
  refine⟨.inr ⟨em,N.own,?_,hR,hR'⟩,by omega⟩
  show((g'.own (g.m+1):Nat):Int)=(vw m q g.o).tg
  rw[k4,<-em];exact congrArg Int.ofNat e
 have eo:=keep e;have em:=Z eo (by rw[eVo];exact I.ru);have hR:(Cw m' q g').R=(Cw m q g).R:=by unfold Cw;dsimp only;rw[eo,eVo]
 have hG:g'.G.length=g.G.length:=by rw[<-M,eo,eVo,I.uy]
 refine⟨.inl ⟨em,N.own,hR,?_⟩,by omega⟩
 show(vw m' q g'.o).tg=(vw m q g.o).tg
 rw[eo,eVo]
def Y8(I:QI m q g)(I':QI m' q g')(N:lT g g')(hn:n<5)(hu:(m.ah n).up=true)(hp:(m.ah n).Mw=some p)(M:vw m' q=Na (vw m q) n (qG (m.ah n) q)):
 mQ (Cw m q g) (Cw m' q g')/\g'.G.length+(Cw m' q g').R<=g.G.length+(Cw m q g).R+yM (m.ah n).Mw:=by
 have O:=gK (q:=q) hu;by_cases hq:p.q=q
 ·have hpv:uz m q n=some p:=by unfold uz;rw[hp];exact Gb hq
  obtain⟨_,Z⟩:=I.lu n hn p hpv;rw[oU hp hq]at M;rw[hp]
  cases p with
  |serve k Gs op num a=>
   have e:k=q:=hq;subst e;obtain⟨J,k2,k3,k4,k5⟩:=Z;refine xM I I' N hn M (λ_=>?_) λh=>absurd J h;rw[O];refine⟨E,E,Iff.rfl,?_⟩
   show Gs.length<=_+1
   rw[k3,length_append,<-O,J,I.uy];exact Nat.le_refl _
  |Ns k x=>
   obtain⟨j,j1,j2,j3,j4,j5⟩:=Z;exact xM I I' N hn M (λh=>absurd h (I.oJ j4)) λ_=>.inr (.inl (by show x.Gq=4;rw[j1]))
  |QU k x last=>
   obtain⟨J,k2,k3⟩:=Z;refine xM I I' N hn M (λh=>absurd h (I.oJ (.inr J))) λ_=>?_
   cases last with
   |true=>
    obtain⟨a1,a2,a3,a4,a5⟩:=k3 E;refine .inr (.inr (.inr ⟨?_,?_,a2,a3,?_⟩))
    ·show x.Gq=1;rw[a4]
    ·show x.ep=_;rw[a4]
    show x.Gs.length=_;rw[a4];show(g.G++[aF]).length=_;simp
   |false=>
    obtain⟨j,a1,_⟩:=k2 E;exact .inr (.inl (by show x.Gq=4;rw[a1];exact J))
  |fG k x a=>
   obtain⟨ho,j1,j2⟩:=Z;refine xM I I' N hn M (λ_=>?_) λh=>absurd ho h
   show x.ep=_/\x.tg=_/\(x.Gq=1↔_)/\x.Gs.length<=_
   rw[j2];exact⟨E,E,by show(3:Int)=1↔_;omega,Nat.le_refl _⟩
  |Ni k x=>
   obtain⟨j1,j2,j3⟩:=Z;exact xM I I' N hn M (λh=>by have:=I.ru;rw[<-h]at this;omega) λ_=>.inl (by show x.Gq=0;rw[j2])
 rw[yu hp hq,<-O]at M;have h:=xM (d:=0) I I' N hn M (λ_=>⟨E,E,Iff.rfl,Nat.le_refl _⟩) λh=>by
  rcases I.mK n hn h with⟨h5,_⟩|⟨k,J,k2,k3,k4,_⟩|⟨k,J,_⟩
  ·exact .inl h5
  ·exact .inr (.inr (.inl ⟨J,by omega⟩))
  exact .inr (.inl J)
 exact⟨h.1,by have:=h.2;omega⟩
def Qv(J:(m.ah n).up=true)(I:(m.ah n).Mw=some p)(M:p.ok (m.ah n).bs):∃new,(m.step n).Ms=m.Ms++new/\ ∀x∈new,x.kd≠0/\(x.kd=4->x.q=p.q/\(qG (m.ah n) p.q).Gq=3/\x.ep=(qG (m.ah n) p.q).ep+1/\x.tg=(qG (m.ah n) p.q).tg):=by
 have one:∀ {x:bH} {Q:bH->Prop},Q x-> ∀y∈[x],Q y:=λh y Z=>by rw[mem_singleton]at Z;subst Z;exact h
 rw[oU I E]
 cases p with
 |serve k Gs op num a=>
  rw[jw E J I E M.1];exact⟨_,E,one ⟨by show(1:Int)≠0;decide,λh=>absurd (show(1:Int)=4 from h) dQ⟩⟩
 |Ns k b=>
  rw[nJ E J I];exact⟨_,E,one ⟨by show(3:Int)≠0;decide,λh=>absurd (show(3:Int)=4 from h) dQ⟩⟩
 |QU k b last=>
  cases last with
  |true=>
   rw[jU E J I];exact⟨[],by rw[append_nil];rfl,λx O=>by cases O⟩
  |false=>
   rw[sD E J I];exact⟨_,E,one ⟨by show(3:Int)≠0;decide,λh=>absurd (show(3:Int)=4 from h) dQ⟩⟩
 |fG k b at_=>
  rw[pX E J I];obtain⟨h1,h2⟩:=M;dsimp only[bS.q,bS.b];unfold lD
  split
  ·exact⟨[],by rw[append_nil],λx O=>by cases O⟩
  exact⟨_,E,one ⟨by show(4:Int)≠0;decide,λ_=>⟨E,by rw[h2],E,E⟩⟩⟩
 |Ni k b=>
  rw[l5 E J I];exact⟨[],by rw[append_nil];rfl,λx O=>by cases O⟩
def alW{T S dS K:Nat}(R:Rm m G B)(hb:cu m T S dS K)(hn:n<5)(O:(m.ah n).Mw=some p):∃G',Rm (m.step n) G' B/\ ∀q,q<2->mQ (FF m G q) (FF (m.step n) G' q):=by
 have hu:=R.up n hn;obtain⟨rs,us,hU⟩:=(hb.iK n hn).rC hu;obtain⟨h1,h2,h3⟩:=hU.F6 p O;obtain⟨_,hf⟩:=iR hU.tape hU.lg h2 h3;obtain⟨dz,y1,y2,y3,y4,y5,y6,y7,y8,y9,_⟩:=zT E hu O h3 hf h2;obtain⟨G',M⟩:=RY (Q:=λq g'=>QI (m.step n) q g'/\lT (G q) g') λq J=>by
  obtain⟨g',k1,k2,_⟩:=TN (R.qi q J) hn E hu O h2;exact⟨g',k1,k2⟩
 have eY:(m.step n).ah n=dz:=by rw[y1,Ee]
 have hvY:∀q,dz.bs q=qG (m.ah n) q:=λq=>by
  rw[y2];by_cases e:q=p.q
  ·subst e;rw[Ee,oU O E]
  rw[Kg e,yu O (λh=>e h.symm)]
 have hV:∀q,vw (m.step n) q=Na (vw m q) n (qG (m.ah n) q):=λq=>by rw[p8 y1,dK y6,hvY]
 have hgh:∀q,q<2->mQ (FF m G q) (FF (m.step n) G' q)/\_:=λq J=>Y8 (R.qi q J) (M q J).1 (M q J).2 hn hu O (hV q);have hF:=λq J=>(hgh q J).1;obtain⟨new,hfl,Z⟩:=Qv hu O h2;have hpq:=R.vd.lu n hn p O;have I:∀j,j≠n->(m.step n).ah j=m.ah j:=λj hj=>by rw[y1,Kg hj]
 have avx:((m.step n).ah n).Md=(m.ah n).Md:=by rw[eY,y7]
 refine⟨G',⟨λj hj=>?_,aaj R.vd hb hn,λq J=>(M q J).1,?_,λq J=>?_⟩,hF⟩
 ·by_cases e:j=n
  ·rw[e,eY];exact y6
  rw[I j e];exact R.up j hj
 ·refine KQ (c:=0) R.vd R.Gm hn I avx hfl hF (λx hx=>?_) ?_
  ·obtain⟨k1,k2⟩:=Z x hx;refine aeh k1 λh4=>?_;obtain⟨k5,k6,k7,k8⟩:=k2 h4;rw[k5];have Ws:vw (m.step n) p.q n=qG (m.ah n) p.q:=by rw[hV,Ee]
   exact uW (M _ hpq).1 hn (by rw[Ws];exact .inr k6) (by rw[Ws];exact k7) (by rw[Ws];exact k8)
  have e0:∀q,qG ((m.step n).ah n) q=qG (m.ah n) q:=λq=>by rw[eY,jR y5,hvY]
  rw[e0,e0,eY,y3];exact Nat.le_refl _
 have hc:=R.cap q J;have h4:=(hgh q J).2;have hw:(m.step n).ws bO+0<=m.ws bO:=oK hn I avx hfl λx hx=>sG (Z x hx).1;have:=Dr (d:=0) (d':=yM (m.ah n).Mw) hn I hw (by rw[eY,y5];show 0+_<=_;omega)
 show(G' q).G.length+(m.step n).c0+0+(Cw (m.step n) q (G' q)).R<=300
 have hc':(G q).G.length+m.c0+0+(Cw m q (G q)).R<=300:=hc;omega
def alX(R:Rm m G B)(hn:n<5):∃G',Rm (m.jV n) G' B/\ ∀q,q<2->FF (m.jV n) G' q=FF m G q:=by
 have hu:=R.up n hn;have Z:(m.jV n).ah=Na m.ah n {m.ah n with turn:=(m.ah n).turn+1}:=rfl;have eY:(m.jV n).ah n={m.ah n with turn:=(m.ah n).turn+1}:=by rw[Z,Ee]
 have J:∀j,j≠n->(m.jV n).ah j=m.ah j:=λj hj=>by rw[Z,Kg hj]
 have hl:=λq M=>TM (R.qi q M) hn hu;have hF:∀q,q<2->FF (m.jV n) G q=FF m G q:=λq M=>J9 (.refl _) (by rw[(hl q M).2]) (by rw[(hl q M).2]);have O:∀x∈gu n ((m.ah n).turn % 4) ((m.ah n).bs ((m.ah n).turn % 4)) ((m.ah n).Nf ((m.ah n).turn % 4)),x.kd≠0/\x.kd≠4:=by
  intro x I;unfold gu at I;have two:(2:Int)≠0/\(2:Int)≠4:=by decide
  have five:(5:Int)≠0/\(5:Int)≠4:=by decide
  rcases mem_append.1 I with I|I
  ·rcases mem_append.1 I with I|I
   ·split at I
    ·rw[mem_singleton]at I;subst I;exact two
    simp at I
   split at I
   ·rw[mem_singleton]at I;subst I;exact five
   simp at I
  split at I
  ·rw[mem_singleton]at I;subst I;exact five
  simp at I
 refine⟨G,⟨λj hj=>?_,Qr R.vd hn hu,λq M=>(hl q M).1,?_,λq M=>?_⟩,hF⟩
 ·by_cases e:j=n
  ·rw[e,eY];exact hu
  rw[J j e];exact R.up j hj
 ·refine KQ (c:=0) (G:=G) (G':=G) R.vd R.Gm hn J (by rw[eY]) E (λq M=>by rw[hF q M];exact .refl _) (λx I=>aeh (O x I).1 λh=>absurd h (O x I).2) ?_;rw[eY];exact Nat.le_refl _
 have hc:=R.cap q M;have hw:(m.jV n).ws bO+0<=m.ws bO:=oK hn J (by rw[eY]) E λx I=>sG (O x I).1;have:=Dr (d:=0) (d':=0) hn J hw (by rw[eY];exact Nat.le_refl _);rw[hF q M];omega
def BH(m:Cl)(l:bH)(j:Nat):∃h,(m.Nk l).ah j={m.ah j with Md:=h}:=by
 unfold Cl.Nk
 split
 ·exact⟨_,E⟩
 split
 ·split<;>exact⟨_,E⟩
 split
 ·by_cases e:j=l.tg.toNat
  ·subst e;exact⟨_,aX _⟩
  exact⟨(m.ah j).Md,Kg e⟩
 exact⟨_,E⟩
def Ug:∀(ls:List bH) (m:Cl) (j:Nat),∃h,(ls.foldl Cl.Nk m).ah j={m.ah j with Md:=h}
 |[],m,j=>⟨_,E⟩
 |l::ls,m,j=>by
  obtain⟨I,J⟩:=Ug ls (m.Nk l) j;obtain⟨O,M⟩:=BH m l j;refine⟨I,?_⟩;rw[foldl_cons,J,M]
def uE(m:Cl)(j:Nat):∃h,m.all.ah j={m.ah j with Md:=h}:=Ug m.Ms {m with Ms:=[]} j
def WM{T S dS K:Nat}(R:Rm m G B)(J:cu m T S dS K):Rm m.all G B/\ ∀q,q<2->FF m.all G q=FF m G q:=by
 have O:=λq (I:q<2)=>Qm (R.qi q I) J.mX Y;have M:∀q,q<2->FF m.all G q=FF m G q:=λq I=>J9 (.refl _) (by rw[(O q I).2]) (by rw[(O q I).2]);have h:∀j,(m.all.ah j).Mw=(m.ah j).Mw:=λj=>by obtain⟨Z,e⟩:=uE m j;rw[e]
 refine⟨⟨λj hj=>?_,Ph R.vd J.mX,λq I=>(O q I).1,λj hj=>?_,λq I=>?_⟩,M⟩
 ·obtain⟨Z,e⟩:=uE m j;rw[e];exact R.up j hj
 ·have h1:=R.Gm j hj;have h2:m.all.ws (uD (FF m.all G))<=m.all.ws (uD (FF m G)):=RJ (λx hx=>(by rw[M _ ((Ph R.vd J.mX).Ms x hx)];exact .refl _:mQ (FF m G x.q) (FF m.all G x.q)).lw) λi hi x hx=>(by rw[M _ ((Ph R.vd J.mX).iP i hi x hx)];exact .refl _:mQ (FF m G x.q) (FF m.all G x.q)).lw;have h3:m.all.ws (uD (FF m G))<=m.ws (uD (FF m G)):=CY axj J.mX;obtain⟨Z,e⟩:=uE m j;unfold Gm at h1⊢;rw[M 0 dQ,M 1 dQ,e];have e1:∀q,qG {m.ah j with Md:=Z} q=qG (m.ah j) q:=λ_=>E;rw[e1,e1];dsimp only;omega
 have h1:=R.cap q I;have h3:m.all.ws bO<=m.ws bO:=CY Gn J.mX;have:m.all.c0<=m.c0:=by
  unfold Cl.c0;rw[h,h,h,h,h];omega
 rw[M q I];omega
end
def Cy{n q k p i b he hn:Int}(h1:0<=n/\n<3)(Z:0<=q/\q<2)(h:(k=1/\0<=p/\p<2/\0<=i/\i<24/\0<=b/\b<1000/\he=0/\hn=0)\/(k=2/\p=0/\i=0/\b=0/\he=0/\hn=0)\/(k=3/\p=0/\i=0/\b=0/\0<=he/\he<3/\0<=hn/\hn<6)):dD ⟨2,n,q,0,0,k,p,i,b,he,hn⟩=0:=by
 rcases h with⟨rfl,I,J,M,O,h7,h8,rfl,rfl⟩|⟨rfl,rfl,rfl,rfl,rfl,rfl⟩|⟨rfl,rfl,rfl,rfl,I,J,M,O⟩
 all_goals
  simp[dD,bU,NV,Ac.get,Ac.QF,fin,zo,RF];omega
def alY{k a b c:Int}(n q:Int)(h1:0<=n/\n<3)(h:0<=q/\q<2):dD ⟨2,n,q,0,0,if (nM k a b c).kind=4 then 2 else(nM k a b c).kind,(nM k a b c).Mr,(nM k a b c).id,(nM k a b c).body,(nM k a b c).MF,(nM k a b c).Nc⟩=0:=by
 have p1:=mR (n:=a) (m:=2) dQ;have p2:=mR (n:=b) (m:=24) dQ;have p3:=mR (n:=c) (m:=1000) dQ;have I:=mR (n:=a) (m:=3) dQ;have J:=mR (n:=b) (m:=6) dQ;unfold nM
 split
 ·exact Cy h1 h (.inl ⟨E,p1.1,p1.2,p2.1,p2.2,p3.1,p3.2,E,E⟩)
 split
 ·exact Cy h1 h (.inr (.inl ⟨E,E,E,E,E,E⟩))
 split
 ·exact Cy h1 h (.inr (.inr ⟨E,E,E,E,I.1,I.2,J.1,J.2⟩))
 exact Cy h1 h (.inr (.inl ⟨E,E,E,E,E,E⟩))
def Ka(g:Gr)(cr:Bool):dD (fF g cr)=0/\(fF g cr).kd≠1:=by
 have p1:=mR (n:=g.a) (m:=3) dQ;have p2:=mR (n:=g.b) (m:=2) dQ;have p3:=mR (n:=g.c) (m:=20) dQ;have h:=mR (n:=g.c) (m:=120) dQ;unfold fF
 split
 ·exact⟨alY _ _ p1 p2,by unfold RO;dsimp only;omega⟩
 repeat' split
 all_goals
  refine⟨?_,by dsimp only;omega⟩;simp[dD,bU,NV,Ac.get,Ac.QF,fin,zo,RF]
  try omega
def ahN:∀a∈mks,dD a=0:=by
 intro a h;simp only[mks,mem_cons,not_mem_nil,or_false]at h
 rcases h with rfl|rfl<;>rfl
def VH(gs:List Gr)(m:Nat)(cr:Bool):∀a∈bQ gs m cr,dD a=0:=by
 intro a I
 rcases mem_append.1 I with h|h
 ·exact ahN a h
 obtain⟨g,_,rfl⟩:=mem_map.1 h;exact(Ka g cr).1
def Pt(gs:List Gr)(m:Nat)(cr:Bool):(bQ gs m cr).length<=2+m:=by
 unfold bQ mks;simp;omega
def Bc{k:Int}{n:Nat}(h:(k=9\/k=3)/\n<5\/k=7/\n=0):dD (IC k (n:Int))=0/\(IC k (n:Int)).kd≠1:=by
 rcases h with⟨h1,h⟩|⟨rfl,rfl⟩
 ·have:n=0\/n=1\/n=2\/n=3\/n=4:=Y
  rcases h1 with rfl|rfl<;>rcases this with rfl|rfl|rfl|rfl|rfl<;>exact⟨E,by show(_:Int)≠1;decide⟩
 exact⟨E,by show(7:Int)≠1;decide⟩
def Pv:∀(r:Nat),∀a∈zk r,dD a=0/\a.kd≠1
 | 0,a,h=>by cases h
 |r+1,a,h=>by
  rw[Hg]at h
  rcases mem_append.1 h with h|h
  ·rcases mem_append.1 h with h|h
   ·exact Pv r a h
   obtain⟨n,hn,rfl⟩:=mem_map.1 h;exact Bc (.inl ⟨.inr E,mem_range.1 hn⟩)
  rw[mem_singleton]at h;subst h;exact Bc (n:=0) (.inr ⟨E,E⟩)
def Pw(r:Nat):∀a∈starts 5++zk r,dD a=0/\a.kd≠1:=by
 intro a h
 rcases mem_append.1 h with h|h
 ·obtain⟨n,hn,rfl⟩:=mem_map.1 h;exact Bc (.inl ⟨.inl E,mem_range.1 hn⟩)
 exact Pv r a h
def Px(gs:List Gr)(m:Nat)(cr:Bool)(r:Nat):∀a∈kT (bQ gs m cr) r,dD a=0:=by
 intro a h;unfold kT at h;rw[append_assoc]at h
 rcases mem_append.1 h with h|h
 ·exact VH gs m cr a h
 exact(Pw r a h).1
end Go.Proofs.YtefabpdniidmbaaGreatDoor
