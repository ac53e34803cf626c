import Derived.Test.YtefabpdniidmbaaGreatDoorG952cd
import Derived.Test.YtefabpdniidmbaaGreatDoorG9efb7
set_option linter.all false
set_option maxRecDepth 100000
set_option maxHeartbeats 8000000
namespace Go.Proofs.YtefabpdniidmbaaGreatDoor
open List Nat Go.Proofs.Tryz
open ChangeShapes WideShapes RowKit
def bM (l:bG):Nat:=if l.kd=0 then 1 else 0
def yD:Option bO->Nat
 |some (.serve _ _ _ _ _)=>1
 |_=>0
def Cl.c0 (m:Cl):Nat:=m.ws bM+(yD (m.ah 0).pend+(yD (m.ah 1).pend+(yD (m.ah 2).pend+(yD (m.ah 3).pend+yD (m.ah 4).pend))))
noncomputable def FF (m:Cl)(G:Nat->Gh):Nat->Wy:=λq=>Cg m q (G q)
noncomputable def F5 (m:Cl)(G:Nat->Gh)(n:Nat):Nat:=(m.ah n).data.length+m.ws (tZ (FF m G))+(fi (FF m G 0) n (qF (m.ah n) 0)+fi (FF m G 1) n (qF (m.ah n) 1))
structure Rmc (m:Cl)(G:Nat->Gh)(B c e:Nat):Prop where
 up:∀n,n<5->(m.ah n).up=true
 vd:Vd m
 qi:∀q,q<2->QI m q (G q)
 F5:∀n,n<5->F5 m G n+c<=B
 cap:∀q,q<2->(G q).G.length+m.c0+e+(FF m G q).R<=300
def Rm (m:Cl)(G:Nat->Gh)(B:Nat):Prop:=Rmc m G B 0 0
section
variable {m w m':Cl}{n q B c e:Nat}{X X':Nd}{l:bG}{p:bO}{G G':Nat->Gh}{g g':Gh}{b b':aQ}{rs us:List cB}{V:Nat->aQ}{P:Nat->Option bO}{U:Nat->Bool}{Lt:bG->Prop}{pl:Pl}{sh:Nat->Int×Int}{sv:List jH}
def RJ {Q:Nat->Gh->Prop}(h:∀q,q<2-> ∃g,Q q g):∃G:Nat->Gh,∀q,q<2->Q q (G q):=by
 obtain⟨a,I⟩:=h 0 dQ;obtain⟨b,J⟩:=h 1 dQ;refine⟨λq=>if q=0 then a else b,λq M=>?_⟩;have:q=0\/q=1:=Y
 rcases this with rfl|rfl
 ·exact I
 exact J
def mM.trans {F F' J:Wy}(h:mM F F')(M:mM F' J):mM F J:=by
 rcases h with⟨a1,a2,a3,a4⟩|⟨a1,a2,a3,a4,a5⟩
 ·rcases M with⟨b1,b2,b3,b4⟩|⟨b1,b2,b3,b4,b5⟩
  ·exact .inl ⟨by omega,λk I=>(b2 k Y).trans (a2 k I),by omega,b4.trans a4⟩
  exact .inr ⟨by omega,λk I=>(b2 k Y).trans (a2 k I),by rw[<-a1,b3,a4],by omega,b5⟩
 rcases M with⟨b1,b2,b3,b4⟩|⟨b1,b2,b3,b4,b5⟩
 ·exact .inr ⟨by omega,λk I=>(b2 k Y).trans (a2 k I),by rw[b2 _ Y];exact a3,a4,by omega⟩
 omega
def F6 (x:bG)(h:x.kd=6):bM x=0:=if_neg Y
def rZ {x:bG}(h:x.kd≠0):bM x=0:=if_neg h
def Wx {f:bG->Nat}:∀ {a:List bG},(∀x∈a,f x=0)->dI f a=0
 |[],_=>rfl
 |l::a,h=>by rw[dI,h l mem_cons_self,Wx (a:=a) λx I=>h x (mem_cons_of_mem _ I)]
def oI {f:bG->Nat}{new:List bG}(hn:n<5)(h:∀j,j≠n->m'.ah j=m.ah j)(hi:(m'.ah n).inbox=(m.ah n).inbox)(I:m'.fly=m.fly++new)(J:∀x∈new,f x=0):m'.ws f<=m.ws f:=
 FW (d:=0) hn (λj M=>by rw[h j M]) (by rw[hi,I,uU,Wx J];omega)
def Db {d d':Nat}(hn:n<5)(h:∀j,j≠n->m'.ah j=m.ah j)(hw:m'.ws bM+d<=m.ws bM)(I:yD (m'.ah n).pend+d'<=yD (m.ah n).pend+d):m'.c0+d'<=m.c0:=by
 unfold Cl.c0
 rcases five hn with rfl|rfl|rfl|rfl|rfl
 ·rw[h 1 dQ,h 2 dQ,h 3 dQ,h 4 dQ];omega
 ·rw[h 0 dQ,h 2 dQ,h 3 dQ,h 4 dQ];omega
 ·rw[h 0 dQ,h 1 dQ,h 3 dQ,h 4 dQ];omega
 ·rw[h 0 dQ,h 1 dQ,h 2 dQ,h 4 dQ];omega
 rw[h 0 dQ,h 1 dQ,h 2 dQ,h 3 dQ];omega
def Ky {new:List bG}(hv:Vd m)(Z:∀j,j<5->F5 m G j+c<=B)(hn:n<5)(M:∀j,j≠n->m'.ah j=m.ah j)(hi:(m'.ah n).inbox=(m.ah n).inbox)(hf:m'.fly=m.fly++new)
  (h:∀q,q<2->mM (FF m G q) (FF m' G' q)) (h0:∀x∈new,tZ (FF m' G') x=0)
  (hd:(m'.ah n).data.length+(fi (FF m G 0) n (qF (m'.ah n) 0)+fi (FF m G 1) n (qF (m'.ah n) 1))<=(m.ah n).data.length+c+(fi (FF m G 0) n (qF (m.ah n) 0)+fi (FF m G 1) n (qF (m.ah n) 1))):∀j,j<5->F5 m' G' j<=B:=by
 have h1:m'.ws (tZ (FF m' G'))<=m.ws (tZ (FF m' G')):=oI hn M hi hf h0;have h2:m.ws (tZ (FF m' G'))<=m.ws (tZ (FF m G)):=Rw (λl I=>(h _ (hv.fly l I)).lw) λj J l I=>(h _ (hv.iO j J l I)).lw;intro j J;have hp:=Z j J;have f0:=(h 0 dQ).fi_ (n:=j) (b:=qF (m'.ah j) 0);have f1:=(h 1 dQ).fi_ (n:=j) (b:=qF (m'.ah j) 1);unfold F5 at hp⊢;by_cases O:j=n
 ·subst O;omega
 rw[M j O]at f0 f1⊢;omega
def uP (I:Inv g V P U Lt pl sh sv)(hn:n<5)(J:(V n).role=2\/(V n).role=3){x:bG}(he:x.ep=(V n).ep+1)(h:x.tg=(V n).tg):calm ⟨g.m,g.own,if (V g.o).role=1 then 0 else 1,(V g.o).tg⟩ x:=by
 by_cases e:n=g.o
 ·rw[e]at J he h;rw[I.q9]at he;exact .inr ⟨he,if_neg Y,h⟩
 rcases I.mV n hn e with⟨Z,_⟩|⟨k,M,k2,k3,k4,k5,k6,O⟩|⟨k,M,_⟩
 ·omega
 ·refine .inl ⟨by omega,by show x.ep<=(g.m:Int);omega,?_⟩
  show x.tg=((g.own x.ep.toNat:Nat):Int)
  rw[show x.ep.toNat=k+1 by omega,h,O]
 omega
def Jp (hu:(m.ah n).up=true)(H:Hnd m n l m'):∃new,m'.fly=m.fly++new/\ ∀x∈new,x.kd≠0/\(x.kd=4->x.q=l.q/\(((m.ah n).bs l.q).role=2\/((m.ah n).bs l.q).role=3)/\x.ep=((m.ah n).bs l.q).ep+1/\x.tg=((m.ah n).bs l.q).tg):=by
 have one:∀ {x:bG} {Q:bG->Prop},Q x-> ∀y∈[x],Q y:=λh y M=>by rw[mem_singleton]at M;subst M;exact h
 cases H with
 |same=>exact⟨[],by simp,λx J=>by cases J⟩
 |done a h1 O=>
  unfold Cl.done
  split
  ·exact⟨_,E,one ⟨by show(1:Int)≠0;decide,λh=>absurd (show(1:Int)=4 from h) dQ⟩⟩
  exact⟨_,E,one ⟨by show(1:Int)≠0;decide,λh=>absurd (show(1:Int)=4 from h) dQ⟩⟩
 |have_ h1=>exact⟨_,E,one ⟨by show(3:Int)≠0;decide,λh=>absurd (show(3:Int)=4 from h) dQ⟩⟩
 |part b h1 O h3 I h5 h6=>
  obtain⟨g1,g2,Z⟩:=pW (m:=m.aA n l.q b) (n:=n) (q:=l.q) (a:=l.at_);have e0:((m.aA n l.q b).ah n).bs l.q=b:=by rw[show(m.aA n l.q b).ah n=(m.ah n).aA l.q b from aW _];exact upd_same _ _ _
  rw[e0]at Z;rw[Z];unfold lq
  split
  ·exact⟨[],by rw[append_nil];rfl,λx J=>by cases J⟩
  refine⟨_,E,one ⟨by show(4:Int)≠0;decide,λ_=>⟨E,?_,?_,?_⟩⟩⟩
  ·rcases I with⟨I,_⟩|⟨I,_⟩
   ·exact .inl I
   exact .inr I
  ·show b.ep+1=_
   rcases I with⟨_,I,_⟩|⟨_,I⟩<;>rw[I]
  show b.tg=_
  rcases I with⟨_,I,_⟩|⟨_,I⟩<;>rw[I]
 |pend p dB d h1 O h3 I h5=>exact⟨[],by rw[append_nil];rfl,λx J=>by cases J⟩
 |hear h1=>exact⟨[],by rw[append_nil];rfl,λx J=>by cases J⟩
def Wz (hu:(m.ah n).up=true)(M:(m.ah n).pend=none)(H:Hnd m n l m'):
  (∀q,((m'.ah n).bs q).role=((m.ah n).bs q).role/\((m'.ah n).bs q).tg=((m.ah n).bs q).tg/\((m'.ah n).bs q).ep=((m.ah n).bs q).ep/\((m'.ah n).bs q).evs=((m.ah n).bs q).evs)/\
  (((m'.ah n).pend=none/\(m'.ah n).data=(m.ah n).data)\/(∃p,(m'.ah n).pend=some p/\p.q=l.q/\p.ok (m.ah n).bs/\(m'.ah n).bs=(m.ah n).bs/\Src ((m.ah n).bs l.q) l p/\(m'.ah n).data.length<=(m.ah n).data.length+46*(p.rs (m.ah n).bs).length)):=by
 have I:∀ {dB:Nd},dB=m.ah n->(∀q,(dB.bs q).role=((m.ah n).bs q).role/\(dB.bs q).tg=((m.ah n).bs q).tg/\(dB.bs q).ep=((m.ah n).bs q).ep/\(dB.bs q).evs=((m.ah n).bs q).evs)/\((dB.pend=none/\dB.data=(m.ah n).data)\/(∃p,dB.pend=some p/\p.q=l.q/\p.ok (m.ah n).bs/\dB.bs=(m.ah n).bs/\Src ((m.ah n).bs l.q) l p/\dB.data.length<=(m.ah n).data.length+46*(p.rs (m.ah n).bs).length)):=λh=>by
  subst h;exact⟨λq=>⟨E,E,E,E⟩,.inl ⟨M,E⟩⟩
 cases H with
 |same=>exact I E
 |done a h1 O=>exact I (by rw[(uO (m:=m)).2.1])
 |have_ h1=>exact I E
 |part b h1 O Z J h5 h6=>
  obtain⟨g1,g2,g3⟩:=pW (m:=m.aA n l.q b) (n:=n) (q:=l.q) (a:=l.at_);have e0:((m.aA n l.q b).part n l.q l.at_).ah n=(m.ah n).aA l.q b:=by rw[g2];exact aW _
  rw[e0];refine⟨λq=>?_,.inl ⟨M,E⟩⟩;by_cases hq:q=l.q
  ·rw[hq,show((m.ah n).aA l.q b).bs l.q=b from upd_same _ _ _]
   rcases J with⟨_,J,_⟩|⟨_,J⟩<;>rw[J]<;>exact⟨E,E,E,E⟩
  rw[show((m.ah n).aA l.q b).bs q=(m.ah n).bs q from upd_ne hq];exact⟨E,E,E,E⟩
 |pend p dB d h1 O Z J h5=>
  have hY:dB.bs=(m.ah n).bs:=by rcases h1 with h1|⟨_,h1⟩<;>rw[h1]<;>rfl
  rw[aW];dsimp only;rw[hY];refine⟨λq=>⟨E,E,E,E⟩,.inr ⟨p,E,O,Z,E,h5,?_⟩⟩;obtain⟨w1,_,_⟩:=qx J;have:=xA (p.rs (m.ah n).bs);rw[w1,length_append];omega
 |hear h1=>
  rw[aW];exact⟨λq=>⟨E,E,E,E⟩,.inl ⟨M,E⟩⟩
def JR (h:qc g g')(I:(vw m' q g.o).role=(vw m q g.o).role)(J:(vw m' q g.o).tg=(vw m q g.o).tg):Cg m' q g'=Cg m q g:=by
 unfold Cg;rw[h.m,h.own,h.o,I,J]
def arD (h:m'.ah n=m.ah n):vw m' q n=vw m q n:=by unfold vw;rw[h]
def afe (R:Rmc m G B (tZ (FF m G) l) (bM l))(hB:B+46<=100000)(hn:n<5)(hU:oq (m.ah n) rs [])(hp:(m.ah n).pend=none)(hL:∀q,q<2->l.q=q->Ed (G q) (vw m q) (m.off.at q) l)(Ay:l.tg=n)(hl3:l.evs.length<=3)(hk:l.kd=0->aX l.op=0/\l.op.kind≠4)(M:l.q<2)
  (lH:zW m m' n) (H:Hnd m n l m'):∃G',Rm m' G' B/\ ∀q,q<2->FF m' G' q=FF m G q:=by
 have hu:=R.up n hn;have hdat:(m.ah n).data.length+46<=100000:=by
  have:=R.F5 n hn;unfold F5 at this;omega
 have hG:∀q,q<2->(G q).G.length<=300:=λq O=>by have:=R.cap q O;omega
 obtain⟨G',hG'⟩:=RJ (Q:=λq g'=>QI m' q g'/\qc (G q) g') λq O=>by
  obtain⟨g',h1,Z,_⟩:=ZR (R.qi q O) hn hu hU hp (hL q O) Ay hk Y hdat (by have:=hG q O;omega) H;exact⟨g',h1,Z⟩
 have hu':(m'.ah n).up=true:=lH.up.trans hu;obtain⟨hbs,SY⟩:=Wz hu hp H;have hVs:∀q j,(vw m' q j).role=(vw m q j).role/\(vw m' q j).tg=(vw m q j).tg:=λq j=>by
  by_cases e:j=n
  ·subst e;rw[gT hu,gT hu'];exact⟨(hbs q).1,(hbs q).2.1⟩
  rw[arD (lH.mV j e)];exact⟨E,E⟩
 have hFe:∀q,q<2->FF m' G' q=FF m G q:=λq O=>JR (hG' q O).2 (hVs q _).1 (hVs q _).2;obtain⟨new,hf,hnew⟩:=Jp hu H;have ady:∀x∈new,tZ (FF m' G') x=0:=λx hx=>by
  obtain⟨h1,Z⟩:=hnew x hx;refine adZ h1 λh4=>?_;obtain⟨h5,h6,h7,h8⟩:=Z h4;rw[h5,hFe _ M];have hV:=gT (q:=l.q) hu;exact uP (R.qi _ M) hn (by rw[hV];exact h6) (by rw[hV];exact h7) (by rw[hV];exact h8)
 refine⟨G',⟨λj hj=>?_,ae5 R.vd hn hu hp M H,λq O=>(hG' q O).1,?_,λq O=>?_⟩,hFe⟩
 ·by_cases e:j=n
  ·rw[e];exact hu'
  rw[lH.mV j e];exact R.up j hj
 ·refine Ky (c:=tZ (FF m G) l) R.vd R.F5 hn lH.mV lH.iO hf (λq O=>by rw[hFe q O];exact .refl _) ady ?_;have J:∀q,((m'.ah n).pend=none\/ ∃p,(m'.ah n).pend=some p/\p.q≠q)->fi (FF m G q) n (qF (m'.ah n) q)=fi (FF m G q) n (qF (m.ah n) q):=λq h=>by
   rw[jO hp];have e:qF (m'.ah n) q=(m'.ah n).bs q:=by
    rcases h with h|⟨p,h,Z⟩
    ·exact jO h
    exact xY h Z
   rw[e];exact ak4 (hbs q).1 (hbs q).2.2.1 (hbs q).2.2.2
  rcases SY with⟨h1,Z⟩|⟨p,h1,Z,h3,h4,h5,h6⟩
  ·rw[J 0 (.inl h1),J 1 (.inl h1),Z];omega
  have hV:=gT (q:=l.q) hu;have hf:=(iL hU.tape hU.kX h3 (by rw[Z];omega)).2;have acO:=V8 (R.qi _ M) hn hV E (hL _ M E) Ay Z E h3 h5 hf;have hpp:=agZ (FF:=FF m G) (R.qi _ M) hn hV Z h3 h5 acO Ay hl3 (hG _ M) E E;have e1:qF (m'.ah n) l.q=p.b (m.ah n).bs:=by rw[oN h1 Z,h4]
  have e2:qF (m.ah n) l.q=(m.ah n).bs l.q:=jO hp;rw[<-e1,<-e2]at hpp;have h01:l.q=0\/l.q=1:=Y
  rcases h01 with e|e
  ·rw[e]at hpp;have:=J 1 (.inr ⟨p,h1,by rw[Z,e];decide⟩);omega
  rw[e]at hpp;have:=J 0 (.inr ⟨p,h1,by rw[Z,e];decide⟩);omega
 have hc:=R.cap q O;rw[hFe q O,(hG' q O).2.G];have hw:m'.ws bM+0<=m.ws bM:=oI hn lH.mV lH.iO hf λx hx=>rZ (hnew x hx).1;have hs:yD (m'.ah n).pend<=bM l:=by
  rcases SY with⟨h1,_⟩|⟨p,h1,Z,h3,h4,h5,h6⟩
  ·rw[h1];exact zero_le _
  rw[h1]
  cases p with
  |serve k evs op num a=>rw[show bM l=1 from if_pos h5.1];exact Nat.le_refl _
  |_=>exact zero_le _
 have h0:yD (m.ah n).pend=0:=by rw[hp];rfl
 have:m'.c0<=m.c0+bM l:=by
  have I:=lH.mV;unfold Cl.c0
  rcases five hn with rfl|rfl|rfl|rfl|rfl
  ·rw[I 1 dQ,I 2 dQ,I 3 dQ,I 4 dQ];omega
  ·rw[I 0 dQ,I 2 dQ,I 3 dQ,I 4 dQ];omega
  ·rw[I 0 dQ,I 1 dQ,I 3 dQ,I 4 dQ];omega
  ·rw[I 0 dQ,I 1 dQ,I 2 dQ,I 4 dQ];omega
  rw[I 0 dQ,I 1 dQ,I 2 dQ,I 3 dQ];omega
 omega
end
section
variable {m w m':Cl}{n q B c e d:Nat}{X X' dB:Nd}{l:bG}{p:bO}{G G':Nat->Gh}{g g':Gh}{b b':aQ}{rs us:List cB}{V:Nat->aQ}{P:Nat->Option bO}{U:Nat->Bool}{Lt:bG->Prop}{pl:Pl}{sh:Nat->Int×Int}{sv:List jH}
def Inv.top (I:Inv g V P U Lt pl sh sv)(hn:n<5)(J:(V n).role=1\/(V n).role=2\/(V n).role=3)(he:(g.m:Int)<=(V n).ep):n=g.o:=by
 by_cases e:n=g.o
 ·exact e
 rcases I.mV n hn e with⟨M,_⟩|⟨k,h,O,Z,k4,_⟩|⟨k,h,_⟩
 ·omega
 ·omega
 omega
def xC (I:QI m q g)(I':QI m' q g')(N:lM g g')(hn:n<5)(hV:vw m' q=upd (vw m q) n b')
  (h1:n=g.o->b'.ep=(vw m q n).ep/\b'.tg=(vw m q n).tg/\(b'.role=1↔(vw m q n).role=1)/\b'.evs.length<=(vw m q n).evs.length+d)
  (h2:n≠g.o->b'.role=0\/b'.role=4\/(b'.role=3/\b'.ep<g.m)\/(b'.role=1/\b'.ep=(g.m:Int)+1/\(vw m q g.o).role=3/\(vw m q g.o).tg=n/\b'.evs.length=g.G.length+1)):
  mM (Cg m q g) (Cg m' q g')/\g'.G.length+(Cg m' q g').R<=g.G.length+(Cg m q g).R+d:=by
 have o5:=I'.o5;have J:=I'.q9;have M:=I'.uJ;have O:=I'.Aw;have hm:=N.m;have keep:g'.o≠n->g'.o=g.o:=λe=>by
  rw[hV,upd_ne e]at J O;exact I.top o5 O Y
 have Z:g'.o=g.o->(vw m' q g.o).ep=g.m->g'.m=g.m:=λe h=>by
  rw[e]at J;have:=J.symm.trans h;omega
 by_cases c:n=g.o
 ·obtain⟨a1,a2,a3,a4⟩:=h1 c;subst c;have eV:vw m' q g.o=b':=by rw[hV,upd_same]
  have eo:g'.o=g.o:=by
   by_cases e:g'.o=g.o
   ·exact e
   exact keep e
  have em:=Z eo (by rw[eV,a1];exact I.q9);have hG:g'.G.length=b'.evs.length:=by rw[<-M,eo,eV]
  have hG0:g.G.length=(vw m q g.o).evs.length:=by rw[I.uJ]
  have hR:(Cg m' q g').R=(Cg m q g).R:=by
   unfold Cg;dsimp only;rw[eo,eV];by_cases c1:(vw m q g.o).role=1
   ·rw[if_pos c1,if_pos (a3.2 c1)]
   rw[if_neg c1,if_neg (λh=>c1 (a3.1 h))]
  refine⟨.inl ⟨em,N.own,hR,?_⟩,by omega⟩
  show(vw m' q g'.o).tg=(vw m q g.o).tg
  rw[eo,eV,a2]
 have eVo:vw m' q g.o=vw m q g.o:=by rw[hV,upd_ne (λe=>c e.symm)]
 by_cases e:g'.o=n
 ·rw[e]at J M O;rw[hV,upd_same]at J M O
  rcases h2 c with h|h|⟨_,h⟩|⟨k1,k2,k3,k4,k5⟩
  ·omega
  ·omega
  ·omega
  have em:g'.m=g.m+1:=Y;have hR:(Cg m q g).R=1:=if_neg Y;have hR':(Cg m' q g').R=0:=if_pos (by rw[e,hV,upd_same];exact k1);have hG:g'.G.length=g.G.length+1:=by rw[<-M,k5]
  refine⟨.inr ⟨em,N.own,?_,hR,hR'⟩,by omega⟩
  show((g'.own (g.m+1):Nat):Int)=(vw m q g.o).tg
  rw[k4,<-em];exact congrArg Int.ofNat e
 have eo:=keep e;have em:=Z eo (by rw[eVo];exact I.q9);have hR:(Cg m' q g').R=(Cg m q g).R:=by unfold Cg;dsimp only;rw[eo,eVo]
 have hG:g'.G.length=g.G.length:=by rw[<-M,eo,eVo,I.uJ]
 refine⟨.inl ⟨em,N.own,hR,?_⟩,by omega⟩
 show(vw m' q g'.o).tg=(vw m q g.o).tg
 rw[eo,eVo]
def YX (I:QI m q g)(I':QI m' q g')(N:lM g g')(hn:n<5)(hu:(m.ah n).up=true)(hp:(m.ah n).pend=some p)(M:vw m' q=upd (vw m q) n (qF (m.ah n) q)):
  mM (Cg m q g) (Cg m' q g')/\g'.G.length+(Cg m' q g').R<=g.G.length+(Cg m q g).R+yD (m.ah n).pend:=by
 have O:=gT (q:=q) hu;by_cases hq:p.q=q
 ·have hpv:tY m q n=some p:=by unfold tY;rw[hp];exact FT hq
  obtain⟨_,Z⟩:=I.lF n hn p hpv;rw[oN hp hq]at M;rw[hp]
  cases p with
  |serve k evs op num a=>
   have e:k=q:=hq;subst e;obtain⟨J,k2,k3,k4,k5⟩:=Z;refine xC I I' N hn M (λ_=>?_) λh=>absurd J h;rw[O];refine⟨E,E,Iff.rfl,?_⟩
   show evs.length<=_+1
   rw[k3,length_append,<-O,J,I.uJ];exact Nat.le_refl _
  |begun k x=>
   obtain⟨j,j1,j2,j3,j4,j5⟩:=Z;exact xC I I' N hn M (λh=>absurd h (I.oH j4)) λ_=>.inr (.inl (by show x.role=4;rw[j1]))
  |got k x last=>
   obtain⟨J,k2,k3⟩:=Z;refine xC I I' N hn M (λh=>absurd h (I.oH (.inr J))) λ_=>?_
   cases last with
   |true=>
    obtain⟨a1,a2,a3,a4,a5⟩:=k3 E;refine .inr (.inr (.inr ⟨?_,?_,a2,a3,?_⟩))
    ·show x.role=1;rw[a4]
    ·show x.ep=_;rw[a4]
    show x.evs.length=_;rw[a4];show(g.G++[aF]).length=_;simp
   |false=>
    obtain⟨j,a1,_⟩:=k2 E;exact .inr (.inl (by show x.role=4;rw[a1];exact J))
  |fF k x a=>
   obtain⟨ho,j1,j2⟩:=Z;refine xC I I' N hn M (λ_=>?_) λh=>absurd ho h
   show x.ep=_/\x.tg=_/\(x.role=1↔_)/\x.evs.length<=_
   rw[j2];exact⟨E,E,by show(3:Int)=1↔_;omega,Nat.le_refl _⟩
  |forget k x=>
   obtain⟨j1,j2,j3⟩:=Z;exact xC I I' N hn M (λh=>by have:=I.q9;rw[<-h]at this;omega) λ_=>.inl (by show x.role=0;rw[j2])
 rw[xY hp hq,<-O]at M;have h:=xC (d:=0) I I' N hn M (λ_=>⟨E,E,Iff.rfl,Nat.le_refl _⟩) λh=>by
  rcases I.mV n hn h with⟨h5,_⟩|⟨k,J,k2,k3,k4,_⟩|⟨k,J,_⟩
  ·exact .inl h5
  ·exact .inr (.inr (.inl ⟨J,by omega⟩))
  exact .inr (.inl J)
 exact⟨h.1,by have:=h.2;omega⟩
def Qn (J:(m.ah n).up=true)(I:(m.ah n).pend=some p)(M:p.ok (m.ah n).bs):∃new,(m.step n).fly=m.fly++new/\ ∀x∈new,x.kd≠0/\(x.kd=4->x.q=p.q/\(qF (m.ah n) p.q).role=3/\x.ep=(qF (m.ah n) p.q).ep+1/\x.tg=(qF (m.ah n) p.q).tg):=by
 have one:∀ {x:bG} {Q:bG->Prop},Q x-> ∀y∈[x],Q y:=λh y Z=>by rw[mem_singleton]at Z;subst Z;exact h
 rw[oN I E]
 cases p with
 |serve k evs op num a=>
  rw[jr E J I E M.1];exact⟨_,E,one ⟨by show(1:Int)≠0;decide,λh=>absurd (show(1:Int)=4 from h) dQ⟩⟩
 |begun k b=>
  rw[nH E J I];exact⟨_,E,one ⟨by show(3:Int)≠0;decide,λh=>absurd (show(3:Int)=4 from h) dQ⟩⟩
 |got k b last=>
  cases last with
  |true=>
   rw[jT E J I];exact⟨[],by rw[append_nil];rfl,λx O=>by cases O⟩
  |false=>
   rw[rX E J I];exact⟨_,E,one ⟨by show(3:Int)≠0;decide,λh=>absurd (show(3:Int)=4 from h) dQ⟩⟩
 |fF k b at_=>
  rw[pU E J I];obtain⟨h1,h2⟩:=M;dsimp only[bO.q,bO.b];unfold lq
  split
  ·exact⟨[],by rw[append_nil],λx O=>by cases O⟩
  exact⟨_,E,one ⟨by show(4:Int)≠0;decide,λ_=>⟨E,by rw[h2],E,E⟩⟩⟩
 |forget k b=>
  rw[lY E J I];exact⟨[],by rw[append_nil];rfl,λx O=>by cases O⟩
def alp {T S dV K:Nat}(R:Rm m G B)(hb:bY m T S dV K)(hn:n<5)(O:(m.ah n).pend=some p):∃G',Rm (m.step n) G' B/\ ∀q,q<2->mM (FF m G q) (FF (m.step n) G' q):=by
 have hu:=R.up n hn;obtain⟨rs,us,hU⟩:=(hb.iE n hn).sG hu;obtain⟨h1,h2,h3⟩:=hU.FN p O;obtain⟨_,hf⟩:=iL hU.tape hU.kX h2 h3;obtain⟨dB,y1,y2,y3,y4,y5,y6,y7,y8,y9,_⟩:=zK E hu O h3 hf h2;obtain⟨G',M⟩:=RJ (Q:=λq g'=>QI (m.step n) q g'/\lM (G q) g') λq J=>by
  obtain⟨g',k1,k2,_⟩:=TI (R.qi q J) hn E hu O h2;exact⟨g',k1,k2⟩
 have eY:(m.step n).ah n=dB:=by rw[y1,upd_same]
 have hvY:∀q,dB.bs q=qF (m.ah n) q:=λq=>by
  rw[y2];by_cases e:q=p.q
  ·subst e;rw[upd_same,oN O E]
  rw[upd_ne e,xY O (λh=>e h.symm)]
 have hV:∀q,vw (m.step n) q=upd (vw m q) n (qF (m.ah n) q):=λq=>by rw[pX y1,dJ y6,hvY]
 have hgh:∀q,q<2->mM (FF m G q) (FF (m.step n) G' q)/\_:=λq J=>YX (R.qi q J) (M q J).1 (M q J).2 hn hu O (hV q);have hF:=λq J=>(hgh q J).1;obtain⟨new,hfl,Z⟩:=Qn hu O h2;have hpq:=R.vd.lF n hn p O;have I:∀j,j≠n->(m.step n).ah j=m.ah j:=λj hj=>by rw[y1,upd_ne hj]
 have au3:((m.step n).ah n).inbox=(m.ah n).inbox:=by rw[eY,y7]
 refine⟨G',⟨λj hj=>?_,Z4 R.vd hb hn,λq J=>(M q J).1,?_,λq J=>?_⟩,hF⟩
 ·by_cases e:j=n
  ·rw[e,eY];exact y6
  rw[I j e];exact R.up j hj
 ·refine Ky (c:=0) R.vd R.F5 hn I au3 hfl hF (λx hx=>?_) ?_
  ·obtain⟨k1,k2⟩:=Z x hx;refine adZ k1 λh4=>?_;obtain⟨k5,k6,k7,k8⟩:=k2 h4;rw[k5];have V9:vw (m.step n) p.q n=qF (m.ah n) p.q:=by rw[hV,upd_same]
   exact uP (M _ hpq).1 hn (by rw[V9];exact .inr k6) (by rw[V9];exact k7) (by rw[V9];exact k8)
  have e0:∀q,qF ((m.step n).ah n) q=qF (m.ah n) q:=λq=>by rw[eY,jO y5,hvY]
  rw[e0,e0,eY,y3];exact Nat.le_refl _
 have hc:=R.cap q J;have h4:=(hgh q J).2;have hw:(m.step n).ws bM+0<=m.ws bM:=oI hn I au3 hfl λx hx=>rZ (Z x hx).1;have:=Db (d:=0) (d':=yD (m.ah n).pend) hn I hw (by rw[eY,y5];show 0+_<=_;omega)
 show(G' q).G.length+(m.step n).c0+0+(Cg (m.step n) q (G' q)).R<=300
 have hc':(G q).G.length+m.c0+0+(Cg m q (G q)).R<=300:=hc;omega
def alq (R:Rm m G B)(hn:n<5):∃G',Rm (m.jU n) G' B/\ ∀q,q<2->FF (m.jU n) G' q=FF m G q:=by
 have hu:=R.up n hn;have Z:(m.jU n).ah=upd m.ah n {m.ah n with turn:=(m.ah n).turn+1}:=rfl;have eY:(m.jU n).ah n={m.ah n with turn:=(m.ah n).turn+1}:=by rw[Z,upd_same]
 have J:∀j,j≠n->(m.jU n).ah j=m.ah j:=λj hj=>by rw[Z,upd_ne hj]
 have hl:=λq M=>TH (R.qi q M) hn hu;have hF:∀q,q<2->FF (m.jU n) G q=FF m G q:=λq M=>JR (.refl _) (by rw[(hl q M).2]) (by rw[(hl q M).2]);have O:∀x∈fV n ((m.ah n).turn % 4) ((m.ah n).bs ((m.ah n).turn % 4)) ((m.ah n).sure ((m.ah n).turn % 4)),x.kd≠0/\x.kd≠4:=by
  intro x I;unfold fV at I;have two:(2:Int)≠0/\(2:Int)≠4:=by decide
  have five:(5:Int)≠0/\(5:Int)≠4:=by decide
  rcases mem_append.1 I with I|I
  ·rcases mem_append.1 I with I|I
   ·split at I
    ·rw[mem_singleton]at I;subst I;exact two
    simp at I
   split at I
   ·rw[mem_singleton]at I;subst I;exact five
   simp at I
  split at I
  ·rw[mem_singleton]at I;subst I;exact five
  simp at I
 refine⟨G,⟨λj hj=>?_,Qk R.vd hn hu,λq M=>(hl q M).1,?_,λq M=>?_⟩,hF⟩
 ·by_cases e:j=n
  ·rw[e,eY];exact hu
  rw[J j e];exact R.up j hj
 ·refine Ky (c:=0) (G:=G) (G':=G) R.vd R.F5 hn J (by rw[eY]) E (λq M=>by rw[hF q M];exact .refl _) (λx I=>adZ (O x I).1 λh=>absurd h (O x I).2) ?_;rw[eY];exact Nat.le_refl _
 have hc:=R.cap q M;have hw:(m.jU n).ws bM+0<=m.ws bM:=oI hn J (by rw[eY]) E λx I=>rZ (O x I).1;have:=Db (d:=0) (d':=0) hn J hw (by rw[eY];exact Nat.le_refl _);rw[hF q M];omega
def Bj (m:Cl)(l:bG)(j:Nat):∃h,(m.come l).ah j={m.ah j with inbox:=h}:=by
 unfold Cl.come
 split
 ·exact⟨_,E⟩
 split
 ·split<;>exact⟨_,E⟩
 split
 ·by_cases e:j=l.tg.toNat
  ·subst e;exact⟨_,aW _⟩
  exact⟨(m.ah j).inbox,upd_ne e⟩
 exact⟨_,E⟩
def Uc:∀(ls:List bG) (m:Cl) (j:Nat),∃h,(ls.foldl Cl.come m).ah j={m.ah j with inbox:=h}
 |[],m,j=>⟨_,E⟩
 |l::ls,m,j=>by
  obtain⟨I,J⟩:=Uc ls (m.come l) j;obtain⟨O,M⟩:=Bj m l j;refine⟨I,?_⟩;rw[foldl_cons,J,M]
def uf (m:Cl)(j:Nat):∃h,m.all.ah j={m.ah j with inbox:=h}:=Uc m.fly {m with fly:=[]} j
def WA {T S dV K:Nat}(R:Rm m G B)(J:bY m T S dV K):Rm m.all G B/\ ∀q,q<2->FF m.all G q=FF m G q:=by
 have O:=λq (I:q<2)=>Qf (R.qi q I) J.mR Y;have M:∀q,q<2->FF m.all G q=FF m G q:=λq I=>JR (.refl _) (by rw[(O q I).2]) (by rw[(O q I).2]);have h:∀j,(m.all.ah j).pend=(m.ah j).pend:=λj=>by obtain⟨Z,e⟩:=uf m j;rw[e]
 refine⟨⟨λj hj=>?_,O4 R.vd J.mR,λq I=>(O q I).1,λj hj=>?_,λq I=>?_⟩,M⟩
 ·obtain⟨Z,e⟩:=uf m j;rw[e];exact R.up j hj
 ·have h1:=R.F5 j hj;have h2:m.all.ws (tZ (FF m.all G))<=m.all.ws (tZ (FF m G)):=Rw (λx hx=>(by rw[M _ ((O4 R.vd J.mR).fly x hx)];exact .refl _:mM (FF m G x.q) (FF m.all G x.q)).lw) λi hi x hx=>(by rw[M _ ((O4 R.vd J.mR).iO i hi x hx)];exact .refl _:mM (FF m G x.q) (FF m.all G x.q)).lw;have h3:m.all.ws (tZ (FF m G))<=m.ws (tZ (FF m G)):=CG awP J.mR;obtain⟨Z,e⟩:=uf m j;unfold F5 at h1⊢;rw[M 0 dQ,M 1 dQ,e];have e1:∀q,qF {m.ah j with inbox:=Z} q=qF (m.ah j) q:=λ_=>E;rw[e1,e1];dsimp only;omega
 have h1:=R.cap q I;have h3:m.all.ws bM<=m.ws bM:=CG F6 J.mR;have:m.all.c0<=m.c0:=by
  unfold Cl.c0;rw[h,h,h,h,h];omega
 rw[M q I];omega
end
def Ci {n q k p i b he hn:Int}(h1:0<=n/\n<3)(Z:0<=q/\q<2)(h:(k=1/\0<=p/\p<2/\0<=i/\i<24/\0<=b/\b<1000/\he=0/\hn=0)\/(k=2/\p=0/\i=0/\b=0/\he=0/\hn=0)\/(k=3/\p=0/\i=0/\b=0/\0<=he/\he<3/\0<=hn/\hn<6)):dz ⟨2,n,q,0,0,k,p,i,b,he,hn⟩=0:=by
 rcases h with⟨rfl,I,J,M,O,h7,h8,rfl,rfl⟩|⟨rfl,rfl,rfl,rfl,rfl,rfl⟩|⟨rfl,rfl,rfl,rfl,I,J,M,O⟩
 all_goals
  simp[dz,bT,NJ,Ac.get,Ac.ints,fin,zi,zeros];omega
def alr {k a b c:Int}(n q:Int)(h1:0<=n/\n<3)(h:0<=q/\q<2):dz ⟨2,n,q,0,0,if (nK k a b c).kind=4 then 2 else(nK k a b c).kind,(nK k a b c).producer,(nK k a b c).id,(nK k a b c).body,(nK k a b c).aN,(nK k a b c).hno⟩=0:=by
 have p1:=oO (n:=a) (m:=2) dQ;have p2:=oO (n:=b) (m:=24) dQ;have p3:=oO (n:=c) (m:=1000) dQ;have I:=oO (n:=a) (m:=3) dQ;have J:=oO (n:=b) (m:=6) dQ;unfold nK
 split
 ·exact Ci h1 h (.inl ⟨E,p1.1,p1.2,p2.1,p2.2,p3.1,p3.2,E,E⟩)
 split
 ·exact Ci h1 h (.inr (.inl ⟨E,E,E,E,E,E⟩))
 split
 ·exact Ci h1 h (.inr (.inr ⟨E,E,E,E,I.1,I.2,J.1,J.2⟩))
 exact Ci h1 h (.inr (.inl ⟨E,E,E,E,E,E⟩))
def JU (g:Gr)(cr:Bool):dz (fD g cr)=0/\(fD g cr).kd≠1:=by
 have p1:=oO (n:=g.a) (m:=3) dQ;have p2:=oO (n:=g.b) (m:=2) dQ;have p3:=oO (n:=g.c) (m:=20) dQ;have h:=oO (n:=g.c) (m:=120) dQ;unfold fD
 split
 ·exact⟨alr _ _ p1 p2,by unfold Rz;dsimp only;omega⟩
 repeat' split
 all_goals
  refine⟨?_,by dsimp only;omega⟩;simp[dz,bT,NJ,Ac.get,Ac.ints,fin,zi,zeros]
  try omega
def ahp:∀a∈mks,dz a=0:=by
 intro a h;simp only[mks,mem_cons,not_mem_nil,or_false]at h
 rcases h with rfl|rfl<;>rfl
def Vz (gs:List Gr)(m:Nat)(cr:Bool):∀a∈bZ gs m cr,dz a=0:=by
 intro a I
 rcases mem_append.1 I with h|h
 ·exact ahp a h
 obtain⟨g,_,rfl⟩:=mem_map.1 h;exact(JU g cr).1
def GV (gs:List Gr)(m:Nat)(cr:Bool):(bZ gs m cr).length<=2+m:=by
 unfold bZ mks;simp;omega
def AO {k:Int}{n:Nat}(h:(k=9\/k=3)/\n<5\/k=7/\n=0):dz (Il k (n:Int))=0/\(Il k (n:Int)).kd≠1:=by
 rcases h with⟨h1,h⟩|⟨rfl,rfl⟩
 ·have:n=0\/n=1\/n=2\/n=3\/n=4:=Y
  rcases h1 with rfl|rfl<;>rcases this with rfl|rfl|rfl|rfl|rfl<;>exact⟨E,by show(_:Int)≠1;decide⟩
 exact⟨E,by show(7:Int)≠1;decide⟩
def Pe:∀(r:Nat),∀a∈yY r,dz a=0/\a.kd≠1
 | 0,a,h=>by cases h
 |r+1,a,h=>by
  rw[GU]at h
  rcases mem_append.1 h with h|h
  ·rcases mem_append.1 h with h|h
   ·exact Pe r a h
   obtain⟨n,hn,rfl⟩:=mem_map.1 h;exact AO (.inl ⟨.inr E,mem_range.1 hn⟩)
  rw[mem_singleton]at h;subst h;exact AO (n:=0) (.inr ⟨E,E⟩)
def adz (r:Nat):∀a∈starts 5++yY r,dz a=0/\a.kd≠1:=by
 intro a h
 rcases mem_append.1 h with h|h
 ·obtain⟨n,hn,rfl⟩:=mem_map.1 h;exact AO (.inl ⟨.inl E,mem_range.1 hn⟩)
 exact Pe r a h
def adA (gs:List Gr)(m:Nat)(cr:Bool)(r:Nat):∀a∈lN (bZ gs m cr) r,dz a=0:=by
 intro a h;unfold lN at h;rw[append_assoc]at h
 rcases mem_append.1 h with h|h
 ·exact Vz gs m cr a h
 exact(adz r a h).1
def als (gs:List Gr)(m:Nat)(cr:Bool)(r:Nat):(lN (bZ gs m cr) r).length<=7+m+6*r:=by
 have:=GV gs m cr;rw[TW];omega
end Go.Proofs.YtefabpdniidmbaaGreatDoor
