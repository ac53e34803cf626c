import Derived.Test.YtefabpdniidmbaaGreatDoorG30422
import Derived.Test.YtefabpdniidmbaaGreatDoorGe7789
set_option linter.all false
set_option maxRecDepth 100000
set_option maxHeartbeats 8000000
namespace Go.Proofs.YtefabpdniidmbaaGreatDoor
open List Nat Go.Proofs.Tryz ChangeShapes WideShapes RowKit
structure Sm (b' b:aU):Prop where
 Gq:b'.Gq=b.Gq
 ep:b'.ep=b.ep
 fr:b'.fr=b.fr
 tg:b'.tg=b.tg
 Gs:b'.Gs=b.Gs
def Sm.refl(b:aU):Sm b b:=⟨E,E,E,E,E⟩
def Sm.trans{a b c:aU}(h:Sm a b)(I:Sm b c):Sm a c:=⟨h.Gq.trans I.Gq,h.ep.trans I.ep,h.fr.trans I.fr,h.tg.trans I.tg,h.Gs.trans I.Gs⟩
def afE(b:aU)(n q:Nat)(x:bH):Prop:=x.kd=3/\x.fr=n/\x.tg=b.fr/\x.q=q/\x.ep=b.ep/\x.at_=b.Gs.length
structure Uo (F:Wy)(b:aU)(n:Nat)(l:bH)(Ms:List bH):Prop where
 new:l.kd=2->(b.Gq=0\/b.Gq=4)->b.ep<l.ep->False
 off:l.kd=2->b.Gq=4->b.ep=l.ep->b.fr=l.fr-> ∃x∈Ms,afE b n l.q x
 hav:l.kd=3->(b.Gq=2\/b.Gq=3)->b.tg=l.fr->b.ep+1=l.ep->0<=l.at_/\l.at_<=b.Gs.length->(b.Gq=3\/l.at_<b.Gs.length)/\ ∃x∈Ms,PartOf b n l.q l.at_ x
 prt:l.kd=4->F.R=1->(n:Int)=F.tg->l.ep=F.M+1->b.Gq=4->b.fr=l.fr->b.ep=l.ep->l.at_=b.Gs.length->(l.Gs≠[]\/l.last=true)->False
 lrn:l.kd=6->b.Gq=3->b.ep<l.ep->False
section
variable {m w m':Cl}{n q B:Nat}{l:bH}{p:bS}{G G':Nat->Gh}{g g':Gh}{rs us:List cO}{F:Wy}{b b':aU}{fl RV:List bH}
def Uo.mono(h:Uo F b n l fl)(M:∀x∈fl,x∈RV):Uo F b n l RV:=
 ⟨h.new,λa b c d=>by obtain⟨x,I,J⟩:=h.off a b c d;exact⟨x,M x I,J⟩,λa b c d e=>by obtain⟨y,x,I,J⟩:=h.hav a b c d e;exact⟨y,x,M x I,J⟩,h.prt,h.lrn⟩
def Uo.sm(h:Uo F b n l fl)(s:Sm b b'):Uo F b' n l fl:=by
 refine⟨λa c d=>h.new a (by rw[s.Gq];exact c) (by rw[s.ep];exact d),λa c d e=>?_,λa c d e f=>?_,λa c d e f i j k u=>h.prt a c d e (by rw[s.Gq];exact f) (by rw[s.fr];exact i) (by rw[s.ep];exact j) (by rw[s.Gs];exact k) u,λa c d=>h.lrn a (by rw[s.Gq];exact c) (by rw[s.ep];exact d)⟩
 ·obtain⟨x,J,I⟩:=h.off a (by rw[s.Gq];exact c) (by rw[s.ep];exact d) (by rw[s.fr];exact e);unfold afE at I;rw[s.fr,s.ep,s.Gs]at I;exact⟨x,J,I⟩
 obtain⟨y,x,J,I⟩:=h.hav a (by rw[s.Gq];exact c) (by rw[s.tg];exact d) (by rw[s.ep];exact e) (by rw[s.Gs];exact f);unfold PartOf at I;rw[s.tg,s.ep,s.Gs,s.Gq]at I;rw[s.Gq,s.Gs]at y;exact⟨y,x,J,I⟩
def WR(H:Hnd m n l m')(q:Nat):Sm ((m'.ah n).bs q) ((m.ah n).bs q):=by
 cases H with
 |same=>exact .refl _
 |done a h1 I=>rw[(uV (m:=m)).2.1];exact .refl _
 |QM h1=>exact .refl _
 |part b h1 I J h M O=>
  obtain⟨Z,g2,g3⟩:=pY (m:=m.ay n l.q b) (n:=n) (q:=l.q) (a:=l.at_);rw[g2,show(m.ay n l.q b).ah n=(m.ah n).ay l.q b from aX _];by_cases e:q=l.q
  ·rw[e,show((m.ah n).ay l.q b).bs l.q=b from Ee _ _ _]
   rcases h with⟨_,h,_⟩|⟨_,h⟩<;>rw[h]<;>exact⟨E,E,E,E,E⟩
  rw[show((m.ah n).ay l.q b).bs q=(m.ah n).bs q from Kg e];exact .refl _
 |Mw p dz d h1 I J h M=>
  rw[aX]
  rcases h1 with h1|⟨_,h1⟩<;>rw[h1]<;>exact .refl _
 |Ny h1=>rw[aX];exact .refl _
def al7(R:Rmc m G B (uD (FF m G) l) (bO l))(hB:B+46<=100000)(hn:n<5)(hU:oC (m.ah n) rs [])(hp:(m.ah n).Mw=none)(hL:Es (G l.q) (vw m l.q) (m.off.at l.q) l)(hlq:l.q<2)(hq:((m.Ng n l).ah n).Mw=none):
 Uo (FF m G l.q) ((m.ah n).bs l.q) n l (m.Ng n l).Ms:=by
 have hu:=R.up n hn;have I:=R.qi _ hlq;have hV:=gK (q:=l.q) hu;have hcap:=R.cap _ hlq;have hM:=I.aiL;have Z:=R.Gm n hn;have hd:(m.ah n).data.length+46<=100000:=by unfold Gm at Z;omega
 have hb:=hU.lg l.q (by omega);have hoff:l.kd=2->(1<=l.ep/\l.ep<=1048576)/\(0<=l.fr/\l.fr<=4):=λJ=>by
  obtain⟨k,k1,k2,k3,k4⟩:=hL.1 J;have:=I.aco k k2 k3;omega
 refine⟨λJ O he=>?_,λJ O he hf=>?_,λJ O ht he ha=>?_,λJ hR ht he O hf hbe ha hne=>?_,λJ O he=>?_⟩
 ·obtain⟨h1,h2⟩:=hoff J;exact VI J hU (by omega) O he h1 h2 hd hq
 ·obtain⟨h1,h2⟩:=hoff J;rw[VJ J hb O he hf h1 h2];exact⟨ou n l.q ((m.ah n).bs l.q),mem_append_right _ (mem_singleton.2 E),E,E,E,E,E,E⟩
 ·rcases asi J hU (by omega) O ht he ha hd with h|h
  ·exact absurd hq h
  exact h
 ·obtain⟨k,k1,k2,k3,k4,k5,k6,k7,k8⟩:=hL.2.1 J;have hm:(FF m G l.q).M=(G l.q).m:=rfl;have hkm:k=(G l.q).m:=by omega
  subst hkm;have hbd:(G l.q).bd (G l.q).m=(G l.q).G.length:=if_pos E;rw[hbd]at k7;have Nc:n≠(G l.q).o:=I.oJ (.inr (by rw[hV];exact O));have hev:((m.ah n).bs l.q).Gs=(G l.q).G.take ((m.ah n).bs l.q).Gs.length:=by
   rcases I.mK n hn Nc with⟨h5,_⟩|⟨_,h5,_⟩|⟨k',_,h2,h3,h4,_,h6,_⟩
   ·rw[hV]at h5;omega
   ·rw[hV]at h5;omega
   rw[hV]at h6;exact h6
  have hlen:((m.ah n).bs l.q).Gs.length<=(G l.q).G.length:=by have:=congrArg length hev;rw[length_take]at this;omega
  have hlast:l.last=true->l.at_.toNat+l.Gs.length=(G l.q).G.length:=λh=>by
   rcases k8 h with⟨h1,_⟩|⟨_,_,_,h1⟩
   ·omega
   exact h1
  refine asj (G:=(G l.q).G) J hU (by omega) O hf hbe ⟨by omega,by omega⟩ hev k6 k7 ?_ hlast I.gd (Un I.gd (by omega)) ?_ hq
  ·rcases hne with h|h
   ·left
    have:=length_pos_iff.2 h;omega
   exact .inr h
  have hfi:46*(302-((m.ah n).bs l.q).Gs.length)<=fi (FF m G l.q) n (qG (m.ah n) l.q):=by
   rw[jR hp];unfold fi WA;rw[if_pos ⟨hR,ht⟩,if_pos (by omega)];omega
  have h01:l.q=0\/l.q=1:=by omega
  unfold Gm at Z
  rcases h01 with e|e<;>rw[e]at hfi hcap hR hlen⊢ <;>omega
 exact al6 J hU (by omega) O he hd hq
end
def aaA(b:aU)(n q:Nat)(x:bH):Prop:=x.kd=2/\x.fr=n/\x.tg=b.tg/\x.q=q/\x.ep=b.ep+1
def afF(b:aU)(n q:Nat)(x:bH):Prop:=x.kd=5/\x.fr=n/\x.tg= -2/\x.q=q/\x.ep=b.ep-1/\x.nd=n
structure Dut (b:aU)(d:Int)(n q:Nat)(Ms:List bH):Prop where
 off:b.Gq=2\/b.Gq=3-> ∃x∈Ms,aaA b n q x
 ask:b.Gq=3->OI n q∈Ms
 flp:b.Gq=1->1<b.ep-> ¬b.ep<=d-> ∃x∈Ms,afF b n q x
section
variable {m w m':Cl}{n q B:Nat}{l:bH}{p:bS}{G G':Nat->Gh}{g g':Gh}{rs us:List cO}{F:Wy}{b b':aU}{d:Int}{fl RV:List bH}
def Dut.mono(h:Dut b d n q fl)(I:∀x∈fl,x∈RV):Dut b d n q RV:=
 ⟨λa=>by obtain⟨x,J,M⟩:=h.off a;exact⟨x,I x J,M⟩,λa=>I _ (h.ask a),λa b c=>by obtain⟨x,J,M⟩:=h.flp a b c;exact⟨x,I x J,M⟩⟩
structure QS (m m':Cl)(F:Nat->Wy)(n:Nat):Prop where
 dJ:m'.ws bO+dF bO (m.ah n).Md<=m.ws bO
 XK:m'.ws (fI F)+dF (fI F) (m.ah n).Md<=m.ws (fI F)
 bs:∀q,Sm ((m'.ah n).bs q) ((m.ah n).bs q)
 FZ:(m'.ah n).turn=(m.ah n).turn+1
 iP:(m'.ah n).Md=[]
 Ms:∀x∈m.Ms,x∈m'.Ms
 rep:∀l∈(m.ah n).Md,Uo (F l.q) ((m.ah n).bs l.q) n l m'.Ms
 dut:(m.ah n).turn % 4<2->Dut ((m.ah n).bs ((m.ah n).turn % 4)) (m.off.at ((m.ah n).turn % 4)).Mc n ((m.ah n).turn % 4) m'.Ms
def Uq:∀(k:Nat) (w:Cl),(w.ah n).Md.length=k->(∀l∈(w.ah n).Md,l.q<4)->((w.more n).ah n).Mw=none->((w.more n).ah n).Md=[]
 | 0,w,I,_,_=>by rw[KE (length_eq_zero_iff.1 I)];exact length_eq_zero_iff.1 I
 |k+1,w,I,hi,hp=>by
  cases h:(w.ah n).Md with
  |nil=>rw[h]at I;simp at I
  |cons l r=>
   have M:=hi l (by rw[h];exact mem_cons_self);by_cases J:(w.ah n).Mw=none
   ·rw[GZ J h M]at hp⊢;have e:=(jW (m:=w.put n ((w.ah n).box r)) (n:=n) (l:=l) M).iP;rw[aX]at e;have O:(((w.put n ((w.ah n).box r)).Ng n l).ah n).Md=r:=e;refine Uq k _ (by rw[O];rw[h]at I;simpa using I) (λx Z=>?_) hp;rw[O]at Z;exact hi x (by rw[h];exact mem_cons_of_mem _ Z)
   rw[Co J]at hp;exact absurd hp J
def al8(R:Rmc m G B (uD (FF m G) l) (bO l))(hn:n<5)(hp:(m.ah n).Mw=none)(M:l.q<2)(H:Hnd m n l m'):∃new,m'.Ms=m.Ms++new/\ ∀x∈new,bO x=0/\fI (FF m G) x=0:=by
 have hu:=R.up n hn;obtain⟨new,hf,h⟩:=Jy hu H;obtain⟨new2,J,I⟩:=KR H;have en:new2=new:=append_cancel_left (J.symm.trans hf);subst en;refine⟨new2,J,λx O=>⟨sG (h x O).1,?_⟩⟩;obtain⟨h1,h2⟩:=h x O;by_cases h4:x.kd=4
 ·obtain⟨h5,h6,h7,h8⟩:=h2 h4;refine Dt (.inr ?_);rw[h5];have Z:=gK (q:=l.q) hu;exact uW (R.qi _ M) hn (by rw[Z];exact h6) (by rw[Z];exact h7) (by rw[Z];exact h8)
 exact Dt (.inl ⟨I x O,h4⟩)
def Ur(hn:n<5):(m.jV n).ws bO<=m.ws bO:=by
 have I:(m.jV n).ah=Na m.ah n {m.ah n with turn:=(m.ah n).turn+1}:=rfl;refine oK hn (λj M=>by rw[I,Kg M]) (by rw[I,Ee]) E λx h=>?_;have J:∀y:bH,y.kd≠0->bO y=0:=λy O=>sG O;unfold gu at h
 rcases mem_append.1 h with h|h
 ·rcases mem_append.1 h with h|h
  ·split at h
   ·rw[mem_singleton]at h;subst h;exact J _ (by show(2:Int)≠0;decide)
   simp at h
  split at h
  ·rw[mem_singleton]at h;subst h;exact J _ (by show(5:Int)≠0;decide)
  simp at h
 split at h
 ·rw[mem_singleton]at h;subst h;exact J _ (by show(5:Int)≠0;decide)
 simp at h
def al9{r:List bH}(R:Rm w G B)(hn:n<5)(J:(w.ah n).Md=l::r):Rmc (w.put n ((w.ah n).box r)) G B (uD (FF (w.put n ((w.ah n).box r)) G) l) (bO l)/\FF (w.put n ((w.ah n).box r)) G=FF w G/\(∀q,vw (w.put n ((w.ah n).box r)) q=vw w q):=by
 have I:(w.put n ((w.ah n).box r)).ah=Na w.ah n ((w.ah n).box r):=rfl;have e0:(w.put n ((w.ah n).box r)).ah n=(w.ah n).box r:=aX _;have h:∀j,j≠n->(w.put n ((w.ah n).box r)).ah j=w.ah j:=λj M=>Kg M;have O:∀q,vw (w.put n ((w.ah n).box r)) q=vw w q:=λq=>mO I E;have Z:FF (w.put n ((w.ah n).box r)) G=FF w G:=by funext q;exact J9 (.refl _) (by rw[O]) (by rw[O])
 have hws:∀f:bH->Nat,(w.put n ((w.ah n).box r)).ws f+f l<=w.ws f:=λf=>Gf hn (λj M=>by rw[h j M]) (by
  rw[e0,J]
  show dF f w.Ms+dF f r+f l<=dF f w.Ms+(f l+dF f r)
  omega)
 refine⟨⟨λj M=>?_,R.vd.at_ (n:=n) (X:=(w.ah n).box r) E (λq h7 h8=>R.vd.rol n hn q h7 h8) (R.vd.lu n hn) (λx hx=>R.vd.iP n hn x (by rw[J];exact mem_cons_of_mem _ hx)) (λx hx=>.inl hx),λq hq=>?_,λj M=>?_,λq hq=>?_⟩,Z,O⟩
 ·by_cases e:j=n
  ·rw[e,e0];exact R.up n hn
  rw[h j e];exact R.up j M
 ·exact(R.qi q hq).far hn I E E E (λx hx=>by rw[J];exact mem_cons_of_mem _ hx) (λx hx=>.inl hx) E E E
 ·have h5:=R.Gm j M;have h6:=hws (uD (FF w G));unfold Gm at h5⊢;rw[Z];by_cases e:j=n
  ·rw[e]at h5⊢;rw[e0];have e1:∀q,qG ((w.ah n).box r) q=qG (w.ah n) q:=λ_=>E;have e2:((w.ah n).box r).data=(w.ah n).data:=rfl;rw[e1,e1,e2];omega
  rw[h j e];omega
 have h5:=R.cap q hq;have h6:=Dr (d:=bO l) (d':=bO l) hn h (hws bO) (by rw[e0];show yM (w.ah n).Mw+_<=_;omega);rw[Z];omega
def quiet_step{T S dS K:Nat}(R:Rm m G B)(hB:B+46<=100000)(hb:cu m T S dS K)(hn:n<5)(hS:Su (m.step n))(hp:(m.ah n).Mw=none)(hp':((m.step n).ah n).Mw=none):QS m (m.step n) (FF m G) n:=by
 have hu:=R.up n hn;obtain⟨rs,us,hU⟩:=(hb.iK n hn).rC hu;have key:=oN (n:=n) (λw=>O4 m n rs w/\(∃G1,Rm w G1 B/\ ∀q,q<2->FF w G1 q=FF m G q)/\(∀q,Sm ((w.ah n).bs q) ((m.ah n).bs q))/\(∀x∈m.Ms,x∈w.Ms)/\(w.ws bO+dF bO (m.ah n).Md<=m.ws bO+dF bO (w.ah n).Md/\w.ws (fI (FF m G))+dF (fI (FF m G)) (m.ah n).Md<=m.ws (fI (FF m G))+dF (fI (FF m G)) (w.ah n).Md)/\
   ((w.ah n).Mw=none-> ∀l∈(m.ah n).Md,l∈(w.ah n).Md\/Uo (FF m G l.q) ((m.ah n).bs l.q) n l w.Ms)) (λw l r ⟨H,⟨G1,R1,F1⟩,A,Af,⟨Ac,As⟩,Ar⟩ M J=>by
  obtain⟨h1,h2,h3,h4⟩:=oO (λl hl=>lF (hb.iP n hn l hl)) H M J;have hl0:l∈(w.ah n).Md:=by rw[J];simp
  obtain⟨b1,b2⟩:=hb.iP n hn l (H.iP l hl0);have O:=R1.vd.iP n hn l hl0;have e0:(w.put n ((w.ah n).box r)).ah n=(w.ah n).box r:=aX _;obtain⟨R2,hF1,hvw⟩:=al9 R1 hn J;have hL:∀q,q<2->l.q=q->Es (G1 q) (vw (w.put n ((w.ah n).box r)) q) (w.off.at q) l:=λq hq apa=>by rw[hvw];exact(R1.qi q hq).mX l ⟨apa,.inr ⟨n,hn,hl0⟩⟩
  obtain⟨G2,R3,F2⟩:=afC R2 hB hn h2 (by rw[e0];exact M) hL b2 b1.2.1 b1.2.2.2 O (jW h1.1) h3;have Z:∀x∈w.Ms,x∈((w.put n ((w.ah n).box r)).Ng n l).Ms:=λx I=>by
   obtain⟨new,hf,_⟩:=KR h3;rw[hf];exact mem_append_left _ I
  have avA:∀q,Sm (((w.put n ((w.ah n).box r)).ah n).bs q) ((m.ah n).bs q):=λq=>by rw[e0];exact A q
  refine⟨h1.1,h4,⟨G2,R3,λq hq=>by rw[F2 q hq,hF1];exact F1 q hq⟩,λq=>(WR h3 q).trans (avA q),λx I=>Z x (Af x I),?_,λhpe x I=>?_⟩
  ·obtain⟨new,hf,hnw⟩:=al8 R2 hn (by rw[e0];exact M) O h3;have lK:=jW (m:=w.put n ((w.ah n).box r)) (n:=n) (l:=l) h1.1;have hi2:(((w.put n ((w.ah n).box r)).Ng n l).ah n).Md=r:=by rw[lK.iP,e0];rfl
   have hoth:∀j,j≠n->(w.put n ((w.ah n).box r)).ah j=w.ah j:=λj hj=>Kg hj;have hws:∀f:bH->Nat,(w.put n ((w.ah n).box r)).ws f+f l<=w.ws f:=λf=>Gf hn (λj hj=>by rw[hoth j hj]) (by
    rw[e0,J]
    show dF f w.Ms+dF f r+f l<=dF f w.Ms+(f l+dF f r)
    omega)
   have c1:=oK (f:=bO) hn lK.mK lK.iP hf λx I=>(hnw x I).1;have c2:=oK (f:=fI (FF m G)) hn lK.mK lK.iP hf λx I=>by
    have:=(hnw x I).2;have hxq:x.q<2:=R3.vd.Ms x (by rw[hf];exact mem_append_right _ I);rw[hF1]at this;unfold fI at this⊢;rw[<-F1 _ hxq];exact this
   have h5:=hws bO;have h6:=hws (fI (FF m G));rw[hi2];rw[J,dF]at Ac As;exact⟨by omega,by omega⟩
  rcases Ar M x I with I|I
  ·rw[J]at I
   rcases mem_cons.1 I with I|I
   ·subst I
    right
    have:=al7 R2 hB hn h2 (by rw[e0];exact M) (hL _ O E) O hpe;rw[hF1,F1 _ O]at this;exact this.sm (avA _)
   left
   have e:=(jW (m:=w.put n ((w.ah n).box r)) (n:=n) (l:=l) h1.1).iP;rw[e0]at e;rw[e];exact I
  exact .inr (I.mono Z)) _ m E ⟨BG hu ⟨_,hU⟩,⟨G,R,λ_ _=>E⟩,λ_=>.refl _,λ_ h=>h,⟨Nat.le_refl _,Nat.le_refl _⟩,λ_ l hl=>.inl hl⟩
 obtain⟨H,⟨G1,R1,F1⟩,A,Af,⟨Ac,As⟩,Ar⟩:=key;rw[jf hu hp]at hp' hS⊢;by_cases c:((m.more n).ah n).Mw=none
 ·rw[if_pos c]at hp' hS⊢;have hi0:=Uq (n:=n) _ m E (λl hl=>(hb.iP n hn l hl).1.1) c;have e1:((m.more n).jV n).ah n={ (m.more n).ah n with turn:=((m.more n).ah n).turn+1}:=by
   show Na (m.more n).ah n _ n=_
   exact Ee _ _ _
  have htr:=H.FZ;have Z:∀x∈(m.more n).Ms,x∈((m.more n).jV n).Ms:=λx I=>mem_append_left _ I;have hdc:=Ur (m:=m.more n) hn;have hds:=(aaw R1 hn).1;have hcg:((m.more n).jV n).ws (fI (FF m G))<=(m.more n).ws (fI (FF m G)):=by
   obtain⟨_,c2,_⟩:=mU (Qr R1.vd hn (R1.up n hn)) F1;obtain⟨_,c3,_⟩:=mU R1.vd F1;omega
  rw[hi0,dF]at Ac As;refine⟨by omega,by omega,λq=>by rw[e1];exact A q,by rw[e1];show((m.more n).ah n).turn+1=_;rw[htr],by rw[e1];exact hi0,λx I=>Z x (Af x I),λl hl=>?_,λh4=>?_⟩
  ·rcases Ar c l hl with h|h
   ·rw[hi0]at h;cases h
   exact h.mono Z
  have hA:=A ((m.ah n).turn % 4);have hsu:=hS.iK n hn ((m.ah n).turn % 4) h4;rw[e1]at hsu;have hoff:((m.more n).jV n).off=m.off:=H.keep.off;rw[hoff]at hsu;have hm:∀x,x∈gu n ((m.ah n).turn % 4) (((m.more n).ah n).bs ((m.ah n).turn % 4)) (((m.more n).ah n).Nf ((m.ah n).turn % 4))->x∈((m.more n).jV n).Ms:=λx I=>by
   show x∈(m.more n).Ms++gu n (((m.more n).ah n).turn % 4) (((m.more n).ah n).bs (((m.more n).ah n).turn % 4)) (((m.more n).ah n).Nf (((m.more n).ah n).turn % 4))
   rw[htr];exact mem_append_right _ I
  refine⟨λhr=>⟨_,hm _ (mem_append_left _ (mem_append_left _ (by rw[if_pos (by rw[hA.Gq];exact hr)];exact mem_singleton.2 E))),E,E,hA.tg,E,by show _+1=_;rw[hA.ep]⟩,λhr=>hm _ (mem_append_left _ (mem_append_right _ (by rw[if_pos (by rw[hA.Gq];exact hr)];exact mem_singleton.2 E))),λhr he hd=>?_⟩;have hns:((m.more n).ah n).Nf ((m.ah n).turn % 4)=false:=by
   cases hs:((m.more n).ah n).Nf ((m.ah n).turn % 4)with
   |false=>rfl
   |true=>
    have h5:(((m.more n).ah n).bs ((m.ah n).turn % 4)).ep<=_:=hsu hs (by show(((m.more n).ah n).bs _).Gq=1;rw[hA.Gq];exact hr);rw[hA.ep]at h5;exact absurd h5 hd
  exact⟨_,hm _ (mem_append_right _ (by rw[if_pos ⟨by rw[hA.Gq];exact hr,by rw[hA.ep];exact he,hns⟩];exact mem_singleton.2 E)),E,E,E,E,by show _-1=_;rw[hA.ep],E⟩
 rw[if_neg c]at hp';exact absurd hp' c
end
structure Dk (d:QK):Prop where
 pl:∀q,q<2->0<=(d.at q).node/\(d.at q).node<=4/\1<=(d.at q).Mc/\(d.at q).Mc<=1048576
 two:d.at 2=nowhere
 WO:d.at 3=nowhere
def JA(p p':Pl):Prop:=p'=p\/p.Mc<p'.Mc
section
variable {m w m':Cl}{n q B:Nat}{l x:bH}{p:bS}{G G':Nat->Gh}{g g':Gh}{rs us:List cO}{F:Wy}{b b':aU}{d d':QK}{fl RV:List bH}
def JA.trans{a b c:Pl}(h:JA a b)(I:JA b c):JA a c:=by
 rcases h with h|h
 ·subst h;exact I
 rcases I with I|I
 ·subst I;exact .inr h
 exact .inr (Int.lt_trans h I)
def JA.ep{a b:Pl}(h:JA a b):a.Mc<=b.Mc:=by
 rcases h with h|h
 ·subst h;exact Int.le_refl _
 exact Int.le_of_lt h
def Dk.ok(h:Dk d):gI d=0:=BL λk J=>by
 have I:k=0\/k=1\/k=2\/k=3:=by omega
 rcases I with rfl|rfl|rfl|rfl
 ·exact .inr (h.pl 0 (by decide))
 ·exact .inr (h.pl 1 (by decide))
 ·rw[h.two];exact .inl ⟨E,E⟩
 rw[h.WO];exact .inl ⟨E,E⟩
def Dk.whr(h:Dk d)(I:q<2):aJ d q=(d.at q,0):=by
 have h1:=h.pl q I;have e:(q:Int).toNat=q:=Int.toNat_natCast q;have:=Iu (d:=d) (q:=(q:Int)) h.ok (by omega) (λc=>by rw[e]at c;rw[c]at h1;exact absurd h1.1 (by decide));rw[e]at this;exact this
def aaD(h:Dk d)(I:l.q<2):Dk (dH d l)/\(∀q,q<2->JA (d.at q) ((dH d l).at q))/\(0<=l.nd->l.nd<=4->(d.at l.q).Mc=l.ep->(d.at l.q).node≠l.nd->l.ep≠1048576->(d.at l.q).Mc< ((dH d l).at l.q).Mc):=by
 unfold dH;by_cases c:0<=l.nd/\(vX d l.q l.ep l.nd).2=0
 ·rw[if_pos c];obtain⟨c0,c1⟩:=c;obtain⟨O,Z,f3,J,f5⟩:=Jp c1;have hne:l.ep≠1048576:=λe=>by
   unfold vX at c1;rw[if_neg (λk=>k O),if_neg (by omega),if_neg (λk=>k J)]at c1
   split at c1
   ·exact absurd c1 (by decide)
   first|exact absurd c1 (by decide)|(rw[if_pos e]at c1;exact absurd c1 (by decide))
  rw[h.whr I]at J;have h1:=h.pl _ I;rw[f5];dsimp only;rw[Int.toNat_natCast];dsimp only at J;refine⟨⟨λk M=>?_,?_,?_⟩,λk M=>?_,λ_ _ _ _ _=>?_⟩
  ·rw[nL (by omega) (by omega)]
   split
   ·exact⟨Z,f3,by show 1<=l.ep+1;omega,by show l.ep+1<=_;omega⟩
   exact h.pl k M
  ·rw[nL (by omega) (by decide),if_neg (by omega)];exact h.two
  ·rw[nL (by omega) (by decide),if_neg (by omega)];exact h.WO
  ·rw[nL (by omega) (by omega)]
   split
   ·rename_i e
    subst e;exact .inr (by show _<l.ep+1;omega)
   exact .inl E
  rw[nL (by omega) (by omega),if_pos E]
  show _<l.ep+1
  omega
 rw[if_neg c];refine⟨h,λ_ _=>.inl E,λa1 a2 a3 a4 a5=>absurd ⟨a1,?_⟩ c⟩;unfold vX;rw[h.whr I];dsimp only;rw[if_neg (λk=>k E),if_neg (by omega),if_neg (λk=>k a3),if_neg a4,if_neg a5]
def aaE(h:Dk w.off)(O:l.q<2):Dk (w.Nk l).off/\(∀q,q<2->JA (w.off.at q) ((w.Nk l).off.at q))/\(∀x∈w.Ms,x∈(w.Nk l).Ms)/\(∀j,∀x∈(w.ah j).Md,x∈((w.Nk l).ah j).Md):=by
 obtain⟨I,J,_⟩:=aaD h O;unfold Cl.Nk
 split
 ·exact⟨h,λ_ _=>.inl E,λ_ h=>h,λ_ _ h=>h⟩
 split
 ·split
  ·exact⟨I,J,λ_ h=>mem_append_left _ h,λ_ _ h=>h⟩
  exact⟨I,J,λ_ h=>h,λ_ _ h=>h⟩
 split
 ·refine⟨h,λ_ _=>.inl E,λ_ h=>h,λj x M=>?_⟩;by_cases e:j=l.tg.toNat
  ·subst e;rw[aX];exact mem_append_left _ M
  rw[show ∀X,(w.put l.tg.toNat X).ah j=w.ah j from λX=>Kg e];exact M
 exact⟨h,λ_ _=>.inl E,λ_ h=>h,λ_ _ h=>h⟩
def Ut:∀(ls:List bH) {w:Cl},Dk w.off->(∀l∈ls,l.q<2)->Dk (ls.foldl Cl.Nk w).off/\(∀q,q<2->JA (w.off.at q) ((ls.foldl Cl.Nk w).off.at q))/\(∀x∈w.Ms,x∈(ls.foldl Cl.Nk w).Ms)/\(∀j,∀x∈(w.ah j).Md,x∈((ls.foldl Cl.Nk w).ah j).Md)
 |[],w,h,_=>⟨h,λ_ _=>.inl E,λ_ h=>h,λ_ _ h=>h⟩
 |l::ls,w,h,J=>by
  obtain⟨a1,a2,a3,a4⟩:=aaE h (J l mem_cons_self);obtain⟨b1,b2,b3,b4⟩:=Ut ls a1 λx I=>J x (mem_cons_of_mem _ I);rw[foldl_cons];exact⟨b1,λq M=>(a2 q M).trans (b2 q M),λx I=>b3 x (a3 x I),λj x I=>b4 j x (a4 j x I)⟩
structure Arr (d:QK)(x:bH)(m':Cl):Prop where
 iK:0<=x.tg->x∈(m'.ah x.tg.toNat).Md
 ask:x.tg= -2-> ∃y∈m'.Ms,y.kd=6/\y.tg=x.fr/\y.q=x.q/\(d.at x.q).Mc<=y.ep
 flp:x.tg= -2->0<=x.nd->x.nd<=4->(d.at x.q).Mc=x.ep->(d.at x.q).node≠x.nd->x.ep≠1048576->(d.at x.q).Mc< (m'.off.at x.q).Mc
def PE:∀(ls:List bH) {w:Cl},Dk w.off->(∀q,q<2->JA (d.at q) (w.off.at q))->(∀l∈ls,l.q<2)->(∀l∈ls,0<=l.tg->l.tg.toNat<5)->(∀j,j<5->(w.ah j).up=true)-> ∀x∈ls,Arr d x (ls.foldl Cl.Nk w)
 |[],_,_,_,_,_,_,x,J=>by cases J
 |l::ls,w,h,hd,Z,ht,hu,x,J=>by
  obtain⟨a1,a2,a3,a4⟩:=aaE h (Z l mem_cons_self);have I:=Z l mem_cons_self;have hu':∀j,j<5->((w.Nk l).ah j).up=true:=λj hj=>by
   obtain⟨ib,e⟩:=BH w l j;rw[e];exact hu j hj
  rw[foldl_cons]
  rcases mem_cons.1 J with J|J
  ·subst J;obtain⟨b1,b2,b3,b4⟩:=Ut ls a1 λy M=>Z y (mem_cons_of_mem _ M);obtain⟨f1,f2,f3⟩:=aaD h I;refine⟨λh0=>b4 _ _ ?_,λh2=>?_,λh2 n1 n2 n3 n4 n5=>?_⟩
   ·unfold Cl.Nk;rw[if_neg (by omega),if_neg (by omega),if_pos (hu _ (ht x mem_cons_self h0)),aX];exact mem_append_right _ (mem_singleton.2 E)
   ·have hw:=f1.whr I;refine⟨lC x.fr x.q ((dH w.off x).at x.q),b3 _ ?_,E,E,E,((hd _ I).trans (f2 _ I)).ep⟩;unfold Cl.Nk;rw[if_neg (by omega),if_pos h2,hw];rw[if_pos E];exact mem_append_right _ (mem_singleton.2 E)
   have O:(w.Nk x).off=dH w.off x:=by
    unfold Cl.Nk;rw[if_neg (by omega),if_pos h2]
    split<;>rfl
   have hb:=(b2 _ I).ep;rw[O]at hb
   rcases hd _ I with e|e
   ·rw[<-e]at n3 n4⊢;have:=f3 n1 n2 n3 n4 n5;omega
   have:=(f2 _ I).ep;omega
  exact PE ls a1 (λq hq=>(hd q hq).trans (a2 q hq)) (λy M=>Z y (mem_cons_of_mem _ M)) (λy M=>ht y (mem_cons_of_mem _ M)) hu' x J
def ama{T S dS K:Nat}(hv:Vd m)(I:cu m T S dS K)(J:∀j,j<5->(m.ah j).up=true)(h:Dk m.off):∀x∈m.Ms,Arr m.off x m.all:=
 PE m.Ms (w:={m with Ms:=[]}) h (λ_ _=>.inl E) hv.Ms (λl M O=>by obtain⟨_,_,h1,_⟩:=I.mX l M;omega) J
def ax0(R:Rm m G B)(h:Su m):Dk m.off:=by
 refine⟨λq J=>?_,h.two,h.WO⟩;have I:=R.qi q J;obtain⟨d,M,O,Z⟩:=I.dir;have h1:=I.aco d O (by omega);have h2:=I.aiL;have h3:=R.cap q J;rw[M];dsimp only;omega
structure QN (m m':Cl)(F:Nat->Wy)(n:Nat):Prop where
 bs:∀q,Sm ((m'.ah n).bs q) ((m.ah n).bs q)
 FZ:(m'.ah n).turn=(m.ah n).turn+1
 rep:∀l∈(m.ah n).Md,Uo (F l.q) ((m.ah n).bs l.q) n l m'.Ms
 dut:(m.ah n).turn % 4<2->Dut ((m.ah n).bs ((m.ah n).turn % 4)) (m.off.at ((m.ah n).turn % 4)).Mc n ((m.ah n).turn % 4) m'.Ms
def Uu(m:Cl)(f:bH->Nat):Nat->Nat
 | 0=>0
 |i+1=>Uu m f i+dF f (m.ah i).Md
def L6(R:Rm m G B)(hB:B+46<=100000)(hb:Bn m)(hS:Su m)(hQ:Qt m m.lU):∀i,i<=5-> ∃G',Rm (m.cB i) G' B/\(∀q,q<2->FF (m.cB i) G' q=FF m G q)/\Su (m.cB i)/\(m.cB i).off=m.off/\(∀x∈m.Ms,x∈(m.cB i).Ms)/\((m.cB i).ws bO+Uu m bO i<=m.ws bO/\(m.cB i).ws (fI (FF m G))+Uu m (fI (FF m G)) i<=m.ws (fI (FF m G)))/\ ∀n,n<i->QN m (m.cB i) (FF m G) n
 | 0,_=>⟨G,R,λ_ _=>E,hS,E,λ_ h=>h,⟨Nat.le_refl _,Nat.le_refl _⟩,λn hn=>by omega⟩
 |i+1,hi=>by
  obtain⟨G1,Z,F1,S1,O1,L1,⟨C1,D1⟩,N1⟩:=L6 R hB hb hS hQ i (by omega);obtain⟨T,S,dS,K,I⟩:=qW hb i (by omega);obtain⟨G2,R2,W2,Sz,Pz,Z2⟩:=aax Z hB I (n:=i) (by omega);have e1:(m.cB i).ah i=m.ah i:=Fu hb i (by omega) i (Nat.le_refl _);have hp:((m.cB i).ah i).Mw=none:=by rw[e1];exact hQ.lu i (by omega)
  have hp':(((m.cB i).step i).ah i).Mw=none:=by
   have h1:=hQ.apb i (by omega);obtain⟨ib,e⟩:=uE (m.cB 5) i;have h2:((m.cB 5).all.ah i).Mw=none:=h1;rw[e]at h2;have h3:((m.cB 5).ah i).Mw=none:=h2;rw[Ul hb 5 (Nat.le_refl _) (n:=i) (by omega)]at h3;exact h3
  have F2:∀q,q<2->FF ((m.cB i).step i) G2 q=FF (m.cB i) G1 q:=by
   rcases Z2 with⟨_,_,_,f⟩|⟨c,_⟩|⟨_,c,_⟩
   ·exact f
   ·exact absurd hp c
   exact absurd hp' c
  have S2:Su ((m.cB i).step i):=Qw (λq hq=>⟨_,Z.qi q hq⟩) Z.vd I (by omega) S1;have Q:=quiet_step Z hB I (by omega) S2 hp hp';have M:=Q.Ms;refine⟨G2,R2,λq hq=>(F2 q hq).trans (F1 q hq),S2,(KS I (by omega)).trans O1,λx hx=>M x (L1 x hx),?_,λn hn=>?_⟩
  ·have q1:=Q.dJ;have q2:=Q.XK;rw[e1]at q1 q2;obtain⟨_,c2,_⟩:=mU R2.vd F1;obtain⟨_,c3,_⟩:=mU Z.vd F1;have c4:dF (fI (FF (m.cB i) G1)) (m.ah i).Md=dF (fI (FF m G)) (m.ah i).Md:=by
    have hw:∀l∈(m.ah i).Md,fI (FF (m.cB i) G1) l=fI (FF m G) l:=λl J=>by
     have O:=R.vd.iP i (by omega) l J;unfold fI;rw[F1 _ O]
    exact Nat.le_antisymm (tZ λl J=>Nat.le_of_eq (hw l J)) (tZ λl J=>Nat.le_of_eq (hw l J).symm)
   show((m.cB i).step i).ws bO+(Uu m bO i+_)<=_/\((m.cB i).step i).ws (fI (FF m G))+(Uu m (fI (FF m G)) i+_)<=_
   exact⟨by omega,by omega⟩
  show QN m ((m.cB i).step i) (FF m G) n
  by_cases e:n=i
  ·subst e;refine⟨λq=>by rw[<-e1];exact Q.bs q,by rw[<-e1];exact Q.FZ,λl J=>?_,λh4=>?_⟩
   ·rw[<-e1]at J⊢;have O:=Z.vd.iP n (by omega) l J;have:=Q.rep l J;rw[F1 _ O]at this;exact this
   rw[<-e1]at h4⊢;have:=Q.dut h4;rw[O1]at this;exact this
  have N:=N1 n (by omega);have e2:((m.cB i).step i).ah n=(m.cB i).ah n:=oP I (by omega) e;exact⟨λq=>by rw[e2];exact N.bs q,by rw[e2];exact N.FZ,λl J=>(N.rep l J).mono M,λh4=>(N.dut h4).mono M⟩
def Uv:∀(ls:List bH) {w:Cl},(∀x∈w.Ms,x.kd=6)-> ∀x∈(ls.foldl Cl.Nk w).Ms,x.kd=6
 |[],_,h=>h
 |l::ls,w,h=>by
  rw[foldl_cons];refine Uv ls λx I=>?_;unfold Cl.Nk at I
  split at I
  ·exact h x I
  split at I
  ·split at I
   ·rcases mem_append.1 I with I|I
    ·exact h x I
    rw[mem_singleton]at I;subst I;rfl
   exact h x I
  split at I
  ·exact h x I
  exact h x I
structure Q1 (m m':Cl)(F:Nat->Wy)(fl:List bH):Prop where
 bs:∀n,n<5-> ∀q,Sm ((m'.ah n).bs q) ((m.ah n).bs q)
 FZ:∀n,n<5->(m'.ah n).turn=(m.ah n).turn+1
 rep:∀n,n<5-> ∀l∈(m.ah n).Md,Uo (F l.q) ((m.ah n).bs l.q) n l fl
 dut:∀n,n<5->(m.ah n).turn % 4<2->Dut ((m.ah n).bs ((m.ah n).turn % 4)) (m.off.at ((m.ah n).turn % 4)).Mc n ((m.ah n).turn % 4) fl
 Ms:∀x∈m.Ms,x∈fl
 arr:∀x∈fl,Arr m.off x m'
 dJ:m'.ws bO<=dF bO m.Ms
 XK:m'.ws (fI F)<=dF (fI F) m.Ms
 k6:∀x∈m'.Ms,x.kd=6
def WS:∀x∈m.lU.Ms,x.kd=6:=Uv (m.cB 5).Ms (w:={m.cB 5 with Ms:=[]}) λx h=>by cases h
def Ho(R:Rm m G B)(hB:B+46<=100000)(hb:Bn m)(hS:Su m)(hQ:Qt m m.lU):∃fl G',Rm m.lU G' B/\(∀q,q<2->FF m.lU G' q=FF m G q)/\Bn m.lU/\Su m.lU/\Q1 m m.lU (FF m G) fl:=by
 obtain⟨G1,O,F1,S1,O1,L1,⟨C1,D1⟩,Z⟩:=L6 R hB hb hS hQ 5 (Nat.le_refl _);have J:=qW hb 5 (Nat.le_refl _);obtain⟨T,S,dS,K,h⟩:=id J;obtain⟨R2,F2⟩:=WM O h;have M:∀f:bH->Nat,m.ws f=dF f m.Ms+Uu m f 5:=λf=>by
  unfold Cl.ws Uu Uu Uu Uu Uu Uu;omega
 have c1:=M bO;have c2:=M (fI (FF m G));have w1:(m.cB 5).all.ws bO<=(m.cB 5).ws bO:=CY Gn h.mX;have w2:(m.cB 5).all.ws (fI (FF m G))<=(m.cB 5).ws (fI (FF m G)):=CY RZ h.mX;have hnd:∀j,∃ib,m.lU.ah j={ (m.cB 5).ah j with Md:=ib}:=λj=>uE (m.cB 5) j;have I:=ama O.vd h O.up (by rw[O1];exact ax0 R hS);rw[O1]at I;refine⟨(m.cB 5).Ms,G1,R2,λq hq=>(F2 q hq).trans (F1 q hq),J.avz,WQ S1 O.vd,⟨λn hn q=>?_,λn hn=>?_,λn hn=>(Z n hn).rep,λn hn=>(Z n hn).dut,L1,I,?_,?_,WS⟩⟩
 ·obtain⟨ib,e⟩:=hnd n;rw[e];exact(Z n hn).bs q
 ·obtain⟨ib,e⟩:=hnd n;rw[e];exact(Z n hn).FZ
 ·show(m.cB 5).all.ws bO<=_;omega
 show(m.cB 5).all.ws (fI (FF m G))<=_;omega
end
noncomputable def Cl.rs(m:Cl):Nat->Cl
 | 0=>m
 |i+1=>(m.rs i).lU
section
variable {m w m':Cl}{n q k B:Nat}{l x:bH}{G G':Nat->Gh}{g g':Gh}{F:Wy}{b b':aU}{d:Int}{fl RV:List bH}
def Dut.sm(h:Dut b d n q fl)(s:Sm b b'):Dut b' d n q fl:=by
 refine⟨λa=>?_,λa=>h.ask (by rw[s.Gq];exact a),λa c e=>?_⟩
 ·obtain⟨x,J,I⟩:=h.off (by rw[s.Gq];exact a);unfold aaA at I;rw[s.tg,s.ep]at I;exact⟨x,J,I⟩
 obtain⟨x,J,I⟩:=h.flp (by rw[s.Gq];exact a) (by rw[s.ep];exact c) (by rw[s.ep];exact e);unfold afF at I;rw[s.ep]at I;exact⟨x,J,I⟩
structure adV (m w:Cl)(G:Nat->Gh)(B i:Nat):Prop where
 rm:∃G',Rm w G' B/\ ∀q,q<2->FF w G' q=FF m G q
 bn:Bn w
 su:Su w
 off:∀q,q<2->w.off.at q=m.off.at q
 bs:∀n,n<5-> ∀q,Sm ((w.ah n).bs q) ((m.ah n).bs q)
 FZ:∀n,n<5->(w.ah n).turn=(m.ah n).turn+i
structure Wq (m w w':Cl)(F:Nat->Wy)(i:Nat)(fl:List bH):Prop where
 rep:∀n,n<5-> ∀l∈(w.ah n).Md,Uo (F l.q) ((m.ah n).bs l.q) n l fl
 dut:∀n,n<5-> ∀q,q<2->((m.ah n).turn+i) % 4=q->Dut ((m.ah n).bs q) (m.off.at q).Mc n q fl
 Ms:∀x∈w.Ms,x∈fl
 arr:∀x∈fl,Arr w.off x w'
 dJ:w'.ws bO<=dF bO w.Ms
 XK:w'.ws (fI F)<=dF (fI F) w.Ms
 k6:∀x∈w'.Ms,x.kd=6
def Uw{F F':Nat->Wy}:∀ {a:List bH},(∀x∈a,x.q<2)->(∀q,q<2->F q=F' q)->dF (fI F) a=dF (fI F') a
 |[],_,_=>rfl
 |l::a,h,I=>by
  have e:fI F l=fI F' l:=by unfold fI;rw[I _ (h l mem_cons_self)]
  rw[dF,dF,e,Uw (λx J=>h x (mem_cons_of_mem _ J)) I]
def avC{i:Nat}(h:adV m w G B i)(hB:B+46<=100000)(hQ:Qt w w.lU):adV m w.lU G B (i+1)/\ ∃fl,Wq m w w.lU (FF m G) i fl:=by
 obtain⟨G1,O,M⟩:=h.rm;obtain⟨fl,G2,R2,F2,b2,s2,I⟩:=Ho O hB h.bn h.su hQ;refine⟨⟨⟨G2,R2,λq J=>(F2 q J).trans (M q J)⟩,b2,s2,λq J=>(hQ.off q J).trans (h.off q J),λn hn q=>(I.bs n hn q).trans (h.bs n hn q),λn hn=>by rw[I.FZ n hn,h.FZ n hn];omega⟩,fl,λn hn l hl=>?_,λn hn q J ht=>?_,I.Ms,I.arr,I.dJ,?_,I.k6⟩
 ·have Z:=O.vd.iP n hn l hl;have:=(I.rep n hn l hl).sm (h.bs n hn l.q);rw[M _ Z]at this;exact this
 ·have e:(w.ah n).turn % 4=q:=by rw[h.FZ n hn];exact ht
  have:=I.dut n hn (by omega);rw[e,h.off q J]at this;exact this.sm (h.bs n hn q)
 have e1:w.lU.ws (fI (FF m G))=w.lU.ws (fI (FF w G1)):=(mU R2.vd λq J=>(M q J).symm).2.1;rw[e1,<-Uw O.vd.Ms M];exact I.XK
def asn(R:Rm m G B)(h:Bn m)(I:Su m):adV m m G B 0:=⟨⟨G,R,λ_ _=>E⟩,h,I,λ_ _=>E,λ_ _ _=>.refl _,λ_ _=>E⟩
def win(R:Rm m G B)(h:B+46<=100000)(I:Bn m)(J:Su m)(hQ:∀i,i<k->Qt (m.rs i) (m.rs (i+1))):∀i,i<=k->adV m (m.rs i) G B i
 | 0,_=>asn R I J
 |i+1,hi=>(avC (win R h I J hQ i (by omega)) h (hQ i (by omega))).1
def JB(R:Rm m G B)(h:B+46<=100000)(I:Bn m)(J:Su m)(hQ:∀i,i<k->Qt (m.rs i) (m.rs (i+1))){i:Nat}(hi:i<k):∃fl,Wq m (m.rs i) (m.rs (i+1)) (FF m G) i fl:=
 (avC (win R h I J hQ i (by omega)) h (hQ i hi)).2
def four(t q:Nat)(h:q<4):∃i,i<4/\(t+i) % 4=q:=by
 have:t % 4=0\/t % 4=1\/t % 4=2\/t % 4=3:=by omega
 exact⟨(q+4-t % 4) % 4,by omega,by omega⟩
def aaF(R:Rm m G B)(h:B+46<=100000)(I:Bn m)(J:Su m)(hQ:∀i,i<7->Qt (m.rs i) (m.rs (i+1)))(hn:n<5)(Z:q<2)(hr:((m.ah n).bs q).Gq=3)(he:((m.ah n).bs q).ep< (m.off.at q).Mc):False:=by
 obtain⟨i,i1,i2⟩:=four (m.ah n).turn q (by omega);obtain⟨f1,W⟩:=JB R h I J hQ (i:=i) (by omega);obtain⟨f2,W'⟩:=JB R h I J hQ (i:=i+1) (by omega);obtain⟨f3,W''⟩:=JB R h I J hQ (i:=i+2) (by omega);have ho:=(win R h I J hQ i (by omega)).off q Z;obtain⟨y,y1,y2,y3,y4,y5⟩:=(W.arr _ ((W.dut n hn q Z i2).ask hr)).ask E;have M:((m.rs i).off.at q).Mc<=y.ep:=y5;have y3':y.tg=(n:Int):=y3;have O:y.q=q:=y4;rw[ho]at M;have h2:=(W'.arr y (W'.Ms y y1)).iK (by omega);rw[show y.tg.toNat=n by omega]at h2;have h3:=W''.rep n hn y h2;rw[O]at h3;exact h3.lrn y2 hr (by omega)
def ahT(R:Rm m G B)(O:B+46<=100000)(Z:Bn m)(hS:Su m)(hQ:∀i,i<7->Qt (m.rs i) (m.rs (i+1)))(h:q<2)(hr:(vw m q (G q).o).Gq=1)(he:(m.off.at q).Mc≠((G q).m:Int)):False:=by
 have I:=R.qi q h;have J:=I.o5;have hV:=gK (q:=q) (R.up _ J);have hae:=I.ru;rw[hV]at hr hae;obtain⟨d,d1,d2,d3⟩:=I.dir;have hd:(m.off.at q).Mc=d:=by rw[d1]
 have hnd:(m.off.at q).node=(((G q).own d:Nat):Int):=by rw[d1]
 have hml:=I.aiL;have hcap:=R.cap q h;have aLO:=I.adj d d2 (by omega);obtain⟨i,i1,i2⟩:=four (m.ah (G q).o).turn q (by omega);obtain⟨f1,W⟩:=JB R O Z hS hQ (i:=i) (by omega);have ho:=(win R O Z hS hQ i (by omega)).off q h;have ho':=(win R O Z hS hQ (i+1) (by omega)).off q h;obtain⟨x,x1,x2,x3,x4,x5,x6,x7⟩:=(W.dut _ J q h i2).flp hr (by omega) (by omega);have M:(G q).o=(G q).own (d+1):=by show(G q).own (G q).m=_;rw[show(G q).m=d+1 by omega]
 have:=(W.arr x x1).flp x4 (by omega) (by omega) (by rw[x5,ho];omega) (by rw[x5,ho,hnd,x7,M];omega) (by omega);rw[x5,ho,ho']at this;omega
def ahU(R:Rm m G B)(hB:B+46<=100000)(hb:Bn m)(hS:Su m)(hQ:∀i,i<7->Qt (m.rs i) (m.rs (i+1)))(hq:q<2)(hr:(vw m q (G q).o).Gq≠1):False:=by
 have I:=R.qi q hq;have O:=I.o5;have hV:=gK (q:=q) (R.up _ O);obtain⟨hdm,ht1,ht2,ht3⟩:=I.Ru hr;obtain⟨t,ht⟩:∃t:Nat,(vw m q (G q).o).tg=t:=⟨(vw m q (G q).o).tg.toNat,by omega⟩;have t5:t<5:=by omega
 have hto:t≠(G q).o:=by omega
 have hF:(FF m G q).R=1:=if_neg hr;have hFM:(FF m G q).M=(G q).m:=rfl;have hFt:(FF m G q).tg=(vw m q (G q).o).tg:=rfl;have zS:=I.zS;have hae:=I.ru;have hev:=I.uy;have hVt:=gK (q:=q) (R.up _ t5);have h:=I.mK t t5 hto;rw[hV]at hr zS hae hev ht;rw[hVt]at h;by_cases h3:((m.ah t).bs q).Gq=3
 ·rcases h with⟨Z,_⟩|⟨k,_,k2,_,k4,_⟩|⟨_,Z,_⟩
  ·omega
  ·exact aaF R hB hb hS hQ t5 hq h3 (by omega)
  omega
 obtain⟨i,i1,i2⟩:=four (m.ah (G q).o).turn q (by omega);obtain⟨f1,W⟩:=JB R hB hb hS hQ (i:=i) (by omega);obtain⟨f2,W2⟩:=JB R hB hb hS hQ (i:=i+1) (by omega);obtain⟨f3,W3⟩:=JB R hB hb hS hQ (i:=i+2) (by omega);obtain⟨f4,W4⟩:=JB R hB hb hS hQ (i:=i+3) (by omega);obtain⟨x,x1,x2,x3,x4,x5,x6⟩:=(W.dut _ O q hq i2).off (by omega);have hx:=(W.arr x x1).iK (by omega);rw[show x.tg.toNat=t by omega]at hx;have J:=W2.rep t t5 x hx;rw[x5]at J;have hbt:((m.ah t).bs q).Gq=4/\((m.ah t).bs q).ep=((G q).m:Int)+1/\((m.ah t).bs q).fr=(G q).o/\((m.ah t).bs q).Gs.length<=(G q).G.length:=by
  rcases h with⟨Z,h6,h7⟩|⟨k,Z,_⟩|⟨k,Z,h6,h7,h8,h9,_,h10,_⟩
  ·exact absurd (J.new x2 (.inl Z) (by omega)) id
  ·omega
  by_cases c:k=(G q).m
  ·subst c;exact⟨Z,h6,h9,Nat.le_trans h10 (I.Xk h7 h8)⟩
  exact absurd (J.new x2 (.inr Z) (by omega)) id
 obtain⟨b1,b2,b3,b4⟩:=hbt;obtain⟨y,y1,y2,y3,y4,y5,y6,y7⟩:=J.off x2 b1 (by omega) (by omega);have hy:=(W2.arr y y1).iK (by omega);rw[show y.tg.toNat=(G q).o by omega]at hy;have hy':=W3.rep _ O y hy;rw[y5,x5]at hy';rw[<-hev]at b4;obtain⟨hc,z,z1,z2,z3,z4,z5,z6,z7,z8,z9⟩:=hy'.hav y2 (by omega) (by omega) (by omega) (by omega);have hz:=(W3.arr z z1).iK (by omega);rw[show z.tg.toNat=t by omega]at hz;have hz':=W4.rep t t5 z hz;rw[z5,y5,x5]at hz';refine hz'.prt z2 hF (by rw[hFt,hV];omega) (by rw[hFM];omega) b1 (by omega) (by omega) (by omega) ?_;rw[y7]at hc z8 z9;rw[Int.toNat_natCast]at z8 z9;by_cases c:((m.ah t).bs q).Gs.length< ((m.ah (G q).o).bs q).Gs.length
 ·left
  rw[z8];intro e;have:=congrArg length e;rw[length_take,length_drop,length_nil]at this;omega
 right
 rw[z9]
 rcases hc with hc|hc
 ·exact decide_eq_true ⟨hc,by omega⟩
 omega
end
section
variable {m m0 w m':Cl}{n q k B z r:Nat}{l x:bH}{G G0 G':Nat->Gh}{g g':Gh}{F F':Nat->Wy}
def afG:∀(a b:Nat),m.rs (a+b)=(m.rs a).rs b
 |_,0=>rfl
 |a,b+1=>by show(m.rs (a+b)).lU=((m.rs a).rs b).lU;rw[afG a b]
def Qy(k:Nat):m.rs (k+1)=m.lU.rs k:=by rw[Nat.add_comm,afG 1 k];rfl
def PG(R:Rm m G B)(O:B+46<=100000)(I:Bn m)(Z:Su m):Su m.lU:=by
 have J:∀i,i<=5->Su (m.cB i):=by
  intro i
  induction i with
  |zero=>intro _;exact Z
  |succ i ih=>
   intro hi;obtain⟨G1,h,_⟩:=Jz R O I i (by omega);obtain⟨T,S,dS,K,M⟩:=qW I i (by omega);exact Qw (λq hq=>⟨_,h.qi q hq⟩) h.vd M (by omega) (ih (by omega))
 obtain⟨G1,h,_⟩:=Jz R O I 5 (Nat.le_refl _);exact WQ (J 5 (Nat.le_refl _)) h.vd
structure RD (m w:Cl)(G G':Nat->Gh)(B:Nat):Prop where
 rm:Rm w G' B
 bn:Bn w
 su:Su w
 zz:ZZ w (FF w G')=0
 le:∀q,q<2->mQ (FF m G q) (FF w G' q)
def Hq(J:B+46<=100000):∀(T:Nat) {w:Cl} {G':Nat->Gh},RD m w G G' B-> ∃M,RD m (w.rs T) G M B
 | 0,_,_,h=>⟨_,h⟩
 |T+1,w,G',h=>by
  obtain⟨M,I⟩:=Hq J T h;obtain⟨O,R3,b3,W3,_,_,Z3⟩:=Ke I.rm J I.bn;have hz:=I.zz;refine⟨O,R3,b3,PG I.rm J I.bn I.su,?_,λq Z=>(I.le q Z).trans (W3 q Z)⟩
  show ZZ (w.rs T).lU (FF (w.rs T).lU O)=0
  rcases Z3 with⟨_,z,_⟩|⟨z,_⟩|z<;>omega
def JC{f:bH->Nat}(I:∀x:bH,x.kd=6->f x=0){a:List bH}(h:∀x∈a,x.kd=6):dF f a=0:=WK λx J=>I x (h x J)
def amb{c:Nat}(R:Rm m G B)(hr:∀q,q<2->(vw m q (G q).o).Gq=1)(hd:∀q,q<2->(m.off.at q).Mc=((G q).m:Int))(Z:∀q n,q<2->n<5->((m.ah n).bs q).Gq=3->((m.ah n).bs q).ep< (m.off.at q).Mc->False)
  (St:adV m w G B c) (adP:w.ws bO=0) (apd:w.ws (fI (FF m G))=0) (h:∀n,n<5->(w.ah n).Mw=none):∃G',RD m w G G' B:=by
 obtain⟨G7,R7,F7⟩:=St.rm;have hq0:∀q,q<2->sH (FF m G q) (w.off.at q).Mc (vq w q)=0:=λq O=>by
  have I:=R.qi q O;have hR:(FF m G q).R=0:=if_pos (hr q O);have hM:(FF m G q).M=(G q).m:=rfl;have J:∀n,n<5->qD (FF m G q) (vq w q) n=0:=λn hn=>by
   unfold qD;rw[if_neg];rintro⟨c1,c2⟩;have e:vq w q n=(w.ah n).bs q:=by unfold vq;exact jR (h n hn)
   rw[e,(St.bs n hn q).Gq]at c2;have Nc:n≠(G q).o:=c1;have hdq:=hd q O
   rcases I.mK n hn Nc with⟨h5,_⟩|⟨k,_,k2,_,k4,_⟩|⟨_,h5,_⟩
   ·rw[gK (R.up n hn)]at h5;omega
   ·rw[gK (R.up n hn)]at k2;exact Z q n O hn c2 (by omega)
   rw[gK (R.up n hn)]at h5;omega
  unfold sH pqR Uh o5;rw[if_neg (by omega),St.off q O,hM,if_pos (hd q O),J 0 (by decide),J 1 (by decide),J 2 (by decide),J 3 (by decide),J 4 (by decide)]
 refine⟨G7,R7,St.bn,St.su,?_,λq O=>by rw[F7 q O];exact .refl _⟩;rw[(mU R7.vd F7).2.2];have hp:(o5 λj=>rA (w.ah j).Mw)=0:=by
  unfold o5;dsimp only;rw[h 0 (by decide),h 1 (by decide),h 2 (by decide),h 3 (by decide),h 4 (by decide)];rfl
 unfold ZZ PP;rw[adP,apd,hq0 0 (by decide),hq0 1 (by decide),hp]
def win_zero(hk:k=7)(R:Rm m G B)(J:B+46<=100000)(M:Bn m)(O:Su m)(hQ:∀i,i<k->Qt (m.rs i) (m.rs (i+1))):∃G',RD m (m.rs k) G G' B:=by
 obtain⟨i,rfl⟩:∃i,k=i+1+1:=⟨k-2,by omega⟩;have I:∀j,j<7->Qt (m.rs j) (m.rs (j+1)):=λj hj=>hQ j (by omega);have hr:∀q,q<2->(vw m q (G q).o).Gq=1:=λq Z=>Classical.byContradiction λc=>ahU R J M O I Z c;have hd:∀q,q<2->(m.off.at q).Mc=((G q).m:Int):=λq Z=>Classical.byContradiction λc=>ahT R J M O I Z (hr q Z) c;obtain⟨f5,W5⟩:=JB R J M O hQ (i:=i) (by omega);obtain⟨f6,W6⟩:=JB R J M O hQ (i:=i+1) (by omega);have adP:(m.rs (i+1+1)).ws bO=0:=by
  have h:=W6.dJ;rw[JC Gn W5.k6]at h;omega
 have apd:(m.rs (i+1+1)).ws (fI (FF m G))=0:=by
  have h:=W6.XK;rw[JC RZ W5.k6]at h;omega
 exact amb R hr hd (λq n Z hn h3 he=>aaF R J M O I hn Z h3 he) (win R J M O hQ (i+1+1) (Nat.le_refl _)) adP apd (hQ (i+1) (by omega)).apb
def RD.from(h:RD m w G' G0 B)(J:∀q,q<2->mQ (FF m0 G q) (FF m G' q)):RD m0 w G G0 B:=⟨h.rm,h.bn,h.su,h.zz,λq I=>(J q I).trans (h.le q I)⟩
def avD(M:B+46<=100000):∀(T:Nat) {m0:Cl} {G0 G:Nat->Gh} {r z:Nat},Rm m0 G0 B->Bn m0->Su m0->(∀i,i<r->Qt (m0.rs i) (m0.rs (i+1)))->r<=7->Rm (m0.rs r) G B->(∀q,q<2->FF (m0.rs r) G q=FF m0 G0 q)->
  (m0.rs r).ws (fI (FF m0 G0))=0->ZZ (m0.rs r) (FF m0 G0)<=z->z+7<=T+r-> ∃G',RD m0 ((m0.rs r).rs T) G0 G' B:=by
 intro T
 induction T with
 |zero=>
  intro m0 G0 G r z O b0 Z hQ hr R F hst hz hT;obtain⟨G7,h⟩:=win_zero (by omega) O M b0 Z hQ;exact⟨G7,h⟩
 |succ T ih=>
  intro m0 G0 G r z O b0 Z hQ hr R F hst hz hT;by_cases e:r=7
  ·obtain⟨G7,h⟩:=win_zero e O M b0 Z hQ;exact Hq M (T+1) h
  have St:=win O M b0 Z hQ r (Nat.le_refl _);obtain⟨J,R1,b1,W1',S1,P1,Z1⟩:=Ke R M St.bn;have s1:=PG R M St.bn St.su;obtain⟨_,c2,c3⟩:=mU R.vd F;rw[Qy];have hW:∀q,q<2->mQ (FF m0 G0 q) (FF (m0.rs r).lU J q):=λq hq=>by rw[<-F q hq];exact W1' q hq
  have I:∀ {z':Nat},ZZ (m0.rs r).lU (FF (m0.rs r).lU J)<=z'->z'+7<=T-> ∃G',RD m0 ((m0.rs r).lU.rs T) G0 G' B:=λ{z'} h1 h2=>by
   obtain⟨G',h⟩:=ih (m0:=(m0.rs r).lU) (G0:=J) (G:=J) (r:=0) (z:=z') R1 b1 s1 (λi hi=>by omega) (by omega) R1 (λ_ _=>E) (by show(m0.rs r).lU.ws _=0;omega) h1 (by omega);exact⟨G',h.from hW⟩
  rcases Z1 with⟨a1,a2,a3⟩|⟨a1,a2⟩|a1
  ·have F1:∀q,q<2->FF (m0.rs (r+1)) J q=FF m0 G0 q:=λq hq=>(a3 q hq).trans (F q hq);obtain⟨_,d2,d3⟩:=mU (m:=m0.rs (r+1)) R1.vd F1;obtain⟨G',h⟩:=ih (m0:=m0) (G0:=G0) (G:=J) (r:=r+1) (z:=z) O b0 Z (λi hi=>by
    by_cases e2:i=r
    ·subst e2;exact a1
    exact hQ i (by omega)) (by omega) R1 F1 (by
    have e5:(m0.rs (r+1)).ws (fI (FF (m0.rs (r+1)) J))<=(m0.rs r).ws (fI (FF (m0.rs r) G)):=S1;omega) (by
    have e5:ZZ (m0.rs (r+1)) (FF (m0.rs (r+1)) J)<=ZZ (m0.rs r) (FF (m0.rs r) G):=a2;omega) (by omega)
   exact⟨G',h⟩
  ·rcases a2 with⟨n,n5,a2⟩|a2
   ·have er:r=0:=by
     cases r with
     |zero=>rfl
     |succ r=>exact absurd ((hQ r (by omega)).apb n n5) a2
    exact I (z':=z-1) (by omega) (by omega)
   omega
  exact I (z':=z-7) (by omega) (by omega)
def aEF(I:B+46<=100000):∀(T:Nat) {m:Cl} {G:Nat->Gh} {z:Nat},Rm m G B->Bn m->Su m->dF (fI (FF m G)) m.Ms=0->ZZ m (FF m G)<=z->z+8<=T-> ∃G',RD m (m.rs T) G G' B:=by
 intro T
 induction T with
 |zero=>intro m G z _ _ _ _ _ h;omega
 |succ T ih=>
  intro m G z R Z hS hf hz hT;by_cases c:m.ws (fI (FF m G))=0
  ·exact avD I (T+1) (m0:=m) (G0:=G) (G:=G) (r:=0) (z:=z) R Z hS (λi hi=>by omega) (by omega) R (λ_ _=>E) c hz (by omega)
  obtain⟨J,M,b1,W1',S1,P1,Z1⟩:=Ke R I Z;have s1:=PG R I Z hS;have O:dF (fI (FF m.lU J)) m.lU.Ms=0:=JC RZ WS;rw[Qy]
  rcases Z1 with⟨a1,a2,a3⟩|⟨a1,a2⟩|a1
  ·obtain⟨fl,G2,R2,F2,b2,s2,q2⟩:=Ho R I Z hS a1;have h0:=q2.XK;obtain⟨_,d2,d3⟩:=mU (m:=m.lU) M.vd a3;obtain⟨G',h⟩:=avD I T (m0:=m.lU) (G0:=J) (G:=J) (r:=0) (z:=z) M b1 s1 (λi hi=>by omega) (by omega) M (λ_ _=>E) (by show m.lU.ws _=0;omega) (by show ZZ m.lU _<=z;omega) (by omega);exact⟨G',h.from W1'⟩
  ·obtain⟨G',h⟩:=ih (m:=m.lU) (G:=J) (z:=z-1) M b1 s1 O (by omega) (by omega);exact⟨G',h.from W1'⟩
  obtain⟨G',h⟩:=ih (m:=m.lU) (G:=J) (z:=z-1) M b1 s1 O (by omega) (by omega);exact⟨G',h.from W1'⟩
def aEG(I:B+46<=100000){T:Nat}(R:Rm m G B)(J:Bn m)(M:Su m)(hT:ZZ m (FF m G)+9<=T):∃G',RD m (m.rs T) G G' B:=by
 obtain⟨T,rfl⟩:∃k,T=k+1:=⟨T-1,by omega⟩;obtain⟨O,Z,b1,W1',S1,P1,Z1⟩:=Ke R I J;rw[Qy];obtain⟨G',h⟩:=aEF I T (m:=m.lU) (G:=O) (z:=ZZ m (FF m G)) Z b1 (PG R I J M) (JC RZ WS) (by rcases Z1 with⟨_,z,_⟩|⟨z,_⟩|z<;>omega) (by omega);exact⟨G',h.from W1'⟩
end
section
variable {m w m':Cl}{n q k B:Nat}{l x:bH}{G G':Nat->Gh}{g g':Gh}
def adW{T S dS K:Nat}(Z:cu m T S dS K)(hn:n<5)(M:(m.ah n).up=true)(hp:(m.ah n).Mw=none)(hc:∀l∈(m.ah n).Md,l.kd≠0):(m.step n).aP=m.aP:=by
 obtain⟨rs,us,hU⟩:=(Z.iK n hn).rC M;obtain⟨H,A⟩:=oN (n:=n) (λw=>O4 m n rs w/\w.aP=m.aP) (λw l r ⟨H,A⟩ J h=>by
  obtain⟨h1,h2,O,h4⟩:=oO (λl hl=>lF (Z.iP n hn l hl)) H J h;have hk:=hc l (H.iP l (by rw[h];exact mem_cons_self));refine⟨h1.1,h4,?_⟩;have I:(w.put n ((w.ah n).box r)).aP=m.aP:=A;generalize (w.put n ((w.ah n).box r)).Ng n l=m2 at O⊢;generalize w.put n ((w.ah n).box r)=w2 at O I;clear h2 h4 h J A H
  cases O with
  |same=>exact I
  |done a c1 c2=>exact absurd c1 hk
  |QM c1=>exact I
  |part b c1 c2 c3 c4 c5 c6=>unfold Cl.part;split<;>exact I
  |Mw p dz d c1 c2 c3 c4 c5=>exact I
  |Ny c1=>exact I) _ m E ⟨BG M ⟨_,hU⟩,E⟩
 rw[jf M hp]
 split<;>exact A
def ahV:(w.Nk l).aP=w.aP:=by
 unfold Cl.Nk
 split
 ·rfl
 split
 ·split<;>rfl
 split<;>rfl
def PI:∀(ls:List bH) {w:Cl},(ls.foldl Cl.Nk w).aP=w.aP
 |[],_=>rfl
 |l::ls,w=>by rw[foldl_cons,PI ls,ahV]
def Ux{f:bH->Nat}:∀ {a:List bH},dF f a=0-> ∀x∈a,f x=0
 |[],_,x,I=>by cases I
 |l::a,h,x,I=>by
  rw[dF]at h
  rcases mem_cons.1 I with I|I
  ·subst I;omega
  exact Ux (by omega) x I
def ahW(hB:B+46<=100000)(Z:RD m w G G' B):w.lU.aP=w.aP/\(∀q,q<2->w.lU.off.at q=w.off.at q)/\ ∀n,n<5-> ∀q,Sm (vw w.lU q n) (vw w q n):=by
 have hz:=Z.zz;obtain⟨G1,R1,b1,W,S1,P1,Z1⟩:=Ke Z.rm hB Z.bn;have hQ:Qt w w.lU:=by
  rcases Z1 with⟨h,_⟩|⟨h,_⟩|h
  ·exact h
  ·omega
  omega
 obtain⟨fl,G2,R2,F2,b2,s2,q1⟩:=Ho Z.rm hB Z.bn Z.su hQ;have I:w.ws bO=0:=by unfold ZZ PP at hz;omega
 have M:∀n,n<5-> ∀l∈(w.ah n).Md,l.kd≠0:=λn hn l hl hk=>by
  have h0:dF bO (w.ah n).Md=0:=by
   unfold Cl.ws at I
   rcases five hn with rfl|rfl|rfl|rfl|rfl<;>omega
  have:=Ux h0 l hl;rw[show bO l=1 from if_pos hk]at this;omega
 have J:∀i,i<=5->(w.cB i).aP=w.aP:=by
  intro i
  induction i with
  |zero=>intro _;rfl
  |succ i ih=>
   intro hi;obtain⟨T,S,dS,K,O⟩:=qW Z.bn i (by omega);have e1:(w.cB i).ah i=w.ah i:=Fu Z.bn i (by omega) i (Nat.le_refl _)
   show((w.cB i).step i).aP=_
   rw[adW O (by omega) (by rw[e1];exact Z.rm.up i (by omega)) (by rw[e1];exact hQ.lu i (by omega)) (by rw[e1];exact M i (by omega))];exact ih (by omega)
 refine⟨?_,hQ.off,λn hn q=>?_⟩
 ·show((w.cB 5).Ms.foldl Cl.Nk {w.cB 5 with Ms:=[]}).aP=_
  rw[PI];exact J 5 (Nat.le_refl _)
 rw[gK (R2.up n hn),gK (Z.rm.up n hn)];exact q1.bs n hn q
def aaG(h:B+46<=100000)(Z:RD m w G G' B):∀r,∃I,RD m (w.rs r) G I B/\(w.rs r).aP=w.aP/\(∀q,q<2->(w.rs r).off.at q=w.off.at q)/\ ∀n,n<5-> ∀q,Sm (vw (w.rs r) q n) (vw w q n)
 | 0=>⟨G',Z,E,λ_ _=>E,λ_ _ _=>.refl _⟩
 |r+1=>by
  obtain⟨I,J,a,b,c⟩:=aaG h Z r;obtain⟨a1,b1,c1⟩:=ahW h J;obtain⟨O,Z3⟩:=Hq h 1 J;exact⟨O,Z3,a1.trans a,λq M=>(b1 q M).trans (b q M),λn hn q=>(c1 n hn q).trans (c n hn q)⟩
end
def aT:Nat->Nat
 | 0=>0
 |t+1=>aT t+if t % 4<2 then 1 else 0
def Cl.aS(m:Cl):Nat:=o5 λn=>aT (m.ah n).turn
def Cl.tS(m:Cl):Nat:=o5 λn=>(m.ah n).turn
section
variable {m w m':Cl}{n q k:Nat}{l:bH}{b:aU}{ac:Ac}{X:Nd}
def anG:∀t,2*aT t<=t+(if t % 4=1\/t % 4=3 then 1 else if t % 4=2 then 2 else 0)
 | 0=>Nat.le_refl _
 |t+1=>by
  have I:=anG t;rw[aT];have J:t % 4=0\/t % 4=1\/t % 4=2\/t % 4=3:=by omega
  rcases J with h|h|h|h
  ·rw[h]at I⊢;rw[show(t+1) % 4=1 by omega];simp at I⊢;omega
  ·rw[h]at I⊢;rw[show(t+1) % 4=2 by omega];simp at I⊢;omega
  ·rw[h]at I⊢;rw[show(t+1) % 4=3 by omega];simp at I⊢;omega
  rw[h]at I⊢;rw[show(t+1) % 4=0 by omega];simp at I⊢;omega
def adX(t:Nat):2*aT t<=t+2:=by
 have:=anG t
 split at this
 ·omega
 split at this<;>omega
def ax1:2*m.aS<=m.tS+10:=by
 have h:=adX (m.ah 0).turn;have h1:=adX (m.ah 1).turn;have I:=adX (m.ah 2).turn;have J:=adX (m.ah 3).turn;have M:=adX (m.ah 4).turn;unfold Cl.aS Cl.tS o5;dsimp only;omega
def ahX(h:2<=(m.ah n).turn % 4->((m.ah n).bs ((m.ah n).turn % 4)).Gq=0):(m.jV n).nm n<=m.nm n+if (m.ah n).turn % 4<2 then 1 else 0:=by
 by_cases c:(m.ah n).turn % 4<2
 ·rw[if_pos c];exact aah
 rw[if_neg c];have I:=h (by omega);have e:gu n ((m.ah n).turn % 4) ((m.ah n).bs ((m.ah n).turn % 4)) ((m.ah n).Nf ((m.ah n).turn % 4))=[]:=by
  unfold gu;rw[if_neg (by omega),if_neg (by omega),if_neg (by omega)];rfl
 show oz (m.Ms++gu n ((m.ah n).turn % 4) ((m.ah n).bs ((m.ah n).turn % 4)) ((m.ah n).Nf ((m.ah n).turn % 4)))+qM ((Na m.ah n {m.ah n with turn:=(m.ah n).turn+1}) n)<=_
 rw[e,append_nil,Ee];exact Nat.le_refl _
def ahY{T S dS K:Nat}(hB:cu m T S dS K)(hv:Vd m)(hn:n<5):(m.step n).cw+m.aS<=m.cw+(m.step n).aS/\(m.step n).tS<=m.tS+1:=by
 have h:=λj (Z:j≠n)=>oP (m:=m) hB hn Z;have fin:∀ {d:Nat},(m.step n).nm n<=m.nm n+d->aT (m.ah n).turn+d<=aT ((m.step n).ah n).turn->((m.step n).ah n).turn<=(m.ah n).turn+1->(m.step n).cw+m.aS<=m.cw+(m.step n).aS/\(m.step n).tS<=m.tS+1:=λ{d} h1 J O=>by
  have c1:=Xt hn h h1;have c2:=XJ (f:=λj=>aT ((m.step n).ah j).turn) (f':=λj=>aT (m.ah j).turn) (a:=d) hn (λj Z=>by rw[h j Z]) J;have c3:=MX (f:=λj=>(m.ah j).turn) (f':=λj=>((m.step n).ah j).turn) (a:=1) hn (λj Z=>by rw[h j Z];exact Nat.le_refl _) O;unfold Cl.aS Cl.tS;exact⟨by omega,c3⟩
 cases M:(m.ah n).up with
 |false=>rw[mM M];exact⟨Nat.le_refl _,le_succ _⟩
 |true=>
  obtain⟨rs,us,hU⟩:=(hB.iK n hn).rC M
  cases hp:(m.ah n).Mw with
  |some p=>
   obtain⟨h1,J,O⟩:=hU.F6 p hp;obtain⟨_,hf⟩:=iR hU.tape hU.lg J O;obtain⟨dz,y1,y2,y3,y4,y5,y6,y7,y8,_⟩:=zT E M hp O hf J;have eY:(m.step n).ah n=dz:=by rw[y1,Ee]
   refine fin (d:=0) ?_ (by rw[eY,y8];exact Nat.le_refl _) (by rw[eY,y8];exact le_succ _);unfold Cl.step;rw[if_neg (by rw[M];decide),hp];dsimp only;have h1:=Pg (w:=m.put n {m.ah n with MC:=(m.ah n).data.length,Mw:=none}) (n:=n) (p:=p);rw[yt]at h1;unfold Cl.nm qM at h1⊢;rw[hp];dsimp only at h1;have e0:Wv none=0:=rfl;rw[e0]at h1;omega
  |none=>
   have P:=oN (n:=n) (λw=>O4 m n rs w/\w.nm n<=m.nm n/\ ∀q,Sm ((w.ah n).bs q) ((m.ah n).bs q)) (λw l r ⟨H,A,A2⟩ hp1 hin=>by
    obtain⟨h1,J,O,h4⟩:=oO (λl hl=>lF (hB.iP n hn l hl)) H hp1 hin;have h5:=Pf (w:=w.put n ((w.ah n).box r)) (n:=n) (l:=l);rw[yt]at h5;have h6:w.nm n=oz w.Ms+(Gc l+oz r+Wv (w.ah n).Mw):=by unfold Cl.nm qM;rw[hin];rfl
    have h7:qM ((w.ah n).box r)=oz r+Wv (w.ah n).Mw:=rfl;refine⟨h1.1,h4,by omega,λq=>(WR O q).trans ?_⟩;rw[aX];exact A2 q) _ m E ⟨BG M ⟨_,hU⟩,Nat.le_refl _,λ_=>.refl _⟩
   obtain⟨H,A,A2⟩:=P;have I:=H.FZ;have es:=jf M hp;by_cases c:((m.more n).ah n).Mw=none
   ·rw[if_pos c]at es;have e1:(m.step n).ah n={ (m.more n).ah n with turn:=((m.more n).ah n).turn+1}:=by
     rw[es]
     show Na (m.more n).ah n _ n=_
     exact Ee _ _ _
    have hd:=ahX (m:=m.more n) (n:=n) λJ=>by
     rw[(A2 _).Gq];exact hv.view hn M J (by omega)
    refine fin (d:=if (m.ah n).turn % 4<2 then 1 else 0) ?_ ?_ ?_
    ·rw[es,<-I];omega
    ·rw[e1]
     show _<=aT (((m.more n).ah n).turn+1)
     rw[I];exact Nat.le_refl _
    rw[e1]
    show((m.more n).ah n).turn+1<=_
    rw[I];exact Nat.le_refl _
   rw[if_neg c]at es;refine fin (d:=0) (by rw[es];exact A) (by rw[es,I];exact Nat.le_refl _) (by rw[es,I];exact le_succ _)
def ahZ{at_:Nat}{c:Bool}:(w.pick at_ c false).cw<=w.cw:=by
 unfold Cl.pick
 split
 ·exact Nat.le_refl _
 rename_i l h
 have I:=Ww (w:=w) (fl:=w.Ms.eraseIdx (at_ % w.Ms.length));have J:=Hf _ _ _ h;simp only[Bool.false_eq_true,if_false]
 split
 ·have:=Qo (w:={w with Ms:=w.Ms.eraseIdx (at_ % w.Ms.length)}) (l:=l);omega
 omega
def adY(h:∀j,(m'.ah j).turn=(m.ah j).turn):m'.aS=m.aS/\m'.tS=m.tS:=⟨BI λj _=>by rw[h],BI λj _=>by rw[h]⟩
def Ec{bs:Nat->aU}:∀(h:List Nat) (w:Cl) (j:Nat),((Cl.QG n bs h w).ah j).turn=(w.ah j).turn
 |[],_,_=>rfl
 |q::r,w,j=>by
  rw[Cl.QG]
  split
  ·exact Ec r w j
  rw[Ec r]
  show(((w.recover n q).ay n q (dL (bs q)).1).ah j).turn=_
  by_cases e:j=n
  ·subst e;rw[show((w.recover j q).ay j q (dL (bs q)).1).ah j=((w.recover j q).ah j).ay q (dL (bs q)).1 from aX _]
   show((w.recover j q).ah j).turn=_
   rw[wY]
  rw[show((w.recover n q).ay n q (dL (bs q)).1).ah j=(w.recover n q).ah j from Kg e,wY]
def acW(a:Ac):Nat:=if a.kd=2\/a.kd=6 then 1 else 0
def acS(a:Ac):Nat:=if a.kd=3 then 1 else 0
def KU(h:X.turn=(m.ah n).turn)(j:Nat):((m.put n X).ah j).turn=(m.ah j).turn:=by
 by_cases e:j=n
 ·subst e;rw[aX];exact h
 rw[show(m.put n X).ah j=m.ah j from Kg e]
def amc{k:Nat}(M:Bs m k)(hv:Vd m)(O:wX ac)(h1:ac.kd≠1):(m.QT ac).cw+m.aS<=m.cw+(m.QT ac).aS+acW ac/\(m.QT ac).tS<=m.tS+acS ac:=by
 obtain⟨a1,a2,a3,a4,a5,a6⟩:=O;have hn:ac.nd.toNat<5:=by omega
 have keep:∀ {m2:Cl} {c:Nat},m2.cw<=m.cw+c->(∀j,(m2.ah j).turn=(m.ah j).turn)->c<=acW ac->m2.cw+m.aS<=m.cw+m2.aS+acW ac/\m2.tS<=m.tS+acS ac:=λ{m2 c} h I Z=>by
  obtain⟨e1,e2⟩:=adY I;exact⟨by omega,by omega⟩
 unfold Cl.QT;rw[if_neg h1]
 split
 ·rename_i h2
  refine keep (c:=1) ?_ (λ_=>E) (by unfold acW;rw[if_pos (.inl h2)];exact Nat.le_refl _)
  show oz (m.Ms++[vY ac.nd ac.qu.toNat ac.op m.calls])+(qM (m.ah 0)+(qM (m.ah 1)+(qM (m.ah 2)+(qM (m.ah 3)+qM (m.ah 4)))))<=m.cw+1
  have Z:=J6 (vY ac.nd ac.qu.toNat ac.op m.calls);rw[tY,EB];unfold Cl.cw;omega
 split
 ·rename_i h3
  obtain⟨c1,c2⟩:=ahY M hv hn;unfold acS;rw[if_pos h3];exact⟨by omega,c2⟩
 split
 ·have I:∀j,((m.pick ac.at_.toNat (decide (ac.kd≠5)) (decide (ac.kd=6))).ah j).turn=(m.ah j).turn:=λj=>by
   unfold Cl.pick
   split
   ·rfl
   dsimp only
   split
   ·rename_i l hl _
    obtain⟨ib,e⟩:=BH (if decide (ac.kd=6)=true then m else{m with Ms:=m.Ms.eraseIdx (ac.at_.toNat % m.Ms.length)}:Cl) l j;rw[e]
    split<;>rfl
   split<;>rfl
  by_cases J:ac.kd=6
  ·exact keep (c:=1) aai I (by unfold acW;rw[if_pos (.inr J)];exact Nat.le_refl _)
  have e6:decide (ac.kd=6)=false:=decide_eq_false J;rw[e6]at I⊢;exact keep (c:=0) ahZ I (zero_le _)
 split
 ·exact keep (c:=0) afo (λj=>by obtain⟨ib,e⟩:=uE m j;rw[e]) (zero_le _)
 split
 ·unfold Cl.Q0
  split
  ·exact keep (c:=0) (J7 hn (zero_le _)) (KU E) (zero_le _)
  exact keep (c:=0) (Nat.le_refl _) (λ_=>E) (zero_le _)
 split
 ·unfold Cl.start
  split
  ·exact keep (c:=0) (Nat.le_refl _) (λ_=>E) (zero_le _)
  split
  ·exact keep (c:=0) (Nat.le_refl _) (λ_=>E) (zero_le _)
  refine keep (c:=0) (by rw[Fj];exact J7 hn (zero_le _)) (λj=>?_) (zero_le _);rw[Ec];refine KU ?_ j;rfl
 unfold Cl.move
 split
 ·exact keep (c:=0) (Nat.le_refl _) (λ_=>E) (zero_le _)
 split
 ·exact keep (c:=0) (by rw[Qp];exact Nat.le_refl _) (KU E) (zero_le _)
 exact keep (c:=0) (Nat.le_refl _) (λ_=>E) (zero_le _)
end
def yo(V:Nat->aU)(g:Gh)(n:Nat):Nat:=if n≠g.o/\(V n).Gq=3 then 1 else 0
def yq(V:Nat->aU)(g:Gh):Nat:=g.G.length+o5 (yo V g)+2*(if (V g.o).Gq=1 then 0 else 1)
section
variable {m w m':Cl}{n q k B d:Nat}{l:bH}{p:bS}{g g':Gh}{b b':aU}{ac:Ac}{X:Nd}{rs us:List cO}
def Du(I:QI m q g)(I':QI m' q g')(N:g.m<=g'.m)(hn:n<5)(Z:vw m' q=Na (vw m q) n b')
  (h1:n=g.o->b'.ep=(vw m q n).ep/\(b'.Gq=1\/b'.Gq=2\/b'.Gq=3)/\b'.Gs.length<=(vw m q n).Gs.length+d/\((vw m q n).Gq=1->b'.Gq=1))
  (h2:n≠g.o->b'.Gq=0\/b'.Gq=4\/(b'.Gq=3/\b'.ep<g.m/\(vw m q n).Gq=3)\/(b'.Gq=1/\b'.ep=(g.m:Int)+1/\(vw m q g.o).Gq≠1/\b'.Gs.length=g.G.length+1)):yq (vw m' q) g'<=yq (vw m q) g+d:=by
 have o5':=I'.o5;have oo:=I.o5;have O:=I'.ru;have J:=I'.uy;have M:=I'.zS;have hm:=N;have keep:g'.o≠n->g'.o=g.o:=λe=>by
  rw[Z,Kg e]at O M;exact I.top o5' M (by omega)
 by_cases c:n=g.o
 ·obtain⟨a1,a2,a3,a4⟩:=h1 c;subst c;have eV:vw m' q g.o=b':=by rw[Z,Ee]
  have eo:g'.o=g.o:=by
   by_cases e:g'.o=g.o
   ·exact e
   exact keep e
  have hG:g'.G.length=b'.Gs.length:=by rw[<-J,eo,eV]
  have hG0:g.G.length=(vw m q g.o).Gs.length:=by rw[I.uy]
  have hy:o5 (yo (vw m' q) g')=o5 (yo (vw m q) g):=BI λj _=>by
   unfold yo;rw[eo];by_cases e:j=g.o
   ·rw[e,if_neg (λc=>c.1 E),if_neg (λc=>c.1 E)]
   rw[Z,Kg e]
  unfold yq;rw[hy,eo,eV];by_cases c1:(vw m q g.o).Gq=1
  ·rw[if_pos c1,if_pos (a4 c1)];omega
  rw[if_neg c1];split<;>omega
 have eVo:vw m' q g.o=vw m q g.o:=by rw[Z,Kg (λe=>c e.symm)]
 by_cases e:g'.o=n
 ·rw[e]at O J M;rw[Z,Ee]at O J M
  rcases h2 c with h|h|⟨_,h,_⟩|⟨k1,k2,k3,k5⟩
  ·omega
  ·omega
  ·omega
  have hG:g'.G.length=g.G.length+1:=by rw[<-J,k5]
  have hy:o5 (yo (vw m' q) g')<=o5 (yo (vw m q) g)+1:=by
   refine MX oo (λj hj=>?_) ?_
   ·unfold yo;by_cases ej:j=n
    ·rw[if_neg (λc=>c.1 (ej.trans e.symm))];exact zero_le _
    rw[Z,Kg ej]
    split
    ·rename_i c3
     rw[if_pos ⟨hj,c3.2⟩];exact Nat.le_refl _
    exact zero_le _
   unfold yo;split<;>omega
  have hR:(vw m' q g'.o).Gq=1:=by rw[e,Z,Ee];exact k1
  unfold yq;rw[if_pos hR,if_neg k3];omega
 have eo:=keep e;have hG:g'.G.length=g.G.length:=by rw[<-J,eo,eVo,I.uy]
 have hy:o5 (yo (vw m' q) g')<=o5 (yo (vw m q) g)+0:=by
  refine MX hn (λj hj=>?_) ?_
  ·unfold yo;rw[eo,Z,Kg hj];exact Nat.le_refl _
  unfold yo;rw[eo,Z,Ee]
  split
  ·rename_i c3
   rcases h2 c with h|h|⟨_,_,h⟩|⟨h,_⟩
   ·omega
   ·omega
   ·rw[if_pos ⟨c,h⟩];exact Nat.le_refl _
   omega
  exact zero_le _
 unfold yq;rw[eo,eVo];omega
def XL(I:QI m q g)(I':QI m' q g')(N:g.m<=g'.m)(hn:n<5)(M:vw m' q=Na (vw m q) n b')(s:Sm b' (vw m q n)):yq (vw m' q) g'<=yq (vw m q) g:=by
 refine Du (d:=0) I I' N hn M (λe=>?_) λe=>?_
 ·have:=I.zS;rw[<-e,<-s.Gq]at this;exact⟨s.ep,this,by rw[s.Gs];exact Nat.le_refl _,λh=>by rw[s.Gq];exact h⟩
 rcases I.mK n hn e with⟨O,_⟩|⟨k,J,Z,k3,k4,_⟩|⟨k,J,_⟩
 ·exact .inl (by rw[s.Gq];exact O)
 ·exact .inr (.inr (.inl ⟨by rw[s.Gq];exact J,by rw[s.ep];omega,J⟩))
 exact .inr (.inl (by rw[s.Gq];exact J))
def aaI(I:QI m q g)(I':QI m' q g')(N:g.m<=g'.m)(hn:n<5)(hu:(m.ah n).up=true)(hp:(m.ah n).Mw=some p)(hq:p.q=q)(hV:vw m' q=Na (vw m q) n b')(J:b'=p.b (m.ah n).bs\/b'=jq (p.b (m.ah n).bs)):yq (vw m' q) g'<=yq (vw m q) g+yM (some p):=by
 have O:=gK (q:=q) hu;have hpv:uz m q n=some p:=by unfold uz;rw[hp];exact Gb hq
 obtain⟨_,hk⟩:=I.lu n hn p hpv
 cases p with
 |serve k Gs op num a=>
  have e:k=q:=hq;subst e;obtain⟨k1,k2,k3,_⟩:=hk;have hd:yM (some (bS.serve k Gs op num a))=1:=rfl;rw[hd];have hbe:b'.ep=((m.ah n).bs k).ep/\(b'.Gq=1\/b'.Gq=2\/b'.Gq=3)/\b'.Gs=Gs/\(((m.ah n).bs k).Gq=1->b'.Gq=1):=by
   rw[O]at k2;unfold Nl at k2
   rcases J with J|J
   ·rw[J];exact⟨E,by show((m.ah n).bs k).Gq=1\/((m.ah n).bs k).Gq=2\/((m.ah n).bs k).Gq=3;omega,E,λh=>h⟩
   rw[J];unfold jq
   split
   ·exact⟨E,.inl E,E,λ_=>E⟩
   rename_i c
   exact⟨E,by show((m.ah n).bs k).Gq=1\/((m.ah n).bs k).Gq=2\/((m.ah n).bs k).Gq=3;omega,E,λh=>h⟩
  obtain⟨e1,e2,e3,e4⟩:=hbe;refine Du I I' N hn hV (λe=>⟨by rw[O];exact e1,e2,?_,by rw[O];exact e4⟩) λe=>absurd k1 e;rw[e3,k3,e,I.uy,length_append,length_singleton];exact Nat.le_refl _
 |Ns k x=>
  obtain⟨j,j1,Z,j3,j4,j5⟩:=hk;have Nc:=I.oJ j4;have M:b'=x:=by
   rcases J with J|J
   ·exact J
   rw[J];show jq x=x;exact kI (by rw[j1];show(4:Int)≠2;decide)
  exact Du I I' N hn hV (λh=>absurd h Nc) λ_=>.inr (.inl (by rw[M,j1]))
 |QU k x last=>
  obtain⟨k1,k2,k3⟩:=hk;have Nc:n≠g.o:=I.oJ (.inr k1);refine Du I I' N hn hV (λh=>absurd h Nc) λ_=>?_
  cases last with
  |true=>
   obtain⟨a1,a2,a3,a4,a5⟩:=k3 E;have M:b'=x:=by
    rcases J with J|J
    ·exact J
    rw[J];show jq x=x;exact kI (by rw[a4];show(1:Int)≠2;decide)
   refine .inr (.inr (.inr ⟨by rw[M,a4],by rw[M,a4],by omega,?_⟩));rw[M,a4];show(g.G++[aF]).length=_;simp
  |false=>
   obtain⟨j,a1,_⟩:=k2 E;have hr:x.Gq=4:=by rw[a1];exact k1
   have M:b'=x:=by
    rcases J with J|J
    ·exact J
    rw[J];show jq x=x;exact kI (by omega)
   exact .inr (.inl (by rw[M];exact hr))
 |fG k x a=>
  obtain⟨ho,j1,Z⟩:=hk;have M:b'=x:=by
   rcases J with J|J
   ·exact J
   rw[J];show jq x=x;exact kI (by rw[Z];show(3:Int)≠2;decide)
  refine Du I I' N hn hV (λ_=>?_) λh=>absurd ho h;rw[M,Z];exact⟨E,.inr (.inr E),le_add_right _ _,λh=>by omega⟩
 |Ni k x=>
  obtain⟨j1,Z,j3⟩:=hk;have M:b'=x:=by
   rcases J with J|J
   ·exact J
   rw[J];show jq x=x;exact kI (by rw[Z];show(0:Int)≠2;decide)
  exact Du I I' N hn hV (λh=>by have:=I.ru;rw[<-h]at this;omega) λ_=>.inl (by rw[M,Z])
def aso(I:QI m q g)(I':QI m' q g')(N:g.m<=g'.m)(hn:n<5)(M:vw m' q=Na (vw m q) n (jq (vw m q n))):yq (vw m' q) g'<=yq (vw m q) g:=by
 refine Du (d:=0) I I' N hn M (λe=>?_) λe=>?_
 ·have:=I.zS;rw[<-e]at this;unfold jq
  split
  ·exact⟨E,.inl E,Nat.le_refl _,λ_=>E⟩
  exact⟨E,this,Nat.le_refl _,λh=>h⟩
 rcases I.mK n hn e with⟨O,_⟩|⟨k,J,Z,k3,k4,_⟩|⟨k,J,_⟩
 ·exact .inl (by rw[kI (by omega)];exact O)
 ·exact .inr (.inr (.inl ⟨by rw[kI (by omega)];exact J,by rw[kI (by omega)];omega,J⟩))
 exact .inr (.inl (by rw[kI (by omega)];exact J))
end
def Cl.Gp(m:Cl):Nat:=o5 λn=>if (m.ah n).up=true then 0 else 1
noncomputable def YY(m:Cl)(G:Nat->Gh):Nat:=2*m.c0+(yq (vw m 0) (G 0)+yq (vw m 1) (G 1))+2*m.Gp
def yA(a:Ac):Nat:=if a.kd=2\/a.kd=6\/a.kd=8\/a.kd=10 then 2 else 0
section
variable {m w m':Cl}{n q k B d:Nat}{l:bH}{p:bS}{g g':Gh}{G G':Nat->Gh}{b b':aU}{ac:Ac}{X:Nd}{rs us:List cO}
def Fv(h:∀j,j<5->(m'.ah j).up=(m.ah j).up):m'.Gp=m.Gp:=BI λj I=>by rw[h j I]
def aaJ(I:jO l):(w.Nk l).c0<=w.c0+bO l:=by
 have h:=aal (w:=w) (f:=bO) Gn I;have hs:∀j,((w.Nk l).ah j).Mw=(w.ah j).Mw:=λj=>by obtain⟨J,e⟩:=BH w l j;rw[e]
 unfold Cl.c0;rw[hs,hs,hs,hs,hs];omega
def L9(f:bH->Nat):∀(a:List bH) (i:Nat) (l:bH),a[i]? =some l->dF f (a.eraseIdx i)+f l=dF f a
 |[],i,l,h=>by cases h
 |x::a,0,l,h=>by cases h;rw[eraseIdx_cons_zero,dF];omega
 |x::a,i+1,l,h=>by
  rw[eraseIdx_cons_succ,dF,dF];have:=L9 f a i l (by simpa using h);omega
def afI(l:bH):bO l<=1:=by unfold bO;split<;>omega
def amd{at_:Nat}{c s:Bool}(J:∀l∈w.Ms,jO l):(w.pick at_ c s).c0<=w.c0+if s=true then 1 else 0:=by
 unfold Cl.pick
 split
 ·exact le_add_right _ _
 rename_i l I
 have h:=J l (mem_of_getElem? I);have h1:=afI l;have he:({w with Ms:=w.Ms.eraseIdx (at_ % w.Ms.length)}:Cl).c0+bO l=w.c0:=by
  have:=L9 bO _ _ _ I;unfold Cl.c0 Cl.ws;dsimp only;omega
 cases s with
 |true=>
  simp only[if_true]
  split
  ·have:=aaJ (w:=w) h;omega
  exact le_add_right _ _
 |false=>
  simp only[Bool.false_eq_true,if_false]
  split
  ·have:=aaJ (w:={w with Ms:=w.Ms.eraseIdx (at_ % w.Ms.length)}) h;omega
  omega
def asq(I:∀l∈m.Ms,jO l):m.all.c0<=m.c0:=by
 have J:m.all.ws bO<=m.ws bO:=CY Gn I;have h:∀j,(m.all.ah j).Mw=(m.ah j).Mw:=λj=>by obtain⟨M,e⟩:=uE m j;rw[e]
 unfold Cl.c0;rw[h,h,h,h,h];omega
def ame{T S dS K:Nat}(hB:cu m T S dS K)(hn:n<5)(Z:(m.ah n).up=true):(m.step n).c0+yM (m.ah n).Mw<=m.c0/\((m.ah n).Mw=none-> ∀q,Sm (((m.step n).ah n).bs q) ((m.ah n).bs q))/\((m.step n).ah n).up=true:=by
 obtain⟨rs,us,hU⟩:=(hB.iK n hn).rC Z;have I:=λj (M:j≠n)=>oP (m:=m) hB hn M
 cases hp:(m.ah n).Mw with
 |some p=>
  obtain⟨h1,h2,O⟩:=hU.F6 p hp;obtain⟨_,hf⟩:=iR hU.tape hU.lg h2 O;obtain⟨dz,y1,y2,y3,y4,y5,y6,y7,y8,_⟩:=zT E Z hp O hf h2;have eY:(m.step n).ah n=dz:=by rw[y1,Ee]
  obtain⟨new,hfl,J⟩:=Qv Z hp h2;have hw:(m.step n).ws bO+0<=m.ws bO:=oK hn I (by rw[eY,y7]) hfl λx hx=>sG (J x hx).1;refine⟨Dr (d:=0) hn I hw (by rw[eY,y5,hp];show 0+_<=_;omega),(λh=>nomatch h),by rw[eY];exact y6⟩
 |none=>
  have key:=oN (n:=n) (λw=>O4 m n rs w/\w.c0<=m.c0/\ ∀q,Sm ((w.ah n).bs q) ((m.ah n).bs q)) (λw l r ⟨H,A,A2⟩ hp1 hin=>by
   obtain⟨h1,h2,O,h4⟩:=oO (λl hl=>lF (hB.iP n hn l hl)) H hp1 hin;have e0:(w.put n ((w.ah n).box r)).ah n=(w.ah n).box r:=aX _;have hot:∀j,j≠n->(w.put n ((w.ah n).box r)).ah j=w.ah j:=λj M=>Kg M;have hws:(w.put n ((w.ah n).box r)).ws bO+bO l<=w.ws bO:=Gf hn (λj M=>by rw[hot j M]) (by
    rw[e0,hin]
    show dF bO w.Ms+dF bO r+bO l<=dF bO w.Ms+(bO l+dF bO r)
    omega)
   have c1:=Dr (d:=bO l) (d':=bO l) hn hot hws (by rw[e0];show yM (w.ah n).Mw+_<=_;omega);have hu2:((w.put n ((w.ah n).box r)).ah n).up=true:=by rw[e0];exact H.up
   have hp2:((w.put n ((w.ah n).box r)).ah n).Mw=none:=by rw[e0];exact hp1
   obtain⟨hbs,Tg⟩:=WL hu2 hp2 O;obtain⟨new,hf,J⟩:=Jy hu2 O;have lK:=jW (m:=w.put n ((w.ah n).box r)) (n:=n) (l:=l) h1.1;have hw2:((w.put n ((w.ah n).box r)).Ng n l).ws bO+0<=(w.put n ((w.ah n).box r)).ws bO:=oK hn lK.mK lK.iP hf λx hx=>sG (J x hx).1;have hs:yM (((w.put n ((w.ah n).box r)).Ng n l).ah n).Mw<=bO l:=by
    rcases Tg with⟨h1,_⟩|⟨p,h1,h2,O,h4,h5,h6⟩
    ·rw[h1];exact zero_le _
    rw[h1]
    cases p with
    |serve k Gs op num a=>rw[show bO l=1 from if_pos h5.1];exact Nat.le_refl _
    |_=>exact zero_le _
   have c2:((w.put n ((w.ah n).box r)).Ng n l).c0<=(w.put n ((w.ah n).box r)).c0+bO l:=by
    have I:=lK.mK;unfold Cl.c0
    rcases five hn with rfl|rfl|rfl|rfl|rfl
    ·rw[I 1 (by decide),I 2 (by decide),I 3 (by decide),I 4 (by decide)];omega
    ·rw[I 0 (by decide),I 2 (by decide),I 3 (by decide),I 4 (by decide)];omega
    ·rw[I 0 (by decide),I 1 (by decide),I 3 (by decide),I 4 (by decide)];omega
    ·rw[I 0 (by decide),I 1 (by decide),I 2 (by decide),I 4 (by decide)];omega
    rw[I 0 (by decide),I 1 (by decide),I 2 (by decide),I 3 (by decide)];omega
   refine⟨h1.1,h4,by omega,λq=>(WR O q).trans ?_⟩;rw[e0];exact A2 q) _ m E ⟨BG Z ⟨_,hU⟩,Nat.le_refl _,λ_=>.refl _⟩
  obtain⟨H,A,A2⟩:=key;have es:=jf Z hp
  show(m.step n).c0+0<=_/\_
  by_cases c:((m.more n).ah n).Mw=none
  ·rw[if_pos c]at es;have e1:(m.step n).ah n={ (m.more n).ah n with turn:=((m.more n).ah n).turn+1}:=by
    rw[es]
    show Na (m.more n).ah n _ n=_
    exact Ee _ _ _
   have hc:((m.more n).jV n).c0<=(m.more n).c0:=by
    have:=Dr (m:=m.more n) (m':=(m.more n).jV n) (d:=0) (d':=0) hn (λj M=>Kg M) (Ur hn) (by
     show yM (Na (m.more n).ah n _ n).Mw+0<=_
     rw[Ee];exact Nat.le_refl _)
    exact this
   refine⟨by rw[es];omega,λ_ q=>by rw[e1];exact A2 q,by rw[e1];exact H.up⟩
  rw[if_neg c]at es;exact⟨by rw[es];omega,λ_ q=>by rw[es];exact A2 q,by rw[es];exact H.up⟩
def zH{u:Nat}(h:∀q,q<2->yq (vw m' q) (G' q)<=yq (vw m q) (G q)+(if q=k then d else 0))(M:k<2)(O:2*m'.c0+d+2*m'.Gp<=2*m.c0+2*m.Gp+u):YY m' G'<=YY m G+u:=by
 have J:=h 0 (by decide);have h1:=h 1 (by decide);have I:k=0\/k=1:=by omega
 unfold YY
 rcases I with rfl|rfl
 ·rw[if_pos E]at J;rw[if_neg (by decide)]at h1;omega
 rw[if_neg (by decide)]at J;rw[if_pos E]at h1;omega
def vW(I:QI m q g)(I':QI m' q g')(N:g.m<=g'.m)(h:vw m' q=vw m q):yq (vw m' q) g'<=yq (vw m q) g:=
 XL (n:=0) (b':=vw m q 0) I I' N (by decide) (by rw[h];exact(aB E).symm) (.refl _)
def amf{T S dS K:Nat}(hQ:∀q,q<2->QI m q (G q))(I:∀q,q<2->QI (m.step n) q (G' q))(N:∀q,q<2->(G q).m<=(G' q).m)(hv:Vd m)(hB:cu m T S dS K)(hn:n<5):YY (m.step n) G'<=YY m G:=by
 have J:=λj (hj:j≠n)=>oP (m:=m) hB hn hj
 cases M:(m.ah n).up with
 |false=>
  have e:=mM M;refine zH (k:=0) (d:=0) (u:=0) (λq h=>?_) (by decide) (by rw[e];exact Nat.le_refl _);have:=vW (hQ q h) (I q h) (N q h) (by rw[e]);omega
 |true=>
  obtain⟨c1,c2,c3⟩:=ame hB hn M;have hdn:(m.step n).Gp=m.Gp:=Fv λj _=>by
   by_cases e:j=n
   ·rw[e,c3,M]
   rw[J j e]
  have O:∀q,vw (m.step n) q=Na (vw m q) n (((m.step n).ah n).bs q):=λq=>by
   funext j
   by_cases e:j=n
   ·subst e;rw[Ee,gK c3]
   rw[Kg e];unfold vw;rw[J j e]
  cases Z:(m.ah n).Mw with
  |none=>
   rw[Z]at c1;refine zH (k:=0) (d:=0) (u:=0) (λq h=>?_) (by decide) (by have:yM none=0:=rfl;omega);have:=XL (hQ q h) (I q h) (N q h) hn (O q) (by rw[gK M];exact c2 Z q);omega
  |some p=>
   rw[Z]at c1;obtain⟨rs,us,hU⟩:=(hB.iK n hn).rC M;obtain⟨h1,h2,h3⟩:=hU.F6 p Z;obtain⟨_,hf⟩:=iR hU.tape hU.lg h2 h3;obtain⟨dz,y1,y2,_⟩:=zT E M Z h3 hf h2;have eY:(m.step n).ah n=dz:=by rw[y1,Ee]
   have hpq:=hv.lu n hn p Z;refine zH (k:=p.q) (d:=yM (some p)) (u:=0) (λq h=>?_) hpq (by omega);by_cases e:q=p.q
   ·rw[if_pos e];exact aaI (hQ q h) (I q h) (N q h) hn M Z e.symm (O q) (.inl (by rw[eY,y2,e,Ee]))
   rw[if_neg e];exact XL (hQ q h) (I q h) (N q h) hn (O q) (by rw[gK M,eY,y2,Kg e];exact .refl _)
def ah0{keep:Int}{T S dS K:Nat}(hQ:∀q,q<2->QI m q (G q))(J:∀q,q<2->QI (m.Q0 n keep) q (G' q))(N:∀q,q<2->(G q).m<=(G' q).m)(hv:Vd m)(hB:cu m T S dS K)(hn:n<5)(hk:0<=keep):YY (m.Q0 n keep) G'<=YY m G+2:=by
 cases hu:(m.ah n).up with
 |false=>
  have e:m.Q0 n keep=m:=by unfold Cl.Q0;rw[if_neg (by rw[hu];simp)]
  rw[e]at J⊢;refine zH (k:=0) (d:=0) (λq I=>by have:=vW (hQ q I) (J q I) (N q I) E;omega) (by decide) (by omega)
 |true=>
  have e:m.Q0 n keep=m.put n ((m.ah n).Nn keep):=by unfold Cl.Q0;rw[if_pos hu];rfl
  rw[e]at J⊢;obtain⟨rs,us,hU⟩:=(hB.iK n hn).rC hu;obtain⟨rs',t,f,hd,hf⟩:=Fe hU hk;have M:(m.put n ((m.ah n).Nn keep)).ah=Na m.ah n ((m.ah n).Nn keep):=rfl;have hvw:∀q,q<2->vw (m.put n ((m.ah n).Nn keep)) q=Na (vw m q) n (f q):=λq I=>by rw[p8 M,show((m.ah n).Nn keep).view q=f q from hd.view E (by omega)]
  have eN:(m.put n ((m.ah n).Nn keep)).ah n=(m.ah n).Nn keep:=aX _;have hc:(m.put n ((m.ah n).Nn keep)).c0+yM (m.ah n).Mw<=m.c0:=by
   refine Dr (d:=0) hn (λj hj=>Kg hj) (Gf hn (λj hj=>by rw[M,Kg hj]) ?_) ?_
   ·rw[eN];show dF bO m.Ms+dF bO []+0<=_;rw[dF];omega
   rw[eN];show yM none+_<=_;have:yM none=0:=rfl;omega
  have hdn:(m.put n ((m.ah n).Nn keep)).Gp<=m.Gp+1:=MX hn (λj hj=>by rw[M,Kg hj];exact Nat.le_refl _) (by split<;>omega);have O:∀q,q<2->f q=jq ((m.ah n).bs q)->yq (vw (m.put n ((m.ah n).Nn keep)) q) (G' q)<=yq (vw m q) (G q):=λq I h=>aso (hQ q I) (J q I) (N q I) hn (by rw[hvw q I,h,gK hu])
  cases hp:(m.ah n).Mw with
  |none=>
   refine zH (k:=0) (d:=0) (λq I=>?_) (by decide) (by omega)
   rcases hf q (by omega)with h|⟨p,h,_⟩
   ·have:=O q I h;omega
   rw[hp]at h;cases h
  |some p=>
   rw[hp]at hc;have hpq:=hv.lu n hn p hp;refine zH (k:=p.q) (d:=yM (some p)) (λq I=>?_) hpq (by omega)
   rcases hf q (by omega)with h|⟨p',h,h2,h3⟩
   ·have:=O q I h;omega
   rw[hp]at h
   cases h;rw[if_pos h2.symm]
   rcases h3 with h3|h3|⟨Z,b,last,j,h4,h5,_⟩
   ·rw[h2]at h3;have:=O q I h3;omega
   ·exact aaI (hQ q I) (J q I) (N q I) hn hu hp h2 (hvw q I) (.inr h3)
   subst h4;have e2:Z=q:=h2;subst e2;have hpv:uz m Z n=some (.QU Z b last):=by unfold uz;rw[hp];exact Gb E
   obtain⟨_,hk1,_⟩:=(hQ Z I).lu n hn _ hpv;have Nc:n≠(G Z).o:=(hQ Z I).oJ (.inr hk1);have:=Du (d:=0) (hQ Z I) (J Z I) (N Z I) hn (hvw Z I) (λh=>absurd h Nc) λ_=>.inr (.inl (by rw[h5];rw[gK hu]at hk1;exact hk1));omega
def ah1{T S dS K:Nat}(hQ:∀q,q<2->QI m q (G q))(O:∀q,q<2->QI (m.start n) q (G' q))(N:∀q,q<2->(G q).m<=(G' q).m)(hB:cu m T S dS K)(hn:n<5):YY (m.start n) G'<=YY m G:=by
 have same:m.start n=m->YY (m.start n) G'<=YY m G:=λe=>by
  rw[e]at O⊢;exact zH (k:=0) (d:=0) (u:=0) (λq J=>by have:=vW (hQ q J) (O q J) (N q J) E;omega) (by decide) (by omega)
 rcases sZ (hB.iK n hn)with⟨_,e⟩|⟨hu,rs,t,f,hd,e|⟨ws,e1,e2,e3,W,e5,e6,e7⟩⟩
 ·exact same e
 ·exact same e
 have eX:=W.ah;rw[aX]at eX;have M:=congrFun eX n;rw[Ee]at M;have I:∀j,j≠n->(m.start n).ah j=m.ah j:=λj hj=>by rw[eX,Kg hj];exact Kg hj
 have hc:(m.start n).c0+0<=m.c0:=by
  refine Dr (d:=0) hn I (Gf hn (λj hj=>by rw[I j hj]) ?_) ?_
  ·rw[M,W.Ms];show dF bO m.Ms+dF bO []+0<=_;rw[dF];omega
  rw[M];show yM none+0<=_;exact zero_le _
 have hdn:(m.start n).Gp+1<=m.Gp:=XJ hn (λj hj=>by rw[I j hj]) (by rw[M,if_pos E,hu];decide);have hy:∀q,q<2->yq (vw (m.start n) q) (G' q)<=yq (vw m q) (G q)+1:=λq J=>by
  have hin:q∈[0,1,2,3]:=by
   have h:q=0\/q=1:=by omega
   rcases h with rfl|rfl<;>decide
  have Z:vw m q n=bD (m.ah n).data (m.ah n).MC q:=by unfold vw Nd.view;rw[if_neg (by rw[hu];simp)]
  have hV:vw (m.start n) q=Na (vw m q) n (if q∈[0,1,2,3]/\(bD (m.ah n).data (m.ah n).MC q).Gq=1 then iE (bD (m.ah n).data (m.ah n).MC q)else bD (m.ah n).data (m.ah n).MC q):=by
   funext j
   by_cases e:j=n
   ·subst e;rw[Ee];unfold vw;rw[M,dK E]
   rw[Kg e];unfold vw;rw[I j e]
  by_cases hr:(bD (m.ah n).data (m.ah n).MC q).Gq=1
  ·rw[if_pos ⟨hin,hr⟩]at hV;have ho:n=(G q).o:=(hQ q J).who hn (by rw[Z];exact .inl hr);refine Du (hQ q J) (O q J) (N q J) hn hV (λ_=>?_) λh=>absurd ho h;rw[Z];exact⟨E,.inl E,by show(_++[aF]).length<=_;rw[length_append];exact Nat.le_refl _,λ_=>E⟩
  rw[if_neg (λc=>hr c.2)]at hV;have:=XL (hQ q J) (O q J) (N q J) hn hV (by rw[Z];exact .refl _);omega
 have h0:=hy 0 (by decide);have h1:=hy 1 (by decide);unfold YY;omega
def aaK{tg:Int}(h:(uK b tg).2=0):(uK b tg).1.Gq=2:=by
 unfold uK at h⊢;by_cases c1:au b≠0
 ·rw[if_pos c1]at h;exact absurd h c1
 rw[if_neg c1]at h⊢;by_cases c2:¬(0<=tg/\tg<=4)
 ·rw[if_pos c2]at h;exact absurd h (by decide)
 rw[if_neg c2]at h⊢;by_cases c3:b.Gq=2\/b.Gq=3
 ·rw[if_pos c3]at h;exact absurd h (by decide)
 rw[if_neg c3]at h⊢;by_cases c4:b.Gq≠1
 ·rw[if_pos c4]at h;exact absurd h (by decide)
 rw[if_neg c4]at h⊢;by_cases c5:b.ep=1048576
 ·rw[if_pos c5]at h;exact absurd h (by decide)
 rw[if_neg c5]
def amg{q':Nat}{tg:Int}{T S dS K:Nat}(hQ:∀q,q<2->QI m q (G q))(hQ':∀q,q<2->QI (m.move q' tg) q (G' q))(N:∀q,q<2->(G q).m<=(G' q).m)(hB:cu m T S dS K)(hq':q'<2):YY (m.move q' tg) G'<=YY m G+2:=by
 have hL:=λq (hq:q<2)=>TR (q':=q') (tg:=tg) (hQ q hq) hB (by omega) (by omega);have key:∀q,q<2->yq (vw (m.move q' tg) q) (G q)<=yq (vw m q) (G q)+(if q=q' then 2 else 0):=λq hq=>by
  have I:=hQ q hq;have I2:=(hL q hq).1;unfold Cl.move at I2⊢
  split
  ·omega
  rename_i h0
  rw[if_neg h0]at I2
  split
  ·rename_i h1
   rw[if_pos h1]at I2;have hu:(m.ah (aJ m.off q').1.node.toNat).up=true:=by
    cases e:(m.ah (aJ m.off q').1.node.toNat).up with
    |true=>rfl
    |false=>exact absurd (.inr (.inr e)) h0
   have hV:∀j,vw (m.ay (aJ m.off q').1.node.toNat q' (uK ((m.ah (aJ m.off q').1.node.toNat).bs q') tg).1) q j=if j=(aJ m.off q').1.node.toNat/\q=q' then(uK ((m.ah (aJ m.off q').1.node.toNat).bs q') tg).1 else vw m q j:=λj=>by
    by_cases e:j=(aJ m.off q').1.node.toNat
    ·unfold vw;rw[e,show ∀b,(m.ay (aJ m.off q').1.node.toNat q' b).ah (aJ m.off q').1.node.toNat=(m.ah (aJ m.off q').1.node.toNat).ay q' b from λb=>aX _];rw[show ∀b,((m.ah (aJ m.off q').1.node.toNat).ay q' b).view=((m.ah (aJ m.off q').1.node.toNat).ay q' b).bs from λb=>dK hu,dK hu];by_cases e2:q=q'
     ·rw[if_pos ⟨E,e2⟩,e2];exact Ee _ _ _
     rw[if_neg (λc=>e2 c.2)];exact Kg e2
    rw[if_neg (λc=>e c.1)];unfold vw;rw[show ∀b,(m.ay (aJ m.off q').1.node.toNat q' b).ah j=m.ah j from λb=>Kg e]
   have qE:∀j,j<5->yo (vw (m.ay (aJ m.off q').1.node.toNat q' (uK ((m.ah (aJ m.off q').1.node.toNat).bs q') tg).1) q) (G q) j<=yo (vw m q) (G q) j:=λj hj=>by
    unfold yo;rw[hV];by_cases c2:j=(aJ m.off q').1.node.toNat/\q=q'
    ·rw[if_pos c2,if_neg (λc=>absurd c.2 (by rw[aaK h1.1];decide))];exact zero_le _
    rw[if_neg c2];exact Nat.le_refl _
   have h5:o5 (yo (vw (m.ay (aJ m.off q').1.node.toNat q' (uK ((m.ah (aJ m.off q').1.node.toNat).bs q') tg).1) q) (G q))<=o5 (yo (vw m q) (G q)):=by
    have:=qE 0 (by decide);have:=qE 1 (by decide);have:=qE 2 (by decide);have:=qE 3 (by decide);have:=qE 4 (by decide);unfold o5;omega
   unfold yq;by_cases e:q=q'
   ·rw[if_pos e];split<;>split<;>omega
   have hVo:=hV (G q).o;rw[if_neg (λc=>e c.2)]at hVo;rw[if_neg e,hVo];omega
  omega
 refine zH (k:=q') (d:=2) (λq hq=>?_) hq' ?_
 ·have h1:=key q hq;have h2:=vW (hL q hq).1 (hQ' q hq) (N q hq) E;omega
 have hc:(m.move q' tg).c0=m.c0/\(m.move q' tg).Gp=m.Gp:=by
  unfold Cl.move
  split
  ·exact⟨E,E⟩
  split
  ·have hk:∀n b j,((m.ay n q' b).ah j).Md=(m.ah j).Md/\((m.ay n q' b).ah j).Mw=(m.ah j).Mw/\((m.ay n q' b).ah j).up=(m.ah j).up:=λn b j=>by
    by_cases e:j=n
    ·rw[e,show(m.ay n q' b).ah n=(m.ah n).ay q' b from aX _];exact⟨E,E,E⟩
    rw[show(m.ay n q' b).ah j=m.ah j from Kg e];exact⟨E,E,E⟩
   refine⟨?_,Fv λj _=>(hk _ _ j).2.2⟩;unfold Cl.c0 Cl.ws;rw[(hk _ _ 0).1,(hk _ _ 1).1,(hk _ _ 2).1,(hk _ _ 3).1,(hk _ _ 4).1,(hk _ _ 0).2.1,(hk _ _ 1).2.1,(hk _ _ 2).2.1,(hk _ _ 3).2.1,(hk _ _ 4).2.1];rfl
  exact⟨E,E⟩
 omega
def aiM(h:ac.kd=2\/ac.kd=6\/ac.kd=8\/ac.kd=10):yA ac=2:=if_pos h
def asr(hL:∀q,q<2->LW m q (G q) k)(hv:Vd m)(J:Bs m k)(ha:wX ac)(h1:ac.kd≠1)(hqu:ac.qu<2)(hk:k<=540):∃G':Nat->Gh,(∀q,q<2->LW (m.QT ac) q (G' q) (k+1))/\YY (m.QT ac) G'<=YY m G+yA ac:=by
 obtain⟨G',M⟩:=RY (Q:=λq g'=>LW (m.QT ac) q g' (k+1)/\(G q).m<=g'.m) λq I=>by
  obtain⟨g',O,h3⟩:=Qn (hL q I) J ha h1 (by omega) hk;exact⟨g',O,h3.mle⟩
 refine⟨G',λq I=>(M q I).1,?_⟩;have hQ:=λq I=>(hL q I).qi;have h:=λq I=>(M q I).1.qi;have N:=λq I=>(M q I).2;obtain⟨a1,a2,a3,a4,a5,a6⟩:=ha;have hn:ac.nd.toNat<5:=by omega
 clear M;unfold Cl.QT at h⊢;rw[if_neg h1]at h⊢;by_cases O:ac.kd=2
 ·rw[if_pos O]at h⊢;refine zH (k:=0) (d:=0) (λq I=>by have:=vW (hQ q I) (h q I) (N q I) E;omega) (by decide) ?_;rw[aiM (.inl O)];have:({m with Ms:=m.Ms++[vY ac.nd ac.qu.toNat ac.op m.calls],calls:=m.calls+1}:Cl).c0<=m.c0+1:=by
   have:=afI (vY ac.nd ac.qu.toNat ac.op m.calls);unfold Cl.c0 Cl.ws;dsimp only;rw[u7,KL];omega
  have Z:({m with Ms:=m.Ms++[vY ac.nd ac.qu.toNat ac.op m.calls],calls:=m.calls+1}:Cl).Gp=m.Gp:=rfl;omega
 rw[if_neg O]at h⊢;by_cases h3:ac.kd=3
 ·rw[if_pos h3]at h⊢;exact Nat.le_trans (amf hQ h N hv J hn) (le_add_right _ _)
 rw[if_neg h3]at h⊢;by_cases h4:ac.kd=4\/ac.kd=5\/ac.kd=6
 ·rw[if_pos h4]at h⊢;refine zH (k:=0) (d:=0) (λq I=>by have:=vW (hQ q I) (h q I) (N q I) (TQ (hQ q I) J.mX (by omega)).2;omega) (by decide) ?_;have hc:=amd (w:=m) (at_:=ac.at_.toNat) (c:=decide (ac.kd≠5)) (s:=decide (ac.kd=6)) J.mX;have Z:(m.pick ac.at_.toNat (decide (ac.kd≠5)) (decide (ac.kd=6))).Gp=m.Gp:=Fv λj _=>by
   unfold Cl.pick
   split
   ·rfl
   dsimp only
   split
   ·rename_i l hl _
    obtain⟨ib,e⟩:=BH (if decide (ac.kd=6)=true then m else{m with Ms:=m.Ms.eraseIdx (ac.at_.toNat % m.Ms.length)}:Cl) l j;rw[e]
    split<;>rfl
   split<;>rfl
  by_cases h6:ac.kd=6
  ·rw[aiM (.inr (.inl h6))]
   split at hc<;>omega
  rw[if_neg (by simpa using h6)]at hc;omega
 rw[if_neg h4]at h⊢;by_cases h7:ac.kd=7
 ·rw[if_pos h7]at h⊢;refine zH (k:=0) (d:=0) (λq I=>by have:=vW (hQ q I) (h q I) (N q I) (Qm (hQ q I) J.mX (by omega)).2;omega) (by decide) ?_;have hc:=asq J.mX;have Z:m.all.Gp=m.Gp:=Fv λj _=>by obtain⟨ib,e⟩:=uE m j;rw[e]
  omega
 rw[if_neg h7]at h⊢;by_cases h8:ac.kd=8
 ·rw[if_pos h8]at h⊢;rw[aiM (.inr (.inr (.inl h8)))];exact ah0 hQ h N hv J hn a5.1
 rw[if_neg h8]at h⊢;by_cases h9:ac.kd=9
 ·rw[if_pos h9]at h⊢;exact Nat.le_trans (ah1 hQ h N J hn) (le_add_right _ _)
 rw[if_neg h9]at h⊢;rw[aiM (.inr (.inr (.inr (by omega))))];exact amg hQ h N J (by omega)
end
def oF(f:Ac->Nat):List Ac->Nat
 |[]=>0
 |a::l=>f a+oF f l
section
variable {m w m':Cl}{n q k B d:Nat}{l:bH}{p:bS}{g g':Gh}{G G':Nat->Gh}{b b':aU}{ac:Ac}{X:Nd}{rs us:List cO}
def Bf(f:Ac->Nat):∀(a b:List Ac),oF f (a++b)=oF f a+oF f b
 |[],b=>by simp[oF]
 |x::a,b=>by rw[cons_append,oF,oF,Bf f a b];omega
def Hr(h:X.Nf=λ_=>false){d:QK}:Hl X d:=λq _ hs=>by rw[h]at hs;cases hs
def asu{kk:Nat}(hQ:∀q,q<2-> ∃g,QI m q g)(hv:Vd m)(hB:Bs m kk)(ha:wX ac)(h1:ac.kd≠1)(h:Su m):Su (m.QT ac):=by
 obtain⟨a1,a2,a3,a4,a5,a6⟩:=ha;have hn:ac.nd.toNat<5:=by omega
 unfold Cl.QT;rw[if_neg h1]
 split
 ·exact⟨h.iK,h.two,h.WO⟩
 split
 ·exact Qw hQ hv hB hn h
 split
 ·unfold Cl.pick
  split
  ·exact h
  rename_i l hl
  have hs:Su (if decide (ac.kd=6)=true then m else{m with Ms:=m.Ms.eraseIdx (ac.at_.toNat % m.Ms.length)}:Cl):=by
   split
   ·exact h
   exact⟨h.iK,h.two,h.WO⟩
  dsimp only
  split
  ·exact aay hs (hv.Ms l (mem_of_getElem? hl))
  exact hs
 split
 ·exact WQ h hv
 split
 ·unfold Cl.Q0
  split
  ·exact h.at_ (n:=ac.nd.toNat) (λj hj=>Kg hj) E (by rw[aX];exact Hr E)
  exact h
 split
 ·rcases sZ (hB.iK _ hn)with⟨_,e⟩|⟨hu,rs,t,f,hd,e|⟨ws,e1,e2,e3,W,e5,e6,e7⟩⟩
  ·rw[e];exact h
  ·rw[e];exact h
  have eX:=W.ah;rw[aX]at eX;have eX2:=congrFun eX ac.nd.toNat;rw[Ee]at eX2;refine h.at_ (n:=ac.nd.toNat) (λj hj=>by rw[eX,Kg hj];exact Kg hj) W.off ?_;rw[eX2];exact Hr E
 unfold Cl.move
 split
 ·exact h
 split
 ·rename_i hg
  refine h.at_ (n:=(aJ m.off ac.qu.toNat).1.node.toNat) (λj hj=>Kg hj) E ?_;by_cases c:(aJ m.off ac.qu.toNat).1.node.toNat<5
  ·rw[show(m.ay (aJ m.off ac.qu.toNat).1.node.toNat ac.qu.toNat _).ah (aJ m.off ac.qu.toNat).1.node.toNat=_ from aX _];exact yI (h.iK _ c) E E λc2=>absurd c2 (by rw[aaK hg.1];decide)
  intro q hq hs hr
  exfalso
  have hw:(aJ m.off ac.qu.toNat).2=0:=Classical.byContradiction λe=>by rename_i h0;exact h0 (.inl e)
  have:=(nK (d:=m.off) (q:=ac.qu.toNat) (λe=>e hw)).1;omega
 exact h
def afJ:∀(l:List Ac) {m:Cl} {k:Nat} {G:Nat->Gh},(∀q,q<2->LW m q (G q) k)->Vd m->Bs m k->Su m->(∀a∈l,wX a/\a.kd≠1/\a.qu<2)->k+l.length<=540->
  ∃G':Nat->Gh,(∀q,q<2->LW (m.run l) q (G' q) (k+l.length))/\Vd (m.run l)/\Bs (m.run l) (k+l.length)/\Su (m.run l)/\YY (m.run l) G'<=YY m G+oF yA l/\(m.run l).cw+m.aS<=m.cw+(m.run l).aS+oF acW l/\(m.run l).tS<=m.tS+oF acS l
 |[],m,k,G,I,hv,h,J,_,_=>⟨G,I,hv,h,J,Nat.le_refl _,Nat.le_refl _,Nat.le_refl _⟩
 |a::l,m,k,G,I,hv,h,J,M,Z=>by
  rw[length_cons]at Z;obtain⟨a1,a2,a3⟩:=M a mem_cons_self;obtain⟨G1,h1,y1⟩:=asr I hv h a1 a2 a3 (by omega);obtain⟨c1,t1⟩:=amc h hv a1 a2;obtain⟨O,h2,v2,b2,s2,y2,c2,t2⟩:=afJ l h1 (Wx hv h a1 a2 a3) (yj h a1 (by omega)) (asu (λq hq=>⟨_,(I q hq).qi⟩) hv h a1 a2 J) (λx hx=>M x (mem_cons_of_mem _ hx)) (by omega);rw[length_cons,show k+(l.length+1)=k+1+l.length by omega];refine⟨O,h2,v2,b2,s2,?_,?_,?_⟩
  ·show YY ((m.QT a).run l) O<=_;rw[oF];omega
  ·show((m.QT a).run l).cw+_<=_+((m.QT a).run l).aS+_;rw[oF];omega
  show((m.QT a).run l).tS<=_;rw[oF];omega
def asv(I:QI m q g)(I':QI m q g')(h:g.m<=g'.m):g'.m=g.m:=by
 have h1:=I'.ru;have J:=I'.zS;have e:=I.top I'.o5 J (by omega);have M:=I.ru;rw[e]at h1;omega
def aaL(I:QI m q g)(I':QI m q g'):yq (vw m q) g'<=yq (vw m q) g:=by
 refine vW I I' ?_ E;by_cases c:g.m<=g'.m
 ·exact c
 have:=asv I' I (by omega);omega
def amh(h:∀q,q<2->QI m q (G q))(I:∀q,q<2->QI m q (G' q)):YY m G'<=YY m G:=by
 have J:=aaL (h 0 (by decide)) (I 0 (by decide));have h1:=aaL (h 1 (by decide)) (I 1 (by decide));unfold YY;omega
def ax2(R:Rm m G B):ZZ m (FF m G)+9<=8*YY m G+94+2*m.cw:=by
 have hst:m.ws (fI (FF m G))<=m.cw:=by
  have h1:∀l:bH,fI (FF m G) l<=Gc l:=λl=>by
   unfold fI Gc
   split
   ·rename_i c
    rw[if_pos (by omega)];exact Nat.le_refl _
   exact zero_le _
  have h:∀a:List bH,dF (fI (FF m G)) a<=oz a:=by
   intro a
   induction a with
   |nil=>exact Nat.le_refl _
   |cons l r ih=>have:=h1 l;rw[dF,oz];omega
  have h0:=h m.Ms;have i0:=h (m.ah 0).Md;have i1:=h (m.ah 1).Md;have i2:=h (m.ah 2).Md;have i3:=h (m.ah 3).Md;have i4:=h (m.ah 4).Md;unfold Cl.ws Cl.cw qM;omega
 have hc:m.ws bO<=m.c0:=by unfold Cl.c0;omega
 have O:(o5 λj=>rA (m.ah j).Mw)<=5:=by
  have h1:∀o:Option bS,rA o<=1:=λo=>by cases o<;>simp[rA]
  unfold o5;dsimp only;have i0:=h1 (m.ah 0).Mw;have i1:=h1 (m.ah 1).Mw;have i2:=h1 (m.ah 2).Mw;have i3:=h1 (m.ah 3).Mw;have i4:=h1 (m.ah 4).Mw;omega
 have hq:∀q,q<2->sH (FF m G q) (m.off.at q).Mc (vq m q)<=yq (vw m q) (G q)+5:=λq hq=>by
  have I:=R.qi q hq;have o5':=I.o5;have eo:(FF m G q).own (FF m G q).M=(G q).o:=rfl;have Z:∀n,n<5-> ∀p,(m.ah n).Mw=some p->p.q=q->Et (G q) (vw m q) n p:=λn hn p O hpq=>(I.lu n hn p (by unfold uz;rw[O];exact Gb hpq)).2;have J:∀n,n<5->qD (FF m G q) (vq m q) n<=yo (vw m q) (G q) n:=λn hn=>by
   unfold qD yo;rw[eo]
   split
   ·rename_i c
    obtain⟨c1,c2⟩:=c;unfold vq at c2
    cases O:(m.ah n).Mw with
    |none=>rw[jR O]at c2;rw[if_pos ⟨c1,by rw[gK (R.up n hn)];exact c2⟩];exact Nat.le_refl _
    |some p=>
     by_cases e:p.q=q
     ·have hk:=Z n hn p O e;rw[oU O e]at c2
      exfalso
      cases p with
      |serve k Gs op num a=>exact c1 hk.1
      |Ns k x=>obtain⟨j,j1,_⟩:=hk;have c3:x.Gq=3:=c2;rw[j1]at c3;exact absurd c3 (by show(4:Int)≠3;decide)
      |QU k x last=>
       have c3:x.Gq=3:=c2;obtain⟨k1,k2,k3⟩:=hk
       cases last with
       |true=>obtain⟨_,_,_,a4,_⟩:=k3 E;rw[a4]at c3;exact absurd c3 (by show(1:Int)≠3;decide)
       |false=>obtain⟨j,a1,_⟩:=k2 E;rw[a1]at c3;exact absurd (k1.symm.trans c3) (by decide)
      |fG k x a=>exact c1 hk.1
      |Ni k x=>obtain⟨_,j2,_⟩:=hk;have c3:x.Gq=3:=c2;rw[j2]at c3;exact absurd c3 (by show(0:Int)≠3;decide)
     rw[yu O e]at c2;rw[if_pos ⟨c1,by rw[gK (R.up n hn)];exact c2⟩];exact Nat.le_refl _
   exact zero_le _
  have hol:o5 (qD (FF m G q) (vq m q))<=o5 (yo (vw m q) (G q)):=by
   have:=J 0 (by decide);have:=J 1 (by decide);have:=J 2 (by decide);have:=J 3 (by decide);have:=J 4 (by decide);unfold o5;omega
  have hev:(vq m q (G q).o).Gs.length<=(G q).G.length+1:=by
   have uy:=I.uy;have ae:=gK (q:=q) (R.up _ o5');unfold vq
   cases O:(m.ah (G q).o).Mw with
   |none=>rw[jR O,<-ae,uy];exact le_succ _
   |some p=>
    by_cases e:p.q=q
    ·have hk:=Z _ o5' p O e;rw[oU O e];have zS:=I.zS
     cases p with
     |serve k Gs op num a=>obtain⟨_,_,k3,_⟩:=hk;show Gs.length<=_;rw[k3,length_append];exact Nat.le_refl _
     |Ns k x=>obtain⟨_,_,_,_,k4,_⟩:=hk;omega
     |QU k x last=>have:=hk.1;omega
     |fG k x a=>obtain⟨_,_,k3⟩:=hk;show x.Gs.length<=_;rw[k3];show(vw m q (G q).o).Gs.length<=_;rw[uy];exact le_succ _
     |Ni k x=>obtain⟨_,_,k3⟩:=hk;have:=I.ru;omega
    rw[yu O e,<-ae,uy];exact le_succ _
  have hd:Uh (FF m G q) (m.off.at q).Mc<=1:=by unfold Uh;split<;>omega
  have hR:(FF m G q).R=if (vw m q (G q).o).Gq=1 then 0 else 1:=rfl
  unfold sH pqR yq;rw[eo];by_cases c:(vw m q (G q).o).Gq=1
  ·rw[if_pos c]at hR;rw[if_neg (by omega),if_pos c];omega
  rw[if_neg c]at hR;rw[if_pos hR,if_neg c]
  split<;>omega
 have h0:=hq 0 (by decide);have h1:=hq 1 (by decide);unfold ZZ PP YY;omega
end
section
variable {m w m':Cl}{n q k B d:Nat}{g g':Gh}{G G':Nat->Gh}
def asw(dz:Cl)(n:Nat):dz.QT (IC 3 (n:Int))=dz.step n:=by
 unfold Cl.QT;rw[if_neg (by show(3:Int)≠1;decide),if_neg (by show(3:Int)≠2;decide),if_pos (show(IC 3 (n:Int)).kd=3 from E)];rfl
def ami(dz:Cl):dz.QT (IC 7 0)=dz.all:=by
 unfold Cl.QT;rw[if_neg (by show(7:Int)≠1;decide),if_neg (by show(7:Int)≠2;decide),if_neg (by show(7:Int)≠3;decide),if_neg (by show ¬((7:Int)=4\/(7:Int)=5\/(7:Int)=6);decide),if_pos (show(IC 7 0).kd=7 from E)]
def PK(dz:Cl):∀j,dz.run (steps j)=dz.cB j
 | 0=>rfl
 |j+1=>by
  rw[LV];unfold Cl.run;rw[foldl_append];have:=PK dz j;unfold Cl.run at this;rw[this]
  show Cl.QT (dz.cB j) (IC 3 (j:Int))=(dz.cB j).step j
  exact asw _ _
def KV(dz:Cl):∀r,dz.run (zk r)=dz.rs r
 | 0=>rfl
 |r+1=>by
  rw[Hg];have h1:=KV dz r;have h:=PK (dz.rs r) 5;unfold Cl.run at h1 h⊢;rw[foldl_append,foldl_append,h1,h]
  show Cl.QT ((dz.rs r).cB 5) (IC 7 0)=((dz.rs r).cB 5).all
  exact ami _
def afK:∀l:List Ac,Bb l=200+oF RQ l
 |[]=>rfl
 |a::l=>by rw[Bb,afK l,oF];omega
def Uy:∀l:List Ac,8*oF yA l+2*oF acW l+oF acS l<=oF RQ l+l.length
 |[]=>Nat.le_refl _
 |a::l=>by
  have h:=Uy l;have h1:8*yA a+2*acW a+acS a<=RQ a+1:=by
   unfold yA acW acS RQ
   split<;>split<;>split<;>split<;>omega
  rw[oF,oF,oF,oF,length_cons];omega
def ax3:Su kK:=by
 refine⟨λn _=>Hr ?_,E,E⟩
 show(Na (Na kM.ah 0 (l8 0)) 1 (l8 1) n).Nf=_
 unfold Na
 split
 ·rfl
 split<;>rfl
def anH(n:Nat):(kK.ah n).up=true/\((kK.ah n).Md=[]/\(kK.ah n).Mw=none)/\(kK.ah n).turn=0:=by
 show(Na (Na kM.ah 0 (l8 0)) 1 (l8 1) n).up=true/\((Na (Na kM.ah 0 (l8 0)) 1 (l8 1) n).Md=[]/\(Na (Na kM.ah 0 (l8 0)) 1 (l8 1) n).Mw=none)/\(Na (Na kM.ah 0 (l8 0)) 1 (l8 1) n).turn=0
 unfold Na
 split
 ·exact⟨E,⟨E,E⟩,E⟩
 split<;>exact⟨E,⟨E,E⟩,E⟩
def anI(Z:q<2):yq (vw kK q) (g0 q)=0:=by
 have I:=(aeg Z).qi;have ho:(g0 q).o=q:=rfl;have zS:=I.zS;have ru:=I.ru;have M:∀n,vw kK q n=(kK.ah n).bs q:=λn=>gK (anH n).1;have O:∀n,(kK.ah n).bs q=⟨1,1,0,0,0,[]⟩\/(kK.ah n).bs q=bF:=λn=>by
  show(Na (Na kM.ah 0 (l8 0)) 1 (l8 1) n).bs q=_\/(Na (Na kM.ah 0 (l8 0)) 1 (l8 1) n).bs q=_
  have mk:∀k,(l8 k).bs q=⟨1,1,0,0,0,[]⟩\/(l8 k).bs q=bF:=λk=>by
   show Na (λ_=>bF) k ⟨1,1,0,0,0,[]⟩ q=_\/Na (λ_=>bF) k ⟨1,1,0,0,0,[]⟩ q=_
   unfold Na
   split
   ·exact .inl E
   exact .inr E
  unfold Na
  split
  ·exact mk 1
  split
  ·exact mk 0
  exact .inr E
 have hr:(vw kK q (g0 q).o).Gq=1:=by
  rw[M]at zS⊢
  rcases O (g0 q).o with h|h
  ·rw[h]
  rw[h]at zS;exact absurd zS (by decide)
 have J:∀n,yo (vw kK q) (g0 q) n=0:=λn=>by
  unfold yo;rw[if_neg];rintro⟨_,c⟩;rw[M]at c
  rcases O n with h|h<;>rw[h]at c<;>exact absurd c (by decide)
 unfold yq o5;rw[J,J,J,J,J,if_pos hr];rfl
def amj:YY kK g0=0/\kK.cw=0/\kK.aS=0/\kK.tS=0:=by
 have v:=anH;refine⟨?_,?_,?_,?_⟩
 ·unfold YY Cl.c0 Cl.ws Cl.Gp o5;dsimp only;rw[anI (q:=0) (by decide),anI (q:=1) (by decide)];rw[(v 0).1,(v 1).1,(v 2).1,(v 3).1,(v 4).1,(v 0).2.1.1,(v 1).2.1.1,(v 2).2.1.1,(v 3).2.1.1,(v 4).2.1.1,(v 0).2.1.2,(v 1).2.1.2,(v 2).2.1.2,(v 3).2.1.2,(v 4).2.1.2];rfl
 ·unfold Cl.cw qM;rw[(v 0).2.1.1,(v 1).2.1.1,(v 2).2.1.1,(v 3).2.1.1,(v 4).2.1.1,(v 0).2.1.2,(v 1).2.1.2,(v 2).2.1.2,(v 3).2.1.2,(v 4).2.1.2];rfl
 ·unfold Cl.aS o5;dsimp only;rw[(v 0).2.2,(v 1).2.2,(v 2).2.2,(v 3).2.2,(v 4).2.2];rfl
 unfold Cl.tS o5;dsimp only;rw[(v 0).2.2,(v 1).2.2,(v 2).2.2,(v 3).2.2,(v 4).2.2]
def adZ{gs:List Gr}{M r:Nat}{cr:Bool}(h:M<=120)(hr:Bb (bQ gs M cr)<=r):∃G G',RD (kM.run (bQ gs M cr++starts 5)) (kM.run (kT (bQ gs M cr) r)) G G' 99954:=by
 have e:kM.run (bQ gs M cr++starts 5)=kK.run ((gs.take M).map (fF · cr)++starts 5):=by
  unfold bQ
  show Cl.run ((kM.QT (Sv 0 0)).QT (Sv 1 1)) (((gs.take M).map (fF · cr))++starts 5)=_
  rw[Wt,Wu]
 have hl:((gs.take M).map (fF · cr)).length<=M:=by rw[length_map,length_take];omega
 have hs5:(starts 5).length=5:=rfl;obtain⟨G0,k0,R,hb,_⟩:=VL (gs:=gs) (cr:=cr) h;have J:∀a∈(gs.take M).map (fF · cr)++starts 5,wX a/\a.kd≠1/\a.qu<2:=λa I=>by
  rcases mem_append.1 I with I|I
  ·obtain⟨g,_,rfl⟩:=mem_map.1 I;exact⟨RH (Ka g cr).1,(Ka g cr).2,anF g cr⟩
  obtain⟨n,hn,rfl⟩:=mem_map.1 I;rw[mem_range]at hn;obtain⟨f1,f2⟩:=Bc (k:=9) (n:=n) (.inl ⟨.inl E,by omega⟩);exact⟨RH f1,f2,by show(0:Int)<2;decide⟩
 obtain⟨G',hL,hv,hB,hS,y,c,t⟩:=afJ _ (k:=2) (G:=g0) (λq O=>aeg O) anl RI ax3 J (by rw[length_append];omega);obtain⟨z1,z2,z3,z4⟩:=amj;rw[<-e]at hL hv hB hS y c t;have hyy:=amh (G:=G') (G':=G0) (λq O=>(hL q O).qi) R.qi;have hz:=ax2 R;have I:=ax1 (m:=kM.run (bQ gs M cr++starts 5));have hsum:=Uy ((gs.take M).map (fF · cr));have s1:oF yA (starts 5)=0:=by decide
 have s2:oF acW (starts 5)=0:=by decide
 have s3:oF acS (starts 5)=0:=by decide
 rw[Bf,s1]at y;rw[Bf,s2]at c;rw[Bf,s3]at t;have hen:Bb (bQ gs M cr)=240+oF RQ ((gs.take M).map (fF · cr)):=by
  unfold bQ;rw[afK,Bf];have:oF RQ mks=40:=by decide
  omega
 obtain⟨G2,Z⟩:=aEG (by decide) R ⟨_,_,_,_,hb⟩ hS (T:=r) (by omega);have er:kM.run (kT (bQ gs M cr) r)=(kM.run (bQ gs M cr++starts 5)).rs r:=by
  rw[<-KV];unfold kT Cl.run;rw[foldl_append]
 rw[er];exact⟨G0,G2,Z⟩
def RD.fair(Z:RD m w G G' B)(hn:n<5)(hq:q<2):¬((vw w q n).Gq=2\/(vw w q n).Gq=3)/\((vw w q n).Gq=1->(w.off.at q).node=n/\(w.off.at q).Mc=(vw w q n).ep)/\((w.off.at q).node=n->(vw w q n).Gq=1):=by
 have I:=Z.rm.qi q hq;have hz:=Z.zz;have O:(o5 λj=>rA (w.ah j).Mw)=0:=by unfold ZZ at hz;omega
 have hP:sH (FF w G' q) (w.off.at q).Mc (vq w q)=0:=by
  have h01:q=0\/q=1:=by omega
  unfold ZZ PP at hz
  rcases h01 with rfl|rfl<;>omega
 have hp:∀j,j<5->(w.ah j).Mw=none:=λj J=>by
  have h0:rA (w.ah j).Mw=0:=by
   unfold o5 at O;dsimp only at O
   rcases five J with rfl|rfl|rfl|rfl|rfl<;>omega
  cases e:(w.ah j).Mw with
  |none=>rfl
  |some p=>rw[e]at h0;exact absurd h0 (by show(1:Nat)≠0;decide)
 have hvq:∀j,j<5->vq w q j=vw w q j:=λj J=>by unfold vq;rw[jR (hp j J),gK (Z.rm.up j J)]
 have hR:(vw w q (G' q).o).Gq=1:=Classical.byContradiction λc=>by
  have:(FF w G' q).R=1:=if_neg c;unfold sH pqR at hP;rw[if_pos this]at hP;omega
 have hd:(w.off.at q).Mc=((G' q).m:Int):=Classical.byContradiction λc=>by
  have:Uh (FF w G' q) (w.off.at q).Mc=1:=if_neg c;unfold sH at hP;omega
 have hol:∀j,j<5->j≠(G' q).o->(vw w q j).Gq≠3:=λj J hjo c=>by
  have h1:qD (FF w G' q) (vq w q) j=1:=if_pos ⟨hjo,by rw[hvq j J];exact c⟩;unfold sH o5 at hP
  rcases five J with rfl|rfl|rfl|rfl|rfl<;>omega
 obtain⟨d,d1,d2,d3⟩:=I.dir;have hdm:d=(G' q).m:=by rw[d1]at hd;dsimp only at hd;omega
 have M:(w.off.at q).node=(((G' q).o:Nat):Int):=by rw[d1,hdm];rfl
 have aEH:=I.ru;by_cases c:n=(G' q).o
 ·subst c;exact⟨by omega,λ_=>⟨M,by rw[hd,aEH]⟩,λ_=>hR⟩
 have h3:=hol n hn c;refine⟨?_,λh=>absurd (I.who hn (.inl h)) c,λh=>absurd (by omega) c⟩;rintro(h|h)
 ·exact c (I.who hn (.inr h))
 exact h3 h
end
section
variable {m w:Cl}{n q B k:Nat}{G G':Nat->Gh}
def aaM{m:Cl}(h:∀n,n<5->(m.ah n).up=true):∀j,j<=5->m.run (starts j)=m
 | 0,_=>rfl
 |j+1,hj=>by
  rw[BN];have e:=aaM h j (by omega);unfold Cl.run at e⊢;rw[foldl_append,e]
  show m.start j=m
  unfold Cl.start;rw[if_pos (h j (by omega))]
def RD.auth(Z:RD m w G G' B)(h:q<2):∃o,o<5/\(vw w q o).Gq=1/\(vw w q o).Gs.length<=300/\ ∀n,n<5->n≠o-> ¬qN (vw w q n):=by
 have I:=Z.rm.qi q h;have J:(G' q).o<5:=I.o5;obtain⟨a,b,c⟩:=Z.fair J h;have h1:(vw w q (G' q).o).Gq=1:=by
  have:=I.zS;have:(vw w q (G' q).o).Gq=1\/(vw w q (G' q).o).Gq=2\/(vw w q (G' q).o).Gq=3:=this;omega
 refine⟨_,J,h1,by have:=Z.rm.cap q h;have e:(vw w q (G' q).o).Gs=(G' q).G:=I.uy;rw[e];omega,λn hn M O=>?_⟩;obtain⟨a',b',c'⟩:=Z.fair hn h;have h2:(vw w q n).Gq=1:=by
  unfold qN Nl at O;omega
 have e1:=(b h1).1;have e2:=(b' h2).1;omega
def asx:∀ {d e:QK},d.at 0=e.at 0->d.at 1=e.at 1->d.at 2=e.at 2->d.at 3=e.at 3->d=e
 |⟨_,_,_,_⟩,⟨_,_,_,_⟩,rfl,rfl,rfl,rfl=>rfl
def ah2{gs:List Gr}{s F J:List Ac}(hs:s=bQ gs 80 true)(hF:F=kT s (Bb s))(hF2:J=kT F k):(kM.run J).off=(kM.run F).off/\(kM.run J).aP=(kM.run F).aP/\ ∀q,q<2-> ∃o,wm (kM.run F) q o/\wm (kM.run J) q o/\(((kM.run J).ah o).view q).Gs=(((kM.run F).ah o).view q).Gs/\(((kM.run F).ah o).view q).Gs.length<=300:=by
 subst hs hF hF2;obtain⟨G,G',Z⟩:=adZ (gs:=gs) (M:=80) (cr:=true) (by decide) (Nat.le_refl _);have e:kM.run (kT (kT (bQ gs 80 true) (Bb (bQ gs 80 true))) k)=(kM.run (kT (bQ gs 80 true) (Bb (bQ gs 80 true)))).rs k:=by
  generalize kT (bQ gs 80 true) (Bb (bQ gs 80 true))=F at Z⊢;have u:=aaM Z.rm.up 5 (Nat.le_refl _);rw[<-KV];unfold kT;unfold Cl.run at u⊢;rw[foldl_append,foldl_append,u]
 rw[e];generalize kM.run (kT (bQ gs 80 true) (Bb (bQ gs 80 true)))=w at Z⊢;obtain⟨G2,Z2,a,b,c⟩:=aaG (by decide) Z k;refine⟨asx (b 0 (by decide)) (b 1 (by decide)) (Z2.su.two.trans Z.su.two.symm) (Z2.su.WO.trans Z.su.WO.symm),a,λq hq=>?_⟩;obtain⟨o,O,hr,hl,ho⟩:=Z.auth hq;have hs:∀n,n<5->Sm (vw (w.rs k) q n) (vw w q n):=λn hn=>c n hn q;have ho2:∀n,n<5->n≠o-> ¬qN (vw (w.rs k) q n):=λn hn h I=>ho n hn h (by
  unfold qN Nl at I⊢;rw[<-(hs n hn).Gq];exact I)
 exact⟨o,⟨O,.inl (.inl hr),λn hn h I=>absurd I (ho n hn h)⟩,⟨O,.inl (.inl ((hs o O).Gq.trans hr)),λn hn h I=>absurd I (ho2 n hn h)⟩,(hs o O).Gs,hl⟩
end
def ah3{W:World}{v:Value}(h:QA prog W v 3):∃b:Int,v=.int .i64 b/\ -9223372036854775808<=b/\b<=9223372036854775807:=by
 obtain⟨⟨base,J⟩,l,I,M⟩:=h;rw[show flat prog 30 3=some [.at_ (.int .i64)]from kQ]at I
 cases I;obtain⟨b,rfl⟩:=okWide_int underlying3 J;obtain⟨z,O,hw⟩:=M.1
 cases O;exact⟨_,E,wf_i64 hw⟩
def Y9(gs:List Gr)(m:Nat)(cr:Bool)(r k:Nat):∀a∈kT (kT (bQ gs m cr) r) k,dD a=0:=by
 intro a h;generalize hf:kT (bQ gs m cr) r=F at h;unfold kT at h;rw[append_assoc]at h
 rcases mem_append.1 h with h|h
 ·exact Px gs m cr r a (hf▸h)
 exact(Pw k a h).1
def acE(W:World)(M:Uk W.heap.size W)(args:Array Value)(h:dZ (QA prog W) args.toList Tryz.f5.params.toList):
 Calls prog 5 args W λe W'=>e=.returned (.bool true)/\Below W.heap.size W W':=by
 rw[params5]at h;obtain⟨v,l1,hv,h1,O⟩:=dZ.xA h;obtain⟨v2,l2,Z,h2,I⟩:=dZ.xA O;have h4:=dZ.xO I;subst h4;obtain rfl:args= #[v,v2]:=by cases args;simp_all
 obtain⟨A,c,gs,rfl,hr,hg⟩:=ads h1;obtain⟨b,rfl,hb⟩:=ah3 h2;obtain⟨k,hk⟩:∃k:Nat,aW b 30=(k:Int):=Int.eq_ofNat_of_zero_le (mR (by decide)).1;have J:k<=30:=by have:=(mR (n:=b) (m:=30) (by decide)).2;omega
 have HP:=λw=>kS (n:=b) (m:=30) hb (by decide) w;rw[hk]at HP;have hsl:=Pt gs 80 true;have hen:=axZ gs (m:=80) (by decide) true;exact VK E E E J HP (by omega) hg (Px _ _ _ _) (Y9 _ _ _ _ _) (by omega) (by rw[Fp];omega) (by rw[Fp,Fp];omega) M hr (ah2 E E E)
end Go.Proofs.YtefabpdniidmbaaGreatDoor
