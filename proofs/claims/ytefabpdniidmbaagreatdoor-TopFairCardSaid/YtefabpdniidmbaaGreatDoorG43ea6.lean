import Derived.Test.YtefabpdniidmbaaGreatDoorG0524b
import Derived.Test.YtefabpdniidmbaaGreatDoorG3f78c
set_option linter.all false
set_option maxRecDepth 100000
set_option maxHeartbeats 8000000
namespace Go.Proofs.YtefabpdniidmbaaGreatDoor
open List Nat Go.Proofs.Tryz
open ChangeShapes WideShapes RowKit
structure Sm (b' b:aQ):Prop where
 role:b'.role=b.role
 ep:b'.ep=b.ep
 fr:b'.fr=b.fr
 tg:b'.tg=b.tg
 evs:b'.evs=b.evs
def Sm.refl (b:aQ):Sm b b:=⟨E,E,E,E,E⟩
def Sm.trans {a b c:aQ}(h:Sm a b)(I:Sm b c):Sm a c:=⟨h.role.trans I.role,h.ep.trans I.ep,h.fr.trans I.fr,h.tg.trans I.tg,h.evs.trans I.evs⟩
def afh (b:aQ)(n q:Nat)(x:bG):Prop:=x.kd=3/\x.fr=n/\x.tg=b.fr/\x.q=q/\x.ep=b.ep/\x.at_=b.evs.length
structure Uj (F:Wy)(b:aQ)(n:Nat)(l:bG)(fly:List bG):Prop where
 new:l.kd=2->(b.role=0\/b.role=4)->b.ep<l.ep->False
 off:l.kd=2->b.role=4->b.ep=l.ep->b.fr=l.fr-> ∃x∈fly,afh b n l.q x
 hav:l.kd=3->(b.role=2\/b.role=3)->b.tg=l.fr->b.ep+1=l.ep->0<=l.at_/\l.at_<=b.evs.length->(b.role=3\/l.at_<b.evs.length)/\ ∃x∈fly,PartOf b n l.q l.at_ x
 prt:l.kd=4->F.R=1->(n:Int)=F.tg->l.ep=F.M+1->b.role=4->b.fr=l.fr->b.ep=l.ep->l.at_=b.evs.length->(l.evs≠[]\/l.last=true)->False
 lrn:l.kd=6->b.role=3->b.ep<l.ep->False
section
variable {m w m':Cl}{n q B:Nat}{l:bG}{p:bO}{G G':Nat->Gh}{g g':Gh}{rs us:List cB}{F:Wy}{b b':aQ}{fl RI:List bG}
def Uj.mono (h:Uj F b n l fl)(M:∀x∈fl,x∈RI):Uj F b n l RI:=
 ⟨h.new,λa b c d=>by obtain⟨x,I,J⟩:=h.off a b c d;exact⟨x,M x I,J⟩,λa b c d e=>by obtain⟨y,x,I,J⟩:=h.hav a b c d e;exact⟨y,x,M x I,J⟩,h.prt,h.lrn⟩
def Uj.sm (h:Uj F b n l fl)(s:Sm b b'):Uj F b' n l fl:=by
 refine⟨λa c d=>h.new a (by rw[s.role];exact c) (by rw[s.ep];exact d),λa c d e=>?_,λa c d e f=>?_,λa c d e f i j k u=>h.prt a c d e (by rw[s.role];exact f) (by rw[s.fr];exact i) (by rw[s.ep];exact j) (by rw[s.evs];exact k) u,λa c d=>h.lrn a (by rw[s.role];exact c) (by rw[s.ep];exact d)⟩
 ·obtain⟨x,J,I⟩:=h.off a (by rw[s.role];exact c) (by rw[s.ep];exact d) (by rw[s.fr];exact e);unfold afh at I;rw[s.fr,s.ep,s.evs]at I;exact⟨x,J,I⟩
 obtain⟨y,x,J,I⟩:=h.hav a (by rw[s.role];exact c) (by rw[s.tg];exact d) (by rw[s.ep];exact e) (by rw[s.evs];exact f);unfold PartOf at I;rw[s.tg,s.ep,s.evs,s.role]at I;rw[s.role,s.evs]at y;exact⟨y,x,J,I⟩
def WE (H:Hnd m n l m')(q:Nat):Sm ((m'.ah n).bs q) ((m.ah n).bs q):=by
 cases H with
 |same=>exact .refl _
 |done a h1 I=>rw[(uO (m:=m)).2.1];exact .refl _
 |have_ h1=>exact .refl _
 |part b h1 I J h M O=>
  obtain⟨Z,g2,g3⟩:=pW (m:=m.aA n l.q b) (n:=n) (q:=l.q) (a:=l.at_);rw[g2,show(m.aA n l.q b).ah n=(m.ah n).aA l.q b from aW _];by_cases e:q=l.q
  ·rw[e,show((m.ah n).aA l.q b).bs l.q=b from upd_same _ _ _]
   rcases h with⟨_,h,_⟩|⟨_,h⟩<;>rw[h]<;>exact⟨E,E,E,E,E⟩
  rw[show((m.ah n).aA l.q b).bs q=(m.ah n).bs q from upd_ne e];exact .refl _
 |pend p dB d h1 I J h M=>
  rw[aW]
  rcases h1 with h1|⟨_,h1⟩<;>rw[h1]<;>exact .refl _
 |hear h1=>rw[aW];exact .refl _
def alE (R:Rmc m G B (tZ (FF m G) l) (bM l))(hB:B+46<=100000)(hn:n<5)(hU:oq (m.ah n) rs [])(hp:(m.ah n).pend=none)(hL:Ed (G l.q) (vw m l.q) (m.off.at l.q) l)(hlq:l.q<2)(hq:((m.handle n l).ah n).pend=none):
  Uj (FF m G l.q) ((m.ah n).bs l.q) n l (m.handle n l).fly:=by
 have hu:=R.up n hn;have I:=R.qi _ hlq;have hV:=gT (q:=l.q) hu;have hcap:=R.cap _ hlq;have hM:=I.aia;have Z:=R.F5 n hn;have hd:(m.ah n).data.length+46<=100000:=by unfold F5 at Z;omega
 have hb:=hU.kX l.q (by omega);have hoff:l.kd=2->(1<=l.ep/\l.ep<=1048576)/\(0<=l.fr/\l.fr<=4):=λJ=>by
  obtain⟨k,k1,k2,k3,k4⟩:=hL.1 J;have:=I.ab2 k k2 k3;omega
 refine⟨λJ O he=>?_,λJ O he hf=>?_,λJ O ht he ha=>?_,λJ hR ht he O hf hbe ha hne=>?_,λJ O he=>?_⟩
 ·obtain⟨h1,h2⟩:=hoff J;exact VA J hU (by omega) O he h1 h2 hd hq
 ·obtain⟨h1,h2⟩:=hoff J;rw[VB J hb O he hf h1 h2];exact⟨oh n l.q ((m.ah n).bs l.q),mem_append_right _ (mem_singleton.2 E),E,E,E,E,E,E⟩
 ·rcases arL J hU (by omega) O ht he ha hd with h|h
  ·exact absurd hq h
  exact h
 ·obtain⟨k,k1,k2,k3,k4,k5,k6,k7,k8⟩:=hL.2.1 J;have hm:(FF m G l.q).M=(G l.q).m:=rfl;have hkm:k=(G l.q).m:=by omega
  subst hkm;have hbd:(G l.q).bd (G l.q).m=(G l.q).G.length:=if_pos E;rw[hbd]at k7;have hno:n≠(G l.q).o:=I.oH (.inr (by rw[hV];exact O));have hev:((m.ah n).bs l.q).evs=(G l.q).G.take ((m.ah n).bs l.q).evs.length:=by
   rcases I.mV n hn hno with⟨h5,_⟩|⟨_,h5,_⟩|⟨k',_,h2,h3,h4,_,h6,_⟩
   ·rw[hV]at h5;omega
   ·rw[hV]at h5;omega
   rw[hV]at h6;exact h6
  have hlen:((m.ah n).bs l.q).evs.length<=(G l.q).G.length:=by have:=congrArg length hev;rw[length_take]at this;omega
  have hlast:l.last=true->l.at_.toNat+l.evs.length=(G l.q).G.length:=λh=>by
   rcases k8 h with⟨h1,_⟩|⟨_,_,_,h1⟩
   ·omega
   exact h1
  refine arM (G:=(G l.q).G) J hU (by omega) O hf hbe ⟨by omega,by omega⟩ hev k6 k7 ?_ hlast I.gd (Ui I.gd (by omega)) ?_ hq
  ·rcases hne with h|h
   ·left
    have:=length_pos_iff.2 h;omega
   exact .inr h
  have hfi:46*(302-((m.ah n).bs l.q).evs.length)<=fi (FF m G l.q) n (qF (m.ah n) l.q):=by
   rw[jO hp];unfold fi Wp;rw[if_pos ⟨hR,ht⟩,if_pos (by omega)];omega
  have h01:l.q=0\/l.q=1:=by omega
  unfold F5 at Z
  rcases h01 with e|e<;>rw[e]at hfi hcap hR hlen⊢ <;>omega
 exact alC J hU (by omega) O he hd hq
end
def aan (b:aQ)(n q:Nat)(x:bG):Prop:=x.kd=2/\x.fr=n/\x.tg=b.tg/\x.q=q/\x.ep=b.ep+1
def afi (b:aQ)(n q:Nat)(x:bG):Prop:=x.kd=5/\x.fr=n/\x.tg= -2/\x.q=q/\x.ep=b.ep-1/\x.nd=n
structure Dut (b:aQ)(d:Int)(n q:Nat)(fly:List bG):Prop where
 off:b.role=2\/b.role=3-> ∃x∈fly,aan b n q x
 ask:b.role=3->Ow n q∈fly
 flp:b.role=1->1<b.ep-> ¬b.ep<=d-> ∃x∈fly,afi b n q x
section
variable {m w m':Cl}{n q B:Nat}{l:bG}{p:bO}{G G':Nat->Gh}{g g':Gh}{rs us:List cB}{F:Wy}{b b':aQ}{d:Int}{fl RI:List bG}
def Dut.mono (h:Dut b d n q fl)(I:∀x∈fl,x∈RI):Dut b d n q RI:=
 ⟨λa=>by obtain⟨x,J,M⟩:=h.off a;exact⟨x,I x J,M⟩,λa=>I _ (h.ask a),λa b c=>by obtain⟨x,J,M⟩:=h.flp a b c;exact⟨x,I x J,M⟩⟩
structure QS (m m':Cl)(F:Nat->Wy)(n:Nat):Prop where
 dO:m'.ws bM+dI bM (m.ah n).inbox<=m.ws bM
 Xz:m'.ws (fI F)+dI (fI F) (m.ah n).inbox<=m.ws (fI F)
 bs:∀q,Sm ((m'.ah n).bs q) ((m.ah n).bs q)
 FJ:(m'.ah n).turn=(m.ah n).turn+1
 iO:(m'.ah n).inbox=[]
 fly:∀x∈m.fly,x∈m'.fly
 rep:∀l∈(m.ah n).inbox,Uj (F l.q) ((m.ah n).bs l.q) n l m'.fly
 dut:(m.ah n).turn % 4<2->Dut ((m.ah n).bs ((m.ah n).turn % 4)) (m.off.at ((m.ah n).turn % 4)).epoch n ((m.ah n).turn % 4) m'.fly
def Ul:∀(k:Nat) (w:Cl),(w.ah n).inbox.length=k->(∀l∈(w.ah n).inbox,l.q<4)->((w.more n).ah n).pend=none->((w.more n).ah n).inbox=[]
 | 0,w,I,_,_=>by rw[Kk (length_eq_zero_iff.1 I)];exact length_eq_zero_iff.1 I
 |k+1,w,I,hi,hp=>by
  cases h:(w.ah n).inbox with
  |nil=>rw[h]at I;simp at I
  |cons l r=>
   have M:=hi l (by rw[h];exact mem_cons_self);by_cases J:(w.ah n).pend=none
   ·rw[GJ J h M]at hp⊢;have e:=(jV (m:=w.put n ((w.ah n).box r)) (n:=n) (l:=l) M).iO;rw[aW]at e;have O:(((w.put n ((w.ah n).box r)).handle n l).ah n).inbox=r:=e;refine Ul k _ (by rw[O];rw[h]at I;simpa using I) (λx Z=>?_) hp;rw[O]at Z;exact hi x (by rw[h];exact mem_cons_of_mem _ Z)
   rw[BU J]at hp;exact absurd hp J
def alF (R:Rmc m G B (tZ (FF m G) l) (bM l))(hn:n<5)(hp:(m.ah n).pend=none)(M:l.q<2)(H:Hnd m n l m'):∃new,m'.fly=m.fly++new/\ ∀x∈new,bM x=0/\fI (FF m G) x=0:=by
 have hu:=R.up n hn;obtain⟨new,hf,h⟩:=Jp hu H;obtain⟨new2,J,I⟩:=Kz H;have en:new2=new:=append_cancel_left (J.symm.trans hf);subst en;refine⟨new2,J,λx O=>⟨rZ (h x O).1,?_⟩⟩;obtain⟨h1,h2⟩:=h x O;by_cases h4:x.kd=4
 ·obtain⟨h5,h6,h7,h8⟩:=h2 h4;refine Dc (.inr ?_);rw[h5];have Z:=gT (q:=l.q) hu;exact uP (R.qi _ M) hn (by rw[Z];exact h6) (by rw[Z];exact h7) (by rw[Z];exact h8)
 exact Dc (.inl ⟨I x O,h4⟩)
def Um (hn:n<5):(m.jU n).ws bM<=m.ws bM:=by
 have I:(m.jU n).ah=upd m.ah n {m.ah n with turn:=(m.ah n).turn+1}:=rfl;refine oI hn (λj M=>by rw[I,upd_ne M]) (by rw[I,upd_same]) E λx h=>?_;have J:∀y:bG,y.kd≠0->bM y=0:=λy O=>rZ O;unfold fV at h
 rcases mem_append.1 h with h|h
 ·rcases mem_append.1 h with h|h
  ·split at h
   ·rw[mem_singleton]at h;subst h;exact J _ (by show(2:Int)≠0;decide)
   simp at h
  split at h
  ·rw[mem_singleton]at h;subst h;exact J _ (by show(5:Int)≠0;decide)
  simp at h
 split at h
 ·rw[mem_singleton]at h;subst h;exact J _ (by show(5:Int)≠0;decide)
 simp at h
def alG {r:List bG}(R:Rm w G B)(hn:n<5)(J:(w.ah n).inbox=l::r):Rmc (w.put n ((w.ah n).box r)) G B (tZ (FF (w.put n ((w.ah n).box r)) G) l) (bM l)/\FF (w.put n ((w.ah n).box r)) G=FF w G/\(∀q,vw (w.put n ((w.ah n).box r)) q=vw w q):=by
 have I:(w.put n ((w.ah n).box r)).ah=upd w.ah n ((w.ah n).box r):=rfl;have e0:(w.put n ((w.ah n).box r)).ah n=(w.ah n).box r:=aW _;have h:∀j,j≠n->(w.put n ((w.ah n).box r)).ah j=w.ah j:=λj M=>upd_ne M;have O:∀q,vw (w.put n ((w.ah n).box r)) q=vw w q:=λq=>mJ I E;have Z:FF (w.put n ((w.ah n).box r)) G=FF w G:=by funext q;exact JR (.refl _) (by rw[O]) (by rw[O])
 have hws:∀f:bG->Nat,(w.put n ((w.ah n).box r)).ws f+f l<=w.ws f:=λf=>FW hn (λj M=>by rw[h j M]) (by
  rw[e0,J]
  show dI f w.fly+dI f r+f l<=dI f w.fly+(f l+dI f r)
  omega)
 refine⟨⟨λj M=>?_,R.vd.at_ (n:=n) (X:=(w.ah n).box r) E (λq h7 h8=>R.vd.rol n hn q h7 h8) (R.vd.lF n hn) (λx hx=>R.vd.iO n hn x (by rw[J];exact mem_cons_of_mem _ hx)) (λx hx=>.inl hx),λq hq=>?_,λj M=>?_,λq hq=>?_⟩,Z,O⟩
 ·by_cases e:j=n
  ·rw[e,e0];exact R.up n hn
  rw[h j e];exact R.up j M
 ·exact(R.qi q hq).far hn I E E E (λx hx=>by rw[J];exact mem_cons_of_mem _ hx) (λx hx=>.inl hx) E E E
 ·have h5:=R.F5 j M;have h6:=hws (tZ (FF w G));unfold F5 at h5⊢;rw[Z];by_cases e:j=n
  ·rw[e]at h5⊢;rw[e0];have e1:∀q,qF ((w.ah n).box r) q=qF (w.ah n) q:=λ_=>E;have e2:((w.ah n).box r).data=(w.ah n).data:=rfl;rw[e1,e1,e2];omega
  rw[h j e];omega
 have h5:=R.cap q hq;have h6:=Db (d:=bM l) (d':=bM l) hn h (hws bM) (by rw[e0];show yD (w.ah n).pend+_<=_;omega);rw[Z];omega
def quiet_step {T S dV K:Nat}(R:Rm m G B)(hB:B+46<=100000)(hb:bY m T S dV K)(hn:n<5)(hS:Su (m.step n))(hp:(m.ah n).pend=none)(hp':((m.step n).ah n).pend=none):QS m (m.step n) (FF m G) n:=by
 have hu:=R.up n hn;obtain⟨rs,us,hU⟩:=(hb.iE n hn).sG hu;have key:=qy (n:=n) (λw=>Ru m n rs w/\(∃G1,Rm w G1 B/\ ∀q,q<2->FF w G1 q=FF m G q)/\(∀q,Sm ((w.ah n).bs q) ((m.ah n).bs q))/\(∀x∈m.fly,x∈w.fly)/\(w.ws bM+dI bM (m.ah n).inbox<=m.ws bM+dI bM (w.ah n).inbox/\w.ws (fI (FF m G))+dI (fI (FF m G)) (m.ah n).inbox<=m.ws (fI (FF m G))+dI (fI (FF m G)) (w.ah n).inbox)/\
   ((w.ah n).pend=none-> ∀l∈(m.ah n).inbox,l∈(w.ah n).inbox\/Uj (FF m G l.q) ((m.ah n).bs l.q) n l w.fly)) (λw l r ⟨H,⟨G1,R1,F1⟩,A,Af,⟨Ac,As⟩,Ar⟩ M J=>by
  obtain⟨h1,h2,h3,h4⟩:=qz (λl hl=>l9 (hb.iO n hn l hl)) H M J;have hl0:l∈(w.ah n).inbox:=by rw[J];simp
  obtain⟨b1,b2⟩:=hb.iO n hn l (H.iO l hl0);have O:=R1.vd.iO n hn l hl0;have e0:(w.put n ((w.ah n).box r)).ah n=(w.ah n).box r:=aW _;obtain⟨R2,hF1,hvw⟩:=alG R1 hn J;have hL:∀q,q<2->l.q=q->Ed (G1 q) (vw (w.put n ((w.ah n).box r)) q) (w.off.at q) l:=λq hq aoG=>by rw[hvw];exact(R1.qi q hq).mR l ⟨aoG,.inr ⟨n,hn,hl0⟩⟩
  obtain⟨G2,R3,F2⟩:=afe R2 hB hn h2 (by rw[e0];exact M) hL b2 b1.2.1 b1.2.2.2 O (jV h1.1) h3;have Z:∀x∈w.fly,x∈((w.put n ((w.ah n).box r)).handle n l).fly:=λx I=>by
   obtain⟨new,hf,_⟩:=Kz h3;rw[hf];exact mem_append_left _ I
  have au6:∀q,Sm (((w.put n ((w.ah n).box r)).ah n).bs q) ((m.ah n).bs q):=λq=>by rw[e0];exact A q
  refine⟨h1.1,h4,⟨G2,R3,λq hq=>by rw[F2 q hq,hF1];exact F1 q hq⟩,λq=>(WE h3 q).trans (au6 q),λx I=>Z x (Af x I),?_,λhpe x I=>?_⟩
  ·obtain⟨new,hf,hnw⟩:=alF R2 hn (by rw[e0];exact M) O h3;have lH:=jV (m:=w.put n ((w.ah n).box r)) (n:=n) (l:=l) h1.1;have hi2:(((w.put n ((w.ah n).box r)).handle n l).ah n).inbox=r:=by rw[lH.iO,e0];rfl
   have hoth:∀j,j≠n->(w.put n ((w.ah n).box r)).ah j=w.ah j:=λj hj=>upd_ne hj;have hws:∀f:bG->Nat,(w.put n ((w.ah n).box r)).ws f+f l<=w.ws f:=λf=>FW hn (λj hj=>by rw[hoth j hj]) (by
    rw[e0,J]
    show dI f w.fly+dI f r+f l<=dI f w.fly+(f l+dI f r)
    omega)
   have c1:=oI (f:=bM) hn lH.mV lH.iO hf λx I=>(hnw x I).1;have c2:=oI (f:=fI (FF m G)) hn lH.mV lH.iO hf λx I=>by
    have:=(hnw x I).2;have hxq:x.q<2:=R3.vd.fly x (by rw[hf];exact mem_append_right _ I);rw[hF1]at this;unfold fI at this⊢;rw[<-F1 _ hxq];exact this
   have h5:=hws bM;have h6:=hws (fI (FF m G));rw[hi2];rw[J,dI]at Ac As;exact⟨by omega,by omega⟩
  rcases Ar M x I with I|I
  ·rw[J]at I
   rcases mem_cons.1 I with I|I
   ·subst I
    right
    have:=alE R2 hB hn h2 (by rw[e0];exact M) (hL _ O E) O hpe;rw[hF1,F1 _ O]at this;exact this.sm (au6 _)
   left
   have e:=(jV (m:=w.put n ((w.ah n).box r)) (n:=n) (l:=l) h1.1).iO;rw[e0]at e;rw[e];exact I
  exact .inr (I.mono Z)) _ m E ⟨C8 hu ⟨_,hU⟩,⟨G,R,λ_ _=>E⟩,λ_=>.refl _,λ_ h=>h,⟨Nat.le_refl _,Nat.le_refl _⟩,λ_ l hl=>.inl hl⟩
 obtain⟨H,⟨G1,R1,F1⟩,A,Af,⟨Ac,As⟩,Ar⟩:=key;rw[jq hu hp]at hp' hS⊢;by_cases c:((m.more n).ah n).pend=none
 ·rw[if_pos c]at hp' hS⊢;have hi0:=Ul (n:=n) _ m E (λl hl=>(hb.iO n hn l hl).1.1) c;have e1:((m.more n).jU n).ah n={ (m.more n).ah n with turn:=((m.more n).ah n).turn+1}:=by
   show upd (m.more n).ah n _ n=_
   exact upd_same _ _ _
  have htr:=H.FJ;have Z:∀x∈(m.more n).fly,x∈((m.more n).jU n).fly:=λx I=>mem_append_left _ I;have hdc:=Um (m:=m.more n) hn;have hds:=(aai R1 hn).1;have hcg:((m.more n).jU n).ws (fI (FF m G))<=(m.more n).ws (fI (FF m G)):=by
   obtain⟨_,c2,_⟩:=mO (Qk R1.vd hn (R1.up n hn)) F1;obtain⟨_,c3,_⟩:=mO R1.vd F1;omega
  rw[hi0,dI]at Ac As;refine⟨by omega,by omega,λq=>by rw[e1];exact A q,by rw[e1];show((m.more n).ah n).turn+1=_;rw[htr],by rw[e1];exact hi0,λx I=>Z x (Af x I),λl hl=>?_,λh4=>?_⟩
  ·rcases Ar c l hl with h|h
   ·rw[hi0]at h;cases h
   exact h.mono Z
  have hA:=A ((m.ah n).turn % 4);have hsu:=hS.iE n hn ((m.ah n).turn % 4) h4;rw[e1]at hsu;have hoff:((m.more n).jU n).off=m.off:=H.keep.off;rw[hoff]at hsu;have hm:∀x,x∈fV n ((m.ah n).turn % 4) (((m.more n).ah n).bs ((m.ah n).turn % 4)) (((m.more n).ah n).sure ((m.ah n).turn % 4))->x∈((m.more n).jU n).fly:=λx I=>by
   show x∈(m.more n).fly++fV n (((m.more n).ah n).turn % 4) (((m.more n).ah n).bs (((m.more n).ah n).turn % 4)) (((m.more n).ah n).sure (((m.more n).ah n).turn % 4))
   rw[htr];exact mem_append_right _ I
  refine⟨λhr=>⟨_,hm _ (mem_append_left _ (mem_append_left _ (by rw[if_pos (by rw[hA.role];exact hr)];exact mem_singleton.2 E))),E,E,hA.tg,E,by show _+1=_;rw[hA.ep]⟩,λhr=>hm _ (mem_append_left _ (mem_append_right _ (by rw[if_pos (by rw[hA.role];exact hr)];exact mem_singleton.2 E))),λhr he hd=>?_⟩;have hns:((m.more n).ah n).sure ((m.ah n).turn % 4)=false:=by
   cases hs:((m.more n).ah n).sure ((m.ah n).turn % 4)with
   |false=>rfl
   |true=>
    have h5:(((m.more n).ah n).bs ((m.ah n).turn % 4)).ep<=_:=hsu hs (by show(((m.more n).ah n).bs _).role=1;rw[hA.role];exact hr);rw[hA.ep]at h5;exact absurd h5 hd
  exact⟨_,hm _ (mem_append_right _ (by rw[if_pos ⟨by rw[hA.role];exact hr,by rw[hA.ep];exact he,hns⟩];exact mem_singleton.2 E)),E,E,E,E,by show _-1=_;rw[hA.ep],E⟩
 rw[if_neg c]at hp';exact absurd hp' c
end
structure Dk (d:Dir):Prop where
 pl:∀q,q<2->0<=(d.at q).node/\(d.at q).node<=4/\1<=(d.at q).epoch/\(d.at q).epoch<=1048576
 two:d.at 2=nowhere
 tre:d.at 3=nowhere
def Jr (p p':Pl):Prop:=p'=p\/p.epoch<p'.epoch
section
variable {m w m':Cl}{n q B:Nat}{l x:bG}{p:bO}{G G':Nat->Gh}{g g':Gh}{rs us:List cB}{F:Wy}{b b':aQ}{d d':Dir}{fl RI:List bG}
def Jr.trans {a b c:Pl}(h:Jr a b)(I:Jr b c):Jr a c:=by
 rcases h with h|h
 ·subst h;exact I
 rcases I with I|I
 ·subst I;exact .inr h
 exact .inr (Int.lt_trans h I)
def Jr.ep {a b:Pl}(h:Jr a b):a.epoch<=b.epoch:=by
 rcases h with h|h
 ·subst h;exact Int.le_refl _
 exact Int.le_of_lt h
def Dk.ok (h:Dk d):gH d=0:=Bu λk J=>by
 have I:k=0\/k=1\/k=2\/k=3:=by omega
 rcases I with rfl|rfl|rfl|rfl
 ·exact .inr (h.pl 0 (by decide))
 ·exact .inr (h.pl 1 (by decide))
 ·rw[h.two];exact .inl ⟨E,E⟩
 rw[h.tre];exact .inl ⟨E,E⟩
def Dk.whr (h:Dk d)(I:q<2):aI d q=(d.at q,0):=by
 have h1:=h.pl q I;have e:((q:Nat):Int).toNat=q:=Int.toNat_natCast q;have:=Ig (d:=d) (q:=(q:Int)) h.ok (by omega) (λc=>by rw[e]at c;rw[c]at h1;exact absurd h1.1 (by decide));rw[e]at this;exact this
def aaq (h:Dk d)(I:l.q<2):Dk (dG d l)/\(∀q,q<2->Jr (d.at q) ((dG d l).at q))/\(0<=l.nd->l.nd<=4->(d.at l.q).epoch=l.ep->(d.at l.q).node≠l.nd->l.ep≠1048576->(d.at l.q).epoch< ((dG d l).at l.q).epoch):=by
 unfold dG;by_cases c:0<=l.nd/\(vP d l.q l.ep l.nd).2=0
 ·rw[if_pos c];obtain⟨c0,c1⟩:=c;obtain⟨O,Z,f3,J,f5⟩:=Jg c1;have hne:l.ep≠1048576:=λe=>by
   unfold vP at c1;rw[if_neg (λk=>k O),if_neg (by omega),if_neg (λk=>k J)]at c1
   split at c1
   ·exact absurd c1 (by decide)
   first|exact absurd c1 (by decide)|(rw[if_pos e]at c1;exact absurd c1 (by decide))
  rw[h.whr I]at J;have h1:=h.pl _ I;rw[f5];dsimp only;rw[Int.toNat_natCast];dsimp only at J;refine⟨⟨λk M=>?_,?_,?_⟩,λk M=>?_,λ_ _ _ _ _=>?_⟩
  ·rw[nJ (by omega) (by omega)]
   split
   ·exact⟨Z,f3,by show 1<=l.ep+1;omega,by show l.ep+1<=_;omega⟩
   exact h.pl k M
  ·rw[nJ (by omega) (by decide),if_neg (by omega)];exact h.two
  ·rw[nJ (by omega) (by decide),if_neg (by omega)];exact h.tre
  ·rw[nJ (by omega) (by omega)]
   split
   ·rename_i e
    subst e;exact .inr (by show _<l.ep+1;omega)
   exact .inl E
  rw[nJ (by omega) (by omega),if_pos E]
  show _<l.ep+1
  omega
 rw[if_neg c];refine⟨h,λ_ _=>.inl E,λa1 a2 a3 a4 a5=>absurd ⟨a1,?_⟩ c⟩;unfold vP;rw[h.whr I];dsimp only;rw[if_neg (λk=>k E),if_neg (by omega),if_neg (λk=>k a3),if_neg a4,if_neg a5]
def aar (h:Dk w.off)(O:l.q<2):Dk (w.come l).off/\(∀q,q<2->Jr (w.off.at q) ((w.come l).off.at q))/\(∀x∈w.fly,x∈(w.come l).fly)/\(∀j,∀x∈(w.ah j).inbox,x∈((w.come l).ah j).inbox):=by
 obtain⟨I,J,_⟩:=aaq h O;unfold Cl.come
 split
 ·exact⟨h,λ_ _=>.inl E,λ_ h=>h,λ_ _ h=>h⟩
 split
 ·split
  ·exact⟨I,J,λ_ h=>mem_append_left _ h,λ_ _ h=>h⟩
  exact⟨I,J,λ_ h=>h,λ_ _ h=>h⟩
 split
 ·refine⟨h,λ_ _=>.inl E,λ_ h=>h,λj x M=>?_⟩;by_cases e:j=l.tg.toNat
  ·subst e;rw[aW];exact mem_append_left _ M
  rw[show ∀X,(w.put l.tg.toNat X).ah j=w.ah j from λX=>upd_ne e];exact M
 exact⟨h,λ_ _=>.inl E,λ_ h=>h,λ_ _ h=>h⟩
def Un:∀(ls:List bG) {w:Cl},Dk w.off->(∀l∈ls,l.q<2)->Dk (ls.foldl Cl.come w).off/\(∀q,q<2->Jr (w.off.at q) ((ls.foldl Cl.come w).off.at q))/\(∀x∈w.fly,x∈(ls.foldl Cl.come w).fly)/\(∀j,∀x∈(w.ah j).inbox,x∈((ls.foldl Cl.come w).ah j).inbox)
 |[],w,h,_=>⟨h,λ_ _=>.inl E,λ_ h=>h,λ_ _ h=>h⟩
 |l::ls,w,h,J=>by
  obtain⟨a1,a2,a3,a4⟩:=aar h (J l mem_cons_self);obtain⟨b1,b2,b3,b4⟩:=Un ls a1 λx I=>J x (mem_cons_of_mem _ I);rw[foldl_cons];exact⟨b1,λq M=>(a2 q M).trans (b2 q M),λx I=>b3 x (a3 x I),λj x I=>b4 j x (a4 j x I)⟩
structure Arr (d:Dir)(x:bG)(m':Cl):Prop where
 iE:0<=x.tg->x∈(m'.ah x.tg.toNat).inbox
 ask:x.tg= -2-> ∃y∈m'.fly,y.kd=6/\y.tg=x.fr/\y.q=x.q/\(d.at x.q).epoch<=y.ep
 flp:x.tg= -2->0<=x.nd->x.nd<=4->(d.at x.q).epoch=x.ep->(d.at x.q).node≠x.nd->x.ep≠1048576->(d.at x.q).epoch< (m'.off.at x.q).epoch
def Pk:∀(ls:List bG) {w:Cl},Dk w.off->(∀q,q<2->Jr (d.at q) (w.off.at q))->(∀l∈ls,l.q<2)->(∀l∈ls,0<=l.tg->l.tg.toNat<5)->(∀j,j<5->(w.ah j).up=true)-> ∀x∈ls,Arr d x (ls.foldl Cl.come w)
 |[],_,_,_,_,_,_,x,J=>by cases J
 |l::ls,w,h,hd,Z,ht,hu,x,J=>by
  obtain⟨a1,a2,a3,a4⟩:=aar h (Z l mem_cons_self);have I:=Z l mem_cons_self;have hu':∀j,j<5->((w.come l).ah j).up=true:=λj hj=>by
   obtain⟨ib,e⟩:=Bj w l j;rw[e];exact hu j hj
  rw[foldl_cons]
  rcases mem_cons.1 J with J|J
  ·subst J;obtain⟨b1,b2,b3,b4⟩:=Un ls a1 λy M=>Z y (mem_cons_of_mem _ M);obtain⟨f1,f2,f3⟩:=aaq h I;refine⟨λh0=>b4 _ _ ?_,λh2=>?_,λh2 n1 n2 n3 n4 n5=>?_⟩
   ·unfold Cl.come;rw[if_neg (by omega),if_neg (by omega),if_pos (hu _ (ht x mem_cons_self h0)),aW];exact mem_append_right _ (mem_singleton.2 E)
   ·have hw:=f1.whr I;refine⟨lg x.fr x.q ((dG w.off x).at x.q),b3 _ ?_,E,E,E,((hd _ I).trans (f2 _ I)).ep⟩;unfold Cl.come;rw[if_neg (by omega),if_pos h2,hw];rw[if_pos E];exact mem_append_right _ (mem_singleton.2 E)
   have O:(w.come x).off=dG w.off x:=by
    unfold Cl.come;rw[if_neg (by omega),if_pos h2]
    split<;>rfl
   have hb:=(b2 _ I).ep;rw[O]at hb
   rcases hd _ I with e|e
   ·rw[<-e]at n3 n4⊢;have:=f3 n1 n2 n3 n4 n5;omega
   have:=(f2 _ I).ep;omega
  exact Pk ls a1 (λq hq=>(hd q hq).trans (a2 q hq)) (λy M=>Z y (mem_cons_of_mem _ M)) (λy M=>ht y (mem_cons_of_mem _ M)) hu' x J
def alH {T S dV K:Nat}(hv:Vd m)(I:bY m T S dV K)(J:∀j,j<5->(m.ah j).up=true)(h:Dk m.off):∀x∈m.fly,Arr m.off x m.all:=
 Pk m.fly (w:={m with fly:=[]}) h (λ_ _=>.inl E) hv.fly (λl M O=>by obtain⟨_,_,h1,_⟩:=I.mR l M;omega) J
def axo (R:Rm m G B)(h:Su m):Dk m.off:=by
 refine⟨λq J=>?_,h.two,h.tre⟩;have I:=R.qi q J;obtain⟨d,M,O,Z⟩:=I.dir;have h1:=I.ab2 d O (by omega);have h2:=I.aia;have h3:=R.cap q J;rw[M];dsimp only;omega
structure QN (m m':Cl)(F:Nat->Wy)(n:Nat):Prop where
 bs:∀q,Sm ((m'.ah n).bs q) ((m.ah n).bs q)
 FJ:(m'.ah n).turn=(m.ah n).turn+1
 rep:∀l∈(m.ah n).inbox,Uj (F l.q) ((m.ah n).bs l.q) n l m'.fly
 dut:(m.ah n).turn % 4<2->Dut ((m.ah n).bs ((m.ah n).turn % 4)) (m.off.at ((m.ah n).turn % 4)).epoch n ((m.ah n).turn % 4) m'.fly
def Uo (m:Cl)(f:bG->Nat):Nat->Nat
 | 0=>0
 |i+1=>Uo m f i+dI f (m.ah i).inbox
def Lx (R:Rm m G B)(hB:B+46<=100000)(hb:Bn m)(hS:Su m)(hQ:Qt m m.mU):∀i,i<=5-> ∃G',Rm (m.dD i) G' B/\(∀q,q<2->FF (m.dD i) G' q=FF m G q)/\Su (m.dD i)/\(m.dD i).off=m.off/\(∀x∈m.fly,x∈(m.dD i).fly)/\((m.dD i).ws bM+Uo m bM i<=m.ws bM/\(m.dD i).ws (fI (FF m G))+Uo m (fI (FF m G)) i<=m.ws (fI (FF m G)))/\ ∀n,n<i->QN m (m.dD i) (FF m G) n
 | 0,_=>⟨G,R,λ_ _=>E,hS,E,λ_ h=>h,⟨Nat.le_refl _,Nat.le_refl _⟩,λn hn=>by omega⟩
 |i+1,hi=>by
  obtain⟨G1,Z,F1,S1,O1,L1,⟨C1,D1⟩,N1⟩:=Lx R hB hb hS hQ i (by omega);obtain⟨T,S,dV,K,I⟩:=tL hb i (by omega);obtain⟨G2,R2,W2,Sz,Pz,Z2⟩:=aaj Z hB I (n:=i) (by omega);have e1:(m.dD i).ah i=m.ah i:=KA hb i (by omega) i (Nat.le_refl _);have hp:((m.dD i).ah i).pend=none:=by rw[e1];exact hQ.lF i (by omega)
  have hp':(((m.dD i).step i).ah i).pend=none:=by
   have h1:=hQ.aoH i (by omega);obtain⟨ib,e⟩:=uf (m.dD 5) i;have h2:((m.dD 5).all.ah i).pend=none:=h1;rw[e]at h2;have h3:((m.dD 5).ah i).pend=none:=h2;rw[Ug hb 5 (Nat.le_refl _) (n:=i) (by omega)]at h3;exact h3
  have F2:∀q,q<2->FF ((m.dD i).step i) G2 q=FF (m.dD i) G1 q:=by
   rcases Z2 with⟨_,_,_,f⟩|⟨c,_⟩|⟨_,c,_⟩
   ·exact f
   ·exact absurd hp c
   exact absurd hp' c
  have S2:Su ((m.dD i).step i):=Qo (λq hq=>⟨_,Z.qi q hq⟩) Z.vd I (by omega) S1;have Q:=quiet_step Z hB I (by omega) S2 hp hp';have M:=Q.fly;refine⟨G2,R2,λq hq=>(F2 q hq).trans (F1 q hq),S2,(KC I (by omega)).trans O1,λx hx=>M x (L1 x hx),?_,λn hn=>?_⟩
  ·have q1:=Q.dO;have q2:=Q.Xz;rw[e1]at q1 q2;obtain⟨_,c2,_⟩:=mO R2.vd F1;obtain⟨_,c3,_⟩:=mO Z.vd F1;have c4:dI (fI (FF (m.dD i) G1)) (m.ah i).inbox=dI (fI (FF m G)) (m.ah i).inbox:=by
    have hw:∀l∈(m.ah i).inbox,fI (FF (m.dD i) G1) l=fI (FF m G) l:=λl J=>by
     have O:=R.vd.iO i (by omega) l J;unfold fI;rw[F1 _ O]
    exact Nat.le_antisymm (tK λl J=>Nat.le_of_eq (hw l J)) (tK λl J=>Nat.le_of_eq (hw l J).symm)
   show((m.dD i).step i).ws bM+(Uo m bM i+_)<=_/\((m.dD i).step i).ws (fI (FF m G))+(Uo m (fI (FF m G)) i+_)<=_
   exact⟨by omega,by omega⟩
  show QN m ((m.dD i).step i) (FF m G) n
  by_cases e:n=i
  ·subst e;refine⟨λq=>by rw[<-e1];exact Q.bs q,by rw[<-e1];exact Q.FJ,λl J=>?_,λh4=>?_⟩
   ·rw[<-e1]at J⊢;have O:=Z.vd.iO n (by omega) l J;have:=Q.rep l J;rw[F1 _ O]at this;exact this
   rw[<-e1]at h4⊢;have:=Q.dut h4;rw[O1]at this;exact this
  have N:=N1 n (by omega);have e2:((m.dD i).step i).ah n=(m.dD i).ah n:=oM I (by omega) e;exact⟨λq=>by rw[e2];exact N.bs q,by rw[e2];exact N.FJ,λl J=>(N.rep l J).mono M,λh4=>(N.dut h4).mono M⟩
def Uq:∀(ls:List bG) {w:Cl},(∀x∈w.fly,x.kd=6)-> ∀x∈(ls.foldl Cl.come w).fly,x.kd=6
 |[],_,h=>h
 |l::ls,w,h=>by
  rw[foldl_cons];refine Uq ls λx I=>?_;unfold Cl.come at I
  split at I
  ·exact h x I
  split at I
  ·split at I
   ·rcases mem_append.1 I with I|I
    ·exact h x I
    rw[mem_singleton]at I;subst I;rfl
   exact h x I
  split at I
  ·exact h x I
  exact h x I
structure Q1 (m m':Cl)(F:Nat->Wy)(fl:List bG):Prop where
 bs:∀n,n<5-> ∀q,Sm ((m'.ah n).bs q) ((m.ah n).bs q)
 FJ:∀n,n<5->(m'.ah n).turn=(m.ah n).turn+1
 rep:∀n,n<5-> ∀l∈(m.ah n).inbox,Uj (F l.q) ((m.ah n).bs l.q) n l fl
 dut:∀n,n<5->(m.ah n).turn % 4<2->Dut ((m.ah n).bs ((m.ah n).turn % 4)) (m.off.at ((m.ah n).turn % 4)).epoch n ((m.ah n).turn % 4) fl
 fly:∀x∈m.fly,x∈fl
 arr:∀x∈fl,Arr m.off x m'
 dO:m'.ws bM<=dI bM m.fly
 Xz:m'.ws (fI F)<=dI (fI F) m.fly
 k6:∀x∈m'.fly,x.kd=6
def WG:∀x∈m.mU.fly,x.kd=6:=Uq (m.dD 5).fly (w:={m.dD 5 with fly:=[]}) λx h=>by cases h
def Pm (R:Rm m G B)(hB:B+46<=100000)(hb:Bn m)(hS:Su m)(hQ:Qt m m.mU):∃fl G',Rm m.mU G' B/\(∀q,q<2->FF m.mU G' q=FF m G q)/\Bn m.mU/\Su m.mU/\Q1 m m.mU (FF m G) fl:=by
 obtain⟨G1,O,F1,S1,O1,L1,⟨C1,D1⟩,Z⟩:=Lx R hB hb hS hQ 5 (Nat.le_refl _);have J:=tL hb 5 (Nat.le_refl _);obtain⟨T,S,dV,K,h⟩:=id J;obtain⟨R2,F2⟩:=WA O h;have M:∀f:bG->Nat,m.ws f=dI f m.fly+Uo m f 5:=λf=>by
  unfold Cl.ws Uo Uo Uo Uo Uo Uo;omega
 have c1:=M bM;have c2:=M (fI (FF m G));have w1:(m.dD 5).all.ws bM<=(m.dD 5).ws bM:=CG F6 h.mR;have w2:(m.dD 5).all.ws (fI (FF m G))<=(m.dD 5).ws (fI (FF m G)):=CG RL h.mR;have hnd:∀j,∃ib,m.mU.ah j={ (m.dD 5).ah j with inbox:=ib}:=λj=>uf (m.dD 5) j;have I:=alH O.vd h O.up (by rw[O1];exact axo R hS);rw[O1]at I;refine⟨(m.dD 5).fly,G1,R2,λq hq=>(F2 q hq).trans (F1 q hq),J.au5,WC S1 O.vd,⟨λn hn q=>?_,λn hn=>?_,λn hn=>(Z n hn).rep,λn hn=>(Z n hn).dut,L1,I,?_,?_,WG⟩⟩
 ·obtain⟨ib,e⟩:=hnd n;rw[e];exact(Z n hn).bs q
 ·obtain⟨ib,e⟩:=hnd n;rw[e];exact(Z n hn).FJ
 ·show(m.dD 5).all.ws bM<=_;omega
 show(m.dD 5).all.ws (fI (FF m G))<=_;omega
end
noncomputable def Cl.rs (m:Cl):Nat->Cl
 | 0=>m
 |i+1=>(m.rs i).mU
section
variable {m w m':Cl}{n q k B:Nat}{l x:bG}{G G':Nat->Gh}{g g':Gh}{F:Wy}{b b':aQ}{d:Int}{fl RI:List bG}
def Dut.sm (h:Dut b d n q fl)(s:Sm b b'):Dut b' d n q fl:=by
 refine⟨λa=>?_,λa=>h.ask (by rw[s.role];exact a),λa c e=>?_⟩
 ·obtain⟨x,J,I⟩:=h.off (by rw[s.role];exact a);unfold aan at I;rw[s.tg,s.ep]at I;exact⟨x,J,I⟩
 obtain⟨x,J,I⟩:=h.flp (by rw[s.role];exact a) (by rw[s.ep];exact c) (by rw[s.ep];exact e);unfold afi at I;rw[s.ep]at I;exact⟨x,J,I⟩
structure adG (m w:Cl)(G:Nat->Gh)(B i:Nat):Prop where
 rm:∃G',Rm w G' B/\ ∀q,q<2->FF w G' q=FF m G q
 bn:Bn w
 su:Su w
 off:∀q,q<2->w.off.at q=m.off.at q
 bs:∀n,n<5-> ∀q,Sm ((w.ah n).bs q) ((m.ah n).bs q)
 FJ:∀n,n<5->(w.ah n).turn=(m.ah n).turn+i
structure Wq (m w w':Cl)(F:Nat->Wy)(i:Nat)(fl:List bG):Prop where
 rep:∀n,n<5-> ∀l∈(w.ah n).inbox,Uj (F l.q) ((m.ah n).bs l.q) n l fl
 dut:∀n,n<5-> ∀q,q<2->((m.ah n).turn+i) % 4=q->Dut ((m.ah n).bs q) (m.off.at q).epoch n q fl
 fly:∀x∈w.fly,x∈fl
 arr:∀x∈fl,Arr w.off x w'
 dO:w'.ws bM<=dI bM w.fly
 Xz:w'.ws (fI F)<=dI (fI F) w.fly
 k6:∀x∈w'.fly,x.kd=6
def Ur {F F':Nat->Wy}:∀ {a:List bG},(∀x∈a,x.q<2)->(∀q,q<2->F q=F' q)->dI (fI F) a=dI (fI F') a
 |[],_,_=>rfl
 |l::a,h,I=>by
  have e:fI F l=fI F' l:=by unfold fI;rw[I _ (h l mem_cons_self)]
  rw[dI,dI,e,Ur (λx J=>h x (mem_cons_of_mem _ J)) I]
def au8 {i:Nat}(h:adG m w G B i)(hB:B+46<=100000)(hQ:Qt w w.mU):adG m w.mU G B (i+1)/\ ∃fl,Wq m w w.mU (FF m G) i fl:=by
 obtain⟨G1,O,M⟩:=h.rm;obtain⟨fl,G2,R2,F2,b2,s2,I⟩:=Pm O hB h.bn h.su hQ;refine⟨⟨⟨G2,R2,λq J=>(F2 q J).trans (M q J)⟩,b2,s2,λq J=>(hQ.off q J).trans (h.off q J),λn hn q=>(I.bs n hn q).trans (h.bs n hn q),λn hn=>by rw[I.FJ n hn,h.FJ n hn];omega⟩,fl,λn hn l hl=>?_,λn hn q J ht=>?_,I.fly,I.arr,I.dO,?_,I.k6⟩
 ·have Z:=O.vd.iO n hn l hl;have:=(I.rep n hn l hl).sm (h.bs n hn l.q);rw[M _ Z]at this;exact this
 ·have e:(w.ah n).turn % 4=q:=by rw[h.FJ n hn];exact ht
  have:=I.dut n hn (by omega);rw[e,h.off q J]at this;exact this.sm (h.bs n hn q)
 have e1:w.mU.ws (fI (FF m G))=w.mU.ws (fI (FF w G1)):=(mO R2.vd λq J=>(M q J).symm).2.1;rw[e1,<-Ur O.vd.fly M];exact I.Xz
def arO (R:Rm m G B)(h:Bn m)(I:Su m):adG m m G B 0:=⟨⟨G,R,λ_ _=>E⟩,h,I,λ_ _=>E,λ_ _ _=>.refl _,λ_ _=>E⟩
def win (R:Rm m G B)(h:B+46<=100000)(I:Bn m)(J:Su m)(hQ:∀i,i<k->Qt (m.rs i) (m.rs (i+1))):∀i,i<=k->adG m (m.rs i) G B i
 | 0,_=>arO R I J
 |i+1,hi=>(au8 (win R h I J hQ i (by omega)) h (hQ i (by omega))).1
def Js (R:Rm m G B)(h:B+46<=100000)(I:Bn m)(J:Su m)(hQ:∀i,i<k->Qt (m.rs i) (m.rs (i+1))){i:Nat}(hi:i<k):∃fl,Wq m (m.rs i) (m.rs (i+1)) (FF m G) i fl:=
 (au8 (win R h I J hQ i (by omega)) h (hQ i hi)).2
def four (t q:Nat)(h:q<4):∃i,i<4/\(t+i) % 4=q:=by
 have:t % 4=0\/t % 4=1\/t % 4=2\/t % 4=3:=by omega
 exact⟨(q+4-t % 4) % 4,by omega,by omega⟩
def aas (R:Rm m G B)(h:B+46<=100000)(I:Bn m)(J:Su m)(hQ:∀i,i<7->Qt (m.rs i) (m.rs (i+1)))(hn:n<5)(Z:q<2)(hr:((m.ah n).bs q).role=3)(he:((m.ah n).bs q).ep< (m.off.at q).epoch):False:=by
 obtain⟨i,i1,i2⟩:=four (m.ah n).turn q (by omega);obtain⟨f1,W⟩:=Js R h I J hQ (i:=i) (by omega);obtain⟨f2,W'⟩:=Js R h I J hQ (i:=i+1) (by omega);obtain⟨f3,W''⟩:=Js R h I J hQ (i:=i+2) (by omega);have ho:=(win R h I J hQ i (by omega)).off q Z;obtain⟨y,y1,y2,y3,y4,y5⟩:=(W.arr _ ((W.dut n hn q Z i2).ask hr)).ask E;have M:((m.rs i).off.at q).epoch<=y.ep:=y5;have y3':y.tg=(n:Int):=y3;have O:y.q=q:=y4;rw[ho]at M;have h2:=(W'.arr y (W'.fly y y1)).iE (by omega);rw[show y.tg.toNat=n by omega]at h2;have h3:=W''.rep n hn y h2;rw[O]at h3;exact h3.lrn y2 hr (by omega)
def aht (R:Rm m G B)(O:B+46<=100000)(Z:Bn m)(hS:Su m)(hQ:∀i,i<7->Qt (m.rs i) (m.rs (i+1)))(h:q<2)(hr:(vw m q (G q).o).role=1)(he:(m.off.at q).epoch≠((G q).m:Int)):False:=by
 have I:=R.qi q h;have J:=I.o5;have hV:=gT (q:=q) (R.up _ J);have hae:=I.q9;rw[hV]at hr hae;obtain⟨d,d1,d2,d3⟩:=I.dir;have hd:(m.off.at q).epoch=d:=by rw[d1]
 have hnd:(m.off.at q).node=(((G q).own d:Nat):Int):=by rw[d1]
 have hml:=I.aia;have hcap:=R.cap q h;have aK6:=I.adj d d2 (by omega);obtain⟨i,i1,i2⟩:=four (m.ah (G q).o).turn q (by omega);obtain⟨f1,W⟩:=Js R O Z hS hQ (i:=i) (by omega);have ho:=(win R O Z hS hQ i (by omega)).off q h;have ho':=(win R O Z hS hQ (i+1) (by omega)).off q h;obtain⟨x,x1,x2,x3,x4,x5,x6,x7⟩:=(W.dut _ J q h i2).flp hr (by omega) (by omega);have M:(G q).o=(G q).own (d+1):=by show(G q).own (G q).m=_;rw[show(G q).m=d+1 by omega]
 have:=(W.arr x x1).flp x4 (by omega) (by omega) (by rw[x5,ho];omega) (by rw[x5,ho,hnd,x7,M];omega) (by omega);rw[x5,ho,ho']at this;omega
def ahu (R:Rm m G B)(hB:B+46<=100000)(hb:Bn m)(hS:Su m)(hQ:∀i,i<7->Qt (m.rs i) (m.rs (i+1)))(hq:q<2)(hr:(vw m q (G q).o).role≠1):False:=by
 have I:=R.qi q hq;have O:=I.o5;have hV:=gT (q:=q) (R.up _ O);obtain⟨hdm,ht1,ht2,ht3⟩:=I.Ri hr;obtain⟨t,ht⟩:∃t:Nat,(vw m q (G q).o).tg=t:=⟨(vw m q (G q).o).tg.toNat,by omega⟩;have t5:t<5:=by omega
 have hto:t≠(G q).o:=by omega
 have hF:(FF m G q).R=1:=if_neg hr;have hFM:(FF m G q).M=(G q).m:=rfl;have hFt:(FF m G q).tg=(vw m q (G q).o).tg:=rfl;have Aw:=I.Aw;have hae:=I.q9;have hev:=I.uJ;have hVt:=gT (q:=q) (R.up _ t5);have h:=I.mV t t5 hto;rw[hV]at hr Aw hae hev ht;rw[hVt]at h;by_cases h3:((m.ah t).bs q).role=3
 ·rcases h with⟨Z,_⟩|⟨k,_,k2,_,k4,_⟩|⟨_,Z,_⟩
  ·omega
  ·exact aas R hB hb hS hQ t5 hq h3 (by omega)
  omega
 obtain⟨i,i1,i2⟩:=four (m.ah (G q).o).turn q (by omega);obtain⟨f1,W⟩:=Js R hB hb hS hQ (i:=i) (by omega);obtain⟨f2,W2⟩:=Js R hB hb hS hQ (i:=i+1) (by omega);obtain⟨f3,W3⟩:=Js R hB hb hS hQ (i:=i+2) (by omega);obtain⟨f4,W4⟩:=Js R hB hb hS hQ (i:=i+3) (by omega);obtain⟨x,x1,x2,x3,x4,x5,x6⟩:=(W.dut _ O q hq i2).off (by omega);have hx:=(W.arr x x1).iE (by omega);rw[show x.tg.toNat=t by omega]at hx;have J:=W2.rep t t5 x hx;rw[x5]at J;have hbt:((m.ah t).bs q).role=4/\((m.ah t).bs q).ep=((G q).m:Int)+1/\((m.ah t).bs q).fr=(G q).o/\((m.ah t).bs q).evs.length<=(G q).G.length:=by
  rcases h with⟨Z,h6,h7⟩|⟨k,Z,_⟩|⟨k,Z,h6,h7,h8,h9,_,h10,_⟩
  ·exact absurd (J.new x2 (.inl Z) (by omega)) id
  ·omega
  by_cases c:k=(G q).m
  ·subst c;exact⟨Z,h6,h9,Nat.le_trans h10 (I.Xb h7 h8)⟩
  exact absurd (J.new x2 (.inr Z) (by omega)) id
 obtain⟨b1,b2,b3,b4⟩:=hbt;obtain⟨y,y1,y2,y3,y4,y5,y6,y7⟩:=J.off x2 b1 (by omega) (by omega);have hy:=(W2.arr y y1).iE (by omega);rw[show y.tg.toNat=(G q).o by omega]at hy;have hy':=W3.rep _ O y hy;rw[y5,x5]at hy';rw[<-hev]at b4;obtain⟨hc,z,z1,z2,z3,z4,z5,z6,z7,z8,z9⟩:=hy'.hav y2 (by omega) (by omega) (by omega) (by omega);have hz:=(W3.arr z z1).iE (by omega);rw[show z.tg.toNat=t by omega]at hz;have hz':=W4.rep t t5 z hz;rw[z5,y5,x5]at hz';refine hz'.prt z2 hF (by rw[hFt,hV];omega) (by rw[hFM];omega) b1 (by omega) (by omega) (by omega) ?_;rw[y7]at hc z8 z9;rw[Int.toNat_natCast]at z8 z9;by_cases c:((m.ah t).bs q).evs.length< ((m.ah (G q).o).bs q).evs.length
 ·left
  rw[z8];intro e;have:=congrArg length e;rw[length_take,length_drop,length_nil]at this;omega
 right
 rw[z9]
 rcases hc with hc|hc
 ·exact decide_eq_true ⟨hc,by omega⟩
 omega
end
section
variable {m m0 w m':Cl}{n q k B z r:Nat}{l x:bG}{G G0 G':Nat->Gh}{g g':Gh}{F F':Nat->Wy}
def afj:∀(a b:Nat),m.rs (a+b)=(m.rs a).rs b
 |_,0=>rfl
 |a,b+1=>by show(m.rs (a+b)).mU=((m.rs a).rs b).mU;rw[afj a b]
def Qq (k:Nat):m.rs (k+1)=m.mU.rs k:=by rw[Nat.add_comm,afj 1 k];rfl
def Pn (R:Rm m G B)(O:B+46<=100000)(I:Bn m)(Z:Su m):Su m.mU:=by
 have J:∀i,i<=5->Su (m.dD i):=by
  intro i
  induction i with
  |zero=>intro _;exact Z
  |succ i ih=>
   intro hi;obtain⟨G1,h,_⟩:=Jq R O I i (by omega);obtain⟨T,S,dV,K,M⟩:=tL I i (by omega);exact Qo (λq hq=>⟨_,h.qi q hq⟩) h.vd M (by omega) (ih (by omega))
 obtain⟨G1,h,_⟩:=Jq R O I 5 (Nat.le_refl _);exact WC (J 5 (Nat.le_refl _)) h.vd
structure Zero (m w:Cl)(G G':Nat->Gh)(B:Nat):Prop where
 rm:Rm w G' B
 bn:Bn w
 su:Su w
 zz:ZZ w (FF w G')=0
 le:∀q,q<2->mM (FF m G q) (FF w G' q)
def Po (J:B+46<=100000):∀(T:Nat) {w:Cl} {G':Nat->Gh},Zero m w G G' B-> ∃M,Zero m (w.rs T) G M B
 | 0,_,_,h=>⟨_,h⟩
 |T+1,w,G',h=>by
  obtain⟨M,I⟩:=Po J T h;obtain⟨O,R3,b3,W3,_,_,Z3⟩:=Pg I.rm J I.bn;have hz:=I.zz;refine⟨O,R3,b3,Pn I.rm J I.bn I.su,?_,λq Z=>(I.le q Z).trans (W3 q Z)⟩
  show ZZ (w.rs T).mU (FF (w.rs T).mU O)=0
  rcases Z3 with⟨_,z,_⟩|⟨z,_⟩|z<;>omega
def Jt {f:bG->Nat}(I:∀x:bG,x.kd=6->f x=0){a:List bG}(h:∀x∈a,x.kd=6):dI f a=0:=Wx λx J=>I x (h x J)
def alI {c:Nat}(R:Rm m G B)(hr:∀q,q<2->(vw m q (G q).o).role=1)(hd:∀q,q<2->(m.off.at q).epoch=((G q).m:Int))(Z:∀q n,q<2->n<5->((m.ah n).bs q).role=3->((m.ah n).bs q).ep< (m.off.at q).epoch->False)
  (St:adG m w G B c) (ady:w.ws bM=0) (aoI:w.ws (fI (FF m G))=0) (h:∀n,n<5->(w.ah n).pend=none):∃G',Zero m w G G' B:=by
 obtain⟨G7,R7,F7⟩:=St.rm;have hq0:∀q,q<2->r9 (FF m G q) (w.off.at q).epoch (vq w q)=0:=λq O=>by
  have I:=R.qi q O;have hR:(FF m G q).R=0:=if_pos (hr q O);have hM:(FF m G q).M=(G q).m:=rfl;have J:∀n,n<5->qA (FF m G q) (vq w q) n=0:=λn hn=>by
   unfold qA;rw[if_neg];rintro⟨c1,c2⟩;have e:vq w q n=(w.ah n).bs q:=by unfold vq;exact jO (h n hn)
   rw[e,(St.bs n hn q).role]at c2;have hno:n≠(G q).o:=c1;have hdq:=hd q O
   rcases I.mV n hn hno with⟨h5,_⟩|⟨k,_,k2,_,k4,_⟩|⟨_,h5,_⟩
   ·rw[gT (R.up n hn)]at h5;omega
   ·rw[gT (R.up n hn)]at k2;exact Z q n O hn c2 (by omega)
   rw[gT (R.up n hn)]at h5;omega
  unfold r9 pqR Ud o5;rw[if_neg (by omega),St.off q O,hM,if_pos (hd q O),J 0 (by decide),J 1 (by decide),J 2 (by decide),J 3 (by decide),J 4 (by decide)]
 refine⟨G7,R7,St.bn,St.su,?_,λq O=>by rw[F7 q O];exact .refl _⟩;rw[(mO R7.vd F7).2.2];have hp:(o5 λj=>rz (w.ah j).pend)=0:=by
  unfold o5;dsimp only;rw[h 0 (by decide),h 1 (by decide),h 2 (by decide),h 3 (by decide),h 4 (by decide)];rfl
 unfold ZZ PP;rw[ady,aoI,hq0 0 (by decide),hq0 1 (by decide),hp]
def win_zero (hk:k=7)(R:Rm m G B)(J:B+46<=100000)(M:Bn m)(O:Su m)(hQ:∀i,i<k->Qt (m.rs i) (m.rs (i+1))):∃G',Zero m (m.rs k) G G' B:=by
 obtain⟨i,rfl⟩:∃i,k=i+1+1:=⟨k-2,by omega⟩;have I:∀j,j<7->Qt (m.rs j) (m.rs (j+1)):=λj hj=>hQ j (by omega);have hr:∀q,q<2->(vw m q (G q).o).role=1:=λq Z=>Classical.byContradiction λc=>ahu R J M O I Z c;have hd:∀q,q<2->(m.off.at q).epoch=((G q).m:Int):=λq Z=>Classical.byContradiction λc=>aht R J M O I Z (hr q Z) c;obtain⟨f5,W5⟩:=Js R J M O hQ (i:=i) (by omega);obtain⟨f6,W6⟩:=Js R J M O hQ (i:=i+1) (by omega);have ady:(m.rs (i+1+1)).ws bM=0:=by
  have h:=W6.dO;rw[Jt F6 W5.k6]at h;omega
 have aoI:(m.rs (i+1+1)).ws (fI (FF m G))=0:=by
  have h:=W6.Xz;rw[Jt RL W5.k6]at h;omega
 exact alI R hr hd (λq n Z hn h3 he=>aas R J M O I hn Z h3 he) (win R J M O hQ (i+1+1) (Nat.le_refl _)) ady aoI (hQ (i+1) (by omega)).aoH
def Zero.from (h:Zero m w G' G0 B)(J:∀q,q<2->mM (FF m0 G q) (FF m G' q)):Zero m0 w G G0 B:=⟨h.rm,h.bn,h.su,h.zz,λq I=>(J q I).trans (h.le q I)⟩
def au9 (M:B+46<=100000):∀(T:Nat) {m0:Cl} {G0 G:Nat->Gh} {r z:Nat},Rm m0 G0 B->Bn m0->Su m0->(∀i,i<r->Qt (m0.rs i) (m0.rs (i+1)))->r<=7->Rm (m0.rs r) G B->(∀q,q<2->FF (m0.rs r) G q=FF m0 G0 q)->
  (m0.rs r).ws (fI (FF m0 G0))=0->ZZ (m0.rs r) (FF m0 G0)<=z->z+7<=T+r-> ∃G',Zero m0 ((m0.rs r).rs T) G0 G' B:=by
 intro T
 induction T with
 |zero=>
  intro m0 G0 G r z O b0 Z hQ hr R F hst hz hT;obtain⟨G7,h⟩:=win_zero (by omega) O M b0 Z hQ;exact⟨G7,h⟩
 |succ T ih=>
  intro m0 G0 G r z O b0 Z hQ hr R F hst hz hT;by_cases e:r=7
  ·obtain⟨G7,h⟩:=win_zero e O M b0 Z hQ;exact Po M (T+1) h
  have St:=win O M b0 Z hQ r (Nat.le_refl _);obtain⟨J,R1,b1,W1',S1,P1,Z1⟩:=Pg R M St.bn;have s1:=Pn R M St.bn St.su;obtain⟨_,c2,c3⟩:=mO R.vd F;rw[Qq];have hW:∀q,q<2->mM (FF m0 G0 q) (FF (m0.rs r).mU J q):=λq hq=>by rw[<-F q hq];exact W1' q hq
  have I:∀ {z':Nat},ZZ (m0.rs r).mU (FF (m0.rs r).mU J)<=z'->z'+7<=T-> ∃G',Zero m0 ((m0.rs r).mU.rs T) G0 G' B:=λ{z'} h1 h2=>by
   obtain⟨G',h⟩:=ih (m0:=(m0.rs r).mU) (G0:=J) (G:=J) (r:=0) (z:=z') R1 b1 s1 (λi hi=>by omega) (by omega) R1 (λ_ _=>E) (by show(m0.rs r).mU.ws _=0;omega) h1 (by omega);exact⟨G',h.from hW⟩
  rcases Z1 with⟨a1,a2,a3⟩|⟨a1,a2⟩|a1
  ·have F1:∀q,q<2->FF (m0.rs (r+1)) J q=FF m0 G0 q:=λq hq=>(a3 q hq).trans (F q hq);obtain⟨_,d2,d3⟩:=mO (m:=m0.rs (r+1)) R1.vd F1;obtain⟨G',h⟩:=ih (m0:=m0) (G0:=G0) (G:=J) (r:=r+1) (z:=z) O b0 Z (λi hi=>by
    by_cases e2:i=r
    ·subst e2;exact a1
    exact hQ i (by omega)) (by omega) R1 F1 (by
    have e5:(m0.rs (r+1)).ws (fI (FF (m0.rs (r+1)) J))<=(m0.rs r).ws (fI (FF (m0.rs r) G)):=S1;omega) (by
    have e5:ZZ (m0.rs (r+1)) (FF (m0.rs (r+1)) J)<=ZZ (m0.rs r) (FF (m0.rs r) G):=a2;omega) (by omega)
   exact⟨G',h⟩
  ·rcases a2 with⟨n,n5,a2⟩|a2
   ·have er:r=0:=by
     cases r with
     |zero=>rfl
     |succ r=>exact absurd ((hQ r (by omega)).aoH n n5) a2
    exact I (z':=z-1) (by omega) (by omega)
   omega
  exact I (z':=z-7) (by omega) (by omega)
def aDV (I:B+46<=100000):∀(T:Nat) {m:Cl} {G:Nat->Gh} {z:Nat},Rm m G B->Bn m->Su m->dI (fI (FF m G)) m.fly=0->ZZ m (FF m G)<=z->z+8<=T-> ∃G',Zero m (m.rs T) G G' B:=by
 intro T
 induction T with
 |zero=>intro m G z _ _ _ _ _ h;omega
 |succ T ih=>
  intro m G z R Z hS hf hz hT;by_cases c:m.ws (fI (FF m G))=0
  ·exact au9 I (T+1) (m0:=m) (G0:=G) (G:=G) (r:=0) (z:=z) R Z hS (λi hi=>by omega) (by omega) R (λ_ _=>E) c hz (by omega)
  obtain⟨J,M,b1,W1',S1,P1,Z1⟩:=Pg R I Z;have s1:=Pn R I Z hS;have O:dI (fI (FF m.mU J)) m.mU.fly=0:=Jt RL WG;rw[Qq]
  rcases Z1 with⟨a1,a2,a3⟩|⟨a1,a2⟩|a1
  ·obtain⟨fl,G2,R2,F2,b2,s2,q2⟩:=Pm R I Z hS a1;have h0:=q2.Xz;obtain⟨_,d2,d3⟩:=mO (m:=m.mU) M.vd a3;obtain⟨G',h⟩:=au9 I T (m0:=m.mU) (G0:=J) (G:=J) (r:=0) (z:=z) M b1 s1 (λi hi=>by omega) (by omega) M (λ_ _=>E) (by show m.mU.ws _=0;omega) (by show ZZ m.mU _<=z;omega) (by omega);exact⟨G',h.from W1'⟩
  ·obtain⟨G',h⟩:=ih (m:=m.mU) (G:=J) (z:=z-1) M b1 s1 O (by omega) (by omega);exact⟨G',h.from W1'⟩
  obtain⟨G',h⟩:=ih (m:=m.mU) (G:=J) (z:=z-1) M b1 s1 O (by omega) (by omega);exact⟨G',h.from W1'⟩
def aDW (I:B+46<=100000){T:Nat}(R:Rm m G B)(J:Bn m)(M:Su m)(hT:ZZ m (FF m G)+9<=T):∃G',Zero m (m.rs T) G G' B:=by
 obtain⟨T,rfl⟩:∃k,T=k+1:=⟨T-1,by omega⟩;obtain⟨O,Z,b1,W1',S1,P1,Z1⟩:=Pg R I J;rw[Qq];obtain⟨G',h⟩:=aDV I T (m:=m.mU) (G:=O) (z:=ZZ m (FF m G)) Z b1 (Pn R I J M) (Jt RL WG) (by rcases Z1 with⟨_,z,_⟩|⟨z,_⟩|z<;>omega) (by omega);exact⟨G',h.from W1'⟩
end
def aT:Nat->Nat
 | 0=>0
 |t+1=>aT t+if t % 4<2 then 1 else 0
def Cl.aS (m:Cl):Nat:=o5 λn=>aT (m.ah n).turn
def Cl.tS (m:Cl):Nat:=o5 λn=>(m.ah n).turn
section
variable {m w m':Cl}{n q k:Nat}{l:bG}{b:aQ}{ac:Ac}{X:Nd}
def anb:∀t,2*aT t<=t+(if t % 4=1\/t % 4=3 then 1 else if t % 4=2 then 2 else 0)
 | 0=>Nat.le_refl _
 |t+1=>by
  have I:=anb t;rw[aT];have J:t % 4=0\/t % 4=1\/t % 4=2\/t % 4=3:=by omega
  rcases J with h|h|h|h
  ·rw[h]at I⊢;rw[show(t+1) % 4=1 by omega];simp at I⊢;omega
  ·rw[h]at I⊢;rw[show(t+1) % 4=2 by omega];simp at I⊢;omega
  ·rw[h]at I⊢;rw[show(t+1) % 4=3 by omega];simp at I⊢;omega
  rw[h]at I⊢;rw[show(t+1) % 4=0 by omega];simp at I⊢;omega
def adH (t:Nat):2*aT t<=t+2:=by
 have:=anb t
 split at this
 ·omega
 split at this<;>omega
def axp:2*m.aS<=m.tS+10:=by
 have h:=adH (m.ah 0).turn;have h1:=adH (m.ah 1).turn;have I:=adH (m.ah 2).turn;have J:=adH (m.ah 3).turn;have M:=adH (m.ah 4).turn;unfold Cl.aS Cl.tS o5;dsimp only;omega
def ahv (h:2<=(m.ah n).turn % 4->((m.ah n).bs ((m.ah n).turn % 4)).role=0):(m.jU n).nm n<=m.nm n+if (m.ah n).turn % 4<2 then 1 else 0:=by
 by_cases c:(m.ah n).turn % 4<2
 ·rw[if_pos c];exact ZY
 rw[if_neg c];have I:=h (by omega);have e:fV n ((m.ah n).turn % 4) ((m.ah n).bs ((m.ah n).turn % 4)) ((m.ah n).sure ((m.ah n).turn % 4))=[]:=by
  unfold fV;rw[if_neg (by omega),if_neg (by omega),if_neg (by omega)];rfl
 show om (m.fly++fV n ((m.ah n).turn % 4) ((m.ah n).bs ((m.ah n).turn % 4)) ((m.ah n).sure ((m.ah n).turn % 4)))+qN ((upd m.ah n {m.ah n with turn:=(m.ah n).turn+1}) n)<=_
 rw[e,append_nil,upd_same];exact Nat.le_refl _
def ahw {T S dV K:Nat}(hB:bY m T S dV K)(hv:Vd m)(hn:n<5):(m.step n).cw+m.aS<=m.cw+(m.step n).aS/\(m.step n).tS<=m.tS+1:=by
 have h:=λj (Z:j≠n)=>oM (m:=m) hB hn Z;have fin:∀ {d:Nat},(m.step n).nm n<=m.nm n+d->aT (m.ah n).turn+d<=aT ((m.step n).ah n).turn->((m.step n).ah n).turn<=(m.ah n).turn+1->(m.step n).cw+m.aS<=m.cw+(m.step n).aS/\(m.step n).tS<=m.tS+1:=λ{d} h1 J O=>by
  have c1:=Xj hn h h1;have c2:=Xy (f:=λj=>aT ((m.step n).ah j).turn) (f':=λj=>aT (m.ah j).turn) (a:=d) hn (λj Z=>by rw[h j Z]) J;have c3:=MK (f:=λj=>(m.ah j).turn) (f':=λj=>((m.step n).ah j).turn) (a:=1) hn (λj Z=>by rw[h j Z];exact Nat.le_refl _) O;unfold Cl.aS Cl.tS;exact⟨by omega,c3⟩
 cases M:(m.ah n).up with
 |false=>rw[mG M];exact⟨Nat.le_refl _,le_succ _⟩
 |true=>
  obtain⟨rs,us,hU⟩:=(hB.iE n hn).sG M
  cases hp:(m.ah n).pend with
  |some p=>
   obtain⟨h1,J,O⟩:=hU.FN p hp;obtain⟨_,hf⟩:=iL hU.tape hU.kX J O;obtain⟨dB,y1,y2,y3,y4,y5,y6,y7,y8,_⟩:=zK E M hp O hf J;have eY:(m.step n).ah n=dB:=by rw[y1,upd_same]
   refine fin (d:=0) ?_ (by rw[eY,y8];exact Nat.le_refl _) (by rw[eY,y8];exact le_succ _);unfold Cl.step;rw[if_neg (by rw[M];decide),hp];dsimp only;have h1:=OZ (w:=m.put n {m.ah n with syn:=(m.ah n).data.length,pend:=none}) (n:=n) (p:=p);rw[xX]at h1;unfold Cl.nm qN at h1⊢;rw[hp];dsimp only at h1;have e0:Wj none=0:=rfl;rw[e0]at h1;omega
  |none=>
   have P:=qy (n:=n) (λw=>Ru m n rs w/\w.nm n<=m.nm n/\ ∀q,Sm ((w.ah n).bs q) ((m.ah n).bs q)) (λw l r ⟨H,A,A2⟩ hp1 hin=>by
    obtain⟨h1,J,O,h4⟩:=qz (λl hl=>l9 (hB.iO n hn l hl)) H hp1 hin;have h5:=OY (w:=w.put n ((w.ah n).box r)) (n:=n) (l:=l);rw[xX]at h5;have h6:w.nm n=om w.fly+(FU l+om r+Wj (w.ah n).pend):=by unfold Cl.nm qN;rw[hin];rfl
    have h7:qN ((w.ah n).box r)=om r+Wj (w.ah n).pend:=rfl;refine⟨h1.1,h4,by omega,λq=>(WE O q).trans ?_⟩;rw[aW];exact A2 q) _ m E ⟨C8 M ⟨_,hU⟩,Nat.le_refl _,λ_=>.refl _⟩
   obtain⟨H,A,A2⟩:=P;have I:=H.FJ;have es:=jq M hp;by_cases c:((m.more n).ah n).pend=none
   ·rw[if_pos c]at es;have e1:(m.step n).ah n={ (m.more n).ah n with turn:=((m.more n).ah n).turn+1}:=by
     rw[es]
     show upd (m.more n).ah n _ n=_
     exact upd_same _ _ _
    have hd:=ahv (m:=m.more n) (n:=n) λJ=>by
     rw[(A2 _).role];exact hv.view hn M J (by omega)
    refine fin (d:=if (m.ah n).turn % 4<2 then 1 else 0) ?_ ?_ ?_
    ·rw[es,<-I];omega
    ·rw[e1]
     show _<=aT (((m.more n).ah n).turn+1)
     rw[I];exact Nat.le_refl _
    rw[e1]
    show((m.more n).ah n).turn+1<=_
    rw[I];exact Nat.le_refl _
   rw[if_neg c]at es;refine fin (d:=0) (by rw[es];exact A) (by rw[es,I];exact Nat.le_refl _) (by rw[es,I];exact le_succ _)
def ahx {at_:Nat}{c:Bool}:(w.pick at_ c false).cw<=w.cw:=by
 unfold Cl.pick
 split
 ·exact Nat.le_refl _
 rename_i l h
 have I:=Wm (w:=w) (fl:=w.fly.eraseIdx (at_ % w.fly.length));have J:=GR _ _ _ h;simp only[Bool.false_eq_true,if_false]
 split
 ·have:=Qh (w:={w with fly:=w.fly.eraseIdx (at_ % w.fly.length)}) (l:=l);omega
 omega
def adI (h:∀j,(m'.ah j).turn=(m.ah j).turn):m'.aS=m.aS/\m'.tS=m.tS:=⟨Bl λj _=>by rw[h],Bl λj _=>by rw[h]⟩
def DW {bs:Nat->aQ}:∀(h:List Nat) (w:Cl) (j:Nat),((Cl.woken n bs h w).ah j).turn=(w.ah j).turn
 |[],_,_=>rfl
 |q::r,w,j=>by
  rw[Cl.woken]
  split
  ·exact DW r w j
  rw[DW r]
  show(((w.recover n q).aA n q (dK (bs q)).1).ah j).turn=_
  by_cases e:j=n
  ·subst e;rw[show((w.recover j q).aA j q (dK (bs q)).1).ah j=((w.recover j q).ah j).aA q (dK (bs q)).1 from aW _]
   show((w.recover j q).ah j).turn=_
   rw[wM]
  rw[show((w.recover n q).aA n q (dK (bs q)).1).ah j=(w.recover n q).ah j from upd_ne e,wM]
def acW (a:Ac):Nat:=if a.kd=2\/a.kd=6 then 1 else 0
def acS (a:Ac):Nat:=if a.kd=3 then 1 else 0
def KE (h:X.turn=(m.ah n).turn)(j:Nat):((m.put n X).ah j).turn=(m.ah j).turn:=by
 by_cases e:j=n
 ·subst e;rw[aW];exact h
 rw[show(m.put n X).ah j=m.ah j from upd_ne e]
def alJ {k:Nat}(M:Bs m k)(hv:Vd m)(O:vG ac)(h1:ac.kd≠1):(m.act ac).cw+m.aS<=m.cw+(m.act ac).aS+acW ac/\(m.act ac).tS<=m.tS+acS ac:=by
 obtain⟨a1,a2,a3,a4,a5,a6⟩:=O;have hn:ac.nd.toNat<5:=by omega
 have keep:∀ {m2:Cl} {c:Nat},m2.cw<=m.cw+c->(∀j,(m2.ah j).turn=(m.ah j).turn)->c<=acW ac->m2.cw+m.aS<=m.cw+m2.aS+acW ac/\m2.tS<=m.tS+acS ac:=λ{m2 c} h I Z=>by
  obtain⟨e1,e2⟩:=adI I;exact⟨by omega,by omega⟩
 unfold Cl.act;rw[if_neg h1]
 split
 ·rename_i h2
  refine keep (c:=1) ?_ (λ_=>E) (by unfold acW;rw[if_pos (.inl h2)];exact Nat.le_refl _)
  show om (m.fly++[vQ ac.nd ac.qu.toNat ac.op m.calls])+(qN (m.ah 0)+(qN (m.ah 1)+(qN (m.ah 2)+(qN (m.ah 3)+qN (m.ah 4)))))<=m.cw+1
  have Z:=JN (vQ ac.nd ac.qu.toNat ac.op m.calls);rw[tJ,Em];unfold Cl.cw;omega
 split
 ·rename_i h3
  obtain⟨c1,c2⟩:=ahw M hv hn;unfold acS;rw[if_pos h3];exact⟨by omega,c2⟩
 split
 ·have I:∀j,((m.pick ac.at_.toNat (decide (ac.kd≠5)) (decide (ac.kd=6))).ah j).turn=(m.ah j).turn:=λj=>by
   unfold Cl.pick
   split
   ·rfl
   dsimp only
   split
   ·rename_i l hl _
    obtain⟨ib,e⟩:=Bj (if decide (ac.kd=6)=true then m else{m with fly:=m.fly.eraseIdx (ac.at_.toNat % m.fly.length)}:Cl) l j;rw[e]
    split<;>rfl
   split<;>rfl
  by_cases J:ac.kd=6
  ·exact keep (c:=1) Z0 I (by unfold acW;rw[if_pos (.inr J)];exact Nat.le_refl _)
  have e6:decide (ac.kd=6)=false:=decide_eq_false J;rw[e6]at I⊢;exact keep (c:=0) ahx I (zero_le _)
 split
 ·exact keep (c:=0) ae2 (λj=>by obtain⟨ib,e⟩:=uf m j;rw[e]) (zero_le _)
 split
 ·unfold Cl.crash
  split
  ·exact keep (c:=0) (JO hn (zero_le _)) (KE E) (zero_le _)
  exact keep (c:=0) (Nat.le_refl _) (λ_=>E) (zero_le _)
 split
 ·unfold Cl.start
  split
  ·exact keep (c:=0) (Nat.le_refl _) (λ_=>E) (zero_le _)
  split
  ·exact keep (c:=0) (Nat.le_refl _) (λ_=>E) (zero_le _)
  refine keep (c:=0) (by rw[EW];exact JO hn (zero_le _)) (λj=>?_) (zero_le _);rw[DW];refine KE ?_ j;rfl
 unfold Cl.move
 split
 ·exact keep (c:=0) (Nat.le_refl _) (λ_=>E) (zero_le _)
 split
 ·exact keep (c:=0) (by rw[Qi];exact Nat.le_refl _) (KE E) (zero_le _)
 exact keep (c:=0) (Nat.le_refl _) (λ_=>E) (zero_le _)
end
def yo (V:Nat->aQ)(g:Gh)(n:Nat):Nat:=if n≠g.o/\(V n).role=3 then 1 else 0
def yq (V:Nat->aQ)(g:Gh):Nat:=g.G.length+o5 (yo V g)+2*(if (V g.o).role=1 then 0 else 1)
section
variable {m w m':Cl}{n q k B d:Nat}{l:bG}{p:bO}{g g':Gh}{b b':aQ}{ac:Ac}{X:Nd}{rs us:List cB}
def Df (I:QI m q g)(I':QI m' q g')(N:g.m<=g'.m)(hn:n<5)(Z:vw m' q=upd (vw m q) n b')
  (h1:n=g.o->b'.ep=(vw m q n).ep/\(b'.role=1\/b'.role=2\/b'.role=3)/\b'.evs.length<=(vw m q n).evs.length+d/\((vw m q n).role=1->b'.role=1))
  (h2:n≠g.o->b'.role=0\/b'.role=4\/(b'.role=3/\b'.ep<g.m/\(vw m q n).role=3)\/(b'.role=1/\b'.ep=(g.m:Int)+1/\(vw m q g.o).role≠1/\b'.evs.length=g.G.length+1)):yq (vw m' q) g'<=yq (vw m q) g+d:=by
 have o5':=I'.o5;have oo:=I.o5;have O:=I'.q9;have J:=I'.uJ;have M:=I'.Aw;have hm:=N;have keep:g'.o≠n->g'.o=g.o:=λe=>by
  rw[Z,upd_ne e]at O M;exact I.top o5' M (by omega)
 by_cases c:n=g.o
 ·obtain⟨a1,a2,a3,a4⟩:=h1 c;subst c;have eV:vw m' q g.o=b':=by rw[Z,upd_same]
  have eo:g'.o=g.o:=by
   by_cases e:g'.o=g.o
   ·exact e
   exact keep e
  have hG:g'.G.length=b'.evs.length:=by rw[<-J,eo,eV]
  have hG0:g.G.length=(vw m q g.o).evs.length:=by rw[I.uJ]
  have hy:o5 (yo (vw m' q) g')=o5 (yo (vw m q) g):=Bl λj _=>by
   unfold yo;rw[eo];by_cases e:j=g.o
   ·rw[e,if_neg (λc=>c.1 E),if_neg (λc=>c.1 E)]
   rw[Z,upd_ne e]
  unfold yq;rw[hy,eo,eV];by_cases c1:(vw m q g.o).role=1
  ·rw[if_pos c1,if_pos (a4 c1)];omega
  rw[if_neg c1];split<;>omega
 have eVo:vw m' q g.o=vw m q g.o:=by rw[Z,upd_ne (λe=>c e.symm)]
 by_cases e:g'.o=n
 ·rw[e]at O J M;rw[Z,upd_same]at O J M
  rcases h2 c with h|h|⟨_,h,_⟩|⟨k1,k2,k3,k5⟩
  ·omega
  ·omega
  ·omega
  have hG:g'.G.length=g.G.length+1:=by rw[<-J,k5]
  have hy:o5 (yo (vw m' q) g')<=o5 (yo (vw m q) g)+1:=by
   refine MK oo (λj hj=>?_) ?_
   ·unfold yo;by_cases ej:j=n
    ·rw[if_neg (λc=>c.1 (ej.trans e.symm))];exact zero_le _
    rw[Z,upd_ne ej]
    split
    ·rename_i c3
     rw[if_pos ⟨hj,c3.2⟩];exact Nat.le_refl _
    exact zero_le _
   unfold yo;split<;>omega
  have hR:(vw m' q g'.o).role=1:=by rw[e,Z,upd_same];exact k1
  unfold yq;rw[if_pos hR,if_neg k3];omega
 have eo:=keep e;have hG:g'.G.length=g.G.length:=by rw[<-J,eo,eVo,I.uJ]
 have hy:o5 (yo (vw m' q) g')<=o5 (yo (vw m q) g)+0:=by
  refine MK hn (λj hj=>?_) ?_
  ·unfold yo;rw[eo,Z,upd_ne hj];exact Nat.le_refl _
  unfold yo;rw[eo,Z,upd_same]
  split
  ·rename_i c3
   rcases h2 c with h|h|⟨_,_,h⟩|⟨h,_⟩
   ·omega
   ·omega
   ·rw[if_pos ⟨c,h⟩];exact Nat.le_refl _
   omega
  exact zero_le _
 unfold yq;rw[eo,eVo];omega
def XA (I:QI m q g)(I':QI m' q g')(N:g.m<=g'.m)(hn:n<5)(M:vw m' q=upd (vw m q) n b')(s:Sm b' (vw m q n)):yq (vw m' q) g'<=yq (vw m q) g:=by
 refine Df (d:=0) I I' N hn M (λe=>?_) λe=>?_
 ·have:=I.Aw;rw[<-e,<-s.role]at this;exact⟨s.ep,this,by rw[s.evs];exact Nat.le_refl _,λh=>by rw[s.role];exact h⟩
 rcases I.mV n hn e with⟨O,_⟩|⟨k,J,Z,k3,k4,_⟩|⟨k,J,_⟩
 ·exact .inl (by rw[s.role];exact O)
 ·exact .inr (.inr (.inl ⟨by rw[s.role];exact J,by rw[s.ep];omega,J⟩))
 exact .inr (.inl (by rw[s.role];exact J))
def aau (I:QI m q g)(I':QI m' q g')(N:g.m<=g'.m)(hn:n<5)(hu:(m.ah n).up=true)(hp:(m.ah n).pend=some p)(hq:p.q=q)(hV:vw m' q=upd (vw m q) n b')(J:b'=p.b (m.ah n).bs\/b'=jl (p.b (m.ah n).bs)):yq (vw m' q) g'<=yq (vw m q) g+yD (some p):=by
 have O:=gT (q:=q) hu;have hpv:tY m q n=some p:=by unfold tY;rw[hp];exact FT hq
 obtain⟨_,hk⟩:=I.lF n hn p hpv
 cases p with
 |serve k evs op num a=>
  have e:k=q:=hq;subst e;obtain⟨k1,k2,k3,_⟩:=hk;have hd:yD (some (bO.serve k evs op num a))=1:=rfl;rw[hd];have hbe:b'.ep=((m.ah n).bs k).ep/\(b'.role=1\/b'.role=2\/b'.role=3)/\b'.evs=evs/\(((m.ah n).bs k).role=1->b'.role=1):=by
   rw[O]at k2;unfold serves at k2
   rcases J with J|J
   ·rw[J];exact⟨E,by show((m.ah n).bs k).role=1\/((m.ah n).bs k).role=2\/((m.ah n).bs k).role=3;omega,E,λh=>h⟩
   rw[J];unfold jl
   split
   ·exact⟨E,.inl E,E,λ_=>E⟩
   rename_i c
   exact⟨E,by show((m.ah n).bs k).role=1\/((m.ah n).bs k).role=2\/((m.ah n).bs k).role=3;omega,E,λh=>h⟩
  obtain⟨e1,e2,e3,e4⟩:=hbe;refine Df I I' N hn hV (λe=>⟨by rw[O];exact e1,e2,?_,by rw[O];exact e4⟩) λe=>absurd k1 e;rw[e3,k3,e,I.uJ,length_append,length_singleton];exact Nat.le_refl _
 |begun k x=>
  obtain⟨j,j1,Z,j3,j4,j5⟩:=hk;have hno:=I.oH j4;have M:b'=x:=by
   rcases J with J|J
   ·exact J
   rw[J];show jl x=x;exact kG (by rw[j1];show(4:Int)≠2;decide)
  exact Df I I' N hn hV (λh=>absurd h hno) λ_=>.inr (.inl (by rw[M,j1]))
 |got k x last=>
  obtain⟨k1,k2,k3⟩:=hk;have hno:n≠g.o:=I.oH (.inr k1);refine Df I I' N hn hV (λh=>absurd h hno) λ_=>?_
  cases last with
  |true=>
   obtain⟨a1,a2,a3,a4,a5⟩:=k3 E;have M:b'=x:=by
    rcases J with J|J
    ·exact J
    rw[J];show jl x=x;exact kG (by rw[a4];show(1:Int)≠2;decide)
   refine .inr (.inr (.inr ⟨by rw[M,a4],by rw[M,a4],by omega,?_⟩));rw[M,a4];show(g.G++[aF]).length=_;simp
  |false=>
   obtain⟨j,a1,_⟩:=k2 E;have hr:x.role=4:=by rw[a1];exact k1
   have M:b'=x:=by
    rcases J with J|J
    ·exact J
    rw[J];show jl x=x;exact kG (by omega)
   exact .inr (.inl (by rw[M];exact hr))
 |fF k x a=>
  obtain⟨ho,j1,Z⟩:=hk;have M:b'=x:=by
   rcases J with J|J
   ·exact J
   rw[J];show jl x=x;exact kG (by rw[Z];show(3:Int)≠2;decide)
  refine Df I I' N hn hV (λ_=>?_) λh=>absurd ho h;rw[M,Z];exact⟨E,.inr (.inr E),le_add_right _ _,λh=>by omega⟩
 |forget k x=>
  obtain⟨j1,Z,j3⟩:=hk;have M:b'=x:=by
   rcases J with J|J
   ·exact J
   rw[J];show jl x=x;exact kG (by rw[Z];show(0:Int)≠2;decide)
  exact Df I I' N hn hV (λh=>by have:=I.q9;rw[<-h]at this;omega) λ_=>.inl (by rw[M,Z])
def arP (I:QI m q g)(I':QI m' q g')(N:g.m<=g'.m)(hn:n<5)(M:vw m' q=upd (vw m q) n (jl (vw m q n))):yq (vw m' q) g'<=yq (vw m q) g:=by
 refine Df (d:=0) I I' N hn M (λe=>?_) λe=>?_
 ·have:=I.Aw;rw[<-e]at this;unfold jl
  split
  ·exact⟨E,.inl E,Nat.le_refl _,λ_=>E⟩
  exact⟨E,this,Nat.le_refl _,λh=>h⟩
 rcases I.mV n hn e with⟨O,_⟩|⟨k,J,Z,k3,k4,_⟩|⟨k,J,_⟩
 ·exact .inl (by rw[kG (by omega)];exact O)
 ·exact .inr (.inr (.inl ⟨by rw[kG (by omega)];exact J,by rw[kG (by omega)];omega,J⟩))
 exact .inr (.inl (by rw[kG (by omega)];exact J))
end
def Cl.F8 (m:Cl):Nat:=o5 λn=>if (m.ah n).up=true then 0 else 1
noncomputable def YY (m:Cl)(G:Nat->Gh):Nat:=2*m.c0+(yq (vw m 0) (G 0)+yq (vw m 1) (G 1))+2*m.F8
def yA (a:Ac):Nat:=if a.kd=2\/a.kd=6\/a.kd=8\/a.kd=10 then 2 else 0
section
variable {m w m':Cl}{n q k B d:Nat}{l:bG}{p:bO}{g g':Gh}{G G':Nat->Gh}{b b':aQ}{ac:Ac}{X:Nd}{rs us:List cB}
def EX (h:∀j,j<5->(m'.ah j).up=(m.ah j).up):m'.F8=m.F8:=Bl λj I=>by rw[h j I]
def aav (I:jM l):(w.come l).c0<=w.c0+bM l:=by
 have h:=Z6 (w:=w) (f:=bM) F6 I;have hs:∀j,((w.come l).ah j).pend=(w.ah j).pend:=λj=>by obtain⟨J,e⟩:=Bj w l j;rw[e]
 unfold Cl.c0;rw[hs,hs,hs,hs,hs];omega
def LA (f:bG->Nat):∀(a:List bG) (i:Nat) (l:bG),a[i]? =some l->dI f (a.eraseIdx i)+f l=dI f a
 |[],i,l,h=>by cases h
 |x::a,0,l,h=>by cases h;rw[eraseIdx_cons_zero,dI];omega
 |x::a,i+1,l,h=>by
  rw[eraseIdx_cons_succ,dI,dI];have:=LA f a i l (by simpa using h);omega
def afl (l:bG):bM l<=1:=by unfold bM;split<;>omega
def alK {at_:Nat}{c s:Bool}(J:∀l∈w.fly,jM l):(w.pick at_ c s).c0<=w.c0+if s=true then 1 else 0:=by
 unfold Cl.pick
 split
 ·exact le_add_right _ _
 rename_i l I
 have h:=J l (mem_of_getElem? I);have h1:=afl l;have he:({w with fly:=w.fly.eraseIdx (at_ % w.fly.length)}:Cl).c0+bM l=w.c0:=by
  have:=LA bM _ _ _ I;unfold Cl.c0 Cl.ws;dsimp only;omega
 cases s with
 |true=>
  simp only[if_true]
  split
  ·have:=aav (w:=w) h;omega
  exact le_add_right _ _
 |false=>
  simp only[Bool.false_eq_true,if_false]
  split
  ·have:=aav (w:={w with fly:=w.fly.eraseIdx (at_ % w.fly.length)}) h;omega
  omega
def arQ (I:∀l∈m.fly,jM l):m.all.c0<=m.c0:=by
 have J:m.all.ws bM<=m.ws bM:=CG F6 I;have h:∀j,(m.all.ah j).pend=(m.ah j).pend:=λj=>by obtain⟨M,e⟩:=uf m j;rw[e]
 unfold Cl.c0;rw[h,h,h,h,h];omega
def alL {T S dV K:Nat}(hB:bY m T S dV K)(hn:n<5)(Z:(m.ah n).up=true):(m.step n).c0+yD (m.ah n).pend<=m.c0/\((m.ah n).pend=none-> ∀q,Sm (((m.step n).ah n).bs q) ((m.ah n).bs q))/\((m.step n).ah n).up=true:=by
 obtain⟨rs,us,hU⟩:=(hB.iE n hn).sG Z;have I:=λj (M:j≠n)=>oM (m:=m) hB hn M
 cases hp:(m.ah n).pend with
 |some p=>
  obtain⟨h1,h2,O⟩:=hU.FN p hp;obtain⟨_,hf⟩:=iL hU.tape hU.kX h2 O;obtain⟨dB,y1,y2,y3,y4,y5,y6,y7,y8,_⟩:=zK E Z hp O hf h2;have eY:(m.step n).ah n=dB:=by rw[y1,upd_same]
  obtain⟨new,hfl,J⟩:=Qn Z hp h2;have hw:(m.step n).ws bM+0<=m.ws bM:=oI hn I (by rw[eY,y7]) hfl λx hx=>rZ (J x hx).1;refine⟨Db (d:=0) hn I hw (by rw[eY,y5,hp];show 0+_<=_;omega),(λh=>nomatch h),by rw[eY];exact y6⟩
 |none=>
  have key:=qy (n:=n) (λw=>Ru m n rs w/\w.c0<=m.c0/\ ∀q,Sm ((w.ah n).bs q) ((m.ah n).bs q)) (λw l r ⟨H,A,A2⟩ hp1 hin=>by
   obtain⟨h1,h2,O,h4⟩:=qz (λl hl=>l9 (hB.iO n hn l hl)) H hp1 hin;have e0:(w.put n ((w.ah n).box r)).ah n=(w.ah n).box r:=aW _;have hot:∀j,j≠n->(w.put n ((w.ah n).box r)).ah j=w.ah j:=λj M=>upd_ne M;have hws:(w.put n ((w.ah n).box r)).ws bM+bM l<=w.ws bM:=FW hn (λj M=>by rw[hot j M]) (by
    rw[e0,hin]
    show dI bM w.fly+dI bM r+bM l<=dI bM w.fly+(bM l+dI bM r)
    omega)
   have c1:=Db (d:=bM l) (d':=bM l) hn hot hws (by rw[e0];show yD (w.ah n).pend+_<=_;omega);have hu2:((w.put n ((w.ah n).box r)).ah n).up=true:=by rw[e0];exact H.up
   have hp2:((w.put n ((w.ah n).box r)).ah n).pend=none:=by rw[e0];exact hp1
   obtain⟨hbs,SY⟩:=Wz hu2 hp2 O;obtain⟨new,hf,J⟩:=Jp hu2 O;have lH:=jV (m:=w.put n ((w.ah n).box r)) (n:=n) (l:=l) h1.1;have hw2:((w.put n ((w.ah n).box r)).handle n l).ws bM+0<=(w.put n ((w.ah n).box r)).ws bM:=oI hn lH.mV lH.iO hf λx hx=>rZ (J x hx).1;have hs:yD (((w.put n ((w.ah n).box r)).handle n l).ah n).pend<=bM l:=by
    rcases SY with⟨h1,_⟩|⟨p,h1,h2,O,h4,h5,h6⟩
    ·rw[h1];exact zero_le _
    rw[h1]
    cases p with
    |serve k evs op num a=>rw[show bM l=1 from if_pos h5.1];exact Nat.le_refl _
    |_=>exact zero_le _
   have c2:((w.put n ((w.ah n).box r)).handle n l).c0<=(w.put n ((w.ah n).box r)).c0+bM l:=by
    have I:=lH.mV;unfold Cl.c0
    rcases five hn with rfl|rfl|rfl|rfl|rfl
    ·rw[I 1 (by decide),I 2 (by decide),I 3 (by decide),I 4 (by decide)];omega
    ·rw[I 0 (by decide),I 2 (by decide),I 3 (by decide),I 4 (by decide)];omega
    ·rw[I 0 (by decide),I 1 (by decide),I 3 (by decide),I 4 (by decide)];omega
    ·rw[I 0 (by decide),I 1 (by decide),I 2 (by decide),I 4 (by decide)];omega
    rw[I 0 (by decide),I 1 (by decide),I 2 (by decide),I 3 (by decide)];omega
   refine⟨h1.1,h4,by omega,λq=>(WE O q).trans ?_⟩;rw[e0];exact A2 q) _ m E ⟨C8 Z ⟨_,hU⟩,Nat.le_refl _,λ_=>.refl _⟩
  obtain⟨H,A,A2⟩:=key;have es:=jq Z hp
  show(m.step n).c0+0<=_/\_
  by_cases c:((m.more n).ah n).pend=none
  ·rw[if_pos c]at es;have e1:(m.step n).ah n={ (m.more n).ah n with turn:=((m.more n).ah n).turn+1}:=by
    rw[es]
    show upd (m.more n).ah n _ n=_
    exact upd_same _ _ _
   have hc:((m.more n).jU n).c0<=(m.more n).c0:=by
    have:=Db (m:=m.more n) (m':=(m.more n).jU n) (d:=0) (d':=0) hn (λj M=>upd_ne M) (Um hn) (by
     show yD (upd (m.more n).ah n _ n).pend+0<=_
     rw[upd_same];exact Nat.le_refl _)
    exact this
   refine⟨by rw[es];omega,λ_ q=>by rw[e1];exact A2 q,by rw[e1];exact H.up⟩
  rw[if_neg c]at es;exact⟨by rw[es];omega,λ_ q=>by rw[es];exact A2 q,by rw[es];exact H.up⟩
def zy {u:Nat}(h:∀q,q<2->yq (vw m' q) (G' q)<=yq (vw m q) (G q)+(if q=k then d else 0))(M:k<2)(O:2*m'.c0+d+2*m'.F8<=2*m.c0+2*m.F8+u):YY m' G'<=YY m G+u:=by
 have J:=h 0 (by decide);have h1:=h 1 (by decide);have I:k=0\/k=1:=by omega
 unfold YY
 rcases I with rfl|rfl
 ·rw[if_pos E]at J;rw[if_neg (by decide)]at h1;omega
 rw[if_neg (by decide)]at J;rw[if_pos E]at h1;omega
def vO (I:QI m q g)(I':QI m' q g')(N:g.m<=g'.m)(h:vw m' q=vw m q):yq (vw m' q) g'<=yq (vw m q) g:=
 XA (n:=0) (b':=vw m q 0) I I' N (by decide) (by rw[h];exact(aC E).symm) (.refl _)
def alM {T S dV K:Nat}(hQ:∀q,q<2->QI m q (G q))(I:∀q,q<2->QI (m.step n) q (G' q))(N:∀q,q<2->(G q).m<=(G' q).m)(hv:Vd m)(hB:bY m T S dV K)(hn:n<5):YY (m.step n) G'<=YY m G:=by
 have J:=λj (hj:j≠n)=>oM (m:=m) hB hn hj
 cases M:(m.ah n).up with
 |false=>
  have e:=mG M;refine zy (k:=0) (d:=0) (u:=0) (λq h=>?_) (by decide) (by rw[e];exact Nat.le_refl _);have:=vO (hQ q h) (I q h) (N q h) (by rw[e]);omega
 |true=>
  obtain⟨c1,c2,c3⟩:=alL hB hn M;have hdn:(m.step n).F8=m.F8:=EX λj _=>by
   by_cases e:j=n
   ·rw[e,c3,M]
   rw[J j e]
  have O:∀q,vw (m.step n) q=upd (vw m q) n (((m.step n).ah n).bs q):=λq=>by
   funext j
   by_cases e:j=n
   ·subst e;rw[upd_same,gT c3]
   rw[upd_ne e];unfold vw;rw[J j e]
  cases Z:(m.ah n).pend with
  |none=>
   rw[Z]at c1;refine zy (k:=0) (d:=0) (u:=0) (λq h=>?_) (by decide) (by have:yD none=0:=rfl;omega);have:=XA (hQ q h) (I q h) (N q h) hn (O q) (by rw[gT M];exact c2 Z q);omega
  |some p=>
   rw[Z]at c1;obtain⟨rs,us,hU⟩:=(hB.iE n hn).sG M;obtain⟨h1,h2,h3⟩:=hU.FN p Z;obtain⟨_,hf⟩:=iL hU.tape hU.kX h2 h3;obtain⟨dB,y1,y2,_⟩:=zK E M Z h3 hf h2;have eY:(m.step n).ah n=dB:=by rw[y1,upd_same]
   have hpq:=hv.lF n hn p Z;refine zy (k:=p.q) (d:=yD (some p)) (u:=0) (λq h=>?_) hpq (by omega);by_cases e:q=p.q
   ·rw[if_pos e];exact aau (hQ q h) (I q h) (N q h) hn M Z e.symm (O q) (.inl (by rw[eY,y2,e,upd_same]))
   rw[if_neg e];exact XA (hQ q h) (I q h) (N q h) hn (O q) (by rw[gT M,eY,y2,upd_ne e];exact .refl _)
def ahy {keep:Int}{T S dV K:Nat}(hQ:∀q,q<2->QI m q (G q))(J:∀q,q<2->QI (m.crash n keep) q (G' q))(N:∀q,q<2->(G q).m<=(G' q).m)(hv:Vd m)(hB:bY m T S dV K)(hn:n<5)(hk:0<=keep):YY (m.crash n keep) G'<=YY m G+2:=by
 cases hu:(m.ah n).up with
 |false=>
  have e:m.crash n keep=m:=by unfold Cl.crash;rw[if_neg (by rw[hu];simp)]
  rw[e]at J⊢;refine zy (k:=0) (d:=0) (λq I=>by have:=vO (hQ q I) (J q I) (N q I) E;omega) (by decide) (by omega)
 |true=>
  have e:m.crash n keep=m.put n ((m.ah n).crashed keep):=by unfold Cl.crash;rw[if_pos hu];rfl
  rw[e]at J⊢;obtain⟨rs,us,hU⟩:=(hB.iE n hn).sG hu;obtain⟨rs',t,f,hd,hf⟩:=ES hU hk;have M:(m.put n ((m.ah n).crashed keep)).ah=upd m.ah n ((m.ah n).crashed keep):=rfl;have hvw:∀q,q<2->vw (m.put n ((m.ah n).crashed keep)) q=upd (vw m q) n (f q):=λq I=>by rw[pX M,show((m.ah n).crashed keep).view q=f q from hd.view E (by omega)]
  have eN:(m.put n ((m.ah n).crashed keep)).ah n=(m.ah n).crashed keep:=aW _;have hc:(m.put n ((m.ah n).crashed keep)).c0+yD (m.ah n).pend<=m.c0:=by
   refine Db (d:=0) hn (λj hj=>upd_ne hj) (FW hn (λj hj=>by rw[M,upd_ne hj]) ?_) ?_
   ·rw[eN];show dI bM m.fly+dI bM []+0<=_;rw[dI];omega
   rw[eN];show yD none+_<=_;have:yD none=0:=rfl;omega
  have hdn:(m.put n ((m.ah n).crashed keep)).F8<=m.F8+1:=MK hn (λj hj=>by rw[M,upd_ne hj];exact Nat.le_refl _) (by split<;>omega);have O:∀q,q<2->f q=jl ((m.ah n).bs q)->yq (vw (m.put n ((m.ah n).crashed keep)) q) (G' q)<=yq (vw m q) (G q):=λq I h=>arP (hQ q I) (J q I) (N q I) hn (by rw[hvw q I,h,gT hu])
  cases hp:(m.ah n).pend with
  |none=>
   refine zy (k:=0) (d:=0) (λq I=>?_) (by decide) (by omega)
   rcases hf q (by omega)with h|⟨p,h,_⟩
   ·have:=O q I h;omega
   rw[hp]at h;cases h
  |some p=>
   rw[hp]at hc;have hpq:=hv.lF n hn p hp;refine zy (k:=p.q) (d:=yD (some p)) (λq I=>?_) hpq (by omega)
   rcases hf q (by omega)with h|⟨p',h,h2,h3⟩
   ·have:=O q I h;omega
   rw[hp]at h
   cases h;rw[if_pos h2.symm]
   rcases h3 with h3|h3|⟨Z,b,last,j,h4,h5,_⟩
   ·rw[h2]at h3;have:=O q I h3;omega
   ·exact aau (hQ q I) (J q I) (N q I) hn hu hp h2 (hvw q I) (.inr h3)
   subst h4;have e2:Z=q:=h2;subst e2;have hpv:tY m Z n=some (.got Z b last):=by unfold tY;rw[hp];exact FT E
   obtain⟨_,hk1,_⟩:=(hQ Z I).lF n hn _ hpv;have hno:n≠(G Z).o:=(hQ Z I).oH (.inr hk1);have:=Df (d:=0) (hQ Z I) (J Z I) (N Z I) hn (hvw Z I) (λh=>absurd h hno) λ_=>.inr (.inl (by rw[h5];rw[gT hu]at hk1;exact hk1));omega
def ahz {T S dV K:Nat}(hQ:∀q,q<2->QI m q (G q))(O:∀q,q<2->QI (m.start n) q (G' q))(N:∀q,q<2->(G q).m<=(G' q).m)(hB:bY m T S dV K)(hn:n<5):YY (m.start n) G'<=YY m G:=by
 have same:m.start n=m->YY (m.start n) G'<=YY m G:=λe=>by
  rw[e]at O⊢;exact zy (k:=0) (d:=0) (u:=0) (λq J=>by have:=vO (hQ q J) (O q J) (N q J) E;omega) (by decide) (by omega)
 rcases sM (hB.iE n hn)with⟨_,e⟩|⟨hu,rs,t,f,hd,e|⟨ws,e1,e2,e3,W,e5,e6,e7⟩⟩
 ·exact same e
 ·exact same e
 have eX:=W.ah;rw[aW]at eX;have M:=congrFun eX n;rw[upd_same]at M;have I:∀j,j≠n->(m.start n).ah j=m.ah j:=λj hj=>by rw[eX,upd_ne hj];exact upd_ne hj
 have hc:(m.start n).c0+0<=m.c0:=by
  refine Db (d:=0) hn I (FW hn (λj hj=>by rw[I j hj]) ?_) ?_
  ·rw[M,W.fly];show dI bM m.fly+dI bM []+0<=_;rw[dI];omega
  rw[M];show yD none+0<=_;exact zero_le _
 have hdn:(m.start n).F8+1<=m.F8:=Xy hn (λj hj=>by rw[I j hj]) (by rw[M,if_pos E,hu];decide);have hy:∀q,q<2->yq (vw (m.start n) q) (G' q)<=yq (vw m q) (G q)+1:=λq J=>by
  have hin:q∈[0,1,2,3]:=by
   have h:q=0\/q=1:=by omega
   rcases h with rfl|rfl<;>decide
  have Z:vw m q n=bg (m.ah n).data (m.ah n).syn q:=by unfold vw Nd.view;rw[if_neg (by rw[hu];simp)]
  have hV:vw (m.start n) q=upd (vw m q) n (if q∈[0,1,2,3]/\(bg (m.ah n).data (m.ah n).syn q).role=1 then iy (bg (m.ah n).data (m.ah n).syn q)else bg (m.ah n).data (m.ah n).syn q):=by
   funext j
   by_cases e:j=n
   ·subst e;rw[upd_same];unfold vw;rw[M,dJ E]
   rw[upd_ne e];unfold vw;rw[I j e]
  by_cases hr:(bg (m.ah n).data (m.ah n).syn q).role=1
  ·rw[if_pos ⟨hin,hr⟩]at hV;have ho:n=(G q).o:=(hQ q J).who hn (by rw[Z];exact .inl hr);refine Df (hQ q J) (O q J) (N q J) hn hV (λ_=>?_) λh=>absurd ho h;rw[Z];exact⟨E,.inl E,by show(_++[aF]).length<=_;rw[length_append];exact Nat.le_refl _,λ_=>E⟩
  rw[if_neg (λc=>hr c.2)]at hV;have:=XA (hQ q J) (O q J) (N q J) hn hV (by rw[Z];exact .refl _);omega
 have h0:=hy 0 (by decide);have h1:=hy 1 (by decide);unfold YY;omega
def aaw {tg:Int}(h:(uw b tg).2=0):(uw b tg).1.role=2:=by
 unfold uw at h⊢;by_cases c1:aj b≠0
 ·rw[if_pos c1]at h;exact absurd h c1
 rw[if_neg c1]at h⊢;by_cases c2:¬(0<=tg/\tg<=4)
 ·rw[if_pos c2]at h;exact absurd h (by decide)
 rw[if_neg c2]at h⊢;by_cases c3:b.role=2\/b.role=3
 ·rw[if_pos c3]at h;exact absurd h (by decide)
 rw[if_neg c3]at h⊢;by_cases c4:b.role≠1
 ·rw[if_pos c4]at h;exact absurd h (by decide)
 rw[if_neg c4]at h⊢;by_cases c5:b.ep=1048576
 ·rw[if_pos c5]at h;exact absurd h (by decide)
 rw[if_neg c5]
def alN {q':Nat}{tg:Int}{T S dV K:Nat}(hQ:∀q,q<2->QI m q (G q))(hQ':∀q,q<2->QI (m.move q' tg) q (G' q))(N:∀q,q<2->(G q).m<=(G' q).m)(hB:bY m T S dV K)(hq':q'<2):YY (m.move q' tg) G'<=YY m G+2:=by
 have hL:=λq (hq:q<2)=>TL (q':=q') (tg:=tg) (hQ q hq) hB (by omega) (by omega);have key:∀q,q<2->yq (vw (m.move q' tg) q) (G q)<=yq (vw m q) (G q)+(if q=q' then 2 else 0):=λq hq=>by
  have I:=hQ q hq;have I2:=(hL q hq).1;unfold Cl.move at I2⊢
  split
  ·omega
  rename_i h0
  rw[if_neg h0]at I2
  split
  ·rename_i h1
   rw[if_pos h1]at I2;have hu:(m.ah (aI m.off q').1.node.toNat).up=true:=by
    cases e:(m.ah (aI m.off q').1.node.toNat).up with
    |true=>rfl
    |false=>exact absurd (.inr (.inr e)) h0
   have hV:∀j,vw (m.aA (aI m.off q').1.node.toNat q' (uw ((m.ah (aI m.off q').1.node.toNat).bs q') tg).1) q j=if j=(aI m.off q').1.node.toNat/\q=q' then(uw ((m.ah (aI m.off q').1.node.toNat).bs q') tg).1 else vw m q j:=λj=>by
    by_cases e:j=(aI m.off q').1.node.toNat
    ·unfold vw;rw[e,show ∀b,(m.aA (aI m.off q').1.node.toNat q' b).ah (aI m.off q').1.node.toNat=(m.ah (aI m.off q').1.node.toNat).aA q' b from λb=>aW _];rw[show ∀b,((m.ah (aI m.off q').1.node.toNat).aA q' b).view=((m.ah (aI m.off q').1.node.toNat).aA q' b).bs from λb=>dJ hu,dJ hu];by_cases e2:q=q'
     ·rw[if_pos ⟨E,e2⟩,e2];exact upd_same _ _ _
     rw[if_neg (λc=>e2 c.2)];exact upd_ne e2
    rw[if_neg (λc=>e c.1)];unfold vw;rw[show ∀b,(m.aA (aI m.off q').1.node.toNat q' b).ah j=m.ah j from λb=>upd_ne e]
   have qD:∀j,j<5->yo (vw (m.aA (aI m.off q').1.node.toNat q' (uw ((m.ah (aI m.off q').1.node.toNat).bs q') tg).1) q) (G q) j<=yo (vw m q) (G q) j:=λj hj=>by
    unfold yo;rw[hV];by_cases c2:j=(aI m.off q').1.node.toNat/\q=q'
    ·rw[if_pos c2,if_neg (λc=>absurd c.2 (by rw[aaw h1.1];decide))];exact zero_le _
    rw[if_neg c2];exact Nat.le_refl _
   have h5:o5 (yo (vw (m.aA (aI m.off q').1.node.toNat q' (uw ((m.ah (aI m.off q').1.node.toNat).bs q') tg).1) q) (G q))<=o5 (yo (vw m q) (G q)):=by
    have:=qD 0 (by decide);have:=qD 1 (by decide);have:=qD 2 (by decide);have:=qD 3 (by decide);have:=qD 4 (by decide);unfold o5;omega
   unfold yq;by_cases e:q=q'
   ·rw[if_pos e];split<;>split<;>omega
   have hVo:=hV (G q).o;rw[if_neg (λc=>e c.2)]at hVo;rw[if_neg e,hVo];omega
  omega
 refine zy (k:=q') (d:=2) (λq hq=>?_) hq' ?_
 ·have h1:=key q hq;have h2:=vO (hL q hq).1 (hQ' q hq) (N q hq) E;omega
 have hc:(m.move q' tg).c0=m.c0/\(m.move q' tg).F8=m.F8:=by
  unfold Cl.move
  split
  ·exact⟨E,E⟩
  split
  ·have hk:∀n b j,((m.aA n q' b).ah j).inbox=(m.ah j).inbox/\((m.aA n q' b).ah j).pend=(m.ah j).pend/\((m.aA n q' b).ah j).up=(m.ah j).up:=λn b j=>by
    by_cases e:j=n
    ·rw[e,show(m.aA n q' b).ah n=(m.ah n).aA q' b from aW _];exact⟨E,E,E⟩
    rw[show(m.aA n q' b).ah j=m.ah j from upd_ne e];exact⟨E,E,E⟩
   refine⟨?_,EX λj _=>(hk _ _ j).2.2⟩;unfold Cl.c0 Cl.ws;rw[(hk _ _ 0).1,(hk _ _ 1).1,(hk _ _ 2).1,(hk _ _ 3).1,(hk _ _ 4).1,(hk _ _ 0).2.1,(hk _ _ 1).2.1,(hk _ _ 2).2.1,(hk _ _ 3).2.1,(hk _ _ 4).2.1];rfl
  exact⟨E,E⟩
 omega
def aib (h:ac.kd=2\/ac.kd=6\/ac.kd=8\/ac.kd=10):yA ac=2:=if_pos h
def arR (hL:∀q,q<2->LW m q (G q) k)(hv:Vd m)(J:Bs m k)(ha:vG ac)(h1:ac.kd≠1)(hqu:ac.qu<2)(hk:k<=540):∃G':Nat->Gh,(∀q,q<2->LW (m.act ac) q (G' q) (k+1))/\YY (m.act ac) G'<=YY m G+yA ac:=by
 obtain⟨G',M⟩:=RJ (Q:=λq g'=>LW (m.act ac) q g' (k+1)/\(G q).m<=g'.m) λq I=>by
  obtain⟨g',O,h3⟩:=Qg (hL q I) J ha h1 (by omega) hk;exact⟨g',O,h3.mle⟩
 refine⟨G',λq I=>(M q I).1,?_⟩;have hQ:=λq I=>(hL q I).qi;have h:=λq I=>(M q I).1.qi;have N:=λq I=>(M q I).2;obtain⟨a1,a2,a3,a4,a5,a6⟩:=ha;have hn:ac.nd.toNat<5:=by omega
 clear M;unfold Cl.act at h⊢;rw[if_neg h1]at h⊢;by_cases O:ac.kd=2
 ·rw[if_pos O]at h⊢;refine zy (k:=0) (d:=0) (λq I=>by have:=vO (hQ q I) (h q I) (N q I) E;omega) (by decide) ?_;rw[aib (.inl O)];have:({m with fly:=m.fly++[vQ ac.nd ac.qu.toNat ac.op m.calls],calls:=m.calls+1}:Cl).c0<=m.c0+1:=by
   have:=afl (vQ ac.nd ac.qu.toNat ac.op m.calls);unfold Cl.c0 Cl.ws;dsimp only;rw[uU,Kr];omega
  have Z:({m with fly:=m.fly++[vQ ac.nd ac.qu.toNat ac.op m.calls],calls:=m.calls+1}:Cl).F8=m.F8:=rfl;omega
 rw[if_neg O]at h⊢;by_cases h3:ac.kd=3
 ·rw[if_pos h3]at h⊢;exact Nat.le_trans (alM hQ h N hv J hn) (le_add_right _ _)
 rw[if_neg h3]at h⊢;by_cases h4:ac.kd=4\/ac.kd=5\/ac.kd=6
 ·rw[if_pos h4]at h⊢;refine zy (k:=0) (d:=0) (λq I=>by have:=vO (hQ q I) (h q I) (N q I) (TK (hQ q I) J.mR (by omega)).2;omega) (by decide) ?_;have hc:=alK (w:=m) (at_:=ac.at_.toNat) (c:=decide (ac.kd≠5)) (s:=decide (ac.kd=6)) J.mR;have Z:(m.pick ac.at_.toNat (decide (ac.kd≠5)) (decide (ac.kd=6))).F8=m.F8:=EX λj _=>by
   unfold Cl.pick
   split
   ·rfl
   dsimp only
   split
   ·rename_i l hl _
    obtain⟨ib,e⟩:=Bj (if decide (ac.kd=6)=true then m else{m with fly:=m.fly.eraseIdx (ac.at_.toNat % m.fly.length)}:Cl) l j;rw[e]
    split<;>rfl
   split<;>rfl
  by_cases h6:ac.kd=6
  ·rw[aib (.inr (.inl h6))]
   split at hc<;>omega
  rw[if_neg (by simpa using h6)]at hc;omega
 rw[if_neg h4]at h⊢;by_cases h7:ac.kd=7
 ·rw[if_pos h7]at h⊢;refine zy (k:=0) (d:=0) (λq I=>by have:=vO (hQ q I) (h q I) (N q I) (Qf (hQ q I) J.mR (by omega)).2;omega) (by decide) ?_;have hc:=arQ J.mR;have Z:m.all.F8=m.F8:=EX λj _=>by obtain⟨ib,e⟩:=uf m j;rw[e]
  omega
 rw[if_neg h7]at h⊢;by_cases h8:ac.kd=8
 ·rw[if_pos h8]at h⊢;rw[aib (.inr (.inr (.inl h8)))];exact ahy hQ h N hv J hn a5.1
 rw[if_neg h8]at h⊢;by_cases h9:ac.kd=9
 ·rw[if_pos h9]at h⊢;exact Nat.le_trans (ahz hQ h N J hn) (le_add_right _ _)
 rw[if_neg h9]at h⊢;rw[aib (.inr (.inr (.inr (by omega))))];exact alN hQ h N J (by omega)
end
def oz (f:Ac->Nat):List Ac->Nat
 |[]=>0
 |a::l=>f a+oz f l
section
variable {m w m':Cl}{n q k B d:Nat}{l:bG}{p:bO}{g g':Gh}{G G':Nat->Gh}{b b':aQ}{ac:Ac}{X:Nd}{rs us:List cB}
def AP (f:Ac->Nat):∀(a b:List Ac),oz f (a++b)=oz f a+oz f b
 |[],b=>by simp[oz]
 |x::a,b=>by rw[cons_append,oz,oz,AP f a b];omega
def GY (h:X.sure=λ_=>false){d:Dir}:GX X d:=λq _ hs=>by rw[h]at hs;cases hs
def arS {kk:Nat}(hQ:∀q,q<2-> ∃g,QI m q g)(hv:Vd m)(hB:Bs m kk)(ha:vG ac)(h1:ac.kd≠1)(h:Su m):Su (m.act ac):=by
 obtain⟨a1,a2,a3,a4,a5,a6⟩:=ha;have hn:ac.nd.toNat<5:=by omega
 unfold Cl.act;rw[if_neg h1]
 split
 ·exact⟨h.iE,h.two,h.tre⟩
 split
 ·exact Qo hQ hv hB hn h
 split
 ·unfold Cl.pick
  split
  ·exact h
  rename_i l hl
  have hs:Su (if decide (ac.kd=6)=true then m else{m with fly:=m.fly.eraseIdx (ac.at_.toNat % m.fly.length)}:Cl):=by
   split
   ·exact h
   exact⟨h.iE,h.two,h.tre⟩
  dsimp only
  split
  ·exact aak hs (hv.fly l (mem_of_getElem? hl))
  exact hs
 split
 ·exact WC h hv
 split
 ·unfold Cl.crash
  split
  ·exact h.at_ (n:=ac.nd.toNat) (λj hj=>upd_ne hj) E (by rw[aW];exact GY E)
  exact h
 split
 ·rcases sM (hB.iE _ hn)with⟨_,e⟩|⟨hu,rs,t,f,hd,e|⟨ws,e1,e2,e3,W,e5,e6,e7⟩⟩
  ·rw[e];exact h
  ·rw[e];exact h
  have eX:=W.ah;rw[aW]at eX;have eX2:=congrFun eX ac.nd.toNat;rw[upd_same]at eX2;refine h.at_ (n:=ac.nd.toNat) (λj hj=>by rw[eX,upd_ne hj];exact upd_ne hj) W.off ?_;rw[eX2];exact GY E
 unfold Cl.move
 split
 ·exact h
 split
 ·rename_i hg
  refine h.at_ (n:=(aI m.off ac.qu.toNat).1.node.toNat) (λj hj=>upd_ne hj) E ?_;by_cases c:(aI m.off ac.qu.toNat).1.node.toNat<5
  ·rw[show(m.aA (aI m.off ac.qu.toNat).1.node.toNat ac.qu.toNat _).ah (aI m.off ac.qu.toNat).1.node.toNat=_ from aW _];exact yw (h.iE _ c) E E λc2=>absurd c2 (by rw[aaw hg.1];decide)
  intro q hq hs hr
  exfalso
  have hw:(aI m.off ac.qu.toNat).2=0:=Classical.byContradiction λe=>by rename_i h0;exact h0 (.inl e)
  have:=(nI (d:=m.off) (q:=ac.qu.toNat) (λe=>e hw)).1;omega
 exact h
def afm:∀(l:List Ac) {m:Cl} {k:Nat} {G:Nat->Gh},(∀q,q<2->LW m q (G q) k)->Vd m->Bs m k->Su m->(∀a∈l,vG a/\a.kd≠1/\a.qu<2)->k+l.length<=540->
  ∃G':Nat->Gh,(∀q,q<2->LW (m.run l) q (G' q) (k+l.length))/\Vd (m.run l)/\Bs (m.run l) (k+l.length)/\Su (m.run l)/\YY (m.run l) G'<=YY m G+oz yA l/\(m.run l).cw+m.aS<=m.cw+(m.run l).aS+oz acW l/\(m.run l).tS<=m.tS+oz acS l
 |[],m,k,G,I,hv,h,J,_,_=>⟨G,I,hv,h,J,Nat.le_refl _,Nat.le_refl _,Nat.le_refl _⟩
 |a::l,m,k,G,I,hv,h,J,M,Z=>by
  rw[length_cons]at Z;obtain⟨a1,a2,a3⟩:=M a mem_cons_self;obtain⟨G1,h1,y1⟩:=arR I hv h a1 a2 a3 (by omega);obtain⟨c1,t1⟩:=alJ h hv a1 a2;obtain⟨O,h2,v2,b2,s2,y2,c2,t2⟩:=afm l h1 (Wn hv h a1 a2 a3) (xW h a1 (by omega)) (arS (λq hq=>⟨_,(I q hq).qi⟩) hv h a1 a2 J) (λx hx=>M x (mem_cons_of_mem _ hx)) (by omega);rw[length_cons,show k+(l.length+1)=k+1+l.length by omega];refine⟨O,h2,v2,b2,s2,?_,?_,?_⟩
  ·show YY ((m.act a).run l) O<=_;rw[oz];omega
  ·show((m.act a).run l).cw+_<=_+((m.act a).run l).aS+_;rw[oz];omega
  show((m.act a).run l).tS<=_;rw[oz];omega
def arT (I:QI m q g)(I':QI m q g')(h:g.m<=g'.m):g'.m=g.m:=by
 have h1:=I'.q9;have J:=I'.Aw;have e:=I.top I'.o5 J (by omega);have M:=I.q9;rw[e]at h1;omega
def aax (I:QI m q g)(I':QI m q g'):yq (vw m q) g'<=yq (vw m q) g:=by
 refine vO I I' ?_ E;by_cases c:g.m<=g'.m
 ·exact c
 have:=arT I' I (by omega);omega
def alO (h:∀q,q<2->QI m q (G q))(I:∀q,q<2->QI m q (G' q)):YY m G'<=YY m G:=by
 have J:=aax (h 0 (by decide)) (I 0 (by decide));have h1:=aax (h 1 (by decide)) (I 1 (by decide));unfold YY;omega
def axq (R:Rm m G B):ZZ m (FF m G)+9<=8*YY m G+94+2*m.cw:=by
 have hst:m.ws (fI (FF m G))<=m.cw:=by
  have h1:∀l:bG,fI (FF m G) l<=FU l:=λl=>by
   unfold fI FU
   split
   ·rename_i c
    rw[if_pos (by omega)];exact Nat.le_refl _
   exact zero_le _
  have h:∀a:List bG,dI (fI (FF m G)) a<=om a:=by
   intro a
   induction a with
   |nil=>exact Nat.le_refl _
   |cons l r ih=>have:=h1 l;rw[dI,om];omega
  have h0:=h m.fly;have i0:=h (m.ah 0).inbox;have i1:=h (m.ah 1).inbox;have i2:=h (m.ah 2).inbox;have i3:=h (m.ah 3).inbox;have i4:=h (m.ah 4).inbox;unfold Cl.ws Cl.cw qN;omega
 have hc:m.ws bM<=m.c0:=by unfold Cl.c0;omega
 have O:(o5 λj=>rz (m.ah j).pend)<=5:=by
  have h1:∀o:Option bO,rz o<=1:=λo=>by cases o<;>simp[rz]
  unfold o5;dsimp only;have i0:=h1 (m.ah 0).pend;have i1:=h1 (m.ah 1).pend;have i2:=h1 (m.ah 2).pend;have i3:=h1 (m.ah 3).pend;have i4:=h1 (m.ah 4).pend;omega
 have hq:∀q,q<2->r9 (FF m G q) (m.off.at q).epoch (vq m q)<=yq (vw m q) (G q)+5:=λq hq=>by
  have I:=R.qi q hq;have o5':=I.o5;have eo:(FF m G q).own (FF m G q).M=(G q).o:=rfl;have Z:∀n,n<5-> ∀p,(m.ah n).pend=some p->p.q=q->Ee (G q) (vw m q) n p:=λn hn p O hpq=>(I.lF n hn p (by unfold tY;rw[O];exact FT hpq)).2;have J:∀n,n<5->qA (FF m G q) (vq m q) n<=yo (vw m q) (G q) n:=λn hn=>by
   unfold qA yo;rw[eo]
   split
   ·rename_i c
    obtain⟨c1,c2⟩:=c;unfold vq at c2
    cases O:(m.ah n).pend with
    |none=>rw[jO O]at c2;rw[if_pos ⟨c1,by rw[gT (R.up n hn)];exact c2⟩];exact Nat.le_refl _
    |some p=>
     by_cases e:p.q=q
     ·have hk:=Z n hn p O e;rw[oN O e]at c2
      exfalso
      cases p with
      |serve k evs op num a=>exact c1 hk.1
      |begun k x=>obtain⟨j,j1,_⟩:=hk;have c3:x.role=3:=c2;rw[j1]at c3;exact absurd c3 (by show(4:Int)≠3;decide)
      |got k x last=>
       have c3:x.role=3:=c2;obtain⟨k1,k2,k3⟩:=hk
       cases last with
       |true=>obtain⟨_,_,_,a4,_⟩:=k3 E;rw[a4]at c3;exact absurd c3 (by show(1:Int)≠3;decide)
       |false=>obtain⟨j,a1,_⟩:=k2 E;rw[a1]at c3;exact absurd (k1.symm.trans c3) (by decide)
      |fF k x a=>exact c1 hk.1
      |forget k x=>obtain⟨_,j2,_⟩:=hk;have c3:x.role=3:=c2;rw[j2]at c3;exact absurd c3 (by show(0:Int)≠3;decide)
     rw[xY O e]at c2;rw[if_pos ⟨c1,by rw[gT (R.up n hn)];exact c2⟩];exact Nat.le_refl _
   exact zero_le _
  have hol:o5 (qA (FF m G q) (vq m q))<=o5 (yo (vw m q) (G q)):=by
   have:=J 0 (by decide);have:=J 1 (by decide);have:=J 2 (by decide);have:=J 3 (by decide);have:=J 4 (by decide);unfold o5;omega
  have hev:(vq m q (G q).o).evs.length<=(G q).G.length+1:=by
   have uJ:=I.uJ;have ae:=gT (q:=q) (R.up _ o5');unfold vq
   cases O:(m.ah (G q).o).pend with
   |none=>rw[jO O,<-ae,uJ];exact le_succ _
   |some p=>
    by_cases e:p.q=q
    ·have hk:=Z _ o5' p O e;rw[oN O e];have Aw:=I.Aw
     cases p with
     |serve k evs op num a=>obtain⟨_,_,k3,_⟩:=hk;show evs.length<=_;rw[k3,length_append];exact Nat.le_refl _
     |begun k x=>obtain⟨_,_,_,_,k4,_⟩:=hk;omega
     |got k x last=>have:=hk.1;omega
     |fF k x a=>obtain⟨_,_,k3⟩:=hk;show x.evs.length<=_;rw[k3];show(vw m q (G q).o).evs.length<=_;rw[uJ];exact le_succ _
     |forget k x=>obtain⟨_,_,k3⟩:=hk;have:=I.q9;omega
    rw[xY O e,<-ae,uJ];exact le_succ _
  have hd:Ud (FF m G q) (m.off.at q).epoch<=1:=by unfold Ud;split<;>omega
  have hR:(FF m G q).R=if (vw m q (G q).o).role=1 then 0 else 1:=rfl
  unfold r9 pqR yq;rw[eo];by_cases c:(vw m q (G q).o).role=1
  ·rw[if_pos c]at hR;rw[if_neg (by omega),if_pos c];omega
  rw[if_neg c]at hR;rw[if_pos hR,if_neg c]
  split<;>omega
 have h0:=hq 0 (by decide);have h1:=hq 1 (by decide);unfold ZZ PP YY;omega
end
section
variable {m w m':Cl}{n q k B d:Nat}{g g':Gh}{G G':Nat->Gh}
def arU (dB:Cl)(n:Nat):dB.act (Il 3 (n:Int))=dB.step n:=by
 unfold Cl.act;rw[if_neg (by show(3:Int)≠1;decide),if_neg (by show(3:Int)≠2;decide),if_pos (show(Il 3 (n:Int)).kd=3 from E)];rfl
def alP (dB:Cl):dB.act (Il 7 0)=dB.all:=by
 unfold Cl.act;rw[if_neg (by show(7:Int)≠1;decide),if_neg (by show(7:Int)≠2;decide),if_neg (by show(7:Int)≠3;decide),if_neg (by show ¬((7:Int)=4\/(7:Int)=5\/(7:Int)=6);decide),if_pos (show(Il 7 0).kd=7 from E)]
def Pp (dB:Cl):∀j,dB.run (steps j)=dB.dD j
 | 0=>rfl
 |j+1=>by
  rw[Lp];unfold Cl.run;rw[foldl_append];have:=Pp dB j;unfold Cl.run at this;rw[this]
  show Cl.act (dB.dD j) (Il 3 (j:Int))=(dB.dD j).step j
  exact arU _ _
def Ut (dB:Cl):∀r,dB.run (yY r)=dB.rs r
 | 0=>rfl
 |r+1=>by
  rw[GU];have h1:=Ut dB r;have h:=Pp (dB.rs r) 5;unfold Cl.run at h1 h⊢;rw[foldl_append,foldl_append,h1,h]
  show Cl.act ((dB.rs r).dD 5) (Il 7 0)=((dB.rs r).dD 5).all
  exact alP _
def afn:∀l:List Ac,vV l=200+oz RF l
 |[]=>rfl
 |a::l=>by rw[vV,afn l,oz];omega
def Uu:∀l:List Ac,8*oz yA l+2*oz acW l+oz acS l<=oz RF l+l.length
 |[]=>Nat.le_refl _
 |a::l=>by
  have h:=Uu l;have h1:8*yA a+2*acW a+acS a<=RF a+1:=by
   unfold yA acW acS RF
   split<;>split<;>split<;>split<;>omega
  rw[oz,oz,oz,oz,length_cons];omega
def axr:Su kI:=by
 refine⟨λn _=>GY ?_,E,E⟩
 show(upd (upd kW.ah 0 (l6 0)) 1 (l6 1) n).sure=_
 unfold upd
 split
 ·rfl
 split<;>rfl
def anc (n:Nat):(kI.ah n).up=true/\((kI.ah n).inbox=[]/\(kI.ah n).pend=none)/\(kI.ah n).turn=0:=by
 show(upd (upd kW.ah 0 (l6 0)) 1 (l6 1) n).up=true/\((upd (upd kW.ah 0 (l6 0)) 1 (l6 1) n).inbox=[]/\(upd (upd kW.ah 0 (l6 0)) 1 (l6 1) n).pend=none)/\(upd (upd kW.ah 0 (l6 0)) 1 (l6 1) n).turn=0
 unfold upd
 split
 ·exact⟨E,⟨E,E⟩,E⟩
 split<;>exact⟨E,⟨E,E⟩,E⟩
def ane (Z:q<2):yq (vw kI q) (g0 q)=0:=by
 have I:=(adY Z).qi;have ho:(g0 q).o=q:=rfl;have Aw:=I.Aw;have q9:=I.q9;have M:∀n,vw kI q n=(kI.ah n).bs q:=λn=>gT (anc n).1;have O:∀n,(kI.ah n).bs q=⟨1,1,0,0,0,[]⟩\/(kI.ah n).bs q=bD:=λn=>by
  show(upd (upd kW.ah 0 (l6 0)) 1 (l6 1) n).bs q=_\/(upd (upd kW.ah 0 (l6 0)) 1 (l6 1) n).bs q=_
  have mk:∀k,(l6 k).bs q=⟨1,1,0,0,0,[]⟩\/(l6 k).bs q=bD:=λk=>by
   show upd (λ_=>bD) k ⟨1,1,0,0,0,[]⟩ q=_\/upd (λ_=>bD) k ⟨1,1,0,0,0,[]⟩ q=_
   unfold upd
   split
   ·exact .inl E
   exact .inr E
  unfold upd
  split
  ·exact mk 1
  split
  ·exact mk 0
  exact .inr E
 have hr:(vw kI q (g0 q).o).role=1:=by
  rw[M]at Aw⊢
  rcases O (g0 q).o with h|h
  ·rw[h]
  rw[h]at Aw;exact absurd Aw (by decide)
 have J:∀n,yo (vw kI q) (g0 q) n=0:=λn=>by
  unfold yo;rw[if_neg];rintro⟨_,c⟩;rw[M]at c
  rcases O n with h|h<;>rw[h]at c<;>exact absurd c (by decide)
 unfold yq o5;rw[J,J,J,J,J,if_pos hr];rfl
def alQ:YY kI g0=0/\kI.cw=0/\kI.aS=0/\kI.tS=0:=by
 have v:=anc;refine⟨?_,?_,?_,?_⟩
 ·unfold YY Cl.c0 Cl.ws Cl.F8 o5;dsimp only;rw[ane (q:=0) (by decide),ane (q:=1) (by decide)];rw[(v 0).1,(v 1).1,(v 2).1,(v 3).1,(v 4).1,(v 0).2.1.1,(v 1).2.1.1,(v 2).2.1.1,(v 3).2.1.1,(v 4).2.1.1,(v 0).2.1.2,(v 1).2.1.2,(v 2).2.1.2,(v 3).2.1.2,(v 4).2.1.2];rfl
 ·unfold Cl.cw qN;rw[(v 0).2.1.1,(v 1).2.1.1,(v 2).2.1.1,(v 3).2.1.1,(v 4).2.1.1,(v 0).2.1.2,(v 1).2.1.2,(v 2).2.1.2,(v 3).2.1.2,(v 4).2.1.2];rfl
 ·unfold Cl.aS o5;dsimp only;rw[(v 0).2.2,(v 1).2.2,(v 2).2.2,(v 3).2.2,(v 4).2.2];rfl
 unfold Cl.tS o5;dsimp only;rw[(v 0).2.2,(v 1).2.2,(v 2).2.2,(v 3).2.2,(v 4).2.2]
def adJ {gs:List Gr}{M r:Nat}{cr:Bool}(h:M<=120)(hr:vV (bZ gs M cr)<=r):∃G G',Zero (kW.run (bZ gs M cr++starts 5)) (kW.run (lN (bZ gs M cr) r)) G G' 99954:=by
 have e:kW.run (bZ gs M cr++starts 5)=kI.run ((gs.take M).map (fD · cr)++starts 5):=by
  unfold bZ
  show Cl.run ((kW.act (Si 0 0)).act (Si 1 1)) (((gs.take M).map (fD · cr))++starts 5)=_
  rw[Wh,Wi]
 have hl:((gs.take M).map (fD · cr)).length<=M:=by rw[length_map,length_take];omega
 have hs5:(starts 5).length=5:=rfl;obtain⟨G0,k0,R,hb,_⟩:=VD (gs:=gs) (cr:=cr) h;have J:∀a∈(gs.take M).map (fD · cr)++starts 5,vG a/\a.kd≠1/\a.qu<2:=λa I=>by
  rcases mem_append.1 I with I|I
  ·obtain⟨g,_,rfl⟩:=mem_map.1 I;exact⟨ME (JU g cr).1,(JU g cr).2,am9 g cr⟩
  obtain⟨n,hn,rfl⟩:=mem_map.1 I;rw[mem_range]at hn;obtain⟨f1,f2⟩:=AO (k:=9) (n:=n) (.inl ⟨.inl E,by omega⟩);exact⟨ME f1,f2,by show(0:Int)<2;decide⟩
 obtain⟨G',hL,hv,hB,hS,y,c,t⟩:=afm _ (k:=2) (G:=g0) (λq O=>adY O) amR Rv axr J (by rw[length_append];omega);obtain⟨z1,z2,z3,z4⟩:=alQ;rw[<-e]at hL hv hB hS y c t;have hyy:=alO (G:=G') (G':=G0) (λq O=>(hL q O).qi) R.qi;have hz:=axq R;have I:=axp (m:=kW.run (bZ gs M cr++starts 5));have hsum:=Uu ((gs.take M).map (fD · cr));have s1:oz yA (starts 5)=0:=by decide
 have s2:oz acW (starts 5)=0:=by decide
 have s3:oz acS (starts 5)=0:=by decide
 rw[AP,s1]at y;rw[AP,s2]at c;rw[AP,s3]at t;have hen:vV (bZ gs M cr)=240+oz RF ((gs.take M).map (fD · cr)):=by
  unfold bZ;rw[afn,AP];have:oz RF mks=40:=by decide
  omega
 obtain⟨G2,Z⟩:=aDW (by decide) R ⟨_,_,_,_,hb⟩ hS (T:=r) (by omega);have er:kW.run (lN (bZ gs M cr) r)=(kW.run (bZ gs M cr++starts 5)).rs r:=by
  rw[<-Ut];unfold lN Cl.run;rw[foldl_append]
 rw[er];exact⟨G0,G2,Z⟩
def Zero.fair (Z:Zero m w G G' B)(hn:n<5)(hq:q<2):¬((vw w q n).role=2\/(vw w q n).role=3)/\((vw w q n).role=1->(w.off.at q).node=n/\(w.off.at q).epoch=(vw w q n).ep)/\((w.off.at q).node=n->(vw w q n).role=1):=by
 have I:=Z.rm.qi q hq;have hz:=Z.zz;have O:(o5 λj=>rz (w.ah j).pend)=0:=by unfold ZZ at hz;omega
 have hP:r9 (FF w G' q) (w.off.at q).epoch (vq w q)=0:=by
  have h01:q=0\/q=1:=by omega
  unfold ZZ PP at hz
  rcases h01 with rfl|rfl<;>omega
 have hp:∀j,j<5->(w.ah j).pend=none:=λj J=>by
  have h0:rz (w.ah j).pend=0:=by
   unfold o5 at O;dsimp only at O
   rcases five J with rfl|rfl|rfl|rfl|rfl<;>omega
  cases e:(w.ah j).pend with
  |none=>rfl
  |some p=>rw[e]at h0;exact absurd h0 (by show(1:Nat)≠0;decide)
 have hvq:∀j,j<5->vq w q j=vw w q j:=λj J=>by unfold vq;rw[jO (hp j J),gT (Z.rm.up j J)]
 have hR:(vw w q (G' q).o).role=1:=Classical.byContradiction λc=>by
  have:(FF w G' q).R=1:=if_neg c;unfold r9 pqR at hP;rw[if_pos this]at hP;omega
 have hd:(w.off.at q).epoch=((G' q).m:Int):=Classical.byContradiction λc=>by
  have:Ud (FF w G' q) (w.off.at q).epoch=1:=if_neg c;unfold r9 at hP;omega
 have hol:∀j,j<5->j≠(G' q).o->(vw w q j).role≠3:=λj J hjo c=>by
  have h1:qA (FF w G' q) (vq w q) j=1:=if_pos ⟨hjo,by rw[hvq j J];exact c⟩;unfold r9 o5 at hP
  rcases five J with rfl|rfl|rfl|rfl|rfl<;>omega
 obtain⟨d,d1,d2,d3⟩:=I.dir;have hdm:d=(G' q).m:=by rw[d1]at hd;dsimp only at hd;omega
 have M:(w.off.at q).node=(((G' q).o:Nat):Int):=by rw[d1,hdm];rfl
 have aDX:=I.q9;by_cases c:n=(G' q).o
 ·subst c;exact⟨by omega,λ_=>⟨M,by rw[hd,aDX]⟩,λ_=>hR⟩
 have h3:=hol n hn c;refine⟨?_,λh=>absurd (I.who hn (.inl h)) c,λh=>absurd (by omega) c⟩;rintro(h|h)
 ·exact c (I.who hn (.inr h))
 exact h3 h
def arV {gs:List Gr}{s:List Ac}(hs:s=bZ gs 120 true):∀n q,n<5->q<2-> ¬((((kW.run (lN s (vV s))).ah n).view q).role=2\/(((kW.run (lN s (vV s))).ah n).view q).role=3)/\((((kW.run (lN s (vV s))).ah n).view q).role=1->((kW.run (lN s (vV s))).off.at q).node=((n:Nat):Int)/\((kW.run (lN s (vV s))).off.at q).epoch=(((kW.run (lN s (vV s))).ah n).view q).ep)/\(((kW.run (lN s (vV s))).off.at q).node=((n:Nat):Int)->(((kW.run (lN s (vV s))).ah n).view q).role=1):=by
 subst hs;intro n q hn h;obtain⟨G,G',Z⟩:=adJ (gs:=gs) (M:=120) (cr:=true) (by decide) (Nat.le_refl _);exact Z.fair hn h
end
def RN (W:World)(I:Uk W.heap.size W)(args:Array Value)(h:eO (WI prog W) args.toList Tryz.f3.params.toList):
  Calls prog 3 args W λe W'=>e=.returned (.bool true)/\Below W.heap.size W W':=by
 rw[params3]at h;obtain⟨v,l1,hv,h1,J⟩:=eO.yZ h;have M:=eO.xD J;subst M;obtain rfl:args= #[v]:=by cases args;simp_all
 obtain⟨A,c,gs,rfl,O,Z⟩:=ac7 h1;exact YW E E (by have:=ana gs (m:=120) dQ true;omega) Z (Pj E) (by have:=GV gs 120 true;omega) (by have:=aam (gs:=gs) E;omega) (alD (Pj E) (aam E)) I O (arV E)
end Go.Proofs.YtefabpdniidmbaaGreatDoor
