import Derived.Test.YtefabpdniidmbaaGreatDoorG1895b
import Derived.Test.YtefabpdniidmbaaGreatDoorGa401c
set_option linter.all false
set_option maxRecDepth 100000
set_option maxHeartbeats 8000000
namespace Go.Proofs.YtefabpdniidmbaaGreatDoor
open List Nat Go.Proofs.Tryz
open ChangeShapes WideShapes RowKit
def o5 (f:Nat->Nat):Nat:=f 0+(f 1+(f 2+(f 3+f 4)))
def qA (F:Wy)(v:Nat->aQ)(n:Nat):Nat:=if n≠F.own F.M/\(v n).role=3 then 1 else 0
def tgl (F:Wy)(b:aQ):Nat:=if b.ep=F.M+1 then b.evs.length+1 else 0
def pqR (F:Wy)(bo bt:aQ):Nat:=if F.R=1 then bo.evs.length+2-tgl F bt+(if bo.role=2 then 1 else 0)+2 else 0
def Ud (F:Wy)(d:Int):Nat:=if d=F.M then 0 else 1
def r9 (F:Wy)(d:Int)(v:Nat->aQ):Nat:=pqR F (v (F.own F.M)) (v F.tg.toNat)+Ud F d+o5 (qA F v)
def fI (F:Nat->Wy)(l:bG):Nat:=if (l.kd=2\/l.kd=4)/\ ¬calm (F l.q) l then 1 else 0
def rz:Option bO->Nat
 |none=>0
 |some _=>1
def vq (m:Cl)(q:Nat)(j:Nat):aQ:=qF (m.ah j) q
noncomputable def PP (m:Cl)(F:Nat->Wy):Nat:=2*m.ws bM+(r9 (F 0) (m.off.at 0).epoch (vq m 0)+r9 (F 1) (m.off.at 1).epoch (vq m 1))
noncomputable def ZZ (m:Cl)(F:Nat->Wy):Nat:=8*PP m F+2*m.ws (fI F)+o5 λj=>rz (m.ah j).pend
section
variable {m w m':Cl}{n q:Nat}{l:bG}{p:bO}{F F':Wy}{g g':Gh}{b b':aQ}{v v':Nat->aQ}{d:Int}{f f':Nat->Nat}
def Xy {a:Nat}(hn:n<5)(h:∀j,j≠n->f' j=f j)(I:f' n+a<=f n):o5 f'+a<=o5 f:=by
 unfold o5
 rcases five hn with rfl|rfl|rfl|rfl|rfl
 ·rw[h 1 (by decide),h 2 (by decide),h 3 (by decide),h 4 (by decide)];omega
 ·rw[h 0 (by decide),h 2 (by decide),h 3 (by decide),h 4 (by decide)];omega
 ·rw[h 0 (by decide),h 1 (by decide),h 3 (by decide),h 4 (by decide)];omega
 ·rw[h 0 (by decide),h 1 (by decide),h 2 (by decide),h 4 (by decide)];omega
 rw[h 0 (by decide),h 1 (by decide),h 2 (by decide),h 3 (by decide)];omega
def Bl (h:∀j,j<5->f' j=f j):o5 f'=o5 f:=by
 unfold o5;rw[h 0 (by decide),h 1 (by decide),h 2 (by decide),h 3 (by decide),h 4 (by decide)]
def MK {a:Nat}(hn:n<5)(h:∀j,j≠n->f' j<=f j)(I:f' n<=f n+a):o5 f'<=o5 f+a:=by
 unfold o5;have k:∀j,j≠n->f' j<=f j:=h
 rcases five hn with rfl|rfl|rfl|rfl|rfl
 ·have:=h 1 (by decide);have:=h 2 (by decide);have:=h 3 (by decide);have:=h 4 (by decide);omega
 ·have:=h 0 (by decide);have:=h 2 (by decide);have:=h 3 (by decide);have:=h 4 (by decide);omega
 ·have:=h 0 (by decide);have:=h 1 (by decide);have:=h 3 (by decide);have:=h 4 (by decide);omega
 ·have:=h 0 (by decide);have:=h 1 (by decide);have:=h 2 (by decide);have:=h 4 (by decide);omega
 have:=h 0 (by decide);have:=h 1 (by decide);have:=h 2 (by decide);have:=h 3 (by decide);omega
def alu:qA F v n<=1:=by unfold qA;split<;>omega
def ahq (h:∀j,(v' j).role=(v j).role/\(v' j).ep=(v j).ep/\(v' j).evs=(v j).evs):r9 F d v'=r9 F d v:=by
 have h1:o5 (qA F v')=o5 (qA F v):=Bl λj _=>by unfold qA;rw[(h j).1]
 unfold r9 pqR tgl;rw[h1,(h _).1,(h (F.own F.M)).2.2,(h F.tg.toNat).2.1,(h F.tg.toNat).2.2]
def mM.pq (ho:F.own F.M<5)(h:mM F F'):r9 F' d v<=r9 F d v:=by
 rcases h with⟨h1,J,O,I⟩|⟨h1,J,O,I,h5⟩
 ·have e:F'.own F'.M=F.own F.M:=by rw[h1];exact J _ (Nat.le_refl _)
  have Z:o5 (qA F' v)=o5 (qA F v):=Bl λj _=>by unfold qA;rw[e]
  unfold r9 pqR Ud tgl;rw[Z,e,h1,O,I];exact Nat.le_refl _
 have Z:o5 (qA F' v)<=o5 (qA F v)+1:=by
  refine MK ho (λj hj=>?_) (Nat.le_trans alu (le_add_left _ _));unfold qA
  split
  ·rename_i c
   rw[if_pos ⟨hj,c.2⟩];exact Nat.le_refl _
  exact zero_le _
 unfold r9 pqR Ud;rw[if_neg (by omega:¬F'.R=1),if_pos I]
 split<;>omega
def Dc {F:Nat->Wy}{x:bG}(h:x.kd≠2/\x.kd≠4\/calm (F x.q) x):fI F x=0:=by
 unfold fI;rw[if_neg]
 rcases h with h|h
 ·omega
 exact λc=>c.2 h
def RL {F:Nat->Wy}(x:bG)(h:x.kd=6):fI F x=0:=Dc (.inl (by omega))
def mM.sl {F F':Nat->Wy}(h:mM (F l.q) (F' l.q)):fI F' l<=fI F l:=by
 unfold fI
 split
 ·rename_i c
  rw[if_pos ⟨c.1,λk=>c.2 (h.clm k)⟩];exact Nat.le_refl _
 exact zero_le _
def alv {V:Nat->aQ}{P:Nat->Option bO}{U:Nat->Bool}{Lt:bG->Prop}{pl:Pl}{sh:Nat->Int×Int}{sv:List jH}{bs:Nat->aQ}{FF:Nat->Wy}(I:Inv g V P U Lt pl sh sv)(hn:n<5)(hV:V n=bs l.q)(hpq:p.q=l.q)(hp:p.ok bs)(hS:Src (bs l.q) l p)(hk:Ee g V n p)
  (Ay:l.tg=n) (hM:(FF l.q).M=g.m) (ho:(FF l.q).own=g.own) (hR:(FF l.q).R=1↔(V g.o).role≠1) (hT:(FF l.q).tg=(V g.o).tg) (hgr:∀q x last,p=.got q x last->(bs l.q).evs.length<x.evs.length) (hv:v n=bs l.q) (hvo:g.G.length<=(v g.o).evs.length):
  r9 (FF l.q) d (upd v n (p.b bs))+1<=r9 (FF l.q) d v+2*bM l+fI FF l:=by
 have eo:(FF l.q).own (FF l.q).M=g.o:=by rw[hM,ho];rfl
 have o5':=I.o5;have htn:(FF l.q).R=1->(FF l.q).tg.toNat≠g.o:=λh=>by
  obtain⟨_,h1,h2,h3⟩:=I.Ri (hR.1 h);rw[<-hT]at h1 h2;omega
 have O:∀j,j≠n->upd v n (p.b bs) j=v j:=λj hj=>upd_ne hj;have auth:∀ {a c:Nat},n=g.o->(p.b bs).evs.length<=(bs l.q).evs.length+a->(if (p.b bs).role=2 then 1 else 0)+c<=(if (bs l.q).role=2 then 1 else 0)->(c=0\/(FF l.q).R=1)->r9 (FF l.q) d (upd v n (p.b bs))+c<=r9 (FF l.q) d v+a:=λ{a c} hno h h3 hc=>by
  have e1:o5 (qA (FF l.q) (upd v n (p.b bs)))=o5 (qA (FF l.q) v):=Bl λj _=>by
   unfold qA;by_cases e:j=n
   ·rw[eo,e,hno,if_neg (λc=>c.1 E),if_neg (λc=>c.1 E)]
   rw[O j e]
  have e2:upd v n (p.b bs) g.o=p.b bs:=by rw[<-hno];exact upd_same _ _ _
  have e3:v g.o=bs l.q:=by rw[<-hno];exact hv
  unfold r9 pqR;rw[e1,eo,e2,e3];by_cases J:(FF l.q).R=1
  ·rw[if_pos J,if_pos J,O _ (by rw[hno];exact htn J)];omega
  rw[if_neg J,if_neg J]
  rcases hc with hc|hc
  ·omega
  exact absurd hc J
 have Z:∀ {a c:Nat},n≠g.o->(if (p.b bs).role=3 then 1 else 0)+a<=(if (bs l.q).role=3 then 1 else 0)->
   ((FF l.q).R=1->(FF l.q).tg.toNat=n->(v g.o).evs.length+2-tgl (FF l.q) (p.b bs)+c<=(v g.o).evs.length+2-tgl (FF l.q) (bs l.q))->(c=0\/((FF l.q).R=1/\(FF l.q).tg.toNat=n))->r9 (FF l.q) d (upd v n (p.b bs))+(a+c)<=r9 (FF l.q) d v:=λ{a c} hno h h1 hc=>by
  have e1:o5 (qA (FF l.q) (upd v n (p.b bs)))+a<=o5 (qA (FF l.q) v):=by
   refine Xy hn (λj hj=>by unfold qA;rw[O j hj]) ?_;unfold qA;rw[eo,upd_same,hv];have:∀b:aQ,(if n≠g.o/\b.role=3 then 1 else 0)=if b.role=3 then 1 else 0:=λb=>by
    by_cases e:b.role=3
    ·rw[if_pos ⟨hno,e⟩,if_pos e]
    rw[if_neg (λc=>e c.2),if_neg e]
   rw[this,this];exact h
  have e2:upd v n (p.b bs) g.o=v g.o:=O _ (λe=>hno e.symm);unfold r9 pqR;rw[eo,e2];by_cases J:(FF l.q).R=1
  ·rw[if_pos J,if_pos J];by_cases ht:(FF l.q).tg.toNat=n
   ·have:=h1 J ht;rw[ht,upd_same,hv];omega
   rw[O _ ht]
   rcases hc with hc|⟨_,hc⟩
   ·omega
   exact absurd hc ht
  rw[if_neg J,if_neg J]
  rcases hc with hc|⟨hc,_⟩
  ·omega
  exact absurd hc J
 have cl1:¬calm (FF l.q) l->(l.kd=2\/l.kd=4)->fI FF l=1:=λh h2=>if_pos ⟨h2,h⟩;have r3:∀ {r:Int},r≠3->(if r=3 then 1 else 0:Nat)=0:=λh=>if_neg h
 cases p with
 |serve k evs op num a=>
  have e:k=l.q:=hpq;subst e;obtain⟨s1,_⟩:=hS;obtain⟨h1,h2,_⟩:=hp;have hc:bM l=1:=if_pos s1;have:=auth (a:=1) (c:=0) hk.1 (by
   show evs.length<=_
   rw[h2,length_append,length_singleton];exact Nat.le_refl _) (Nat.le_refl _) (.inl E)
  omega
 |begun k x=>
  have e:k=l.q:=hpq;subst e;obtain⟨s1,s2⟩:=hS;obtain⟨j,j1,j2,j3,j4,j5⟩:=hk;have hno:=I.oH j4;rw[hV]at j4 j5;have hle:l.ep=(j:Int)+1:=by have:=congrArg aQ.ep (s2.symm.trans j1);exact this
  have hx:(bO.begun l.q x).b bs=x:=rfl;have hxr:x.role=4:=by rw[j1]
  have hxe:x.ep=(j:Int)+1:=by rw[j1]
  have hxv:x.evs.length=0:=by rw[j1];rfl
  have t0:tgl (FF l.q) (bs l.q)=0:=if_neg (by rw[hM];omega);by_cases c:calm (FF l.q) l
  ·rcases c with⟨c1,c2,c3⟩|⟨c1,c2,c3⟩
   ·exfalso
    rw[hM]at c2;rw[ho,Ay]at c3;have:=I.ge (j+1) (by omega) (by omega);rw[show l.ep.toNat=j+1 by omega]at c3;rw[show g.own (j+1)=n by omega,hV]at this;omega
   have:=Z (a:=0) (c:=1) hno (by rw[hx,r3 (r:=x.role) (by omega),r3 (by omega)];exact Nat.le_refl _) (λ_ _=>by
    rw[t0,hx];unfold tgl;rw[if_pos (by omega),hxv];omega) (.inr ⟨c2,by omega⟩)
   omega
  have h1:=cl1 c (.inl s1);have:=Z (a:=0) (c:=0) hno (by rw[hx,r3 (r:=x.role) (by omega),r3 (by omega)];exact Nat.le_refl _) (λ_ _=>by rw[t0];omega) (.inl E);omega
 |got k x last=>
  have e:k=l.q:=hpq;subst e;have hgrow:=hgr _ _ _ E;obtain⟨es,g1,g2,g3,g4,g5,g6,g7⟩:=uN hp;obtain⟨s1,s2,s3,s4,s5,s6,s7,s8,s9⟩:=hS;obtain⟨k1,k2,k3⟩:=hk;have hno:n≠g.o:=I.oH (.inr k1);rw[hV]at k1;have hx:(bO.got l.q x last).b bs=x:=rfl;have hxr:x.role=4\/x.role=1:=by
   cases last with
   |true=>obtain⟨_,_,_,a4,_⟩:=k3 E;rw[a4];exact .inr E
   |false=>obtain⟨j,a1,_⟩:=k2 E;rw[a1];exact .inl (by show(V n).role=4;rw[hV];exact k1)
  have hbl:(bs l.q).evs.length<=g.G.length:=by
   rcases I.mV n hn hno with⟨h5,_⟩|⟨_,h5,_⟩|⟨k',_,h2,h3,h4,_,_,h7,_⟩
   ·rw[hV]at h5;omega
   ·rw[hV]at h5;omega
   rw[hV]at h7;exact Nat.le_trans h7 (I.Xb h3 h4)
  by_cases c:calm (FF l.q) l
  ·rcases c with⟨c1,c2,c3⟩|⟨c1,c2,c3⟩
   ·exfalso
    rw[hM]at c2;rw[ho,Ay]at c3
    rcases I.mV n hn hno with⟨h5,_⟩|⟨_,h5,_⟩|⟨k',_,h2,h3,h4,_,_,_,h8⟩
    ·rw[hV]at h5;omega
    ·rw[hV]at h5;omega
    rw[hV]at h2;rw[show l.ep.toNat=k'+1 by omega]at c3;exact h8 (by omega) (by omega)
   have:=Z (a:=0) (c:=1) hno (by rw[hx,r3 (r:=x.role) (by omega),r3 (r:=(bs l.q).role) (by omega)];exact Nat.le_refl _) (λ_ _=>by
    rw[hx];unfold tgl;rw[if_pos (by omega),if_pos (by omega)];omega) (.inr ⟨c2,by omega⟩)
   omega
  have h1:=cl1 c (.inr s1);have:=Z (a:=0) (c:=0) hno (by rw[hx,r3 (r:=x.role) (by omega),r3 (r:=(bs l.q).role) (by omega)];exact Nat.le_refl _) (λJ htn=>by
   have hne:¬(bs l.q).ep=((FF l.q).M:Int)+1:=λe=>c (.inr ⟨by omega,J,by
    obtain⟨_,_,h2,_⟩:=I.Ri (hR.1 J);rw[<-hT]at h2;omega⟩)
   rw[hx];unfold tgl;rw[if_neg hne,if_neg (by omega)];omega) (.inl E)
  omega
 |fF k x a=>
  have e:k=l.q:=hpq;subst e;obtain⟨h1,h2⟩:=hp;obtain⟨k1,k2,k3⟩:=hk;have hb:(bO.fF l.q x a).b bs=x:=rfl;have:=auth (a:=0) (c:=1) k1 (by rw[hb,h2];exact Nat.le_refl _) (by rw[hb,h2,h1];exact Nat.le_refl _) (.inr (hR.2 (by rw[<-k1,k2];decide)));omega
 |forget k x=>
  have e:k=l.q:=hpq;subst e;obtain⟨h1,h2⟩:=hp;obtain⟨k1,k2,k3⟩:=hk;have hno:n≠g.o:=λe=>by have:=I.q9;rw[<-e]at this;omega
  rw[hV]at k3;have hb:(bO.forget l.q x).b bs=x:=rfl;have:=Z (a:=1) (c:=0) hno (by rw[hb,h2,h1];exact Nat.le_refl _) (λ_ _=>by
   rw[hb,h2];unfold tgl;dsimp only;rw[if_neg (by omega),if_neg (by omega)];omega) (.inl E)
  omega
end
section
variable {m w m':Cl}{n q B:Nat}{l:bG}{p:bO}{G G':Nat->Gh}{g g':Gh}{b b':aQ}{rs us:List cB}{V:Nat->aQ}{P:Nat->Option bO}{U:Nat->Bool}{Lt:bG->Prop}{pl:Pl}{sh:Nat->Int×Int}{sv:List jH}{F:Nat->Wy}
def alx (H:Hnd m n l m'):m'.off=m.off:=by
 cases H with
 |done a h1 h=>unfold Cl.done;split<;>rfl
 |part b h1 h I J M O=>unfold Cl.part;split<;>rfl
 |_=>rfl
def Kz (H:Hnd m n l m'):∃new,m'.fly=m.fly++new/\ ∀x∈new,x.kd≠2:=by
 have one:∀ {x:bG},x.kd≠2-> ∀y∈[x],y.kd≠2:=λh y J=>by rw[mem_singleton]at J;subst J;exact h
 cases H with
 |same=>exact⟨[],by simp,λx I=>by cases I⟩
 |done a h1 M=>
  unfold Cl.done
  split
  ·exact⟨_,E,one (by show(1:Int)≠2;decide)⟩
  exact⟨_,E,one (by show(1:Int)≠2;decide)⟩
 |have_ h1=>exact⟨_,E,one (by show(3:Int)≠2;decide)⟩
 |part b h1 M O Z h5 h6=>
  unfold Cl.part
  split
  ·exact⟨[],by simp;rfl,λx I=>by cases I⟩
  exact⟨_,E,one (by show(4:Int)≠2;decide)⟩
 |pend p dB d h1 M O Z h5=>exact⟨[],by simp;rfl,λx I=>by cases I⟩
 |hear h1=>exact⟨[],by simp;rfl,λx I=>by cases I⟩
def arG {x:aQ}{last:Bool}(J:l.kd=4)(I:(m.ah n).pend=none)(h:((m.handle n l).ah n).pend=some (.got q x last)):x.evs.length≠((m.ah n).bs l.q).evs.length:=by
 rw[show m.handle n l=m.got n l by unfold Cl.handle;rw[if_neg (by omega),if_neg (by omega),if_neg (by omega),if_pos J]]at h;unfold Cl.got at h
 split at h
 ·rw[I]at h;cases h
 split at h
 ·rw[show((m.have_ n l.q).ah n).pend=none from I]at h;cases h
 split at h
 ·rw[I]at h;cases h
 rename_i c
 split at h
 ·rw[I]at h;cases h
 rw[aW]at h;simp only[Option.some.injEq,bO.got.injEq]at h;rw[<-h.2.1];exact λe=>c (.inr e)
def JV (h:m'.ah n=m.ah n):vq m' q n=vq m q n:=by unfold vq;rw[h]
def arH (R:Rmc m G B (tZ (FF m G) l) (bM l))(hn:n<5)(hU:oq (m.ah n) rs [])(hp:(m.ah n).pend=none)(hL:∀q,q<2->l.q=q->Ed (G q) (vw m q) (m.off.at q) l)(Ay:l.tg=n)(O:l.q<2)
  (lH:zW m m' n) (H:Hnd m n l m') (aDS:∀q x last,l.kd=4->(m'.ah n).pend=some (.got q x last)->x.evs.length≠((m.ah n).bs l.q).evs.length):
  m'.ws (fI (FF m G))<=m.ws (fI (FF m G))/\(((m'.ah n).pend=none/\PP m' (FF m G)<=PP m (FF m G)/\ZZ m' (FF m G)<=ZZ m (FF m G))\/
   ((m'.ah n).pend≠none/\PP m' (FF m G)+1<=PP m (FF m G)+2*bM l+fI (FF m G) l/\ZZ m' (FF m G)+7<=ZZ m (FF m G)+16*bM l+8*fI (FF m G) l)):=by
 have hu:=R.up n hn;obtain⟨hbs,SY⟩:=Wz hu hp H;obtain⟨new,hf,hnew⟩:=Jp hu H;obtain⟨new2,hf2,hnew2⟩:=Kz H;have en:new2=new:=append_cancel_left (hf2.symm.trans hf);subst en;have hs0:∀x∈new2,fI (FF m G) x=0:=λx hx=>by
  obtain⟨h1,M⟩:=hnew x hx;by_cases h4:x.kd=4
  ·obtain⟨h5,h6,h7,h8⟩:=M h4;refine Dc (.inr ?_);rw[h5];have hV:=gT (q:=l.q) hu;exact uP (R.qi _ O) hn (by rw[hV];exact h6) (by rw[hV];exact h7) (by rw[hV];exact h8)
  exact Dc (.inl ⟨hnew2 x hx,h4⟩)
 have hst:m'.ws (fI (FF m G))<=m.ws (fI (FF m G)):=oI hn lH.mV lH.iO hf2 hs0;have hcl:m'.ws bM<=m.ws bM:=oI hn lH.mV lH.iO hf2 λx hx=>rZ (hnew x hx).1;have hoff:m'.off=m.off:=alx H;refine⟨hst,?_⟩;have hpn:∀ {a:Nat},rz (m'.ah n).pend<=a->(o5 λj=>rz (m'.ah j).pend)<=(o5 λj=>rz (m.ah j).pend)+a:=λ{a} h=>
  MK hn (λj hj=>by rw[lH.mV j hj];exact Nat.le_refl _) (by omega)
 have J:∀q,((m'.ah n).pend=none\/ ∃p,(m'.ah n).pend=some p/\p.q≠q)-> ∀d,r9 (FF m G q) d (vq m' q)=r9 (FF m G q) d (vq m q):=λq h d=>ahq λj=>by
  by_cases e:j=n
  ·subst e;unfold vq;rw[jO hp];have e:qF (m'.ah j) q=(m'.ah j).bs q:=by
    rcases h with h|⟨p,h,M⟩
    ·exact jO h
    exact xY h M
   rw[e];exact⟨(hbs q).1,(hbs q).2.2.1,(hbs q).2.2.2⟩
  rw[JV (lH.mV j e)];exact⟨E,E,E⟩
 rcases SY with⟨h1,M⟩|⟨p,h1,M,h3,h4,h5,h6⟩
 ·left
  have hP:PP m' (FF m G)<=PP m (FF m G):=by
   unfold PP;rw[J 0 (.inl h1),J 1 (.inl h1),hoff];omega
  refine⟨h1,hP,?_⟩;have:=hpn (a:=0) (by rw[h1];exact Nat.le_refl _);unfold ZZ;omega
 right
 have hV:=gT (q:=l.q) hu;have hff:=(iL hU.tape hU.kX h3 (by rw[M];omega)).2;have acO:=V8 (R.qi _ O) hn hV E (hL _ O E) Ay M E h3 h5 hff;have I:=R.qi _ O;have hRR:(FF m G l.q).R=1↔(vw m l.q (G l.q).o).role≠1:=by
  show(if (vw m l.q (G l.q).o).role=1 then 0 else 1)=1↔_
  split
  ·rename_i c;exact⟨λh=>by omega,λh=>absurd c h⟩
  rename_i c;exact⟨λ_=>c,λ_=>E⟩
 have hvo:(G l.q).G.length<=(vq m l.q (G l.q).o).evs.length:=by
  have Z:=I.o5;rw[<-I.uJ];unfold vq
  cases hpo:(m.ah (G l.q).o).pend with
  |none=>rw[jO hpo,gT (R.up _ Z)];exact Nat.le_refl _
  |some p2=>
   by_cases e:p2.q=l.q
   ·rw[oN hpo e];have hpv:tY m l.q (G l.q).o=some p2:=by unfold tY;rw[hpo];exact FT e
    obtain⟨_,hk⟩:=I.lF _ Z p2 hpv;have ae:=gT (q:=l.q) (R.up _ Z);have uJ:=I.uJ;have Aw:=I.Aw
    cases p2 with
    |serve k evs op num a=>obtain⟨_,_,k3,_⟩:=hk;show _<=evs.length;rw[k3,uJ,length_append];omega
    |begun k x=>obtain⟨_,_,_,_,k4,_⟩:=hk;omega
    |got k x last=>have:=hk.1;omega
    |fF k x a=>obtain⟨_,_,k3⟩:=hk;show _<=x.evs.length;rw[k3];exact Nat.le_refl _
    |forget k x=>obtain⟨_,_,k3⟩:=hk;have:=I.q9;omega
   rw[xY hpo e,gT (R.up _ Z)];exact Nat.le_refl _
 have hpp:=alv (FF:=FF m G) (d:=(m.off.at l.q).epoch) (v:=vq m l.q) I hn hV M h3 h5 acO Ay E E hRR E (λq x last e=>by
  subst e;have hk4:l.kd=4:=h5.1;have hne:=aDS q x last hk4 h1;obtain⟨es,g1,g2,g3,g4,g5,g6,g7⟩:=uN h3;have e:q=l.q:=M;subst e
  cases last with
  |true=>simp only[if_true,length_singleton]at*;omega
  |false=>simp only[Bool.false_eq_true,if_false,length_nil]at*;omega) (by unfold vq;exact jO hp) hvo
 have e1:∀d,r9 (FF m G l.q) d (vq m' l.q)=r9 (FF m G l.q) d (upd (vq m l.q) n (p.b (m.ah n).bs)):=λd=>by
  congr 1
  funext j
  by_cases e:j=n
  ·subst e;rw[upd_same];unfold vq;rw[oN h1 M,h4]
  rw[upd_ne e];exact JV (lH.mV j e)
 have hP:PP m' (FF m G)+1<=PP m (FF m G)+2*bM l+fI (FF m G) l:=by
  have h01:l.q=0\/l.q=1:=by omega
  unfold PP;rw[hoff]
  rcases h01 with e|e
  ·rw[e]at hpp e1;have:=J 1 (.inr ⟨p,h1,by rw[M,e];decide⟩) (m.off.at 1).epoch;rw[this,e1];omega
  rw[e]at hpp e1;have:=J 0 (.inr ⟨p,h1,by rw[M,e];decide⟩) (m.off.at 0).epoch;rw[this,e1];omega
 refine⟨by rw[h1];simp,hP,?_⟩;have:=hpn (a:=1) (by rw[h1];exact Nat.le_refl _);unfold ZZ;omega
end
section
variable {m w m':Cl}{n q B:Nat}{l:bG}{p:bO}{G G':Nat->Gh}{g g':Gh}{b b':aQ}{rs us:List cB}{F F':Nat->Wy}
def mO (hv:Vd m)(h:∀q,q<2->F q=F' q):PP m F=PP m F'/\m.ws (fI F)=m.ws (fI F')/\ZZ m F=ZZ m F':=by
 have h1:PP m F=PP m F':=by unfold PP;rw[h 0 (by decide),h 1 (by decide)]
 have e:∀l:bG,l.q<2->fI F l=fI F' l:=λl I=>by unfold fI;rw[h _ I]
 have M:m.ws (fI F)=m.ws (fI F'):=Nat.le_antisymm (Rw (λl I=>Nat.le_of_eq (e l (hv.fly l I))) λj J l I=>Nat.le_of_eq (e l (hv.iO j J l I))) (Rw (λl I=>Nat.le_of_eq (e l (hv.fly l I)).symm) λj J l I=>Nat.le_of_eq (e l (hv.iO j J l I)).symm);exact⟨h1,M,by unfold ZZ;rw[h1,M]⟩
def arI (hv:Vd m)(h:∀q,q<2->mM (F q) (F' q)):m.ws (fI F')<=m.ws (fI F):=Rw (λl I=>(h _ (hv.fly l I)).sl) λj J l I=>(h _ (hv.iO j J l I)).sl
def Ue (I:(m.ah n).up=true)(J:(m.ah n).pend=some p)(O:p.ok (m.ah n).bs):∃new,(m.step n).fly=m.fly++new/\(∀x∈new,x.kd≠2)/\(m.step n).off=m.off:=by
 have one:∀ {x:bG},x.kd≠2-> ∀y∈[x],y.kd≠2:=λh y Z=>by rw[mem_singleton]at Z;subst Z;exact h
 cases p with
 |serve k evs op num a=>
  rw[jr E I J E O.1];exact⟨_,E,one (by show(1:Int)≠2;decide),E⟩
 |begun k b=>
  rw[nH E I J];exact⟨_,E,one (by show(3:Int)≠2;decide),E⟩
 |got k b last=>
  cases last with
  |true=>
   rw[jT E I J];exact⟨[],by rw[append_nil];rfl,(λx M=>absurd M not_mem_nil),E⟩
  |false=>
   rw[rX E I J];exact⟨_,E,one (by show(3:Int)≠2;decide),E⟩
 |fF k b at_=>
  rw[pU E I J];dsimp only;unfold lq
  split
  ·exact⟨[],by rw[append_nil],(λx M=>absurd M not_mem_nil),E⟩
  exact⟨_,E,one (by show(4:Int)≠2;decide),E⟩
 |forget k b=>
  rw[lY E I J];exact⟨[],by rw[append_nil];rfl,(λx M=>absurd M not_mem_nil),E⟩
def aly {T S dV K:Nat}(R:Rm m G B)(R':Rm (m.step n) G' B)(hW:∀q,q<2->mM (FF m G q) (FF (m.step n) G' q))(hb:bY m T S dV K)(hn:n<5)(J:(m.ah n).pend=some p):
  (m.step n).ws (fI (FF (m.step n) G'))<=m.ws (fI (FF m G))/\PP (m.step n) (FF (m.step n) G')<=PP m (FF m G)/\ZZ (m.step n) (FF (m.step n) G')+1<=ZZ m (FF m G)/\((m.step n).ah n).pend=none:=by
 have hu:=R.up n hn;obtain⟨rs,us,hU⟩:=(hb.iE n hn).sG hu;obtain⟨h1,h2,h3⟩:=hU.FN p J;obtain⟨_,hf⟩:=iL hU.tape hU.kX h2 h3;obtain⟨dB,y1,y2,y3,y4,y5,y6,y7,y8,y9,_⟩:=zK E hu J h3 hf h2;have eY:(m.step n).ah n=dB:=by rw[y1,upd_same]
 have hvY:∀q,dB.bs q=qF (m.ah n) q:=λq=>by
  rw[y2];by_cases e:q=p.q
  ·subst e;rw[upd_same,oN J E]
  rw[upd_ne e,xY J (λh=>e h.symm)]
 have I:∀j,j≠n->(m.step n).ah j=m.ah j:=λj hj=>by rw[y1,upd_ne hj]
 have M:((m.step n).ah n).inbox=(m.ah n).inbox:=by rw[eY,y7]
 obtain⟨new,Z,O⟩:=Qn hu J h2;obtain⟨new2,aDT,hnew2,hoff⟩:=Ue hu J h2;have en:new2=new:=append_cancel_left (aDT.symm.trans Z);subst en;have hpq:=R.vd.lF n hn p J;have hs0:∀x∈new2,fI (FF (m.step n) G') x=0:=λx hx=>by
  obtain⟨k1,k2⟩:=O x hx;by_cases h4:x.kd=4
  ·obtain⟨k5,k6,k7,k8⟩:=k2 h4;refine Dc (.inr ?_);rw[k5];have V9:vw (m.step n) p.q n=qF (m.ah n) p.q:=by rw[gT (by rw[eY];exact y6),eY,hvY]
   exact uP (R'.qi _ hpq) hn (by rw[V9];exact .inr k6) (by rw[V9];exact k7) (by rw[V9];exact k8)
  exact Dc (.inl ⟨hnew2 x hx,h4⟩)
 have hst:(m.step n).ws (fI (FF (m.step n) G'))<=m.ws (fI (FF m G)):=Nat.le_trans (oI hn I M Z hs0) (arI R.vd hW);have hcl:(m.step n).ws bM<=m.ws bM:=oI hn I M Z λx hx=>rZ (O x hx).1;have hvq:∀q,vq (m.step n) q=vq m q:=λq=>by
  funext j
  by_cases e:j=n
  ·subst e;unfold vq;rw[eY,jO y5,hvY]
  exact JV (I j e)
 have hP:PP (m.step n) (FF (m.step n) G')<=PP m (FF m G):=by
  have k:∀q,q<2-> ∀d v,r9 (FF (m.step n) G' q) d v<=r9 (FF m G q) d v:=λq hq d v=>(hW q hq).pq ((R.qi q hq).o5);unfold PP;rw[hvq,hvq,hoff];have:=k 0 (by decide) (m.off.at 0).epoch (vq m 0);have:=k 1 (by decide) (m.off.at 1).epoch (vq m 1);omega
 refine⟨hst,hP,?_,by rw[eY];exact y5⟩;have:=Xy (f:=λj=>rz (m.ah j).pend) (f':=λj=>rz ((m.step n).ah j).pend) (a:=1) hn (λj hj=>by show rz _=rz _;rw[I j hj]) (by show rz _+1<=rz _;rw[eY,y5,J];exact Nat.le_refl _);unfold ZZ;omega
def aai (R:Rm m G B)(hn:n<5):(m.jU n).ws (fI (FF m G))<=m.ws (fI (FF m G))/\PP (m.jU n) (FF m G)<=PP m (FF m G)/\ZZ (m.jU n) (FF m G)<=ZZ m (FF m G):=by
 have hu:=R.up n hn;have J:(m.jU n).ah=upd m.ah n {m.ah n with turn:=(m.ah n).turn+1}:=rfl;have Z:(m.jU n).ah n={m.ah n with turn:=(m.ah n).turn+1}:=by rw[J,upd_same]
 have I:∀j,j≠n->(m.jU n).ah j=m.ah j:=λj hj=>by rw[J,upd_ne hj]
 have hV:∀q,vw m q n=(m.ah n).bs q:=λq=>gT hu;have M:∀x∈fV n ((m.ah n).turn % 4) ((m.ah n).bs ((m.ah n).turn % 4)) ((m.ah n).sure ((m.ah n).turn % 4)),bM x=0/\fI (FF m G) x=0:=by
  intro x h;have e5:∀y:bG,y.kd=5->bM y=0/\fI (FF m G) y=0:=λy hy=>⟨rZ (by omega),Dc (.inl (by omega))⟩;unfold fV at h
  rcases mem_append.1 h with h|h
  ·rcases mem_append.1 h with h|h
   ·split at h
    ·rename_i hr
     rw[mem_singleton]at h;subst h;refine⟨rZ (by show(2:Int)≠0;decide),Dc (.inr ?_)⟩;have h4:(m.ah n).turn % 4<2:=by
      by_cases c:(m.ah n).turn % 4<2
      ·exact c
      have:=R.vd.view hn hu (q:=(m.ah n).turn % 4) (by omega) (by omega);omega
     exact uP (R.qi _ h4) hn (by rw[hV];exact hr) (by rw[hV];rfl) (by rw[hV];rfl)
    simp at h
   split at h
   ·rw[mem_singleton]at h;subst h;exact e5 _ E
   simp at h
  split at h
  ·rw[mem_singleton]at h;subst h;exact e5 _ E
  simp at h
 have hst:(m.jU n).ws (fI (FF m G))<=m.ws (fI (FF m G)):=oI hn I (by rw[Z]) E λx h=>(M x h).2;have hcl:(m.jU n).ws bM<=m.ws bM:=oI hn I (by rw[Z]) E λx h=>(M x h).1;have O:∀q,vq (m.jU n) q=vq m q:=λq=>by
  funext j
  by_cases e:j=n
  ·subst e;unfold vq;rw[Z];rfl
  exact JV (I j e)
 have hP:PP (m.jU n) (FF m G)<=PP m (FF m G):=by
  unfold PP;rw[O,O]
  show 2*(m.jU n).ws bM+(r9 (FF m G 0) (m.off.at 0).epoch (vq m 0)+r9 (FF m G 1) (m.off.at 1).epoch (vq m 1))<=_
  omega
 refine⟨hst,hP,?_⟩;have:(o5 λj=>rz ((m.jU n).ah j).pend)=o5 λj=>rz (m.ah j).pend:=Bl λj _=>by
  show rz _=rz _
  by_cases e:j=n
  ·subst e;rw[Z]
  rw[I j e]
 unfold ZZ;omega
def axj (m m':Cl)(F F':Nat->Wy)(n:Nat):Prop:=
 m'.ws (fI F')<=m.ws (fI F)/\PP m' F'<=PP m F/\
 (((m.ah n).pend=none/\(m'.ah n).pend=none/\ZZ m' F'<=ZZ m F/\ ∀q,q<2->F' q=F q)\/((m.ah n).pend≠none/\ZZ m' F'+1<=ZZ m F)\/
  ((m.ah n).pend=none/\(m'.ah n).pend≠none/\ZZ m' F'+1<=ZZ m F/\(m.ws (fI F)=0->ZZ m' F'+7<=ZZ m F)))
def alz (l:bG):fI F l<=1:=by unfold fI;split<;>omega
def ahr (l:bG)(h:fI F l≠0):bM l=0:=by
 unfold fI at h
 split at h
 ·rename_i c;exact rZ (by omega)
 exact absurd E h
def aaj {T S dV K:Nat}(R:Rm m G B)(hB:B+46<=100000)(hb:bY m T S dV K)(hn:n<5):∃G',Rm (m.step n) G' B/\(∀q,q<2->mM (FF m G q) (FF (m.step n) G' q))/\axj m (m.step n) (FF m G) (FF (m.step n) G') n:=by
 have hu:=R.up n hn;obtain⟨rs,us,hU⟩:=(hb.iE n hn).sG hu
 cases hp:(m.ah n).pend with
 |some p=>
  obtain⟨G',R',hW⟩:=alp R hb hn hp;obtain⟨h1,h2,h3,h4⟩:=aly R R' hW hb hn hp;exact⟨G',R',hW,h1,h2,.inr (.inl ⟨by rw[hp];simp,h3⟩)⟩
 |none=>
  have key:=qy (n:=n) (λw=>Ru m n rs w/\ ∃Z,Rm w Z B/\(∀q,q<2->FF w Z q=FF m G q)/\w.ws (fI (FF m G))<=m.ws (fI (FF m G))/\PP w (FF m G)<=PP m (FF m G)/\
    (((w.ah n).pend=none/\ZZ w (FF m G)<=ZZ m (FF m G))\/((w.ah n).pend≠none/\ZZ w (FF m G)+1<=ZZ m (FF m G)/\(m.ws (fI (FF m G))=0->ZZ w (FF m G)+7<=ZZ m (FF m G))))) (λw l r ⟨H,Z,M,F1,S1,P1,O⟩ hp1 hin=>by
   obtain⟨h1,h2,h3,h4⟩:=qz (λl hl=>l9 (hb.iO n hn l hl)) H hp1 hin;have hl0:l∈(w.ah n).inbox:=by rw[hin];simp
   obtain⟨b1,b2⟩:=hb.iO n hn l (H.iO l hl0);have hlq:=M.vd.iO n hn l hl0;have Jh:(w.put n ((w.ah n).box r)).ah=upd w.ah n ((w.ah n).box r):=rfl;have e0:(w.put n ((w.ah n).box r)).ah n=(w.ah n).box r:=aW _;have I:∀j,j≠n->(w.put n ((w.ah n).box r)).ah j=w.ah j:=λj hj=>upd_ne hj;have hvw:∀q,vw (w.put n ((w.ah n).box r)) q=vw w q:=λq=>mJ Jh E;have hF1:FF (w.put n ((w.ah n).box r)) Z=FF w Z:=by funext q;exact JR (.refl _) (by rw[hvw]) (by rw[hvw])
   have hws:∀f:bG->Nat,(w.put n ((w.ah n).box r)).ws f+f l<=w.ws f:=λf=>FW hn (λj hj=>by rw[I j hj]) (by
    rw[e0,hin]
    show dI f w.fly+dI f r+f l<=dI f w.fly+(f l+dI f r)
    omega)
   have R2:Rmc (w.put n ((w.ah n).box r)) Z B (tZ (FF (w.put n ((w.ah n).box r)) Z) l) (bM l):=by
    refine⟨λj hj=>?_,M.vd.at_ (n:=n) (X:=(w.ah n).box r) E (λq h7 h8=>M.vd.rol n hn q h7 h8) (M.vd.lF n hn) (λx hx=>M.vd.iO n hn x (by rw[hin];exact mem_cons_of_mem _ hx)) (λx hx=>.inl hx),λq J=>?_,λj hj=>?_,λq J=>?_⟩
    ·by_cases e:j=n
     ·rw[e,e0];exact M.up n hn
     rw[I j e];exact M.up j hj
    ·exact(M.qi q J).far hn Jh E E E (λx hx=>by rw[hin];exact mem_cons_of_mem _ hx) (λx hx=>.inl hx) E E E
    ·have h5:=M.F5 j hj;have h6:=hws (tZ (FF w Z));unfold F5 at h5⊢;rw[hF1];by_cases e:j=n
     ·rw[e]at h5⊢;rw[e0];have e1:∀q,qF ((w.ah n).box r) q=qF (w.ah n) q:=λ_=>E;have e2:((w.ah n).box r).data=(w.ah n).data:=rfl;rw[e1,e1,e2];omega
     rw[I j e];omega
    have h5:=M.cap q J;have h6:=Db (d:=bM l) (d':=bM l) hn I (hws bM) (by rw[e0];show yD (w.ah n).pend+_<=_;omega);rw[hF1];omega
   have hL:∀q,q<2->l.q=q->Ed (Z q) (vw (w.put n ((w.ah n).box r)) q) (w.off.at q) l:=λq J aoG=>by rw[hvw];exact(M.qi q J).mR l ⟨aoG,.inr ⟨n,hn,hl0⟩⟩
   obtain⟨G2,R3,F2⟩:=afe R2 hB hn h2 (by rw[e0];exact hp1) hL b2 b1.2.1 b1.2.2.2 hlq (jV h1.1) h3;have hFF:∀q,q<2->FF (w.put n ((w.ah n).box r)) Z q=FF m G q:=λq J=>by rw[hF1];exact F1 q J
   obtain⟨z1,z2⟩:=arH R2 hn h2 (by rw[e0];exact hp1) hL b2 hlq (jV h1.1) h3 (λq x last hk4 hpe=>arG hk4 (by rw[e0];exact hp1) hpe);obtain⟨c1,c2,c3⟩:=mO R3.vd hFF;obtain⟨d1,d2,d3⟩:=mO R2.vd hFF;have es:fI (FF (w.put n ((w.ah n).box r)) Z) l=fI (FF m G) l:=by unfold fI;rw[hFF _ hlq]
   have hvq:∀q,vq (w.put n ((w.ah n).box r)) q=vq w q:=λq=>by
    funext j
    by_cases e:j=n
    ·subst e;unfold vq;rw[e0];rfl
    exact JV (I j e)
   have hpn:(o5 λj=>rz ((w.put n ((w.ah n).box r)).ah j).pend)=o5 λj=>rz (w.ah j).pend:=Bl λj _=>by
    show rz _=rz _
    by_cases e:j=n
    ·subst e;rw[e0];rfl
    rw[I j e]
   have hwc:=hws bM;have hwt:=hws (fI (FF m G));have hPw:PP (w.put n ((w.ah n).box r)) (FF m G)+2*bM l<=PP w (FF m G):=by
    unfold PP;rw[hvq,hvq]
    show 2*(w.put n ((w.ah n).box r)).ws bM+(r9 (FF m G 0) (w.off.at 0).epoch (vq w 0)+r9 (FF m G 1) (w.off.at 1).epoch (vq w 1))+_<=_
    omega
   have hZw:ZZ (w.put n ((w.ah n).box r)) (FF m G)+16*bM l+2*fI (FF m G) l<=ZZ w (FF m G):=by
    unfold ZZ;rw[hpn];omega
   have hZ1:ZZ w (FF m G)<=ZZ m (FF m G):=by
    rcases O with⟨_,O⟩|⟨O,_⟩
    ·exact O
    exact absurd hp1 O
   have s1:=alz (F:=FF m G) l;have s2:=ahr (F:=FF m G) l;refine⟨h1.1,h4,G2,R3,λq J=>by rw[F2 q J];exact hFF q J,by rw[<-c2];omega,?_,?_⟩
   ·rw[<-c1]
    rcases z2 with⟨_,z3,_⟩|⟨_,z3,_⟩
    ·omega
    by_cases c:fI (FF m G) l=0
    ·omega
    have:=s2 c;omega
   rw[<-c3]
   rcases z2 with⟨z0,_,z3⟩|⟨z0,_,z3⟩
   ·exact .inl ⟨z0,by omega⟩
   refine .inr ⟨z0,by omega,λh0=>?_⟩;have:fI (FF m G) l=0:=by omega
   omega) _ m E ⟨C8 hu ⟨_,hU⟩,G,R,λ_ _=>E,Nat.le_refl _,Nat.le_refl _,.inl ⟨hp,Nat.le_refl _⟩⟩
  obtain⟨H1,Z,M,F1,S1,P1,O⟩:=key;rw[jq hu hp];obtain⟨c1,c2,c3⟩:=mO M.vd F1
  split
  ·rename_i hpm
   have hZ1:ZZ (m.more n) (FF m G)<=ZZ m (FF m G):=by
    rcases O with⟨_,O⟩|⟨O,_⟩
    ·exact O
    exact absurd hpm O
   obtain⟨G2,R2,F2⟩:=alq M hn;obtain⟨d1,d2,d3⟩:=aai M hn;obtain⟨e1,e2,e3⟩:=mO R2.vd F2;refine⟨G2,R2,λq J=>by rw[F2 q J,F1 q J];exact .refl _,by omega,by omega,.inl ⟨hp,?_,by omega,λq J=>by rw[F2 q J,F1 q J]⟩⟩
   show((upd (m.more n).ah n { (m.more n).ah n with turn:=((m.more n).ah n).turn+1}) n).pend=none
   rw[upd_same];exact hpm
  rename_i hpm
  have hZ1:ZZ (m.more n) (FF m G)+1<=ZZ m (FF m G)/\(m.ws (fI (FF m G))=0->ZZ (m.more n) (FF m G)+7<=ZZ m (FF m G)):=by
   rcases O with⟨O,_⟩|⟨_,O⟩
   ·exact absurd O hpm
   exact O
  exact⟨Z,M,λq J=>by rw[F1 q J];exact .refl _,by omega,by omega,.inr (.inr ⟨hp,hpm,by omega,λh=>by have:=hZ1.2 h;omega⟩)⟩
end
section
variable {m w m':Cl}{n q B:Nat}{l:bG}{p:bO}{G G':Nat->Gh}{g g':Gh}{F F':Nat->Wy}
def alA (I:q<4)(J:l.q<4):(m.off.at q).epoch<=((dG m.off l).at q).epoch:=by
 unfold dG
 split
 ·rename_i c
  obtain⟨M,f2,f3,O,Z⟩:=Jg c.2;rw[Z];dsimp only;rw[Int.toNat_natCast,nJ J I]
  split
  ·rename_i e
   obtain⟨_,_,w3⟩:=nI (d:=m.off) (q:=l.q) (λh=>h M);rw[e];rw[w3,Int.toNat_natCast]at O
   show(m.off.at l.q).epoch<=l.ep+1
   omega
  exact Int.le_refl _
 exact Int.le_refl _
def Uf (h:q<4)(I:l.q<4):(m.off.at q).epoch<=((m.come l).off.at q).epoch:=by
 unfold Cl.come
 split
 ·exact Int.le_refl _
 split
 ·split<;>exact alA h I
 split<;>exact Int.le_refl _
def Pf:∀(ls:List bG) {m:Cl},q<4->(∀l∈ls,l.q<4)->(m.off.at q).epoch<=((ls.foldl Cl.come m).off.at q).epoch
 |[],_,_,_=>Int.le_refl _
 |l::ls,m,h,I=>by
  rw[foldl_cons];exact Int.le_trans (Uf h (I l mem_cons_self)) (Pf ls h λx J=>I x (mem_cons_of_mem _ J))
def alB (h:q<4)(I:∀l∈m.fly,l.q<4):(m.off.at q).epoch<=(m.all.off.at q).epoch:=Pf m.fly (m:={m with fly:=[]}) h I
def arJ {T S dV K:Nat}(R:Rm m G B)(hb:bY m T S dV K):m.all.ws (fI (FF m G))<=m.ws (fI (FF m G))/\PP m.all (FF m G)<=PP m (FF m G)/\ZZ m.all (FF m G)<=ZZ m (FF m G)/\
  ((∀q,q<2->m.all.off.at q=m.off.at q)\/ZZ m.all (FF m G)+7<=ZZ m (FF m G)):=by
 obtain⟨R',hF⟩:=WA R hb;have hst:m.all.ws (fI (FF m G))<=m.ws (fI (FF m G)):=CG RL hb.mR;have hcl:m.all.ws bM<=m.ws bM:=CG F6 hb.mR;have I:∀q,vq m.all q=vq m q:=λq=>by
  funext j
  obtain⟨ib,e⟩:=uf m j;unfold vq;rw[e];rfl
 have hpn:(o5 λj=>rz (m.all.ah j).pend)=o5 λj=>rz (m.ah j).pend:=Bl λj _=>by
  obtain⟨ib,e⟩:=uf m j
  show rz _=rz _
  rw[e]
 have hd:∀q,q<2->m.all.off.at q=m.off.at q\/(Ud (FF m G q) (m.all.off.at q).epoch+1<=Ud (FF m G q) (m.off.at q).epoch):=λq J=>by
  obtain⟨d,d1,d2,d3⟩:=(R.qi q J).dir;obtain⟨d',e1,e2,e3⟩:=(R'.qi q J).dir;have O:=alB (m:=m) (q:=q) (by omega) λl hl=>(hb.mR l hl).1;rw[d1,e1]at O⊢;dsimp only at O⊢;have hm:(FF m G q).M=(G q).m:=rfl;by_cases c:d'=d
  ·left;rw[c]
  right
  unfold Ud;rw[hm,if_pos (by omega),if_neg (by omega)];exact Nat.le_refl _
 have Z:∀q,q<2->Ud (FF m G q) (m.all.off.at q).epoch<=Ud (FF m G q) (m.off.at q).epoch:=λq J=>by
  rcases hd q J with h|h
  ·rw[h];exact Nat.le_refl _
  omega
 have l0:=Z 0 (by decide);have l1:=Z 1 (by decide);have hP:PP m.all (FF m G)<=PP m (FF m G):=by
  unfold PP r9;rw[I,I];omega
 refine⟨hst,hP,by unfold ZZ;omega,?_⟩
 rcases hd 0 (by decide)with h0|h0
 ·rcases hd 1 (by decide)with h1|h1
  ·left
   intro q J;have:q=0\/q=1:=by omega
   rcases this with rfl|rfl
   ·exact h0
   exact h1
  right
  have:PP m.all (FF m G)+1<=PP m (FF m G):=by
   unfold PP r9;rw[I,I];omega
  unfold ZZ;omega
 right
 have:PP m.all (FF m G)+1<=PP m (FF m G):=by
  unfold PP r9;rw[I,I];omega
 unfold ZZ;omega
def Bn (m:Cl):Prop:= ∃T S dV K,bY m T S dV K
def Bn.step (h:Bn m)(hn:n<5):Bn (m.step n):=by obtain⟨T,S,dV,K,h⟩:=h;exact⟨_,_,_,_,OM h hn⟩
def Bn.au5 (h:Bn m):Bn m.all:=by obtain⟨T,S,dV,K,h⟩:=h;exact⟨_,_,_,_,TF h⟩
noncomputable def Cl.dD (m:Cl):Nat->Cl
 | 0=>m
 |i+1=>(m.dD i).step i
noncomputable def Cl.mU (m:Cl):Cl:=(m.dD 5).all
structure Qt (m m':Cl):Prop where
 lF:∀n,n<5->(m.ah n).pend=none
 aoH:∀n,n<5->(m'.ah n).pend=none
 off:∀q,q<2->m'.off.at q=m.off.at q
def tL (h:Bn m):∀i,i<=5->Bn (m.dD i)
 | 0,_=>h
 |i+1,hi=>(tL h i (by omega)).step (by omega)
def KA (h:Bn m):∀i,i<=5-> ∀j,i<=j->(m.dD i).ah j=m.ah j
 | 0,_,_,_=>rfl
 |i+1,hi,j,hj=>by
  obtain⟨T,S,dV,K,I⟩:=tL h i (by omega)
  show((m.dD i).step i).ah j=_
  rw[oM I (by omega) (by omega)];exact KA h i (by omega) j (by omega)
def Ug (h:Bn m){n:Nat}:∀i,i<=5->n<i->(m.dD i).ah n=(m.dD (n+1)).ah n
 | 0,_,hn=>by omega
 |i+1,hi,hn=>by
  by_cases e:n=i
  ·subst e;rfl
  obtain⟨T,S,dV,K,I⟩:=tL h i (by omega)
  show((m.dD i).step i).ah n=_
  rw[oM I (by omega) e];exact Ug h i (by omega) (by omega)
def KC {T S dV K:Nat}(M:bY m T S dV K)(hn:n<5):(m.step n).off=m.off:=by
 cases I:(m.ah n).up with
 |false=>rw[mG I]
 |true=>
  obtain⟨rs,us,O⟩:=(M.iE n hn).sG I
  cases J:(m.ah n).pend with
  |some p=>
   obtain⟨h1,Z,h3⟩:=O.FN p J;obtain⟨_,_,_,h⟩:=Ue I J Z;exact h
  |none=>
   have H:=Km I ⟨us,O⟩ λl hl=>l9 (M.iO n hn l hl);rw[jq I J]
   split
   ·exact H.keep.off
   exact H.keep.off
def Jq (R:Rm m G B)(hB:B+46<=100000)(O:Bn m):∀i,i<=5-> ∃G',Rm (m.dD i) G' B/\(∀q,q<2->mM (FF m G q) (FF (m.dD i) G' q))/\(m.dD i).ws (fI (FF (m.dD i) G'))<=m.ws (fI (FF m G))/\PP (m.dD i) (FF (m.dD i) G')<=PP m (FF m G)/\
  (((∀n,n<i->(m.ah n).pend=none/\((m.dD i).ah n).pend=none)/\ZZ (m.dD i) (FF (m.dD i) G')<=ZZ m (FF m G)/\ ∀q,q<2->FF (m.dD i) G' q=FF m G q)\/
   (ZZ (m.dD i) (FF (m.dD i) G')+1<=ZZ m (FF m G)/\((∃n,n<5/\(m.ah n).pend≠none)\/m.ws (fI (FF m G))≠0))\/ZZ (m.dD i) (FF (m.dD i) G')+7<=ZZ m (FF m G))
 | 0,_=>⟨G,R,λ_ _=>.refl _,Nat.le_refl _,Nat.le_refl _,.inl ⟨λn hn=>by omega,Nat.le_refl _,λ_ _=>E⟩⟩
 |i+1,hi=>by
  obtain⟨G1,R1,W1,S1,P1,Z⟩:=Jq R hB O i (by omega);obtain⟨T,S,dV,K,h⟩:=tL O i (by omega);obtain⟨M,R2,W2,S2,P2,Z2⟩:=aaj R1 hB h (n:=i) (by omega);have e1:(m.dD i).ah i=m.ah i:=KA O i (by omega) i (Nat.le_refl _);have I:∀n,n≠i->((m.dD i).step i).ah n=(m.dD i).ah n:=λn hn=>oM h (by omega) hn;refine⟨M,R2,λq J=>(W1 q J).trans (W2 q J),Nat.le_trans S2 S1,Nat.le_trans P2 P1,?_⟩
  show(_/\ZZ ((m.dD i).step i) (FF ((m.dD i).step i) M)<=_/\_)\/(ZZ ((m.dD i).step i) (FF ((m.dD i).step i) M)+1<=_/\_)\/ZZ ((m.dD i).step i) (FF ((m.dD i).step i) M)+7<=_
  rcases Z2 with⟨p1,p2,z,f⟩|⟨p1,z⟩|⟨p1,p2,z,z7⟩
  ·rcases Z with⟨a1,a2,a3⟩|⟨a1,a2⟩|a1
   ·refine .inl ⟨λn hn=>?_,by omega,λq J=>(f q J).trans (a3 q J)⟩;by_cases e:n=i
    ·subst e;rw[e1]at p1;exact⟨p1,p2⟩
    obtain⟨b1,b2⟩:=a1 n (by omega);exact⟨b1,by show(((m.dD i).step i).ah n).pend=none;rw[I n e];exact b2⟩
   ·exact .inr (.inl ⟨by omega,a2⟩)
   exact .inr (.inr (by omega))
  ·rcases Z with⟨a1,a2,a3⟩|⟨a1,a2⟩|a1
   ·exact .inr (.inl ⟨by omega,.inl ⟨i,by omega,by rw[<-e1];exact p1⟩⟩)
   ·exact .inr (.inl ⟨by omega,a2⟩)
   exact .inr (.inr (by omega))
  rcases Z with⟨a1,a2,a3⟩|⟨a1,a2⟩|a1
  ·by_cases c:(m.dD i).ws (fI (FF (m.dD i) G1))=0
   ·have:=z7 c;exact .inr (.inr (by omega))
   exact .inr (.inl ⟨by omega,.inr (by omega)⟩)
  ·exact .inr (.inl ⟨by omega,a2⟩)
  exact .inr (.inr (by omega))
def Pg (R:Rm m G B)(hB:B+46<=100000)(Z:Bn m):∃G',Rm m.mU G' B/\Bn m.mU/\(∀q,q<2->mM (FF m G q) (FF m.mU G' q))/\m.mU.ws (fI (FF m.mU G'))<=m.ws (fI (FF m G))/\PP m.mU (FF m.mU G')<=PP m (FF m G)/\
  ((Qt m m.mU/\ZZ m.mU (FF m.mU G')<=ZZ m (FF m G)/\ ∀q,q<2->FF m.mU G' q=FF m G q)\/
   (ZZ m.mU (FF m.mU G')+1<=ZZ m (FF m G)/\((∃n,n<5/\(m.ah n).pend≠none)\/m.ws (fI (FF m G))≠0))\/ZZ m.mU (FF m.mU G')+7<=ZZ m (FF m G)):=by
 obtain⟨I,R1,W1,S1,P1,Z1⟩:=Jq R hB Z 5 (Nat.le_refl _);have M:=tL Z 5 (Nat.le_refl _);obtain⟨T,S,dV,K,h⟩:=id M;obtain⟨R2,F2⟩:=WA R1 h;obtain⟨a1,a2,a3,a4⟩:=arJ R1 h;obtain⟨c1,c2,c3⟩:=mO R2.vd F2;have SY:∀j,(m.mU.ah j).pend=((m.dD 5).ah j).pend:=λj=>by
  obtain⟨ib,e⟩:=uf (m.dD 5) j
  show((m.dD 5).all.ah j).pend=_
  rw[e]
 have O:∀i,i<=5->(m.dD i).off=m.off:=by
  intro i
  induction i with
  |zero=>intro _;rfl
  |succ i ih=>
   intro hi;obtain⟨T,S,dV,K,h⟩:=tL Z i (by omega);exact(KC h (by omega)).trans (ih (by omega))
 refine⟨I,R2,M.au5,λq J=>by show mM _ (FF (m.dD 5).all I q);rw[F2 q J];exact W1 q J,?_,?_,?_⟩
 ·show(m.dD 5).all.ws (fI (FF (m.dD 5).all I))<=_
  omega
 ·show PP (m.dD 5).all (FF (m.dD 5).all I)<=_
  omega
 show(Qt m m.mU/\ZZ (m.dD 5).all (FF (m.dD 5).all I)<=_/\ ∀q,q<2->FF (m.dD 5).all I q=_)\/(ZZ (m.dD 5).all (FF (m.dD 5).all I)+1<=_/\_)\/ZZ (m.dD 5).all (FF (m.dD 5).all I)+7<=_
 rcases Z1 with⟨b1,b2,b3⟩|⟨b1,b2⟩|b1
 ·rcases a4 with a4|a4
  ·refine .inl ⟨⟨λn hn=>(b1 n hn).1,λn hn=>by rw[SY];exact(b1 n hn).2,λq J=>?_⟩,by omega,λq J=>(F2 q J).trans (b3 q J)⟩
   show(m.dD 5).all.off.at q=_
   rw[a4 q J,O 5 (Nat.le_refl _)]
  exact .inr (.inr (by omega))
 ·exact .inr (.inl ⟨by omega,b2⟩)
 exact .inr (.inr (by omega))
end
def GX (X:Nd)(d:Dir):Prop:= ∀q,q<2->X.sure q=true->(X.bs q).role=1->(X.bs q).ep<=(d.at q).epoch
structure Su (m:Cl):Prop where
 iE:∀n,n<5->GX (m.ah n) m.off
 two:m.off.at 2=nowhere
 tre:m.off.at 3=nowhere
section
variable {m w m':Cl}{n q k:Nat}{l:bG}{p:bO}{G G':Nat->Gh}{g g':Gh}{X dB:Nd}{d d':Dir}{b:aQ}
def GX.up (h:GX X d)(J:∀q,q<2->(d.at q).epoch<=(d'.at q).epoch)(h1:∀q,q<2->dB.sure q=true->(dB.bs q).role=1->X.sure q=true/\(X.bs q).role=1/\(dB.bs q).ep=(X.bs q).ep):GX dB d':=λq I hs M=>by
 obtain⟨a,b,c⟩:=h1 q I hs M;have:=h q I a b;have:=J q I;omega
def Su.at_ (h:Su m)(J:∀j,j≠n->m'.ah j=m.ah j)(I:m'.off=m.off)(hn:GX (m'.ah n) m.off):Su m':=by
 refine⟨λj M=>?_,by rw[I];exact h.two,by rw[I];exact h.tre⟩;rw[I];by_cases e:j=n
 ·rw[e];exact hn
 rw[J j e];exact h.iE j M
def yw (h:GX X d)(hs:dB.sure=X.sure)(M:dB.bs=upd X.bs q b)(J:b.role=1->(X.bs q).role=1/\b.ep=(X.bs q).ep):GX dB d:=
 h.up (λ_ _=>Int.le_refl _) λk O h1 I=>by
  rw[hs]at h1;rw[M]at I⊢;by_cases e:k=q
  ·subst e;rw[upd_same]at I⊢;exact⟨h1,(J I).1,(J I).2⟩
  rw[upd_ne e]at I⊢;exact⟨h1,I,E⟩
def Qo (hQ:∀q,q<2-> ∃g,QI m q g)(hv:Vd m){T S dV K:Nat}(hb:bY m T S dV K)(hn:n<5)(h:Su m):Su (m.step n):=by
 refine h.at_ (λj hj=>oM hb hn hj) (KC hb hn) ?_;have Z:=h.iE n hn
 cases J:(m.ah n).up with
 |false=>rw[mG J];exact Z
 |true=>
  obtain⟨rs,us,hU⟩:=(hb.iE n hn).sG J
  cases hp:(m.ah n).pend with
  |some p=>
   obtain⟨_,h2,h3⟩:=hU.FN p hp
   cases p with
   |serve k evs op num a=>
    rw[jr E J hp E h2.1]
    show GX (upd m.ah n _ n) m.off
    rw[upd_same];exact yw Z E E λc=>⟨c,E⟩
   |begun k b=>
    obtain⟨_,e,f,h4,_⟩:=h2;rw[nH E J hp]
    show GX (upd m.ah n _ n) m.off
    rw[upd_same];exact yw Z E E λc=>by rw[h4]at c;exact absurd c (by show(4:Int)≠1;decide)
   |got k b last=>
    cases last with
    |true=>
     rw[jT E J hp]
     show GX (upd m.ah n _ n) m.off
     rw[upd_same];refine Z.up (λ_ _=>Int.le_refl _) λj hj M s2=>?_;by_cases e:j=k
     ·subst e;have O:upd (m.ah n).sure j false j=true:=M;rw[upd_same]at O
      cases O
     have e1:(upd (m.ah n).sure k false) j=(m.ah n).sure j:=upd_ne e;have e2:(upd (m.ah n).bs k b) j=(m.ah n).bs j:=upd_ne e;have O:(m.ah n).sure j=true:=e1.symm.trans M;have s2':((m.ah n).bs j).role=1:=(congrArg aQ.role e2).symm.trans s2;exact⟨O,s2',congrArg aQ.ep e2⟩
    |false=>
     obtain⟨h4,_,_,h5,_⟩:=h2;rw[rX E J hp]
     show GX (upd m.ah n _ n) m.off
     rw[upd_same];exact yw Z E E λc=>by rw[(h5 E).1]at c;exact absurd (h4.symm.trans c) (by decide)
   |fF k b at_=>
    obtain⟨h4,h5⟩:=h2;rw[pU E J hp]
    show GX (upd m.ah n _ n) m.off
    rw[upd_same];exact yw Z E E λc=>by rw[h5]at c;exact absurd c (by show(3:Int)≠1;decide)
   |forget k b=>
    obtain⟨h4,h5⟩:=h2;rw[lY E J hp]
    show GX (upd m.ah n _ n) m.off
    rw[upd_same];exact yw Z E E λc=>by rw[h5]at c;exact absurd c (by show(0:Int)≠1;decide)
  |none=>
   have hear:∀ {X:Nd} {l:bG},GX X m.off->l∈(m.ah n).inbox->l.kd=6->GX (X.hear n l) m.off:=λ{X l} hX hl hk j hj M s2=>by
    unfold Nd.hear at M s2⊢;dsimp only at M s2⊢
    split at M
    ·rename_i c
     by_cases e:j=l.q
     ·subst e;obtain⟨g,I⟩:=hQ _ hj;obtain⟨i,i1,i2,i3,_⟩:=(I.mR l ⟨E,.inr ⟨n,hn,hl⟩⟩).2.2.2 hk;rw[c.2,i1];exact i3
     rw[upd_ne e]at M;exact hX j hj M s2
    exact hX j hj M s2
   have key:=qy (n:=n) (λw=>Ru m n rs w/\GX (w.ah n) m.off) (λw l r ⟨H,A⟩ hp1 hin=>by
    obtain⟨h1,h2,h3,h4⟩:=qz (λl hl=>l9 (hb.iO n hn l hl)) H hp1 hin;have hl0:l∈(m.ah n).inbox:=H.iO l (by rw[hin];simp);refine⟨h1.1,h4,?_⟩;have e0:(w.put n ((w.ah n).box r)).ah n=(w.ah n).box r:=aW _;have A0:GX ((w.ah n).box r) m.off:=A;generalize (w.put n ((w.ah n).box r)).handle n l=m2 at h3⊢;generalize w.put n ((w.ah n).box r)=w2 at h3 e0;rw[<-e0]at A0;clear e0 h2 h4 hin hp1 A H
    cases h3 with
    |same=>exact A0
    |done a c1 c2=>rw[(uO (m:=w2)).2.1];exact A0
    |have_ c1=>exact A0
    |part b c1 c2 c3 c4 c5 c6=>
     obtain⟨g1,g2,g3⟩:=pW (m:=w2.aA n l.q b) (n:=n) (q:=l.q) (a:=l.at_);rw[g2,show(w2.aA n l.q b).ah n=(w2.ah n).aA l.q b from aW _];refine yw A0 E E λc=>?_
     rcases c4 with⟨c4,c7,_⟩|⟨c4,c7⟩
     ·rw[c7]at c;exact absurd (c4.symm.trans c) (by decide)
     rw[c7]at c;exact absurd (c4.symm.trans c) (by decide)
    |pend p dB d c1 c2 c3 c4 c5=>
     rw[aW]
     rcases c1 with c1|⟨c0,c1⟩
     ·rw[c1];exact A0
     rw[c1];exact hear A0 hl0 c0
    |hear c1=>rw[aW];exact hear A0 hl0 c1) _ m E ⟨C8 J ⟨_,hU⟩,Z⟩
   obtain⟨H1,A1⟩:=key;rw[jq J hp]
   split
   ·show GX (upd (m.more n).ah n { (m.more n).ah n with turn:=((m.more n).ah n).turn+1} n) m.off
    rw[upd_same];exact A1
   exact A1
def arK (h:Su m)(hn:∀j,j<5->(m'.ah j).sure=(m.ah j).sure/\(m'.ah j).bs=(m.ah j).bs)(O:∀q,q<2->(m.off.at q).epoch<=(m'.off.at q).epoch)(Z:m'.off.at 2=m.off.at 2)(h3:m'.off.at 3=m.off.at 3):Su m':=by
 refine⟨λj I=>(h.iE j I).up O λq hq J M=>?_,Z.trans h.two,h3.trans h.tre⟩;rw[(hn j I).1]at J;rw[(hn j I).2]at M⊢;exact⟨J,M,E⟩
def aak (h:Su m)(O:l.q<2):Su (m.come l):=by
 refine arK h (λj _=>?_) (λq Z=>Uf (by omega) (by omega)) ?_ ?_
 ·obtain⟨ib,e⟩:=Bj m l j;rw[e];exact⟨E,E⟩
 all_goals
  have I:∀q,2<=q->q<4->(dG m.off l).at q=m.off.at q:=λq h1 J=>by
   unfold dG
   split
   ·rename_i c
    obtain⟨_,_,_,_,M⟩:=Jg c.2;rw[M];dsimp only;rw[Int.toNat_natCast,nJ (by omega) J,if_neg (by omega)]
   rfl
  unfold Cl.come
  split
  ·rfl
  split
  ·split<;>exact I _ (by decide) (by decide)
  split<;>rfl
def Uh:∀(ls:List bG) {m:Cl},Su m->(∀l∈ls,l.q<2)->Su (ls.foldl Cl.come m)
 |[],_,h,_=>h
 |l::ls,m,h,I=>Uh ls (aak h (I l mem_cons_self)) λx J=>I x (mem_cons_of_mem _ J)
def WC (h:Su m)(hv:Vd m):Su m.all:=Uh m.fly (m:={m with fly:=[]}) ⟨h.iE,h.two,h.tre⟩ hv.fly
end
section
variable {m:Cl}{n:Nat}{l:bG}{rs:List cB}{b:aQ}{G:List Ev}
def ahs (h:oq (m.ah n) rs []):0<=(m.ah n).syn/\(m.ah n).syn<=(m.ah n).data.length:=by
 have h1:=h.syn;have I:=congrArg length h.data;rw[append_nil]at I;omega
def Cj {xs:List cB}(I:oq (m.ah n) rs [])(J:∀r∈xs,aG r=0)(h:(m.ah n).data.length+46*xs.length<=100000):∃x,(m.ah n).write xs=some x:=by
 obtain⟨h1,M⟩:=ahs I;unfold Nd.write;rw[u7 J h1 M h];exact⟨_,E⟩
def Qp {P:cB->Prop}{r:cB}(h:P r):∀x∈[r],P x:=λx I=>by rw[mem_singleton]at I;subst I;exact h
def VA (M:l.kd=2)(I:oq (m.ah n) rs [])(J:l.q<4)(hr:((m.ah n).bs l.q).role=0\/((m.ah n).bs l.q).role=4)(he:((m.ah n).bs l.q).ep<l.ep)(h1:1<=l.ep/\l.ep<=1048576)(h2:0<=l.fr/\l.fr<=4)(hd:(m.ah n).data.length+46<=100000):
  ((m.handle n l).ah n).pend≠none:=by
 have O:=I.kX l.q J;rw[show m.handle n l=m.offered n l by unfold Cl.handle;rw[if_neg (by omega),if_pos M]];have Z:dn ((m.ah n).bs l.q) l.ep l.fr=(⟨4,l.ep,l.fr,0,0,[]⟩,0):=by
  unfold dn;rw[if_neg (λh=>h O),if_neg (by omega),if_neg (by omega),if_neg (by omega),if_neg (by omega)]
 obtain⟨x,hx⟩:=Cj (xs:=[fH 4 l.q l.ep l.fr aH]) I (Qp (oG (by decide) J (by omega) (by omega) (by decide))) (by rw[length_singleton];omega);unfold Cl.offered;rw[Z];dsimp only;rw[if_neg (λh=>h E),if_neg (by omega),hx];dsimp only;rw[aW];simp
def VB (I:l.kd=2)(J:aj ((m.ah n).bs l.q)=0)(M:((m.ah n).bs l.q).role=4)(he:((m.ah n).bs l.q).ep=l.ep)(O:((m.ah n).bs l.q).fr=l.fr)(h1:1<=l.ep/\l.ep<=1048576)(h2:0<=l.fr/\l.fr<=4):m.handle n l=m.have_ n l.q:=by
 rw[show m.handle n l=m.offered n l by unfold Cl.handle;rw[if_neg (by omega),if_pos I]];have Z:dn ((m.ah n).bs l.q) l.ep l.fr=((m.ah n).bs l.q,0):=by
  unfold dn;rw[if_neg (λh=>h J),if_neg (by omega),if_neg (by omega),if_pos ⟨M,he,O⟩]
 unfold Cl.offered;rw[Z];dsimp only;rw[if_neg (λh=>h E),if_pos E]
def PartOf (b:aQ)(n q:Nat)(a:Int)(x:bG):Prop:=x.kd=4/\x.fr=n/\x.tg=b.tg/\x.q=q/\x.ep=b.ep+1/\x.at_=a/\x.evs=(b.evs.drop a.toNat).take 3/\x.last=decide (b.role=3/\b.evs.length<=a.toNat+3)
def Lv (J:aj b=0)(M:b.role=2\/b.role=3)(O:0<=l.at_/\l.at_<=b.evs.length)(he:(m.ah n).bs l.q=b):∃x∈(m.part n l.q l.at_).fly,PartOf b n l.q l.at_ x:=by
 have I:gX b l.at_=((b.evs.drop l.at_.toNat).take 3,decide (b.role=3/\b.evs.length<=l.at_.toNat+3),0):=by
  unfold gX;rw[if_neg (λh=>h J),if_neg (by omega),if_neg (by omega)]
 unfold Cl.part;rw[he,I];rw[if_neg (λh=>h E)];refine⟨FI n l.q b l.at_,mem_append_right _ (mem_singleton.2 E),E,E,E,E,E,E,?_,?_⟩
 ·show(gX b l.at_).1=_;rw[I]
 show(gX b l.at_).2.1=_;rw[I]
def arL (hk:l.kd=3)(hU:oq (m.ah n) rs [])(hq:l.q<4)(hr:((m.ah n).bs l.q).role=2\/((m.ah n).bs l.q).role=3)(ht:((m.ah n).bs l.q).tg=l.fr)(he:((m.ah n).bs l.q).ep+1=l.ep)(ha:0<=l.at_/\l.at_<=((m.ah n).bs l.q).evs.length)(hd:(m.ah n).data.length+46<=100000):
  ((m.handle n l).ah n).pend≠none\/((((m.ah n).bs l.q).role=3\/l.at_< ((m.ah n).bs l.q).evs.length)/\ ∃x∈(m.handle n l).fly,PartOf ((m.ah n).bs l.q) n l.q l.at_ x):=by
 have M:=hU.kX l.q hq;rw[show m.handle n l=m.caught n l by unfold Cl.handle;rw[if_neg (by omega),if_neg (by omega),if_pos hk]];unfold Cl.caught;rw[if_neg (by omega)];have hs:=eH M;have I:∀b':aQ,(((m.aA n l.q b').ah n).bs l.q)=b':=λb'=>by rw[show(m.aA n l.q b').ah n=(m.ah n).aA l.q b' from aW _];exact upd_same _ _ _
 by_cases O:((m.ah n).bs l.q).role=3
 ·have J:bE ((m.ah n).bs l.q) l.at_=((m.ah n).bs l.q,0):=by
   unfold bE;rw[if_neg (λh=>h M),if_neg (by omega),if_neg (by omega),if_pos O]
  rw[J];dsimp only;rw[if_neg (λh=>h E),if_pos E];exact .inr ⟨.inl O,Lv (m:=m.aA n l.q ((m.ah n).bs l.q)) M hr ha (I _)⟩
 have h2:((m.ah n).bs l.q).role=2:=by omega
 by_cases c:l.at_=((m.ah n).bs l.q).evs.length\/((m.ah n).bs l.q).rd=4
 ·left
  have J:bE ((m.ah n).bs l.q) l.at_=({ (m.ah n).bs l.q with role:=3,rd:=0},0):=by
   unfold bE;rw[if_neg (λh=>h M),if_neg (by omega),if_neg (by omega),if_neg O,if_pos c]
  unfold aZ at hs;obtain⟨x,hx⟩:=Cj (xs:=[fH 3 l.q ((m.ah n).bs l.q).ep ((m.ah n).bs l.q).tg aH]) hU (Qp (oG (by decide) hq (by omega) (by omega) (by decide))) (by rw[length_singleton];omega);rw[J];dsimp only;rw[if_neg (λh=>h E),if_neg (by omega),hx];dsimp only;rw[aW];simp
 right
 have J:bE ((m.ah n).bs l.q) l.at_=({ (m.ah n).bs l.q with rd:=((m.ah n).bs l.q).rd+1},0):=by
  unfold bE;rw[if_neg (λh=>h M),if_neg (by omega),if_neg (by omega),if_neg O,if_neg c]
 rw[J];dsimp only;rw[if_neg (λh=>h E),if_pos E];have Z:aj { (m.ah n).bs l.q with rd:=((m.ah n).bs l.q).rd+1}=0:=by
  have:=Bv (b:=(m.ah n).bs l.q) (hv:=l.at_) M (by rw[J]);rw[J]at this;exact this
 refine⟨.inr (by omega),?_⟩;obtain⟨x,x1,x2⟩:=Lv (m:=m.aA n l.q { (m.ah n).bs l.q with rd:=((m.ah n).bs l.q).rd+1}) (n:=n) (l:=l) Z (.inl h2) ha (I _);exact⟨x,x1,x2⟩
def alC (hk:l.kd=6)(J:oq (m.ah n) rs [])(M:l.q<4)(Z:((m.ah n).bs l.q).role=3)(he:((m.ah n).bs l.q).ep<l.ep)(hd:(m.ah n).data.length+46<=100000):((m.handle n l).ah n).pend≠none:=by
 have O:=J.kX l.q M;rw[show m.handle n l=m.learnt n l by unfold Cl.handle;rw[if_neg (by omega),if_neg (by omega),if_neg (by omega),if_neg (by omega)]];have hs:=eH O;unfold aZ at hs;have hF:fP ((m.ah n).bs l.q) l.ep=(⟨0,((m.ah n).bs l.q).ep,0,0,0,[]⟩,0):=by
  unfold fP;rw[if_neg (λh=>h O),if_neg (λh=>h Z),if_neg (by omega)]
 obtain⟨x,hx⟩:=Cj (xs:=[fH 7 l.q ((m.ah n).bs l.q).ep 0 aH]) J (Qp (oG (by decide) M (by omega) (by omega) (by decide))) (by rw[length_singleton];omega);obtain⟨d,hw,hxe⟩:=pG hx;have I:((m.ah n).hear n l).write [fH 7 l.q ((m.ah n).bs l.q).ep 0 aH]=some { (m.ah n).hear n l with data:=d}:=by
  unfold Nd.write;rw[show((m.ah n).hear n l).data=(m.ah n).data from E,show((m.ah n).hear n l).syn=(m.ah n).syn from E,hw];rfl
 unfold Cl.learnt;rw[hF];dsimp only;rw[if_neg (λh=>h E),I];dsimp only;rw[aW];simp
def arM (hk:l.kd=4)(hU:oq (m.ah n) rs [])(hq:l.q<4)(hr:((m.ah n).bs l.q).role=4)(hf:((m.ah n).bs l.q).fr=l.fr)(he:((m.ah n).bs l.q).ep=l.ep)(ha:0<=l.at_/\l.at_<=((m.ah n).bs l.q).evs.length)
  (h1:((m.ah n).bs l.q).evs=G.take ((m.ah n).bs l.q).evs.length) (h2:l.evs=(G.drop l.at_.toNat).take l.evs.length) (h3:l.at_.toNat+l.evs.length<=G.length) (M:((m.ah n).bs l.q).evs.length<l.at_.toNat+l.evs.length\/l.last=true) (h5:l.last=true->l.at_.toNat+l.evs.length=G.length)
  (hg:good G) (hg2:good (G++[aF])) (hd:(m.ah n).data.length+46*(G.length+1-((m.ah n).bs l.q).evs.length)<=100000):((m.handle n l).ah n).pend≠none:=by
 have hb:=hU.kX l.q hq;have hs:=eH hb;have hlen:((m.ah n).bs l.q).evs.length<=G.length:=by have:=congrArg length h1;rw[length_take]at this;omega
 rw[show m.handle n l=m.got n l by unfold Cl.handle;rw[if_neg (by omega),if_neg (by omega),if_neg (by omega),if_pos hk]];generalize hB:(m.ah n).bs l.q=b at*;obtain⟨k,Z⟩:∃k:Nat,l.at_=k:=⟨l.at_.toNat,by omega⟩;rw[Z,Int.toNat_natCast]at h2 h3 M h5;rw[Z]at ha;have hkb:k<=b.evs.length:=by omega
 have hj:b.evs.length<=k+l.evs.length:=by
  rcases M with M|M
  ·omega
  have:=h5 M;omega
 have hd1:l.evs.drop (b.evs.length-k)=(G.drop b.evs.length).take (k+l.evs.length-b.evs.length):=by
  rw[congrArg (List.drop (b.evs.length-k)) h2,drop_take,drop_drop,show k+(b.evs.length-k)=b.evs.length by omega]
  congr 1
  omega
 have e1:b.evs++l.evs.drop (b.evs.length-k)=G.take (k+l.evs.length):=by
  rw[hd1]
  conv=>lhs;lhs;rw[h1]
  have:=take_add (l:=G) (i:=b.evs.length) (j:=k+l.evs.length-b.evs.length);rw[show b.evs.length+(k+l.evs.length-b.evs.length)=k+l.evs.length by omega]at this;exact this.symm
 have e2:(b.evs.drop k).take l.evs.length=l.evs.take (b.evs.length-k):=by
  have a1:b.evs.drop k=(G.drop k).take (b.evs.length-k):=by
   conv=>lhs;rw[h1]
   rw[drop_take]
  have a2:l.evs.take (b.evs.length-k)=(G.drop k).take (min (b.evs.length-k) l.evs.length):=by
   conv=>lhs;rw[h2]
   rw[take_take]
  rw[a1,a2,take_take,Nat.min_comm]
 have hge:good (G.take (k+l.evs.length)):=nU hg;obtain⟨es,O⟩:∃es,G.take (k+l.evs.length)=es:=⟨_,E⟩;have hel:es.length=k+l.evs.length:=by rw[<-O,length_take];omega
 rw[O]at e1 hge;unfold aZ at hs;obtain⟨res,hres,hrl,J⟩:∃res:aQ,cu b l.ep l.at_ l.evs l.last=(res,0)/\res.evs.length=k+l.evs.length+(if l.last=true then 1 else 0)/\(res.evs=if l.last=true then es++[aF]else es)/\res.ep=b.ep:=by
  have hz:aj (if l.last=true then⟨1,l.ep,0,0,0,es++[aF]⟩else{b with evs:=es})=0:=by
   split
   ·rename_i c
    have:es=G:=by rw[<-O,h5 c,take_length]
    rw[this];exact lK (uK (by omega) (by omega) _) hg2
   exact lK (nG (eH hb) (by omega) _) hge
  refine⟨if l.last=true then⟨1,l.ep,0,0,0,es++[aF]⟩else{b with evs:=es},?_,?_,?_,?_⟩
  ·unfold cu;rw[Z,Int.toNat_natCast,e1];rw[if_neg (λh=>h hb),if_neg (λh=>h hr),if_neg (λh=>h he),if_neg (by omega),if_neg (λh=>h e2),if_neg (by omega),if_neg (λh=>h hz)]
  ·split
   ·show(es++[aF]).length=_;rw[length_append,length_singleton,hel]
   exact hel
  ·split<;>rfl
  split
  ·exact he.symm
  rfl
 obtain⟨J,hre⟩:=J;have hgt:b.evs.length<res.evs.length:=by
  rw[hrl]
  split
  ·omega
  rename_i c
  rcases M with M|M
  ·omega
  exact absurd M c
 have hfe:∀e∈res.evs,aX e=0:=by
  rw[J]
  split
  ·rename_i c
   have:es=G:=by rw[<-O,h5 c,take_length]
   rw[this];exact AB E hg2
  exact AB E hge
 unfold Cl.got;rw[hB,hres];dsimp only;rw[if_neg (by omega),if_neg (by decide),if_neg (by rintro(h|h)<;>omega)];obtain⟨x,hx⟩:=Cj (xs:=p8 l.q res b.evs.length (l.at_.toNat+l.evs.length) l.last) hU (λr I=>by
  unfold p8 at I
  rcases mem_append.1 I with I|I
  ·obtain⟨e,he1,rfl⟩:=mem_map.1 I;exact oG (by decide) hq (by omega) (by decide) (by
    rw[if_pos (by decide)];exact hfe e (mem_of_mem_take (mem_of_mem_drop he1)))
  ·split at I
   ·rw[mem_singleton]at I;subst I;exact oG (by decide) hq (by omega) (by decide) (by decide)
   simp at I) (by
  have:(p8 l.q res b.evs.length (l.at_.toNat+l.evs.length) l.last).length<=G.length+1-b.evs.length:=by
   unfold p8;rw[length_append,length_map,length_drop,length_take];by_cases c:l.last=true
   ·rw[if_pos c,length_singleton];omega
   rw[if_neg c,length_nil];omega
  omega)
 rw[hx];dsimp only;rw[aW];simp
end
end Go.Proofs.YtefabpdniidmbaaGreatDoor
