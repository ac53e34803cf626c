import Derived.Test.YtceeleolddkibaaGreatDoorG219fd
import Derived.Test.YtceeleolddkibaaGreatDoorGc90af
set_option linter.all false
set_option maxRecDepth 100000
set_option maxHeartbeats 8000000
namespace Go.Proofs.YtceeleolddkibaaGreatDoor
open List Nat Go.Proofs.Tryz ChangeShapes WideShapes RowKit
def vL:∀ {rs:List dN} {l:List UInt8} {s:Int} {d:List UInt8},gD l s rs=some d->d=l++dn rs/\(∀r∈rs,aM r=0)/\(l.length<=100000->d.length<=100000)
 |[],l,s,d,h=>by
  cases h;exact⟨by simp[dn],λr J=>by simp at J,λh=>h⟩
 |r::rs,l,s,d,h=>by
  rw[gD]at h
  split at h
  ·cases h
  rename_i h1
  obtain⟨M,O,h4⟩:=R6 (fM.1 h1);rw[M]at h;obtain⟨Z,h6,h7⟩:=vL h;refine⟨by rw[Z];simp[dn,flatMap_cons],λx I=>?_,λhl=>h7 (by rw[aY];omega)⟩
  rcases iR.1 I with rfl|I
  ·exact O
  exact h6 x I
def Ch:∀ {rs:List dN} {l:List UInt8} {s:Int},(∀r∈rs,aM r=0)->0<=s->s<=l.length->l.length+46*rs.length<=100000->gD l s rs=some (l++dn rs)
 |[],l,s,_,_,_,_=>by simp[gD,dn]
 |r::rs,l,s,h,I,h1,J=>by
  rw[mO]at J;have hw:=aj6 (h r iQ) I h1 Y;have:=Dp r;rw[gD,hw,ah iQ,Ch (λx M=>h x (by simp[M])) I (by rw[aY];omega) (by rw[aY];omega)];simp[dn,flatMap_cons]
def aoT{Q:Qd}{e:Ev}(h:(jN Q e).2.2.1=true):(jN Q e).2.2.2=0:=by
 unfold jN at h⊢
 split at h
 ·cases h
 rename_i h1
 rw[ah h1]
 split at h
 ·cases h
 rename_i I;rw[ah I]
def aoU{Q:Qd}{e:Ev}(h:(jN Q e).2.2.2=0):bJ e=0:=by
 unfold jN at h
 split at h
 ·rename_i h1;exact av h h1
 split at h
 ·rename_i I;exact av h I
 rename_i I;exact fM.1 I
def Dt:∀ {n:Nat} {l:List Ev},l.length=n->UH l-> ∀e∈l,bJ e=0
 | 0,l,hn,_,e,he=>by rw[qY.1 hn]at he;simp at he
 |n+1,l,hn,h,e,he=>by
  have I:l=l.take n++[l[n]]:=by rw[<-uS Y,<-hn,jy]
  have J:UH (l.take n++[l[n]]):=I▸h;rw[I]at he
  rcases bD.1 he with he|he
  ·exact Dt (n:=n) (by rw[dV];omega) (xR h) e he
  rw[aI]at he;rw[he];exact aoU (Vw J).1
section
variable {b:bF}{e:Ev}{X:Nd}{rs us:List dN}{t:List UInt8}{f:Nat->bF}{q:Nat}{p:cZ}
def abM(h:¬(jd b e).2.2.1=false):aA b=0/\bJ e=0/\QK b/\(jN (aK b.JU).1 e).2.2.1=true/\b.JU.length<1999/\e.kind≠4/\jd b e=({b with JU:=b.JU++[e]},(jN (aK b.JU).1 e).2.1,true,0):=by
 unfold jd at h⊢;by_cases c1:aA b≠0
 ·rw[aj c1]at h;exact av E h
 rw[ah c1]at h⊢;by_cases c2:bJ e≠0
 ·rw[aj c2]at h;exact av E h
 rw[ah c2]at h⊢;by_cases c3:e.kind=4
 ·rw[aj c3]at h;exact av E h
 rw[ah c3]at h⊢;by_cases J:b.GR=3
 ·rw[aj J]at h;exact av E h
 rw[ah J]at h⊢;by_cases M:b.GR≠1/\b.GR≠2
 ·rw[aj M]at h;exact av E h
 rw[ah M]at h⊢;by_cases I:(jN (aK b.JU).1 e).2.2.1=false
 ·rw[aj I]at h;exact av E h
 rw[ah I]at h⊢;by_cases O:1999<=b.JU.length
 ·rw[aj O]at h;exact av E h
 rw[ah O];exact⟨fM.1 c1,fM.1 c2,by unfold QK;omega,by simpa using I,by omega,c3,E⟩
def ako{ep fr:Int}(h:¬(dR b ep fr).2≠0)(J:¬(dR b ep fr).1.ep=b.ep):(b.GR=0\/b.GR=4)/\b.ep<ep/\1<=ep/\ep<=1048576/\0<=fr/\fr<=4/\dR b ep fr=(⟨4,ep,fr,0,0,[]⟩,0):=by
 unfold dR at h J⊢;by_cases c1:aA b≠0
 ·rw[aj c1]at h;exact av c1 h
 rw[ah c1]at h J⊢;by_cases c2:¬(1<=ep/\ep<=1048576/\0<=fr/\fr<=4)
 ·rw[aj c2]at h;exact av dQ h
 rw[ah c2]at h J⊢;by_cases c3:b.GR≠0/\b.GR≠4
 ·rw[aj c3]at h;exact av dQ h
 rw[ah c3]at h J⊢;by_cases M:b.GR=4/\b.ep=ep/\b.fr=fr
 ·rw[aj M]at J;exact av E J
 rw[ah M]at h J⊢;by_cases O:ep<=b.ep
 ·rw[aj O]at h;exact av dQ h
 rw[ah O];have I:=fM.1 c2;exact⟨by omega,by omega,I.1,I.2.1,I.2.2.1,I.2.2.2,E⟩
def abN{ep fr:Int}(h:¬(dR b ep fr).2≠0)(I:(dR b ep fr).1.ep=b.ep):b.GR=4/\b.ep=ep/\b.fr=fr:=by
 unfold dR at h I;by_cases c1:aA b≠0
 ·rw[aj c1]at h;exact av c1 h
 rw[ah c1]at h I;by_cases c2:¬(1<=ep/\ep<=1048576/\0<=fr/\fr<=4)
 ·rw[aj c2]at h;exact av dQ h
 rw[ah c2]at h I;by_cases c3:b.GR≠0/\b.GR≠4
 ·rw[aj c3]at h;exact av dQ h
 rw[ah c3]at h I;by_cases J:b.GR=4/\b.ep=ep/\b.fr=fr
 ·exact J
 rw[ah J]at h I;by_cases M:ep<=b.ep
 ·rw[aj M]at h;exact av dQ h
 rw[ah M]at I;exact av (show ep=b.ep from I) Y
def Mk(b:bF)(at_:Int)(l:List Ev):List Ev:=b.JU++l.drop (b.JU.length-at_.toNat)
def zC(b:bF)(at_:Int)(l:List Ev)(last:Bool):bF:=if last=true then⟨1,b.ep,0,0,0,Mk b at_ l++[bC]⟩else{b with JU:=Mk b at_ l}
def agb{ep at_:Int}{l:List Ev}{last:Bool}(h:¬(dM b ep at_ l last).2≠0):b.GR=4/\b.ep=ep/\0<=at_/\at_<=b.JU.length/\(b.JU.drop at_.toNat).take l.length=l.take (b.JU.length-at_.toNat)/\
  (last=true->b.JU.length<=at_.toNat+l.length)/\aA (zC b at_ l last)=0/\dM b ep at_ l last=(zC b at_ l last,0):=by
 unfold dM at h⊢;by_cases c1:aA b≠0
 ·rw[aj c1]at h;exact av c1 h
 rw[ah c1]at h⊢;by_cases c2:b.GR≠4
 ·rw[aj c2]at h;exact av dQ h
 rw[ah c2]at h⊢;by_cases c3:b.ep≠ep
 ·rw[aj c3]at h;exact av dQ h
 rw[ah c3]at h⊢;have J:b.ep=ep:=fM.1 c3;subst J;by_cases M:¬(0<=at_/\at_<=b.JU.length)
 ·rw[aj M]at h;exact av dQ h
 rw[ah M]at h⊢;by_cases O:¬(b.JU.drop at_.toNat).take l.length=l.take (b.JU.length-at_.toNat)
 ·rw[aj O]at h;exact av dQ h
 rw[ah O]at h⊢;by_cases Z:last=true/\at_.toNat+l.length<b.JU.length
 ·rw[aj Z]at h;exact av dQ h
 rw[ah Z]at h⊢;change ¬(if aA (zC b at_ l last)≠0 then(bV,(3:Int))else(zC b at_ l last,0)).2≠0 at h
 show _/\_/\_/\_/\_/\_/\_/\(if aA (zC b at_ l last)≠0 then(bV,(3:Int))else(zC b at_ l last,0))=_
 by_cases c7:aA (zC b at_ l last)≠0
 ·rw[aj c7]at h;exact av dQ h
 have I:=fM.1 M;rw[ah c7];exact⟨fM.1 c2,E,I.1,I.2,fM.1 O,λhl=>by by_cases h9:at_.toNat+l.length<b.JU.length;exact av ⟨hl,h9⟩ Z;omega,fM.1 c7,E⟩
def VB{hv:Int}(h:¬(bX b hv).2≠0):0<=hv/\hv<=b.JU.length/\((b.GR=3/\bX b hv=(b,0))\/(b.GR=2/\(hv=b.JU.length\/b.rd=4)/\bX b hv=({b with GR:=3,rd:=0},0))\/(b.GR=2/\ ¬(hv=b.JU.length\/b.rd=4)/\bX b hv=({b with rd:=b.rd+1},0))):=by
 unfold bX at h⊢;by_cases c1:aA b≠0
 ·rw[aj c1]at h;exact av c1 h
 rw[ah c1]at h⊢;by_cases c2:b.GR≠2/\b.GR≠3
 ·rw[aj c2]at h;exact av dQ h
 rw[ah c2]at h⊢;by_cases c3:¬(0<=hv/\hv<=b.JU.length)
 ·rw[aj c3]at h;exact av dQ h
 rw[ah c3]at h⊢;have I:=fM.1 c3;refine⟨I.1,I.2,?_⟩;by_cases M:b.GR=3
 ·rw[aj M];exact .inl ⟨M,E⟩
 rw[ah M];by_cases J:hv=b.JU.length\/b.rd=4
 ·rw[aj J];exact .inr (.inl ⟨by omega,J,E⟩)
 rw[ah J];exact .inr (.inr ⟨by omega,J,E⟩)
def agc{ep:Int}(h:¬(gZ b ep).2≠0):b.GR=3/\b.ep<ep/\gZ b ep=(⟨0,b.ep,0,0,0,[]⟩,0):=by
 unfold gZ at h⊢;by_cases c1:aA b≠0
 ·rw[aj c1]at h;exact av c1 h
 rw[ah c1]at h⊢;by_cases c2:b.GR≠3
 ·rw[aj c2]at h;exact av dQ h
 rw[ah c2]at h⊢;by_cases c3:ep<=b.ep
 ·rw[aj c3]at h;exact av dQ h
 rw[ah c3];exact⟨fM.1 c2,by omega,E⟩
def aoV{ep:Int}(h:¬(jR b ep).2≠0):b.GR=0/\b.ep<ep/\jR b ep=(⟨1,ep,0,0,0,[]⟩,0):=by
 unfold jR at h⊢;by_cases c1:aA b≠0
 ·rw[aj c1]at h;exact av c1 h
 rw[ah c1]at h⊢;by_cases c2:¬(1<=ep/\ep<=1048576)
 ·rw[aj c2]at h;exact av dQ h
 rw[ah c2]at h⊢;by_cases c3:b.GR≠0
 ·rw[aj c3]at h;exact av dQ h
 rw[ah c3]at h⊢;by_cases I:ep<=b.ep
 ·rw[aj I]at h;exact av dQ h
 rw[ah I];exact⟨fM.1 c3,by omega,E⟩
def go_ok{tg:Int}(h:(wh b tg).2=0):b.GR=1/\0<=tg/\tg<=4/\wh b tg=(⟨2,b.ep,0,tg,0,b.JU⟩,0):=by
 unfold wh at h⊢;by_cases c1:aA b≠0
 ·rw[aj c1]at h;exact av h c1
 rw[ah c1]at h⊢;by_cases c2:¬(0<=tg/\tg<=4)
 ·rw[aj c2]at h;exact av h dQ
 rw[ah c2]at h⊢;by_cases c3:b.GR=2\/b.GR=3
 ·rw[aj c3]at h;exact av h dQ
 rw[ah c3]at h⊢;by_cases c4:b.GR≠1
 ·rw[aj c4]at h;exact av h dQ
 rw[ah c4]at h⊢;by_cases c5:b.ep=1048576
 ·rw[aj c5]at h;exact av h dQ
 rw[ah c5];have c2':=fM.1 c2;exact⟨fM.1 c4,c2'.1,c2'.2,E⟩
def adn(I:b.GR=1)(h:¬(gU b).2≠0):aA ⟨1,b.ep,0,0,0,b.JU++[bC]⟩=0/\gU b=(⟨1,b.ep,0,0,0,b.JU++[bC]⟩,0):=by
 unfold gU at h⊢;by_cases c1:aA b≠0
 ·rw[aj c1]at h;exact av c1 h
 rw[ah c1]at h⊢;rw[ah Y]at h⊢;by_cases c3:aA ⟨1,b.ep,0,0,0,b.JU++[bC]⟩≠0
 ·rw[aj c3]at h;exact av dQ h
 rw[ah c3];exact⟨fM.1 c3,E⟩
def Sk{hv:Int}(h:¬(ji b hv).2.2≠0):(b.GR=2\/b.GR=3)/\0<=hv/\hv<=b.JU.length/\ji b hv=((b.JU.drop hv.toNat).take 3,decide (b.GR=3/\b.JU.length<=hv.toNat+3),0):=by
 unfold ji at h⊢;by_cases c1:aA b≠0
 ·rw[aj c1]at h;exact av c1 h
 rw[ah c1]at h⊢;by_cases c2:b.GR≠2/\b.GR≠3
 ·rw[aj c2]at h;exact av dQ h
 rw[ah c2]at h⊢;by_cases c3:¬(0<=hv/\hv<=b.JU.length)
 ·rw[aj c3]at h;exact av dQ h
 rw[ah c3];have I:=fM.1 c3;exact⟨by omega,I.1,I.2,E⟩
structure qL (X:Nd)(rs us:List dN):Prop where
 data:X.data=dn (rs++us)
 Qr:X.Qr=(dn rs).length
 tape:jH rs λq=>kM (X.bs q)
 nE:∀q,q<4->aA (X.bs q)=0
 tV:X.PL=none->us=[]
 JD:∀p,X.PL=some p->us=p.rs X.bs/\p.ok X.bs/\p.q<4
 len:X.data.length<=100000
structure Km (X:Nd)(rs:List dN)(t:List UInt8)(f:Nat->bF):Prop where
 data:X.data=dn rs++t
 ayi:(Qy t).2=0
 tape:jH rs f
 nE:∀q,q<4->aA (f q)=0/\(f q).GR≠2
 Qr:0<=X.Qr/\X.Qr<=X.data.length
 len:X.data.length<=100000
 nU:X.PL=none
 jC:X.Pq=[]
 bz:∀q,q<4->aA (X.bs q)=0
def Ud:aA bV=0:=oh (.inl ⟨E,by decide,by decide,E,E,E,E⟩) zU
def Kn(X:Nd):Prop:=(X.up=true/\ ∃rs us,qL X rs us)\/(X.up=false/\ ∃rs t f,Km X rs t f)
def Kn.xV(h:Kn X)(I:X.up=true):∃rs us,qL X rs us:=h.elim (λh=>h.2) λh=>by rw[h.1]at I;cases I
def Kn.aF7(h:Kn X)(I:X.up=false):∃rs t f,Km X rs t f:=h.elim (λh=>by rw[h.1]at I;cases I) λh=>h.2
def qL.may(h:qL X rs us):dS X.data X.Qr=true:=by
 have h1:=h.len;have I:=h.data;rw[nV]at I;have J:=bM length I;rw[aY]at J;simp only[dS,h.Qr,Bool.and_eq_true,decide_eq_true_eq];omega
def Km.may(h:Km X rs t f):dS X.data X.Qr=true:=by
 simp only[dS,Bool.and_eq_true,decide_eq_true_eq];exact⟨⟨h.len,h.Qr.1⟩,h.Qr.2⟩
def Km.rd(h:Km X rs t f):lC X.data X.Qr=(dn rs,min X.Qr (dn rs).length,0)/\FQ X.data X.Qr=some (vB f)/\ ∀q,q<4->dH X.data X.Qr q=f q:=h.tape.read h.data h.ayi h.len h.Qr.1 h.Qr.2
def Km.view(h:Km X rs t f)(I:X.up=false)(J:q<4):X.view q=f q:=by
 unfold Nd.view;rw[ah (by rw[I];simp)];exact h.rd.2.2 q J
def fO(h:X.up=true):X.view=X.bs:=aj h
def Qb(bs:Nat->bF)(p:cZ)(x:bF):Prop:=
 x=kM (bs p.q)\/x=kM (p.b bs)\/ ∃q b last j,p=.UK q b last/\x={bs q with JU:=b.JU.take ((bs q).JU.length+j)}/\(bs q).JU.length+j+(if last=true then 1 else 0)<=b.JU.length
def Ml{b:bF}(h:b.GR=4\/b.GR=0\/b.GR=3\/b.GR=1):kM b=b:=tK Y
def aoW{bs:Nat->bF}{b:bF}:Qv (λq=>kM (bs q)) q (kM b)=λk=>kM (Qv bs q b k):=by
 funext k
 unfold Qv
 split<;>rfl
def imports{bs:Nat->bF}{ep:Int}{es:List Ev}(h:jH rs λq=>kM (bs q))(hb:aA (bs q)=0)(J:(bs q).GR=4)(iB:(bs q).ep=ep)(M:q<4)(I:UH es)(he:(bs q).JU=es.take (bs q).JU.length):
 ∀j,(bs q).JU.length+j<=es.length->jH (rs++((es.drop (bs q).JU.length).take j).map λx=>gW 5 q ep 0 x) (Qv (λq=>kM (bs q)) q {bs q with JU:=es.take ((bs q).JU.length+j)})
 | 0,_=>by
  rw[Nat.add_zero,<-he,Lu,map_nil,bI];exact h.congr λk _=>by
   unfold Qv
   split
   ·rename_i e;subst e;exact Ml (.inl J)
   rfl
 |j+1,hj=>by
  have ih:=imports h hb J iB M I he j Y;have O:(bs q).JU.length+j<es.length:=Y;have e1:(es.drop (bs q).JU.length).take (j+1)=(es.drop (bs q).JU.length).take j++[es[(bs q).JU.length+j]]:=by
   rw[uS (by rw[dL];omega),getElem_drop]
  have Z:UH (es.take ((bs q).JU.length+j)++[es[(bs q).JU.length+j]]):=by rw[<-uS O];exact xR I
  have hb2:aA {bs q with JU:=es.take ((bs q).JU.length+j)}=0:=oh (p9 (gH hb) Y _) (xR I);obtain⟨h1,h2,h3⟩:=afK (b:={bs q with JU:=es.take ((bs q).JU.length+j)}) hb2 J iB M (Dt E I _ (Bb O)) Z;rw[e1,gX,<-gq];have:=ih.snoc (q:=q) h2 M E (by rw[JR];exact h1);refine this.congr λk _=>?_;unfold Qv
  split
  ·dsimp only;rw[<-uS O,jT]
  rfl
def M6{bs:Nat->bF}{r:dN}{x:bF}(h:jH rs λq=>kM (bs q))(J:q<4)(M:aM r=0)(I:r.Qu=q)(O:fH (kM (bs q)) r=(kM x,0)):jH (rs++[r]) λk=>kM (Qv bs q x k):=by
 rw[<-aoW];exact h.snoc M J I O
def xW{bs:Nat->bF}{b:bF}{last:Bool}(Z:(cZ.UK q b last).ok bs):∃es,UH es/\(bs q).JU=es.take (bs q).JU.length/\(bs q).JU.length<=es.length/\es=b.JU.take es.length/\es.length+(if last=true then 1 else 0)=b.JU.length/\b.ep=(bs q).ep/\
  (cZ.UK q b last).rs bs=((es.drop (bs q).JU.length).map λx=>gW 5 q b.ep 0 x)++if last=true then[gW 6 q b.ep 0 aU]else[]:=by
 obtain⟨h1,O,h3,h4,h5⟩:=Z;have I:∀ {es:List Ev},(bs q).JU=es.take (bs q).JU.length->(bs q).JU.length<=es.length:=λ{es} h=>by
  have:=bM length h;rw[dV]at this;omega
 cases last with
 |false=>
  obtain⟨M,J⟩:=h4 E;refine⟨b.JU,O,J,I J,by rw[jy],by simp,by rw[M],?_⟩;unfold cZ.rs sJ;simp
 |true=>
  obtain⟨es,M,J⟩:=h5 E;subst M;refine⟨es,WY O,J,I J,by simp,by simp,E,?_⟩;unfold cZ.rs sJ;simp
def jI(h:jH rs λq=>kM (X.bs q))(hb:∀q,q<4->aA (X.bs q)=0)(M:p.ok X.bs)(J:p.q<4):jH (rs++p.rs X.bs) (λk=>kM (Qv X.bs p.q (p.b X.bs) k))/\aA (p.b X.bs)=0:=by
 have I:=hb _ J
 cases p with
 |serve q JU op num a=>
  obtain⟨h1,h2,h3,h4⟩:=M;have I:aA (X.bs q)=0:=I;have Z:(X.bs q).GR≠0:=by unfold QK at h1;omega
  have O:aA {X.bs q with JU:=JU}=0:=oh (p9 (gH I) Z _) h4;have hd:=Cc h1 I;have hd2:kM {X.bs q with JU:=JU}=⟨1,(X.bs q).ep,0,0,0,JU⟩:=Cc (b:={X.bs q with JU:=JU}) h1 O;obtain⟨a1,a2⟩:=W9 (b:=kM (X.bs q)) (q:=q) (e:=op) (xS I) (by rw[hd]) Zk J h3 (by rw[aoK,<-h2];exact h4);refine⟨M6 h J a2 E ?_,O⟩
  show fH (kM (X.bs q)) (gW 2 q (X.bs q).ep 0 op)=(kM {X.bs q with JU:=JU},0)
  rw[a1,hd2,hd,h2]
 |QL q b=>
  obtain⟨h1,e,f,rfl,h2,h3,h4,h5,h6⟩:=M;have hd:kM (X.bs q)=X.bs q:=Ml Y;obtain⟨a1,a2⟩:=akf (q:=q) I h1 h2 ⟨h3,h4⟩ J ⟨h5,h6⟩;refine⟨M6 h J a2 E ?_,oh (.inr ⟨h3,h4,.inr (.inr (.inr ⟨E,h5,by show f<5;omega,E,E⟩))⟩) zU⟩
  show fH (kM (X.bs q)) _=_
  rw[hd];exact a1
 |UK q b last=>
  obtain⟨es,g1,g2,g3,g4,g5,g6,g7⟩:=xW M;have Z:(X.bs q).GR=4:=M.1;have hgb:UH b.JU:=M.2.1;have I:aA (X.bs q)=0:=I;have hs:=gH I;unfold bP at hs;have hi:=imports h I Z g6.symm J g1 g2 (es.length-(X.bs q).JU.length) Y;rw[show(X.bs q).JU.length+(es.length-(X.bs q).JU.length)=es.length by omega,jy,jE (by rw[dL];omega)]at hi;rw[g7]
  cases last with
  |false=>
   have e1:=(M.2.2.2.1 E).1;have e2:es=b.JU:=by rw[g4];simp only[Bool.false_eq_true,if_false,Nat.add_zero]at g5;rw[g5,jy]
   subst e2;simp only[Bool.false_eq_true,if_false,append_nil];have hr0:(X.bs q).GR≠0:=by rw[Z];decide
   have hbk:aA b=0:=by rw[e1];exact oh (p9 (gH I) hr0 _) hgb
   refine⟨hi.congr λk _=>?_,hbk⟩
   show _=kM (Qv X.bs q b k)
   unfold Qv
   split
   ·rw[<-e1];exact(Ml (.inl (by rw[e1];exact Z))).symm
   rfl
  |true=>
   obtain⟨es',e1,e2⟩:=M.2.2.2.2 E;have e3:es=es':=by rw[g4,e1];rw[e1]at g5;simp only[if_true,length_append,length_singleton]at g5;rw[show es.length=es'.length by omega];simp
   subst e3;subst e1;have hr0:(X.bs q).GR≠0:=by rw[Z];decide
   have O:aA {X.bs q with JU:=es}=0:=oh (p9 (gH I) hr0 _) g1;obtain⟨a1,a2⟩:=ave (b:={X.bs q with JU:=es}) (q:=q) O Z E J hgb;have hk:=oh (b:=⟨1,(X.bs q).ep,0,0,0,es++[bC]⟩) (AU Y Y _) hgb;simp only[if_true];rw[<-gq];have:=hi.snoc (q:=q) a2 J E (by rw[JR];exact a1);refine⟨this.congr λk _=>?_,hk⟩
   show _=kM (Qv X.bs q _ k)
   unfold Qv
   split
   ·rfl
   rfl
 |gJ q b at_=>
  obtain⟨h1,rfl⟩:=M;have I:aA (X.bs q)=0:=I;have hs:=gH I;unfold bP at hs;have hd:=Cc (.inr h1) I;obtain⟨a1,a2⟩:=aoJ (b:=kM (X.bs q)) (q:=q) (tg:=(X.bs q).tg) (xS I) (by rw[hd]) Zk J Y;rw[Zk]at a1;have hbk:aA {X.bs q with GR:=3,rd:=0}=0:=oh (.inr ⟨by show 1<=(X.bs q).ep;omega,by show(X.bs q).ep<=_;omega,.inr (.inr (.inl ⟨E,by show(X.bs q).fr=0;omega,by show 0<=(X.bs q).tg;omega,by show(X.bs q).tg<5;omega,E⟩))⟩) (kL (b:=X.bs q) I);refine⟨M6 h J a2 E ?_,hbk⟩
  show fH (kM (X.bs q)) (gW 3 q (X.bs q).ep (X.bs q).tg aU)=(kM {X.bs q with GR:=3,rd:=0},0)
  rw[a1,Ml (b:={X.bs q with GR:=3,rd:=0}) (.inr (.inr (.inl E))),hd]
  show((⟨3,(X.bs q).ep,0,(X.bs q).tg,0,(X.bs q).JU⟩:bF),(0:Int))=(⟨3,(X.bs q).ep,(X.bs q).fr,(X.bs q).tg,0,(X.bs q).JU⟩,0)
  have:(X.bs q).fr=0:=Y;rw[this]
 |QE q b=>
  obtain⟨h1,rfl⟩:=M;have I:aA (X.bs q)=0:=I;have hs:=gH I;unfold bP at hs;obtain⟨a1,a2⟩:=afL (q:=q) I h1 E J;refine⟨M6 h J a2 E ?_,oh (.inl ⟨E,by show 0<=(X.bs q).ep;omega,by show(X.bs q).ep<=_;omega,E,E,E,E⟩) zU⟩
  show fH (kM (X.bs q)) _=_
  rw[Ml (.inr (.inr (.inl h1)))];exact a1
def Zm{bs:Nat->bF}(h:∀q,q<4->aA (bs q)=0)(I:q<4):aA (kM (bs q))=0/\(kM (bs q)).GR≠2:=⟨xS (h q I),ND⟩
def agf(h:jH rs λq=>kM (X.bs q))(Z:∀q,q<4->aA (X.bs q)=0)(hp:p.ok X.bs)(M:p.q<4)(j:Nat):
 ∃f',jH (rs++(p.rs X.bs).take j) f'/\(∀q,q<4->q≠p.q->f' q=kM (X.bs q))/\Qb X.bs p (f' p.q)/\aA (f' p.q)=0/\(f' p.q).GR≠2:=by
 obtain⟨hf,hfb⟩:=jI h Z hp M;have I:∃f',jH (rs++p.rs X.bs) f'/\(∀q,q<4->q≠p.q->f' q=kM (X.bs q))/\Qb X.bs p (f' p.q)/\aA (f' p.q)=0/\(f' p.q).GR≠2:=
  ⟨_,hf,λq _ hne=>by rw[Ph hne],.inr (.inl (by rw[JR])),by rw[JR];exact xS hfb,ND⟩
 have zero:∃f',jH (rs++([]:List dN)) f'/\(∀q,q<4->q≠p.q->f' q=kM (X.bs q))/\Qb X.bs p (f' p.q)/\aA (f' p.q)=0/\(f' p.q).GR≠2:=
  ⟨_,by rw[bI];exact h,λ_ _ _=>E,.inl E,xS (Z _ M),ND⟩
 have one:∀r,p.rs X.bs=[r]-> ∃f',jH (rs++(p.rs X.bs).take j) f'/\(∀q,q<4->q≠p.q->f' q=kM (X.bs q))/\Qb X.bs p (f' p.q)/\aA (f' p.q)=0/\(f' p.q).GR≠2:=λr O=>by
  cases j with
  |zero=>rw[Lu];exact zero
  |succ j=>rw[O,jE iQ,<-O];exact I
 cases p with
 |serve q JU op num a=>exact one _ E
 |QL q b=>exact one _ E
 |gJ q b at_=>exact one _ E
 |QE q b=>exact one _ E
 |UK q b last=>
  obtain⟨es,g1,g2,g3,g4,g5,g6,g7⟩:=xW hp;have O:(X.bs q).GR=4:=hp.1;by_cases hj:j<=es.length-(X.bs q).JU.length
  ·have J:aA (X.bs q)=0:=Z _ M;have hi:=imports h J O g6.symm M g1 g2 j Y;have e1:((cZ.UK q b last).rs X.bs).take j=((es.drop (X.bs q).JU.length).take j).map λx=>gW 5 q b.ep 0 x:=by
    rw[g7,Bp (by rw[gK,dL];omega),map_take]
   have e2:es.take ((X.bs q).JU.length+j)=b.JU.take ((X.bs q).JU.length+j):=by
    rw[g4,yO,LH Y]
   rw[e1];refine⟨_,hi,λk _ hk=>Ph hk,?_,?_,?_⟩
   ·refine .inr (.inr ⟨q,b,last,j,E,?_,by omega⟩)
    show Qv _ q _ q=_
    rw[JR,e2]
   ·show aA (Qv _ q _ q)=0
    rw[JR];exact oh (p9 (gH J) Y _) (xR g1)
   show(Qv (λq=>kM (X.bs q)) q {X.bs q with JU:=es.take ((X.bs q).JU.length+j)} q).GR≠2
   rw[JR]
   show(X.bs q).GR≠2
   omega
  have:((cZ.UK q b last).rs X.bs).take j=(cZ.UK q b last).rs X.bs:=by
   refine jE ?_;rw[g7,aY,gK,dL]
   cases last<;>simp<;>omega
  rw[this];exact I
end
def Nd.Vb(X:Nd)(keep:Int):Nd:={X.blank with up:=false,data:=(rY X.data X.Qr keep).1,Qr:=(rY X.data X.Qr keep).2.1}
section
variable {X:Nd}{rs us:List dN}{t:List UInt8}{f:Nat->bF}{q:Nat}{p:cZ}{keep:Int}{n:Nat}{JU:List Ev}{an:List kg}{bs:Nat->bF}{m:Cl}{l:bY}
def akp(h:qL X rs us)(hk:0<=keep):∃Z t f,Km (X.Vb keep) Z t f/\ ∀q,q<4->f q=kM (X.bs q)\/ ∃p,X.PL=some p/\p.q=q/\Qb X.bs p (f q):=by
 have hm:=h.may;have hd:X.data=dn rs++dn us:=by rw[h.data,nV]
 have hl:=bM length hd;rw[aY]at hl;have hs:=h.Qr;obtain⟨N,h1,h2,e⟩:∃N:Nat,(dn rs).length<=N/\N<=X.data.length/\rY X.data X.Qr keep=(X.data.take N,(N:Int),0):=by
  unfold rY;rw[aj hm,ah Y];by_cases c:(X.data.length:Int)-X.Qr<keep
  ·rw[aj c];exact⟨X.data.length,by omega,aB,by rw[jy]⟩
  rw[ah c];refine⟨(X.Qr+keep).toNat,by omega,by omega,?_⟩;rw[show(((X.Qr+keep).toNat:Nat):Int)=X.Qr+keep by omega]
 obtain⟨j,t,g1,g2,g3⟩:=R4 us (N-(dn rs).length) Y;have e2:X.data.take N=dn (rs++us.take j)++t:=by
  rw[hd,take_append,jE h1,g1,nV,gq]
 have J:(X.data.take N).length=N:=by rw[dV];omega
 have O:∀f,jH (rs++us.take j) f->(∀q,q<4->aA (f q)=0/\(f q).GR≠2)->Km (X.Vb keep) (rs++us.take j) t f:=λf hf hb=>by
  have M:(X.Vb keep).data=X.data.take N:=by unfold Nd.Vb;dsimp only;rw[e]
  have hs':(X.Vb keep).Qr=N:=by unfold Nd.Vb;dsimp only;rw[e]
  have:=h.len;exact⟨by rw[M,e2],g2,hf,hb,by rw[M,hs',J];omega,by rw[M,J];omega,E,E,λ_ _=>Ud⟩
 cases hp:X.PL with
 |none=>
  have hu:=h.tV hp;refine⟨_,t,λq=>kM (X.bs q),O _ ?_ λq hq=>Zm h.nE hq,λq _=>.inl E⟩;rw[hu,take_nil,bI];exact h.tape
 |some p=>
  obtain⟨hu,hpo,hq⟩:=h.JD p hp;obtain⟨f',f1,f2,f3,f4,f5⟩:=agf h.tape h.nE hpo hq j;rw[<-hu]at f1;refine⟨_,t,f',O _ f1 λq I=>?_,λq I=>?_⟩
  ·by_cases c:q=p.q
   ·subst c;exact⟨f4,f5⟩
   rw[f2 q I c];exact Zm h.nE I
  by_cases c:q=p.q
  ·subst c;exact .inr ⟨p,E,E,f3⟩
  exact .inl (f2 q I c)
def rF(b:bF):bF:=⟨1,b.ep,0,0,0,b.JU++[bC]⟩
def Ue{s:Int}{f:Nat->bF}:∀ {ql:List Nat} {rs:List dN} {g:Nat->bF} {d:List UInt8},ql.Nodup->(∀q∈ql,q<4/\g q=f q)->jH rs g->(∀q,q<4->aA (g q)=0)->(dn rs).length<=100000->gP s f ql (dn rs)=some d->
  ∃ws,d=dn (rs++ws)/\jH (rs++ws) (λq=>if q∈ql/\(f q).GR=1 then rF (f q)else g q)/\d.length<=100000/\ ∀q∈ql,(f q).GR=1->aA (rF (f q))=0/\gU (f q)=(rF (f q),0)
 |[],rs,g,d,_,_,hT,hb,hl,h=>by
  cases h;exact⟨[],by simp,by simpa using hT,hl,by simp⟩
 |q::r,rs,g,d,hnd,hq,hT,hb,hl,h=>by
  rw[gP]at h;obtain⟨h1,h2⟩:=Lm.1 hnd;obtain⟨M,J⟩:=hq q iQ;by_cases c1:(f q).GR≠1
  ·rw[aj c1]at h;obtain⟨ws,e1,e2,e3,e4⟩:=Ue h2 (λk I=>hq k (by simp[I])) hT hb hl h;refine⟨ws,e1,e2.congr λk _=>?_,e3,λk I hr=>?_⟩
   ·by_cases e:k=q
    ·subst e;rw[ah (λh=>c1 h.2),ah (λh=>c1 h.2)]
    simp[e]
   rcases iR.1 I with rfl|I
   ·exact av hr c1
   exact e4 k I hr
  rw[ah c1]at h;by_cases c2:(gU (f q)).2≠0
  ·rw[aj c2]at h;cases h
  rw[ah c2]at h;have O:=fM.1 c1;obtain⟨k1,k2⟩:=adn O c2
  split at h
  ·cases h
  rename_i d' hw
  obtain⟨w1,w2,w3⟩:=vL hw;have hd':d'=dn (rs++[gW 2 q (f q).ep 0 bC]):=by rw[w1,nV]
  have Z:=hb q M;obtain⟨a1,a2⟩:=W9 (b:=g q) (q:=q) (e:=bC) Z (by rw[J];exact O) E M dQ (by rw[J];exact(gB k1).2);rw[J]at a1 a2 Z;have hs:=gH Z;unfold bP at hs;have hx:({f q with JU:=(f q).JU++[bC]}:bF)=rF (f q):=by
   unfold rF;simp only[bF.mk.injEq,and_true,true_and];omega
  rw[hx]at a1;have hT2:=hT.snoc (q:=q) a2 M E (by rw[J];exact a1);rw[hd']at h;obtain⟨ws,e1,e2,e3,e4⟩:=Ue h2 (g:=Qv g q (rF (f q))) (λk I=>⟨(hq k (by simp[I])).1,by rw[Ph (λe:k=q=>h1 (e▸I))];exact(hq k (by simp[I])).2⟩) hT2
   (λk I=>by
    by_cases e:k=q
    ·subst e;rw[JR];exact k1
    rw[Ph e];exact hb k I) (by rw[<-hd'];exact w3 hl) h
  refine⟨gW 2 q (f q).ep 0 bC::ws,by rw[e1,gq];rfl,?_,e3,λk I hr=>?_⟩
  ·rw[show rs++gW 2 q (f q).ep 0 bC::ws=rs++[gW 2 q (f q).ep 0 bC]++ws by rw[gq];rfl];refine e2.congr λk _=>?_;by_cases e:k=q
   ·subst e;rw[ah (λh=>h1 h.1),JR,aj ⟨by simp,O⟩]
   rw[Ph e];simp[e]
  rcases iR.1 I with rfl|I
  ·exact⟨k1,k2⟩
  exact e4 k I hr
structure wW (m m':Cl):Prop where
 au:m'.au=m.au
 off:m'.off=m.off
 PI:m'.PI=m.PI
 bZ:m'.bZ=m.bZ
 calls:m'.calls=m.calls
def wW.refl(m:Cl):wW m m:=⟨E,E,E,E,E⟩
def wW.trans{a b c:Cl}(h:wW a b)(I:wW b c):wW a c:=⟨I.au.trans h.au,I.off.trans h.off,I.PI.trans h.PI,I.bZ.trans h.bZ,I.calls.trans h.calls⟩
def Sl(m:Cl){e:Ev}{a:kg}{u:Int}:wW m (m.UR n q e a u):=⟨E,E,E,E,E⟩
def EP:∀(il:List Nat) (m:Cl),wW m (m.recovered n q JU an il)/\(m.recovered n q JU an il).bH.length=m.bH.length+il.length
 |[],m=>⟨.refl m,E⟩
 |i::r,m=>by
  obtain⟨h1,h⟩:=EP r (m.UR n q (JU.getD i aU) (an.getD i iP) (-1));rw[Cl.recovered];refine⟨(Sl m).trans h1,?_⟩;rw[h];unfold Cl.UR;simp only[length_append,length_cons,length_nil];omega
def JE(m:Cl)(I:((m.au n).bs q).JU.length<=2000):wW m (m.recover n q)/\(m.recover n q).bH.length<=m.bH.length+2000:=by
 unfold Cl.recover
 split
 ·exact⟨Sl m,by simp[Cl.UR]⟩
 obtain⟨h1,h⟩:=EP (n:=n) (q:=q) (JU:=((m.au n).bs q).JU) (an:=(aK ((m.au n).bs q).JU).2.1) ((range ((m.au n).bs q).JU.length).drop (m.Qx n q).2.toNat) m;refine⟨h1,?_⟩;rw[h,dL,Ib];omega
structure Xh (m m':Cl)(n:Nat)(bs:Nat->bF):Prop where
 au:m'.au=Qv m.au n {m.au n with bs:=bs}
 off:m'.off=m.off
 PI:m'.PI=m.PI
 bZ:m'.bZ=m.bZ
 calls:m'.calls=m.calls
def Gz:∀(J:List Nat) (m:Cl),J.Nodup->(∀q∈J,(m.au n).bs q=bs q/\(bs q).JU.length<=2000)->
  Xh m (Cl.UF n bs J m) n (λq=>if q∈J/\(bs q).GR=1 then(gU (bs q)).1 else(m.au n).bs q)/\(Cl.UF n bs J m).bH.length<=m.bH.length+2001*J.length
 |[],m,_,_=>by
  refine⟨⟨?_,E,E,E,E⟩,aB⟩
  show m.au=_
  refine(aJ ?_).symm;simp
 |q::r,m,hnd,Z=>by
  obtain⟨h1,h2⟩:=Lm.1 hnd;obtain⟨hq1,hq2⟩:=Z q iQ;rw[Cl.UF];by_cases c:(bs q).GR≠1
  ·rw[aj c];obtain⟨I,g2⟩:=Gz r m h2 λk O=>Z k (by simp[O]);refine⟨⟨?_,I.off,I.PI,I.bZ,I.calls⟩,by rw[mO];omega⟩;rw[I.au];refine bM (λb=>Qv m.au n {m.au n with bs:=b}) (funext λk=>?_);by_cases e:k=q
   ·subst e;rw[ah (λh=>c h.2),ah (λh=>c h.2)]
   simp[e]
  rw[ah c];obtain⟨M,r2⟩:=JE (n:=n) (q:=q) m (by rw[hq1];exact hq2);have e1:((((m.recover n q).aF n q (gU (bs q)).1).UR n q bC iP (-1)).au)=Qv m.au n {m.au n with bs:=Qv (m.au n).bs q (gU (bs q)).1}:=by
   show Qv (m.recover n q).au n { (m.recover n q).au n with bs:=Qv ((m.recover n q).au n).bs q (gU (bs q)).1}=_
   rw[M.au]
  obtain⟨I,g2⟩:=Gz r (((m.recover n q).aF n q (gU (bs q)).1).UR n q bC iP (-1)) h2 λk O=>by
   rw[e1,JR];dsimp only;rw[Ph (λe:k=q=>h1 (e▸O))];exact Z k (by simp[O])
  refine⟨⟨?_,I.off.trans M.off,I.PI.trans M.PI,I.bZ.trans M.bZ,I.calls.trans M.calls⟩,?_⟩
  ·rw[I.au,e1,D6,JR];refine bM (λb=>Qv m.au n {m.au n with bs:=b}) (funext λk=>?_)
   show(if k∈r/\(bs k).GR=1 then(gU (bs k)).1 else Qv (m.au n).bs q (gU (bs q)).1 k)=if k∈q::r/\(bs k).GR=1 then(gU (bs k)).1 else(m.au n).bs k
   by_cases e:k=q
   ·subst e;rw[ah (λh=>h1 h.1),JR,aj ⟨by simp,fM.1 c⟩]
   rw[Ph e];simp[e]
  have:(((m.recover n q).aF n q (gU (bs q)).1).UR n q bC iP (-1)).bH.length=(m.recover n q).bH.length+1:=by
   unfold Cl.UR;simp[Cl.aF,Cl.put]
  rw[this]at g2;rw[mO];omega
def Src(b:bF)(l:bY):cZ->Prop
 | .serve _ _ op num a=>l.kd=0/\op=l.op/\num=l.num/\a=(jN (aK b.JU).1 l.op).2.1/\l.op.kind≠4/\b.JU.length<1999
 | .QL _ x=>l.kd=2/\x=⟨4,l.ep,l.fr,0,0,[]⟩
 | .UK _ x last=>l.kd=4/\b.fr=l.fr/\b.ep=l.ep/\0<=l.at_/\l.at_<=b.JU.length/\(b.JU.drop l.at_.toNat).take l.JU.length=l.JU.take (b.JU.length-l.at_.toNat)/\b.JU.length<=l.at_.toNat+l.JU.length/\last=l.last/\x=zC b l.at_ l.JU l.last
 | .gJ _ _ a=>l.kd=3/\b.tg=l.fr/\b.ep+1=l.ep/\a=l.at_/\0<=l.at_/\l.at_<=b.JU.length
 | .QE _ _=>l.kd=6/\b.ep<l.ep
inductive Hnd (m:Cl)(n:Nat)(l:bY):Cl->Prop
 |same:Hnd m n l m
 |done (a:kg):l.kd=0->((jd ((m.au n).bs l.q) l.op).2.2.1=false/\a=(jd ((m.au n).bs l.q) l.op).2.1\/
   a=vQ 14/\QK ((m.au n).bs l.q)/\bJ l.op=0/\gD (m.au n).data (m.au n).Qr [gW 2 l.q ((m.au n).bs l.q).ep 0 l.op]=none/\UH (((m.au n).bs l.q).JU++[l.op]))->Hnd m n l (m.done n l.q l.op l.num a)
 |UG:((m.au n).bs l.q).GR=4->Hnd m n l (m.UG n l.q)
 |part (b:bF):l.kd=3->0<=l.at_->l.at_<=((m.au n).bs l.q).JU.length->(((m.au n).bs l.q).GR=2/\b={ (m.au n).bs l.q with rd:=((m.au n).bs l.q).rd+1}/\((m.au n).bs l.q).rd≠4\/((m.au n).bs l.q).GR=3/\b=(m.au n).bs l.q)->
   ((m.au n).bs l.q).tg=l.fr->aA b=0->Hnd m n l ((m.aF n l.q b).part n l.q l.at_)
 |PL (p:cZ) (dX:Nd) (d:List UInt8):(dX=m.au n\/l.kd=6/\dX=(m.au n).Uz n l)->p.q=l.q->p.ok (m.au n).bs->gD (m.au n).data (m.au n).Qr (p.rs (m.au n).bs)=some d->Src ((m.au n).bs l.q) l p->Hnd m n l (m.put n {dX with data:=d,PL:=some p})
 |Uz:l.kd=6->Hnd m n l (m.put n ((m.au n).Uz n l))
def rQ{X x:Nd}{rs:List dN}(h:X.write rs=some x):∃d,gD X.data X.Qr rs=some d/\x={X with data:=d}:=by
 unfold Nd.write at h;rw[wE]at h;obtain⟨d,h1,I⟩:=h;exact⟨d,h1,I.symm⟩
def abO{X:Nd}{rs:List dN}(h:X.write rs=none):gD X.data X.Qr rs=none:=by
 unfold Nd.write at h;rwa [Option.map_eq_none_iff]at h
def abP{b:bF}{e:Ev}(h:aA b=0)(J:b.JU.length<1999)(I:(jN (aK b.JU).1 e).2.2.1=true):UH (b.JU++[e]):=RX (kL h) Y (aoT I) I
def agh(I:l.kd=0):Hnd m n l (m.serve n l):=by
 unfold Cl.serve
 split
 ·rename_i h
  exact .done _ I (.inl ⟨h,E⟩)
 rename_i h
 obtain⟨h1,J,M,h4,O,h6,h7⟩:=abM h;have Z:=abP h1 O h4;rw[h7]
 split
 ·rename_i hw
  exact .done _ I (.inr ⟨E,M,J,abO hw,Z⟩)
 rename_i x hw
 obtain⟨d,hd,rfl⟩:=rQ hw;exact .PL (.serve l.q (((m.au n).bs l.q).JU++[l.op]) l.op l.num (jN (aK ((m.au n).bs l.q).JU).1 l.op).2.1) (m.au n) d (.inl E) E ⟨M,E,J,Z⟩ hd ⟨I,E,E,E,h6,O⟩
def YQ(J:l.kd=2):Hnd m n l (m.Uv n l):=by
 unfold Cl.Uv
 split
 ·exact .same
 rename_i h
 split
 ·rename_i I
  exact .UG (abN h I).1
 rename_i I
 obtain⟨M,O,Z,h6,h7,h8,h9⟩:=ako h I;rw[h9]
 split
 ·exact .same
 rename_i x hw
 obtain⟨d,hd,rfl⟩:=rQ hw;exact .PL (.QL l.q ⟨4,l.ep,l.fr,0,0,[]⟩) (m.au n) d (.inl E) E ⟨M,l.ep,l.fr,E,O,Z,h6,h7,h8⟩ hd ⟨J,E⟩
def abQ(hb:aA ((m.au n).bs l.q)=0)(Z:l.kd=3):Hnd m n l (m.UL n l):=by
 unfold Cl.UL
 split
 ·exact .same
 rename_i h0
 split
 ·exact .same
 rename_i h
 obtain⟨h1,h2,h3⟩:=VB h;have J:((m.au n).bs l.q).tg=l.fr:=by
  by_cases e:((m.au n).bs l.q).tg=l.fr
  ·exact e
  exact av (.inl e) h0
 have iB:((m.au n).bs l.q).ep+1=l.ep:=by
  by_cases e:((m.au n).bs l.q).ep+1=l.ep
  ·exact e
  exact av (.inr e) h0
 have I:=Eh hb (fM.1 h)
 rcases h3 with⟨M,O⟩|⟨M,h6,O⟩|⟨M,h6,O⟩
 ·rw[O]at I⊢;rw[aj E];exact .part _ Z h1 h2 (.inr ⟨M,E⟩) J I
 ·rw[O,ah (by show ¬(3:Int)=_;omega)]
  split
  ·exact .same
  rename_i x hw
  obtain⟨d,hd,rfl⟩:=rQ hw;exact .PL (.gJ l.q { (m.au n).bs l.q with GR:=3,rd:=0} l.at_) (m.au n) d (.inl E) E ⟨M,E⟩ hd ⟨Z,J,iB,E,h1,h2⟩
 rw[O]at I⊢;rw[aj E];exact .part _ Z h1 h2 (.inl ⟨M,E,λe=>h6 (.inr e)⟩) J I
def Sn{b:bF}{at_:Int}{l:List Ev}:b.JU=(Mk b at_ l).take b.JU.length:=by unfold Mk;rw[GY]
def Xi{b:bF}{at_:Int}{l:List Ev}(I:0<=at_)(h1:at_<=b.JU.length)(h:b.JU.length<=at_.toNat+l.length):(Mk b at_ l).length=at_.toNat+l.length:=by
 unfold Mk;rw[aY,dL];omega
def aoX(hk:l.kd=4):Hnd m n l (m.UK n l):=by
 unfold Cl.UK
 split
 ·exact .same
 rename_i h0
 have hr:((m.au n).bs l.q).GR=4:=by
  by_cases e:((m.au n).bs l.q).GR=4
  ·exact e
  exact av (.inl e) h0
 have Z:((m.au n).bs l.q).fr=l.fr:=by
  by_cases e:((m.au n).bs l.q).fr=l.fr
  ·exact e
  exact av (.inr e) h0
 split
 ·exact .UG hr
 split
 ·exact .same
 rename_i h2 h3
 have h:¬(dM ((m.au n).bs l.q) l.ep l.at_ l.JU l.last).2≠0:=λe=>h3 (.inl e);have I:¬(dM ((m.au n).bs l.q) l.ep l.at_ l.JU l.last).1.JU.length=((m.au n).bs l.q).JU.length:=λe=>h3 (.inr e);obtain⟨g1,g2,g3,g4,g5,g6,g7,g8⟩:=agb h;rw[g8]at I⊢;have J:((m.au n).bs l.q).JU.length<=l.at_.toNat+l.JU.length:=by
  cases M:l.last with
  |true=>exact g6 M
  |false=>
   unfold zC Mk at I;rw[ah (by rw[M];simp)]at I;dsimp only at I;rw[aY,dL]at I;omega
 have hil:=Xi g3 g4 J;have O:=kL g7;have hrs:(cZ.UK l.q (zC ((m.au n).bs l.q) l.at_ l.JU l.last) l.last).rs (m.au n).bs=sJ l.q (zC ((m.au n).bs l.q) l.at_ l.JU l.last) ((m.au n).bs l.q).JU.length (l.at_.toNat+l.JU.length) l.last:=by
  show sJ _ _ _ _ _=_
  congr 1
  unfold zC
  cases l.last with
  |true=>simp only[if_true,length_append,length_singleton];omega
  |false=>simp only[Bool.false_eq_true,if_false];omega
 split
 ·exact .same
 rename_i x hw
 obtain⟨d,hd,rfl⟩:=rQ hw;refine .PL (.UK l.q (zC ((m.au n).bs l.q) l.at_ l.JU l.last) l.last) (m.au n) d (.inl E) E ⟨hr,O,Dt E O,λM=>?_,λM=>?_⟩ (by rw[hrs];exact hd) ⟨hk,Z,g2,g3,g4,g5,J,E,E⟩
 ·unfold zC;rw[M,ah iQ];exact⟨E,Sn⟩
 refine⟨Mk ((m.au n).bs l.q) l.at_ l.JU,?_,Sn⟩;unfold zC;rw[aj M]
def abR(I:l.kd=6):Hnd m n l (m.U1 n l):=by
 unfold Cl.U1
 split
 ·exact .Uz I
 rename_i h
 obtain⟨h1,J,M⟩:=agc h;rw[M]
 split
 ·exact .Uz I
 rename_i x hw
 obtain⟨d,O,rfl⟩:=rQ hw;exact .PL (.QE l.q ⟨0,((m.au n).bs l.q).ep,0,0,0,[]⟩) ((m.au n).Uz n l) d (.inr ⟨I,E⟩) E ⟨h1,E⟩ O ⟨I,J⟩
def hnd(I:∀q,q<4->aA ((m.au n).bs q)=0)(J:l.ok):Hnd m n l (m.QB n l):=by
 obtain⟨h1,O,M⟩:=J;unfold Cl.QB
 rcases M with h|h|h|h|h
 ·rw[aj h];exact agh h
 ·rw[ah Y,aj h];exact YQ h
 ·rw[ah Y,ah Y,aj h];exact abQ (I _ h1) h
 ·rw[ah Y,ah Y,ah Y,aj h];exact aoX h
 rw[ah Y,ah Y,ah Y,ah Y];exact abR h
end
structure Ko (a:Ac):Prop where
 kd:1<=a.kd/\a.kd<=10
 nd:0<=a.nd/\a.nd<=4
 qu:0<=a.qu/\a.qu<=3
 at_:0<=a.at_/\a.at_<=1048576
 kp:0<=a.kp/\a.kp<=100000
 op:a.kd=2->bJ a.op=0/\a.op.kind≠4
def aqE{x:Ac}(h:dK x=0):Ko x:=by
 cases I:dz x.kd x.ek with
 |none=>rw[acF I]at h;cases h
 |some l=>
  by_cases J:l.all (Rb x)=true
  ·by_cases M:fin x l=Vy
   ·have Z:=anO ((ajf I).2 M);clear h M;obtain⟨kd,nd,qu,at_,kp,ek,ep,ei,eb,eh,en⟩:=x
    rcases kinds kd ek with rfl|rfl|rfl|rfl|rfl|rfl|rfl|rfl|rfl|⟨rfl,rfl⟩|⟨rfl,rfl⟩|⟨rfl,rfl⟩|hn
    all_goals first
     |(dsimp only at I;rw[hn]at I;cases I;done)
     |(simp[dz]at I;subst I;simp[keep]at Z;simp[Rb,Ac.get,Ac.UA]at J;exact⟨by dsimp only;omega,by dsimp only;omega,by dsimp only;omega,by dsimp only;omega,by dsimp only;omega,by(intro O;first|(simp at O;done)|(refine⟨?_,by simp[Ac.op]⟩;simp[Ac.op,bJ,mo,Z,J]))⟩)
   rw[TM I J M]at h;cases h
  rw[Nn I J]at h;cases h
def lF(l:bY):Prop:=l.q<4/\l.JU.length<=3/\(l.tg= -1\/(l.tg= -2/\0<=l.fr/\l.fr<5/\l.kd=5)\/(0<=l.tg/\l.tg<5/\(l.kd=0\/l.kd=2\/l.kd=3\/l.kd=4\/l.kd=6)))/\(l.kd=0->bJ l.op=0/\l.op.kind≠4)
def nk{k:Int}{P:Prop}(h:k≠0):k=0->P:=λe=>av e h
def lF.ok{l:bY}(h:lF l)(J:0<=l.tg):l.ok:=by
 obtain⟨h1,M,I|I|I,_⟩:=h
 ·omega
 ·omega
 exact⟨h1,by omega,I.2.2⟩
section
variable {n q:Nat}{b:bF}{u:Int}{a:kg}{p:Pl}
def NM:lF (nS n u a p):=⟨by show 0<4;omega,by show 0<=3;omega,.inl E,nk (by show(1:Int)≠0;decide)⟩
def Uf(h:q<4)(J:b.GR=4)(I:aA b=0):lF (qI n q b):=by
 have hs:=gH I;unfold bP at hs;refine⟨h,by show 0<=3;omega,.inr (.inr ⟨by show 0<=b.fr;omega,by show b.fr<5;omega,.inr (.inr (.inl E))⟩),nk (by show(3:Int)≠0;decide)⟩
def aqF(I:b.GR=2\/b.GR=3)(h:aA b=0):0<=b.tg/\b.tg<5:=by
 have hs:=gH h;unfold bP at hs;omega
def aoY{at_:Int}(I:q<4)(J:aA b=0)(h:¬(ji b at_).2.2≠0):lF (Jv n q b at_):=by
 obtain⟨h1,h2,h3,M⟩:=Sk h;obtain⟨O,Z⟩:=aqF h1 J;refine⟨I,?_,.inr (.inr ⟨O,Z,.inr (.inr (.inr (.inl E)))⟩),nk (by show(4:Int)≠0;decide)⟩
 show(ji b at_).1.length<=3
 rw[M];dsimp only;rw[dV];omega
def akq(h:q<4)(I:b.GR=2\/b.GR=3)(J:aA b=0):lF (yU n q b):=by
 obtain⟨M,O⟩:=aqF I J;exact⟨h,by show 0<=3;omega,.inr (.inr ⟨M,O,.inr (.inl E)⟩),nk (by show(2:Int)≠0;decide)⟩
def avq(h:q<4)(hn:n<5):lF (RV n q):=⟨h,by show 0<=3;omega,.inr (.inl ⟨E,by show 0<=(n:Int);omega,by show(n:Int)<5;omega,E⟩),nk (by show(5:Int)≠0;decide)⟩
def aoZ(h:q<4)(hn:n<5):lF (PZ n q b):=⟨h,by show 0<=3;omega,.inr (.inl ⟨E,by show 0<=(n:Int);omega,by show(n:Int)<5;omega,E⟩),nk (by show(5:Int)≠0;decide)⟩
def ao0{s:Bool}(I:q<4)(hn:n<5)(J:aA b=0):(∀l∈iG n q b s,lF l)/\(iG n q b s).length<=3:=by
 unfold iG;refine⟨λl h=>?_,?_⟩
 ·rcases bD.1 h with h|h
  ·rcases bD.1 h with h|h
   ·split at h
    ·rename_i M;rw[aI]at h;subst h;exact akq I M J
    simp at h
   split at h
   ·rw[aI]at h;subst h;exact avq I hn
   simp at h
  split at h
  ·rw[aI]at h;subst h;exact aoZ I hn
  simp at h
 rw[aY,aY]
 split<;>split<;>split<;>simp
end
def Cl.tot(m:Cl):Nat:=m.PI.length+((m.au 0).Pq.length+((m.au 1).Pq.length+((m.au 2).Pq.length+((m.au 3).Pq.length+(m.au 4).Pq.length))))
def five{n:Nat}(hn:n<5):n=0\/n=1\/n=2\/n=3\/n=4:=Y
def avr{m m':Cl}{n d:Nat}(hn:n<5)(I:∀j,j≠n->m'.au j=m.au j)(h:m'.PI.length+(m'.au n).Pq.length<=m.PI.length+(m.au n).Pq.length+d):m'.tot<=m.tot+d:=by
 unfold Cl.tot
 rcases five hn with rfl|rfl|rfl|rfl|rfl
 ·rw[I 1 dQ,I 2 dQ,I 3 dQ,I 4 dQ];omega
 ·rw[I 0 dQ,I 2 dQ,I 3 dQ,I 4 dQ];omega
 ·rw[I 0 dQ,I 1 dQ,I 3 dQ,I 4 dQ];omega
 ·rw[I 0 dQ,I 1 dQ,I 2 dQ,I 4 dQ];omega
 rw[I 0 dQ,I 1 dQ,I 2 dQ,I 3 dQ];omega
def nu{l:bY}{n:Nat}(h:lF l/\l.tg=n):l.ok:=h.1.ok (by rw[h.2];omega)
def Sq(m:Cl){n:Nat}(hn:n<5):m.PI.length+(m.au n).Pq.length<=m.tot:=by
 unfold Cl.tot
 rcases five hn with rfl|rfl|rfl|rfl|rfl<;>omega
structure eF (m:Cl)(T S fP K:Nat):Prop where
 jO:∀n,n<5->Kn (m.au n)
 nT:∀l∈m.PI,lF l
 jC:∀n,n<5-> ∀l∈(m.au n).Pq,lF l/\l.tg=n
 room:m.tot<=T
 bH:m.bH.length<=S
 bZ:m.bZ.length<=fP
 turn:∀n,n<5->(m.au n).turn<=K
 calls:m.calls<=K
def eF.mono{m:Cl}{T S fP K T' S' D' K':Nat}(h:eF m T S fP K)(h1:T<=T')(J:S<=S')(M:fP<=D')(I:K<=K'):eF m T' S' D' K':=
 ⟨h.jO,h.nT,h.jC,fG h.room h1,fG h.bH J,fG h.bZ M,λn hn=>fG (h.turn n hn) I,fG h.calls I⟩
section
variable {m m':Cl}{n:Nat}{l:bY}{rs:List dN}{T S fP K q:Nat}{g g':Gh}{V:Nat->bF}{P:Nat->Option cZ}{U:Nat->Bool}{Lt:bY->Prop}{pl:Pl}{sh:Nat->Int×Int}{sv:List l5}{X:Nd}{us:List dN}{ls:List bY}{m2:Cl}{k:Nat}{g2:Gh}
def eF.at_(h:eF m T S fP K)(hn:n<5)(M:∀j,j≠n->m'.au j=m.au j)(O:Kn (m'.au n))(Z:∀l∈m'.PI,l∈m.PI\/lF l)(hi:∀l∈(m'.au n).Pq,l∈(m.au n).Pq\/(lF l/\l.tg=n))
  {c s d u:Nat} (h1:m'.PI.length+(m'.au n).Pq.length<=m.PI.length+(m.au n).Pq.length+c) (h2:m'.bH.length<=m.bH.length+s) (h3:m'.bZ.length<=m.bZ.length+d) (h4:(m'.au n).turn<=(m.au n).turn+u) (h5:m'.calls<=m.calls+u):eF m' (T+c) (S+s) (fP+d) (K+u):=by
 refine⟨λj I=>?_,λl J=>(Z l J).elim (h.nT l) id,λj I=>?_,?_,?_,?_,λj I=>?_,?_⟩
 ·by_cases e:j=n
  ·subst e;exact O
  rw[M j e];exact h.jO j I
 ·by_cases e:j=n
  ·subst e;exact λl J=>(hi l J).elim (h.jC j I l) id
  rw[M j e];exact h.jC j I
 ·have:=avr hn M h1;have:=h.room;omega
 ·have:=h.bH;omega
 ·have:=h.bZ;omega
 ·by_cases e:j=n
  ·subst e;have:=h.turn j I;omega
  rw[M j e];have:=h.turn j I;omega
 have:=h.calls;omega
structure Keep (m m':Cl):Prop where
 bZ:m'.bZ=m.bZ
 calls:m'.calls=m.calls
 off:m'.off=m.off
def Keep.refl(m:Cl):Keep m m:=⟨E,E,E⟩
def Keep.trans{a b c:Cl}(h:Keep a b)(I:Keep b c):Keep a c:=⟨I.bZ.trans h.bZ,I.calls.trans h.calls,I.off.trans h.off⟩
def xX{q:Nat}{op:Ev}{u:Int}{a:kg}:Keep m (m.done n q op u a)/\(m.done n q op u a).au=m.au/\ ∃l,lF l/\(m.done n q op u a).PI=m.PI++[l]:=by
 unfold Cl.done
 split
 ·exact⟨⟨E,E,E⟩,E,_,NM,E⟩
 exact⟨⟨E,E,E⟩,E,_,NM,E⟩
def sD{q:Nat}{a:Int}:Keep m (m.part n q a)/\(m.part n q a).au=m.au/\(m.part n q a).PI=ni n q ((m.au n).bs q) a m.PI:=by
 unfold Cl.part ni
 split
 ·exact⟨⟨E,E,E⟩,E,E⟩
 exact⟨⟨E,E,E⟩,E,E⟩
def Sr{q:Nat}{b:bF}{a:Int}{fl:List bY}(J:q<4)(M:aA b=0):∀l∈ni n q b a fl,l∈fl\/lF l:=λl I=>by
 unfold ni at I
 split at I
 ·exact .inl I
 rename_i h
 rcases bD.1 I with I|I
 ·exact .inl I
 rw[aI]at I;subst I;exact .inr (aoY J M h)
def agi{q:Nat}{b:bF}{a:Int}{fl:List bY}:(ni n q b a fl).length<=fl.length+1:=by
 unfold ni
 split
 ·omega
 simp
def Du{fl:List bY}{x:bY}(I:lF x):∀l∈fl++[x],l∈fl\/lF l:=λl h=>by
 rcases bD.1 h with h|h
 ·exact .inl h
 rw[aI]at h;subst h;exact .inr I
def avs(M:l.q<4)(h:qL (m.au n) rs [])(hp:(m.au n).PL=none)(H:Hnd m n l m'):(∃us,qL (m'.au n) rs us)/\(∀x∈m'.PI,x∈m.PI\/lF x)/\Keep m m':=by
 cases H with
 |same=>exact⟨⟨_,h⟩,λx J=>.inl J,.refl m⟩
 |done a h1 h2=>
  obtain⟨O,I,l',h5,Z⟩:=xX (m:=m) (n:=n) (q:=l.q) (op:=l.op) (u:=l.num) (a:=a);exact⟨⟨[],by rw[I];exact h⟩,by rw[Z];exact Du h5,O⟩
 |UG h1=>exact⟨⟨[],h⟩,Du (Uf M h1 (h.nE _ M)),⟨E,E,E⟩⟩
 |part b h1 h2 O I h5 Z=>
  obtain⟨g1,g2,g3⟩:=sD (m:=m.aF n l.q b) (n:=n) (q:=l.q) (a:=l.at_);have e:(m.aF n l.q b).au n=(m.au n).aF l.q b:=bL _;refine⟨⟨[],?_⟩,?_,?_⟩
  ·rw[g2,e];refine⟨h.data,h.Qr,h.tape.congr λk hk=>?_,λk hk=>?_,h.tV,λp hp'=>?_,h.len⟩
   ·show kM ((m.au n).bs k)=kM (Qv (m.au n).bs l.q b k)
    by_cases e:k=l.q
    ·rw[e,JR]
     rcases I with⟨I,h7,_⟩|⟨_,h7⟩
     ·rw[h7];unfold kM;rw[aj I,aj I]
     rw[h7]
    rw[Ph e]
   ·show aA (Qv (m.au n).bs l.q b k)=0
    by_cases e:k=l.q
    ·rw[e,JR];exact Z
    rw[Ph e];exact h.nE k hk
   exact av (hp'.symm.trans hp) iQ
  ·rw[g3,e,show((m.au n).aF l.q b).bs l.q=b from JR _ _ _];exact Sr M Z
  exact(⟨E,E,E⟩:Keep m (m.aF n l.q b)).trans g1
 |PL p dX d h1 h2 O I h5=>
  obtain⟨w1,w2,w3⟩:=vL I;have hY:dX.bs=(m.au n).bs/\dX.Qr=(m.au n).Qr:=by rcases h1 with h1|⟨_,h1⟩<;>rw[h1]<;>exact⟨E,E⟩
  refine⟨⟨p.rs (m.au n).bs,?_⟩,λx J=>.inl J,⟨E,E,E⟩⟩;rw[bL];refine⟨?_,hY.2.trans h.Qr,?_,?_,λe=>(by cases e),λp' e=>?_,w3 h.len⟩
  ·show d=_;rw[w1,h.data,bI,nV]
  ·dsimp only;rw[hY.1];exact h.tape
  ·dsimp only;rw[hY.1];exact h.nE
  cases e;dsimp only;rw[hY.1];exact⟨E,O,by rw[h2];exact M⟩
 |Uz h1=>
  refine⟨⟨[],?_⟩,λx J=>.inl J,⟨E,E,E⟩⟩;rw[bL];exact⟨h.data,h.Qr,h.tape,h.nE,h.tV,h.JD,h.len⟩
def qZ{n:Nat}(P:Cl->Prop)(I:∀m l r,P m->(m.au n).PL=none->(m.au n).Pq=l::r->l.q<4/\P ((m.put n ((m.au n).box r)).QB n l)):∀(k:Nat) (m:Cl),(m.au n).Pq.length=k->P m->P (m.more n):=by
 intro k
 induction k with
 |zero=>
  intro m J h;rw[NJ (qY.1 J)];exact h
 |succ k Z=>
  intro m J h
  cases M:(m.au n).PL with
  |some p=>rw[EN (by rw[M];simp)];exact h
  |none=>
   cases hi:(m.au n).Pq with
   |nil=>rw[hi]at J;simp at J
   |cons l r=>
    obtain⟨O,h2⟩:=I m l r h M hi;rw[Kl M hi O];have e:=(kJ (m:=m.put n ((m.au n).box r)) (n:=n) (l:=l) O).jC;have e2:((m.put n ((m.au n).box r)).au n).Pq=r:=by rw[bL];rfl
    exact Z _ (by rw[e,e2];rw[hi]at J;simpa using J) h2
structure Sv (m0:Cl)(n:Nat)(rs:List dN)(m:Cl):Prop where
 up:(m.au n).up=true
 tape:∃us,qL (m.au n) rs us
 p8:∀j,j≠n->m.au j=m0.au j
 nT:∀l∈m.PI,l∈m0.PI\/lF l
 jC:∀l∈(m.au n).Pq,l∈(m0.au n).Pq
 cnt:m.PI.length+(m.au n).Pq.length<=m0.PI.length+(m0.au n).Pq.length
 bH:m.bH.length+(m.au n).Pq.length<=m0.bH.length+(m0.au n).Pq.length
 keep:Keep m0 m
 Jw:(m.au n).turn=(m0.au n).turn
def aiB{X:Nd}{r:List bY}{us:List dN}(h:qL X rs us):qL (X.box r) rs us:=⟨h.data,h.Qr,h.tape,h.nE,h.tV,h.JD,h.len⟩
def q8{m1:Cl}{r:List bY}(hi:∀l∈(m.au n).Pq,l.ok)(H:Sv m n rs m1)(hp:(m1.au n).PL=none)(h:(m1.au n).Pq=l::r):
 l.ok/\qL ((m1.put n ((m1.au n).box r)).au n) rs []/\Hnd (m1.put n ((m1.au n).box r)) n l ((m1.put n ((m1.au n).box r)).QB n l)/\Sv m n rs ((m1.put n ((m1.au n).box r)).QB n l):=by
 have hl:l∈(m1.au n).Pq:=by rw[h];simp
 have I:=hi l (H.jC l hl);obtain⟨us,hU⟩:=H.tape;have Z:=hU.tV hp;subst Z;have hq:=I.1;have M:(m1.put n ((m1.au n).box r)).au n=(m1.au n).box r:=bL _;have J:qL ((m1.put n ((m1.au n).box r)).au n) rs []:=by rw[M];exact aiB hU
 have hH:=hnd J.nE I;refine⟨I,J,hH,?_⟩;have l7:=kJ (m:=m1.put n ((m1.au n).box r)) (n:=n) (l:=l) hq;obtain⟨g1,g2,g3⟩:=avs hq J (by rw[M];exact hp) hH;have ei:=l7.jC;rw[M]at ei;have e1:(m1.put n ((m1.au n).box r)).PI=m1.PI:=rfl;have e2:(m1.put n ((m1.au n).box r)).bH=m1.bH:=rfl;have e3:((m1.au n).box r).Pq=r:=rfl;have c1:=H.cnt;have c2:=H.bH;have c3:=l7.PI;have c4:=l7.bH;rw[h,mO]at c1 c2;rw[e1]at c3;rw[e2]at c4;refine⟨by rw[l7.up,M];exact H.up,g1,λj hj=>?_,λx O=>(g2 x O).elim (H.nT x) .inr,λx O=>?_,?_,?_,H.keep.trans ((⟨E,E,E⟩:Keep m1 (m1.put n ((m1.au n).box r))).trans g3),by rw[l7.Jw,M];exact H.Jw⟩
 ·rw[l7.p8 j hj]
  show Qv m1.au n _ j=_
  rw[Ph hj];exact H.p8 j hj
 ·rw[ei,e3]at O;exact H.jC x (by rw[h];simp[O])
 ·rw[ei,e3];omega
 rw[ei,e3];omega
def D8(I:(m.au n).up=true)(h:∃us,qL (m.au n) rs us):Sv m n rs m:=⟨I,h,λ_ _=>E,λ_ h=>.inl h,λ_ h=>h,aB,aB,.refl m,E⟩
def NP(J:(m.au n).up=true)(h:∃us,qL (m.au n) rs us)(hi:∀l∈(m.au n).Pq,l.ok):Sv m n rs (m.more n):=
 qZ (n:=n) (Sv m n rs) (λ_ _ _ H M I=>by obtain⟨h1,_,_,O⟩:=q8 hi H M I;exact⟨h1.1,O⟩) _ m E (D8 J h)
def CS{X:Nd}{p:cZ}(J:m.au n=X)(h:X.up=true)(M:X.PL=some p)(O:p.q<4)(Z:aA (p.b X.bs)=0)(I:p.ok X.bs):
 ∃dX:Nd,(m.step n).au=Qv m.au n dX/\dX.bs=Qv X.bs p.q (p.b X.bs)/\dX.data=X.data/\dX.Qr=X.data.length/\dX.PL=none/\dX.up=true/\dX.Pq=X.Pq/\dX.turn=X.turn/\Keep m (m.step n)/\
   (∀l∈(m.step n).PI,l∈m.PI\/lF l)/\(m.step n).PI.length<=m.PI.length+1/\(m.step n).bH.length<=m.bH.length+1:=by
 cases p with
 |serve q JU op num a=>
  rw[kH J h M E I.1];exact⟨_,E,E,E,E,E,h,E,E,⟨E,E,E⟩,Du NM,by simp,by simp⟩
 |QL q b=>
  rw[qb J h M];obtain⟨_,e,f,rfl,_⟩:=I;exact⟨_,E,E,E,E,E,h,E,E,⟨E,E,E⟩,Du (Uf O E Z),by simp,by simp[Cl.put]⟩
 |UK q b last=>
  cases last with
  |true=>
   rw[lK J h M];exact⟨_,E,E,E,E,E,h,E,E,⟨E,E,E⟩,λl hl=>.inl hl,by simp[Cl.put],by simp⟩
  |false=>
   rw[vK J h M];have hr:b.GR=4:=by
    have:=(I.2.2.2.1 E).1;rw[this];exact I.1
   exact⟨_,E,E,E,E,E,h,E,E,⟨E,E,E⟩,Du (Uf O hr Z),by simp,by simp[Cl.put]⟩
 |gJ q b at_=>
  rw[sw J h M];exact⟨_,E,E,E,E,E,h,E,E,⟨E,E,E⟩,Sr O Z,agi,by simp[Cl.put]⟩
 |QE q b=>
  rw[nW J h M];exact⟨_,E,E,E,E,E,h,E,E,⟨E,E,E⟩,λl hl=>.inl hl,by simp[Cl.put],by simp[Cl.put]⟩
def agj{X dX:Nd}{p:cZ}{us:List dN}(h:qL X rs us)(O:X.PL=some p)(J:dX.bs=Qv X.bs p.q (p.b X.bs))(M:dX.data=X.data)(hs:dX.Qr=X.data.length)(hn:dX.PL=none):qL dX (rs++us) []:=by
 obtain⟨Z,I,hq⟩:=h.JD p O;obtain⟨h1,h2⟩:=jI h.tape h.nE I hq;refine⟨by rw[M,h.data,bI],by rw[hs,h.data],?_,λk hk=>?_,λ_=>E,λp' e=>(by rw[hn]at e;cases e),by rw[M];exact h.len⟩
 ·rw[J,Z];exact h1
 rw[J];by_cases e:k=p.q
 ·rw[e,JR];exact h2
 rw[Ph e];exact h.nE k hk
def Sw(h:eF m T S fP K)(hn:n<5):eF (m.step n) (T+3) (S+T+1) fP (K+1):=by
 cases M:(m.au n).up with
 |false=>rw[oN M];exact h.mono Y Y Y Y
 |true=>
  obtain⟨rs,us,O⟩:=(h.jO n hn).xV M;have hT:=Sq m hn;have hT2:=h.room
  cases hp:(m.au n).PL with
  |some p=>
   obtain⟨h1,h2,h3⟩:=O.JD p hp;obtain⟨_,hf⟩:=jI O.tape O.nE h2 h3;obtain⟨dX,y1,y2,y3,y4,y5,y6,y7,y8,y9,y10,y11,y12⟩:=CS E M hp h3 hf h2;have eY:(m.step n).au n=dX:=by rw[y1];exact JR _ _ _
   have hUY:=agj O hp y2 y3 y4 y5;refine(h.at_ (c:=1) (s:=1) (d:=0) (u:=0) hn (λj hj=>by rw[y1,Ph hj]) ?_ y10 ?_ ?_ y12 (by rw[y9.bZ];omega) (by rw[eY,y8];omega) (by rw[y9.calls];omega)).mono Y Y Y Y
   ·rw[eY];exact .inl ⟨y6,_,_,hUY⟩
   ·rw[eY,y7];exact λl J=>.inl J
   rw[eY,y7];omega
  |none=>
   have R:=NP M ⟨us,O⟩ λl J=>nu (h.jC n hn l J);have c:=R.cnt;have c2:=R.bH;obtain⟨Z,I⟩:=R.tape;rw[jX M hp]
   split
   ·rename_i hp2
    have e:(((m.more n).lM n).au n)={ (m.more n).au n with turn:=((m.more n).au n).turn+1}:=bL _;have hqq:((m.more n).au n).turn % 4<4:=mod_lt _ dQ;obtain⟨d1,d2⟩:=ao0 (n:=n) (s:=((m.more n).au n).QA (((m.more n).au n).turn % 4)) hqq hn (I.nE _ hqq);refine(h.at_ (c:=3) (s:=T) (d:=0) (u:=1) hn (λj hj=>?_) ?_ (λl J=>?_) ?_ ?_ ?_ ?_ ?_ ?_).mono Y Y Y Y
    ·show Qv (m.more n).au n _ j=_
     rw[Ph hj];exact R.p8 j hj
    ·rw[e];exact .inl ⟨R.up,rs,Z,⟨I.data,I.Qr,I.tape,I.nE,I.tV,I.JD,I.len⟩⟩
    ·rcases bD.1 J with J|J
     ·exact R.nT l J
     exact .inr (d1 l J)
    ·rw[e];exact λl J=>.inl (R.jC l J)
    ·rw[e]
     show((m.more n).PI++_).length+((m.more n).au n).Pq.length<=_
     rw[aY];have:=d2;omega
    ·show(m.more n).bH.length<=_;omega
    ·show(m.more n).bZ.length<=_;rw[R.keep.bZ];omega
    ·rw[e];show((m.more n).au n).turn+1<=_;rw[R.Jw];exact aB
    show(m.more n).calls<=_;rw[R.keep.calls];omega
   refine(h.at_ (c:=0) (s:=T) (d:=0) (u:=0) hn R.p8 (.inl ⟨R.up,rs,Z,I⟩) R.nT (λl J=>.inl (R.jC l J)) Y Y (by rw[R.keep.bZ];omega) (by rw[R.Jw];omega) (by rw[R.keep.calls];omega)).mono Y Y Y Y
def Kq(h:eF m T S fP K)(O:lF l):eF (m.QG l) (T+1) S (fP+1) K:=by
 have M:=h.room;have J:∀fl,({m with PI:=fl}:Cl).tot+m.PI.length=m.tot+fl.length:=λfl=>by unfold Cl.tot;dsimp only;omega
 obtain⟨hq,hv,h1|⟨h1,Z,h3,_⟩|⟨h1,Z,h3⟩,_⟩:=id O
 ·have e:m.QG l={m with bZ:=m.bZ++[l.bZ]}:=aj h1;rw[e];exact⟨h.jO,h.nT,h.jC,by show m.tot<=_;omega,h.bH,by show(m.bZ++_).length<=_;have:=h.bZ;simp;omega,h.turn,h.calls⟩
 ·unfold Cl.QG;rw[ah Y,aj h1]
  split
  ·refine⟨h.jO,λx I=>?_,h.jC,?_,h.bH,by have:=h.bZ;show m.bZ.length<=_;omega,h.turn,h.calls⟩
   ·rcases bD.1 I with I|I
    ·exact h.nT x I
    rw[aI]at I;subst I;exact⟨hq,by show 0<=3;omega,.inr (.inr ⟨Z,h3,.inr (.inr (.inr (.inr E)))⟩),nk (by show(6:Int)≠0;decide)⟩
   have:=J (m.PI++[ng l.fr l.q (aN (dY m.off l) l.q).1]);rw[aY,lZ]at this
   show Cl.tot {m with PI:=_}<=_
   omega
  exact⟨h.jO,h.nT,h.jC,by show m.tot<=_;omega,h.bH,by have:=h.bZ;show m.bZ.length<=_;omega,h.turn,h.calls⟩
 have hn:l.tg.toNat<5:=Y;unfold Cl.QG;rw[ah Y,ah Y]
 split
 ·rename_i hu
  have e:(m.put l.tg.toNat {m.au l.tg.toNat with Pq:=(m.au l.tg.toNat).Pq++[l]}).au l.tg.toNat=(m.au l.tg.toNat).box ((m.au l.tg.toNat).Pq++[l]):=bL _;obtain⟨rs,us,hU⟩:=(h.jO _ hn).xV hu;refine(h.at_ (m':=m.put l.tg.toNat {m.au l.tg.toNat with Pq:=(m.au l.tg.toNat).Pq++[l]}) (c:=1) (s:=0) (d:=0) (u:=0) hn (λj hj=>Ph hj) (by rw[e];exact .inl ⟨hu,rs,us,aiB hU⟩) (λx I=>.inl I) ?_ ?_ aB aB (by rw[e];exact aB) aB).mono Y Y Y Y
  ·rw[e];intro x I
   rcases bD.1 I with I|I
   ·exact .inl I
   rw[aI]at I;subst I;exact .inr ⟨O,by omega⟩
  rw[e]
  show m.PI.length+((m.au l.tg.toNat).Pq++[l]).length<=_
  rw[aY,lZ];omega
 exact h.mono Y Y Y Y
def OY:∀(ls:List bY) {m:Cl} {T fP:Nat},eF m T S fP K->(∀l∈ls,lF l)->eF (ls.foldl Cl.QG m) (T+ls.length) S (fP+ls.length) K
 |[],m,T,fP,h,_=>h
 |l::ls,m,T,fP,h,I=>(OY ls (Kq h (I l iQ)) λx J=>I x (by simp[J])).mono jQ aB jQ aB
def Xj(h:eF m T S fP K):eF m.all T S (fP+T) K:=by
 have I:=h.room;have J:eF {m with PI:=[]} (T-m.PI.length) S fP K:=by
  refine⟨h.jO,λl M=>by simp at M,h.jC,?_,h.bH,h.bZ,h.turn,h.calls⟩;unfold Cl.tot at I⊢;dsimp only[length_nil];omega
 have O:m.PI.length<=T:=by unfold Cl.tot at I;omega
 exact(OY m.PI J h.nT).mono Y aB Y aB
def agk{at_:Nat}{c s:Bool}(h:eF m T S fP K):eF (m.pick at_ c s) (T+1) S (fP+1) K:=by
 unfold Cl.pick
 split
 ·exact h.mono Y Y Y Y
 rename_i l I
 have J:lF l:=h.nT l (jm I);have h1:eF (if s=true then m else{m with PI:=m.PI.eraseIdx (at_ % m.PI.length)}) T S fP K:=by
  split
  ·exact h
  refine⟨h.jO,λx M=>h.nT x (Mq M),h.jC,?_,h.bH,h.bZ,h.turn,h.calls⟩;have:=h.room;have O:=ado m.PI (at_ % m.PI.length);unfold Cl.tot at this⊢;dsimp only;omega
 dsimp only
 split
 ·exact Kq h1 J
 exact h1.mono Y Y Y Y
def agl{q:Nat}(h:eF m T S fP K)(hn:n<5)(J:q<4):eF (m.make n q) T S fP K:=by
 unfold Cl.make
 split
 ·exact h
 rename_i Z
 have hu:(m.au n).up=true:=by
  cases e:(m.au n).up with
  |true=>rfl
  |false=>exact av (.inl e) Z
 have hp:(m.au n).PL=none:=by
  cases e:(m.au n).PL with
  |none=>rfl
  |some p=>exact av (.inr (.inl (by rw[e];rfl))) Z
 split
 ·exact h
 rename_i h1
 obtain⟨h2,h3,h4⟩:=aoV h1;rw[h4]
 split
 ·exact h
 rename_i x hw
 obtain⟨d,hd,rfl⟩:=rQ hw;obtain⟨rs,us,I⟩:=(h.jO n hn).xV hu;have M:=I.tV hp;subst M;obtain⟨w1,w2,w3⟩:=vL hd;obtain⟨_,a2⟩:=Ua (q:=q) (I.nE q J) h2 h3 J;have O:aA ⟨1,1,0,0,0,[]⟩=0:=oh (AU Y Y _) zU;refine h.at_ (m':={m.put n {m.au n with data:=d,Qr:=d.length,bs:=Qv (m.au n).bs q ⟨1,1,0,0,0,[]⟩}with off:=(vF m.off q n).1,Qx:=kG m.Qx n q (1,0)}) (c:=0) (s:=0) (d:=0) (u:=0) hn (λj hj=>Ph hj) ?_ (λx hx=>.inl hx) ?_ ?_ aB aB ?_ aB
 ·refine .inl ⟨?_,rs++[gW 1 q 1 0 aU],[],?_⟩
  ·show(Qv m.au n _ n).up=true;rw[JR];exact hu
  show qL (Qv m.au n _ n) _ _
  rw[JR];refine⟨?_,?_,?_,λk hk=>?_,λ_=>E,λp e=>?_,w3 I.len⟩
  ·show d=_;rw[w1,I.data,bI,bI,nV]
  ·show(d.length:Int)=_;rw[w1,I.data,bI,nV]
  ·refine M6 (x:=⟨1,1,0,0,0,[]⟩) I.tape J (w2 _ iQ) E ?_;rw[Ml (.inr (.inl h2)),a2];rfl
  ·show aA (Qv (m.au n).bs q _ k)=0
   by_cases e:k=q
   ·rw[e,JR];exact O
   rw[Ph e];exact I.nE k hk
  exact av (e.symm.trans hp) iQ
 ·show ∀l∈(Qv m.au n _ n).Pq,_;rw[JR];exact λl hl=>.inl hl
 ·show m.PI.length+(Qv m.au n _ n).Pq.length<=_;rw[JR];exact aB
 show(Qv m.au n _ n).turn<=_;rw[JR];exact iJ _
def qd{d:UE}{q:Int}(h:¬(aN d q).2≠0):(aN d q).1.node.toNat<5/\0<=(aN d q).1.node/\(aN d q).1=d.at q.toNat:=by
 obtain⟨h1,Z,M,O,I⟩:=KD (fM.1 h);unfold Av at I
 rcases I with⟨I,J⟩|I
 ·exfalso
  apply O;generalize aN d q=r at*;obtain⟨⟨a,b⟩,c⟩:=r;dsimp only at I J⊢;rw[I,J];rfl
 exact⟨by omega,by omega,M⟩
def adp{bs:Nat->bF}{q:Nat}{p:cZ}{tg:Int}(I:(bs q).GR=1)(h:p.ok bs):p.rs (Qv bs q ⟨2,(bs q).ep,0,tg,0,(bs q).JU⟩)=p.rs bs/\p.ok (Qv bs q ⟨2,(bs q).ep,0,tg,0,(bs q).JU⟩):=by
 cases p with
 |serve k JU op num a=>
  simp only[cZ.ok,cZ.rs]at h⊢;by_cases e:k=q
  ·subst e;rw[JR];exact⟨E,.inr E,h.2⟩
  rw[Ph e];exact⟨E,h⟩
 |QL k b=>
  simp only[cZ.ok]at h⊢;refine⟨E,?_⟩;by_cases e:k=q
  ·subst e;exfalso;have:=h.1;omega
  rw[Ph e];exact h
 |UK k b last=>
  simp only[cZ.ok,cZ.rs]at h⊢;by_cases e:k=q
  ·subst e;exfalso;have:=h.1;omega
  rw[Ph e];exact⟨E,h⟩
 |gJ k b a=>
  simp only[cZ.ok]at h⊢;refine⟨E,?_⟩;by_cases e:k=q
  ·subst e;exfalso;have:=h.1;omega
  rw[Ph e];exact h
 |QE k b=>
  simp only[cZ.ok,cZ.rs]at h⊢;by_cases e:k=q
  ·subst e;exfalso;have:=h.1;omega
  rw[Ph e];exact⟨E,h⟩
def Sy{q:Nat}{tg:Int}(h:eF m T S fP K)(hq:q<4):eF (m.move q tg) T S fP K:=by
 unfold Cl.move
 split
 ·exact h
 rename_i h0
 have hw:¬(aN m.off q).2≠0:=λe=>h0 (.inl e);obtain⟨hn,_,_⟩:=qd hw;have hu:(m.au (aN m.off q).1.node.toNat).up=true:=by
  cases e:(m.au (aN m.off q).1.node.toNat).up with
  |true=>rfl
  |false=>exact av (.inr (.inr e)) h0
 generalize hnn:(aN m.off q).1.node.toNat=n at*
 split
 ·rename_i h1
  obtain⟨g1,g2,g3,g4⟩:=go_ok h1.1;rw[g4];obtain⟨rs,us,hU⟩:=(h.jO n hn).xV hu;have hs:=gH (hU.nE q hq);unfold bP at hs;have hok:aA ⟨2,((m.au n).bs q).ep,0,tg,0,((m.au n).bs q).JU⟩=0:=oh (.inr ⟨by dsimp only;omega,by dsimp only;omega,.inr (.inl ⟨E,E,g2,by dsimp only;omega,by dsimp only;omega,by dsimp only;omega⟩)⟩) (kL (b:=(m.au n).bs q) (hU.nE q hq));have hd:∀k,kM ((m.au n).bs k)=kM (Qv (m.au n).bs q ⟨2,((m.au n).bs q).ep,0,tg,0,((m.au n).bs q).JU⟩ k):=λk=>by
   by_cases e:k=q
   ·rw[e,JR,Cc (.inl g1) (hU.nE q hq)];rfl
   rw[Ph e]
  have e:((m.aF n q ⟨2,((m.au n).bs q).ep,0,tg,0,((m.au n).bs q).JU⟩).au n)=(m.au n).aF q ⟨2,((m.au n).bs q).ep,0,tg,0,((m.au n).bs q).JU⟩:=bL _;refine h.at_ (m':=m.aF n q ⟨2,((m.au n).bs q).ep,0,tg,0,((m.au n).bs q).JU⟩) (c:=0) (s:=0) (d:=0) (u:=0) hn (λj hj=>Ph hj) ?_ (λx hx=>.inl hx) (by rw[e];exact λl hl=>.inl hl) (by rw[e];exact aB) aB aB (by rw[e];exact aB) aB;rw[e];refine .inl ⟨hu,rs,us,⟨hU.data,hU.Qr,hU.tape.congr λk _=>hd k,λk hk=>?_,hU.tV,λp hp=>?_,hU.len⟩⟩
  ·show aA (Qv (m.au n).bs q _ k)=0
   by_cases e:k=q
   ·rw[e,JR];exact hok
   rw[Ph e];exact hU.nE k hk
  obtain⟨p1,p2,p3⟩:=hU.JD p hp;exact⟨by rw[p1];exact(adp (tg:=tg) g1 p2).1.symm,(adp (tg:=tg) g1 p2).2,p3⟩
 exact h
def abS{keep:Int}(h:eF m T S fP K)(hn:n<5)(M:0<=keep):eF (m.Vz n keep) T S fP K:=by
 unfold Cl.Vz
 split
 ·rename_i O
  obtain⟨rs,us,Z⟩:=(h.jO n hn).xV O;obtain⟨I,t,f,J,_⟩:=akp Z M;have e:(m.put n ((m.au n).Vb keep)).au n=(m.au n).Vb keep:=bL _;refine h.at_ (m':=m.put n ((m.au n).Vb keep)) (c:=0) (s:=0) (d:=0) (u:=0) hn (λj hj=>Ph hj) (by rw[e];exact .inr ⟨E,I,t,f,J⟩) (λx hx=>.inl hx) ?_ ?_ aB aB ?_ aB
  ·rw[e,J.jC];simp
  ·rw[e,J.jC];show m.PI.length+0<=_;omega
  rw[e];exact aB
 exact h
def YR(h:Kn (m.au n)):(m.au n).up=true/\m.start n=m\/(m.au n).up=false/\ ∃rs t f,Km (m.au n) rs t f/\(m.start n=m\/ ∃ws,
  let m1:=m.put n { (m.au n).blank with up:=true,data:=dn (rs++ws),Qr:=(dn (rs++ws)).length,bs:=dH (m.au n).data (m.au n).Qr}
  m.start n=Cl.UF n (dH (m.au n).data (m.au n).Qr) [0,1,2,3] m1/\(dn (rs++ws)).length<=100000/\
  gP (lC (m.au n).data (m.au n).Qr).2.1 (dH (m.au n).data (m.au n).Qr) [0,1,2,3] (lC (m.au n).data (m.au n).Qr).1=some (dn (rs++ws))/\
  Xh m1 (m.start n) n (λq=>if q∈[0,1,2,3]/\(dH (m.au n).data (m.au n).Qr q).GR=1 then rF (dH (m.au n).data (m.au n).Qr q)else dH (m.au n).data (m.au n).Qr q)/\
  (m.start n).bH.length<=m.bH.length+8004/\qL ((m.start n).au n) (rs++ws) []/\
  ∀q,q<4->(f q).GR=1->aA (rF (f q))=0):=by
 cases hu:(m.au n).up with
 |true=>exact .inl ⟨E,by unfold Cl.start;rw[aj hu]⟩
 |false=>
  refine .inr ⟨E,?_⟩;obtain⟨rs,t,f,M⟩:=h.aF7 hu;refine⟨rs,t,f,M,?_⟩;obtain⟨r1,r2,r3⟩:=M.rd;have J:m.start n=match gP (lC (m.au n).data (m.au n).Qr).2.1 (dH (m.au n).data (m.au n).Qr) [0,1,2,3] (lC (m.au n).data (m.au n).Qr).1 with
   |none=>m
   |some d=>Cl.UF n (dH (m.au n).data (m.au n).Qr) [0,1,2,3] (m.put n { (m.au n).blank with up:=true,data:=d,Qr:=d.length,bs:=dH (m.au n).data (m.au n).Qr}):=by
   unfold Cl.start;rw[ah (by rw[hu];simp)]
   all_goals rfl
  cases hw:gP (lC (m.au n).data (m.au n).Qr).2.1 (dH (m.au n).data (m.au n).Qr) [0,1,2,3] (lC (m.au n).data (m.au n).Qr).1 with
  |none=>rw[hw]at J;exact .inl J
  |some d=>
   rw[hw]at J;refine .inr ?_;have O:∀q∈[0,1,2,3],q<4:=by decide
   have hin:∀q,q<4->q∈[0,1,2,3]:=by decide
   have hll:(dn rs).length<=100000:=by
    have h1:=M.len;rw[M.data,aY]at h1;omega
   have hw':=hw;rw[r1]at hw';obtain⟨ws,e1,e2,e3,e4⟩:=Ue (g:=f) dQ (λq I=>⟨O q I,(r3 q (O q I)).symm⟩) M.tape (λq I=>(M.nE q I).1) hll hw';subst e1;refine⟨ws,J,e3,E,?_⟩;have hev:∀q∈[0,1,2,3],(dH (m.au n).data (m.au n).Qr q).JU.length<=2000:=λq I=>by
    rw[r3 q (O q I)];exact mg (kL (M.nE q (O q I)).1)
   obtain⟨g1,g2⟩:=Gz (n:=n) (bs:=dH (m.au n).data (m.au n).Qr) [0,1,2,3] (m.put n { (m.au n).blank with up:=true,data:=dn (rs++ws),Qr:=(dn (rs++ws)).length,bs:=dH (m.au n).data (m.au n).Qr}) dQ λq I=>⟨by rw[bL],hev q I⟩;have hbs:(λq=>if q∈[0,1,2,3]/\(dH (m.au n).data (m.au n).Qr q).GR=1 then(gU (dH (m.au n).data (m.au n).Qr q)).1 else((m.put n { (m.au n).blank with up:=true,data:=dn (rs++ws),Qr:=(dn (rs++ws)).length,bs:=dH (m.au n).data (m.au n).Qr}).au n).bs q)=
     λq=>if q∈[0,1,2,3]/\(dH (m.au n).data (m.au n).Qr q).GR=1 then rF (dH (m.au n).data (m.au n).Qr q)else dH (m.au n).data (m.au n).Qr q:=by
    funext q
    rw[bL];by_cases c:q∈[0,1,2,3]/\(dH (m.au n).data (m.au n).Qr q).GR=1
    ·rw[aj c,aj c,(e4 q c.1 c.2).2]
    rw[ah c,ah c]
   have Z:m.start n=Cl.UF n (dH (m.au n).data (m.au n).Qr) [0,1,2,3] (m.put n { (m.au n).blank with up:=true,data:=dn (rs++ws),Qr:=(dn (rs++ws)).length,bs:=dH (m.au n).data (m.au n).Qr}):=J;rw[hbs,<-Z]at g1;rw[<-Z]at g2;refine⟨g1,g2,?_,λq I hr=>?_⟩
   ·have e:(m.start n).au n={ (m.au n).blank with up:=true,data:=dn (rs++ws),Qr:=(dn (rs++ws)).length,bs:=λq=>if q∈[0,1,2,3]/\(dH (m.au n).data (m.au n).Qr q).GR=1 then rF (dH (m.au n).data (m.au n).Qr q)else dH (m.au n).data (m.au n).Qr q}:=by
     rw[g1.au,JR,bL]
    rw[e];have hbb:∀q,q<4->aA (if q∈[0,1,2,3]/\(dH (m.au n).data (m.au n).Qr q).GR=1 then rF (dH (m.au n).data (m.au n).Qr q)else dH (m.au n).data (m.au n).Qr q)=0:=λq I=>by
     split
     ·rename_i c;exact(e4 q c.1 c.2).1
     rw[r3 q I];exact(M.nE q I).1
    refine⟨by rw[bI],E,e2.congr λq I=>?_,hbb,λ_=>E,λp hp=>(by cases hp),e3⟩;dsimp only;by_cases c:q∈[0,1,2,3]/\(dH (m.au n).data (m.au n).Qr q).GR=1
    ·rw[aj c,aj c];rfl
    rw[ah c,ah c,r3 q I];exact(tK (M.nE q I).2).symm
   have:=(e4 q (hin q I) (by rw[r3 q I];exact hr)).1;rwa [r3 q I]at this
def base_start(h:eF m T S fP K)(hn:n<5):eF (m.start n) T (S+8004) fP K:=by
 rcases YR (h.jO n hn)with⟨_,e⟩|⟨hu,rs,t,f,hd,e|⟨ws,e1,e2,e3,W,Z,e6,e7⟩⟩
 ·rw[e];exact h.mono Y Y Y Y
 ·rw[e];exact h.mono Y Y Y Y
 have J:=W.au;have I:(m.start n).au n={ (m.au n).blank with up:=true,data:=dn (rs++ws),Qr:=(dn (rs++ws)).length,bs:=λq=>if q∈[0,1,2,3]/\(dH (m.au n).data (m.au n).Qr q).GR=1 then rF (dH (m.au n).data (m.au n).Qr q)else dH (m.au n).data (m.au n).Qr q}:=by
  rw[J,JR,bL]
 refine h.at_ (c:=0) (s:=8004) (d:=0) (u:=0) hn (λj M=>?_) (.inl ⟨by rw[I],rs++ws,[],e6⟩) (λx O=>.inl (by rw[W.PI]at O;exact O)) (by rw[I];intro l hl;exact av hl (by simp[Nd.blank])) ?_ Z (by rw[W.bZ];exact aB) ?_ (by rw[W.calls];exact aB)
 ·rw[J,Ph M];exact Ph M
 ·rw[I,W.PI];show m.PI.length+0<=_;omega
 rw[I];exact iJ _
def agm{l:bY}(h:eF m T S fP K)(J:lF l):eF {m with PI:=m.PI++[l],calls:=m.calls+1} (T+1) S fP (K+1):=by
 have M:=h.room;refine⟨h.jO,λx I=>?_,h.jC,?_,h.bH,h.bZ,λn hn=>D9 (h.turn n hn),by have:=h.calls;show m.calls+1<=_;omega⟩
 ·rcases bD.1 I with I|I
  ·exact h.nT x I
  rw[aI]at I;subst I;exact J
 unfold Cl.tot at M⊢;dsimp only;rw[aY,lZ];omega
def akr{a:Ac}(h:eF m T S fP K)(M:Ko a):eF (m.UN a) (T+3) (S+T+8004) (fP+T+1) (K+1):=by
 obtain⟨h1,O,h3,h4,Z,h6⟩:=M;have hn:a.nd.toNat<5:=Y;have I:a.qu.toNat<4:=Y;unfold Cl.UN
 split
 ·exact(agl h hn I).mono Y Y Y Y
 split
 ·rename_i J
  exact(agm h ⟨I,by show 0<=3;omega,.inr (.inr ⟨O.1,by show a.nd<5;omega,.inl E⟩),λ_=>h6 J⟩).mono Y Y Y Y
 split
 ·exact(Sw h hn).mono Y Y Y Y
 split
 ·exact(agk h).mono Y Y Y Y
 split
 ·exact(Xj h).mono Y Y Y Y
 split
 ·exact(abS h hn Z.1).mono Y Y Y Y
 split
 ·exact(base_start h hn).mono Y Y Y Y
 exact(Sy h I).mono Y Y Y Y
def Bs(m:Cl)(k:Nat):Prop:=eF m (4*k) (500000*k) (500000*k) k
def ayj:Bs l9 0:=by
 refine⟨λn _=>.inl ⟨E,[],[],⟨E,E,jH.nil,λq _=>by show aA bV=0;exact oh (.inl ⟨E,by decide,by decide,E,E,E,E⟩) zU,λ_=>E,λp I=>(by cases I),aC _⟩⟩,λl h=>(by cases h),λn _ l h=>(by cases h),aB,aB,aB,λ_ _=>aB,aB⟩
def M7{m:Cl}{k:Nat}{a:Ac}(h:Bs m k)(I:Ko a)(J:k<=100000):Bs (m.UN a) (k+1):=by
 have:=akr h I;exact this.mono Y Y Y Y
def aeO{K:CK}{B n kn kw:Nat}{w0 w:World}{fs:List Nf}{m:Cl}{H:List LX}{x:LX}(hn:n<5)(Z:K.nb n=kn)(jw:K.wb=kw)(hu:Uk B w0)(hB1:m.PI.length<=1000000000)(hB2:m.bH.length<=1000000000000)(HW:Wd K B w0 w fs m (x::H))(hq:x.l.q<4)(hv:∀q,q<4->aA ((m.au n).bs q)=0):
 Calls tP 59 #[pV kw 0,pV kn 0,.agg (LX.row x)] w (λe w'=>e=.returned (.tuple #[])/\Wd K B w0 w' fs (m.Uv n x.l) H):=by
 obtain⟨R,G,S0⟩:=HW.open hn;have hfl:R.fx.length=m.PI.length:=by rw[<-G.PI,gK]
 have NG:=G.jO n hn;obtain⟨X,hX⟩:∃X,m.au n=X:=⟨_,E⟩;obtain⟨z,hz⟩:∃z,R.nx n=z:=⟨_,E⟩;rw[hX,hz]at S0 NG;have hL:∀f∈R.L,f∈iM K R m fs n:=λf h=>aL _ (aL _ h);obtain⟨rr,hrr⟩:∃r,iM K R m fs n=r:=⟨_,E⟩;rw[hrr]at S0 hL;have S:St B w0 w (cN kn n X z z.pv (cF kw R m rr)):=by subst Z;subst jw;exact S0
 clear S0 HW;have hlen:=(S.own 1 E).1;rw[jF (sz:=6) (λ_=>E)]at hlen;rw[hX]at hv;obtain⟨y,hy,hyb,tQ⟩:=NG.at_ hq;have hln:=mg (kL (hyb▸hv _ hq));have Cg:y.b.JU.length*48<=reachBytes:=by unfold reachBytes;omega
 have PE:=zV (hyb▸hv _ hq);refine iW 59 func59 ?_;refine cw [0,1,2] ?_;refine zN 2 ?_;refine Y7 S ?_;intro b1 w2 S3;refine Y7 S3 ?_;intro b4 w5 S6;refine jM S6 ?_;intro b7 w8 S9;refine zN 6 ?_;refine iL S9 zr3 ?_;intro I KM rA;refine kU (row':= #[D (x.l.q:Int)]) 0 rA kQ ?_;intro Hq oJ;refine zN 2 ?_;obtain⟨BR,tT⟩:∃r,dR y.b x.l.ep x.l.fr=r:=⟨_,E⟩;have HP:=λw h=>KU y.b.GR y.b.ep y.b.fr y.b.tg y.b.rd y.A y.c y.b.JU x.l.ep x.l.fr w h Cg;rw[show dR ⟨y.b.GR,y.b.ep,y.b.fr,y.b.tg,y.b.rd,y.b.JU⟩ x.l.ep x.l.fr=BR from tT]at HP;refine pW (X:=Nat×(Option Addr)×Nat) (λxv=>[(3,pV b1 0),(4,pV b4 0),(5,pV b7 0),(6,pV I 0),(7,pV xv.1 0),(8,D BR.2)]) (λxv wr=>(BR.1.JU.length<=xv.2.2)/\St B w0 wr ((.Pj xv.1 (bR BR.1 xv.2.1 xv.2.2) 58)::(.dB 6 xv.2.1 BR.1.JU.length ((BR.1.JU).flatMap Ev.cells))::(.Pj I #[D (x.l.q:Int)] 3)::(.Pj b7 (LX.row x) 113)::(.Pj b4 #[pV kn 0] 88)::(.Pj b1 #[pV kw 0] 77)::(cN kn n X z z.pv (cF kw R m rr)))) ?_ ?_
 ·have ku:=oJ.drew;refine aO 18 ku [] ?_;refine aP 5 ?_;refine ak 5 E ku (λ_ _=>mY x.l.q) ?_;refine ak (v:=.agg (bR y.b y.A y.c)) 6 E ku (λ_ J8=>(ay E E (eZ (cs:=BX.cells y) (Rd.Al (St.Vj 5 J8 E) (λ_ _ h=>dw (enc:=BX.cells) (sz:=6) (λ_=>E) hy h))))) ?_;refine aP 4 ?_;refine jv (n:=6) (r:=11) (s:=15) kQ ?_ ?_
  ·refine lN 11 E eQ (HP _ (tQ.1.rd ku (Qw 11 E hL))) ?_;rintro _ Za ⟨A27,c28,aAA,rfl,T32⟩;refine⟨_,E,?_⟩;have tN:=ku.ext T32 E;refine aP 4 ?_;refine bG 15 ?_;refine nQ 15 E tN iI ?_;intro RF w37 Dg;refine eH ?_;refine bG 16 ?_;refine sn 16 E 0 Dg kQ ?_;intro w39 zG;refine aP 3 ?_;refine eO (RF,A27,c28) ?_ vD;exact⟨aAA,zG⟩
  refine nQ 15 E ku iI ?_;intro b42 w43 Fq;refine eH ?_;refine bG 11 ?_;refine lN 11 E eQ (HP _ (tQ.1.rd Fq (Qw 12 E hL))) ?_;rintro _ Zf ⟨A45,c46,aAB,rfl,T50⟩;refine⟨_,E,?_⟩;have yT:=Fq.ext T50 E;refine aP 4 ?_;refine bG 16 ?_;refine sn 16 E 1 yT kQ ?_;intro w54 zh;refine aP 3 ?_;have yR:=zh.fJ [12,12,12,12,12,12,12,12,12,12,12,11,12];refine eO (b42,A45,c46) ?_ vD;exact⟨aAB,yR⟩
 rintro⟨M,J,c60⟩ w61 ⟨ayk,MR⟩
 try dsimp only at ayk MR
 refine bK (l':=[(3,pV b1 0),(4,pV b4 0),(5,pV b7 0),(6,pV I 0),(7,pV M 0),(8,D BR.2)]) vD (aX (aX (aH (vm ?_))));by_cases h64:BR.2=0
 ·refine zN 8 ?_;refine iN MR mixed kQ ?_;refine zN 7 ?_;refine uv (λ_ _=>mY x.l.q) ?_;refine zQ ?_;refine uv (v:=D y.b.ep) (λ_ asv=>(ay E E (aV (Rd.Qg (i:=1) (St.Vj 7 asv E) (dw (enc:=BX.cells) (sz:=6) (λ_=>E) hy E))))) ?_;by_cases h75:BR.1.ep=y.b.ep
  ·refine zQ ?_;refine iw λw77 MV=>?_;refine zN 7 ?_;have F4:=MV.fJ [12,12,12,12,12,12,12];refine eB eQ (Ce hn hq hy F4 Y) ?_;rintro _ w84 ⟨rfl,A80,c81,aF8,ayl,Hw⟩;refine⟨_,E,?_⟩;refine zQ ?_;refine dD (l':=[]) trivial (iY (rT (jq (fB (rs:=[]) (vs:=[]) E trivial ?_))));rw[aiq hX hyb.symm tT (by first|assumption|omega) (by first|assumption|omega)];exact⟨E,Wd.eU (X':=X) (z':=z) (Ls:=[.Pj M (bR BR.1 J c60) 58,.dB 6 J BR.1.JU.length ((BR.1.JU).flatMap Ev.cells),.Pj I #[D (x.l.q:Int)] 3,.Pj b7 (LX.row x) 113,.Pj b4 #[pV kn 0] 88,.Pj b1 #[pV kw 0] 77]) (fA:=A80) (fc:=c81) (fx:=aF8) (sA:=R.sA) (sc:=R.sc) (tA:=R.tA) (tc:=R.tc) Z jw hrr G hn Hw NG.more (by rw[ayl];exact rE (jW E)) (aJ hX).symm (by rw[ayl,gX,G.PI];rfl) mH⟩
  refine zQ ?_;refine iw λw87 Ql=>?_;refine zN 8 ?_;refine Vm eQ Ql (kD 4 x.l.q ⟨BR.1,J,c60⟩ _) ?_;intro w89 Vf;refine iL Vf zR ?_;intro b92 w93 KN;refine sa 0 KN kQ ?_;intro w95 EG;refine zN 7 ?_;refine kU (row':= #[D 4,D (x.l.q:Int),D BR.1.ep,D x.l.fr,D 0,D 0,D 0,D 0,D 0,D 0]) 0 EG kQ ?_;intro w97 Gg;refine zN 7 ?_;refine Wp Gg ?_;intro b99 alp zw;have uz:=zw.fJ [14,14,14,14,14,14,14];refine eB eQ (sM (rs:=[gW 4 x.l.q BR.1.ep x.l.fr aU]) (Ro.Pj (bS.2 ⟨0,E⟩) E E) NG.AX (by exact Qw 8 E hL) (fK E) uz) ?_;rintro _ aeU (⟨O,rfl,uP⟩|⟨aqH,afI,c105,aF9,O,rfl,avt,uP⟩)
  ·refine⟨_,E,?_⟩;refine zN 7 ?_;rw[aiv hX hyb.symm tT (by first|assumption|omega) (by first|assumption|omega) O];exact⟨E,Wd.eU (X':=X) (z':=z) (Ls:=[.Pj b99 #[D 4,D (x.l.q:Int),D BR.1.ep,D x.l.fr,D 0,D 0,D 0,D 0,D 0,D 0] 132,.Pj b92 #[D 4,D (x.l.q:Int),D BR.1.ep,D x.l.fr,D 0,D 0,D 0,D 0,D 0,D 0] 132,.Pj M (bR BR.1 J c60) 58,.dB 6 J BR.1.JU.length ((BR.1.JU).flatMap Ev.cells),.Pj I #[D (x.l.q:Int)] 3,.Pj b7 (LX.row x) 113,.Pj b4 #[pV kn 0] 88,.Pj b1 #[pV kw 0] 77]) (fA:=R.fA) (fc:=R.fc) (fx:=R.fx) (sA:=R.sA) (sc:=R.sc) (tA:=R.tA) (tc:=R.tc) Z jw hrr G hn uP NG.more (λu hu=>.inl hu) (aJ hX).symm G.PI.symm mH⟩
  refine⟨_,E,?_⟩;refine zN 8 ?_;refine vv MQ ?_;refine zN 2 ?_;refine kU (row':=eP n X.up (.slice afI aqH.length c105) X.Qr (.slice (aD z.bb 0) 4 4) X.QC X.QA (.slice z.iA z.ix.length z.ic) (.func (.func 85) #[] #[pV M 0,pV b4 0,pV I 0,pV b1 0]) X.turn) 0 uP kQ ?_;intro afn EI;refine zQ ?_;refine dD (l':=[]) trivial (ru ?_);rw[abF hX hyb.symm tT (by first|assumption|omega) (by first|assumption|omega) O];refine⟨E,Wd.fin (X':={X with data:=aqH,PL:=some (.QL x.l.q BR.1)}) (z':={z with tA:=afI,tc:=c105,pv:=.func (.func 85) #[] #[pV M 0,pV b4 0,pV I 0,pV b1 0]}) (N:=aF9) (Ls:=[.Pj b99 #[D 4,D (x.l.q:Int),D BR.1.ep,D x.l.fr,D 0,D 0,D 0,D 0,D 0,D 0] 132,.Pj b92 #[D 4,D (x.l.q:Int),D BR.1.ep,D x.l.fr,D 0,D 0,D 0,D 0,D 0,D 0] 132,.Pj M (bR BR.1 J c60) 58,.dB 6 J BR.1.JU.length ((BR.1.JU).flatMap Ev.cells),.Pj I #[D (x.l.q:Int)] 3,.Pj b7 (LX.row x) 113,.Pj b4 #[pV kn 0] 88,.Pj b1 #[pV kw 0] 77]) (fA:=R.fA) (fc:=R.fc) (fx:=R.fx) (sA:=R.sA) (sc:=R.sc) (tA:=R.tA) (tc:=R.tc) Z jw hrr G hn EI ?_ (λu hu=>.inl hu) E G.PI.symm mH⟩;refine{ (NG.more:fC K _ n X z)with AX:=avt.mono mLN,nU:=?_ }
  show sK (K.nb n) K.wb _ _ _
  rw[Z,jw];exact⟨M,b4,I,b1,⟨BR.1,J,c60⟩,E,(vJ (bS.2 ⟨2,E⟩)),E,⟨(Ro.dB (vJ (bS.2 ⟨3,E⟩))),ayk⟩,(vJ (bS.2 ⟨6,E⟩)),(vJ (bS.2 ⟨4,E⟩)),(vJ (bS.2 ⟨7,E⟩))⟩
 refine zN 7 ?_;have yH:=MR.fJ [12,12,12,12,12,12,12];rw[abE hX hyb.symm tT (by first|assumption|omega)];exact⟨E,Wd.eU (X':=X) (z':=z) (Ls:=[.Pj M (bR BR.1 J c60) 58,.dB 6 J BR.1.JU.length ((BR.1.JU).flatMap Ev.cells),.Pj I #[D (x.l.q:Int)] 3,.Pj b7 (LX.row x) 113,.Pj b4 #[pV kn 0] 88,.Pj b1 #[pV kw 0] 77]) (fA:=R.fA) (fc:=R.fc) (fx:=R.fx) (sA:=R.sA) (sc:=R.sc) (tA:=R.tA) (tc:=R.tc) Z jw hrr G hn yH NG.more (λu hu=>.inl hu) (aJ hX).symm G.PI.symm mH⟩
def pq(q:Nat):Option cZ->Option cZ
 |none=>none
 |some p=>if p.q=q then some p else none
def M8(m:Cl)(q:Nat):List l5:=m.bH.filter λs=>decide (s.q=q)
def Qp(m:Cl)(q:Nat)(l:bY):Prop:=l.q=q/\(l∈m.PI\/ ∃n,n<5/\l∈(m.au n).Pq)
noncomputable def vw(m:Cl)(q:Nat)(n:Nat):bF:=(m.au n).view q
def Cy(m:Cl)(q:Nat)(n:Nat):Option cZ:=pq q (m.au n).PL
def Qq(m:Cl)(n:Nat):Bool:=(m.au n).up
def M9(m:Cl)(q:Nat)(n:Nat):Int×Int:=m.Qx n q
def QI(m:Cl)(q:Nat)(g:Gh):Prop:=UD g (vw m q) (Cy m q) (Qq m) (Qp m q) (m.off.at q) (M9 m q) (M8 m q)
structure sN (g g':Gh):Prop where
 m:g'.m=g.m
 own:g'.own=g.own
 len:g'.len=g.len
 G:g'.G=g.G
def sN.refl(g:Gh):sN g g:=⟨E,E,E,E⟩
def sN.trans{a b c:Gh}(h:sN a b)(I:sN b c):sN a c:=⟨I.m.trans h.m,I.own.trans h.own,I.len.trans h.len,I.G.trans h.G⟩
def avu(g:Gh):sN g g.all:=⟨E,E,E,E⟩
def sN.o{g g':Gh}(h:sN g g'):g'.o=g.o:=by unfold Gh.o;rw[h.m,h.own]
def QI.mk'(I:UD g V P U Lt pl sh sv)(O:vw m q=V)(Z:Cy m q=P)(hU:Qq m=U)(hL:∀l,Qp m q l->Lt l\/Hz g V pl l)(h:m.off.at q=pl)(J:M9 m q=sh)(M:M8 m q=sv):QI m q g:=by
 unfold QI;rw[O,Z,hU,h,J,M];exact I.EL hL
def xw(h:m'.au=Qv m.au n X):vw m' q=Qv (vw m q) n (X.view q):=by
 funext j
 unfold vw;rw[h];unfold Qv
 split<;>rfl
def yX(h:m'.au=Qv m.au n X):Cy m' q=Qv (Cy m q) n (pq q X.PL):=by
 funext j
 unfold Cy;rw[h];unfold Qv
 split<;>rfl
def avv(h:m'.au=Qv m.au n X):Qq m'=Qv (Qq m) n X.up:=by
 funext j
 unfold Qq;rw[h];unfold Qv
 split<;>rfl
def oP(h:m'.au=Qv m.au n X)(hv:X.view q=(m.au n).view q):vw m' q=vw m q:=by rw[xw h];exact aJ hv.symm
def zY(h:m'.au=Qv m.au n X)(hv:pq q X.PL=pq q (m.au n).PL):Cy m' q=Cy m q:=by rw[yX h];exact aJ hv.symm
def pU(h:m'.au=Qv m.au n X)(hv:X.up=(m.au n).up):Qq m'=Qq m:=by rw[avv h];exact aJ hv.symm
def Zn{q':Nat}{p:Int×Int}{s:Nat->Nat->Int×Int}(h:q'≠q):(λk=>kG s n q' p k q)=λk=>s k q:=by
 funext k
 unfold kG;rw[ah (λe=>h e.2.symm)]
def Zo{p:Int×Int}{s:Nat->Nat->Int×Int}:(λk=>kG s n q p k q)=Qv (λk=>s k q) n p:=by
 funext k
 unfold kG Qv;by_cases e:k=n
 ·rw[aj ⟨e,E⟩,aj e]
 rw[ah (λh=>e h.1),ah e]
def Ea{sv:List l5}{s:l5}:(sv++[s]).filter (λs=>decide (s.q=q))=sv.filter (λs=>decide (s.q=q))++if s.q=q then[s]else[]:=by
 rw[filter_append]
 congr 1
 by_cases e:s.q=q
 ·rw[aj e];simp[e]
 rw[ah e];simp[e]
def pG(h:l.kd=0\/l.kd=1\/l.kd=3):Hz g V pl l:=⟨λe=>by omega,λe=>by omega,λe=>by omega,λe=>by omega⟩
def NQ{x:bY}(hn:m'.au=Qv m.au n X)(hi:∀l∈X.Pq,l∈(m.au n).Pq)(J:n<5)(M:m'.PI=m.PI++[x]){R:bY->Prop}(O:x.q=q->R x):∀l,Qp m' q l->Qp m q l\/R l:=λl Z=>by
 obtain⟨h1,h⟩:=Z
 rcases h with h|⟨j,I,h⟩
 ·rw[M]at h
  rcases bD.1 h with h|h
  ·exact .inl ⟨h1,.inl h⟩
  rw[aI]at h;subst h;exact .inr (O h1)
 rw[hn]at h;by_cases e:j=n
 ·subst e;rw[JR]at h;exact .inl ⟨h1,.inr ⟨j,I,hi l h⟩⟩
 rw[Ph e]at h;exact .inl ⟨h1,.inr ⟨j,I,h⟩⟩
def IX(hn:m'.au=Qv m.au n X)(hi:∀l∈X.Pq,l∈(m.au n).Pq)(J:n<5)(M:m'.PI=m.PI){R:bY->Prop}:∀l,Qp m' q l->Qp m q l\/R l:=λl O=>by
 obtain⟨h1,h⟩:=O
 rcases h with h|⟨j,I,h⟩
 ·rw[M]at h;exact .inl ⟨h1,.inl h⟩
 rw[hn]at h;by_cases e:j=n
 ·subst e;rw[JR]at h;exact .inl ⟨h1,.inr ⟨j,I,hi l h⟩⟩
 rw[Ph e]at h;exact .inl ⟨h1,.inr ⟨j,I,h⟩⟩
def IY:m.au=Qv m.au n (m.au n):=(aJ E).symm
def QI.far(I:QI m q g)(Z:n<5)(hn:m'.au=Qv m.au n X)(hv:X.view q=(m.au n).view q)(hp:pq q X.PL=pq q (m.au n).PL)(hu:X.up=(m.au n).up)(hi:∀l∈X.Pq,l∈(m.au n).Pq)(hf:∀l∈m'.PI,l∈m.PI\/(l.q=q->Hz g (vw m q) (m.off.at q) l))
  (ho:m'.off.at q=m.off.at q) (hs:M9 m' q=M9 m q) (J:M8 m' q=M8 m q):QI m' q g:=
 QI.mk' I (oP hn hv) (zY hn hp) (pU hn hu) (λl hl=>by
  obtain⟨h1,h⟩:=hl
  rcases h with h|⟨j,O,h⟩
  ·rcases hf l h with M|M
   ·exact .inl ⟨h1,.inl M⟩
   exact .inr (M h1)
  rw[hn]at h;by_cases e:j=n
  ·subst e;rw[JR]at h;exact .inl ⟨h1,.inr ⟨j,O,hi l h⟩⟩
  rw[Ph e]at h;exact .inl ⟨h1,.inr ⟨j,O,h⟩⟩) ho hs J
def UD.VD(I:UD g V P U Lt pl sh sv)(J:U g.o=true):g.t=g.m/\g.F=g.G.length/\rp fU sv=some (aK g.G).1:=by
 have M:=I.upF J;refine⟨?_,M,?_⟩
 ·rcases I.Vq with h|⟨_,_,h,_⟩
  ·exact h.1
  rw[J]at h;cases h
 have:=I.rps;rwa [M,jy]at this
def UD.oEp(I:UD g V P U Lt pl sh sv)(hn:n<5)(h:(V n).GR=1\/(V n).GR=2):n=g.o:=I.who hn h
def ER{L:List Ev}{K at_:Nat}(h:at_<=K)(I:K<=L.length):((L.take K).drop at_).take 3=(L.drop at_).take (((L.take K).drop at_).take 3).length/\at_+(((L.take K).drop at_).take 3).length<=K:=by
 have e:(((L.take K).drop at_).take 3).length=min 3 (K-at_):=by
  rw[dV,dL,dV];omega
 refine⟨?_,by rw[e];omega⟩;rw[e,Bg,yO]
def aks{b:bF}{at_:Int}(I:UD g V P U Lt pl sh sv)(hn:n<5)(J:V n=b)(h:¬(ji b at_).2.2≠0):Hz g V pl (Jv n q b at_):=by
 obtain⟨h1,h2,h3,h4⟩:=Sk h;have M:(Jv n q b at_).kd=4:=rfl;refine⟨λe=>by rw[M]at e;omega,λ_=>?_,λe=>by rw[M]at e;omega,λe=>by rw[M]at e;omega⟩
 show ∃k:Nat,b.ep+1=(k:Int)+1/\1<=k/\k<=g.m/\(n:Int)=g.own k/\0<=at_/\(ji b at_).1=(g.G.drop at_.toNat).take (ji b at_).1.length/\at_.toNat+(ji b at_).1.length<=g.bd k/\((ji b at_).2.1=true->_)
 rw[h4];dsimp only;by_cases e:n=g.o
 ·subst e;have iB:b.ep=g.m:=by rw[<-J];exact I.wz
  have O:b.JU=g.G:=by rw[<-J];exact I.zk
  rw[O]at h3⊢;obtain⟨Z,d2⟩:=ER (L:=g.G) (K:=g.G.length) (at_:=at_.toNat) Y aB;rw[jy]at Z d2;refine⟨g.m,by rw[iB],I.m1,aB,E,h2,Z,by unfold Gh.bd;rw[aj E];exact d2,λhl=>.inr ⟨E,?_⟩⟩;rw[ada]at hl;refine⟨by rw[J];exact hl.1,by rw[J];rfl,?_⟩
  show at_.toNat+(ji b at_).1.length=g.G.length
  rw[h4]
  show at_.toNat+((b.JU.drop at_.toNat).take 3).length=g.G.length
  rw[O,dV,dL];omega
 rcases I.p8 n hn e with⟨h5,_⟩|⟨k,k1,k2,k3,k4,k5,k6,k7⟩|⟨k,k1,_⟩
 ·rw[J]at h5;omega
 ·rw[J]at k1 k2 k6 k7;have hlt:=I.P5 k3 k4;rw[k6]at h3⊢;rw[dV]at h3;obtain⟨Z,d2⟩:=ER (L:=g.G) (K:=g.len k) (at_:=at_.toNat) Y (H6 hlt);refine⟨k,by rw[k2],k3,H6 k4,by rw[k5],h2,Z,?_,λ_=>.inl ⟨k4,by rw[<-k7];rfl⟩⟩;unfold Gh.bd;rw[ah Y];exact d2
 rw[J]at k1;omega
def Kr{b:bF}{at_:Int}{fl:List bY}(I:UD g V P U Lt pl sh sv)(hn:n<5)(M:V n=b):∀l∈ni n q b at_ fl,l∈fl\/Hz g V pl l:=λl J=>by
 unfold ni at J
 split at J
 ·exact .inl J
 rename_i h
 rcases bD.1 J with J|J
 ·exact .inl J
 rw[aI]at J;subst J;exact .inr (aks I hn M h)
def Zp{b:bF}{p:cZ}{bs:Nat->bF}(I:UD g V P U Lt pl sh sv)(hn:n<5)(J:V n=b)(O:bs q=b)(hL:Hz g V pl l)(Fz:l.tg=n)(Z:p.q=q)(hlq:l.q=q)(hp:p.ok bs)(hS:Src b l p)(hf:aA (p.b bs)=0):HY g V n p:=by
 cases p with
 |serve k JU op num a=>
  have hk:k=q:=Z;subst hk;obtain⟨h1,M,h3,h4⟩:=hp;rw[O]at h1 M;obtain⟨s1,s2,s3,s4,s5,s6⟩:=hS;have ho:=I.oEp hn (by rw[J];exact h1);have hev:b.JU=g.G:=by rw[<-J,ho];exact I.zk
  rw[hev]at M s4;exact⟨ho,by rw[J];exact h1,M,by rw[s2,s4],h4⟩
 |QL k x=>
  have hk:k=q:=Z;subst hk;obtain⟨h1,e,f,rfl,M,_⟩:=hp;rw[O]at h1 M;obtain⟨s1,s2⟩:=hS;obtain⟨j,j1,j2,j3,j4⟩:=hL.1 s1;simp only[bF.mk.injEq,true_and,and_true]at s2;refine⟨j,?_,j2,j3,by rw[J];exact h1,by rw[J];omega⟩;rw[s2.1,s2.2,j1,j4]
 |UK k x last=>
  have hk:k=q:=Z;subst hk;obtain⟨s1,s2,s3,s4,s5,s6,s7,s8,s9⟩:=hS;have hr:b.GR=4:=by have:=hp.1;rwa [O]at this
  have Qz:n≠g.o:=λe=>by
   have:=I.Fy;rw[<-e,J]at this;omega
  obtain⟨j,j1,j2,j3,j4,j5,j6,j7,j8⟩:=hL.2.1 s1
  rcases I.p8 n hn Qz with⟨h5,_⟩|⟨_,h5,_⟩|⟨k',k1,k2,k3,k4,k5,k6,k7,k8⟩
  ·rw[J]at h5;omega
  ·rw[J]at h5;omega
  rw[J]at k2 k5 k6 k7;have hkj:k'=j:=Y;subst hkj;have hbd:=I.Z6 k3 k4;have e2:l.JU.drop (b.JU.length-l.at_.toNat)=(g.G.drop b.JU.length).take (l.at_.toNat+l.JU.length-b.JU.length):=by
   have:=bM (List.drop (b.JU.length-l.at_.toNat)) j6;rw[this,Bg,lT,show l.at_.toNat+(b.JU.length-l.at_.toNat)=b.JU.length by omega]
   congr 1
   omega
  have hE:Mk b l.at_ l.JU=g.G.take (l.at_.toNat+l.JU.length):=by
   unfold Mk;rw[e2];have e3:=bM (· ++(g.G.drop b.JU.length).take (l.at_.toNat+l.JU.length-b.JU.length)) k6;rw[e3,<-take_add]
   congr 1
   omega
  have hx:∀(h:last=true),k'=g.m->l.at_.toNat+l.JU.length=g.G.length->x=⟨1,(g.m:Int)+1,0,0,0,g.G++[bC]⟩:=λh h1 M=>by
   rw[s9];unfold zC;rw[aj (by rw[<-s8];exact h),hE,M,jy,k2,h1]
  refine⟨by rw[J];exact hr,λhl=>⟨l.at_.toNat+l.JU.length,?_,by rw[J];exact s7,λk2' hk2=>?_⟩,λhl=>?_⟩
  ·rw[s9,J];unfold zC;rw[ah (by rw[<-s8,hl];simp),hE]
  ·rw[J]at hk2;have:k2'=k':=Y;subst this;exact j7
  rcases j8 (by rw[<-s8];exact hl)with⟨a1,a2⟩|⟨a1,a2,a3,a4⟩
  ·exact av Y (k8 a1)
  have hx':=hx hl a1 a4;have hf':aA x=0:=hf;rw[hx']at hf';exact⟨by rw[J,k2,a1],a2,a3.trans Fz,hx',(gB hf').2⟩
 |gJ k x a=>
  obtain⟨h1,M⟩:=hp;have hk:k=q:=Z;subst hk;rw[O]at h1 M;exact⟨I.oEp hn (by rw[J];exact .inr h1),by rw[J];exact h1,by rw[J];exact M⟩
 |QE k x=>
  obtain⟨h1,M⟩:=hp;have hk:k=q:=Z;subst hk;rw[O]at h1 M;obtain⟨s1,s2⟩:=hS;obtain⟨j,j1,j2,j3,j4⟩:=hL.2.2.2 s1;obtain⟨d,d1,d2,d3⟩:=I.dir;rw[d1]at j3;dsimp only at j3;exact⟨by rw[J];exact h1,by rw[J];exact M,by rw[J];omega⟩
def adq:∀ {k:Nat} {l:List Ev},l.length=k->UH l->(aK l).1.Vg=0
 | 0,l,I,h=>by
  rw[qY.1 I];rw[Bw (l:=[]) iQ (show jh fU [] []=some (fU,[])from E)];exact afF
 |k+1,l,I,h=>by
  have J:l=l.take k++[l[k]]:=by rw[<-uS Y,<-I,jy]
  have M:UH (l.take k++[l[k]]):=J▸h;obtain⟨h1,_,O⟩:=Vw M;rw[J,O];exact au4 h1
def ao1{Q:Qd}{e:Ev}(h:Q.Vg=0)(he:bJ e=0):(jN Q e).2.2.2=0:=by rw[Cr h he]
def jk(h:(m.au n).up=true):vw m q n=(m.au n).bs q:=by unfold vw;rw[fO h]
def akt(h:(m.au n).PL=none):Cy m q n=none:=by unfold Cy;rw[h];rfl
def aku{a:kg}(I:QI m q g)(hn:n<5)(hu:(m.au n).up=true)(h2:(jd ((m.au n).bs l.q) l.op).2.2.1=false/\a=(jd ((m.au n).bs l.q) l.op).2.1)(he:bJ l.op=0/\l.op.kind≠4)(hb:aA ((m.au n).bs l.q)=0)
  (hG:g.G.length<1999):∃g',QI (m.done n l.q l.op l.num a) q g'/\sN g g':=by
 obtain⟨h2,h3⟩:=h2;by_cases hs:QK ((m.au n).bs l.q)
 ·rw[IV E E hs];by_cases hq:l.q=q
  ·subst hq;have hV:=jk (q:=l.q) hu;have ho:=I.oEp hn (by rw[hV];exact hs);have iB:((m.au n).bs l.q).ep=g.m:=by rw[<-hV,ho];exact I.wz
   have M:((m.au n).bs l.q).JU=g.G:=by rw[<-hV,ho];exact I.zk
   obtain⟨t1,t2,t3⟩:=I.VD (by rw[<-ho];exact hu);have hs':=hs;unfold QK at hs';have Z:jd ((m.au n).bs l.q) l.op=((m.au n).bs l.q,(jN (aK ((m.au n).bs l.q).JU).1 l.op).2.1,false,0)/\(jN (aK ((m.au n).bs l.q).JU).1 l.op).2.2.1=false:=by
    have hl:¬ 1999<=((m.au n).bs l.q).JU.length:=by rw[M];omega
    unfold jd at h2⊢;rw[ah (λe=>e hb),ah (λe=>e he.1),ah he.2,ah Y,ah Y]at h2⊢;by_cases c:(jN (aK ((m.au n).bs l.q).JU).1 l.op).2.2.1=false
    ·rw[aj c];exact⟨E,c⟩
    rw[ah c,ah hl]at h2;cases h2
   rw[Z.1,M]at h3;rw[M]at Z;have hgq:(aK g.G).1.Vg=0:=adq E I.gd;have hc:(jN (aK g.G).1 l.op).2.2.2=0:=ao1 hgq he.1;have hr:rp fU (M8 m l.q++[⟨n,l.q,g.m,l.op,a,l.num⟩])=some (aK g.G).1:=by
    rw[T9 t3 hc h3.symm,aoD hc Z.2]
   refine⟨g.all,QI.mk' (I.told t1 hr λs hs=>by rw[aI]at hs;subst hs;exact⟨E,ho⟩) E E E ?_ E ?_ ?_,avu g⟩
   ·rintro x ⟨x1,O|O⟩
    ·rcases bD.1 O with O|O
     ·exact .inl ⟨x1,.inl O⟩
     rw[aI]at O;subst O;exact .inr (pG (.inr (.inl E)))
    exact .inl ⟨x1,.inr O⟩
   ·show(λk=>kG m.Qx n l.q _ k l.q)=_
    rw[Zo,iB,M,ho];rfl
   show(m.bH++_).filter _=_
   rw[Ea,aj E,iB];rfl
  refine⟨g,I.far (n:=n) (X:=m.au n) hn IY E E E (λ_ h=>h) (λx J=>?_) E (Zn hq) ?_,.refl g⟩
  ·rcases bD.1 J with J|J
   ·exact .inl J
   rw[aI]at J;subst J;exact .inr λ_=>pG (.inr (.inl E))
  show(m.bH++_).filter _=_
  rw[Ea,ah hq,bI];rfl
 rw[Mj E E hs];refine⟨g,I.far (n:=n) (X:=m.au n) hn IY E E E (λ_ h=>h) (λx J=>?_) E E E,.refl g⟩
 rcases bD.1 J with J|J
 ·exact .inl J
 rw[aI]at J;subst J;exact .inr λ_=>pG (.inr (.inl E))
def Qc{p:cZ}(h:p.q=q):pq q (some p)=some p:=aj h
def aqI{p:cZ}(h:p.q≠q):pq q (some p)=none:=ah h
def adr(I:QI m q g)(hn:n<5)(hu:(m.au n).up=true)(hU:qL (m.au n) rs [])(hp:(m.au n).PL=none)(hL:l.q=q->Hz g (vw m q) (m.off.at q) l)(Fz:l.tg=n)(hk:l.kd=0->bJ l.op=0/\l.op.kind≠4)(hlq:l.q<4)
  (hroom:(m.au n).data.length+46<=100000) (hG:g.G.length<1999) (H:Hnd m n l m'):∃g',QI m' q g'/\sN g g'/\((vw m q g.o).GR=3->(vw m' q g.o).GR=3):=by
 have hbq:=hU.nE _ hlq
 cases H with
 |same=>exact⟨g,I,.refl g,id⟩
 |done a h1 h2=>
  have hvw:vw (m.done n l.q l.op l.num a) q=vw m q:=oP (n:=n) (X:=m.au n) (by rw[(xX (m:=m)).2.1];exact IY) E
  rcases h2 with h2|⟨h2,h3,h4,h5,h6⟩
  ·obtain⟨g',h7,h8⟩:=aku I hn hu h2 (hk h1) hbq hG;exact⟨g',h7,h8,by rw[hvw];exact id⟩
  exfalso
  have hs:=gH hbq;unfold bP at hs;unfold QK at h3;have hr:aM (gW 2 l.q ((m.au n).bs l.q).ep 0 l.op)=0:=sj Y hlq Y Y (by simpa[mF]using h4);have hsy:=hU.Qr;have hd:=bM length hU.data;rw[bI]at hd;rw[Ch (λr hr'=>by rw[aI]at hr';subst hr';exact hr) Y Y (by simpa using hroom)]at h5
  cases h5
 |UG h1=>
  refine⟨g,I.far (n:=n) (X:=m.au n) hn IY E E E (λ_ h=>h) (λx O=>?_) E E E,.refl g,id⟩
  rcases bD.1 O with O|O
  ·exact .inl O
  rw[aI]at O;subst O;exact .inr λ_=>pG (.inr (.inr E))
 |part b h1 h2 h3 h4 h5 h6=>
  obtain⟨g1,g2,g3⟩:=sD (m:=m.aF n l.q b) (n:=n) (q:=l.q) (a:=l.at_);have e:(m.aF n l.q b).au n=(m.au n).aF l.q b:=bL _;rw[e,show((m.au n).aF l.q b).bs l.q=b from JR _ _ _]at g3;have J:((m.aF n l.q b).part n l.q l.at_).au=Qv m.au n ((m.au n).aF l.q b):=g2;have hoff:((m.aF n l.q b).part n l.q l.at_).off.at q=m.off.at q:=by rw[g1.off];rfl
  have Z:M9 ((m.aF n l.q b).part n l.q l.at_) q=M9 m q/\M8 ((m.aF n l.q b).part n l.q l.at_) q=M8 m q:=by
   unfold Cl.part
   split<;>exact⟨E,E⟩
  by_cases hq:l.q=q
  ·subst hq;have hV:=jk (q:=l.q) hu;have M:((m.au n).aF l.q b).view l.q=b:=by rw[fO (X:=(m.au n).aF l.q b) hu];exact JR _ _ _
   have hvw:vw ((m.aF n l.q b).part n l.q l.at_) l.q=Qv (vw m l.q) n b:=by rw[xw J,M]
   rcases h4 with⟨h4,h7,h8⟩|⟨h4,h7⟩
   ·have ho:=I.oEp hn (by rw[hV];exact .inr h4);have aag:=I.Vp (by rw[<-ho,hV];omega);have I2:UD g (Qv (vw m l.q) g.o b) (Cy m l.q) (Qq m) (Qp m l.q) (m.off.at l.q) (M9 m l.q) (M8 m l.q):=by
     refine UD.afH I (λp hp'=>?_) ?_ ?_ ?_ ?_ ?_ ?_
     ·rw[<-ho,akt hp]at hp';cases hp'
     ·rw[h7];show((m.au n).bs l.q).ep=_;rw[<-hV,ho];exact I.wz
     ·rw[h7];show((m.au n).bs l.q).JU=_;rw[<-hV,ho];exact I.zk
     ·rw[h7];exact .inr (.inl h4)
     ·intro _;rw[h7,<-ho];rw[<-ho,hV]at aag;exact aag
     ·intro h;rw[<-ho,hV]at h;omega
     intro h;rw[h7]at h;exact av (h4.symm.trans h) dQ
    rw[<-ho]at I2;refine⟨g,QI.mk' I2 hvw (zY J E) (pU J E) (λx O=>?_) hoff Z.1 Z.2,.refl g,λh=>?_⟩
    ·obtain⟨x1,x2⟩:=O
     rcases x2 with x2|⟨j,hj,x2⟩
     ·rw[g3]at x2
      rcases Kr I2 hn (JR _ _ _) x x2 with x3|x3
      ·exact .inl ⟨x1,.inl x3⟩
      exact .inr x3
     rw[J]at x2;by_cases e:j=n
     ·subst e;rw[JR]at x2;exact .inl ⟨x1,.inr ⟨j,hj,x2⟩⟩
     rw[Ph e]at x2;exact .inl ⟨x1,.inr ⟨j,hj,x2⟩⟩
    rw[<-ho,hV]at h;omega
   have aym:vw ((m.aF n l.q b).part n l.q l.at_) l.q=vw m l.q:=by rw[hvw,h7,<-hV];exact aJ E
   refine⟨g,QI.mk' I aym (zY J E) (pU J E) (λx O=>?_) hoff Z.1 Z.2,.refl g,by rw[aym];exact id⟩;obtain⟨x1,x2⟩:=O
   rcases x2 with x2|⟨j,hj,x2⟩
   ·rw[g3]at x2
    rcases Kr I hn (hV.trans h7.symm) x x2 with x3|x3
    ·exact .inl ⟨x1,.inl x3⟩
    exact .inr x3
   rw[J]at x2;by_cases e:j=n
   ·subst e;rw[JR]at x2;exact .inl ⟨x1,.inr ⟨j,hj,x2⟩⟩
   rw[Ph e]at x2;exact .inl ⟨x1,.inr ⟨j,hj,x2⟩⟩
  have M:((m.au n).aF l.q b).view q=(m.au n).view q:=by
   rw[fO (X:=(m.au n).aF l.q b) hu,fO hu];exact Ph (λe=>hq e.symm)
  refine⟨g,I.far hn J M E E (λ_ h=>h) (λx O=>?_) hoff Z.1 Z.2,.refl g,by rw[oP J M];exact id⟩;rw[g3]at O;unfold ni at O
  split at O
  ·exact .inl O
  rcases bD.1 O with O|O
  ·exact .inl O
  rw[aI]at O;subst O;exact .inr λh=>av h hq
 |PL p dX d h1 h2 h3 h4 h5=>
  have hY:dX.bs=(m.au n).bs/\dX.up=(m.au n).up/\dX.Pq=(m.au n).Pq:=by rcases h1 with h1|⟨_,h1⟩<;>rw[h1]<;>exact⟨E,E,E⟩
  have M:∀q,({dX with data:=d,PL:=some p}:Nd).view q=(m.au n).view q:=λq=>by
   rw[fO (X:={dX with data:=d,PL:=some p}) (hY.2.1.trans hu),fO hu];exact congrFun hY.1 q
  have J:(m.put n {dX with data:=d,PL:=some p}).au=Qv m.au n {dX with data:=d,PL:=some p}:=rfl;have hvw:=oP (q:=q) J (M q);by_cases hq:l.q=q
  ·subst hq;have hfull:=(jI hU.tape hU.nE h3 (by rw[h2];exact hlq)).2;have agn:=Zp I hn (jk (q:=l.q) hu) E (hL E) Fz h2 E h3 h5 hfull;refine⟨g,QI.mk' (I.axQ (P':=Qv (Cy m l.q) n (some p)) λk p' hk hp'=>?_) hvw (by rw[yX J];show Qv _ n (pq l.q (some p))=_;rw[Qc h2]) (pU J hY.2.1) (IX J (λx O=>by rw[<-hY.2.2];exact O) hn E) E E E,.refl g,by rw[hvw];exact id⟩;by_cases e:k=n
   ·subst e;rw[JR]at hp'
    cases hp';exact .inr ⟨hu,agn⟩
   rw[Ph e]at hp';exact .inl hp'
  refine⟨g,I.far hn J (M q) ?_ hY.2.1 (λx O=>by rw[<-hY.2.2];exact O) (λx O=>.inl O) E E E,.refl g,by rw[hvw];exact id⟩;rw[hp];exact aqI (by rw[h2];exact hq)
 |Uz h1=>
  have J:(m.put n ((m.au n).Uz n l)).au=Qv m.au n ((m.au n).Uz n l):=rfl;have M:((m.au n).Uz n l).view q=(m.au n).view q:=by rw[fO (X:=(m.au n).Uz n l) hu,fO hu];rfl
  exact⟨g,I.far hn J M E E (λ_ h=>h) (λx O=>.inl O) E E E,.refl g,by rw[oP J M];exact id⟩
def akv{V:Nat->bF}{P:Nat->Option cZ}{U:Nat->Bool}{Lt:bY->Prop}{pl:Pl}{sh:Nat->Int×Int}{sv:List l5}{b:bF}{s:Bool}(I:UD g V P U Lt pl sh sv)(hn:n<5)(M:V n=b):∀l∈iG n q b s,Hz g V pl l:=λl J=>by
 unfold iG at J
 rcases bD.1 J with J|J
 ·rcases bD.1 J with J|J
  ·split at J
   ·rename_i O
    rw[aI]at J;subst J;have h:(yU n q b).kd=2:=rfl;refine⟨λ_=>?_,λe=>by rw[h]at e;omega,λe=>by rw[h]at e;omega,λe=>by rw[h]at e;omega⟩
    show ∃k:Nat,b.ep+1=(k:Int)+1/\1<=k/\k<=g.m/\(n:Int)=g.own k
    by_cases e:n=g.o
    ·subst e;exact⟨g.m,by rw[<-M,I.wz],I.m1,aB,E⟩
    rcases I.p8 n hn e with⟨h5,_⟩|⟨k,Z,k2,k3,k4,k5,_⟩|⟨k,Z,_⟩
    ·rw[M]at h5;omega
    ·rw[M]at k2;exact⟨k,by rw[k2],k3,H6 k4,by rw[k5]⟩
    rw[M]at Z;omega
   simp at J
  split at J
  ·rw[aI]at J;subst J;have h:(RV n q).kd=5:=rfl;refine⟨λe=>by rw[h]at e;omega,λe=>by rw[h]at e;omega,λ_ e=>?_,λe=>by rw[h]at e;omega⟩;exact av e (by show ¬(0:Int)<= -1;decide)
  simp at J
 split at J
 ·rename_i O
  rw[aI]at J;subst J;have h:(PZ n q b).kd=5:=rfl;refine⟨λe=>by rw[h]at e;omega,λe=>by rw[h]at e;omega,λ_ _=>?_,λe=>by rw[h]at e;omega⟩;have ho:=I.oEp hn (by rw[M];exact .inl O.1);have iB:b.ep=g.m:=by rw[<-M,ho];exact I.wz
  show ∃k:Nat,b.ep-1=(k:Int)/\1<=k/\k<g.m/\((g.own (k+1):Nat):Int)=(n:Int)
  refine⟨g.m-1,by omega,by omega,by omega,?_⟩;rw[show g.m-1+1=g.m by have:=I.m1;omega];exact bM Int.ofNat ho.symm
 simp at J
def Xk(I:QI m q g)(hn:n<5)(hu:(m.au n).up=true):QI (m.lM n) q g/\vw (m.lM n) q=vw m q:=by
 have O:(m.lM n).au=Qv m.au n {m.au n with turn:=(m.au n).turn+1}:=rfl;have M:({m.au n with turn:=(m.au n).turn+1}:Nd).view q=(m.au n).view q:=rfl;refine⟨I.far hn O M E E (λ_ h=>h) (λx J=>?_) E E E,oP O M⟩
 rcases bD.1 J with J|J
 ·exact .inl J
 refine .inr λZ=>?_;have hxx:x.q=(m.au n).turn % 4:=by
  unfold iG at J
  rcases bD.1 J with J|J
  ·rcases bD.1 J with J|J
   ·split at J
    ·rw[aI]at J;subst J;rfl
    simp at J
   split at J
   ·rw[aI]at J;subst J;rfl
   simp at J
  split at J
  ·rw[aI]at J;subst J;rfl
  simp at J
 rw[hxx]at Z;rw[Z]at J;exact akv I hn (jk hu) x J
structure rG (g g':Gh):Prop where
 m:g.m<=g'.m
 own:∀k,k<=g.m->g'.own k=g.own k
 SA:g'.G.length<=g.G.length+1
def sN.next{g g':Gh}(h:sN g g'):rG g g':=⟨by rw[h.m];exact aB,λk _=>by rw[h.own],by rw[h.G];omega⟩
def rG.refl(g:Gh):rG g g:=(sN.refl g).next
def rG.same{g g' g2:Gh}(h:rG g g')(I:sN g' g2):rG g g2:=⟨by rw[I.m];exact h.m,λk J=>by rw[I.own];exact h.own k J,by rw[I.G];exact h.SA⟩
def VE(q:Nat)(g g':Gh)(m m':Cl):Prop:=g'.m=g.m->(vw m q g.o).GR=3->(vw m' q g.o).GR=3
def UD.aah(I:UD g V P U Lt pl sh sv)(n:Nat):UD g V (Qv P n none) U Lt pl sh sv:=I.axQ λk p _ h=>by
 by_cases e:k=n
 ·subst e;rw[JR]at h;cases h
 rw[Ph e]at h;exact .inl h
def UD.sF(I:UD g V P U Lt pl sh sv)(h:(V n).GR=0\/(V n).GR=4):n≠g.o:=λe=>by
 have:=I.Fy;rw[<-e]at this;omega
def UD.SB(I:UD g V P U Lt pl sh sv){k:Nat}(h1:1<=k)(J:k<=g.m)(M:(V n).ep< (k:Int)+1):Oth g n ⟨4,(k:Int)+1,g.own k,0,0,[]⟩:=by
 refine .inr (.inr ⟨k,E,E,h1,J,E,E,aC _,λh e=>?_⟩);have:=I.ge (k+1) Y h;rw[e]at this;omega
def UD.NR(I:UD g V P U Lt pl sh sv)(hn:n<5)(O:(V n).GR=4){j:Nat}(Z:∀k:Nat,(V n).ep=(k:Int)+1->j<=g.bd k):Oth g n {V n with JU:=g.G.take j}:=by
 rcases I.p8 n hn (I.sF (.inr O))with⟨h5,_⟩|⟨_,h5,_⟩|⟨k,k1,h,J,M,k5,k6,k7,k8⟩
 ·omega
 ·omega
 have h1:=Z k h;have h2:=I.Z6 J M;have e:(g.G.take j).length=j:=by rw[dV];omega
 exact .inr (.inr ⟨k,k1,h,J,M,k5,by show g.G.take j=g.G.take (g.G.take j).length;rw[e],by show(g.G.take j).length<=_;rw[e];exact h1,k8⟩)
def UD.OZ(I:UD g V P U Lt pl sh sv)(hn:n<5)(O:(V n).GR=3)(h:(V n).ep<g.m):n≠g.o/\Oth g n ⟨0,(V n).ep,0,0,0,[]⟩:=by
 have J:n≠g.o:=λe=>by have:=I.wz;rw[<-e]at this;omega
 refine⟨J,?_⟩
 rcases I.p8 n hn J with⟨M,_⟩|⟨k,Z,k2,k3,_⟩|⟨_,M,_⟩
 ·omega
 ·exact .inl ⟨E,by show 0<=(V n).ep;omega,h⟩
 omega
def UD.serve{op:Ev}{a:kg}{num:Int}{b:bF}{qq:Nat}(I:UD g V P U Lt pl sh sv)(ho:n=g.o)(O:U n=true)(hr:(V n).GR≠3)(Z:UH (g.G++[op]))(ha:(jN (aK g.G).1 op).2.1=a)(hb:b.ep=(V n).ep)(h:b.GR=(V n).GR)(J:b.tg=(V n).tg)(M:b.JU=g.G++[op]):
 UD (g.app op).all (Qv V n b) (Qv P n none) U Lt pl (Qv sh n ((g.m:Int),((g.G++[op]).length:Int))) (sv++[⟨n,qq,g.m,op,a,num⟩]):=by
 subst ho;obtain⟨t1,t2,t3⟩:=I.VD O;obtain⟨s1,s2,s3⟩:=Vw Z;have I2:=(I.down g.o).append (e:=op) (b:=b) (JR _ _ _) (JR _ _ _) hr t1 Z hb h J M;have I3:=I2.told (sv2:=[⟨g.o,qq,g.m,op,a,num⟩]) t1 (by rw[T9 t3 s1 ha];show _=some (aK (g.G++[op])).1;rw[s3]) λs hs=>by rw[aI]at hs;subst hs;exact⟨E,E⟩
 have I4:=I3.up g.o λ_=>⟨E,E⟩;rw[D6,aJ O]at I4;exact I4
def UD.activated{qq:Nat}(I:UD g V P U Lt pl sh sv)(hu:U n=true)(hr:(V g.o).GR=3)(J:(V g.o).tg=n)(hg:UH (g.G++[bC]))(M:(V n).ep<=(g.m:Int)+1):
 UD (g.UN n).all (Qv V n ⟨1,(g.m:Int)+1,0,0,0,g.G++[bC]⟩) (Qv P n none) U Lt pl (Qv sh n ((g.m:Int)+1,((g.G++[bC]).length:Int))) (sv++[⟨n,qq,(g.m:Int)+1,bC,iP,-1⟩]):=by
 have ht:¬(g.UN n).t=(g.UN n).m:=by
  show ¬g.t=g.m+1
  rcases I.Vq with⟨h,_⟩|⟨h,_⟩<;>omega
 have Z:(g.UN n).o=n:=JR _ _ _;have I2:=(I.down n).activate (T:=n) hr J (JR _ _ _) (JR _ _ _) hg M;have I3:=I2.aoE ht (s:=⟨n,qq,(g.m:Int)+1,bC,iP,-1⟩) E E (by show(g.m:Int)+1=((g.m+1:Nat):Int);omega) Z.symm;have O:=I3.up n λ_=>⟨E,E⟩;rw[D6,aJ hu,Z]at O;have e:(((g.UN n).m:Nat):Int)=(g.m:Int)+1:=by show((g.m+1:Nat):Int)=_;omega
 rw[e]at O;exact O
def akw(g:Gh)(n:Nat):rG g (g.UN n).all:=⟨by show g.m<=g.m+1;omega,λk h=>Ph Y,by show(g.G++[bC]).length<=_;simp⟩
def akx(g:Gh)(e:Ev):rG g (g.app e).all:=⟨aB,λ_ _=>E,by show(g.G++[e]).length<=_;simp⟩
def Xl{p:cZ}(I:QI m q g)(hn:n<5)(O:m.au n=X)(Z:X.up=true)(hp:X.PL=some p)(hpo:p.ok X.bs):∃g',QI (m.step n) q g'/\rG g g'/\VE q g g' m (m.step n):=by
 have hu':(m.au n).up=true:=by rw[O];exact Z
 by_cases hq:p.q=q
 ·have hpv:Cy m q n=some p:=by unfold Cy;rw[O,hp];exact Qc hq
  obtain⟨_,hk⟩:=I.nU n hn p hpv;have hV:vw m q n=X.bs q:=by rw[jk hu',O]
  cases p with
  |serve k JU op num a=>
   have e:k=q:=hq;subst e;obtain⟨k1,k2,k3,k4,k5⟩:=hk;have hr:(vw m k n).GR≠3:=by unfold QK at k2;omega
   have iB:(X.bs k).ep=g.m:=by rw[<-hV,k1];exact I.wz
   rw[kH O Z hp E (by rw[hV]at k2;exact k2)];have I2:=I.serve (b:={X.bs k with JU:=JU}) (qq:=k) (num:=num) k1 hu' hr (by rw[<-k3];exact k5) k4 (by rw[hV]) (by rw[hV]) (by rw[hV]) k3;have J:({ (m.put n (X.kN.aF k {X.bs k with JU:=JU}))with bH:=m.bH++[⟨n,k,(X.bs k).ep,op,a,num⟩],Qx:=kG m.Qx n k ((X.bs k).ep,JU.length),PI:=m.PI++[nS n num a nowhere]}:Cl).au=Qv m.au n (X.kN.aF k {X.bs k with JU:=JU}):=rfl;have M:(X.kN.aF k {X.bs k with JU:=JU}).view k={X.bs k with JU:=JU}:=by rw[fO (X:=X.kN.aF k _) Z];exact JR _ _ _
   refine⟨_,QI.mk' I2 (by rw[xw J,M]) (by rw[yX J];rfl) (pU J (by rw[O];rfl)) ?_ E ?_ ?_,akx g op,λ_ h=>av h (by rw[<-k1];exact hr)⟩
   ·exact NQ (x:=nS n num a nowhere) J (λx hx=>by rw[O];exact hx) hn E λ_=>pG (.inr (.inl E))
   ·show(λj=>kG m.Qx n k _ j k)=_
    rw[Zo,iB,k3];rfl
   show(m.bH++_).filter _=_
   rw[Ea,aj E,iB];rfl
  |QL k b=>
   have e:k=q:=hq;subst e;obtain⟨j,j1,j2,j3,j4,j5⟩:=hk;rw[qb O Z hp];have hne:=I.sF j4;have I2:=(I.aah n).V6 (b:=b) hn hne (JR _ _ _) (by rw[j1];exact I.SB j2 j3 j5) (by rw[j1];show _<=(j:Int)+1;omega);have J:({ (m.put n (X.kN.aF k b))with PI:=m.PI++[qI n k b]}:Cl).au=Qv m.au n (X.kN.aF k b):=rfl;have M:(X.kN.aF k b).view k=b:=by rw[fO (X:=X.kN.aF k _) Z];exact JR _ _ _
   have hvw:vw ({ (m.put n (X.kN.aF k b))with PI:=m.PI++[qI n k b]}:Cl) k=Qv (vw m k) n b:=by rw[xw J,M]
   exact⟨g,QI.mk' I2 hvw (by rw[yX J];rfl) (pU J (by rw[O];rfl)) (NQ (x:=qI n k b) J (λx hx=>by rw[O];exact hx) hn E λ_=>pG (.inr (.inr E))) E E E,.refl g,λ_ h=>by rw[hvw,Ph (λe=>hne e.symm)];exact h⟩
  |UK k b last=>
   have e:k=q:=hq;subst e;obtain⟨j1,j2,j3⟩:=hk;have hne:=I.sF (.inr j1)
   cases last with
   |true=>
    obtain⟨a1,a2,a3,a4,a5⟩:=j3 E;subst a4;rw[lK O Z hp];have I2:=I.activated (qq:=k) hu' a2 a3 a5 (by rw[a1];exact gI _);have J:({ (m.put n { (X.kN.aF k ⟨1,(g.m:Int)+1,0,0,0,g.G++[bC]⟩)with QA:=Qv X.QA k false})with bH:=m.bH++[⟨n,k,(g.m:Int)+1,bC,iP,-1⟩],Qx:=kG m.Qx n k ((g.m:Int)+1,(g.G++[bC]).length)}:Cl).au=Qv m.au n { (X.kN.aF k ⟨1,(g.m:Int)+1,0,0,0,g.G++[bC]⟩)with QA:=Qv X.QA k false}:=rfl;have M:({ (X.kN.aF k ⟨1,(g.m:Int)+1,0,0,0,g.G++[bC]⟩)with QA:=Qv X.QA k false}:Nd).view k=⟨1,(g.m:Int)+1,0,0,0,g.G++[bC]⟩:=by rw[fO (X:={ (X.kN.aF k _)with QA:=Qv X.QA k false}) Z];exact JR _ _ _
    refine⟨_,QI.mk' I2 (by rw[xw J,M]) (by rw[yX J];rfl) (pU J (by rw[O];rfl)) (IX J (λx hx=>by rw[O];exact hx) hn E) E ?_ ?_,akw g n,λh=>by
     have:g.m+1=g.m:=h;omega⟩
    ·show(λj=>kG m.Qx n k _ j k)=_
     rw[Zo];rfl
    show(m.bH++_).filter _=_
    rw[Ea,aj E];rfl
   |false=>
    obtain⟨j,a1,a2,a3⟩:=j2 E;rw[vK O Z hp];have I2:=(I.aah n).V6 (b:=b) hn hne (JR _ _ _) (by rw[a1];exact I.NR hn j1 a3) (by rw[a1];exact gI _);have J:({ (m.put n (X.kN.aF k b))with PI:=m.PI++[qI n k b]}:Cl).au=Qv m.au n (X.kN.aF k b):=rfl;have M:(X.kN.aF k b).view k=b:=by rw[fO (X:=X.kN.aF k _) Z];exact JR _ _ _
    have hvw:vw ({ (m.put n (X.kN.aF k b))with PI:=m.PI++[qI n k b]}:Cl) k=Qv (vw m k) n b:=by rw[xw J,M]
    exact⟨g,QI.mk' I2 hvw (by rw[yX J];rfl) (pU J (by rw[O];rfl)) (NQ (x:=qI n k b) J (λx hx=>by rw[O];exact hx) hn E λ_=>pG (.inr (.inr E))) E E E,.refl g,λ_ h=>by rw[hvw,Ph (λe=>hne e.symm)];exact h⟩
  |gJ k b at_=>
   have e:k=q:=hq;subst e;obtain⟨ho,j1,j2⟩:=hk;rw[sw O Z hp];obtain⟨t1,t2,t3⟩:=I.VD (by rw[<-ho];exact hu');have aag:=I.Vp (by rw[<-ho];omega);have I2:UD g (Qv (vw m k) g.o b) (Qv (Cy m k) n none) (Qq m) (Qp m k) (m.off.at k) (M9 m k) (M8 m k):=by
    refine UD.afH (I.aah n) (λp' hp'=>?_) ?_ ?_ ?_ ?_ ?_ λ_=>t2
    ·rw[<-ho,JR]at hp';cases hp'
    ·rw[j2,ho];exact I.wz
    ·rw[j2,ho];exact I.zk
    ·rw[j2];exact .inr (.inr E)
    ·intro _;rw[j2,ho];exact aag
    intro h;rw[<-ho]at h;omega
   rw[<-ho]at I2;have J:({ (m.put n (X.kN.aF k b))with PI:=ni n k b at_ m.PI}:Cl).au=Qv m.au n (X.kN.aF k b):=rfl;have M:(X.kN.aF k b).view k=b:=by rw[fO (X:=X.kN.aF k _) Z];exact JR _ _ _
   have hvw:vw ({ (m.put n (X.kN.aF k b))with PI:=ni n k b at_ m.PI}:Cl) k=Qv (vw m k) n b:=by rw[xw J,M]
   refine⟨g,QI.mk' I2 hvw (by rw[yX J];rfl) (pU J (by rw[O];rfl)) (λx hx=>?_) E E E,.refl g,λ_ h=>by rw[hvw,<-ho,JR,j2]⟩;obtain⟨x1,x2⟩:=hx
   rcases x2 with x2|⟨j,hj,x2⟩
   ·rcases Kr I2 hn (JR _ _ _) x x2 with x3|x3
    ·exact .inl ⟨x1,.inl x3⟩
    exact .inr x3
   rw[J]at x2;by_cases e:j=n
   ·subst e;rw[JR]at x2;exact .inl ⟨x1,.inr ⟨j,hj,by rw[O];exact x2⟩⟩
   rw[Ph e]at x2;exact .inl ⟨x1,.inr ⟨j,hj,x2⟩⟩
  |QE k b=>
   have e:k=q:=hq;subst e;obtain⟨j1,j2,j3⟩:=hk;obtain⟨hne,hoth⟩:=I.OZ hn j1 j3;rw[nW O Z hp];have I2:=(I.aah n).V6 (b:=b) hn hne (JR _ _ _) (by rw[j2];exact hoth) (by rw[j2];exact gI _);have J:(m.put n (X.kN.aF k b)).au=Qv m.au n (X.kN.aF k b):=rfl;have M:(X.kN.aF k b).view k=b:=by rw[fO (X:=X.kN.aF k _) Z];exact JR _ _ _
   have hvw:vw (m.put n (X.kN.aF k b)) k=Qv (vw m k) n b:=by rw[xw J,M]
   exact⟨g,QI.mk' I2 hvw (by rw[yX J];rfl) (pU J (by rw[O];rfl)) (IX J (λx hx=>by rw[O];exact hx) hn E) E E E,.refl g,λ_ h=>by rw[hvw,Ph (λe=>hne e.symm)];exact h⟩
 have far:∀ {m':Cl} {dX:Nd},m'.au=Qv m.au n dX->dX.bs=Qv X.bs p.q (p.b X.bs)->dX.up=true->dX.PL=none->dX.Pq=X.Pq->(∀l∈m'.PI,l∈m.PI\/(l.q=q->Hz g (vw m q) (m.off.at q) l))->m'.off.at q=m.off.at q->M9 m' q=M9 m q->M8 m' q=M8 m q-> ∃g',QI m' q g'/\rG g g'/\VE q g g' m m':=by
  intro m' dX h1 h2 h3 h4 h5 h6 h7 h8 h9;have M:dX.view q=(m.au n).view q:=by rw[fO h3,fO hu',h2,O];exact Ph (λe=>hq e.symm)
  refine⟨g,I.far hn h1 M ?_ (by rw[hu'];exact h3) (λx hx=>by rw[O,<-h5];exact hx) h6 h7 h8 h9,.refl g,λ_ h=>by rw[oP h1 M];exact h⟩;rw[h4,O,hp];exact(aqI hq).symm
 have snoc:∀ {x:bY} {fl:List bY},(x.q=q->Hz g (vw m q) (m.off.at q) x)-> ∀l∈fl++[x],l∈fl\/(l.q=q->Hz g (vw m q) (m.off.at q) l):=λ{x fl} hx l hl=>by
  rcases bD.1 hl with hl|hl
  ·exact .inl hl
  rw[aI]at hl;subst hl;exact .inr hx
 cases p with
 |serve k JU op num a=>
  rw[kH O Z hp E hpo.1];refine far (dX:=X.kN.aF k {X.bs k with JU:=JU}) E E Z E E (snoc λ_=>pG (.inr (.inl E))) E (Zn hq) ?_
  show(m.bH++_).filter _=_
  rw[Ea,ah (show ¬k=q from hq),bI];rfl
 |QL k b=>
  rw[qb O Z hp];exact far (dX:=X.kN.aF k b) E E Z E E (snoc λ_=>pG (.inr (.inr E))) E E E
 |UK k b last=>
  cases last with
  |true=>
   rw[lK O Z hp];refine far (dX:={ (X.kN.aF k b)with QA:=Qv X.QA k false}) E E Z E E (λl hl=>.inl hl) E (Zn hq) ?_
   show(m.bH++_).filter _=_
   rw[Ea,ah (show ¬k=q from hq),bI];rfl
  |false=>
   rw[vK O Z hp];exact far (dX:=X.kN.aF k b) E E Z E E (snoc λ_=>pG (.inr (.inr E))) E E E
 |gJ k b at_=>
  rw[sw O Z hp];refine far (dX:=X.kN.aF k b) E E Z E E (λl hl=>?_) E E E;unfold ni at hl;dsimp only at hl
  split at hl
  ·exact .inl hl
  exact snoc (λh=>av h hq) l hl
 |QE k b=>
  rw[nW O Z hp];exact far (dX:=X.kN.aF k b) E E Z E E (λl hl=>.inl hl) E E E
def IZ:∀(rs:List dN),(dn rs).length<=46*rs.length
 |[]=>by simp[dn]
 |r::rs=>by
  have h1:=(Dp r).2;have h:=IZ rs;have e:dn (r::rs)=oM r++dn rs:=by simp[dn,flatMap_cons]
  rw[e,aY,mO];omega
def ads{bs:Nat->bF}{p:cZ}(h:p.q=l.q)(I:p.ok bs)(J:Src (bs l.q) l p)(hl:l.JU.length<=3):(p.rs bs).length<=4:=by
 cases p with
 |serve k JU op num a=>exact fK E
 |QL k b=>exact fK E
 |gJ k b a=>exact fK E
 |QE k b=>exact fK E
 |UK k b last=>
  have e:k=l.q:=h;subst e;obtain⟨es,g1,g2,g3,g4,g5,g6,M⟩:=xW I;obtain⟨s1,s2,s3,O,Z,s6,s7,s8,s9⟩:=J;have hil:=Xi O Z s7;have hbl:b.JU.length=l.at_.toNat+l.JU.length+if last=true then 1 else 0:=by
   rw[s9];unfold zC;rw[<-s8]
   cases last with
   |true=>simp only[if_true,length_append,length_singleton];omega
   |false=>simp only[Bool.false_eq_true,if_false];omega
  rw[M,aY,gK,dL]
  cases last with
  |true=>simp only[if_true,length_singleton]at*;omega
  |false=>simp only[Bool.false_eq_true,if_false,length_nil]at*;omega
def ao2(O:l.JU.length<=3)(H:Hnd m n l m'):(m'.au n).data.length<=(m.au n).data.length+184:=by
 cases H with
 |same=>omega
 |done a h1 h=>rw[(xX (m:=m)).2.1];omega
 |UG h1=>exact nM _ _
 |part b h1 h I J M Z=>
  rw[(sD (m:=m.aF n l.q b)).2.1,show(m.aF n l.q b).au n=(m.au n).aF l.q b from bL _];exact nM _ _
 |PL p dX d h1 h I J M=>
  rw[bL]
  show d.length<=_
  obtain⟨w1,_,_⟩:=vL J;have Z:=ads h I M O;have h7:=IZ (p.rs (m.au n).bs);rw[w1,aY];omega
 |Uz h1=>rw[bL];exact nM _ _
def Xm{T S fP K:Nat}(I:QI m q g)(hB:eF m T S fP K)(hn:n<5)(Z:(m.au n).data.length+46<=100000)(hG:g.G.length<1999):(∃g',QI (m.step n) q g'/\rG g g'/\VE q g g' m (m.step n))/\((m.step n).au n).data.length<=(m.au n).data.length+184:=by
 cases hu:(m.au n).up with
 |false=>rw[oN hu];exact⟨⟨g,I,.refl g,λ_ h=>h⟩,by omega⟩
 |true=>
  obtain⟨rs,us,M⟩:=(hB.jO n hn).xV hu
  cases hp:(m.au n).PL with
  |some p=>
   obtain⟨h1,h2,h3⟩:=M.JD p hp;obtain⟨_,hf⟩:=jI M.tape M.nE h2 h3;obtain⟨dX,y1,y2,y3,_⟩:=CS E hu hp h3 hf h2;refine⟨Xl I hn E hu hp h2,?_⟩;rw[y1,JR,y3];omega
  |none=>
   have hus:=M.tV hp;subst hus;have hd:(dn rs).length+46<=100000:=by have:=M.data;rw[bI]at this;rw[<-this];exact Z
   have key:=qZ (n:=n) (λm1=>(Sv m n rs m1/\(m1.au n).data.length<=(dn rs).length+184)/\ ∃g1,QI m1 q g1/\sN g g1/\((vw m q g.o).GR=3->(vw m1 q g.o).GR=3)) (λm1 l r H hp1 hin=>by
    obtain⟨⟨H1,D1⟩,g1,I1,S1,R1⟩:=H;obtain⟨h1,h2,h3,h4⟩:=q8 (λl hl=>nu (hB.jC n hn l hl)) H1 hp1 hin;have hl0:l∈(m1.au n).Pq:=by rw[hin];simp
    obtain⟨b1,b2⟩:=hB.jC n hn l (H1.jC l hl0);have O:(m1.put n ((m1.au n).box r)).au=Qv m1.au n ((m1.au n).box r):=rfl;have J:((m1.au n).box r).view q=(m1.au n).view q:=rfl;have hvw:=oP O J;have I2:QI (m1.put n ((m1.au n).box r)) q g1:=I1.far hn O J E E (λx hx=>by rw[hin];exact dZ _ hx) (λx hx=>.inl hx) E E E;have e0:(m1.put n ((m1.au n).box r)).au n=(m1.au n).box r:=bL _;have hdd:=h2.data;rw[bI]at hdd;obtain⟨g2,I3,S3,R3⟩:=adr I2 hn (by rw[e0];exact H1.up) h2 (by rw[e0];exact hp1) (λhlq=>by rw[hvw];exact I1.nT l ⟨hlq,.inr ⟨n,hn,hl0⟩⟩) b2 b1.2.2.2 h1.1 (by rw[hdd];exact hd) (by rw[S1.G];exact hG) h3;have D2:=ao2 b1.2.1 h3;rw[hdd]at D2;refine⟨h1.1,⟨h4,D2⟩,g2,I3,S1.trans S3,λh=>?_⟩;have h9:=R1 h;rw[<-S1.o]at h9⊢;rw[<-hvw]at h9;exact R3 h9) _ m E ⟨⟨D8 hu ⟨_,M⟩,by have:=M.data;rw[bI]at this;rw[this];omega⟩,g,I,.refl g,id⟩
   obtain⟨⟨H1,D1⟩,g1,I1,S1,R1⟩:=key;have hd0:=bM length M.data;rw[bI]at hd0;rw[jX hu hp]
   split
   ·obtain⟨I2,e2⟩:=Xk I1 hn H1.up;refine⟨⟨g1,I2,S1.next,λ_ h=>by rw[e2];exact R1 h⟩,?_⟩;have e:(((m.more n).lM n).au n)={ (m.more n).au n with turn:=((m.more n).au n).turn+1}:=bL _;rw[e]
    show((m.more n).au n).data.length<=_
    omega
   exact⟨⟨g1,I1,S1.next,λ_ h=>R1 h⟩,by omega⟩
def QIx(m:Cl)(q:Nat)(g:Gh)(ls:List bY):Prop:=UD g (vw m q) (Cy m q) (Qq m) (λl=>Qp m q l\/(l.q=q/\l∈ls)) (m.off.at q) (M9 m q) (M8 m q)
def qg{d:UE}{k q:Nat}{p:Pl}(I:k<4)(J:q<4):(d.set k p).at q=if q=k then p else d.at q:=by
 have h1:k=0\/k=1\/k=2\/k=3:=Y;have h:q=0\/q=1\/q=2\/q=3:=Y
 rcases h1 with rfl|rfl|rfl|rfl<;>rcases h with rfl|rfl|rfl|rfl<;>rfl
def Mr{d:UE}{q ep nd:Int}(h:(za d q ep nd).2=0):(aN d q).2=0/\0<=nd/\nd<=4/\(aN d q).1.Pf=ep/\za d q ep nd=(d.set q.toNat ⟨nd,ep+1⟩,0):=by
 unfold za at h⊢;by_cases c1:(aN d q).2≠0
 ·rw[aj c1]at h;exact av h c1
 rw[ah c1]at h⊢;by_cases c2:nd<0\/4<nd
 ·rw[aj c2]at h;exact av h dQ
 rw[ah c2]at h⊢;by_cases c3:(aN d q).1.Pf≠ep
 ·rw[aj c3]at h;exact av h dQ
 rw[ah c3]at h⊢;by_cases I:(aN d q).1.node=nd
 ·rw[aj I]at h;exact av h dQ
 rw[ah I]at h⊢;by_cases J:ep=1048576
 ·rw[aj J]at h;exact av h dQ
 rw[ah J];exact⟨fM.1 c1,by omega,by omega,fM.1 c3,E⟩
def Xn(I:QIx m q g (l::ls))(hl:lF l)(hq:q<4):QIx (m.QG l) q g ls/\vw (m.QG l) q=vw m q:=by
 have Z:∀ {x:bY},(Qp m q x\/(x.q=q/\x∈ls))->(Qp m q x\/(x.q=q/\x∈l::ls)):=λh=>h.imp id λh=>⟨h.1,dZ _ h.2⟩;obtain⟨hlq,_,h1|⟨h1,h2,h3,h4⟩|⟨h1,h2,h3⟩,_⟩:=id hl
 ·have e:m.QG l={m with bZ:=m.bZ++[l.bZ]}:=aj h1;rw[e];exact⟨I.EL λx M=>.inl (Z M),E⟩
 ·have key:UD g (vw m q) (Cy m q) (Qq m) (λx=>Qp m q x\/(x.q=q/\x∈l::ls)) ((dY m.off l).at q) (M9 m q) (M8 m q):=by
   unfold dY;by_cases c:0<=l.nd/\(za m.off l.q l.ep l.nd).2=0
   ·rw[aj c];obtain⟨f1,f2,f3,f4,f5⟩:=Mr c.2;rw[f5];dsimp only;rw[dW,qg hlq hq];by_cases e:q=l.q
    ·rw[aj e];obtain⟨_,_,w3⟩:=qd (d:=m.off) (q:=l.q) (λh=>h f1);have w3':(aN m.off l.q).1=m.off.at q:=by rw[w3,dW,e]
     rw[w3']at f4;obtain⟨d,d1,d2,d3⟩:=I.dir;rw[d1]at f4;dsimp only at f4;obtain⟨k,k1,k2,k3,k4⟩:=(I.nT l (.inr ⟨e.symm,iT ..⟩)).2.2.1 h4 f2;have hk:k+1=g.m:=Y;rw[hk]at k4;refine I.az5 ?_;simp only[Pl.mk.injEq];omega
    rw[ah e];exact I
   rw[ah c];exact I
  unfold Cl.QG;rw[ah Y,aj h1]
  split
  ·rename_i hw
   refine⟨key.EL λx M=>?_,E⟩
   rcases M with⟨x1,J⟩|M
   ·rcases J with J|J
    ·rcases bD.1 J with J|J
     ·exact .inl (.inl ⟨x1,.inl J⟩)
     rw[aI]at J;subst J;refine .inr ?_;have hkd:(ng l.fr l.q (aN (dY m.off l) l.q).1).kd=6:=rfl;refine⟨λe=>by rw[hkd]at e;omega,λe=>by rw[hkd]at e;omega,λe=>by rw[hkd]at e;omega,λ_=>?_⟩;have x1':l.q=q:=x1;subst x1';obtain⟨_,_,w3⟩:=qd (d:=dY m.off l) (q:=l.q) (λh=>h hw);rw[dW]at w3;obtain⟨d,d1,d2,d3⟩:=key.dir
     show ∃k:Nat,(aN (dY m.off l) l.q).1.Pf=k/\1<=k/\(k:Int)<=((dY m.off l).at l.q).Pf/\((g.own k:Nat):Int)=(aN (dY m.off l) l.q).1.node
     rw[w3,d1];exact⟨d,E,d2,gI _,E⟩
    exact .inl (.inl ⟨x1,.inr J⟩)
   exact .inl (.inr ⟨M.1,dZ _ M.2⟩)
  exact⟨key.EL λx M=>.inl (Z M),E⟩
 unfold Cl.QG;rw[ah Y,ah Y];have hn:l.tg.toNat<5:=Y
 split
 ·rename_i hu
  have O:(m.put l.tg.toNat {m.au l.tg.toNat with Pq:=(m.au l.tg.toNat).Pq++[l]}).au=Qv m.au l.tg.toNat ((m.au l.tg.toNat).box ((m.au l.tg.toNat).Pq++[l])):=rfl;have hvw:=oP (q:=q) O E;refine⟨?_,hvw⟩;unfold QIx;rw[hvw,zY O E,pU O E];refine I.EL λx M=>.inl ?_
  rcases M with⟨x1,J⟩|M
  ·rcases J with J|⟨j,hj,J⟩
   ·exact .inl ⟨x1,.inl J⟩
   rw[O]at J;by_cases e:j=l.tg.toNat
   ·subst e;rw[JR]at J
    rcases bD.1 J with J|J
    ·exact .inl ⟨x1,.inr ⟨_,hj,J⟩⟩
    rw[aI]at J;subst J;exact .inr ⟨x1,iT ..⟩
   rw[Ph e]at J;exact .inl ⟨x1,.inr ⟨j,hj,J⟩⟩
  exact .inr ⟨M.1,dZ _ M.2⟩
 exact⟨I.EL λx M=>.inl (Z M),E⟩
def SC:∀(ls:List bY) {m:Cl},QIx m q g ls->(∀l∈ls,lF l)->q<4->QIx (ls.foldl Cl.QG m) q g []/\vw (ls.foldl Cl.QG m) q=vw m q
 |[],m,I,_,_=>⟨I,E⟩
 |l::ls,m,I,h,J=>by
  obtain⟨M,e⟩:=Xn I (h l iQ) J;obtain⟨O,Z⟩:=SC ls M (λx hx=>h x (by simp[hx])) J;exact⟨O,Z.trans e⟩
def Ug:QIx m q g []↔QI m q g:=by
 constructor
 ·intro I;exact I.EL λx J=>.inl (.inl J)
 intro I;exact I.EL λx J=>.inl (J.elim id λh=>by simp at h)
def Ms(I:QI m q g)(M:∀l∈m.PI,lF l)(O:q<4):QI m.all q g/\vw m.all q=vw m q:=by
 have Z:QIx {m with PI:=[]} q g m.PI:=I.EL λx hx=>.inl (by
  rcases hx with⟨J,h⟩|⟨J,h⟩
  ·rcases h with h|h
   ·simp at h
   exact⟨J,.inr h⟩
  exact⟨J,.inl h⟩)
 obtain⟨I1,e⟩:=SC m.PI Z M O;exact⟨Ug.1 I1,e⟩
def Xo{at_:Nat}{c s:Bool}(I:QI m q g)(hl:∀l∈m.PI,lF l)(hq:q<4):QI (m.pick at_ c s) q g/\vw (m.pick at_ c s) q=vw m q:=by
 unfold Cl.pick
 split
 ·exact⟨I,E⟩
 rename_i l hl2
 have hm:=jm hl2;have O:QIx (if s=true then m else{m with PI:=m.PI.eraseIdx (at_ % m.PI.length)}) q g [l]/\vw (if s=true then m else{m with PI:=m.PI.eraseIdx (at_ % m.PI.length)}) q=vw m q:=by
  split
  ·exact⟨I.EL λx M=>.inl (M.elim id λh=>by have:=h.2;rw[aI]at this;subst this;exact⟨h.1,.inl hm⟩),E⟩
  exact⟨I.EL λx M=>.inl (by
   rcases M with⟨Z,J⟩|⟨Z,J⟩
   ·rcases J with J|J
    ·exact⟨Z,.inl (Mq J)⟩
    exact⟨Z,.inr J⟩
   rw[aI]at J;subst J;exact⟨Z,.inl hm⟩),E⟩
 dsimp only
 split
 ·obtain⟨I1,e⟩:=Xn O.1 (hl l hm) hq;exact⟨Ug.1 I1,e.trans O.2⟩
 exact⟨Ug.1 (O.1.EL λx M=>.inl (M.elim .inl λh=>by simp at h)),O.2⟩
def aky(I:QI m q g){c:Nat}(M:l.kd=0):QI {m with PI:=m.PI++[l],calls:=c} q g/\vw {m with PI:=m.PI++[l],calls:=c} q=vw m q:=by
 refine⟨I.EL λx O=>?_,E⟩;obtain⟨J,h⟩:=O
 rcases h with h|h
 ·rcases bD.1 h with h|h
  ·exact .inl ⟨J,.inl h⟩
  rw[aI]at h;subst h;exact .inr (pG (.inl M))
 exact .inl ⟨J,.inr h⟩
def I5{q':Nat}{tg:Int}{T S fP K:Nat}(I:QI m q g)(hB:eF m T S fP K)(hq':q'<4)(hq:q<4):QI (m.move q' tg) q g/\((vw m q g.o).GR=3->(vw (m.move q' tg) q g.o).GR=3)/\ ∀n,((m.move q' tg).au n).data=(m.au n).data:=by
 unfold Cl.move
 split
 ·exact⟨I,id,λ_=>E⟩
 rename_i h0
 have hw:¬(aN m.off q').2≠0:=λe=>h0 (.inl e);have hne:¬(aN m.off q').1.node=tg:=λe=>h0 (.inr (.inl e));obtain⟨hn,aOs,w3⟩:=qd hw;have hu:(m.au (aN m.off q').1.node.toNat).up=true:=by
  cases e:(m.au (aN m.off q').1.node.toNat).up with
  |true=>rfl
  |false=>exact av (.inr (.inr e)) h0
 rw[dW]at w3
 split
 ·rename_i h1
  obtain⟨h1,h2⟩:=h1;obtain⟨g1,g2,g3,g4⟩:=go_ok h1;rw[g4]at h2⊢;dsimp only at h2⊢;have hnn:(aN m.off q').1.node=(((aN m.off q').1.node.toNat:Nat):Int):=Y;generalize (aN m.off q').1.node.toNat=n at*;have Mt:(m.aF n q' ⟨2,((m.au n).bs q').ep,0,tg,0,((m.au n).bs q').JU⟩).au=Qv m.au n ((m.au n).aF q' ⟨2,((m.au n).bs q').ep,0,tg,0,((m.au n).bs q').JU⟩):=rfl
  suffices hs:QI (m.aF n q' ⟨2,((m.au n).bs q').ep,0,tg,0,((m.au n).bs q').JU⟩) q g/\((vw m q g.o).GR=3->(vw (m.aF n q' ⟨2,((m.au n).bs q').ep,0,tg,0,((m.au n).bs q').JU⟩) q g.o).GR=3)from⟨hs.1,hs.2,λj=>by
   rw[Mt];by_cases e:j=n
   ·subst e;rw[JR];rfl
   rw[Ph e]⟩
  by_cases e:q'=q
  ·subst e;have hV:=jk (q:=q') hu;have ho:=I.oEp hn (by rw[hV];exact .inl g1);have iB:((m.au n).bs q').ep=g.m:=by rw[<-hV,ho];exact I.wz
   have aai:((m.au n).aF q' ⟨2,((m.au n).bs q').ep,0,tg,0,((m.au n).bs q').JU⟩).view q'=⟨2,((m.au n).bs q').ep,0,tg,0,((m.au n).bs q').JU⟩:=by rw[fO (X:=(m.au n).aF q' _) hu];exact JR _ _ _
   have hvw:vw (m.aF n q' ⟨2,((m.au n).bs q').ep,0,tg,0,((m.au n).bs q').JU⟩) q'=Qv (vw m q') n ⟨2,((m.au n).bs q').ep,0,tg,0,((m.au n).bs q').JU⟩:=by rw[xw Mt,aai]
   have aga:((m.au n).bs q').ep=(m.off.at q').Pf:=by rw[<-w3];exact h2
   have I2:UD g (Qv (vw m q') g.o ⟨2,((m.au n).bs q').ep,0,tg,0,((m.au n).bs q').JU⟩) (Cy m q') (Qq m) (Qp m q') (m.off.at q') (M9 m q') (M8 m q'):=by
    refine UD.afH I (λp hp=>?_) ?_ ?_ ?_ ?_ ?_ ?_
    ·obtain⟨_,hk⟩:=I.nU g.o I.o5 p hp;rw[<-ho]at hk⊢
     cases p with
     |serve k JU op num a=>
      obtain⟨k1,k2,k3⟩:=hk;exact⟨k1,by rw[JR];exact .inr E,k3⟩
     |QL k b=>obtain⟨_,_,_,_,k4,_⟩:=hk;rw[hV]at k4;exfalso;omega
     |UK k b last=>have:=hk.1;rw[hV]at this;exfalso;omega
     |gJ k b a=>have:=hk.2.1;rw[hV]at this;exfalso;omega
     |QE k b=>have:=hk.1;rw[hV]at this;exfalso;omega
    ·exact iB
    ·show((m.au n).bs q').JU=_;rw[<-hV,ho];exact I.zk
    ·exact .inr (.inl E)
    ·intro _;refine⟨by rw[<-aga];exact iB,?_,g2,by show tg<5;omega⟩
     show ¬tg=(g.o:Int)
     rw[<-ho,<-hnn];exact λe=>hne e.symm
    ·intro h;rw[<-ho,hV]at h;omega
    intro h;exact av (show(2:Int)=3 from h) dQ
   rw[<-ho]at I2;exact⟨QI.mk' I2 hvw (zY Mt E) (pU Mt E) (IX Mt (λ_ h=>h) hn E) E E E,λh=>by rw[<-ho,hV]at h;omega⟩
  have aai:((m.au n).aF q' ⟨2,((m.au n).bs q').ep,0,tg,0,((m.au n).bs q').JU⟩).view q=(m.au n).view q:=by
   rw[fO (X:=(m.au n).aF q' _) hu,fO hu];exact Ph (λh=>e h.symm)
  exact⟨I.far hn Mt aai E E (λ_ h=>h) (λx hx=>.inl hx) E E E,by rw[oP Mt aai];exact id⟩
 exact⟨I,id,λ_=>E⟩
def UD.ayn(I:UD g V P U Lt pl sh sv)(hn:n<5)(O:P n=none):UD g (Qv V n (kM (V n))) P U Lt pl sh sv:=by
 by_cases M:(V n).GR=2
 ·have Z:=I.oEp hn (.inr M);subst Z;have e:kM (V g.o)=⟨1,(V g.o).ep,0,0,0,(V g.o).JU⟩:=by unfold kM;rw[aj M]
  rw[e];exact I.afH (λp J=>by rw[O]at J;cases J) I.wz I.zk (.inl E) (λh=>av E h) (λh=>by omega) λh=>av (show(1:Int)=3 from h) dQ
 rw[tK M,aJ E];exact I
def UD.Vz{bs:Nat->bF}{x:bF}(I:UD g V P U Lt pl sh sv)(hn:n<5)(hV:V n=bs q)(hr2:∀p,P n=some p->p.q=q)(Z:x=kM (bs q)\/ ∃p,P n=some p/\p.q=q/\Qb bs p x):
 ∃g',UD g' (Qv V n x) (Qv P n none) (Qv U n false) Lt pl sh sv/\rG g g'/\(g'.m=g.m->(V g.o).GR=3->(Qv V n x g.o).GR=3):=by
 have I1:=I.down n;have O:(Qv P n none) n=none:=JR _ _ _;have J:∀ {y:bF},((V n).GR=3->y.GR=3)->((V g.o).GR=3->(Qv V n y g.o).GR=3):=λ{y} h h2=>by
  by_cases e:g.o=n
  ·rw[e]at h2⊢;rw[JR];exact h h2
  rw[Ph e];exact h2
 have ayo:∃g',UD g' (Qv V n (kM (bs q))) (Qv P n none) (Qv U n false) Lt pl sh sv/\rG g g'/\(g'.m=g.m->(V g.o).GR=3->(Qv V n (kM (bs q)) g.o).GR=3):=by
  rw[<-hV];exact⟨g,I1.ayn hn O,.refl g,λ_=>J λh=>by rw[tK Y];exact h⟩
 rcases Z with Z|⟨p,hp,hq,Z⟩
 ·rw[Z];exact ayo
 obtain⟨hu,hk⟩:=I.nU n hn p hp
 rcases Z with Z|Z|⟨k,b,last,j,h1,Z,h3⟩
 ·rw[Z,hq];exact ayo
 ·cases p with
  |serve k JU op num a=>
   have e:k=q:=hq;subst e;obtain⟨k1,k2,k3,k4,k5⟩:=hk;obtain⟨t1,t2,t3⟩:=I.VD (by rw[<-k1];exact hu);have hr3:(V n).GR≠3:=by unfold QK at k2;omega
   have M:x=kM {V n with JU:=JU}:=by rw[Z,hV];rfl
   have I2:UD (g.app op) (Qv V n {V n with JU:=JU}) (Qv P n none) (Qv U n false) Lt pl sh sv:=by
    subst k1;exact I1.append (e:=op) (b:={V g.o with JU:=JU}) O (JR _ _ _) hr3 t1 (by rw[<-k3];exact k5) E E E k3
   have I3:=I2.ayn hn O;rw[JR,D6,<-M]at I3;exact⟨_,I3,⟨aB,λ_ _=>E,by show(g.G++[op]).length<=_;simp⟩,λ_=>J λh=>av h hr3⟩
  |QL k b=>
   obtain⟨j,j1,j2,j3,j4,j5⟩:=hk;have M:x=b:=by rw[Z];show kM b=b;rw[j1];exact Ml (.inl E)
   have I2:=I1.V6 (b:=b) hn (I.sF j4) O (by rw[j1];exact I.SB j2 j3 j5) (by rw[j1];show _<=(j:Int)+1;omega);rw[M];exact⟨g,I2,.refl g,λ_=>J λh=>by omega⟩
  |UK k b last=>
   obtain⟨j1,j2,j3⟩:=hk
   cases last with
   |true=>
    obtain⟨a1,a2,a3,a4,a5⟩:=j3 E;have M:x=⟨1,(g.m:Int)+1,0,0,0,g.G++[bC]⟩:=by rw[Z];show kM b=_;rw[a4];rfl
    have I2:=I1.activate (T:=n) a2 a3 O (JR _ _ _) a5 (by rw[a1];exact gI _);rw[M];exact⟨_,I2,⟨by show g.m<=g.m+1;omega,λk hk=>Ph Y,by show(g.G++[bC]).length<=_;simp⟩,λh=>by
     have:g.m+1=g.m:=h;omega⟩
   |false=>
    obtain⟨j,a1,a2,a3⟩:=j2 E;have M:x=b:=by rw[Z];show kM b=b;rw[a1];exact Ml (.inl j1)
    have I2:=I1.V6 (b:=b) hn (I.sF (.inr j1)) O (by rw[a1];exact I.NR hn j1 a3) (by rw[a1];exact gI _);rw[M];exact⟨g,I2,.refl g,λ_=>J λh=>by omega⟩
  |gJ k b at_=>
   obtain⟨ho,j1,j2⟩:=hk;obtain⟨t1,t2,t3⟩:=I.VD (by rw[<-ho];exact hu);have aag:=I.Vp (by rw[<-ho];omega);have M:x=b:=by rw[Z];show kM b=b;rw[j2];exact Ml (.inr (.inr (.inl E)))
   have I2:UD g (Qv V g.o b) (Qv P n none) (Qv U n false) Lt pl sh sv:=by
    refine UD.afH I1 (λp' hp'=>?_) ?_ ?_ ?_ ?_ ?_ λ_=>t2
    ·rw[<-ho,JR]at hp';cases hp'
    ·rw[j2,ho];exact I.wz
    ·rw[j2,ho];exact I.zk
    ·rw[j2];exact .inr (.inr E)
    ·intro _;rw[j2,ho];exact aag
    intro h;rw[<-ho]at h;omega
   rw[<-ho]at I2;rw[M];exact⟨g,I2,.refl g,λ_=>J λ_=>by rw[j2]⟩
  |QE k b=>
   obtain⟨j1,j2,j3⟩:=hk;obtain⟨hne,hoth⟩:=I.OZ hn j1 j3;have M:x=b:=by rw[Z];show kM b=b;rw[j2];exact Ml (.inr (.inl E))
   have I2:=I1.V6 (b:=b) hn hne O (by rw[j2];exact hoth) (by rw[j2];exact gI _);rw[M];refine⟨g,I2,.refl g,λ_ h=>?_⟩;rw[Ph (λe=>hne e.symm)];exact h
 subst h1;have e:k=q:=hq;subst e;obtain⟨j1,j2,j3⟩:=hk;have hev:∃i,b.JU.take ((bs k).JU.length+j)=g.G.take i/\ ∀k':Nat,(V n).ep=(k':Int)+1->i<=g.bd k':=by
  cases last with
  |true=>
   obtain⟨a1,a2,a3,a4,a5⟩:=j3 E;have hb:b.JU=g.G++[bC]:=by rw[a4]
   simp only[if_true]at h3;rw[hb,aY,lZ]at h3;refine⟨(bs k).JU.length+j,by rw[hb,tJ Y],λk' hk'=>?_⟩;have:k'=g.m:=Y;subst this;unfold Gh.bd;rw[aj E];omega
  |false=>
   obtain⟨i,a1,a2,a3⟩:=j2 E;have hb:b.JU=g.G.take i:=by rw[a1]
   refine⟨min ((bs k).JU.length+j) i,by rw[hb,yO],λk' hk'=>fG (Nat.min_le_right _ _) (a3 k' hk')⟩
 obtain⟨i,e1,e2⟩:=hev;have M:x={V n with JU:=g.G.take i}:=by rw[Z,e1,hV]
 have I2:=I1.V6 (b:={V n with JU:=g.G.take i}) hn (I.sF (.inr j1)) O (I.NR hn j1 e2) (gI _);rw[M];exact⟨g,I2,.refl g,λ_=>J λh=>by omega⟩
def QD(m:Cl)(q:Nat)(g:Gh)(n:Nat):Prop:=UD g (vw m q) (Cy m q) (Qv (Qq m) n false) (Qp m q) (m.off.at q) (M9 m q) (M8 m q)
structure W1 (m m':Cl)(n q':Nat):Prop where
 au:∃b,m'.au=Qv m.au n {m.au n with bs:=Qv (m.au n).bs q' b}
 PI:m'.PI=m.PI
 off:m'.off=m.off
 sh:∀q,q'≠q->M9 m' q=M9 m q
 sv:∀q,q'≠q->M8 m' q=M8 m q
def QD.far(I:QD m q g n)(hn:n<5)(hu:(m.au n).up=true){q':Nat}(Z:q'≠q)(W:W1 m m' n q'):QD m' q g n/\vw m' q=vw m q/\(m'.au n).up=true/\(m'.au n).bs q=(m.au n).bs q/\(m'.au n).PL=(m.au n).PL:=by
 obtain⟨b,J⟩:=W.au;have M:({m.au n with bs:=Qv (m.au n).bs q' b}:Nd).view q=(m.au n).view q:=by
  rw[fO (X:={m.au n with bs:=Qv (m.au n).bs q' b}) hu,fO hu];exact Ph (λe=>Z e.symm)
 have O:=oP J M;have hun:Qq m'=Qq m:=pU J E;refine⟨?_,O,by rw[J,JR];exact hu,by rw[J,JR];exact Ph (λe=>Z e.symm),by rw[J,JR]⟩;unfold QD;rw[O,zY J E,hun,W.off,W.sh q Z,W.sv q Z];exact I.EL λx hx=>by
  obtain⟨x1,h⟩:=hx
  rcases h with h|⟨j,hj,h⟩
  ·rw[W.PI]at h;exact .inl ⟨x1,.inl h⟩
  rw[J]at h;by_cases e:j=n
  ·subst e;rw[JR]at h;exact .inl ⟨x1,.inr ⟨j,hj,h⟩⟩
  rw[Ph e]at h;exact .inl ⟨x1,.inr ⟨j,hj,h⟩⟩
def pI{T S fP K:Nat}(O:eF m T S fP K)(hn:n<5){j:Nat}(I:j≠n):(m.step n).au j=m.au j:=by
 cases h:(m.au n).up with
 |false=>rw[oN h]
 |true=>
  obtain⟨rs,us,J⟩:=(O.jO n hn).xV h
  cases M:(m.au n).PL with
  |some p=>
   obtain⟨h1,Z,h3⟩:=J.JD p M;obtain⟨_,hf⟩:=jI J.tape J.nE Z h3;obtain⟨dX,y1,_⟩:=CS E h M h3 hf Z;rw[y1,Ph I]
  |none=>
   have R:=NP h ⟨us,J⟩ λl hl=>nu (O.jC n hn l hl);rw[jX h M]
   split
   ·show Qv (m.more n).au n _ j=_
    rw[Ph I];exact R.p8 j I
   exact R.p8 j I
def SE(m:Cl)(l:bY)(j:Nat):((m.QG l).au j).data=(m.au j).data:=by
 unfold Cl.QG
 split
 ·rfl
 split
 ·split<;>rfl
 split
 ·show((Qv m.au l.tg.toNat _) j).data=_
  by_cases e:j=l.tg.toNat
  ·rw[e,JR]
  rw[Ph e]
 rfl
def O4:∀(ls:List bY) (m:Cl) (j:Nat),((ls.foldl Cl.QG m).au j).data=(m.au j).data
 |[],_,_=>rfl
 |l::ls,m,j=>(O4 ls (m.QG l) j).trans (SE m l j)
def agp(m:Cl)(at_:Nat)(c s:Bool)(j:Nat):((m.pick at_ c s).au j).data=(m.au j).data:=by
 unfold Cl.pick
 split
 ·rfl
 dsimp only
 split
 ·rw[SE]
  split<;>rfl
 split<;>rfl
structure Later (q:Nat)(g g':Gh)(m m':Cl):Prop where
 mle:g.m<=g'.m
 own:∀k,k<=g.m->g'.own k=g.own k
 gJ:VE q g g' m m'
def Later.refl:Later q g g m m:=⟨aB,λ_ _=>E,λ_ h=>h⟩
def Later.trans(h:Later q g g' m m')(I:Later q g' g2 m' m2):Later q g g2 m m2:=by
 refine⟨fG h.mle I.mle,λk J=>(I.own k (fG J h.mle)).trans (h.own k J),λe Z=>?_⟩;have h1:=h.mle;have h2:=I.mle;have M:g'.m=g.m:=Y;have O:g'.o=g.o:=by unfold Gh.o;rw[M];exact h.own _ aB
 have:=I.gJ Y (by rw[O];exact h.gJ M Z);rwa [O]at this
def rG.later(h:rG g g')(I:VE q g g' m m'):Later q g g' m m':=⟨h.m,h.own,I⟩
structure LW (m:Cl)(q:Nat)(g:Gh)(k:Nat):Prop where
 qi:QI m q g
 SA:g.G.length<=k
 data:∀n,n<5->(m.au n).data.length<=184*k
end
def agq(n q:Nat):Ac:=⟨1,n,q,0,0,0,0,0,0,0,0⟩
def aqJ{n q:Nat}(hn:n<5)(I:q<4):Ko (agq n q):=⟨by show(1:Int)<=1/\(1:Int)<=10;omega,by show 0<=(n:Int)/\(n:Int)<=4;omega,by show 0<=(q:Int)/\(q:Int)<=3;omega,by show(0:Int)<=0/\(0:Int)<=1048576;omega,by show(0:Int)<=0/\(0:Int)<=100000;omega,λh=>av (show(1:Int)=2 from h) dQ⟩
def adt{m:Cl}{n q:Nat}{d:UE}{x:List UInt8}(h:(m.au n).up=true)(I:(m.au n).PL=none)(O:vF m.off q n=(d,0))(J:jR ((m.au n).bs q) 1=(⟨1,1,0,0,0,[]⟩,0))(hw:gD (m.au n).data (m.au n).Qr [gW 1 q 1 0 aU]=some x):
 m.make n q={m.put n {m.au n with data:=x,Qr:=x.length,bs:=Qv (m.au n).bs q ⟨1,1,0,0,0,[]⟩}with off:=d,Qx:=kG m.Qx n q (1,0)}:=by
 obtain⟨X,M⟩:∃X,m.au n=X:=⟨_,E⟩;rw[M]at h I J hw⊢;unfold Cl.make Nd.write;rw[M,O,J,hw,ah (by rw[h,I];simp),ah iQ];rfl
def FR(q:Nat):List UInt8:=dn [gW 1 q 1 0 aU]
def nY(q:Nat):Nd:={nd0 with data:=FR q,Qr:=(FR q).length,bs:=Qv (λ_=>bV) q ⟨1,1,0,0,0,[]⟩}
def asw:Cl:={l9 with au:=Qv l9.au 0 (nY 0),off:=⟨⟨0,1⟩,nowhere,nowhere,nowhere⟩,Qx:=kG l9.Qx 0 0 (1,0)}
def nH:Cl:={l9 with au:=Qv (Qv l9.au 0 (nY 0)) 1 (nY 1),off:=⟨⟨0,1⟩,⟨1,1⟩,nowhere,nowhere⟩,Qx:=kG (kG l9.Qx 0 0 (1,0)) 1 1 (1,0)}
def aqK{q:Nat}(I:q<4):gD nd0.data nd0.Qr [gW 1 q 1 0 aU]=some (FR q):=by
 have:=Ch (rs:=[gW 1 q 1 0 aU]) (l:=[]) (s:=0) (λr h=>by rw[aI]at h;subst h;exact sj Y I Y Y dQ) Y iQ iQ;rw[nil_append]at this;exact this
def dmk{d:UE}{q n:Nat}(I:∀k,k<4->Av (d.at k))(M:q<4)(hn:n<5)(J:d.at q=nowhere):vF d q n=(d.set q ⟨n,1⟩,0):=by
 unfold vF;rw[TN (zo I) Y];dsimp only;rw[ah iQ,ah Y,ah (by rw[dW];exact λh=>h J),dW]
def aiD:l9.UN (agq 0 0)=asw:=by
 show l9.make 0 0=_
 rw[adt (d:=⟨⟨0,1⟩,nowhere,nowhere,nowhere⟩) (x:=FR 0) E E (dmk (d:=⟨nowhere,nowhere,nowhere,nowhere⟩) (q:=0) (n:=0) (λk I=>by
  have h:k=0\/k=1\/k=2\/k=3:=Y
  rcases h with rfl|rfl|rfl|rfl<;>exact .inl ⟨E,E⟩) Y Y E) (Ua (q:=0) Ud E dQ Y).1 (aqK Y)]
 rfl
def aiE:asw.UN (agq 1 1)=nH:=by
 show asw.make 1 1=_
 rw[adt (d:=⟨⟨0,1⟩,⟨1,1⟩,nowhere,nowhere⟩) (x:=FR 1) E E (dmk (d:=⟨⟨0,1⟩,nowhere,nowhere,nowhere⟩) (q:=1) (n:=1) (λk I=>by
  have h:k=0\/k=1\/k=2\/k=3:=Y
  rcases h with rfl|rfl|rfl|rfl<;>first|exact .inl ⟨rfl,rfl⟩|exact .inr ⟨by decide,by decide,by decide,by decide⟩) Y Y E) (Ua (q:=1) Ud E dQ Y).1 (aqK Y)]
 rfl
def g0(q:Nat):Gh:=⟨1,λ_=>q,λ_=>0,[],0,1⟩
def aqL{q:Nat}(hq:q<2):LW nH q (g0 q) 2:=by
 have hV:∀n,vw nH q n=if n=q then⟨1,1,0,0,0,[]⟩else bV:=λn=>by
  have hup:(nH.au n).up=true:=by
   show(Qv (Qv l9.au 0 (nY 0)) 1 (nY 1) n).up=true
   unfold Qv
   split
   ·rfl
   split<;>rfl
  rw[jk hup]
  show(Qv (Qv l9.au 0 (nY 0)) 1 (nY 1) n).bs q=_
  have h:q=0\/q=1:=Y
  rcases h with rfl|rfl
  ·by_cases M:n=1
   ·subst M;rfl
   by_cases O:n=0
   ·subst O;rfl
   rw[Ph M,Ph O,ah O];rfl
  by_cases M:n=1
  ·subst M;rfl
  by_cases O:n=0
  ·subst O;rfl
  rw[Ph M,Ph O,ah M];rfl
 have hP:∀n,Cy nH q n=none:=λn=>by
  unfold Cy;have:(nH.au n).PL=none:=by
   show(Qv (Qv l9.au 0 (nY 0)) 1 (nY 1) n).PL=none
   unfold Qv
   split
   ·rfl
   split<;>rfl
  rw[this];rfl
 have hI:∀n,(nH.au n).Pq=[]:=λn=>by
  show(Qv (Qv l9.au 0 (nY 0)) 1 (nY 1) n).Pq=[]
  unfold Qv
  split
  ·rfl
  split<;>rfl
 have hL:∀l,¬Qp nH q l:=λl h=>by
  rcases h.2 with h|⟨j,_,h⟩
  ·cases h
  rw[hI j]at h;cases h
 have Z:nH.off.at q=⟨q,1⟩:=by
  have h:q=0\/q=1:=Y
  rcases h with rfl|rfl<;>rfl
 have hsh:∀n,M9 nH q n=if n=q then(1,0)else(0,0):=λn=>by
  show kG (kG l9.Qx 0 0 (1,0)) 1 1 (1,0) n q=_
  have h:q=0\/q=1:=Y
  rcases h with rfl|rfl
  ·unfold kG;rw[ah Y];by_cases e:n=0
   ·rw[aj ⟨e,E⟩,aj e]
   rw[ah (λh=>e h.1),ah e];rfl
  unfold kG;by_cases e:n=1
  ·rw[aj ⟨e,E⟩,aj e]
  rw[ah (λh=>e h.1),ah e,ah Y];rfl
 have ho:(g0 q).o=q:=rfl;have J:vw nH q (g0 q).o=⟨1,1,0,0,0,[]⟩:=by rw[hV,ho,aj E]
 have hm:(g0 q).m=1:=rfl;refine⟨⟨aB,λ_ _ _=>by show q<5;omega,λk h1 h2=>by rw[hm]at h2;omega,⟨1,Z,aB,.inl E⟩,by rw[J];rfl,by rw[J];rfl,by rw[J];exact .inl E,λh=>by rw[J]at h;exact av E h,zU,λn hn I=>?_,λk h1 h2=>?_,λk h1 h2=>by rw[hm]at h2;omega,λl hl=>av hl (hL l),λn _ p hp=>(by rw[hP]at hp;cases hp),.inl ⟨E,?_,aC _⟩,λ_=>E,λ_=>E,λn _ I=>?_,?_,⟨λs hs=>(by cases hs),λi a b ha=>(by cases ha),λs hs=>(by cases hs),λ_=>E⟩⟩,aC _,λn hn=>?_⟩
 ·rw[ho]at I;rw[hV,ah I];exact .inl ⟨E,by show(0:Int)<=0;omega,by show(0:Int)<1;omega⟩
 ·rw[hm]at h2;have:k=1:=Y;subst this
  show(1:Int)<=(vw nH q q).ep
  rw[hV,aj E]
  decide
 ·rw[hsh,ho,aj E];rfl
 ·rw[ho]at I;rw[hsh,ah I]
  show(0:Int)<1
  omega
 ·show rp fU []=some (aK (take 0 [])).1
  rw[take_nil,Bw (l:=[]) iQ (show jh fU [] []=some (fU,[])from E)];rfl
 have h1:∀q,(FR q).length<=46:=λq=>by have:=IZ [gW 1 q 1 0 aU];simpa[FR]using this
 show(Qv (Qv l9.au 0 (nY 0)) 1 (nY 1) n).data.length<=_
 unfold Qv
 split
 ·have:=h1 1;show(FR 1).length<=_;omega
 split
 ·have:=h1 0;show(FR 0).length<=_;omega
 show 0<=_;omega
def aqM:Bs nH 2:=by
 rw[<-aiE,<-aiD];exact M7 (M7 ayj (aqJ Y Y) Y) (aqJ Y Y) Y
def JF(l:bY):Nat:=if l.kd=0\/l.kd=2\/l.kd=3\/l.kd=4 then 1 else 0
def Zq:Option cZ->Nat
 |some (.serve _ _ _ _ _)=>1
 |some (.QL _ _)=>1
 |some (.UK _ _ _)=>1
 |some (.gJ _ _ _)=>1
 |_=>0
def qJ:List bY->Nat
 |[]=>0
 |l::r=>JF l+qJ r
def uo(x:Nd):Nat:=qJ x.Pq+Zq x.PL
def Cl.cw(m:Cl):Nat:=qJ m.PI+(uo (m.au 0)+(uo (m.au 1)+(uo (m.au 2)+(uo (m.au 3)+uo (m.au 4)))))
def Cl.nm(m:Cl)(n:Nat):Nat:=qJ m.PI+uo (m.au n)
def wX:∀(a b:List bY),qJ (a++b)=qJ a+qJ b
 |[],b=>by simp[qJ]
 |l::a,b=>by rw[wO,qJ,qJ,wX a b];omega
def Ic(l:bY):qJ [l]=JF l:=rfl
def Kt:∀(a:List bY) (i:Nat) (l:bY),a[i]? =some l->qJ (a.eraseIdx i)+JF l=qJ a
 |[],i,l,h=>by cases h
 |x::a,0,l,h=>by cases h;rw[eraseIdx_cons_zero,qJ];omega
 |x::a,i+1,l,h=>by
  rw[TA,qJ,qJ];have:=Kt a i l (by simpa using h);omega
def Na(l:bY):JF l<=1:=by unfold JF;split<;>omega
def aAC{l:bY}(h:l.kd≠0/\l.kd≠2/\l.kd≠3/\l.kd≠4):JF l=0:=ah Y
section
variable {m w m':Cl}{n q:Nat}{x:Nd}{l:bY}{op:Ev}{num:Int}{a:kg}{b:bF}{ac:Ac}{X:Nd}{p:cZ}{rs us:List dN}
def aaj{d:Nat}(hn:n<5)(I:∀j,j≠n->m'.au j=m.au j)(h:m'.nm n<=m.nm n+d):m'.cw<=m.cw+d:=by
 unfold Cl.nm at h;unfold Cl.cw
 rcases five hn with rfl|rfl|rfl|rfl|rfl
 ·rw[I 1 dQ,I 2 dQ,I 3 dQ,I 4 dQ];omega
 ·rw[I 0 dQ,I 2 dQ,I 3 dQ,I 4 dQ];omega
 ·rw[I 0 dQ,I 1 dQ,I 3 dQ,I 4 dQ];omega
 ·rw[I 0 dQ,I 1 dQ,I 2 dQ,I 4 dQ];omega
 rw[I 0 dQ,I 1 dQ,I 2 dQ,I 3 dQ];omega
def AZ:(w.put n x).nm n=qJ w.PI+uo x:=by
 unfold Cl.nm;rw[show(w.put n x).au n=x from JR _ _ _];rfl
def Mv:(w.send l).nm n=w.nm n+JF l:=by
 show qJ (w.PI++[l])+uo (w.au n)=qJ w.PI+uo (w.au n)+JF l
 rw[wX,Ic];omega
def Mw(hi:x.Pq=(w.au n).Pq)(h:x.PL=(w.au n).PL):(w.put n x).nm n=w.nm n:=by
 rw[AZ];unfold Cl.nm uo;rw[hi,h]
def Bz:(w.aF n q b).nm n=w.nm n:=Mw E E
def adu:(w.UR n q op a num).nm n=w.nm n:=rfl
def nm_done:(w.done n q op num a).nm n=w.nm n:=by
 unfold Cl.done
 split
 ·rw[Mv,adu];rfl
 rw[Mv];rfl
def Mx:(w.UG n q).nm n=w.nm n+1:=Mv
def adv{at_:Int}:(w.part n q at_).nm n<=w.nm n+1:=by
 unfold Cl.part
 split
 ·omega
 rw[Mv];exact Nat.add_le_add_left (Na _) _
def I6{rs:List dN}{p:cZ}(h:(w.au n).write rs=some x):(w.put n {x with PL:=some p}).nm n<=w.nm n+Zq (some p):=by
 unfold Nd.write at h;obtain⟨d,_,rfl⟩:=wE.1 h;rw[AZ];unfold Cl.nm uo;dsimp only;omega
def SF{y:Nd}{rs:List dN}(h:y.write rs=some x):x.Pq=y.Pq:=by
 unfold Nd.write at h;obtain⟨d,_,rfl⟩:=wE.1 h;rfl
def akz:(w.serve n l).nm n<=w.nm n+1:=by
 unfold Cl.serve
 split
 ·rw[nm_done];omega
 split
 ·rw[nm_done];omega
 rename_i x h
 exact I6 h
def abT:(w.Uv n l).nm n<=w.nm n+1:=by
 unfold Cl.Uv
 split
 ·omega
 split
 ·rw[Mx];omega
 split
 ·omega
 rename_i x h
 exact I6 h
def avw:(w.UK n l).nm n<=w.nm n+1:=by
 unfold Cl.UK
 split
 ·omega
 split
 ·rw[Mx];omega
 split
 ·omega
 split
 ·omega
 rename_i x h
 exact I6 h
def agr:(w.UL n l).nm n<=w.nm n+1:=by
 unfold Cl.UL
 split
 ·omega
 split
 ·omega
 split
 ·have:=adv (w:=w.aF n l.q (bX ((w.au n).bs l.q) l.at_).1) (n:=n) (q:=l.q) (at_:=l.at_);rw[Bz]at this;exact this
 split
 ·omega
 rename_i x h
 exact I6 h
def ags:(w.U1 n l).nm n<=w.nm n:=by
 unfold Cl.U1
 split
 ·rw[Mw (x:=(w.au n).Uz n l) E E];omega
 split
 ·rw[Mw (x:=(w.au n).Uz n l) E E];omega
 rename_i x I
 have J:=SF I;have h:x.Pq=(w.au n).Pq:=J;rw[AZ];unfold Cl.nm uo;rw[show({x with PL:=some (cZ.QE l.q (gZ ((w.au n).bs l.q) l.ep).1)}:Nd).Pq=(w.au n).Pq from h]
 show qJ w.PI+(qJ (w.au n).Pq+0)<=_
 omega
def SG:(w.QB n l).nm n<=w.nm n+JF l:=by
 unfold Cl.QB JF
 split
 ·rename_i h;rw[aj (.inl h)];exact akz
 split
 ·rename_i h;rw[aj (.inr (.inl h))];exact abT
 split
 ·rename_i h;rw[aj (.inr (.inr (.inl h)))];exact agr
 split
 ·rename_i h;rw[aj (.inr (.inr (.inr h)))];exact avw
 have:=ags (w:=w) (n:=n) (l:=l);omega
def SH{p:cZ}:(w.AP n p).nm n<=w.nm n+Zq (some p):=by
 cases p with
 |serve q JU op num a=>show((w.aF n q _).done n q op num a).nm n<=_;rw[nm_done,Bz];omega
 |QL q b=>show((w.aF n q b).UG n q).nm n<=_;rw[Mx,Bz];exact aB
 |UK q b last=>
  show(if last=true then((w.aF n q b).put n { (w.aF n q b).au n with QA:=Qv (w.au n).QA q false}).UR n q bC iP (-1)else(w.aF n q b).UG n q).nm n<=_
  split
  ·rw[adu,Mw (w:=w.aF n q b) (x:={ (w.aF n q b).au n with QA:=Qv (w.au n).QA q false}) E E,Bz];omega
  rw[Mx,Bz];exact aB
 |gJ q b at_=>
  have:=adv (w:=w.aF n q b) (n:=n) (q:=q) (at_:=at_);rw[Bz]at this;exact this
 |QE q b=>show(w.aF n q b).nm n<=_;rw[Bz];omega
def avx{s:Bool}:qJ (iG n q b s)<=1:=by
 unfold iG;rw[wX,wX];have h:qJ (if b.GR=3 then[RV n q]else[])=0:=by split<;>rfl
 have I:qJ (if b.GR=1/\1<b.ep/\s=false then[PZ n q b]else[])=0:=by split<;>rfl
 have h1:qJ (if b.GR=2\/b.GR=3 then[yU n q b]else[])<=1:=by
  split
  ·exact Na (yU n q b)
  exact aC _
 omega
def adw:(w.lM n).nm n<=w.nm n+1:=by
 show qJ (w.PI++iG n ((w.au n).turn % 4) ((w.au n).bs ((w.au n).turn % 4)) ((w.au n).QA ((w.au n).turn % 4)))+uo ((Qv w.au n {w.au n with turn:=(w.au n).turn+1}) n)<=_
 rw[wX,JR];have:=avx (n:=n) (q:=(w.au n).turn % 4) (b:=(w.au n).bs ((w.au n).turn % 4)) (s:=(w.au n).QA ((w.au n).turn % 4));unfold Cl.nm uo;dsimp only;omega
def ao3{T S fP K:Nat}(J:eF m T S fP K)(hn:n<5):(m.step n).cw<=m.cw+1:=by
 cases h:(m.au n).up with
 |false=>rw[oN h];omega
 |true=>
  obtain⟨rs,us,Z⟩:=(J.jO n hn).xV h;refine aaj hn (λj hj=>pI J hn hj) ?_
  cases M:(m.au n).PL with
  |some p=>
   unfold Cl.step;rw[ah (by rw[h];decide),M];dsimp only;have h1:=SH (w:=m.put n {m.au n with Qr:=(m.au n).data.length,PL:=none}) (n:=n) (p:=p);rw[AZ]at h1;unfold Cl.nm uo at h1⊢;rw[M];dsimp only at h1;have e0:Zq none=0:=rfl;rw[e0]at h1;omega
  |none=>
   have P:=qZ (n:=n) (λw=>Sv m n rs w/\w.nm n<=m.nm n) (λw l r ⟨H,A⟩ O I=>by
    obtain⟨h1,h2,h3,h4⟩:=q8 (λl hl=>nu (J.jC n hn l hl)) H O I;refine⟨h1.1,h4,?_⟩;have h5:=SG (w:=w.put n ((w.au n).box r)) (n:=n) (l:=l);rw[AZ]at h5;have h6:w.nm n=qJ w.PI+(JF l+qJ r+Zq (w.au n).PL):=by unfold Cl.nm uo;rw[I];rfl
    have h7:uo ((w.au n).box r)=qJ r+Zq (w.au n).PL:=rfl;omega) _ m E ⟨D8 h ⟨_,Z⟩,aB⟩
   rw[jX h M]
   split
   ·have:=adw (w:=m.more n) (n:=n);omega
   omega
def Uh:(w.QG l).cw<=w.cw+JF l:=by
 unfold Cl.QG
 split
 ·show w.cw<=_;omega
 split
 ·split
  ·unfold Cl.cw
   show qJ (w.PI++[_])+_<=_
   rw[wX,Ic,aAC (l:=ng _ _ _) ⟨by show(6:Int)≠0;decide,by show(6:Int)≠2;decide,by show(6:Int)≠3;decide,by show(6:Int)≠4;decide⟩];dsimp only;omega
  show w.cw<=_;omega
 split
 ·by_cases I:l.tg.toNat<5
  ·refine aaj I (λj h=>Ph h) ?_;rw[AZ];unfold Cl.nm uo;dsimp only;rw[wX,Ic];omega
  have e:∀j,j<5->(w.put l.tg.toNat {w.au l.tg.toNat with Pq:=(w.au l.tg.toNat).Pq++[l]}).au j=w.au j:=λj h=>Ph Y;unfold Cl.cw;rw[e 0 dQ,e 1 dQ,e 2 dQ,e 3 dQ,e 4 dQ]
  show qJ w.PI+_<=_
  omega
 omega
def Xp:∀(ls:List bY) {w:Cl},(ls.foldl Cl.QG w).cw<=w.cw+qJ ls
 |[],w=>aB
 |l::r,w=>by
  have h1:=Xp r (w:=w.QG l);have h:=Uh (w:=w) (l:=l);rw[wJ,qJ];omega
def Zr{fl:List bY}:({w with PI:=fl}:Cl).cw+qJ w.PI=w.cw+qJ fl:=by
 unfold Cl.cw;dsimp only;omega
def aiF:w.all.cw<=w.cw:=by
 have h1:=Xp w.PI (w:={w with PI:=[]});have h:=Zr (w:=w) (fl:=[]);have I:qJ []=0:=rfl;unfold Cl.all;omega
def adx{at_:Nat}{c s:Bool}:(w.pick at_ c s).cw<=w.cw+1:=by
 unfold Cl.pick
 split
 ·omega
 rename_i l h
 have h1:(if s=true then w else{w with PI:=w.PI.eraseIdx (at_ % w.PI.length)}:Cl).cw<=w.cw/\(if s=true then w else{w with PI:=w.PI.eraseIdx (at_ % w.PI.length)}:Cl).cw+JF l<=w.cw+1:=by
  have I:=Na l
  split
  ·omega
  have J:=Zr (w:=w) (fl:=w.PI.eraseIdx (at_ % w.PI.length));have M:=Kt _ _ _ h;omega
 dsimp only
 split
 ·exact fG Uh h1.2
 exact D9 h1.1
def Nb(hn:n<5)(h:uo x<=uo (w.au n)):(w.put n x).cw<=w.cw:=
 aaj (d:=0) hn (λj I=>Ph I) (by rw[AZ];unfold Cl.nm;omega)
def avy(h:∀j,j<5->uo (m'.au j)=uo (m.au j))(I:m'.PI=m.PI):m'.cw=m.cw:=by
 unfold Cl.cw;rw[I,h 0 dQ,h 1 dQ,h 2 dQ,h 3 dQ,h 4 dQ]
def Ui:(w.aF n q b).cw=w.cw:=avy (λj _=>by
 by_cases e:j=n
 ·subst e;rw[show(w.aF j q b).au j={w.au j with bs:=Qv (w.au j).bs q b}from JR _ _ _];rfl
 rw[show(w.aF n q b).au j=w.au j from Ph e]) E
def Uj:(w.UR n q op a num).cw=w.cw:=rfl
def JG{JU:List Ev}{an:List kg}:∀(ls:List Nat) {w:Cl},(w.recovered n q JU an ls).cw=w.cw
 |[],_=>rfl
 |i::r,w=>by
  unfold Cl.recovered;rw[JG r,Uj]
def abU:(w.recover n q).cw=w.cw:=by
 unfold Cl.recover
 split
 ·exact Uj
 exact JG _
def I7{bs:Nat->bF}:∀(ls:List Nat) {w:Cl},(Cl.UF n bs ls w).cw=w.cw
 |[],_=>rfl
 |q::r,w=>by
  unfold Cl.UF
  split
  ·exact I7 r
  rw[I7 r,Uj,Ui,abU]
def avz{T S fP K:Nat}(I:eF m T S fP K)(J:Ko ac):(m.UN ac).cw<=m.cw+1:=by
 obtain⟨a1,a2,a3,a4,a5,a6⟩:=J;have hn:ac.nd.toNat<5:=Y;unfold Cl.UN
 split
 ·unfold Cl.make
  split
  ·omega
  split
  ·omega
  split
  ·omega
  rename_i x h
  have hi:=SF h;have M:x.PL=(m.au ac.nd.toNat).PL:=by
   unfold Nd.write at h;obtain⟨d,_,rfl⟩:=wE.1 h;rfl
  have h1:=Nb (w:=m) (n:=ac.nd.toNat) (x:={x with Qr:=x.data.length,bs:=Qv x.bs ac.qu.toNat (jR ((m.au ac.nd.toNat).bs ac.qu.toNat) 1).1}) hn (by unfold uo;rw[<-hi,<-M];exact aB);exact D9 h1
 split
 ·show qJ (m.PI++[ze ac.nd ac.qu.toNat ac.op m.calls])+(uo (m.au 0)+(uo (m.au 1)+(uo (m.au 2)+(uo (m.au 3)+uo (m.au 4)))))<=m.cw+1
  have O:=Na (ze ac.nd ac.qu.toNat ac.op m.calls);rw[wX,Ic];unfold Cl.cw;omega
 split
 ·exact ao3 I hn
 split
 ·exact adx
 split
 ·exact D9 aiF
 split
 ·unfold Cl.Vz
  split
  ·exact D9 (Nb hn (aC _))
  omega
 split
 ·unfold Cl.start
  split
  ·omega
  split
  ·omega
  rw[I7];exact D9 (Nb hn (aC _))
 unfold Cl.move
 split
 ·omega
 split
 ·rw[Ui];omega
 omega
def aiG:∀(l:List Ac) {m:Cl} {k:Nat},Bs m k->(∀a∈l,Ko a)->k+l.length<=100000->(m.run l).cw<=m.cw+l.length
 |[],_,_,_,_,_=>aB
 |a::l,m,k,h,I,J=>by
  rw[mO]at J⊢;have h1:=I a iT;have O:=avz h h1;have Z:=aiG l (m:=m.UN a) (M7 h h1 Y) (λx M=>I x (dZ _ M)) Y
  show((m.UN a).run l).cw<=_
  omega
structure Vd (m:Cl):Prop where
 rol:∀n,n<5-> ∀q,2<=q->q<4->(vw m q n).GR=0
 nU:∀n,n<5-> ∀p,(m.au n).PL=some p->p.q<2
 jC:∀n,n<5-> ∀l∈(m.au n).Pq,l.q<2
 PI:∀l∈m.PI,l.q<2
def Vd.at_(h:Vd m)(hn:m'.au=Qv m.au n X)(Z:∀q,2<=q->q<4->(X.view q).GR=0)(hp:∀p,X.PL=some p->p.q<2)(hi:∀l∈X.Pq,l.q<2)(hf:∀l∈m'.PI,l∈m.PI\/l.q<2):Vd m':=by
 refine⟨λj M q h1 O=>?_,λj M p I=>?_,λj M l J=>?_,λl J=>(hf l J).elim (h.PI l) id⟩
 ·rw[xw hn];by_cases e:j=n
  ·subst e;rw[JR];exact Z q h1 O
  rw[Ph e];exact h.rol j M q h1 O
 ·rw[hn]at I;by_cases e:j=n
  ·subst e;rw[JR]at I;exact hp p I
  rw[Ph e]at I;exact h.nU j M p I
 rw[hn]at J;by_cases e:j=n
 ·subst e;rw[JR]at J;exact hi l J
 rw[Ph e]at J;exact h.jC j M l J
def Vd.au(h:Vd m)(hn:m'.au=m.au)(O:∀l∈m'.PI,l∈m.PI\/l.q<2):Vd m':=by
 have e:∀q j,vw m' q j=vw m q j:=λq j=>by unfold vw;rw[hn]
 exact⟨λj I q h1 Z=>by rw[e];exact h.rol j I q h1 Z,λj I p J=>h.nU j I p (by rwa [hn]at J),λj I l M=>h.jC j I l (by rwa [hn]at M),λl M=>(O l M).elim (h.PI l) id⟩
def uK{fl:List bY}{x:bY}(I:x.q<2):∀l∈fl++[x],l∈fl\/l.q<2:=λl h=>by
 rcases bD.1 h with h|h
 ·exact .inl h
 rw[aI]at h;subst h;exact .inr I
def Xq{b:bF}{a:Int}{fl:List bY}(I:q<2):∀l∈ni n q b a fl,l∈fl\/l.q<2:=λl h=>by
 unfold ni at h
 split at h
 ·exact .inl h
 exact uK (x:=Jv n q b a) I l h
def Vd.view(h:Vd m)(hn:n<5)(I:(m.au n).up=true){q:Nat}(h1:2<=q)(J:q<4):((m.au n).bs q).GR=0:=by
 have:=h.rol n hn q h1 J;rwa [jk I]at this
def aiI(h:Vd m)(hn:n<5)(J:(m.au n).up=true)(hp:(m.au n).PL=none)(hq:l.q<2)(H:Hnd m n l m'):Vd m':=by
 cases H with
 |same=>exact h
 |done a h1 h2=>
  unfold Cl.done
  split
  ·exact h.au E (uK (x:=nS n l.num a nowhere) (by show 0<2;omega))
  exact h.au E (uK (x:=nS n l.num a ((m.au n).QC l.q)) (by show 0<2;omega))
 |UG h1=>exact h.au E (uK (x:=qI n l.q ((m.au n).bs l.q)) hq)
 |part b h1 h2 h3 h4 h5 h6=>
  obtain⟨g1,g2,g3⟩:=sD (m:=m.aF n l.q b) (n:=n) (q:=l.q) (a:=l.at_);have M:((m.aF n l.q b).part n l.q l.at_).au=Qv m.au n ((m.au n).aF l.q b):=g2;refine h.at_ M (λq O Z=>?_) (h.nU n hn) (h.jC n hn) (λx I=>?_)
  ·rw[fO (X:=(m.au n).aF l.q b) J];rw[show((m.au n).aF l.q b).bs q=(m.au n).bs q from Ph Y];exact h.view hn J O Z
  rw[g3]at I;exact Xq hq x I
 |PL p dX d h1 h2 h3 h4 h5=>
  have hY:dX.bs=(m.au n).bs/\dX.up=(m.au n).up/\dX.Pq=(m.au n).Pq:=by rcases h1 with h1|⟨_,h1⟩<;>rw[h1]<;>exact⟨E,E,E⟩
  refine h.at_ (n:=n) (X:={dX with data:=d,PL:=some p}) E (λq O Z=>?_) (λp' hp'=>?_) (λx I=>h.jC n hn x (by rw[<-hY.2.2];exact I)) (λx I=>.inl I)
  ·rw[fO (X:={dX with data:=d,PL:=some p}) (hY.2.1.trans J)]
   show(dX.bs q).GR=0
   rw[hY.1];exact h.view hn J O Z
  cases hp';rw[h2];exact hq
 |Uz h1=>
  refine h.at_ (n:=n) (X:=(m.au n).Uz n l) E (λq O Z=>?_) (h.nU n hn) (h.jC n hn) (λx I=>.inl I);rw[fO (X:=(m.au n).Uz n l) J];exact h.view hn J O Z
def agt{b:bF}{s:Bool}(h:q<2\/b.GR=0):∀l∈iG n q b s,l.q<2:=λl I=>by
 unfold iG at I
 rcases h with h|h
 ·rcases bD.1 I with I|I
  ·rcases bD.1 I with I|I
   ·split at I
    ·rw[aI]at I;subst I;exact h
    simp at I
   split at I
   ·rw[aI]at I;subst I;exact h
   simp at I
  split at I
  ·rw[aI]at I;subst I;exact h
  simp at I
 rw[ah Y,ah Y,ah Y]at I;simp at I
def Ul(h:Vd m)(hn:n<5)(J:(m.au n).up=true):Vd (m.lM n):=by
 refine h.at_ (n:=n) (X:={m.au n with turn:=(m.au n).turn+1}) E (λq M O=>?_) (h.nU n hn) (h.jC n hn) (λx I=>?_)
 ·rw[fO (X:={m.au n with turn:=(m.au n).turn+1}) J];exact h.view hn J M O
 rcases bD.1 I with I|I
 ·exact .inl I
 refine .inr (agt ?_ x I);by_cases c:(m.au n).turn % 4<2
 ·exact .inl c
 exact .inr (h.view hn J Y (mod_lt _ dQ))
def ady{T S fP K:Nat}(h:Vd m)(hB:eF m T S fP K)(hn:n<5):Vd (m.step n):=by
 cases I:(m.au n).up with
 |false=>rw[oN I];exact h
 |true=>
  obtain⟨rs,us,hU⟩:=(hB.jO n hn).xV I
  cases M:(m.au n).PL with
  |some p=>
   obtain⟨_,h2,h3⟩:=hU.JD p M;have hq:=h.nU n hn p M;obtain⟨X,hX⟩:∃X,m.au n=X:=⟨_,E⟩;have J:∀ {m':Cl} {dX:Nd},m'.au=Qv m.au n dX->dX.bs=Qv (m.au n).bs p.q (p.b (m.au n).bs)->dX.up=true->dX.PL=none->dX.Pq=(m.au n).Pq->(∀l∈m'.PI,l∈m.PI\/l.q<2)->Vd m':=by
    intro m' dX e1 e2 e3 e4 e5 e6;refine h.at_ e1 (λq h7 h8=>?_) (λp' Z=>by rw[e4]at Z;cases Z) (λx hx=>h.jC n hn x (by rw[<-e5];exact hx)) e6;rw[fO e3,e2,Ph Y];exact h.view hn I h7 h8
   cases p with
   |serve k JU op num a=>
    rw[kH E I M E h2.1];exact J (dX:=(m.au n).kN.aF k { (m.au n).bs k with JU:=JU}) E E I E E (uK (by show 0<2;omega))
   |QL k b=>
    rw[qb E I M];exact J (dX:=(m.au n).kN.aF k b) E E I E E (uK (x:=qI n k b) hq)
   |UK k b last=>
    cases last with
    |true=>
     rw[lK E I M];exact J (dX:={ ((m.au n).kN.aF k b)with QA:=Qv (m.au n).QA k false}) E E I E E (λl hl=>.inl hl)
    |false=>
     rw[vK E I M];exact J (dX:=(m.au n).kN.aF k b) E E I E E (uK (x:=qI n k b) hq)
   |gJ k b at_=>
    rw[sw E I M];exact J (dX:=(m.au n).kN.aF k b) E E I E E (Xq (q:=k) hq)
   |QE k b=>
    rw[nW E I M];exact J (dX:=(m.au n).kN.aF k b) E E I E E (λl hl=>.inl hl)
  |none=>
   have P:=qZ (n:=n) (λw=>Sv m n rs w/\Vd w) (λw l r ⟨H,A⟩ hp1 O=>by
    obtain⟨h1,h2,h3,h4⟩:=q8 (λl hl=>nu (hB.jC n hn l hl)) H hp1 O;refine⟨h1.1,h4,?_⟩;have A2:Vd (w.put n ((w.au n).box r)):=A.at_ (n:=n) (X:=(w.au n).box r) E (λq h7 h8=>A.rol n hn q h7 h8) (A.nU n hn) (λx hx=>A.jC n hn x (by rw[O];exact dZ _ hx)) (λx hx=>.inl hx);exact aiI A2 hn (by rw[bL];exact H.up) (by rw[bL];exact hp1) (A.jC n hn l (by rw[O];simp)) h3) _ m E ⟨D8 I ⟨_,hU⟩,h⟩
   rw[jX I M]
   split
   ·exact Ul P.2 hn P.1.up
   exact P.2
def adz(h:Vd m)(M:lF l)(J:l.q<2):Vd (m.QG l):=by
 obtain⟨_,_,h1,_⟩:=id M;unfold Cl.QG
 split
 ·exact h.au E λx I=>.inl I
 split
 ·split
  ·exact h.au E (uK (x:=ng l.fr l.q _) J)
  exact h.au E λx I=>.inl I
 split
 ·have hn:l.tg.toNat<5:=Y;refine h.at_ (n:=l.tg.toNat) (X:={m.au l.tg.toNat with Pq:=(m.au l.tg.toNat).Pq++[l]}) E (λq O Z=>h.rol _ hn q O Z) (h.nU _ hn) (λx I=>?_) (λx I=>.inl I);exact(uK J x I).elim (h.jC _ hn x) id
 exact h
def Xr:∀(ls:List bY) {m:Cl},Vd m->(∀l∈ls,lF l)->(∀l∈ls,l.q<2)->Vd (ls.foldl Cl.QG m)
 |[],_,h,_,_=>h
 |l::ls,m,h,J,M=>Xr ls (adz h (J l iQ) (M l iQ)) (λx I=>J x (by simp[I])) λx I=>M x (by simp[I])
def SI(h:Vd m)(I:∀l∈m.PI,lF l):Vd m.all:=
 Xr m.PI (m:={m with PI:=[]}) (h.au E λx J=>by cases J) I h.PI
def ao4{at_:Nat}{c s:Bool}(h:Vd m)(O:∀l∈m.PI,lF l):Vd (m.pick at_ c s):=by
 unfold Cl.pick
 split
 ·exact h
 rename_i l I
 have J:=jm I;have M:Vd (if s=true then m else{m with PI:=m.PI.eraseIdx (at_ % m.PI.length)}):=by
  split
  ·exact h
  exact h.au E λx Z=>.inl (Mq Z)
 dsimp only
 split
 ·exact adz M (O l J) (h.PI l J)
 exact M
def adA{tg:Int}(h:Vd m)(hq:q<2):Vd (m.move q tg):=by
 unfold Cl.move
 split
 ·exact h
 rename_i I
 split
 ·obtain⟨hn,_,_⟩:=qd (d:=m.off) (q:=q) (λe=>I (.inl e));generalize (aN m.off q).1.node.toNat=n at*;have J:(m.au n).up=true:=by
   cases e:(m.au n).up with
   |true=>rfl
   |false=>exact av (.inr (.inr e)) I
  refine h.at_ (n:=n) (X:=(m.au n).aF q (wh ((m.au n).bs q) tg).1) E (λk M O=>?_) (h.nU n hn) (h.jC n hn) (λx Z=>.inl Z);rw[fO (X:=(m.au n).aF q _) J,show((m.au n).aF q (wh ((m.au n).bs q) tg).1).bs k=(m.au n).bs k from Ph Y];exact h.view hn J M O
 exact h
end
def aAD:Vd nH:=by
 have I:∀n,nH.au n=nd0\/nH.au n=nY 0\/nH.au n=nY 1:=λn=>by
  have e:nH.au n=Qv (Qv l9.au 0 (nY 0)) 1 (nY 1) n:=rfl;rw[e];by_cases c1:n=1
  ·rw[c1,JR];exact .inr (.inr E)
  by_cases c0:n=0
  ·rw[Ph c1,c0,JR];exact .inr (.inl E)
  rw[Ph c1,Ph c0];exact .inl E
 refine⟨λn hn q h1 M=>?_,λn hn p J=>?_,λn hn l h=>?_,λl h=>by cases h⟩
 ·unfold vw
  rcases I n with e|e|e<;>rw[e]
  ·rw[fO E];rfl
  ·rw[fO E];show(Qv (λ_=>bV) 0 _ q).GR=0;rw[Ph Y];rfl
  rw[fO E];show(Qv (λ_=>bV) 1 _ q).GR=0;rw[Ph Y];rfl
 ·rcases I n with e|e|e<;>rw[e]at J<;>cases J
 rcases I n with e|e|e<;>rw[e]at h<;>cases h
def eG(f:bY->Nat):List bY->Nat
 |[]=>0
 |l::r=>f l+eG f r
def Cl.ws(f:bY->Nat)(m:Cl):Nat:=eG f m.PI+(eG f (m.au 0).Pq+(eG f (m.au 1).Pq+(eG f (m.au 2).Pq+(eG f (m.au 3).Pq+eG f (m.au 4).Pq))))
structure Wy where
 M:Nat
 own:Nat->Nat
 R:Nat
 tg:Int
def calm(F:Wy)(l:bY):Prop:=(1<=l.ep/\l.ep<=F.M/\l.tg=F.own l.ep.toNat)\/(l.ep=F.M+1/\F.R=1/\l.tg=F.tg)
instance (F:Wy)(l:bY):Decidable (calm F l):=by unfold calm;exact inferInstance
def uF(F:Nat->Wy)(l:bY):Nat:=if l.kd=0 then 46 else if l.kd=4/\ ¬calm (F l.q) l then 184 else 0
def SK(r:Int):Nat:=if r=2 then 2 else if r=3 then 1 else 0
def Xt(F:Wy)(j:Nat)(b:bF):Nat:=if F.R=1/\(j:Int)=F.tg then 46*(302-if b.ep=F.M+1 then b.JU.length else 0)else 0
def fi(F:Wy)(j:Nat)(b:bF):Nat:=46*((F.M:Int)+1+F.R-b.ep).toNat+46*SK b.GR+Xt F j b
def qK(X:Nd)(q:Nat):bF:=match X.PL with
 |some p=>if p.q=q then p.b X.bs else X.bs q
 |none=>X.bs q
noncomputable def zI(m:Cl)(q:Nat)(g:Gh):Wy:=⟨g.m,g.own,if (vw m q g.o).GR=1 then 0 else 1,(vw m q g.o).tg⟩
def nI(F F':Wy):Prop:=(F'.M=F.M/\(∀k,k<=F.M->F'.own k=F.own k)/\F'.R=F.R/\F'.tg=F.tg)\/
 (F'.M=F.M+1/\(∀k,k<=F.M->F'.own k=F.own k)/\(F'.own (F.M+1):Int)=F.tg/\F.R=1/\F'.R=0)
section
variable {m w m':Cl}{n q:Nat}{X X':Nd}{l:bY}{p:cZ}{f f':bY->Nat}{F F':Wy}{g g':Gh}{b b':bF}
def nI.refl(F:Wy):nI F F:=.inl ⟨E,λ_ _=>E,E,E⟩
def nI.clm(h:nI F F')(I:calm F l):calm F' l:=by
 unfold calm at I⊢
 rcases h with⟨h1,J,O,Z⟩|⟨h1,J,O,Z,h5⟩
 ·rcases I with⟨a,b,c⟩|⟨a,b,c⟩
  ·exact .inl ⟨a,by omega,by rw[J _ Y];exact c⟩
  exact .inr ⟨by omega,by omega,by rw[Z];exact c⟩
 rcases I with⟨a,b,c⟩|⟨a,b,c⟩
 ·exact .inl ⟨a,by omega,by rw[J _ Y];exact c⟩
 refine .inl ⟨by omega,by omega,?_⟩;rw[show l.ep.toNat=F.M+1 by omega,O];exact c
def nI.fi_(h:nI F F'):fi F' n b<=fi F n b:=by
 unfold fi Xt
 rcases h with⟨h1,O,I,J⟩|⟨h1,O,I,J,Z⟩
 ·rw[h1,I,J];exact aB
 rw[ah (λh=>by omega:¬(F'.R=1/\(n:Int)=F'.tg))];have:((F'.M:Int)+1+F'.R-b.ep).toNat=((F.M:Int)+1+F.R-b.ep).toNat:=Y;rw[this];omega
def nI.lw{F F':Nat->Wy}(h:nI (F l.q) (F' l.q)):uF F' l<=uF F l:=by
 unfold uF
 split
 ·exact aB
 split
 ·rename_i h1 I
  rw[aj ⟨I.1,λc=>I.2 (h.clm c)⟩];exact aB
 exact aC _
def yg:∀(a b:List bY),eG f (a++b)=eG f a+eG f b
 |[],b=>by simp[eG]
 |l::a,b=>by rw[wO,eG,eG,yg a b];omega
def NS:eG f [l]=f l:=rfl
def wY:∀ {a:List bY},(∀l∈a,f' l<=f l)->eG f' a<=eG f a
 |[],_=>aB
 |l::a,h=>by
  have h1:=h l iT;have J:=wY (a:=a) λx I=>h x (dZ _ I);rw[eG,eG];omega
def Qe(h1:∀l∈m.PI,f' l<=f l)(I:∀n,n<5-> ∀l∈(m.au n).Pq,f' l<=f l):m.ws f'<=m.ws f:=by
 have h:=wY h1;have J:=wY (I 0 dQ);have M:=wY (I 1 dQ);have O:=wY (I 2 dQ);have Z:=wY (I 3 dQ);have i4:=wY (I 4 dQ);unfold Cl.ws;omega
def Le{d:Nat}(hn:n<5)(I:∀j,j≠n->(m'.au j).Pq=(m.au j).Pq)(h:eG f m'.PI+eG f (m'.au n).Pq+d<=eG f m.PI+eG f (m.au n).Pq):m'.ws f+d<=m.ws f:=by
 unfold Cl.ws
 rcases five hn with rfl|rfl|rfl|rfl|rfl
 ·rw[I 1 dQ,I 2 dQ,I 3 dQ,I 4 dQ];omega
 ·rw[I 0 dQ,I 2 dQ,I 3 dQ,I 4 dQ];omega
 ·rw[I 0 dQ,I 1 dQ,I 3 dQ,I 4 dQ];omega
 ·rw[I 0 dQ,I 1 dQ,I 2 dQ,I 4 dQ];omega
 rw[I 0 dQ,I 1 dQ,I 2 dQ,I 3 dQ];omega
def adB(h:∀x:bY,x.kd=6->f x=0)(I:lF l):(w.QG l).ws f<=w.ws f+f l:=by
 unfold Cl.QG
 split
 ·show w.ws f<=_;omega
 split
 ·split
  ·unfold Cl.ws
   show eG f (w.PI++[_])+_<=_
   rw[yg,NS,h _ E];dsimp only;omega
  show w.ws f<=_;omega
 split
 ·obtain⟨_,_,h1,_⟩:=id I;have J:l.tg.toNat<5:=Y;have:=Le (m:={w with PI:=w.PI++[l]}) (m':=w.put l.tg.toNat {w.au l.tg.toNat with Pq:=(w.au l.tg.toNat).Pq++[l]}) (f:=f) (d:=0) J (λj M=>by
   show(Qv w.au _ _ j).Pq=_
   rw[Ph M]) (by
   rw[bL]
   show eG f w.PI+eG f ((w.au l.tg.toNat).Pq++[l])+0<=eG f (w.PI++[l])+eG f (w.au l.tg.toNat).Pq
   rw[yg,yg];omega)
  have e:({w with PI:=w.PI++[l]}:Cl).ws f=w.ws f+f l:=by
   unfold Cl.ws;dsimp only;rw[yg,NS];omega
  omega
 omega
def Xu(h:∀x:bY,x.kd=6->f x=0):∀(ls:List bY) {w:Cl},(∀l∈ls,lF l)->(ls.foldl Cl.QG w).ws f<=w.ws f+eG f ls
 |[],w,_=>aB
 |l::r,w,I=>by
  have h1:=Xu h r (w:=w.QG l) λx J=>I x (dZ _ J);have M:=adB (w:=w) h (I l iT);rw[wJ,eG];omega
def FB(h:∀x:bY,x.kd=6->f x=0)(I:∀l∈m.PI,lF l):m.all.ws f<=m.ws f:=by
 have h1:=Xu h m.PI (w:={m with PI:=[]}) I;have J:({m with PI:=[]}:Cl).ws f+eG f m.PI=m.ws f:=by unfold Cl.ws;dsimp only[eG];omega
 unfold Cl.all;omega
def aAE{F:Nat->Wy}(x:bY)(h:x.kd=6):uF F x=0:=by
 unfold uF;rw[ah Y,ah (λc=>by omega)]
def ahp{F:Nat->Wy}{x:bY}(I:x.kd≠0)(h:x.kd=4->calm (F x.q) x):uF F x=0:=by
 unfold uF;rw[ah I,ah (λc=>c.2 (h c.1))]
def avA{F:Nat->Wy}:uF F l<=184*JF l:=by
 unfold uF JF
 split
 ·rename_i h;rw[aj (.inl h)];decide
 split
 ·rename_i h;rw[aj (.inr (.inr (.inr h.1)))];decide
 exact aC _
def aAF{F:Nat->Wy}:m.ws (uF F)<=184*m.cw:=by
 have h:∀a:List bY,eG (uF F) a<=184*qJ a:=by
  intro a
  induction a with
  |nil=>exact aC _
  |cons l r I=>
   have:=avA (l:=l) (F:=F);rw[eG,qJ];omega
 have J:=h m.PI;have M:=h (m.au 0).Pq;have O:=h (m.au 1).Pq;have Z:=h (m.au 2).Pq;have i3:=h (m.au 3).Pq;have i4:=h (m.au 4).Pq;unfold Cl.ws Cl.cw uo;omega
def jP(h:X.PL=none):qK X q=X.bs q:=by unfold qK;rw[h]
def q9(h:X.PL=some p)(I:p.q=q):qK X q=p.b X.bs:=by unfold qK;rw[h];exact aj I
def Ba(h:X.PL=some p)(I:p.q≠q):qK X q=X.bs q:=by unfold qK;rw[h];exact ah I
def JH{r:Int}(h:r=0\/r=4\/r=1):SK r=0:=by unfold SK;rw[ah Y,ah Y]
def adC(h:SK b'.GR=SK b.GR)(he:b'.ep=b.ep)(hv:b.JU.length<=b'.JU.length):fi F n b'<=fi F n b:=by
 unfold fi Xt;rw[h,he]
 split
 ·split<;>omega
 exact iJ _
def ao5(h:b'.GR=b.GR)(he:b'.ep=b.ep)(hv:b'.JU=b.JU):fi F n b'=fi F n b:=by
 unfold fi Xt;rw[h,he,hv]
def akA{V:Nat->bF}{P:Nat->Option cZ}{U:Nat->Bool}{Lt:bY->Prop}{pl:Pl}{sh:Nat->Int×Int}{sv:List l5}{bs:Nat->bF}{FF:Nat->Wy}(I:UD g V P U Lt pl sh sv)(hn:n<5)(J:V n=bs l.q)(h:p.q=l.q)(hp:p.ok bs)(hS:Src (bs l.q) l p)(hk:HY g V n p)
  (Fz:l.tg=n) (hl3:l.JU.length<=3) (hG:g.G.length<=300) (hM:(FF l.q).M=g.m) (ho:(FF l.q).own=g.own):46*(p.rs bs).length+fi (FF l.q) n (p.b bs)<=uF FF l+fi (FF l.q) n (bs l.q):=by
 have hlen:=ads h hp hS hl3
 cases p with
 |serve k JU op num a=>
  have e:k=l.q:=h;subst e;obtain⟨s1,_⟩:=hS;obtain⟨_,O,_⟩:=hp;have h1:fi (FF l.q) n ((cZ.serve l.q JU op num a).b bs)<=fi (FF l.q) n (bs l.q):=adC E E (by show _<=JU.length;rw[O,aY];omega);have h3:uF FF l=46:=aj s1;have Z:((cZ.serve l.q JU op num a).rs bs).length=1:=rfl;omega
 |QL k x=>
  have e:k=l.q:=h;subst e;obtain⟨j,j1,j2,j3,j4,j5⟩:=hk;rw[J]at j4 j5;have Z:((cZ.QL l.q x).rs bs).length=1:=rfl;have hx:(cZ.QL l.q x).b bs=x:=rfl;rw[Z,hx,j1];unfold fi Xt;dsimp only;rw[JH (r:=(4:Int)) Y,JH (r:=(bs l.q).GR) Y,hM];by_cases c:(FF l.q).R=1/\(n:Int)=(FF l.q).tg
  ·rw[aj c,aj c,ah (by omega:¬(bs l.q).ep=(g.m:Int)+1)]
   split
   ·rw[length_nil];omega
   omega
  rw[ah c,ah c];omega
 |UK k x last=>
  have e:k=l.q:=h;subst e;obtain⟨es,g1,g2,g3,g4,g5,g6,g7⟩:=xW hp;obtain⟨s1,s2,s3,s4,s5,s6,s7,s8,s9⟩:=hS;obtain⟨k1,k2,k3⟩:=hk;rw[J]at k1;have hrs:((cZ.UK l.q x last).rs bs).length=x.JU.length-(bs l.q).JU.length:=by
   rw[g7,aY,gK,dL]
   cases last with
   |true=>simp only[if_true,length_singleton]at*;omega
   |false=>simp only[Bool.false_eq_true,if_false,length_nil]at*;omega
  have hxl:(bs l.q).JU.length<=x.JU.length:=Y;have hxr:x.GR=4\/x.GR=1:=by
   cases last with
   |true=>obtain⟨_,_,_,a4,_⟩:=k3 E;rw[a4];exact .inr E
   |false=>obtain⟨j,a1,_⟩:=k2 E;rw[a1];exact .inl (by show(V n).GR=4;rw[J];exact k1)
  have hxG:x.JU.length<=301:=by
   cases last with
   |true=>obtain⟨_,_,_,a4,_⟩:=k3 E;rw[a4];show(g.G++[bC]).length<=301;rw[aY,lZ];omega
   |false=>obtain⟨j,a1,_⟩:=k2 E;rw[a1];show(g.G.take j).length<=301;rw[dV];omega
  have hb:(cZ.UK l.q x last).b bs=x:=rfl;rw[hrs]at hlen;rw[hrs,hb];by_cases c:calm (FF l.q) l
  ·rcases c with⟨c1,c2,c3⟩|⟨c1,c2,c3⟩
   ·exfalso
    have Qz:n≠g.o:=I.sF (.inr (by rw[J];exact k1));rw[hM]at c2;rw[ho,Fz]at c3
    rcases I.p8 n hn Qz with⟨h5,_⟩|⟨_,h5,_⟩|⟨k',_,O,h3,Z,_,_,_,h8⟩
    ·rw[J]at h5;omega
    ·rw[J]at h5;omega
    rw[J]at O;rw[show l.ep.toNat=k'+1 by omega]at c3;exact h8 Y Y
   rw[Fz]at c3;have hc:(FF l.q).R=1/\(n:Int)=(FF l.q).tg:=⟨c2,c3⟩;have he:(bs l.q).ep=((FF l.q).M:Int)+1:=by rw[s3];exact c1
   unfold fi Xt;rw[JH (r:=x.GR) Y,JH (r:=(bs l.q).GR) Y,g6];simp only[if_pos hc,if_pos he];omega
  have h3:uF FF l=184:=by
   unfold uF;rw[ah Y,aj ⟨s1,c⟩]
  have h1:fi (FF l.q) n x<=fi (FF l.q) n (bs l.q):=adC (by rw[JH (r:=x.GR) Y,JH (r:=(bs l.q).GR) Y]) g6 hxl;omega
 |gJ k x a=>
  have e:k=l.q:=h;subst e;obtain⟨h1,O⟩:=hp;have Z:((cZ.gJ l.q x a).rs bs).length=1:=rfl;have hb:(cZ.gJ l.q x a).b bs=x:=rfl;rw[Z,hb,O];unfold fi Xt;dsimp only;rw[show SK (3:Int)=1 from E,h1,show SK (2:Int)=2 from E];omega
 |QE k x=>
  have e:k=l.q:=h;subst e;obtain⟨h1,O⟩:=hp;obtain⟨_,_,k3⟩:=hk;rw[J]at k3;have Z:((cZ.QE l.q x).rs bs).length=1:=rfl;have hb:(cZ.QE l.q x).b bs=x:=rfl;rw[Z,hb,O];unfold fi Xt;dsimp only;have hne:¬(bs l.q).ep=(g.m:Int)+1:=Y;rw[show SK (0:Int)=0 from E,h1,show SK (3:Int)=1 from E,hM];simp only[if_neg hne];omega
end
def cu(l:bY):Nat:=if l.kd=0 then 1 else 0
def ES:Option cZ->Nat
 |some (.serve _ _ _ _ _)=>1
 |_=>0
def Cl.c0(m:Cl):Nat:=m.ws cu+(ES (m.au 0).PL+(ES (m.au 1).PL+(ES (m.au 2).PL+(ES (m.au 3).PL+ES (m.au 4).PL))))
noncomputable def FF(m:Cl)(G:Nat->Gh):Nat->Wy:=λq=>zI m q (G q)
noncomputable def Dv(m:Cl)(G:Nat->Gh)(n:Nat):Nat:=(m.au n).data.length+m.ws (uF (FF m G))+(fi (FF m G 0) n (qK (m.au n) 0)+fi (FF m G 1) n (qK (m.au n) 1))
structure Rmc (m:Cl)(G:Nat->Gh)(B c e:Nat):Prop where
 up:∀n,n<5->(m.au n).up=true
 vd:Vd m
 qi:∀q,q<2->QI m q (G q)
 Dv:∀n,n<5->Dv m G n+c<=B
 cap:∀q,q<2->(G q).G.length+m.c0+e+(FF m G q).R<=300
def Rm(m:Cl)(G:Nat->Gh)(B:Nat):Prop:=Rmc m G B 0 0
section
variable {m w m':Cl}{n q B c e:Nat}{X X':Nd}{l:bY}{p:cZ}{G G':Nat->Gh}{g g':Gh}{b b':bF}{rs us:List dN}{V:Nat->bF}{P:Nat->Option cZ}{U:Nat->Bool}{Lt:bY->Prop}{pl:Pl}{sh:Nat->Int×Int}{sv:List l5}{d:Nat}{dX:Nd}
def ahq{Q:Nat->Gh->Prop}(h:∀q,q<2-> ∃g,Q q g):∃G:Nat->Gh,∀q,q<2->Q q (G q):=by
 obtain⟨a,I⟩:=h 0 dQ;obtain⟨b,J⟩:=h 1 dQ;refine⟨λq=>if q=0 then a else b,λq M=>?_⟩;have:q=0\/q=1:=Y
 rcases this with rfl|rfl
 ·exact I
 exact J
def nI.trans{F F' J:Wy}(h:nI F F')(M:nI F' J):nI F J:=by
 rcases h with⟨a1,a2,a3,a4⟩|⟨a1,a2,a3,a4,a5⟩
 ·rcases M with⟨b1,b2,b3,b4⟩|⟨b1,b2,b3,b4,b5⟩
  ·exact .inl ⟨by omega,λk I=>(b2 k Y).trans (a2 k I),by omega,b4.trans a4⟩
  exact .inr ⟨by omega,λk I=>(b2 k Y).trans (a2 k I),by rw[<-a1,b3,a4],by omega,b5⟩
 rcases M with⟨b1,b2,b3,b4⟩|⟨b1,b2,b3,b4,b5⟩
 ·exact .inr ⟨by omega,λk I=>(b2 k Y).trans (a2 k I),by rw[b2 _ Y];exact a3,a4,by omega⟩
 omega
def JI(x:bY)(h:x.kd=6):cu x=0:=ah Y
def vM{x:bY}(h:x.kd≠0):cu x=0:=ah h
def Zt{f:bY->Nat}:∀ {a:List bY},(∀x∈a,f x=0)->eG f a=0
 |[],_=>rfl
 |l::a,h=>by rw[eG,h l iT,Zt (a:=a) λx I=>h x (dZ _ I)]
def qP{f:bY->Nat}{new:List bY}(hn:n<5)(h:∀j,j≠n->m'.au j=m.au j)(hi:(m'.au n).Pq=(m.au n).Pq)(I:m'.PI=m.PI++new)(J:∀x∈new,f x=0):m'.ws f<=m.ws f:=
 Le (d:=0) hn (λj M=>by rw[h j M]) (by rw[hi,I,yg,Zt J];omega)
def JJ{d d':Nat}(hn:n<5)(h:∀j,j≠n->m'.au j=m.au j)(hw:m'.ws cu+d<=m.ws cu)(I:ES (m'.au n).PL+d'<=ES (m.au n).PL+d):m'.c0+d'<=m.c0:=by
 unfold Cl.c0
 rcases five hn with rfl|rfl|rfl|rfl|rfl
 ·rw[h 1 dQ,h 2 dQ,h 3 dQ,h 4 dQ];omega
 ·rw[h 0 dQ,h 2 dQ,h 3 dQ,h 4 dQ];omega
 ·rw[h 0 dQ,h 1 dQ,h 3 dQ,h 4 dQ];omega
 ·rw[h 0 dQ,h 1 dQ,h 2 dQ,h 4 dQ];omega
 rw[h 0 dQ,h 1 dQ,h 2 dQ,h 3 dQ];omega
def NT{new:List bY}(hv:Vd m)(Z:∀j,j<5->Dv m G j+c<=B)(hn:n<5)(M:∀j,j≠n->m'.au j=m.au j)(hi:(m'.au n).Pq=(m.au n).Pq)(hf:m'.PI=m.PI++new)
  (h:∀q,q<2->nI (FF m G q) (FF m' G' q)) (h0:∀x∈new,uF (FF m' G') x=0)
  (hd:(m'.au n).data.length+(fi (FF m G 0) n (qK (m'.au n) 0)+fi (FF m G 1) n (qK (m'.au n) 1))<=(m.au n).data.length+c+(fi (FF m G 0) n (qK (m.au n) 0)+fi (FF m G 1) n (qK (m.au n) 1))):∀j,j<5->Dv m' G' j<=B:=by
 have h1:m'.ws (uF (FF m' G'))<=m.ws (uF (FF m' G')):=qP hn M hi hf h0;have h2:m.ws (uF (FF m' G'))<=m.ws (uF (FF m G)):=Qe (λl I=>(h _ (hv.PI l I)).lw) λj J l I=>(h _ (hv.jC j J l I)).lw;intro j J;have hp:=Z j J;have f0:=(h 0 dQ).fi_ (n:=j) (b:=qK (m'.au j) 0);have f1:=(h 1 dQ).fi_ (n:=j) (b:=qK (m'.au j) 1);unfold Dv at hp⊢;by_cases O:j=n
 ·subst O;omega
 rw[M j O]at f0 f1⊢;omega
def xY(I:UD g V P U Lt pl sh sv)(hn:n<5)(J:(V n).GR=2\/(V n).GR=3){x:bY}(he:x.ep=(V n).ep+1)(h:x.tg=(V n).tg):calm ⟨g.m,g.own,if (V g.o).GR=1 then 0 else 1,(V g.o).tg⟩ x:=by
 by_cases e:n=g.o
 ·rw[e]at J he h;rw[I.wz]at he;exact .inr ⟨he,ah Y,h⟩
 rcases I.p8 n hn e with⟨Z,_⟩|⟨k,M,k2,k3,k4,k5,k6,O⟩|⟨k,M,_⟩
 ·omega
 ·refine .inl ⟨by omega,by show x.ep<=(g.m:Int);omega,?_⟩
  show x.tg=((g.own x.ep.toNat:Nat):Int)
  rw[show x.ep.toNat=k+1 by omega,h,O]
 omega
def MB(hu:(m.au n).up=true)(H:Hnd m n l m'):∃new,m'.PI=m.PI++new/\ ∀x∈new,x.kd≠0/\(x.kd=4->x.q=l.q/\(((m.au n).bs l.q).GR=2\/((m.au n).bs l.q).GR=3)/\x.ep=((m.au n).bs l.q).ep+1/\x.tg=((m.au n).bs l.q).tg):=by
 have one:∀ {x:bY} {Q:bY->Prop},Q x-> ∀y∈[x],Q y:=λh y M=>by rw[aI]at M;subst M;exact h
 cases H with
 |same=>exact⟨[],by simp,λx J=>by cases J⟩
 |done a h1 O=>
  unfold Cl.done
  split
  ·exact⟨_,E,one ⟨by show(1:Int)≠0;decide,λh=>av (show(1:Int)=4 from h) dQ⟩⟩
  exact⟨_,E,one ⟨by show(1:Int)≠0;decide,λh=>av (show(1:Int)=4 from h) dQ⟩⟩
 |UG h1=>exact⟨_,E,one ⟨by show(3:Int)≠0;decide,λh=>av (show(3:Int)=4 from h) dQ⟩⟩
 |part b h1 O h3 I h5 h6=>
  obtain⟨g1,g2,Z⟩:=sD (m:=m.aF n l.q b) (n:=n) (q:=l.q) (a:=l.at_);have e0:((m.aF n l.q b).au n).bs l.q=b:=by rw[show(m.aF n l.q b).au n=(m.au n).aF l.q b from bL _];exact JR _ _ _
  rw[e0]at Z;rw[Z];unfold ni
  split
  ·exact⟨[],by rw[bI];rfl,λx J=>by cases J⟩
  refine⟨_,E,one ⟨by show(4:Int)≠0;decide,λ_=>⟨E,?_,?_,?_⟩⟩⟩
  ·rcases I with⟨I,_⟩|⟨I,_⟩
   ·exact .inl I
   exact .inr I
  ·show b.ep+1=_
   rcases I with⟨_,I,_⟩|⟨_,I⟩<;>rw[I]
  show b.tg=_
  rcases I with⟨_,I,_⟩|⟨_,I⟩<;>rw[I]
 |PL p dX d h1 O h3 I h5=>exact⟨[],by rw[bI];rfl,λx J=>by cases J⟩
 |Uz h1=>exact⟨[],by rw[bI];rfl,λx J=>by cases J⟩
def Zu(hu:(m.au n).up=true)(M:(m.au n).PL=none)(H:Hnd m n l m'):
 (∀q,((m'.au n).bs q).GR=((m.au n).bs q).GR/\((m'.au n).bs q).tg=((m.au n).bs q).tg/\((m'.au n).bs q).ep=((m.au n).bs q).ep/\((m'.au n).bs q).JU=((m.au n).bs q).JU)/\
  (((m'.au n).PL=none/\(m'.au n).data=(m.au n).data)\/(∃p,(m'.au n).PL=some p/\p.q=l.q/\p.ok (m.au n).bs/\(m'.au n).bs=(m.au n).bs/\Src ((m.au n).bs l.q) l p/\(m'.au n).data.length<=(m.au n).data.length+46*(p.rs (m.au n).bs).length)):=by
 have I:∀ {dX:Nd},dX=m.au n->(∀q,(dX.bs q).GR=((m.au n).bs q).GR/\(dX.bs q).tg=((m.au n).bs q).tg/\(dX.bs q).ep=((m.au n).bs q).ep/\(dX.bs q).JU=((m.au n).bs q).JU)/\((dX.PL=none/\dX.data=(m.au n).data)\/(∃p,dX.PL=some p/\p.q=l.q/\p.ok (m.au n).bs/\dX.bs=(m.au n).bs/\Src ((m.au n).bs l.q) l p/\dX.data.length<=(m.au n).data.length+46*(p.rs (m.au n).bs).length)):=λh=>by
  subst h;exact⟨λq=>⟨E,E,E,E⟩,.inl ⟨M,E⟩⟩
 cases H with
 |same=>exact I E
 |done a h1 O=>exact I (by rw[(xX (m:=m)).2.1])
 |UG h1=>exact I E
 |part b h1 O Z J h5 h6=>
  obtain⟨g1,g2,g3⟩:=sD (m:=m.aF n l.q b) (n:=n) (q:=l.q) (a:=l.at_);have e0:((m.aF n l.q b).part n l.q l.at_).au n=(m.au n).aF l.q b:=by rw[g2];exact bL _
  rw[e0];refine⟨λq=>?_,.inl ⟨M,E⟩⟩;by_cases hq:q=l.q
  ·rw[hq,show((m.au n).aF l.q b).bs l.q=b from JR _ _ _]
   rcases J with⟨_,J,_⟩|⟨_,J⟩<;>rw[J]<;>exact⟨E,E,E,E⟩
  rw[show((m.au n).aF l.q b).bs q=(m.au n).bs q from Ph hq];exact⟨E,E,E,E⟩
 |PL p dX d h1 O Z J h5=>
  have hY:dX.bs=(m.au n).bs:=by rcases h1 with h1|⟨_,h1⟩<;>rw[h1]<;>rfl
  rw[bL];dsimp only;rw[hY];refine⟨λq=>⟨E,E,E,E⟩,.inr ⟨p,E,O,Z,E,h5,?_⟩⟩;obtain⟨w1,_,_⟩:=vL J;have:=IZ (p.rs (m.au n).bs);rw[w1,aY];omega
 |Uz h1=>
  rw[bL];exact⟨λq=>⟨E,E,E,E⟩,.inl ⟨M,E⟩⟩
def JK(h:sN g g')(I:(vw m' q g.o).GR=(vw m q g.o).GR)(J:(vw m' q g.o).tg=(vw m q g.o).tg):zI m' q g'=zI m q g:=by
 unfold zI;rw[h.m,h.own,h.o,I,J]
def avB(h:m'.au n=m.au n):vw m' q n=vw m q n:=by unfold vw;rw[h]
def Zv(R:Rmc m G B (uF (FF m G) l) (cu l))(hB:B+46<=100000)(hn:n<5)(hU:qL (m.au n) rs [])(hp:(m.au n).PL=none)(hL:∀q,q<2->l.q=q->Hz (G q) (vw m q) (m.off.at q) l)(Fz:l.tg=n)(hl3:l.JU.length<=3)(hk:l.kd=0->bJ l.op=0/\l.op.kind≠4)(M:l.q<2)
  (l7:Da m m' n) (H:Hnd m n l m'):∃G',Rm m' G' B/\ ∀q,q<2->FF m' G' q=FF m G q:=by
 have hu:=R.up n hn;have hdat:(m.au n).data.length+46<=100000:=by
  have:=R.Dv n hn;unfold Dv at this;omega
 have hG:∀q,q<2->(G q).G.length<=300:=λq O=>by have:=R.cap q O;omega
 obtain⟨G',hG'⟩:=ahq (Q:=λq g'=>QI m' q g'/\sN (G q) g') λq O=>by
  obtain⟨g',h1,Z,_⟩:=adr (R.qi q O) hn hu hU hp (hL q O) Fz hk Y hdat (by have:=hG q O;omega) H;exact⟨g',h1,Z⟩
 have hu':(m'.au n).up=true:=l7.up.trans hu;obtain⟨hbs,WM⟩:=Zu hu hp H;have hVs:∀q j,(vw m' q j).GR=(vw m q j).GR/\(vw m' q j).tg=(vw m q j).tg:=λq j=>by
  by_cases e:j=n
  ·subst e;rw[jk hu,jk hu'];exact⟨(hbs q).1,(hbs q).2.1⟩
  rw[avB (l7.p8 j e)];exact⟨E,E⟩
 have hFe:∀q,q<2->FF m' G' q=FF m G q:=λq O=>JK (hG' q O).2 (hVs q _).1 (hVs q _).2;obtain⟨new,hf,hnew⟩:=MB hu H;have SL:∀x∈new,uF (FF m' G') x=0:=λx hx=>by
  obtain⟨h1,Z⟩:=hnew x hx;refine ahp h1 λh4=>?_;obtain⟨h5,h6,h7,h8⟩:=Z h4;rw[h5,hFe _ M];have hV:=jk (q:=l.q) hu;exact xY (R.qi _ M) hn (by rw[hV];exact h6) (by rw[hV];exact h7) (by rw[hV];exact h8)
 refine⟨G',⟨λj hj=>?_,aiI R.vd hn hu hp M H,λq O=>(hG' q O).1,?_,λq O=>?_⟩,hFe⟩
 ·by_cases e:j=n
  ·rw[e];exact hu'
  rw[l7.p8 j e];exact R.up j hj
 ·refine NT (c:=uF (FF m G) l) R.vd R.Dv hn l7.p8 l7.jC hf (λq O=>by rw[hFe q O];exact .refl _) SL ?_;have J:∀q,((m'.au n).PL=none\/ ∃p,(m'.au n).PL=some p/\p.q≠q)->fi (FF m G q) n (qK (m'.au n) q)=fi (FF m G q) n (qK (m.au n) q):=λq h=>by
   rw[jP hp];have e:qK (m'.au n) q=(m'.au n).bs q:=by
    rcases h with h|⟨p,h,Z⟩
    ·exact jP h
    exact Ba h Z
   rw[e];exact ao5 (hbs q).1 (hbs q).2.2.1 (hbs q).2.2.2
  rcases WM with⟨h1,Z⟩|⟨p,h1,Z,h3,h4,h5,h6⟩
  ·rw[J 0 (.inl h1),J 1 (.inl h1),Z];omega
  have hV:=jk (q:=l.q) hu;have hf:=(jI hU.tape hU.nE h3 (by rw[Z];omega)).2;have agn:=Zp (R.qi _ M) hn hV E (hL _ M E) Fz Z E h3 h5 hf;have hpp:=akA (FF:=FF m G) (R.qi _ M) hn hV Z h3 h5 agn Fz hl3 (hG _ M) E E;have e1:qK (m'.au n) l.q=p.b (m.au n).bs:=by rw[q9 h1 Z,h4]
  have e2:qK (m.au n) l.q=(m.au n).bs l.q:=jP hp;rw[<-e1,<-e2]at hpp;have h01:l.q=0\/l.q=1:=Y
  rcases h01 with e|e
  ·rw[e]at hpp;have:=J 1 (.inr ⟨p,h1,by rw[Z,e];decide⟩);omega
  rw[e]at hpp;have:=J 0 (.inr ⟨p,h1,by rw[Z,e];decide⟩);omega
 have hc:=R.cap q O;rw[hFe q O,(hG' q O).2.G];have hw:m'.ws cu+0<=m.ws cu:=qP hn l7.p8 l7.jC hf λx hx=>vM (hnew x hx).1;have hs:ES (m'.au n).PL<=cu l:=by
  rcases WM with⟨h1,_⟩|⟨p,h1,Z,h3,h4,h5,h6⟩
  ·rw[h1];exact aC _
  rw[h1]
  cases p with
  |serve k JU op num a=>rw[show cu l=1 from aj h5.1];exact aB
  |_=>exact aC _
 have h0:ES (m.au n).PL=0:=by rw[hp];rfl
 have:m'.c0<=m.c0+cu l:=by
  have I:=l7.p8;unfold Cl.c0
  rcases five hn with rfl|rfl|rfl|rfl|rfl
  ·rw[I 1 dQ,I 2 dQ,I 3 dQ,I 4 dQ];omega
  ·rw[I 0 dQ,I 2 dQ,I 3 dQ,I 4 dQ];omega
  ·rw[I 0 dQ,I 1 dQ,I 3 dQ,I 4 dQ];omega
  ·rw[I 0 dQ,I 1 dQ,I 2 dQ,I 4 dQ];omega
  rw[I 0 dQ,I 1 dQ,I 2 dQ,I 3 dQ];omega
 omega
def UD.top(I:UD g V P U Lt pl sh sv)(hn:n<5)(J:(V n).GR=1\/(V n).GR=2\/(V n).GR=3)(he:(g.m:Int)<=(V n).ep):n=g.o:=by
 by_cases e:n=g.o
 ·exact e
 rcases I.p8 n hn e with⟨M,_⟩|⟨k,h,O,Z,k4,_⟩|⟨k,h,_⟩
 ·omega
 ·omega
 omega
def zZ(I:QI m q g)(I':QI m' q g')(N:rG g g')(hn:n<5)(hV:vw m' q=Qv (vw m q) n b')
  (h1:n=g.o->b'.ep=(vw m q n).ep/\b'.tg=(vw m q n).tg/\(b'.GR=1↔(vw m q n).GR=1)/\b'.JU.length<=(vw m q n).JU.length+d)
  (h2:n≠g.o->b'.GR=0\/b'.GR=4\/(b'.GR=3/\b'.ep<g.m)\/(b'.GR=1/\b'.ep=(g.m:Int)+1/\(vw m q g.o).GR=3/\(vw m q g.o).tg=n/\b'.JU.length=g.G.length+1)):
  nI (zI m q g) (zI m' q g')/\g'.G.length+(zI m' q g').R<=g.G.length+(zI m q g).R+d:=by
 have o5:=I'.o5;have J:=I'.wz;have M:=I'.zk;have O:=I'.Fy;have hm:=N.m;have keep:g'.o≠n->g'.o=g.o:=λe=>by
  rw[hV,Ph e]at J O;exact I.top o5 O Y
 have Z:g'.o=g.o->(vw m' q g.o).ep=g.m->g'.m=g.m:=λe h=>by
  rw[e]at J;have:=J.symm.trans h;omega
 by_cases c:n=g.o
 ·obtain⟨a1,a2,a3,a4⟩:=h1 c;subst c;have eV:vw m' q g.o=b':=by rw[hV,JR]
  have eo:g'.o=g.o:=by
   by_cases e:g'.o=g.o
   ·exact e
   exact keep e
  have em:=Z eo (by rw[eV,a1];exact I.wz);have hG:g'.G.length=b'.JU.length:=by rw[<-M,eo,eV]
  have hG0:g.G.length=(vw m q g.o).JU.length:=by rw[I.zk]
  have hR:(zI m' q g').R=(zI m q g).R:=by
   unfold zI;dsimp only;rw[eo,eV];by_cases c1:(vw m q g.o).GR=1
   ·rw[aj c1,aj (a3.2 c1)]
   rw[ah c1,ah (λh=>c1 (a3.1 h))]
  refine⟨.inl ⟨em,N.own,hR,?_⟩,by omega⟩
  show(vw m' q g'.o).tg=(vw m q g.o).tg
  rw[eo,eV,a2]
 have eVo:vw m' q g.o=vw m q g.o:=by rw[hV,Ph (λe=>c e.symm)]
 by_cases e:g'.o=n
 ·rw[e]at J M O;rw[hV,JR]at J M O
  rcases h2 c with h|h|⟨_,h⟩|⟨k1,k2,k3,k4,k5⟩
  ·omega
  ·omega
  ·omega
  have em:g'.m=g.m+1:=Y;have hR:(zI m q g).R=1:=ah Y;have hR':(zI m' q g').R=0:=aj (by rw[e,hV,JR];exact k1);have hG:g'.G.length=g.G.length+1:=by rw[<-M,k5]
  refine⟨.inr ⟨em,N.own,?_,hR,hR'⟩,by omega⟩
  show((g'.own (g.m+1):Nat):Int)=(vw m q g.o).tg
  rw[k4,<-em];exact bM Int.ofNat e
 have eo:=keep e;have em:=Z eo (by rw[eVo];exact I.wz);have hR:(zI m' q g').R=(zI m q g).R:=by unfold zI;dsimp only;rw[eo,eVo]
 have hG:g'.G.length=g.G.length:=by rw[<-M,eo,eVo,I.zk]
 refine⟨.inl ⟨em,N.own,hR,?_⟩,by omega⟩
 show(vw m' q g'.o).tg=(vw m q g.o).tg
 rw[eo,eVo]
def abV(I:QI m q g)(I':QI m' q g')(N:rG g g')(hn:n<5)(hu:(m.au n).up=true)(hp:(m.au n).PL=some p)(M:vw m' q=Qv (vw m q) n (qK (m.au n) q)):
 nI (zI m q g) (zI m' q g')/\g'.G.length+(zI m' q g').R<=g.G.length+(zI m q g).R+ES (m.au n).PL:=by
 have O:=jk (q:=q) hu;by_cases hq:p.q=q
 ·have hpv:Cy m q n=some p:=by unfold Cy;rw[hp];exact Qc hq
  obtain⟨_,Z⟩:=I.nU n hn p hpv;rw[q9 hp hq]at M;rw[hp]
  cases p with
  |serve k JU op num a=>
   have e:k=q:=hq;subst e;obtain⟨J,k2,k3,k4,k5⟩:=Z;refine zZ I I' N hn M (λ_=>?_) λh=>av J h;rw[O];refine⟨E,E,Iff.rfl,?_⟩
   show JU.length<=_+1
   rw[k3,aY,<-O,J,I.zk];exact aB
  |QL k x=>
   obtain⟨j,j1,j2,j3,j4,j5⟩:=Z;exact zZ I I' N hn M (λh=>av h (I.sF j4)) λ_=>.inr (.inl (by show x.GR=4;rw[j1]))
  |UK k x last=>
   obtain⟨J,k2,k3⟩:=Z;refine zZ I I' N hn M (λh=>av h (I.sF (.inr J))) λ_=>?_
   cases last with
   |true=>
    obtain⟨a1,a2,a3,a4,a5⟩:=k3 E;refine .inr (.inr (.inr ⟨?_,?_,a2,a3,?_⟩))
    ·show x.GR=1;rw[a4]
    ·show x.ep=_;rw[a4]
    show x.JU.length=_;rw[a4];show(g.G++[bC]).length=_;simp
   |false=>
    obtain⟨j,a1,_⟩:=k2 E;exact .inr (.inl (by show x.GR=4;rw[a1];exact J))
  |gJ k x a=>
   obtain⟨ho,j1,j2⟩:=Z;refine zZ I I' N hn M (λ_=>?_) λh=>av ho h
   show x.ep=_/\x.tg=_/\(x.GR=1↔_)/\x.JU.length<=_
   rw[j2];exact⟨E,E,by show(3:Int)=1↔_;omega,aB⟩
  |QE k x=>
   obtain⟨j1,j2,j3⟩:=Z;exact zZ I I' N hn M (λh=>by have:=I.wz;rw[<-h]at this;omega) λ_=>.inl (by show x.GR=0;rw[j2])
 rw[Ba hp hq,<-O]at M;have h:=zZ (d:=0) I I' N hn M (λ_=>⟨E,E,Iff.rfl,aB⟩) λh=>by
  rcases I.p8 n hn h with⟨h5,_⟩|⟨k,J,k2,k3,k4,_⟩|⟨k,J,_⟩
  ·exact .inl h5
  ·exact .inr (.inr (.inl ⟨J,by omega⟩))
  exact .inr (.inl J)
 exact⟨h.1,by have:=h.2;omega⟩
def Um(J:(m.au n).up=true)(I:(m.au n).PL=some p)(M:p.ok (m.au n).bs):∃new,(m.step n).PI=m.PI++new/\ ∀x∈new,x.kd≠0/\(x.kd=4->x.q=p.q/\(qK (m.au n) p.q).GR=3/\x.ep=(qK (m.au n) p.q).ep+1/\x.tg=(qK (m.au n) p.q).tg):=by
 have one:∀ {x:bY} {Q:bY->Prop},Q x-> ∀y∈[x],Q y:=λh y Z=>by rw[aI]at Z;subst Z;exact h
 rw[q9 I E]
 cases p with
 |serve k JU op num a=>
  rw[kH E J I E M.1];exact⟨_,E,one ⟨by show(1:Int)≠0;decide,λh=>av (show(1:Int)=4 from h) dQ⟩⟩
 |QL k b=>
  rw[qb E J I];exact⟨_,E,one ⟨by show(3:Int)≠0;decide,λh=>av (show(3:Int)=4 from h) dQ⟩⟩
 |UK k b last=>
  cases last with
  |true=>
   rw[lK E J I];exact⟨[],by rw[bI];rfl,λx O=>by cases O⟩
  |false=>
   rw[vK E J I];exact⟨_,E,one ⟨by show(3:Int)≠0;decide,λh=>av (show(3:Int)=4 from h) dQ⟩⟩
 |gJ k b at_=>
  rw[sw E J I];obtain⟨h1,h2⟩:=M;dsimp only[cZ.q,cZ.b];unfold ni
  split
  ·exact⟨[],by rw[bI],λx O=>by cases O⟩
  exact⟨_,E,one ⟨by show(4:Int)≠0;decide,λ_=>⟨E,by rw[h2],E,E⟩⟩⟩
 |QE k b=>
  rw[nW E J I];exact⟨[],by rw[bI];rfl,λx O=>by cases O⟩
def adD{T S fP K:Nat}(R:Rm m G B)(hb:eF m T S fP K)(hn:n<5)(O:(m.au n).PL=some p):∃G',Rm (m.step n) G' B/\ ∀q,q<2->nI (FF m G q) (FF (m.step n) G' q):=by
 have hu:=R.up n hn;obtain⟨rs,us,hU⟩:=(hb.jO n hn).xV hu;obtain⟨h1,h2,h3⟩:=hU.JD p O;obtain⟨_,hf⟩:=jI hU.tape hU.nE h2 h3;obtain⟨dX,y1,y2,y3,y4,y5,y6,y7,y8,y9,_⟩:=CS E hu O h3 hf h2;obtain⟨G',M⟩:=ahq (Q:=λq g'=>QI (m.step n) q g'/\rG (G q) g') λq J=>by
  obtain⟨g',k1,k2,_⟩:=Xl (R.qi q J) hn E hu O h2;exact⟨g',k1,k2⟩
 have eY:(m.step n).au n=dX:=by rw[y1,JR]
 have hvY:∀q,dX.bs q=qK (m.au n) q:=λq=>by
  rw[y2];by_cases e:q=p.q
  ·subst e;rw[JR,q9 O E]
  rw[Ph e,Ba O (λh=>e h.symm)]
 have hV:∀q,vw (m.step n) q=Qv (vw m q) n (qK (m.au n) q):=λq=>by rw[xw y1,fO y6,hvY]
 have hgh:∀q,q<2->nI (FF m G q) (FF (m.step n) G' q)/\_:=λq J=>abV (R.qi q J) (M q J).1 (M q J).2 hn hu O (hV q);have hF:=λq J=>(hgh q J).1;obtain⟨new,hfl,Z⟩:=Um hu O h2;have hpq:=R.vd.nU n hn p O;have I:∀j,j≠n->(m.step n).au j=m.au j:=λj hj=>by rw[y1,Ph hj]
 have ayp:((m.step n).au n).Pq=(m.au n).Pq:=by rw[eY,y7]
 refine⟨G',⟨λj hj=>?_,ady R.vd hb hn,λq J=>(M q J).1,?_,λq J=>?_⟩,hF⟩
 ·by_cases e:j=n
  ·rw[e,eY];exact y6
  rw[I j e];exact R.up j hj
 ·refine NT (c:=0) R.vd R.Dv hn I ayp hfl hF (λx hx=>?_) ?_
  ·obtain⟨k1,k2⟩:=Z x hx;refine ahp k1 λh4=>?_;obtain⟨k5,k6,k7,k8⟩:=k2 h4;rw[k5];have hVn:vw (m.step n) p.q n=qK (m.au n) p.q:=by rw[hV,JR]
   exact xY (M _ hpq).1 hn (by rw[hVn];exact .inr k6) (by rw[hVn];exact k7) (by rw[hVn];exact k8)
  have e0:∀q,qK ((m.step n).au n) q=qK (m.au n) q:=λq=>by rw[eY,jP y5,hvY]
  rw[e0,e0,eY,y3];exact aB
 have hc:=R.cap q J;have h4:=(hgh q J).2;have hw:(m.step n).ws cu+0<=m.ws cu:=qP hn I ayp hfl λx hx=>vM (Z x hx).1;have:=JJ (d:=0) (d':=ES (m.au n).PL) hn I hw (by rw[eY,y5];show 0+_<=_;omega)
 show(G' q).G.length+(m.step n).c0+0+(zI (m.step n) q (G' q)).R<=300
 have hc':(G q).G.length+m.c0+0+(zI m q (G q)).R<=300:=hc;omega
def adE(R:Rm m G B)(hn:n<5):∃G',Rm (m.lM n) G' B/\ ∀q,q<2->FF (m.lM n) G' q=FF m G q:=by
 have hu:=R.up n hn;have Z:(m.lM n).au=Qv m.au n {m.au n with turn:=(m.au n).turn+1}:=rfl;have eY:(m.lM n).au n={m.au n with turn:=(m.au n).turn+1}:=by rw[Z,JR]
 have J:∀j,j≠n->(m.lM n).au j=m.au j:=λj hj=>by rw[Z,Ph hj]
 have hl:=λq M=>Xk (R.qi q M) hn hu;have hF:∀q,q<2->FF (m.lM n) G q=FF m G q:=λq M=>JK (.refl _) (by rw[(hl q M).2]) (by rw[(hl q M).2]);have O:∀x∈iG n ((m.au n).turn % 4) ((m.au n).bs ((m.au n).turn % 4)) ((m.au n).QA ((m.au n).turn % 4)),x.kd≠0/\x.kd≠4:=by
  intro x I;unfold iG at I;have two:(2:Int)≠0/\(2:Int)≠4:=by decide
  have five:(5:Int)≠0/\(5:Int)≠4:=by decide
  rcases bD.1 I with I|I
  ·rcases bD.1 I with I|I
   ·split at I
    ·rw[aI]at I;subst I;exact two
    simp at I
   split at I
   ·rw[aI]at I;subst I;exact five
   simp at I
  split at I
  ·rw[aI]at I;subst I;exact five
  simp at I
 refine⟨G,⟨λj hj=>?_,Ul R.vd hn hu,λq M=>(hl q M).1,?_,λq M=>?_⟩,hF⟩
 ·by_cases e:j=n
  ·rw[e,eY];exact hu
  rw[J j e];exact R.up j hj
 ·refine NT (c:=0) (G:=G) (G':=G) R.vd R.Dv hn J (by rw[eY]) E (λq M=>by rw[hF q M];exact .refl _) (λx I=>ahp (O x I).1 λh=>av h (O x I).2) ?_;rw[eY];exact aB
 have hc:=R.cap q M;have hw:(m.lM n).ws cu+0<=m.ws cu:=qP hn J (by rw[eY]) E λx I=>vM (O x I).1;have:=JJ (d:=0) (d':=0) hn J hw (by rw[eY];exact aB);rw[hF q M];omega
def ao6{T S fP K:Nat}(R:Rm m G B)(hB:B+46<=100000)(hb:eF m T S fP K)(hn:n<5):∃G',Rm (m.step n) G' B/\ ∀q,q<2->nI (FF m G q) (FF (m.step n) G' q):=by
 have hu:=R.up n hn;obtain⟨rs,us,hU⟩:=(hb.jO n hn).xV hu
 cases hp:(m.au n).PL with
 |some p=>exact adD R hb hn hp
 |none=>
  have key:=qZ (n:=n) (λw=>Sv m n rs w/\ ∃O,Rm w O B/\ ∀q,q<2->FF w O q=FF m G q) (λw l r ⟨H,O,h,F1⟩ hp1 M=>by
   obtain⟨h1,h2,h3,h4⟩:=q8 (λl hl=>nu (hb.jC n hn l hl)) H hp1 M;have hl0:l∈(w.au n).Pq:=by rw[M];simp
   obtain⟨b1,b2⟩:=hb.jC n hn l (H.jC l hl0);have hlq:=h.vd.jC n hn l hl0;have Z:(w.put n ((w.au n).box r)).au=Qv w.au n ((w.au n).box r):=rfl;have e0:(w.put n ((w.au n).box r)).au n=(w.au n).box r:=bL _;have I:∀j,j≠n->(w.put n ((w.au n).box r)).au j=w.au j:=λj hj=>Ph hj;have hvw:∀q,vw (w.put n ((w.au n).box r)) q=vw w q:=λq=>oP Z E;have hF1:FF (w.put n ((w.au n).box r)) O=FF w O:=by funext q;exact JK (.refl _) (by rw[hvw]) (by rw[hvw])
   have hws:∀f:bY->Nat,(w.put n ((w.au n).box r)).ws f+f l<=w.ws f:=λf=>Le hn (λj hj=>by rw[I j hj]) (by
    rw[e0,M]
    show eG f w.PI+eG f r+f l<=eG f w.PI+(f l+eG f r)
    omega)
   have R2:Rmc (w.put n ((w.au n).box r)) O B (uF (FF (w.put n ((w.au n).box r)) O) l) (cu l):=by
    refine⟨λj hj=>?_,h.vd.at_ (n:=n) (X:=(w.au n).box r) E (λq h7 h8=>h.vd.rol n hn q h7 h8) (h.vd.nU n hn) (λx hx=>h.vd.jC n hn x (by rw[M];exact dZ _ hx)) (λx hx=>.inl hx),λq J=>?_,λj hj=>?_,λq J=>?_⟩
    ·by_cases e:j=n
     ·rw[e,e0];exact h.up n hn
     rw[I j e];exact h.up j hj
    ·exact(h.qi q J).far hn Z E E E (λx hx=>by rw[M];exact dZ _ hx) (λx hx=>.inl hx) E E E
    ·have h5:=h.Dv j hj;have h6:=hws (uF (FF w O));unfold Dv at h5⊢;rw[hF1];by_cases e:j=n
     ·rw[e]at h5⊢;rw[e0];have e1:∀q,qK ((w.au n).box r) q=qK (w.au n) q:=λ_=>E;have e2:((w.au n).box r).data=(w.au n).data:=rfl;rw[e1,e1,e2];omega
     rw[I j e];omega
    have h5:=h.cap q J;have h6:=JJ (d:=cu l) (d':=cu l) hn I (hws cu) (by rw[e0];show ES (w.au n).PL+_<=_;omega);rw[hF1];omega
   obtain⟨G2,R3,F2⟩:=Zv R2 hB hn h2 (by rw[e0];exact hp1) (λq J agu=>by rw[hvw];exact(h.qi q J).nT l ⟨agu,.inr ⟨n,hn,hl0⟩⟩) b2 b1.2.1 b1.2.2.2 hlq (kJ h1.1) h3;exact⟨h1.1,h4,G2,R3,λq J=>by rw[F2 q J,hF1];exact F1 q J⟩) _ m E ⟨D8 hu ⟨_,hU⟩,G,R,λ_ _=>E⟩
  obtain⟨H1,O,h,F1⟩:=key;rw[jX hu hp]
  split
  ·obtain⟨G2,R2,F2⟩:=adE h hn;exact⟨G2,R2,λq J=>by rw[F2 q J,F1 q J];exact .refl _⟩
  exact⟨O,h,λq J=>by rw[F1 q J];exact .refl _⟩
def Eb(m:Cl)(l:bY)(j:Nat):∃h,(m.QG l).au j={m.au j with Pq:=h}:=by
 unfold Cl.QG
 split
 ·exact⟨_,E⟩
 split
 ·split<;>exact⟨_,E⟩
 split
 ·by_cases e:j=l.tg.toNat
  ·subst e;exact⟨_,bL _⟩
  exact⟨(m.au j).Pq,Ph e⟩
 exact⟨_,E⟩
def Xv:∀(ls:List bY) (m:Cl) (j:Nat),∃h,(ls.foldl Cl.QG m).au j={m.au j with Pq:=h}
 |[],m,j=>⟨_,E⟩
 |l::ls,m,j=>by
  obtain⟨I,J⟩:=Xv ls (m.QG l) j;obtain⟨O,M⟩:=Eb m l j;refine⟨I,?_⟩;rw[wJ,J,M]
def vN(m:Cl)(j:Nat):∃h,m.all.au j={m.au j with Pq:=h}:=Xv m.PI {m with PI:=[]} j
def SN{T S fP K:Nat}(R:Rm m G B)(J:eF m T S fP K):Rm m.all G B/\ ∀q,q<2->FF m.all G q=FF m G q:=by
 have O:=λq (I:q<2)=>Ms (R.qi q I) J.nT Y;have M:∀q,q<2->FF m.all G q=FF m G q:=λq I=>JK (.refl _) (by rw[(O q I).2]) (by rw[(O q I).2]);have h:∀j,(m.all.au j).PL=(m.au j).PL:=λj=>by obtain⟨Z,e⟩:=vN m j;rw[e]
 refine⟨⟨λj hj=>?_,SI R.vd J.nT,λq I=>(O q I).1,λj hj=>?_,λq I=>?_⟩,M⟩
 ·obtain⟨Z,e⟩:=vN m j;rw[e];exact R.up j hj
 ·have h1:=R.Dv j hj;have h2:m.all.ws (uF (FF m.all G))<=m.all.ws (uF (FF m G)):=Qe (λx hx=>(by rw[M _ ((SI R.vd J.nT).PI x hx)];exact .refl _:nI (FF m G x.q) (FF m.all G x.q)).lw) λi hi x hx=>(by rw[M _ ((SI R.vd J.nT).jC i hi x hx)];exact .refl _:nI (FF m G x.q) (FF m.all G x.q)).lw;have h3:m.all.ws (uF (FF m G))<=m.ws (uF (FF m G)):=FB aAE J.nT;obtain⟨Z,e⟩:=vN m j;unfold Dv at h1⊢;rw[M 0 dQ,M 1 dQ,e];have e1:∀q,qK {m.au j with Pq:=Z} q=qK (m.au j) q:=λ_=>E;rw[e1,e1];dsimp only;omega
 have h1:=R.cap q I;have h3:m.all.ws cu<=m.ws cu:=FB JI J.nT;have:m.all.c0<=m.c0:=by
  unfold Cl.c0;rw[h,h,h,h,h];omega
 rw[M q I];omega
end
end Go.Proofs.YtceeleolddkibaaGreatDoor
