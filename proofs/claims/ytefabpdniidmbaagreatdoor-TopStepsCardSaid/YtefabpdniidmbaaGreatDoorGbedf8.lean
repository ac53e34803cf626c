import Derived.Test.YtefabpdniidmbaaGreatDoorG04168
set_option linter.all false
set_option maxRecDepth 100000
set_option maxHeartbeats 8000000
namespace Go.Proofs.YtefabpdniidmbaaGreatDoor
open List Nat Go.Proofs.Tryz ChangeShapes WideShapes RowKit
def qC:∀ {rs:List cO} {l:List UInt8} {s:Int} {d:List UInt8},fD l s rs=some d->d=l++bK rs/\(∀r∈rs,aH r=0)/\(l.length<=100000->d.length<=100000)
 |[],l,s,d,h=>by
  cases h;exact⟨by simp[bK],λr J=>by simp at J,λh=>h⟩
 |r::rs,l,s,d,h=>by
  rw[fD]at h
  split at h
  ·cases h
  rename_i h1
  obtain⟨M,O,h4⟩:=OE (Classical.not_not.1 h1);rw[M]at h;obtain⟨Z,h6,h7⟩:=qC h;refine⟨by rw[Z];simp[bK,flatMap_cons],λx I=>?_,λhl=>h7 (by rw[length_append];omega)⟩
  rcases mem_cons.1 I with rfl|I
  ·exact O
  exact h6 x I
def vH:∀ {rs:List cO} {l:List UInt8} {s:Int},(∀r∈rs,aH r=0)->0<=s->s<=l.length->l.length+46*rs.length<=100000->fD l s rs=some (l++bK rs)
 |[],l,s,_,_,_,_=>by simp[fD,bK]
 |r::rs,l,s,h,I,h1,J=>by
  rw[length_cons]at J;have hw:=agW (h r iQ) I h1 Y;have:=AQ r;rw[fD,hw,if_neg iQ,vH (λx M=>h x (by simp[M])) I (by rw[length_append];omega) (by rw[length_append];omega)];simp[bK,flatMap_cons]
def alm{Q:Qd}{e:Ev}(h:(iO Q e).2.2.1=true):(iO Q e).2.2.2=0:=by
 unfold iO at h⊢
 split at h
 ·cases h
 rename_i h1
 rw[if_neg h1]
 split at h
 ·cases h
 rename_i I;rw[if_neg I]
def aln{Q:Qd}{e:Ev}(h:(iO Q e).2.2.2=0):aZ e=0:=by
 unfold iO at h
 split at h
 ·rename_i h1;exact absurd h h1
 split at h
 ·rename_i I;exact absurd h I
 rename_i I;exact Classical.not_not.1 I
def AY:∀ {n:Nat} {l:List Ev},l.length=n->QJ l-> ∀e∈l,aZ e=0
 | 0,l,hn,_,e,he=>by rw[length_eq_zero_iff.1 hn]at he;simp at he
 |n+1,l,hn,h,e,he=>by
  have I:l=l.take n++[l[n]]:=by rw[<-nY Y,<-hn,take_length]
  have J:QJ (l.take n++[l[n]]):=I▸h;rw[I]at he
  rcases mem_append.1 he with he|he
  ·exact AY (n:=n) (by rw[length_take];omega) (nX h) e he
  rw[mem_singleton]at he;rw[he];exact aln (Ra J).1
section
variable {b:aU}{e:Ev}
def YQ(h:¬(gU b e).2.2.1=false):au b=0/\aZ e=0/\Nl b/\(iO (av b.Gs).1 e).2.2.1=true/\b.Gs.length<1999/\e.kind≠4/\gU b e=({b with Gs:=b.Gs++[e]},(iO (av b.Gs).1 e).2.1,true,0):=by
 unfold gU at h⊢;by_cases c1:au b≠0
 ·rw[if_pos c1]at h;exact absurd E h
 rw[if_neg c1]at h⊢;by_cases c2:aZ e≠0
 ·rw[if_pos c2]at h;exact absurd E h
 rw[if_neg c2]at h⊢;by_cases c3:e.kind=4
 ·rw[if_pos c3]at h;exact absurd E h
 rw[if_neg c3]at h⊢;by_cases J:b.Gq=3
 ·rw[if_pos J]at h;exact absurd E h
 rw[if_neg J]at h⊢;by_cases M:b.Gq≠1/\b.Gq≠2
 ·rw[if_pos M]at h;exact absurd E h
 rw[if_neg M]at h⊢;by_cases I:(iO (av b.Gs).1 e).2.2.1=false
 ·rw[if_pos I]at h;exact absurd E h
 rw[if_neg I]at h⊢;by_cases O:1999<=b.Gs.length
 ·rw[if_pos O]at h;exact absurd E h
 rw[if_neg O];exact⟨Classical.not_not.1 c1,Classical.not_not.1 c2,by unfold Nl;omega,by simpa using I,by omega,c3,E⟩
def ag8{ep fr:Int}(h:¬(dw b ep fr).2≠0)(J:¬(dw b ep fr).1.ep=b.ep):(b.Gq=0\/b.Gq=4)/\b.ep<ep/\1<=ep/\ep<=1048576/\0<=fr/\fr<=4/\dw b ep fr=(⟨4,ep,fr,0,0,[]⟩,0):=by
 unfold dw at h J⊢;by_cases c1:au b≠0
 ·rw[if_pos c1]at h;exact absurd c1 h
 rw[if_neg c1]at h J⊢;by_cases c2:¬(1<=ep/\ep<=1048576/\0<=fr/\fr<=4)
 ·rw[if_pos c2]at h;exact absurd dQ h
 rw[if_neg c2]at h J⊢;by_cases c3:b.Gq≠0/\b.Gq≠4
 ·rw[if_pos c3]at h;exact absurd dQ h
 rw[if_neg c3]at h J⊢;by_cases M:b.Gq=4/\b.ep=ep/\b.fr=fr
 ·rw[if_pos M]at J;exact absurd E J
 rw[if_neg M]at h J⊢;by_cases O:ep<=b.ep
 ·rw[if_pos O]at h;exact absurd dQ h
 rw[if_neg O];have I:=Classical.not_not.1 c2;exact⟨by omega,by omega,I.1,I.2.1,I.2.2.1,I.2.2.2,E⟩
def YR{ep fr:Int}(h:¬(dw b ep fr).2≠0)(I:(dw b ep fr).1.ep=b.ep):b.Gq=4/\b.ep=ep/\b.fr=fr:=by
 unfold dw at h I;by_cases c1:au b≠0
 ·rw[if_pos c1]at h;exact absurd c1 h
 rw[if_neg c1]at h I;by_cases c2:¬(1<=ep/\ep<=1048576/\0<=fr/\fr<=4)
 ·rw[if_pos c2]at h;exact absurd dQ h
 rw[if_neg c2]at h I;by_cases c3:b.Gq≠0/\b.Gq≠4
 ·rw[if_pos c3]at h;exact absurd dQ h
 rw[if_neg c3]at h I;by_cases J:b.Gq=4/\b.ep=ep/\b.fr=fr
 ·exact J
 rw[if_neg J]at h I;by_cases M:ep<=b.ep
 ·rw[if_pos M]at h;exact absurd dQ h
 rw[if_neg M]at I;exact absurd (show ep=b.ep from I) Y
def Jm(b:aU)(at_:Int)(l:List Ev):List Ev:=b.Gs++l.drop (b.Gs.length-at_.toNat)
def wW(b:aU)(at_:Int)(l:List Ev)(last:Bool):aU:=if last=true then⟨1,b.ep,0,0,0,Jm b at_ l++[aF]⟩else{b with Gs:=Jm b at_ l}
def acO{ep at_:Int}{l:List Ev}{last:Bool}(h:¬(cK b ep at_ l last).2≠0):b.Gq=4/\b.ep=ep/\0<=at_/\at_<=b.Gs.length/\(b.Gs.drop at_.toNat).take l.length=l.take (b.Gs.length-at_.toNat)/\
  (last=true->b.Gs.length<=at_.toNat+l.length)/\au (wW b at_ l last)=0/\cK b ep at_ l last=(wW b at_ l last,0):=by
 unfold cK at h⊢;by_cases c1:au b≠0
 ·rw[if_pos c1]at h;exact absurd c1 h
 rw[if_neg c1]at h⊢;by_cases c2:b.Gq≠4
 ·rw[if_pos c2]at h;exact absurd dQ h
 rw[if_neg c2]at h⊢;by_cases c3:b.ep≠ep
 ·rw[if_pos c3]at h;exact absurd dQ h
 rw[if_neg c3]at h⊢;have J:b.ep=ep:=Classical.not_not.1 c3;subst J;by_cases M:¬(0<=at_/\at_<=b.Gs.length)
 ·rw[if_pos M]at h;exact absurd dQ h
 rw[if_neg M]at h⊢;by_cases O:¬(b.Gs.drop at_.toNat).take l.length=l.take (b.Gs.length-at_.toNat)
 ·rw[if_pos O]at h;exact absurd dQ h
 rw[if_neg O]at h⊢;by_cases Z:last=true/\at_.toNat+l.length<b.Gs.length
 ·rw[if_pos Z]at h;exact absurd dQ h
 rw[if_neg Z]at h⊢;change ¬(if au (wW b at_ l last)≠0 then(bF,(3:Int))else(wW b at_ l last,0)).2≠0 at h
 show _/\_/\_/\_/\_/\_/\_/\(if au (wW b at_ l last)≠0 then(bF,(3:Int))else(wW b at_ l last,0))=_
 by_cases c7:au (wW b at_ l last)≠0
 ·rw[if_pos c7]at h;exact absurd dQ h
 have I:=Classical.not_not.1 M;rw[if_neg c7];exact⟨Classical.not_not.1 c2,E,I.1,I.2,Classical.not_not.1 O,λhl=>by by_cases h9:at_.toNat+l.length<b.Gs.length;exact absurd ⟨hl,h9⟩ Z;omega,Classical.not_not.1 c7,E⟩
def RG{hv:Int}(h:¬(bG b hv).2≠0):0<=hv/\hv<=b.Gs.length/\((b.Gq=3/\bG b hv=(b,0))\/(b.Gq=2/\(hv=b.Gs.length\/b.rd=4)/\bG b hv=({b with Gq:=3,rd:=0},0))\/(b.Gq=2/\ ¬(hv=b.Gs.length\/b.rd=4)/\bG b hv=({b with rd:=b.rd+1},0))):=by
 unfold bG at h⊢;by_cases c1:au b≠0
 ·rw[if_pos c1]at h;exact absurd c1 h
 rw[if_neg c1]at h⊢;by_cases c2:b.Gq≠2/\b.Gq≠3
 ·rw[if_pos c2]at h;exact absurd dQ h
 rw[if_neg c2]at h⊢;by_cases c3:¬(0<=hv/\hv<=b.Gs.length)
 ·rw[if_pos c3]at h;exact absurd dQ h
 rw[if_neg c3]at h⊢;have I:=Classical.not_not.1 c3;refine⟨I.1,I.2,?_⟩;by_cases M:b.Gq=3
 ·rw[if_pos M];exact .inl ⟨M,E⟩
 rw[if_neg M];by_cases J:hv=b.Gs.length\/b.rd=4
 ·rw[if_pos J];exact .inr (.inl ⟨by omega,J,E⟩)
 rw[if_neg J];exact .inr (.inr ⟨by omega,J,E⟩)
def acP{ep:Int}(h:¬(fT b ep).2≠0):b.Gq=3/\b.ep<ep/\fT b ep=(⟨0,b.ep,0,0,0,[]⟩,0):=by
 unfold fT at h⊢;by_cases c1:au b≠0
 ·rw[if_pos c1]at h;exact absurd c1 h
 rw[if_neg c1]at h⊢;by_cases c2:b.Gq≠3
 ·rw[if_pos c2]at h;exact absurd dQ h
 rw[if_neg c2]at h⊢;by_cases c3:ep<=b.ep
 ·rw[if_pos c3]at h;exact absurd dQ h
 rw[if_neg c3];exact⟨Classical.not_not.1 c2,by omega,E⟩
def alo{ep:Int}(h:¬(iX b ep).2≠0):b.Gq=0/\b.ep<ep/\iX b ep=(⟨1,ep,0,0,0,[]⟩,0):=by
 unfold iX at h⊢;by_cases c1:au b≠0
 ·rw[if_pos c1]at h;exact absurd c1 h
 rw[if_neg c1]at h⊢;by_cases c2:¬(1<=ep/\ep<=1048576)
 ·rw[if_pos c2]at h;exact absurd dQ h
 rw[if_neg c2]at h⊢;by_cases c3:b.Gq≠0
 ·rw[if_pos c3]at h;exact absurd dQ h
 rw[if_neg c3]at h⊢;by_cases I:ep<=b.ep
 ·rw[if_pos I]at h;exact absurd dQ h
 rw[if_neg I];exact⟨Classical.not_not.1 c3,by omega,E⟩
def go_ok{tg:Int}(h:(uK b tg).2=0):b.Gq=1/\0<=tg/\tg<=4/\uK b tg=(⟨2,b.ep,0,tg,0,b.Gs⟩,0):=by
 unfold uK at h⊢;by_cases c1:au b≠0
 ·rw[if_pos c1]at h;exact absurd h c1
 rw[if_neg c1]at h⊢;by_cases c2:¬(0<=tg/\tg<=4)
 ·rw[if_pos c2]at h;exact absurd h dQ
 rw[if_neg c2]at h⊢;by_cases c3:b.Gq=2\/b.Gq=3
 ·rw[if_pos c3]at h;exact absurd h dQ
 rw[if_neg c3]at h⊢;by_cases c4:b.Gq≠1
 ·rw[if_pos c4]at h;exact absurd h dQ
 rw[if_neg c4]at h⊢;by_cases c5:b.ep=1048576
 ·rw[if_pos c5]at h;exact absurd h dQ
 rw[if_neg c5];have c2':=Classical.not_not.1 c2;exact⟨Classical.not_not.1 c4,c2'.1,c2'.2,E⟩
def Z6(I:b.Gq=1)(h:¬(dL b).2≠0):au ⟨1,b.ep,0,0,0,b.Gs++[aF]⟩=0/\dL b=(⟨1,b.ep,0,0,0,b.Gs++[aF]⟩,0):=by
 unfold dL at h⊢;by_cases c1:au b≠0
 ·rw[if_pos c1]at h;exact absurd c1 h
 rw[if_neg c1]at h⊢;rw[if_neg Y]at h⊢;by_cases c3:au ⟨1,b.ep,0,0,0,b.Gs++[aF]⟩≠0
 ·rw[if_pos c3]at h;exact absurd dQ h
 rw[if_neg c3];exact⟨Classical.not_not.1 c3,E⟩
def OU{hv:Int}(h:¬(ig b hv).2.2≠0):(b.Gq=2\/b.Gq=3)/\0<=hv/\hv<=b.Gs.length/\ig b hv=((b.Gs.drop hv.toNat).take 3,decide (b.Gq=3/\b.Gs.length<=hv.toNat+3),0):=by
 unfold ig at h⊢;by_cases c1:au b≠0
 ·rw[if_pos c1]at h;exact absurd c1 h
 rw[if_neg c1]at h⊢;by_cases c2:b.Gq≠2/\b.Gq≠3
 ·rw[if_pos c2]at h;exact absurd dQ h
 rw[if_neg c2]at h⊢;by_cases c3:¬(0<=hv/\hv<=b.Gs.length)
 ·rw[if_pos c3]at h;exact absurd dQ h
 rw[if_neg c3];have I:=Classical.not_not.1 c3;exact⟨by omega,I.1,I.2,E⟩
end
structure oC (X:Nd)(rs us:List cO):Prop where
 data:X.data=bK (rs++us)
 MC:X.MC=(bK rs).length
 tape:iN rs λq=>jq (X.bs q)
 lg:∀q,q<4->au (X.bs q)=0
 rA:X.Mw=none->us=[]
 F6:∀p,X.Mw=some p->us=p.rs X.bs/\p.ok X.bs/\p.q<4
 len:X.data.length<=100000
structure G6 (X:Nd)(rs:List cO)(t:List UInt8)(f:Nat->aU):Prop where
 data:X.data=bK rs++t
 auD:(Nb t).2=0
 tape:iN rs f
 lg:∀q,q<4->au (f q)=0/\(f q).Gq≠2
 MC:0<=X.MC/\X.MC<=X.data.length
 len:X.data.length<=100000
 lu:X.Mw=none
 iP:X.Md=[]
 bz:∀q,q<4->au (X.bs q)=0
def Qi:au bF=0:=lS (.inl ⟨E,by decide,by decide,E,E,E,E⟩) xG
def G8(X:Nd):Prop:=(X.up=true/\ ∃rs us,oC X rs us)\/(X.up=false/\ ∃rs t f,G6 X rs t f)
section
variable {X:Nd}{rs us:List cO}{t:List UInt8}{f:Nat->aU}{q:Nat}{p:bS}
def G8.rC(h:G8 X)(I:X.up=true):∃rs us,oC X rs us:=h.elim (λh=>h.2) λh=>by rw[h.1]at I;cases I
def G8.auE(h:G8 X)(I:X.up=false):∃rs t f,G6 X rs t f:=h.elim (λh=>by rw[h.1]at I;cases I) λh=>h.2
def oC.may(h:oC X rs us):dx X.data X.MC=true:=by
 have h1:=h.len;have I:=h.data;rw[lY]at I;have J:=congrArg length I;rw[length_append]at J;simp only[dx,h.MC,Bool.and_eq_true,decide_eq_true_eq];omega
def G6.may(h:G6 X rs t f):dx X.data X.MC=true:=by
 simp only[dx,Bool.and_eq_true,decide_eq_true_eq];exact⟨⟨h.len,h.MC.1⟩,h.MC.2⟩
def G6.rd(h:G6 X rs t f):jC X.data X.MC=(bK rs,min X.MC (bK rs).length,0)/\Dn X.data X.MC=some (vB f)/\ ∀q,q<4->bD X.data X.MC q=f q:=h.tape.read h.data h.auD h.len h.MC.1 h.MC.2
def G6.view(h:G6 X rs t f)(I:X.up=false)(J:q<4):X.view q=f q:=by
 unfold Nd.view;rw[if_neg (by rw[I];simp)];exact h.rd.2.2 q J
def dK(h:X.up=true):X.view=X.bs:=if_pos h
def MR(bs:Nat->aU)(p:bS)(x:aU):Prop:=
 x=jq (bs p.q)\/x=jq (p.b bs)\/ ∃q b last j,p=.QU q b last/\x={bs q with Gs:=b.Gs.take ((bs q).Gs.length+j)}/\(bs q).Gs.length+j+(if last=true then 1 else 0)<=b.Gs.length
def Jo{b:aU}(h:b.Gq=4\/b.Gq=0\/b.Gq=3\/b.Gq=1):jq b=b:=kI Y
def alp{bs:Nat->aU}{b:aU}:Na (λq=>jq (bs q)) q (jq b)=λk=>jq (Na bs q b k):=by
 funext k
 unfold Na
 split<;>rfl
def imports{bs:Nat->aU}{ep:Int}{es:List Ev}(h:iN rs λq=>jq (bs q))(hb:au (bs q)=0)(J:(bs q).Gq=4)(fO:(bs q).ep=ep)(M:q<4)(I:QJ es)(he:(bs q).Gs=es.take (bs q).Gs.length):
 ∀j,(bs q).Gs.length+j<=es.length->iN (rs++((es.drop (bs q).Gs.length).take j).map λx=>fH 5 q ep 0 x) (Na (λq=>jq (bs q)) q {bs q with Gs:=es.take ((bs q).Gs.length+j)})
 | 0,_=>by
  rw[Nat.add_zero,<-he,take_zero,map_nil,append_nil];exact h.congr λk _=>by
   unfold Na
   split
   ·rename_i e;subst e;exact Jo (.inl J)
   rfl
 |j+1,hj=>by
  have ih:=imports h hb J fO M I he j Y;have O:(bs q).Gs.length+j<es.length:=Y;have e1:(es.drop (bs q).Gs.length).take (j+1)=(es.drop (bs q).Gs.length).take j++[es[(bs q).Gs.length+j]]:=by
   rw[nY (by rw[length_drop];omega),getElem_drop]
  have Z:QJ (es.take ((bs q).Gs.length+j)++[es[(bs q).Gs.length+j]]):=by rw[<-nY O];exact nX I
  have hb2:au {bs q with Gs:=es.take ((bs q).Gs.length+j)}=0:=lS (nI (eO hb) Y _) (nX I);obtain⟨h1,h2,h3⟩:=acs (b:={bs q with Gs:=es.take ((bs q).Gs.length+j)}) hb2 J fO M (AY E I _ (getElem_mem O)) Z;rw[e1,map_append,<-append_assoc];have:=ih.snoc (q:=q) h2 M E (by rw[Ee];exact h1);refine this.congr λk _=>?_;unfold Na
  split
  ·dsimp only;rw[<-nY O,Nat.add_assoc]
  rfl
def J4{bs:Nat->aU}{r:cO}{x:aU}(h:iN rs λq=>jq (bs q))(J:q<4)(M:aH r=0)(I:r.Nt=q)(O:eF (jq (bs q)) r=(jq x,0)):iN (rs++[r]) λk=>jq (Na bs q x k):=by
 rw[<-alp];exact h.snoc M J I O
def uU{bs:Nat->aU}{b:aU}{last:Bool}(Z:(bS.QU q b last).ok bs):∃es,QJ es/\(bs q).Gs=es.take (bs q).Gs.length/\(bs q).Gs.length<=es.length/\es=b.Gs.take es.length/\es.length+(if last=true then 1 else 0)=b.Gs.length/\b.ep=(bs q).ep/\
  (bS.QU q b last).rs bs=((es.drop (bs q).Gs.length).map λx=>fH 5 q b.ep 0 x)++if last=true then[fH 6 q b.ep 0 aI]else[]:=by
 obtain⟨h1,O,h3,h4,h5⟩:=Z;have I:∀ {es:List Ev},(bs q).Gs=es.take (bs q).Gs.length->(bs q).Gs.length<=es.length:=λ{es} h=>by
  have:=congrArg length h;rw[length_take]at this;omega
 cases last with
 |false=>
  obtain⟨M,J⟩:=h4 E;refine⟨b.Gs,O,J,I J,by rw[take_length],by simp,by rw[M],?_⟩;unfold bS.rs qb;simp
 |true=>
  obtain⟨es,M,J⟩:=h5 E;subst M;refine⟨es,Tw O,J,I J,by simp,by simp,E,?_⟩;unfold bS.rs qb;simp
def iR(h:iN rs λq=>jq (X.bs q))(hb:∀q,q<4->au (X.bs q)=0)(M:p.ok X.bs)(J:p.q<4):iN (rs++p.rs X.bs) (λk=>jq (Na X.bs p.q (p.b X.bs) k))/\au (p.b X.bs)=0:=by
 have I:=hb _ J
 cases p with
 |serve q Gs op num a=>
  obtain⟨h1,h2,h3,h4⟩:=M;have I:au (X.bs q)=0:=I;have Z:(X.bs q).Gq≠0:=by unfold Nl at h1;omega
  have O:au {X.bs q with Gs:=Gs}=0:=lS (nI (eO I) Z _) h4;have hd:=zf h1 I;have hd2:jq {X.bs q with Gs:=Gs}=⟨1,(X.bs q).ep,0,0,0,Gs⟩:=zf (b:={X.bs q with Gs:=Gs}) h1 O;obtain⟨a1,a2⟩:=Tz (b:=jq (X.bs q)) (q:=q) (e:=op) (uS I) (by rw[hd]) Wh J h3 (by rw[ale,<-h2];exact h4);refine⟨J4 h J a2 E ?_,O⟩
  show eF (jq (X.bs q)) (fH 2 q (X.bs q).ep 0 op)=(jq {X.bs q with Gs:=Gs},0)
  rw[a1,hd2,hd,h2]
 |Ns q b=>
  obtain⟨h1,e,f,rfl,h2,h3,h4,h5,h6⟩:=M;have hd:jq (X.bs q)=X.bs q:=Jo Y;obtain⟨a1,a2⟩:=ag2 (q:=q) I h1 h2 ⟨h3,h4⟩ J ⟨h5,h6⟩;refine⟨J4 h J a2 E ?_,lS (.inr ⟨h3,h4,.inr (.inr (.inr ⟨E,h5,by show f<5;omega,E,E⟩))⟩) xG⟩
  show eF (jq (X.bs q)) _=_
  rw[hd];exact a1
 |QU q b last=>
  obtain⟨es,g1,g2,g3,g4,g5,g6,g7⟩:=uU M;have Z:(X.bs q).Gq=4:=M.1;have hgb:QJ b.Gs:=M.2.1;have I:au (X.bs q)=0:=I;have hs:=eO I;unfold bq at hs;have hi:=imports h I Z g6.symm J g1 g2 (es.length-(X.bs q).Gs.length) Y;rw[show(X.bs q).Gs.length+(es.length-(X.bs q).Gs.length)=es.length by omega,take_length,take_of_length_le (by rw[length_drop];omega)]at hi;rw[g7]
  cases last with
  |false=>
   have e1:=(M.2.2.2.1 E).1;have e2:es=b.Gs:=by rw[g4];simp only[Bool.false_eq_true,if_false,Nat.add_zero]at g5;rw[g5,take_length]
   subst e2;simp only[Bool.false_eq_true,if_false,append_nil];have hr0:(X.bs q).Gq≠0:=by rw[Z];decide
   have hbk:au b=0:=by rw[e1];exact lS (nI (eO I) hr0 _) hgb
   refine⟨hi.congr λk _=>?_,hbk⟩
   show _=jq (Na X.bs q b k)
   unfold Na
   split
   ·rw[<-e1];exact(Jo (.inl (by rw[e1];exact Z))).symm
   rfl
  |true=>
   obtain⟨es',e1,e2⟩:=M.2.2.2.2 E;have e3:es=es':=by rw[g4,e1];rw[e1]at g5;simp only[if_true,length_append,length_singleton]at g5;rw[show es.length=es'.length by omega];simp
   subst e3;subst e1;have hr0:(X.bs q).Gq≠0:=by rw[Z];decide
   have O:au {X.bs q with Gs:=es}=0:=lS (nI (eO I) hr0 _) g1;obtain⟨a1,a2⟩:=arw (b:={X.bs q with Gs:=es}) (q:=q) O Z E J hgb;have hk:=lS (b:=⟨1,(X.bs q).ep,0,0,0,es++[aF]⟩) (uR Y Y _) hgb;simp only[if_true];rw[<-append_assoc];have:=hi.snoc (q:=q) a2 J E (by rw[Ee];exact a1);refine⟨this.congr λk _=>?_,hk⟩
   show _=jq (Na X.bs q _ k)
   unfold Na
   split
   ·rfl
   rfl
 |fG q b at_=>
  obtain⟨h1,rfl⟩:=M;have I:au (X.bs q)=0:=I;have hs:=eO I;unfold bq at hs;have hd:=zf (.inr h1) I;obtain⟨a1,a2⟩:=ald (b:=jq (X.bs q)) (q:=q) (tg:=(X.bs q).tg) (uS I) (by rw[hd]) Wh J Y;rw[Wh]at a1;have hbk:au {X.bs q with Gq:=3,rd:=0}=0:=lS (.inr ⟨by show 1<=(X.bs q).ep;omega,by show(X.bs q).ep<=_;omega,.inr (.inr (.inl ⟨E,by show(X.bs q).fr=0;omega,by show 0<=(X.bs q).tg;omega,by show(X.bs q).tg<5;omega,E⟩))⟩) (jD (b:=X.bs q) I);refine⟨J4 h J a2 E ?_,hbk⟩
  show eF (jq (X.bs q)) (fH 3 q (X.bs q).ep (X.bs q).tg aI)=(jq {X.bs q with Gq:=3,rd:=0},0)
  rw[a1,Jo (b:={X.bs q with Gq:=3,rd:=0}) (.inr (.inr (.inl E))),hd]
  show((⟨3,(X.bs q).ep,0,(X.bs q).tg,0,(X.bs q).Gs⟩:aU),(0:Int))=(⟨3,(X.bs q).ep,(X.bs q).fr,(X.bs q).tg,0,(X.bs q).Gs⟩,0)
  have:(X.bs q).fr=0:=Y;rw[this]
 |Ni q b=>
  obtain⟨h1,rfl⟩:=M;have I:au (X.bs q)=0:=I;have hs:=eO I;unfold bq at hs;obtain⟨a1,a2⟩:=acu (q:=q) I h1 E J;refine⟨J4 h J a2 E ?_,lS (.inl ⟨E,by show 0<=(X.bs q).ep;omega,by show(X.bs q).ep<=_;omega,E,E,E,E⟩) xG⟩
  show eF (jq (X.bs q)) _=_
  rw[Jo (.inr (.inr (.inl h1)))];exact a1
def Wj{bs:Nat->aU}(h:∀q,q<4->au (bs q)=0)(I:q<4):au (jq (bs q))=0/\(jq (bs q)).Gq≠2:=⟨uS (h q I),KA⟩
def acQ(h:iN rs λq=>jq (X.bs q))(Z:∀q,q<4->au (X.bs q)=0)(hp:p.ok X.bs)(M:p.q<4)(j:Nat):
 ∃f',iN (rs++(p.rs X.bs).take j) f'/\(∀q,q<4->q≠p.q->f' q=jq (X.bs q))/\MR X.bs p (f' p.q)/\au (f' p.q)=0/\(f' p.q).Gq≠2:=by
 obtain⟨hf,hfb⟩:=iR h Z hp M;have I:∃f',iN (rs++p.rs X.bs) f'/\(∀q,q<4->q≠p.q->f' q=jq (X.bs q))/\MR X.bs p (f' p.q)/\au (f' p.q)=0/\(f' p.q).Gq≠2:=
  ⟨_,hf,λq _ hne=>by rw[Kg hne],.inr (.inl (by rw[Ee])),by rw[Ee];exact uS hfb,KA⟩
 have zero:∃f',iN (rs++([]:List cO)) f'/\(∀q,q<4->q≠p.q->f' q=jq (X.bs q))/\MR X.bs p (f' p.q)/\au (f' p.q)=0/\(f' p.q).Gq≠2:=
  ⟨_,by rw[append_nil];exact h,λ_ _ _=>E,.inl E,uS (Z _ M),KA⟩
 have one:∀r,p.rs X.bs=[r]-> ∃f',iN (rs++(p.rs X.bs).take j) f'/\(∀q,q<4->q≠p.q->f' q=jq (X.bs q))/\MR X.bs p (f' p.q)/\au (f' p.q)=0/\(f' p.q).Gq≠2:=λr O=>by
  cases j with
  |zero=>rw[take_zero];exact zero
  |succ j=>rw[O,take_of_length_le iQ,<-O];exact I
 cases p with
 |serve q Gs op num a=>exact one _ E
 |Ns q b=>exact one _ E
 |fG q b at_=>exact one _ E
 |Ni q b=>exact one _ E
 |QU q b last=>
  obtain⟨es,g1,g2,g3,g4,g5,g6,g7⟩:=uU hp;have O:(X.bs q).Gq=4:=hp.1;by_cases hj:j<=es.length-(X.bs q).Gs.length
  ·have J:au (X.bs q)=0:=Z _ M;have hi:=imports h J O g6.symm M g1 g2 j Y;have e1:((bS.QU q b last).rs X.bs).take j=((es.drop (X.bs q).Gs.length).take j).map λx=>fH 5 q b.ep 0 x:=by
    rw[g7,take_append_of_le_length (by rw[length_map,length_drop];omega),map_take]
   have e2:es.take ((X.bs q).Gs.length+j)=b.Gs.take ((X.bs q).Gs.length+j):=by
    rw[g4,take_take,Nat.min_eq_left Y]
   rw[e1];refine⟨_,hi,λk _ hk=>Kg hk,?_,?_,?_⟩
   ·refine .inr (.inr ⟨q,b,last,j,E,?_,by omega⟩)
    show Na _ q _ q=_
    rw[Ee,e2]
   ·show au (Na _ q _ q)=0
    rw[Ee];exact lS (nI (eO J) Y _) (nX g1)
   show(Na (λq=>jq (X.bs q)) q {X.bs q with Gs:=es.take ((X.bs q).Gs.length+j)} q).Gq≠2
   rw[Ee]
   show(X.bs q).Gq≠2
   omega
  have:((bS.QU q b last).rs X.bs).take j=(bS.QU q b last).rs X.bs:=by
   refine take_of_length_le ?_;rw[g7,length_append,length_map,length_drop]
   cases last<;>simp<;>omega
  rw[this];exact I
end
def Nd.Nn(X:Nd)(keep:Int):Nd:={X.blank with up:=false,data:=(nG X.data X.MC keep).1,MC:=(nG X.data X.MC keep).2.1}
section
variable {X:Nd}{rs us:List cO}{t:List UInt8}{f:Nat->aU}{q:Nat}{p:bS}{keep:Int}
def Fe(h:oC X rs us)(hk:0<=keep):∃Z t f,G6 (X.Nn keep) Z t f/\ ∀q,q<4->f q=jq (X.bs q)\/ ∃p,X.Mw=some p/\p.q=q/\MR X.bs p (f q):=by
 have hm:=h.may;have hd:X.data=bK rs++bK us:=by rw[h.data,lY]
 have hl:=congrArg length hd;rw[length_append]at hl;have hs:=h.MC;obtain⟨N,h1,h2,e⟩:∃N:Nat,(bK rs).length<=N/\N<=X.data.length/\nG X.data X.MC keep=(X.data.take N,(N:Int),0):=by
  unfold nG;rw[if_pos hm,if_neg Y];by_cases c:(X.data.length:Int)-X.MC<keep
  ·rw[if_pos c];exact⟨X.data.length,by omega,Nat.le_refl _,by rw[take_length]⟩
  rw[if_neg c];refine⟨(X.MC+keep).toNat,by omega,by omega,?_⟩;rw[show(((X.MC+keep).toNat:Nat):Int)=X.MC+keep by omega]
 obtain⟨j,t,g1,g2,g3⟩:=OD us (N-(bK rs).length) Y;have e2:X.data.take N=bK (rs++us.take j)++t:=by
  rw[hd,take_append,take_of_length_le h1,g1,lY,append_assoc]
 have J:(X.data.take N).length=N:=by rw[length_take];omega
 have O:∀f,iN (rs++us.take j) f->(∀q,q<4->au (f q)=0/\(f q).Gq≠2)->G6 (X.Nn keep) (rs++us.take j) t f:=λf hf hb=>by
  have M:(X.Nn keep).data=X.data.take N:=by unfold Nd.Nn;dsimp only;rw[e]
  have hs':(X.Nn keep).MC=N:=by unfold Nd.Nn;dsimp only;rw[e]
  have:=h.len;exact⟨by rw[M,e2],g2,hf,hb,by rw[M,hs',J];omega,by rw[M,J];omega,E,E,λ_ _=>Qi⟩
 cases hp:X.Mw with
 |none=>
  have hu:=h.rA hp;refine⟨_,t,λq=>jq (X.bs q),O _ ?_ λq hq=>Wj h.lg hq,λq _=>.inl E⟩;rw[hu,take_nil,append_nil];exact h.tape
 |some p=>
  obtain⟨hu,hpo,hq⟩:=h.F6 p hp;obtain⟨f',f1,f2,f3,f4,f5⟩:=acQ h.tape h.lg hpo hq j;rw[<-hu]at f1;refine⟨_,t,f',O _ f1 λq I=>?_,λq I=>?_⟩
  ·by_cases c:q=p.q
   ·subst c;exact⟨f4,f5⟩
   rw[f2 q I c];exact Wj h.lg I
  by_cases c:q=p.q
  ·subst c;exact .inr ⟨p,E,E,f3⟩
  exact .inl (f2 q I c)
def iE(b:aU):aU:=⟨1,b.ep,0,0,0,b.Gs++[aF]⟩
def Qj{s:Int}{f:Nat->aU}:∀ {ql:List Nat} {rs:List cO} {g:Nat->aU} {d:List UInt8},ql.Nodup->(∀q∈ql,q<4/\g q=f q)->iN rs g->(∀q,q<4->au (g q)=0)->(bK rs).length<=100000->eG s f ql (bK rs)=some d->
  ∃ws,d=bK (rs++ws)/\iN (rs++ws) (λq=>if q∈ql/\(f q).Gq=1 then iE (f q)else g q)/\d.length<=100000/\ ∀q∈ql,(f q).Gq=1->au (iE (f q))=0/\dL (f q)=(iE (f q),0)
 |[],rs,g,d,_,_,hT,hb,hl,h=>by
  cases h;exact⟨[],by simp,by simpa using hT,hl,by simp⟩
 |q::r,rs,g,d,hnd,hq,hT,hb,hl,h=>by
  rw[eG]at h;obtain⟨h1,h2⟩:=nodup_cons.1 hnd;obtain⟨M,J⟩:=hq q iQ;by_cases c1:(f q).Gq≠1
  ·rw[if_pos c1]at h;obtain⟨ws,e1,e2,e3,e4⟩:=Qj h2 (λk I=>hq k (by simp[I])) hT hb hl h;refine⟨ws,e1,e2.congr λk _=>?_,e3,λk I hr=>?_⟩
   ·by_cases e:k=q
    ·subst e;rw[if_neg (λh=>c1 h.2),if_neg (λh=>c1 h.2)]
    simp[e]
   rcases mem_cons.1 I with rfl|I
   ·exact absurd hr c1
   exact e4 k I hr
  rw[if_neg c1]at h;by_cases c2:(dL (f q)).2≠0
  ·rw[if_pos c2]at h;cases h
  rw[if_neg c2]at h;have O:=Classical.not_not.1 c1;obtain⟨k1,k2⟩:=Z6 O c2
  split at h
  ·cases h
  rename_i d' hw
  obtain⟨w1,w2,w3⟩:=qC hw;have hd':d'=bK (rs++[fH 2 q (f q).ep 0 aF]):=by rw[w1,lY]
  have Z:=hb q M;obtain⟨a1,a2⟩:=Tz (b:=g q) (q:=q) (e:=aF) Z (by rw[J];exact O) E M dQ (by rw[J];exact(eT k1).2);rw[J]at a1 a2 Z;have hs:=eO Z;unfold bq at hs;have hx:({f q with Gs:=(f q).Gs++[aF]}:aU)=iE (f q):=by
   unfold iE;simp only[aU.mk.injEq,and_true,true_and];omega
  rw[hx]at a1;have hT2:=hT.snoc (q:=q) a2 M E (by rw[J];exact a1);rw[hd']at h;obtain⟨ws,e1,e2,e3,e4⟩:=Qj h2 (g:=Na g q (iE (f q))) (λk I=>⟨(hq k (by simp[I])).1,by rw[Kg (λe:k=q=>h1 (e▸I))];exact(hq k (by simp[I])).2⟩) hT2
   (λk I=>by
    by_cases e:k=q
    ·subst e;rw[Ee];exact k1
    rw[Kg e];exact hb k I) (by rw[<-hd'];exact w3 hl) h
  refine⟨fH 2 q (f q).ep 0 aF::ws,by rw[e1,append_assoc];rfl,?_,e3,λk I hr=>?_⟩
  ·rw[show rs++fH 2 q (f q).ep 0 aF::ws=rs++[fH 2 q (f q).ep 0 aF]++ws by rw[append_assoc];rfl];refine e2.congr λk _=>?_;by_cases e:k=q
   ·subst e;rw[if_neg (λh=>h1 h.1),Ee,if_pos ⟨by simp,O⟩]
   rw[Kg e];simp[e]
  rcases mem_cons.1 I with rfl|I
  ·exact⟨k1,k2⟩
  exact e4 k I hr
end
section
variable {n q:Nat}{Gs:List Ev}{an:List iW}{bs:Nat->aU}
structure tT (m m':Cl):Prop where
 ah:m'.ah=m.ah
 off:m'.off=m.off
 Ms:m'.Ms=m.Ms
 bL:m'.bL=m.bL
 calls:m'.calls=m.calls
def tT.refl(m:Cl):tT m m:=⟨E,E,E,E,E⟩
def tT.trans{a b c:Cl}(h:tT a b)(I:tT b c):tT a c:=⟨I.ah.trans h.ah,I.off.trans h.off,I.Ms.trans h.Ms,I.bL.trans h.bL,I.calls.trans h.calls⟩
def OV(m:Cl){e:Ev}{a:iW}{u:Int}:tT m (m.QL n q e a u):=⟨E,E,E,E,E⟩
def Cq:∀(il:List Nat) (m:Cl),tT m (m.recovered n q Gs an il)/\(m.recovered n q Gs an il).aP.length=m.aP.length+il.length
 |[],m=>⟨.refl m,E⟩
 |i::r,m=>by
  obtain⟨h1,h⟩:=Cq r (m.QL n q (Gs.getD i aI) (an.getD i eU) (-1));rw[Cl.recovered];refine⟨(OV m).trans h1,?_⟩;rw[h];unfold Cl.QL;simp only[length_append,length_cons,length_nil];omega
def F8(m:Cl)(I:((m.ah n).bs q).Gs.length<=2000):tT m (m.recover n q)/\(m.recover n q).aP.length<=m.aP.length+2000:=by
 unfold Cl.recover
 split
 ·exact⟨OV m,by simp[Cl.QL]⟩
 obtain⟨h1,h⟩:=Cq (n:=n) (q:=q) (Gs:=((m.ah n).bs q).Gs) (an:=(av ((m.ah n).bs q).Gs).2.1) ((range ((m.ah n).bs q).Gs.length).drop (m.MG n q).2.toNat) m;refine⟨h1,?_⟩;rw[h,length_drop,length_range];omega
structure TJ (m m':Cl)(n:Nat)(bs:Nat->aU):Prop where
 ah:m'.ah=Na m.ah n {m.ah n with bs:=bs}
 off:m'.off=m.off
 Ms:m'.Ms=m.Ms
 bL:m'.bL=m.bL
 calls:m'.calls=m.calls
def D7:∀(J:List Nat) (m:Cl),J.Nodup->(∀q∈J,(m.ah n).bs q=bs q/\(bs q).Gs.length<=2000)->
  TJ m (Cl.QG n bs J m) n (λq=>if q∈J/\(bs q).Gq=1 then(dL (bs q)).1 else(m.ah n).bs q)/\(Cl.QG n bs J m).aP.length<=m.aP.length+2001*J.length
 |[],m,_,_=>by
  refine⟨⟨?_,E,E,E,E⟩,Nat.le_refl _⟩
  show m.ah=_
  refine(aB ?_).symm;simp
 |q::r,m,hnd,Z=>by
  obtain⟨h1,h2⟩:=nodup_cons.1 hnd;obtain⟨hq1,hq2⟩:=Z q iQ;rw[Cl.QG];by_cases c:(bs q).Gq≠1
  ·rw[if_pos c];obtain⟨I,g2⟩:=D7 r m h2 λk O=>Z k (by simp[O]);refine⟨⟨?_,I.off,I.Ms,I.bL,I.calls⟩,by rw[length_cons];omega⟩;rw[I.ah];refine congrArg (λb=>Na m.ah n {m.ah n with bs:=b}) (funext λk=>?_);by_cases e:k=q
   ·subst e;rw[if_neg (λh=>c h.2),if_neg (λh=>c h.2)]
   simp[e]
  rw[if_neg c];obtain⟨M,r2⟩:=F8 (n:=n) (q:=q) m (by rw[hq1];exact hq2);have e1:((((m.recover n q).ay n q (dL (bs q)).1).QL n q aF eU (-1)).ah)=Na m.ah n {m.ah n with bs:=Na (m.ah n).bs q (dL (bs q)).1}:=by
   show Na (m.recover n q).ah n { (m.recover n q).ah n with bs:=Na ((m.recover n q).ah n).bs q (dL (bs q)).1}=_
   rw[M.ah]
  obtain⟨I,g2⟩:=D7 r (((m.recover n q).ay n q (dL (bs q)).1).QL n q aF eU (-1)) h2 λk O=>by
   rw[e1,Ee];dsimp only;rw[Kg (λe:k=q=>h1 (e▸O))];exact Z k (by simp[O])
  refine⟨⟨?_,I.off.trans M.off,I.Ms.trans M.Ms,I.bL.trans M.bL,I.calls.trans M.calls⟩,?_⟩
  ·rw[I.ah,e1,qU,Ee];refine congrArg (λb=>Na m.ah n {m.ah n with bs:=b}) (funext λk=>?_)
   show(if k∈r/\(bs k).Gq=1 then(dL (bs k)).1 else Na (m.ah n).bs q (dL (bs q)).1 k)=if k∈q::r/\(bs k).Gq=1 then(dL (bs k)).1 else(m.ah n).bs k
   by_cases e:k=q
   ·subst e;rw[if_neg (λh=>h1 h.1),Ee,if_pos ⟨by simp,Classical.not_not.1 c⟩]
   rw[Kg e];simp[e]
  have:(((m.recover n q).ay n q (dL (bs q)).1).QL n q aF eU (-1)).aP.length=(m.recover n q).aP.length+1:=by
   unfold Cl.QL;simp[Cl.ay,Cl.put]
  rw[this]at g2;rw[length_cons];omega
end
def Src(b:aU)(l:bH):bS->Prop
 | .serve _ _ op num a=>l.kd=0/\op=l.op/\num=l.num/\a=(iO (av b.Gs).1 l.op).2.1/\l.op.kind≠4/\b.Gs.length<1999
 | .Ns _ x=>l.kd=2/\x=⟨4,l.ep,l.fr,0,0,[]⟩
 | .QU _ x last=>l.kd=4/\b.fr=l.fr/\b.ep=l.ep/\0<=l.at_/\l.at_<=b.Gs.length/\(b.Gs.drop l.at_.toNat).take l.Gs.length=l.Gs.take (b.Gs.length-l.at_.toNat)/\b.Gs.length<=l.at_.toNat+l.Gs.length/\last=l.last/\x=wW b l.at_ l.Gs l.last
 | .fG _ _ a=>l.kd=3/\b.tg=l.fr/\b.ep+1=l.ep/\a=l.at_/\0<=l.at_/\l.at_<=b.Gs.length
 | .Ni _ _=>l.kd=6/\b.ep<l.ep
inductive Hnd (m:Cl)(n:Nat)(l:bH):Cl->Prop
 |same:Hnd m n l m
 |done (a:iW):l.kd=0->((gU ((m.ah n).bs l.q) l.op).2.2.1=false/\a=(gU ((m.ah n).bs l.q) l.op).2.1\/
   a=sK 14/\Nl ((m.ah n).bs l.q)/\aZ l.op=0/\fD (m.ah n).data (m.ah n).MC [fH 2 l.q ((m.ah n).bs l.q).ep 0 l.op]=none/\QJ (((m.ah n).bs l.q).Gs++[l.op]))->Hnd m n l (m.done n l.q l.op l.num a)
 |QM:((m.ah n).bs l.q).Gq=4->Hnd m n l (m.QM n l.q)
 |part (b:aU):l.kd=3->0<=l.at_->l.at_<=((m.ah n).bs l.q).Gs.length->(((m.ah n).bs l.q).Gq=2/\b={ (m.ah n).bs l.q with rd:=((m.ah n).bs l.q).rd+1}/\((m.ah n).bs l.q).rd≠4\/((m.ah n).bs l.q).Gq=3/\b=(m.ah n).bs l.q)->
   ((m.ah n).bs l.q).tg=l.fr->au b=0->Hnd m n l ((m.ay n l.q b).part n l.q l.at_)
 |Mw (p:bS) (dz:Nd) (d:List UInt8):(dz=m.ah n\/l.kd=6/\dz=(m.ah n).Ny n l)->p.q=l.q->p.ok (m.ah n).bs->fD (m.ah n).data (m.ah n).MC (p.rs (m.ah n).bs)=some d->Src ((m.ah n).bs l.q) l p->Hnd m n l (m.put n {dz with data:=d,Mw:=some p})
 |Ny:l.kd=6->Hnd m n l (m.put n ((m.ah n).Ny n l))
section
variable {m:Cl}{n:Nat}{l:bH}
def pK{X x:Nd}{rs:List cO}(h:X.write rs=some x):∃d,fD X.data X.MC rs=some d/\x={X with data:=d}:=by
 unfold Nd.write at h;rw[Option.map_eq_some_iff]at h;obtain⟨d,h1,I⟩:=h;exact⟨d,h1,I.symm⟩
def YS{X:Nd}{rs:List cO}(h:X.write rs=none):fD X.data X.MC rs=none:=by
 unfold Nd.write at h;rwa [Option.map_eq_none_iff]at h
def YT{b:aU}{e:Ev}(h:au b=0)(J:b.Gs.length<1999)(I:(iO (av b.Gs).1 e).2.2.1=true):QJ (b.Gs++[e]):=OJ (jD h) Y (alm I) I
def acR(I:l.kd=0):Hnd m n l (m.serve n l):=by
 unfold Cl.serve
 split
 ·rename_i h
  exact .done _ I (.inl ⟨h,E⟩)
 rename_i h
 obtain⟨h1,J,M,h4,O,h6,h7⟩:=YQ h;have Z:=YT h1 O h4;rw[h7]
 split
 ·rename_i hw
  exact .done _ I (.inr ⟨E,M,J,YS hw,Z⟩)
 rename_i x hw
 obtain⟨d,hd,rfl⟩:=pK hw;exact .Mw (.serve l.q (((m.ah n).bs l.q).Gs++[l.op]) l.op l.num (iO (av ((m.ah n).bs l.q).Gs).1 l.op).2.1) (m.ah n) d (.inl E) E ⟨M,E,J,Z⟩ hd ⟨I,E,E,E,h6,O⟩
def Vx(J:l.kd=2):Hnd m n l (m.Qz n l):=by
 unfold Cl.Qz
 split
 ·exact .same
 rename_i h
 split
 ·rename_i I
  exact .QM (YR h I).1
 rename_i I
 obtain⟨M,O,Z,h6,h7,h8,h9⟩:=ag8 h I;rw[h9]
 split
 ·exact .same
 rename_i x hw
 obtain⟨d,hd,rfl⟩:=pK hw;exact .Mw (.Ns l.q ⟨4,l.ep,l.fr,0,0,[]⟩) (m.ah n) d (.inl E) E ⟨M,l.ep,l.fr,E,O,Z,h6,h7,h8⟩ hd ⟨J,E⟩
def YU(hb:au ((m.ah n).bs l.q)=0)(Z:l.kd=3):Hnd m n l (m.QV n l):=by
 unfold Cl.QV
 split
 ·exact .same
 rename_i h0
 split
 ·exact .same
 rename_i h
 obtain⟨h1,h2,h3⟩:=RG h;have J:((m.ah n).bs l.q).tg=l.fr:=by
  by_cases e:((m.ah n).bs l.q).tg=l.fr
  ·exact e
  exact absurd (.inl e) h0
 have fO:((m.ah n).bs l.q).ep+1=l.ep:=by
  by_cases e:((m.ah n).bs l.q).ep+1=l.ep
  ·exact e
  exact absurd (.inr e) h0
 have I:=BM hb (Classical.not_not.1 h)
 rcases h3 with⟨M,O⟩|⟨M,h6,O⟩|⟨M,h6,O⟩
 ·rw[O]at I⊢;rw[if_pos E];exact .part _ Z h1 h2 (.inr ⟨M,E⟩) J I
 ·rw[O,if_neg (by show ¬(3:Int)=_;omega)]
  split
  ·exact .same
  rename_i x hw
  obtain⟨d,hd,rfl⟩:=pK hw;exact .Mw (.fG l.q { (m.ah n).bs l.q with Gq:=3,rd:=0} l.at_) (m.ah n) d (.inl E) E ⟨M,E⟩ hd ⟨Z,J,fO,E,h1,h2⟩
 rw[O]at I⊢;rw[if_pos E];exact .part _ Z h1 h2 (.inl ⟨M,E,λe=>h6 (.inr e)⟩) J I
def OW{b:aU}{at_:Int}{l:List Ev}:b.Gs=(Jm b at_ l).take b.Gs.length:=by unfold Jm;rw[take_left]
def TK{b:aU}{at_:Int}{l:List Ev}(I:0<=at_)(h1:at_<=b.Gs.length)(h:b.Gs.length<=at_.toNat+l.length):(Jm b at_ l).length=at_.toNat+l.length:=by
 unfold Jm;rw[length_append,length_drop];omega
def alq(hk:l.kd=4):Hnd m n l (m.QU n l):=by
 unfold Cl.QU
 split
 ·exact .same
 rename_i h0
 have hr:((m.ah n).bs l.q).Gq=4:=by
  by_cases e:((m.ah n).bs l.q).Gq=4
  ·exact e
  exact absurd (.inl e) h0
 have Z:((m.ah n).bs l.q).fr=l.fr:=by
  by_cases e:((m.ah n).bs l.q).fr=l.fr
  ·exact e
  exact absurd (.inr e) h0
 split
 ·exact .QM hr
 split
 ·exact .same
 rename_i h2 h3
 have h:¬(cK ((m.ah n).bs l.q) l.ep l.at_ l.Gs l.last).2≠0:=λe=>h3 (.inl e);have I:¬(cK ((m.ah n).bs l.q) l.ep l.at_ l.Gs l.last).1.Gs.length=((m.ah n).bs l.q).Gs.length:=λe=>h3 (.inr e);obtain⟨g1,g2,g3,g4,g5,g6,g7,g8⟩:=acO h;rw[g8]at I⊢;have J:((m.ah n).bs l.q).Gs.length<=l.at_.toNat+l.Gs.length:=by
  cases M:l.last with
  |true=>exact g6 M
  |false=>
   unfold wW Jm at I;rw[if_neg (by rw[M];simp)]at I;dsimp only at I;rw[length_append,length_drop]at I;omega
 have hil:=TK g3 g4 J;have O:=jD g7;have hrs:(bS.QU l.q (wW ((m.ah n).bs l.q) l.at_ l.Gs l.last) l.last).rs (m.ah n).bs=qb l.q (wW ((m.ah n).bs l.q) l.at_ l.Gs l.last) ((m.ah n).bs l.q).Gs.length (l.at_.toNat+l.Gs.length) l.last:=by
  show qb _ _ _ _ _=_
  congr 1
  unfold wW
  cases l.last with
  |true=>simp only[if_true,length_append,length_singleton];omega
  |false=>simp only[Bool.false_eq_true,if_false];omega
 split
 ·exact .same
 rename_i x hw
 obtain⟨d,hd,rfl⟩:=pK hw;refine .Mw (.QU l.q (wW ((m.ah n).bs l.q) l.at_ l.Gs l.last) l.last) (m.ah n) d (.inl E) E ⟨hr,O,AY E O,λM=>?_,λM=>?_⟩ (by rw[hrs];exact hd) ⟨hk,Z,g2,g3,g4,g5,J,E,E⟩
 ·unfold wW;rw[M,if_neg iQ];exact⟨E,OW⟩
 refine⟨Jm ((m.ah n).bs l.q) l.at_ l.Gs,?_,OW⟩;unfold wW;rw[if_pos M]
def YV(I:l.kd=6):Hnd m n l (m.Q9 n l):=by
 unfold Cl.Q9
 split
 ·exact .Ny I
 rename_i h
 obtain⟨h1,J,M⟩:=acP h;rw[M]
 split
 ·exact .Ny I
 rename_i x hw
 obtain⟨d,O,rfl⟩:=pK hw;exact .Mw (.Ni l.q ⟨0,((m.ah n).bs l.q).ep,0,0,0,[]⟩) ((m.ah n).Ny n l) d (.inr ⟨I,E⟩) E ⟨h1,E⟩ O ⟨I,J⟩
def hnd(I:∀q,q<4->au ((m.ah n).bs q)=0)(J:l.ok):Hnd m n l (m.Ng n l):=by
 obtain⟨h1,O,M⟩:=J;unfold Cl.Ng
 rcases M with h|h|h|h|h
 ·rw[if_pos h];exact acR h
 ·rw[if_neg Y,if_pos h];exact Vx h
 ·rw[if_neg Y,if_neg Y,if_pos h];exact YU (I _ h1) h
 ·rw[if_neg Y,if_neg Y,if_neg Y,if_pos h];exact alq h
 rw[if_neg Y,if_neg Y,if_neg Y,if_neg Y];exact YV h
end
structure wX (a:Ac):Prop where
 kd:1<=a.kd/\a.kd<=10
 nd:0<=a.nd/\a.nd<=4
 qu:0<=a.qu/\a.qu<=3
 at_:0<=a.at_/\a.at_<=1048576
 kp:0<=a.kp/\a.kp<=100000
 op:a.kd=2->aZ a.op=0/\a.op.kind≠4
def RH{x:Ac}(h:dD x=0):wX x:=by
 cases I:bU x.kd x.ek with
 |none=>rw[ZB I]at h;cases h
 |some l=>
  by_cases J:l.all (NV x)=true
  ·by_cases M:fin x l=RF
   ·have Z:=ako ((af5 I).2 M);clear h M;obtain⟨kd,nd,qu,at_,kp,ek,ep,ei,eb,eh,en⟩:=x
    rcases kinds kd ek with rfl|rfl|rfl|rfl|rfl|rfl|rfl|rfl|rfl|⟨rfl,rfl⟩|⟨rfl,rfl⟩|⟨rfl,rfl⟩|hn
    all_goals first
     |(dsimp only at I;rw[hn]at I;cases I;done)
     |(simp[bU]at I;subst I;simp[keep]at Z;simp[NV,Ac.get,Ac.QF]at J;exact⟨by dsimp only;omega,by dsimp only;omega,by dsimp only;omega,by dsimp only;omega,by dsimp only;omega,by(intro O;first|(simp at O;done)|(refine⟨?_,by simp[Ac.op]⟩;simp[Ac.op,aZ,kL,Z,J]))⟩)
   rw[P7 I J M]at h;cases h
  rw[Kl I J]at h;cases h
def jO(l:bH):Prop:=l.q<4/\l.Gs.length<=3/\(l.tg= -1\/(l.tg= -2/\0<=l.fr/\l.fr<5/\l.kd=5)\/(0<=l.tg/\l.tg<5/\(l.kd=0\/l.kd=2\/l.kd=3\/l.kd=4\/l.kd=6)))/\(l.kd=0->aZ l.op=0/\l.op.kind≠4)
def nk{k:Int}{P:Prop}(h:k≠0):k=0->P:=λe=>absurd e h
def jO.ok{l:bH}(h:jO l)(J:0<=l.tg):l.ok:=by
 obtain⟨h1,M,I|I|I,_⟩:=h
 ·omega
 ·omega
 exact⟨h1,by omega,I.2.2⟩
section
variable {n q:Nat}{b:aU}{u:Int}{a:iW}{p:Pl}
def KF:jO (lZ n u a p):=⟨by show 0<4;omega,by show 0<=3;omega,.inl E,nk (by show(1:Int)≠0;decide)⟩
def Qk(h:q<4)(J:b.Gq=4)(I:au b=0):jO (ou n q b):=by
 have hs:=eO I;unfold bq at hs;refine⟨h,by show 0<=3;omega,.inr (.inr ⟨by show 0<=b.fr;omega,by show b.fr<5;omega,.inr (.inr (.inl E))⟩),nk (by show(3:Int)≠0;decide)⟩
def anb(I:b.Gq=2\/b.Gq=3)(h:au b=0):0<=b.tg/\b.tg<5:=by
 have hs:=eO h;unfold bq at hs;omega
def alr{at_:Int}(I:q<4)(J:au b=0)(h:¬(ig b at_).2.2≠0):jO (FY n q b at_):=by
 obtain⟨h1,h2,h3,M⟩:=OU h;obtain⟨O,Z⟩:=anb h1 J;refine⟨I,?_,.inr (.inr ⟨O,Z,.inr (.inr (.inr (.inl E)))⟩),nk (by show(4:Int)≠0;decide)⟩
 show(ig b at_).1.length<=3
 rw[M];dsimp only;rw[length_take];omega
def ag9(h:q<4)(I:b.Gq=2\/b.Gq=3)(J:au b=0):jO (vT n q b):=by
 obtain⟨M,O⟩:=anb I J;exact⟨h,by show 0<=3;omega,.inr (.inr ⟨M,O,.inr (.inl E)⟩),nk (by show(2:Int)≠0;decide)⟩
def arI(h:q<4)(hn:n<5):jO (OI n q):=⟨h,by show 0<=3;omega,.inr (.inl ⟨E,by show 0<=(n:Int);omega,by show(n:Int)<5;omega,E⟩),nk (by show(5:Int)≠0;decide)⟩
def als(h:q<4)(hn:n<5):jO (MO n q b):=⟨h,by show 0<=3;omega,.inr (.inl ⟨E,by show 0<=(n:Int);omega,by show(n:Int)<5;omega,E⟩),nk (by show(5:Int)≠0;decide)⟩
def alu{s:Bool}(I:q<4)(hn:n<5)(J:au b=0):(∀l∈gu n q b s,jO l)/\(gu n q b s).length<=3:=by
 unfold gu;refine⟨λl h=>?_,?_⟩
 ·rcases mem_append.1 h with h|h
  ·rcases mem_append.1 h with h|h
   ·split at h
    ·rename_i M;rw[mem_singleton]at h;subst h;exact ag9 I M J
    simp at h
   split at h
   ·rw[mem_singleton]at h;subst h;exact arI I hn
   simp at h
  split at h
  ·rw[mem_singleton]at h;subst h;exact als I hn
  simp at h
 rw[length_append,length_append]
 split<;>split<;>split<;>simp
end
def Cl.tot(m:Cl):Nat:=m.Ms.length+((m.ah 0).Md.length+((m.ah 1).Md.length+((m.ah 2).Md.length+((m.ah 3).Md.length+(m.ah 4).Md.length))))
def five{n:Nat}(hn:n<5):n=0\/n=1\/n=2\/n=3\/n=4:=Y
def arJ{m m':Cl}{n d:Nat}(hn:n<5)(I:∀j,j≠n->m'.ah j=m.ah j)(h:m'.Ms.length+(m'.ah n).Md.length<=m.Ms.length+(m.ah n).Md.length+d):m'.tot<=m.tot+d:=by
 unfold Cl.tot
 rcases five hn with rfl|rfl|rfl|rfl|rfl
 ·rw[I 1 dQ,I 2 dQ,I 3 dQ,I 4 dQ];omega
 ·rw[I 0 dQ,I 2 dQ,I 3 dQ,I 4 dQ];omega
 ·rw[I 0 dQ,I 1 dQ,I 3 dQ,I 4 dQ];omega
 ·rw[I 0 dQ,I 1 dQ,I 2 dQ,I 4 dQ];omega
 rw[I 0 dQ,I 1 dQ,I 2 dQ,I 3 dQ];omega
def lF{l:bH}{n:Nat}(h:jO l/\l.tg=n):l.ok:=h.1.ok (by rw[h.2];omega)
def OY(m:Cl){n:Nat}(hn:n<5):m.Ms.length+(m.ah n).Md.length<=m.tot:=by
 unfold Cl.tot
 rcases five hn with rfl|rfl|rfl|rfl|rfl<;>omega
structure cu (m:Cl)(T S dS K:Nat):Prop where
 iK:∀n,n<5->G8 (m.ah n)
 mX:∀l∈m.Ms,jO l
 iP:∀n,n<5-> ∀l∈(m.ah n).Md,jO l/\l.tg=n
 room:m.tot<=T
 aP:m.aP.length<=S
 bL:m.bL.length<=dS
 turn:∀n,n<5->(m.ah n).turn<=K
 calls:m.calls<=K
def cu.mono{m:Cl}{T S dS K T' S' D' K':Nat}(h:cu m T S dS K)(h1:T<=T')(J:S<=S')(M:dS<=D')(I:K<=K'):cu m T' S' D' K':=
 ⟨h.iK,h.mX,h.iP,Nat.le_trans h.room h1,Nat.le_trans h.aP J,Nat.le_trans h.bL M,λn hn=>Nat.le_trans (h.turn n hn) I,Nat.le_trans h.calls I⟩
section
variable {m m':Cl}{n:Nat}{l:bH}{rs:List cO}{T S dS K:Nat}
def cu.at_(h:cu m T S dS K)(hn:n<5)(M:∀j,j≠n->m'.ah j=m.ah j)(O:G8 (m'.ah n))(Z:∀l∈m'.Ms,l∈m.Ms\/jO l)(hi:∀l∈(m'.ah n).Md,l∈(m.ah n).Md\/(jO l/\l.tg=n))
  {c s d u:Nat} (h1:m'.Ms.length+(m'.ah n).Md.length<=m.Ms.length+(m.ah n).Md.length+c) (h2:m'.aP.length<=m.aP.length+s) (h3:m'.bL.length<=m.bL.length+d) (h4:(m'.ah n).turn<=(m.ah n).turn+u) (h5:m'.calls<=m.calls+u):cu m' (T+c) (S+s) (dS+d) (K+u):=by
 refine⟨λj I=>?_,λl J=>(Z l J).elim (h.mX l) id,λj I=>?_,?_,?_,?_,λj I=>?_,?_⟩
 ·by_cases e:j=n
  ·subst e;exact O
  rw[M j e];exact h.iK j I
 ·by_cases e:j=n
  ·subst e;exact λl J=>(hi l J).elim (h.iP j I l) id
  rw[M j e];exact h.iP j I
 ·have:=arJ hn M h1;have:=h.room;omega
 ·have:=h.aP;omega
 ·have:=h.bL;omega
 ·by_cases e:j=n
  ·subst e;have:=h.turn j I;omega
  rw[M j e];have:=h.turn j I;omega
 have:=h.calls;omega
structure Keep (m m':Cl):Prop where
 bL:m'.bL=m.bL
 calls:m'.calls=m.calls
 off:m'.off=m.off
def Keep.refl(m:Cl):Keep m m:=⟨E,E,E⟩
def Keep.trans{a b c:Cl}(h:Keep a b)(I:Keep b c):Keep a c:=⟨I.bL.trans h.bL,I.calls.trans h.calls,I.off.trans h.off⟩
def uV{q:Nat}{op:Ev}{u:Int}{a:iW}:Keep m (m.done n q op u a)/\(m.done n q op u a).ah=m.ah/\ ∃l,jO l/\(m.done n q op u a).Ms=m.Ms++[l]:=by
 unfold Cl.done
 split
 ·exact⟨⟨E,E,E⟩,E,_,KF,E⟩
 exact⟨⟨E,E,E⟩,E,_,KF,E⟩
def pY{q:Nat}{a:Int}:Keep m (m.part n q a)/\(m.part n q a).ah=m.ah/\(m.part n q a).Ms=lD n q ((m.ah n).bs q) a m.Ms:=by
 unfold Cl.part lD
 split
 ·exact⟨⟨E,E,E⟩,E,E⟩
 exact⟨⟨E,E,E⟩,E,E⟩
def OZ{q:Nat}{b:aU}{a:Int}{fl:List bH}(J:q<4)(M:au b=0):∀l∈lD n q b a fl,l∈fl\/jO l:=λl I=>by
 unfold lD at I
 split at I
 ·exact .inl I
 rename_i h
 rcases mem_append.1 I with I|I
 ·exact .inl I
 rw[mem_singleton]at I;subst I;exact .inr (alr J M h)
def acT{q:Nat}{b:aU}{a:Int}{fl:List bH}:(lD n q b a fl).length<=fl.length+1:=by
 unfold lD
 split
 ·omega
 simp
def AZ{fl:List bH}{x:bH}(I:jO x):∀l∈fl++[x],l∈fl\/jO l:=λl h=>by
 rcases mem_append.1 h with h|h
 ·exact .inl h
 rw[mem_singleton]at h;subst h;exact .inr I
def arK(M:l.q<4)(h:oC (m.ah n) rs [])(hp:(m.ah n).Mw=none)(H:Hnd m n l m'):(∃us,oC (m'.ah n) rs us)/\(∀x∈m'.Ms,x∈m.Ms\/jO x)/\Keep m m':=by
 cases H with
 |same=>exact⟨⟨_,h⟩,λx J=>.inl J,.refl m⟩
 |done a h1 h2=>
  obtain⟨O,I,l',h5,Z⟩:=uV (m:=m) (n:=n) (q:=l.q) (op:=l.op) (u:=l.num) (a:=a);exact⟨⟨[],by rw[I];exact h⟩,by rw[Z];exact AZ h5,O⟩
 |QM h1=>exact⟨⟨[],h⟩,AZ (Qk M h1 (h.lg _ M)),⟨E,E,E⟩⟩
 |part b h1 h2 O I h5 Z=>
  obtain⟨g1,g2,g3⟩:=pY (m:=m.ay n l.q b) (n:=n) (q:=l.q) (a:=l.at_);have e:(m.ay n l.q b).ah n=(m.ah n).ay l.q b:=aX _;refine⟨⟨[],?_⟩,?_,?_⟩
  ·rw[g2,e];refine⟨h.data,h.MC,h.tape.congr λk hk=>?_,λk hk=>?_,h.rA,λp hp'=>?_,h.len⟩
   ·show jq ((m.ah n).bs k)=jq (Na (m.ah n).bs l.q b k)
    by_cases e:k=l.q
    ·rw[e,Ee]
     rcases I with⟨I,h7,_⟩|⟨_,h7⟩
     ·rw[h7];unfold jq;rw[if_pos I,if_pos I]
     rw[h7]
    rw[Kg e]
   ·show au (Na (m.ah n).bs l.q b k)=0
    by_cases e:k=l.q
    ·rw[e,Ee];exact Z
    rw[Kg e];exact h.lg k hk
   exact absurd (hp'.symm.trans hp) iQ
  ·rw[g3,e,show((m.ah n).ay l.q b).bs l.q=b from Ee _ _ _];exact OZ M Z
  exact(⟨E,E,E⟩:Keep m (m.ay n l.q b)).trans g1
 |Mw p dz d h1 h2 O I h5=>
  obtain⟨w1,w2,w3⟩:=qC I;have hY:dz.bs=(m.ah n).bs/\dz.MC=(m.ah n).MC:=by rcases h1 with h1|⟨_,h1⟩<;>rw[h1]<;>exact⟨E,E⟩
  refine⟨⟨p.rs (m.ah n).bs,?_⟩,λx J=>.inl J,⟨E,E,E⟩⟩;rw[aX];refine⟨?_,hY.2.trans h.MC,?_,?_,λe=>(by cases e),λp' e=>?_,w3 h.len⟩
  ·show d=_;rw[w1,h.data,append_nil,lY]
  ·dsimp only;rw[hY.1];exact h.tape
  ·dsimp only;rw[hY.1];exact h.lg
  cases e;dsimp only;rw[hY.1];exact⟨E,O,by rw[h2];exact M⟩
 |Ny h1=>
  refine⟨⟨[],?_⟩,λx J=>.inl J,⟨E,E,E⟩⟩;rw[aX];exact⟨h.data,h.MC,h.tape,h.lg,h.rA,h.F6,h.len⟩
def oN{n:Nat}(P:Cl->Prop)(I:∀m l r,P m->(m.ah n).Mw=none->(m.ah n).Md=l::r->l.q<4/\P ((m.put n ((m.ah n).box r)).Ng n l)):∀(k:Nat) (m:Cl),(m.ah n).Md.length=k->P m->P (m.more n):=by
 intro k
 induction k with
 |zero=>
  intro m J h;rw[KE (length_eq_zero_iff.1 J)];exact h
 |succ k Z=>
  intro m J h
  cases M:(m.ah n).Mw with
  |some p=>rw[Co (by rw[M];simp)];exact h
  |none=>
   cases hi:(m.ah n).Md with
   |nil=>rw[hi]at J;simp at J
   |cons l r=>
    obtain⟨O,h2⟩:=I m l r h M hi;rw[GZ M hi O];have e:=(jW (m:=m.put n ((m.ah n).box r)) (n:=n) (l:=l) O).iP;have e2:((m.put n ((m.ah n).box r)).ah n).Md=r:=by rw[aX];rfl
    exact Z _ (by rw[e,e2];rw[hi]at J;simpa using J) h2
structure O4 (m0:Cl)(n:Nat)(rs:List cO)(m:Cl):Prop where
 up:(m.ah n).up=true
 tape:∃us,oC (m.ah n) rs us
 mK:∀j,j≠n->m.ah j=m0.ah j
 mX:∀l∈m.Ms,l∈m0.Ms\/jO l
 iP:∀l∈(m.ah n).Md,l∈(m0.ah n).Md
 cnt:m.Ms.length+(m.ah n).Md.length<=m0.Ms.length+(m0.ah n).Md.length
 aP:m.aP.length+(m.ah n).Md.length<=m0.aP.length+(m0.ah n).Md.length
 keep:Keep m0 m
 FZ:(m.ah n).turn=(m0.ah n).turn
def afj{X:Nd}{r:List bH}{us:List cO}(h:oC X rs us):oC (X.box r) rs us:=⟨h.data,h.MC,h.tape,h.lg,h.rA,h.F6,h.len⟩
def oO{m1:Cl}{r:List bH}(hi:∀l∈(m.ah n).Md,l.ok)(H:O4 m n rs m1)(hp:(m1.ah n).Mw=none)(h:(m1.ah n).Md=l::r):
 l.ok/\oC ((m1.put n ((m1.ah n).box r)).ah n) rs []/\Hnd (m1.put n ((m1.ah n).box r)) n l ((m1.put n ((m1.ah n).box r)).Ng n l)/\O4 m n rs ((m1.put n ((m1.ah n).box r)).Ng n l):=by
 have hl:l∈(m1.ah n).Md:=by rw[h];simp
 have I:=hi l (H.iP l hl);obtain⟨us,hU⟩:=H.tape;have Z:=hU.rA hp;subst Z;have hq:=I.1;have M:(m1.put n ((m1.ah n).box r)).ah n=(m1.ah n).box r:=aX _;have J:oC ((m1.put n ((m1.ah n).box r)).ah n) rs []:=by rw[M];exact afj hU
 have hH:=hnd J.lg I;refine⟨I,J,hH,?_⟩;have lK:=jW (m:=m1.put n ((m1.ah n).box r)) (n:=n) (l:=l) hq;obtain⟨g1,g2,g3⟩:=arK hq J (by rw[M];exact hp) hH;have ei:=lK.iP;rw[M]at ei;have e1:(m1.put n ((m1.ah n).box r)).Ms=m1.Ms:=rfl;have e2:(m1.put n ((m1.ah n).box r)).aP=m1.aP:=rfl;have e3:((m1.ah n).box r).Md=r:=rfl;have c1:=H.cnt;have c2:=H.aP;have c3:=lK.Ms;have c4:=lK.aP;rw[h,length_cons]at c1 c2;rw[e1]at c3;rw[e2]at c4;refine⟨by rw[lK.up,M];exact H.up,g1,λj hj=>?_,λx O=>(g2 x O).elim (H.mX x) .inr,λx O=>?_,?_,?_,H.keep.trans ((⟨E,E,E⟩:Keep m1 (m1.put n ((m1.ah n).box r))).trans g3),by rw[lK.FZ,M];exact H.FZ⟩
 ·rw[lK.mK j hj]
  show Na m1.ah n _ j=_
  rw[Kg hj];exact H.mK j hj
 ·rw[ei,e3]at O;exact H.iP x (by rw[h];simp[O])
 ·rw[ei,e3];omega
 rw[ei,e3];omega
def BG(I:(m.ah n).up=true)(h:∃us,oC (m.ah n) rs us):O4 m n rs m:=⟨I,h,λ_ _=>E,λ_ h=>.inl h,λ_ h=>h,Nat.le_refl _,Nat.le_refl _,.refl m,E⟩
def KG(J:(m.ah n).up=true)(h:∃us,oC (m.ah n) rs us)(hi:∀l∈(m.ah n).Md,l.ok):O4 m n rs (m.more n):=
 oN (n:=n) (O4 m n rs) (λ_ _ _ H M I=>by obtain⟨h1,_,_,O⟩:=oO hi H M I;exact⟨h1.1,O⟩) _ m E (BG J h)
def zT{X:Nd}{p:bS}(J:m.ah n=X)(h:X.up=true)(M:X.Mw=some p)(O:p.q<4)(Z:au (p.b X.bs)=0)(I:p.ok X.bs):
 ∃dz:Nd,(m.step n).ah=Na m.ah n dz/\dz.bs=Na X.bs p.q (p.b X.bs)/\dz.data=X.data/\dz.MC=X.data.length/\dz.Mw=none/\dz.up=true/\dz.Md=X.Md/\dz.turn=X.turn/\Keep m (m.step n)/\
   (∀l∈(m.step n).Ms,l∈m.Ms\/jO l)/\(m.step n).Ms.length<=m.Ms.length+1/\(m.step n).aP.length<=m.aP.length+1:=by
 cases p with
 |serve q Gs op num a=>
  rw[jw J h M E I.1];exact⟨_,E,E,E,E,E,h,E,E,⟨E,E,E⟩,AZ KF,by simp,by simp⟩
 |Ns q b=>
  rw[nJ J h M];obtain⟨_,e,f,rfl,_⟩:=I;exact⟨_,E,E,E,E,E,h,E,E,⟨E,E,E⟩,AZ (Qk O E Z),by simp,by simp[Cl.put]⟩
 |QU q b last=>
  cases last with
  |true=>
   rw[jU J h M];exact⟨_,E,E,E,E,E,h,E,E,⟨E,E,E⟩,λl hl=>.inl hl,by simp[Cl.put],by simp⟩
  |false=>
   rw[sD J h M];have hr:b.Gq=4:=by
    have:=(I.2.2.2.1 E).1;rw[this];exact I.1
   exact⟨_,E,E,E,E,E,h,E,E,⟨E,E,E⟩,AZ (Qk O hr Z),by simp,by simp[Cl.put]⟩
 |fG q b at_=>
  rw[pX J h M];exact⟨_,E,E,E,E,E,h,E,E,⟨E,E,E⟩,OZ O Z,acT,by simp[Cl.put]⟩
 |Ni q b=>
  rw[l5 J h M];exact⟨_,E,E,E,E,E,h,E,E,⟨E,E,E⟩,λl hl=>.inl hl,by simp[Cl.put],by simp[Cl.put]⟩
def acU{X dz:Nd}{p:bS}{us:List cO}(h:oC X rs us)(O:X.Mw=some p)(J:dz.bs=Na X.bs p.q (p.b X.bs))(M:dz.data=X.data)(hs:dz.MC=X.data.length)(hn:dz.Mw=none):oC dz (rs++us) []:=by
 obtain⟨Z,I,hq⟩:=h.F6 p O;obtain⟨h1,h2⟩:=iR h.tape h.lg I hq;refine⟨by rw[M,h.data,append_nil],by rw[hs,h.data],?_,λk hk=>?_,λ_=>E,λp' e=>(by rw[hn]at e;cases e),by rw[M];exact h.len⟩
 ·rw[J,Z];exact h1
 rw[J];by_cases e:k=p.q
 ·rw[e,Ee];exact h2
 rw[Kg e];exact h.lg k hk
def O5(h:cu m T S dS K)(hn:n<5):cu (m.step n) (T+3) (S+T+1) dS (K+1):=by
 cases M:(m.ah n).up with
 |false=>rw[mM M];exact h.mono Y Y Y Y
 |true=>
  obtain⟨rs,us,O⟩:=(h.iK n hn).rC M;have hT:=OY m hn;have hT2:=h.room
  cases hp:(m.ah n).Mw with
  |some p=>
   obtain⟨h1,h2,h3⟩:=O.F6 p hp;obtain⟨_,hf⟩:=iR O.tape O.lg h2 h3;obtain⟨dz,y1,y2,y3,y4,y5,y6,y7,y8,y9,y10,y11,y12⟩:=zT E M hp h3 hf h2;have eY:(m.step n).ah n=dz:=by rw[y1];exact Ee _ _ _
   have hUY:=acU O hp y2 y3 y4 y5;refine(h.at_ (c:=1) (s:=1) (d:=0) (u:=0) hn (λj hj=>by rw[y1,Kg hj]) ?_ y10 ?_ ?_ y12 (by rw[y9.bL];omega) (by rw[eY,y8];omega) (by rw[y9.calls];omega)).mono Y Y Y Y
   ·rw[eY];exact .inl ⟨y6,_,_,hUY⟩
   ·rw[eY,y7];exact λl J=>.inl J
   rw[eY,y7];omega
  |none=>
   have R:=KG M ⟨us,O⟩ λl J=>lF (h.iP n hn l J);have c:=R.cnt;have c2:=R.aP;obtain⟨Z,I⟩:=R.tape;rw[jf M hp]
   split
   ·rename_i hp2
    have e:(((m.more n).jV n).ah n)={ (m.more n).ah n with turn:=((m.more n).ah n).turn+1}:=aX _;have hqq:((m.more n).ah n).turn % 4<4:=mod_lt _ dQ;obtain⟨d1,d2⟩:=alu (n:=n) (s:=((m.more n).ah n).Nf (((m.more n).ah n).turn % 4)) hqq hn (I.lg _ hqq);refine(h.at_ (c:=3) (s:=T) (d:=0) (u:=1) hn (λj hj=>?_) ?_ (λl J=>?_) ?_ ?_ ?_ ?_ ?_ ?_).mono Y Y Y Y
    ·show Na (m.more n).ah n _ j=_
     rw[Kg hj];exact R.mK j hj
    ·rw[e];exact .inl ⟨R.up,rs,Z,⟨I.data,I.MC,I.tape,I.lg,I.rA,I.F6,I.len⟩⟩
    ·rcases mem_append.1 J with J|J
     ·exact R.mX l J
     exact .inr (d1 l J)
    ·rw[e];exact λl J=>.inl (R.iP l J)
    ·rw[e]
     show((m.more n).Ms++_).length+((m.more n).ah n).Md.length<=_
     rw[length_append];have:=d2;omega
    ·show(m.more n).aP.length<=_;omega
    ·show(m.more n).bL.length<=_;rw[R.keep.bL];omega
    ·rw[e];show((m.more n).ah n).turn+1<=_;rw[R.FZ];exact Nat.le_refl _
    show(m.more n).calls<=_;rw[R.keep.calls];omega
   refine(h.at_ (c:=0) (s:=T) (d:=0) (u:=0) hn R.mK (.inl ⟨R.up,rs,Z,I⟩) R.mX (λl J=>.inl (R.iP l J)) Y Y (by rw[R.keep.bL];omega) (by rw[R.FZ];omega) (by rw[R.keep.calls];omega)).mono Y Y Y Y
def G9(h:cu m T S dS K)(O:jO l):cu (m.Nk l) (T+1) S (dS+1) K:=by
 have M:=h.room;have J:∀fl,({m with Ms:=fl}:Cl).tot+m.Ms.length=m.tot+fl.length:=λfl=>by unfold Cl.tot;dsimp only;omega
 obtain⟨hq,hv,h1|⟨h1,Z,h3,_⟩|⟨h1,Z,h3⟩,_⟩:=id O
 ·have e:m.Nk l={m with bL:=m.bL++[l.bL]}:=if_pos h1;rw[e];exact⟨h.iK,h.mX,h.iP,by show m.tot<=_;omega,h.aP,by show(m.bL++_).length<=_;have:=h.bL;simp;omega,h.turn,h.calls⟩
 ·unfold Cl.Nk;rw[if_neg Y,if_pos h1]
  split
  ·refine⟨h.iK,λx I=>?_,h.iP,?_,h.aP,by have:=h.bL;show m.bL.length<=_;omega,h.turn,h.calls⟩
   ·rcases mem_append.1 I with I|I
    ·exact h.mX x I
    rw[mem_singleton]at I;subst I;exact⟨hq,by show 0<=3;omega,.inr (.inr ⟨Z,h3,.inr (.inr (.inr (.inr E)))⟩),nk (by show(6:Int)≠0;decide)⟩
   have:=J (m.Ms++[lC l.fr l.q (aJ (dH m.off l) l.q).1]);rw[length_append,length_singleton]at this
   show Cl.tot {m with Ms:=_}<=_
   omega
  exact⟨h.iK,h.mX,h.iP,by show m.tot<=_;omega,h.aP,by have:=h.bL;show m.bL.length<=_;omega,h.turn,h.calls⟩
 have hn:l.tg.toNat<5:=Y;unfold Cl.Nk;rw[if_neg Y,if_neg Y]
 split
 ·rename_i hu
  have e:(m.put l.tg.toNat {m.ah l.tg.toNat with Md:=(m.ah l.tg.toNat).Md++[l]}).ah l.tg.toNat=(m.ah l.tg.toNat).box ((m.ah l.tg.toNat).Md++[l]):=aX _;obtain⟨rs,us,hU⟩:=(h.iK _ hn).rC hu;refine(h.at_ (m':=m.put l.tg.toNat {m.ah l.tg.toNat with Md:=(m.ah l.tg.toNat).Md++[l]}) (c:=1) (s:=0) (d:=0) (u:=0) hn (λj hj=>Kg hj) (by rw[e];exact .inl ⟨hu,rs,us,afj hU⟩) (λx I=>.inl I) ?_ ?_ (Nat.le_refl _) (Nat.le_refl _) (by rw[e];exact Nat.le_refl _) (Nat.le_refl _)).mono Y Y Y Y
  ·rw[e];intro x I
   rcases mem_append.1 I with I|I
   ·exact .inl I
   rw[mem_singleton]at I;subst I;exact .inr ⟨O,by omega⟩
  rw[e]
  show m.Ms.length+((m.ah l.tg.toNat).Md++[l]).length<=_
  rw[length_append,length_singleton];omega
 exact h.mono Y Y Y Y
def LH:∀(ls:List bH) {m:Cl} {T dS:Nat},cu m T S dS K->(∀l∈ls,jO l)->cu (ls.foldl Cl.Nk m) (T+ls.length) S (dS+ls.length) K
 |[],m,T,dS,h,_=>h
 |l::ls,m,T,dS,h,I=>(LH ls (G9 h (I l iQ)) λx J=>I x (by simp[J])).mono jQ (Nat.le_refl _) jQ (Nat.le_refl _)
def TL(h:cu m T S dS K):cu m.all T S (dS+T) K:=by
 have I:=h.room;have J:cu {m with Ms:=[]} (T-m.Ms.length) S dS K:=by
  refine⟨h.iK,λl M=>by simp at M,h.iP,?_,h.aP,h.bL,h.turn,h.calls⟩;unfold Cl.tot at I⊢;dsimp only[length_nil];omega
 have O:m.Ms.length<=T:=by unfold Cl.tot at I;omega
 exact(LH m.Ms J h.mX).mono Y (Nat.le_refl _) Y (Nat.le_refl _)
def acV{at_:Nat}{c s:Bool}(h:cu m T S dS K):cu (m.pick at_ c s) (T+1) S (dS+1) K:=by
 unfold Cl.pick
 split
 ·exact h.mono Y Y Y Y
 rename_i l I
 have J:jO l:=h.mX l (mem_of_getElem? I);have h1:cu (if s=true then m else{m with Ms:=m.Ms.eraseIdx (at_ % m.Ms.length)}) T S dS K:=by
  split
  ·exact h
  refine⟨h.iK,λx M=>h.mX x (mem_of_mem_eraseIdx M),h.iP,?_,h.aP,h.bL,h.turn,h.calls⟩;have:=h.room;have O:=length_eraseIdx_le m.Ms (at_ % m.Ms.length);unfold Cl.tot at this⊢;dsimp only;omega
 dsimp only
 split
 ·exact G9 h1 J
 exact h1.mono Y Y Y Y
def acX{q:Nat}(h:cu m T S dS K)(hn:n<5)(J:q<4):cu (m.make n q) T S dS K:=by
 unfold Cl.make
 split
 ·exact h
 rename_i Z
 have hu:(m.ah n).up=true:=by
  cases e:(m.ah n).up with
  |true=>rfl
  |false=>exact absurd (.inl e) Z
 have hp:(m.ah n).Mw=none:=by
  cases e:(m.ah n).Mw with
  |none=>rfl
  |some p=>exact absurd (.inr (.inl (by rw[e];rfl))) Z
 split
 ·exact h
 rename_i h1
 obtain⟨h2,h3,h4⟩:=alo h1;rw[h4]
 split
 ·exact h
 rename_i x hw
 obtain⟨d,hd,rfl⟩:=pK hw;obtain⟨rs,us,I⟩:=(h.iK n hn).rC hu;have M:=I.rA hp;subst M;obtain⟨w1,w2,w3⟩:=qC hd;obtain⟨_,a2⟩:=Qf (q:=q) (I.lg q J) h2 h3 J;have O:au ⟨1,1,0,0,0,[]⟩=0:=lS (uR Y Y _) xG;refine h.at_ (m':={m.put n {m.ah n with data:=d,MC:=d.length,bs:=Na (m.ah n).bs q ⟨1,1,0,0,0,[]⟩}with off:=(r9 m.off q n).1,MG:=iD m.MG n q (1,0)}) (c:=0) (s:=0) (d:=0) (u:=0) hn (λj hj=>Kg hj) ?_ (λx hx=>.inl hx) ?_ ?_ (Nat.le_refl _) (Nat.le_refl _) ?_ (Nat.le_refl _)
 ·refine .inl ⟨?_,rs++[fH 1 q 1 0 aI],[],?_⟩
  ·show(Na m.ah n _ n).up=true;rw[Ee];exact hu
  show oC (Na m.ah n _ n) _ _
  rw[Ee];refine⟨?_,?_,?_,λk hk=>?_,λ_=>E,λp e=>?_,w3 I.len⟩
  ·show d=_;rw[w1,I.data,append_nil,append_nil,lY]
  ·show(d.length:Int)=_;rw[w1,I.data,append_nil,lY]
  ·refine J4 (x:=⟨1,1,0,0,0,[]⟩) I.tape J (w2 _ iQ) E ?_;rw[Jo (.inr (.inl h2)),a2];rfl
  ·show au (Na (m.ah n).bs q _ k)=0
   by_cases e:k=q
   ·rw[e,Ee];exact O
   rw[Kg e];exact I.lg k hk
  exact absurd (e.symm.trans hp) iQ
 ·show ∀l∈(Na m.ah n _ n).Md,_;rw[Ee];exact λl hl=>.inl hl
 ·show m.Ms.length+(Na m.ah n _ n).Md.length<=_;rw[Ee];exact Nat.le_refl _
 show(Na m.ah n _ n).turn<=_;rw[Ee];exact Nat.le_refl _
def nK{d:QK}{q:Int}(h:¬(aJ d q).2≠0):(aJ d q).1.node.toNat<5/\0<=(aJ d q).1.node/\(aJ d q).1=d.at q.toNat:=by
 obtain⟨h1,Z,M,O,I⟩:=Iw (Classical.not_not.1 h);unfold yS at I
 rcases I with⟨I,J⟩|I
 ·exfalso
  apply O;generalize aJ d q=r at*;obtain⟨⟨a,b⟩,c⟩:=r;dsimp only at I J⊢;rw[I,J];rfl
 exact⟨by omega,by omega,M⟩
def Z7{bs:Nat->aU}{q:Nat}{p:bS}{tg:Int}(I:(bs q).Gq=1)(h:p.ok bs):p.rs (Na bs q ⟨2,(bs q).ep,0,tg,0,(bs q).Gs⟩)=p.rs bs/\p.ok (Na bs q ⟨2,(bs q).ep,0,tg,0,(bs q).Gs⟩):=by
 cases p with
 |serve k Gs op num a=>
  simp only[bS.ok,bS.rs]at h⊢;by_cases e:k=q
  ·subst e;rw[Ee];exact⟨E,.inr E,h.2⟩
  rw[Kg e];exact⟨E,h⟩
 |Ns k b=>
  simp only[bS.ok]at h⊢;refine⟨E,?_⟩;by_cases e:k=q
  ·subst e;exfalso;have:=h.1;omega
  rw[Kg e];exact h
 |QU k b last=>
  simp only[bS.ok,bS.rs]at h⊢;by_cases e:k=q
  ·subst e;exfalso;have:=h.1;omega
  rw[Kg e];exact⟨E,h⟩
 |fG k b a=>
  simp only[bS.ok]at h⊢;refine⟨E,?_⟩;by_cases e:k=q
  ·subst e;exfalso;have:=h.1;omega
  rw[Kg e];exact h
 |Ni k b=>
  simp only[bS.ok,bS.rs]at h⊢;by_cases e:k=q
  ·subst e;exfalso;have:=h.1;omega
  rw[Kg e];exact⟨E,h⟩
def acY{q:Nat}{tg:Int}(h:cu m T S dS K)(hq:q<4):cu (m.move q tg) T S dS K:=by
 unfold Cl.move
 split
 ·exact h
 rename_i h0
 have hw:¬(aJ m.off q).2≠0:=λe=>h0 (.inl e);obtain⟨hn,_,_⟩:=nK hw;have hu:(m.ah (aJ m.off q).1.node.toNat).up=true:=by
  cases e:(m.ah (aJ m.off q).1.node.toNat).up with
  |true=>rfl
  |false=>exact absurd (.inr (.inr e)) h0
 generalize hnn:(aJ m.off q).1.node.toNat=n at*
 split
 ·rename_i h1
  obtain⟨g1,g2,g3,g4⟩:=go_ok h1.1;rw[g4];obtain⟨rs,us,hU⟩:=(h.iK n hn).rC hu;have hs:=eO (hU.lg q hq);unfold bq at hs;have hok:au ⟨2,((m.ah n).bs q).ep,0,tg,0,((m.ah n).bs q).Gs⟩=0:=lS (.inr ⟨by dsimp only;omega,by dsimp only;omega,.inr (.inl ⟨E,E,g2,by dsimp only;omega,by dsimp only;omega,by dsimp only;omega⟩)⟩) (jD (b:=(m.ah n).bs q) (hU.lg q hq));have hd:∀k,jq ((m.ah n).bs k)=jq (Na (m.ah n).bs q ⟨2,((m.ah n).bs q).ep,0,tg,0,((m.ah n).bs q).Gs⟩ k):=λk=>by
   by_cases e:k=q
   ·rw[e,Ee,zf (.inl g1) (hU.lg q hq)];rfl
   rw[Kg e]
  have e:((m.ay n q ⟨2,((m.ah n).bs q).ep,0,tg,0,((m.ah n).bs q).Gs⟩).ah n)=(m.ah n).ay q ⟨2,((m.ah n).bs q).ep,0,tg,0,((m.ah n).bs q).Gs⟩:=aX _;refine h.at_ (m':=m.ay n q ⟨2,((m.ah n).bs q).ep,0,tg,0,((m.ah n).bs q).Gs⟩) (c:=0) (s:=0) (d:=0) (u:=0) hn (λj hj=>Kg hj) ?_ (λx hx=>.inl hx) (by rw[e];exact λl hl=>.inl hl) (by rw[e];exact Nat.le_refl _) (Nat.le_refl _) (Nat.le_refl _) (by rw[e];exact Nat.le_refl _) (Nat.le_refl _);rw[e];refine .inl ⟨hu,rs,us,⟨hU.data,hU.MC,hU.tape.congr λk _=>hd k,λk hk=>?_,hU.rA,λp hp=>?_,hU.len⟩⟩
  ·show au (Na (m.ah n).bs q _ k)=0
   by_cases e:k=q
   ·rw[e,Ee];exact hok
   rw[Kg e];exact hU.lg k hk
  obtain⟨p1,p2,p3⟩:=hU.F6 p hp;exact⟨by rw[p1];exact(Z7 (tg:=tg) g1 p2).1.symm,(Z7 (tg:=tg) g1 p2).2,p3⟩
 exact h
end
section
variable {m:Cl}{n:Nat}{T S dS K:Nat}
def YW{keep:Int}(h:cu m T S dS K)(hn:n<5)(M:0<=keep):cu (m.Q0 n keep) T S dS K:=by
 unfold Cl.Q0
 split
 ·rename_i O
  obtain⟨rs,us,Z⟩:=(h.iK n hn).rC O;obtain⟨I,t,f,J,_⟩:=Fe Z M;have e:(m.put n ((m.ah n).Nn keep)).ah n=(m.ah n).Nn keep:=aX _;refine h.at_ (m':=m.put n ((m.ah n).Nn keep)) (c:=0) (s:=0) (d:=0) (u:=0) hn (λj hj=>Kg hj) (by rw[e];exact .inr ⟨E,I,t,f,J⟩) (λx hx=>.inl hx) ?_ ?_ (Nat.le_refl _) (Nat.le_refl _) ?_ (Nat.le_refl _)
  ·rw[e,J.iP];simp
  ·rw[e,J.iP];show m.Ms.length+0<=_;omega
  rw[e];exact Nat.le_refl _
 exact h
def sZ(h:G8 (m.ah n)):(m.ah n).up=true/\m.start n=m\/(m.ah n).up=false/\ ∃rs t f,G6 (m.ah n) rs t f/\(m.start n=m\/ ∃ws,
  let m1:=m.put n { (m.ah n).blank with up:=true,data:=bK (rs++ws),MC:=(bK (rs++ws)).length,bs:=bD (m.ah n).data (m.ah n).MC}
  m.start n=Cl.QG n (bD (m.ah n).data (m.ah n).MC) [0,1,2,3] m1/\(bK (rs++ws)).length<=100000/\
  eG (jC (m.ah n).data (m.ah n).MC).2.1 (bD (m.ah n).data (m.ah n).MC) [0,1,2,3] (jC (m.ah n).data (m.ah n).MC).1=some (bK (rs++ws))/\
  TJ m1 (m.start n) n (λq=>if q∈[0,1,2,3]/\(bD (m.ah n).data (m.ah n).MC q).Gq=1 then iE (bD (m.ah n).data (m.ah n).MC q)else bD (m.ah n).data (m.ah n).MC q)/\
  (m.start n).aP.length<=m.aP.length+8004/\oC ((m.start n).ah n) (rs++ws) []/\
  ∀q,q<4->(f q).Gq=1->au (iE (f q))=0):=by
 cases hu:(m.ah n).up with
 |true=>exact .inl ⟨E,by unfold Cl.start;rw[if_pos hu]⟩
 |false=>
  refine .inr ⟨E,?_⟩;obtain⟨rs,t,f,M⟩:=h.auE hu;refine⟨rs,t,f,M,?_⟩;obtain⟨r1,r2,r3⟩:=M.rd;have J:m.start n=match eG (jC (m.ah n).data (m.ah n).MC).2.1 (bD (m.ah n).data (m.ah n).MC) [0,1,2,3] (jC (m.ah n).data (m.ah n).MC).1 with
   |none=>m
   |some d=>Cl.QG n (bD (m.ah n).data (m.ah n).MC) [0,1,2,3] (m.put n { (m.ah n).blank with up:=true,data:=d,MC:=d.length,bs:=bD (m.ah n).data (m.ah n).MC}):=by
   unfold Cl.start;rw[if_neg (by rw[hu];simp)]
   all_goals rfl
  cases hw:eG (jC (m.ah n).data (m.ah n).MC).2.1 (bD (m.ah n).data (m.ah n).MC) [0,1,2,3] (jC (m.ah n).data (m.ah n).MC).1 with
  |none=>rw[hw]at J;exact .inl J
  |some d=>
   rw[hw]at J;refine .inr ?_;have O:∀q∈[0,1,2,3],q<4:=by decide
   have hin:∀q,q<4->q∈[0,1,2,3]:=by decide
   have hll:(bK rs).length<=100000:=by
    have h1:=M.len;rw[M.data,length_append]at h1;omega
   have hw':=hw;rw[r1]at hw';obtain⟨ws,e1,e2,e3,e4⟩:=Qj (g:=f) dQ (λq I=>⟨O q I,(r3 q (O q I)).symm⟩) M.tape (λq I=>(M.lg q I).1) hll hw';subst e1;refine⟨ws,J,e3,E,?_⟩;have hev:∀q∈[0,1,2,3],(bD (m.ah n).data (m.ah n).MC q).Gs.length<=2000:=λq I=>by
    rw[r3 q (O q I)];exact kH (jD (M.lg q (O q I)).1)
   obtain⟨g1,g2⟩:=D7 (n:=n) (bs:=bD (m.ah n).data (m.ah n).MC) [0,1,2,3] (m.put n { (m.ah n).blank with up:=true,data:=bK (rs++ws),MC:=(bK (rs++ws)).length,bs:=bD (m.ah n).data (m.ah n).MC}) dQ λq I=>⟨by rw[aX],hev q I⟩;have hbs:(λq=>if q∈[0,1,2,3]/\(bD (m.ah n).data (m.ah n).MC q).Gq=1 then(dL (bD (m.ah n).data (m.ah n).MC q)).1 else((m.put n { (m.ah n).blank with up:=true,data:=bK (rs++ws),MC:=(bK (rs++ws)).length,bs:=bD (m.ah n).data (m.ah n).MC}).ah n).bs q)=
     λq=>if q∈[0,1,2,3]/\(bD (m.ah n).data (m.ah n).MC q).Gq=1 then iE (bD (m.ah n).data (m.ah n).MC q)else bD (m.ah n).data (m.ah n).MC q:=by
    funext q
    rw[aX];by_cases c:q∈[0,1,2,3]/\(bD (m.ah n).data (m.ah n).MC q).Gq=1
    ·rw[if_pos c,if_pos c,(e4 q c.1 c.2).2]
    rw[if_neg c,if_neg c]
   have Z:m.start n=Cl.QG n (bD (m.ah n).data (m.ah n).MC) [0,1,2,3] (m.put n { (m.ah n).blank with up:=true,data:=bK (rs++ws),MC:=(bK (rs++ws)).length,bs:=bD (m.ah n).data (m.ah n).MC}):=J;rw[hbs,<-Z]at g1;rw[<-Z]at g2;refine⟨g1,g2,?_,λq I hr=>?_⟩
   ·have e:(m.start n).ah n={ (m.ah n).blank with up:=true,data:=bK (rs++ws),MC:=(bK (rs++ws)).length,bs:=λq=>if q∈[0,1,2,3]/\(bD (m.ah n).data (m.ah n).MC q).Gq=1 then iE (bD (m.ah n).data (m.ah n).MC q)else bD (m.ah n).data (m.ah n).MC q}:=by
     rw[g1.ah,Ee,aX]
    rw[e];have hbb:∀q,q<4->au (if q∈[0,1,2,3]/\(bD (m.ah n).data (m.ah n).MC q).Gq=1 then iE (bD (m.ah n).data (m.ah n).MC q)else bD (m.ah n).data (m.ah n).MC q)=0:=λq I=>by
     split
     ·rename_i c;exact(e4 q c.1 c.2).1
     rw[r3 q I];exact(M.lg q I).1
    refine⟨by rw[append_nil],E,e2.congr λq I=>?_,hbb,λ_=>E,λp hp=>(by cases hp),e3⟩;dsimp only;by_cases c:q∈[0,1,2,3]/\(bD (m.ah n).data (m.ah n).MC q).Gq=1
    ·rw[if_pos c,if_pos c];rfl
    rw[if_neg c,if_neg c,r3 q I];exact(kI (M.lg q I).2).symm
   have:=(e4 q (hin q I) (by rw[r3 q I];exact hr)).1;rwa [r3 q I]at this
def base_start(h:cu m T S dS K)(hn:n<5):cu (m.start n) T (S+8004) dS K:=by
 rcases sZ (h.iK n hn)with⟨_,e⟩|⟨hu,rs,t,f,hd,e|⟨ws,e1,e2,e3,W,Z,e6,e7⟩⟩
 ·rw[e];exact h.mono Y Y Y Y
 ·rw[e];exact h.mono Y Y Y Y
 have J:=W.ah;have I:(m.start n).ah n={ (m.ah n).blank with up:=true,data:=bK (rs++ws),MC:=(bK (rs++ws)).length,bs:=λq=>if q∈[0,1,2,3]/\(bD (m.ah n).data (m.ah n).MC q).Gq=1 then iE (bD (m.ah n).data (m.ah n).MC q)else bD (m.ah n).data (m.ah n).MC q}:=by
  rw[J,Ee,aX]
 refine h.at_ (c:=0) (s:=8004) (d:=0) (u:=0) hn (λj M=>?_) (.inl ⟨by rw[I],rs++ws,[],e6⟩) (λx O=>.inl (by rw[W.Ms]at O;exact O)) (by rw[I];intro l hl;exact absurd hl (by simp[Nd.blank])) ?_ Z (by rw[W.bL];exact Nat.le_refl _) ?_ (by rw[W.calls];exact Nat.le_refl _)
 ·rw[J,Kg M];exact Kg M
 ·rw[I,W.Ms];show m.Ms.length+0<=_;omega
 rw[I];exact Nat.le_refl _
def acZ{l:bH}(h:cu m T S dS K)(J:jO l):cu {m with Ms:=m.Ms++[l],calls:=m.calls+1} (T+1) S dS (K+1):=by
 have M:=h.room;refine⟨h.iK,λx I=>?_,h.iP,?_,h.aP,h.bL,λn hn=>le_succ_of_le (h.turn n hn),by have:=h.calls;show m.calls+1<=_;omega⟩
 ·rcases mem_append.1 I with I|I
  ·exact h.mX x I
  rw[mem_singleton]at I;subst I;exact J
 unfold Cl.tot at M⊢;dsimp only;rw[length_append,length_singleton];omega
def aha{a:Ac}(h:cu m T S dS K)(M:wX a):cu (m.QT a) (T+3) (S+T+8004) (dS+T+1) (K+1):=by
 obtain⟨h1,O,h3,h4,Z,h6⟩:=M;have hn:a.nd.toNat<5:=Y;have I:a.qu.toNat<4:=Y;unfold Cl.QT
 split
 ·exact(acX h hn I).mono Y Y Y Y
 split
 ·rename_i J
  exact(acZ h ⟨I,by show 0<=3;omega,.inr (.inr ⟨O.1,by show a.nd<5;omega,.inl E⟩),λ_=>h6 J⟩).mono Y Y Y Y
 split
 ·exact(O5 h hn).mono Y Y Y Y
 split
 ·exact(acV h).mono Y Y Y Y
 split
 ·exact(TL h).mono Y Y Y Y
 split
 ·exact(YW h hn Z.1).mono Y Y Y Y
 split
 ·exact(base_start h hn).mono Y Y Y Y
 exact(acY h I).mono Y Y Y Y
end
def Bs(m:Cl)(k:Nat):Prop:=cu m (4*k) (500000*k) (500000*k) k
def auF:Bs kM 0:=by
 refine⟨λn _=>.inl ⟨E,[],[],⟨E,E,iN.nil,λq _=>by show au bF=0;exact lS (.inl ⟨E,by decide,by decide,E,E,E,E⟩) xG,λ_=>E,λp I=>(by cases I),zero_le _⟩⟩,λl h=>(by cases h),λn _ l h=>(by cases h),Nat.le_refl _,Nat.le_refl _,Nat.le_refl _,λ_ _=>Nat.le_refl _,Nat.le_refl _⟩
def yj{m:Cl}{k:Nat}{a:Ac}(h:Bs m k)(I:wX a)(J:k<=100000):Bs (m.QT a) (k+1):=by
 have:=aha h I;exact this.mono Y Y Y Y
def afk:∀(l:List Ac) {m:Cl} {k:Nat},Bs m k->(∀a∈l,wX a)->k+l.length<=100000->Bs (m.run l) (k+l.length)
 |[],m,k,h,_,_=>h
 |a::l,m,k,h,I,J=>by
  rw[length_cons]at J;have:=afk l (yj h (I a iQ) Y) (λx M=>I x (by simp[M])) Y;rw[length_cons,show k+(l.length+1)=k+1+l.length by omega];exact this
def YX{b:aU}{hv:Int}(h:au b=0):(bG b hv).1.Gs.length<=b.Gs.length/\(-2<=(bG b hv).1.ep/\(bG b hv).1.ep<=2000000):=by
 have e:=xH h;unfold bG;rw[if_neg (λI=>I h)];have z:bF.Gs.length<=b.Gs.length/\(-2<=bF.ep/\bF.ep<=2000000):=⟨zero_le _,by decide,by decide⟩
 split
 ·exact z
 split
 ·exact z
 split
 ·exact⟨Nat.le_refl _,e⟩
 split
 ·exact⟨Nat.le_refl _,e⟩
 exact⟨Nat.le_refl _,e⟩
def acr{K:CK}{B n kn kw:Nat}{w0 w:World}{fs:List J8}{m:Cl}{H:List LX}{x:LX}(hn:n<5)(Z:K.nb n=kn)(iH:K.wb=kw)(hu:Uk B w0)(hB1:m.Ms.length<=1000000000)(hB2:m.aP.length<=1000000000000)(HW:Wd K B w0 w fs m (x::H))(hq:x.l.q<4)(hv:∀q,q<4->au ((m.ah n).bs q)=0):
 Calls tP 66 #[pV kw 0,pV kn 0,.agg (LX.row x)] w (λe w'=>e=.returned (.tuple #[])/\Wd K B w0 w' fs (m.QV n x.l) H):=by
 obtain⟨R,G,S0⟩:=HW.open hn;have hfl:R.fx.length=m.Ms.length:=by rw[<-G.Ms,length_map]
 have NG:=G.iK n hn;obtain⟨X,hX⟩:∃X,m.ah n=X:=⟨_,E⟩;obtain⟨z,hz⟩:∃z,R.nx n=z:=⟨_,E⟩;rw[hX,hz]at S0 NG;have hL:∀f∈R.L,f∈gG K R m fs n:=λf h=>mem_append_right _ (mem_append_right _ h);obtain⟨rr,hrr⟩:∃r,gG K R m fs n=r:=⟨_,E⟩;rw[hrr]at S0 hL;have S:St B w0 w (cN kn n X z z.pv (cF kw R m rr)):=by subst Z;subst iH;exact S0
 clear S0 HW;have hlen:=(S.own 1 E).1;rw[iL (sz:=6) (λ_=>E)]at hlen;rw[hX]at hv;obtain⟨y,hy,M,qE⟩:=NG.at_ hq;have hln:=kH (jD (M▸hv _ hq));have zi:y.b.Gs.length*48<=reachBytes:=by unfold reachBytes;omega
 have Mx:=xH (M▸hv _ hq);refine gP 75 func66 ?_;refine cw [0,1,2] ?_;refine zN 2 ?_;refine VW S ?_;intro b1 w2 S3;refine VW S3 ?_;intro b4 w5 S6;refine iU S6 ?_;intro b7 w8 S9;refine zN 6 ?_;refine gD S9 zr3 ?_;intro O Ib pF;refine jH (row':= #[D (x.l.q:Int)]) 0 pF kQ ?_;intro En mZ;refine zN 3 ?_;have jm:=mZ.drew;refine fM 9 8 jm [] ?_;iterate 5 refine gW ?_
 refine gk 5 E jm (λ_ _=>ko x.l.q) ?_;refine gk (v:=.agg (bR y.b y.A y.c)) 6 E jm (λ_ GI=>(aj E E (dP (cs:=BX.cells y) (Rd.wZ (St.Rn 5 GI E) (λ_ _ h=>bE (enc:=BX.cells) (sz:=6) (λ_=>E) hy h))))) ?_;refine fE (m:=1) (r:=7) kQ ?_;refine mW (i:=7) E E (V:=λb=>pV b 0) (row:=zB) (t:=42) jm (wn E) E E (jd E (zeroValue42 _) E) ?_;intro AJ Oc lH;refine gW ?_;refine fC kQ E E E ?_;refine sa 0 lH kQ ?_;intro M4 sS;refine zQ ?_;refine jg ?_;refine zN 8 ?_;by_cases h28:y.b.tg=x.l.fr
 ·refine zN 4 ?_;refine vg (v:=D (y.b.ep+1)) iI ?_;refine zN 2 ?_;by_cases h29:y.b.ep+1=x.l.ep
  ·refine zN 8 ?_;obtain⟨BR,qF⟩:∃r,bG y.b x.l.at_=r:=⟨_,E⟩;have HP:=λw h=>aeR y.b.Gq y.b.ep y.b.fr y.b.tg y.b.rd y.A y.c y.b.Gs x.l.at_ w h zi;rw[show bG ⟨y.b.Gq,y.b.ep,y.b.fr,y.b.tg,y.b.rd,y.b.Gs⟩ x.l.at_=BR from qF]at HP;have aoH:=YX (b:=y.b) (hv:=x.l.at_) (M▸hv _ hq);rw[qF]at aoH;have aiz:BR.1.Gs.length*48<=reachBytes:=by have:=aoH.1;omega
   have ac0:=aoH.2;refine zN 4 ?_;refine dJ eQ (HP _ (qE.1.rd sS (M9 12 E hL))) ?_;rintro _ w33 ⟨I,J,MQ,rfl,T35⟩;refine⟨_,E,?_⟩;have qY:=sS.ext T35 E;refine zN 3 ?_;refine gD qY fZ ?_;intro Oj w37 Az;refine sa 0 Az kQ ?_;intro w39 vS;refine zN 7 ?_;by_cases h41:BR.2=0
   ·refine zN 13 ?_;by_cases h42:BR.1.Gq=y.b.Gq
    ·refine zN 5 ?_;have rW:=vS.drew;refine fM 8 6 rW [] ?_;iterate 6 refine gW ?_
     refine fC kQ E E E ?_;refine vv (ko x.l.q) ?_;refine l9 (xs':=(z.bx.set x.l.q (⟨BR.1,I,J⟩:BX)).flatMap BX.cells) 8 rW (wn E) E E E E E E xB E (bY E) (by omega) (by rw[Nat.zero_add];exact qK (enc:=BX.cells) (sz:=6) (λ_=>E) (⟨BR.1,I,J⟩:BX) _ _ (by omega)) ?_;intro VY vk;have aCq:(z.bx.set x.l.q (⟨BR.1,I,J⟩:BX))[x.l.q]? =some (⟨BR.1,I,J⟩:BX):=getElem?_set_self Y;refine zQ ?_;refine jg ?_;refine zN 8 ?_;have CS:St B w0 VY (_::_::_::_::_::_::_::_::_::_::_::_::_::(rr++[.cZ 6 I BR.1.Gs.length ((BR.1.Gs).flatMap Ev.cells)])):=vk.toEnd 1 E;have uO:=CS.eH [12,12,12,12,12,12,12];have aoI:Cn (R.L++[.cZ 6 I BR.1.Gs.length ((BR.1.Gs).flatMap Ev.cells)]) (⟨BR.1,I,J⟩:BX):=⟨Ro.cZ (mem_append_right _ (mem_singleton.2 E)),MQ⟩;refine dJ eQ (LG (L:=(R.L++[.cZ 6 I BR.1.Gs.length ((BR.1.Gs).flatMap Ev.cells)])) hn hq aCq x.l.at_ aoI (M9 6 E (Xl hL)) aiz ac0 uO Y) ?_;rintro _ ZK ⟨rfl,A56,c57,aoJ,N59,aCr,aCs,xg⟩;refine⟨_,E,?_⟩;change St _ _ _ (_::_::_::(bW kw (.slice R.nA 5 R.nc) m.off A56 aoJ c57 m.MG R.sA m.aP R.sc R.tA m.bL R.tc m.calls)::(oL A56 aoJ c57)::_::_::_::_::_::_::_::_::((rr++[.cZ 6 I BR.1.Gs.length ((BR.1.Gs).flatMap Ev.cells)])++N59))at xg;refine zQ ?_;refine bX (l':=[]) trivial (iw (oH (iB (dW (rs:=[]) (vs:=[]) E trivial ?_))));have hch:¬(y.b.tg≠x.l.fr\/y.b.ep+1≠x.l.ep):=Y;rw[Vs hX M.symm qF hch (by first|assumption|omega) (by first|assumption|omega)];rw[append_assoc]at xg;exact⟨E,Wd.fin (X':={X with bs:=Na X.bs x.l.q BR.1}) (z':={z with bx:=z.bx.set x.l.q (⟨BR.1,I,J⟩:BX)}) (N:=([.cZ 6 I BR.1.Gs.length ((BR.1.Gs).flatMap Ev.cells)]++N59)) (Ls:=[.Mg Oj (bR BR.1 I J) 42,.Mg AJ (bR y.b y.A y.c) 42,.Mg O #[D (x.l.q:Int)] 3,.Mg b7 (LX.row x) 119,.Mg b4 #[pV kn 0] 98,.Mg b1 #[pV kw 0] 87]) (fA:=A56) (fc:=c57) (fx:=aoJ) (sA:=R.sA) (sc:=R.sc) (tA:=R.tA) (tc:=R.tc) Z iH hrr G hn xg { (NG.more:dX K _ n X z)with Ry:=Jk NG.Ry hq,TF:=Ez (λu hu=>(NG.TF u hu).mono λf hf=>mem_append_left _ hf) ⟨Ro.cZ (mem_append_right _ (mem_append_left _ (mem_append_left _ (mem_singleton.2 rfl)))),MQ⟩} (λu hu=>(aCs u hu).imp id λh=>h.mono λf hf=>by simp[hf]) E (by rw[aCr,G.Ms]) mH⟩
    refine zN 10 ?_;refine Rq eQ vS (jl 3 x.l.q ⟨BR.1,I,J⟩ _) ?_;intro w64 GQ;refine gD GQ xC ?_;intro b67 w68 Aw;refine sa 0 Aw kQ ?_;intro w70 rX;refine zN 7 ?_;refine jH (row':= #[D 3,D (x.l.q:Int),D BR.1.ep,D BR.1.tg,D 0,D 0,D 0,D 0,D 0,D 0]) 0 rX kQ ?_;intro w72 uq;refine zN 7 ?_;refine SG uq ?_;intro b74 w75 M5;have DC:=M5.eH [15,15,15,15,15,15,15];refine dJ eQ (qd (rs:=[fH 3 x.l.q BR.1.ep BR.1.tg aI]) (Ro.Mg (mem_iff_getElem?.2 ⟨0,E⟩) E E) NG.yh (by exact M9 9 E hL) (le_of_ble_eq_true E) DC) ?_;rintro _ w84 (⟨aoK,rfl,JW⟩|⟨auG,A79,c80,N81,aoK,rfl,awT,JW⟩)
    ·refine⟨_,E,?_⟩;refine zN 7 ?_;have hch:¬(y.b.tg≠x.l.fr\/y.b.ep+1≠x.l.ep):=Y;rw[Vt hX M.symm qF hch (by first|assumption|omega) (by first|assumption|omega) aoK];exact⟨E,Wd.dR (X':=X) (z':=z) (Ls:=[.Mg b74 #[D 3,D (x.l.q:Int),D BR.1.ep,D BR.1.tg,D 0,D 0,D 0,D 0,D 0,D 0] 138,.Mg b67 #[D 3,D (x.l.q:Int),D BR.1.ep,D BR.1.tg,D 0,D 0,D 0,D 0,D 0,D 0] 138,.Mg Oj (bR BR.1 I J) 42,.cZ 6 I BR.1.Gs.length ((BR.1.Gs).flatMap Ev.cells),.Mg AJ (bR y.b y.A y.c) 42,.Mg O #[D (x.l.q:Int)] 3,.Mg b7 (LX.row x) 119,.Mg b4 #[pV kn 0] 98,.Mg b1 #[pV kw 0] 87]) (fA:=R.fA) (fc:=R.fc) (fx:=R.fx) (sA:=R.sA) (sc:=R.sc) (tA:=R.tA) (tc:=R.tc) Z iH hrr G hn JW NG.more (λu hu=>.inl hu) (aB hX).symm G.Ms.symm mH⟩
    refine⟨_,E,?_⟩;refine zN 8 ?_;refine vv JJ ?_;refine zN 2 ?_;refine jH (row':=dN n X.up (.slice A79 auG.length c80) X.MC (.slice (aD z.bb 0) 4 4) X.Nh X.Nf (.slice z.iA z.ix.length z.ic) (.func (.func 94) #[] #[pV Oj 0,pV b4 0,pV O 0,pV b1 0,pV b7 0]) X.turn) 0 JW kQ ?_;intro w86 GK;refine zQ ?_;refine bX (l':=[]) trivial (oV ?_);have hch:¬(y.b.tg≠x.l.fr\/y.b.ep+1≠x.l.ep):=Y;rw[acG hX M.symm qF hch (by first|assumption|omega) (by first|assumption|omega) aoK];refine⟨E,Wd.fin (X':={X with data:=auG,Mw:=some (.fG x.l.q BR.1 x.l.at_)}) (z':={z with tA:=A79,tc:=c80,pv:=.func (.func 94) #[] #[pV Oj 0,pV b4 0,pV O 0,pV b1 0,pV b7 0]}) (N:=N81) (Ls:=[.Mg b74 #[D 3,D (x.l.q:Int),D BR.1.ep,D BR.1.tg,D 0,D 0,D 0,D 0,D 0,D 0] 138,.Mg b67 #[D 3,D (x.l.q:Int),D BR.1.ep,D BR.1.tg,D 0,D 0,D 0,D 0,D 0,D 0] 138,.Mg Oj (bR BR.1 I J) 42,.cZ 6 I BR.1.Gs.length ((BR.1.Gs).flatMap Ev.cells),.Mg AJ (bR y.b y.A y.c) 42,.Mg O #[D (x.l.q:Int)] 3,.Mg b7 (LX.row x) 119,.Mg b4 #[pV kn 0] 98,.Mg b1 #[pV kw 0] 87]) (fA:=R.fA) (fc:=R.fc) (fx:=R.fx) (sA:=R.sA) (sc:=R.sc) (tA:=R.tA) (tc:=R.tc) Z iH hrr G hn GK ?_ (λu hu=>.inl hu) E G.Ms.symm mH⟩;refine{ (NG.more:dX K _ n X z)with yh:=awT.mono mLN,lu:=?_ }
    show qc (K.nb n) K.wb _ _ _
    rw[Z,iH];exact⟨Oj,b4,O,b1,b7,⟨BR.1,I,J⟩,x,E,(sw (mem_iff_getElem?.2 ⟨2,E⟩)),E,⟨(Ro.cZ (sw (mem_iff_getElem?.2 ⟨3,E⟩))),MQ⟩,(sw (mem_iff_getElem?.2 ⟨7,E⟩)),(sw (mem_iff_getElem?.2 ⟨5,E⟩)),(sw (mem_iff_getElem?.2 ⟨8,E⟩)),(sw (mem_iff_getElem?.2 ⟨6,E⟩)),E⟩
   refine zN 7 ?_;have hch:¬(y.b.tg≠x.l.fr\/y.b.ep+1≠x.l.ep):=Y;have JQ:=vS.eH [13,13,13,13,13,13,13];rw[YN hX M.symm qF hch (by first|assumption|omega)];exact⟨E,Wd.dR (X':=X) (z':=z) (Ls:=[.Mg Oj (bR BR.1 I J) 42,.cZ 6 I BR.1.Gs.length ((BR.1.Gs).flatMap Ev.cells),.Mg AJ (bR y.b y.A y.c) 42,.Mg O #[D (x.l.q:Int)] 3,.Mg b7 (LX.row x) 119,.Mg b4 #[pV kn 0] 98,.Mg b1 #[pV kw 0] 87]) (fA:=R.fA) (fc:=R.fc) (fx:=R.fx) (sA:=R.sA) (sc:=R.sc) (tA:=R.tA) (tc:=R.tc) Z iH hrr G hn JQ NG.more (λu hu=>.inl hu) (aB hX).symm G.Ms.symm mH⟩
  refine zN 8 ?_;have JM:=sS.eH [11,11,11,11,11,11,11];rw[OT hX M.symm Y];exact⟨E,Wd.dR (X':=X) (z':=z) (Ls:=[.Mg AJ (bR y.b y.A y.c) 42,.Mg O #[D (x.l.q:Int)] 3,.Mg b7 (LX.row x) 119,.Mg b4 #[pV kn 0] 98,.Mg b1 #[pV kw 0] 87]) (fA:=R.fA) (fc:=R.fc) (fx:=R.fx) (sA:=R.sA) (sc:=R.sc) (tA:=R.tA) (tc:=R.tc) Z iH hrr G hn JM NG.more (λu hu=>.inl hu) (aB hX).symm G.Ms.symm mH⟩
 refine zN 15 ?_;have S90:=sS.eH [11,11,11,11,11,11,11];rw[OT hX M.symm Y];exact⟨E,Wd.dR (X':=X) (z':=z) (Ls:=[.Mg AJ (bR y.b y.A y.c) 42,.Mg O #[D (x.l.q:Int)] 3,.Mg b7 (LX.row x) 119,.Mg b4 #[pV kn 0] 98,.Mg b1 #[pV kw 0] 87]) (fA:=R.fA) (fc:=R.fc) (fx:=R.fx) (sA:=R.sA) (sc:=R.sc) (tA:=R.tA) (tc:=R.tc) Z iH hrr G hn S90 NG.more (λu hu=>.inl hu) (aB hX).symm G.Ms.symm mH⟩
abbrev hMf (kw:Nat):Int->Option Value:=λy=>if y=6 then some (.func (.func 68) #[pV kw 0] #[])else(λy=>if y=4 then some (.func (.func 67) #[pV kw 0] #[])else(λy=>if y=3 then some (.func (.func 66) #[pV kw 0] #[])else(λy=>if y=2 then some (.func (.func 65) #[pV kw 0] #[])else(λy=>if y=0 then some (.func (.func 64) #[pV kw 0] #[])else(λ_=>none) y) y) y) y) y
abbrev hMk (kw:Nat):Obj->Prop:=qw tP 3 (hMf kw) 5
def abe(kw:Nat)(w:World):
 Calls prog 47 #[pV kw 0] w (λe w'=> ∃b,e=.returned (.map (some b))/\St w.heap.size w w' [.loc b (hMk kw)]):=by
 have S:=St.start w;refine gP 15 func47 ?_;refine cw [0] ?_;refine zN 7 ?_;refine Kk (k:=3) S (wn E) E E E ?_;intro b1 w2 J;refine zQ ?_;refine vv JJ ?_;refine kV (e:=140) 0 J (wn E) E E E E E E underlying3 underlying141 dQ dQ ?_;intro w4 M;refine zQ ?_;refine vv JJ ?_;refine kV (e:=140) 0 M (wn E) E E E E E E underlying3 underlying141 dQ dQ ?_;intro w6 O;refine zQ ?_;refine vv JJ ?_;refine kV (e:=140) 0 O (wn E) E E E E E E underlying3 underlying141 dQ dQ ?_;intro w8 Z;refine zQ ?_;refine vv JJ ?_;refine kV (e:=140) 0 Z (wn E) E E E E E E underlying3 underlying141 dQ dQ ?_;intro ZL h;refine zQ ?_;refine vv JJ ?_;refine kV (e:=140) 0 h (wn E) E E E E E E underlying3 underlying141 dQ dQ ?_;intro w12 I;refine zN 6 ?_;exact⟨b1,E,I⟩
section
variable {K:CK}{L fs:List J8}{B n:Nat}{w0 w:World}{A:Option Addr}
def Cr(h:Ro L 1 A 5 ((range 5).map λj=>gV (K.nb j)))(S:St B w0 w fs)(I:∀f∈L,f∈fs):∃b o,A=some ⟨b,o,none⟩:=by
 obtain⟨b,o,e,_⟩:=(h.rd S I).2 Y;exact⟨b,o,e⟩
def vV{b o:Nat}(h:Ro L 1 (some ⟨b,o,none⟩) 5 ((range 5).map λj=>gV (K.nb j)))(hn:n<5)(S:St B w0 w fs)(I:∀f∈L,f∈fs):w.cell? ⟨b,o+n*1,none⟩=some (.pointer (some ⟨K.nb n,0,none⟩)):=by
 obtain⟨b',O,e,_,J⟩:=(h.rd S I).2 Y
 cases e;have M:((range 5).map λj=>gV (K.nb j))[n*1]? =some (gV (K.nb n)):=by
  rw[Nat.mul_one,getElem?_map,getElem?_range hn];rfl
 exact J (n*1) _ M
end
def O6{P:Program}{N:Nat}{l:Nj}{o:Oper}{w:World}{x y:Bool}(h:x=y)(p:jr P N l o w (.bool x)):jr P N l o w (.bool y):=h▸p
def Ct{P:Program}{N:Nat}{l:Nj}{o:Oper}{w:World}{x y:Int}(h:x=y)(p:jr P N l o w (.int .i64 x)):jr P N l o w (.int .i64 y):=h▸p
def St.awU{B:Nat}{w0 w:World}{a:J8}{fs N:List J8}(S:St B w0 w (a::(fs++N))):St B w0 w (a::fs):=S.sub ((sublist_append_left fs N).cons_cons a)
def F9{B Z n turn dc:Nat}{up:Bool}{dA:Option Addr}{data:List UInt8}{MC:Int}{Hh:Nat->Pl}{Us:Nat->Bool}{bv iv pv:Value}{w0 w:World}{fs:List J8}{L:List J8}{rs:List cO}{RA:Option Addr}{rc:Nat}(hrs:Ro fs 10 RA rs.length (rs.flatMap cO.cells))(htp:Ro L 1 dA data.length (Gt data))(hL:∀f∈L,f∈fs)(hrl:rs.length<=1000000)(S:St B w0 w ((.Mg Z (dN n up (.slice dA data.length dc) MC (bv) Hh Us (iv) (pv) turn) 105)::fs)):
 Calls prog 44 #[pV Z 0,.slice RA rs.length rc] w (λe w'=>(fD data MC rs=none/\e=.returned (.bool false)/\St B w0 w' ((.Mg Z (dN n up (.slice dA data.length dc) MC (bv) Hh Us (iv) (pv) turn) 105)::fs))\/ ∃d' A' c' N,fD data MC rs=some d'/\e=.returned (.bool true)/\Ro (L++N) 1 A' d'.length (Gt d')/\St B w0 w' ((.Mg Z (dN n up (.slice A' d'.length c') MC (bv) Hh Us (iv) (pv) turn) 105)::(fs++N))):=by
 refine gP 34 func44 ?_;refine cw [0,1] ?_;refine zN 10 ?_;refine vv (aj E E (dP (cs:=[.slice dA data.length dc,D MC]) (St.rg 0 S E (sj)))) ?_;refine gD S zn ?_;intro b1 w2 S3;refine sa 0 S3 kQ ?_;intro w4 S5;refine zN 11 ?_;refine fJ (X:=Nat×(Option Addr)×Nat×(List UInt8)×(List J8)) (λI=>[(0,pV Z 0),(5,pV b1 0),(14,.slice RA rs.length rc),(15,D (rs.length:Int)),(16,D (I.1:Int))]) (λI wr=>(I.1<=rs.length)/\(fD data MC rs=fD I.2.2.2.1 MC (rs.drop I.1))/\(Ro (L++I.2.2.2.2) 1 I.2.1 I.2.2.2.1.length (Gt I.2.2.2.1))/\St B w0 wr ((.Mg b1 #[.slice I.2.1 I.2.2.2.1.length I.2.2.1,D MC] 101)::(.Mg Z (dN n up (.slice dA data.length dc) MC (bv) Hh Us (iv) (pv) turn) 105)::(fs++I.2.2.2.2))) (λI=>rs.length-I.1) (0,dA,dc,data,[]) ?_ ?_ ?_
 ·exact⟨zero_le _,E,by rw[append_nil];exact htp,by rw[append_nil];exact S5⟩
 ·exact Av
 rintro⟨k,A1,c1,M,N1⟩ w6 ⟨hi8,O,J,S7⟩
 try dsimp only at hi8 O J S7
 refine bI (l':=[(0,pV Z 0),(5,pV b1 0),(14,.slice RA rs.length rc),(15,D (rs.length:Int)),(16,D (k:Int))]) Av (aQ (aC ?_));by_cases h11:(k:Int)< (rs.length:Int)
 ·refine zN 10 ?_;obtain⟨x,hx⟩:∃x,rs[k]? =some x:=⟨_,getElem?_eq_getElem Y⟩;refine zQ ?_;obtain⟨rb,ro,hra,_,hrc⟩:=(hrs.rd S7 (M9 2 E (λf hf=>mem_append_left _ hf))).2 Y;subst hra;refine vv (ko k) ?_;refine vv (v:=.agg #[D x.kind,D x.Nt,D x.Mc,D x.Rl,D x.ev.kind,D x.ev.Mr,D x.ev.id,D x.ev.body,D x.ev.MF,D x.ev.Nc]) (aj E E (dP (cs:=cO.cells x) (λj u hu=>by rw[Nat.add_assoc];exact hrc (k*10+j) u (bE (enc:=cO.cells) (sz:=10) (λ_=>E) hx hu)))) ?_;refine gD S7 xC ?_;intro b12 En mZ;refine stA 0 mZ kQ ?_;intro JR o8;refine zN 6 ?_;refine dJ eQ (BD (Io A1 M.length c1 M MC x _ (J.rd o8 (M9 3 E (Xl hL))))) ?_;rintro _ GH ⟨A17,c18,rfl,T21⟩;refine⟨_,E,?_⟩;have qj:=o8.ext T21 E;refine zN 3 ?_;refine gD qj zn ?_;intro b22 JN kF;refine stA 0 kF kQ ?_;intro w25 sU;refine zN 7 ?_;by_cases h27:(jc M MC x).2.2=0
  ·have hsy:=aff h27;rw[hsy]at sU;refine zN 8 ?_;refine stA 3 sU kQ ?_;intro V3 tF;refine zN 4 ?_;refine vv (v:=D ((k+1:Nat):Int)) iI ?_;refine zN 2 ?_;have zP:=tF.aO [2,0];have oW:=zP.eH [2,2];have uw:St B w0 V3 (_::_::((fs++N1)++[.cZ 1 A17 ((jc M MC x).1.length) (Gt ((jc M MC x).1))])):=oW.toEnd 2 E;have vR:=uw;rw[append_assoc]at vR;refine bC (k+1,A17,c18,(jc M MC x).1,N1++[.cZ 1 A17 ((jc M MC x).1.length) (Gt ((jc M MC x).1))]) ?_ Av (by first|omega|(dsimp only;omega));exact⟨uQ,(by dsimp only;rw[O,Jj hx,if_neg (λh=>h h27)]),(Ro.cZ afe),vR⟩
  refine zN 17 ?_;have qY:=sU.aO [3,2,1,0];exact .inl ⟨by rw[O,Jj hx,if_pos h27],E,qY.awU⟩
 refine zN 16 ?_;refine jH (row':=dN n up (.slice A1 M.length c1) MC (bv) Hh Us (iv) (pv) turn) 1 S7 kQ ?_;intro ZI tH;refine zQ ?_;refine bX (l':=[]) trivial (iw (aQ (aC (va ?_))));refine zN 4 ?_;have yJ:=tH.aO [0];exact .inr ⟨M,A1,c1,N1,by rw[O,drop_eq_nil_of_le Y];rfl,E,J,yJ⟩
section
variable {m:Cl}{n:Nat}{X:Nd}{l:bH}{PW:Pl×Int}
def ahb(h:l.tg= -1):m.Nk l={m with bL:=m.bL++[l.bL]}:=if_pos h
def rO(h:l.tg= -2)(I:aJ (dH m.off l) l.q=PW)(J:PW.2=0):m.Nk l={m with off:=dH m.off l,Ms:=m.Ms++[lC l.fr l.q PW.1]}:=by
 unfold Cl.Nk;rw[if_neg Y,if_pos h,I,if_pos J]
def rP(h:l.tg= -2)(I:aJ (dH m.off l) l.q=PW)(J:¬PW.2=0):m.Nk l={m with off:=dH m.off l}:=by
 unfold Cl.Nk;rw[if_neg Y,if_pos h,I,if_neg J]
def ac1(h:l.tg=(n:Int))(I:m.ah n=X)(J:X.up=true):m.Nk l=m.put n (X.box (X.Md++[l])):=by
 subst I;unfold Cl.Nk;rw[if_neg Y,if_neg Y,h,Int.toNat_natCast,if_pos J];rfl
def ac2(h:l.tg=(n:Int))(I:m.ah n=X)(J:X.up=false):m.Nk l=m:=by
 subst I;unfold Cl.Nk;rw[if_neg Y,if_neg Y,h,Int.toNat_natCast,if_neg (by rw[J];simp)]
def dX.awV{K:CK}{L:List J8}{c:Nat}{z:NX}{A:Option Addr}{x:LX}(h:dX K L n X z)(I:Rx L x):dX K L n (X.box (X.Md++[x.l])) {z with iA:=A,ic:=c,ix:=z.ix++[x]}:=
 ⟨h.Ry,h.TF,h.yh,by rw[map_append,h.ixm];rfl,λu J=>(mem_append.1 J).elim (h.ixo u) λe=>by rw[mem_singleton]at e;subst e;exact I,h.lu⟩
end
def D8{K:CK}{B n kn kw:Nat}{w0 w:World}{fs:List J8}{m:Cl}{H:List LX}{x:LX}(hn:n<5)(O:K.nb n=kn)(Z:K.wb=kw)(hu:Uk B w0)(hB1:m.Ms.length<=1000000000)(hB2:m.bL.length<=1000000000000)(hB3:(m.ah n).Md.length<=1000000000)(HW:Wd K B w0 w fs m (x::H))(J:x.l.tg= -1\/x.l.tg= -2\/x.l.tg=(n:Int)):
 Calls prog 35 #[.pointer (some ⟨kw,0,none⟩),.agg (LX.row x)] w (λe w'=>e=.returned (.tuple #[])/\Wd K B w0 w' fs (m.Nk x.l) H):=by
 obtain⟨R,G,S0⟩:=HW.open hn;have hfl:R.fx.length=m.Ms.length:=by rw[<-G.Ms,length_map]
 have NG:=G.iK n hn;obtain⟨X,hX⟩:∃X,m.ah n=X:=⟨_,E⟩;obtain⟨z,hz⟩:∃z,R.nx n=z:=⟨_,E⟩;rw[hX,hz]at S0 NG;have hL:∀f∈R.L,f∈gG K R m fs n:=λf h=>mem_append_right _ (mem_append_right _ h);obtain⟨rr,hrr⟩:∃r,gG K R m fs n=r:=⟨_,E⟩;rw[hrr]at S0 hL;have S:St B w0 w ((.Mg kn (dN n X.up (.slice z.tA X.data.length z.tc) X.MC (.slice (some ⟨z.bb,0,none⟩) 4 4) X.Nh X.Nf (.slice z.iA z.ix.length z.ic) (z.pv) X.turn) 105)::(.own 42 6 (.slice (some ⟨z.bb,0,none⟩) 4 4) 4 ((z.bx).flatMap BX.cells))::(fL z.iA z.ix z.ic)::(bW kw (.slice R.nA 5 R.nc) m.off R.fA R.fx R.fc m.MG R.sA m.aP R.sc R.tA m.bL R.tc m.calls)::(oL R.fA R.fx R.fc)::(oS R.sA m.aP R.sc)::(oT R.tA m.bL R.tc)::rr):=by subst O;subst Z;exact S0
 clear S0 HW;have hlen:=(S.own 1 E).1;rw[iL (sz:=6) (λ_=>E)]at hlen;obtain⟨ab,ao,qP⟩:=Cr G.arr S (M9 7 E hL);have harr:=G.arr;rw[qP]at S harr;have aKL:z.ix.length<=1000000000:=by have:=congrArg length NG.ixm;rw[length_map]at this;rw[hX]at hB3;omega
 refine gP 106 func35 ?_;refine cw [0,1] ?_;refine zN 2 ?_;refine iU S ?_;intro b1 w2 S3;refine zN 4 ?_
 rcases J with J|J|J
 ·refine zN 8 ?_;have S4:=S3.drew;refine fM 14 10 S4 [7] ?_;iterate 5 refine gW ?_
  refine gk (v:=.slice R.tA m.bL.length R.tc) 5 E (St.del 7 S4) (λ_ aCt=>(aj E E (aG (St.cl 4 aCt E awG)))) ?_;refine gW ?_;refine gk (v:=.agg #[D x.l.bL.num,D x.l.bL.Rf.code,D x.l.bL.Rf.fO,D x.l.bL.Rf.Nc,D x.l.bL.Rf.body,D x.l.bL.pl.node,D x.l.bL.pl.Mc]) 7 E (St.del 7 S4) (λ_ aoL=>(aj E E (dP (cs:=[D x.l.bL.num,D x.l.bL.Rf.code,D x.l.bL.Rf.fO,D x.l.bL.Rf.Nc,D x.l.bL.Rf.body,D x.l.bL.pl.node,D x.l.bL.pl.Mc]) (St.rg 0 aoL E (arz))))) ?_;refine fE (m:=5) (r:=8) kQ ?_;refine mW (i:=8) E E (V:=λb=>.slice (some ⟨b,0,none⟩) 1 1) (row:= #[D x.l.bL.num,D x.l.bL.Rf.code,D x.l.bL.Rf.fO,D x.l.bL.Rf.Nc,D x.l.bL.Rf.body,D x.l.bL.pl.node,D x.l.bL.pl.Mc]) (t:=56) S4 (wn E) E E (aV (vs:=[(0,.agg #[D x.l.bL.num,D x.l.bL.Rf.code,D x.l.bL.Rf.fO,D x.l.bL.Rf.Nc,D x.l.bL.Rf.body,D x.l.bL.pl.node,D x.l.bL.pl.Mc])]) E xR kQ) ?_;intro b13 Lf jm;refine gW ?_;refine fE (m:=4) (r:=9) kQ ?_;refine lG (i:=9) E E (news:=[D x.l.bL.num,D x.l.bL.Rf.code,D x.l.bL.Rf.fO,D x.l.bL.Rf.Nc,D x.l.bL.Rf.body,D x.l.bL.pl.node,D x.l.bL.pl.Mc]) (xs':=(m.bL++[x.l.bL]).flatMap xq.cells) 8 jm (wn E) E E E E E E (St.mD (xs:=[D x.l.bL.num,D x.l.bL.Rf.code,D x.l.bL.Rf.fO,D x.l.bL.Rf.Nc,D x.l.bL.Rf.body,D x.l.bL.pl.node,D x.l.bL.pl.Mc]) 0 jm E E E) underlying33 ap9 E dQ (bY E) lQ Y (jB (enc:=xq.cells) E E) ?_;intro A16 c17 M0 atY atZ uM;refine gW ?_;refine fC kQ E E E ?_;refine zN 3 ?_;refine jH 5 uM kQ ?_ (hs:=by exact awI);intro w22 tJ;refine zQ ?_;refine jg ?_;refine bX (l':=[]) trivial (iJ (oV ?_));have kF:=tJ.aO [1,0];rw[<-qP]at kF;have Wm:m.bL.length+1=(m.bL++[x.l.bL]).length:=by simp
  rw[Wm]at kF;rw[ahb J];exact⟨E,Wd.dR (X':=X) (z':=z) (Ls:=[]) (fA:=R.fA) (fc:=R.fc) (fx:=R.fx) (sA:=R.sA) (sc:=R.sc) (tA:=A16) (tc:=c17) O Z hrr G hn kF NG.more (λu hu=>.inl hu) (aB hX).symm G.Ms.symm mH⟩
 ·refine zN 22 ?_;by_cases uN:0<=x.l.nd
  ·refine zN 4 ?_;obtain⟨FD,J5⟩:∃r,vX m.off x.l.q x.l.ep x.l.nd=r:=⟨_,E⟩;have HF:=λw h=>YC m.off x.l.q x.l.ep x.l.nd w h;rw[J5]at HF;refine zQ ?_;have sU:=S3.drew;refine aK 17 sU [] ?_;refine aL 3 ?_;refine ak (v:=.agg ((m.off.cells).toArray)) 3 E sU (λ_ acD=>(aj E E (dP (cs:=(m.off.cells)) (St.rg 4 acD E (yg))))) ?_;refine aL 6 ?_;refine iG (n:=6) (r:=10) (s:=14) kQ ?_ ?_
   ·refine kE 10 E eQ (HF _ (Uk.nw hu sU)) ?_;rintro _ w37 ⟨rfl,aCu⟩;refine⟨_,E,?_⟩;have Az:=sU.on aCu;refine aL 4 ?_;refine bg 14 ?_;refine lW 14 E Az ah6 ?_;intro b43 N7 pQ;refine dG ?_;refine bg 15 ?_;refine snA 15 E 0 pQ kQ ?_ (h1:=vU _);intro ZR zx;refine aL 3 ?_;refine zN 4 ?_;by_cases h49:FD.2=0
    ·refine zN 9 ?_;refine jH 5 zx kQ ?_ (h1:=vU _) (hs:=by exact aoy);intro VY vk;refine zN 2 ?_;obtain⟨PW,M⟩:∃r,aJ FD.1 x.l.q=r:=⟨_,E⟩;have HQ:=λw h=>nQ FD.1 x.l.q w h;rw[M]at HQ;refine zQ ?_;have pG:=vk.drew;refine aK 13 pG [] ?_;refine aL 3 ?_;refine ak (v:=.agg (((FD.1).cells).toArray)) 3 E pG (λ_ acz=>(aj E E (dP (cs:=((FD.1).cells)) (St.rg 5 acz E (yg))))) ?_;refine aL 2 ?_;refine iG (n:=6) (r:=6) (s:=10) kQ ?_ ?_
     ·refine kE 6 E eQ (HQ _ (Uk.nw hu pG)) ?_;rintro _ w59 ⟨rfl,aCv⟩;refine⟨_,E,?_⟩;have V5:=pG.on aCv;refine aL 4 ?_;refine bg 10 ?_;refine lW 10 E V5 Gy ?_;intro b65 VZ uL;refine dG ?_;refine bg 11 ?_;refine sn 11 E 0 uL kQ ?_;intro w68 Aw;refine aL 3 ?_;refine zN 4 ?_;by_cases h71:PW.2=0
      ·refine zN 14 ?_;refine vv (v:=.agg #[D 6,D (-2),D x.l.fr,D (x.l.q:Int),D PW.1.Mc,D 0,D PW.1.node,D 0,D 0,D 0,D 0,D 0,D 0,.slice none 0 0,.bool false,D 0,D 0,D 0,D 0,D 0,D 0,D 0,D 0]) gH ?_;have FP:=Aw.eH [7,7];refine dJ eQ (gX (x:=⟨lC x.l.fr x.l.q PW.1,none,0⟩) FP Y) ?_;rintro _ w77 ⟨rfl,A73,c74,aCw,auI,JU⟩;refine⟨_,E,?_⟩;refine zQ ?_;refine bX (l':=[]) trivial (iJ (oV ?_));have BZ:=JU.aO [4,3,2];have Cb:=BZ.eH [6,6,3,3,6,6,6];rw[<-qP]at Cb;have I:dH m.off x.l=FD.1:=by
        unfold dH;rw[J5,if_pos Y]
       rw[rO (PW:=PW) J (by rw[I];exact M) ‹_›,I];exact⟨E,Wd.dR (X':=X) (z':=z) (Ls:=[]) (fA:=A73) (fc:=c74) (fx:=aCw) (sA:=R.sA) (sc:=R.sc) (tA:=R.tA) (tc:=R.tc) O Z hrr G hn Cb NG.more (by rw[auI];exact pE (je E)) (aB hX).symm (by rw[auI,map_append,G.Ms];rfl) mH⟩
      refine zN 7 ?_;have uo:=Aw.aO [2,1,0];rw[<-qP]at uo;have I:dH m.off x.l=FD.1:=by
       unfold dH;rw[J5,if_pos Y]
      rw[rP (PW:=PW) J (by rw[I];exact M) ‹_›,I];exact⟨E,Wd.dR (X':=X) (z':=z) (Ls:=[]) (fA:=R.fA) (fc:=R.fc) (fx:=R.fx) (sA:=R.sA) (sc:=R.sc) (tA:=R.tA) (tc:=R.tc) O Z hrr G hn uo NG.more (λu hu=>.inl hu) (aB hX).symm G.Ms.symm mH⟩
     refine lW 10 E pG Gy ?_;intro b82 w83 FR;refine dG ?_;refine bg 6 ?_;refine kE 6 E eQ (HQ _ (Uk.nw hu FR)) ?_;rintro _ w85 ⟨rfl,atT⟩;refine⟨_,E,?_⟩;have Cg:=FR.on atT;refine aL 4 ?_;refine bg 11 ?_;refine sn 11 E 0 Cg kQ ?_;intro w91 zw;refine aL 3 ?_;refine zN 4 ?_;by_cases h94:PW.2=0
     ·refine zN 14 ?_;refine vv (v:=.agg #[D 6,D (-2),D x.l.fr,D (x.l.q:Int),D PW.1.Mc,D 0,D PW.1.node,D 0,D 0,D 0,D 0,D 0,D 0,.slice none 0 0,.bool false,D 0,D 0,D 0,D 0,D 0,D 0,D 0,D 0]) gH ?_;have Lp:=zw.eH [7,7];refine dJ eQ (gX (x:=⟨lC x.l.fr x.l.q PW.1,none,0⟩) Lp Y) ?_;rintro _ aij ⟨rfl,A96,c97,aCx,auJ,wR⟩;refine⟨_,E,?_⟩;refine zQ ?_;refine bX (l':=[]) trivial (iJ (oV ?_));have tO:=wR.aO [4,3,2];have vN:=tO.eH [6,6,3,3,6,6,6];rw[<-qP]at vN;have I:dH m.off x.l=FD.1:=by
       unfold dH;rw[J5,if_pos Y]
      rw[rO (PW:=PW) J (by rw[I];exact M) ‹_›,I];exact⟨E,Wd.dR (X':=X) (z':=z) (Ls:=[]) (fA:=A96) (fc:=c97) (fx:=aCx) (sA:=R.sA) (sc:=R.sc) (tA:=R.tA) (tc:=R.tc) O Z hrr G hn vN NG.more (by rw[auJ];exact pE (je E)) (aB hX).symm (by rw[auJ,map_append,G.Ms];rfl) mH⟩
     refine zN 7 ?_;have yT:=zw.aO [2,1,0];rw[<-qP]at yT;have I:dH m.off x.l=FD.1:=by
      unfold dH;rw[J5,if_pos Y]
     rw[rP (PW:=PW) J (by rw[I];exact M) ‹_›,I];exact⟨E,Wd.dR (X':=X) (z':=z) (Ls:=[]) (fA:=R.fA) (fc:=R.fc) (fx:=R.fx) (sA:=R.sA) (sc:=R.sc) (tA:=R.tA) (tc:=R.tc) O Z hrr G hn yT NG.more (λu hu=>.inl hu) (aB hX).symm G.Ms.symm mH⟩
    refine zN 6 ?_;obtain⟨PW,M⟩:∃r,aJ m.off x.l.q=r:=⟨_,E⟩;have HQ:=λw h=>nQ m.off x.l.q w h;rw[M]at HQ;refine nD (X:=Nat) (λxv=>[(0,.pointer (some ⟨kw,0,none⟩)),(3,.pointer (some ⟨b1,0,none⟩)),(6,.pointer (some ⟨xv,0,none⟩)),(7,D PW.2)]) (λxv wr=>St B w0 wr ((.Mg xv #[D PW.1.node,D PW.1.Mc] 27)::(.Mg b43 (((FD.1).cells).toArray) 30)::(.Mg b1 (LX.row x) 119)::(.Mg kn (dN n X.up (.slice z.tA X.data.length z.tc) X.MC (.slice (some ⟨z.bb,0,none⟩) 4 4) X.Nh X.Nf (.slice z.iA z.ix.length z.ic) (z.pv) X.turn) 105)::(.own 42 6 (.slice (some ⟨z.bb,0,none⟩) 4 4) 4 ((z.bx).flatMap BX.cells))::(fL z.iA z.ix z.ic)::(bW kw (.slice (some ⟨ab,ao,none⟩) 5 R.nc) m.off R.fA R.fx R.fc m.MG R.sA m.aP R.sc R.tA m.bL R.tc m.calls)::(oL R.fA R.fx R.fc)::(oS R.sA m.aP R.sc)::(oT R.tA m.bL R.tc)::rr)) ?_ ?_
    ·have sO:=zx.drew;refine aK 13 sO [] ?_;refine aL 3 ?_;refine ak (v:=.agg ((m.off.cells).toArray)) 3 E sO (λ_ awW=>(aj E E (dP (cs:=(m.off.cells)) (St.rg 5 awW E (yg))))) ?_;refine aL 2 ?_;refine iG (n:=6) (r:=6) (s:=10) kQ ?_ ?_
     ·refine kE 6 E eQ (HQ _ (Uk.nw hu sO)) ?_;rintro _ abE ⟨rfl,awX⟩;refine⟨_,E,?_⟩;have vM:=sO.on awX;refine aL 4 ?_;refine bg 10 ?_;refine lW 10 E vM Gy ?_;intro aCy anY sM;refine dG ?_;refine bg 11 ?_;refine sn 11 E 0 sM kQ ?_;intro ab1 Di;refine aL 3 ?_;refine dM aCy ?_ jX;exact Di
     refine lW 10 E sO Gy ?_;intro aCz aoa xW;refine dG ?_;refine bg 6 ?_;refine kE 6 E eQ (HQ _ (Uk.nw hu xW)) ?_;rintro _ abl ⟨rfl,aee⟩;refine⟨_,E,?_⟩;have Dh:=xW.on aee;refine aL 4 ?_;refine bg 11 ?_;refine sn 11 E 0 Dh kQ ?_;intro abv zZ;refine aL 3 ?_;refine dM aCz ?_ jX;exact zZ
    rintro aCA asR EP
    try dsimp only at EP
    refine bI (l':=[(0,.pointer (some ⟨kw,0,none⟩)),(3,.pointer (some ⟨b1,0,none⟩)),(6,.pointer (some ⟨aCA,0,none⟩)),(7,D PW.2)]) jX (aQ (aC (vm ?_)));by_cases aKM:PW.2=0
    ·refine zN 14 ?_;refine vv (v:=.agg #[D 6,D (-2),D x.l.fr,D (x.l.q:Int),D PW.1.Mc,D 0,D PW.1.node,D 0,D 0,D 0,D 0,D 0,D 0,.slice none 0 0,.bool false,D 0,D 0,D 0,D 0,D 0,D 0,D 0,D 0]) gH ?_;have Df:=EP.eH [7,7];refine dJ eQ (gX (x:=⟨lC x.l.fr x.l.q PW.1,none,0⟩) Df Y) ?_;rintro _ aAn ⟨rfl,aic,aie,awY,anc,R9⟩;refine⟨_,E,?_⟩;refine zQ ?_;refine bX (l':=[]) trivial (iJ (oV ?_));have Sb:=R9.aO [4,3,2];have N8:=Sb.eH [6,6,3,3,6,6,6];rw[<-qP]at N8;have I:dH m.off x.l=m.off:=by
      unfold dH
      first|rw[J5,if_neg Y]|rw[if_neg Y]
     rw[rO (PW:=PW) J (by rw[I];exact M) ‹_›,I];exact⟨E,Wd.dR (X':=X) (z':=z) (Ls:=[]) (fA:=aic) (fc:=aie) (fx:=awY) (sA:=R.sA) (sc:=R.sc) (tA:=R.tA) (tc:=R.tc) O Z hrr G hn N8 NG.more (by rw[anc];exact pE (je E)) (aB hX).symm (by rw[anc,map_append,G.Ms];rfl) mH⟩
    refine zN 7 ?_;have Ak:=EP.aO [2,1,0];rw[<-qP]at Ak;have I:dH m.off x.l=m.off:=by
     unfold dH
     first|rw[J5,if_neg Y]|rw[if_neg Y]
    rw[rP (PW:=PW) J (by rw[I];exact M) ‹_›,I];exact⟨E,Wd.dR (X':=X) (z':=z) (Ls:=[]) (fA:=R.fA) (fc:=R.fc) (fx:=R.fx) (sA:=R.sA) (sc:=R.sc) (tA:=R.tA) (tc:=R.tc) O Z hrr G hn Ak NG.more (λu hu=>.inl hu) (aB hX).symm G.Ms.symm mH⟩
   refine lW 14 E sU ah6 ?_;intro auK aCB I9;refine dG ?_;refine bg 10 ?_;refine kE 10 E eQ (HF _ (Uk.nw hu I9)) ?_;rintro _ auc ⟨rfl,awZ⟩;refine⟨_,E,?_⟩;have MB:=I9.on awZ;refine aL 4 ?_;refine bg 15 ?_;refine snA 15 E 0 MB kQ ?_ (h1:=vU _);intro as5 Ob;refine aL 3 ?_;refine zN 4 ?_;by_cases aKN:FD.2=0
   ·refine zN 9 ?_;refine jH 5 Ob kQ ?_ (h1:=vU _) (hs:=by exact aoy);intro aKO Xn;refine zN 2 ?_;obtain⟨PW,M⟩:∃r,aJ FD.1 x.l.q=r:=⟨_,E⟩;have HQ:=λw h=>nQ FD.1 x.l.q w h;rw[M]at HQ;refine nD (X:=Nat) (λxv=>[(0,.pointer (some ⟨kw,0,none⟩)),(3,.pointer (some ⟨b1,0,none⟩)),(6,.pointer (some ⟨xv,0,none⟩)),(7,D PW.2)]) (λxv wr=>St B w0 wr ((.Mg xv #[D PW.1.node,D PW.1.Mc] 27)::(.Mg auK (((FD.1).cells).toArray) 30)::(.Mg b1 (LX.row x) 119)::(.Mg kn (dN n X.up (.slice z.tA X.data.length z.tc) X.MC (.slice (some ⟨z.bb,0,none⟩) 4 4) X.Nh X.Nf (.slice z.iA z.ix.length z.ic) (z.pv) X.turn) 105)::(.own 42 6 (.slice (some ⟨z.bb,0,none⟩) 4 4) 4 ((z.bx).flatMap BX.cells))::(fL z.iA z.ix z.ic)::(bW kw (.slice (some ⟨ab,ao,none⟩) 5 R.nc) FD.1 R.fA R.fx R.fc m.MG R.sA m.aP R.sc R.tA m.bL R.tc m.calls)::(oL R.fA R.fx R.fc)::(oS R.sA m.aP R.sc)::(oT R.tA m.bL R.tc)::rr)) ?_ ?_
    ·have yR:=Xn.drew;refine aK 13 yR [] ?_;refine aL 3 ?_;refine ak (v:=.agg (((FD.1).cells).toArray)) 3 E yR (λ_ aw0=>(aj E E (dP (cs:=((FD.1).cells)) (St.rg 5 aw0 E (yg))))) ?_;refine aL 2 ?_;refine iG (n:=6) (r:=6) (s:=10) kQ ?_ ?_
     ·refine kE 6 E eQ (HQ _ (Uk.nw hu yR)) ?_;rintro _ aol ⟨rfl,aw1⟩;refine⟨_,E,?_⟩;have Xg:=yR.on aw1;refine aL 4 ?_;refine bg 10 ?_;refine lW 10 E Xg Gy ?_;intro acL aCb abZ;refine dG ?_;refine bg 11 ?_;refine sn 11 E 0 abZ kQ ?_;intro aKP aCC;refine aL 3 ?_;refine dM acL ?_ jX;exact aCC
     refine lW 10 E yR Gy ?_;intro aCD aKQ auL;refine dG ?_;refine bg 6 ?_;refine kE 6 E eQ (HQ _ (Uk.nw hu auL)) ?_;rintro _ aKR ⟨rfl,aw2⟩;refine⟨_,E,?_⟩;have aom:=auL.on aw2;refine aL 4 ?_;refine bg 11 ?_;refine sn 11 E 0 aom kQ ?_;intro aCd Sk;refine aL 3 ?_;refine dM aCD ?_ jX;exact Sk
    rintro aCE aKS aoM
    try dsimp only at aoM
    refine bI (l':=[(0,.pointer (some ⟨kw,0,none⟩)),(3,.pointer (some ⟨b1,0,none⟩)),(6,.pointer (some ⟨aCE,0,none⟩)),(7,D PW.2)]) jX (aQ (aC (vm ?_)));by_cases aKT:PW.2=0
    ·refine zN 14 ?_;refine vv (v:=.agg #[D 6,D (-2),D x.l.fr,D (x.l.q:Int),D PW.1.Mc,D 0,D PW.1.node,D 0,D 0,D 0,D 0,D 0,D 0,.slice none 0 0,.bool false,D 0,D 0,D 0,D 0,D 0,D 0,D 0,D 0]) gH ?_;have aCF:=aoM.eH [7,7];refine dJ eQ (gX (x:=⟨lC x.l.fr x.l.q PW.1,none,0⟩) aCF Y) ?_;rintro _ aKU ⟨rfl,aCG,aCH,aw3,ane,aCI⟩;refine⟨_,E,?_⟩;refine zQ ?_;refine bX (l':=[]) trivial (iJ (oV ?_));have aip:=aCI.aO [4,3,2];have auM:=aip.eH [6,6,3,3,6,6,6];rw[<-qP]at auM;have I:dH m.off x.l=FD.1:=by
      unfold dH;rw[J5,if_pos Y]
     rw[rO (PW:=PW) J (by rw[I];exact M) ‹_›,I];exact⟨E,Wd.dR (X':=X) (z':=z) (Ls:=[]) (fA:=aCG) (fc:=aCH) (fx:=aw3) (sA:=R.sA) (sc:=R.sc) (tA:=R.tA) (tc:=R.tc) O Z hrr G hn auM NG.more (by rw[ane];exact pE (je E)) (aB hX).symm (by rw[ane,map_append,G.Ms];rfl) mH⟩
    refine zN 7 ?_;have auN:=aoM.aO [2,1,0];rw[<-qP]at auN;have I:dH m.off x.l=FD.1:=by
     unfold dH;rw[J5,if_pos Y]
    rw[rP (PW:=PW) J (by rw[I];exact M) ‹_›,I];exact⟨E,Wd.dR (X':=X) (z':=z) (Ls:=[]) (fA:=R.fA) (fc:=R.fc) (fx:=R.fx) (sA:=R.sA) (sc:=R.sc) (tA:=R.tA) (tc:=R.tc) O Z hrr G hn auN NG.more (λu hu=>.inl hu) (aB hX).symm G.Ms.symm mH⟩
   refine zN 6 ?_;obtain⟨PW,M⟩:∃r,aJ m.off x.l.q=r:=⟨_,E⟩;have HQ:=λw h=>nQ m.off x.l.q w h;rw[M]at HQ;refine nD (X:=Nat) (λxv=>[(0,.pointer (some ⟨kw,0,none⟩)),(3,.pointer (some ⟨b1,0,none⟩)),(6,.pointer (some ⟨xv,0,none⟩)),(7,D PW.2)]) (λxv wr=>St B w0 wr ((.Mg xv #[D PW.1.node,D PW.1.Mc] 27)::(.Mg auK (((FD.1).cells).toArray) 30)::(.Mg b1 (LX.row x) 119)::(.Mg kn (dN n X.up (.slice z.tA X.data.length z.tc) X.MC (.slice (some ⟨z.bb,0,none⟩) 4 4) X.Nh X.Nf (.slice z.iA z.ix.length z.ic) (z.pv) X.turn) 105)::(.own 42 6 (.slice (some ⟨z.bb,0,none⟩) 4 4) 4 ((z.bx).flatMap BX.cells))::(fL z.iA z.ix z.ic)::(bW kw (.slice (some ⟨ab,ao,none⟩) 5 R.nc) m.off R.fA R.fx R.fc m.MG R.sA m.aP R.sc R.tA m.bL R.tc m.calls)::(oL R.fA R.fx R.fc)::(oS R.sA m.aP R.sc)::(oT R.tA m.bL R.tc)::rr)) ?_ ?_
   ·have ac3:=Ob.drew;refine aK 13 ac3 [] ?_;refine aL 3 ?_;refine ak (v:=.agg ((m.off.cells).toArray)) 3 E ac3 (λ_ aw4=>(aj E E (dP (cs:=(m.off.cells)) (St.rg 5 aw4 E (yg))))) ?_;refine aL 2 ?_;refine iG (n:=6) (r:=6) (s:=10) kQ ?_ ?_
    ·refine kE 6 E eQ (HQ _ (Uk.nw hu ac3)) ?_;rintro _ aKV ⟨rfl,aw5⟩;refine⟨_,E,?_⟩;have aCJ:=ac3.on aw5;refine aL 4 ?_;refine bg 10 ?_;refine lW 10 E aCJ Gy ?_;intro aCK aKW aos;refine dG ?_;refine bg 11 ?_;refine sn 11 E 0 aos kQ ?_;intro aKX ab4;refine aL 3 ?_;refine dM aCK ?_ jX;exact ab4
    refine lW 10 E ac3 Gy ?_;intro aCL aKY auO;refine dG ?_;refine bg 6 ?_;refine kE 6 E eQ (HQ _ (Uk.nw hu auO)) ?_;rintro _ aKZ ⟨rfl,aw6⟩;refine⟨_,E,?_⟩;have aCM:=auO.on aw6;refine aL 4 ?_;refine bg 11 ?_;refine sn 11 E 0 aCM kQ ?_;intro aK0 aot;refine aL 3 ?_;refine dM aCL ?_ jX;exact aot
   rintro aCN aK1 aoN
   try dsimp only at aoN
   refine bI (l':=[(0,.pointer (some ⟨kw,0,none⟩)),(3,.pointer (some ⟨b1,0,none⟩)),(6,.pointer (some ⟨aCN,0,none⟩)),(7,D PW.2)]) jX (aQ (aC (vm ?_)));by_cases aK2:PW.2=0
   ·refine zN 14 ?_;refine vv (v:=.agg #[D 6,D (-2),D x.l.fr,D (x.l.q:Int),D PW.1.Mc,D 0,D PW.1.node,D 0,D 0,D 0,D 0,D 0,D 0,.slice none 0 0,.bool false,D 0,D 0,D 0,D 0,D 0,D 0,D 0,D 0]) gH ?_;have aCO:=aoN.eH [7,7];refine dJ eQ (gX (x:=⟨lC x.l.fr x.l.q PW.1,none,0⟩) aCO Y) ?_;rintro _ aK3 ⟨rfl,aCP,aCQ,aw7,anf,aiq⟩;refine⟨_,E,?_⟩;refine zQ ?_;refine bX (l':=[]) trivial (iJ (oV ?_));have aCR:=aiq.aO [4,3,2];have auP:=aCR.eH [6,6,3,3,6,6,6];rw[<-qP]at auP;have I:dH m.off x.l=m.off:=by
     unfold dH
     first|rw[J5,if_neg Y]|rw[if_neg Y]
    rw[rO (PW:=PW) J (by rw[I];exact M) ‹_›,I];exact⟨E,Wd.dR (X':=X) (z':=z) (Ls:=[]) (fA:=aCP) (fc:=aCQ) (fx:=aw7) (sA:=R.sA) (sc:=R.sc) (tA:=R.tA) (tc:=R.tc) O Z hrr G hn auP NG.more (by rw[anf];exact pE (je E)) (aB hX).symm (by rw[anf,map_append,G.Ms];rfl) mH⟩
   refine zN 7 ?_;have auQ:=aoN.aO [2,1,0];rw[<-qP]at auQ;have I:dH m.off x.l=m.off:=by
    unfold dH
    first|rw[J5,if_neg Y]|rw[if_neg Y]
   rw[rP (PW:=PW) J (by rw[I];exact M) ‹_›,I];exact⟨E,Wd.dR (X':=X) (z':=z) (Ls:=[]) (fA:=R.fA) (fc:=R.fc) (fx:=R.fx) (sA:=R.sA) (sc:=R.sc) (tA:=R.tA) (tc:=R.tc) O Z hrr G hn auQ NG.more (λu hu=>.inl hu) (aB hX).symm G.Ms.symm mH⟩
  refine zN 6 ?_;obtain⟨PW,M⟩:∃r,aJ m.off x.l.q=r:=⟨_,E⟩;have HQ:=λw h=>nQ m.off x.l.q w h;rw[M]at HQ;refine nD (X:=Nat) (λxv=>[(0,.pointer (some ⟨kw,0,none⟩)),(3,.pointer (some ⟨b1,0,none⟩)),(6,.pointer (some ⟨xv,0,none⟩)),(7,D PW.2)]) (λxv wr=>St B w0 wr ((.Mg xv #[D PW.1.node,D PW.1.Mc] 27)::(.Mg b1 (LX.row x) 119)::(.Mg kn (dN n X.up (.slice z.tA X.data.length z.tc) X.MC (.slice (some ⟨z.bb,0,none⟩) 4 4) X.Nh X.Nf (.slice z.iA z.ix.length z.ic) (z.pv) X.turn) 105)::(.own 42 6 (.slice (some ⟨z.bb,0,none⟩) 4 4) 4 ((z.bx).flatMap BX.cells))::(fL z.iA z.ix z.ic)::(bW kw (.slice (some ⟨ab,ao,none⟩) 5 R.nc) m.off R.fA R.fx R.fc m.MG R.sA m.aP R.sc R.tA m.bL R.tc m.calls)::(oL R.fA R.fx R.fc)::(oS R.sA m.aP R.sc)::(oT R.tA m.bL R.tc)::rr)) ?_ ?_
  ·have ac4:=S3.drew;refine aK 13 ac4 [] ?_;refine aL 3 ?_;refine ak (v:=.agg ((m.off.cells).toArray)) 3 E ac4 (λ_ aw8=>(aj E E (dP (cs:=(m.off.cells)) (St.rg 4 aw8 E (yg))))) ?_;refine aL 2 ?_;refine iG (n:=6) (r:=6) (s:=10) kQ ?_ ?_
   ·refine kE 6 E eQ (HQ _ (Uk.nw hu ac4)) ?_;rintro _ aK4 ⟨rfl,aw9⟩;refine⟨_,E,?_⟩;have aCS:=ac4.on aw9;refine aL 4 ?_;refine bg 10 ?_;refine lW 10 E aCS Gy ?_;intro aCT aK5 aCU;refine dG ?_;refine bg 11 ?_;refine sn 11 E 0 aCU kQ ?_;intro aK6 aCV;refine aL 3 ?_;refine dM aCT ?_ jX;exact aCV
   refine lW 10 E ac4 Gy ?_;intro aCW aK7 auR;refine dG ?_;refine bg 6 ?_;refine kE 6 E eQ (HQ _ (Uk.nw hu auR)) ?_;rintro _ aK8 ⟨rfl,axa⟩;refine⟨_,E,?_⟩;have aCX:=auR.on axa;refine aL 4 ?_;refine bg 11 ?_;refine sn 11 E 0 aCX kQ ?_;intro aK9 aCY;refine aL 3 ?_;refine dM aCW ?_ jX;exact aCY
  rintro aCZ aLa aoO
  try dsimp only at aoO
  refine bI (l':=[(0,.pointer (some ⟨kw,0,none⟩)),(3,.pointer (some ⟨b1,0,none⟩)),(6,.pointer (some ⟨aCZ,0,none⟩)),(7,D PW.2)]) jX (aQ (aC (vm ?_)));by_cases aLb:PW.2=0
  ·refine zN 14 ?_;refine vv (v:=.agg #[D 6,D (-2),D x.l.fr,D (x.l.q:Int),D PW.1.Mc,D 0,D PW.1.node,D 0,D 0,D 0,D 0,D 0,D 0,.slice none 0 0,.bool false,D 0,D 0,D 0,D 0,D 0,D 0,D 0,D 0]) gH ?_;have aC0:=aoO.eH [6,6];refine dJ eQ (gX (x:=⟨lC x.l.fr x.l.q PW.1,none,0⟩) aC0 Y) ?_;rintro _ aLc ⟨rfl,aC1,aC2,axb,ang,aC3⟩;refine⟨_,E,?_⟩;refine zQ ?_;refine bX (l':=[]) trivial (iJ (oV ?_));have air:=aC3.aO [3,2];have auS:=air.eH [6,6,3,3,6,6,6];rw[<-qP]at auS;have I:dH m.off x.l=m.off:=by
    unfold dH
    first|rw[J5,if_neg Y]|rw[if_neg Y]
   rw[rO (PW:=PW) J (by rw[I];exact M) ‹_›,I];exact⟨E,Wd.dR (X':=X) (z':=z) (Ls:=[]) (fA:=aC1) (fc:=aC2) (fx:=axb) (sA:=R.sA) (sc:=R.sc) (tA:=R.tA) (tc:=R.tc) O Z hrr G hn auS NG.more (by rw[ang];exact pE (je E)) (aB hX).symm (by rw[ang,map_append,G.Ms];rfl) mH⟩
  refine zN 7 ?_;have auT:=aoO.aO [1,0];rw[<-qP]at auT;have I:dH m.off x.l=m.off:=by
   unfold dH
   first|rw[J5,if_neg Y]|rw[if_neg Y]
  rw[rP (PW:=PW) J (by rw[I];exact M) ‹_›,I];exact⟨E,Wd.dR (X':=X) (z':=z) (Ls:=[]) (fA:=R.fA) (fc:=R.fc) (fx:=R.fx) (sA:=R.sA) (sc:=R.sc) (tA:=R.tA) (tc:=R.tc) O Z hrr G hn auT NG.more (λu hu=>.inl hu) (aB hX).symm G.Ms.symm mH⟩
 refine zN 18 ?_;refine fu S3 mixed kQ ?_;refine zN 3 ?_;refine uv (v:=.slice (some ⟨ab,ao,none⟩) 5 R.nc) (λ_ axc=>(aj E E (aG (St.cl 4 axc E Aq)))) ?_;refine zQ ?_;refine uv (v:=D (n:Int)) (λ_ axd=>(J▸(aj E E (aG (St.cl 0 axd E E))))) ?_;refine uv (λ_ _=>ko n) ?_;refine uv (v:=.pointer (some ⟨kn,0,none⟩)) (λ_ axe=>(aj E E (aG (O▸vV harr hn axe (M9 8 E hL))))) ?_;refine zN 4 ?_;refine eP λaLd auU=>?_;refine zQ ?_
 cases aGB:(X.up)
 ·refine bI (l':=[(0,.pointer (some ⟨kw,0,none⟩)),(3,.pointer (some ⟨b1,0,none⟩)),(76,.bool false)]) FH (mq E (qQ (iJ (oV ?_))));have auV:=auU.aO [0];rw[<-qP]at auV;rw[ac2 J hX ‹_›];exact⟨E,Wd.dR (X':=X) (z':=z) (Ls:=[]) (fA:=R.fA) (fc:=R.fc) (fx:=R.fx) (sA:=R.sA) (sc:=R.sc) (tA:=R.tA) (tc:=R.tc) O Z hrr G hn auV NG.more (λu hu=>.inl hu) (aB hX).symm G.Ms.symm mH⟩
 refine bI (l':=[(0,.pointer (some ⟨kw,0,none⟩)),(3,.pointer (some ⟨b1,0,none⟩)),(76,.bool true)]) FH (mo E (aQ (fu auU mixed kQ ?_)));refine zN 3 ?_;refine uv (v:=.slice (some ⟨ab,ao,none⟩) 5 R.nc) (λ_ axf=>(aj E E (aG (St.cl 4 axf E Aq)))) ?_;refine zQ ?_;refine uv (v:=D (n:Int)) (λ_ axg=>(J▸(aj E E (aG (St.cl 0 axg E E))))) ?_;refine uv (λ_ _=>ko n) ?_;refine uv (v:=.pointer (some ⟨kn,0,none⟩)) (λ_ axh=>(aj E E (aG (O▸vV harr hn axh (M9 8 E hL))))) ?_;refine zQ ?_;refine eP λaLe aC4=>?_;refine zQ ?_;have aiu:=aC4.drew;refine fM 11 8 aiu [3] ?_;iterate 6 refine gW ?_
 refine fE (m:=4) (r:=6) kQ ?_;refine mW (i:=6) E E (V:=λb=>.slice (some ⟨b,0,none⟩) 1 1) (row:=LX.row x) (t:=119) aiu (wn E) E E (aV (vs:=[(0,.agg (LX.row x))]) E xR kQ) ?_;intro aLf aLg auW;refine gW ?_;refine fE (m:=3) (r:=7) kQ ?_;refine aa2 (i:=7) E E (news:=(LX.cells x)) (xs':=(z.ix++[x]).flatMap LX.cells) 4 auW (wn E) E E E E E E (St.mD (xs:=(LX.cells x)) 0 auW E E E) dQ underlying91 Zp E dQ (Ew _) lQ Y (jB (enc:=LX.cells) E E) ?_;intro auX auY aLh aC5;refine gW ?_;refine fC kQ E E E ?_;refine zN 2 ?_;refine jH (row':=dN n X.up (.slice z.tA X.data.length z.tc) X.MC (.slice (some ⟨z.bb,0,none⟩) 4 4) X.Nh X.Nf (.slice auX (z.ix.length+1) auY) (z.pv) X.turn) 2 aC5 kQ ?_;intro aLi aC6;refine zQ ?_;refine jg ?_;refine bX (l':=[]) trivial (iJ (oV ?_));have aoP:=aC6.aO [1,0];rw[<-qP]at aoP;have Wm:z.ix.length+1=(z.ix++[x]).length:=by simp
 rw[Wm]at aoP;rw[ac1 J hX ‹_›];exact⟨E,Wd.dR (X':=X.box (X.Md++[x.l])) (z':={z with iA:=auX,ic:=auY,ix:=z.ix++[x]}) (Ls:=[]) (fA:=R.fA) (fc:=R.fc) (fx:=R.fx) (sA:=R.sA) (sc:=R.sc) (tA:=R.tA) (tc:=R.tc) O Z hrr G hn aoP (NG.more.awV (by rw[append_nil];exact G.hld x (mem_cons_self ..))) (λu hu=>.inl hu) E G.Ms.symm mH⟩
set_option linter.unnecessarySimpa false
def Wn{α β:Type}(f:α->β):∀(l:List α) (i:Nat),(l.eraseIdx i).map f=(l.map f).eraseIdx i
 |[],_=>rfl
 |_::_,0=>rfl
 |a::l,i+1=>congrArg (f a:: ·) (Wn f l i)
def ac5{m:Cl}{at_:Nat}{c s:Bool}(h:m.Ms.length=0):m.pick at_ c s=m:=by
 unfold Cl.pick;rw[length_eq_zero_iff.1 h];rfl
def Cu{m:Cl}{at_:Nat}{c s:Bool}{l:bH}(h:m.Ms[at_ % m.Ms.length]? =some l):m.pick at_ c s=if c=true then(if s=true then m else{m with Ms:=m.Ms.eraseIdx (at_ % m.Ms.length)}).Nk l else if s=true then m else{m with Ms:=m.Ms.eraseIdx (at_ % m.Ms.length)}:=by
 unfold Cl.pick;rw[h]
def Wd.drop1{K:CK}{B:Nat}{w0 w:World}{fs:List J8}{m:Cl}{x:LX}{H:List LX}(h:Wd K B w0 w fs m (x::H)):Wd K B w0 w fs m H:=by
 obtain⟨R,G,S⟩:=h;exact⟨R,⟨G.Ms,G.flo,G.iK,G.arr,λu I=>G.hld u (mem_cons_of_mem _ I)⟩,S⟩
def D9{K:CK}{B n kn kw:Nat}{w0 w:World}{fs:List J8}{m:Cl}{H:List LX}{at_:Nat}{comes stays:Bool}(hn:n<5)(O:K.nb n=kn)(J:K.wb=kw)(I:Uk B w0)(hB1:m.Ms.length<=1000000000)(hB2:m.bL.length<=1000000000000)(hib:∀j,j<5->(m.ah j).Md.length<=1000000000)(HW:Wd K B w0 w fs m H)(AU:∀l∈m.Ms,∃j,j<5/\(l.tg= -1\/l.tg= -2\/l.tg=((j:Nat):Int))):
 Calls prog 34 #[pV kw 0,D (at_:Int),.bool comes,.bool stays] w (λe w'=>e=.returned (.tuple #[])/\Wd K B w0 w' fs (m.pick at_ comes stays) H):=by
 obtain⟨R,G,S0⟩:=HW.open hn;have hfl:R.fx.length=m.Ms.length:=by rw[<-G.Ms,length_map]
 have NG:=G.iK n hn;obtain⟨X,hX⟩:∃X,m.ah n=X:=⟨_,E⟩;obtain⟨z,hz⟩:∃z,R.nx n=z:=⟨_,E⟩;rw[hX,hz]at S0 NG;have hL:∀f∈R.L,f∈gG K R m fs n:=λf h=>mem_append_right _ (mem_append_right _ h);obtain⟨rr,Z⟩:∃r,gG K R m fs n=r:=⟨_,E⟩;rw[Z]at S0 hL;have S:St B w0 w ((bN kn n X.up z.tA X.data z.tc X.MC z.bb X.Nh X.Nf z.iA z.ix z.ic z.pv X.turn)::(oB z.bb z.bx)::(fL z.iA z.ix z.ic)::(bW kw (.slice R.nA 5 R.nc) m.off R.fA R.fx R.fc m.MG R.sA m.aP R.sc R.tA m.bL R.tc m.calls)::(oL R.fA R.fx R.fc)::(oS R.sA m.aP R.sc)::(oT R.tA m.bL R.tc)::rr):=by subst O;subst J;exact S0
 clear S0;have hlen:=(S.own 1 E).1;rw[iL (sz:=6) (λ_=>E)]at hlen;refine gP 47 func34 ?_;refine cw [0,1,2,3] ?_;refine zN 6 ?_;refine vv (aj E E (aG (St.cl 3 S E Sr))) ?_;refine zQ ?_;by_cases h1:(R.fx.length:Int)=0
 ·refine zN 7 ?_;rw[ac5 (by rw[<-hfl];omega)];exact⟨E,HW⟩
 refine zN 7 ?_;obtain⟨g2,hfA⟩:=EJ (S.own 4 E) Y;have S2:=S;rw[hfA]at S2;obtain⟨i,hit⟩:∃i,i=at_ % R.fx.length:=⟨_,E⟩;have hi:i<R.fx.length:=by rw[hit];exact mod_lt _ Y
 obtain⟨x,hx⟩:∃x,R.fx[i]? =some x:=⟨_,getElem?_eq_getElem hi⟩;have M:x∈R.fx:=mem_of_getElem? hx;have hfi:m.Ms[at_ % m.Ms.length]? =some x.l:=by rw[<-hfl,<-hit,<-G.Ms,getElem?_map,hx];rfl
 refine zN 5 ?_;refine vv (aj E E (aG (St.cl 3 S2 E Sr))) ?_;refine zQ ?_;refine vv (v:=D ((i:Nat):Int)) (bM E E E (Wi hit Y)) ?_;refine zN 8 ?_;refine vv (aj E E (aG (St.cl 3 S2 E Sr))) ?_;refine zQ ?_;refine vv (ko i) ?_;refine vv (aj E E (dP (cs:=LX.cells x) (Rd.wZ (St.Rn 4 S2 E) (λ_ _ h=>bE (enc:=LX.cells) (sz:=23) (λ_=>E) hx h)))) ?_;refine gD S2 ad8 ?_;intro b3 w4 S5;refine sa 0 S5 kQ ?_;intro w6 S7;refine zN 6 ?_
 cases hb8:(stays)
 ·refine zN 9 ?_;refine vv (aj E E (aG (St.cl 4 S7 E Sr))) ?_;refine zN 2 ?_;refine vv (v:=D ((i+1:Nat):Int)) iI ?_;have S9:=S7.eH [7,7,7,7,7,7,7];refine dJ eQ (UF g2 R.fx.length R.fc i _ (R.fx.flatMap LX.cells) _ (S9.own 4 E) (alf _) hi) ?_;rintro _ ZL ⟨rfl,aC7,auZ⟩;refine⟨_,E,?_⟩;rw[Kj (enc:=LX.cells) (sz:=23) (λ_=>E)]at auZ;have Ay:=S9.ad5 4 E aC7 auZ;refine zN 2 ?_;refine jH 3 Ay kQ ?_ (hs:=by exact aox);intro Lf jm;refine zN 7 ?_
  cases aLj:(comes)
  ·refine bI (l':=[(0,pV kw 0),(9,pV b3 0),(43,.bool false)]) FH (mq E (qQ (oV ?_)));rw[Cu hfi];have Wm:R.fx.length-1=(R.fx.eraseIdx i).length:=by rw[length_eraseIdx,if_pos hi]
   rw[Wm]at jm;have aoQ:=Wd.dR (X':=X) (z':=z) (m':={m with Ms:=m.Ms.eraseIdx (at_ % m.Ms.length)}) (H':=x::H) (Ls:=[.Mg b3 #[D x.l.kd,D x.l.fr,D x.l.tg,D ((x.l.q:Nat):Int),D x.l.ep,D x.l.at_,D x.l.nd,D x.l.op.kind,D x.l.op.Mr,D x.l.op.id,D x.l.op.body,D x.l.op.MF,D x.l.op.Nc,.slice x.A x.l.Gs.length x.c,.bool x.l.last,D x.l.num,D x.l.bL.num,D x.l.bL.Rf.code,D x.l.bL.Rf.fO,D x.l.bL.Rf.Nc,D x.l.bL.Rf.body,D x.l.bL.pl.node,D x.l.bL.pl.Mc] 119]) (fA:=(aD g2 0)) (fc:=R.fc) (fx:=R.fx.eraseIdx i) (sA:=R.sA) (sc:=R.sc) (tA:=R.tA) (tc:=R.tc) O J Z G hn jm NG.more (λu I=>.inl (mem_of_mem_eraseIdx I)) (aB hX).symm (by rw[Wn,G.Ms,hit,hfl]) (λu I=>(mem_cons.1 I).elim (λe=>.inr (e▸((G.flo x M).mono λf hf=>mem_append_left _ hf))) .inl);exact⟨E,by simpa[*]using Wd.drop1 aoQ⟩
  refine bI (l':=[(0,pV kw 0),(9,pV b3 0),(43,.bool true)]) FH (mo E (aC (vm ?_)));refine zQ ?_;have Wm:R.fx.length-1=(R.fx.eraseIdx i).length:=by rw[length_eraseIdx,if_pos hi]
  rw[Wm]at jm;have aC8:=Wd.dR (X':=X) (z':=z) (m':={m with Ms:=m.Ms.eraseIdx (at_ % m.Ms.length)}) (H':=x::H) (Ls:=[.Mg b3 #[D x.l.kd,D x.l.fr,D x.l.tg,D ((x.l.q:Nat):Int),D x.l.ep,D x.l.at_,D x.l.nd,D x.l.op.kind,D x.l.op.Mr,D x.l.op.id,D x.l.op.body,D x.l.op.MF,D x.l.op.Nc,.slice x.A x.l.Gs.length x.c,.bool x.l.last,D x.l.num,D x.l.bL.num,D x.l.bL.Rf.code,D x.l.bL.Rf.fO,D x.l.bL.Rf.Nc,D x.l.bL.Rf.body,D x.l.bL.pl.node,D x.l.bL.pl.Mc] 119]) (fA:=(aD g2 0)) (fc:=R.fc) (fx:=R.fx.eraseIdx i) (sA:=R.sA) (sc:=R.sc) (tA:=R.tA) (tc:=R.tc) O J Z G hn jm NG.more (λu I=>.inl (mem_of_mem_eraseIdx I)) (aB hX).symm (by rw[Wn,G.Ms,hit,hfl]) (λu I=>(mem_cons.1 I).elim (λe=>.inr (e▸((G.flo x M).mono λf hf=>mem_append_left _ hf))) .inl);obtain⟨nn,hnn,htt⟩:∃nn,nn<5/\(x.l.tg= -1\/x.l.tg= -2\/x.l.tg=((nn:Nat):Int)):=AU x.l (by rw[<-G.Ms];exact mem_map_of_mem M);refine dJ eQ (D8 (m:={m with Ms:=m.Ms.eraseIdx (at_ % m.Ms.length)}) (x:=x) hnn E J I (by first|omega|(show(m.Ms.eraseIdx _).length<=_;have:=length_eraseIdx_le m.Ms (at_ % m.Ms.length);omega)) hB2 (hib nn hnn) aC8 htt) ?_;rintro _ GH ⟨rfl,aC9⟩;refine⟨_,E,?_⟩;refine zQ ?_;refine bX (l':=[]) trivial (oV ?_);rw[Cu hfi];exact⟨E,by simpa[*]using aC9⟩
 refine zN 11 ?_
 cases aLk:(comes)
 ·refine bI (l':=[(0,pV kw 0),(9,pV b3 0),(43,.bool false)]) FH (mq E (qQ (oV ?_)));rw[Cu hfi];have jY:=S7.eH [7,7,7,7,7,7,7];rw[<-hfA]at jY;have aDa:=Wd.dR (X':=X) (z':=z) (m':=m) (H':=x::H) (Ls:=[.Mg b3 #[D x.l.kd,D x.l.fr,D x.l.tg,D ((x.l.q:Nat):Int),D x.l.ep,D x.l.at_,D x.l.nd,D x.l.op.kind,D x.l.op.Mr,D x.l.op.id,D x.l.op.body,D x.l.op.MF,D x.l.op.Nc,.slice x.A x.l.Gs.length x.c,.bool x.l.last,D x.l.num,D x.l.bL.num,D x.l.bL.Rf.code,D x.l.bL.Rf.fO,D x.l.bL.Rf.Nc,D x.l.bL.Rf.body,D x.l.bL.pl.node,D x.l.bL.pl.Mc] 119]) (fA:=R.fA) (fc:=R.fc) (fx:=R.fx) (sA:=R.sA) (sc:=R.sc) (tA:=R.tA) (tc:=R.tc) O J Z G hn jY NG.more (λu I=>.inl I) (aB hX).symm G.Ms.symm (λu I=>(mem_cons.1 I).elim (λe=>.inr (e▸((G.flo x M).mono λf hf=>mem_append_left _ hf))) .inl);exact⟨E,by simpa[*]using Wd.drop1 aDa⟩
 refine bI (l':=[(0,pV kw 0),(9,pV b3 0),(43,.bool true)]) FH (mo E (aC (vm ?_)));refine zQ ?_;have kF:=S7.eH [7,7,7,7,7,7,7];rw[<-hfA]at kF;have aDb:=Wd.dR (X':=X) (z':=z) (m':=m) (H':=x::H) (Ls:=[.Mg b3 #[D x.l.kd,D x.l.fr,D x.l.tg,D ((x.l.q:Nat):Int),D x.l.ep,D x.l.at_,D x.l.nd,D x.l.op.kind,D x.l.op.Mr,D x.l.op.id,D x.l.op.body,D x.l.op.MF,D x.l.op.Nc,.slice x.A x.l.Gs.length x.c,.bool x.l.last,D x.l.num,D x.l.bL.num,D x.l.bL.Rf.code,D x.l.bL.Rf.fO,D x.l.bL.Rf.Nc,D x.l.bL.Rf.body,D x.l.bL.pl.node,D x.l.bL.pl.Mc] 119]) (fA:=R.fA) (fc:=R.fc) (fx:=R.fx) (sA:=R.sA) (sc:=R.sc) (tA:=R.tA) (tc:=R.tc) O J Z G hn kF NG.more (λu I=>.inl I) (aB hX).symm G.Ms.symm (λu I=>(mem_cons.1 I).elim (λe=>.inr (e▸((G.flo x M).mono λf hf=>mem_append_left _ hf))) .inl);obtain⟨nn,hnn,htt⟩:∃nn,nn<5/\(x.l.tg= -1\/x.l.tg= -2\/x.l.tg=((nn:Nat):Int)):=AU x.l (by rw[<-G.Ms];exact mem_map_of_mem M);refine dJ eQ (D8 (m:=m) (x:=x) hnn E J I (by first|omega|(show(m.Ms.eraseIdx _).length<=_;have:=length_eraseIdx_le m.Ms (at_ % m.Ms.length);omega)) hB2 (hib nn hnn) aDb htt) ?_;rintro _ M4 ⟨rfl,aDc⟩;refine⟨_,E,?_⟩;refine zQ ?_;refine bX (l':=[]) trivial (oV ?_);rw[Cu hfi];exact⟨E,by simpa[*]using aDc⟩
def pq(q:Nat):Option bS->Option bS
 |none=>none
 |some p=>if p.q=q then some p else none
def zU(m:Cl)(q:Nat):List jJ:=m.aP.filter λs=>decide (s.q=q)
def M7(m:Cl)(q:Nat)(l:bH):Prop:=l.q=q/\(l∈m.Ms\/ ∃n,n<5/\l∈(m.ah n).Md)
noncomputable def vw(m:Cl)(q:Nat)(n:Nat):aU:=(m.ah n).view q
def uz(m:Cl)(q:Nat)(n:Nat):Option bS:=pq q (m.ah n).Mw
def EA(m:Cl)(n:Nat):Bool:=(m.ah n).up
def zV(m:Cl)(q:Nat)(n:Nat):Int×Int:=m.MG n q
def QI(m:Cl)(q:Nat)(g:Gh):Prop:=QC g (vw m q) (uz m q) (EA m) (M7 m q) (m.off.at q) (zV m q) (zU m q)
structure qg (g g':Gh):Prop where
 m:g'.m=g.m
 own:g'.own=g.own
 len:g'.len=g.len
 G:g'.G=g.G
def qg.refl(g:Gh):qg g g:=⟨E,E,E,E⟩
def qg.trans{a b c:Gh}(h:qg a b)(I:qg b c):qg a c:=⟨I.m.trans h.m,I.own.trans h.own,I.len.trans h.len,I.G.trans h.G⟩
def arM(g:Gh):qg g g.all:=⟨E,E,E,E⟩
def qg.o{g g':Gh}(h:qg g g'):g'.o=g.o:=by unfold Gh.o;rw[h.m,h.own]
section
variable {m m':Cl}{n q:Nat}{g g':Gh}{l:bH}{V:Nat->aU}{P:Nat->Option bS}{U:Nat->Bool}{Lt:bH->Prop}{pl:Pl}{sh:Nat->Int×Int}{sv:List jJ}{X:Nd}
def QI.mk'(I:QC g V P U Lt pl sh sv)(O:vw m q=V)(Z:uz m q=P)(hU:EA m=U)(hL:∀l,M7 m q l->Lt l\/Es g V pl l)(h:m.off.at q=pl)(J:zV m q=sh)(M:zU m q=sv):QI m q g:=by
 unfold QI;rw[O,Z,hU,h,J,M];exact I.ze hL
def p8(h:m'.ah=Na m.ah n X):vw m' q=Na (vw m q) n (X.view q):=by
 funext j
 unfold vw;rw[h];unfold Na
 split<;>rfl
def tV(h:m'.ah=Na m.ah n X):uz m' q=Na (uz m q) n (pq q X.Mw):=by
 funext j
 unfold uz;rw[h];unfold Na
 split<;>rfl
def Wo(h:m'.ah=Na m.ah n X):EA m'=Na (EA m) n X.up:=by
 funext j
 unfold EA;rw[h];unfold Na
 split<;>rfl
def mO(h:m'.ah=Na m.ah n X)(hv:X.view q=(m.ah n).view q):vw m' q=vw m q:=by rw[p8 h];exact aB hv.symm
def sF(h:m'.ah=Na m.ah n X)(hv:pq q X.Mw=pq q (m.ah n).Mw):uz m' q=uz m q:=by rw[tV h];exact aB hv.symm
def mP(h:m'.ah=Na m.ah n X)(hv:X.up=(m.ah n).up):EA m'=EA m:=by rw[Wo h];exact aB hv.symm
def O7{q':Nat}{p:Int×Int}{s:Nat->Nat->Int×Int}(h:q'≠q):(λk=>iD s n q' p k q)=λk=>s k q:=by
 funext k
 unfold iD;rw[if_neg (λe=>h e.2.symm)]
def Ga{p:Int×Int}{s:Nat->Nat->Int×Int}:(λk=>iD s n q p k q)=Na (λk=>s k q) n p:=by
 funext k
 unfold iD Na;by_cases e:k=n
 ·rw[if_pos ⟨e,E⟩,if_pos e]
 rw[if_neg (λh=>e h.1),if_neg e]
def tX{sv:List jJ}{s:jJ}:(sv++[s]).filter (λs=>decide (s.q=q))=sv.filter (λs=>decide (s.q=q))++if s.q=q then[s]else[]:=by
 rw[filter_append]
 congr 1
 by_cases e:s.q=q
 ·rw[if_pos e];simp[e]
 rw[if_neg e];simp[e]
def ni(h:l.kd=0\/l.kd=1\/l.kd=3):Es g V pl l:=⟨λe=>by omega,λe=>by omega,λe=>by omega,λe=>by omega⟩
def KH{x:bH}(hn:m'.ah=Na m.ah n X)(hi:∀l∈X.Md,l∈(m.ah n).Md)(J:n<5)(M:m'.Ms=m.Ms++[x]){R:bH->Prop}(O:x.q=q->R x):∀l,M7 m' q l->M7 m q l\/R l:=λl Z=>by
 obtain⟨h1,h⟩:=Z
 rcases h with h|⟨j,I,h⟩
 ·rw[M]at h
  rcases mem_append.1 h with h|h
  ·exact .inl ⟨h1,.inl h⟩
  rw[mem_singleton]at h;subst h;exact .inr (O h1)
 rw[hn]at h;by_cases e:j=n
 ·subst e;rw[Ee]at h;exact .inl ⟨h1,.inr ⟨j,I,hi l h⟩⟩
 rw[Kg e]at h;exact .inl ⟨h1,.inr ⟨j,I,h⟩⟩
def xJ(hn:m'.ah=Na m.ah n X)(hi:∀l∈X.Md,l∈(m.ah n).Md)(J:n<5)(M:m'.Ms=m.Ms){R:bH->Prop}:∀l,M7 m' q l->M7 m q l\/R l:=λl O=>by
 obtain⟨h1,h⟩:=O
 rcases h with h|⟨j,I,h⟩
 ·rw[M]at h;exact .inl ⟨h1,.inl h⟩
 rw[hn]at h;by_cases e:j=n
 ·subst e;rw[Ee]at h;exact .inl ⟨h1,.inr ⟨j,I,hi l h⟩⟩
 rw[Kg e]at h;exact .inl ⟨h1,.inr ⟨j,I,h⟩⟩
def Ba:m.ah=Na m.ah n (m.ah n):=(aB E).symm
def QI.far(I:QI m q g)(Z:n<5)(hn:m'.ah=Na m.ah n X)(hv:X.view q=(m.ah n).view q)(hp:pq q X.Mw=pq q (m.ah n).Mw)(hu:X.up=(m.ah n).up)(hi:∀l∈X.Md,l∈(m.ah n).Md)(hf:∀l∈m'.Ms,l∈m.Ms\/(l.q=q->Es g (vw m q) (m.off.at q) l))
  (ho:m'.off.at q=m.off.at q) (hs:zV m' q=zV m q) (J:zU m' q=zU m q):QI m' q g:=
 QI.mk' I (mO hn hv) (sF hn hp) (mP hn hu) (λl hl=>by
  obtain⟨h1,h⟩:=hl
  rcases h with h|⟨j,O,h⟩
  ·rcases hf l h with M|M
   ·exact .inl ⟨h1,.inl M⟩
   exact .inr (M h1)
  rw[hn]at h;by_cases e:j=n
  ·subst e;rw[Ee]at h;exact .inl ⟨h1,.inr ⟨j,O,hi l h⟩⟩
  rw[Kg e]at h;exact .inl ⟨h1,.inr ⟨j,O,h⟩⟩) ho hs J
def QC.MS(I:QC g V P U Lt pl sh sv)(J:U g.o=true):g.t=g.m/\g.F=g.G.length/\rp dV sv=some (av g.G).1:=by
 have M:=I.upF J;refine⟨?_,M,?_⟩
 ·rcases I.LB with h|⟨_,_,h,_⟩
  ·exact h.1
  rw[J]at h;cases h
 have:=I.rps;rwa [M,take_length]at this
def QC.oEp(I:QC g V P U Lt pl sh sv)(hn:n<5)(h:(V n).Gq=1\/(V n).Gq=2):n=g.o:=I.who hn h
def Cv{L:List Ev}{K at_:Nat}(h:at_<=K)(I:K<=L.length):((L.take K).drop at_).take 3=(L.drop at_).take (((L.take K).drop at_).take 3).length/\at_+(((L.take K).drop at_).take 3).length<=K:=by
 have e:(((L.take K).drop at_).take 3).length=min 3 (K-at_):=by
  rw[length_take,length_drop,length_take];omega
 refine⟨?_,by rw[e];omega⟩;rw[e,drop_take,take_take]
def ahc{b:aU}{at_:Int}(I:QC g V P U Lt pl sh sv)(hn:n<5)(J:V n=b)(h:¬(ig b at_).2.2≠0):Es g V pl (FY n q b at_):=by
 obtain⟨h1,h2,h3,h4⟩:=OU h;have M:(FY n q b at_).kd=4:=rfl;refine⟨λe=>by rw[M]at e;omega,λ_=>?_,λe=>by rw[M]at e;omega,λe=>by rw[M]at e;omega⟩
 show ∃k:Nat,b.ep+1=(k:Int)+1/\1<=k/\k<=g.m/\(n:Int)=g.own k/\0<=at_/\(ig b at_).1=(g.G.drop at_.toNat).take (ig b at_).1.length/\at_.toNat+(ig b at_).1.length<=g.bd k/\((ig b at_).2.1=true->_)
 rw[h4];dsimp only;by_cases e:n=g.o
 ·subst e;have fO:b.ep=g.m:=by rw[<-J];exact I.ru
  have O:b.Gs=g.G:=by rw[<-J];exact I.uy
  rw[O]at h3⊢;obtain⟨Z,d2⟩:=Cv (L:=g.G) (K:=g.G.length) (at_:=at_.toNat) Y (Nat.le_refl _);rw[take_length]at Z d2;refine⟨g.m,by rw[fO],I.m1,Nat.le_refl _,E,h2,Z,by unfold Gh.bd;rw[if_pos E];exact d2,λhl=>.inr ⟨E,?_⟩⟩;rw[decide_eq_true_eq]at hl;refine⟨by rw[J];exact hl.1,by rw[J];rfl,?_⟩
  show at_.toNat+(ig b at_).1.length=g.G.length
  rw[h4]
  show at_.toNat+((b.Gs.drop at_.toNat).take 3).length=g.G.length
  rw[O,length_take,length_drop];omega
 rcases I.mK n hn e with⟨h5,_⟩|⟨k,k1,k2,k3,k4,k5,k6,k7⟩|⟨k,k1,_⟩
 ·rw[J]at h5;omega
 ·rw[J]at k1 k2 k6 k7;have hlt:=I.MP k3 k4;rw[k6]at h3⊢;rw[length_take]at h3;obtain⟨Z,d2⟩:=Cv (L:=g.G) (K:=g.len k) (at_:=at_.toNat) Y (Nat.le_of_lt hlt);refine⟨k,by rw[k2],k3,Nat.le_of_lt k4,by rw[k5],h2,Z,?_,λ_=>.inl ⟨k4,by rw[<-k7];rfl⟩⟩;unfold Gh.bd;rw[if_neg Y];exact d2
 rw[J]at k1;omega
def He{b:aU}{at_:Int}{fl:List bH}(I:QC g V P U Lt pl sh sv)(hn:n<5)(M:V n=b):∀l∈lD n q b at_ fl,l∈fl\/Es g V pl l:=λl J=>by
 unfold lD at J
 split at J
 ·exact .inl J
 rename_i h
 rcases mem_append.1 J with J|J
 ·exact .inl J
 rw[mem_singleton]at J;subst J;exact .inr (ahc I hn M h)
def Wp{b:aU}{p:bS}{bs:Nat->aU}(I:QC g V P U Lt pl sh sv)(hn:n<5)(J:V n=b)(O:bs q=b)(hL:Es g V pl l)(AU:l.tg=n)(Z:p.q=q)(hlq:l.q=q)(hp:p.ok bs)(hS:Src b l p)(hf:au (p.b bs)=0):Et g V n p:=by
 cases p with
 |serve k Gs op num a=>
  have hk:k=q:=Z;subst hk;obtain⟨h1,M,h3,h4⟩:=hp;rw[O]at h1 M;obtain⟨s1,s2,s3,s4,s5,s6⟩:=hS;have ho:=I.oEp hn (by rw[J];exact h1);have hev:b.Gs=g.G:=by rw[<-J,ho];exact I.uy
  rw[hev]at M s4;exact⟨ho,by rw[J];exact h1,M,by rw[s2,s4],h4⟩
 |Ns k x=>
  have hk:k=q:=Z;subst hk;obtain⟨h1,e,f,rfl,M,_⟩:=hp;rw[O]at h1 M;obtain⟨s1,s2⟩:=hS;obtain⟨j,j1,j2,j3,j4⟩:=hL.1 s1;simp only[aU.mk.injEq,true_and,and_true]at s2;refine⟨j,?_,j2,j3,by rw[J];exact h1,by rw[J];omega⟩;rw[s2.1,s2.2,j1,j4]
 |QU k x last=>
  have hk:k=q:=Z;subst hk;obtain⟨s1,s2,s3,s4,s5,s6,s7,s8,s9⟩:=hS;have hr:b.Gq=4:=by have:=hp.1;rwa [O]at this
  have Nc:n≠g.o:=λe=>by
   have:=I.zS;rw[<-e,J]at this;omega
  obtain⟨j,j1,j2,j3,j4,j5,j6,j7,j8⟩:=hL.2.1 s1
  rcases I.mK n hn Nc with⟨h5,_⟩|⟨_,h5,_⟩|⟨k',k1,k2,k3,k4,k5,k6,k7,k8⟩
  ·rw[J]at h5;omega
  ·rw[J]at h5;omega
  rw[J]at k2 k5 k6 k7;have hkj:k'=j:=Y;subst hkj;have hbd:=I.Xk k3 k4;have e2:l.Gs.drop (b.Gs.length-l.at_.toNat)=(g.G.drop b.Gs.length).take (l.at_.toNat+l.Gs.length-b.Gs.length):=by
   have:=congrArg (List.drop (b.Gs.length-l.at_.toNat)) j6;rw[this,drop_take,drop_drop,show l.at_.toNat+(b.Gs.length-l.at_.toNat)=b.Gs.length by omega]
   congr 1
   omega
  have hE:Jm b l.at_ l.Gs=g.G.take (l.at_.toNat+l.Gs.length):=by
   unfold Jm;rw[e2];have e3:=congrArg (· ++(g.G.drop b.Gs.length).take (l.at_.toNat+l.Gs.length-b.Gs.length)) k6;rw[e3,<-take_add]
   congr 1
   omega
  have hx:∀(h:last=true),k'=g.m->l.at_.toNat+l.Gs.length=g.G.length->x=⟨1,(g.m:Int)+1,0,0,0,g.G++[aF]⟩:=λh h1 M=>by
   rw[s9];unfold wW;rw[if_pos (by rw[<-s8];exact h),hE,M,take_length,k2,h1]
  refine⟨by rw[J];exact hr,λhl=>⟨l.at_.toNat+l.Gs.length,?_,by rw[J];exact s7,λk2' hk2=>?_⟩,λhl=>?_⟩
  ·rw[s9,J];unfold wW;rw[if_neg (by rw[<-s8,hl];simp),hE]
  ·rw[J]at hk2;have:k2'=k':=Y;subst this;exact j7
  rcases j8 (by rw[<-s8];exact hl)with⟨a1,a2⟩|⟨a1,a2,a3,a4⟩
  ·exact absurd Y (k8 a1)
  have hx':=hx hl a1 a4;have hf':au x=0:=hf;rw[hx']at hf';exact⟨by rw[J,k2,a1],a2,a3.trans AU,hx',(eT hf').2⟩
 |fG k x a=>
  obtain⟨h1,M⟩:=hp;have hk:k=q:=Z;subst hk;rw[O]at h1 M;exact⟨I.oEp hn (by rw[J];exact .inr h1),by rw[J];exact h1,by rw[J];exact M⟩
 |Ni k x=>
  obtain⟨h1,M⟩:=hp;have hk:k=q:=Z;subst hk;rw[O]at h1 M;obtain⟨s1,s2⟩:=hS;obtain⟨j,j1,j2,j3,j4⟩:=hL.2.2.2 s1;obtain⟨d,d1,d2,d3⟩:=I.dir;rw[d1]at j3;dsimp only at j3;exact⟨by rw[J];exact h1,by rw[J];exact M,by rw[J];omega⟩
end
def Z8:∀ {k:Nat} {l:List Ev},l.length=k->QJ l->(av l).1.Rj=0
 | 0,l,I,h=>by
  rw[length_eq_zero_iff.1 I];rw[yE (l:=[]) iQ (show gZ dV [] []=some (dV,[])from E)];exact acg
 |k+1,l,I,h=>by
  have J:l=l.take k++[l[k]]:=by rw[<-nY Y,<-I,take_length]
  have M:QJ (l.take k++[l[k]]):=J▸h;obtain⟨h1,_,O⟩:=Ra M;rw[J,O];exact ars h1
def alv{Q:Qd}{e:Ev}(h:Q.Rj=0)(he:aZ e=0):(iO Q e).2.2.2=0:=by rw[zq h he]
section
variable {m m':Cl}{n q:Nat}{g g':Gh}{l:bH}{rs:List cO}
def gK(h:(m.ah n).up=true):vw m q n=(m.ah n).bs q:=by unfold vw;rw[dK h]
def ahd(h:(m.ah n).Mw=none):uz m q n=none:=by unfold uz;rw[h];rfl
def ahe{a:iW}(I:QI m q g)(hn:n<5)(hu:(m.ah n).up=true)(h2:(gU ((m.ah n).bs l.q) l.op).2.2.1=false/\a=(gU ((m.ah n).bs l.q) l.op).2.1)(he:aZ l.op=0/\l.op.kind≠4)(hb:au ((m.ah n).bs l.q)=0)
  (hG:g.G.length<1999):∃g',QI (m.done n l.q l.op l.num a) q g'/\qg g g':=by
 obtain⟨h2,h3⟩:=h2;by_cases hs:Nl ((m.ah n).bs l.q)
 ·rw[Fa E E hs];by_cases hq:l.q=q
  ·subst hq;have hV:=gK (q:=l.q) hu;have ho:=I.oEp hn (by rw[hV];exact hs);have fO:((m.ah n).bs l.q).ep=g.m:=by rw[<-hV,ho];exact I.ru
   have M:((m.ah n).bs l.q).Gs=g.G:=by rw[<-hV,ho];exact I.uy
   obtain⟨t1,t2,t3⟩:=I.MS (by rw[<-ho];exact hu);have hs':=hs;unfold Nl at hs';have Z:gU ((m.ah n).bs l.q) l.op=((m.ah n).bs l.q,(iO (av ((m.ah n).bs l.q).Gs).1 l.op).2.1,false,0)/\(iO (av ((m.ah n).bs l.q).Gs).1 l.op).2.2.1=false:=by
    have hl:¬ 1999<=((m.ah n).bs l.q).Gs.length:=by rw[M];omega
    unfold gU at h2⊢;rw[if_neg (λe=>e hb),if_neg (λe=>e he.1),if_neg he.2,if_neg Y,if_neg Y]at h2⊢;by_cases c:(iO (av ((m.ah n).bs l.q).Gs).1 l.op).2.2.1=false
    ·rw[if_pos c];exact⟨E,c⟩
    rw[if_neg c,if_neg hl]at h2;cases h2
   rw[Z.1,M]at h3;rw[M]at Z;have hgq:(av g.G).1.Rj=0:=Z8 E I.gd;have hc:(iO (av g.G).1 l.op).2.2.2=0:=alv hgq he.1;have hr:rp dV (zU m l.q++[⟨n,l.q,g.m,l.op,a,l.num⟩])=some (av g.G).1:=by
    rw[Er t3 hc h3.symm,alc hc Z.2]
   refine⟨g.all,QI.mk' (I.told t1 hr λs hs=>by rw[mem_singleton]at hs;subst hs;exact⟨E,ho⟩) E E E ?_ E ?_ ?_,arM g⟩
   ·rintro x ⟨x1,O|O⟩
    ·rcases mem_append.1 O with O|O
     ·exact .inl ⟨x1,.inl O⟩
     rw[mem_singleton]at O;subst O;exact .inr (ni (.inr (.inl E)))
    exact .inl ⟨x1,.inr O⟩
   ·show(λk=>iD m.MG n l.q _ k l.q)=_
    rw[Ga,fO,M,ho];rfl
   show(m.aP++_).filter _=_
   rw[tX,if_pos E,fO];rfl
  refine⟨g,I.far (n:=n) (X:=m.ah n) hn Ba E E E (λ_ h=>h) (λx J=>?_) E (O7 hq) ?_,.refl g⟩
  ·rcases mem_append.1 J with J|J
   ·exact .inl J
   rw[mem_singleton]at J;subst J;exact .inr λ_=>ni (.inr (.inl E))
  show(m.aP++_).filter _=_
  rw[tX,if_neg hq,append_nil];rfl
 rw[Jl E E hs];refine⟨g,I.far (n:=n) (X:=m.ah n) hn Ba E E E (λ_ h=>h) (λx J=>?_) E E E,.refl g⟩
 rcases mem_append.1 J with J|J
 ·exact .inl J
 rw[mem_singleton]at J;subst J;exact .inr λ_=>ni (.inr (.inl E))
def Gb{p:bS}(h:p.q=q):pq q (some p)=some p:=if_pos h
def anh{p:bS}(h:p.q≠q):pq q (some p)=none:=if_neg h
def Z9(I:QI m q g)(hn:n<5)(hu:(m.ah n).up=true)(hU:oC (m.ah n) rs [])(hp:(m.ah n).Mw=none)(hL:l.q=q->Es g (vw m q) (m.off.at q) l)(AU:l.tg=n)(hk:l.kd=0->aZ l.op=0/\l.op.kind≠4)(hlq:l.q<4)
  (hroom:(m.ah n).data.length+46<=100000) (hG:g.G.length<1999) (H:Hnd m n l m'):∃g',QI m' q g'/\qg g g'/\((vw m q g.o).Gq=3->(vw m' q g.o).Gq=3):=by
 have hbq:=hU.lg _ hlq
 cases H with
 |same=>exact⟨g,I,.refl g,id⟩
 |done a h1 h2=>
  have hvw:vw (m.done n l.q l.op l.num a) q=vw m q:=mO (n:=n) (X:=m.ah n) (by rw[(uV (m:=m)).2.1];exact Ba) E
  rcases h2 with h2|⟨h2,h3,h4,h5,h6⟩
  ·obtain⟨g',h7,h8⟩:=ahe I hn hu h2 (hk h1) hbq hG;exact⟨g',h7,h8,by rw[hvw];exact id⟩
  exfalso
  have hs:=eO hbq;unfold bq at hs;unfold Nl at h3;have hr:aH (fH 2 l.q ((m.ah n).bs l.q).ep 0 l.op)=0:=oI Y hlq Y Y (by simpa[kR]using h4);have hsy:=hU.MC;have hd:=congrArg length hU.data;rw[append_nil]at hd;rw[vH (λr hr'=>by rw[mem_singleton]at hr';subst hr';exact hr) Y Y (by simpa using hroom)]at h5
  cases h5
 |QM h1=>
  refine⟨g,I.far (n:=n) (X:=m.ah n) hn Ba E E E (λ_ h=>h) (λx O=>?_) E E E,.refl g,id⟩
  rcases mem_append.1 O with O|O
  ·exact .inl O
  rw[mem_singleton]at O;subst O;exact .inr λ_=>ni (.inr (.inr E))
 |part b h1 h2 h3 h4 h5 h6=>
  obtain⟨g1,g2,g3⟩:=pY (m:=m.ay n l.q b) (n:=n) (q:=l.q) (a:=l.at_);have e:(m.ay n l.q b).ah n=(m.ah n).ay l.q b:=aX _;rw[e,show((m.ah n).ay l.q b).bs l.q=b from Ee _ _ _]at g3;have J:((m.ay n l.q b).part n l.q l.at_).ah=Na m.ah n ((m.ah n).ay l.q b):=g2;have hoff:((m.ay n l.q b).part n l.q l.at_).off.at q=m.off.at q:=by rw[g1.off];rfl
  have Z:zV ((m.ay n l.q b).part n l.q l.at_) q=zV m q/\zU ((m.ay n l.q b).part n l.q l.at_) q=zU m q:=by
   unfold Cl.part
   split<;>exact⟨E,E⟩
  by_cases hq:l.q=q
  ·subst hq;have hV:=gK (q:=l.q) hu;have M:((m.ah n).ay l.q b).view l.q=b:=by rw[dK (X:=(m.ah n).ay l.q b) hu];exact Ee _ _ _
   have hvw:vw ((m.ay n l.q b).part n l.q l.at_) l.q=Na (vw m l.q) n b:=by rw[p8 J,M]
   rcases h4 with⟨h4,h7,h8⟩|⟨h4,h7⟩
   ·have ho:=I.oEp hn (by rw[hV];exact .inr h4);have Xp:=I.Ru (by rw[<-ho,hV];omega);have I2:QC g (Na (vw m l.q) g.o b) (uz m l.q) (EA m) (M7 m l.q) (m.off.at l.q) (zV m l.q) (zU m l.q):=by
     refine QC.acp I (λp hp'=>?_) ?_ ?_ ?_ ?_ ?_ ?_
     ·rw[<-ho,ahd hp]at hp';cases hp'
     ·rw[h7];show((m.ah n).bs l.q).ep=_;rw[<-hV,ho];exact I.ru
     ·rw[h7];show((m.ah n).bs l.q).Gs=_;rw[<-hV,ho];exact I.uy
     ·rw[h7];exact .inr (.inl h4)
     ·intro _;rw[h7,<-ho];rw[<-ho,hV]at Xp;exact Xp
     ·intro h;rw[<-ho,hV]at h;omega
     intro h;rw[h7]at h;exact absurd (h4.symm.trans h) dQ
    rw[<-ho]at I2;refine⟨g,QI.mk' I2 hvw (sF J E) (mP J E) (λx O=>?_) hoff Z.1 Z.2,.refl g,λh=>?_⟩
    ·obtain⟨x1,x2⟩:=O
     rcases x2 with x2|⟨j,hj,x2⟩
     ·rw[g3]at x2
      rcases He I2 hn (Ee _ _ _) x x2 with x3|x3
      ·exact .inl ⟨x1,.inl x3⟩
      exact .inr x3
     rw[J]at x2;by_cases e:j=n
     ·subst e;rw[Ee]at x2;exact .inl ⟨x1,.inr ⟨j,hj,x2⟩⟩
     rw[Kg e]at x2;exact .inl ⟨x1,.inr ⟨j,hj,x2⟩⟩
    rw[<-ho,hV]at h;omega
   have au0:vw ((m.ay n l.q b).part n l.q l.at_) l.q=vw m l.q:=by rw[hvw,h7,<-hV];exact aB E
   refine⟨g,QI.mk' I au0 (sF J E) (mP J E) (λx O=>?_) hoff Z.1 Z.2,.refl g,by rw[au0];exact id⟩;obtain⟨x1,x2⟩:=O
   rcases x2 with x2|⟨j,hj,x2⟩
   ·rw[g3]at x2
    rcases He I hn (hV.trans h7.symm) x x2 with x3|x3
    ·exact .inl ⟨x1,.inl x3⟩
    exact .inr x3
   rw[J]at x2;by_cases e:j=n
   ·subst e;rw[Ee]at x2;exact .inl ⟨x1,.inr ⟨j,hj,x2⟩⟩
   rw[Kg e]at x2;exact .inl ⟨x1,.inr ⟨j,hj,x2⟩⟩
  have M:((m.ah n).ay l.q b).view q=(m.ah n).view q:=by
   rw[dK (X:=(m.ah n).ay l.q b) hu,dK hu];exact Kg (λe=>hq e.symm)
  refine⟨g,I.far hn J M E E (λ_ h=>h) (λx O=>?_) hoff Z.1 Z.2,.refl g,by rw[mO J M];exact id⟩;rw[g3]at O;unfold lD at O
  split at O
  ·exact .inl O
  rcases mem_append.1 O with O|O
  ·exact .inl O
  rw[mem_singleton]at O;subst O;exact .inr λh=>absurd h hq
 |Mw p dz d h1 h2 h3 h4 h5=>
  have hY:dz.bs=(m.ah n).bs/\dz.up=(m.ah n).up/\dz.Md=(m.ah n).Md:=by rcases h1 with h1|⟨_,h1⟩<;>rw[h1]<;>exact⟨E,E,E⟩
  have M:∀q,({dz with data:=d,Mw:=some p}:Nd).view q=(m.ah n).view q:=λq=>by
   rw[dK (X:={dz with data:=d,Mw:=some p}) (hY.2.1.trans hu),dK hu];exact congrFun hY.1 q
  have J:(m.put n {dz with data:=d,Mw:=some p}).ah=Na m.ah n {dz with data:=d,Mw:=some p}:=rfl;have hvw:=mO (q:=q) J (M q);by_cases hq:l.q=q
  ·subst hq;have hfull:=(iR hU.tape hU.lg h3 (by rw[h2];exact hlq)).2;have ac7:=Wp I hn (gK (q:=l.q) hu) E (hL E) AU h2 E h3 h5 hfull;refine⟨g,QI.mk' (I.aur (P':=Na (uz m l.q) n (some p)) λk p' hk hp'=>?_) hvw (by rw[tV J];show Na _ n (pq l.q (some p))=_;rw[Gb h2]) (mP J hY.2.1) (xJ J (λx O=>by rw[<-hY.2.2];exact O) hn E) E E E,.refl g,by rw[hvw];exact id⟩;by_cases e:k=n
   ·subst e;rw[Ee]at hp'
    cases hp';exact .inr ⟨hu,ac7⟩
   rw[Kg e]at hp';exact .inl hp'
  refine⟨g,I.far hn J (M q) ?_ hY.2.1 (λx O=>by rw[<-hY.2.2];exact O) (λx O=>.inl O) E E E,.refl g,by rw[hvw];exact id⟩;rw[hp];exact anh (by rw[h2];exact hq)
 |Ny h1=>
  have J:(m.put n ((m.ah n).Ny n l)).ah=Na m.ah n ((m.ah n).Ny n l):=rfl;have M:((m.ah n).Ny n l).view q=(m.ah n).view q:=by rw[dK (X:=(m.ah n).Ny n l) hu,dK hu];rfl
  exact⟨g,I.far hn J M E E (λ_ h=>h) (λx O=>.inl O) E E E,.refl g,by rw[mO J M];exact id⟩
def ahf{V:Nat->aU}{P:Nat->Option bS}{U:Nat->Bool}{Lt:bH->Prop}{pl:Pl}{sh:Nat->Int×Int}{sv:List jJ}{b:aU}{s:Bool}(I:QC g V P U Lt pl sh sv)(hn:n<5)(M:V n=b):∀l∈gu n q b s,Es g V pl l:=λl J=>by
 unfold gu at J
 rcases mem_append.1 J with J|J
 ·rcases mem_append.1 J with J|J
  ·split at J
   ·rename_i O
    rw[mem_singleton]at J;subst J;have h:(vT n q b).kd=2:=rfl;refine⟨λ_=>?_,λe=>by rw[h]at e;omega,λe=>by rw[h]at e;omega,λe=>by rw[h]at e;omega⟩
    show ∃k:Nat,b.ep+1=(k:Int)+1/\1<=k/\k<=g.m/\(n:Int)=g.own k
    by_cases e:n=g.o
    ·subst e;exact⟨g.m,by rw[<-M,I.ru],I.m1,Nat.le_refl _,E⟩
    rcases I.mK n hn e with⟨h5,_⟩|⟨k,Z,k2,k3,k4,k5,_⟩|⟨k,Z,_⟩
    ·rw[M]at h5;omega
    ·rw[M]at k2;exact⟨k,by rw[k2],k3,Nat.le_of_lt k4,by rw[k5]⟩
    rw[M]at Z;omega
   simp at J
  split at J
  ·rw[mem_singleton]at J;subst J;have h:(OI n q).kd=5:=rfl;refine⟨λe=>by rw[h]at e;omega,λe=>by rw[h]at e;omega,λ_ e=>?_,λe=>by rw[h]at e;omega⟩;exact absurd e (by show ¬(0:Int)<= -1;decide)
  simp at J
 split at J
 ·rename_i O
  rw[mem_singleton]at J;subst J;have h:(MO n q b).kd=5:=rfl;refine⟨λe=>by rw[h]at e;omega,λe=>by rw[h]at e;omega,λ_ _=>?_,λe=>by rw[h]at e;omega⟩;have ho:=I.oEp hn (by rw[M];exact .inl O.1);have fO:b.ep=g.m:=by rw[<-M,ho];exact I.ru
  show ∃k:Nat,b.ep-1=(k:Int)/\1<=k/\k<g.m/\((g.own (k+1):Nat):Int)=(n:Int)
  refine⟨g.m-1,by omega,by omega,by omega,?_⟩;rw[show g.m-1+1=g.m by have:=I.m1;omega];exact congrArg Int.ofNat ho.symm
 simp at J
def TM(I:QI m q g)(hn:n<5)(hu:(m.ah n).up=true):QI (m.jV n) q g/\vw (m.jV n) q=vw m q:=by
 have O:(m.jV n).ah=Na m.ah n {m.ah n with turn:=(m.ah n).turn+1}:=rfl;have M:({m.ah n with turn:=(m.ah n).turn+1}:Nd).view q=(m.ah n).view q:=rfl;refine⟨I.far hn O M E E (λ_ h=>h) (λx J=>?_) E E E,mO O M⟩
 rcases mem_append.1 J with J|J
 ·exact .inl J
 refine .inr λZ=>?_;have hxx:x.q=(m.ah n).turn % 4:=by
  unfold gu at J
  rcases mem_append.1 J with J|J
  ·rcases mem_append.1 J with J|J
   ·split at J
    ·rw[mem_singleton]at J;subst J;rfl
    simp at J
   split at J
   ·rw[mem_singleton]at J;subst J;rfl
   simp at J
  split at J
  ·rw[mem_singleton]at J;subst J;rfl
  simp at J
 rw[hxx]at Z;rw[Z]at J;exact ahf I hn (gK hu) x J
end
structure lT (g g':Gh):Prop where
 m:g.m<=g'.m
 own:∀k,k<=g.m->g'.own k=g.own k
 Xq:g'.G.length<=g.G.length+1
def qg.next{g g':Gh}(h:qg g g'):lT g g':=⟨by rw[h.m];exact Nat.le_refl _,λk _=>by rw[h.own],by rw[h.G];omega⟩
def lT.refl(g:Gh):lT g g:=(qg.refl g).next
def lT.same{g g' g2:Gh}(h:lT g g')(I:qg g' g2):lT g g2:=⟨by rw[I.m];exact h.m,λk J=>by rw[I.own];exact h.own k J,by rw[I.G];exact h.Xq⟩
def Dp(q:Nat)(g g':Gh)(m m':Cl):Prop:=g'.m=g.m->(vw m q g.o).Gq=3->(vw m' q g.o).Gq=3
section
variable {m m':Cl}{n q:Nat}{g g':Gh}{l:bH}{rs us:List cO}{X:Nd}{V:Nat->aU}{P:Nat->Option bS}{U:Nat->Bool}{Lt:bH->Prop}{pl:Pl}{sh:Nat->Int×Int}{sv:List jJ}
def QC.Xr(I:QC g V P U Lt pl sh sv)(n:Nat):QC g V (Na P n none) U Lt pl sh sv:=I.aur λk p _ h=>by
 by_cases e:k=n
 ·subst e;rw[Ee]at h;cases h
 rw[Kg e]at h;exact .inl h
def QC.oJ(I:QC g V P U Lt pl sh sv)(h:(V n).Gq=0\/(V n).Gq=4):n≠g.o:=λe=>by
 have:=I.zS;rw[<-e]at this;omega
def QC.O8(I:QC g V P U Lt pl sh sv){k:Nat}(h1:1<=k)(J:k<=g.m)(M:(V n).ep< (k:Int)+1):Oth g n ⟨4,(k:Int)+1,g.own k,0,0,[]⟩:=by
 refine .inr (.inr ⟨k,E,E,h1,J,E,E,zero_le _,λh e=>?_⟩);have:=I.ge (k+1) Y h;rw[e]at this;omega
def QC.KI(I:QC g V P U Lt pl sh sv)(hn:n<5)(O:(V n).Gq=4){j:Nat}(Z:∀k:Nat,(V n).ep=(k:Int)+1->j<=g.bd k):Oth g n {V n with Gs:=g.G.take j}:=by
 rcases I.mK n hn (I.oJ (.inr O))with⟨h5,_⟩|⟨_,h5,_⟩|⟨k,k1,h,J,M,k5,k6,k7,k8⟩
 ·omega
 ·omega
 have h1:=Z k h;have h2:=I.Xk J M;have e:(g.G.take j).length=j:=by rw[length_take];omega
 exact .inr (.inr ⟨k,k1,h,J,M,k5,by show g.G.take j=g.G.take (g.G.take j).length;rw[e],by show(g.G.take j).length<=_;rw[e];exact h1,k8⟩)
def QC.LJ(I:QC g V P U Lt pl sh sv)(hn:n<5)(O:(V n).Gq=3)(h:(V n).ep<g.m):n≠g.o/\Oth g n ⟨0,(V n).ep,0,0,0,[]⟩:=by
 have J:n≠g.o:=λe=>by have:=I.ru;rw[<-e]at this;omega
 refine⟨J,?_⟩
 rcases I.mK n hn J with⟨M,_⟩|⟨k,Z,k2,k3,_⟩|⟨_,M,_⟩
 ·omega
 ·exact .inl ⟨E,by show 0<=(V n).ep;omega,h⟩
 omega
def QC.serve{op:Ev}{a:iW}{num:Int}{b:aU}{qq:Nat}(I:QC g V P U Lt pl sh sv)(ho:n=g.o)(O:U n=true)(hr:(V n).Gq≠3)(Z:QJ (g.G++[op]))(ha:(iO (av g.G).1 op).2.1=a)(hb:b.ep=(V n).ep)(h:b.Gq=(V n).Gq)(J:b.tg=(V n).tg)(M:b.Gs=g.G++[op]):
 QC (g.app op).all (Na V n b) (Na P n none) U Lt pl (Na sh n ((g.m:Int),((g.G++[op]).length:Int))) (sv++[⟨n,qq,g.m,op,a,num⟩]):=by
 subst ho;obtain⟨t1,t2,t3⟩:=I.MS O;obtain⟨s1,s2,s3⟩:=Ra Z;have I2:=(I.down g.o).append (e:=op) (b:=b) (Ee _ _ _) (Ee _ _ _) hr t1 Z hb h J M;have I3:=I2.told (sv2:=[⟨g.o,qq,g.m,op,a,num⟩]) t1 (by rw[Er t3 s1 ha];show _=some (av (g.G++[op])).1;rw[s3]) λs hs=>by rw[mem_singleton]at hs;subst hs;exact⟨E,E⟩
 have I4:=I3.up g.o λ_=>⟨E,E⟩;rw[qU,aB O]at I4;exact I4
def QC.activated{qq:Nat}(I:QC g V P U Lt pl sh sv)(hu:U n=true)(hr:(V g.o).Gq=3)(J:(V g.o).tg=n)(hg:QJ (g.G++[aF]))(M:(V n).ep<=(g.m:Int)+1):
 QC (g.QT n).all (Na V n ⟨1,(g.m:Int)+1,0,0,0,g.G++[aF]⟩) (Na P n none) U Lt pl (Na sh n ((g.m:Int)+1,((g.G++[aF]).length:Int))) (sv++[⟨n,qq,(g.m:Int)+1,aF,eU,-1⟩]):=by
 have ht:¬(g.QT n).t=(g.QT n).m:=by
  show ¬g.t=g.m+1
  rcases I.LB with⟨h,_⟩|⟨h,_⟩<;>omega
 have Z:(g.QT n).o=n:=Ee _ _ _;have I2:=(I.down n).activate (T:=n) hr J (Ee _ _ _) (Ee _ _ _) hg M;have I3:=I2.Z4 ht (s:=⟨n,qq,(g.m:Int)+1,aF,eU,-1⟩) E E (by show(g.m:Int)+1=((g.m+1:Nat):Int);omega) Z.symm;have O:=I3.up n λ_=>⟨E,E⟩;rw[qU,aB hu,Z]at O;have e:(((g.QT n).m:Nat):Int)=(g.m:Int)+1:=by show((g.m+1:Nat):Int)=_;omega
 rw[e]at O;exact O
def ahg(g:Gh)(n:Nat):lT g (g.QT n).all:=⟨by show g.m<=g.m+1;omega,λk h=>Kg Y,by show(g.G++[aF]).length<=_;simp⟩
def ahh(g:Gh)(e:Ev):lT g (g.app e).all:=⟨Nat.le_refl _,λ_ _=>E,by show(g.G++[e]).length<=_;simp⟩
def TN{p:bS}(I:QI m q g)(hn:n<5)(O:m.ah n=X)(Z:X.up=true)(hp:X.Mw=some p)(hpo:p.ok X.bs):∃g',QI (m.step n) q g'/\lT g g'/\Dp q g g' m (m.step n):=by
 have hu':(m.ah n).up=true:=by rw[O];exact Z
 by_cases hq:p.q=q
 ·have hpv:uz m q n=some p:=by unfold uz;rw[O,hp];exact Gb hq
  obtain⟨_,hk⟩:=I.lu n hn p hpv;have hV:vw m q n=X.bs q:=by rw[gK hu',O]
  cases p with
  |serve k Gs op num a=>
   have e:k=q:=hq;subst e;obtain⟨k1,k2,k3,k4,k5⟩:=hk;have hr:(vw m k n).Gq≠3:=by unfold Nl at k2;omega
   have fO:(X.bs k).ep=g.m:=by rw[<-hV,k1];exact I.ru
   rw[jw O Z hp E (by rw[hV]at k2;exact k2)];have I2:=I.serve (b:={X.bs k with Gs:=Gs}) (qq:=k) (num:=num) k1 hu' hr (by rw[<-k3];exact k5) k4 (by rw[hV]) (by rw[hV]) (by rw[hV]) k3;have J:({ (m.put n (X.jE.ay k {X.bs k with Gs:=Gs}))with aP:=m.aP++[⟨n,k,(X.bs k).ep,op,a,num⟩],MG:=iD m.MG n k ((X.bs k).ep,Gs.length),Ms:=m.Ms++[lZ n num a nowhere]}:Cl).ah=Na m.ah n (X.jE.ay k {X.bs k with Gs:=Gs}):=rfl;have M:(X.jE.ay k {X.bs k with Gs:=Gs}).view k={X.bs k with Gs:=Gs}:=by rw[dK (X:=X.jE.ay k _) Z];exact Ee _ _ _
   refine⟨_,QI.mk' I2 (by rw[p8 J,M]) (by rw[tV J];rfl) (mP J (by rw[O];rfl)) ?_ E ?_ ?_,ahh g op,λ_ h=>absurd h (by rw[<-k1];exact hr)⟩
   ·exact KH (x:=lZ n num a nowhere) J (λx hx=>by rw[O];exact hx) hn E λ_=>ni (.inr (.inl E))
   ·show(λj=>iD m.MG n k _ j k)=_
    rw[Ga,fO,k3];rfl
   show(m.aP++_).filter _=_
   rw[tX,if_pos E,fO];rfl
  |Ns k b=>
   have e:k=q:=hq;subst e;obtain⟨j,j1,j2,j3,j4,j5⟩:=hk;rw[nJ O Z hp];have hne:=I.oJ j4;have I2:=(I.Xr n).Sq (b:=b) hn hne (Ee _ _ _) (by rw[j1];exact I.O8 j2 j3 j5) (by rw[j1];show _<=(j:Int)+1;omega);have J:({ (m.put n (X.jE.ay k b))with Ms:=m.Ms++[ou n k b]}:Cl).ah=Na m.ah n (X.jE.ay k b):=rfl;have M:(X.jE.ay k b).view k=b:=by rw[dK (X:=X.jE.ay k _) Z];exact Ee _ _ _
   have hvw:vw ({ (m.put n (X.jE.ay k b))with Ms:=m.Ms++[ou n k b]}:Cl) k=Na (vw m k) n b:=by rw[p8 J,M]
   exact⟨g,QI.mk' I2 hvw (by rw[tV J];rfl) (mP J (by rw[O];rfl)) (KH (x:=ou n k b) J (λx hx=>by rw[O];exact hx) hn E λ_=>ni (.inr (.inr E))) E E E,.refl g,λ_ h=>by rw[hvw,Kg (λe=>hne e.symm)];exact h⟩
  |QU k b last=>
   have e:k=q:=hq;subst e;obtain⟨j1,j2,j3⟩:=hk;have hne:=I.oJ (.inr j1)
   cases last with
   |true=>
    obtain⟨a1,a2,a3,a4,a5⟩:=j3 E;subst a4;rw[jU O Z hp];have I2:=I.activated (qq:=k) hu' a2 a3 a5 (by rw[a1];exact Int.le_refl _);have J:({ (m.put n { (X.jE.ay k ⟨1,(g.m:Int)+1,0,0,0,g.G++[aF]⟩)with Nf:=Na X.Nf k false})with aP:=m.aP++[⟨n,k,(g.m:Int)+1,aF,eU,-1⟩],MG:=iD m.MG n k ((g.m:Int)+1,(g.G++[aF]).length)}:Cl).ah=Na m.ah n { (X.jE.ay k ⟨1,(g.m:Int)+1,0,0,0,g.G++[aF]⟩)with Nf:=Na X.Nf k false}:=rfl;have M:({ (X.jE.ay k ⟨1,(g.m:Int)+1,0,0,0,g.G++[aF]⟩)with Nf:=Na X.Nf k false}:Nd).view k=⟨1,(g.m:Int)+1,0,0,0,g.G++[aF]⟩:=by rw[dK (X:={ (X.jE.ay k _)with Nf:=Na X.Nf k false}) Z];exact Ee _ _ _
    refine⟨_,QI.mk' I2 (by rw[p8 J,M]) (by rw[tV J];rfl) (mP J (by rw[O];rfl)) (xJ J (λx hx=>by rw[O];exact hx) hn E) E ?_ ?_,ahg g n,λh=>by
     have:g.m+1=g.m:=h;omega⟩
    ·show(λj=>iD m.MG n k _ j k)=_
     rw[Ga];rfl
    show(m.aP++_).filter _=_
    rw[tX,if_pos E];rfl
   |false=>
    obtain⟨j,a1,a2,a3⟩:=j2 E;rw[sD O Z hp];have I2:=(I.Xr n).Sq (b:=b) hn hne (Ee _ _ _) (by rw[a1];exact I.KI hn j1 a3) (by rw[a1];exact Int.le_refl _);have J:({ (m.put n (X.jE.ay k b))with Ms:=m.Ms++[ou n k b]}:Cl).ah=Na m.ah n (X.jE.ay k b):=rfl;have M:(X.jE.ay k b).view k=b:=by rw[dK (X:=X.jE.ay k _) Z];exact Ee _ _ _
    have hvw:vw ({ (m.put n (X.jE.ay k b))with Ms:=m.Ms++[ou n k b]}:Cl) k=Na (vw m k) n b:=by rw[p8 J,M]
    exact⟨g,QI.mk' I2 hvw (by rw[tV J];rfl) (mP J (by rw[O];rfl)) (KH (x:=ou n k b) J (λx hx=>by rw[O];exact hx) hn E λ_=>ni (.inr (.inr E))) E E E,.refl g,λ_ h=>by rw[hvw,Kg (λe=>hne e.symm)];exact h⟩
  |fG k b at_=>
   have e:k=q:=hq;subst e;obtain⟨ho,j1,j2⟩:=hk;rw[pX O Z hp];obtain⟨t1,t2,t3⟩:=I.MS (by rw[<-ho];exact hu');have Xp:=I.Ru (by rw[<-ho];omega);have I2:QC g (Na (vw m k) g.o b) (Na (uz m k) n none) (EA m) (M7 m k) (m.off.at k) (zV m k) (zU m k):=by
    refine QC.acp (I.Xr n) (λp' hp'=>?_) ?_ ?_ ?_ ?_ ?_ λ_=>t2
    ·rw[<-ho,Ee]at hp';cases hp'
    ·rw[j2,ho];exact I.ru
    ·rw[j2,ho];exact I.uy
    ·rw[j2];exact .inr (.inr E)
    ·intro _;rw[j2,ho];exact Xp
    intro h;rw[<-ho]at h;omega
   rw[<-ho]at I2;have J:({ (m.put n (X.jE.ay k b))with Ms:=lD n k b at_ m.Ms}:Cl).ah=Na m.ah n (X.jE.ay k b):=rfl;have M:(X.jE.ay k b).view k=b:=by rw[dK (X:=X.jE.ay k _) Z];exact Ee _ _ _
   have hvw:vw ({ (m.put n (X.jE.ay k b))with Ms:=lD n k b at_ m.Ms}:Cl) k=Na (vw m k) n b:=by rw[p8 J,M]
   refine⟨g,QI.mk' I2 hvw (by rw[tV J];rfl) (mP J (by rw[O];rfl)) (λx hx=>?_) E E E,.refl g,λ_ h=>by rw[hvw,<-ho,Ee,j2]⟩;obtain⟨x1,x2⟩:=hx
   rcases x2 with x2|⟨j,hj,x2⟩
   ·rcases He I2 hn (Ee _ _ _) x x2 with x3|x3
    ·exact .inl ⟨x1,.inl x3⟩
    exact .inr x3
   rw[J]at x2;by_cases e:j=n
   ·subst e;rw[Ee]at x2;exact .inl ⟨x1,.inr ⟨j,hj,by rw[O];exact x2⟩⟩
   rw[Kg e]at x2;exact .inl ⟨x1,.inr ⟨j,hj,x2⟩⟩
  |Ni k b=>
   have e:k=q:=hq;subst e;obtain⟨j1,j2,j3⟩:=hk;obtain⟨hne,hoth⟩:=I.LJ hn j1 j3;rw[l5 O Z hp];have I2:=(I.Xr n).Sq (b:=b) hn hne (Ee _ _ _) (by rw[j2];exact hoth) (by rw[j2];exact Int.le_refl _);have J:(m.put n (X.jE.ay k b)).ah=Na m.ah n (X.jE.ay k b):=rfl;have M:(X.jE.ay k b).view k=b:=by rw[dK (X:=X.jE.ay k _) Z];exact Ee _ _ _
   have hvw:vw (m.put n (X.jE.ay k b)) k=Na (vw m k) n b:=by rw[p8 J,M]
   exact⟨g,QI.mk' I2 hvw (by rw[tV J];rfl) (mP J (by rw[O];rfl)) (xJ J (λx hx=>by rw[O];exact hx) hn E) E E E,.refl g,λ_ h=>by rw[hvw,Kg (λe=>hne e.symm)];exact h⟩
 have far:∀ {m':Cl} {dz:Nd},m'.ah=Na m.ah n dz->dz.bs=Na X.bs p.q (p.b X.bs)->dz.up=true->dz.Mw=none->dz.Md=X.Md->(∀l∈m'.Ms,l∈m.Ms\/(l.q=q->Es g (vw m q) (m.off.at q) l))->m'.off.at q=m.off.at q->zV m' q=zV m q->zU m' q=zU m q-> ∃g',QI m' q g'/\lT g g'/\Dp q g g' m m':=by
  intro m' dz h1 h2 h3 h4 h5 h6 h7 h8 h9;have M:dz.view q=(m.ah n).view q:=by rw[dK h3,dK hu',h2,O];exact Kg (λe=>hq e.symm)
  refine⟨g,I.far hn h1 M ?_ (by rw[hu'];exact h3) (λx hx=>by rw[O,<-h5];exact hx) h6 h7 h8 h9,.refl g,λ_ h=>by rw[mO h1 M];exact h⟩;rw[h4,O,hp];exact(anh hq).symm
 have snoc:∀ {x:bH} {fl:List bH},(x.q=q->Es g (vw m q) (m.off.at q) x)-> ∀l∈fl++[x],l∈fl\/(l.q=q->Es g (vw m q) (m.off.at q) l):=λ{x fl} hx l hl=>by
  rcases mem_append.1 hl with hl|hl
  ·exact .inl hl
  rw[mem_singleton]at hl;subst hl;exact .inr hx
 cases p with
 |serve k Gs op num a=>
  rw[jw O Z hp E hpo.1];refine far (dz:=X.jE.ay k {X.bs k with Gs:=Gs}) E E Z E E (snoc λ_=>ni (.inr (.inl E))) E (O7 hq) ?_
  show(m.aP++_).filter _=_
  rw[tX,if_neg (show ¬k=q from hq),append_nil];rfl
 |Ns k b=>
  rw[nJ O Z hp];exact far (dz:=X.jE.ay k b) E E Z E E (snoc λ_=>ni (.inr (.inr E))) E E E
 |QU k b last=>
  cases last with
  |true=>
   rw[jU O Z hp];refine far (dz:={ (X.jE.ay k b)with Nf:=Na X.Nf k false}) E E Z E E (λl hl=>.inl hl) E (O7 hq) ?_
   show(m.aP++_).filter _=_
   rw[tX,if_neg (show ¬k=q from hq),append_nil];rfl
  |false=>
   rw[sD O Z hp];exact far (dz:=X.jE.ay k b) E E Z E E (snoc λ_=>ni (.inr (.inr E))) E E E
 |fG k b at_=>
  rw[pX O Z hp];refine far (dz:=X.jE.ay k b) E E Z E E (λl hl=>?_) E E E;unfold lD at hl;dsimp only at hl
  split at hl
  ·exact .inl hl
  exact snoc (λh=>absurd h hq) l hl
 |Ni k b=>
  rw[l5 O Z hp];exact far (dz:=X.jE.ay k b) E E Z E E (λl hl=>.inl hl) E E E
def xK:∀(rs:List cO),(bK rs).length<=46*rs.length
 |[]=>by simp[bK]
 |r::rs=>by
  have h1:=(AQ r).2;have h:=xK rs;have e:bK (r::rs)=mJ r++bK rs:=by simp[bK,flatMap_cons]
  rw[e,length_append,length_cons];omega
def aac{bs:Nat->aU}{p:bS}(h:p.q=l.q)(I:p.ok bs)(J:Src (bs l.q) l p)(hl:l.Gs.length<=3):(p.rs bs).length<=4:=by
 cases p with
 |serve k Gs op num a=>exact le_of_ble_eq_true E
 |Ns k b=>exact le_of_ble_eq_true E
 |fG k b a=>exact le_of_ble_eq_true E
 |Ni k b=>exact le_of_ble_eq_true E
 |QU k b last=>
  have e:k=l.q:=h;subst e;obtain⟨es,g1,g2,g3,g4,g5,g6,M⟩:=uU I;obtain⟨s1,s2,s3,O,Z,s6,s7,s8,s9⟩:=J;have hil:=TK O Z s7;have hbl:b.Gs.length=l.at_.toNat+l.Gs.length+if last=true then 1 else 0:=by
   rw[s9];unfold wW;rw[<-s8]
   cases last with
   |true=>simp only[if_true,length_append,length_singleton];omega
   |false=>simp only[Bool.false_eq_true,if_false];omega
  rw[M,length_append,length_map,length_drop]
  cases last with
  |true=>simp only[if_true,length_singleton]at*;omega
  |false=>simp only[Bool.false_eq_true,if_false,length_nil]at*;omega
def alx(O:l.Gs.length<=3)(H:Hnd m n l m'):(m'.ah n).data.length<=(m.ah n).data.length+184:=by
 cases H with
 |same=>omega
 |done a h1 h=>rw[(uV (m:=m)).2.1];omega
 |QM h1=>exact le_add_right _ _
 |part b h1 h I J M Z=>
  rw[(pY (m:=m.ay n l.q b)).2.1,show(m.ay n l.q b).ah n=(m.ah n).ay l.q b from aX _];exact le_add_right _ _
 |Mw p dz d h1 h I J M=>
  rw[aX]
  show d.length<=_
  obtain⟨w1,_,_⟩:=qC J;have Z:=aac h I M O;have h7:=xK (p.rs (m.ah n).bs);rw[w1,length_append];omega
 |Ny h1=>rw[aX];exact le_add_right _ _
def ahi{T S dS K:Nat}(I:QI m q g)(hB:cu m T S dS K)(hn:n<5)(Z:(m.ah n).data.length+46<=100000)(hG:g.G.length<1999):(∃g',QI (m.step n) q g'/\lT g g'/\Dp q g g' m (m.step n))/\((m.step n).ah n).data.length<=(m.ah n).data.length+184:=by
 cases hu:(m.ah n).up with
 |false=>rw[mM hu];exact⟨⟨g,I,.refl g,λ_ h=>h⟩,by omega⟩
 |true=>
  obtain⟨rs,us,M⟩:=(hB.iK n hn).rC hu
  cases hp:(m.ah n).Mw with
  |some p=>
   obtain⟨h1,h2,h3⟩:=M.F6 p hp;obtain⟨_,hf⟩:=iR M.tape M.lg h2 h3;obtain⟨dz,y1,y2,y3,_⟩:=zT E hu hp h3 hf h2;refine⟨TN I hn E hu hp h2,?_⟩;rw[y1,Ee,y3];omega
  |none=>
   have hus:=M.rA hp;subst hus;have hd:(bK rs).length+46<=100000:=by have:=M.data;rw[append_nil]at this;rw[<-this];exact Z
   have key:=oN (n:=n) (λm1=>(O4 m n rs m1/\(m1.ah n).data.length<=(bK rs).length+184)/\ ∃g1,QI m1 q g1/\qg g g1/\((vw m q g.o).Gq=3->(vw m1 q g.o).Gq=3)) (λm1 l r H hp1 hin=>by
    obtain⟨⟨H1,D1⟩,g1,I1,S1,R1⟩:=H;obtain⟨h1,h2,h3,h4⟩:=oO (λl hl=>lF (hB.iP n hn l hl)) H1 hp1 hin;have hl0:l∈(m1.ah n).Md:=by rw[hin];simp
    obtain⟨b1,b2⟩:=hB.iP n hn l (H1.iP l hl0);have O:(m1.put n ((m1.ah n).box r)).ah=Na m1.ah n ((m1.ah n).box r):=rfl;have J:((m1.ah n).box r).view q=(m1.ah n).view q:=rfl;have hvw:=mO O J;have I2:QI (m1.put n ((m1.ah n).box r)) q g1:=I1.far hn O J E E (λx hx=>by rw[hin];exact mem_cons_of_mem _ hx) (λx hx=>.inl hx) E E E;have e0:(m1.put n ((m1.ah n).box r)).ah n=(m1.ah n).box r:=aX _;have hdd:=h2.data;rw[append_nil]at hdd;obtain⟨g2,I3,S3,R3⟩:=Z9 I2 hn (by rw[e0];exact H1.up) h2 (by rw[e0];exact hp1) (λhlq=>by rw[hvw];exact I1.mX l ⟨hlq,.inr ⟨n,hn,hl0⟩⟩) b2 b1.2.2.2 h1.1 (by rw[hdd];exact hd) (by rw[S1.G];exact hG) h3;have D2:=alx b1.2.1 h3;rw[hdd]at D2;refine⟨h1.1,⟨h4,D2⟩,g2,I3,S1.trans S3,λh=>?_⟩;have h9:=R1 h;rw[<-S1.o]at h9⊢;rw[<-hvw]at h9;exact R3 h9) _ m E ⟨⟨BG hu ⟨_,M⟩,by have:=M.data;rw[append_nil]at this;rw[this];omega⟩,g,I,.refl g,id⟩
   obtain⟨⟨H1,D1⟩,g1,I1,S1,R1⟩:=key;have hd0:=congrArg length M.data;rw[append_nil]at hd0;rw[jf hu hp]
   split
   ·obtain⟨I2,e2⟩:=TM I1 hn H1.up;refine⟨⟨g1,I2,S1.next,λ_ h=>by rw[e2];exact R1 h⟩,?_⟩;have e:(((m.more n).jV n).ah n)={ (m.more n).ah n with turn:=((m.more n).ah n).turn+1}:=aX _;rw[e]
    show((m.more n).ah n).data.length<=_
    omega
   exact⟨⟨g1,I1,S1.next,λ_ h=>R1 h⟩,by omega⟩
end
def QIx(m:Cl)(q:Nat)(g:Gh)(ls:List bH):Prop:=QC g (vw m q) (uz m q) (EA m) (λl=>M7 m q l\/(l.q=q/\l∈ls)) (m.off.at q) (zV m q) (zU m q)
def nL{d:QK}{k q:Nat}{p:Pl}(I:k<4)(J:q<4):(d.set k p).at q=if q=k then p else d.at q:=by
 have h1:k=0\/k=1\/k=2\/k=3:=Y;have h:q=0\/q=1\/q=2\/q=3:=Y
 rcases h1 with rfl|rfl|rfl|rfl<;>rcases h with rfl|rfl|rfl|rfl<;>rfl
def Jp{d:QK}{q ep nd:Int}(h:(vX d q ep nd).2=0):(aJ d q).2=0/\0<=nd/\nd<=4/\(aJ d q).1.Mc=ep/\vX d q ep nd=(d.set q.toNat ⟨nd,ep+1⟩,0):=by
 unfold vX at h⊢;by_cases c1:(aJ d q).2≠0
 ·rw[if_pos c1]at h;exact absurd h c1
 rw[if_neg c1]at h⊢;by_cases c2:nd<0\/4<nd
 ·rw[if_pos c2]at h;exact absurd h dQ
 rw[if_neg c2]at h⊢;by_cases c3:(aJ d q).1.Mc≠ep
 ·rw[if_pos c3]at h;exact absurd h dQ
 rw[if_neg c3]at h⊢;by_cases I:(aJ d q).1.node=nd
 ·rw[if_pos I]at h;exact absurd h dQ
 rw[if_neg I]at h⊢;by_cases J:ep=1048576
 ·rw[if_pos J]at h;exact absurd h dQ
 rw[if_neg J];exact⟨Classical.not_not.1 c1,by omega,by omega,Classical.not_not.1 c3,E⟩
section
variable {m m':Cl}{n q:Nat}{g g':Gh}{l:bH}{ls:List bH}{rs us:List cO}{X:Nd}{V:Nat->aU}{P:Nat->Option bS}{U:Nat->Bool}{Lt:bH->Prop}{pl:Pl}{sh:Nat->Int×Int}{sv:List jJ}
def TP(I:QIx m q g (l::ls))(hl:jO l)(hq:q<4):QIx (m.Nk l) q g ls/\vw (m.Nk l) q=vw m q:=by
 have Z:∀ {x:bH},(M7 m q x\/(x.q=q/\x∈ls))->(M7 m q x\/(x.q=q/\x∈l::ls)):=λh=>h.imp id λh=>⟨h.1,mem_cons_of_mem _ h.2⟩;obtain⟨hlq,_,h1|⟨h1,h2,h3,h4⟩|⟨h1,h2,h3⟩,_⟩:=id hl
 ·have e:m.Nk l={m with bL:=m.bL++[l.bL]}:=if_pos h1;rw[e];exact⟨I.ze λx M=>.inl (Z M),E⟩
 ·have key:QC g (vw m q) (uz m q) (EA m) (λx=>M7 m q x\/(x.q=q/\x∈l::ls)) ((dH m.off l).at q) (zV m q) (zU m q):=by
   unfold dH;by_cases c:0<=l.nd/\(vX m.off l.q l.ep l.nd).2=0
   ·rw[if_pos c];obtain⟨f1,f2,f3,f4,f5⟩:=Jp c.2;rw[f5];dsimp only;rw[Int.toNat_natCast,nL hlq hq];by_cases e:q=l.q
    ·rw[if_pos e];obtain⟨_,_,w3⟩:=nK (d:=m.off) (q:=l.q) (λh=>h f1);have w3':(aJ m.off l.q).1=m.off.at q:=by rw[w3,Int.toNat_natCast,e]
     rw[w3']at f4;obtain⟨d,d1,d2,d3⟩:=I.dir;rw[d1]at f4;dsimp only at f4;obtain⟨k,k1,k2,k3,k4⟩:=(I.mX l (.inr ⟨e.symm,mem_cons_self ..⟩)).2.2.1 h4 f2;have hk:k+1=g.m:=Y;rw[hk]at k4;refine I.awE ?_;simp only[Pl.mk.injEq];omega
    rw[if_neg e];exact I
   rw[if_neg c];exact I
  unfold Cl.Nk;rw[if_neg Y,if_pos h1]
  split
  ·rename_i hw
   refine⟨key.ze λx M=>?_,E⟩
   rcases M with⟨x1,J⟩|M
   ·rcases J with J|J
    ·rcases mem_append.1 J with J|J
     ·exact .inl (.inl ⟨x1,.inl J⟩)
     rw[mem_singleton]at J;subst J;refine .inr ?_;have hkd:(lC l.fr l.q (aJ (dH m.off l) l.q).1).kd=6:=rfl;refine⟨λe=>by rw[hkd]at e;omega,λe=>by rw[hkd]at e;omega,λe=>by rw[hkd]at e;omega,λ_=>?_⟩;have x1':l.q=q:=x1;subst x1';obtain⟨_,_,w3⟩:=nK (d:=dH m.off l) (q:=l.q) (λh=>h hw);rw[Int.toNat_natCast]at w3;obtain⟨d,d1,d2,d3⟩:=key.dir
     show ∃k:Nat,(aJ (dH m.off l) l.q).1.Mc=k/\1<=k/\(k:Int)<=((dH m.off l).at l.q).Mc/\((g.own k:Nat):Int)=(aJ (dH m.off l) l.q).1.node
     rw[w3,d1];exact⟨d,E,d2,Int.le_refl _,E⟩
    exact .inl (.inl ⟨x1,.inr J⟩)
   exact .inl (.inr ⟨M.1,mem_cons_of_mem _ M.2⟩)
  exact⟨key.ze λx M=>.inl (Z M),E⟩
 unfold Cl.Nk;rw[if_neg Y,if_neg Y];have hn:l.tg.toNat<5:=Y
 split
 ·rename_i hu
  have O:(m.put l.tg.toNat {m.ah l.tg.toNat with Md:=(m.ah l.tg.toNat).Md++[l]}).ah=Na m.ah l.tg.toNat ((m.ah l.tg.toNat).box ((m.ah l.tg.toNat).Md++[l])):=rfl;have hvw:=mO (q:=q) O E;refine⟨?_,hvw⟩;unfold QIx;rw[hvw,sF O E,mP O E];refine I.ze λx M=>.inl ?_
  rcases M with⟨x1,J⟩|M
  ·rcases J with J|⟨j,hj,J⟩
   ·exact .inl ⟨x1,.inl J⟩
   rw[O]at J;by_cases e:j=l.tg.toNat
   ·subst e;rw[Ee]at J
    rcases mem_append.1 J with J|J
    ·exact .inl ⟨x1,.inr ⟨_,hj,J⟩⟩
    rw[mem_singleton]at J;subst J;exact .inr ⟨x1,mem_cons_self ..⟩
   rw[Kg e]at J;exact .inl ⟨x1,.inr ⟨j,hj,J⟩⟩
  exact .inr ⟨M.1,mem_cons_of_mem _ M.2⟩
 exact⟨I.ze λx M=>.inl (Z M),E⟩
def O9:∀(ls:List bH) {m:Cl},QIx m q g ls->(∀l∈ls,jO l)->q<4->QIx (ls.foldl Cl.Nk m) q g []/\vw (ls.foldl Cl.Nk m) q=vw m q
 |[],m,I,_,_=>⟨I,E⟩
 |l::ls,m,I,h,J=>by
  obtain⟨M,e⟩:=TP I (h l iQ) J;obtain⟨O,Z⟩:=O9 ls M (λx hx=>h x (by simp[hx])) J;exact⟨O,Z.trans e⟩
def Ql:QIx m q g []↔QI m q g:=by
 constructor
 ·intro I;exact I.ze λx J=>.inl (.inl J)
 intro I;exact I.ze λx J=>.inl (J.elim id λh=>by simp at h)
def Qm(I:QI m q g)(M:∀l∈m.Ms,jO l)(O:q<4):QI m.all q g/\vw m.all q=vw m q:=by
 have Z:QIx {m with Ms:=[]} q g m.Ms:=I.ze λx hx=>.inl (by
  rcases hx with⟨J,h⟩|⟨J,h⟩
  ·rcases h with h|h
   ·simp at h
   exact⟨J,.inr h⟩
  exact⟨J,.inl h⟩)
 obtain⟨I1,e⟩:=O9 m.Ms Z M O;exact⟨Ql.1 I1,e⟩
def TQ{at_:Nat}{c s:Bool}(I:QI m q g)(hl:∀l∈m.Ms,jO l)(hq:q<4):QI (m.pick at_ c s) q g/\vw (m.pick at_ c s) q=vw m q:=by
 unfold Cl.pick
 split
 ·exact⟨I,E⟩
 rename_i l hl2
 have hm:=mem_of_getElem? hl2;have O:QIx (if s=true then m else{m with Ms:=m.Ms.eraseIdx (at_ % m.Ms.length)}) q g [l]/\vw (if s=true then m else{m with Ms:=m.Ms.eraseIdx (at_ % m.Ms.length)}) q=vw m q:=by
  split
  ·exact⟨I.ze λx M=>.inl (M.elim id λh=>by have:=h.2;rw[mem_singleton]at this;subst this;exact⟨h.1,.inl hm⟩),E⟩
  exact⟨I.ze λx M=>.inl (by
   rcases M with⟨Z,J⟩|⟨Z,J⟩
   ·rcases J with J|J
    ·exact⟨Z,.inl (mem_of_mem_eraseIdx J)⟩
    exact⟨Z,.inr J⟩
   rw[mem_singleton]at J;subst J;exact⟨Z,.inl hm⟩),E⟩
 dsimp only
 split
 ·obtain⟨I1,e⟩:=TP O.1 (hl l hm) hq;exact⟨Ql.1 I1,e.trans O.2⟩
 exact⟨Ql.1 (O.1.ze λx M=>.inl (M.elim .inl λh=>by simp at h)),O.2⟩
def ahj(I:QI m q g){c:Nat}(M:l.kd=0):QI {m with Ms:=m.Ms++[l],calls:=c} q g/\vw {m with Ms:=m.Ms++[l],calls:=c} q=vw m q:=by
 refine⟨I.ze λx O=>?_,E⟩;obtain⟨J,h⟩:=O
 rcases h with h|h
 ·rcases mem_append.1 h with h|h
  ·exact .inl ⟨J,.inl h⟩
  rw[mem_singleton]at h;subst h;exact .inr (ni (.inl M))
 exact .inl ⟨J,.inr h⟩
def TR{q':Nat}{tg:Int}{T S dS K:Nat}(I:QI m q g)(hB:cu m T S dS K)(hq':q'<4)(hq:q<4):QI (m.move q' tg) q g/\((vw m q g.o).Gq=3->(vw (m.move q' tg) q g.o).Gq=3)/\ ∀n,((m.move q' tg).ah n).data=(m.ah n).data:=by
 unfold Cl.move
 split
 ·exact⟨I,id,λ_=>E⟩
 rename_i h0
 have hw:¬(aJ m.off q').2≠0:=λe=>h0 (.inl e);have hne:¬(aJ m.off q').1.node=tg:=λe=>h0 (.inr (.inl e));obtain⟨hn,aLl,w3⟩:=nK hw;have hu:(m.ah (aJ m.off q').1.node.toNat).up=true:=by
  cases e:(m.ah (aJ m.off q').1.node.toNat).up with
  |true=>rfl
  |false=>exact absurd (.inr (.inr e)) h0
 rw[Int.toNat_natCast]at w3
 split
 ·rename_i h1
  obtain⟨h1,h2⟩:=h1;obtain⟨g1,g2,g3,g4⟩:=go_ok h1;rw[g4]at h2⊢;dsimp only at h2⊢;have hnn:(aJ m.off q').1.node=(((aJ m.off q').1.node.toNat:Nat):Int):=Y;generalize (aJ m.off q').1.node.toNat=n at*;have Jq:(m.ay n q' ⟨2,((m.ah n).bs q').ep,0,tg,0,((m.ah n).bs q').Gs⟩).ah=Na m.ah n ((m.ah n).ay q' ⟨2,((m.ah n).bs q').ep,0,tg,0,((m.ah n).bs q').Gs⟩):=rfl
  suffices hs:QI (m.ay n q' ⟨2,((m.ah n).bs q').ep,0,tg,0,((m.ah n).bs q').Gs⟩) q g/\((vw m q g.o).Gq=3->(vw (m.ay n q' ⟨2,((m.ah n).bs q').ep,0,tg,0,((m.ah n).bs q').Gs⟩) q g.o).Gq=3)from⟨hs.1,hs.2,λj=>by
   rw[Jq];by_cases e:j=n
   ·subst e;rw[Ee];rfl
   rw[Kg e]⟩
  by_cases e:q'=q
  ·subst e;have hV:=gK (q:=q') hu;have ho:=I.oEp hn (by rw[hV];exact .inl g1);have fO:((m.ah n).bs q').ep=g.m:=by rw[<-hV,ho];exact I.ru
   have MU:((m.ah n).ay q' ⟨2,((m.ah n).bs q').ep,0,tg,0,((m.ah n).bs q').Gs⟩).view q'=⟨2,((m.ah n).bs q').ep,0,tg,0,((m.ah n).bs q').Gs⟩:=by rw[dK (X:=(m.ah n).ay q' _) hu];exact Ee _ _ _
   have hvw:vw (m.ay n q' ⟨2,((m.ah n).bs q').ep,0,tg,0,((m.ah n).bs q').Gs⟩) q'=Na (vw m q') n ⟨2,((m.ah n).bs q').ep,0,tg,0,((m.ah n).bs q').Gs⟩:=by rw[p8 Jq,MU]
   have ac0:((m.ah n).bs q').ep=(m.off.at q').Mc:=by rw[<-w3];exact h2
   have I2:QC g (Na (vw m q') g.o ⟨2,((m.ah n).bs q').ep,0,tg,0,((m.ah n).bs q').Gs⟩) (uz m q') (EA m) (M7 m q') (m.off.at q') (zV m q') (zU m q'):=by
    refine QC.acp I (λp hp=>?_) ?_ ?_ ?_ ?_ ?_ ?_
    ·obtain⟨_,hk⟩:=I.lu g.o I.o5 p hp;rw[<-ho]at hk⊢
     cases p with
     |serve k Gs op num a=>
      obtain⟨k1,k2,k3⟩:=hk;exact⟨k1,by rw[Ee];exact .inr E,k3⟩
     |Ns k b=>obtain⟨_,_,_,_,k4,_⟩:=hk;rw[hV]at k4;exfalso;omega
     |QU k b last=>have:=hk.1;rw[hV]at this;exfalso;omega
     |fG k b a=>have:=hk.2.1;rw[hV]at this;exfalso;omega
     |Ni k b=>have:=hk.1;rw[hV]at this;exfalso;omega
    ·exact fO
    ·show((m.ah n).bs q').Gs=_;rw[<-hV,ho];exact I.uy
    ·exact .inr (.inl E)
    ·intro _;refine⟨by rw[<-ac0];exact fO,?_,g2,by show tg<5;omega⟩
     show ¬tg=(g.o:Int)
     rw[<-ho,<-hnn];exact λe=>hne e.symm
    ·intro h;rw[<-ho,hV]at h;omega
    intro h;exact absurd (show(2:Int)=3 from h) dQ
   rw[<-ho]at I2;exact⟨QI.mk' I2 hvw (sF Jq E) (mP Jq E) (xJ Jq (λ_ h=>h) hn E) E E E,λh=>by rw[<-ho,hV]at h;omega⟩
  have MU:((m.ah n).ay q' ⟨2,((m.ah n).bs q').ep,0,tg,0,((m.ah n).bs q').Gs⟩).view q=(m.ah n).view q:=by
   rw[dK (X:=(m.ah n).ay q' _) hu,dK hu];exact Kg (λh=>e h.symm)
  exact⟨I.far hn Jq MU E E (λ_ h=>h) (λx hx=>.inl hx) E E E,by rw[mO Jq MU];exact id⟩
 exact⟨I,id,λ_=>E⟩
def QC.au1(I:QC g V P U Lt pl sh sv)(hn:n<5)(O:P n=none):QC g (Na V n (jq (V n))) P U Lt pl sh sv:=by
 by_cases M:(V n).Gq=2
 ·have Z:=I.oEp hn (.inr M);subst Z;have e:jq (V g.o)=⟨1,(V g.o).ep,0,0,0,(V g.o).Gs⟩:=by unfold jq;rw[if_pos M]
  rw[e];exact I.acp (λp J=>by rw[O]at J;cases J) I.ru I.uy (.inl E) (λh=>absurd E h) (λh=>by omega) λh=>absurd (show(1:Int)=3 from h) dQ
 rw[kI M,aB E];exact I
def QC.Q0{bs:Nat->aU}{x:aU}(I:QC g V P U Lt pl sh sv)(hn:n<5)(hV:V n=bs q)(hr2:∀p,P n=some p->p.q=q)(Z:x=jq (bs q)\/ ∃p,P n=some p/\p.q=q/\MR bs p x):
 ∃g',QC g' (Na V n x) (Na P n none) (Na U n false) Lt pl sh sv/\lT g g'/\(g'.m=g.m->(V g.o).Gq=3->(Na V n x g.o).Gq=3):=by
 have I1:=I.down n;have O:(Na P n none) n=none:=Ee _ _ _;have J:∀ {y:aU},((V n).Gq=3->y.Gq=3)->((V g.o).Gq=3->(Na V n y g.o).Gq=3):=λ{y} h h2=>by
  by_cases e:g.o=n
  ·rw[e]at h2⊢;rw[Ee];exact h h2
  rw[Kg e];exact h2
 have au2:∃g',QC g' (Na V n (jq (bs q))) (Na P n none) (Na U n false) Lt pl sh sv/\lT g g'/\(g'.m=g.m->(V g.o).Gq=3->(Na V n (jq (bs q)) g.o).Gq=3):=by
  rw[<-hV];exact⟨g,I1.au1 hn O,.refl g,λ_=>J λh=>by rw[kI Y];exact h⟩
 rcases Z with Z|⟨p,hp,hq,Z⟩
 ·rw[Z];exact au2
 obtain⟨hu,hk⟩:=I.lu n hn p hp
 rcases Z with Z|Z|⟨k,b,last,j,h1,Z,h3⟩
 ·rw[Z,hq];exact au2
 ·cases p with
  |serve k Gs op num a=>
   have e:k=q:=hq;subst e;obtain⟨k1,k2,k3,k4,k5⟩:=hk;obtain⟨t1,t2,t3⟩:=I.MS (by rw[<-k1];exact hu);have hr3:(V n).Gq≠3:=by unfold Nl at k2;omega
   have M:x=jq {V n with Gs:=Gs}:=by rw[Z,hV];rfl
   have I2:QC (g.app op) (Na V n {V n with Gs:=Gs}) (Na P n none) (Na U n false) Lt pl sh sv:=by
    subst k1;exact I1.append (e:=op) (b:={V g.o with Gs:=Gs}) O (Ee _ _ _) hr3 t1 (by rw[<-k3];exact k5) E E E k3
   have I3:=I2.au1 hn O;rw[Ee,qU,<-M]at I3;exact⟨_,I3,⟨Nat.le_refl _,λ_ _=>E,by show(g.G++[op]).length<=_;simp⟩,λ_=>J λh=>absurd h hr3⟩
  |Ns k b=>
   obtain⟨j,j1,j2,j3,j4,j5⟩:=hk;have M:x=b:=by rw[Z];show jq b=b;rw[j1];exact Jo (.inl E)
   have I2:=I1.Sq (b:=b) hn (I.oJ j4) O (by rw[j1];exact I.O8 j2 j3 j5) (by rw[j1];show _<=(j:Int)+1;omega);rw[M];exact⟨g,I2,.refl g,λ_=>J λh=>by omega⟩
  |QU k b last=>
   obtain⟨j1,j2,j3⟩:=hk
   cases last with
   |true=>
    obtain⟨a1,a2,a3,a4,a5⟩:=j3 E;have M:x=⟨1,(g.m:Int)+1,0,0,0,g.G++[aF]⟩:=by rw[Z];show jq b=_;rw[a4];rfl
    have I2:=I1.activate (T:=n) a2 a3 O (Ee _ _ _) a5 (by rw[a1];exact Int.le_refl _);rw[M];exact⟨_,I2,⟨by show g.m<=g.m+1;omega,λk hk=>Kg Y,by show(g.G++[aF]).length<=_;simp⟩,λh=>by
     have:g.m+1=g.m:=h;omega⟩
   |false=>
    obtain⟨j,a1,a2,a3⟩:=j2 E;have M:x=b:=by rw[Z];show jq b=b;rw[a1];exact Jo (.inl j1)
    have I2:=I1.Sq (b:=b) hn (I.oJ (.inr j1)) O (by rw[a1];exact I.KI hn j1 a3) (by rw[a1];exact Int.le_refl _);rw[M];exact⟨g,I2,.refl g,λ_=>J λh=>by omega⟩
  |fG k b at_=>
   obtain⟨ho,j1,j2⟩:=hk;obtain⟨t1,t2,t3⟩:=I.MS (by rw[<-ho];exact hu);have Xp:=I.Ru (by rw[<-ho];omega);have M:x=b:=by rw[Z];show jq b=b;rw[j2];exact Jo (.inr (.inr (.inl E)))
   have I2:QC g (Na V g.o b) (Na P n none) (Na U n false) Lt pl sh sv:=by
    refine QC.acp I1 (λp' hp'=>?_) ?_ ?_ ?_ ?_ ?_ λ_=>t2
    ·rw[<-ho,Ee]at hp';cases hp'
    ·rw[j2,ho];exact I.ru
    ·rw[j2,ho];exact I.uy
    ·rw[j2];exact .inr (.inr E)
    ·intro _;rw[j2,ho];exact Xp
    intro h;rw[<-ho]at h;omega
   rw[<-ho]at I2;rw[M];exact⟨g,I2,.refl g,λ_=>J λ_=>by rw[j2]⟩
  |Ni k b=>
   obtain⟨j1,j2,j3⟩:=hk;obtain⟨hne,hoth⟩:=I.LJ hn j1 j3;have M:x=b:=by rw[Z];show jq b=b;rw[j2];exact Jo (.inr (.inl E))
   have I2:=I1.Sq (b:=b) hn hne O (by rw[j2];exact hoth) (by rw[j2];exact Int.le_refl _);rw[M];refine⟨g,I2,.refl g,λ_ h=>?_⟩;rw[Kg (λe=>hne e.symm)];exact h
 subst h1;have e:k=q:=hq;subst e;obtain⟨j1,j2,j3⟩:=hk;have hev:∃i,b.Gs.take ((bs k).Gs.length+j)=g.G.take i/\ ∀k':Nat,(V n).ep=(k':Int)+1->i<=g.bd k':=by
  cases last with
  |true=>
   obtain⟨a1,a2,a3,a4,a5⟩:=j3 E;have hb:b.Gs=g.G++[aF]:=by rw[a4]
   simp only[if_true]at h3;rw[hb,length_append,length_singleton]at h3;refine⟨(bs k).Gs.length+j,by rw[hb,qA Y],λk' hk'=>?_⟩;have:k'=g.m:=Y;subst this;unfold Gh.bd;rw[if_pos E];omega
  |false=>
   obtain⟨i,a1,a2,a3⟩:=j2 E;have hb:b.Gs=g.G.take i:=by rw[a1]
   refine⟨min ((bs k).Gs.length+j) i,by rw[hb,take_take],λk' hk'=>Nat.le_trans (Nat.min_le_right _ _) (a3 k' hk')⟩
 obtain⟨i,e1,e2⟩:=hev;have M:x={V n with Gs:=g.G.take i}:=by rw[Z,e1,hV]
 have I2:=I1.Sq (b:={V n with Gs:=g.G.take i}) hn (I.oJ (.inr j1)) O (I.KI hn j1 e2) (Int.le_refl _);rw[M];exact⟨g,I2,.refl g,λ_=>J λh=>by omega⟩
def ac8{keep:Int}{T S dS K:Nat}(I:QI m q g)(hB:cu m T S dS K)(hn:n<5)(hq:q<4)(hk:0<=keep):(∃g',QI (m.Q0 n keep) q g'/\lT g g'/\Dp q g g' m (m.Q0 n keep))/\ ∀j,((m.Q0 n keep).ah j).data.length<=(m.ah j).data.length:=by
 unfold Cl.Q0
 split
 ·rename_i hu
  change (∃g',QI (m.put n ((m.ah n).Nn keep)) q g'/\lT g g'/\Dp q g g' m (m.put n ((m.ah n).Nn keep)))/\ ∀j,((m.put n ((m.ah n).Nn keep)).ah j).data.length<=(m.ah j).data.length;obtain⟨rs,us,hU⟩:=(hB.iK n hn).rC hu;obtain⟨rs',t,f,hd,hf⟩:=Fe hU hk;have J:(m.put n ((m.ah n).Nn keep)).ah=Na m.ah n ((m.ah n).Nn keep):=rfl;have O:((m.ah n).Nn keep).view q=f q:=hd.view E hq;have hV:=gK (q:=q) hu;have hP:∀p,uz m q n=some p->(m.ah n).Mw=some p/\p.q=q:=λp M=>by
   unfold uz at M
   cases e:(m.ah n).Mw with
   |none=>rw[e]at M;cases M
   |some p'=>
    rw[e]at M;unfold pq at M;dsimp only at M
    split at M
    ·cases M;exact⟨E,by assumption⟩
    cases M
  obtain⟨g',I2,N2,R2⟩:=QC.Q0 I hn hV (λp M=>(hP p M).2) (x:=f q) (by
   rcases hf q hq with h|⟨p,h1,h2,h3⟩
   ·exact .inl h
   exact .inr ⟨p,by unfold uz;rw[h1];exact Gb h2,h2,h3⟩)
  have Z:vw (m.put n ((m.ah n).Nn keep)) q=Na (vw m q) n (f q):=by rw[p8 J,O]
  refine⟨⟨g',QI.mk' I2 Z (by rw[tV J];rfl) (by rw[Wo J];rfl) (xJ J (λx hx=>by cases hx) hn E) E E E,N2,λh1 h2=>by
   have:=R2 h1 h2;rw[<-Z]at this;exact this⟩,λj=>?_⟩
  show((m.put n ((m.ah n).Nn keep)).ah j).data.length<=_
  rw[J];by_cases e:j=n
  ·subst e;rw[Ee]
   show(nG _ _ _).1.length<=_
   unfold nG
   split
   ·split
    ·simp
    split
    ·simp
    simp;omega
   simp
  rw[Kg e];exact Nat.le_refl _
 exact⟨⟨g,I,.refl g,λ_ h=>h⟩,λ_=>Nat.le_refl _⟩
end
section
variable {m m':Cl}{n q:Nat}{g g':Gh}{V:Nat->aU}{P:Nat->Option bS}{U:Nat->Bool}{Lt:bH->Prop}{pl:Pl}{sh:Nat->Int×Int}{sv:List jJ}
def Au(n q:Nat)(ep:Int)(Gs:List Ev)(an:List iW)(i:Nat):jJ:=⟨n,q,ep,Gs.getD i aI,an.getD i eU,-1⟩
def zF{Gs:List Ev}{an:List iW}:∀(il:List Nat) (m:Cl),m.recovered n q Gs an il=
  {m with aP:=m.aP++il.map (Au n q ((m.ah n).bs q).ep Gs an),MG:=if il=[]then m.MG else iD m.MG n q (((m.ah n).bs q).ep,(((m.ah n).bs q).Gs.length:Int))}
 |[],m=>by simp[Cl.recovered]
 |i::r,m=>by
  rw[Cl.recovered,zF r];have e:∀(s:Nat->Nat->Int×Int) (p:Int×Int),iD (iD s n q p) n q p=iD s n q p:=λs p=>by
   funext a b
   unfold iD
   split<;>rfl
  unfold Cl.QL;dsimp only;rw[if_neg (by simp:¬i::r=[]),map_cons,append_assoc]
  congr 1
  split
  ·rfl
  exact e _ _
def aly{ep:Int}{Gs:List Ev}{an:List iW}{q':Nat}(il:List Nat):(il.map (Au n q' ep Gs an)).filter (λs=>decide (s.q=q))=if q'=q then il.map (Au n q' ep Gs an)else[]:=by
 by_cases e:q'=q
 ·rw[if_pos e];refine filter_eq_self.2 λs hs=>?_;obtain⟨i,_,rfl⟩:=mem_map.1 hs;simp[Au,e]
 rw[if_neg e];refine filter_eq_nil_iff.2 λs hs=>?_;obtain⟨i,_,rfl⟩:=mem_map.1 hs;simp[Au,e]
def TS{G:List Ev}{ep:Int}(J:QJ G):∀(d F:Nat) {sv:List jJ},F+d=G.length->rp dV sv=some (av (G.take F)).1->rp dV (sv++((range G.length).drop F).map (Au n q ep G (av G).2.1))=some (av G).1
 | 0,F,sv,M,h=>by
  rw[Nat.add_zero]at M;rw[drop_of_length_le (by rw[length_range];omega),map_nil,append_nil,h,M,take_length]
 |d+1,F,sv,M,h=>by
  have I:F<G.length:=Y;have O:F< (range G.length).length:=by rw[length_range];exact I
  rw[drop_eq_getElem_cons O,getElem_range,map_cons];rw[show sv++Au n q ep G (av G).2.1 F::((range G.length).drop (F+1)).map (Au n q ep G (av G).2.1)=(sv++[Au n q ep G (av G).2.1 F])++((range G.length).drop (F+1)).map (Au n q ep G (av G).2.1) by rw[append_assoc];rfl];refine TS J d (F+1) Y ?_;have hs:=nY I;have Z:QJ (G.take F++[G[F]]):=by rw[<-hs];exact nX J
  obtain⟨s1,s2,s3⟩:=Ra Z;have ha:=Tx _ E J F I;have e1:(Au n q ep G (av G).2.1 F).op=G[F]:=by
   show G.getD F aI=_
   rw[getD_eq_getElem?_getD,getElem?_eq_getElem I];rfl
  have e2:(Au n q ep G (av G).2.1 F).Rf=(iO (av (G.take F)).1 G[F]).2.1:=by
   show(av G).2.1.getD F eU=_
   rw[getD_eq_getElem?_getD,ha];rfl
  rw[Er h (by rw[e1];exact s1) (by rw[e1,e2]),e1,hs,s3]
def QD(m:Cl)(q:Nat)(g:Gh)(n:Nat):Prop:=QC g (vw m q) (uz m q) (Na (EA m) n false) (M7 m q) (m.off.at q) (zV m q) (zU m q)
noncomputable def vZ(n:Nat)(bs:Nat->aU)(m:Cl)(q:Nat):Cl:=if (bs q).Gq≠1 then m else((m.recover n q).ay n q (dL (bs q)).1).QL n q aF eU (-1)
def Ea{bs:Nat->aU}:∀(h:List Nat) (m:Cl),Cl.QG n bs h m=h.foldl (vZ n bs) m
 |[],m=>rfl
 |q::r,m=>by
  rw[Cl.QG,foldl_cons];unfold vZ
  split
  ·exact Ea r m
  exact Ea r _
structure W1 (m m':Cl)(n q':Nat):Prop where
 ah:∃b,m'.ah=Na m.ah n {m.ah n with bs:=Na (m.ah n).bs q' b}
 Ms:m'.Ms=m.Ms
 off:m'.off=m.off
 sh:∀q,q'≠q->zV m' q=zV m q
 sv:∀q,q'≠q->zU m' q=zU m q
def LK(m:Cl)(n q':Nat):∃I p,m.recover n q'={m with aP:=m.aP++I,MG:=p}/\(∀s∈I,s.q=q')/\ ∀a b,b≠q'->p a b=m.MG a b:=by
 unfold Cl.recover
 split
 ·exact⟨_,_,E,λs hs=>by rw[mem_singleton]at hs;subst hs;rfl,λa b h=>by unfold iD;rw[if_neg (λe=>h e.2)]⟩
 rw[zF];refine⟨_,_,E,λs hs=>?_,λa b h=>?_⟩
 ·obtain⟨i,_,rfl⟩:=mem_map.1 hs;rfl
 split
 ·rfl
 unfold iD;rw[if_neg (λe=>h e.2)]
def ac9{I:List jJ}{q':Nat}(h:∀s∈I,s.q=q')(J:q'≠q):I.filter (λs=>decide (s.q=q))=[]:=filter_eq_nil_iff.2 λs hs=>by rw[h s hs];simp[J]
def Fg{bs:Nat->aU}(m:Cl)(n q':Nat):W1 m (vZ n bs m q') n q':=by
 unfold vZ
 split
 ·exact⟨⟨(m.ah n).bs q',by rw[aB (f:=(m.ah n).bs) E];exact Ba⟩,E,E,λ_ _=>E,λ_ _=>E⟩
 obtain⟨I,p,e,h1,J⟩:=LK m n q';rw[e];refine⟨⟨(dL (bs q')).1,E⟩,E,E,λq h=>?_,λq h=>?_⟩
 ·show(λj=>iD p n q' _ j q)=_
  rw[O7 h]
  funext j
  exact J j q (λe=>h e.symm)
 show((m.aP++I)++_).filter _=_
 rw[tX,if_neg h,append_nil,filter_append,ac9 h1 h,append_nil];rfl
def QD.far(I:QD m q g n)(hn:n<5)(hu:(m.ah n).up=true){q':Nat}(Z:q'≠q)(W:W1 m m' n q'):QD m' q g n/\vw m' q=vw m q/\(m'.ah n).up=true/\(m'.ah n).bs q=(m.ah n).bs q/\(m'.ah n).Mw=(m.ah n).Mw:=by
 obtain⟨b,J⟩:=W.ah;have M:({m.ah n with bs:=Na (m.ah n).bs q' b}:Nd).view q=(m.ah n).view q:=by
  rw[dK (X:={m.ah n with bs:=Na (m.ah n).bs q' b}) hu,dK hu];exact Kg (λe=>Z e.symm)
 have O:=mO J M;have hun:EA m'=EA m:=mP J E;refine⟨?_,O,by rw[J,Ee];exact hu,by rw[J,Ee];exact Kg (λe=>Z e.symm),by rw[J,Ee]⟩;unfold QD;rw[O,sF J E,hun,W.off,W.sh q Z,W.sv q Z];exact I.ze λx hx=>by
  obtain⟨x1,h⟩:=hx
  rcases h with h|⟨j,hj,h⟩
  ·rw[W.Ms]at h;exact .inl ⟨x1,.inl h⟩
  rw[J]at h;by_cases e:j=n
  ·subst e;rw[Ee]at h;exact .inl ⟨x1,.inr ⟨j,hj,h⟩⟩
  rw[Kg e]at h;exact .inl ⟨x1,.inr ⟨j,hj,h⟩⟩
def QD.aDd(I:QD m q g n)(hn:n<5)(hu:(m.ah n).up=true)(hr:((m.ah n).bs q).Gq=1):QD (m.recover n q) q g.all n/\n=g.o/\(m.recover n q).ah=m.ah:=by
 have hV:=gK (q:=q) hu;have J:n=g.o:=I.oEp hn (by rw[hV];exact .inl hr);have fO:((m.ah n).bs q).ep=g.m:=by rw[<-hV,J];exact I.ru
 have M:((m.ah n).bs q).Gs=g.G:=by rw[<-hV,J];exact I.uy
 refine⟨?_,J,?_⟩
 ·unfold Cl.recover;by_cases c:(m.MG n q).1≠((m.ah n).bs q).ep
  ·rw[if_pos c];have ht:¬g.t=g.m:=λe=>by
    rcases I.LB with⟨_,h,_⟩|⟨h,_⟩
    ·apply c;have h':m.MG g.o q=_:=h;rw[fO,J,h']
    omega
   have I2:=I.Z4 ht (s:=⟨n,q,g.m,aF,eU,-1⟩) E E E J;unfold QD;have e1:zV (m.QL n q aF eU (-1)) q=Na (zV m q) g.o ((g.m:Int),(g.G.length:Int)):=by
    show(λj=>iD m.MG n q _ j q)=_
    rw[Ga,fO,M,J];rfl
   have e2:zU (m.QL n q aF eU (-1)) q=zU m q++[⟨n,q,g.m,aF,eU,-1⟩]:=by
    show(m.aP++_).filter _=_
    rw[tX,if_pos E,fO];rfl
   rw[e1,e2];exact I2
  rw[if_neg c,zF,fO,M];have c':(m.MG n q).1=((m.ah n).bs q).ep:=Classical.not_not.1 c
  rcases I.LB with⟨h1,h2,h3⟩|⟨_,h2,_⟩
  ·have O:m.MG n q=((g.m:Int),(g.F:Int)):=by rw[J];exact h2
   rw[O];dsimp only;rw[Int.toNat_natCast];have hrp:=TS (n:=n) (q:=q) (ep:=(g.m:Int)) I.gd (g.G.length-g.F) g.F Y I.rps;have I2:=I.told h1 hrp λs hs=>by
    obtain⟨i,_,rfl⟩:=mem_map.1 hs;exact⟨E,J⟩
   unfold QD;have e2:zU {m with aP:=m.aP++((range g.G.length).drop g.F).map (Au n q (g.m:Int) g.G (av g.G).2.1),MG:=if (range g.G.length).drop g.F=[]then m.MG else iD m.MG n q ((g.m:Int),(g.G.length:Int))} q=zU m q++((range g.G.length).drop g.F).map (Au n q (g.m:Int) g.G (av g.G).2.1):=by
    show(m.aP++_).filter _=_
    rw[filter_append,aly,if_pos E];rfl
   have e1:zV {m with aP:=m.aP++((range g.G.length).drop g.F).map (Au n q (g.m:Int) g.G (av g.G).2.1),MG:=if (range g.G.length).drop g.F=[]then m.MG else iD m.MG n q ((g.m:Int),(g.G.length:Int))} q=Na (zV m q) g.o ((g.m:Int),(g.G.length:Int)):=by
    unfold zV;dsimp only
    split
    ·rename_i Z
     have:=congrArg length Z;rw[length_drop,length_range,length_nil]at this;refine(aB ?_).symm;rw[<-J,O];have:g.F=g.G.length:=Y;rw[this]
    rw[Ga,J]
   rw[e1,e2];exact I2
  exfalso
  have h2':(m.MG g.o q).1<g.m:=h2;rw[<-J,c',fO]at h2';omega
 obtain⟨ss,p,e,_,_⟩:=LK m n q;rw[e]
def QD.near{bs:Nat->aU}(I:QD m q g n)(hn:n<5)(hu:(m.ah n).up=true)(hp:(m.ah n).Mw=none)(hb:(m.ah n).bs q=bs q)(hr:(bs q).Gq=1)(hw:dL (bs q)=(iE (bs q),0))(hf:au (iE (bs q))=0)(hfb:au (bs q)=0):
 ∃g',QD (vZ n bs m q) q g' n/\lT g g'/\g'.m=g.m/\g'.o=n/\n=g.o/\g'.t=g'.m/\g'.F=g'.G.length:=by
 obtain⟨I1,O,J⟩:=I.aDd hn hu (by rw[hb];exact hr);have hV1:vw (m.recover n q) q n=bs q:=by
  unfold vw;rw[J,dK hu];exact hb
 have au3:vw (m.recover n q) q g.o=bs q:=by rw[<-hV1];congr 1;exact O.symm
 have fO:(bs q).ep=g.m:=by rw[<-au3];exact I1.ru
 have hev:(bs q).Gs=g.G:=by rw[<-au3];exact I1.uy
 have hgd:QJ (g.G++[aF]):=by have:=(eT hf).2;unfold iE at this;rw[hev]at this;exact this
 have hs:=eO hfb;unfold bq at hs;have AU:(bs q).tg=0:=Y;have hpn:uz (m.recover n q) q g.all.o=none:=by
  show pq q ((m.recover n q).ah g.o).Mw=none
  rw[J,<-O,hp];rfl
 have huf:Na (EA (m.recover n q)) n false g.all.o=false:=by show Na _ n false g.o=false;rw[<-O];exact Ee _ _ _
 have Z:vw (m.recover n q) q g.all.o=bs q:=by show vw (m.recover n q) q g.o=_;rw[<-O];exact hV1
 have I2:=QC.append (e:=aF) (b:=iE (bs q)) I1 hpn huf (by rw[Z];omega) E hgd (by rw[Z];rfl) (by rw[Z];exact hr.symm) (by rw[Z];exact AU.symm) (by show(bs q).Gs++[aF]=_;rw[hev];rfl);obtain⟨s1,s2,s3⟩:=Ra hgd;have aDe:rp dV (zU (m.recover n q) q)=some (av g.G).1:=by
  have:=I1.rps;rwa [show g.all.G.take g.all.F=g.G from take_length]at this
 have I3:=I2.told (sv2:=[⟨n,q,g.m,aF,eU,-1⟩]) E (by rw[Er aDe s1 (ae7 s2)];show _=some (av (g.G++[aF])).1;rw[s3]) λs hs=>by rw[mem_singleton]at hs;subst hs;exact⟨E,O⟩
 refine⟨(g.all.app aF).all,?_,⟨Nat.le_refl _,λ_ _=>E,by show(g.G++[aF]).length<=_;simp⟩,E,O.symm,O,E,E⟩;unfold vZ;rw[if_neg (λh=>h hr),hw];have M:(((m.recover n q).ay n q (iE (bs q))).QL n q aF eU (-1)).ah=Na (m.recover n q).ah n (((m.recover n q).ah n).ay q (iE (bs q))):=rfl;have hur:((m.recover n q).ah n).up=true:=by rw[J];exact hu
 have MU:(((m.recover n q).ah n).ay q (iE (bs q))).view q=iE (bs q):=by rw[dK (X:=((m.recover n q).ah n).ay q _) hur];exact Ee _ _ _
 have e0:(((m.recover n q).ay n q (iE (bs q))).ah n).bs q=iE (bs q):=by
  show((Na (m.recover n q).ah n _) n).bs q=_
  rw[Ee];exact Ee _ _ _
 unfold QD;have e1:zV (((m.recover n q).ay n q (iE (bs q))).QL n q aF eU (-1)) q=Na (zV (m.recover n q) q) g.o ((g.m:Int),((g.G++[aF]).length:Int)):=by
  show(λj=>iD (m.recover n q).MG n q _ j q)=_
  rw[Ga,e0]
  show Na _ n ((bs q).ep,((((bs q).Gs++[aF]).length:Nat):Int))=_
  rw[fO,hev,O];rfl
 have e2:zU (((m.recover n q).ay n q (iE (bs q))).QL n q aF eU (-1)) q=zU (m.recover n q) q++[⟨n,q,g.m,aF,eU,-1⟩]:=by
  show((m.recover n q).aP++_).filter _=_
  rw[tX,if_pos E,e0]
  show _++[(⟨n,q,(bs q).ep,aF,eU,-1⟩:jJ)]=_
  rw[fO];rfl
 have e3:vw (((m.recover n q).ay n q (iE (bs q))).QL n q aF eU (-1)) q=Na (vw (m.recover n q) q) g.all.o (iE (bs q)):=by
  rw[p8 M,MU]
  show Na _ n _=Na _ g.o _
  rw[<-O]
 rw[e1,e2,e3,sF M E,mP M E];exact I3.ze λx hx=>by
  obtain⟨x1,x2⟩:=hx
  rcases x2 with x2|⟨j,hj,x2⟩
  ·exact .inl ⟨x1,.inl x2⟩
  rw[M]at x2;by_cases e:j=n
  ·subst e;rw[Ee]at x2;exact .inl ⟨x1,.inr ⟨j,hj,x2⟩⟩
  rw[Kg e]at x2;exact .inl ⟨x1,.inr ⟨j,hj,x2⟩⟩
def TU{bs:Nat->aU}(hn:n<5):∀(h:List Nat) {m:Cl},QD m q g n->(m.ah n).up=true->q ∉ h->QD (h.foldl (vZ n bs) m) q g n/\vw (h.foldl (vZ n bs) m) q=vw m q
 |[],m,I,_,_=>⟨I,E⟩
 |q'::r,m,I,M,J=>by
  rw[mem_cons,not_or]at J;obtain⟨O,Z,h1,_,_⟩:=I.far hn M (λe=>J.1 e.symm) (Fg (bs:=bs) m n q');obtain⟨I2,e2⟩:=TU hn r O h1 J.2;exact⟨I2,e2.trans Z⟩
def Pb{bs:Nat->aU}(hn:n<5)(hr:(bs q).Gq=1)(hw:dL (bs q)=(iE (bs q),0))(hf:au (iE (bs q))=0)(J:au (bs q)=0):∀(M:List Nat) {m:Cl},QD m q g n->(m.ah n).up=true->(m.ah n).Mw=none->(m.ah n).bs q=bs q->q∈M->M.Nodup->
  ∃g',QD (M.foldl (vZ n bs) m) q g' n/\lT g g'/\g'.m=g.m/\g'.o=n/\n=g.o/\g'.t=g'.m/\g'.F=g'.G.length
 |[],m,_,_,_,_,O,_=>by simp at O
 |q'::r,m,I,Z,hp,hb,O,hnd=>by
  obtain⟨h1,h2⟩:=nodup_cons.1 hnd;rw[foldl_cons];by_cases e:q'=q
  ·subst e;obtain⟨g',I1,N1,k1,k2,k3,k4,k5⟩:=I.near hn Z hp hb hr hw hf J;obtain⟨b,hW⟩:=(Fg (bs:=bs) m n q').ah;have hu1:((vZ n bs m q').ah n).up=true:=by rw[hW,Ee];exact Z
   obtain⟨I2,_⟩:=TU hn r I1 hu1 h1;exact⟨g',I2,N1,k1,k2,k3,k4,k5⟩
  have hq':q∈r:=by
   rcases mem_cons.1 O with h|h
   ·exact absurd h.symm e
   exact h
  obtain⟨I1,e1,u1,b1,p1⟩:=I.far hn Z e (Fg (bs:=bs) m n q');exact Pb hn hr hw hf J r I1 u1 (p1.trans hp) (b1.trans hb) hq' h2
def KJ{s:Int}{f:Nat->aU}:∀(I:List Nat) {d d':List UInt8},eG s f I d=some d'->d'.length<=d.length+46*I.length
 |[],d,d',h=>by cases h;simp
 |q::r,d,d',h=>by
  rw[eG]at h;rw[length_cons]
  split at h
  ·have:=KJ r h;omega
  split at h
  ·cases h
  split at h
  ·cases h
  rename_i O hw
  obtain⟨J,_,_⟩:=qC hw;have h1:=KJ r h;have M:=xK [fH 2 q (f q).ep 0 aF];rw[J,length_append]at h1;simp only[length_cons,length_nil]at M;omega
def ada{T S dS K:Nat}(I:QI m q g)(hB:cu m T S dS K)(hn:n<5)(hq:q<4):(∃g',QI (m.start n) q g'/\lT g g'/\Dp q g g' m (m.start n))/\ ∀j,((m.start n).ah j).data.length<=(m.ah j).data.length+184:=by
 rcases sZ (hB.iK n hn)with⟨_,e⟩|⟨hu,rs,t,f,hd,e|⟨ws,e1,e2,e3,W,e5,e6,e7⟩⟩
 ·rw[e];exact⟨⟨g,I,.refl g,λ_ h=>h⟩,λ_=>le_add_right _ _⟩
 ·rw[e];exact⟨⟨g,I,.refl g,λ_ h=>h⟩,λ_=>le_add_right _ _⟩
 have hin:q∈[0,1,2,3]:=by
  have h:q=0\/q=1\/q=2\/q=3:=Y
  rcases h with rfl|rfl|rfl|rfl<;>decide
 have Z:=hd.rd.2.2 q hq;have Ws:vw m q n=f q:=hd.view hu hq;obtain⟨hfb,hr2⟩:=hd.lg q hq;obtain⟨m1,O⟩:∃m1,m1=m.put n { (m.ah n).blank with up:=true,data:=bK (rs++ws),MC:=(bK (rs++ws)).length,bs:=bD (m.ah n).data (m.ah n).MC}:=⟨_,E⟩;have J:m1.ah=Na m.ah n { (m.ah n).blank with up:=true,data:=bK (rs++ws),MC:=(bK (rs++ws)).length,bs:=bD (m.ah n).data (m.ah n).MC}:=by rw[O];rfl
 have arN:({ (m.ah n).blank with up:=true,data:=bK (rs++ws),MC:=(bK (rs++ws)).length,bs:=bD (m.ah n).data (m.ah n).MC}:Nd).view q=(m.ah n).view q:=by
  rw[dK E];unfold Nd.view;rw[if_neg (by rw[hu];simp)]
 have aoR:=mO J arN;have aDf:uz m1 q=uz m q:=sF J (by rw[hd.lu];rfl);have aDg:Na (EA m1) n false=EA m:=by rw[Wo J,qU];exact aB hu
 have I1:QD m1 q g n:=by
  unfold QD;rw[aoR,aDf,aDg];have hoff:m1.off=m.off:=by rw[O];rfl
  have hsh:zV m1 q=zV m q:=by rw[O];rfl
  have hsv:zU m1 q=zU m q:=by rw[O];rfl
  rw[hoff,hsh,hsv];exact I.ze (xJ J (λx hx=>by cases hx) hn (by rw[O];rfl))
 have hu1:(m1.ah n).up=true:=by rw[J,Ee]
 have hp1:(m1.ah n).Mw=none:=by rw[J,Ee];rfl
 have hb1:(m1.ah n).bs q=bD (m.ah n).data (m.ah n).MC q:=by rw[J,Ee]
 have eX:(m.start n).ah=Na m.ah n { (m.ah n).blank with up:=true,data:=bK (rs++ws),MC:=(bK (rs++ws)).length,bs:=λq=>if q∈[0,1,2,3]/\(bD (m.ah n).data (m.ah n).MC q).Gq=1 then iE (bD (m.ah n).data (m.ah n).MC q)else bD (m.ah n).data (m.ah n).MC q}:=by
  rw[W.ah,aX];exact qU _ _ _ _
 have au4:EA (m.start n)=Na (Na (EA (m.start n)) n false) n true:=by
  rw[qU];refine(aB ?_).symm;unfold EA;rw[eX,Ee]
 rw[<-O,Ea]at e1;refine⟨?_,λj=>?_⟩
 ·by_cases hr:(bD (m.ah n).data (m.ah n).MC q).Gq=1
  ·have hf1:au (iE (bD (m.ah n).data (m.ah n).MC q))=0:=by rw[Z]at hr⊢;exact e7 q hq hr
   have hw1:dL (bD (m.ah n).data (m.ah n).MC q)=(iE (bD (m.ah n).data (m.ah n).MC q),0):=by
    unfold dL;rw[if_neg (λh=>h (by rw[Z];exact hfb)),if_neg Y,if_neg (λh=>h hf1)];rfl
   obtain⟨g',I2,N2,k1,k2,k3,k4,k5⟩:=Pb hn hr hw1 hf1 (by rw[Z];exact hfb) [0,1,2,3] I1 hu1 hp1 hb1 hin dQ;rw[<-e1]at I2;have I3:=QC.up I2 n λ_=>⟨k4,k5⟩;refine⟨g',?_,N2,λ_ h=>?_⟩
   ·unfold QI;rw[au4];exact I3
   rw[<-k3,Ws,<-Z]at h;omega
  have M:QD (m.start n) q g n/\vw (m.start n) q=vw m1 q:=by
   rw[e1];have key:∀(ql:List Nat) {m':Cl},QD m' q g n->(m'.ah n).up=true->QD (ql.foldl (vZ n (bD (m.ah n).data (m.ah n).MC)) m') q g n/\vw (ql.foldl (vZ n (bD (m.ah n).data (m.ah n).MC)) m') q=vw m' q:=by
    intro ql
    induction ql with
    |nil=>intro m' I' _;exact⟨I',E⟩
    |cons q' r ih=>
     intro m' I' hu';rw[foldl_cons];by_cases e:q'=q
     ·subst e;have:vZ n (bD (m.ah n).data (m.ah n).MC) m' q'=m':=if_pos hr;rw[this];exact ih I' hu'
     obtain⟨I3,v3,u3,_,_⟩:=I'.far hn hu' e (Fg (bs:=bD (m.ah n).data (m.ah n).MC) m' n q');obtain⟨I4,v4⟩:=ih I3 u3;exact⟨I4,v4.trans v3⟩
   exact key _ I1 hu1
  have hst:n=g.o->g.t=g.m/\g.F=g.G.length:=λho=>by
   have h3:(vw (m.start n) q g.o).Gq=3:=by
    rw[M.2,aoR,<-ho,Ws];have:=I.zS;rw[<-ho,Ws]at this;rw[Z]at hr;omega
   have hF:=M.1.slF h3;refine⟨?_,hF⟩
   rcases M.1.LB with h|⟨_,_,_,h,_⟩
   ·exact h.1
   omega
  have I3:=QC.up M.1 n hst;refine⟨g,?_,.refl g,λ_ h=>by rw[M.2,aoR];exact h⟩;unfold QI;rw[au4];exact I3
 rw[eX];by_cases e:j=n
 ·subst e;rw[Ee]
  show(bK (rs++ws)).length<=_
  have hww:=KJ [0,1,2,3] e3;rw[hd.rd.1]at hww;dsimp only at hww;have:=congrArg length hd.data;rw[length_append]at this;simp only[length_cons,length_nil]at hww;omega
 rw[Kg e];exact le_add_right _ _
end
section
variable {m m' m2:Cl}{n q k:Nat}{g g' g2:Gh}
def oP{T S dS K:Nat}(O:cu m T S dS K)(hn:n<5){j:Nat}(I:j≠n):(m.step n).ah j=m.ah j:=by
 cases h:(m.ah n).up with
 |false=>rw[mM h]
 |true=>
  obtain⟨rs,us,J⟩:=(O.iK n hn).rC h
  cases M:(m.ah n).Mw with
  |some p=>
   obtain⟨h1,Z,h3⟩:=J.F6 p M;obtain⟨_,hf⟩:=iR J.tape J.lg Z h3;obtain⟨dz,y1,_⟩:=zT E h M h3 hf Z;rw[y1,Kg I]
  |none=>
   have R:=KG h ⟨us,J⟩ λl hl=>lF (O.iP n hn l hl);rw[jf h M]
   split
   ·show Na (m.more n).ah n _ j=_
    rw[Kg I];exact R.mK j I
   exact R.mK j I
def Pd(m:Cl)(l:bH)(j:Nat):((m.Nk l).ah j).data=(m.ah j).data:=by
 unfold Cl.Nk
 split
 ·rfl
 split
 ·split<;>rfl
 split
 ·show((Na m.ah l.tg.toNat _) j).data=_
  by_cases e:j=l.tg.toNat
  ·rw[e,Ee]
  rw[Kg e]
 rfl
def LM:∀(ls:List bH) (m:Cl) (j:Nat),((ls.foldl Cl.Nk m).ah j).data=(m.ah j).data
 |[],_,_=>rfl
 |l::ls,m,j=>(LM ls (m.Nk l) j).trans (Pd m l j)
def adb(m:Cl)(at_:Nat)(c s:Bool)(j:Nat):((m.pick at_ c s).ah j).data=(m.ah j).data:=by
 unfold Cl.pick
 split
 ·rfl
 dsimp only
 split
 ·rw[Pd]
  split<;>rfl
 split<;>rfl
structure Later (q:Nat)(g g':Gh)(m m':Cl):Prop where
 mle:g.m<=g'.m
 own:∀k,k<=g.m->g'.own k=g.own k
 fG:Dp q g g' m m'
def Later.refl:Later q g g m m:=⟨Nat.le_refl _,λ_ _=>E,λ_ h=>h⟩
def Later.trans(h:Later q g g' m m')(I:Later q g' g2 m' m2):Later q g g2 m m2:=by
 refine⟨Nat.le_trans h.mle I.mle,λk J=>(I.own k (Nat.le_trans J h.mle)).trans (h.own k J),λe Z=>?_⟩;have h1:=h.mle;have h2:=I.mle;have M:g'.m=g.m:=Y;have O:g'.o=g.o:=by unfold Gh.o;rw[M];exact h.own _ (Nat.le_refl _)
 have:=I.fG Y (by rw[O];exact h.fG M Z);rwa [O]at this
def lT.later(h:lT g g')(I:Dp q g g' m m'):Later q g g' m m':=⟨h.m,h.own,I⟩
structure LW (m:Cl)(q:Nat)(g:Gh)(k:Nat):Prop where
 qi:QI m q g
 Xq:g.G.length<=k
 data:∀n,n<5->(m.ah n).data.length<=184*k
def Qn{a:Ac}(h:LW m q g k)(M:Bs m k)(ha:wX a)(h1:a.kd≠1)(hq:q<4)(hk:k<=540):∃g',LW (m.QT a) q g' (k+1)/\Later q g g' m (m.QT a):=by
 obtain⟨I,hG,hD⟩:=h;obtain⟨a1,a2,a3,a4,a5,a6⟩:=ha;have hn:a.nd.toNat<5:=Y;have hqu:a.qu.toNat<4:=Y;have fin:∀ {m':Cl} {g':Gh},QI m' q g'->lT g g'->Dp q g g' m m'->(∀n,n<5->(m'.ah n).data.length<=(m.ah n).data.length+184)-> ∃g',LW m' q g' (k+1)/\Later q g g' m m':=λ{m' g'} I' N s hd=>
  ⟨g',⟨I',by have:=N.Xq;omega,λn hn=>by have:=hd n hn;have:=hD n hn;omega⟩,N.later s⟩
 unfold Cl.QT;rw[if_neg h1]
 split
 ·obtain⟨J,e2⟩:=ahj (l:=vY a.nd a.qu.toNat a.op m.calls) (c:=m.calls+1) I E;exact fin J (.refl g) (λ_ h=>by rw[e2];exact h) λn _=>le_add_right _ _
 split
 ·obtain⟨⟨g',J,N2,O⟩,Z⟩:=ahi I M hn (by have:=hD _ hn;omega) Y;refine fin J N2 O λj hj=>?_;by_cases e:j=a.nd.toNat
  ·rw[e];exact Z
  rw[oP M hn e];exact le_add_right _ _
 split
 ·obtain⟨J,e2⟩:=TQ (at_:=a.at_.toNat) (c:=decide (a.kd≠5)) (s:=decide (a.kd=6)) I M.mX hq;exact fin J (.refl g) (λ_ h=>by rw[e2];exact h) λn _=>by rw[adb];exact le_add_right _ _
 split
 ·obtain⟨J,e2⟩:=Qm I M.mX hq;refine fin J (.refl g) (λ_ h=>by rw[e2];exact h) λn _=>?_;unfold Cl.all;rw[LM];exact le_add_right _ _
 split
 ·obtain⟨⟨g',J,N2,O⟩,Z⟩:=ac8 (keep:=a.kp) I M hn hq a5.1;exact fin J N2 O λj _=>le_add_right_of_le (Z j)
 split
 ·obtain⟨⟨g',J,N2,O⟩,Z⟩:=ada I M hn hq;exact fin J N2 O λj _=>Z j
 obtain⟨J,O,Z⟩:=TR (tg:=a.nd) I M hqu hq;exact fin J (.refl g) (λ_ h=>O h) λj _=>by rw[Z j];exact le_add_right _ _
def aad(J:q<4):∀(l:List Ac) {m:Cl} {g:Gh} {k:Nat},LW m q g k->Bs m k->(∀a∈l,wX a/\a.kd≠1)->k+l.length<=540-> ∃g',LW (m.run l) q g' (k+l.length)/\Bs (m.run l) (k+l.length)/\Later q g g' m (m.run l)
 |[],m,g,k,h,I,_,_=>⟨g,h,I,.refl⟩
 |a::l,m,g,k,h,I,M,O=>by
  rw[length_cons]at O;obtain⟨a1,a2⟩:=M a iQ;obtain⟨g1,h1,Z⟩:=Qn h I a1 a2 J Y;obtain⟨g2,h2,b2,r2⟩:=aad J l h1 (yj I a1 Y) (λx hx=>M x (by simp[hx])) Y;rw[length_cons,show k+(l.length+1)=k+1+l.length by omega];exact⟨g2,h2,b2,Z.trans r2⟩
end
def Sv(n q:Nat):Ac:=⟨1,n,q,0,0,0,0,0,0,0,0⟩
def anj{n q:Nat}(hn:n<5)(I:q<4):wX (Sv n q):=⟨by show(1:Int)<=1/\(1:Int)<=10;omega,by show 0<=(n:Int)/\(n:Int)<=4;omega,by show 0<=(q:Int)/\(q:Int)<=3;omega,by show(0:Int)<=0/\(0:Int)<=1048576;omega,by show(0:Int)<=0/\(0:Int)<=100000;omega,λh=>absurd (show(1:Int)=2 from h) dQ⟩
def aae{m:Cl}{n q:Nat}{d:QK}{x:List UInt8}(h:(m.ah n).up=true)(I:(m.ah n).Mw=none)(O:r9 m.off q n=(d,0))(J:iX ((m.ah n).bs q) 1=(⟨1,1,0,0,0,[]⟩,0))(hw:fD (m.ah n).data (m.ah n).MC [fH 1 q 1 0 aI]=some x):
 m.make n q={m.put n {m.ah n with data:=x,MC:=x.length,bs:=Na (m.ah n).bs q ⟨1,1,0,0,0,[]⟩}with off:=d,MG:=iD m.MG n q (1,0)}:=by
 obtain⟨X,M⟩:∃X,m.ah n=X:=⟨_,E⟩;rw[M]at h I J hw⊢;unfold Cl.make Nd.write;rw[M,O,J,hw,if_neg (by rw[h,I];simp),if_neg iQ];rfl
def Dq(q:Nat):List UInt8:=bK [fH 1 q 1 0 aI]
def l8(q:Nat):Nd:={nd0 with data:=Dq q,MC:=(Dq q).length,bs:=Na (λ_=>bF) q ⟨1,1,0,0,0,[]⟩}
def aoS:Cl:={kM with ah:=Na kM.ah 0 (l8 0),off:=⟨⟨0,1⟩,nowhere,nowhere,nowhere⟩,MG:=iD kM.MG 0 0 (1,0)}
def kK:Cl:={kM with ah:=Na (Na kM.ah 0 (l8 0)) 1 (l8 1),off:=⟨⟨0,1⟩,⟨1,1⟩,nowhere,nowhere⟩,MG:=iD (iD kM.MG 0 0 (1,0)) 1 1 (1,0)}
def ank{q:Nat}(I:q<4):fD nd0.data nd0.MC [fH 1 q 1 0 aI]=some (Dq q):=by
 have:=vH (rs:=[fH 1 q 1 0 aI]) (l:=[]) (s:=0) (λr h=>by rw[mem_singleton]at h;subst h;exact oI Y I Y Y dQ) Y iQ iQ;rw[nil_append]at this;exact this
def dmk{d:QK}{q n:Nat}(I:∀k,k<4->yS (d.at k))(M:q<4)(hn:n<5)(J:d.at q=nowhere):r9 d q n=(d.set q ⟨n,1⟩,0):=by
 unfold r9;rw[Qb (BL I) Y];dsimp only;rw[if_neg iQ,if_neg Y,if_neg (by rw[Int.toNat_natCast];exact λh=>h J),Int.toNat_natCast]
def Wt:kM.QT (Sv 0 0)=aoS:=by
 show kM.make 0 0=_
 rw[aae (d:=⟨⟨0,1⟩,nowhere,nowhere,nowhere⟩) (x:=Dq 0) E E (dmk (d:=⟨nowhere,nowhere,nowhere,nowhere⟩) (q:=0) (n:=0) (λk I=>by
  have h:k=0\/k=1\/k=2\/k=3:=Y
  rcases h with rfl|rfl|rfl|rfl<;>exact .inl ⟨E,E⟩) Y Y E) (Qf (q:=0) Qi E dQ Y).1 (ank Y)]
 rfl
def Wu:aoS.QT (Sv 1 1)=kK:=by
 show aoS.make 1 1=_
 rw[aae (d:=⟨⟨0,1⟩,⟨1,1⟩,nowhere,nowhere⟩) (x:=Dq 1) E E (dmk (d:=⟨⟨0,1⟩,nowhere,nowhere,nowhere⟩) (q:=1) (n:=1) (λk I=>by
  have h:k=0\/k=1\/k=2\/k=3:=Y
  rcases h with rfl|rfl|rfl|rfl<;>first|exact .inl ⟨rfl,rfl⟩|exact .inr ⟨by decide,by decide,by decide,by decide⟩) Y Y E) (Qf (q:=1) Qi E dQ Y).1 (ank Y)]
 rfl
def g0(q:Nat):Gh:=⟨1,λ_=>q,λ_=>0,[],0,1⟩
def aeg{q:Nat}(hq:q<2):LW kK q (g0 q) 2:=by
 have hV:∀n,vw kK q n=if n=q then⟨1,1,0,0,0,[]⟩else bF:=λn=>by
  have hup:(kK.ah n).up=true:=by
   show(Na (Na kM.ah 0 (l8 0)) 1 (l8 1) n).up=true
   unfold Na
   split
   ·rfl
   split<;>rfl
  rw[gK hup]
  show(Na (Na kM.ah 0 (l8 0)) 1 (l8 1) n).bs q=_
  have h:q=0\/q=1:=Y
  rcases h with rfl|rfl
  ·by_cases M:n=1
   ·subst M;rfl
   by_cases O:n=0
   ·subst O;rfl
   rw[Kg M,Kg O,if_neg O];rfl
  by_cases M:n=1
  ·subst M;rfl
  by_cases O:n=0
  ·subst O;rfl
  rw[Kg M,Kg O,if_neg M];rfl
 have hP:∀n,uz kK q n=none:=λn=>by
  unfold uz;have:(kK.ah n).Mw=none:=by
   show(Na (Na kM.ah 0 (l8 0)) 1 (l8 1) n).Mw=none
   unfold Na
   split
   ·rfl
   split<;>rfl
  rw[this];rfl
 have hI:∀n,(kK.ah n).Md=[]:=λn=>by
  show(Na (Na kM.ah 0 (l8 0)) 1 (l8 1) n).Md=[]
  unfold Na
  split
  ·rfl
  split<;>rfl
 have hL:∀l,¬M7 kK q l:=λl h=>by
  rcases h.2 with h|⟨j,_,h⟩
  ·cases h
  rw[hI j]at h;cases h
 have Z:kK.off.at q=⟨q,1⟩:=by
  have h:q=0\/q=1:=Y
  rcases h with rfl|rfl<;>rfl
 have hsh:∀n,zV kK q n=if n=q then(1,0)else(0,0):=λn=>by
  show iD (iD kM.MG 0 0 (1,0)) 1 1 (1,0) n q=_
  have h:q=0\/q=1:=Y
  rcases h with rfl|rfl
  ·unfold iD;rw[if_neg Y];by_cases e:n=0
   ·rw[if_pos ⟨e,E⟩,if_pos e]
   rw[if_neg (λh=>e h.1),if_neg e];rfl
  unfold iD;by_cases e:n=1
  ·rw[if_pos ⟨e,E⟩,if_pos e]
  rw[if_neg (λh=>e h.1),if_neg e,if_neg Y];rfl
 have ho:(g0 q).o=q:=rfl;have J:vw kK q (g0 q).o=⟨1,1,0,0,0,[]⟩:=by rw[hV,ho,if_pos E]
 have hm:(g0 q).m=1:=rfl;refine⟨⟨Nat.le_refl _,λ_ _ _=>by show q<5;omega,λk h1 h2=>by rw[hm]at h2;omega,⟨1,Z,Nat.le_refl _,.inl E⟩,by rw[J];rfl,by rw[J];rfl,by rw[J];exact .inl E,λh=>by rw[J]at h;exact absurd E h,xG,λn hn I=>?_,λk h1 h2=>?_,λk h1 h2=>by rw[hm]at h2;omega,λl hl=>absurd hl (hL l),λn _ p hp=>(by rw[hP]at hp;cases hp),.inl ⟨E,?_,zero_le _⟩,λ_=>E,λ_=>E,λn _ I=>?_,?_,⟨λs hs=>(by cases hs),λi a b ha=>(by cases ha),λs hs=>(by cases hs),λ_=>E⟩⟩,zero_le _,λn hn=>?_⟩
 ·rw[ho]at I;rw[hV,if_neg I];exact .inl ⟨E,by show(0:Int)<=0;omega,by show(0:Int)<1;omega⟩
 ·rw[hm]at h2;have:k=1:=Y;subst this
  show(1:Int)<=(vw kK q q).ep
  rw[hV,if_pos E]
  decide
 ·rw[hsh,ho,if_pos E];rfl
 ·rw[ho]at I;rw[hsh,if_neg I]
  show(0:Int)<1
  omega
 ·show rp dV []=some (av (take 0 [])).1
  rw[take_nil,yE (l:=[]) iQ (show gZ dV [] []=some (dV,[])from E)];rfl
 have h1:∀q,(Dq q).length<=46:=λq=>by have:=xK [fH 1 q 1 0 aI];simpa[Dq]using this
 show(Na (Na kM.ah 0 (l8 0)) 1 (l8 1) n).data.length<=_
 unfold Na
 split
 ·have:=h1 1;show(Dq 1).length<=_;omega
 split
 ·have:=h1 0;show(Dq 0).length<=_;omega
 show 0<=_;omega
def RI:Bs kK 2:=by
 rw[<-Wu,<-Wt];exact yj (yj auF (anj Y Y) Y) (anj Y Y) Y
def Gc(l:bH):Nat:=if l.kd=0\/l.kd=2\/l.kd=3\/l.kd=4 then 1 else 0
def Wv:Option bS->Nat
 |some (.serve _ _ _ _ _)=>1
 |some (.Ns _ _)=>1
 |some (.QU _ _ _)=>1
 |some (.fG _ _ _)=>1
 |_=>0
def oz:List bH->Nat
 |[]=>0
 |l::r=>Gc l+oz r
def qM(x:Nd):Nat:=oz x.Md+Wv x.Mw
def Cl.cw(m:Cl):Nat:=oz m.Ms+(qM (m.ah 0)+(qM (m.ah 1)+(qM (m.ah 2)+(qM (m.ah 3)+qM (m.ah 4)))))
def Cl.nm(m:Cl)(n:Nat):Nat:=oz m.Ms+qM (m.ah n)
def tY:∀(a b:List bH),oz (a++b)=oz a+oz b
 |[],b=>by simp[oz]
 |l::a,b=>by rw[cons_append,oz,oz,tY a b];omega
def EB(l:bH):oz [l]=Gc l:=rfl
def Hf:∀(a:List bH) (i:Nat) (l:bH),a[i]? =some l->oz (a.eraseIdx i)+Gc l=oz a
 |[],i,l,h=>by cases h
 |x::a,0,l,h=>by cases h;rw[eraseIdx_cons_zero,oz];omega
 |x::a,i+1,l,h=>by
  rw[eraseIdx_cons_succ,oz,oz];have:=Hf a i l (by simpa using h);omega
def J6(l:bH):Gc l<=1:=by unfold Gc;split<;>omega
def axi{l:bH}(h:l.kd≠0/\l.kd≠2/\l.kd≠3/\l.kd≠4):Gc l=0:=if_neg Y
section
variable {m w m':Cl}{n q:Nat}{x:Nd}{l:bH}{op:Ev}{num:Int}{a:iW}{b:aU}{ac:Ac}
def Xt{d:Nat}(hn:n<5)(I:∀j,j≠n->m'.ah j=m.ah j)(h:m'.nm n<=m.nm n+d):m'.cw<=m.cw+d:=by
 unfold Cl.nm at h;unfold Cl.cw
 rcases five hn with rfl|rfl|rfl|rfl|rfl
 ·rw[I 1 dQ,I 2 dQ,I 3 dQ,I 4 dQ];omega
 ·rw[I 0 dQ,I 2 dQ,I 3 dQ,I 4 dQ];omega
 ·rw[I 0 dQ,I 1 dQ,I 3 dQ,I 4 dQ];omega
 ·rw[I 0 dQ,I 1 dQ,I 2 dQ,I 4 dQ];omega
 rw[I 0 dQ,I 1 dQ,I 2 dQ,I 3 dQ];omega
def yt:(w.put n x).nm n=oz w.Ms+qM x:=by
 unfold Cl.nm;rw[show(w.put n x).ah n=x from Ee _ _ _];rfl
def Jr:(w.send l).nm n=w.nm n+Gc l:=by
 show oz (w.Ms++[l])+qM (w.ah n)=oz w.Ms+qM (w.ah n)+Gc l
 rw[tY,EB];omega
def Js(hi:x.Md=(w.ah n).Md)(h:x.Mw=(w.ah n).Mw):(w.put n x).nm n=w.nm n:=by
 rw[yt];unfold Cl.nm qM;rw[hi,h]
def yF:(w.ay n q b).nm n=w.nm n:=Js E E
def aaf:(w.QL n q op a num).nm n=w.nm n:=rfl
def nm_done:(w.done n q op num a).nm n=w.nm n:=by
 unfold Cl.done
 split
 ·rw[Jr,aaf];rfl
 rw[Jr];rfl
def Jt:(w.QM n q).nm n=w.nm n+1:=Jr
def aag{at_:Int}:(w.part n q at_).nm n<=w.nm n+1:=by
 unfold Cl.part
 split
 ·omega
 rw[Jr];exact Nat.add_le_add_left (J6 _) _
def Fh{rs:List cO}{p:bS}(h:(w.ah n).write rs=some x):(w.put n {x with Mw:=some p}).nm n<=w.nm n+Wv (some p):=by
 unfold Nd.write at h;obtain⟨d,_,rfl⟩:=Option.map_eq_some_iff.1 h;rw[yt];unfold Cl.nm qM;dsimp only;omega
def Pe{y:Nd}{rs:List cO}(h:y.write rs=some x):x.Md=y.Md:=by
 unfold Nd.write at h;obtain⟨d,_,rfl⟩:=Option.map_eq_some_iff.1 h;rfl
def ahk:(w.serve n l).nm n<=w.nm n+1:=by
 unfold Cl.serve
 split
 ·rw[nm_done];omega
 split
 ·rw[nm_done];omega
 rename_i x h
 exact Fh h
def YZ:(w.Qz n l).nm n<=w.nm n+1:=by
 unfold Cl.Qz
 split
 ·omega
 split
 ·rw[Jt];omega
 split
 ·omega
 rename_i x h
 exact Fh h
def arO:(w.QU n l).nm n<=w.nm n+1:=by
 unfold Cl.QU
 split
 ·omega
 split
 ·rw[Jt];omega
 split
 ·omega
 split
 ·omega
 rename_i x h
 exact Fh h
def ade:(w.QV n l).nm n<=w.nm n+1:=by
 unfold Cl.QV
 split
 ·omega
 split
 ·omega
 split
 ·have:=aag (w:=w.ay n l.q (bG ((w.ah n).bs l.q) l.at_).1) (n:=n) (q:=l.q) (at_:=l.at_);rw[yF]at this;exact this
 split
 ·omega
 rename_i x h
 exact Fh h
def adf:(w.Q9 n l).nm n<=w.nm n:=by
 unfold Cl.Q9
 split
 ·rw[Js (x:=(w.ah n).Ny n l) E E];omega
 split
 ·rw[Js (x:=(w.ah n).Ny n l) E E];omega
 rename_i x I
 have J:=Pe I;have h:x.Md=(w.ah n).Md:=J;rw[yt];unfold Cl.nm qM;rw[show({x with Mw:=some (bS.Ni l.q (fT ((w.ah n).bs l.q) l.ep).1)}:Nd).Md=(w.ah n).Md from h]
 show oz w.Ms+(oz (w.ah n).Md+0)<=_
 omega
def Pf:(w.Ng n l).nm n<=w.nm n+Gc l:=by
 unfold Cl.Ng Gc
 split
 ·rename_i h;rw[if_pos (.inl h)];exact ahk
 split
 ·rename_i h;rw[if_pos (.inr (.inl h))];exact YZ
 split
 ·rename_i h;rw[if_pos (.inr (.inr (.inl h)))];exact ade
 split
 ·rename_i h;rw[if_pos (.inr (.inr (.inr h)))];exact arO
 have:=adf (w:=w) (n:=n) (l:=l);omega
def Pg{p:bS}:(w.yc n p).nm n<=w.nm n+Wv (some p):=by
 cases p with
 |serve q Gs op num a=>show((w.ay n q _).done n q op num a).nm n<=_;rw[nm_done,yF];omega
 |Ns q b=>show((w.ay n q b).QM n q).nm n<=_;rw[Jt,yF];exact Nat.le_refl _
 |QU q b last=>
  show(if last=true then((w.ay n q b).put n { (w.ay n q b).ah n with Nf:=Na (w.ah n).Nf q false}).QL n q aF eU (-1)else(w.ay n q b).QM n q).nm n<=_
  split
  ·rw[aaf,Js (w:=w.ay n q b) (x:={ (w.ay n q b).ah n with Nf:=Na (w.ah n).Nf q false}) E E,yF];omega
  rw[Jt,yF];exact Nat.le_refl _
 |fG q b at_=>
  have:=aag (w:=w.ay n q b) (n:=n) (q:=q) (at_:=at_);rw[yF]at this;exact this
 |Ni q b=>show(w.ay n q b).nm n<=_;rw[yF];omega
def arP{s:Bool}:oz (gu n q b s)<=1:=by
 unfold gu;rw[tY,tY];have h:oz (if b.Gq=3 then[OI n q]else[])=0:=by split<;>rfl
 have I:oz (if b.Gq=1/\1<b.ep/\s=false then[MO n q b]else[])=0:=by split<;>rfl
 have h1:oz (if b.Gq=2\/b.Gq=3 then[vT n q b]else[])<=1:=by
  split
  ·exact J6 (vT n q b)
  exact zero_le _
 omega
def aah:(w.jV n).nm n<=w.nm n+1:=by
 show oz (w.Ms++gu n ((w.ah n).turn % 4) ((w.ah n).bs ((w.ah n).turn % 4)) ((w.ah n).Nf ((w.ah n).turn % 4)))+qM ((Na w.ah n {w.ah n with turn:=(w.ah n).turn+1}) n)<=_
 rw[tY,Ee];have:=arP (n:=n) (q:=(w.ah n).turn % 4) (b:=(w.ah n).bs ((w.ah n).turn % 4)) (s:=(w.ah n).Nf ((w.ah n).turn % 4));unfold Cl.nm qM;dsimp only;omega
def alz{T S dS K:Nat}(J:cu m T S dS K)(hn:n<5):(m.step n).cw<=m.cw+1:=by
 cases h:(m.ah n).up with
 |false=>rw[mM h];omega
 |true=>
  obtain⟨rs,us,Z⟩:=(J.iK n hn).rC h;refine Xt hn (λj hj=>oP J hn hj) ?_
  cases M:(m.ah n).Mw with
  |some p=>
   unfold Cl.step;rw[if_neg (by rw[h];decide),M];dsimp only;have h1:=Pg (w:=m.put n {m.ah n with MC:=(m.ah n).data.length,Mw:=none}) (n:=n) (p:=p);rw[yt]at h1;unfold Cl.nm qM at h1⊢;rw[M];dsimp only at h1;have e0:Wv none=0:=rfl;rw[e0]at h1;omega
  |none=>
   have P:=oN (n:=n) (λw=>O4 m n rs w/\w.nm n<=m.nm n) (λw l r ⟨H,A⟩ O I=>by
    obtain⟨h1,h2,h3,h4⟩:=oO (λl hl=>lF (J.iP n hn l hl)) H O I;refine⟨h1.1,h4,?_⟩;have h5:=Pf (w:=w.put n ((w.ah n).box r)) (n:=n) (l:=l);rw[yt]at h5;have h6:w.nm n=oz w.Ms+(Gc l+oz r+Wv (w.ah n).Mw):=by unfold Cl.nm qM;rw[I];rfl
    have h7:qM ((w.ah n).box r)=oz r+Wv (w.ah n).Mw:=rfl;omega) _ m E ⟨BG h ⟨_,Z⟩,Nat.le_refl _⟩
   rw[jf h M]
   split
   ·have:=aah (w:=m.more n) (n:=n);omega
   omega
def Qo:(w.Nk l).cw<=w.cw+Gc l:=by
 unfold Cl.Nk
 split
 ·show w.cw<=_;omega
 split
 ·split
  ·unfold Cl.cw
   show oz (w.Ms++[_])+_<=_
   rw[tY,EB,axi (l:=lC _ _ _) ⟨by show(6:Int)≠0;decide,by show(6:Int)≠2;decide,by show(6:Int)≠3;decide,by show(6:Int)≠4;decide⟩];dsimp only;omega
  show w.cw<=_;omega
 split
 ·by_cases I:l.tg.toNat<5
  ·refine Xt I (λj h=>Kg h) ?_;rw[yt];unfold Cl.nm qM;dsimp only;rw[tY,EB];omega
  have e:∀j,j<5->(w.put l.tg.toNat {w.ah l.tg.toNat with Md:=(w.ah l.tg.toNat).Md++[l]}).ah j=w.ah j:=λj h=>Kg Y;unfold Cl.cw;rw[e 0 dQ,e 1 dQ,e 2 dQ,e 3 dQ,e 4 dQ]
  show oz w.Ms+_<=_
  omega
 omega
def TV:∀(ls:List bH) {w:Cl},(ls.foldl Cl.Nk w).cw<=w.cw+oz ls
 |[],w=>Nat.le_refl _
 |l::r,w=>by
  have h1:=TV r (w:=w.Nk l);have h:=Qo (w:=w) (l:=l);rw[foldl_cons,oz];omega
def Ww{fl:List bH}:({w with Ms:=fl}:Cl).cw+oz w.Ms=w.cw+oz fl:=by
 unfold Cl.cw;dsimp only;omega
def afo:w.all.cw<=w.cw:=by
 have h1:=TV w.Ms (w:={w with Ms:=[]});have h:=Ww (w:=w) (fl:=[]);have I:oz []=0:=rfl;unfold Cl.all;omega
def aai{at_:Nat}{c s:Bool}:(w.pick at_ c s).cw<=w.cw+1:=by
 unfold Cl.pick
 split
 ·omega
 rename_i l h
 have h1:(if s=true then w else{w with Ms:=w.Ms.eraseIdx (at_ % w.Ms.length)}:Cl).cw<=w.cw/\(if s=true then w else{w with Ms:=w.Ms.eraseIdx (at_ % w.Ms.length)}:Cl).cw+Gc l<=w.cw+1:=by
  have I:=J6 l
  split
  ·omega
  have J:=Ww (w:=w) (fl:=w.Ms.eraseIdx (at_ % w.Ms.length));have M:=Hf _ _ _ h;omega
 dsimp only
 split
 ·exact Nat.le_trans Qo h1.2
 exact le_succ_of_le h1.1
def J7(hn:n<5)(h:qM x<=qM (w.ah n)):(w.put n x).cw<=w.cw:=
 Xt (d:=0) hn (λj I=>Kg I) (by rw[yt];unfold Cl.nm;omega)
def arQ(h:∀j,j<5->qM (m'.ah j)=qM (m.ah j))(I:m'.Ms=m.Ms):m'.cw=m.cw:=by
 unfold Cl.cw;rw[I,h 0 dQ,h 1 dQ,h 2 dQ,h 3 dQ,h 4 dQ]
def Qp:(w.ay n q b).cw=w.cw:=arQ (λj _=>by
 by_cases e:j=n
 ·subst e;rw[show(w.ay j q b).ah j={w.ah j with bs:=Na (w.ah j).bs q b}from Ee _ _ _];rfl
 rw[show(w.ay n q b).ah j=w.ah j from Kg e]) E
def Qq:(w.QL n q op a num).cw=w.cw:=rfl
def Gd{Gs:List Ev}{an:List iW}:∀(ls:List Nat) {w:Cl},(w.recovered n q Gs an ls).cw=w.cw
 |[],_=>rfl
 |i::r,w=>by
  unfold Cl.recovered;rw[Gd r,Qq]
def Y0:(w.recover n q).cw=w.cw:=by
 unfold Cl.recover
 split
 ·exact Qq
 exact Gd _
def Fj{bs:Nat->aU}:∀(ls:List Nat) {w:Cl},(Cl.QG n bs ls w).cw=w.cw
 |[],_=>rfl
 |q::r,w=>by
  unfold Cl.QG
  split
  ·exact Fj r
  rw[Fj r,Qq,Qp,Y0]
def afp{T S dS K:Nat}(I:cu m T S dS K)(J:wX ac):(m.QT ac).cw<=m.cw+1:=by
 obtain⟨a1,a2,a3,a4,a5,a6⟩:=J;have hn:ac.nd.toNat<5:=Y;unfold Cl.QT
 split
 ·unfold Cl.make
  split
  ·omega
  split
  ·omega
  split
  ·omega
  rename_i x h
  have hi:=Pe h;have M:x.Mw=(m.ah ac.nd.toNat).Mw:=by
   unfold Nd.write at h;obtain⟨d,_,rfl⟩:=Option.map_eq_some_iff.1 h;rfl
  have h1:=J7 (w:=m) (n:=ac.nd.toNat) (x:={x with MC:=x.data.length,bs:=Na x.bs ac.qu.toNat (iX ((m.ah ac.nd.toNat).bs ac.qu.toNat) 1).1}) hn (by unfold qM;rw[<-hi,<-M];exact Nat.le_refl _);exact le_succ_of_le h1
 split
 ·show oz (m.Ms++[vY ac.nd ac.qu.toNat ac.op m.calls])+(qM (m.ah 0)+(qM (m.ah 1)+(qM (m.ah 2)+(qM (m.ah 3)+qM (m.ah 4)))))<=m.cw+1
  have O:=J6 (vY ac.nd ac.qu.toNat ac.op m.calls);rw[tY,EB];unfold Cl.cw;omega
 split
 ·exact alz I hn
 split
 ·exact aai
 split
 ·exact le_succ_of_le afo
 split
 ·unfold Cl.Q0
  split
  ·exact le_succ_of_le (J7 hn (zero_le _))
  omega
 split
 ·unfold Cl.start
  split
  ·omega
  split
  ·omega
  rw[Fj];exact le_succ_of_le (J7 hn (zero_le _))
 unfold Cl.move
 split
 ·omega
 split
 ·rw[Qp];omega
 omega
def afq:∀(l:List Ac) {m:Cl} {k:Nat},Bs m k->(∀a∈l,wX a)->k+l.length<=100000->(m.run l).cw<=m.cw+l.length
 |[],_,_,_,_,_=>Nat.le_refl _
 |a::l,m,k,h,I,J=>by
  rw[length_cons]at J⊢;have h1:=I a mem_cons_self;have O:=afp h h1;have Z:=afq l (m:=m.QT a) (yj h h1 Y) (λx M=>I x (mem_cons_of_mem _ M)) Y
  show((m.QT a).run l).cw<=_
  omega
end
structure Vd (m:Cl):Prop where
 rol:∀n,n<5-> ∀q,2<=q->q<4->(vw m q n).Gq=0
 lu:∀n,n<5-> ∀p,(m.ah n).Mw=some p->p.q<2
 iP:∀n,n<5-> ∀l∈(m.ah n).Md,l.q<2
 Ms:∀l∈m.Ms,l.q<2
section
variable {m w m':Cl}{n q:Nat}{X:Nd}{l:bH}{p:bS}{ac:Ac}{rs us:List cO}
def Vd.at_(h:Vd m)(hn:m'.ah=Na m.ah n X)(Z:∀q,2<=q->q<4->(X.view q).Gq=0)(hp:∀p,X.Mw=some p->p.q<2)(hi:∀l∈X.Md,l.q<2)(hf:∀l∈m'.Ms,l∈m.Ms\/l.q<2):Vd m':=by
 refine⟨λj M q h1 O=>?_,λj M p I=>?_,λj M l J=>?_,λl J=>(hf l J).elim (h.Ms l) id⟩
 ·rw[p8 hn];by_cases e:j=n
  ·subst e;rw[Ee];exact Z q h1 O
  rw[Kg e];exact h.rol j M q h1 O
 ·rw[hn]at I;by_cases e:j=n
  ·subst e;rw[Ee]at I;exact hp p I
  rw[Kg e]at I;exact h.lu j M p I
 rw[hn]at J;by_cases e:j=n
 ·subst e;rw[Ee]at J;exact hi l J
 rw[Kg e]at J;exact h.iP j M l J
def Vd.ah(h:Vd m)(hn:m'.ah=m.ah)(O:∀l∈m'.Ms,l∈m.Ms\/l.q<2):Vd m':=by
 have e:∀q j,vw m' q j=vw m q j:=λq j=>by unfold vw;rw[hn]
 exact⟨λj I q h1 Z=>by rw[e];exact h.rol j I q h1 Z,λj I p J=>h.lu j I p (by rwa [hn]at J),λj I l M=>h.iP j I l (by rwa [hn]at M),λl M=>(O l M).elim (h.Ms l) id⟩
def qV{fl:List bH}{x:bH}(I:x.q<2):∀l∈fl++[x],l∈fl\/l.q<2:=λl h=>by
 rcases mem_append.1 h with h|h
 ·exact .inl h
 rw[mem_singleton]at h;subst h;exact .inr I
def TW{b:aU}{a:Int}{fl:List bH}(I:q<2):∀l∈lD n q b a fl,l∈fl\/l.q<2:=λl h=>by
 unfold lD at h
 split at h
 ·exact .inl h
 exact qV (x:=FY n q b a) I l h
def Vd.view(h:Vd m)(hn:n<5)(I:(m.ah n).up=true){q:Nat}(h1:2<=q)(J:q<4):((m.ah n).bs q).Gq=0:=by
 have:=h.rol n hn q h1 J;rwa [gK I]at this
def afr(h:Vd m)(hn:n<5)(J:(m.ah n).up=true)(hp:(m.ah n).Mw=none)(hq:l.q<2)(H:Hnd m n l m'):Vd m':=by
 cases H with
 |same=>exact h
 |done a h1 h2=>
  unfold Cl.done
  split
  ·exact h.ah E (qV (x:=lZ n l.num a nowhere) (by show 0<2;omega))
  exact h.ah E (qV (x:=lZ n l.num a ((m.ah n).Nh l.q)) (by show 0<2;omega))
 |QM h1=>exact h.ah E (qV (x:=ou n l.q ((m.ah n).bs l.q)) hq)
 |part b h1 h2 h3 h4 h5 h6=>
  obtain⟨g1,g2,g3⟩:=pY (m:=m.ay n l.q b) (n:=n) (q:=l.q) (a:=l.at_);have M:((m.ay n l.q b).part n l.q l.at_).ah=Na m.ah n ((m.ah n).ay l.q b):=g2;refine h.at_ M (λq O Z=>?_) (h.lu n hn) (h.iP n hn) (λx I=>?_)
  ·rw[dK (X:=(m.ah n).ay l.q b) J];rw[show((m.ah n).ay l.q b).bs q=(m.ah n).bs q from Kg Y];exact h.view hn J O Z
  rw[g3]at I;exact TW hq x I
 |Mw p dz d h1 h2 h3 h4 h5=>
  have hY:dz.bs=(m.ah n).bs/\dz.up=(m.ah n).up/\dz.Md=(m.ah n).Md:=by rcases h1 with h1|⟨_,h1⟩<;>rw[h1]<;>exact⟨E,E,E⟩
  refine h.at_ (n:=n) (X:={dz with data:=d,Mw:=some p}) E (λq O Z=>?_) (λp' hp'=>?_) (λx I=>h.iP n hn x (by rw[<-hY.2.2];exact I)) (λx I=>.inl I)
  ·rw[dK (X:={dz with data:=d,Mw:=some p}) (hY.2.1.trans J)]
   show(dz.bs q).Gq=0
   rw[hY.1];exact h.view hn J O Z
  cases hp';rw[h2];exact hq
 |Ny h1=>
  refine h.at_ (n:=n) (X:=(m.ah n).Ny n l) E (λq O Z=>?_) (h.lu n hn) (h.iP n hn) (λx I=>.inl I);rw[dK (X:=(m.ah n).Ny n l) J];exact h.view hn J O Z
def adh{b:aU}{s:Bool}(h:q<2\/b.Gq=0):∀l∈gu n q b s,l.q<2:=λl I=>by
 unfold gu at I
 rcases h with h|h
 ·rcases mem_append.1 I with I|I
  ·rcases mem_append.1 I with I|I
   ·split at I
    ·rw[mem_singleton]at I;subst I;exact h
    simp at I
   split at I
   ·rw[mem_singleton]at I;subst I;exact h
   simp at I
  split at I
  ·rw[mem_singleton]at I;subst I;exact h
  simp at I
 rw[if_neg Y,if_neg Y,if_neg Y]at I;simp at I
def Qr(h:Vd m)(hn:n<5)(J:(m.ah n).up=true):Vd (m.jV n):=by
 refine h.at_ (n:=n) (X:={m.ah n with turn:=(m.ah n).turn+1}) E (λq M O=>?_) (h.lu n hn) (h.iP n hn) (λx I=>?_)
 ·rw[dK (X:={m.ah n with turn:=(m.ah n).turn+1}) J];exact h.view hn J M O
 rcases mem_append.1 I with I|I
 ·exact .inl I
 refine .inr (adh ?_ x I);by_cases c:(m.ah n).turn % 4<2
 ·exact .inl c
 exact .inr (h.view hn J Y (mod_lt _ dQ))
def aaj{T S dS K:Nat}(h:Vd m)(hB:cu m T S dS K)(hn:n<5):Vd (m.step n):=by
 cases I:(m.ah n).up with
 |false=>rw[mM I];exact h
 |true=>
  obtain⟨rs,us,hU⟩:=(hB.iK n hn).rC I
  cases M:(m.ah n).Mw with
  |some p=>
   obtain⟨_,h2,h3⟩:=hU.F6 p M;have hq:=h.lu n hn p M;obtain⟨X,hX⟩:∃X,m.ah n=X:=⟨_,E⟩;have J:∀ {m':Cl} {dz:Nd},m'.ah=Na m.ah n dz->dz.bs=Na (m.ah n).bs p.q (p.b (m.ah n).bs)->dz.up=true->dz.Mw=none->dz.Md=(m.ah n).Md->(∀l∈m'.Ms,l∈m.Ms\/l.q<2)->Vd m':=by
    intro m' dz e1 e2 e3 e4 e5 e6;refine h.at_ e1 (λq h7 h8=>?_) (λp' Z=>by rw[e4]at Z;cases Z) (λx hx=>h.iP n hn x (by rw[<-e5];exact hx)) e6;rw[dK e3,e2,Kg Y];exact h.view hn I h7 h8
   cases p with
   |serve k Gs op num a=>
    rw[jw E I M E h2.1];exact J (dz:=(m.ah n).jE.ay k { (m.ah n).bs k with Gs:=Gs}) E E I E E (qV (by show 0<2;omega))
   |Ns k b=>
    rw[nJ E I M];exact J (dz:=(m.ah n).jE.ay k b) E E I E E (qV (x:=ou n k b) hq)
   |QU k b last=>
    cases last with
    |true=>
     rw[jU E I M];exact J (dz:={ ((m.ah n).jE.ay k b)with Nf:=Na (m.ah n).Nf k false}) E E I E E (λl hl=>.inl hl)
    |false=>
     rw[sD E I M];exact J (dz:=(m.ah n).jE.ay k b) E E I E E (qV (x:=ou n k b) hq)
   |fG k b at_=>
    rw[pX E I M];exact J (dz:=(m.ah n).jE.ay k b) E E I E E (TW (q:=k) hq)
   |Ni k b=>
    rw[l5 E I M];exact J (dz:=(m.ah n).jE.ay k b) E E I E E (λl hl=>.inl hl)
  |none=>
   have P:=oN (n:=n) (λw=>O4 m n rs w/\Vd w) (λw l r ⟨H,A⟩ hp1 O=>by
    obtain⟨h1,h2,h3,h4⟩:=oO (λl hl=>lF (hB.iP n hn l hl)) H hp1 O;refine⟨h1.1,h4,?_⟩;have A2:Vd (w.put n ((w.ah n).box r)):=A.at_ (n:=n) (X:=(w.ah n).box r) E (λq h7 h8=>A.rol n hn q h7 h8) (A.lu n hn) (λx hx=>A.iP n hn x (by rw[O];exact mem_cons_of_mem _ hx)) (λx hx=>.inl hx);exact afr A2 hn (by rw[aX];exact H.up) (by rw[aX];exact hp1) (A.iP n hn l (by rw[O];simp)) h3) _ m E ⟨BG I ⟨_,hU⟩,h⟩
   rw[jf I M]
   split
   ·exact Qr P.2 hn P.1.up
   exact P.2
def aak(h:Vd m)(M:jO l)(J:l.q<2):Vd (m.Nk l):=by
 obtain⟨_,_,h1,_⟩:=id M;unfold Cl.Nk
 split
 ·exact h.ah E λx I=>.inl I
 split
 ·split
  ·exact h.ah E (qV (x:=lC l.fr l.q _) J)
  exact h.ah E λx I=>.inl I
 split
 ·have hn:l.tg.toNat<5:=Y;refine h.at_ (n:=l.tg.toNat) (X:={m.ah l.tg.toNat with Md:=(m.ah l.tg.toNat).Md++[l]}) E (λq O Z=>h.rol _ hn q O Z) (h.lu _ hn) (λx I=>?_) (λx I=>.inl I);exact(qV J x I).elim (h.iP _ hn x) id
 exact h
def TY:∀(ls:List bH) {m:Cl},Vd m->(∀l∈ls,jO l)->(∀l∈ls,l.q<2)->Vd (ls.foldl Cl.Nk m)
 |[],_,h,_,_=>h
 |l::ls,m,h,J,M=>TY ls (aak h (J l iQ) (M l iQ)) (λx I=>J x (by simp[I])) λx I=>M x (by simp[I])
def Ph(h:Vd m)(I:∀l∈m.Ms,jO l):Vd m.all:=
 TY m.Ms (m:={m with Ms:=[]}) (h.ah E λx J=>by cases J) I h.Ms
def alA{at_:Nat}{c s:Bool}(h:Vd m)(O:∀l∈m.Ms,jO l):Vd (m.pick at_ c s):=by
 unfold Cl.pick
 split
 ·exact h
 rename_i l I
 have J:=mem_of_getElem? I;have M:Vd (if s=true then m else{m with Ms:=m.Ms.eraseIdx (at_ % m.Ms.length)}):=by
  split
  ·exact h
  exact h.ah E λx Z=>.inl (mem_of_mem_eraseIdx Z)
 dsimp only
 split
 ·exact aak M (O l J) (h.Ms l J)
 exact M
def ahl{keep:Int}{T S dS K:Nat}(h:Vd m)(O:cu m T S dS K)(hn:n<5)(Z:0<=keep):Vd (m.Q0 n keep):=by
 unfold Cl.Q0
 split
 ·rename_i M
  obtain⟨rs,us,hU⟩:=(O.iK n hn).rC M;obtain⟨rs',t,f,hd,hf⟩:=Fe hU Z;refine h.at_ (n:=n) (X:=(m.ah n).Nn keep) E (λq h7 I=>?_) (λp hp=>by cases hp) (λx J=>by cases J) (λx J=>.inl J);rw[hd.view E I]
  rcases hf q I with e|⟨p,e1,e2,_⟩
  ·have:=h.view hn M h7 I;rw[e,kI Y];exact this
  have:=h.lu n hn p e1;omega
 exact h
def ahm{T S dS K:Nat}(h:Vd m)(M:cu m T S dS K)(hn:n<5):Vd (m.start n):=by
 rcases sZ (M.iK n hn)with⟨_,e⟩|⟨O,rs,t,f,hd,e|⟨ws,e1,e2,e3,W,e5,e6,e7⟩⟩
 ·rw[e];exact h
 ·rw[e];exact h
 have I:=W.ah;rw[aX]at I;dsimp only at I;rw[show ∀(dz Z:Nd),Na (m.put n dz).ah n Z=Na m.ah n Z from λdz Z=>qU ..]at I;refine h.at_ I (λq h7 h8=>?_) (λp hp=>by cases hp) (λx J=>by cases J) (λx J=>.inl (by rw[W.Ms]at J;exact J));rw[dK E];dsimp only;have hv:=h.rol n hn q h7 h8;have e0:bD (m.ah n).data (m.ah n).MC q=vw m q n:=by
  unfold vw Nd.view;rw[if_neg (by rw[O];simp)]
 rw[e0,if_neg (λc=>by omega)];exact hv
def alB{tg:Int}(h:Vd m)(hq:q<2):Vd (m.move q tg):=by
 unfold Cl.move
 split
 ·exact h
 rename_i I
 split
 ·obtain⟨hn,_,_⟩:=nK (d:=m.off) (q:=q) (λe=>I (.inl e));generalize (aJ m.off q).1.node.toNat=n at*;have J:(m.ah n).up=true:=by
   cases e:(m.ah n).up with
   |true=>rfl
   |false=>exact absurd (.inr (.inr e)) I
  refine h.at_ (n:=n) (X:=(m.ah n).ay q (uK ((m.ah n).bs q) tg).1) E (λk M O=>?_) (h.lu n hn) (h.iP n hn) (λx Z=>.inl Z);rw[dK (X:=(m.ah n).ay q _) J,show((m.ah n).ay q (uK ((m.ah n).bs q) tg).1).bs k=(m.ah n).bs k from Kg Y];exact h.view hn J M O
 exact h
def Wx{T S dS K:Nat}(h:Vd m)(I:cu m T S dS K)(J:wX ac)(h1:ac.kd≠1)(M:ac.qu<2):Vd (m.QT ac):=by
 obtain⟨a1,a2,a3,a4,a5,a6⟩:=J;have hn:ac.nd.toNat<5:=Y;unfold Cl.QT;rw[if_neg h1]
 split
 ·exact h.ah E (qV (x:=vY ac.nd ac.qu.toNat ac.op m.calls) (by show ac.qu.toNat<2;omega))
 split
 ·exact aaj h I hn
 split
 ·exact alA h I.mX
 split
 ·exact Ph h I.mX
 split
 ·exact ahl h I hn a5.1
 split
 ·exact ahm h I hn
 exact alB h Y
def afs:∀(l:List Ac) {m:Cl} {k:Nat},Vd m->Bs m k->(∀a∈l,wX a/\a.kd≠1/\a.qu<2)->k+l.length<=100000->Vd (m.run l)
 |[],_,_,h,_,_,_=>h
 |a::l,m,k,h,I,J,M=>by
  rw[length_cons]at M;obtain⟨h1,O,Z⟩:=J a mem_cons_self;exact afs l (m:=m.QT a) (Wx h I h1 O Z) (yj I h1 Y) (λx hx=>J x (mem_cons_of_mem _ hx)) Y
end
def anl:Vd kK:=by
 have I:∀n,kK.ah n=nd0\/kK.ah n=l8 0\/kK.ah n=l8 1:=λn=>by
  have e:kK.ah n=Na (Na kM.ah 0 (l8 0)) 1 (l8 1) n:=rfl;rw[e];by_cases c1:n=1
  ·rw[c1,Ee];exact .inr (.inr E)
  by_cases c0:n=0
  ·rw[Kg c1,c0,Ee];exact .inr (.inl E)
  rw[Kg c1,Kg c0];exact .inl E
 refine⟨λn hn q h1 M=>?_,λn hn p J=>?_,λn hn l h=>?_,λl h=>by cases h⟩
 ·unfold vw
  rcases I n with e|e|e<;>rw[e]
  ·rw[dK E];rfl
  ·rw[dK E];show(Na (λ_=>bF) 0 _ q).Gq=0;rw[Kg Y];rfl
  rw[dK E];show(Na (λ_=>bF) 1 _ q).Gq=0;rw[Kg Y];rfl
 ·rcases I n with e|e|e<;>rw[e]at J<;>cases J
 rcases I n with e|e|e<;>rw[e]at h<;>cases h
def dF(f:bH->Nat):List bH->Nat
 |[]=>0
 |l::r=>f l+dF f r
def Cl.ws(f:bH->Nat)(m:Cl):Nat:=dF f m.Ms+(dF f (m.ah 0).Md+(dF f (m.ah 1).Md+(dF f (m.ah 2).Md+(dF f (m.ah 3).Md+dF f (m.ah 4).Md))))
structure Wy where
 M:Nat
 own:Nat->Nat
 R:Nat
 tg:Int
def calm(F:Wy)(l:bH):Prop:=(1<=l.ep/\l.ep<=F.M/\l.tg=F.own l.ep.toNat)\/(l.ep=F.M+1/\F.R=1/\l.tg=F.tg)
instance (F:Wy)(l:bH):Decidable (calm F l):=by unfold calm;exact inferInstance
def uD(F:Nat->Wy)(l:bH):Nat:=if l.kd=0 then 46 else if l.kd=4/\ ¬calm (F l.q) l then 184 else 0
def Wz(r:Int):Nat:=if r=2 then 2 else if r=3 then 1 else 0
def WA(F:Wy)(j:Nat)(b:aU):Nat:=if F.R=1/\(j:Int)=F.tg then 46*(302-if b.ep=F.M+1 then b.Gs.length else 0)else 0
def fi(F:Wy)(j:Nat)(b:aU):Nat:=46*((F.M:Int)+1+F.R-b.ep).toNat+46*Wz b.Gq+WA F j b
def qG(X:Nd)(q:Nat):aU:=match X.Mw with
 |some p=>if p.q=q then p.b X.bs else X.bs q
 |none=>X.bs q
noncomputable def Cw(m:Cl)(q:Nat)(g:Gh):Wy:=⟨g.m,g.own,if (vw m q g.o).Gq=1 then 0 else 1,(vw m q g.o).tg⟩
def mQ(F F':Wy):Prop:=(F'.M=F.M/\(∀k,k<=F.M->F'.own k=F.own k)/\F'.R=F.R/\F'.tg=F.tg)\/
 (F'.M=F.M+1/\(∀k,k<=F.M->F'.own k=F.own k)/\(F'.own (F.M+1):Int)=F.tg/\F.R=1/\F'.R=0)
section
variable {m w m':Cl}{n q:Nat}{X X':Nd}{l:bH}{p:bS}{f f':bH->Nat}{F F':Wy}{g g':Gh}{b b':aU}
def mQ.refl(F:Wy):mQ F F:=.inl ⟨E,λ_ _=>E,E,E⟩
def mQ.clm(h:mQ F F')(I:calm F l):calm F' l:=by
 unfold calm at I⊢
 rcases h with⟨h1,J,O,Z⟩|⟨h1,J,O,Z,h5⟩
 ·rcases I with⟨a,b,c⟩|⟨a,b,c⟩
  ·exact .inl ⟨a,by omega,by rw[J _ Y];exact c⟩
  exact .inr ⟨by omega,by omega,by rw[Z];exact c⟩
 rcases I with⟨a,b,c⟩|⟨a,b,c⟩
 ·exact .inl ⟨a,by omega,by rw[J _ Y];exact c⟩
 refine .inl ⟨by omega,by omega,?_⟩;rw[show l.ep.toNat=F.M+1 by omega,O];exact c
def mQ.fi_(h:mQ F F'):fi F' n b<=fi F n b:=by
 unfold fi WA
 rcases h with⟨h1,O,I,J⟩|⟨h1,O,I,J,Z⟩
 ·rw[h1,I,J];exact Nat.le_refl _
 rw[if_neg (λh=>by omega:¬(F'.R=1/\(n:Int)=F'.tg))];have:((F'.M:Int)+1+F'.R-b.ep).toNat=((F.M:Int)+1+F.R-b.ep).toNat:=Y;rw[this];omega
def mQ.lw{F F':Nat->Wy}(h:mQ (F l.q) (F' l.q)):uD F' l<=uD F l:=by
 unfold uD
 split
 ·exact Nat.le_refl _
 split
 ·rename_i h1 I
  rw[if_pos ⟨I.1,λc=>I.2 (h.clm c)⟩];exact Nat.le_refl _
 exact zero_le _
def u7:∀(a b:List bH),dF f (a++b)=dF f a+dF f b
 |[],b=>by simp[dF]
 |l::a,b=>by rw[cons_append,dF,dF,u7 a b];omega
def KL:dF f [l]=f l:=rfl
def tZ:∀ {a:List bH},(∀l∈a,f' l<=f l)->dF f' a<=dF f a
 |[],_=>Nat.le_refl _
 |l::a,h=>by
  have h1:=h l mem_cons_self;have J:=tZ (a:=a) λx I=>h x (mem_cons_of_mem _ I);rw[dF,dF];omega
def RJ(h1:∀l∈m.Ms,f' l<=f l)(I:∀n,n<5-> ∀l∈(m.ah n).Md,f' l<=f l):m.ws f'<=m.ws f:=by
 have h:=tZ h1;have J:=tZ (I 0 dQ);have M:=tZ (I 1 dQ);have O:=tZ (I 2 dQ);have Z:=tZ (I 3 dQ);have i4:=tZ (I 4 dQ);unfold Cl.ws;omega
def Gf{d:Nat}(hn:n<5)(I:∀j,j≠n->(m'.ah j).Md=(m.ah j).Md)(h:dF f m'.Ms+dF f (m'.ah n).Md+d<=dF f m.Ms+dF f (m.ah n).Md):m'.ws f+d<=m.ws f:=by
 unfold Cl.ws
 rcases five hn with rfl|rfl|rfl|rfl|rfl
 ·rw[I 1 dQ,I 2 dQ,I 3 dQ,I 4 dQ];omega
 ·rw[I 0 dQ,I 2 dQ,I 3 dQ,I 4 dQ];omega
 ·rw[I 0 dQ,I 1 dQ,I 3 dQ,I 4 dQ];omega
 ·rw[I 0 dQ,I 1 dQ,I 2 dQ,I 4 dQ];omega
 rw[I 0 dQ,I 1 dQ,I 2 dQ,I 3 dQ];omega
def aal(h:∀x:bH,x.kd=6->f x=0)(I:jO l):(w.Nk l).ws f<=w.ws f+f l:=by
 unfold Cl.Nk
 split
 ·show w.ws f<=_;omega
 split
 ·split
  ·unfold Cl.ws
   show dF f (w.Ms++[_])+_<=_
   rw[u7,KL,h _ E];dsimp only;omega
  show w.ws f<=_;omega
 split
 ·obtain⟨_,_,h1,_⟩:=id I;have J:l.tg.toNat<5:=Y;have:=Gf (m:={w with Ms:=w.Ms++[l]}) (m':=w.put l.tg.toNat {w.ah l.tg.toNat with Md:=(w.ah l.tg.toNat).Md++[l]}) (f:=f) (d:=0) J (λj M=>by
   show(Na w.ah _ _ j).Md=_
   rw[Kg M]) (by
   rw[aX]
   show dF f w.Ms+dF f ((w.ah l.tg.toNat).Md++[l])+0<=dF f (w.Ms++[l])+dF f (w.ah l.tg.toNat).Md
   rw[u7,u7];omega)
  have e:({w with Ms:=w.Ms++[l]}:Cl).ws f=w.ws f+f l:=by
   unfold Cl.ws;dsimp only;rw[u7,KL];omega
  omega
 omega
def T9(h:∀x:bH,x.kd=6->f x=0):∀(ls:List bH) {w:Cl},(∀l∈ls,jO l)->(ls.foldl Cl.Nk w).ws f<=w.ws f+dF f ls
 |[],w,_=>Nat.le_refl _
 |l::r,w,I=>by
  have h1:=T9 h r (w:=w.Nk l) λx J=>I x (mem_cons_of_mem _ J);have M:=aal (w:=w) h (I l mem_cons_self);rw[foldl_cons,dF];omega
def CY(h:∀x:bH,x.kd=6->f x=0)(I:∀l∈m.Ms,jO l):m.all.ws f<=m.ws f:=by
 have h1:=T9 h m.Ms (w:={m with Ms:=[]}) I;have J:({m with Ms:=[]}:Cl).ws f+dF f m.Ms=m.ws f:=by unfold Cl.ws;dsimp only[dF];omega
 unfold Cl.all;omega
def axj{F:Nat->Wy}(x:bH)(h:x.kd=6):uD F x=0:=by
 unfold uD;rw[if_neg Y,if_neg (λc=>by omega)]
def aeh{F:Nat->Wy}{x:bH}(I:x.kd≠0)(h:x.kd=4->calm (F x.q) x):uD F x=0:=by
 unfold uD;rw[if_neg I,if_neg (λc=>c.2 (h c.1))]
def arR{F:Nat->Wy}:uD F l<=184*Gc l:=by
 unfold uD Gc
 split
 ·rename_i h;rw[if_pos (.inl h)];decide
 split
 ·rename_i h;rw[if_pos (.inr (.inr (.inr h.1)))];decide
 exact zero_le _
def axk{F:Nat->Wy}:m.ws (uD F)<=184*m.cw:=by
 have h:∀a:List bH,dF (uD F) a<=184*oz a:=by
  intro a
  induction a with
  |nil=>exact zero_le _
  |cons l r I=>
   have:=arR (l:=l) (F:=F);rw[dF,oz];omega
 have J:=h m.Ms;have M:=h (m.ah 0).Md;have O:=h (m.ah 1).Md;have Z:=h (m.ah 2).Md;have i3:=h (m.ah 3).Md;have i4:=h (m.ah 4).Md;unfold Cl.ws Cl.cw qM;omega
def jR(h:X.Mw=none):qG X q=X.bs q:=by unfold qG;rw[h]
def oU(h:X.Mw=some p)(I:p.q=q):qG X q=p.b X.bs:=by unfold qG;rw[h];exact if_pos I
def yu(h:X.Mw=some p)(I:p.q≠q):qG X q=X.bs q:=by unfold qG;rw[h];exact if_neg I
def Gg{r:Int}(h:r=0\/r=4\/r=1):Wz r=0:=by unfold Wz;rw[if_neg Y,if_neg Y]
def aam(h:Wz b'.Gq=Wz b.Gq)(he:b'.ep=b.ep)(hv:b.Gs.length<=b'.Gs.length):fi F n b'<=fi F n b:=by
 unfold fi WA;rw[h,he]
 split
 ·split<;>omega
 exact Nat.le_refl _
def alC(h:b'.Gq=b.Gq)(he:b'.ep=b.ep)(hv:b'.Gs=b.Gs):fi F n b'=fi F n b:=by
 unfold fi WA;rw[h,he,hv]
def ahn{V:Nat->aU}{P:Nat->Option bS}{U:Nat->Bool}{Lt:bH->Prop}{pl:Pl}{sh:Nat->Int×Int}{sv:List jJ}{bs:Nat->aU}{FF:Nat->Wy}(I:QC g V P U Lt pl sh sv)(hn:n<5)(J:V n=bs l.q)(h:p.q=l.q)(hp:p.ok bs)(hS:Src (bs l.q) l p)(hk:Et g V n p)
  (AU:l.tg=n) (hl3:l.Gs.length<=3) (hG:g.G.length<=300) (hM:(FF l.q).M=g.m) (ho:(FF l.q).own=g.own):46*(p.rs bs).length+fi (FF l.q) n (p.b bs)<=uD FF l+fi (FF l.q) n (bs l.q):=by
 have hlen:=aac h hp hS hl3
 cases p with
 |serve k Gs op num a=>
  have e:k=l.q:=h;subst e;obtain⟨s1,_⟩:=hS;obtain⟨_,O,_⟩:=hp;have h1:fi (FF l.q) n ((bS.serve l.q Gs op num a).b bs)<=fi (FF l.q) n (bs l.q):=aam E E (by show _<=Gs.length;rw[O,length_append];omega);have h3:uD FF l=46:=if_pos s1;have Z:((bS.serve l.q Gs op num a).rs bs).length=1:=rfl;omega
 |Ns k x=>
  have e:k=l.q:=h;subst e;obtain⟨j,j1,j2,j3,j4,j5⟩:=hk;rw[J]at j4 j5;have Z:((bS.Ns l.q x).rs bs).length=1:=rfl;have hx:(bS.Ns l.q x).b bs=x:=rfl;rw[Z,hx,j1];unfold fi WA;dsimp only;rw[Gg (r:=(4:Int)) Y,Gg (r:=(bs l.q).Gq) Y,hM];by_cases c:(FF l.q).R=1/\(n:Int)=(FF l.q).tg
  ·rw[if_pos c,if_pos c,if_neg (by omega:¬(bs l.q).ep=(g.m:Int)+1)]
   split
   ·rw[length_nil];omega
   omega
  rw[if_neg c,if_neg c];omega
 |QU k x last=>
  have e:k=l.q:=h;subst e;obtain⟨es,g1,g2,g3,g4,g5,g6,g7⟩:=uU hp;obtain⟨s1,s2,s3,s4,s5,s6,s7,s8,s9⟩:=hS;obtain⟨k1,k2,k3⟩:=hk;rw[J]at k1;have hrs:((bS.QU l.q x last).rs bs).length=x.Gs.length-(bs l.q).Gs.length:=by
   rw[g7,length_append,length_map,length_drop]
   cases last with
   |true=>simp only[if_true,length_singleton]at*;omega
   |false=>simp only[Bool.false_eq_true,if_false,length_nil]at*;omega
  have hxl:(bs l.q).Gs.length<=x.Gs.length:=Y;have hxr:x.Gq=4\/x.Gq=1:=by
   cases last with
   |true=>obtain⟨_,_,_,a4,_⟩:=k3 E;rw[a4];exact .inr E
   |false=>obtain⟨j,a1,_⟩:=k2 E;rw[a1];exact .inl (by show(V n).Gq=4;rw[J];exact k1)
  have hxG:x.Gs.length<=301:=by
   cases last with
   |true=>obtain⟨_,_,_,a4,_⟩:=k3 E;rw[a4];show(g.G++[aF]).length<=301;rw[length_append,length_singleton];omega
   |false=>obtain⟨j,a1,_⟩:=k2 E;rw[a1];show(g.G.take j).length<=301;rw[length_take];omega
  have hb:(bS.QU l.q x last).b bs=x:=rfl;rw[hrs]at hlen;rw[hrs,hb];by_cases c:calm (FF l.q) l
  ·rcases c with⟨c1,c2,c3⟩|⟨c1,c2,c3⟩
   ·exfalso
    have Nc:n≠g.o:=I.oJ (.inr (by rw[J];exact k1));rw[hM]at c2;rw[ho,AU]at c3
    rcases I.mK n hn Nc with⟨h5,_⟩|⟨_,h5,_⟩|⟨k',_,O,h3,Z,_,_,_,h8⟩
    ·rw[J]at h5;omega
    ·rw[J]at h5;omega
    rw[J]at O;rw[show l.ep.toNat=k'+1 by omega]at c3;exact h8 Y Y
   rw[AU]at c3;have hc:(FF l.q).R=1/\(n:Int)=(FF l.q).tg:=⟨c2,c3⟩;have he:(bs l.q).ep=((FF l.q).M:Int)+1:=by rw[s3];exact c1
   unfold fi WA;rw[Gg (r:=x.Gq) Y,Gg (r:=(bs l.q).Gq) Y,g6];simp only[if_pos hc,if_pos he];omega
  have h3:uD FF l=184:=by
   unfold uD;rw[if_neg Y,if_pos ⟨s1,c⟩]
  have h1:fi (FF l.q) n x<=fi (FF l.q) n (bs l.q):=aam (by rw[Gg (r:=x.Gq) Y,Gg (r:=(bs l.q).Gq) Y]) g6 hxl;omega
 |fG k x a=>
  have e:k=l.q:=h;subst e;obtain⟨h1,O⟩:=hp;have Z:((bS.fG l.q x a).rs bs).length=1:=rfl;have hb:(bS.fG l.q x a).b bs=x:=rfl;rw[Z,hb,O];unfold fi WA;dsimp only;rw[show Wz (3:Int)=1 from E,h1,show Wz (2:Int)=2 from E];omega
 |Ni k x=>
  have e:k=l.q:=h;subst e;obtain⟨h1,O⟩:=hp;obtain⟨_,_,k3⟩:=hk;rw[J]at k3;have Z:((bS.Ni l.q x).rs bs).length=1:=rfl;have hb:(bS.Ni l.q x).b bs=x:=rfl;rw[Z,hb,O];unfold fi WA;dsimp only;have hne:¬(bs l.q).ep=(g.m:Int)+1:=Y;rw[show Wz (0:Int)=0 from E,h1,show Wz (3:Int)=1 from E,hM];simp only[if_neg hne];omega
end
end Go.Proofs.YtefabpdniidmbaaGreatDoor
