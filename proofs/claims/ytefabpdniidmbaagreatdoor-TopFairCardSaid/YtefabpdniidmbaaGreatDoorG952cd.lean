import Derived.Test.YtefabpdniidmbaaGreatDoorGb1a49
set_option linter.all false
set_option maxRecDepth 100000
set_option maxHeartbeats 8000000
namespace Go.Proofs.YtefabpdniidmbaaGreatDoor
open List Nat Go.Proofs.Tryz
open ChangeShapes WideShapes RowKit
def qx:∀ {rs:List cB} {l:List UInt8} {s:Int} {d:List UInt8},fB l s rs=some d->d=l++bI rs/\(∀r∈rs,aG r=0)/\(l.length<=100000->d.length<=100000)
 |[],l,s,d,h=>by
  cases h;exact⟨by simp[bI],λr J=>by simp at J,λh=>h⟩
 |r::rs,l,s,d,h=>by
  rw[fB]at h
  split at h
  ·cases h
  rename_i h1
  obtain⟨M,O,h4⟩:=Ot (Classical.not_not.1 h1);rw[M]at h;obtain⟨Z,h6,h7⟩:=qx h;refine⟨by rw[Z];simp[bI,flatMap_cons],λx I=>?_,λhl=>h7 (by rw[length_append];omega)⟩
  rcases mem_cons.1 I with rfl|I
  ·exact O
  exact h6 x I
def u7:∀ {rs:List cB} {l:List UInt8} {s:Int},(∀r∈rs,aG r=0)->0<=s->s<=l.length->l.length+46*rs.length<=100000->fB l s rs=some (l++bI rs)
 |[],l,s,_,_,_,_=>by simp[fB,bI]
 |r::rs,l,s,h,I,h1,J=>by
  rw[length_cons]at J;have hw:=agz (h r iQ) I h1 Y;have:=Av r;rw[fB,hw,if_neg iQ,u7 (λx M=>h x (by simp[M])) I (by rw[length_append];omega) (by rw[length_append];omega)];simp[bI,flatMap_cons]
def akQ {Q:Qd}{e:Ev}(h:(iK Q e).2.2.1=true):(iK Q e).2.2.2=0:=by
 unfold iK at h⊢
 split at h
 ·cases h
 rename_i h1
 rw[if_neg h1]
 split at h
 ·cases h
 rename_i I;rw[if_neg I]
def akR {Q:Qd}{e:Ev}(h:(iK Q e).2.2.2=0):aX e=0:=by
 unfold iK at h
 split at h
 ·rename_i h1;exact absurd h h1
 split at h
 ·rename_i I;exact absurd h I
 rename_i I;exact Classical.not_not.1 I
def AB:∀ {n:Nat} {l:List Ev},l.length=n->good l-> ∀e∈l,aX e=0
 | 0,l,hn,_,e,he=>by rw[length_eq_zero_iff.1 hn]at he;simp at he
 |n+1,l,hn,h,e,he=>by
  have I:l=l.take n++[l[n]]:=by rw[<-nV Y,<-hn,take_length]
  have J:good (l.take n++[l[n]]):=I▸h;rw[I]at he
  rcases mem_append.1 he with he|he
  ·exact AB (n:=n) (by rw[length_take];omega) (nU h) e he
  rw[mem_singleton]at he;rw[he];exact akR (good_step J).1
section
variable {b:aQ}{e:Ev}
def YF (h:¬(gL b e).2.2.1=false):aj b=0/\aX e=0/\serves b/\(iK (ay b.evs).1 e).2.2.1=true/\b.evs.length<1999/\e.kind≠4/\gL b e=({b with evs:=b.evs++[e]},(iK (ay b.evs).1 e).2.1,true,0):=by
 unfold gL at h⊢;by_cases c1:aj b≠0
 ·rw[if_pos c1]at h;exact absurd E h
 rw[if_neg c1]at h⊢;by_cases c2:aX e≠0
 ·rw[if_pos c2]at h;exact absurd E h
 rw[if_neg c2]at h⊢;by_cases c3:e.kind=4
 ·rw[if_pos c3]at h;exact absurd E h
 rw[if_neg c3]at h⊢;by_cases J:b.role=3
 ·rw[if_pos J]at h;exact absurd E h
 rw[if_neg J]at h⊢;by_cases M:b.role≠1/\b.role≠2
 ·rw[if_pos M]at h;exact absurd E h
 rw[if_neg M]at h⊢;by_cases I:(iK (ay b.evs).1 e).2.2.1=false
 ·rw[if_pos I]at h;exact absurd E h
 rw[if_neg I]at h⊢;by_cases O:1999<=b.evs.length
 ·rw[if_pos O]at h;exact absurd E h
 rw[if_neg O];exact⟨Classical.not_not.1 c1,Classical.not_not.1 c2,by unfold serves;omega,by simpa using I,by omega,c3,E⟩
def agL {ep fr:Int}(h:¬(dn b ep fr).2≠0)(J:¬(dn b ep fr).1.ep=b.ep):(b.role=0\/b.role=4)/\b.ep<ep/\1<=ep/\ep<=1048576/\0<=fr/\fr<=4/\dn b ep fr=(⟨4,ep,fr,0,0,[]⟩,0):=by
 unfold dn at h J⊢;by_cases c1:aj b≠0
 ·rw[if_pos c1]at h;exact absurd c1 h
 rw[if_neg c1]at h J⊢;by_cases c2:¬(1<=ep/\ep<=1048576/\0<=fr/\fr<=4)
 ·rw[if_pos c2]at h;exact absurd dQ h
 rw[if_neg c2]at h J⊢;by_cases c3:b.role≠0/\b.role≠4
 ·rw[if_pos c3]at h;exact absurd dQ h
 rw[if_neg c3]at h J⊢;by_cases M:b.role=4/\b.ep=ep/\b.fr=fr
 ·rw[if_pos M]at J;exact absurd E J
 rw[if_neg M]at h J⊢;by_cases O:ep<=b.ep
 ·rw[if_pos O]at h;exact absurd dQ h
 rw[if_neg O];have I:=Classical.not_not.1 c2;exact⟨by omega,by omega,I.1,I.2.1,I.2.2.1,I.2.2.2,E⟩
def YG {ep fr:Int}(h:¬(dn b ep fr).2≠0)(I:(dn b ep fr).1.ep=b.ep):b.role=4/\b.ep=ep/\b.fr=fr:=by
 unfold dn at h I;by_cases c1:aj b≠0
 ·rw[if_pos c1]at h;exact absurd c1 h
 rw[if_neg c1]at h I;by_cases c2:¬(1<=ep/\ep<=1048576/\0<=fr/\fr<=4)
 ·rw[if_pos c2]at h;exact absurd dQ h
 rw[if_neg c2]at h I;by_cases c3:b.role≠0/\b.role≠4
 ·rw[if_pos c3]at h;exact absurd dQ h
 rw[if_neg c3]at h I;by_cases J:b.role=4/\b.ep=ep/\b.fr=fr
 ·exact J
 rw[if_neg J]at h I;by_cases M:ep<=b.ep
 ·rw[if_pos M]at h;exact absurd dQ h
 rw[if_neg M]at I;exact absurd (show ep=b.ep from I) Y
def Je (b:aQ)(at_:Int)(l:List Ev):List Ev:=b.evs++l.drop (b.evs.length-at_.toNat)
def wJ (b:aQ)(at_:Int)(l:List Ev)(last:Bool):aQ:=if last=true then⟨1,b.ep,0,0,0,Je b at_ l++[aF]⟩else{b with evs:=Je b at_ l}
def acv {ep at_:Int}{l:List Ev}{last:Bool}(h:¬(cu b ep at_ l last).2≠0):b.role=4/\b.ep=ep/\0<=at_/\at_<=b.evs.length/\(b.evs.drop at_.toNat).take l.length=l.take (b.evs.length-at_.toNat)/\
  (last=true->b.evs.length<=at_.toNat+l.length)/\aj (wJ b at_ l last)=0/\cu b ep at_ l last=(wJ b at_ l last,0):=by
 unfold cu at h⊢;by_cases c1:aj b≠0
 ·rw[if_pos c1]at h;exact absurd c1 h
 rw[if_neg c1]at h⊢;by_cases c2:b.role≠4
 ·rw[if_pos c2]at h;exact absurd dQ h
 rw[if_neg c2]at h⊢;by_cases c3:b.ep≠ep
 ·rw[if_pos c3]at h;exact absurd dQ h
 rw[if_neg c3]at h⊢;have J:b.ep=ep:=Classical.not_not.1 c3;subst J;by_cases M:¬(0<=at_/\at_<=b.evs.length)
 ·rw[if_pos M]at h;exact absurd dQ h
 rw[if_neg M]at h⊢;by_cases O:¬(b.evs.drop at_.toNat).take l.length=l.take (b.evs.length-at_.toNat)
 ·rw[if_pos O]at h;exact absurd dQ h
 rw[if_neg O]at h⊢;by_cases Z:last=true/\at_.toNat+l.length<b.evs.length
 ·rw[if_pos Z]at h;exact absurd dQ h
 rw[if_neg Z]at h⊢;change ¬(if aj (wJ b at_ l last)≠0 then(bD,(3:Int))else(wJ b at_ l last,0)).2≠0 at h
 show _/\_/\_/\_/\_/\_/\_/\(if aj (wJ b at_ l last)≠0 then(bD,(3:Int))else(wJ b at_ l last,0))=_
 by_cases c7:aj (wJ b at_ l last)≠0
 ·rw[if_pos c7]at h;exact absurd dQ h
 have I:=Classical.not_not.1 M;rw[if_neg c7];exact⟨Classical.not_not.1 c2,E,I.1,I.2,Classical.not_not.1 O,λhl=>by by_cases h9:at_.toNat+l.length<b.evs.length;exact absurd ⟨hl,h9⟩ Z;omega,Classical.not_not.1 c7,E⟩
def Rt {hv:Int}(h:¬(bE b hv).2≠0):0<=hv/\hv<=b.evs.length/\((b.role=3/\bE b hv=(b,0))\/(b.role=2/\(hv=b.evs.length\/b.rd=4)/\bE b hv=({b with role:=3,rd:=0},0))\/(b.role=2/\ ¬(hv=b.evs.length\/b.rd=4)/\bE b hv=({b with rd:=b.rd+1},0))):=by
 unfold bE at h⊢;by_cases c1:aj b≠0
 ·rw[if_pos c1]at h;exact absurd c1 h
 rw[if_neg c1]at h⊢;by_cases c2:b.role≠2/\b.role≠3
 ·rw[if_pos c2]at h;exact absurd dQ h
 rw[if_neg c2]at h⊢;by_cases c3:¬(0<=hv/\hv<=b.evs.length)
 ·rw[if_pos c3]at h;exact absurd dQ h
 rw[if_neg c3]at h⊢;have I:=Classical.not_not.1 c3;refine⟨I.1,I.2,?_⟩;by_cases M:b.role=3
 ·rw[if_pos M];exact .inl ⟨M,E⟩
 rw[if_neg M];by_cases J:hv=b.evs.length\/b.rd=4
 ·rw[if_pos J];exact .inr (.inl ⟨by omega,J,E⟩)
 rw[if_neg J];exact .inr (.inr ⟨by omega,J,E⟩)
def acw {ep:Int}(h:¬(fP b ep).2≠0):b.role=3/\b.ep<ep/\fP b ep=(⟨0,b.ep,0,0,0,[]⟩,0):=by
 unfold fP at h⊢;by_cases c1:aj b≠0
 ·rw[if_pos c1]at h;exact absurd c1 h
 rw[if_neg c1]at h⊢;by_cases c2:b.role≠3
 ·rw[if_pos c2]at h;exact absurd dQ h
 rw[if_neg c2]at h⊢;by_cases c3:ep<=b.ep
 ·rw[if_pos c3]at h;exact absurd dQ h
 rw[if_neg c3];exact⟨Classical.not_not.1 c2,by omega,E⟩
def akS {ep:Int}(h:¬(iT b ep).2≠0):b.role=0/\b.ep<ep/\iT b ep=(⟨1,ep,0,0,0,[]⟩,0):=by
 unfold iT at h⊢;by_cases c1:aj b≠0
 ·rw[if_pos c1]at h;exact absurd c1 h
 rw[if_neg c1]at h⊢;by_cases c2:¬(1<=ep/\ep<=1048576)
 ·rw[if_pos c2]at h;exact absurd dQ h
 rw[if_neg c2]at h⊢;by_cases c3:b.role≠0
 ·rw[if_pos c3]at h;exact absurd dQ h
 rw[if_neg c3]at h⊢;by_cases I:ep<=b.ep
 ·rw[if_pos I]at h;exact absurd dQ h
 rw[if_neg I];exact⟨Classical.not_not.1 c3,by omega,E⟩
def go_ok {tg:Int}(h:(uw b tg).2=0):b.role=1/\0<=tg/\tg<=4/\uw b tg=(⟨2,b.ep,0,tg,0,b.evs⟩,0):=by
 unfold uw at h⊢;by_cases c1:aj b≠0
 ·rw[if_pos c1]at h;exact absurd h c1
 rw[if_neg c1]at h⊢;by_cases c2:¬(0<=tg/\tg<=4)
 ·rw[if_pos c2]at h;exact absurd h dQ
 rw[if_neg c2]at h⊢;by_cases c3:b.role=2\/b.role=3
 ·rw[if_pos c3]at h;exact absurd h dQ
 rw[if_neg c3]at h⊢;by_cases c4:b.role≠1
 ·rw[if_pos c4]at h;exact absurd h dQ
 rw[if_neg c4]at h⊢;by_cases c5:b.ep=1048576
 ·rw[if_pos c5]at h;exact absurd h dQ
 rw[if_neg c5];have c2':=Classical.not_not.1 c2;exact⟨Classical.not_not.1 c4,c2'.1,c2'.2,E⟩
def ZO (I:b.role=1)(h:¬(dK b).2≠0):aj ⟨1,b.ep,0,0,0,b.evs++[aF]⟩=0/\dK b=(⟨1,b.ep,0,0,0,b.evs++[aF]⟩,0):=by
 unfold dK at h⊢;by_cases c1:aj b≠0
 ·rw[if_pos c1]at h;exact absurd c1 h
 rw[if_neg c1]at h⊢;rw[if_neg Y]at h⊢;by_cases c3:aj ⟨1,b.ep,0,0,0,b.evs++[aF]⟩≠0
 ·rw[if_pos c3]at h;exact absurd dQ h
 rw[if_neg c3];exact⟨Classical.not_not.1 c3,E⟩
def OG {hv:Int}(h:¬(gX b hv).2.2≠0):(b.role=2\/b.role=3)/\0<=hv/\hv<=b.evs.length/\gX b hv=((b.evs.drop hv.toNat).take 3,decide (b.role=3/\b.evs.length<=hv.toNat+3),0):=by
 unfold gX at h⊢;by_cases c1:aj b≠0
 ·rw[if_pos c1]at h;exact absurd c1 h
 rw[if_neg c1]at h⊢;by_cases c2:b.role≠2/\b.role≠3
 ·rw[if_pos c2]at h;exact absurd dQ h
 rw[if_neg c2]at h⊢;by_cases c3:¬(0<=hv/\hv<=b.evs.length)
 ·rw[if_pos c3]at h;exact absurd dQ h
 rw[if_neg c3];have I:=Classical.not_not.1 c3;exact⟨by omega,I.1,I.2,E⟩
end
structure oq (X:Nd)(rs us:List cB):Prop where
 data:X.data=bI (rs++us)
 syn:X.syn=(bI rs).length
 tape:iJ rs λq=>jl (X.bs q)
 kX:∀q,q<4->aj (X.bs q)=0
 rz:X.pend=none->us=[]
 FN:∀p,X.pend=some p->us=p.rs X.bs/\p.ok X.bs/\p.q<4
 len:X.data.length<=100000
structure GK (X:Nd)(rs:List cB)(t:List UInt8)(f:Nat->aQ):Prop where
 data:X.data=bI rs++t
 at6:(firstM t).2=0
 tape:iJ rs f
 kX:∀q,q<4->aj (f q)=0/\(f q).role≠2
 syn:0<=X.syn/\X.syn<=X.data.length
 len:X.data.length<=100000
 lF:X.pend=none
 iO:X.inbox=[]
 bz:∀q,q<4->aj (X.bs q)=0
def P9:aj bD=0:=lK (.inl ⟨E,by decide,by decide,E,E,E,E⟩) xk
def GL (X:Nd):Prop:=(X.up=true/\ ∃rs us,oq X rs us)\/(X.up=false/\ ∃rs t f,GK X rs t f)
section
variable {X:Nd}{rs us:List cB}{t:List UInt8}{f:Nat->aQ}{q:Nat}{p:bO}
def GL.sG (h:GL X)(I:X.up=true):∃rs us,oq X rs us:=h.elim (λh=>h.2) λh=>by rw[h.1]at I;cases I
def GL.at7 (h:GL X)(I:X.up=false):∃rs t f,GK X rs t f:=h.elim (λh=>by rw[h.1]at I;cases I) λh=>h.2
def oq.may (h:oq X rs us):dw X.data X.syn=true:=by
 have h1:=h.len;have I:=h.data;rw[lW]at I;have J:=congrArg length I;rw[length_append]at J;simp only[dw,h.syn,Bool.and_eq_true,decide_eq_true_eq];omega
def GK.may (h:GK X rs t f):dw X.data X.syn=true:=by
 simp only[dw,Bool.and_eq_true,decide_eq_true_eq];exact⟨⟨h.len,h.syn.1⟩,h.syn.2⟩
def GK.rd (h:GK X rs t f):jA X.data X.syn=(bI rs,min X.syn (bI rs).length,0)/\CZ X.data X.syn=some (vB f)/\ ∀q,q<4->bg X.data X.syn q=f q:=h.tape.read h.data h.at6 h.len h.syn.1 h.syn.2
def GK.view (h:GK X rs t f)(I:X.up=false)(J:q<4):X.view q=f q:=by
 unfold Nd.view;rw[if_neg (by rw[I];simp)];exact h.rd.2.2 q J
def dJ (h:X.up=true):X.view=X.bs:=if_pos h
def MC (bs:Nat->aQ)(p:bO)(x:aQ):Prop:=
 x=jl (bs p.q)\/x=jl (p.b bs)\/ ∃q b last j,p=.got q b last/\x={bs q with evs:=b.evs.take ((bs q).evs.length+j)}/\(bs q).evs.length+j+(if last=true then 1 else 0)<=b.evs.length
def Jf {b:aQ}(h:b.role=4\/b.role=0\/b.role=3\/b.role=1):jl b=b:=kG Y
def akT {bs:Nat->aQ}{b:aQ}:upd (λq=>jl (bs q)) q (jl b)=λk=>jl (upd bs q b k):=by
 funext k
 unfold upd
 split<;>rfl
def imports {bs:Nat->aQ}{ep:Int}{es:List Ev}(h:iJ rs λq=>jl (bs q))(hb:aj (bs q)=0)(J:(bs q).role=4)(fG:(bs q).ep=ep)(M:q<4)(I:good es)(he:(bs q).evs=es.take (bs q).evs.length):
  ∀j,(bs q).evs.length+j<=es.length->iJ (rs++((es.drop (bs q).evs.length).take j).map λx=>fH 5 q ep 0 x) (upd (λq=>jl (bs q)) q {bs q with evs:=es.take ((bs q).evs.length+j)})
 | 0,_=>by
  rw[Nat.add_zero,<-he,take_zero,map_nil,append_nil];exact h.congr λk _=>by
   unfold upd
   split
   ·rename_i e;subst e;exact Jf (.inl J)
   rfl
 |j+1,hj=>by
  have ih:=imports h hb J fG M I he j Y;have O:(bs q).evs.length+j<es.length:=Y;have e1:(es.drop (bs q).evs.length).take (j+1)=(es.drop (bs q).evs.length).take j++[es[(bs q).evs.length+j]]:=by
   rw[nV (by rw[length_drop];omega),getElem_drop]
  have Z:good (es.take ((bs q).evs.length+j)++[es[(bs q).evs.length+j]]):=by rw[<-nV O];exact nU I
  have hb2:aj {bs q with evs:=es.take ((bs q).evs.length+j)}=0:=lK (nG (eH hb) Y _) (nU I);obtain⟨h1,h2,h3⟩:=ab5 (b:={bs q with evs:=es.take ((bs q).evs.length+j)}) hb2 J fG M (AB E I _ (getElem_mem O)) Z;rw[e1,map_append,<-append_assoc];have:=ih.snoc (q:=q) h2 M E (by rw[upd_same];exact h1);refine this.congr λk _=>?_;unfold upd
  split
  ·dsimp only;rw[<-nV O,Nat.add_assoc]
  rfl
def JL {bs:Nat->aQ}{r:cB}{x:aQ}(h:iJ rs λq=>jl (bs q))(J:q<4)(M:aG r=0)(I:r.queue=q)(O:eD (jl (bs q)) r=(jl x,0)):iJ (rs++[r]) λk=>jl (upd bs q x k):=by
 rw[<-akT];exact h.snoc M J I O
def uN {bs:Nat->aQ}{b:aQ}{last:Bool}(Z:(bO.got q b last).ok bs):∃es,good es/\(bs q).evs=es.take (bs q).evs.length/\(bs q).evs.length<=es.length/\es=b.evs.take es.length/\es.length+(if last=true then 1 else 0)=b.evs.length/\b.ep=(bs q).ep/\
  (bO.got q b last).rs bs=((es.drop (bs q).evs.length).map λx=>fH 5 q b.ep 0 x)++if last=true then[fH 6 q b.ep 0 aH]else[]:=by
 obtain⟨h1,O,h3,h4,h5⟩:=Z;have I:∀ {es:List Ev},(bs q).evs=es.take (bs q).evs.length->(bs q).evs.length<=es.length:=λ{es} h=>by
  have:=congrArg length h;rw[length_take]at this;omega
 cases last with
 |false=>
  obtain⟨M,J⟩:=h4 E;refine⟨b.evs,O,J,I J,by rw[take_length],by simp,by rw[M],?_⟩;unfold bO.rs p8;simp
 |true=>
  obtain⟨es,M,J⟩:=h5 E;subst M;refine⟨es,Tm O,J,I J,by simp,by simp,E,?_⟩;unfold bO.rs p8;simp
def iL (h:iJ rs λq=>jl (X.bs q))(hb:∀q,q<4->aj (X.bs q)=0)(M:p.ok X.bs)(J:p.q<4):iJ (rs++p.rs X.bs) (λk=>jl (upd X.bs p.q (p.b X.bs) k))/\aj (p.b X.bs)=0:=by
 have I:=hb _ J
 cases p with
 |serve q evs op num a=>
  obtain⟨h1,h2,h3,h4⟩:=M;have I:aj (X.bs q)=0:=I;have Z:(X.bs q).role≠0:=by unfold serves at h1;omega
  have O:aj {X.bs q with evs:=evs}=0:=lK (nG (eH I) Z _) h4;have hd:=yU h1 I;have hd2:jl {X.bs q with evs:=evs}=⟨1,(X.bs q).ep,0,0,0,evs⟩:=yU (b:={X.bs q with evs:=evs}) h1 O;obtain⟨a1,a2⟩:=Tp (b:=jl (X.bs q)) (q:=q) (e:=op) (uL I) (by rw[hd]) VZ J h3 (by rw[akJ,<-h2];exact h4);refine⟨JL h J a2 E ?_,O⟩
  show eD (jl (X.bs q)) (fH 2 q (X.bs q).ep 0 op)=(jl {X.bs q with evs:=evs},0)
  rw[a1,hd2,hd,h2]
 |begun q b=>
  obtain⟨h1,e,f,rfl,h2,h3,h4,h5,h6⟩:=M;have hd:jl (X.bs q)=X.bs q:=Jf Y;obtain⟨a1,a2⟩:=agF (q:=q) I h1 h2 ⟨h3,h4⟩ J ⟨h5,h6⟩;refine⟨JL h J a2 E ?_,lK (.inr ⟨h3,h4,.inr (.inr (.inr ⟨E,h5,by show f<5;omega,E,E⟩))⟩) xk⟩
  show eD (jl (X.bs q)) _=_
  rw[hd];exact a1
 |got q b last=>
  obtain⟨es,g1,g2,g3,g4,g5,g6,g7⟩:=uN M;have Z:(X.bs q).role=4:=M.1;have hgb:good b.evs:=M.2.1;have I:aj (X.bs q)=0:=I;have hs:=eH I;unfold aZ at hs;have hi:=imports h I Z g6.symm J g1 g2 (es.length-(X.bs q).evs.length) Y;rw[show(X.bs q).evs.length+(es.length-(X.bs q).evs.length)=es.length by omega,take_length,take_of_length_le (by rw[length_drop];omega)]at hi;rw[g7]
  cases last with
  |false=>
   have e1:=(M.2.2.2.1 E).1;have e2:es=b.evs:=by rw[g4];simp only[Bool.false_eq_true,if_false,Nat.add_zero]at g5;rw[g5,take_length]
   subst e2;simp only[Bool.false_eq_true,if_false,append_nil];have hr0:(X.bs q).role≠0:=by rw[Z];decide
   have hbk:aj b=0:=by rw[e1];exact lK (nG (eH I) hr0 _) hgb
   refine⟨hi.congr λk _=>?_,hbk⟩
   show _=jl (upd X.bs q b k)
   unfold upd
   split
   ·rw[<-e1];exact(Jf (.inl (by rw[e1];exact Z))).symm
   rfl
  |true=>
   obtain⟨es',e1,e2⟩:=M.2.2.2.2 E;have e3:es=es':=by rw[g4,e1];rw[e1]at g5;simp only[if_true,length_append,length_singleton]at g5;rw[show es.length=es'.length by omega];simp
   subst e3;subst e1;have hr0:(X.bs q).role≠0:=by rw[Z];decide
   have O:aj {X.bs q with evs:=es}=0:=lK (nG (eH I) hr0 _) g1;obtain⟨a1,a2⟩:=aqS (b:={X.bs q with evs:=es}) (q:=q) O Z E J hgb;have hk:=lK (b:=⟨1,(X.bs q).ep,0,0,0,es++[aF]⟩) (uK Y Y _) hgb;simp only[if_true];rw[<-append_assoc];have:=hi.snoc (q:=q) a2 J E (by rw[upd_same];exact a1);refine⟨this.congr λk _=>?_,hk⟩
   show _=jl (upd X.bs q _ k)
   unfold upd
   split
   ·rfl
   rfl
 |fF q b at_=>
  obtain⟨h1,rfl⟩:=M;have I:aj (X.bs q)=0:=I;have hs:=eH I;unfold aZ at hs;have hd:=yU (.inr h1) I;obtain⟨a1,a2⟩:=akI (b:=jl (X.bs q)) (q:=q) (tg:=(X.bs q).tg) (uL I) (by rw[hd]) VZ J Y;rw[VZ]at a1;have hbk:aj {X.bs q with role:=3,rd:=0}=0:=lK (.inr ⟨by show 1<=(X.bs q).ep;omega,by show(X.bs q).ep<=_;omega,.inr (.inr (.inl ⟨E,by show(X.bs q).fr=0;omega,by show 0<=(X.bs q).tg;omega,by show(X.bs q).tg<5;omega,E⟩))⟩) (jB (b:=X.bs q) I);refine⟨JL h J a2 E ?_,hbk⟩
  show eD (jl (X.bs q)) (fH 3 q (X.bs q).ep (X.bs q).tg aH)=(jl {X.bs q with role:=3,rd:=0},0)
  rw[a1,Jf (b:={X.bs q with role:=3,rd:=0}) (.inr (.inr (.inl E))),hd]
  show((⟨3,(X.bs q).ep,0,(X.bs q).tg,0,(X.bs q).evs⟩:aQ),(0:Int))=(⟨3,(X.bs q).ep,(X.bs q).fr,(X.bs q).tg,0,(X.bs q).evs⟩,0)
  have:(X.bs q).fr=0:=Y;rw[this]
 |forget q b=>
  obtain⟨h1,rfl⟩:=M;have I:aj (X.bs q)=0:=I;have hs:=eH I;unfold aZ at hs;obtain⟨a1,a2⟩:=ab6 (q:=q) I h1 E J;refine⟨JL h J a2 E ?_,lK (.inl ⟨E,by show 0<=(X.bs q).ep;omega,by show(X.bs q).ep<=_;omega,E,E,E,E⟩) xk⟩
  show eD (jl (X.bs q)) _=_
  rw[Jf (.inr (.inr (.inl h1)))];exact a1
def V4 {bs:Nat->aQ}(h:∀q,q<4->aj (bs q)=0)(I:q<4):aj (jl (bs q))=0/\(jl (bs q)).role≠2:=⟨uL (h q I),Kh⟩
def acy (h:iJ rs λq=>jl (X.bs q))(Z:∀q,q<4->aj (X.bs q)=0)(hp:p.ok X.bs)(M:p.q<4)(j:Nat):
  ∃f',iJ (rs++(p.rs X.bs).take j) f'/\(∀q,q<4->q≠p.q->f' q=jl (X.bs q))/\MC X.bs p (f' p.q)/\aj (f' p.q)=0/\(f' p.q).role≠2:=by
 obtain⟨hf,hfb⟩:=iL h Z hp M;have I:∃f',iJ (rs++p.rs X.bs) f'/\(∀q,q<4->q≠p.q->f' q=jl (X.bs q))/\MC X.bs p (f' p.q)/\aj (f' p.q)=0/\(f' p.q).role≠2:=
  ⟨_,hf,λq _ hne=>by rw[upd_ne hne],.inr (.inl (by rw[upd_same])),by rw[upd_same];exact uL hfb,Kh⟩
 have zero:∃f',iJ (rs++([]:List cB)) f'/\(∀q,q<4->q≠p.q->f' q=jl (X.bs q))/\MC X.bs p (f' p.q)/\aj (f' p.q)=0/\(f' p.q).role≠2:=
  ⟨_,by rw[append_nil];exact h,λ_ _ _=>E,.inl E,uL (Z _ M),Kh⟩
 have one:∀r,p.rs X.bs=[r]-> ∃f',iJ (rs++(p.rs X.bs).take j) f'/\(∀q,q<4->q≠p.q->f' q=jl (X.bs q))/\MC X.bs p (f' p.q)/\aj (f' p.q)=0/\(f' p.q).role≠2:=λr O=>by
  cases j with
  |zero=>rw[take_zero];exact zero
  |succ j=>rw[O,take_of_length_le iQ,<-O];exact I
 cases p with
 |serve q evs op num a=>exact one _ E
 |begun q b=>exact one _ E
 |fF q b at_=>exact one _ E
 |forget q b=>exact one _ E
 |got q b last=>
  obtain⟨es,g1,g2,g3,g4,g5,g6,g7⟩:=uN hp;have O:(X.bs q).role=4:=hp.1;by_cases hj:j<=es.length-(X.bs q).evs.length
  ·have J:aj (X.bs q)=0:=Z _ M;have hi:=imports h J O g6.symm M g1 g2 j Y;have e1:((bO.got q b last).rs X.bs).take j=((es.drop (X.bs q).evs.length).take j).map λx=>fH 5 q b.ep 0 x:=by
    rw[g7,take_append_of_le_length (by rw[length_map,length_drop];omega),map_take]
   have e2:es.take ((X.bs q).evs.length+j)=b.evs.take ((X.bs q).evs.length+j):=by
    rw[g4,take_take,Nat.min_eq_left Y]
   rw[e1];refine⟨_,hi,λk _ hk=>upd_ne hk,?_,?_,?_⟩
   ·refine .inr (.inr ⟨q,b,last,j,E,?_,by omega⟩)
    show upd _ q _ q=_
    rw[upd_same,e2]
   ·show aj (upd _ q _ q)=0
    rw[upd_same];exact lK (nG (eH J) Y _) (nU g1)
   show(upd (λq=>jl (X.bs q)) q {X.bs q with evs:=es.take ((X.bs q).evs.length+j)} q).role≠2
   rw[upd_same]
   show(X.bs q).role≠2
   omega
  have:((bO.got q b last).rs X.bs).take j=(bO.got q b last).rs X.bs:=by
   refine take_of_length_le ?_;rw[g7,length_append,length_map,length_drop]
   cases last<;>simp<;>omega
  rw[this];exact I
end
def Nd.crashed (X:Nd)(keep:Int):Nd:={X.blank with up:=false,data:=(nD X.data X.syn keep).1,syn:=(nD X.data X.syn keep).2.1}
section
variable {X:Nd}{rs us:List cB}{t:List UInt8}{f:Nat->aQ}{q:Nat}{p:bO}{keep:Int}
def ES (h:oq X rs us)(hk:0<=keep):∃Z t f,GK (X.crashed keep) Z t f/\ ∀q,q<4->f q=jl (X.bs q)\/ ∃p,X.pend=some p/\p.q=q/\MC X.bs p (f q):=by
 have hm:=h.may;have hd:X.data=bI rs++bI us:=by rw[h.data,lW]
 have hl:=congrArg length hd;rw[length_append]at hl;have hs:=h.syn;obtain⟨N,h1,h2,e⟩:∃N:Nat,(bI rs).length<=N/\N<=X.data.length/\nD X.data X.syn keep=(X.data.take N,(N:Int),0):=by
  unfold nD;rw[if_pos hm,if_neg Y];by_cases c:(X.data.length:Int)-X.syn<keep
  ·rw[if_pos c];exact⟨X.data.length,by omega,Nat.le_refl _,by rw[take_length]⟩
  rw[if_neg c];refine⟨(X.syn+keep).toNat,by omega,by omega,?_⟩;rw[show(((X.syn+keep).toNat:Nat):Int)=X.syn+keep by omega]
 obtain⟨j,t,g1,g2,g3⟩:=Oq us (N-(bI rs).length) Y;have e2:X.data.take N=bI (rs++us.take j)++t:=by
  rw[hd,take_append,take_of_length_le h1,g1,lW,append_assoc]
 have J:(X.data.take N).length=N:=by rw[length_take];omega
 have O:∀f,iJ (rs++us.take j) f->(∀q,q<4->aj (f q)=0/\(f q).role≠2)->GK (X.crashed keep) (rs++us.take j) t f:=λf hf hb=>by
  have M:(X.crashed keep).data=X.data.take N:=by unfold Nd.crashed;dsimp only;rw[e]
  have hs':(X.crashed keep).syn=N:=by unfold Nd.crashed;dsimp only;rw[e]
  have:=h.len;exact⟨by rw[M,e2],g2,hf,hb,by rw[M,hs',J];omega,by rw[M,J];omega,E,E,λ_ _=>P9⟩
 cases hp:X.pend with
 |none=>
  have hu:=h.rz hp;refine⟨_,t,λq=>jl (X.bs q),O _ ?_ λq hq=>V4 h.kX hq,λq _=>.inl E⟩;rw[hu,take_nil,append_nil];exact h.tape
 |some p=>
  obtain⟨hu,hpo,hq⟩:=h.FN p hp;obtain⟨f',f1,f2,f3,f4,f5⟩:=acy h.tape h.kX hpo hq j;rw[<-hu]at f1;refine⟨_,t,f',O _ f1 λq I=>?_,λq I=>?_⟩
  ·by_cases c:q=p.q
   ·subst c;exact⟨f4,f5⟩
   rw[f2 q I c];exact V4 h.kX I
  by_cases c:q=p.q
  ·subst c;exact .inr ⟨p,E,E,f3⟩
  exact .inl (f2 q I c)
def iy (b:aQ):aQ:=⟨1,b.ep,0,0,0,b.evs++[aF]⟩
def Qb {s:Int}{f:Nat->aQ}:∀ {ql:List Nat} {rs:List cB} {g:Nat->aQ} {d:List UInt8},ql.Nodup->(∀q∈ql,q<4/\g q=f q)->iJ rs g->(∀q,q<4->aj (g q)=0)->(bI rs).length<=100000->eF s f ql (bI rs)=some d->
  ∃ws,d=bI (rs++ws)/\iJ (rs++ws) (λq=>if q∈ql/\(f q).role=1 then iy (f q)else g q)/\d.length<=100000/\ ∀q∈ql,(f q).role=1->aj (iy (f q))=0/\dK (f q)=(iy (f q),0)
 |[],rs,g,d,_,_,hT,hb,hl,h=>by
  cases h;exact⟨[],by simp,by simpa using hT,hl,by simp⟩
 |q::r,rs,g,d,hnd,hq,hT,hb,hl,h=>by
  rw[eF]at h;obtain⟨h1,h2⟩:=nodup_cons.1 hnd;obtain⟨M,J⟩:=hq q iQ;by_cases c1:(f q).role≠1
  ·rw[if_pos c1]at h;obtain⟨ws,e1,e2,e3,e4⟩:=Qb h2 (λk I=>hq k (by simp[I])) hT hb hl h;refine⟨ws,e1,e2.congr λk _=>?_,e3,λk I hr=>?_⟩
   ·by_cases e:k=q
    ·subst e;rw[if_neg (λh=>c1 h.2),if_neg (λh=>c1 h.2)]
    simp[e]
   rcases mem_cons.1 I with rfl|I
   ·exact absurd hr c1
   exact e4 k I hr
  rw[if_neg c1]at h;by_cases c2:(dK (f q)).2≠0
  ·rw[if_pos c2]at h;cases h
  rw[if_neg c2]at h;have O:=Classical.not_not.1 c1;obtain⟨k1,k2⟩:=ZO O c2
  split at h
  ·cases h
  rename_i d' hw
  obtain⟨w1,w2,w3⟩:=qx hw;have hd':d'=bI (rs++[fH 2 q (f q).ep 0 aF]):=by rw[w1,lW]
  have Z:=hb q M;obtain⟨a1,a2⟩:=Tp (b:=g q) (q:=q) (e:=aF) Z (by rw[J];exact O) E M dQ (by rw[J];exact(eP k1).2);rw[J]at a1 a2 Z;have hs:=eH Z;unfold aZ at hs;have hx:({f q with evs:=(f q).evs++[aF]}:aQ)=iy (f q):=by
   unfold iy;simp only[aQ.mk.injEq,and_true,true_and];omega
  rw[hx]at a1;have hT2:=hT.snoc (q:=q) a2 M E (by rw[J];exact a1);rw[hd']at h;obtain⟨ws,e1,e2,e3,e4⟩:=Qb h2 (g:=upd g q (iy (f q))) (λk I=>⟨(hq k (by simp[I])).1,by rw[upd_ne (λe:k=q=>h1 (e▸I))];exact(hq k (by simp[I])).2⟩) hT2
   (λk I=>by
    by_cases e:k=q
    ·subst e;rw[upd_same];exact k1
    rw[upd_ne e];exact hb k I) (by rw[<-hd'];exact w3 hl) h
  refine⟨fH 2 q (f q).ep 0 aF::ws,by rw[e1,append_assoc];rfl,?_,e3,λk I hr=>?_⟩
  ·rw[show rs++fH 2 q (f q).ep 0 aF::ws=rs++[fH 2 q (f q).ep 0 aF]++ws by rw[append_assoc];rfl];refine e2.congr λk _=>?_;by_cases e:k=q
   ·subst e;rw[if_neg (λh=>h1 h.1),upd_same,if_pos ⟨by simp,O⟩]
   rw[upd_ne e];simp[e]
  rcases mem_cons.1 I with rfl|I
  ·exact⟨k1,k2⟩
  exact e4 k I hr
end
section
variable {n q:Nat}{evs:List Ev}{an:List iR}{bs:Nat->aQ}
structure tC (m m':Cl):Prop where
 ah:m'.ah=m.ah
 off:m'.off=m.off
 fly:m'.fly=m.fly
 bK:m'.bK=m.bK
 calls:m'.calls=m.calls
def tC.refl (m:Cl):tC m m:=⟨E,E,E,E,E⟩
def tC.trans {a b c:Cl}(h:tC a b)(I:tC b c):tC a c:=⟨I.ah.trans h.ah,I.off.trans h.off,I.fly.trans h.fly,I.bK.trans h.bK,I.calls.trans h.calls⟩
def OH (m:Cl){e:Ev}{a:iR}{u:Int}:tC m (m.tell n q e a u):=⟨E,E,E,E,E⟩
def BZ:∀(il:List Nat) (m:Cl),tC m (m.recovered n q evs an il)/\(m.recovered n q evs an il).aV.length=m.aV.length+il.length
 |[],m=>⟨.refl m,E⟩
 |i::r,m=>by
  obtain⟨h1,h⟩:=BZ r (m.tell n q (evs.getD i aH) (an.getD i eT) (-1));rw[Cl.recovered];refine⟨(OH m).trans h1,?_⟩;rw[h];unfold Cl.tell;simp only[length_append,length_cons,length_nil];omega
def FP (m:Cl)(I:((m.ah n).bs q).evs.length<=2000):tC m (m.recover n q)/\(m.recover n q).aV.length<=m.aV.length+2000:=by
 unfold Cl.recover
 split
 ·exact⟨OH m,by simp[Cl.tell]⟩
 obtain⟨h1,h⟩:=BZ (n:=n) (q:=q) (evs:=((m.ah n).bs q).evs) (an:=(ay ((m.ah n).bs q).evs).2.1) ((range ((m.ah n).bs q).evs.length).drop (m.shown n q).2.toNat) m;refine⟨h1,?_⟩;rw[h,length_drop,length_range];omega
structure TA (m m':Cl)(n:Nat)(bs:Nat->aQ):Prop where
 ah:m'.ah=upd m.ah n {m.ah n with bs:=bs}
 off:m'.off=m.off
 fly:m'.fly=m.fly
 bK:m'.bK=m.bK
 calls:m'.calls=m.calls
def DL:∀(J:List Nat) (m:Cl),J.Nodup->(∀q∈J,(m.ah n).bs q=bs q/\(bs q).evs.length<=2000)->
  TA m (Cl.woken n bs J m) n (λq=>if q∈J/\(bs q).role=1 then(dK (bs q)).1 else(m.ah n).bs q)/\(Cl.woken n bs J m).aV.length<=m.aV.length+2001*J.length
 |[],m,_,_=>by
  refine⟨⟨?_,E,E,E,E⟩,Nat.le_refl _⟩
  show m.ah=_
  refine(aC ?_).symm;simp
 |q::r,m,hnd,Z=>by
  obtain⟨h1,h2⟩:=nodup_cons.1 hnd;obtain⟨hq1,hq2⟩:=Z q iQ;rw[Cl.woken];by_cases c:(bs q).role≠1
  ·rw[if_pos c];obtain⟨I,g2⟩:=DL r m h2 λk O=>Z k (by simp[O]);refine⟨⟨?_,I.off,I.fly,I.bK,I.calls⟩,by rw[length_cons];omega⟩;rw[I.ah];refine congrArg (λb=>upd m.ah n {m.ah n with bs:=b}) (funext λk=>?_);by_cases e:k=q
   ·subst e;rw[if_neg (λh=>c h.2),if_neg (λh=>c h.2)]
   simp[e]
  rw[if_neg c];obtain⟨M,r2⟩:=FP (n:=n) (q:=q) m (by rw[hq1];exact hq2);have e1:((((m.recover n q).aA n q (dK (bs q)).1).tell n q aF eT (-1)).ah)=upd m.ah n {m.ah n with bs:=upd (m.ah n).bs q (dK (bs q)).1}:=by
   show upd (m.recover n q).ah n { (m.recover n q).ah n with bs:=upd ((m.recover n q).ah n).bs q (dK (bs q)).1}=_
   rw[M.ah]
  obtain⟨I,g2⟩:=DL r (((m.recover n q).aA n q (dK (bs q)).1).tell n q aF eT (-1)) h2 λk O=>by
   rw[e1,upd_same];dsimp only;rw[upd_ne (λe:k=q=>h1 (e▸O))];exact Z k (by simp[O])
  refine⟨⟨?_,I.off.trans M.off,I.fly.trans M.fly,I.bK.trans M.bK,I.calls.trans M.calls⟩,?_⟩
  ·rw[I.ah,e1,qR,upd_same];refine congrArg (λb=>upd m.ah n {m.ah n with bs:=b}) (funext λk=>?_)
   show(if k∈r/\(bs k).role=1 then(dK (bs k)).1 else upd (m.ah n).bs q (dK (bs q)).1 k)=if k∈q::r/\(bs k).role=1 then(dK (bs k)).1 else(m.ah n).bs k
   by_cases e:k=q
   ·subst e;rw[if_neg (λh=>h1 h.1),upd_same,if_pos ⟨by simp,Classical.not_not.1 c⟩]
   rw[upd_ne e];simp[e]
  have:(((m.recover n q).aA n q (dK (bs q)).1).tell n q aF eT (-1)).aV.length=(m.recover n q).aV.length+1:=by
   unfold Cl.tell;simp[Cl.aA,Cl.put]
  rw[this]at g2;rw[length_cons];omega
end
def Src (b:aQ)(l:bG):bO->Prop
 | .serve _ _ op num a=>l.kd=0/\op=l.op/\num=l.num/\a=(iK (ay b.evs).1 l.op).2.1/\l.op.kind≠4/\b.evs.length<1999
 | .begun _ x=>l.kd=2/\x=⟨4,l.ep,l.fr,0,0,[]⟩
 | .got _ x last=>l.kd=4/\b.fr=l.fr/\b.ep=l.ep/\0<=l.at_/\l.at_<=b.evs.length/\(b.evs.drop l.at_.toNat).take l.evs.length=l.evs.take (b.evs.length-l.at_.toNat)/\b.evs.length<=l.at_.toNat+l.evs.length/\last=l.last/\x=wJ b l.at_ l.evs l.last
 | .fF _ _ a=>l.kd=3/\b.tg=l.fr/\b.ep+1=l.ep/\a=l.at_/\0<=l.at_/\l.at_<=b.evs.length
 | .forget _ _=>l.kd=6/\b.ep<l.ep
inductive Hnd (m:Cl)(n:Nat)(l:bG):Cl->Prop
 |same:Hnd m n l m
 |done (a:iR):l.kd=0->((gL ((m.ah n).bs l.q) l.op).2.2.1=false/\a=(gL ((m.ah n).bs l.q) l.op).2.1\/
   a=sw 14/\serves ((m.ah n).bs l.q)/\aX l.op=0/\fB (m.ah n).data (m.ah n).syn [fH 2 l.q ((m.ah n).bs l.q).ep 0 l.op]=none/\good (((m.ah n).bs l.q).evs++[l.op]))->Hnd m n l (m.done n l.q l.op l.num a)
 |have_:((m.ah n).bs l.q).role=4->Hnd m n l (m.have_ n l.q)
 |part (b:aQ):l.kd=3->0<=l.at_->l.at_<=((m.ah n).bs l.q).evs.length->(((m.ah n).bs l.q).role=2/\b={ (m.ah n).bs l.q with rd:=((m.ah n).bs l.q).rd+1}/\((m.ah n).bs l.q).rd≠4\/((m.ah n).bs l.q).role=3/\b=(m.ah n).bs l.q)->
   ((m.ah n).bs l.q).tg=l.fr->aj b=0->Hnd m n l ((m.aA n l.q b).part n l.q l.at_)
 |pend (p:bO) (dB:Nd) (d:List UInt8):(dB=m.ah n\/l.kd=6/\dB=(m.ah n).hear n l)->p.q=l.q->p.ok (m.ah n).bs->fB (m.ah n).data (m.ah n).syn (p.rs (m.ah n).bs)=some d->Src ((m.ah n).bs l.q) l p->Hnd m n l (m.put n {dB with data:=d,pend:=some p})
 |hear:l.kd=6->Hnd m n l (m.put n ((m.ah n).hear n l))
section
variable {m:Cl}{n:Nat}{l:bG}
def pG {X x:Nd}{rs:List cB}(h:X.write rs=some x):∃d,fB X.data X.syn rs=some d/\x={X with data:=d}:=by
 unfold Nd.write at h;rw[Option.map_eq_some_iff]at h;obtain⟨d,h1,I⟩:=h;exact⟨d,h1,I.symm⟩
def YH {X:Nd}{rs:List cB}(h:X.write rs=none):fB X.data X.syn rs=none:=by
 unfold Nd.write at h;rwa [Option.map_eq_none_iff]at h
def YI {b:aQ}{e:Ev}(h:aj b=0)(J:b.evs.length<1999)(I:(iK (ay b.evs).1 e).2.2.1=true):good (b.evs++[e]):=Ox (jB h) Y (akQ I) I
def acz (I:l.kd=0):Hnd m n l (m.serve n l):=by
 unfold Cl.serve
 split
 ·rename_i h
  exact .done _ I (.inl ⟨h,E⟩)
 rename_i h
 obtain⟨h1,J,M,h4,O,h6,h7⟩:=YF h;have Z:=YI h1 O h4;rw[h7]
 split
 ·rename_i hw
  exact .done _ I (.inr ⟨E,M,J,YH hw,Z⟩)
 rename_i x hw
 obtain⟨d,hd,rfl⟩:=pG hw;exact .pend (.serve l.q (((m.ah n).bs l.q).evs++[l.op]) l.op l.num (iK (ay ((m.ah n).bs l.q).evs).1 l.op).2.1) (m.ah n) d (.inl E) E ⟨M,E,J,Z⟩ hd ⟨I,E,E,E,h6,O⟩
def Vq (J:l.kd=2):Hnd m n l (m.offered n l):=by
 unfold Cl.offered
 split
 ·exact .same
 rename_i h
 split
 ·rename_i I
  exact .have_ (YG h I).1
 rename_i I
 obtain⟨M,O,Z,h6,h7,h8,h9⟩:=agL h I;rw[h9]
 split
 ·exact .same
 rename_i x hw
 obtain⟨d,hd,rfl⟩:=pG hw;exact .pend (.begun l.q ⟨4,l.ep,l.fr,0,0,[]⟩) (m.ah n) d (.inl E) E ⟨M,l.ep,l.fr,E,O,Z,h6,h7,h8⟩ hd ⟨J,E⟩
def YJ (hb:aj ((m.ah n).bs l.q)=0)(Z:l.kd=3):Hnd m n l (m.caught n l):=by
 unfold Cl.caught
 split
 ·exact .same
 rename_i h0
 split
 ·exact .same
 rename_i h
 obtain⟨h1,h2,h3⟩:=Rt h;have J:((m.ah n).bs l.q).tg=l.fr:=by
  by_cases e:((m.ah n).bs l.q).tg=l.fr
  ·exact e
  exact absurd (.inl e) h0
 have fG:((m.ah n).bs l.q).ep+1=l.ep:=by
  by_cases e:((m.ah n).bs l.q).ep+1=l.ep
  ·exact e
  exact absurd (.inr e) h0
 have I:=Bv hb (Classical.not_not.1 h)
 rcases h3 with⟨M,O⟩|⟨M,h6,O⟩|⟨M,h6,O⟩
 ·rw[O]at I⊢;rw[if_pos E];exact .part _ Z h1 h2 (.inr ⟨M,E⟩) J I
 ·rw[O,if_neg (by show ¬(3:Int)=_;omega)]
  split
  ·exact .same
  rename_i x hw
  obtain⟨d,hd,rfl⟩:=pG hw;exact .pend (.fF l.q { (m.ah n).bs l.q with role:=3,rd:=0} l.at_) (m.ah n) d (.inl E) E ⟨M,E⟩ hd ⟨Z,J,fG,E,h1,h2⟩
 rw[O]at I⊢;rw[if_pos E];exact .part _ Z h1 h2 (.inl ⟨M,E,λe=>h6 (.inr e)⟩) J I
def OI {b:aQ}{at_:Int}{l:List Ev}:b.evs=(Je b at_ l).take b.evs.length:=by unfold Je;rw[take_left]
def TD {b:aQ}{at_:Int}{l:List Ev}(I:0<=at_)(h1:at_<=b.evs.length)(h:b.evs.length<=at_.toNat+l.length):(Je b at_ l).length=at_.toNat+l.length:=by
 unfold Je;rw[length_append,length_drop];omega
def akU (hk:l.kd=4):Hnd m n l (m.got n l):=by
 unfold Cl.got
 split
 ·exact .same
 rename_i h0
 have hr:((m.ah n).bs l.q).role=4:=by
  by_cases e:((m.ah n).bs l.q).role=4
  ·exact e
  exact absurd (.inl e) h0
 have Z:((m.ah n).bs l.q).fr=l.fr:=by
  by_cases e:((m.ah n).bs l.q).fr=l.fr
  ·exact e
  exact absurd (.inr e) h0
 split
 ·exact .have_ hr
 split
 ·exact .same
 rename_i h2 h3
 have h:¬(cu ((m.ah n).bs l.q) l.ep l.at_ l.evs l.last).2≠0:=λe=>h3 (.inl e);have I:¬(cu ((m.ah n).bs l.q) l.ep l.at_ l.evs l.last).1.evs.length=((m.ah n).bs l.q).evs.length:=λe=>h3 (.inr e);obtain⟨g1,g2,g3,g4,g5,g6,g7,g8⟩:=acv h;rw[g8]at I⊢;have J:((m.ah n).bs l.q).evs.length<=l.at_.toNat+l.evs.length:=by
  cases M:l.last with
  |true=>exact g6 M
  |false=>
   unfold wJ Je at I;rw[if_neg (by rw[M];simp)]at I;dsimp only at I;rw[length_append,length_drop]at I;omega
 have hil:=TD g3 g4 J;have O:=jB g7;have hrs:(bO.got l.q (wJ ((m.ah n).bs l.q) l.at_ l.evs l.last) l.last).rs (m.ah n).bs=p8 l.q (wJ ((m.ah n).bs l.q) l.at_ l.evs l.last) ((m.ah n).bs l.q).evs.length (l.at_.toNat+l.evs.length) l.last:=by
  show p8 _ _ _ _ _=_
  congr 1
  unfold wJ
  cases l.last with
  |true=>simp only[if_true,length_append,length_singleton];omega
  |false=>simp only[Bool.false_eq_true,if_false];omega
 split
 ·exact .same
 rename_i x hw
 obtain⟨d,hd,rfl⟩:=pG hw;refine .pend (.got l.q (wJ ((m.ah n).bs l.q) l.at_ l.evs l.last) l.last) (m.ah n) d (.inl E) E ⟨hr,O,AB E O,λM=>?_,λM=>?_⟩ (by rw[hrs];exact hd) ⟨hk,Z,g2,g3,g4,g5,J,E,E⟩
 ·unfold wJ;rw[M,if_neg iQ];exact⟨E,OI⟩
 refine⟨Je ((m.ah n).bs l.q) l.at_ l.evs,?_,OI⟩;unfold wJ;rw[if_pos M]
def YK (I:l.kd=6):Hnd m n l (m.learnt n l):=by
 unfold Cl.learnt
 split
 ·exact .hear I
 rename_i h
 obtain⟨h1,J,M⟩:=acw h;rw[M]
 split
 ·exact .hear I
 rename_i x hw
 obtain⟨d,O,rfl⟩:=pG hw;exact .pend (.forget l.q ⟨0,((m.ah n).bs l.q).ep,0,0,0,[]⟩) ((m.ah n).hear n l) d (.inr ⟨I,E⟩) E ⟨h1,E⟩ O ⟨I,J⟩
def hnd (I:∀q,q<4->aj ((m.ah n).bs q)=0)(J:l.ok):Hnd m n l (m.handle n l):=by
 obtain⟨h1,O,M⟩:=J;unfold Cl.handle
 rcases M with h|h|h|h|h
 ·rw[if_pos h];exact acz h
 ·rw[if_neg Y,if_pos h];exact Vq h
 ·rw[if_neg Y,if_neg Y,if_pos h];exact YJ (I _ h1) h
 ·rw[if_neg Y,if_neg Y,if_neg Y,if_pos h];exact akU h
 rw[if_neg Y,if_neg Y,if_neg Y,if_neg Y];exact YK h
end
structure vG (a:Ac):Prop where
 kd:1<=a.kd/\a.kd<=10
 nd:0<=a.nd/\a.nd<=4
 qu:0<=a.qu/\a.qu<=3
 at_:0<=a.at_/\a.at_<=1048576
 kp:0<=a.kp/\a.kp<=100000
 op:a.kd=2->aX a.op=0/\a.op.kind≠4
def ME {x:Ac}(h:dz x=0):vG x:=by
 cases I:bT x.kd x.ek with
 |none=>rw[Zm I]at h;cases h
 |some l=>
  by_cases J:l.all (NJ x)=true
  ·by_cases M:fin x l=zeros
   ·have Z:=ajT ((afH I).2 M);clear h M;obtain⟨kd,nd,qu,at_,kp,ek,ep,ei,eb,eh,en⟩:=x
    rcases kinds kd ek with rfl|rfl|rfl|rfl|rfl|rfl|rfl|rfl|rfl|⟨rfl,rfl⟩|⟨rfl,rfl⟩|⟨rfl,rfl⟩|hn
    all_goals first
     |(dsimp only at I;rw[hn]at I;cases I;done)
     |(simp[bT]at I;subst I;simp[keep]at Z;simp[NJ,Ac.get,Ac.ints]at J;exact⟨by dsimp only;omega,by dsimp only;omega,by dsimp only;omega,by dsimp only;omega,by dsimp only;omega,by(intro O;first|(simp at O;done)|(refine⟨?_,by simp[Ac.op]⟩;simp[Ac.op,aX,kJ,Z,J]))⟩)
   rw[PU I J M]at h;cases h
  rw[J2 I J]at h;cases h
def jM (l:bG):Prop:=l.q<4/\l.evs.length<=3/\(l.tg= -1\/(l.tg= -2/\0<=l.fr/\l.fr<5/\l.kd=5)\/(0<=l.tg/\l.tg<5/\(l.kd=0\/l.kd=2\/l.kd=3\/l.kd=4\/l.kd=6)))/\(l.kd=0->aX l.op=0/\l.op.kind≠4)
def nk {k:Int}{P:Prop}(h:k≠0):k=0->P:=λe=>absurd e h
def jM.ok {l:bG}(h:jM l)(J:0<=l.tg):l.ok:=by
 obtain⟨h1,M,I|I|I,_⟩:=h
 ·omega
 ·omega
 exact⟨h1,by omega,I.2.2⟩
section
variable {n q:Nat}{b:aQ}{u:Int}{a:iR}{p:Pl}
def Kl:jM (lX n u a p):=⟨by show 0<4;omega,by show 0<=3;omega,.inl E,nk (by show(1:Int)≠0;decide)⟩
def Qc (h:q<4)(J:b.role=4)(I:aj b=0):jM (oh n q b):=by
 have hs:=eH I;unfold aZ at hs;refine⟨h,by show 0<=3;omega,.inr (.inr ⟨by show 0<=b.fr;omega,by show b.fr<5;omega,.inr (.inr (.inl E))⟩),nk (by show(3:Int)≠0;decide)⟩
def amI (I:b.role=2\/b.role=3)(h:aj b=0):0<=b.tg/\b.tg<5:=by
 have hs:=eH h;unfold aZ at hs;omega
def akV {at_:Int}(I:q<4)(J:aj b=0)(h:¬(gX b at_).2.2≠0):jM (FI n q b at_):=by
 obtain⟨h1,h2,h3,M⟩:=OG h;obtain⟨O,Z⟩:=amI h1 J;refine⟨I,?_,.inr (.inr ⟨O,Z,.inr (.inr (.inr (.inl E)))⟩),nk (by show(4:Int)≠0;decide)⟩
 show(gX b at_).1.length<=3
 rw[M];dsimp only;rw[length_take];omega
def agM (h:q<4)(I:b.role=2\/b.role=3)(J:aj b=0):jM (vL n q b):=by
 obtain⟨M,O⟩:=amI I J;exact⟨h,by show 0<=3;omega,.inr (.inr ⟨M,O,.inr (.inl E)⟩),nk (by show(2:Int)≠0;decide)⟩
def aq4 (h:q<4)(hn:n<5):jM (Ow n q):=⟨h,by show 0<=3;omega,.inr (.inl ⟨E,by show 0<=(n:Int);omega,by show(n:Int)<5;omega,E⟩),nk (by show(5:Int)≠0;decide)⟩
def akW (h:q<4)(hn:n<5):jM (Mw n q b):=⟨h,by show 0<=3;omega,.inr (.inl ⟨E,by show 0<=(n:Int);omega,by show(n:Int)<5;omega,E⟩),nk (by show(5:Int)≠0;decide)⟩
def akX {s:Bool}(I:q<4)(hn:n<5)(J:aj b=0):(∀l∈fV n q b s,jM l)/\(fV n q b s).length<=3:=by
 unfold fV;refine⟨λl h=>?_,?_⟩
 ·rcases mem_append.1 h with h|h
  ·rcases mem_append.1 h with h|h
   ·split at h
    ·rename_i M;rw[mem_singleton]at h;subst h;exact agM I M J
    simp at h
   split at h
   ·rw[mem_singleton]at h;subst h;exact aq4 I hn
   simp at h
  split at h
  ·rw[mem_singleton]at h;subst h;exact akW I hn
  simp at h
 rw[length_append,length_append]
 split<;>split<;>split<;>simp
end
def Cl.tot (m:Cl):Nat:=m.fly.length+((m.ah 0).inbox.length+((m.ah 1).inbox.length+((m.ah 2).inbox.length+((m.ah 3).inbox.length+(m.ah 4).inbox.length))))
def five {n:Nat}(hn:n<5):n=0\/n=1\/n=2\/n=3\/n=4:=Y
def aq5 {m m':Cl}{n d:Nat}(hn:n<5)(I:∀j,j≠n->m'.ah j=m.ah j)(h:m'.fly.length+(m'.ah n).inbox.length<=m.fly.length+(m.ah n).inbox.length+d):m'.tot<=m.tot+d:=by
 unfold Cl.tot
 rcases five hn with rfl|rfl|rfl|rfl|rfl
 ·rw[I 1 dQ,I 2 dQ,I 3 dQ,I 4 dQ];omega
 ·rw[I 0 dQ,I 2 dQ,I 3 dQ,I 4 dQ];omega
 ·rw[I 0 dQ,I 1 dQ,I 3 dQ,I 4 dQ];omega
 ·rw[I 0 dQ,I 1 dQ,I 2 dQ,I 4 dQ];omega
 rw[I 0 dQ,I 1 dQ,I 2 dQ,I 3 dQ];omega
def l9 {l:bG}{n:Nat}(h:jM l/\l.tg=n):l.ok:=h.1.ok (by rw[h.2];omega)
def OJ (m:Cl){n:Nat}(hn:n<5):m.fly.length+(m.ah n).inbox.length<=m.tot:=by
 unfold Cl.tot
 rcases five hn with rfl|rfl|rfl|rfl|rfl<;>omega
structure bY (m:Cl)(T S dV K:Nat):Prop where
 iE:∀n,n<5->GL (m.ah n)
 mR:∀l∈m.fly,jM l
 iO:∀n,n<5-> ∀l∈(m.ah n).inbox,jM l/\l.tg=n
 room:m.tot<=T
 aV:m.aV.length<=S
 bK:m.bK.length<=dV
 turn:∀n,n<5->(m.ah n).turn<=K
 calls:m.calls<=K
def bY.mono {m:Cl}{T S dV K T' S' D' K':Nat}(h:bY m T S dV K)(h1:T<=T')(J:S<=S')(M:dV<=D')(I:K<=K'):bY m T' S' D' K':=
 ⟨h.iE,h.mR,h.iO,Nat.le_trans h.room h1,Nat.le_trans h.aV J,Nat.le_trans h.bK M,λn hn=>Nat.le_trans (h.turn n hn) I,Nat.le_trans h.calls I⟩
section
variable {m m':Cl}{n:Nat}{l:bG}{rs:List cB}{T S dV K:Nat}
def bY.at_ (h:bY m T S dV K)(hn:n<5)(M:∀j,j≠n->m'.ah j=m.ah j)(O:GL (m'.ah n))(Z:∀l∈m'.fly,l∈m.fly\/jM l)(hi:∀l∈(m'.ah n).inbox,l∈(m.ah n).inbox\/(jM l/\l.tg=n))
  {c s d u:Nat} (h1:m'.fly.length+(m'.ah n).inbox.length<=m.fly.length+(m.ah n).inbox.length+c) (h2:m'.aV.length<=m.aV.length+s) (h3:m'.bK.length<=m.bK.length+d) (h4:(m'.ah n).turn<=(m.ah n).turn+u) (h5:m'.calls<=m.calls+u):bY m' (T+c) (S+s) (dV+d) (K+u):=by
 refine⟨λj I=>?_,λl J=>(Z l J).elim (h.mR l) id,λj I=>?_,?_,?_,?_,λj I=>?_,?_⟩
 ·by_cases e:j=n
  ·subst e;exact O
  rw[M j e];exact h.iE j I
 ·by_cases e:j=n
  ·subst e;exact λl J=>(hi l J).elim (h.iO j I l) id
  rw[M j e];exact h.iO j I
 ·have:=aq5 hn M h1;have:=h.room;omega
 ·have:=h.aV;omega
 ·have:=h.bK;omega
 ·by_cases e:j=n
  ·subst e;have:=h.turn j I;omega
  rw[M j e];have:=h.turn j I;omega
 have:=h.calls;omega
structure Keep (m m':Cl):Prop where
 bK:m'.bK=m.bK
 calls:m'.calls=m.calls
 off:m'.off=m.off
def Keep.refl (m:Cl):Keep m m:=⟨E,E,E⟩
def Keep.trans {a b c:Cl}(h:Keep a b)(I:Keep b c):Keep a c:=⟨I.bK.trans h.bK,I.calls.trans h.calls,I.off.trans h.off⟩
def uO {q:Nat}{op:Ev}{u:Int}{a:iR}:Keep m (m.done n q op u a)/\(m.done n q op u a).ah=m.ah/\ ∃l,jM l/\(m.done n q op u a).fly=m.fly++[l]:=by
 unfold Cl.done
 split
 ·exact⟨⟨E,E,E⟩,E,_,Kl,E⟩
 exact⟨⟨E,E,E⟩,E,_,Kl,E⟩
def pW {q:Nat}{a:Int}:Keep m (m.part n q a)/\(m.part n q a).ah=m.ah/\(m.part n q a).fly=lq n q ((m.ah n).bs q) a m.fly:=by
 unfold Cl.part lq
 split
 ·exact⟨⟨E,E,E⟩,E,E⟩
 exact⟨⟨E,E,E⟩,E,E⟩
def OL {q:Nat}{b:aQ}{a:Int}{fl:List bG}(J:q<4)(M:aj b=0):∀l∈lq n q b a fl,l∈fl\/jM l:=λl I=>by
 unfold lq at I
 split at I
 ·exact .inl I
 rename_i h
 rcases mem_append.1 I with I|I
 ·exact .inl I
 rw[mem_singleton]at I;subst I;exact .inr (akV J M h)
def acA {q:Nat}{b:aQ}{a:Int}{fl:List bG}:(lq n q b a fl).length<=fl.length+1:=by
 unfold lq
 split
 ·omega
 simp
def AJ {fl:List bG}{x:bG}(I:jM x):∀l∈fl++[x],l∈fl\/jM l:=λl h=>by
 rcases mem_append.1 h with h|h
 ·exact .inl h
 rw[mem_singleton]at h;subst h;exact .inr I
def aq6 (M:l.q<4)(h:oq (m.ah n) rs [])(hp:(m.ah n).pend=none)(H:Hnd m n l m'):(∃us,oq (m'.ah n) rs us)/\(∀x∈m'.fly,x∈m.fly\/jM x)/\Keep m m':=by
 cases H with
 |same=>exact⟨⟨_,h⟩,λx J=>.inl J,.refl m⟩
 |done a h1 h2=>
  obtain⟨O,I,l',h5,Z⟩:=uO (m:=m) (n:=n) (q:=l.q) (op:=l.op) (u:=l.num) (a:=a);exact⟨⟨[],by rw[I];exact h⟩,by rw[Z];exact AJ h5,O⟩
 |have_ h1=>exact⟨⟨[],h⟩,AJ (Qc M h1 (h.kX _ M)),⟨E,E,E⟩⟩
 |part b h1 h2 O I h5 Z=>
  obtain⟨g1,g2,g3⟩:=pW (m:=m.aA n l.q b) (n:=n) (q:=l.q) (a:=l.at_);have e:(m.aA n l.q b).ah n=(m.ah n).aA l.q b:=aW _;refine⟨⟨[],?_⟩,?_,?_⟩
  ·rw[g2,e];refine⟨h.data,h.syn,h.tape.congr λk hk=>?_,λk hk=>?_,h.rz,λp hp'=>?_,h.len⟩
   ·show jl ((m.ah n).bs k)=jl (upd (m.ah n).bs l.q b k)
    by_cases e:k=l.q
    ·rw[e,upd_same]
     rcases I with⟨I,h7,_⟩|⟨_,h7⟩
     ·rw[h7];unfold jl;rw[if_pos I,if_pos I]
     rw[h7]
    rw[upd_ne e]
   ·show aj (upd (m.ah n).bs l.q b k)=0
    by_cases e:k=l.q
    ·rw[e,upd_same];exact Z
    rw[upd_ne e];exact h.kX k hk
   exact absurd (hp'.symm.trans hp) iQ
  ·rw[g3,e,show((m.ah n).aA l.q b).bs l.q=b from upd_same _ _ _];exact OL M Z
  exact(⟨E,E,E⟩:Keep m (m.aA n l.q b)).trans g1
 |pend p dB d h1 h2 O I h5=>
  obtain⟨w1,w2,w3⟩:=qx I;have hY:dB.bs=(m.ah n).bs/\dB.syn=(m.ah n).syn:=by rcases h1 with h1|⟨_,h1⟩<;>rw[h1]<;>exact⟨E,E⟩
  refine⟨⟨p.rs (m.ah n).bs,?_⟩,λx J=>.inl J,⟨E,E,E⟩⟩;rw[aW];refine⟨?_,hY.2.trans h.syn,?_,?_,λe=>(by cases e),λp' e=>?_,w3 h.len⟩
  ·show d=_;rw[w1,h.data,append_nil,lW]
  ·dsimp only;rw[hY.1];exact h.tape
  ·dsimp only;rw[hY.1];exact h.kX
  cases e;dsimp only;rw[hY.1];exact⟨E,O,by rw[h2];exact M⟩
 |hear h1=>
  refine⟨⟨[],?_⟩,λx J=>.inl J,⟨E,E,E⟩⟩;rw[aW];exact⟨h.data,h.syn,h.tape,h.kX,h.rz,h.FN,h.len⟩
def qy {n:Nat}(P:Cl->Prop)(I:∀m l r,P m->(m.ah n).pend=none->(m.ah n).inbox=l::r->l.q<4/\P ((m.put n ((m.ah n).box r)).handle n l)):∀(k:Nat) (m:Cl),(m.ah n).inbox.length=k->P m->P (m.more n):=by
 intro k
 induction k with
 |zero=>
  intro m J h;rw[Kk (length_eq_zero_iff.1 J)];exact h
 |succ k Z=>
  intro m J h
  cases M:(m.ah n).pend with
  |some p=>rw[BU (by rw[M];simp)];exact h
  |none=>
   cases hi:(m.ah n).inbox with
   |nil=>rw[hi]at J;simp at J
   |cons l r=>
    obtain⟨O,h2⟩:=I m l r h M hi;rw[GJ M hi O];have e:=(jV (m:=m.put n ((m.ah n).box r)) (n:=n) (l:=l) O).iO;have e2:((m.put n ((m.ah n).box r)).ah n).inbox=r:=by rw[aW];rfl
    exact Z _ (by rw[e,e2];rw[hi]at J;simpa using J) h2
structure Ru (m0:Cl)(n:Nat)(rs:List cB)(m:Cl):Prop where
 up:(m.ah n).up=true
 tape:∃us,oq (m.ah n) rs us
 mV:∀j,j≠n->m.ah j=m0.ah j
 mR:∀l∈m.fly,l∈m0.fly\/jM l
 iO:∀l∈(m.ah n).inbox,l∈(m0.ah n).inbox
 cnt:m.fly.length+(m.ah n).inbox.length<=m0.fly.length+(m0.ah n).inbox.length
 aV:m.aV.length+(m.ah n).inbox.length<=m0.aV.length+(m0.ah n).inbox.length
 keep:Keep m0 m
 FJ:(m.ah n).turn=(m0.ah n).turn
def aeX {X:Nd}{r:List bG}{us:List cB}(h:oq X rs us):oq (X.box r) rs us:=⟨h.data,h.syn,h.tape,h.kX,h.rz,h.FN,h.len⟩
def qz {m1:Cl}{r:List bG}(hi:∀l∈(m.ah n).inbox,l.ok)(H:Ru m n rs m1)(hp:(m1.ah n).pend=none)(h:(m1.ah n).inbox=l::r):
  l.ok/\oq ((m1.put n ((m1.ah n).box r)).ah n) rs []/\Hnd (m1.put n ((m1.ah n).box r)) n l ((m1.put n ((m1.ah n).box r)).handle n l)/\Ru m n rs ((m1.put n ((m1.ah n).box r)).handle n l):=by
 have hl:l∈(m1.ah n).inbox:=by rw[h];simp
 have I:=hi l (H.iO l hl);obtain⟨us,hU⟩:=H.tape;have Z:=hU.rz hp;subst Z;have hq:=I.1;have M:(m1.put n ((m1.ah n).box r)).ah n=(m1.ah n).box r:=aW _;have J:oq ((m1.put n ((m1.ah n).box r)).ah n) rs []:=by rw[M];exact aeX hU
 have hH:=hnd J.kX I;refine⟨I,J,hH,?_⟩;have lH:=jV (m:=m1.put n ((m1.ah n).box r)) (n:=n) (l:=l) hq;obtain⟨g1,g2,g3⟩:=aq6 hq J (by rw[M];exact hp) hH;have ei:=lH.iO;rw[M]at ei;have e1:(m1.put n ((m1.ah n).box r)).fly=m1.fly:=rfl;have e2:(m1.put n ((m1.ah n).box r)).aV=m1.aV:=rfl;have e3:((m1.ah n).box r).inbox=r:=rfl;have c1:=H.cnt;have c2:=H.aV;have c3:=lH.fly;have c4:=lH.aV;rw[h,length_cons]at c1 c2;rw[e1]at c3;rw[e2]at c4;refine⟨by rw[lH.up,M];exact H.up,g1,λj hj=>?_,λx O=>(g2 x O).elim (H.mR x) .inr,λx O=>?_,?_,?_,H.keep.trans ((⟨E,E,E⟩:Keep m1 (m1.put n ((m1.ah n).box r))).trans g3),by rw[lH.FJ,M];exact H.FJ⟩
 ·rw[lH.mV j hj]
  show upd m1.ah n _ j=_
  rw[upd_ne hj];exact H.mV j hj
 ·rw[ei,e3]at O;exact H.iO x (by rw[h];simp[O])
 ·rw[ei,e3];omega
 rw[ei,e3];omega
def C8 (I:(m.ah n).up=true)(h:∃us,oq (m.ah n) rs us):Ru m n rs m:=⟨I,h,λ_ _=>E,λ_ h=>.inl h,λ_ h=>h,Nat.le_refl _,Nat.le_refl _,.refl m,E⟩
def Km (J:(m.ah n).up=true)(h:∃us,oq (m.ah n) rs us)(hi:∀l∈(m.ah n).inbox,l.ok):Ru m n rs (m.more n):=
 qy (n:=n) (Ru m n rs) (λ_ _ _ H M I=>by obtain⟨h1,_,_,O⟩:=qz hi H M I;exact⟨h1.1,O⟩) _ m E (C8 J h)
def zK {X:Nd}{p:bO}(J:m.ah n=X)(h:X.up=true)(M:X.pend=some p)(O:p.q<4)(Z:aj (p.b X.bs)=0)(I:p.ok X.bs):
  ∃dB:Nd,(m.step n).ah=upd m.ah n dB/\dB.bs=upd X.bs p.q (p.b X.bs)/\dB.data=X.data/\dB.syn=X.data.length/\dB.pend=none/\dB.up=true/\dB.inbox=X.inbox/\dB.turn=X.turn/\Keep m (m.step n)/\
   (∀l∈(m.step n).fly,l∈m.fly\/jM l)/\(m.step n).fly.length<=m.fly.length+1/\(m.step n).aV.length<=m.aV.length+1:=by
 cases p with
 |serve q evs op num a=>
  rw[jr J h M E I.1];exact⟨_,E,E,E,E,E,h,E,E,⟨E,E,E⟩,AJ Kl,by simp,by simp⟩
 |begun q b=>
  rw[nH J h M];obtain⟨_,e,f,rfl,_⟩:=I;exact⟨_,E,E,E,E,E,h,E,E,⟨E,E,E⟩,AJ (Qc O E Z),by simp,by simp[Cl.put]⟩
 |got q b last=>
  cases last with
  |true=>
   rw[jT J h M];exact⟨_,E,E,E,E,E,h,E,E,⟨E,E,E⟩,λl hl=>.inl hl,by simp[Cl.put],by simp⟩
  |false=>
   rw[rX J h M];have hr:b.role=4:=by
    have:=(I.2.2.2.1 E).1;rw[this];exact I.1
   exact⟨_,E,E,E,E,E,h,E,E,⟨E,E,E⟩,AJ (Qc O hr Z),by simp,by simp[Cl.put]⟩
 |fF q b at_=>
  rw[pU J h M];exact⟨_,E,E,E,E,E,h,E,E,⟨E,E,E⟩,OL O Z,acA,by simp[Cl.put]⟩
 |forget q b=>
  rw[lY J h M];exact⟨_,E,E,E,E,E,h,E,E,⟨E,E,E⟩,λl hl=>.inl hl,by simp[Cl.put],by simp[Cl.put]⟩
def acB {X dB:Nd}{p:bO}{us:List cB}(h:oq X rs us)(O:X.pend=some p)(J:dB.bs=upd X.bs p.q (p.b X.bs))(M:dB.data=X.data)(hs:dB.syn=X.data.length)(hn:dB.pend=none):oq dB (rs++us) []:=by
 obtain⟨Z,I,hq⟩:=h.FN p O;obtain⟨h1,h2⟩:=iL h.tape h.kX I hq;refine⟨by rw[M,h.data,append_nil],by rw[hs,h.data],?_,λk hk=>?_,λ_=>E,λp' e=>(by rw[hn]at e;cases e),by rw[M];exact h.len⟩
 ·rw[J,Z];exact h1
 rw[J];by_cases e:k=p.q
 ·rw[e,upd_same];exact h2
 rw[upd_ne e];exact h.kX k hk
def OM (h:bY m T S dV K)(hn:n<5):bY (m.step n) (T+3) (S+T+1) dV (K+1):=by
 cases M:(m.ah n).up with
 |false=>rw[mG M];exact h.mono Y Y Y Y
 |true=>
  obtain⟨rs,us,O⟩:=(h.iE n hn).sG M;have hT:=OJ m hn;have hT2:=h.room
  cases hp:(m.ah n).pend with
  |some p=>
   obtain⟨h1,h2,h3⟩:=O.FN p hp;obtain⟨_,hf⟩:=iL O.tape O.kX h2 h3;obtain⟨dB,y1,y2,y3,y4,y5,y6,y7,y8,y9,y10,y11,y12⟩:=zK E M hp h3 hf h2;have eY:(m.step n).ah n=dB:=by rw[y1];exact upd_same _ _ _
   have hUY:=acB O hp y2 y3 y4 y5;refine(h.at_ (c:=1) (s:=1) (d:=0) (u:=0) hn (λj hj=>by rw[y1,upd_ne hj]) ?_ y10 ?_ ?_ y12 (by rw[y9.bK];omega) (by rw[eY,y8];omega) (by rw[y9.calls];omega)).mono Y Y Y Y
   ·rw[eY];exact .inl ⟨y6,_,_,hUY⟩
   ·rw[eY,y7];exact λl J=>.inl J
   rw[eY,y7];omega
  |none=>
   have R:=Km M ⟨us,O⟩ λl J=>l9 (h.iO n hn l J);have c:=R.cnt;have c2:=R.aV;obtain⟨Z,I⟩:=R.tape;rw[jq M hp]
   split
   ·rename_i hp2
    have e:(((m.more n).jU n).ah n)={ (m.more n).ah n with turn:=((m.more n).ah n).turn+1}:=aW _;have hqq:((m.more n).ah n).turn % 4<4:=mod_lt _ dQ;obtain⟨d1,d2⟩:=akX (n:=n) (s:=((m.more n).ah n).sure (((m.more n).ah n).turn % 4)) hqq hn (I.kX _ hqq);refine(h.at_ (c:=3) (s:=T) (d:=0) (u:=1) hn (λj hj=>?_) ?_ (λl J=>?_) ?_ ?_ ?_ ?_ ?_ ?_).mono Y Y Y Y
    ·show upd (m.more n).ah n _ j=_
     rw[upd_ne hj];exact R.mV j hj
    ·rw[e];exact .inl ⟨R.up,rs,Z,⟨I.data,I.syn,I.tape,I.kX,I.rz,I.FN,I.len⟩⟩
    ·rcases mem_append.1 J with J|J
     ·exact R.mR l J
     exact .inr (d1 l J)
    ·rw[e];exact λl J=>.inl (R.iO l J)
    ·rw[e]
     show((m.more n).fly++_).length+((m.more n).ah n).inbox.length<=_
     rw[length_append];have:=d2;omega
    ·show(m.more n).aV.length<=_;omega
    ·show(m.more n).bK.length<=_;rw[R.keep.bK];omega
    ·rw[e];show((m.more n).ah n).turn+1<=_;rw[R.FJ];exact Nat.le_refl _
    show(m.more n).calls<=_;rw[R.keep.calls];omega
   refine(h.at_ (c:=0) (s:=T) (d:=0) (u:=0) hn R.mV (.inl ⟨R.up,rs,Z,I⟩) R.mR (λl J=>.inl (R.iO l J)) Y Y (by rw[R.keep.bK];omega) (by rw[R.FJ];omega) (by rw[R.keep.calls];omega)).mono Y Y Y Y
def GN (h:bY m T S dV K)(O:jM l):bY (m.come l) (T+1) S (dV+1) K:=by
 have M:=h.room;have J:∀fl,({m with fly:=fl}:Cl).tot+m.fly.length=m.tot+fl.length:=λfl=>by unfold Cl.tot;dsimp only;omega
 obtain⟨hq,hv,h1|⟨h1,Z,h3,_⟩|⟨h1,Z,h3⟩,_⟩:=id O
 ·have e:m.come l={m with bK:=m.bK++[l.bK]}:=if_pos h1;rw[e];exact⟨h.iE,h.mR,h.iO,by show m.tot<=_;omega,h.aV,by show(m.bK++_).length<=_;have:=h.bK;simp;omega,h.turn,h.calls⟩
 ·unfold Cl.come;rw[if_neg Y,if_pos h1]
  split
  ·refine⟨h.iE,λx I=>?_,h.iO,?_,h.aV,by have:=h.bK;show m.bK.length<=_;omega,h.turn,h.calls⟩
   ·rcases mem_append.1 I with I|I
    ·exact h.mR x I
    rw[mem_singleton]at I;subst I;exact⟨hq,by show 0<=3;omega,.inr (.inr ⟨Z,h3,.inr (.inr (.inr (.inr E)))⟩),nk (by show(6:Int)≠0;decide)⟩
   have:=J (m.fly++[lg l.fr l.q (aI (dG m.off l) l.q).1]);rw[length_append,length_singleton]at this
   show Cl.tot {m with fly:=_}<=_
   omega
  exact⟨h.iE,h.mR,h.iO,by show m.tot<=_;omega,h.aV,by have:=h.bK;show m.bK.length<=_;omega,h.turn,h.calls⟩
 have hn:l.tg.toNat<5:=Y;unfold Cl.come;rw[if_neg Y,if_neg Y]
 split
 ·rename_i hu
  have e:(m.put l.tg.toNat {m.ah l.tg.toNat with inbox:=(m.ah l.tg.toNat).inbox++[l]}).ah l.tg.toNat=(m.ah l.tg.toNat).box ((m.ah l.tg.toNat).inbox++[l]):=aW _;obtain⟨rs,us,hU⟩:=(h.iE _ hn).sG hu;refine(h.at_ (m':=m.put l.tg.toNat {m.ah l.tg.toNat with inbox:=(m.ah l.tg.toNat).inbox++[l]}) (c:=1) (s:=0) (d:=0) (u:=0) hn (λj hj=>upd_ne hj) (by rw[e];exact .inl ⟨hu,rs,us,aeX hU⟩) (λx I=>.inl I) ?_ ?_ (Nat.le_refl _) (Nat.le_refl _) (by rw[e];exact Nat.le_refl _) (Nat.le_refl _)).mono Y Y Y Y
  ·rw[e];intro x I
   rcases mem_append.1 I with I|I
   ·exact .inl I
   rw[mem_singleton]at I;subst I;exact .inr ⟨O,by omega⟩
  rw[e]
  show m.fly.length+((m.ah l.tg.toNat).inbox++[l]).length<=_
  rw[length_append,length_singleton];omega
 exact h.mono Y Y Y Y
def Lf:∀(ls:List bG) {m:Cl} {T dV:Nat},bY m T S dV K->(∀l∈ls,jM l)->bY (ls.foldl Cl.come m) (T+ls.length) S (dV+ls.length) K
 |[],m,T,dV,h,_=>h
 |l::ls,m,T,dV,h,I=>(Lf ls (GN h (I l iQ)) λx J=>I x (by simp[J])).mono jQ (Nat.le_refl _) jQ (Nat.le_refl _)
def TF (h:bY m T S dV K):bY m.all T S (dV+T) K:=by
 have I:=h.room;have J:bY {m with fly:=[]} (T-m.fly.length) S dV K:=by
  refine⟨h.iE,λl M=>by simp at M,h.iO,?_,h.aV,h.bK,h.turn,h.calls⟩;unfold Cl.tot at I⊢;dsimp only[length_nil];omega
 have O:m.fly.length<=T:=by unfold Cl.tot at I;omega
 exact(Lf m.fly J h.mR).mono Y (Nat.le_refl _) Y (Nat.le_refl _)
def acC {at_:Nat}{c s:Bool}(h:bY m T S dV K):bY (m.pick at_ c s) (T+1) S (dV+1) K:=by
 unfold Cl.pick
 split
 ·exact h.mono Y Y Y Y
 rename_i l I
 have J:jM l:=h.mR l (mem_of_getElem? I);have h1:bY (if s=true then m else{m with fly:=m.fly.eraseIdx (at_ % m.fly.length)}) T S dV K:=by
  split
  ·exact h
  refine⟨h.iE,λx M=>h.mR x (mem_of_mem_eraseIdx M),h.iO,?_,h.aV,h.bK,h.turn,h.calls⟩;have:=h.room;have O:=length_eraseIdx_le m.fly (at_ % m.fly.length);unfold Cl.tot at this⊢;dsimp only;omega
 dsimp only
 split
 ·exact GN h1 J
 exact h1.mono Y Y Y Y
def acD {q:Nat}(h:bY m T S dV K)(hn:n<5)(J:q<4):bY (m.make n q) T S dV K:=by
 unfold Cl.make
 split
 ·exact h
 rename_i Z
 have hu:(m.ah n).up=true:=by
  cases e:(m.ah n).up with
  |true=>rfl
  |false=>exact absurd (.inl e) Z
 have hp:(m.ah n).pend=none:=by
  cases e:(m.ah n).pend with
  |none=>rfl
  |some p=>exact absurd (.inr (.inl (by rw[e];rfl))) Z
 split
 ·exact h
 rename_i h1
 obtain⟨h2,h3,h4⟩:=akS h1;rw[h4]
 split
 ·exact h
 rename_i x hw
 obtain⟨d,hd,rfl⟩:=pG hw;obtain⟨rs,us,I⟩:=(h.iE n hn).sG hu;have M:=I.rz hp;subst M;obtain⟨w1,w2,w3⟩:=qx hd;obtain⟨_,a2⟩:=P6 (q:=q) (I.kX q J) h2 h3 J;have O:aj ⟨1,1,0,0,0,[]⟩=0:=lK (uK Y Y _) xk;refine h.at_ (m':={m.put n {m.ah n with data:=d,syn:=d.length,bs:=upd (m.ah n).bs q ⟨1,1,0,0,0,[]⟩}with off:=(rU m.off q n).1,shown:=iw m.shown n q (1,0)}) (c:=0) (s:=0) (d:=0) (u:=0) hn (λj hj=>upd_ne hj) ?_ (λx hx=>.inl hx) ?_ ?_ (Nat.le_refl _) (Nat.le_refl _) ?_ (Nat.le_refl _)
 ·refine .inl ⟨?_,rs++[fH 1 q 1 0 aH],[],?_⟩
  ·show(upd m.ah n _ n).up=true;rw[upd_same];exact hu
  show oq (upd m.ah n _ n) _ _
  rw[upd_same];refine⟨?_,?_,?_,λk hk=>?_,λ_=>E,λp e=>?_,w3 I.len⟩
  ·show d=_;rw[w1,I.data,append_nil,append_nil,lW]
  ·show(d.length:Int)=_;rw[w1,I.data,append_nil,lW]
  ·refine JL (x:=⟨1,1,0,0,0,[]⟩) I.tape J (w2 _ iQ) E ?_;rw[Jf (.inr (.inl h2)),a2];rfl
  ·show aj (upd (m.ah n).bs q _ k)=0
   by_cases e:k=q
   ·rw[e,upd_same];exact O
   rw[upd_ne e];exact I.kX k hk
  exact absurd (e.symm.trans hp) iQ
 ·show ∀l∈(upd m.ah n _ n).inbox,_;rw[upd_same];exact λl hl=>.inl hl
 ·show m.fly.length+(upd m.ah n _ n).inbox.length<=_;rw[upd_same];exact Nat.le_refl _
 show(upd m.ah n _ n).turn<=_;rw[upd_same];exact Nat.le_refl _
def nI {d:Dir}{q:Int}(h:¬(aI d q).2≠0):(aI d q).1.node.toNat<5/\0<=(aI d q).1.node/\(aI d q).1=d.at q.toNat:=by
 obtain⟨h1,Z,M,O,I⟩:=Ih (Classical.not_not.1 h);unfold yK at I
 rcases I with⟨I,J⟩|I
 ·exfalso
  apply O;generalize aI d q=r at*;obtain⟨⟨a,b⟩,c⟩:=r;dsimp only at I J⊢;rw[I,J];rfl
 exact⟨by omega,by omega,M⟩
def ZP {bs:Nat->aQ}{q:Nat}{p:bO}{tg:Int}(I:(bs q).role=1)(h:p.ok bs):p.rs (upd bs q ⟨2,(bs q).ep,0,tg,0,(bs q).evs⟩)=p.rs bs/\p.ok (upd bs q ⟨2,(bs q).ep,0,tg,0,(bs q).evs⟩):=by
 cases p with
 |serve k evs op num a=>
  simp only[bO.ok,bO.rs]at h⊢;by_cases e:k=q
  ·subst e;rw[upd_same];exact⟨E,.inr E,h.2⟩
  rw[upd_ne e];exact⟨E,h⟩
 |begun k b=>
  simp only[bO.ok]at h⊢;refine⟨E,?_⟩;by_cases e:k=q
  ·subst e;exfalso;have:=h.1;omega
  rw[upd_ne e];exact h
 |got k b last=>
  simp only[bO.ok,bO.rs]at h⊢;by_cases e:k=q
  ·subst e;exfalso;have:=h.1;omega
  rw[upd_ne e];exact⟨E,h⟩
 |fF k b a=>
  simp only[bO.ok]at h⊢;refine⟨E,?_⟩;by_cases e:k=q
  ·subst e;exfalso;have:=h.1;omega
  rw[upd_ne e];exact h
 |forget k b=>
  simp only[bO.ok,bO.rs]at h⊢;by_cases e:k=q
  ·subst e;exfalso;have:=h.1;omega
  rw[upd_ne e];exact⟨E,h⟩
def acE {q:Nat}{tg:Int}(h:bY m T S dV K)(hq:q<4):bY (m.move q tg) T S dV K:=by
 unfold Cl.move
 split
 ·exact h
 rename_i h0
 have hw:¬(aI m.off q).2≠0:=λe=>h0 (.inl e);obtain⟨hn,_,_⟩:=nI hw;have hu:(m.ah (aI m.off q).1.node.toNat).up=true:=by
  cases e:(m.ah (aI m.off q).1.node.toNat).up with
  |true=>rfl
  |false=>exact absurd (.inr (.inr e)) h0
 generalize hnn:(aI m.off q).1.node.toNat=n at*
 split
 ·rename_i h1
  obtain⟨g1,g2,g3,g4⟩:=go_ok h1.1;rw[g4];obtain⟨rs,us,hU⟩:=(h.iE n hn).sG hu;have hs:=eH (hU.kX q hq);unfold aZ at hs;have hok:aj ⟨2,((m.ah n).bs q).ep,0,tg,0,((m.ah n).bs q).evs⟩=0:=lK (.inr ⟨by dsimp only;omega,by dsimp only;omega,.inr (.inl ⟨E,E,g2,by dsimp only;omega,by dsimp only;omega,by dsimp only;omega⟩)⟩) (jB (b:=(m.ah n).bs q) (hU.kX q hq));have hd:∀k,jl ((m.ah n).bs k)=jl (upd (m.ah n).bs q ⟨2,((m.ah n).bs q).ep,0,tg,0,((m.ah n).bs q).evs⟩ k):=λk=>by
   by_cases e:k=q
   ·rw[e,upd_same,yU (.inl g1) (hU.kX q hq)];rfl
   rw[upd_ne e]
  have e:((m.aA n q ⟨2,((m.ah n).bs q).ep,0,tg,0,((m.ah n).bs q).evs⟩).ah n)=(m.ah n).aA q ⟨2,((m.ah n).bs q).ep,0,tg,0,((m.ah n).bs q).evs⟩:=aW _;refine h.at_ (m':=m.aA n q ⟨2,((m.ah n).bs q).ep,0,tg,0,((m.ah n).bs q).evs⟩) (c:=0) (s:=0) (d:=0) (u:=0) hn (λj hj=>upd_ne hj) ?_ (λx hx=>.inl hx) (by rw[e];exact λl hl=>.inl hl) (by rw[e];exact Nat.le_refl _) (Nat.le_refl _) (Nat.le_refl _) (by rw[e];exact Nat.le_refl _) (Nat.le_refl _);rw[e];refine .inl ⟨hu,rs,us,⟨hU.data,hU.syn,hU.tape.congr λk _=>hd k,λk hk=>?_,hU.rz,λp hp=>?_,hU.len⟩⟩
  ·show aj (upd (m.ah n).bs q _ k)=0
   by_cases e:k=q
   ·rw[e,upd_same];exact hok
   rw[upd_ne e];exact hU.kX k hk
  obtain⟨p1,p2,p3⟩:=hU.FN p hp;exact⟨by rw[p1];exact(ZP (tg:=tg) g1 p2).1.symm,(ZP (tg:=tg) g1 p2).2,p3⟩
 exact h
end
section
variable {m:Cl}{n:Nat}{T S dV K:Nat}
def YL {keep:Int}(h:bY m T S dV K)(hn:n<5)(M:0<=keep):bY (m.crash n keep) T S dV K:=by
 unfold Cl.crash
 split
 ·rename_i O
  obtain⟨rs,us,Z⟩:=(h.iE n hn).sG O;obtain⟨I,t,f,J,_⟩:=ES Z M;have e:(m.put n ((m.ah n).crashed keep)).ah n=(m.ah n).crashed keep:=aW _;refine h.at_ (m':=m.put n ((m.ah n).crashed keep)) (c:=0) (s:=0) (d:=0) (u:=0) hn (λj hj=>upd_ne hj) (by rw[e];exact .inr ⟨E,I,t,f,J⟩) (λx hx=>.inl hx) ?_ ?_ (Nat.le_refl _) (Nat.le_refl _) ?_ (Nat.le_refl _)
  ·rw[e,J.iO];simp
  ·rw[e,J.iO];show m.fly.length+0<=_;omega
  rw[e];exact Nat.le_refl _
 exact h
def sM (h:GL (m.ah n)):(m.ah n).up=true/\m.start n=m\/(m.ah n).up=false/\ ∃rs t f,GK (m.ah n) rs t f/\(m.start n=m\/ ∃ws,
  let m1:=m.put n { (m.ah n).blank with up:=true,data:=bI (rs++ws),syn:=(bI (rs++ws)).length,bs:=bg (m.ah n).data (m.ah n).syn}
  m.start n=Cl.woken n (bg (m.ah n).data (m.ah n).syn) [0,1,2,3] m1/\(bI (rs++ws)).length<=100000/\
  eF (jA (m.ah n).data (m.ah n).syn).2.1 (bg (m.ah n).data (m.ah n).syn) [0,1,2,3] (jA (m.ah n).data (m.ah n).syn).1=some (bI (rs++ws))/\
  TA m1 (m.start n) n (λq=>if q∈[0,1,2,3]/\(bg (m.ah n).data (m.ah n).syn q).role=1 then iy (bg (m.ah n).data (m.ah n).syn q)else bg (m.ah n).data (m.ah n).syn q)/\
  (m.start n).aV.length<=m.aV.length+8004/\oq ((m.start n).ah n) (rs++ws) []/\
  ∀q,q<4->(f q).role=1->aj (iy (f q))=0):=by
 cases hu:(m.ah n).up with
 |true=>exact .inl ⟨E,by unfold Cl.start;rw[if_pos hu]⟩
 |false=>
  refine .inr ⟨E,?_⟩;obtain⟨rs,t,f,M⟩:=h.at7 hu;refine⟨rs,t,f,M,?_⟩;obtain⟨r1,r2,r3⟩:=M.rd;have J:m.start n=match eF (jA (m.ah n).data (m.ah n).syn).2.1 (bg (m.ah n).data (m.ah n).syn) [0,1,2,3] (jA (m.ah n).data (m.ah n).syn).1 with
   |none=>m
   |some d=>Cl.woken n (bg (m.ah n).data (m.ah n).syn) [0,1,2,3] (m.put n { (m.ah n).blank with up:=true,data:=d,syn:=d.length,bs:=bg (m.ah n).data (m.ah n).syn}):=by
   unfold Cl.start;rw[if_neg (by rw[hu];simp)]
   all_goals rfl
  cases hw:eF (jA (m.ah n).data (m.ah n).syn).2.1 (bg (m.ah n).data (m.ah n).syn) [0,1,2,3] (jA (m.ah n).data (m.ah n).syn).1 with
  |none=>rw[hw]at J;exact .inl J
  |some d=>
   rw[hw]at J;refine .inr ?_;have O:∀q∈[0,1,2,3],q<4:=by decide
   have hin:∀q,q<4->q∈[0,1,2,3]:=by decide
   have hll:(bI rs).length<=100000:=by
    have h1:=M.len;rw[M.data,length_append]at h1;omega
   have hw':=hw;rw[r1]at hw';obtain⟨ws,e1,e2,e3,e4⟩:=Qb (g:=f) dQ (λq I=>⟨O q I,(r3 q (O q I)).symm⟩) M.tape (λq I=>(M.kX q I).1) hll hw';subst e1;refine⟨ws,J,e3,E,?_⟩;have hev:∀q∈[0,1,2,3],(bg (m.ah n).data (m.ah n).syn q).evs.length<=2000:=λq I=>by
    rw[r3 q (O q I)];exact kF (jB (M.kX q (O q I)).1)
   obtain⟨g1,g2⟩:=DL (n:=n) (bs:=bg (m.ah n).data (m.ah n).syn) [0,1,2,3] (m.put n { (m.ah n).blank with up:=true,data:=bI (rs++ws),syn:=(bI (rs++ws)).length,bs:=bg (m.ah n).data (m.ah n).syn}) dQ λq I=>⟨by rw[aW],hev q I⟩;have hbs:(λq=>if q∈[0,1,2,3]/\(bg (m.ah n).data (m.ah n).syn q).role=1 then(dK (bg (m.ah n).data (m.ah n).syn q)).1 else((m.put n { (m.ah n).blank with up:=true,data:=bI (rs++ws),syn:=(bI (rs++ws)).length,bs:=bg (m.ah n).data (m.ah n).syn}).ah n).bs q)=
     λq=>if q∈[0,1,2,3]/\(bg (m.ah n).data (m.ah n).syn q).role=1 then iy (bg (m.ah n).data (m.ah n).syn q)else bg (m.ah n).data (m.ah n).syn q:=by
    funext q
    rw[aW];by_cases c:q∈[0,1,2,3]/\(bg (m.ah n).data (m.ah n).syn q).role=1
    ·rw[if_pos c,if_pos c,(e4 q c.1 c.2).2]
    rw[if_neg c,if_neg c]
   have Z:m.start n=Cl.woken n (bg (m.ah n).data (m.ah n).syn) [0,1,2,3] (m.put n { (m.ah n).blank with up:=true,data:=bI (rs++ws),syn:=(bI (rs++ws)).length,bs:=bg (m.ah n).data (m.ah n).syn}):=J;rw[hbs,<-Z]at g1;rw[<-Z]at g2;refine⟨g1,g2,?_,λq I hr=>?_⟩
   ·have e:(m.start n).ah n={ (m.ah n).blank with up:=true,data:=bI (rs++ws),syn:=(bI (rs++ws)).length,bs:=λq=>if q∈[0,1,2,3]/\(bg (m.ah n).data (m.ah n).syn q).role=1 then iy (bg (m.ah n).data (m.ah n).syn q)else bg (m.ah n).data (m.ah n).syn q}:=by
     rw[g1.ah,upd_same,aW]
    rw[e];have hbb:∀q,q<4->aj (if q∈[0,1,2,3]/\(bg (m.ah n).data (m.ah n).syn q).role=1 then iy (bg (m.ah n).data (m.ah n).syn q)else bg (m.ah n).data (m.ah n).syn q)=0:=λq I=>by
     split
     ·rename_i c;exact(e4 q c.1 c.2).1
     rw[r3 q I];exact(M.kX q I).1
    refine⟨by rw[append_nil],E,e2.congr λq I=>?_,hbb,λ_=>E,λp hp=>(by cases hp),e3⟩;dsimp only;by_cases c:q∈[0,1,2,3]/\(bg (m.ah n).data (m.ah n).syn q).role=1
    ·rw[if_pos c,if_pos c];rfl
    rw[if_neg c,if_neg c,r3 q I];exact(kG (M.kX q I).2).symm
   have:=(e4 q (hin q I) (by rw[r3 q I];exact hr)).1;rwa [r3 q I]at this
def base_start (h:bY m T S dV K)(hn:n<5):bY (m.start n) T (S+8004) dV K:=by
 rcases sM (h.iE n hn)with⟨_,e⟩|⟨hu,rs,t,f,hd,e|⟨ws,e1,e2,e3,W,Z,e6,e7⟩⟩
 ·rw[e];exact h.mono Y Y Y Y
 ·rw[e];exact h.mono Y Y Y Y
 have J:=W.ah;have I:(m.start n).ah n={ (m.ah n).blank with up:=true,data:=bI (rs++ws),syn:=(bI (rs++ws)).length,bs:=λq=>if q∈[0,1,2,3]/\(bg (m.ah n).data (m.ah n).syn q).role=1 then iy (bg (m.ah n).data (m.ah n).syn q)else bg (m.ah n).data (m.ah n).syn q}:=by
  rw[J,upd_same,aW]
 refine h.at_ (c:=0) (s:=8004) (d:=0) (u:=0) hn (λj M=>?_) (.inl ⟨by rw[I],rs++ws,[],e6⟩) (λx O=>.inl (by rw[W.fly]at O;exact O)) (by rw[I];intro l hl;exact absurd hl (by simp[Nd.blank])) ?_ Z (by rw[W.bK];exact Nat.le_refl _) ?_ (by rw[W.calls];exact Nat.le_refl _)
 ·rw[J,upd_ne M];exact upd_ne M
 ·rw[I,W.fly];show m.fly.length+0<=_;omega
 rw[I];exact Nat.le_refl _
def acF {l:bG}(h:bY m T S dV K)(J:jM l):bY {m with fly:=m.fly++[l],calls:=m.calls+1} (T+1) S dV (K+1):=by
 have M:=h.room;refine⟨h.iE,λx I=>?_,h.iO,?_,h.aV,h.bK,λn hn=>le_succ_of_le (h.turn n hn),by have:=h.calls;show m.calls+1<=_;omega⟩
 ·rcases mem_append.1 I with I|I
  ·exact h.mR x I
  rw[mem_singleton]at I;subst I;exact J
 unfold Cl.tot at M⊢;dsimp only;rw[length_append,length_singleton];omega
def TG {a:Ac}(h:bY m T S dV K)(M:vG a):bY (m.act a) (T+3) (S+T+8004) (dV+T+1) (K+1):=by
 obtain⟨h1,O,h3,h4,Z,h6⟩:=M;have hn:a.nd.toNat<5:=Y;have I:a.qu.toNat<4:=Y;unfold Cl.act
 split
 ·exact(acD h hn I).mono Y Y Y Y
 split
 ·rename_i J
  exact(acF h ⟨I,by show 0<=3;omega,.inr (.inr ⟨O.1,by show a.nd<5;omega,.inl E⟩),λ_=>h6 J⟩).mono Y Y Y Y
 split
 ·exact(OM h hn).mono Y Y Y Y
 split
 ·exact(acC h).mono Y Y Y Y
 split
 ·exact(TF h).mono Y Y Y Y
 split
 ·exact(YL h hn Z.1).mono Y Y Y Y
 split
 ·exact(base_start h hn).mono Y Y Y Y
 exact(acE h I).mono Y Y Y Y
end
def Bs (m:Cl)(k:Nat):Prop:=bY m (4*k) (500000*k) (500000*k) k
def aoc:Bs kW 0:=by
 refine⟨λn _=>.inl ⟨E,[],[],⟨E,E,iJ.nil,λq _=>by show aj bD=0;exact lK (.inl ⟨E,by decide,by decide,E,E,E,E⟩) xk,λ_=>E,λp I=>(by cases I),zero_le _⟩⟩,λl h=>(by cases h),λn _ l h=>(by cases h),Nat.le_refl _,Nat.le_refl _,Nat.le_refl _,λ_ _=>Nat.le_refl _,Nat.le_refl _⟩
def xW {m:Cl}{k:Nat}{a:Ac}(h:Bs m k)(I:vG a)(J:k<=100000):Bs (m.act a) (k+1):=by
 have:=TG h I;exact this.mono Y Y Y Y
def aeY:∀(l:List Ac) {m:Cl} {k:Nat},Bs m k->(∀a∈l,vG a)->k+l.length<=100000->Bs (m.run l) (k+l.length)
 |[],m,k,h,_,_=>h
 |a::l,m,k,h,I,J=>by
  rw[length_cons]at J;have:=aeY l (xW h (I a iQ) Y) (λx M=>I x (by simp[M])) Y;rw[length_cons,show k+(l.length+1)=k+1+l.length by omega];exact this
def YM {b:aQ}{hv:Int}(h:aj b=0):(bE b hv).1.evs.length<=b.evs.length/\(-2<=(bE b hv).1.ep/\(bE b hv).1.ep<=2000000):=by
 have e:=xq h;unfold bE;rw[if_neg (λI=>I h)];have z:bD.evs.length<=b.evs.length/\(-2<=bD.ep/\bD.ep<=2000000):=⟨zero_le _,by decide,by decide⟩
 split
 ·exact z
 split
 ·exact z
 split
 ·exact⟨Nat.le_refl _,e⟩
 split
 ·exact⟨Nat.le_refl _,e⟩
 exact⟨Nat.le_refl _,e⟩
def Nc {K:CK} {B n kn kw:Nat} {w0 w:World} {fs:List Fact} {m:Cl} {H:List LX} {x:LX} (hn:n<5) (Z:K.nb n=kn) (iC:K.wb=kw) (hu:Uk B w0) (hB1:m.fly.length<=1000000000) (hB2:m.aV.length<=1000000000000) (HW:Wd K B w0 w fs m (x::H)) (hq:x.l.q<4) (hv: ∀ q,q<4->aj ((m.ah n).bs q)=0):
    Calls tP 66 #[pV kw 0,pV kn 0,.agg (LX.row x)] w (λe w'=>e=.returned (.tuple #[])/\Wd K B w0 w' fs (m.caught n x.l) H):=by
 obtain⟨R,G,S0⟩:=HW.open hn;have hfl:R.fx.length=m.fly.length:=by rw[<-G.fly,length_map]
 have NG:=G.iE n hn;obtain⟨X,hX⟩:∃X,m.ah n=X:=⟨_,E⟩;obtain⟨z,hz⟩:∃z,R.nx n=z:=⟨_,E⟩;rw[hX,hz]at S0 NG;have hL:∀f∈R.L,f∈gD K R m fs n:=λf h=>mem_append_right _ (mem_append_right _ h);obtain⟨rr,hrr⟩:∃r,gD K R m fs n=r:=⟨_,E⟩;rw[hrr]at S0 hL;have S:St B w0 w (cN kn n X z z.pv (cF kw R m rr)):=by subst Z;subst iC;exact S0
 clear S0 HW;have hlen:=(S.own 1 E).1;rw[iG (sz:=6) (λ_=>E)]at hlen;rw[hX]at hv;obtain⟨y,hy,M,qD⟩:=NG.at_ hq;have hln:=kF (jB (M▸hv _ hq));have yX:y.b.evs.length*48<=reachBytes:=by unfold reachBytes;omega
 have Me:=xq (M▸hv _ hq);refine gK 75 func66 ?_;refine cw [0,1,2] ?_;refine zN 2 ?_;refine VN S ?_;intro b1 w2 S3;refine VN S3 ?_;intro b4 w5 S6;refine iP S6 ?_;intro b7 w8 S9;refine zN 6 ?_;refine gB S9 zr3 ?_;intro O Ht oF;refine jF (row':= #[D ((x.l.q:Nat):Int)]) 0 oF kQ ?_;intro Ea mX;refine zN 3 ?_;have jh:=mX.drew;refine fK 9 8 jh [] ?_;iterate 5 refine gU ?_
 refine gk 5 E jh (λ_ _=>kZ x.l.q) ?_;refine gk (v:=.agg (bR y.b y.A y.c)) 6 E jh (λ_ Gt=>(au E E (dS (cs:=BX.cells y) (Rd.yB (St.ord 5 Gt E) (λ_ _ h=>dh (enc:=BX.cells) (sz:=6) (λ_=>E) hy h))))) ?_;refine fC (m:=1) (r:=7) kQ ?_;refine mQ (i:=7) E E (V:=λb=>pV b 0) (row:=zB) (t:=42) jh (wn E) E E (iM E (zeroValue42 _) E) ?_;intro Ao NU lC;refine gU ?_;refine fu kQ E E E ?_;refine sa 0 lC kQ ?_;intro NP tT;refine zQ ?_;refine iX ?_;refine zN 8 ?_;by_cases h28:y.b.tg=x.l.fr
 ·refine zN 4 ?_;refine vg (v:=D (y.b.ep+1)) jc ?_;refine zN 2 ?_;by_cases h29:y.b.ep+1=x.l.ep
  ·refine zN 8 ?_;obtain⟨BR,qE⟩:∃r,bE y.b x.l.at_=r:=⟨_,E⟩;have HP:=λw h=>QO y.b.role y.b.ep y.b.fr y.b.tg y.b.rd y.A y.c y.b.evs x.l.at_ w h yX;rw[show bE ⟨y.b.role,y.b.ep,y.b.fr,y.b.tg,y.b.rd,y.b.evs⟩ x.l.at_=BR from qE]at HP;have aod:=YM (b:=y.b) (hv:=x.l.at_) (M▸hv _ hq);rw[qE]at aod;have aoe:BR.1.evs.length*48<=reachBytes:=by have:=aod.1;omega
   have acG:=aod.2;refine zN 4 ?_;refine dO eQ (HP _ (qD.1.rd tT (memT 12 E hL))) ?_;rintro _ w33 ⟨I,J,MB,rfl,T35⟩;refine⟨_,E,?_⟩;have qW:=tT.ext T35 E;refine zN 3 ?_;refine gB qW gu ?_;intro MS ZE yC;refine sa 0 yC kQ ?_;intro w39 wR;refine zN 7 ?_;by_cases h41:BR.2=0
   ·refine zN 13 ?_;by_cases h42:BR.1.role=y.b.role
    ·refine zN 5 ?_;have tQ:=wR.drew;refine fK 8 6 tQ [] ?_;iterate 6 refine gU ?_
     refine fu kQ E E E ?_;refine vv (kZ x.l.q) ?_;refine l7 (xs':=(z.bx.set x.l.q (⟨BR.1,I,J⟩:BX)).flatMap BX.cells) 8 tQ (wn E) E E E E E E wX E (bP E) (by omega) (by rw[Nat.zero_add];exact qL (enc:=BX.cells) (sz:=6) (λ_=>E) (⟨BR.1,I,J⟩:BX) _ _ (by omega)) ?_;intro VP vT;have aBR:(z.bx.set x.l.q (⟨BR.1,I,J⟩:BX))[x.l.q]? =some (⟨BR.1,I,J⟩:BX):=getElem?_set_self Y;refine zQ ?_;refine iX ?_;refine zN 8 ?_;have Cv:St B w0 VP (_::_::_::_::_::_::_::_::_::_::_::_::_::(rr++[.cK 6 I BR.1.evs.length ((BR.1.evs).flatMap Ev.cells)])):=vT.toEnd 1 E;have uH:=Cv.eG [12,12,12,12,12,12,12];have aof:BS (R.L++[.cK 6 I BR.1.evs.length ((BR.1.evs).flatMap Ev.cells)]) (⟨BR.1,I,J⟩:BX):=⟨Ro.cK (mem_append_right _ (mem_singleton.2 E)),MB⟩;refine dO eQ (Le (L:=(R.L++[.cK 6 I BR.1.evs.length ((BR.1.evs).flatMap Ev.cells)])) hn hq aBR x.l.at_ aof (memT 6 E (Xc hL)) aoe acG uH Y) ?_;rintro _ Zx ⟨rfl,A56,c57,aog,N59,aBS,aBT,wO⟩;refine⟨_,E,?_⟩;change St _ _ _ (_::_::_::(bW kw (.slice R.nA 5 R.nc) m.off A56 aog c57 m.shown R.sA m.aV R.sc R.tA m.bK R.tc m.calls)::(oL A56 aog c57)::_::_::_::_::_::_::_::_::((rr++[.cK 6 I BR.1.evs.length ((BR.1.evs).flatMap Ev.cells)])++N59))at wO;refine zQ ?_;refine bU (l':=[]) trivial (dF (oD (ig (dX (rs:=[]) (vs:=[]) E trivial ?_))));have hch:¬(y.b.tg≠x.l.fr\/y.b.ep+1≠x.l.ep):=Y;rw[Vl hX M.symm qE hch (by first|assumption|omega) (by first|assumption|omega)];rw[append_assoc]at wO;exact⟨E,Wd.fin (X':={X with bs:=upd X.bs x.l.q BR.1}) (z':={z with bx:=z.bx.set x.l.q (⟨BR.1,I,J⟩:BX)}) (N:=([.cK 6 I BR.1.evs.length ((BR.1.evs).flatMap Ev.cells)]++N59)) (Ls:=[.blk MS (bR BR.1 I J) 42,.blk Ao (bR y.b y.A y.c) 42,.blk O #[D ((x.l.q:Nat):Int)] 3,.blk b7 (LX.row x) 119,.blk b4 #[pV kn 0] 98,.blk b1 #[pV kw 0] 87]) (fA:=A56) (fc:=c57) (fx:=aog) (sA:=R.sA) (sc:=R.sc) (tA:=R.tA) (tc:=R.tc) Z iC hrr G hn wO { (NG.more:dY K _ n X z)with Rn:=Jc NG.Rn hq,Tv:=Ej (λu hu=>(NG.Tv u hu).mono λf hf=>mem_append_left _ hf) ⟨Ro.cK (mem_append_right _ (mem_append_left _ (mem_append_left _ (mem_singleton.2 rfl)))),MB⟩} (λu hu=>(aBT u hu).imp id λh=>h.mono λf hf=>by simp[hf]) E (by rw[aBS,G.fly]) mH⟩
    refine zN 10 ?_;refine cab eQ wR (ji 3 x.l.q ⟨BR.1,I,J⟩ _) ?_;intro w64 Gx;refine gB Gx wY ?_;intro b67 w68 Ak;refine sa 0 Ak kQ ?_;intro w70 sS;refine zN 7 ?_;refine jF (row':= #[D 3,D ((x.l.q:Nat):Int),D BR.1.ep,D BR.1.tg,D 0,D 0,D 0,D 0,D 0,D 0]) 0 sS kQ ?_;intro w72 tV;refine zN 7 ?_;refine Sy tV ?_;intro b74 w75 MP;have Fv:=MP.eG [15,15,15,15,15,15,15];refine dO eQ (qb (rs:=[fH 3 x.l.q BR.1.ep BR.1.tg aH]) (Ro.blk (mem_iff_getElem?.2 ⟨0,E⟩) E E) NG.xV (by exact memT 9 E hL) (le_of_ble_eq_true E) Fv) ?_;rintro _ w84 (⟨aoh,rfl,JF⟩|⟨aua,A79,c80,N81,aoh,rfl,awm,JF⟩)
    ·refine⟨_,E,?_⟩;refine zN 7 ?_;have hch:¬(y.b.tg≠x.l.fr\/y.b.ep+1≠x.l.ep):=Y;rw[Vm hX M.symm qE hch (by first|assumption|omega) (by first|assumption|omega) aoh];exact⟨E,Wd.dP (X':=X) (z':=z) (Ls:=[.blk b74 #[D 3,D ((x.l.q:Nat):Int),D BR.1.ep,D BR.1.tg,D 0,D 0,D 0,D 0,D 0,D 0] 138,.blk b67 #[D 3,D ((x.l.q:Nat):Int),D BR.1.ep,D BR.1.tg,D 0,D 0,D 0,D 0,D 0,D 0] 138,.blk MS (bR BR.1 I J) 42,.cK 6 I BR.1.evs.length ((BR.1.evs).flatMap Ev.cells),.blk Ao (bR y.b y.A y.c) 42,.blk O #[D ((x.l.q:Nat):Int)] 3,.blk b7 (LX.row x) 119,.blk b4 #[pV kn 0] 98,.blk b1 #[pV kw 0] 87]) (fA:=R.fA) (fc:=R.fc) (fx:=R.fx) (sA:=R.sA) (sc:=R.sc) (tA:=R.tA) (tc:=R.tc) Z iC hrr G hn JF NG.more (λu hu=>.inl hu) (aC hX).symm G.fly.symm mH⟩
    refine⟨_,E,?_⟩;refine zN 8 ?_;refine vv Jz ?_;refine zN 2 ?_;refine jF (row':=dM n X.up (.slice A79 aua.length c80) X.syn (.slice (aD z.bb 0) 4 4) X.hints X.sure (.slice z.iA z.ix.length z.ic) (.func (.func 94) #[] #[pV MS 0,pV b4 0,pV O 0,pV b1 0,pV b7 0]) X.turn) 0 JF kQ ?_;intro w86 Gv;refine zQ ?_;refine bU (l':=[]) trivial (oP ?_);have hch:¬(y.b.tg≠x.l.fr\/y.b.ep+1≠x.l.ep):=Y;rw[acj hX M.symm qE hch (by first|assumption|omega) (by first|assumption|omega) aoh];refine⟨E,Wd.fin (X':={X with data:=aua,pend:=some (.fF x.l.q BR.1 x.l.at_)}) (z':={z with tA:=A79,tc:=c80,pv:=.func (.func 94) #[] #[pV MS 0,pV b4 0,pV O 0,pV b1 0,pV b7 0]}) (N:=N81) (Ls:=[.blk b74 #[D 3,D ((x.l.q:Nat):Int),D BR.1.ep,D BR.1.tg,D 0,D 0,D 0,D 0,D 0,D 0] 138,.blk b67 #[D 3,D ((x.l.q:Nat):Int),D BR.1.ep,D BR.1.tg,D 0,D 0,D 0,D 0,D 0,D 0] 138,.blk MS (bR BR.1 I J) 42,.cK 6 I BR.1.evs.length ((BR.1.evs).flatMap Ev.cells),.blk Ao (bR y.b y.A y.c) 42,.blk O #[D ((x.l.q:Nat):Int)] 3,.blk b7 (LX.row x) 119,.blk b4 #[pV kn 0] 98,.blk b1 #[pV kw 0] 87]) (fA:=R.fA) (fc:=R.fc) (fx:=R.fx) (sA:=R.sA) (sc:=R.sc) (tA:=R.tA) (tc:=R.tc) Z iC hrr G hn Gv ?_ (λu hu=>.inl hu) E G.fly.symm mH⟩;refine{ (NG.more:dY K _ n X z)with xV:=awm.mono mLN,lF:=?_ }
    show p9 (K.nb n) K.wb _ _ _
    rw[Z,iC];exact⟨MS,b4,O,b1,b7,⟨BR.1,I,J⟩,x,E,(rW (mem_iff_getElem?.2 ⟨2,E⟩)),E,⟨(Ro.cK (rW (mem_iff_getElem?.2 ⟨3,E⟩))),MB⟩,(rW (mem_iff_getElem?.2 ⟨7,E⟩)),(rW (mem_iff_getElem?.2 ⟨5,E⟩)),(rW (mem_iff_getElem?.2 ⟨8,E⟩)),(rW (mem_iff_getElem?.2 ⟨6,E⟩)),E⟩
   refine zN 7 ?_;have hch:¬(y.b.tg≠x.l.fr\/y.b.ep+1≠x.l.ep):=Y;have MR:=wR.eG [13,13,13,13,13,13,13];rw[YC hX M.symm qE hch (by first|assumption|omega)];exact⟨E,Wd.dP (X':=X) (z':=z) (Ls:=[.blk MS (bR BR.1 I J) 42,.cK 6 I BR.1.evs.length ((BR.1.evs).flatMap Ev.cells),.blk Ao (bR y.b y.A y.c) 42,.blk O #[D ((x.l.q:Nat):Int)] 3,.blk b7 (LX.row x) 119,.blk b4 #[pV kn 0] 98,.blk b1 #[pV kw 0] 87]) (fA:=R.fA) (fc:=R.fc) (fx:=R.fx) (sA:=R.sA) (sc:=R.sc) (tA:=R.tA) (tc:=R.tc) Z iC hrr G hn MR NG.more (λu hu=>.inl hu) (aC hX).symm G.fly.symm mH⟩
  refine zN 8 ?_;have MQ:=tT.eG [11,11,11,11,11,11,11];rw[OE hX M.symm Y];exact⟨E,Wd.dP (X':=X) (z':=z) (Ls:=[.blk Ao (bR y.b y.A y.c) 42,.blk O #[D ((x.l.q:Nat):Int)] 3,.blk b7 (LX.row x) 119,.blk b4 #[pV kn 0] 98,.blk b1 #[pV kw 0] 87]) (fA:=R.fA) (fc:=R.fc) (fx:=R.fx) (sA:=R.sA) (sc:=R.sc) (tA:=R.tA) (tc:=R.tc) Z iC hrr G hn MQ NG.more (λu hu=>.inl hu) (aC hX).symm G.fly.symm mH⟩
 refine zN 15 ?_;have S90:=tT.eG [11,11,11,11,11,11,11];rw[OE hX M.symm Y];exact⟨E,Wd.dP (X':=X) (z':=z) (Ls:=[.blk Ao (bR y.b y.A y.c) 42,.blk O #[D ((x.l.q:Nat):Int)] 3,.blk b7 (LX.row x) 119,.blk b4 #[pV kn 0] 98,.blk b1 #[pV kw 0] 87]) (fA:=R.fA) (fc:=R.fc) (fx:=R.fx) (sA:=R.sA) (sc:=R.sc) (tA:=R.tA) (tc:=R.tc) Z iC hrr G hn S90 NG.more (λu hu=>.inl hu) (aC hX).symm G.fly.symm mH⟩
abbrev hMf (kw:Nat):Int->Option Value:=λy=>if y=6 then some (.func (.func 68) #[pV kw 0] #[])else(λy=>if y=4 then some (.func (.func 67) #[pV kw 0] #[])else(λy=>if y=3 then some (.func (.func 66) #[pV kw 0] #[])else(λy=>if y=2 then some (.func (.func 65) #[pV kw 0] #[])else(λy=>if y=0 then some (.func (.func 64) #[pV kw 0] #[])else(λ_=>none) y) y) y) y) y
abbrev hMk (kw:Nat):Obj->Prop:=qj tP 3 (hMf kw) 5
def Mg (kw:Nat) (w:World):
    Calls prog 47 #[pV kw 0] w (λe w'=> ∃b,e=.returned (.map (some b))/\St w.heap.size w w' [.loc b (hMk kw)]):=by
 have S:=St.start w;refine gK 15 func47 ?_;refine cw [0] ?_;refine zN 7 ?_;refine JZ (k:=3) S (wn E) E E E ?_;intro b1 w2 J;refine zQ ?_;refine vv Jz ?_;refine kR (e:=140) 0 J (wn E) E E E E E E underlying3 underlying141 dQ dQ ?_;intro w4 M;refine zQ ?_;refine vv Jz ?_;refine kR (e:=140) 0 M (wn E) E E E E E E underlying3 underlying141 dQ dQ ?_;intro w6 O;refine zQ ?_;refine vv Jz ?_;refine kR (e:=140) 0 O (wn E) E E E E E E underlying3 underlying141 dQ dQ ?_;intro w8 Z;refine zQ ?_;refine vv Jz ?_;refine kR (e:=140) 0 Z (wn E) E E E E E E underlying3 underlying141 dQ dQ ?_;intro w10 h;refine zQ ?_;refine vv Jz ?_;refine kR (e:=140) 0 h (wn E) E E E E E E underlying3 underlying141 dQ dQ ?_;intro w12 I;refine zN 6 ?_;exact⟨b1,E,I⟩
section
variable {K:CK}{L fs:List Fact}{B n:Nat}{w0 w:World}{A:Option Addr}
def Ca (h:Ro L 1 A 5 ((range 5).map λj=>gP (K.nb j)))(S:St B w0 w fs)(I:∀f∈L,f∈fs):∃b o,A=some ⟨b,o,none⟩:=by
 obtain⟨b,o,e,_⟩:=(h.rd S I).2 Y;exact⟨b,o,e⟩
def vN {b o:Nat}(h:Ro L 1 (some ⟨b,o,none⟩) 5 ((range 5).map λj=>gP (K.nb j)))(hn:n<5)(S:St B w0 w fs)(I:∀f∈L,f∈fs):w.cell? ⟨b,o+n*1,none⟩=some (.pointer (some ⟨K.nb n,0,none⟩)):=by
 obtain⟨b',O,e,_,J⟩:=(h.rd S I).2 Y
 cases e;have M:((range 5).map λj=>gP (K.nb j))[n*1]? =some (gP (K.nb n)):=by
  rw[Nat.mul_one,getElem?_map,getElem?_range hn];rfl
 exact J (n*1) _ M
end
def OO {P:Program}{N:Nat}{l:Slots}{o:Oper}{w:World}{x y:Bool}(h:x=y)(p:jg P N l o w (.bool x)):jg P N l o w (.bool y):=h▸p
def Cb {P:Program}{N:Nat}{l:Slots}{o:Oper}{w:World}{x y:Int}(h:x=y)(p:jg P N l o w (.int .i64 x)):jg P N l o w (.int .i64 y):=h▸p
def St.awn {B:Nat}{w0 w:World}{a:Fact}{fs N:List Fact}(S:St B w0 w (a::(fs++N))):St B w0 w (a::fs):=S.sub ((sublist_append_left fs N).cons_cons a)
def FQ {B Z n turn dc:Nat} {up:Bool} {dA:Option Addr} {data:List UInt8} {syn:Int} {Hh:Nat->Pl} {Us:Nat->Bool} {bv iv pv:Value} {w0 w:World} {fs:List Fact} {L:List Fact} {rs:List cB} {RA:Option Addr} {rc:Nat} (hrs:Ro fs 10 RA rs.length (rs.flatMap cB.cells)) (htp:Ro L 1 dA data.length (byteCells data)) (hL: ∀ f∈L,f∈fs) (hrl:rs.length<=1000000) (S:St B w0 w ((.blk Z (dM n up (.slice dA data.length dc) syn (bv) Hh Us (iv) (pv) turn) 105)::fs)):
    Calls prog 44 #[pV Z 0,.slice RA rs.length rc] w (λe w'=>(fB data syn rs=none/\e=.returned (.bool false)/\St B w0 w' ((.blk Z (dM n up (.slice dA data.length dc) syn (bv) Hh Us (iv) (pv) turn) 105)::fs))\/ ∃d' A' c' N,fB data syn rs=some d'/\e=.returned (.bool true)/\Ro (L++N) 1 A' d'.length (byteCells d')/\St B w0 w' ((.blk Z (dM n up (.slice A' d'.length c') syn (bv) Hh Us (iv) (pv) turn) 105)::(fs++N))):=by
 refine gK 34 func44 ?_;refine cw [0,1] ?_;refine zN 10 ?_;refine vv (au E E (dS (cs:=[.slice dA data.length dc,D syn]) (St.rg 0 S E (rV)))) ?_;refine gB S zh ?_;intro b1 w2 S3;refine sa 0 S3 kQ ?_;intro w4 S5;refine zN 11 ?_;refine fO (X:=Nat×(Option Addr)×Nat×(List UInt8)×(List Fact)) (λI=>[(0,pV Z 0),(5,pV b1 0),(14,.slice RA rs.length rc),(15,D ((rs.length:Nat):Int)),(16,D ((I.1:Nat):Int))]) (λI wr=>(I.1<=rs.length)/\(fB data syn rs=fB I.2.2.2.1 syn (rs.drop I.1))/\(Ro (L++I.2.2.2.2) 1 I.2.1 I.2.2.2.1.length (byteCells I.2.2.2.1))/\St B w0 wr ((.blk b1 #[.slice I.2.1 I.2.2.2.1.length I.2.2.1,D syn] 101)::(.blk Z (dM n up (.slice dA data.length dc) syn (bv) Hh Us (iv) (pv) turn) 105)::(fs++I.2.2.2.2))) (λI=>rs.length-I.1) (0,dA,dc,data,[]) ?_ ?_ ?_
 ·exact⟨zero_le _,E,by rw[append_nil];exact htp,by rw[append_nil];exact S5⟩
 ·exact zZ
 rintro⟨k,A1,c1,M,N1⟩ w6 ⟨hi8,O,J,S7⟩
 try dsimp only at hi8 O J S7
 refine bH (l':=[(0,pV Z 0),(5,pV b1 0),(14,.slice RA rs.length rc),(15,D ((rs.length:Nat):Int)),(16,D ((k:Nat):Int))]) zZ (aM (av ?_));by_cases h11:((k:Nat):Int)< ((rs.length:Nat):Int)
 ·refine zN 10 ?_;obtain⟨x,hx⟩:∃x,rs[k]? =some x:=⟨_,getElem?_eq_getElem Y⟩;refine zQ ?_;obtain⟨rb,ro,hra,_,hrc⟩:=(hrs.rd S7 (memT 2 E (λf hf=>mem_append_left _ hf))).2 Y;subst hra;refine vv (kZ k) ?_;refine vv (v:=.agg #[D x.kind,D x.queue,D x.epoch,D x.peer,D x.ev.kind,D x.ev.producer,D x.ev.id,D x.ev.body,D x.ev.aN,D x.ev.hno]) (au E E (dS (cs:=cB.cells x) (λj u hu=>by rw[Nat.add_assoc];exact hrc (k*10+j) u (dh (enc:=cB.cells) (sz:=10) (λ_=>E) hx hu)))) ?_;refine gB S7 wY ?_;intro b12 Ea mX;refine stA 0 mX kQ ?_;intro KY qK;refine zN 6 ?_;refine dO eQ (Bg (Ia A1 M.length c1 M syn x _ (J.rd qK (memT 3 E (Xc hL))))) ?_;rintro _ Gn ⟨A17,c18,rfl,T21⟩;refine⟨_,E,?_⟩;have pK:=qK.ext T21 E;refine zN 3 ?_;refine gB pK zh ?_;intro b22 JB jP;refine stA 0 jP kQ ?_;intro w25 sI;refine zN 7 ?_;by_cases h27:(iU M syn x).2.2=0
  ·have hsy:=aeT h27;rw[hsy]at sI;refine zN 8 ?_;refine stA 3 sI kQ ?_;intro Zu uD;refine zN 4 ?_;refine vv (v:=D ((k+1:Nat):Int)) jc ?_;refine zN 2 ?_;have BH:=uD.aO [2,0];have qB:=BH.eG [2,2];have uW:St B w0 Zu (_::_::((fs++N1)++[.cK 1 A17 ((iU M syn x).1.length) (byteCells ((iU M syn x).1))])):=qB.toEnd 2 E;have tX:=uW;rw[append_assoc]at tX;refine bQ (k+1,A17,c18,(iU M syn x).1,N1++[.cK 1 A17 ((iU M syn x).1.length) (byteCells ((iU M syn x).1))]) ?_ zZ (by first|omega|(dsimp only;omega));exact⟨uQ,(by dsimp only;rw[O,Jb hx,if_neg (λh=>h h27)]),(Ro.cK aeS),tX⟩
  refine zN 17 ?_;have qW:=sI.aO [3,2,1,0];exact .inl ⟨by rw[O,Jb hx,if_pos h27],E,qW.awn⟩
 refine zN 16 ?_;refine jF (row':=dM n up (.slice A1 M.length c1) syn (bv) Hh Us (iv) (pv) turn) 1 S7 kQ ?_;intro Zv sU;refine zQ ?_;refine bU (l':=[]) trivial (dF (aM (av (va ?_))));refine zN 4 ?_;have Dt:=sU.aO [0];exact .inr ⟨M,A1,c1,N1,by rw[O,drop_eq_nil_of_le Y];rfl,E,J,Dt⟩
section
variable {m:Cl}{n:Nat}{X:Nd}{l:bG}{PW:Pl×Int}
def agN (h:l.tg= -1):m.come l={m with bK:=m.bK++[l.bK]}:=if_pos h
def rG (h:l.tg= -2)(I:aI (dG m.off l) l.q=PW)(J:PW.2=0):m.come l={m with off:=dG m.off l,fly:=m.fly++[lg l.fr l.q PW.1]}:=by
 unfold Cl.come;rw[if_neg Y,if_pos h,I,if_pos J]
def rH (h:l.tg= -2)(I:aI (dG m.off l) l.q=PW)(J:¬PW.2=0):m.come l={m with off:=dG m.off l}:=by
 unfold Cl.come;rw[if_neg Y,if_pos h,I,if_neg J]
def acH (h:l.tg=((n:Nat):Int))(I:m.ah n=X)(J:X.up=true):m.come l=m.put n (X.box (X.inbox++[l])):=by
 subst I;unfold Cl.come;rw[if_neg Y,if_neg Y,h,Int.toNat_natCast,if_pos J];rfl
def acI (h:l.tg=((n:Nat):Int))(I:m.ah n=X)(J:X.up=false):m.come l=m:=by
 subst I;unfold Cl.come;rw[if_neg Y,if_neg Y,h,Int.toNat_natCast,if_neg (by rw[J];simp)]
def dY.awo {K:CK}{L:List Fact}{c:Nat}{z:NX}{A:Option Addr}{x:LX}(h:dY K L n X z)(I:Rl L x):dY K L n (X.box (X.inbox++[x.l])) {z with iA:=A,ic:=c,ix:=z.ix++[x]}:=
 ⟨h.Rn,h.Tv,h.xV,by rw[map_append,h.ixm];rfl,λu J=>(mem_append.1 J).elim (h.ixo u) λe=>by rw[mem_singleton]at e;subst e;exact I,h.lF⟩
end
def DN {K:CK} {B n kn kw:Nat} {w0 w:World} {fs:List Fact} {m:Cl} {H:List LX} {x:LX} (hn:n<5) (O:K.nb n=kn) (Z:K.wb=kw) (hu:Uk B w0) (hB1:m.fly.length<=1000000000) (hB2:m.bK.length<=1000000000000) (hB3:(m.ah n).inbox.length<=1000000000) (HW:Wd K B w0 w fs m (x::H)) (J:x.l.tg= -1\/x.l.tg= -2\/x.l.tg=((n:Nat):Int)):
    Calls prog 35 #[.pointer (some ⟨kw,0,none⟩),.agg (LX.row x)] w (λe w'=>e=.returned (.tuple #[])/\Wd K B w0 w' fs (m.come x.l) H):=by
 obtain⟨R,G,S0⟩:=HW.open hn;have hfl:R.fx.length=m.fly.length:=by rw[<-G.fly,length_map]
 have NG:=G.iE n hn;obtain⟨X,hX⟩:∃X,m.ah n=X:=⟨_,E⟩;obtain⟨z,hz⟩:∃z,R.nx n=z:=⟨_,E⟩;rw[hX,hz]at S0 NG;have hL:∀f∈R.L,f∈gD K R m fs n:=λf h=>mem_append_right _ (mem_append_right _ h);obtain⟨rr,hrr⟩:∃r,gD K R m fs n=r:=⟨_,E⟩;rw[hrr]at S0 hL;have S:St B w0 w ((.blk kn (dM n X.up (.slice z.tA X.data.length z.tc) X.syn (.slice (some ⟨z.bb,0,none⟩) 4 4) X.hints X.sure (.slice z.iA z.ix.length z.ic) (z.pv) X.turn) 105)::(.own 42 6 (.slice (some ⟨z.bb,0,none⟩) 4 4) 4 ((z.bx).flatMap BX.cells))::(fL z.iA z.ix z.ic)::(bW kw (.slice R.nA 5 R.nc) m.off R.fA R.fx R.fc m.shown R.sA m.aV R.sc R.tA m.bK R.tc m.calls)::(oL R.fA R.fx R.fc)::(oS R.sA m.aV R.sc)::(oT R.tA m.bK R.tc)::rr):=by subst O;subst Z;exact S0
 clear S0 HW;have hlen:=(S.own 1 E).1;rw[iG (sz:=6) (λ_=>E)]at hlen;obtain⟨ab,ao,qP⟩:=Ca G.arr S (memT 7 E hL);have harr:=G.arr;rw[qP]at S harr;have aJ2:z.ix.length<=1000000000:=by have:=congrArg length NG.ixm;rw[length_map]at this;rw[hX]at hB3;omega
 refine gK 106 func35 ?_;refine cw [0,1] ?_;refine zN 2 ?_;refine iP S ?_;intro b1 w2 S3;refine zN 4 ?_
 rcases J with J|J|J
 ·refine zN 8 ?_;have S4:=S3.drew;refine fK 14 10 S4 [7] ?_;iterate 5 refine gU ?_
  refine gk (v:=.slice R.tA m.bK.length R.tc) 5 E (St.del 7 S4) (λ_ aBU=>(au E E (aK (St.cl 4 aBU E av7)))) ?_;refine gU ?_;refine gk (v:=.agg #[D x.l.bK.num,D x.l.bK.ans.code,D x.l.bK.ans.fG,D x.l.bK.ans.hno,D x.l.bK.ans.body,D x.l.bK.pl.node,D x.l.bK.pl.epoch]) 7 E (St.del 7 S4) (λ_ aoi=>(au E E (dS (cs:=[D x.l.bK.num,D x.l.bK.ans.code,D x.l.bK.ans.fG,D x.l.bK.ans.hno,D x.l.bK.ans.body,D x.l.bK.pl.node,D x.l.bK.pl.epoch]) (St.rg 0 aoi E (aqU))))) ?_;refine fC (m:=5) (r:=8) kQ ?_;refine mQ (i:=8) E E (V:=λb=>.slice (some ⟨b,0,none⟩) 1 1) (row:= #[D x.l.bK.num,D x.l.bK.ans.code,D x.l.bK.ans.fG,D x.l.bK.ans.hno,D x.l.bK.ans.body,D x.l.bK.pl.node,D x.l.bK.pl.epoch]) (t:=56) S4 (wn E) E E (aP (vs:=[(0,.agg #[D x.l.bK.num,D x.l.bK.ans.code,D x.l.bK.ans.fG,D x.l.bK.ans.hno,D x.l.bK.ans.body,D x.l.bK.pl.node,D x.l.bK.pl.epoch])]) E xH kQ) ?_;intro b13 KV jh;refine gU ?_;refine fC (m:=4) (r:=9) kQ ?_;refine lu (i:=9) E E (news:=[D x.l.bK.num,D x.l.bK.ans.code,D x.l.bK.ans.fG,D x.l.bK.ans.hno,D x.l.bK.ans.body,D x.l.bK.pl.node,D x.l.bK.pl.epoch]) (xs':=(m.bK++[x.l.bK]).flatMap wS.cells) 8 jh (wn E) E E E E E E (St.mq (xs:=[D x.l.bK.num,D x.l.bK.ans.code,D x.l.bK.ans.fG,D x.l.bK.ans.hno,D x.l.bK.ans.body,D x.l.bK.pl.node,D x.l.bK.pl.epoch]) 0 jh E E E) underlying33 apE E dQ (bP E) lQ Y (jy (enc:=wS.cells) E E) ?_;intro A16 c17 MO atr att uz;refine gU ?_;refine fu kQ E E E ?_;refine zN 3 ?_;refine jF 5 uz kQ ?_ (hs:=by exact av9);intro w22 uF;refine zQ ?_;refine iX ?_;refine bU (l':=[]) trivial (gF (oP ?_));have jP:=uF.aO [1,0];rw[<-qP]at jP;have V5:m.bK.length+1=(m.bK++[x.l.bK]).length:=by simp
  rw[V5]at jP;rw[agN J];exact⟨E,Wd.dP (X':=X) (z':=z) (Ls:=[]) (fA:=R.fA) (fc:=R.fc) (fx:=R.fx) (sA:=R.sA) (sc:=R.sc) (tA:=A16) (tc:=c17) O Z hrr G hn jP NG.more (λu hu=>.inl hu) (aC hX).symm G.fly.symm mH⟩
 ·refine zN 22 ?_;by_cases uG:0<=x.l.nd
  ·refine zN 4 ?_;obtain⟨FD,JM⟩:∃r,vP m.off x.l.q x.l.ep x.l.nd=r:=⟨_,E⟩;have HF:=λw h=>Yq m.off x.l.q x.l.ep x.l.nd w h;rw[JM]at HF;refine zQ ?_;have sI:=S3.drew;refine aJ 17 sI [] ?_;refine aL 3 ?_;refine ak (v:=.agg ((m.off.cells).toArray)) 3 E sI (λ_ ach=>(au E E (dS (cs:=(m.off.cells)) (St.rg 4 ach E (xU))))) ?_;refine aL 6 ?_;refine iB (n:=6) (r:=10) (s:=14) kQ ?_ ?_
   ·refine kD 10 E eQ (HF _ (Uk.nw hu sI)) ?_;rintro _ ZE ⟨rfl,aBV⟩;refine⟨_,E,?_⟩;have yC:=sI.on aBV;refine aL 4 ?_;refine aY 14 ?_;refine lU 14 E yC ahC ?_;intro b43 QK qC;refine dR ?_;refine aY 15 ?_;refine snA 15 E 0 qC kQ ?_ (h1:=vM _);intro ZC zn;refine aL 3 ?_;refine zN 4 ?_;by_cases h49:FD.2=0
    ·refine zN 9 ?_;refine jF 5 zn kQ ?_ (h1:=vM _) (hs:=by exact an3);intro VP vT;refine zN 2 ?_;obtain⟨PW,M⟩:∃r,aI FD.1 x.l.q=r:=⟨_,E⟩;have HQ:=λw h=>nO FD.1 x.l.q w h;rw[M]at HQ;refine zQ ?_;have o8:=vT.drew;refine aJ 13 o8 [] ?_;refine aL 3 ?_;refine ak (v:=.agg (((FD.1).cells).toArray)) 3 E o8 (λ_ acd=>(au E E (dS (cs:=((FD.1).cells)) (St.rg 5 acd E (xU))))) ?_;refine aL 2 ?_;refine iB (n:=6) (r:=6) (s:=10) kQ ?_ ?_
     ·refine kD 6 E eQ (HQ _ (Uk.nw hu o8)) ?_;rintro _ w59 ⟨rfl,aBW⟩;refine⟨_,E,?_⟩;have VT:=o8.on aBW;refine aL 4 ?_;refine aY 10 ?_;refine lU 10 E VT Gi ?_;intro b65 VQ uy;refine dR ?_;refine aY 11 ?_;refine sn 11 E 0 uy kQ ?_;intro w68 Ak;refine aL 3 ?_;refine zN 4 ?_;by_cases h71:PW.2=0
      ·refine zN 14 ?_;refine vv (v:=.agg #[D 6,D (-2),D x.l.fr,D ((x.l.q:Nat):Int),D PW.1.epoch,D 0,D PW.1.node,D 0,D 0,D 0,D 0,D 0,D 0,.slice none 0 0,.bool false,D 0,D 0,D 0,D 0,D 0,D 0,D 0,D 0]) gG ?_;have Fu:=Ak.eG [7,7];refine dO eQ (gV (x:=⟨lg x.l.fr x.l.q PW.1,none,0⟩) Fu Y) ?_;rintro _ w77 ⟨rfl,A73,c74,aBX,auc,JD⟩;refine⟨_,E,?_⟩;refine zQ ?_;refine bU (l':=[]) trivial (gF (oP ?_));have Dn:=JD.aO [4,3,2];have BK:=Dn.eG [6,6,3,3,6,6,6];rw[<-qP]at BK;have I:dG m.off x.l=FD.1:=by
        unfold dG;rw[JM,if_pos Y]
       rw[rG (PW:=PW) J (by rw[I];exact M) ‹_›,I];exact⟨E,Wd.dP (X':=X) (z':=z) (Ls:=[]) (fA:=A73) (fc:=c74) (fx:=aBX) (sA:=R.sA) (sc:=R.sc) (tA:=R.tA) (tc:=R.tc) O Z hrr G hn BK NG.more (by rw[auc];exact oW (iW E)) (aC hX).symm (by rw[auc,map_append,G.fly];rfl) mH⟩
      refine zN 7 ?_;have vK:=Ak.aO [2,1,0];rw[<-qP]at vK;have I:dG m.off x.l=FD.1:=by
       unfold dG;rw[JM,if_pos Y]
      rw[rH (PW:=PW) J (by rw[I];exact M) ‹_›,I];exact⟨E,Wd.dP (X':=X) (z':=z) (Ls:=[]) (fA:=R.fA) (fc:=R.fc) (fx:=R.fx) (sA:=R.sA) (sc:=R.sc) (tA:=R.tA) (tc:=R.tc) O Z hrr G hn vK NG.more (λu hu=>.inl hu) (aC hX).symm G.fly.symm mH⟩
     refine lU 10 E o8 Gi ?_;intro b82 w83 Fx;refine dR ?_;refine aY 6 ?_;refine kD 6 E eQ (HQ _ (Uk.nw hu Fx)) ?_;rintro _ w85 ⟨rfl,atm⟩;refine⟨_,E,?_⟩;have BM:=Fx.on atm;refine aL 4 ?_;refine aY 11 ?_;refine sn 11 E 0 BM kQ ?_;intro w91 zm;refine aL 3 ?_;refine zN 4 ?_;by_cases h94:PW.2=0
     ·refine zN 14 ?_;refine vv (v:=.agg #[D 6,D (-2),D x.l.fr,D ((x.l.q:Nat):Int),D PW.1.epoch,D 0,D PW.1.node,D 0,D 0,D 0,D 0,D 0,D 0,.slice none 0 0,.bool false,D 0,D 0,D 0,D 0,D 0,D 0,D 0,D 0]) gG ?_;have K6:=zm.eG [7,7];refine dO eQ (gV (x:=⟨lg x.l.fr x.l.q PW.1,none,0⟩) K6 Y) ?_;rintro _ ahL ⟨rfl,A96,c97,aBY,aud,wu⟩;refine⟨_,E,?_⟩;refine zQ ?_;refine bU (l':=[]) trivial (gF (oP ?_));have tq:=wu.aO [4,3,2];have vF:=tq.eG [6,6,3,3,6,6,6];rw[<-qP]at vF;have I:dG m.off x.l=FD.1:=by
       unfold dG;rw[JM,if_pos Y]
      rw[rG (PW:=PW) J (by rw[I];exact M) ‹_›,I];exact⟨E,Wd.dP (X':=X) (z':=z) (Ls:=[]) (fA:=A96) (fc:=c97) (fx:=aBY) (sA:=R.sA) (sc:=R.sc) (tA:=R.tA) (tc:=R.tc) O Z hrr G hn vF NG.more (by rw[aud];exact oW (iW E)) (aC hX).symm (by rw[aud,map_append,G.fly];rfl) mH⟩
     refine zN 7 ?_;have yM:=zm.aO [2,1,0];rw[<-qP]at yM;have I:dG m.off x.l=FD.1:=by
      unfold dG;rw[JM,if_pos Y]
     rw[rH (PW:=PW) J (by rw[I];exact M) ‹_›,I];exact⟨E,Wd.dP (X':=X) (z':=z) (Ls:=[]) (fA:=R.fA) (fc:=R.fc) (fx:=R.fx) (sA:=R.sA) (sc:=R.sc) (tA:=R.tA) (tc:=R.tc) O Z hrr G hn yM NG.more (λu hu=>.inl hu) (aC hX).symm G.fly.symm mH⟩
    refine zN 6 ?_;obtain⟨PW,M⟩:∃r,aI m.off x.l.q=r:=⟨_,E⟩;have HQ:=λw h=>nO m.off x.l.q w h;rw[M]at HQ;refine ny (X:=Nat) (λxv=>[(0,.pointer (some ⟨kw,0,none⟩)),(3,.pointer (some ⟨b1,0,none⟩)),(6,.pointer (some ⟨xv,0,none⟩)),(7,D PW.2)]) (λxv wr=>St B w0 wr ((.blk xv #[D PW.1.node,D PW.1.epoch] 27)::(.blk b43 (((FD.1).cells).toArray) 30)::(.blk b1 (LX.row x) 119)::(.blk kn (dM n X.up (.slice z.tA X.data.length z.tc) X.syn (.slice (some ⟨z.bb,0,none⟩) 4 4) X.hints X.sure (.slice z.iA z.ix.length z.ic) (z.pv) X.turn) 105)::(.own 42 6 (.slice (some ⟨z.bb,0,none⟩) 4 4) 4 ((z.bx).flatMap BX.cells))::(fL z.iA z.ix z.ic)::(bW kw (.slice (some ⟨ab,ao,none⟩) 5 R.nc) m.off R.fA R.fx R.fc m.shown R.sA m.aV R.sc R.tA m.bK R.tc m.calls)::(oL R.fA R.fx R.fc)::(oS R.sA m.aV R.sc)::(oT R.tA m.bK R.tc)::rr)) ?_ ?_
    ·have sF:=zn.drew;refine aJ 13 sF [] ?_;refine aL 3 ?_;refine ak (v:=.agg ((m.off.cells).toArray)) 3 E sF (λ_ awp=>(au E E (dS (cs:=(m.off.cells)) (St.rg 5 awp E (xU))))) ?_;refine aL 2 ?_;refine iB (n:=6) (r:=6) (s:=10) kQ ?_ ?_
     ·refine kD 6 E eQ (HQ _ (Uk.nw hu sF)) ?_;rintro _ abo ⟨rfl,awq⟩;refine⟨_,E,?_⟩;have vE:=sF.on awq;refine aL 4 ?_;refine aY 10 ?_;refine lU 10 E vE Gi ?_;intro aBZ asu uE;refine dR ?_;refine aY 11 ?_;refine sn 11 E 0 uE kQ ?_;intro abL CV;refine aL 3 ?_;refine dL aBZ ?_ jW;exact CV
     refine lU 10 E sF Gi ?_;intro aB0 anG xM;refine dR ?_;refine aY 6 ?_;refine kD 6 E eQ (HQ _ (Uk.nw hu xM)) ?_;rintro _ aa3 ⟨rfl,adW⟩;refine⟨_,E,?_⟩;have CU:=xM.on adW;refine aL 4 ?_;refine aY 11 ?_;refine sn 11 E 0 CU kQ ?_;intro abd zR;refine aL 3 ?_;refine dL aB0 ?_ jW;exact zR
    rintro aB1 asg EB
    try dsimp only at EB
    refine bH (l':=[(0,.pointer (some ⟨kw,0,none⟩)),(3,.pointer (some ⟨b1,0,none⟩)),(6,.pointer (some ⟨aB1,0,none⟩)),(7,D PW.2)]) jW (aM (av (vm ?_)));by_cases aJ3:PW.2=0
    ·refine zN 14 ?_;refine vv (v:=.agg #[D 6,D (-2),D x.l.fr,D ((x.l.q:Nat):Int),D PW.1.epoch,D 0,D PW.1.node,D 0,D 0,D 0,D 0,D 0,D 0,.slice none 0 0,.bool false,D 0,D 0,D 0,D 0,D 0,D 0,D 0,D 0]) gG ?_;have Gs:=EB.eG [7,7];refine dO eQ (gV (x:=⟨lg x.l.fr x.l.q PW.1,none,0⟩) Gs Y) ?_;rintro _ azM ⟨rfl,ahI,ahJ,awr,amJ,RV⟩;refine⟨_,E,?_⟩;refine zQ ?_;refine bU (l':=[]) trivial (gF (oP ?_));have RX:=RV.aO [4,3,2];have NR:=RX.eG [6,6,3,3,6,6,6];rw[<-qP]at NR;have I:dG m.off x.l=m.off:=by
      unfold dG
      first|rw[JM,if_neg Y]|rw[if_neg Y]
     rw[rG (PW:=PW) J (by rw[I];exact M) ‹_›,I];exact⟨E,Wd.dP (X':=X) (z':=z) (Ls:=[]) (fA:=ahI) (fc:=ahJ) (fx:=awr) (sA:=R.sA) (sc:=R.sc) (tA:=R.tA) (tc:=R.tc) O Z hrr G hn NR NG.more (by rw[amJ];exact oW (iW E)) (aC hX).symm (by rw[amJ,map_append,G.fly];rfl) mH⟩
    refine zN 7 ?_;have zS:=EB.aO [2,1,0];rw[<-qP]at zS;have I:dG m.off x.l=m.off:=by
     unfold dG
     first|rw[JM,if_neg Y]|rw[if_neg Y]
    rw[rH (PW:=PW) J (by rw[I];exact M) ‹_›,I];exact⟨E,Wd.dP (X':=X) (z':=z) (Ls:=[]) (fA:=R.fA) (fc:=R.fc) (fx:=R.fx) (sA:=R.sA) (sc:=R.sc) (tA:=R.tA) (tc:=R.tc) O Z hrr G hn zS NG.more (λu hu=>.inl hu) (aC hX).symm G.fly.symm mH⟩
   refine lU 14 E sI ahC ?_;intro aue aB2 IW;refine dR ?_;refine aY 10 ?_;refine kD 10 E eQ (HF _ (Uk.nw hu IW)) ?_;rintro _ atC ⟨rfl,awt⟩;refine⟨_,E,?_⟩;have Mf:=IW.on awt;refine aL 4 ?_;refine aY 15 ?_;refine snA 15 E 0 Mf kQ ?_ (h1:=vM _);intro asA NT;refine aL 3 ?_;refine zN 4 ?_;by_cases aJ4:FD.2=0
   ·refine zN 9 ?_;refine jF 5 NT kQ ?_ (h1:=vM _) (hs:=by exact an3);intro aJ5 Xe;refine zN 2 ?_;obtain⟨PW,M⟩:∃r,aI FD.1 x.l.q=r:=⟨_,E⟩;have HQ:=λw h=>nO FD.1 x.l.q w h;rw[M]at HQ;refine ny (X:=Nat) (λxv=>[(0,.pointer (some ⟨kw,0,none⟩)),(3,.pointer (some ⟨b1,0,none⟩)),(6,.pointer (some ⟨xv,0,none⟩)),(7,D PW.2)]) (λxv wr=>St B w0 wr ((.blk xv #[D PW.1.node,D PW.1.epoch] 27)::(.blk aue (((FD.1).cells).toArray) 30)::(.blk b1 (LX.row x) 119)::(.blk kn (dM n X.up (.slice z.tA X.data.length z.tc) X.syn (.slice (some ⟨z.bb,0,none⟩) 4 4) X.hints X.sure (.slice z.iA z.ix.length z.ic) (z.pv) X.turn) 105)::(.own 42 6 (.slice (some ⟨z.bb,0,none⟩) 4 4) 4 ((z.bx).flatMap BX.cells))::(fL z.iA z.ix z.ic)::(bW kw (.slice (some ⟨ab,ao,none⟩) 5 R.nc) FD.1 R.fA R.fx R.fc m.shown R.sA m.aV R.sc R.tA m.bK R.tc m.calls)::(oL R.fA R.fx R.fc)::(oS R.sA m.aV R.sc)::(oT R.tA m.bK R.tc)::rr)) ?_ ?_
    ·have yJ:=Xe.drew;refine aJ 13 yJ [] ?_;refine aL 3 ?_;refine ak (v:=.agg (((FD.1).cells).toArray)) 3 E yJ (λ_ awu=>(au E E (dS (cs:=((FD.1).cells)) (St.rg 5 awu E (xU))))) ?_;refine aL 2 ?_;refine iB (n:=6) (r:=6) (s:=10) kQ ?_ ?_
     ·refine kD 6 E eQ (HQ _ (Uk.nw hu yJ)) ?_;rintro _ anQ ⟨rfl,awv⟩;refine⟨_,E,?_⟩;have WY:=yJ.on awv;refine aL 4 ?_;refine aY 10 ?_;refine lU 10 E WY Gi ?_;intro acr aBC abJ;refine dR ?_;refine aY 11 ?_;refine sn 11 E 0 abJ kQ ?_;intro aJ6 aB3;refine aL 3 ?_;refine dL acr ?_ jW;exact aB3
     refine lU 10 E yJ Gi ?_;intro aB4 aJ7 auf;refine dR ?_;refine aY 6 ?_;refine kD 6 E eQ (HQ _ (Uk.nw hu auf)) ?_;rintro _ aJ8 ⟨rfl,aww⟩;refine⟨_,E,?_⟩;have anR:=auf.on aww;refine aL 4 ?_;refine aY 11 ?_;refine sn 11 E 0 anR kQ ?_;intro aBE R9;refine aL 3 ?_;refine dL aB4 ?_ jW;exact R9
    rintro aB5 aJ9 aoj
    try dsimp only at aoj
    refine bH (l':=[(0,.pointer (some ⟨kw,0,none⟩)),(3,.pointer (some ⟨b1,0,none⟩)),(6,.pointer (some ⟨aB5,0,none⟩)),(7,D PW.2)]) jW (aM (av (vm ?_)));by_cases aKa:PW.2=0
    ·refine zN 14 ?_;refine vv (v:=.agg #[D 6,D (-2),D x.l.fr,D ((x.l.q:Nat):Int),D PW.1.epoch,D 0,D PW.1.node,D 0,D 0,D 0,D 0,D 0,D 0,.slice none 0 0,.bool false,D 0,D 0,D 0,D 0,D 0,D 0,D 0,D 0]) gG ?_;have aB6:=aoj.eG [7,7];refine dO eQ (gV (x:=⟨lg x.l.fr x.l.q PW.1,none,0⟩) aB6 Y) ?_;rintro _ aKb ⟨rfl,aB7,aB8,awx,amK,aB9⟩;refine⟨_,E,?_⟩;refine zQ ?_;refine bU (l':=[]) trivial (gF (oP ?_));have ahQ:=aB9.aO [4,3,2];have aug:=ahQ.eG [6,6,3,3,6,6,6];rw[<-qP]at aug;have I:dG m.off x.l=FD.1:=by
      unfold dG;rw[JM,if_pos Y]
     rw[rG (PW:=PW) J (by rw[I];exact M) ‹_›,I];exact⟨E,Wd.dP (X':=X) (z':=z) (Ls:=[]) (fA:=aB7) (fc:=aB8) (fx:=awx) (sA:=R.sA) (sc:=R.sc) (tA:=R.tA) (tc:=R.tc) O Z hrr G hn aug NG.more (by rw[amK];exact oW (iW E)) (aC hX).symm (by rw[amK,map_append,G.fly];rfl) mH⟩
    refine zN 7 ?_;have auh:=aoj.aO [2,1,0];rw[<-qP]at auh;have I:dG m.off x.l=FD.1:=by
     unfold dG;rw[JM,if_pos Y]
    rw[rH (PW:=PW) J (by rw[I];exact M) ‹_›,I];exact⟨E,Wd.dP (X':=X) (z':=z) (Ls:=[]) (fA:=R.fA) (fc:=R.fc) (fx:=R.fx) (sA:=R.sA) (sc:=R.sc) (tA:=R.tA) (tc:=R.tc) O Z hrr G hn auh NG.more (λu hu=>.inl hu) (aC hX).symm G.fly.symm mH⟩
   refine zN 6 ?_;obtain⟨PW,M⟩:∃r,aI m.off x.l.q=r:=⟨_,E⟩;have HQ:=λw h=>nO m.off x.l.q w h;rw[M]at HQ;refine ny (X:=Nat) (λxv=>[(0,.pointer (some ⟨kw,0,none⟩)),(3,.pointer (some ⟨b1,0,none⟩)),(6,.pointer (some ⟨xv,0,none⟩)),(7,D PW.2)]) (λxv wr=>St B w0 wr ((.blk xv #[D PW.1.node,D PW.1.epoch] 27)::(.blk aue (((FD.1).cells).toArray) 30)::(.blk b1 (LX.row x) 119)::(.blk kn (dM n X.up (.slice z.tA X.data.length z.tc) X.syn (.slice (some ⟨z.bb,0,none⟩) 4 4) X.hints X.sure (.slice z.iA z.ix.length z.ic) (z.pv) X.turn) 105)::(.own 42 6 (.slice (some ⟨z.bb,0,none⟩) 4 4) 4 ((z.bx).flatMap BX.cells))::(fL z.iA z.ix z.ic)::(bW kw (.slice (some ⟨ab,ao,none⟩) 5 R.nc) m.off R.fA R.fx R.fc m.shown R.sA m.aV R.sc R.tA m.bK R.tc m.calls)::(oL R.fA R.fx R.fc)::(oS R.sA m.aV R.sc)::(oT R.tA m.bK R.tc)::rr)) ?_ ?_
   ·have acJ:=NT.drew;refine aJ 13 acJ [] ?_;refine aL 3 ?_;refine ak (v:=.agg ((m.off.cells).toArray)) 3 E acJ (λ_ awy=>(au E E (dS (cs:=(m.off.cells)) (St.rg 5 awy E (xU))))) ?_;refine aL 2 ?_;refine iB (n:=6) (r:=6) (s:=10) kQ ?_ ?_
    ·refine kD 6 E eQ (HQ _ (Uk.nw hu acJ)) ?_;rintro _ aKc ⟨rfl,awz⟩;refine⟨_,E,?_⟩;have aCa:=acJ.on awz;refine aL 4 ?_;refine aY 10 ?_;refine lU 10 E aCa Gi ?_;intro aCb aKd anX;refine dR ?_;refine aY 11 ?_;refine sn 11 E 0 anX kQ ?_;intro aKe abO;refine aL 3 ?_;refine dL aCb ?_ jW;exact abO
    refine lU 10 E acJ Gi ?_;intro aCc aKf aui;refine dR ?_;refine aY 6 ?_;refine kD 6 E eQ (HQ _ (Uk.nw hu aui)) ?_;rintro _ aKg ⟨rfl,awC⟩;refine⟨_,E,?_⟩;have aCd:=aui.on awC;refine aL 4 ?_;refine aY 11 ?_;refine sn 11 E 0 aCd kQ ?_;intro aKh anY;refine aL 3 ?_;refine dL aCc ?_ jW;exact anY
   rintro aCe aKi aok
   try dsimp only at aok
   refine bH (l':=[(0,.pointer (some ⟨kw,0,none⟩)),(3,.pointer (some ⟨b1,0,none⟩)),(6,.pointer (some ⟨aCe,0,none⟩)),(7,D PW.2)]) jW (aM (av (vm ?_)));by_cases aKj:PW.2=0
   ·refine zN 14 ?_;refine vv (v:=.agg #[D 6,D (-2),D x.l.fr,D ((x.l.q:Nat):Int),D PW.1.epoch,D 0,D PW.1.node,D 0,D 0,D 0,D 0,D 0,D 0,.slice none 0 0,.bool false,D 0,D 0,D 0,D 0,D 0,D 0,D 0,D 0]) gG ?_;have aCf:=aok.eG [7,7];refine dO eQ (gV (x:=⟨lg x.l.fr x.l.q PW.1,none,0⟩) aCf Y) ?_;rintro _ aKk ⟨rfl,aCg,aCh,awD,amL,ahR⟩;refine⟨_,E,?_⟩;refine zQ ?_;refine bU (l':=[]) trivial (gF (oP ?_));have aCi:=ahR.aO [4,3,2];have auj:=aCi.eG [6,6,3,3,6,6,6];rw[<-qP]at auj;have I:dG m.off x.l=m.off:=by
     unfold dG
     first|rw[JM,if_neg Y]|rw[if_neg Y]
    rw[rG (PW:=PW) J (by rw[I];exact M) ‹_›,I];exact⟨E,Wd.dP (X':=X) (z':=z) (Ls:=[]) (fA:=aCg) (fc:=aCh) (fx:=awD) (sA:=R.sA) (sc:=R.sc) (tA:=R.tA) (tc:=R.tc) O Z hrr G hn auj NG.more (by rw[amL];exact oW (iW E)) (aC hX).symm (by rw[amL,map_append,G.fly];rfl) mH⟩
   refine zN 7 ?_;have auk:=aok.aO [2,1,0];rw[<-qP]at auk;have I:dG m.off x.l=m.off:=by
    unfold dG
    first|rw[JM,if_neg Y]|rw[if_neg Y]
   rw[rH (PW:=PW) J (by rw[I];exact M) ‹_›,I];exact⟨E,Wd.dP (X':=X) (z':=z) (Ls:=[]) (fA:=R.fA) (fc:=R.fc) (fx:=R.fx) (sA:=R.sA) (sc:=R.sc) (tA:=R.tA) (tc:=R.tc) O Z hrr G hn auk NG.more (λu hu=>.inl hu) (aC hX).symm G.fly.symm mH⟩
  refine zN 6 ?_;obtain⟨PW,M⟩:∃r,aI m.off x.l.q=r:=⟨_,E⟩;have HQ:=λw h=>nO m.off x.l.q w h;rw[M]at HQ;refine ny (X:=Nat) (λxv=>[(0,.pointer (some ⟨kw,0,none⟩)),(3,.pointer (some ⟨b1,0,none⟩)),(6,.pointer (some ⟨xv,0,none⟩)),(7,D PW.2)]) (λxv wr=>St B w0 wr ((.blk xv #[D PW.1.node,D PW.1.epoch] 27)::(.blk b1 (LX.row x) 119)::(.blk kn (dM n X.up (.slice z.tA X.data.length z.tc) X.syn (.slice (some ⟨z.bb,0,none⟩) 4 4) X.hints X.sure (.slice z.iA z.ix.length z.ic) (z.pv) X.turn) 105)::(.own 42 6 (.slice (some ⟨z.bb,0,none⟩) 4 4) 4 ((z.bx).flatMap BX.cells))::(fL z.iA z.ix z.ic)::(bW kw (.slice (some ⟨ab,ao,none⟩) 5 R.nc) m.off R.fA R.fx R.fc m.shown R.sA m.aV R.sc R.tA m.bK R.tc m.calls)::(oL R.fA R.fx R.fc)::(oS R.sA m.aV R.sc)::(oT R.tA m.bK R.tc)::rr)) ?_ ?_
  ·have acL:=S3.drew;refine aJ 13 acL [] ?_;refine aL 3 ?_;refine ak (v:=.agg ((m.off.cells).toArray)) 3 E acL (λ_ awE=>(au E E (dS (cs:=(m.off.cells)) (St.rg 4 awE E (xU))))) ?_;refine aL 2 ?_;refine iB (n:=6) (r:=6) (s:=10) kQ ?_ ?_
   ·refine kD 6 E eQ (HQ _ (Uk.nw hu acL)) ?_;rintro _ aKl ⟨rfl,awF⟩;refine⟨_,E,?_⟩;have aCj:=acL.on awF;refine aL 4 ?_;refine aY 10 ?_;refine lU 10 E aCj Gi ?_;intro aCk aKm aCl;refine dR ?_;refine aY 11 ?_;refine sn 11 E 0 aCl kQ ?_;intro aKn aCm;refine aL 3 ?_;refine dL aCk ?_ jW;exact aCm
   refine lU 10 E acL Gi ?_;intro aCn aKo aul;refine dR ?_;refine aY 6 ?_;refine kD 6 E eQ (HQ _ (Uk.nw hu aul)) ?_;rintro _ aKp ⟨rfl,awG⟩;refine⟨_,E,?_⟩;have aCo:=aul.on awG;refine aL 4 ?_;refine aY 11 ?_;refine sn 11 E 0 aCo kQ ?_;intro aKq aCp;refine aL 3 ?_;refine dL aCn ?_ jW;exact aCp
  rintro aCq aKr aol
  try dsimp only at aol
  refine bH (l':=[(0,.pointer (some ⟨kw,0,none⟩)),(3,.pointer (some ⟨b1,0,none⟩)),(6,.pointer (some ⟨aCq,0,none⟩)),(7,D PW.2)]) jW (aM (av (vm ?_)));by_cases aKs:PW.2=0
  ·refine zN 14 ?_;refine vv (v:=.agg #[D 6,D (-2),D x.l.fr,D ((x.l.q:Nat):Int),D PW.1.epoch,D 0,D PW.1.node,D 0,D 0,D 0,D 0,D 0,D 0,.slice none 0 0,.bool false,D 0,D 0,D 0,D 0,D 0,D 0,D 0,D 0]) gG ?_;have aCr:=aol.eG [6,6];refine dO eQ (gV (x:=⟨lg x.l.fr x.l.q PW.1,none,0⟩) aCr Y) ?_;rintro _ aKt ⟨rfl,aCs,aCt,awH,amM,aCu⟩;refine⟨_,E,?_⟩;refine zQ ?_;refine bU (l':=[]) trivial (gF (oP ?_));have ahS:=aCu.aO [3,2];have aum:=ahS.eG [6,6,3,3,6,6,6];rw[<-qP]at aum;have I:dG m.off x.l=m.off:=by
    unfold dG
    first|rw[JM,if_neg Y]|rw[if_neg Y]
   rw[rG (PW:=PW) J (by rw[I];exact M) ‹_›,I];exact⟨E,Wd.dP (X':=X) (z':=z) (Ls:=[]) (fA:=aCs) (fc:=aCt) (fx:=awH) (sA:=R.sA) (sc:=R.sc) (tA:=R.tA) (tc:=R.tc) O Z hrr G hn aum NG.more (by rw[amM];exact oW (iW E)) (aC hX).symm (by rw[amM,map_append,G.fly];rfl) mH⟩
  refine zN 7 ?_;have aun:=aol.aO [1,0];rw[<-qP]at aun;have I:dG m.off x.l=m.off:=by
   unfold dG
   first|rw[JM,if_neg Y]|rw[if_neg Y]
  rw[rH (PW:=PW) J (by rw[I];exact M) ‹_›,I];exact⟨E,Wd.dP (X':=X) (z':=z) (Ls:=[]) (fA:=R.fA) (fc:=R.fc) (fx:=R.fx) (sA:=R.sA) (sc:=R.sc) (tA:=R.tA) (tc:=R.tc) O Z hrr G hn aun NG.more (λu hu=>.inl hu) (aC hX).symm G.fly.symm mH⟩
 refine zN 18 ?_;refine iD S3 mixed kQ ?_;refine zN 3 ?_;refine uv (v:=.slice (some ⟨ab,ao,none⟩) 5 R.nc) (λ_ awI=>(au E E (aK (St.cl 4 awI E zX)))) ?_;refine zQ ?_;refine uv (v:=D ((n:Nat):Int)) (λ_ awJ=>(J▸(au E E (aK (St.cl 0 awJ E E))))) ?_;refine uv (λ_ _=>kZ n) ?_;refine uv (v:=.pointer (some ⟨kn,0,none⟩)) (λ_ awK=>(au E E (aK (O▸vN harr hn awK (memT 8 E hL))))) ?_;refine zN 4 ?_;refine iH λaKu auo=>?_;refine zQ ?_
 cases aFV:(X.up)
 ·refine bH (l':=[(0,.pointer (some ⟨kw,0,none⟩)),(3,.pointer (some ⟨b1,0,none⟩)),(76,.bool false)]) Fb (jm E (mo (gF (oP ?_))));have aup:=auo.aO [0];rw[<-qP]at aup;rw[acI J hX ‹_›];exact⟨E,Wd.dP (X':=X) (z':=z) (Ls:=[]) (fA:=R.fA) (fc:=R.fc) (fx:=R.fx) (sA:=R.sA) (sc:=R.sc) (tA:=R.tA) (tc:=R.tc) O Z hrr G hn aup NG.more (λu hu=>.inl hu) (aC hX).symm G.fly.symm mH⟩
 refine bH (l':=[(0,.pointer (some ⟨kw,0,none⟩)),(3,.pointer (some ⟨b1,0,none⟩)),(76,.bool true)]) Fb (ku E (aM (iD auo mixed kQ ?_)));refine zN 3 ?_;refine uv (v:=.slice (some ⟨ab,ao,none⟩) 5 R.nc) (λ_ awL=>(au E E (aK (St.cl 4 awL E zX)))) ?_;refine zQ ?_;refine uv (v:=D ((n:Nat):Int)) (λ_ awM=>(J▸(au E E (aK (St.cl 0 awM E E))))) ?_;refine uv (λ_ _=>kZ n) ?_;refine uv (v:=.pointer (some ⟨kn,0,none⟩)) (λ_ awN=>(au E E (aK (O▸vN harr hn awN (memT 8 E hL))))) ?_;refine zQ ?_;refine iH λaKv aCv=>?_;refine zQ ?_;have ahV:=aCv.drew;refine fK 11 8 ahV [3] ?_;iterate 6 refine gU ?_
 refine fC (m:=4) (r:=6) kQ ?_;refine mQ (i:=6) E E (V:=λb=>.slice (some ⟨b,0,none⟩) 1 1) (row:=LX.row x) (t:=119) ahV (wn E) E E (aP (vs:=[(0,.agg (LX.row x))]) E xH kQ) ?_;intro aKw aKx auq;refine gU ?_;refine fC (m:=3) (r:=7) kQ ?_;refine aaN (i:=7) E E (news:=(LX.cells x)) (xs':=(z.ix++[x]).flatMap LX.cells) 4 auq (wn E) E E E E E E (St.mq (xs:=(LX.cells x)) 0 auq E E E) dQ underlying91 Zb E dQ (Eh _) lQ Y (jy (enc:=LX.cells) E E) ?_;intro aur aus aKy aCw;refine gU ?_;refine fu kQ E E E ?_;refine zN 2 ?_;refine jF (row':=dM n X.up (.slice z.tA X.data.length z.tc) X.syn (.slice (some ⟨z.bb,0,none⟩) 4 4) X.hints X.sure (.slice aur (z.ix.length+1) aus) (z.pv) X.turn) 2 aCw kQ ?_;intro aKz aCx;refine zQ ?_;refine iX ?_;refine bU (l':=[]) trivial (gF (oP ?_));have aom:=aCx.aO [1,0];rw[<-qP]at aom;have V5:z.ix.length+1=(z.ix++[x]).length:=by simp
 rw[V5]at aom;rw[acH J hX ‹_›];exact⟨E,Wd.dP (X':=X.box (X.inbox++[x.l])) (z':={z with iA:=aur,ic:=aus,ix:=z.ix++[x]}) (Ls:=[]) (fA:=R.fA) (fc:=R.fc) (fx:=R.fx) (sA:=R.sA) (sc:=R.sc) (tA:=R.tA) (tc:=R.tc) O Z hrr G hn aom (NG.more.awo (by rw[append_nil];exact G.hld x (mem_cons_self ..))) (λu hu=>.inl hu) E G.fly.symm mH⟩
set_option linter.unnecessarySimpa false
def V6 {α β:Type}(f:α->β):∀(l:List α) (i:Nat),(l.eraseIdx i).map f=(l.map f).eraseIdx i
 |[],_=>rfl
 |_::_,0=>rfl
 |a::l,i+1=>congrArg (f a:: ·) (V6 f l i)
def acM {m:Cl}{at_:Nat}{c s:Bool}(h:m.fly.length=0):m.pick at_ c s=m:=by
 unfold Cl.pick;rw[length_eq_zero_iff.1 h];rfl
def Cc {m:Cl}{at_:Nat}{c s:Bool}{l:bG}(h:m.fly[at_ % m.fly.length]? =some l):m.pick at_ c s=if c=true then(if s=true then m else{m with fly:=m.fly.eraseIdx (at_ % m.fly.length)}).come l else if s=true then m else{m with fly:=m.fly.eraseIdx (at_ % m.fly.length)}:=by
 unfold Cl.pick;rw[h]
def Wd.drop1 {K:CK}{B:Nat}{w0 w:World}{fs:List Fact}{m:Cl}{x:LX}{H:List LX}(h:Wd K B w0 w fs m (x::H)):Wd K B w0 w fs m H:=by
 obtain⟨R,G,S⟩:=h;exact⟨R,⟨G.fly,G.flo,G.iE,G.arr,λu I=>G.hld u (mem_cons_of_mem _ I)⟩,S⟩
def DT {K:CK} {B n kn kw:Nat} {w0 w:World} {fs:List Fact} {m:Cl} {H:List LX} {at_:Nat} {comes stays:Bool} (hn:n<5) (O:K.nb n=kn) (J:K.wb=kw) (I:Uk B w0) (hB1:m.fly.length<=1000000000) (hB2:m.bK.length<=1000000000000) (hib: ∀ j,j<5->(m.ah j).inbox.length<=1000000000) (HW:Wd K B w0 w fs m H) (Ay: ∀ l∈m.fly,∃ j,j<5/\(l.tg= -1\/l.tg= -2\/l.tg=((j:Nat):Int))):
    Calls prog 34 #[pV kw 0,D ((at_:Nat):Int),.bool comes,.bool stays] w (λe w'=>e=.returned (.tuple #[])/\Wd K B w0 w' fs (m.pick at_ comes stays) H):=by
 obtain⟨R,G,S0⟩:=HW.open hn;have hfl:R.fx.length=m.fly.length:=by rw[<-G.fly,length_map]
 have NG:=G.iE n hn;obtain⟨X,hX⟩:∃X,m.ah n=X:=⟨_,E⟩;obtain⟨z,hz⟩:∃z,R.nx n=z:=⟨_,E⟩;rw[hX,hz]at S0 NG;have hL:∀f∈R.L,f∈gD K R m fs n:=λf h=>mem_append_right _ (mem_append_right _ h);obtain⟨rr,Z⟩:∃r,gD K R m fs n=r:=⟨_,E⟩;rw[Z]at S0 hL;have S:St B w0 w ((bN kn n X.up z.tA X.data z.tc X.syn z.bb X.hints X.sure z.iA z.ix z.ic z.pv X.turn)::(oB z.bb z.bx)::(fL z.iA z.ix z.ic)::(bW kw (.slice R.nA 5 R.nc) m.off R.fA R.fx R.fc m.shown R.sA m.aV R.sc R.tA m.bK R.tc m.calls)::(oL R.fA R.fx R.fc)::(oS R.sA m.aV R.sc)::(oT R.tA m.bK R.tc)::rr):=by subst O;subst J;exact S0
 clear S0;have hlen:=(S.own 1 E).1;rw[iG (sz:=6) (λ_=>E)]at hlen;refine gK 47 func34 ?_;refine cw [0,1,2,3] ?_;refine zN 6 ?_;refine vv (au E E (aK (St.cl 3 S E Sg))) ?_;refine zQ ?_;by_cases h1:((R.fx.length:Nat):Int)=0
 ·refine zN 7 ?_;rw[acM (by rw[<-hfl];omega)];exact⟨E,HW⟩
 refine zN 7 ?_;obtain⟨g2,hfA⟩:=Et (S.own 4 E) Y;have S2:=S;rw[hfA]at S2;obtain⟨i,hit⟩:∃i,i=at_ % R.fx.length:=⟨_,E⟩;have hi:i<R.fx.length:=by rw[hit];exact mod_lt _ Y
 obtain⟨x,hx⟩:∃x,R.fx[i]? =some x:=⟨_,getElem?_eq_getElem hi⟩;have M:x∈R.fx:=mem_of_getElem? hx;have hfi:m.fly[at_ % m.fly.length]? =some x.l:=by rw[<-hfl,<-hit,<-G.fly,getElem?_map,hx];rfl
 refine zN 5 ?_;refine vv (au E E (aK (St.cl 3 S2 E Sg))) ?_;refine zQ ?_;refine vv (v:=D ((i:Nat):Int)) (bC E E E (V3 hit Y)) ?_;refine zN 8 ?_;refine vv (au E E (aK (St.cl 3 S2 E Sg))) ?_;refine zQ ?_;refine vv (kZ i) ?_;refine vv (au E E (dS (cs:=LX.cells x) (Rd.yB (St.ord 4 S2 E) (λ_ _ h=>dh (enc:=LX.cells) (sz:=23) (λ_=>E) hx h)))) ?_;refine gB S2 adQ ?_;intro b3 w4 S5;refine sa 0 S5 kQ ?_;intro w6 S7;refine zN 6 ?_
 cases hb8:(stays)
 ·refine zN 9 ?_;refine vv (au E E (aK (St.cl 4 S7 E Sg))) ?_;refine zN 2 ?_;refine vv (v:=D ((i+1:Nat):Int)) jc ?_;have S9:=S7.eG [7,7,7,7,7,7,7];refine dO eQ (Uz g2 R.fx.length R.fc i _ (R.fx.flatMap LX.cells) _ (S9.own 4 E) (akK _) hi) ?_;rintro _ w10 ⟨rfl,aCy,aut⟩;refine⟨_,E,?_⟩;rw[JY (enc:=LX.cells) (sz:=23) (λ_=>E)]at aut;have Cw:=S9.adO 4 E aCy aut;refine zN 2 ?_;refine jF 3 Cw kQ ?_ (hs:=by exact an2);intro KV jh;refine zN 7 ?_
  cases aKA:(comes)
  ·refine bH (l':=[(0,pV kw 0),(9,pV b3 0),(43,.bool false)]) Fb (jm E (mo (oP ?_)));rw[Cc hfi];have V5:R.fx.length-1=(R.fx.eraseIdx i).length:=by rw[length_eraseIdx,if_pos hi]
   rw[V5]at jh;have aon:=Wd.dP (X':=X) (z':=z) (m':={m with fly:=m.fly.eraseIdx (at_ % m.fly.length)}) (H':=x::H) (Ls:=[.blk b3 #[D x.l.kd,D x.l.fr,D x.l.tg,D ((x.l.q:Nat):Int),D x.l.ep,D x.l.at_,D x.l.nd,D x.l.op.kind,D x.l.op.producer,D x.l.op.id,D x.l.op.body,D x.l.op.aN,D x.l.op.hno,.slice x.A x.l.evs.length x.c,.bool x.l.last,D x.l.num,D x.l.bK.num,D x.l.bK.ans.code,D x.l.bK.ans.fG,D x.l.bK.ans.hno,D x.l.bK.ans.body,D x.l.bK.pl.node,D x.l.bK.pl.epoch] 119]) (fA:=(aD g2 0)) (fc:=R.fc) (fx:=R.fx.eraseIdx i) (sA:=R.sA) (sc:=R.sc) (tA:=R.tA) (tc:=R.tc) O J Z G hn jh NG.more (λu I=>.inl (mem_of_mem_eraseIdx I)) (aC hX).symm (by rw[V6,G.fly,hit,hfl]) (λu I=>(mem_cons.1 I).elim (λe=>.inr (e▸((G.flo x M).mono λf hf=>mem_append_left _ hf))) .inl);exact⟨E,by simpa[*]using Wd.drop1 aon⟩
  refine bH (l':=[(0,pV kw 0),(9,pV b3 0),(43,.bool true)]) Fb (ku E (av (vm ?_)));refine zQ ?_;have V5:R.fx.length-1=(R.fx.eraseIdx i).length:=by rw[length_eraseIdx,if_pos hi]
  rw[V5]at jh;have aCz:=Wd.dP (X':=X) (z':=z) (m':={m with fly:=m.fly.eraseIdx (at_ % m.fly.length)}) (H':=x::H) (Ls:=[.blk b3 #[D x.l.kd,D x.l.fr,D x.l.tg,D ((x.l.q:Nat):Int),D x.l.ep,D x.l.at_,D x.l.nd,D x.l.op.kind,D x.l.op.producer,D x.l.op.id,D x.l.op.body,D x.l.op.aN,D x.l.op.hno,.slice x.A x.l.evs.length x.c,.bool x.l.last,D x.l.num,D x.l.bK.num,D x.l.bK.ans.code,D x.l.bK.ans.fG,D x.l.bK.ans.hno,D x.l.bK.ans.body,D x.l.bK.pl.node,D x.l.bK.pl.epoch] 119]) (fA:=(aD g2 0)) (fc:=R.fc) (fx:=R.fx.eraseIdx i) (sA:=R.sA) (sc:=R.sc) (tA:=R.tA) (tc:=R.tc) O J Z G hn jh NG.more (λu I=>.inl (mem_of_mem_eraseIdx I)) (aC hX).symm (by rw[V6,G.fly,hit,hfl]) (λu I=>(mem_cons.1 I).elim (λe=>.inr (e▸((G.flo x M).mono λf hf=>mem_append_left _ hf))) .inl);obtain⟨nn,hnn,htt⟩:∃nn,nn<5/\(x.l.tg= -1\/x.l.tg= -2\/x.l.tg=((nn:Nat):Int)):=Ay x.l (by rw[<-G.fly];exact mem_map_of_mem M);refine dO eQ (DN (m:={m with fly:=m.fly.eraseIdx (at_ % m.fly.length)}) (x:=x) hnn E J I (by first|omega|(show(m.fly.eraseIdx _).length<=_;have:=length_eraseIdx_le m.fly (at_ % m.fly.length);omega)) hB2 (hib nn hnn) aCz htt) ?_;rintro _ Gn ⟨rfl,aCA⟩;refine⟨_,E,?_⟩;refine zQ ?_;refine bU (l':=[]) trivial (oP ?_);rw[Cc hfi];exact⟨E,by simpa[*]using aCA⟩
 refine zN 11 ?_
 cases aKB:(comes)
 ·refine bH (l':=[(0,pV kw 0),(9,pV b3 0),(43,.bool false)]) Fb (jm E (mo (oP ?_)));rw[Cc hfi];have jX:=S7.eG [7,7,7,7,7,7,7];rw[<-hfA]at jX;have aCB:=Wd.dP (X':=X) (z':=z) (m':=m) (H':=x::H) (Ls:=[.blk b3 #[D x.l.kd,D x.l.fr,D x.l.tg,D ((x.l.q:Nat):Int),D x.l.ep,D x.l.at_,D x.l.nd,D x.l.op.kind,D x.l.op.producer,D x.l.op.id,D x.l.op.body,D x.l.op.aN,D x.l.op.hno,.slice x.A x.l.evs.length x.c,.bool x.l.last,D x.l.num,D x.l.bK.num,D x.l.bK.ans.code,D x.l.bK.ans.fG,D x.l.bK.ans.hno,D x.l.bK.ans.body,D x.l.bK.pl.node,D x.l.bK.pl.epoch] 119]) (fA:=R.fA) (fc:=R.fc) (fx:=R.fx) (sA:=R.sA) (sc:=R.sc) (tA:=R.tA) (tc:=R.tc) O J Z G hn jX NG.more (λu I=>.inl I) (aC hX).symm G.fly.symm (λu I=>(mem_cons.1 I).elim (λe=>.inr (e▸((G.flo x M).mono λf hf=>mem_append_left _ hf))) .inl);exact⟨E,by simpa[*]using Wd.drop1 aCB⟩
 refine bH (l':=[(0,pV kw 0),(9,pV b3 0),(43,.bool true)]) Fb (ku E (av (vm ?_)));refine zQ ?_;have jP:=S7.eG [7,7,7,7,7,7,7];rw[<-hfA]at jP;have aCC:=Wd.dP (X':=X) (z':=z) (m':=m) (H':=x::H) (Ls:=[.blk b3 #[D x.l.kd,D x.l.fr,D x.l.tg,D ((x.l.q:Nat):Int),D x.l.ep,D x.l.at_,D x.l.nd,D x.l.op.kind,D x.l.op.producer,D x.l.op.id,D x.l.op.body,D x.l.op.aN,D x.l.op.hno,.slice x.A x.l.evs.length x.c,.bool x.l.last,D x.l.num,D x.l.bK.num,D x.l.bK.ans.code,D x.l.bK.ans.fG,D x.l.bK.ans.hno,D x.l.bK.ans.body,D x.l.bK.pl.node,D x.l.bK.pl.epoch] 119]) (fA:=R.fA) (fc:=R.fc) (fx:=R.fx) (sA:=R.sA) (sc:=R.sc) (tA:=R.tA) (tc:=R.tc) O J Z G hn jP NG.more (λu I=>.inl I) (aC hX).symm G.fly.symm (λu I=>(mem_cons.1 I).elim (λe=>.inr (e▸((G.flo x M).mono λf hf=>mem_append_left _ hf))) .inl);obtain⟨nn,hnn,htt⟩:∃nn,nn<5/\(x.l.tg= -1\/x.l.tg= -2\/x.l.tg=((nn:Nat):Int)):=Ay x.l (by rw[<-G.fly];exact mem_map_of_mem M);refine dO eQ (DN (m:=m) (x:=x) hnn E J I (by first|omega|(show(m.fly.eraseIdx _).length<=_;have:=length_eraseIdx_le m.fly (at_ % m.fly.length);omega)) hB2 (hib nn hnn) aCC htt) ?_;rintro _ NP ⟨rfl,aCD⟩;refine⟨_,E,?_⟩;refine zQ ?_;refine bU (l':=[]) trivial (oP ?_);rw[Cc hfi];exact⟨E,by simpa[*]using aCD⟩
def pq (q:Nat):Option bO->Option bO
 |none=>none
 |some p=>if p.q=q then some p else none
def zL (m:Cl)(q:Nat):List jH:=m.aV.filter λs=>decide (s.q=q)
def MV (m:Cl)(q:Nat)(l:bG):Prop:=l.q=q/\(l∈m.fly\/ ∃n,n<5/\l∈(m.ah n).inbox)
noncomputable def vw (m:Cl)(q:Nat)(n:Nat):aQ:=(m.ah n).view q
def tY (m:Cl)(q:Nat)(n:Nat):Option bO:=pq q (m.ah n).pend
def El (m:Cl)(n:Nat):Bool:=(m.ah n).up
def zM (m:Cl)(q:Nat)(n:Nat):Int×Int:=m.shown n q
def QI (m:Cl)(q:Nat)(g:Gh):Prop:=Inv g (vw m q) (tY m q) (El m) (MV m q) (m.off.at q) (zM m q) (zL m q)
structure qc (g g':Gh):Prop where
 m:g'.m=g.m
 own:g'.own=g.own
 len:g'.len=g.len
 G:g'.G=g.G
def qc.refl (g:Gh):qc g g:=⟨E,E,E,E⟩
def qc.trans {a b c:Gh}(h:qc a b)(I:qc b c):qc a c:=⟨I.m.trans h.m,I.own.trans h.own,I.len.trans h.len,I.G.trans h.G⟩
def aq8 (g:Gh):qc g g.all:=⟨E,E,E,E⟩
def qc.o {g g':Gh}(h:qc g g'):g'.o=g.o:=by unfold Gh.o;rw[h.m,h.own]
section
variable {m m':Cl}{n q:Nat}{g g':Gh}{l:bG}{V:Nat->aQ}{P:Nat->Option bO}{U:Nat->Bool}{Lt:bG->Prop}{pl:Pl}{sh:Nat->Int×Int}{sv:List jH}{X:Nd}
def QI.mk' (I:Inv g V P U Lt pl sh sv)(O:vw m q=V)(Z:tY m q=P)(hU:El m=U)(hL:∀l,MV m q l->Lt l\/Ed g V pl l)(h:m.off.at q=pl)(J:zM m q=sh)(M:zL m q=sv):QI m q g:=by
 unfold QI;rw[O,Z,hU,h,J,M];exact I.yT hL
def pX (h:m'.ah=upd m.ah n X):vw m' q=upd (vw m q) n (X.view q):=by
 funext j
 unfold vw;rw[h];unfold upd
 split<;>rfl
def tF (h:m'.ah=upd m.ah n X):tY m' q=upd (tY m q) n (pq q X.pend):=by
 funext j
 unfold tY;rw[h];unfold upd
 split<;>rfl
def V7 (h:m'.ah=upd m.ah n X):El m'=upd (El m) n X.up:=by
 funext j
 unfold El;rw[h];unfold upd
 split<;>rfl
def mJ (h:m'.ah=upd m.ah n X)(hv:X.view q=(m.ah n).view q):vw m' q=vw m q:=by rw[pX h];exact aC hv.symm
def rY (h:m'.ah=upd m.ah n X)(hv:pq q X.pend=pq q (m.ah n).pend):tY m' q=tY m q:=by rw[tF h];exact aC hv.symm
def mK (h:m'.ah=upd m.ah n X)(hv:X.up=(m.ah n).up):El m'=El m:=by rw[V7 h];exact aC hv.symm
def OP {q':Nat}{p:Int×Int}{s:Nat->Nat->Int×Int}(h:q'≠q):(λk=>iw s n q' p k q)=λk=>s k q:=by
 funext k
 unfold iw;rw[if_neg (λe=>h e.2.symm)]
def FR {p:Int×Int}{s:Nat->Nat->Int×Int}:(λk=>iw s n q p k q)=upd (λk=>s k q) n p:=by
 funext k
 unfold iw upd;by_cases e:k=n
 ·rw[if_pos ⟨e,E⟩,if_pos e]
 rw[if_neg (λh=>e h.1),if_neg e]
def tH {sv:List jH}{s:jH}:(sv++[s]).filter (λs=>decide (s.q=q))=sv.filter (λs=>decide (s.q=q))++if s.q=q then[s]else[]:=by
 rw[filter_append]
 congr 1
 by_cases e:s.q=q
 ·rw[if_pos e];simp[e]
 rw[if_neg e];simp[e]
def mZ (h:l.kd=0\/l.kd=1\/l.kd=3):Ed g V pl l:=⟨λe=>by omega,λe=>by omega,λe=>by omega,λe=>by omega⟩
def Kn {x:bG}(hn:m'.ah=upd m.ah n X)(hi:∀l∈X.inbox,l∈(m.ah n).inbox)(J:n<5)(M:m'.fly=m.fly++[x]){R:bG->Prop}(O:x.q=q->R x):∀l,MV m' q l->MV m q l\/R l:=λl Z=>by
 obtain⟨h1,h⟩:=Z
 rcases h with h|⟨j,I,h⟩
 ·rw[M]at h
  rcases mem_append.1 h with h|h
  ·exact .inl ⟨h1,.inl h⟩
  rw[mem_singleton]at h;subst h;exact .inr (O h1)
 rw[hn]at h;by_cases e:j=n
 ·subst e;rw[upd_same]at h;exact .inl ⟨h1,.inr ⟨j,I,hi l h⟩⟩
 rw[upd_ne e]at h;exact .inl ⟨h1,.inr ⟨j,I,h⟩⟩
def xw (hn:m'.ah=upd m.ah n X)(hi:∀l∈X.inbox,l∈(m.ah n).inbox)(J:n<5)(M:m'.fly=m.fly){R:bG->Prop}:∀l,MV m' q l->MV m q l\/R l:=λl O=>by
 obtain⟨h1,h⟩:=O
 rcases h with h|⟨j,I,h⟩
 ·rw[M]at h;exact .inl ⟨h1,.inl h⟩
 rw[hn]at h;by_cases e:j=n
 ·subst e;rw[upd_same]at h;exact .inl ⟨h1,.inr ⟨j,I,hi l h⟩⟩
 rw[upd_ne e]at h;exact .inl ⟨h1,.inr ⟨j,I,h⟩⟩
def AL:m.ah=upd m.ah n (m.ah n):=(aC E).symm
def QI.far (I:QI m q g)(Z:n<5)(hn:m'.ah=upd m.ah n X)(hv:X.view q=(m.ah n).view q)(hp:pq q X.pend=pq q (m.ah n).pend)(hu:X.up=(m.ah n).up)(hi:∀l∈X.inbox,l∈(m.ah n).inbox)(hf:∀l∈m'.fly,l∈m.fly\/(l.q=q->Ed g (vw m q) (m.off.at q) l))
  (ho:m'.off.at q=m.off.at q) (hs:zM m' q=zM m q) (J:zL m' q=zL m q):QI m' q g:=
 QI.mk' I (mJ hn hv) (rY hn hp) (mK hn hu) (λl hl=>by
  obtain⟨h1,h⟩:=hl
  rcases h with h|⟨j,O,h⟩
  ·rcases hf l h with M|M
   ·exact .inl ⟨h1,.inl M⟩
   exact .inr (M h1)
  rw[hn]at h;by_cases e:j=n
  ·subst e;rw[upd_same]at h;exact .inl ⟨h1,.inr ⟨j,O,hi l h⟩⟩
  rw[upd_ne e]at h;exact .inl ⟨h1,.inr ⟨j,O,h⟩⟩) ho hs J
def Inv.MF (I:Inv g V P U Lt pl sh sv)(J:U g.o=true):g.t=g.m/\g.F=g.G.length/\rp dW sv=some (ay g.G).1:=by
 have M:=I.upF J;refine⟨?_,M,?_⟩
 ·rcases I.Lc with h|⟨_,_,h,_⟩
  ·exact h.1
  rw[J]at h;cases h
 have:=I.rps;rwa [M,take_length]at this
def Inv.oEp (I:Inv g V P U Lt pl sh sv)(hn:n<5)(h:(V n).role=1\/(V n).role=2):n=g.o:=I.who hn h
def Ce {L:List Ev}{K at_:Nat}(h:at_<=K)(I:K<=L.length):((L.take K).drop at_).take 3=(L.drop at_).take (((L.take K).drop at_).take 3).length/\at_+(((L.take K).drop at_).take 3).length<=K:=by
 have e:(((L.take K).drop at_).take 3).length=min 3 (K-at_):=by
  rw[length_take,length_drop,length_take];omega
 refine⟨?_,by rw[e];omega⟩;rw[e,drop_take,take_take]
def agO {b:aQ}{at_:Int}(I:Inv g V P U Lt pl sh sv)(hn:n<5)(J:V n=b)(h:¬(gX b at_).2.2≠0):Ed g V pl (FI n q b at_):=by
 obtain⟨h1,h2,h3,h4⟩:=OG h;have M:(FI n q b at_).kd=4:=rfl;refine⟨λe=>by rw[M]at e;omega,λ_=>?_,λe=>by rw[M]at e;omega,λe=>by rw[M]at e;omega⟩
 show ∃k:Nat,b.ep+1=(k:Int)+1/\1<=k/\k<=g.m/\(n:Int)=g.own k/\0<=at_/\(gX b at_).1=(g.G.drop at_.toNat).take (gX b at_).1.length/\at_.toNat+(gX b at_).1.length<=g.bd k/\((gX b at_).2.1=true->_)
 rw[h4];dsimp only;by_cases e:n=g.o
 ·subst e;have fG:b.ep=g.m:=by rw[<-J];exact I.q9
  have O:b.evs=g.G:=by rw[<-J];exact I.uJ
  rw[O]at h3⊢;obtain⟨Z,d2⟩:=Ce (L:=g.G) (K:=g.G.length) (at_:=at_.toNat) Y (Nat.le_refl _);rw[take_length]at Z d2;refine⟨g.m,by rw[fG],I.m1,Nat.le_refl _,E,h2,Z,by unfold Gh.bd;rw[if_pos E];exact d2,λhl=>.inr ⟨E,?_⟩⟩;rw[decide_eq_true_eq]at hl;refine⟨by rw[J];exact hl.1,by rw[J];rfl,?_⟩
  show at_.toNat+(gX b at_).1.length=g.G.length
  rw[h4]
  show at_.toNat+((b.evs.drop at_.toNat).take 3).length=g.G.length
  rw[O,length_take,length_drop];omega
 rcases I.mV n hn e with⟨h5,_⟩|⟨k,k1,k2,k3,k4,k5,k6,k7⟩|⟨k,k1,_⟩
 ·rw[J]at h5;omega
 ·rw[J]at k1 k2 k6 k7;have hlt:=I.Mx k3 k4;rw[k6]at h3⊢;rw[length_take]at h3;obtain⟨Z,d2⟩:=Ce (L:=g.G) (K:=g.len k) (at_:=at_.toNat) Y (Nat.le_of_lt hlt);refine⟨k,by rw[k2],k3,Nat.le_of_lt k4,by rw[k5],h2,Z,?_,λ_=>.inl ⟨k4,by rw[<-k7];rfl⟩⟩;unfold Gh.bd;rw[if_neg Y];exact d2
 rw[J]at k1;omega
def GQ {b:aQ}{at_:Int}{fl:List bG}(I:Inv g V P U Lt pl sh sv)(hn:n<5)(M:V n=b):∀l∈lq n q b at_ fl,l∈fl\/Ed g V pl l:=λl J=>by
 unfold lq at J
 split at J
 ·exact .inl J
 rename_i h
 rcases mem_append.1 J with J|J
 ·exact .inl J
 rw[mem_singleton]at J;subst J;exact .inr (agO I hn M h)
def V8 {b:aQ}{p:bO}{bs:Nat->aQ}(I:Inv g V P U Lt pl sh sv)(hn:n<5)(J:V n=b)(O:bs q=b)(hL:Ed g V pl l)(Ay:l.tg=n)(Z:p.q=q)(hlq:l.q=q)(hp:p.ok bs)(hS:Src b l p)(hf:aj (p.b bs)=0):Ee g V n p:=by
 cases p with
 |serve k evs op num a=>
  have hk:k=q:=Z;subst hk;obtain⟨h1,M,h3,h4⟩:=hp;rw[O]at h1 M;obtain⟨s1,s2,s3,s4,s5,s6⟩:=hS;have ho:=I.oEp hn (by rw[J];exact h1);have hev:b.evs=g.G:=by rw[<-J,ho];exact I.uJ
  rw[hev]at M s4;exact⟨ho,by rw[J];exact h1,M,by rw[s2,s4],h4⟩
 |begun k x=>
  have hk:k=q:=Z;subst hk;obtain⟨h1,e,f,rfl,M,_⟩:=hp;rw[O]at h1 M;obtain⟨s1,s2⟩:=hS;obtain⟨j,j1,j2,j3,j4⟩:=hL.1 s1;simp only[aQ.mk.injEq,true_and,and_true]at s2;refine⟨j,?_,j2,j3,by rw[J];exact h1,by rw[J];omega⟩;rw[s2.1,s2.2,j1,j4]
 |got k x last=>
  have hk:k=q:=Z;subst hk;obtain⟨s1,s2,s3,s4,s5,s6,s7,s8,s9⟩:=hS;have hr:b.role=4:=by have:=hp.1;rwa [O]at this
  have hno:n≠g.o:=λe=>by
   have:=I.Aw;rw[<-e,J]at this;omega
  obtain⟨j,j1,j2,j3,j4,j5,j6,j7,j8⟩:=hL.2.1 s1
  rcases I.mV n hn hno with⟨h5,_⟩|⟨_,h5,_⟩|⟨k',k1,k2,k3,k4,k5,k6,k7,k8⟩
  ·rw[J]at h5;omega
  ·rw[J]at h5;omega
  rw[J]at k2 k5 k6 k7;have hkj:k'=j:=Y;subst hkj;have hbd:=I.Xb k3 k4;have e2:l.evs.drop (b.evs.length-l.at_.toNat)=(g.G.drop b.evs.length).take (l.at_.toNat+l.evs.length-b.evs.length):=by
   have:=congrArg (List.drop (b.evs.length-l.at_.toNat)) j6;rw[this,drop_take,drop_drop,show l.at_.toNat+(b.evs.length-l.at_.toNat)=b.evs.length by omega]
   congr 1
   omega
  have hE:Je b l.at_ l.evs=g.G.take (l.at_.toNat+l.evs.length):=by
   unfold Je;rw[e2];have e3:=congrArg (· ++(g.G.drop b.evs.length).take (l.at_.toNat+l.evs.length-b.evs.length)) k6;rw[e3,<-take_add]
   congr 1
   omega
  have hx:∀(h:last=true),k'=g.m->l.at_.toNat+l.evs.length=g.G.length->x=⟨1,(g.m:Int)+1,0,0,0,g.G++[aF]⟩:=λh h1 M=>by
   rw[s9];unfold wJ;rw[if_pos (by rw[<-s8];exact h),hE,M,take_length,k2,h1]
  refine⟨by rw[J];exact hr,λhl=>⟨l.at_.toNat+l.evs.length,?_,by rw[J];exact s7,λk2' hk2=>?_⟩,λhl=>?_⟩
  ·rw[s9,J];unfold wJ;rw[if_neg (by rw[<-s8,hl];simp),hE]
  ·rw[J]at hk2;have:k2'=k':=Y;subst this;exact j7
  rcases j8 (by rw[<-s8];exact hl)with⟨a1,a2⟩|⟨a1,a2,a3,a4⟩
  ·exact absurd Y (k8 a1)
  have hx':=hx hl a1 a4;have hf':aj x=0:=hf;rw[hx']at hf';exact⟨by rw[J,k2,a1],a2,a3.trans Ay,hx',(eP hf').2⟩
 |fF k x a=>
  obtain⟨h1,M⟩:=hp;have hk:k=q:=Z;subst hk;rw[O]at h1 M;exact⟨I.oEp hn (by rw[J];exact .inr h1),by rw[J];exact h1,by rw[J];exact M⟩
 |forget k x=>
  obtain⟨h1,M⟩:=hp;have hk:k=q:=Z;subst hk;rw[O]at h1 M;obtain⟨s1,s2⟩:=hS;obtain⟨j,j1,j2,j3,j4⟩:=hL.2.2.2 s1;obtain⟨d,d1,d2,d3⟩:=I.dir;rw[d1]at j3;dsimp only at j3;exact⟨by rw[J];exact h1,by rw[J];exact M,by rw[J];omega⟩
end
def ZQ:∀ {k:Nat} {l:List Ev},l.length=k->good l->(ay l).1.fault=0
 | 0,l,I,h=>by
  rw[length_eq_zero_iff.1 I];rw[yh (l:=[]) iQ (show gW dW [] []=some (dW,[])from E)];exact abX
 |k+1,l,I,h=>by
  have J:l=l.take k++[l[k]]:=by rw[<-nV Y,<-I,take_length]
  have M:good (l.take k++[l[k]]):=J▸h;obtain⟨h1,_,O⟩:=good_step M;rw[J,O];exact aqP h1
def akY {Q:Qd}{e:Ev}(h:Q.fault=0)(he:aX e=0):(iK Q e).2.2.2=0:=by rw[zk h he]
section
variable {m m':Cl}{n q:Nat}{g g':Gh}{l:bG}{rs:List cB}
def gT (h:(m.ah n).up=true):vw m q n=(m.ah n).bs q:=by unfold vw;rw[dJ h]
def agP (h:(m.ah n).pend=none):tY m q n=none:=by unfold tY;rw[h];rfl
def agQ {a:iR}(I:QI m q g)(hn:n<5)(hu:(m.ah n).up=true)(h2:(gL ((m.ah n).bs l.q) l.op).2.2.1=false/\a=(gL ((m.ah n).bs l.q) l.op).2.1)(he:aX l.op=0/\l.op.kind≠4)(hb:aj ((m.ah n).bs l.q)=0)
  (hG:g.G.length<1999):∃g',QI (m.done n l.q l.op l.num a) q g'/\qc g g':=by
 obtain⟨h2,h3⟩:=h2;by_cases hs:serves ((m.ah n).bs l.q)
 ·rw[EP E E hs];by_cases hq:l.q=q
  ·subst hq;have hV:=gT (q:=l.q) hu;have ho:=I.oEp hn (by rw[hV];exact hs);have fG:((m.ah n).bs l.q).ep=g.m:=by rw[<-hV,ho];exact I.q9
   have M:((m.ah n).bs l.q).evs=g.G:=by rw[<-hV,ho];exact I.uJ
   obtain⟨t1,t2,t3⟩:=I.MF (by rw[<-ho];exact hu);have hs':=hs;unfold serves at hs';have Z:gL ((m.ah n).bs l.q) l.op=((m.ah n).bs l.q,(iK (ay ((m.ah n).bs l.q).evs).1 l.op).2.1,false,0)/\(iK (ay ((m.ah n).bs l.q).evs).1 l.op).2.2.1=false:=by
    have hl:¬ 1999<=((m.ah n).bs l.q).evs.length:=by rw[M];omega
    unfold gL at h2⊢;rw[if_neg (λe=>e hb),if_neg (λe=>e he.1),if_neg he.2,if_neg Y,if_neg Y]at h2⊢;by_cases c:(iK (ay ((m.ah n).bs l.q).evs).1 l.op).2.2.1=false
    ·rw[if_pos c];exact⟨E,c⟩
    rw[if_neg c,if_neg hl]at h2;cases h2
   rw[Z.1,M]at h3;rw[M]at Z;have hgq:(ay g.G).1.fault=0:=ZQ E I.gd;have hc:(iK (ay g.G).1 l.op).2.2.2=0:=akY hgq he.1;have hr:rp dW (zL m l.q++[⟨n,l.q,g.m,l.op,a,l.num⟩])=some (ay g.G).1:=by
    rw[Ec t3 hc h3.symm,akH hc Z.2]
   refine⟨g.all,QI.mk' (I.told t1 hr λs hs=>by rw[mem_singleton]at hs;subst hs;exact⟨E,ho⟩) E E E ?_ E ?_ ?_,aq8 g⟩
   ·rintro x ⟨x1,O|O⟩
    ·rcases mem_append.1 O with O|O
     ·exact .inl ⟨x1,.inl O⟩
     rw[mem_singleton]at O;subst O;exact .inr (mZ (.inr (.inl E)))
    exact .inl ⟨x1,.inr O⟩
   ·show(λk=>iw m.shown n l.q _ k l.q)=_
    rw[FR,fG,M,ho];rfl
   show(m.aV++_).filter _=_
   rw[tH,if_pos E,fG];rfl
  refine⟨g,I.far (n:=n) (X:=m.ah n) hn AL E E E (λ_ h=>h) (λx J=>?_) E (OP hq) ?_,.refl g⟩
  ·rcases mem_append.1 J with J|J
   ·exact .inl J
   rw[mem_singleton]at J;subst J;exact .inr λ_=>mZ (.inr (.inl E))
  show(m.aV++_).filter _=_
  rw[tH,if_neg hq,append_nil];rfl
 rw[Jd E E hs];refine⟨g,I.far (n:=n) (X:=m.ah n) hn AL E E E (λ_ h=>h) (λx J=>?_) E E E,.refl g⟩
 rcases mem_append.1 J with J|J
 ·exact .inl J
 rw[mem_singleton]at J;subst J;exact .inr λ_=>mZ (.inr (.inl E))
def FT {p:bO}(h:p.q=q):pq q (some p)=some p:=if_pos h
def amN {p:bO}(h:p.q≠q):pq q (some p)=none:=if_neg h
def ZR (I:QI m q g)(hn:n<5)(hu:(m.ah n).up=true)(hU:oq (m.ah n) rs [])(hp:(m.ah n).pend=none)(hL:l.q=q->Ed g (vw m q) (m.off.at q) l)(Ay:l.tg=n)(hk:l.kd=0->aX l.op=0/\l.op.kind≠4)(hlq:l.q<4)
  (hroom:(m.ah n).data.length+46<=100000) (hG:g.G.length<1999) (H:Hnd m n l m'):∃g',QI m' q g'/\qc g g'/\((vw m q g.o).role=3->(vw m' q g.o).role=3):=by
 have hbq:=hU.kX _ hlq
 cases H with
 |same=>exact⟨g,I,.refl g,id⟩
 |done a h1 h2=>
  have hvw:vw (m.done n l.q l.op l.num a) q=vw m q:=mJ (n:=n) (X:=m.ah n) (by rw[(uO (m:=m)).2.1];exact AL) E
  rcases h2 with h2|⟨h2,h3,h4,h5,h6⟩
  ·obtain⟨g',h7,h8⟩:=agQ I hn hu h2 (hk h1) hbq hG;exact⟨g',h7,h8,by rw[hvw];exact id⟩
  exfalso
  have hs:=eH hbq;unfold aZ at hs;unfold serves at h3;have hr:aG (fH 2 l.q ((m.ah n).bs l.q).ep 0 l.op)=0:=oG Y hlq Y Y (by simpa[kM]using h4);have hsy:=hU.syn;have hd:=congrArg length hU.data;rw[append_nil]at hd;rw[u7 (λr hr'=>by rw[mem_singleton]at hr';subst hr';exact hr) Y Y (by simpa using hroom)]at h5
  cases h5
 |have_ h1=>
  refine⟨g,I.far (n:=n) (X:=m.ah n) hn AL E E E (λ_ h=>h) (λx O=>?_) E E E,.refl g,id⟩
  rcases mem_append.1 O with O|O
  ·exact .inl O
  rw[mem_singleton]at O;subst O;exact .inr λ_=>mZ (.inr (.inr E))
 |part b h1 h2 h3 h4 h5 h6=>
  obtain⟨g1,g2,g3⟩:=pW (m:=m.aA n l.q b) (n:=n) (q:=l.q) (a:=l.at_);have e:(m.aA n l.q b).ah n=(m.ah n).aA l.q b:=aW _;rw[e,show((m.ah n).aA l.q b).bs l.q=b from upd_same _ _ _]at g3;have J:((m.aA n l.q b).part n l.q l.at_).ah=upd m.ah n ((m.ah n).aA l.q b):=g2;have hoff:((m.aA n l.q b).part n l.q l.at_).off.at q=m.off.at q:=by rw[g1.off];rfl
  have Z:zM ((m.aA n l.q b).part n l.q l.at_) q=zM m q/\zL ((m.aA n l.q b).part n l.q l.at_) q=zL m q:=by
   unfold Cl.part
   split<;>exact⟨E,E⟩
  by_cases hq:l.q=q
  ·subst hq;have hV:=gT (q:=l.q) hu;have M:((m.ah n).aA l.q b).view l.q=b:=by rw[dJ (X:=(m.ah n).aA l.q b) hu];exact upd_same _ _ _
   have hvw:vw ((m.aA n l.q b).part n l.q l.at_) l.q=upd (vw m l.q) n b:=by rw[pX J,M]
   rcases h4 with⟨h4,h7,h8⟩|⟨h4,h7⟩
   ·have ho:=I.oEp hn (by rw[hV];exact .inr h4);have Xg:=I.Ri (by rw[<-ho,hV];omega);have I2:Inv g (upd (vw m l.q) g.o b) (tY m l.q) (El m) (MV m l.q) (m.off.at l.q) (zM m l.q) (zL m l.q):=by
     refine Inv.ab3 I (λp hp'=>?_) ?_ ?_ ?_ ?_ ?_ ?_
     ·rw[<-ho,agP hp]at hp';cases hp'
     ·rw[h7];show((m.ah n).bs l.q).ep=_;rw[<-hV,ho];exact I.q9
     ·rw[h7];show((m.ah n).bs l.q).evs=_;rw[<-hV,ho];exact I.uJ
     ·rw[h7];exact .inr (.inl h4)
     ·intro _;rw[h7,<-ho];rw[<-ho,hV]at Xg;exact Xg
     ·intro h;rw[<-ho,hV]at h;omega
     intro h;rw[h7]at h;exact absurd (h4.symm.trans h) dQ
    rw[<-ho]at I2;refine⟨g,QI.mk' I2 hvw (rY J E) (mK J E) (λx O=>?_) hoff Z.1 Z.2,.refl g,λh=>?_⟩
    ·obtain⟨x1,x2⟩:=O
     rcases x2 with x2|⟨j,hj,x2⟩
     ·rw[g3]at x2
      rcases GQ I2 hn (upd_same _ _ _) x x2 with x3|x3
      ·exact .inl ⟨x1,.inl x3⟩
      exact .inr x3
     rw[J]at x2;by_cases e:j=n
     ·subst e;rw[upd_same]at x2;exact .inl ⟨x1,.inr ⟨j,hj,x2⟩⟩
     rw[upd_ne e]at x2;exact .inl ⟨x1,.inr ⟨j,hj,x2⟩⟩
    rw[<-ho,hV]at h;omega
   have auu:vw ((m.aA n l.q b).part n l.q l.at_) l.q=vw m l.q:=by rw[hvw,h7,<-hV];exact aC E
   refine⟨g,QI.mk' I auu (rY J E) (mK J E) (λx O=>?_) hoff Z.1 Z.2,.refl g,by rw[auu];exact id⟩;obtain⟨x1,x2⟩:=O
   rcases x2 with x2|⟨j,hj,x2⟩
   ·rw[g3]at x2
    rcases GQ I hn (hV.trans h7.symm) x x2 with x3|x3
    ·exact .inl ⟨x1,.inl x3⟩
    exact .inr x3
   rw[J]at x2;by_cases e:j=n
   ·subst e;rw[upd_same]at x2;exact .inl ⟨x1,.inr ⟨j,hj,x2⟩⟩
   rw[upd_ne e]at x2;exact .inl ⟨x1,.inr ⟨j,hj,x2⟩⟩
  have M:((m.ah n).aA l.q b).view q=(m.ah n).view q:=by
   rw[dJ (X:=(m.ah n).aA l.q b) hu,dJ hu];exact upd_ne (λe=>hq e.symm)
  refine⟨g,I.far hn J M E E (λ_ h=>h) (λx O=>?_) hoff Z.1 Z.2,.refl g,by rw[mJ J M];exact id⟩;rw[g3]at O;unfold lq at O
  split at O
  ·exact .inl O
  rcases mem_append.1 O with O|O
  ·exact .inl O
  rw[mem_singleton]at O;subst O;exact .inr λh=>absurd h hq
 |pend p dB d h1 h2 h3 h4 h5=>
  have hY:dB.bs=(m.ah n).bs/\dB.up=(m.ah n).up/\dB.inbox=(m.ah n).inbox:=by rcases h1 with h1|⟨_,h1⟩<;>rw[h1]<;>exact⟨E,E,E⟩
  have M:∀q,({dB with data:=d,pend:=some p}:Nd).view q=(m.ah n).view q:=λq=>by
   rw[dJ (X:={dB with data:=d,pend:=some p}) (hY.2.1.trans hu),dJ hu];exact congrFun hY.1 q
  have J:(m.put n {dB with data:=d,pend:=some p}).ah=upd m.ah n {dB with data:=d,pend:=some p}:=rfl;have hvw:=mJ (q:=q) J (M q);by_cases hq:l.q=q
  ·subst hq;have hfull:=(iL hU.tape hU.kX h3 (by rw[h2];exact hlq)).2;have acO:=V8 I hn (gT (q:=l.q) hu) E (hL E) Ay h2 E h3 h5 hfull;refine⟨g,QI.mk' (I.atS (P':=upd (tY m l.q) n (some p)) λk p' hk hp'=>?_) hvw (by rw[tF J];show upd _ n (pq l.q (some p))=_;rw[FT h2]) (mK J hY.2.1) (xw J (λx O=>by rw[<-hY.2.2];exact O) hn E) E E E,.refl g,by rw[hvw];exact id⟩;by_cases e:k=n
   ·subst e;rw[upd_same]at hp'
    cases hp';exact .inr ⟨hu,acO⟩
   rw[upd_ne e]at hp';exact .inl hp'
  refine⟨g,I.far hn J (M q) ?_ hY.2.1 (λx O=>by rw[<-hY.2.2];exact O) (λx O=>.inl O) E E E,.refl g,by rw[hvw];exact id⟩;rw[hp];exact amN (by rw[h2];exact hq)
 |hear h1=>
  have J:(m.put n ((m.ah n).hear n l)).ah=upd m.ah n ((m.ah n).hear n l):=rfl;have M:((m.ah n).hear n l).view q=(m.ah n).view q:=by rw[dJ (X:=(m.ah n).hear n l) hu,dJ hu];rfl
  exact⟨g,I.far hn J M E E (λ_ h=>h) (λx O=>.inl O) E E E,.refl g,by rw[mJ J M];exact id⟩
def agR {V:Nat->aQ}{P:Nat->Option bO}{U:Nat->Bool}{Lt:bG->Prop}{pl:Pl}{sh:Nat->Int×Int}{sv:List jH}{b:aQ}{s:Bool}(I:Inv g V P U Lt pl sh sv)(hn:n<5)(M:V n=b):∀l∈fV n q b s,Ed g V pl l:=λl J=>by
 unfold fV at J
 rcases mem_append.1 J with J|J
 ·rcases mem_append.1 J with J|J
  ·split at J
   ·rename_i O
    rw[mem_singleton]at J;subst J;have h:(vL n q b).kd=2:=rfl;refine⟨λ_=>?_,λe=>by rw[h]at e;omega,λe=>by rw[h]at e;omega,λe=>by rw[h]at e;omega⟩
    show ∃k:Nat,b.ep+1=(k:Int)+1/\1<=k/\k<=g.m/\(n:Int)=g.own k
    by_cases e:n=g.o
    ·subst e;exact⟨g.m,by rw[<-M,I.q9],I.m1,Nat.le_refl _,E⟩
    rcases I.mV n hn e with⟨h5,_⟩|⟨k,Z,k2,k3,k4,k5,_⟩|⟨k,Z,_⟩
    ·rw[M]at h5;omega
    ·rw[M]at k2;exact⟨k,by rw[k2],k3,Nat.le_of_lt k4,by rw[k5]⟩
    rw[M]at Z;omega
   simp at J
  split at J
  ·rw[mem_singleton]at J;subst J;have h:(Ow n q).kd=5:=rfl;refine⟨λe=>by rw[h]at e;omega,λe=>by rw[h]at e;omega,λ_ e=>?_,λe=>by rw[h]at e;omega⟩;exact absurd e (by show ¬(0:Int)<= -1;decide)
  simp at J
 split at J
 ·rename_i O
  rw[mem_singleton]at J;subst J;have h:(Mw n q b).kd=5:=rfl;refine⟨λe=>by rw[h]at e;omega,λe=>by rw[h]at e;omega,λ_ _=>?_,λe=>by rw[h]at e;omega⟩;have ho:=I.oEp hn (by rw[M];exact .inl O.1);have fG:b.ep=g.m:=by rw[<-M,ho];exact I.q9
  show ∃k:Nat,b.ep-1=(k:Int)/\1<=k/\k<g.m/\((g.own (k+1):Nat):Int)=(n:Int)
  refine⟨g.m-1,by omega,by omega,by omega,?_⟩;rw[show g.m-1+1=g.m by have:=I.m1;omega];exact congrArg Int.ofNat ho.symm
 simp at J
def TH (I:QI m q g)(hn:n<5)(hu:(m.ah n).up=true):QI (m.jU n) q g/\vw (m.jU n) q=vw m q:=by
 have O:(m.jU n).ah=upd m.ah n {m.ah n with turn:=(m.ah n).turn+1}:=rfl;have M:({m.ah n with turn:=(m.ah n).turn+1}:Nd).view q=(m.ah n).view q:=rfl;refine⟨I.far hn O M E E (λ_ h=>h) (λx J=>?_) E E E,mJ O M⟩
 rcases mem_append.1 J with J|J
 ·exact .inl J
 refine .inr λZ=>?_;have hxx:x.q=(m.ah n).turn % 4:=by
  unfold fV at J
  rcases mem_append.1 J with J|J
  ·rcases mem_append.1 J with J|J
   ·split at J
    ·rw[mem_singleton]at J;subst J;rfl
    simp at J
   split at J
   ·rw[mem_singleton]at J;subst J;rfl
   simp at J
  split at J
  ·rw[mem_singleton]at J;subst J;rfl
  simp at J
 rw[hxx]at Z;rw[Z]at J;exact agR I hn (gT hu) x J
end
structure lM (g g':Gh):Prop where
 m:g.m<=g'.m
 own:∀k,k<=g.m->g'.own k=g.own k
 Xh:g'.G.length<=g.G.length+1
def qc.next {g g':Gh}(h:qc g g'):lM g g':=⟨by rw[h.m];exact Nat.le_refl _,λk _=>by rw[h.own],by rw[h.G];omega⟩
def lM.refl (g:Gh):lM g g:=(qc.refl g).next
def lM.same {g g' g2:Gh}(h:lM g g')(I:qc g' g2):lM g g2:=⟨by rw[I.m];exact h.m,λk J=>by rw[I.own];exact h.own k J,by rw[I.G];exact h.Xh⟩
def C9 (q:Nat)(g g':Gh)(m m':Cl):Prop:=g'.m=g.m->(vw m q g.o).role=3->(vw m' q g.o).role=3
section
variable {m m':Cl}{n q:Nat}{g g':Gh}{l:bG}{rs us:List cB}{X:Nd}{V:Nat->aQ}{P:Nat->Option bO}{U:Nat->Bool}{Lt:bG->Prop}{pl:Pl}{sh:Nat->Int×Int}{sv:List jH}
def Inv.Xi (I:Inv g V P U Lt pl sh sv)(n:Nat):Inv g V (upd P n none) U Lt pl sh sv:=I.atS λk p _ h=>by
 by_cases e:k=n
 ·subst e;rw[upd_same]at h;cases h
 rw[upd_ne e]at h;exact .inl h
def Inv.oH (I:Inv g V P U Lt pl sh sv)(h:(V n).role=0\/(V n).role=4):n≠g.o:=λe=>by
 have:=I.Aw;rw[<-e]at this;omega
def Inv.OQ (I:Inv g V P U Lt pl sh sv){k:Nat}(h1:1<=k)(J:k<=g.m)(M:(V n).ep< (k:Int)+1):Oth g n ⟨4,(k:Int)+1,g.own k,0,0,[]⟩:=by
 refine .inr (.inr ⟨k,E,E,h1,J,E,E,zero_le _,λh e=>?_⟩);have:=I.ge (k+1) Y h;rw[e]at this;omega
def Inv.Ko (I:Inv g V P U Lt pl sh sv)(hn:n<5)(O:(V n).role=4){j:Nat}(Z:∀k:Nat,(V n).ep=(k:Int)+1->j<=g.bd k):Oth g n {V n with evs:=g.G.take j}:=by
 rcases I.mV n hn (I.oH (.inr O))with⟨h5,_⟩|⟨_,h5,_⟩|⟨k,k1,h,J,M,k5,k6,k7,k8⟩
 ·omega
 ·omega
 have h1:=Z k h;have h2:=I.Xb J M;have e:(g.G.take j).length=j:=by rw[length_take];omega
 exact .inr (.inr ⟨k,k1,h,J,M,k5,by show g.G.take j=g.G.take (g.G.take j).length;rw[e],by show(g.G.take j).length<=_;rw[e];exact h1,k8⟩)
def Inv.Lg (I:Inv g V P U Lt pl sh sv)(hn:n<5)(O:(V n).role=3)(h:(V n).ep<g.m):n≠g.o/\Oth g n ⟨0,(V n).ep,0,0,0,[]⟩:=by
 have J:n≠g.o:=λe=>by have:=I.q9;rw[<-e]at this;omega
 refine⟨J,?_⟩
 rcases I.mV n hn J with⟨M,_⟩|⟨k,Z,k2,k3,_⟩|⟨_,M,_⟩
 ·omega
 ·exact .inl ⟨E,by show 0<=(V n).ep;omega,h⟩
 omega
def Inv.serve {op:Ev}{a:iR}{num:Int}{b:aQ}{qq:Nat}(I:Inv g V P U Lt pl sh sv)(ho:n=g.o)(O:U n=true)(hr:(V n).role≠3)(Z:good (g.G++[op]))(ha:(iK (ay g.G).1 op).2.1=a)(hb:b.ep=(V n).ep)(h:b.role=(V n).role)(J:b.tg=(V n).tg)(M:b.evs=g.G++[op]):
  Inv (g.app op).all (upd V n b) (upd P n none) U Lt pl (upd sh n ((g.m:Int),((g.G++[op]).length:Int))) (sv++[⟨n,qq,g.m,op,a,num⟩]):=by
 subst ho;obtain⟨t1,t2,t3⟩:=I.MF O;obtain⟨s1,s2,s3⟩:=good_step Z;have I2:=(I.down g.o).append (e:=op) (b:=b) (upd_same _ _ _) (upd_same _ _ _) hr t1 Z hb h J M;have I3:=I2.told (sv2:=[⟨g.o,qq,g.m,op,a,num⟩]) t1 (by rw[Ec t3 s1 ha];show _=some (ay (g.G++[op])).1;rw[s3]) λs hs=>by rw[mem_singleton]at hs;subst hs;exact⟨E,E⟩
 have I4:=I3.up g.o λ_=>⟨E,E⟩;rw[qR,aC O]at I4;exact I4
def Inv.activated {qq:Nat}(I:Inv g V P U Lt pl sh sv)(hu:U n=true)(hr:(V g.o).role=3)(J:(V g.o).tg=n)(hg:good (g.G++[aF]))(M:(V n).ep<=(g.m:Int)+1):
  Inv (g.act n).all (upd V n ⟨1,(g.m:Int)+1,0,0,0,g.G++[aF]⟩) (upd P n none) U Lt pl (upd sh n ((g.m:Int)+1,((g.G++[aF]).length:Int))) (sv++[⟨n,qq,(g.m:Int)+1,aF,eT,-1⟩]):=by
 have ht:¬(g.act n).t=(g.act n).m:=by
  show ¬g.t=g.m+1
  rcases I.Lc with⟨h,_⟩|⟨h,_⟩<;>omega
 have Z:(g.act n).o=n:=upd_same _ _ _;have I2:=(I.down n).activate (T:=n) hr J (upd_same _ _ _) (upd_same _ _ _) hg M;have I3:=I2.ZM ht (s:=⟨n,qq,(g.m:Int)+1,aF,eT,-1⟩) E E (by show(g.m:Int)+1=((g.m+1:Nat):Int);omega) Z.symm;have O:=I3.up n λ_=>⟨E,E⟩;rw[qR,aC hu,Z]at O;have e:(((g.act n).m:Nat):Int)=(g.m:Int)+1:=by show((g.m+1:Nat):Int)=_;omega
 rw[e]at O;exact O
def agS (g:Gh)(n:Nat):lM g (g.act n).all:=⟨by show g.m<=g.m+1;omega,λk h=>upd_ne Y,by show(g.G++[aF]).length<=_;simp⟩
def agT (g:Gh)(e:Ev):lM g (g.app e).all:=⟨Nat.le_refl _,λ_ _=>E,by show(g.G++[e]).length<=_;simp⟩
def TI {p:bO}(I:QI m q g)(hn:n<5)(O:m.ah n=X)(Z:X.up=true)(hp:X.pend=some p)(hpo:p.ok X.bs):∃g',QI (m.step n) q g'/\lM g g'/\C9 q g g' m (m.step n):=by
 have hu':(m.ah n).up=true:=by rw[O];exact Z
 by_cases hq:p.q=q
 ·have hpv:tY m q n=some p:=by unfold tY;rw[O,hp];exact FT hq
  obtain⟨_,hk⟩:=I.lF n hn p hpv;have hV:vw m q n=X.bs q:=by rw[gT hu',O]
  cases p with
  |serve k evs op num a=>
   have e:k=q:=hq;subst e;obtain⟨k1,k2,k3,k4,k5⟩:=hk;have hr:(vw m k n).role≠3:=by unfold serves at k2;omega
   have fG:(X.bs k).ep=g.m:=by rw[<-hV,k1];exact I.q9
   rw[jr O Z hp E (by rw[hV]at k2;exact k2)];have I2:=I.serve (b:={X.bs k with evs:=evs}) (qq:=k) (num:=num) k1 hu' hr (by rw[<-k3];exact k5) k4 (by rw[hV]) (by rw[hV]) (by rw[hV]) k3;have J:({ (m.put n (X.jC.aA k {X.bs k with evs:=evs}))with aV:=m.aV++[⟨n,k,(X.bs k).ep,op,a,num⟩],shown:=iw m.shown n k ((X.bs k).ep,evs.length),fly:=m.fly++[lX n num a nowhere]}:Cl).ah=upd m.ah n (X.jC.aA k {X.bs k with evs:=evs}):=rfl;have M:(X.jC.aA k {X.bs k with evs:=evs}).view k={X.bs k with evs:=evs}:=by rw[dJ (X:=X.jC.aA k _) Z];exact upd_same _ _ _
   refine⟨_,QI.mk' I2 (by rw[pX J,M]) (by rw[tF J];rfl) (mK J (by rw[O];rfl)) ?_ E ?_ ?_,agT g op,λ_ h=>absurd h (by rw[<-k1];exact hr)⟩
   ·exact Kn (x:=lX n num a nowhere) J (λx hx=>by rw[O];exact hx) hn E λ_=>mZ (.inr (.inl E))
   ·show(λj=>iw m.shown n k _ j k)=_
    rw[FR,fG,k3];rfl
   show(m.aV++_).filter _=_
   rw[tH,if_pos E,fG];rfl
  |begun k b=>
   have e:k=q:=hq;subst e;obtain⟨j,j1,j2,j3,j4,j5⟩:=hk;rw[nH O Z hp];have hne:=I.oH j4;have I2:=(I.Xi n).Sd (b:=b) hn hne (upd_same _ _ _) (by rw[j1];exact I.OQ j2 j3 j5) (by rw[j1];show _<=(j:Int)+1;omega);have J:({ (m.put n (X.jC.aA k b))with fly:=m.fly++[oh n k b]}:Cl).ah=upd m.ah n (X.jC.aA k b):=rfl;have M:(X.jC.aA k b).view k=b:=by rw[dJ (X:=X.jC.aA k _) Z];exact upd_same _ _ _
   have hvw:vw ({ (m.put n (X.jC.aA k b))with fly:=m.fly++[oh n k b]}:Cl) k=upd (vw m k) n b:=by rw[pX J,M]
   exact⟨g,QI.mk' I2 hvw (by rw[tF J];rfl) (mK J (by rw[O];rfl)) (Kn (x:=oh n k b) J (λx hx=>by rw[O];exact hx) hn E λ_=>mZ (.inr (.inr E))) E E E,.refl g,λ_ h=>by rw[hvw,upd_ne (λe=>hne e.symm)];exact h⟩
  |got k b last=>
   have e:k=q:=hq;subst e;obtain⟨j1,j2,j3⟩:=hk;have hne:=I.oH (.inr j1)
   cases last with
   |true=>
    obtain⟨a1,a2,a3,a4,a5⟩:=j3 E;subst a4;rw[jT O Z hp];have I2:=I.activated (qq:=k) hu' a2 a3 a5 (by rw[a1];exact Int.le_refl _);have J:({ (m.put n { (X.jC.aA k ⟨1,(g.m:Int)+1,0,0,0,g.G++[aF]⟩)with sure:=upd X.sure k false})with aV:=m.aV++[⟨n,k,(g.m:Int)+1,aF,eT,-1⟩],shown:=iw m.shown n k ((g.m:Int)+1,(g.G++[aF]).length)}:Cl).ah=upd m.ah n { (X.jC.aA k ⟨1,(g.m:Int)+1,0,0,0,g.G++[aF]⟩)with sure:=upd X.sure k false}:=rfl;have M:({ (X.jC.aA k ⟨1,(g.m:Int)+1,0,0,0,g.G++[aF]⟩)with sure:=upd X.sure k false}:Nd).view k=⟨1,(g.m:Int)+1,0,0,0,g.G++[aF]⟩:=by rw[dJ (X:={ (X.jC.aA k _)with sure:=upd X.sure k false}) Z];exact upd_same _ _ _
    refine⟨_,QI.mk' I2 (by rw[pX J,M]) (by rw[tF J];rfl) (mK J (by rw[O];rfl)) (xw J (λx hx=>by rw[O];exact hx) hn E) E ?_ ?_,agS g n,λh=>by
     have:g.m+1=g.m:=h;omega⟩
    ·show(λj=>iw m.shown n k _ j k)=_
     rw[FR];rfl
    show(m.aV++_).filter _=_
    rw[tH,if_pos E];rfl
   |false=>
    obtain⟨j,a1,a2,a3⟩:=j2 E;rw[rX O Z hp];have I2:=(I.Xi n).Sd (b:=b) hn hne (upd_same _ _ _) (by rw[a1];exact I.Ko hn j1 a3) (by rw[a1];exact Int.le_refl _);have J:({ (m.put n (X.jC.aA k b))with fly:=m.fly++[oh n k b]}:Cl).ah=upd m.ah n (X.jC.aA k b):=rfl;have M:(X.jC.aA k b).view k=b:=by rw[dJ (X:=X.jC.aA k _) Z];exact upd_same _ _ _
    have hvw:vw ({ (m.put n (X.jC.aA k b))with fly:=m.fly++[oh n k b]}:Cl) k=upd (vw m k) n b:=by rw[pX J,M]
    exact⟨g,QI.mk' I2 hvw (by rw[tF J];rfl) (mK J (by rw[O];rfl)) (Kn (x:=oh n k b) J (λx hx=>by rw[O];exact hx) hn E λ_=>mZ (.inr (.inr E))) E E E,.refl g,λ_ h=>by rw[hvw,upd_ne (λe=>hne e.symm)];exact h⟩
  |fF k b at_=>
   have e:k=q:=hq;subst e;obtain⟨ho,j1,j2⟩:=hk;rw[pU O Z hp];obtain⟨t1,t2,t3⟩:=I.MF (by rw[<-ho];exact hu');have Xg:=I.Ri (by rw[<-ho];omega);have I2:Inv g (upd (vw m k) g.o b) (upd (tY m k) n none) (El m) (MV m k) (m.off.at k) (zM m k) (zL m k):=by
    refine Inv.ab3 (I.Xi n) (λp' hp'=>?_) ?_ ?_ ?_ ?_ ?_ λ_=>t2
    ·rw[<-ho,upd_same]at hp';cases hp'
    ·rw[j2,ho];exact I.q9
    ·rw[j2,ho];exact I.uJ
    ·rw[j2];exact .inr (.inr E)
    ·intro _;rw[j2,ho];exact Xg
    intro h;rw[<-ho]at h;omega
   rw[<-ho]at I2;have J:({ (m.put n (X.jC.aA k b))with fly:=lq n k b at_ m.fly}:Cl).ah=upd m.ah n (X.jC.aA k b):=rfl;have M:(X.jC.aA k b).view k=b:=by rw[dJ (X:=X.jC.aA k _) Z];exact upd_same _ _ _
   have hvw:vw ({ (m.put n (X.jC.aA k b))with fly:=lq n k b at_ m.fly}:Cl) k=upd (vw m k) n b:=by rw[pX J,M]
   refine⟨g,QI.mk' I2 hvw (by rw[tF J];rfl) (mK J (by rw[O];rfl)) (λx hx=>?_) E E E,.refl g,λ_ h=>by rw[hvw,<-ho,upd_same,j2]⟩;obtain⟨x1,x2⟩:=hx
   rcases x2 with x2|⟨j,hj,x2⟩
   ·rcases GQ I2 hn (upd_same _ _ _) x x2 with x3|x3
    ·exact .inl ⟨x1,.inl x3⟩
    exact .inr x3
   rw[J]at x2;by_cases e:j=n
   ·subst e;rw[upd_same]at x2;exact .inl ⟨x1,.inr ⟨j,hj,by rw[O];exact x2⟩⟩
   rw[upd_ne e]at x2;exact .inl ⟨x1,.inr ⟨j,hj,x2⟩⟩
  |forget k b=>
   have e:k=q:=hq;subst e;obtain⟨j1,j2,j3⟩:=hk;obtain⟨hne,hoth⟩:=I.Lg hn j1 j3;rw[lY O Z hp];have I2:=(I.Xi n).Sd (b:=b) hn hne (upd_same _ _ _) (by rw[j2];exact hoth) (by rw[j2];exact Int.le_refl _);have J:(m.put n (X.jC.aA k b)).ah=upd m.ah n (X.jC.aA k b):=rfl;have M:(X.jC.aA k b).view k=b:=by rw[dJ (X:=X.jC.aA k _) Z];exact upd_same _ _ _
   have hvw:vw (m.put n (X.jC.aA k b)) k=upd (vw m k) n b:=by rw[pX J,M]
   exact⟨g,QI.mk' I2 hvw (by rw[tF J];rfl) (mK J (by rw[O];rfl)) (xw J (λx hx=>by rw[O];exact hx) hn E) E E E,.refl g,λ_ h=>by rw[hvw,upd_ne (λe=>hne e.symm)];exact h⟩
 have far:∀ {m':Cl} {dB:Nd},m'.ah=upd m.ah n dB->dB.bs=upd X.bs p.q (p.b X.bs)->dB.up=true->dB.pend=none->dB.inbox=X.inbox->(∀l∈m'.fly,l∈m.fly\/(l.q=q->Ed g (vw m q) (m.off.at q) l))->m'.off.at q=m.off.at q->zM m' q=zM m q->zL m' q=zL m q-> ∃g',QI m' q g'/\lM g g'/\C9 q g g' m m':=by
  intro m' dB h1 h2 h3 h4 h5 h6 h7 h8 h9;have M:dB.view q=(m.ah n).view q:=by rw[dJ h3,dJ hu',h2,O];exact upd_ne (λe=>hq e.symm)
  refine⟨g,I.far hn h1 M ?_ (by rw[hu'];exact h3) (λx hx=>by rw[O,<-h5];exact hx) h6 h7 h8 h9,.refl g,λ_ h=>by rw[mJ h1 M];exact h⟩;rw[h4,O,hp];exact(amN hq).symm
 have snoc:∀ {x:bG} {fl:List bG},(x.q=q->Ed g (vw m q) (m.off.at q) x)-> ∀l∈fl++[x],l∈fl\/(l.q=q->Ed g (vw m q) (m.off.at q) l):=λ{x fl} hx l hl=>by
  rcases mem_append.1 hl with hl|hl
  ·exact .inl hl
  rw[mem_singleton]at hl;subst hl;exact .inr hx
 cases p with
 |serve k evs op num a=>
  rw[jr O Z hp E hpo.1];refine far (dB:=X.jC.aA k {X.bs k with evs:=evs}) E E Z E E (snoc λ_=>mZ (.inr (.inl E))) E (OP hq) ?_
  show(m.aV++_).filter _=_
  rw[tH,if_neg (show ¬k=q from hq),append_nil];rfl
 |begun k b=>
  rw[nH O Z hp];exact far (dB:=X.jC.aA k b) E E Z E E (snoc λ_=>mZ (.inr (.inr E))) E E E
 |got k b last=>
  cases last with
  |true=>
   rw[jT O Z hp];refine far (dB:={ (X.jC.aA k b)with sure:=upd X.sure k false}) E E Z E E (λl hl=>.inl hl) E (OP hq) ?_
   show(m.aV++_).filter _=_
   rw[tH,if_neg (show ¬k=q from hq),append_nil];rfl
  |false=>
   rw[rX O Z hp];exact far (dB:=X.jC.aA k b) E E Z E E (snoc λ_=>mZ (.inr (.inr E))) E E E
 |fF k b at_=>
  rw[pU O Z hp];refine far (dB:=X.jC.aA k b) E E Z E E (λl hl=>?_) E E E;unfold lq at hl;dsimp only at hl
  split at hl
  ·exact .inl hl
  exact snoc (λh=>absurd h hq) l hl
 |forget k b=>
  rw[lY O Z hp];exact far (dB:=X.jC.aA k b) E E Z E E (λl hl=>.inl hl) E E E
def xA:∀(rs:List cB),(bI rs).length<=46*rs.length
 |[]=>by simp[bI]
 |r::rs=>by
  have h1:=(Av r).2;have h:=xA rs;have e:bI (r::rs)=mF r++bI rs:=by simp[bI,flatMap_cons]
  rw[e,length_append,length_cons];omega
def ZT {bs:Nat->aQ}{p:bO}(h:p.q=l.q)(I:p.ok bs)(J:Src (bs l.q) l p)(hl:l.evs.length<=3):(p.rs bs).length<=4:=by
 cases p with
 |serve k evs op num a=>exact le_of_ble_eq_true E
 |begun k b=>exact le_of_ble_eq_true E
 |fF k b a=>exact le_of_ble_eq_true E
 |forget k b=>exact le_of_ble_eq_true E
 |got k b last=>
  have e:k=l.q:=h;subst e;obtain⟨es,g1,g2,g3,g4,g5,g6,M⟩:=uN I;obtain⟨s1,s2,s3,O,Z,s6,s7,s8,s9⟩:=J;have hil:=TD O Z s7;have hbl:b.evs.length=l.at_.toNat+l.evs.length+if last=true then 1 else 0:=by
   rw[s9];unfold wJ;rw[<-s8]
   cases last with
   |true=>simp only[if_true,length_append,length_singleton];omega
   |false=>simp only[Bool.false_eq_true,if_false];omega
  rw[M,length_append,length_map,length_drop]
  cases last with
  |true=>simp only[if_true,length_singleton]at*;omega
  |false=>simp only[Bool.false_eq_true,if_false,length_nil]at*;omega
def akZ (O:l.evs.length<=3)(H:Hnd m n l m'):(m'.ah n).data.length<=(m.ah n).data.length+184:=by
 cases H with
 |same=>omega
 |done a h1 h=>rw[(uO (m:=m)).2.1];omega
 |have_ h1=>exact le_add_right _ _
 |part b h1 h I J M Z=>
  rw[(pW (m:=m.aA n l.q b)).2.1,show(m.aA n l.q b).ah n=(m.ah n).aA l.q b from aW _];exact le_add_right _ _
 |pend p dB d h1 h I J M=>
  rw[aW]
  show d.length<=_
  obtain⟨w1,_,_⟩:=qx J;have Z:=ZT h I M O;have h7:=xA (p.rs (m.ah n).bs);rw[w1,length_append];omega
 |hear h1=>rw[aW];exact le_add_right _ _
def agU {T S dV K:Nat}(I:QI m q g)(hB:bY m T S dV K)(hn:n<5)(Z:(m.ah n).data.length+46<=100000)(hG:g.G.length<1999):(∃g',QI (m.step n) q g'/\lM g g'/\C9 q g g' m (m.step n))/\((m.step n).ah n).data.length<=(m.ah n).data.length+184:=by
 cases hu:(m.ah n).up with
 |false=>rw[mG hu];exact⟨⟨g,I,.refl g,λ_ h=>h⟩,by omega⟩
 |true=>
  obtain⟨rs,us,M⟩:=(hB.iE n hn).sG hu
  cases hp:(m.ah n).pend with
  |some p=>
   obtain⟨h1,h2,h3⟩:=M.FN p hp;obtain⟨_,hf⟩:=iL M.tape M.kX h2 h3;obtain⟨dB,y1,y2,y3,_⟩:=zK E hu hp h3 hf h2;refine⟨TI I hn E hu hp h2,?_⟩;rw[y1,upd_same,y3];omega
  |none=>
   have hus:=M.rz hp;subst hus;have hd:(bI rs).length+46<=100000:=by have:=M.data;rw[append_nil]at this;rw[<-this];exact Z
   have key:=qy (n:=n) (λm1=>(Ru m n rs m1/\(m1.ah n).data.length<=(bI rs).length+184)/\ ∃g1,QI m1 q g1/\qc g g1/\((vw m q g.o).role=3->(vw m1 q g.o).role=3)) (λm1 l r H hp1 hin=>by
    obtain⟨⟨H1,D1⟩,g1,I1,S1,R1⟩:=H;obtain⟨h1,h2,h3,h4⟩:=qz (λl hl=>l9 (hB.iO n hn l hl)) H1 hp1 hin;have hl0:l∈(m1.ah n).inbox:=by rw[hin];simp
    obtain⟨b1,b2⟩:=hB.iO n hn l (H1.iO l hl0);have O:(m1.put n ((m1.ah n).box r)).ah=upd m1.ah n ((m1.ah n).box r):=rfl;have J:((m1.ah n).box r).view q=(m1.ah n).view q:=rfl;have hvw:=mJ O J;have I2:QI (m1.put n ((m1.ah n).box r)) q g1:=I1.far hn O J E E (λx hx=>by rw[hin];exact mem_cons_of_mem _ hx) (λx hx=>.inl hx) E E E;have e0:(m1.put n ((m1.ah n).box r)).ah n=(m1.ah n).box r:=aW _;have hdd:=h2.data;rw[append_nil]at hdd;obtain⟨g2,I3,S3,R3⟩:=ZR I2 hn (by rw[e0];exact H1.up) h2 (by rw[e0];exact hp1) (λhlq=>by rw[hvw];exact I1.mR l ⟨hlq,.inr ⟨n,hn,hl0⟩⟩) b2 b1.2.2.2 h1.1 (by rw[hdd];exact hd) (by rw[S1.G];exact hG) h3;have D2:=akZ b1.2.1 h3;rw[hdd]at D2;refine⟨h1.1,⟨h4,D2⟩,g2,I3,S1.trans S3,λh=>?_⟩;have h9:=R1 h;rw[<-S1.o]at h9⊢;rw[<-hvw]at h9;exact R3 h9) _ m E ⟨⟨C8 hu ⟨_,M⟩,by have:=M.data;rw[append_nil]at this;rw[this];omega⟩,g,I,.refl g,id⟩
   obtain⟨⟨H1,D1⟩,g1,I1,S1,R1⟩:=key;have hd0:=congrArg length M.data;rw[append_nil]at hd0;rw[jq hu hp]
   split
   ·obtain⟨I2,e2⟩:=TH I1 hn H1.up;refine⟨⟨g1,I2,S1.next,λ_ h=>by rw[e2];exact R1 h⟩,?_⟩;have e:(((m.more n).jU n).ah n)={ (m.more n).ah n with turn:=((m.more n).ah n).turn+1}:=aW _;rw[e]
    show((m.more n).ah n).data.length<=_
    omega
   exact⟨⟨g1,I1,S1.next,λ_ h=>R1 h⟩,by omega⟩
end
def QIx (m:Cl)(q:Nat)(g:Gh)(ls:List bG):Prop:=Inv g (vw m q) (tY m q) (El m) (λl=>MV m q l\/(l.q=q/\l∈ls)) (m.off.at q) (zM m q) (zL m q)
def nJ {d:Dir}{k q:Nat}{p:Pl}(I:k<4)(J:q<4):(d.set k p).at q=if q=k then p else d.at q:=by
 have h1:k=0\/k=1\/k=2\/k=3:=Y;have h:q=0\/q=1\/q=2\/q=3:=Y
 rcases h1 with rfl|rfl|rfl|rfl<;>rcases h with rfl|rfl|rfl|rfl<;>rfl
def Jg {d:Dir}{q ep nd:Int}(h:(vP d q ep nd).2=0):(aI d q).2=0/\0<=nd/\nd<=4/\(aI d q).1.epoch=ep/\vP d q ep nd=(d.set q.toNat ⟨nd,ep+1⟩,0):=by
 unfold vP at h⊢;by_cases c1:(aI d q).2≠0
 ·rw[if_pos c1]at h;exact absurd h c1
 rw[if_neg c1]at h⊢;by_cases c2:nd<0\/4<nd
 ·rw[if_pos c2]at h;exact absurd h dQ
 rw[if_neg c2]at h⊢;by_cases c3:(aI d q).1.epoch≠ep
 ·rw[if_pos c3]at h;exact absurd h dQ
 rw[if_neg c3]at h⊢;by_cases I:(aI d q).1.node=nd
 ·rw[if_pos I]at h;exact absurd h dQ
 rw[if_neg I]at h⊢;by_cases J:ep=1048576
 ·rw[if_pos J]at h;exact absurd h dQ
 rw[if_neg J];exact⟨Classical.not_not.1 c1,by omega,by omega,Classical.not_not.1 c3,E⟩
section
variable {m m':Cl}{n q:Nat}{g g':Gh}{l:bG}{ls:List bG}{rs us:List cB}{X:Nd}{V:Nat->aQ}{P:Nat->Option bO}{U:Nat->Bool}{Lt:bG->Prop}{pl:Pl}{sh:Nat->Int×Int}{sv:List jH}
def TJ (I:QIx m q g (l::ls))(hl:jM l)(hq:q<4):QIx (m.come l) q g ls/\vw (m.come l) q=vw m q:=by
 have Z:∀ {x:bG},(MV m q x\/(x.q=q/\x∈ls))->(MV m q x\/(x.q=q/\x∈l::ls)):=λh=>h.imp id λh=>⟨h.1,mem_cons_of_mem _ h.2⟩;obtain⟨hlq,_,h1|⟨h1,h2,h3,h4⟩|⟨h1,h2,h3⟩,_⟩:=id hl
 ·have e:m.come l={m with bK:=m.bK++[l.bK]}:=if_pos h1;rw[e];exact⟨I.yT λx M=>.inl (Z M),E⟩
 ·have key:Inv g (vw m q) (tY m q) (El m) (λx=>MV m q x\/(x.q=q/\x∈l::ls)) ((dG m.off l).at q) (zM m q) (zL m q):=by
   unfold dG;by_cases c:0<=l.nd/\(vP m.off l.q l.ep l.nd).2=0
   ·rw[if_pos c];obtain⟨f1,f2,f3,f4,f5⟩:=Jg c.2;rw[f5];dsimp only;rw[Int.toNat_natCast,nJ hlq hq];by_cases e:q=l.q
    ·rw[if_pos e];obtain⟨_,_,w3⟩:=nI (d:=m.off) (q:=l.q) (λh=>h f1);have w3':(aI m.off l.q).1=m.off.at q:=by rw[w3,Int.toNat_natCast,e]
     rw[w3']at f4;obtain⟨d,d1,d2,d3⟩:=I.dir;rw[d1]at f4;dsimp only at f4;obtain⟨k,k1,k2,k3,k4⟩:=(I.mR l (.inr ⟨e.symm,mem_cons_self ..⟩)).2.2.1 h4 f2;have hk:k+1=g.m:=Y;rw[hk]at k4;refine I.av5 ?_;simp only[Pl.mk.injEq];omega
    rw[if_neg e];exact I
   rw[if_neg c];exact I
  unfold Cl.come;rw[if_neg Y,if_pos h1]
  split
  ·rename_i hw
   refine⟨key.yT λx M=>?_,E⟩
   rcases M with⟨x1,J⟩|M
   ·rcases J with J|J
    ·rcases mem_append.1 J with J|J
     ·exact .inl (.inl ⟨x1,.inl J⟩)
     rw[mem_singleton]at J;subst J;refine .inr ?_;have hkd:(lg l.fr l.q (aI (dG m.off l) l.q).1).kd=6:=rfl;refine⟨λe=>by rw[hkd]at e;omega,λe=>by rw[hkd]at e;omega,λe=>by rw[hkd]at e;omega,λ_=>?_⟩;have x1':l.q=q:=x1;subst x1';obtain⟨_,_,w3⟩:=nI (d:=dG m.off l) (q:=l.q) (λh=>h hw);rw[Int.toNat_natCast]at w3;obtain⟨d,d1,d2,d3⟩:=key.dir
     show ∃k:Nat,(aI (dG m.off l) l.q).1.epoch=k/\1<=k/\(k:Int)<=((dG m.off l).at l.q).epoch/\((g.own k:Nat):Int)=(aI (dG m.off l) l.q).1.node
     rw[w3,d1];exact⟨d,E,d2,Int.le_refl _,E⟩
    exact .inl (.inl ⟨x1,.inr J⟩)
   exact .inl (.inr ⟨M.1,mem_cons_of_mem _ M.2⟩)
  exact⟨key.yT λx M=>.inl (Z M),E⟩
 unfold Cl.come;rw[if_neg Y,if_neg Y];have hn:l.tg.toNat<5:=Y
 split
 ·rename_i hu
  have O:(m.put l.tg.toNat {m.ah l.tg.toNat with inbox:=(m.ah l.tg.toNat).inbox++[l]}).ah=upd m.ah l.tg.toNat ((m.ah l.tg.toNat).box ((m.ah l.tg.toNat).inbox++[l])):=rfl;have hvw:=mJ (q:=q) O E;refine⟨?_,hvw⟩;unfold QIx;rw[hvw,rY O E,mK O E];refine I.yT λx M=>.inl ?_
  rcases M with⟨x1,J⟩|M
  ·rcases J with J|⟨j,hj,J⟩
   ·exact .inl ⟨x1,.inl J⟩
   rw[O]at J;by_cases e:j=l.tg.toNat
   ·subst e;rw[upd_same]at J
    rcases mem_append.1 J with J|J
    ·exact .inl ⟨x1,.inr ⟨_,hj,J⟩⟩
    rw[mem_singleton]at J;subst J;exact .inr ⟨x1,mem_cons_self ..⟩
   rw[upd_ne e]at J;exact .inl ⟨x1,.inr ⟨j,hj,J⟩⟩
  exact .inr ⟨M.1,mem_cons_of_mem _ M.2⟩
 exact⟨I.yT λx M=>.inl (Z M),E⟩
def OT:∀(ls:List bG) {m:Cl},QIx m q g ls->(∀l∈ls,jM l)->q<4->QIx (ls.foldl Cl.come m) q g []/\vw (ls.foldl Cl.come m) q=vw m q
 |[],m,I,_,_=>⟨I,E⟩
 |l::ls,m,I,h,J=>by
  obtain⟨M,e⟩:=TJ I (h l iQ) J;obtain⟨O,Z⟩:=OT ls M (λx hx=>h x (by simp[hx])) J;exact⟨O,Z.trans e⟩
def Qe:QIx m q g []↔QI m q g:=by
 constructor
 ·intro I;exact I.yT λx J=>.inl (.inl J)
 intro I;exact I.yT λx J=>.inl (J.elim id λh=>by simp at h)
def Qf (I:QI m q g)(M:∀l∈m.fly,jM l)(O:q<4):QI m.all q g/\vw m.all q=vw m q:=by
 have Z:QIx {m with fly:=[]} q g m.fly:=I.yT λx hx=>.inl (by
  rcases hx with⟨J,h⟩|⟨J,h⟩
  ·rcases h with h|h
   ·simp at h
   exact⟨J,.inr h⟩
  exact⟨J,.inl h⟩)
 obtain⟨I1,e⟩:=OT m.fly Z M O;exact⟨Qe.1 I1,e⟩
def TK {at_:Nat}{c s:Bool}(I:QI m q g)(hl:∀l∈m.fly,jM l)(hq:q<4):QI (m.pick at_ c s) q g/\vw (m.pick at_ c s) q=vw m q:=by
 unfold Cl.pick
 split
 ·exact⟨I,E⟩
 rename_i l hl2
 have hm:=mem_of_getElem? hl2;have O:QIx (if s=true then m else{m with fly:=m.fly.eraseIdx (at_ % m.fly.length)}) q g [l]/\vw (if s=true then m else{m with fly:=m.fly.eraseIdx (at_ % m.fly.length)}) q=vw m q:=by
  split
  ·exact⟨I.yT λx M=>.inl (M.elim id λh=>by have:=h.2;rw[mem_singleton]at this;subst this;exact⟨h.1,.inl hm⟩),E⟩
  exact⟨I.yT λx M=>.inl (by
   rcases M with⟨Z,J⟩|⟨Z,J⟩
   ·rcases J with J|J
    ·exact⟨Z,.inl (mem_of_mem_eraseIdx J)⟩
    exact⟨Z,.inr J⟩
   rw[mem_singleton]at J;subst J;exact⟨Z,.inl hm⟩),E⟩
 dsimp only
 split
 ·obtain⟨I1,e⟩:=TJ O.1 (hl l hm) hq;exact⟨Qe.1 I1,e.trans O.2⟩
 exact⟨Qe.1 (O.1.yT λx M=>.inl (M.elim .inl λh=>by simp at h)),O.2⟩
def agV (I:QI m q g){c:Nat}(M:l.kd=0):QI {m with fly:=m.fly++[l],calls:=c} q g/\vw {m with fly:=m.fly++[l],calls:=c} q=vw m q:=by
 refine⟨I.yT λx O=>?_,E⟩;obtain⟨J,h⟩:=O
 rcases h with h|h
 ·rcases mem_append.1 h with h|h
  ·exact .inl ⟨J,.inl h⟩
  rw[mem_singleton]at h;subst h;exact .inr (mZ (.inl M))
 exact .inl ⟨J,.inr h⟩
def TL {q':Nat}{tg:Int}{T S dV K:Nat}(I:QI m q g)(hB:bY m T S dV K)(hq':q'<4)(hq:q<4):QI (m.move q' tg) q g/\((vw m q g.o).role=3->(vw (m.move q' tg) q g.o).role=3)/\ ∀n,((m.move q' tg).ah n).data=(m.ah n).data:=by
 unfold Cl.move
 split
 ·exact⟨I,id,λ_=>E⟩
 rename_i h0
 have hw:¬(aI m.off q').2≠0:=λe=>h0 (.inl e);have hne:¬(aI m.off q').1.node=tg:=λe=>h0 (.inr (.inl e));obtain⟨hn,aKC,w3⟩:=nI hw;have hu:(m.ah (aI m.off q').1.node.toNat).up=true:=by
  cases e:(m.ah (aI m.off q').1.node.toNat).up with
  |true=>rfl
  |false=>exact absurd (.inr (.inr e)) h0
 rw[Int.toNat_natCast]at w3
 split
 ·rename_i h1
  obtain⟨h1,h2⟩:=h1;obtain⟨g1,g2,g3,g4⟩:=go_ok h1;rw[g4]at h2⊢;dsimp only at h2⊢;have hnn:(aI m.off q').1.node=(((aI m.off q').1.node.toNat:Nat):Int):=Y;generalize (aI m.off q').1.node.toNat=n at*;have Jh:(m.aA n q' ⟨2,((m.ah n).bs q').ep,0,tg,0,((m.ah n).bs q').evs⟩).ah=upd m.ah n ((m.ah n).aA q' ⟨2,((m.ah n).bs q').ep,0,tg,0,((m.ah n).bs q').evs⟩):=rfl
  suffices hs:QI (m.aA n q' ⟨2,((m.ah n).bs q').ep,0,tg,0,((m.ah n).bs q').evs⟩) q g/\((vw m q g.o).role=3->(vw (m.aA n q' ⟨2,((m.ah n).bs q').ep,0,tg,0,((m.ah n).bs q').evs⟩) q g.o).role=3)from⟨hs.1,hs.2,λj=>by
   rw[Jh];by_cases e:j=n
   ·subst e;rw[upd_same];rfl
   rw[upd_ne e]⟩
  by_cases e:q'=q
  ·subst e;have hV:=gT (q:=q') hu;have ho:=I.oEp hn (by rw[hV];exact .inl g1);have fG:((m.ah n).bs q').ep=g.m:=by rw[<-hV,ho];exact I.q9
   have MG:((m.ah n).aA q' ⟨2,((m.ah n).bs q').ep,0,tg,0,((m.ah n).bs q').evs⟩).view q'=⟨2,((m.ah n).bs q').ep,0,tg,0,((m.ah n).bs q').evs⟩:=by rw[dJ (X:=(m.ah n).aA q' _) hu];exact upd_same _ _ _
   have hvw:vw (m.aA n q' ⟨2,((m.ah n).bs q').ep,0,tg,0,((m.ah n).bs q').evs⟩) q'=upd (vw m q') n ⟨2,((m.ah n).bs q').ep,0,tg,0,((m.ah n).bs q').evs⟩:=by rw[pX Jh,MG]
   have acG:((m.ah n).bs q').ep=(m.off.at q').epoch:=by rw[<-w3];exact h2
   have I2:Inv g (upd (vw m q') g.o ⟨2,((m.ah n).bs q').ep,0,tg,0,((m.ah n).bs q').evs⟩) (tY m q') (El m) (MV m q') (m.off.at q') (zM m q') (zL m q'):=by
    refine Inv.ab3 I (λp hp=>?_) ?_ ?_ ?_ ?_ ?_ ?_
    ·obtain⟨_,hk⟩:=I.lF g.o I.o5 p hp;rw[<-ho]at hk⊢
     cases p with
     |serve k evs op num a=>
      obtain⟨k1,k2,k3⟩:=hk;exact⟨k1,by rw[upd_same];exact .inr E,k3⟩
     |begun k b=>obtain⟨_,_,_,_,k4,_⟩:=hk;rw[hV]at k4;exfalso;omega
     |got k b last=>have:=hk.1;rw[hV]at this;exfalso;omega
     |fF k b a=>have:=hk.2.1;rw[hV]at this;exfalso;omega
     |forget k b=>have:=hk.1;rw[hV]at this;exfalso;omega
    ·exact fG
    ·show((m.ah n).bs q').evs=_;rw[<-hV,ho];exact I.uJ
    ·exact .inr (.inl E)
    ·intro _;refine⟨by rw[<-acG];exact fG,?_,g2,by show tg<5;omega⟩
     show ¬tg=(g.o:Int)
     rw[<-ho,<-hnn];exact λe=>hne e.symm
    ·intro h;rw[<-ho,hV]at h;omega
    intro h;exact absurd (show(2:Int)=3 from h) dQ
   rw[<-ho]at I2;exact⟨QI.mk' I2 hvw (rY Jh E) (mK Jh E) (xw Jh (λ_ h=>h) hn E) E E E,λh=>by rw[<-ho,hV]at h;omega⟩
  have MG:((m.ah n).aA q' ⟨2,((m.ah n).bs q').ep,0,tg,0,((m.ah n).bs q').evs⟩).view q=(m.ah n).view q:=by
   rw[dJ (X:=(m.ah n).aA q' _) hu,dJ hu];exact upd_ne (λh=>e h.symm)
  exact⟨I.far hn Jh MG E E (λ_ h=>h) (λx hx=>.inl hx) E E E,by rw[mJ Jh MG];exact id⟩
 exact⟨I,id,λ_=>E⟩
def Inv.auv (I:Inv g V P U Lt pl sh sv)(hn:n<5)(O:P n=none):Inv g (upd V n (jl (V n))) P U Lt pl sh sv:=by
 by_cases M:(V n).role=2
 ·have Z:=I.oEp hn (.inr M);subst Z;have e:jl (V g.o)=⟨1,(V g.o).ep,0,0,0,(V g.o).evs⟩:=by unfold jl;rw[if_pos M]
  rw[e];exact I.ab3 (λp J=>by rw[O]at J;cases J) I.q9 I.uJ (.inl E) (λh=>absurd E h) (λh=>by omega) λh=>absurd (show(1:Int)=3 from h) dQ
 rw[kG M,aC E];exact I
def Inv.crash {bs:Nat->aQ}{x:aQ}(I:Inv g V P U Lt pl sh sv)(hn:n<5)(hV:V n=bs q)(hr2:∀p,P n=some p->p.q=q)(Z:x=jl (bs q)\/ ∃p,P n=some p/\p.q=q/\MC bs p x):
  ∃g',Inv g' (upd V n x) (upd P n none) (upd U n false) Lt pl sh sv/\lM g g'/\(g'.m=g.m->(V g.o).role=3->(upd V n x g.o).role=3):=by
 have I1:=I.down n;have O:(upd P n none) n=none:=upd_same _ _ _;have J:∀ {y:aQ},((V n).role=3->y.role=3)->((V g.o).role=3->(upd V n y g.o).role=3):=λ{y} h h2=>by
  by_cases e:g.o=n
  ·rw[e]at h2⊢;rw[upd_same];exact h h2
  rw[upd_ne e];exact h2
 have auw:∃g',Inv g' (upd V n (jl (bs q))) (upd P n none) (upd U n false) Lt pl sh sv/\lM g g'/\(g'.m=g.m->(V g.o).role=3->(upd V n (jl (bs q)) g.o).role=3):=by
  rw[<-hV];exact⟨g,I1.auv hn O,.refl g,λ_=>J λh=>by rw[kG Y];exact h⟩
 rcases Z with Z|⟨p,hp,hq,Z⟩
 ·rw[Z];exact auw
 obtain⟨hu,hk⟩:=I.lF n hn p hp
 rcases Z with Z|Z|⟨k,b,last,j,h1,Z,h3⟩
 ·rw[Z,hq];exact auw
 ·cases p with
  |serve k evs op num a=>
   have e:k=q:=hq;subst e;obtain⟨k1,k2,k3,k4,k5⟩:=hk;obtain⟨t1,t2,t3⟩:=I.MF (by rw[<-k1];exact hu);have hr3:(V n).role≠3:=by unfold serves at k2;omega
   have M:x=jl {V n with evs:=evs}:=by rw[Z,hV];rfl
   have I2:Inv (g.app op) (upd V n {V n with evs:=evs}) (upd P n none) (upd U n false) Lt pl sh sv:=by
    subst k1;exact I1.append (e:=op) (b:={V g.o with evs:=evs}) O (upd_same _ _ _) hr3 t1 (by rw[<-k3];exact k5) E E E k3
   have I3:=I2.auv hn O;rw[upd_same,qR,<-M]at I3;exact⟨_,I3,⟨Nat.le_refl _,λ_ _=>E,by show(g.G++[op]).length<=_;simp⟩,λ_=>J λh=>absurd h hr3⟩
  |begun k b=>
   obtain⟨j,j1,j2,j3,j4,j5⟩:=hk;have M:x=b:=by rw[Z];show jl b=b;rw[j1];exact Jf (.inl E)
   have I2:=I1.Sd (b:=b) hn (I.oH j4) O (by rw[j1];exact I.OQ j2 j3 j5) (by rw[j1];show _<=(j:Int)+1;omega);rw[M];exact⟨g,I2,.refl g,λ_=>J λh=>by omega⟩
  |got k b last=>
   obtain⟨j1,j2,j3⟩:=hk
   cases last with
   |true=>
    obtain⟨a1,a2,a3,a4,a5⟩:=j3 E;have M:x=⟨1,(g.m:Int)+1,0,0,0,g.G++[aF]⟩:=by rw[Z];show jl b=_;rw[a4];rfl
    have I2:=I1.activate (T:=n) a2 a3 O (upd_same _ _ _) a5 (by rw[a1];exact Int.le_refl _);rw[M];exact⟨_,I2,⟨by show g.m<=g.m+1;omega,λk hk=>upd_ne Y,by show(g.G++[aF]).length<=_;simp⟩,λh=>by
     have:g.m+1=g.m:=h;omega⟩
   |false=>
    obtain⟨j,a1,a2,a3⟩:=j2 E;have M:x=b:=by rw[Z];show jl b=b;rw[a1];exact Jf (.inl j1)
    have I2:=I1.Sd (b:=b) hn (I.oH (.inr j1)) O (by rw[a1];exact I.Ko hn j1 a3) (by rw[a1];exact Int.le_refl _);rw[M];exact⟨g,I2,.refl g,λ_=>J λh=>by omega⟩
  |fF k b at_=>
   obtain⟨ho,j1,j2⟩:=hk;obtain⟨t1,t2,t3⟩:=I.MF (by rw[<-ho];exact hu);have Xg:=I.Ri (by rw[<-ho];omega);have M:x=b:=by rw[Z];show jl b=b;rw[j2];exact Jf (.inr (.inr (.inl E)))
   have I2:Inv g (upd V g.o b) (upd P n none) (upd U n false) Lt pl sh sv:=by
    refine Inv.ab3 I1 (λp' hp'=>?_) ?_ ?_ ?_ ?_ ?_ λ_=>t2
    ·rw[<-ho,upd_same]at hp';cases hp'
    ·rw[j2,ho];exact I.q9
    ·rw[j2,ho];exact I.uJ
    ·rw[j2];exact .inr (.inr E)
    ·intro _;rw[j2,ho];exact Xg
    intro h;rw[<-ho]at h;omega
   rw[<-ho]at I2;rw[M];exact⟨g,I2,.refl g,λ_=>J λ_=>by rw[j2]⟩
  |forget k b=>
   obtain⟨j1,j2,j3⟩:=hk;obtain⟨hne,hoth⟩:=I.Lg hn j1 j3;have M:x=b:=by rw[Z];show jl b=b;rw[j2];exact Jf (.inr (.inl E))
   have I2:=I1.Sd (b:=b) hn hne O (by rw[j2];exact hoth) (by rw[j2];exact Int.le_refl _);rw[M];refine⟨g,I2,.refl g,λ_ h=>?_⟩;rw[upd_ne (λe=>hne e.symm)];exact h
 subst h1;have e:k=q:=hq;subst e;obtain⟨j1,j2,j3⟩:=hk;have hev:∃i,b.evs.take ((bs k).evs.length+j)=g.G.take i/\ ∀k':Nat,(V n).ep=(k':Int)+1->i<=g.bd k':=by
  cases last with
  |true=>
   obtain⟨a1,a2,a3,a4,a5⟩:=j3 E;have hb:b.evs=g.G++[aF]:=by rw[a4]
   simp only[if_true]at h3;rw[hb,length_append,length_singleton]at h3;refine⟨(bs k).evs.length+j,by rw[hb,qp Y],λk' hk'=>?_⟩;have:k'=g.m:=Y;subst this;unfold Gh.bd;rw[if_pos E];omega
  |false=>
   obtain⟨i,a1,a2,a3⟩:=j2 E;have hb:b.evs=g.G.take i:=by rw[a1]
   refine⟨min ((bs k).evs.length+j) i,by rw[hb,take_take],λk' hk'=>Nat.le_trans (Nat.min_le_right _ _) (a3 k' hk')⟩
 obtain⟨i,e1,e2⟩:=hev;have M:x={V n with evs:=g.G.take i}:=by rw[Z,e1,hV]
 have I2:=I1.Sd (b:={V n with evs:=g.G.take i}) hn (I.oH (.inr j1)) O (I.Ko hn j1 e2) (Int.le_refl _);rw[M];exact⟨g,I2,.refl g,λ_=>J λh=>by omega⟩
def acP {keep:Int}{T S dV K:Nat}(I:QI m q g)(hB:bY m T S dV K)(hn:n<5)(hq:q<4)(hk:0<=keep):(∃g',QI (m.crash n keep) q g'/\lM g g'/\C9 q g g' m (m.crash n keep))/\ ∀j,((m.crash n keep).ah j).data.length<=(m.ah j).data.length:=by
 unfold Cl.crash
 split
 ·rename_i hu
  change (∃g',QI (m.put n ((m.ah n).crashed keep)) q g'/\lM g g'/\C9 q g g' m (m.put n ((m.ah n).crashed keep)))/\ ∀j,((m.put n ((m.ah n).crashed keep)).ah j).data.length<=(m.ah j).data.length;obtain⟨rs,us,hU⟩:=(hB.iE n hn).sG hu;obtain⟨rs',t,f,hd,hf⟩:=ES hU hk;have J:(m.put n ((m.ah n).crashed keep)).ah=upd m.ah n ((m.ah n).crashed keep):=rfl;have O:((m.ah n).crashed keep).view q=f q:=hd.view E hq;have hV:=gT (q:=q) hu;have hP:∀p,tY m q n=some p->(m.ah n).pend=some p/\p.q=q:=λp M=>by
   unfold tY at M
   cases e:(m.ah n).pend with
   |none=>rw[e]at M;cases M
   |some p'=>
    rw[e]at M;unfold pq at M;dsimp only at M
    split at M
    ·cases M;exact⟨E,by assumption⟩
    cases M
  obtain⟨g',I2,N2,R2⟩:=Inv.crash I hn hV (λp M=>(hP p M).2) (x:=f q) (by
   rcases hf q hq with h|⟨p,h1,h2,h3⟩
   ·exact .inl h
   exact .inr ⟨p,by unfold tY;rw[h1];exact FT h2,h2,h3⟩)
  have Z:vw (m.put n ((m.ah n).crashed keep)) q=upd (vw m q) n (f q):=by rw[pX J,O]
  refine⟨⟨g',QI.mk' I2 Z (by rw[tF J];rfl) (by rw[V7 J];rfl) (xw J (λx hx=>by cases hx) hn E) E E E,N2,λh1 h2=>by
   have:=R2 h1 h2;rw[<-Z]at this;exact this⟩,λj=>?_⟩
  show((m.put n ((m.ah n).crashed keep)).ah j).data.length<=_
  rw[J];by_cases e:j=n
  ·subst e;rw[upd_same]
   show(nD _ _ _).1.length<=_
   unfold nD
   split
   ·split
    ·simp
    split
    ·simp
    simp;omega
   simp
  rw[upd_ne e];exact Nat.le_refl _
 exact⟨⟨g,I,.refl g,λ_ h=>h⟩,λ_=>Nat.le_refl _⟩
end
section
variable {m m':Cl}{n q:Nat}{g g':Gh}{V:Nat->aQ}{P:Nat->Option bO}{U:Nat->Bool}{Lt:bG->Prop}{pl:Pl}{sh:Nat->Int×Int}{sv:List jH}
def zY (n q:Nat)(ep:Int)(evs:List Ev)(an:List iR)(i:Nat):jH:=⟨n,q,ep,evs.getD i aH,an.getD i eT,-1⟩
def zx {evs:List Ev}{an:List iR}:∀(il:List Nat) (m:Cl),m.recovered n q evs an il=
  {m with aV:=m.aV++il.map (zY n q ((m.ah n).bs q).ep evs an),shown:=if il=[]then m.shown else iw m.shown n q (((m.ah n).bs q).ep,(((m.ah n).bs q).evs.length:Int))}
 |[],m=>by simp[Cl.recovered]
 |i::r,m=>by
  rw[Cl.recovered,zx r];have e:∀(s:Nat->Nat->Int×Int) (p:Int×Int),iw (iw s n q p) n q p=iw s n q p:=λs p=>by
   funext a b
   unfold iw
   split<;>rfl
  unfold Cl.tell;dsimp only;rw[if_neg (by simp:¬i::r=[]),map_cons,append_assoc]
  congr 1
  split
  ·rfl
  exact e _ _
def ak0 {ep:Int}{evs:List Ev}{an:List iR}{q':Nat}(il:List Nat):(il.map (zY n q' ep evs an)).filter (λs=>decide (s.q=q))=if q'=q then il.map (zY n q' ep evs an)else[]:=by
 by_cases e:q'=q
 ·rw[if_pos e];refine filter_eq_self.2 λs hs=>?_;obtain⟨i,_,rfl⟩:=mem_map.1 hs;simp[zY,e]
 rw[if_neg e];refine filter_eq_nil_iff.2 λs hs=>?_;obtain⟨i,_,rfl⟩:=mem_map.1 hs;simp[zY,e]
def TM {G:List Ev}{ep:Int}(J:good G):∀(d F:Nat) {sv:List jH},F+d=G.length->rp dW sv=some (ay (G.take F)).1->rp dW (sv++((range G.length).drop F).map (zY n q ep G (ay G).2.1))=some (ay G).1
 | 0,F,sv,M,h=>by
  rw[Nat.add_zero]at M;rw[drop_of_length_le (by rw[length_range];omega),map_nil,append_nil,h,M,take_length]
 |d+1,F,sv,M,h=>by
  have I:F<G.length:=Y;have O:F< (range G.length).length:=by rw[length_range];exact I
  rw[drop_eq_getElem_cons O,getElem_range,map_cons];rw[show sv++zY n q ep G (ay G).2.1 F::((range G.length).drop (F+1)).map (zY n q ep G (ay G).2.1)=(sv++[zY n q ep G (ay G).2.1 F])++((range G.length).drop (F+1)).map (zY n q ep G (ay G).2.1) by rw[append_assoc];rfl];refine TM J d (F+1) Y ?_;have hs:=nV I;have Z:good (G.take F++[G[F]]):=by rw[<-hs];exact nU J
  obtain⟨s1,s2,s3⟩:=good_step Z;have ha:=Tn _ E J F I;have e1:(zY n q ep G (ay G).2.1 F).op=G[F]:=by
   show G.getD F aH=_
   rw[getD_eq_getElem?_getD,getElem?_eq_getElem I];rfl
  have e2:(zY n q ep G (ay G).2.1 F).ans=(iK (ay (G.take F)).1 G[F]).2.1:=by
   show(ay G).2.1.getD F eT=_
   rw[getD_eq_getElem?_getD,ha];rfl
  rw[Ec h (by rw[e1];exact s1) (by rw[e1,e2]),e1,hs,s3]
def QD (m:Cl)(q:Nat)(g:Gh)(n:Nat):Prop:=Inv g (vw m q) (tY m q) (upd (El m) n false) (MV m q) (m.off.at q) (zM m q) (zL m q)
noncomputable def vR (n:Nat)(bs:Nat->aQ)(m:Cl)(q:Nat):Cl:=if (bs q).role≠1 then m else((m.recover n q).aA n q (dK (bs q)).1).tell n q aF eT (-1)
def DU {bs:Nat->aQ}:∀(h:List Nat) (m:Cl),Cl.woken n bs h m=h.foldl (vR n bs) m
 |[],m=>rfl
 |q::r,m=>by
  rw[Cl.woken,foldl_cons];unfold vR
  split
  ·exact DU r m
  exact DU r _
structure W1 (m m':Cl)(n q':Nat):Prop where
 ah:∃b,m'.ah=upd m.ah n {m.ah n with bs:=upd (m.ah n).bs q' b}
 fly:m'.fly=m.fly
 off:m'.off=m.off
 sh:∀q,q'≠q->zM m' q=zM m q
 sv:∀q,q'≠q->zL m' q=zL m q
def Lh (m:Cl)(n q':Nat):∃I p,m.recover n q'={m with aV:=m.aV++I,shown:=p}/\(∀s∈I,s.q=q')/\ ∀a b,b≠q'->p a b=m.shown a b:=by
 unfold Cl.recover
 split
 ·exact⟨_,_,E,λs hs=>by rw[mem_singleton]at hs;subst hs;rfl,λa b h=>by unfold iw;rw[if_neg (λe=>h e.2)]⟩
 rw[zx];refine⟨_,_,E,λs hs=>?_,λa b h=>?_⟩
 ·obtain⟨i,_,rfl⟩:=mem_map.1 hs;rfl
 split
 ·rfl
 unfold iw;rw[if_neg (λe=>h e.2)]
def acQ {I:List jH}{q':Nat}(h:∀s∈I,s.q=q')(J:q'≠q):I.filter (λs=>decide (s.q=q))=[]:=filter_eq_nil_iff.2 λs hs=>by rw[h s hs];simp[J]
def ET {bs:Nat->aQ}(m:Cl)(n q':Nat):W1 m (vR n bs m q') n q':=by
 unfold vR
 split
 ·exact⟨⟨(m.ah n).bs q',by rw[aC (f:=(m.ah n).bs) E];exact AL⟩,E,E,λ_ _=>E,λ_ _=>E⟩
 obtain⟨I,p,e,h1,J⟩:=Lh m n q';rw[e];refine⟨⟨(dK (bs q')).1,E⟩,E,E,λq h=>?_,λq h=>?_⟩
 ·show(λj=>iw p n q' _ j q)=_
  rw[OP h]
  funext j
  exact J j q (λe=>h e.symm)
 show((m.aV++I)++_).filter _=_
 rw[tH,if_neg h,append_nil,filter_append,acQ h1 h,append_nil];rfl
def QD.far (I:QD m q g n)(hn:n<5)(hu:(m.ah n).up=true){q':Nat}(Z:q'≠q)(W:W1 m m' n q'):QD m' q g n/\vw m' q=vw m q/\(m'.ah n).up=true/\(m'.ah n).bs q=(m.ah n).bs q/\(m'.ah n).pend=(m.ah n).pend:=by
 obtain⟨b,J⟩:=W.ah;have M:({m.ah n with bs:=upd (m.ah n).bs q' b}:Nd).view q=(m.ah n).view q:=by
  rw[dJ (X:={m.ah n with bs:=upd (m.ah n).bs q' b}) hu,dJ hu];exact upd_ne (λe=>Z e.symm)
 have O:=mJ J M;have hun:El m'=El m:=mK J E;refine⟨?_,O,by rw[J,upd_same];exact hu,by rw[J,upd_same];exact upd_ne (λe=>Z e.symm),by rw[J,upd_same]⟩;unfold QD;rw[O,rY J E,hun,W.off,W.sh q Z,W.sv q Z];exact I.yT λx hx=>by
  obtain⟨x1,h⟩:=hx
  rcases h with h|⟨j,hj,h⟩
  ·rw[W.fly]at h;exact .inl ⟨x1,.inl h⟩
  rw[J]at h;by_cases e:j=n
  ·subst e;rw[upd_same]at h;exact .inl ⟨x1,.inr ⟨j,hj,h⟩⟩
  rw[upd_ne e]at h;exact .inl ⟨x1,.inr ⟨j,hj,h⟩⟩
def QD.aCE (I:QD m q g n)(hn:n<5)(hu:(m.ah n).up=true)(hr:((m.ah n).bs q).role=1):QD (m.recover n q) q g.all n/\n=g.o/\(m.recover n q).ah=m.ah:=by
 have hV:=gT (q:=q) hu;have J:n=g.o:=I.oEp hn (by rw[hV];exact .inl hr);have fG:((m.ah n).bs q).ep=g.m:=by rw[<-hV,J];exact I.q9
 have M:((m.ah n).bs q).evs=g.G:=by rw[<-hV,J];exact I.uJ
 refine⟨?_,J,?_⟩
 ·unfold Cl.recover;by_cases c:(m.shown n q).1≠((m.ah n).bs q).ep
  ·rw[if_pos c];have ht:¬g.t=g.m:=λe=>by
    rcases I.Lc with⟨_,h,_⟩|⟨h,_⟩
    ·apply c;have h':m.shown g.o q=_:=h;rw[fG,J,h']
    omega
   have I2:=I.ZM ht (s:=⟨n,q,g.m,aF,eT,-1⟩) E E E J;unfold QD;have e1:zM (m.tell n q aF eT (-1)) q=upd (zM m q) g.o ((g.m:Int),(g.G.length:Int)):=by
    show(λj=>iw m.shown n q _ j q)=_
    rw[FR,fG,M,J];rfl
   have e2:zL (m.tell n q aF eT (-1)) q=zL m q++[⟨n,q,g.m,aF,eT,-1⟩]:=by
    show(m.aV++_).filter _=_
    rw[tH,if_pos E,fG];rfl
   rw[e1,e2];exact I2
  rw[if_neg c,zx,fG,M];have c':(m.shown n q).1=((m.ah n).bs q).ep:=Classical.not_not.1 c
  rcases I.Lc with⟨h1,h2,h3⟩|⟨_,h2,_⟩
  ·have O:m.shown n q=((g.m:Int),(g.F:Int)):=by rw[J];exact h2
   rw[O];dsimp only;rw[Int.toNat_natCast];have hrp:=TM (n:=n) (q:=q) (ep:=(g.m:Int)) I.gd (g.G.length-g.F) g.F Y I.rps;have I2:=I.told h1 hrp λs hs=>by
    obtain⟨i,_,rfl⟩:=mem_map.1 hs;exact⟨E,J⟩
   unfold QD;have e2:zL {m with aV:=m.aV++((range g.G.length).drop g.F).map (zY n q (g.m:Int) g.G (ay g.G).2.1),shown:=if (range g.G.length).drop g.F=[]then m.shown else iw m.shown n q ((g.m:Int),(g.G.length:Int))} q=zL m q++((range g.G.length).drop g.F).map (zY n q (g.m:Int) g.G (ay g.G).2.1):=by
    show(m.aV++_).filter _=_
    rw[filter_append,ak0,if_pos E];rfl
   have e1:zM {m with aV:=m.aV++((range g.G.length).drop g.F).map (zY n q (g.m:Int) g.G (ay g.G).2.1),shown:=if (range g.G.length).drop g.F=[]then m.shown else iw m.shown n q ((g.m:Int),(g.G.length:Int))} q=upd (zM m q) g.o ((g.m:Int),(g.G.length:Int)):=by
    unfold zM;dsimp only
    split
    ·rename_i Z
     have:=congrArg length Z;rw[length_drop,length_range,length_nil]at this;refine(aC ?_).symm;rw[<-J,O];have:g.F=g.G.length:=Y;rw[this]
    rw[FR,J]
   rw[e1,e2];exact I2
  exfalso
  have h2':(m.shown g.o q).1<g.m:=h2;rw[<-J,c',fG]at h2';omega
 obtain⟨ss,p,e,_,_⟩:=Lh m n q;rw[e]
def QD.near {bs:Nat->aQ}(I:QD m q g n)(hn:n<5)(hu:(m.ah n).up=true)(hp:(m.ah n).pend=none)(hb:(m.ah n).bs q=bs q)(hr:(bs q).role=1)(hw:dK (bs q)=(iy (bs q),0))(hf:aj (iy (bs q))=0)(hfb:aj (bs q)=0):
  ∃g',QD (vR n bs m q) q g' n/\lM g g'/\g'.m=g.m/\g'.o=n/\n=g.o/\g'.t=g'.m/\g'.F=g'.G.length:=by
 obtain⟨I1,O,J⟩:=I.aCE hn hu (by rw[hb];exact hr);have hV1:vw (m.recover n q) q n=bs q:=by
  unfold vw;rw[J,dJ hu];exact hb
 have auy:vw (m.recover n q) q g.o=bs q:=by rw[<-hV1];congr 1;exact O.symm
 have fG:(bs q).ep=g.m:=by rw[<-auy];exact I1.q9
 have hev:(bs q).evs=g.G:=by rw[<-auy];exact I1.uJ
 have hgd:good (g.G++[aF]):=by have:=(eP hf).2;unfold iy at this;rw[hev]at this;exact this
 have hs:=eH hfb;unfold aZ at hs;have Ay:(bs q).tg=0:=Y;have hpn:tY (m.recover n q) q g.all.o=none:=by
  show pq q ((m.recover n q).ah g.o).pend=none
  rw[J,<-O,hp];rfl
 have huf:upd (El (m.recover n q)) n false g.all.o=false:=by show upd _ n false g.o=false;rw[<-O];exact upd_same _ _ _
 have Z:vw (m.recover n q) q g.all.o=bs q:=by show vw (m.recover n q) q g.o=_;rw[<-O];exact hV1
 have I2:=Inv.append (e:=aF) (b:=iy (bs q)) I1 hpn huf (by rw[Z];omega) E hgd (by rw[Z];rfl) (by rw[Z];exact hr.symm) (by rw[Z];exact Ay.symm) (by show(bs q).evs++[aF]=_;rw[hev];rfl);obtain⟨s1,s2,s3⟩:=good_step hgd;have aCF:rp dW (zL (m.recover n q) q)=some (ay g.G).1:=by
  have:=I1.rps;rwa [show g.all.G.take g.all.F=g.G from take_length]at this
 have I3:=I2.told (sv2:=[⟨n,q,g.m,aF,eT,-1⟩]) E (by rw[Ec aCF s1 (aeL s2)];show _=some (ay (g.G++[aF])).1;rw[s3]) λs hs=>by rw[mem_singleton]at hs;subst hs;exact⟨E,O⟩
 refine⟨(g.all.app aF).all,?_,⟨Nat.le_refl _,λ_ _=>E,by show(g.G++[aF]).length<=_;simp⟩,E,O.symm,O,E,E⟩;unfold vR;rw[if_neg (λh=>h hr),hw];have M:(((m.recover n q).aA n q (iy (bs q))).tell n q aF eT (-1)).ah=upd (m.recover n q).ah n (((m.recover n q).ah n).aA q (iy (bs q))):=rfl;have hur:((m.recover n q).ah n).up=true:=by rw[J];exact hu
 have MG:(((m.recover n q).ah n).aA q (iy (bs q))).view q=iy (bs q):=by rw[dJ (X:=((m.recover n q).ah n).aA q _) hur];exact upd_same _ _ _
 have e0:(((m.recover n q).aA n q (iy (bs q))).ah n).bs q=iy (bs q):=by
  show((upd (m.recover n q).ah n _) n).bs q=_
  rw[upd_same];exact upd_same _ _ _
 unfold QD;have e1:zM (((m.recover n q).aA n q (iy (bs q))).tell n q aF eT (-1)) q=upd (zM (m.recover n q) q) g.o ((g.m:Int),((g.G++[aF]).length:Int)):=by
  show(λj=>iw (m.recover n q).shown n q _ j q)=_
  rw[FR,e0]
  show upd _ n ((bs q).ep,((((bs q).evs++[aF]).length:Nat):Int))=_
  rw[fG,hev,O];rfl
 have e2:zL (((m.recover n q).aA n q (iy (bs q))).tell n q aF eT (-1)) q=zL (m.recover n q) q++[⟨n,q,g.m,aF,eT,-1⟩]:=by
  show((m.recover n q).aV++_).filter _=_
  rw[tH,if_pos E,e0]
  show _++[(⟨n,q,(bs q).ep,aF,eT,-1⟩:jH)]=_
  rw[fG];rfl
 have e3:vw (((m.recover n q).aA n q (iy (bs q))).tell n q aF eT (-1)) q=upd (vw (m.recover n q) q) g.all.o (iy (bs q)):=by
  rw[pX M,MG]
  show upd _ n _=upd _ g.o _
  rw[<-O]
 rw[e1,e2,e3,rY M E,mK M E];exact I3.yT λx hx=>by
  obtain⟨x1,x2⟩:=hx
  rcases x2 with x2|⟨j,hj,x2⟩
  ·exact .inl ⟨x1,.inl x2⟩
  rw[M]at x2;by_cases e:j=n
  ·subst e;rw[upd_same]at x2;exact .inl ⟨x1,.inr ⟨j,hj,x2⟩⟩
  rw[upd_ne e]at x2;exact .inl ⟨x1,.inr ⟨j,hj,x2⟩⟩
def TN {bs:Nat->aQ}(hn:n<5):∀(h:List Nat) {m:Cl},QD m q g n->(m.ah n).up=true->q ∉ h->QD (h.foldl (vR n bs) m) q g n/\vw (h.foldl (vR n bs) m) q=vw m q
 |[],m,I,_,_=>⟨I,E⟩
 |q'::r,m,I,M,J=>by
  rw[mem_cons,not_or]at J;obtain⟨O,Z,h1,_,_⟩:=I.far hn M (λe=>J.1 e.symm) (ET (bs:=bs) m n q');obtain⟨I2,e2⟩:=TN hn r O h1 J.2;exact⟨I2,e2.trans Z⟩
def OU {bs:Nat->aQ}(hn:n<5)(hr:(bs q).role=1)(hw:dK (bs q)=(iy (bs q),0))(hf:aj (iy (bs q))=0)(J:aj (bs q)=0):∀(M:List Nat) {m:Cl},QD m q g n->(m.ah n).up=true->(m.ah n).pend=none->(m.ah n).bs q=bs q->q∈M->M.Nodup->
  ∃g',QD (M.foldl (vR n bs) m) q g' n/\lM g g'/\g'.m=g.m/\g'.o=n/\n=g.o/\g'.t=g'.m/\g'.F=g'.G.length
 |[],m,_,_,_,_,O,_=>by simp at O
 |q'::r,m,I,Z,hp,hb,O,hnd=>by
  obtain⟨h1,h2⟩:=nodup_cons.1 hnd;rw[foldl_cons];by_cases e:q'=q
  ·subst e;obtain⟨g',I1,N1,k1,k2,k3,k4,k5⟩:=I.near hn Z hp hb hr hw hf J;obtain⟨b,hW⟩:=(ET (bs:=bs) m n q').ah;have hu1:((vR n bs m q').ah n).up=true:=by rw[hW,upd_same];exact Z
   obtain⟨I2,_⟩:=TN hn r I1 hu1 h1;exact⟨g',I2,N1,k1,k2,k3,k4,k5⟩
  have hq':q∈r:=by
   rcases mem_cons.1 O with h|h
   ·exact absurd h.symm e
   exact h
  obtain⟨I1,e1,u1,b1,p1⟩:=I.far hn Z e (ET (bs:=bs) m n q');exact OU hn hr hw hf J r I1 u1 (p1.trans hp) (b1.trans hb) hq' h2
def Kq {s:Int}{f:Nat->aQ}:∀(I:List Nat) {d d':List UInt8},eF s f I d=some d'->d'.length<=d.length+46*I.length
 |[],d,d',h=>by cases h;simp
 |q::r,d,d',h=>by
  rw[eF]at h;rw[length_cons]
  split at h
  ·have:=Kq r h;omega
  split at h
  ·cases h
  split at h
  ·cases h
  rename_i O hw
  obtain⟨J,_,_⟩:=qx hw;have h1:=Kq r h;have M:=xA [fH 2 q (f q).ep 0 aF];rw[J,length_append]at h1;simp only[length_cons,length_nil]at M;omega
def acR {T S dV K:Nat}(I:QI m q g)(hB:bY m T S dV K)(hn:n<5)(hq:q<4):(∃g',QI (m.start n) q g'/\lM g g'/\C9 q g g' m (m.start n))/\ ∀j,((m.start n).ah j).data.length<=(m.ah j).data.length+184:=by
 rcases sM (hB.iE n hn)with⟨_,e⟩|⟨hu,rs,t,f,hd,e|⟨ws,e1,e2,e3,W,e5,e6,e7⟩⟩
 ·rw[e];exact⟨⟨g,I,.refl g,λ_ h=>h⟩,λ_=>le_add_right _ _⟩
 ·rw[e];exact⟨⟨g,I,.refl g,λ_ h=>h⟩,λ_=>le_add_right _ _⟩
 have hin:q∈[0,1,2,3]:=by
  have h:q=0\/q=1\/q=2\/q=3:=Y
  rcases h with rfl|rfl|rfl|rfl<;>decide
 have Z:=hd.rd.2.2 q hq;have V9:vw m q n=f q:=hd.view hu hq;obtain⟨hfb,hr2⟩:=hd.kX q hq;obtain⟨m1,O⟩:∃m1,m1=m.put n { (m.ah n).blank with up:=true,data:=bI (rs++ws),syn:=(bI (rs++ws)).length,bs:=bg (m.ah n).data (m.ah n).syn}:=⟨_,E⟩;have J:m1.ah=upd m.ah n { (m.ah n).blank with up:=true,data:=bI (rs++ws),syn:=(bI (rs++ws)).length,bs:=bg (m.ah n).data (m.ah n).syn}:=by rw[O];rfl
 have aq9:({ (m.ah n).blank with up:=true,data:=bI (rs++ws),syn:=(bI (rs++ws)).length,bs:=bg (m.ah n).data (m.ah n).syn}:Nd).view q=(m.ah n).view q:=by
  rw[dJ E];unfold Nd.view;rw[if_neg (by rw[hu];simp)]
 have aoo:=mJ J aq9;have aCG:tY m1 q=tY m q:=rY J (by rw[hd.lF];rfl);have aCH:upd (El m1) n false=El m:=by rw[V7 J,qR];exact aC hu
 have I1:QD m1 q g n:=by
  unfold QD;rw[aoo,aCG,aCH];have hoff:m1.off=m.off:=by rw[O];rfl
  have hsh:zM m1 q=zM m q:=by rw[O];rfl
  have hsv:zL m1 q=zL m q:=by rw[O];rfl
  rw[hoff,hsh,hsv];exact I.yT (xw J (λx hx=>by cases hx) hn (by rw[O];rfl))
 have hu1:(m1.ah n).up=true:=by rw[J,upd_same]
 have hp1:(m1.ah n).pend=none:=by rw[J,upd_same];rfl
 have hb1:(m1.ah n).bs q=bg (m.ah n).data (m.ah n).syn q:=by rw[J,upd_same]
 have eX:(m.start n).ah=upd m.ah n { (m.ah n).blank with up:=true,data:=bI (rs++ws),syn:=(bI (rs++ws)).length,bs:=λq=>if q∈[0,1,2,3]/\(bg (m.ah n).data (m.ah n).syn q).role=1 then iy (bg (m.ah n).data (m.ah n).syn q)else bg (m.ah n).data (m.ah n).syn q}:=by
  rw[W.ah,aW];exact qR _ _ _ _
 have auz:El (m.start n)=upd (upd (El (m.start n)) n false) n true:=by
  rw[qR];refine(aC ?_).symm;unfold El;rw[eX,upd_same]
 rw[<-O,DU]at e1;refine⟨?_,λj=>?_⟩
 ·by_cases hr:(bg (m.ah n).data (m.ah n).syn q).role=1
  ·have hf1:aj (iy (bg (m.ah n).data (m.ah n).syn q))=0:=by rw[Z]at hr⊢;exact e7 q hq hr
   have hw1:dK (bg (m.ah n).data (m.ah n).syn q)=(iy (bg (m.ah n).data (m.ah n).syn q),0):=by
    unfold dK;rw[if_neg (λh=>h (by rw[Z];exact hfb)),if_neg Y,if_neg (λh=>h hf1)];rfl
   obtain⟨g',I2,N2,k1,k2,k3,k4,k5⟩:=OU hn hr hw1 hf1 (by rw[Z];exact hfb) [0,1,2,3] I1 hu1 hp1 hb1 hin dQ;rw[<-e1]at I2;have I3:=Inv.up I2 n λ_=>⟨k4,k5⟩;refine⟨g',?_,N2,λ_ h=>?_⟩
   ·unfold QI;rw[auz];exact I3
   rw[<-k3,V9,<-Z]at h;omega
  have M:QD (m.start n) q g n/\vw (m.start n) q=vw m1 q:=by
   rw[e1];have key:∀(ql:List Nat) {m':Cl},QD m' q g n->(m'.ah n).up=true->QD (ql.foldl (vR n (bg (m.ah n).data (m.ah n).syn)) m') q g n/\vw (ql.foldl (vR n (bg (m.ah n).data (m.ah n).syn)) m') q=vw m' q:=by
    intro ql
    induction ql with
    |nil=>intro m' I' _;exact⟨I',E⟩
    |cons q' r ih=>
     intro m' I' hu';rw[foldl_cons];by_cases e:q'=q
     ·subst e;have:vR n (bg (m.ah n).data (m.ah n).syn) m' q'=m':=if_pos hr;rw[this];exact ih I' hu'
     obtain⟨I3,v3,u3,_,_⟩:=I'.far hn hu' e (ET (bs:=bg (m.ah n).data (m.ah n).syn) m' n q');obtain⟨I4,v4⟩:=ih I3 u3;exact⟨I4,v4.trans v3⟩
   exact key _ I1 hu1
  have hst:n=g.o->g.t=g.m/\g.F=g.G.length:=λho=>by
   have h3:(vw (m.start n) q g.o).role=3:=by
    rw[M.2,aoo,<-ho,V9];have:=I.Aw;rw[<-ho,V9]at this;rw[Z]at hr;omega
   have hF:=M.1.slF h3;refine⟨?_,hF⟩
   rcases M.1.Lc with h|⟨_,_,_,h,_⟩
   ·exact h.1
   omega
  have I3:=Inv.up M.1 n hst;refine⟨g,?_,.refl g,λ_ h=>by rw[M.2,aoo];exact h⟩;unfold QI;rw[auz];exact I3
 rw[eX];by_cases e:j=n
 ·subst e;rw[upd_same]
  show(bI (rs++ws)).length<=_
  have hww:=Kq [0,1,2,3] e3;rw[hd.rd.1]at hww;dsimp only at hww;have:=congrArg length hd.data;rw[length_append]at this;simp only[length_cons,length_nil]at hww;omega
 rw[upd_ne e];exact le_add_right _ _
end
section
variable {m m' m2:Cl}{n q k:Nat}{g g' g2:Gh}
def oM {T S dV K:Nat}(O:bY m T S dV K)(hn:n<5){j:Nat}(I:j≠n):(m.step n).ah j=m.ah j:=by
 cases h:(m.ah n).up with
 |false=>rw[mG h]
 |true=>
  obtain⟨rs,us,J⟩:=(O.iE n hn).sG h
  cases M:(m.ah n).pend with
  |some p=>
   obtain⟨h1,Z,h3⟩:=J.FN p M;obtain⟨_,hf⟩:=iL J.tape J.kX Z h3;obtain⟨dB,y1,_⟩:=zK E h M h3 hf Z;rw[y1,upd_ne I]
  |none=>
   have R:=Km h ⟨us,J⟩ λl hl=>l9 (O.iO n hn l hl);rw[jq h M]
   split
   ·show upd (m.more n).ah n _ j=_
    rw[upd_ne I];exact R.mV j I
   exact R.mV j I
def OV (m:Cl)(l:bG)(j:Nat):((m.come l).ah j).data=(m.ah j).data:=by
 unfold Cl.come
 split
 ·rfl
 split
 ·split<;>rfl
 split
 ·show((upd m.ah l.tg.toNat _) j).data=_
  by_cases e:j=l.tg.toNat
  ·rw[e,upd_same]
  rw[upd_ne e]
 rfl
def Li:∀(ls:List bG) (m:Cl) (j:Nat),((ls.foldl Cl.come m).ah j).data=(m.ah j).data
 |[],_,_=>rfl
 |l::ls,m,j=>(Li ls (m.come l) j).trans (OV m l j)
def acT (m:Cl)(at_:Nat)(c s:Bool)(j:Nat):((m.pick at_ c s).ah j).data=(m.ah j).data:=by
 unfold Cl.pick
 split
 ·rfl
 dsimp only
 split
 ·rw[OV]
  split<;>rfl
 split<;>rfl
structure Later (q:Nat)(g g':Gh)(m m':Cl):Prop where
 mle:g.m<=g'.m
 own:∀k,k<=g.m->g'.own k=g.own k
 fF:C9 q g g' m m'
def Later.refl:Later q g g m m:=⟨Nat.le_refl _,λ_ _=>E,λ_ h=>h⟩
def Later.trans (h:Later q g g' m m')(I:Later q g' g2 m' m2):Later q g g2 m m2:=by
 refine⟨Nat.le_trans h.mle I.mle,λk J=>(I.own k (Nat.le_trans J h.mle)).trans (h.own k J),λe Z=>?_⟩;have h1:=h.mle;have h2:=I.mle;have M:g'.m=g.m:=Y;have O:g'.o=g.o:=by unfold Gh.o;rw[M];exact h.own _ (Nat.le_refl _)
 have:=I.fF Y (by rw[O];exact h.fF M Z);rwa [O]at this
def lM.later (h:lM g g')(I:C9 q g g' m m'):Later q g g' m m':=⟨h.m,h.own,I⟩
structure LW (m:Cl)(q:Nat)(g:Gh)(k:Nat):Prop where
 qi:QI m q g
 Xh:g.G.length<=k
 data:∀n,n<5->(m.ah n).data.length<=184*k
def Qg {a:Ac}(h:LW m q g k)(M:Bs m k)(ha:vG a)(h1:a.kd≠1)(hq:q<4)(hk:k<=540):∃g',LW (m.act a) q g' (k+1)/\Later q g g' m (m.act a):=by
 obtain⟨I,hG,hD⟩:=h;obtain⟨a1,a2,a3,a4,a5,a6⟩:=ha;have hn:a.nd.toNat<5:=Y;have hqu:a.qu.toNat<4:=Y;have fin:∀ {m':Cl} {g':Gh},QI m' q g'->lM g g'->C9 q g g' m m'->(∀n,n<5->(m'.ah n).data.length<=(m.ah n).data.length+184)-> ∃g',LW m' q g' (k+1)/\Later q g g' m m':=λ{m' g'} I' N s hd=>
  ⟨g',⟨I',by have:=N.Xh;omega,λn hn=>by have:=hd n hn;have:=hD n hn;omega⟩,N.later s⟩
 unfold Cl.act;rw[if_neg h1]
 split
 ·obtain⟨J,e2⟩:=agV (l:=vQ a.nd a.qu.toNat a.op m.calls) (c:=m.calls+1) I E;exact fin J (.refl g) (λ_ h=>by rw[e2];exact h) λn _=>le_add_right _ _
 split
 ·obtain⟨⟨g',J,N2,O⟩,Z⟩:=agU I M hn (by have:=hD _ hn;omega) Y;refine fin J N2 O λj hj=>?_;by_cases e:j=a.nd.toNat
  ·rw[e];exact Z
  rw[oM M hn e];exact le_add_right _ _
 split
 ·obtain⟨J,e2⟩:=TK (at_:=a.at_.toNat) (c:=decide (a.kd≠5)) (s:=decide (a.kd=6)) I M.mR hq;exact fin J (.refl g) (λ_ h=>by rw[e2];exact h) λn _=>by rw[acT];exact le_add_right _ _
 split
 ·obtain⟨J,e2⟩:=Qf I M.mR hq;refine fin J (.refl g) (λ_ h=>by rw[e2];exact h) λn _=>?_;unfold Cl.all;rw[Li];exact le_add_right _ _
 split
 ·obtain⟨⟨g',J,N2,O⟩,Z⟩:=acP (keep:=a.kp) I M hn hq a5.1;exact fin J N2 O λj _=>le_add_right_of_le (Z j)
 split
 ·obtain⟨⟨g',J,N2,O⟩,Z⟩:=acR I M hn hq;exact fin J N2 O λj _=>Z j
 obtain⟨J,O,Z⟩:=TL (tg:=a.nd) I M hqu hq;exact fin J (.refl g) (λ_ h=>O h) λj _=>by rw[Z j];exact le_add_right _ _
def ZU (J:q<4):∀(l:List Ac) {m:Cl} {g:Gh} {k:Nat},LW m q g k->Bs m k->(∀a∈l,vG a/\a.kd≠1)->k+l.length<=540-> ∃g',LW (m.run l) q g' (k+l.length)/\Bs (m.run l) (k+l.length)/\Later q g g' m (m.run l)
 |[],m,g,k,h,I,_,_=>⟨g,h,I,.refl⟩
 |a::l,m,g,k,h,I,M,O=>by
  rw[length_cons]at O;obtain⟨a1,a2⟩:=M a iQ;obtain⟨g1,h1,Z⟩:=Qg h I a1 a2 J Y;obtain⟨g2,h2,b2,r2⟩:=ZU J l h1 (xW I a1 Y) (λx hx=>M x (by simp[hx])) Y;rw[length_cons,show k+(l.length+1)=k+1+l.length by omega];exact⟨g2,h2,b2,Z.trans r2⟩
end
def Si (n q:Nat):Ac:=⟨1,n,q,0,0,0,0,0,0,0,0⟩
def amP {n q:Nat}(hn:n<5)(I:q<4):vG (Si n q):=⟨by show(1:Int)<=1/\(1:Int)<=10;omega,by show 0<=(n:Int)/\(n:Int)<=4;omega,by show 0<=(q:Int)/\(q:Int)<=3;omega,by show(0:Int)<=0/\(0:Int)<=1048576;omega,by show(0:Int)<=0/\(0:Int)<=100000;omega,λh=>absurd (show(1:Int)=2 from h) dQ⟩
def ZV {m:Cl}{n q:Nat}{d:Dir}{x:List UInt8}(h:(m.ah n).up=true)(I:(m.ah n).pend=none)(O:rU m.off q n=(d,0))(J:iT ((m.ah n).bs q) 1=(⟨1,1,0,0,0,[]⟩,0))(hw:fB (m.ah n).data (m.ah n).syn [fH 1 q 1 0 aH]=some x):
  m.make n q={m.put n {m.ah n with data:=x,syn:=x.length,bs:=upd (m.ah n).bs q ⟨1,1,0,0,0,[]⟩}with off:=d,shown:=iw m.shown n q (1,0)}:=by
 obtain⟨X,M⟩:∃X,m.ah n=X:=⟨_,E⟩;rw[M]at h I J hw⊢;unfold Cl.make Nd.write;rw[M,O,J,hw,if_neg (by rw[h,I];simp),if_neg iQ];rfl
def Da (q:Nat):List UInt8:=bI [fH 1 q 1 0 aH]
def l6 (q:Nat):Nd:={nd0 with data:=Da q,syn:=(Da q).length,bs:=upd (λ_=>bD) q ⟨1,1,0,0,0,[]⟩}
def aop:Cl:={kW with ah:=upd kW.ah 0 (l6 0),off:=⟨⟨0,1⟩,nowhere,nowhere,nowhere⟩,shown:=iw kW.shown 0 0 (1,0)}
def kI:Cl:={kW with ah:=upd (upd kW.ah 0 (l6 0)) 1 (l6 1),off:=⟨⟨0,1⟩,⟨1,1⟩,nowhere,nowhere⟩,shown:=iw (iw kW.shown 0 0 (1,0)) 1 1 (1,0)}
def amQ {q:Nat}(I:q<4):fB nd0.data nd0.syn [fH 1 q 1 0 aH]=some (Da q):=by
 have:=u7 (rs:=[fH 1 q 1 0 aH]) (l:=[]) (s:=0) (λr h=>by rw[mem_singleton]at h;subst h;exact oG Y I Y Y dQ) Y iQ iQ;rw[nil_append]at this;exact this
def dmk {d:Dir}{q n:Nat}(I:∀k,k<4->yK (d.at k))(M:q<4)(hn:n<5)(J:d.at q=nowhere):rU d q n=(d.set q ⟨n,1⟩,0):=by
 unfold rU;rw[PY (Bu I) Y];dsimp only;rw[if_neg iQ,if_neg Y,if_neg (by rw[Int.toNat_natCast];exact λh=>h J),Int.toNat_natCast]
def Wh:kW.act (Si 0 0)=aop:=by
 show kW.make 0 0=_
 rw[ZV (d:=⟨⟨0,1⟩,nowhere,nowhere,nowhere⟩) (x:=Da 0) E E (dmk (d:=⟨nowhere,nowhere,nowhere,nowhere⟩) (q:=0) (n:=0) (λk I=>by
  have h:k=0\/k=1\/k=2\/k=3:=Y
  rcases h with rfl|rfl|rfl|rfl<;>exact .inl ⟨E,E⟩) Y Y E) (P6 (q:=0) P9 E dQ Y).1 (amQ Y)]
 rfl
def Wi:aop.act (Si 1 1)=kI:=by
 show aop.make 1 1=_
 rw[ZV (d:=⟨⟨0,1⟩,⟨1,1⟩,nowhere,nowhere⟩) (x:=Da 1) E E (dmk (d:=⟨⟨0,1⟩,nowhere,nowhere,nowhere⟩) (q:=1) (n:=1) (λk I=>by
  have h:k=0\/k=1\/k=2\/k=3:=Y
  rcases h with rfl|rfl|rfl|rfl<;>first|exact .inl ⟨rfl,rfl⟩|exact .inr ⟨by decide,by decide,by decide,by decide⟩) Y Y E) (P6 (q:=1) P9 E dQ Y).1 (amQ Y)]
 rfl
def g0 (q:Nat):Gh:=⟨1,λ_=>q,λ_=>0,[],0,1⟩
def adY {q:Nat}(hq:q<2):LW kI q (g0 q) 2:=by
 have hV:∀n,vw kI q n=if n=q then⟨1,1,0,0,0,[]⟩else bD:=λn=>by
  have hup:(kI.ah n).up=true:=by
   show(upd (upd kW.ah 0 (l6 0)) 1 (l6 1) n).up=true
   unfold upd
   split
   ·rfl
   split<;>rfl
  rw[gT hup]
  show(upd (upd kW.ah 0 (l6 0)) 1 (l6 1) n).bs q=_
  have h:q=0\/q=1:=Y
  rcases h with rfl|rfl
  ·by_cases M:n=1
   ·subst M;rfl
   by_cases O:n=0
   ·subst O;rfl
   rw[upd_ne M,upd_ne O,if_neg O];rfl
  by_cases M:n=1
  ·subst M;rfl
  by_cases O:n=0
  ·subst O;rfl
  rw[upd_ne M,upd_ne O,if_neg M];rfl
 have hP:∀n,tY kI q n=none:=λn=>by
  unfold tY;have:(kI.ah n).pend=none:=by
   show(upd (upd kW.ah 0 (l6 0)) 1 (l6 1) n).pend=none
   unfold upd
   split
   ·rfl
   split<;>rfl
  rw[this];rfl
 have hI:∀n,(kI.ah n).inbox=[]:=λn=>by
  show(upd (upd kW.ah 0 (l6 0)) 1 (l6 1) n).inbox=[]
  unfold upd
  split
  ·rfl
  split<;>rfl
 have hL:∀l,¬MV kI q l:=λl h=>by
  rcases h.2 with h|⟨j,_,h⟩
  ·cases h
  rw[hI j]at h;cases h
 have Z:kI.off.at q=⟨q,1⟩:=by
  have h:q=0\/q=1:=Y
  rcases h with rfl|rfl<;>rfl
 have hsh:∀n,zM kI q n=if n=q then(1,0)else(0,0):=λn=>by
  show iw (iw kW.shown 0 0 (1,0)) 1 1 (1,0) n q=_
  have h:q=0\/q=1:=Y
  rcases h with rfl|rfl
  ·unfold iw;rw[if_neg Y];by_cases e:n=0
   ·rw[if_pos ⟨e,E⟩,if_pos e]
   rw[if_neg (λh=>e h.1),if_neg e];rfl
  unfold iw;by_cases e:n=1
  ·rw[if_pos ⟨e,E⟩,if_pos e]
  rw[if_neg (λh=>e h.1),if_neg e,if_neg Y];rfl
 have ho:(g0 q).o=q:=rfl;have J:vw kI q (g0 q).o=⟨1,1,0,0,0,[]⟩:=by rw[hV,ho,if_pos E]
 have hm:(g0 q).m=1:=rfl;refine⟨⟨Nat.le_refl _,λ_ _ _=>by show q<5;omega,λk h1 h2=>by rw[hm]at h2;omega,⟨1,Z,Nat.le_refl _,.inl E⟩,by rw[J];rfl,by rw[J];rfl,by rw[J];exact .inl E,λh=>by rw[J]at h;exact absurd E h,xk,λn hn I=>?_,λk h1 h2=>?_,λk h1 h2=>by rw[hm]at h2;omega,λl hl=>absurd hl (hL l),λn _ p hp=>(by rw[hP]at hp;cases hp),.inl ⟨E,?_,zero_le _⟩,λ_=>E,λ_=>E,λn _ I=>?_,?_,⟨λs hs=>(by cases hs),λi a b ha=>(by cases ha),λs hs=>(by cases hs),λ_=>E⟩⟩,zero_le _,λn hn=>?_⟩
 ·rw[ho]at I;rw[hV,if_neg I];exact .inl ⟨E,by show(0:Int)<=0;omega,by show(0:Int)<1;omega⟩
 ·rw[hm]at h2;have:k=1:=Y;subst this
  show(1:Int)<=(vw kI q q).ep
  rw[hV,if_pos E]
  decide
 ·rw[hsh,ho,if_pos E];rfl
 ·rw[ho]at I;rw[hsh,if_neg I]
  show(0:Int)<1
  omega
 ·show rp dW []=some (ay (take 0 [])).1
  rw[take_nil,yh (l:=[]) iQ (show gW dW [] []=some (dW,[])from E)];rfl
 have h1:∀q,(Da q).length<=46:=λq=>by have:=xA [fH 1 q 1 0 aH];simpa[Da]using this
 show(upd (upd kW.ah 0 (l6 0)) 1 (l6 1) n).data.length<=_
 unfold upd
 split
 ·have:=h1 1;show(Da 1).length<=_;omega
 split
 ·have:=h1 0;show(Da 0).length<=_;omega
 show 0<=_;omega
def Rv:Bs kI 2:=by
 rw[<-Wi,<-Wh];exact xW (xW aoc (amP Y Y) Y) (amP Y Y) Y
def FU (l:bG):Nat:=if l.kd=0\/l.kd=2\/l.kd=3\/l.kd=4 then 1 else 0
def Wj:Option bO->Nat
 |some (.serve _ _ _ _ _)=>1
 |some (.begun _ _)=>1
 |some (.got _ _ _)=>1
 |some (.fF _ _ _)=>1
 |_=>0
def om:List bG->Nat
 |[]=>0
 |l::r=>FU l+om r
def qN (x:Nd):Nat:=om x.inbox+Wj x.pend
def Cl.cw (m:Cl):Nat:=om m.fly+(qN (m.ah 0)+(qN (m.ah 1)+(qN (m.ah 2)+(qN (m.ah 3)+qN (m.ah 4)))))
def Cl.nm (m:Cl)(n:Nat):Nat:=om m.fly+qN (m.ah n)
def tJ:∀(a b:List bG),om (a++b)=om a+om b
 |[],b=>by simp[om]
 |l::a,b=>by rw[cons_append,om,om,tJ a b];omega
def Em (l:bG):om [l]=FU l:=rfl
def GR:∀(a:List bG) (i:Nat) (l:bG),a[i]? =some l->om (a.eraseIdx i)+FU l=om a
 |[],i,l,h=>by cases h
 |x::a,0,l,h=>by cases h;rw[eraseIdx_cons_zero,om];omega
 |x::a,i+1,l,h=>by
  rw[eraseIdx_cons_succ,om,om];have:=GR a i l (by simpa using h);omega
def JN (l:bG):FU l<=1:=by unfold FU;split<;>omega
def awO {l:bG}(h:l.kd≠0/\l.kd≠2/\l.kd≠3/\l.kd≠4):FU l=0:=if_neg Y
section
variable {m w m':Cl}{n q:Nat}{x:Nd}{l:bG}{op:Ev}{num:Int}{a:iR}{b:aQ}{ac:Ac}
def Xj {d:Nat}(hn:n<5)(I:∀j,j≠n->m'.ah j=m.ah j)(h:m'.nm n<=m.nm n+d):m'.cw<=m.cw+d:=by
 unfold Cl.nm at h;unfold Cl.cw
 rcases five hn with rfl|rfl|rfl|rfl|rfl
 ·rw[I 1 dQ,I 2 dQ,I 3 dQ,I 4 dQ];omega
 ·rw[I 0 dQ,I 2 dQ,I 3 dQ,I 4 dQ];omega
 ·rw[I 0 dQ,I 1 dQ,I 3 dQ,I 4 dQ];omega
 ·rw[I 0 dQ,I 1 dQ,I 2 dQ,I 4 dQ];omega
 rw[I 0 dQ,I 1 dQ,I 2 dQ,I 3 dQ];omega
def xX:(w.put n x).nm n=om w.fly+qN x:=by
 unfold Cl.nm;rw[show(w.put n x).ah n=x from upd_same _ _ _];rfl
def Ji:(w.send l).nm n=w.nm n+FU l:=by
 show om (w.fly++[l])+qN (w.ah n)=om w.fly+qN (w.ah n)+FU l
 rw[tJ,Em];omega
def Jj (hi:x.inbox=(w.ah n).inbox)(h:x.pend=(w.ah n).pend):(w.put n x).nm n=w.nm n:=by
 rw[xX];unfold Cl.nm qN;rw[hi,h]
def yj:(w.aA n q b).nm n=w.nm n:=Jj E E
def ZW:(w.tell n q op a num).nm n=w.nm n:=rfl
def nm_done:(w.done n q op num a).nm n=w.nm n:=by
 unfold Cl.done
 split
 ·rw[Ji,ZW];rfl
 rw[Ji];rfl
def Jk:(w.have_ n q).nm n=w.nm n+1:=Ji
def ZX {at_:Int}:(w.part n q at_).nm n<=w.nm n+1:=by
 unfold Cl.part
 split
 ·omega
 rw[Ji];exact Nat.add_le_add_left (JN _) _
def EU {rs:List cB}{p:bO}(h:(w.ah n).write rs=some x):(w.put n {x with pend:=some p}).nm n<=w.nm n+Wj (some p):=by
 unfold Nd.write at h;obtain⟨d,_,rfl⟩:=Option.map_eq_some_iff.1 h;rw[xX];unfold Cl.nm qN;dsimp only;omega
def OW {y:Nd}{rs:List cB}(h:y.write rs=some x):x.inbox=y.inbox:=by
 unfold Nd.write at h;obtain⟨d,_,rfl⟩:=Option.map_eq_some_iff.1 h;rfl
def agW:(w.serve n l).nm n<=w.nm n+1:=by
 unfold Cl.serve
 split
 ·rw[nm_done];omega
 split
 ·rw[nm_done];omega
 rename_i x h
 exact EU h
def YN:(w.offered n l).nm n<=w.nm n+1:=by
 unfold Cl.offered
 split
 ·omega
 split
 ·rw[Jk];omega
 split
 ·omega
 rename_i x h
 exact EU h
def ara:(w.got n l).nm n<=w.nm n+1:=by
 unfold Cl.got
 split
 ·omega
 split
 ·rw[Jk];omega
 split
 ·omega
 split
 ·omega
 rename_i x h
 exact EU h
def acU:(w.caught n l).nm n<=w.nm n+1:=by
 unfold Cl.caught
 split
 ·omega
 split
 ·omega
 split
 ·have:=ZX (w:=w.aA n l.q (bE ((w.ah n).bs l.q) l.at_).1) (n:=n) (q:=l.q) (at_:=l.at_);rw[yj]at this;exact this
 split
 ·omega
 rename_i x h
 exact EU h
def acV:(w.learnt n l).nm n<=w.nm n:=by
 unfold Cl.learnt
 split
 ·rw[Jj (x:=(w.ah n).hear n l) E E];omega
 split
 ·rw[Jj (x:=(w.ah n).hear n l) E E];omega
 rename_i x I
 have J:=OW I;have h:x.inbox=(w.ah n).inbox:=J;rw[xX];unfold Cl.nm qN;rw[show({x with pend:=some (bO.forget l.q (fP ((w.ah n).bs l.q) l.ep).1)}:Nd).inbox=(w.ah n).inbox from h]
 show om w.fly+(om (w.ah n).inbox+0)<=_
 omega
def OY:(w.handle n l).nm n<=w.nm n+FU l:=by
 unfold Cl.handle FU
 split
 ·rename_i h;rw[if_pos (.inl h)];exact agW
 split
 ·rename_i h;rw[if_pos (.inr (.inl h))];exact YN
 split
 ·rename_i h;rw[if_pos (.inr (.inr (.inl h)))];exact acU
 split
 ·rename_i h;rw[if_pos (.inr (.inr (.inr h)))];exact ara
 have:=acV (w:=w) (n:=n) (l:=l);omega
def OZ {p:bO}:(w.xS n p).nm n<=w.nm n+Wj (some p):=by
 cases p with
 |serve q evs op num a=>show((w.aA n q _).done n q op num a).nm n<=_;rw[nm_done,yj];omega
 |begun q b=>show((w.aA n q b).have_ n q).nm n<=_;rw[Jk,yj];exact Nat.le_refl _
 |got q b last=>
  show(if last=true then((w.aA n q b).put n { (w.aA n q b).ah n with sure:=upd (w.ah n).sure q false}).tell n q aF eT (-1)else(w.aA n q b).have_ n q).nm n<=_
  split
  ·rw[ZW,Jj (w:=w.aA n q b) (x:={ (w.aA n q b).ah n with sure:=upd (w.ah n).sure q false}) E E,yj];omega
  rw[Jk,yj];exact Nat.le_refl _
 |fF q b at_=>
  have:=ZX (w:=w.aA n q b) (n:=n) (q:=q) (at_:=at_);rw[yj]at this;exact this
 |forget q b=>show(w.aA n q b).nm n<=_;rw[yj];omega
def arb {s:Bool}:om (fV n q b s)<=1:=by
 unfold fV;rw[tJ,tJ];have h:om (if b.role=3 then[Ow n q]else[])=0:=by split<;>rfl
 have I:om (if b.role=1/\1<b.ep/\s=false then[Mw n q b]else[])=0:=by split<;>rfl
 have h1:om (if b.role=2\/b.role=3 then[vL n q b]else[])<=1:=by
  split
  ·exact JN (vL n q b)
  exact zero_le _
 omega
def ZY:(w.jU n).nm n<=w.nm n+1:=by
 show om (w.fly++fV n ((w.ah n).turn % 4) ((w.ah n).bs ((w.ah n).turn % 4)) ((w.ah n).sure ((w.ah n).turn % 4)))+qN ((upd w.ah n {w.ah n with turn:=(w.ah n).turn+1}) n)<=_
 rw[tJ,upd_same];have:=arb (n:=n) (q:=(w.ah n).turn % 4) (b:=(w.ah n).bs ((w.ah n).turn % 4)) (s:=(w.ah n).sure ((w.ah n).turn % 4));unfold Cl.nm qN;dsimp only;omega
def ak1 {T S dV K:Nat}(J:bY m T S dV K)(hn:n<5):(m.step n).cw<=m.cw+1:=by
 cases h:(m.ah n).up with
 |false=>rw[mG h];omega
 |true=>
  obtain⟨rs,us,Z⟩:=(J.iE n hn).sG h;refine Xj hn (λj hj=>oM J hn hj) ?_
  cases M:(m.ah n).pend with
  |some p=>
   unfold Cl.step;rw[if_neg (by rw[h];decide),M];dsimp only;have h1:=OZ (w:=m.put n {m.ah n with syn:=(m.ah n).data.length,pend:=none}) (n:=n) (p:=p);rw[xX]at h1;unfold Cl.nm qN at h1⊢;rw[M];dsimp only at h1;have e0:Wj none=0:=rfl;rw[e0]at h1;omega
  |none=>
   have P:=qy (n:=n) (λw=>Ru m n rs w/\w.nm n<=m.nm n) (λw l r ⟨H,A⟩ O I=>by
    obtain⟨h1,h2,h3,h4⟩:=qz (λl hl=>l9 (J.iO n hn l hl)) H O I;refine⟨h1.1,h4,?_⟩;have h5:=OY (w:=w.put n ((w.ah n).box r)) (n:=n) (l:=l);rw[xX]at h5;have h6:w.nm n=om w.fly+(FU l+om r+Wj (w.ah n).pend):=by unfold Cl.nm qN;rw[I];rfl
    have h7:qN ((w.ah n).box r)=om r+Wj (w.ah n).pend:=rfl;omega) _ m E ⟨C8 h ⟨_,Z⟩,Nat.le_refl _⟩
   rw[jq h M]
   split
   ·have:=ZY (w:=m.more n) (n:=n);omega
   omega
def Qh:(w.come l).cw<=w.cw+FU l:=by
 unfold Cl.come
 split
 ·show w.cw<=_;omega
 split
 ·split
  ·unfold Cl.cw
   show om (w.fly++[_])+_<=_
   rw[tJ,Em,awO (l:=lg _ _ _) ⟨by show(6:Int)≠0;decide,by show(6:Int)≠2;decide,by show(6:Int)≠3;decide,by show(6:Int)≠4;decide⟩];dsimp only;omega
  show w.cw<=_;omega
 split
 ·by_cases I:l.tg.toNat<5
  ·refine Xj I (λj h=>upd_ne h) ?_;rw[xX];unfold Cl.nm qN;dsimp only;rw[tJ,Em];omega
  have e:∀j,j<5->(w.put l.tg.toNat {w.ah l.tg.toNat with inbox:=(w.ah l.tg.toNat).inbox++[l]}).ah j=w.ah j:=λj h=>upd_ne Y;unfold Cl.cw;rw[e 0 dQ,e 1 dQ,e 2 dQ,e 3 dQ,e 4 dQ]
  show om w.fly+_<=_
  omega
 omega
def TP:∀(ls:List bG) {w:Cl},(ls.foldl Cl.come w).cw<=w.cw+om ls
 |[],w=>Nat.le_refl _
 |l::r,w=>by
  have h1:=TP r (w:=w.come l);have h:=Qh (w:=w) (l:=l);rw[foldl_cons,om];omega
def Wm {fl:List bG}:({w with fly:=fl}:Cl).cw+om w.fly=w.cw+om fl:=by
 unfold Cl.cw;dsimp only;omega
def ae2:w.all.cw<=w.cw:=by
 have h1:=TP w.fly (w:={w with fly:=[]});have h:=Wm (w:=w) (fl:=[]);have I:om []=0:=rfl;unfold Cl.all;omega
def Z0 {at_:Nat}{c s:Bool}:(w.pick at_ c s).cw<=w.cw+1:=by
 unfold Cl.pick
 split
 ·omega
 rename_i l h
 have h1:(if s=true then w else{w with fly:=w.fly.eraseIdx (at_ % w.fly.length)}:Cl).cw<=w.cw/\(if s=true then w else{w with fly:=w.fly.eraseIdx (at_ % w.fly.length)}:Cl).cw+FU l<=w.cw+1:=by
  have I:=JN l
  split
  ·omega
  have J:=Wm (w:=w) (fl:=w.fly.eraseIdx (at_ % w.fly.length));have M:=GR _ _ _ h;omega
 dsimp only
 split
 ·exact Nat.le_trans Qh h1.2
 exact le_succ_of_le h1.1
def JO (hn:n<5)(h:qN x<=qN (w.ah n)):(w.put n x).cw<=w.cw:=
 Xj (d:=0) hn (λj I=>upd_ne I) (by rw[xX];unfold Cl.nm;omega)
def ard (h:∀j,j<5->qN (m'.ah j)=qN (m.ah j))(I:m'.fly=m.fly):m'.cw=m.cw:=by
 unfold Cl.cw;rw[I,h 0 dQ,h 1 dQ,h 2 dQ,h 3 dQ,h 4 dQ]
def Qi:(w.aA n q b).cw=w.cw:=ard (λj _=>by
 by_cases e:j=n
 ·subst e;rw[show(w.aA j q b).ah j={w.ah j with bs:=upd (w.ah j).bs q b}from upd_same _ _ _];rfl
 rw[show(w.aA n q b).ah j=w.ah j from upd_ne e]) E
def Qj:(w.tell n q op a num).cw=w.cw:=rfl
def FV {evs:List Ev}{an:List iR}:∀(ls:List Nat) {w:Cl},(w.recovered n q evs an ls).cw=w.cw
 |[],_=>rfl
 |i::r,w=>by
  unfold Cl.recovered;rw[FV r,Qj]
def YO:(w.recover n q).cw=w.cw:=by
 unfold Cl.recover
 split
 ·exact Qj
 exact FV _
def EW {bs:Nat->aQ}:∀(ls:List Nat) {w:Cl},(Cl.woken n bs ls w).cw=w.cw
 |[],_=>rfl
 |q::r,w=>by
  unfold Cl.woken
  split
  ·exact EW r
  rw[EW r,Qj,Qi,YO]
def ae3 {T S dV K:Nat}(I:bY m T S dV K)(J:vG ac):(m.act ac).cw<=m.cw+1:=by
 obtain⟨a1,a2,a3,a4,a5,a6⟩:=J;have hn:ac.nd.toNat<5:=Y;unfold Cl.act
 split
 ·unfold Cl.make
  split
  ·omega
  split
  ·omega
  split
  ·omega
  rename_i x h
  have hi:=OW h;have M:x.pend=(m.ah ac.nd.toNat).pend:=by
   unfold Nd.write at h;obtain⟨d,_,rfl⟩:=Option.map_eq_some_iff.1 h;rfl
  have h1:=JO (w:=m) (n:=ac.nd.toNat) (x:={x with syn:=x.data.length,bs:=upd x.bs ac.qu.toNat (iT ((m.ah ac.nd.toNat).bs ac.qu.toNat) 1).1}) hn (by unfold qN;rw[<-hi,<-M];exact Nat.le_refl _);exact le_succ_of_le h1
 split
 ·show om (m.fly++[vQ ac.nd ac.qu.toNat ac.op m.calls])+(qN (m.ah 0)+(qN (m.ah 1)+(qN (m.ah 2)+(qN (m.ah 3)+qN (m.ah 4)))))<=m.cw+1
  have O:=JN (vQ ac.nd ac.qu.toNat ac.op m.calls);rw[tJ,Em];unfold Cl.cw;omega
 split
 ·exact ak1 I hn
 split
 ·exact Z0
 split
 ·exact le_succ_of_le ae2
 split
 ·unfold Cl.crash
  split
  ·exact le_succ_of_le (JO hn (zero_le _))
  omega
 split
 ·unfold Cl.start
  split
  ·omega
  split
  ·omega
  rw[EW];exact le_succ_of_le (JO hn (zero_le _))
 unfold Cl.move
 split
 ·omega
 split
 ·rw[Qi];omega
 omega
def ae4:∀(l:List Ac) {m:Cl} {k:Nat},Bs m k->(∀a∈l,vG a)->k+l.length<=100000->(m.run l).cw<=m.cw+l.length
 |[],_,_,_,_,_=>Nat.le_refl _
 |a::l,m,k,h,I,J=>by
  rw[length_cons]at J⊢;have h1:=I a mem_cons_self;have O:=ae3 h h1;have Z:=ae4 l (m:=m.act a) (xW h h1 Y) (λx M=>I x (mem_cons_of_mem _ M)) Y
  show((m.act a).run l).cw<=_
  omega
end
structure Vd (m:Cl):Prop where
 rol:∀n,n<5-> ∀q,2<=q->q<4->(vw m q n).role=0
 lF:∀n,n<5-> ∀p,(m.ah n).pend=some p->p.q<2
 iO:∀n,n<5-> ∀l∈(m.ah n).inbox,l.q<2
 fly:∀l∈m.fly,l.q<2
section
variable {m w m':Cl}{n q:Nat}{X:Nd}{l:bG}{p:bO}{ac:Ac}{rs us:List cB}
def Vd.at_ (h:Vd m)(hn:m'.ah=upd m.ah n X)(Z:∀q,2<=q->q<4->(X.view q).role=0)(hp:∀p,X.pend=some p->p.q<2)(hi:∀l∈X.inbox,l.q<2)(hf:∀l∈m'.fly,l∈m.fly\/l.q<2):Vd m':=by
 refine⟨λj M q h1 O=>?_,λj M p I=>?_,λj M l J=>?_,λl J=>(hf l J).elim (h.fly l) id⟩
 ·rw[pX hn];by_cases e:j=n
  ·subst e;rw[upd_same];exact Z q h1 O
  rw[upd_ne e];exact h.rol j M q h1 O
 ·rw[hn]at I;by_cases e:j=n
  ·subst e;rw[upd_same]at I;exact hp p I
  rw[upd_ne e]at I;exact h.lF j M p I
 rw[hn]at J;by_cases e:j=n
 ·subst e;rw[upd_same]at J;exact hi l J
 rw[upd_ne e]at J;exact h.iO j M l J
def Vd.ah (h:Vd m)(hn:m'.ah=m.ah)(O:∀l∈m'.fly,l∈m.fly\/l.q<2):Vd m':=by
 have e:∀q j,vw m' q j=vw m q j:=λq j=>by unfold vw;rw[hn]
 exact⟨λj I q h1 Z=>by rw[e];exact h.rol j I q h1 Z,λj I p J=>h.lF j I p (by rwa [hn]at J),λj I l M=>h.iO j I l (by rwa [hn]at M),λl M=>(O l M).elim (h.fly l) id⟩
def qU {fl:List bG}{x:bG}(I:x.q<2):∀l∈fl++[x],l∈fl\/l.q<2:=λl h=>by
 rcases mem_append.1 h with h|h
 ·exact .inl h
 rw[mem_singleton]at h;subst h;exact .inr I
def TQ {b:aQ}{a:Int}{fl:List bG}(I:q<2):∀l∈lq n q b a fl,l∈fl\/l.q<2:=λl h=>by
 unfold lq at h
 split at h
 ·exact .inl h
 exact qU (x:=FI n q b a) I l h
def Vd.view (h:Vd m)(hn:n<5)(I:(m.ah n).up=true){q:Nat}(h1:2<=q)(J:q<4):((m.ah n).bs q).role=0:=by
 have:=h.rol n hn q h1 J;rwa [gT I]at this
def ae5 (h:Vd m)(hn:n<5)(J:(m.ah n).up=true)(hp:(m.ah n).pend=none)(hq:l.q<2)(H:Hnd m n l m'):Vd m':=by
 cases H with
 |same=>exact h
 |done a h1 h2=>
  unfold Cl.done
  split
  ·exact h.ah E (qU (x:=lX n l.num a nowhere) (by show 0<2;omega))
  exact h.ah E (qU (x:=lX n l.num a ((m.ah n).hints l.q)) (by show 0<2;omega))
 |have_ h1=>exact h.ah E (qU (x:=oh n l.q ((m.ah n).bs l.q)) hq)
 |part b h1 h2 h3 h4 h5 h6=>
  obtain⟨g1,g2,g3⟩:=pW (m:=m.aA n l.q b) (n:=n) (q:=l.q) (a:=l.at_);have M:((m.aA n l.q b).part n l.q l.at_).ah=upd m.ah n ((m.ah n).aA l.q b):=g2;refine h.at_ M (λq O Z=>?_) (h.lF n hn) (h.iO n hn) (λx I=>?_)
  ·rw[dJ (X:=(m.ah n).aA l.q b) J];rw[show((m.ah n).aA l.q b).bs q=(m.ah n).bs q from upd_ne Y];exact h.view hn J O Z
  rw[g3]at I;exact TQ hq x I
 |pend p dB d h1 h2 h3 h4 h5=>
  have hY:dB.bs=(m.ah n).bs/\dB.up=(m.ah n).up/\dB.inbox=(m.ah n).inbox:=by rcases h1 with h1|⟨_,h1⟩<;>rw[h1]<;>exact⟨E,E,E⟩
  refine h.at_ (n:=n) (X:={dB with data:=d,pend:=some p}) E (λq O Z=>?_) (λp' hp'=>?_) (λx I=>h.iO n hn x (by rw[<-hY.2.2];exact I)) (λx I=>.inl I)
  ·rw[dJ (X:={dB with data:=d,pend:=some p}) (hY.2.1.trans J)]
   show(dB.bs q).role=0
   rw[hY.1];exact h.view hn J O Z
  cases hp';rw[h2];exact hq
 |hear h1=>
  refine h.at_ (n:=n) (X:=(m.ah n).hear n l) E (λq O Z=>?_) (h.lF n hn) (h.iO n hn) (λx I=>.inl I);rw[dJ (X:=(m.ah n).hear n l) J];exact h.view hn J O Z
def acY {b:aQ}{s:Bool}(h:q<2\/b.role=0):∀l∈fV n q b s,l.q<2:=λl I=>by
 unfold fV at I
 rcases h with h|h
 ·rcases mem_append.1 I with I|I
  ·rcases mem_append.1 I with I|I
   ·split at I
    ·rw[mem_singleton]at I;subst I;exact h
    simp at I
   split at I
   ·rw[mem_singleton]at I;subst I;exact h
   simp at I
  split at I
  ·rw[mem_singleton]at I;subst I;exact h
  simp at I
 rw[if_neg Y,if_neg Y,if_neg Y]at I;simp at I
def Qk (h:Vd m)(hn:n<5)(J:(m.ah n).up=true):Vd (m.jU n):=by
 refine h.at_ (n:=n) (X:={m.ah n with turn:=(m.ah n).turn+1}) E (λq M O=>?_) (h.lF n hn) (h.iO n hn) (λx I=>?_)
 ·rw[dJ (X:={m.ah n with turn:=(m.ah n).turn+1}) J];exact h.view hn J M O
 rcases mem_append.1 I with I|I
 ·exact .inl I
 refine .inr (acY ?_ x I);by_cases c:(m.ah n).turn % 4<2
 ·exact .inl c
 exact .inr (h.view hn J Y (mod_lt _ dQ))
def Z4 {T S dV K:Nat}(h:Vd m)(hB:bY m T S dV K)(hn:n<5):Vd (m.step n):=by
 cases I:(m.ah n).up with
 |false=>rw[mG I];exact h
 |true=>
  obtain⟨rs,us,hU⟩:=(hB.iE n hn).sG I
  cases M:(m.ah n).pend with
  |some p=>
   obtain⟨_,h2,h3⟩:=hU.FN p M;have hq:=h.lF n hn p M;obtain⟨X,hX⟩:∃X,m.ah n=X:=⟨_,E⟩;have J:∀ {m':Cl} {dB:Nd},m'.ah=upd m.ah n dB->dB.bs=upd (m.ah n).bs p.q (p.b (m.ah n).bs)->dB.up=true->dB.pend=none->dB.inbox=(m.ah n).inbox->(∀l∈m'.fly,l∈m.fly\/l.q<2)->Vd m':=by
    intro m' dB e1 e2 e3 e4 e5 e6;refine h.at_ e1 (λq h7 h8=>?_) (λp' Z=>by rw[e4]at Z;cases Z) (λx hx=>h.iO n hn x (by rw[<-e5];exact hx)) e6;rw[dJ e3,e2,upd_ne Y];exact h.view hn I h7 h8
   cases p with
   |serve k evs op num a=>
    rw[jr E I M E h2.1];exact J (dB:=(m.ah n).jC.aA k { (m.ah n).bs k with evs:=evs}) E E I E E (qU (by show 0<2;omega))
   |begun k b=>
    rw[nH E I M];exact J (dB:=(m.ah n).jC.aA k b) E E I E E (qU (x:=oh n k b) hq)
   |got k b last=>
    cases last with
    |true=>
     rw[jT E I M];exact J (dB:={ ((m.ah n).jC.aA k b)with sure:=upd (m.ah n).sure k false}) E E I E E (λl hl=>.inl hl)
    |false=>
     rw[rX E I M];exact J (dB:=(m.ah n).jC.aA k b) E E I E E (qU (x:=oh n k b) hq)
   |fF k b at_=>
    rw[pU E I M];exact J (dB:=(m.ah n).jC.aA k b) E E I E E (TQ (q:=k) hq)
   |forget k b=>
    rw[lY E I M];exact J (dB:=(m.ah n).jC.aA k b) E E I E E (λl hl=>.inl hl)
  |none=>
   have P:=qy (n:=n) (λw=>Ru m n rs w/\Vd w) (λw l r ⟨H,A⟩ hp1 O=>by
    obtain⟨h1,h2,h3,h4⟩:=qz (λl hl=>l9 (hB.iO n hn l hl)) H hp1 O;refine⟨h1.1,h4,?_⟩;have A2:Vd (w.put n ((w.ah n).box r)):=A.at_ (n:=n) (X:=(w.ah n).box r) E (λq h7 h8=>A.rol n hn q h7 h8) (A.lF n hn) (λx hx=>A.iO n hn x (by rw[O];exact mem_cons_of_mem _ hx)) (λx hx=>.inl hx);exact ae5 A2 hn (by rw[aW];exact H.up) (by rw[aW];exact hp1) (A.iO n hn l (by rw[O];simp)) h3) _ m E ⟨C8 I ⟨_,hU⟩,h⟩
   rw[jq I M]
   split
   ·exact Qk P.2 hn P.1.up
   exact P.2
def Z5 (h:Vd m)(M:jM l)(J:l.q<2):Vd (m.come l):=by
 obtain⟨_,_,h1,_⟩:=id M;unfold Cl.come
 split
 ·exact h.ah E λx I=>.inl I
 split
 ·split
  ·exact h.ah E (qU (x:=lg l.fr l.q _) J)
  exact h.ah E λx I=>.inl I
 split
 ·have hn:l.tg.toNat<5:=Y;refine h.at_ (n:=l.tg.toNat) (X:={m.ah l.tg.toNat with inbox:=(m.ah l.tg.toNat).inbox++[l]}) E (λq O Z=>h.rol _ hn q O Z) (h.lF _ hn) (λx I=>?_) (λx I=>.inl I);exact(qU J x I).elim (h.iO _ hn x) id
 exact h
def TR:∀(ls:List bG) {m:Cl},Vd m->(∀l∈ls,jM l)->(∀l∈ls,l.q<2)->Vd (ls.foldl Cl.come m)
 |[],_,h,_,_=>h
 |l::ls,m,h,J,M=>TR ls (Z5 h (J l iQ) (M l iQ)) (λx I=>J x (by simp[I])) λx I=>M x (by simp[I])
def O4 (h:Vd m)(I:∀l∈m.fly,jM l):Vd m.all:=
 TR m.fly (m:={m with fly:=[]}) (h.ah E λx J=>by cases J) I h.fly
def ak2 {at_:Nat}{c s:Bool}(h:Vd m)(O:∀l∈m.fly,jM l):Vd (m.pick at_ c s):=by
 unfold Cl.pick
 split
 ·exact h
 rename_i l I
 have J:=mem_of_getElem? I;have M:Vd (if s=true then m else{m with fly:=m.fly.eraseIdx (at_ % m.fly.length)}):=by
  split
  ·exact h
  exact h.ah E λx Z=>.inl (mem_of_mem_eraseIdx Z)
 dsimp only
 split
 ·exact Z5 M (O l J) (h.fly l J)
 exact M
def agX {keep:Int}{T S dV K:Nat}(h:Vd m)(O:bY m T S dV K)(hn:n<5)(Z:0<=keep):Vd (m.crash n keep):=by
 unfold Cl.crash
 split
 ·rename_i M
  obtain⟨rs,us,hU⟩:=(O.iE n hn).sG M;obtain⟨rs',t,f,hd,hf⟩:=ES hU Z;refine h.at_ (n:=n) (X:=(m.ah n).crashed keep) E (λq h7 I=>?_) (λp hp=>by cases hp) (λx J=>by cases J) (λx J=>.inl J);rw[hd.view E I]
  rcases hf q I with e|⟨p,e1,e2,_⟩
  ·have:=h.view hn M h7 I;rw[e,kG Y];exact this
  have:=h.lF n hn p e1;omega
 exact h
def agY {T S dV K:Nat}(h:Vd m)(M:bY m T S dV K)(hn:n<5):Vd (m.start n):=by
 rcases sM (M.iE n hn)with⟨_,e⟩|⟨O,rs,t,f,hd,e|⟨ws,e1,e2,e3,W,e5,e6,e7⟩⟩
 ·rw[e];exact h
 ·rw[e];exact h
 have I:=W.ah;rw[aW]at I;dsimp only at I;rw[show ∀(dB Z:Nd),upd (m.put n dB).ah n Z=upd m.ah n Z from λdB Z=>qR ..]at I;refine h.at_ I (λq h7 h8=>?_) (λp hp=>by cases hp) (λx J=>by cases J) (λx J=>.inl (by rw[W.fly]at J;exact J));rw[dJ E];dsimp only;have hv:=h.rol n hn q h7 h8;have e0:bg (m.ah n).data (m.ah n).syn q=vw m q n:=by
  unfold vw Nd.view;rw[if_neg (by rw[O];simp)]
 rw[e0,if_neg (λc=>by omega)];exact hv
def ak3 {tg:Int}(h:Vd m)(hq:q<2):Vd (m.move q tg):=by
 unfold Cl.move
 split
 ·exact h
 rename_i I
 split
 ·obtain⟨hn,_,_⟩:=nI (d:=m.off) (q:=q) (λe=>I (.inl e));generalize (aI m.off q).1.node.toNat=n at*;have J:(m.ah n).up=true:=by
   cases e:(m.ah n).up with
   |true=>rfl
   |false=>exact absurd (.inr (.inr e)) I
  refine h.at_ (n:=n) (X:=(m.ah n).aA q (uw ((m.ah n).bs q) tg).1) E (λk M O=>?_) (h.lF n hn) (h.iO n hn) (λx Z=>.inl Z);rw[dJ (X:=(m.ah n).aA q _) J,show((m.ah n).aA q (uw ((m.ah n).bs q) tg).1).bs k=(m.ah n).bs k from upd_ne Y];exact h.view hn J M O
 exact h
def Wn {T S dV K:Nat}(h:Vd m)(I:bY m T S dV K)(J:vG ac)(h1:ac.kd≠1)(M:ac.qu<2):Vd (m.act ac):=by
 obtain⟨a1,a2,a3,a4,a5,a6⟩:=J;have hn:ac.nd.toNat<5:=Y;unfold Cl.act;rw[if_neg h1]
 split
 ·exact h.ah E (qU (x:=vQ ac.nd ac.qu.toNat ac.op m.calls) (by show ac.qu.toNat<2;omega))
 split
 ·exact Z4 h I hn
 split
 ·exact ak2 h I.mR
 split
 ·exact O4 h I.mR
 split
 ·exact agX h I hn a5.1
 split
 ·exact agY h I hn
 exact ak3 h Y
def ae6:∀(l:List Ac) {m:Cl} {k:Nat},Vd m->Bs m k->(∀a∈l,vG a/\a.kd≠1/\a.qu<2)->k+l.length<=100000->Vd (m.run l)
 |[],_,_,h,_,_,_=>h
 |a::l,m,k,h,I,J,M=>by
  rw[length_cons]at M;obtain⟨h1,O,Z⟩:=J a mem_cons_self;exact ae6 l (m:=m.act a) (Wn h I h1 O Z) (xW I h1 Y) (λx hx=>J x (mem_cons_of_mem _ hx)) Y
end
def amR:Vd kI:=by
 have I:∀n,kI.ah n=nd0\/kI.ah n=l6 0\/kI.ah n=l6 1:=λn=>by
  have e:kI.ah n=upd (upd kW.ah 0 (l6 0)) 1 (l6 1) n:=rfl;rw[e];by_cases c1:n=1
  ·rw[c1,upd_same];exact .inr (.inr E)
  by_cases c0:n=0
  ·rw[upd_ne c1,c0,upd_same];exact .inr (.inl E)
  rw[upd_ne c1,upd_ne c0];exact .inl E
 refine⟨λn hn q h1 M=>?_,λn hn p J=>?_,λn hn l h=>?_,λl h=>by cases h⟩
 ·unfold vw
  rcases I n with e|e|e<;>rw[e]
  ·rw[dJ E];rfl
  ·rw[dJ E];show(upd (λ_=>bD) 0 _ q).role=0;rw[upd_ne Y];rfl
  rw[dJ E];show(upd (λ_=>bD) 1 _ q).role=0;rw[upd_ne Y];rfl
 ·rcases I n with e|e|e<;>rw[e]at J<;>cases J
 rcases I n with e|e|e<;>rw[e]at h<;>cases h
def dI (f:bG->Nat):List bG->Nat
 |[]=>0
 |l::r=>f l+dI f r
def Cl.ws (f:bG->Nat)(m:Cl):Nat:=dI f m.fly+(dI f (m.ah 0).inbox+(dI f (m.ah 1).inbox+(dI f (m.ah 2).inbox+(dI f (m.ah 3).inbox+dI f (m.ah 4).inbox))))
structure Wy where
 M:Nat
 own:Nat->Nat
 R:Nat
 tg:Int
def calm (F:Wy)(l:bG):Prop:=(1<=l.ep/\l.ep<=F.M/\l.tg=F.own l.ep.toNat)\/(l.ep=F.M+1/\F.R=1/\l.tg=F.tg)
instance (F:Wy)(l:bG):Decidable (calm F l):=by unfold calm;exact inferInstance
def tZ (F:Nat->Wy)(l:bG):Nat:=if l.kd=0 then 46 else if l.kd=4/\ ¬calm (F l.q) l then 184 else 0
def Wo (r:Int):Nat:=if r=2 then 2 else if r=3 then 1 else 0
def Wp (F:Wy)(j:Nat)(b:aQ):Nat:=if F.R=1/\(j:Int)=F.tg then 46*(302-if b.ep=F.M+1 then b.evs.length else 0)else 0
def fi (F:Wy)(j:Nat)(b:aQ):Nat:=46*((F.M:Int)+1+F.R-b.ep).toNat+46*Wo b.role+Wp F j b
def qF (X:Nd)(q:Nat):aQ:=match X.pend with
 |some p=>if p.q=q then p.b X.bs else X.bs q
 |none=>X.bs q
noncomputable def Cg (m:Cl)(q:Nat)(g:Gh):Wy:=⟨g.m,g.own,if (vw m q g.o).role=1 then 0 else 1,(vw m q g.o).tg⟩
def mM (F F':Wy):Prop:=(F'.M=F.M/\(∀k,k<=F.M->F'.own k=F.own k)/\F'.R=F.R/\F'.tg=F.tg)\/
 (F'.M=F.M+1/\(∀k,k<=F.M->F'.own k=F.own k)/\(F'.own (F.M+1):Int)=F.tg/\F.R=1/\F'.R=0)
section
variable {m w m':Cl}{n q:Nat}{X X':Nd}{l:bG}{p:bO}{f f':bG->Nat}{F F':Wy}{g g':Gh}{b b':aQ}
def mM.refl (F:Wy):mM F F:=.inl ⟨E,λ_ _=>E,E,E⟩
def mM.clm (h:mM F F')(I:calm F l):calm F' l:=by
 unfold calm at I⊢
 rcases h with⟨h1,J,O,Z⟩|⟨h1,J,O,Z,h5⟩
 ·rcases I with⟨a,b,c⟩|⟨a,b,c⟩
  ·exact .inl ⟨a,by omega,by rw[J _ Y];exact c⟩
  exact .inr ⟨by omega,by omega,by rw[Z];exact c⟩
 rcases I with⟨a,b,c⟩|⟨a,b,c⟩
 ·exact .inl ⟨a,by omega,by rw[J _ Y];exact c⟩
 refine .inl ⟨by omega,by omega,?_⟩;rw[show l.ep.toNat=F.M+1 by omega,O];exact c
def mM.fi_ (h:mM F F'):fi F' n b<=fi F n b:=by
 unfold fi Wp
 rcases h with⟨h1,O,I,J⟩|⟨h1,O,I,J,Z⟩
 ·rw[h1,I,J];exact Nat.le_refl _
 rw[if_neg (λh=>by omega:¬(F'.R=1/\(n:Int)=F'.tg))];have:((F'.M:Int)+1+F'.R-b.ep).toNat=((F.M:Int)+1+F.R-b.ep).toNat:=Y;rw[this];omega
def mM.lw {F F':Nat->Wy}(h:mM (F l.q) (F' l.q)):tZ F' l<=tZ F l:=by
 unfold tZ
 split
 ·exact Nat.le_refl _
 split
 ·rename_i h1 I
  rw[if_pos ⟨I.1,λc=>I.2 (h.clm c)⟩];exact Nat.le_refl _
 exact zero_le _
def uU:∀(a b:List bG),dI f (a++b)=dI f a+dI f b
 |[],b=>by simp[dI]
 |l::a,b=>by rw[cons_append,dI,dI,uU a b];omega
def Kr:dI f [l]=f l:=rfl
def tK:∀ {a:List bG},(∀l∈a,f' l<=f l)->dI f' a<=dI f a
 |[],_=>Nat.le_refl _
 |l::a,h=>by
  have h1:=h l mem_cons_self;have J:=tK (a:=a) λx I=>h x (mem_cons_of_mem _ I);rw[dI,dI];omega
def Rw (h1:∀l∈m.fly,f' l<=f l)(I:∀n,n<5-> ∀l∈(m.ah n).inbox,f' l<=f l):m.ws f'<=m.ws f:=by
 have h:=tK h1;have J:=tK (I 0 dQ);have M:=tK (I 1 dQ);have O:=tK (I 2 dQ);have Z:=tK (I 3 dQ);have i4:=tK (I 4 dQ);unfold Cl.ws;omega
def FW {d:Nat}(hn:n<5)(I:∀j,j≠n->(m'.ah j).inbox=(m.ah j).inbox)(h:dI f m'.fly+dI f (m'.ah n).inbox+d<=dI f m.fly+dI f (m.ah n).inbox):m'.ws f+d<=m.ws f:=by
 unfold Cl.ws
 rcases five hn with rfl|rfl|rfl|rfl|rfl
 ·rw[I 1 dQ,I 2 dQ,I 3 dQ,I 4 dQ];omega
 ·rw[I 0 dQ,I 2 dQ,I 3 dQ,I 4 dQ];omega
 ·rw[I 0 dQ,I 1 dQ,I 3 dQ,I 4 dQ];omega
 ·rw[I 0 dQ,I 1 dQ,I 2 dQ,I 4 dQ];omega
 rw[I 0 dQ,I 1 dQ,I 2 dQ,I 3 dQ];omega
def Z6 (h:∀x:bG,x.kd=6->f x=0)(I:jM l):(w.come l).ws f<=w.ws f+f l:=by
 unfold Cl.come
 split
 ·show w.ws f<=_;omega
 split
 ·split
  ·unfold Cl.ws
   show dI f (w.fly++[_])+_<=_
   rw[uU,Kr,h _ E];dsimp only;omega
  show w.ws f<=_;omega
 split
 ·obtain⟨_,_,h1,_⟩:=id I;have J:l.tg.toNat<5:=Y;have:=FW (m:={w with fly:=w.fly++[l]}) (m':=w.put l.tg.toNat {w.ah l.tg.toNat with inbox:=(w.ah l.tg.toNat).inbox++[l]}) (f:=f) (d:=0) J (λj M=>by
   show(upd w.ah _ _ j).inbox=_
   rw[upd_ne M]) (by
   rw[aW]
   show dI f w.fly+dI f ((w.ah l.tg.toNat).inbox++[l])+0<=dI f (w.fly++[l])+dI f (w.ah l.tg.toNat).inbox
   rw[uU,uU];omega)
  have e:({w with fly:=w.fly++[l]}:Cl).ws f=w.ws f+f l:=by
   unfold Cl.ws;dsimp only;rw[uU,Kr];omega
  omega
 omega
def TS (h:∀x:bG,x.kd=6->f x=0):∀(ls:List bG) {w:Cl},(∀l∈ls,jM l)->(ls.foldl Cl.come w).ws f<=w.ws f+dI f ls
 |[],w,_=>Nat.le_refl _
 |l::r,w,I=>by
  have h1:=TS h r (w:=w.come l) λx J=>I x (mem_cons_of_mem _ J);have M:=Z6 (w:=w) h (I l mem_cons_self);rw[foldl_cons,dI];omega
def CG (h:∀x:bG,x.kd=6->f x=0)(I:∀l∈m.fly,jM l):m.all.ws f<=m.ws f:=by
 have h1:=TS h m.fly (w:={m with fly:=[]}) I;have J:({m with fly:=[]}:Cl).ws f+dI f m.fly=m.ws f:=by unfold Cl.ws;dsimp only[dI];omega
 unfold Cl.all;omega
def awP {F:Nat->Wy}(x:bG)(h:x.kd=6):tZ F x=0:=by
 unfold tZ;rw[if_neg Y,if_neg (λc=>by omega)]
def adZ {F:Nat->Wy}{x:bG}(I:x.kd≠0)(h:x.kd=4->calm (F x.q) x):tZ F x=0:=by
 unfold tZ;rw[if_neg I,if_neg (λc=>c.2 (h c.1))]
def arf {F:Nat->Wy}:tZ F l<=184*FU l:=by
 unfold tZ FU
 split
 ·rename_i h;rw[if_pos (.inl h)];decide
 split
 ·rename_i h;rw[if_pos (.inr (.inr (.inr h.1)))];decide
 exact zero_le _
def awQ {F:Nat->Wy}:m.ws (tZ F)<=184*m.cw:=by
 have h:∀a:List bG,dI (tZ F) a<=184*om a:=by
  intro a
  induction a with
  |nil=>exact zero_le _
  |cons l r I=>
   have:=arf (l:=l) (F:=F);rw[dI,om];omega
 have J:=h m.fly;have M:=h (m.ah 0).inbox;have O:=h (m.ah 1).inbox;have Z:=h (m.ah 2).inbox;have i3:=h (m.ah 3).inbox;have i4:=h (m.ah 4).inbox;unfold Cl.ws Cl.cw qN;omega
def jO (h:X.pend=none):qF X q=X.bs q:=by unfold qF;rw[h]
def oN (h:X.pend=some p)(I:p.q=q):qF X q=p.b X.bs:=by unfold qF;rw[h];exact if_pos I
def xY (h:X.pend=some p)(I:p.q≠q):qF X q=X.bs q:=by unfold qF;rw[h];exact if_neg I
def FX {r:Int}(h:r=0\/r=4\/r=1):Wo r=0:=by unfold Wo;rw[if_neg Y,if_neg Y]
def Z7 (h:Wo b'.role=Wo b.role)(he:b'.ep=b.ep)(hv:b.evs.length<=b'.evs.length):fi F n b'<=fi F n b:=by
 unfold fi Wp;rw[h,he]
 split
 ·split<;>omega
 exact Nat.le_refl _
def ak4 (h:b'.role=b.role)(he:b'.ep=b.ep)(hv:b'.evs=b.evs):fi F n b'=fi F n b:=by
 unfold fi Wp;rw[h,he,hv]
def agZ {V:Nat->aQ}{P:Nat->Option bO}{U:Nat->Bool}{Lt:bG->Prop}{pl:Pl}{sh:Nat->Int×Int}{sv:List jH}{bs:Nat->aQ}{FF:Nat->Wy}(I:Inv g V P U Lt pl sh sv)(hn:n<5)(J:V n=bs l.q)(h:p.q=l.q)(hp:p.ok bs)(hS:Src (bs l.q) l p)(hk:Ee g V n p)
  (Ay:l.tg=n) (hl3:l.evs.length<=3) (hG:g.G.length<=300) (hM:(FF l.q).M=g.m) (ho:(FF l.q).own=g.own):46*(p.rs bs).length+fi (FF l.q) n (p.b bs)<=tZ FF l+fi (FF l.q) n (bs l.q):=by
 have hlen:=ZT h hp hS hl3
 cases p with
 |serve k evs op num a=>
  have e:k=l.q:=h;subst e;obtain⟨s1,_⟩:=hS;obtain⟨_,O,_⟩:=hp;have h1:fi (FF l.q) n ((bO.serve l.q evs op num a).b bs)<=fi (FF l.q) n (bs l.q):=Z7 E E (by show _<=evs.length;rw[O,length_append];omega);have h3:tZ FF l=46:=if_pos s1;have Z:((bO.serve l.q evs op num a).rs bs).length=1:=rfl;omega
 |begun k x=>
  have e:k=l.q:=h;subst e;obtain⟨j,j1,j2,j3,j4,j5⟩:=hk;rw[J]at j4 j5;have Z:((bO.begun l.q x).rs bs).length=1:=rfl;have hx:(bO.begun l.q x).b bs=x:=rfl;rw[Z,hx,j1];unfold fi Wp;dsimp only;rw[FX (r:=(4:Int)) Y,FX (r:=(bs l.q).role) Y,hM];by_cases c:(FF l.q).R=1/\(n:Int)=(FF l.q).tg
  ·rw[if_pos c,if_pos c,if_neg (by omega:¬(bs l.q).ep=(g.m:Int)+1)]
   split
   ·rw[length_nil];omega
   omega
  rw[if_neg c,if_neg c];omega
 |got k x last=>
  have e:k=l.q:=h;subst e;obtain⟨es,g1,g2,g3,g4,g5,g6,g7⟩:=uN hp;obtain⟨s1,s2,s3,s4,s5,s6,s7,s8,s9⟩:=hS;obtain⟨k1,k2,k3⟩:=hk;rw[J]at k1;have hrs:((bO.got l.q x last).rs bs).length=x.evs.length-(bs l.q).evs.length:=by
   rw[g7,length_append,length_map,length_drop]
   cases last with
   |true=>simp only[if_true,length_singleton]at*;omega
   |false=>simp only[Bool.false_eq_true,if_false,length_nil]at*;omega
  have hxl:(bs l.q).evs.length<=x.evs.length:=Y;have hxr:x.role=4\/x.role=1:=by
   cases last with
   |true=>obtain⟨_,_,_,a4,_⟩:=k3 E;rw[a4];exact .inr E
   |false=>obtain⟨j,a1,_⟩:=k2 E;rw[a1];exact .inl (by show(V n).role=4;rw[J];exact k1)
  have hxG:x.evs.length<=301:=by
   cases last with
   |true=>obtain⟨_,_,_,a4,_⟩:=k3 E;rw[a4];show(g.G++[aF]).length<=301;rw[length_append,length_singleton];omega
   |false=>obtain⟨j,a1,_⟩:=k2 E;rw[a1];show(g.G.take j).length<=301;rw[length_take];omega
  have hb:(bO.got l.q x last).b bs=x:=rfl;rw[hrs]at hlen;rw[hrs,hb];by_cases c:calm (FF l.q) l
  ·rcases c with⟨c1,c2,c3⟩|⟨c1,c2,c3⟩
   ·exfalso
    have hno:n≠g.o:=I.oH (.inr (by rw[J];exact k1));rw[hM]at c2;rw[ho,Ay]at c3
    rcases I.mV n hn hno with⟨h5,_⟩|⟨_,h5,_⟩|⟨k',_,O,h3,Z,_,_,_,h8⟩
    ·rw[J]at h5;omega
    ·rw[J]at h5;omega
    rw[J]at O;rw[show l.ep.toNat=k'+1 by omega]at c3;exact h8 Y Y
   rw[Ay]at c3;have hc:(FF l.q).R=1/\(n:Int)=(FF l.q).tg:=⟨c2,c3⟩;have he:(bs l.q).ep=((FF l.q).M:Int)+1:=by rw[s3];exact c1
   unfold fi Wp;rw[FX (r:=x.role) Y,FX (r:=(bs l.q).role) Y,g6];simp only[if_pos hc,if_pos he];omega
  have h3:tZ FF l=184:=by
   unfold tZ;rw[if_neg Y,if_pos ⟨s1,c⟩]
  have h1:fi (FF l.q) n x<=fi (FF l.q) n (bs l.q):=Z7 (by rw[FX (r:=x.role) Y,FX (r:=(bs l.q).role) Y]) g6 hxl;omega
 |fF k x a=>
  have e:k=l.q:=h;subst e;obtain⟨h1,O⟩:=hp;have Z:((bO.fF l.q x a).rs bs).length=1:=rfl;have hb:(bO.fF l.q x a).b bs=x:=rfl;rw[Z,hb,O];unfold fi Wp;dsimp only;rw[show Wo (3:Int)=1 from E,h1,show Wo (2:Int)=2 from E];omega
 |forget k x=>
  have e:k=l.q:=h;subst e;obtain⟨h1,O⟩:=hp;obtain⟨_,_,k3⟩:=hk;rw[J]at k3;have Z:((bO.forget l.q x).rs bs).length=1:=rfl;have hb:(bO.forget l.q x).b bs=x:=rfl;rw[Z,hb,O];unfold fi Wp;dsimp only;have hne:¬(bs l.q).ep=(g.m:Int)+1:=Y;rw[show Wo (0:Int)=0 from E,h1,show Wo (3:Int)=1 from E,hM];simp only[if_neg hne];omega
end
end Go.Proofs.YtefabpdniidmbaaGreatDoor
