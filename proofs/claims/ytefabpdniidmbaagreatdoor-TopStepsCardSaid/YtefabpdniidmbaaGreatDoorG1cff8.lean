import Derived.Test.YtefabpdniidmbaaGreatDoorG3bfd1
import Derived.Test.YtefabpdniidmbaaGreatDoorG4a0d4
set_option linter.all false
set_option maxRecDepth 100000
set_option maxHeartbeats 8000000
namespace Go.Proofs.YtefabpdniidmbaaGreatDoor
open List Nat Go.Proofs.Tryz ChangeShapes WideShapes RowKit
def Vl:∀ {v:Value} {s:Sh},Kd v s->uh v v=true
 |_,.at_ (.int k),⟨n,rfl⟩=>by simp[uh]
 |_,.at_ .bool,⟨n,rfl⟩=>by simp[uh]
 |_,.at_ .str,⟨n,rfl⟩=>by simp[uh]
 |_,.sl _ _,h=>h.elim
def zC:∀ {xs:List Value} {l:List Sh},dZ Kd xs l->eD xs xs=true
 |[],[],_=>rfl
 |x::xs,s::l,h=>by
  rw[eD,Vl h.1,zC h.2];rfl
 |[],_::_,h=>h.elim
 |_::_,[],h=>h.elim
section
variable {P:Program}{w:World}{t:TypeId}{xo yo:Operand}{l:List Sh}{xs:List Value}
def afd(w:World)(J:flat P 30 t=some l)(M:EG P 30 t=true)(O:∀xs,mkV P t xs=.agg xs.toArray)(I:dZ Kd xs l):(binOp .neq t (.agg xs.toArray) (.agg xs.toArray)).run P w=.ok (.bool false) w:=by
 have h:=sI (P:=P) w J M O I I;rw[zC I]at h;exact h
def afi(w:World)(J:flat P 30 t=some l)(M:EG P 30 t=true)(O:∀xs,mkV P t xs=.agg xs.toArray)(I:dZ Kd xs l):(binOp .eql t (.agg xs.toArray) (.agg xs.toArray)).run P w=.ok (.bool true) w:=by
 have h:=xu (P:=P) w J M O I I;rw[zC I]at h;exact h
end
def qz(l:List UInt8):Int:=l.foldl (λs c=>s*256+(c.toNat:Int)) 0
def ab6(l:List UInt8)(c:UInt8):qz (l++[c])=qz l*256+c.toNat:=by simp[qz]
def ak4:∀(l:List UInt8),l.length<=4->0<=qz l/\qz l<=4294967295
 |[],_=>by simp[qz]
 |[a],_=>by have:=Q6 a;simp[qz];omega
 |[a,b],_=>by have:=Q6 a;have:=Q6 b;simp[qz];omega
 |[a,b,c],_=>by have:=Q6 a;have:=Q6 b;have:=Q6 c;simp[qz];omega
 |[a,b,c,d],_=>by have:=Q6 a;have:=Q6 b;have:=Q6 c;have:=Q6 d;simp[qz];omega
 |_::_::_::_::_::_,h=>by simp at h
def Dm:cO×Nat:=(qm,0)
def dh(b:List UInt8):Nat:=match b with
 |x::y::_=>x.toNat*256+y.toNat
 |_=>0
def Nb(b:List UInt8):cO×Nat:=
 if b.length<2 then Dm else if b.length<dh b+6 then Dm else if qz ((b.drop (2+dh b)).take 4)≠Al (b.take (2+dh b))then Dm
 else if (tQ ((b.drop 2).take (dh b))).2≠0 then Dm else((tQ ((b.drop 2).take (dh b))).1,dh b+6)
section
variable {b:List UInt8}
def zD(h:b.length<2):Nb b=Dm:=if_pos h
def Lv(h:¬b.length<2)(h1:b.length<dh b+6):Nb b=Dm:=by unfold Nb;rw[if_neg h,if_pos h1]
def Yy(h:¬b.length<2)(h1:¬b.length<dh b+6)(I:qz ((b.drop (2+dh b)).take 4)≠Al (b.take (2+dh b))):Nb b=Dm:=by unfold Nb;rw[if_neg h,if_neg h1,if_pos I]
def Yz(h:¬b.length<2)(h1:¬b.length<dh b+6)(I:qz ((b.drop (2+dh b)).take 4)=Al (b.take (2+dh b)))(J:(tQ ((b.drop 2).take (dh b))).2≠0):Nb b=Dm:=by
 unfold Nb;rw[if_neg h,if_neg h1,if_neg (by simpa using I),if_pos J]
def Ov(h:¬b.length<2)(h1:¬b.length<dh b+6)(I:qz ((b.drop (2+dh b)).take 4)=Al (b.take (2+dh b)))(J:(tQ ((b.drop 2).take (dh b))).2=0):Nb b=((tQ ((b.drop 2).take (dh b))).1,dh b+6):=by
 unfold Nb;rw[if_neg h,if_neg h1,if_neg (by simpa using I),if_neg (by simpa using J)]
def xZ:(Nb b).2<=b.length:=by
 unfold Nb Dm
 split
 ·exact zero_le _
 split
 ·exact zero_le _
 split
 ·exact zero_le _
 split
 ·exact zero_le _
 simp;omega
def ark{x y:UInt8}(I:b[0]? =some x)(h:b[1]? =some y):dh b=x.toNat*256+y.toNat:=by
 match b,I,h with
 |x'::J::r,I,h=>
  simp at I h;subst I;subst h;rfl
 |[_],_,h=>simp at h
end
def qL:Nat->List UInt8->List cO×Nat
 | 0,_=>([],0)
 |f+1,b=>if (Nb b).2=0 then([],0)else((Nb b).1::(qL f (b.drop (Nb b).2)).1,(Nb b).2+(qL f (b.drop (Nb b).2)).2)
def Iq:∀(f g:Nat) (b:List UInt8),b.length<f->b.length<g->qL f b=qL g b
 | 0,_,b,h,_=>absurd h Y
 |_,0,b,_,h=>absurd h Y
 |f+1,g+1,b,hf,hg=>by
  unfold qL;by_cases h:(Nb b).2=0
  ·rw[if_pos h,if_pos h]
  rw[if_neg h,if_neg h,Iq f g _ (by rw[length_drop];have:= @xZ b;omega) (by rw[length_drop];have:= @xZ b;omega)]
def bT(b:List UInt8):List cO×Nat:=qL (b.length+1) b
def Ir{b:List UInt8}(h:(Nb b).2=0):bT b=([],0):=by unfold bT qL;rw[if_pos h]
def Ow{b:List UInt8}(h:¬(Nb b).2=0):bT b=((Nb b).1::(bT (b.drop (Nb b).2)).1,(Nb b).2+(bT (b.drop (Nb b).2)).2):=by
 unfold bT;rw[qL,if_neg h,Iq b.length ((b.drop (Nb b).2).length+1) _ (by rw[length_drop];have:= @xZ b;omega) Y]
def Ox:∀(f:Nat) (b:List UInt8),(qL f b).2<=b.length/\(qL f b).1.length<=b.length
 | 0,b=>by simp[qL]
 |f+1,b=>by
  unfold qL
  split
  ·simp
  rename_i h
  have h1:=Ox f (b.drop (Nb b).2);rw[length_drop]at h1;have I:= @xZ b;simp;omega
def uP(l:List UInt8)(s:Int):List cO×Nat×Int:=if dx l s=true then((bT l).1,(bT l).2,0)else([],0,6)
def cO.cells(r:cO):List Value:=[D r.kind,D r.Nt,D r.Mc,D r.Rl,D r.ev.kind,D r.ev.Mr,D r.ev.id,D r.ev.body,D r.ev.MF,D r.ev.Nc]
def agS(w:World)(r:List cO×Nat×Int)(e:Ending)(w':World):Prop:=
 ∃A c,e=.returned (.tuple #[.slice A r.1.length c,D (r.2.1:Int),D r.2.2])/\St w.heap.size w w' [.own 138 10 (.slice A r.1.length c) r.1.length (r.1.flatMap cO.cells)]
def Mv(x:UInt8):List Value:=[.int .u8 x.toNat]
def Tp(l:List UInt8):Gt l=l.flatMap Mv:=by
 induction l with
 |nil=>rfl
 |cons a l h=>rw[flatMap_cons,<-h];rfl
def auk{w:World}{B:Nat}{A:Option Addr}{n:Nat}{l:List UInt8}(h:Rd w B 1 A n (Gt l)):Rd w B 1 A n (l.flatMap Mv):=Tp l▸h
def aov{w:World}{B:Nat}{A:Option Addr}{n:Nat}{l:List UInt8}(h:Rd w B 1 A n (l.flatMap Mv)):Rd w B 1 A n (Gt l):=(Tp l).symm▸h
def ae5{l:List UInt8}:(l.take 4).take 4=l.take 4:=by simp[take_take]
def ab7{l:List UInt8}{k:Nat}{x:UInt8}(h:l[k]? =some x):qz (l.take k)*256+(x.toNat:Int)=qz (l.take (k+1)):=by
 rw[take_add_one,h,<-ab6];rfl
def ab8(w:World)(r:cO×Nat)(e:Ending)(w':World):Prop:=e=.returned (.tuple #[r.1.val,D (r.2:Int)])/\Below w.heap.size w w'
def Vm(A:Option Addr)(c:Nat)(b:List UInt8)(w:World)(h:Rd w w.heap.size 1 A b.length (Gt b))(hn:b.length<=c)(hcm:c<=9223372036854775807)(hb:b.length<=100000):
 Calls prog 58 #[.slice A b.length c] w (ab8 w (Nb b)):=by
 have S:=(St.start w).bV (auk h);refine gP 69 func58 ?_;refine cw [0] ?_;refine zN 2 ?_;refine gD S xC ?_;intro b1 w2 S3;refine zN 8 ?_;by_cases h4:(b.length:Int)<2
 ·refine zN 7 ?_;refine sa 0 S3 kQ ?_;intro w5 S6;refine zN 6 ?_;exact⟨by rw[zD Y];rfl,S6.Nr⟩
 refine zN 7 ?_;refine fu S3 mixed kQ ?_;refine zQ ?_;obtain⟨b8,o9,rfl⟩:=Rd.addr (St.rd 1 S3 E) Y;obtain⟨I,aul⟩:=JH 0 (St.rd 1 S3 E) Y;refine uv (λ_ _=>ko 0) ?_;refine uv (v:=.int .u8 ((I).toNat:Int)) (λ_ Si=>(aj E E (aG (Rd.cl2 (i:=0) (St.rd 1 Si E) (bE (enc:=Mv) (sz:=1) (λ_=>E) aul E))))) ?_;refine uv (v:=D ((I).toNat:Int)) (λ_ _=>(Gv E E (PV (a:=I) E kQ))) ?_;have aKt:=Q6 I;refine uv (v:=D (((I).toNat:Int)*256)) (λ_ _=>(bM E E E (aey E Y Y))) ?_;refine uv (v:=D (2+(((I).toNat:Int)*256))) (λ_ _=>iI) ?_;refine zQ ?_;obtain⟨M,aum⟩:=JH 1 (St.rd 1 S3 E) Y;refine uv (λ_ _=>ko 1) ?_;refine uv (v:=.int .u8 ((M).toNat:Int)) (λ_ GI=>(aj E E (aG (Rd.cl2 (i:=0) (St.rd 1 GI E) (bE (enc:=Mv) (sz:=1) (λ_=>E) aum E))))) ?_;refine uv (v:=D ((M).toNat:Int)) (λ_ _=>(Gv E E (PV (a:=M) E kQ))) ?_;have aKu:=Q6 M;have aKv:=ark aul aum;have aKw:dh b<=65535:=Y;refine uv (v:=D ((2+dh b:Nat):Int)) (λ_ _=>(bM E E E (by rw[show((2+dh b:Nat):Int)=2+(((I).toNat:Int)*256)+((M).toNat:Int) by omega];exact ad2 Y Y))) ?_;refine zQ ?_;refine eP λV3 tF=>?_;refine zN 7 ?_;refine vv (v:=D (((2+dh b)+4:Nat):Int)) iI ?_;by_cases h30:(b.length:Int)< (((2+dh b)+4:Nat):Int)
 ·refine zN 7 ?_;refine sa 0 tF kQ ?_;intro w31 uw;refine zN 6 ?_;exact⟨by rw[Lv Y Y];rfl,uw.Nr⟩
 refine zN 17 ?_;refine vv (v:=D (((2+dh b)+4:Nat):Int)) iI ?_;refine zQ ?_;refine vv (v:=D (((2+dh b)+4:Nat):Int)) iI ?_;obtain⟨A33,aBE,O⟩:=NR (b:=b) (c:=c) (lo:=(some (D ((2+dh b:Nat):Int)))) (hi:=(some (D (((2+dh b)+4:Nat):Int)))) (mx:=(some (D (((2+dh b)+4:Nat):Int)))) (l:=2+dh b) (k:=2+dh b+4) (q:=2+dh b+4) (m:=4) (c':=4) underlying99 kQ (aex (2+dh b) (2+dh b+4) (2+dh b+4) E E E Y Y Y) (aov (show Rd _ _ _ _ _ _ from tF.all 1 _ E)) Y Y Y Y Y
 replace O:Rd _ _ _ _ _ (((b.drop (2+dh b)).take 4).flatMap Mv):=auk O
 have tH:=tF.bV O;refine vv (v:=.slice A33 4 4) (jZ E E (jy E) (jy E) (jy E) (aBE _)) ?_;refine zN 5 ?_;refine fJ (X:=Nat) (λxv=>[(0,.slice (some ⟨b8,o9,none⟩) b.length c),(2,.pointer (some ⟨b1,0,none⟩)),(3,D 0),(4,D ((2+dh b:Nat):Int)),(37,.slice A33 4 4),(38,D 4),(5,D (qz (((b.drop (2+dh b)).take 4).take xv))),(39,D (xv:Int))]) (λxv wr=>(xv<=4)/\St w.heap.size w wr [.rd 1 A33 4 (((b.drop (2+dh b)).take 4).flatMap Mv),.Mg b1 #[D 0,D 0,D 0,D 0,D 0,D 0,D 0,D 0,D 0,D 0] 138,.rd 1 (some ⟨b8,o9,none⟩) b.length ((b).flatMap Mv)]) (λxv=>4-xv) (0) ?_ ?_ ?_
 ·exact⟨zero_le _,tH⟩
 ·exact VP
 rintro k w37 ⟨Sn,J⟩
 try dsimp only at Sn J
 refine bI (l':=[(0,.slice (some ⟨b8,o9,none⟩) b.length c),(2,.pointer (some ⟨b1,0,none⟩)),(3,D 0),(4,D ((2+dh b:Nat):Int)),(37,.slice A33 4 4),(38,D 4),(5,D (qz (((b.drop (2+dh b)).take 4).take k))),(39,D (k:Int))]) VP (aQ (aC ?_));by_cases h40:(k:Int)<4
 ·refine zN 11 ?_;obtain⟨b41,o42,rfl⟩:=Rd.addr (St.rd 0 J E) Y;obtain⟨x43,aun⟩:=JH k (St.rd 0 J E) Y;refine vv (ko k) ?_;refine vv (aj E E (aG (Rd.cl2 (i:=0) (St.rd 0 J E) (bE (enc:=Mv) (sz:=1) (λ_=>E) aun E)))) ?_;refine zN 5 ?_;have aKx:=ak4 (((b.drop (2+dh b)).take 4).take k) jQ;refine vv (v:=D (qz (((b.drop (2+dh b)).take 4).take k)*256)) (bM E E E (aey E Y Y)) ?_;refine zQ ?_;refine vv (v:=D ((x43).toNat:Int)) (Gv E E (PV (a:=x43) E kQ)) ?_;have aKy:=Q6 x43;refine vv (v:=D (qz (((b.drop (2+dh b)).take 4).take k)*256+((x43).toNat:Int))) (bM E E E (avJ E Y Y Y Y)) ?_;refine zN 5 ?_;refine vv (v:=D ((k+1:Nat):Int)) iI ?_;refine zN 2 ?_;refine bC (k+1) ?_ ⟨E,E,E,E,E,E,(apr (ab7 aun)),E,trivial⟩ (by first|omega|(dsimp only;omega));exact⟨Y,J⟩
 refine zN 16 ?_;obtain⟨M6,aBF,Z⟩:=NR (b:=b) (c:=c) (lo:=none) (hi:=(some (D ((2+dh b:Nat):Int)))) (mx:=none) (l:=0) (k:=2+dh b) (q:=c) (m:=2+dh b) (c':=c) underlying99 kQ (azq (2+dh b) E Y) (aov (show Rd _ _ _ _ _ _ from J.all 2 _ E)) Y Y Y Y Y
 replace Z:Rd _ _ _ _ _ (Gt (b.take (2+dh b))):=Z
 have wu:=J.bV Z;refine vv (v:=.slice M6 (2+dh b) c) (jZ E E nZ (jy E) nZ (aBF _)) ?_;refine dJ eQ (Og _ _ _ (b.take (2+dh b)) _ (St.rd 0 wu E) Y) ?_;rintro _ w51 ⟨rfl,q53,rfl⟩;refine⟨_,E,?_⟩;have pG:=wu.drewN q53;obtain rfl:k=4:=Y;by_cases h54:qz ((b.drop (2+dh b)).take 4)=Al (b.take (2+dh b))
 ·refine vv (v:=.bool false) (bM E E E (PO (by rw[ae5];exact h54))) ?_;refine zN 9 ?_;obtain⟨A55,aBG,aow⟩:=NR (b:=b) (c:=c) (lo:=(some (D 2))) (hi:=(some (D ((2+dh b:Nat):Int)))) (mx:=none) (l:=2) (k:=2+dh b) (q:=c) (m:=dh b) (c':=c-2) underlying99 kQ (WU 2 (2+dh b) E E Y Y) (aov (show Rd _ _ _ _ _ _ from pG.all 3 _ E)) Y Y Y Y Y
  replace aow:Rd _ _ _ _ _ (Gt ((b.drop 2).take (dh b))):=aow
  have DL:=pG.bV aow;refine vv (v:=.slice A55 (dh b) (c-2)) (jZ E E (jy E) (jy E) nZ (aBG _)) ?_;refine Rq eQ DL (aeS A55 (dh b) (c-2) ((b.drop 2).take (dh b)) _ (St.rd 0 DL E) Y (by unfold maxLen;omega)) ?_;intro w59 V5;refine zN 3 ?_;refine gD V5 xC ?_;intro b62 w63 S64;refine sa 0 S64 kQ ?_;intro w65 Ih;refine zN 7 ?_;by_cases Ci:(tQ ((b.drop 2).take (dh b))).2=0
  ·refine zN 10 ?_;refine vv (v:=D (((2+dh b)+4:Nat):Int)) iI ?_;refine sa 4 Ih kQ ?_;intro w68 Aw;refine zN 5 ?_;exact⟨by rw[Ov Y Y h54 Ci];exact congrArg Ending.returned (by show Value.tuple #[_,D _]=Value.tuple #[_,D _];rw[show((2+dh b+4:Nat):Int)=((dh b+6:Nat):Int) by omega];rfl),Aw.Nr⟩
  refine zN 7 ?_;refine sa 4 Ih kQ ?_;intro w70 rX;refine zN 6 ?_;exact⟨by rw[Yz Y Y h54 Ci];rfl,rX.Nr⟩
 refine vv (v:=.bool true) (bM E E E (Zj (by rw[ae5];exact h54))) ?_;refine zN 6 ?_;refine sa 2 pG kQ ?_;intro w72 uq;refine zN 6 ?_;exact⟨by rw[Yy Y Y h54];rfl,uq.Nr⟩
def Oy{w:World}{base:Nat}{e:TypeId}{size:Nat}{A:Option Addr}{n c:Nat}{xs:List Value}(h:w.ownsRow base e size (.slice A n c) n xs):n<=c/\c<=maxLen:=by
 obtain⟨A',c',I,h1,J⟩:=mY h
 cases I;exact⟨h1,J⟩
def afl{l:List UInt8}:bT l=([]++(bT (l.drop 0)).1,0+(bT (l.drop 0)).2):=by simp
def Vn{l:List UInt8}{I:List cO}{p:Nat}(h:bT l=(I++(bT (l.drop p)).1,p+(bT (l.drop p)).2))(h1:¬(Nb (l.drop p)).2=0):
 bT l=(I++[(Nb (l.drop p)).1]++(bT (l.drop (p+(Nb (l.drop p)).2))).1,p+(Nb (l.drop p)).2+(bT (l.drop (p+(Nb (l.drop p)).2))).2):=by
 rw[h,Ow h1,drop_drop,append_assoc,Nat.add_assoc];rfl
def ab9{l:List UInt8}{s:Int}{I:List cO}{p:Nat}(J:dx l s=true)(h:bT l=(I++(bT (l.drop p)).1,p+(bT (l.drop p)).2))(h1:(Nb (l.drop p)).2=0):uP l s=(I,p,0):=by
 unfold uP;rw[if_pos J,h,Ir h1];simp
def DY(A:Option Addr)(c:Nat)(l:List UInt8)(s:Int)(w:World)(h:Rd w w.heap.size 1 A l.length (Gt l)):
 Calls prog 40 #[.agg #[.slice A l.length c,D s]] w (agS w (uP l s)):=by
 have S:=(St.start w).bV h;refine gP 37 func40 ?_;refine cw [0] ?_;refine zN 2 ?_;refine iU S ?_;intro b1 w2 S3;refine zN 8 ?_
 rcases AB l s with⟨ho,hm⟩|⟨ho,hm⟩
 ·have HO:=λw h=>l7 A l.length c l s w h;rw[ho]at HO;refine dJ eQ (HO _ (St.rd 1 S3 E)) ?_;rintro _ w8 ⟨A4,Z,rfl,hb6,hO7⟩;refine⟨_,E,?_⟩;have S9:=S3.uG hb6 hO7;clear HO hb6 hO7 S3;change St _ _ _ [.own 5 1 (.slice A4 l.length Z) l.length (Gt l),.Mg b1 #[.slice A l.length c,D s] 101,.rd 1 A l.length (Gt l)]at S9;have hcap:=Oy (S9.own 0 E);unfold maxLen at hcap;have hlen:l.length<=100000:=(pI hm).1;refine zN 3 ?_;refine gD S9 zn ?_;intro b10 Ib pF;refine sa 0 pF kQ ?_;intro En mZ;refine zN 15 ?_;have jm:=mZ.nil 138 10;refine zN 9 ?_;have o8:=jm.aO [4];refine fJ (X:=(List cO)×Nat×Nat×(Option Addr)×Nat) (λI=>[(2,.slice none 0 0),(3,D 0),(4,D 0),(5,.pointer (some ⟨b10,0,none⟩)),(7,.slice I.2.2.2.1 I.2.2.1 I.2.2.2.2),(8,D (I.2.1:Int))]) (λI wr=>(bT l=(I.1++(bT (l.drop I.2.1)).1,I.2.1+(bT (l.drop I.2.1)).2))/\(I.2.1<=l.length)/\(I.2.2.1<=I.2.1)/\(I.2.2.1=I.1.length)/\St w.heap.size w wr [.own 138 10 (.slice I.2.2.2.1 I.2.2.1 I.2.2.2.2) I.2.2.1 ((I.1).flatMap cO.cells),.Mg b10 #[.slice A4 l.length Z,D s] 101,.own 5 1 (.slice A4 l.length Z) l.length (Gt l),.Mg b1 #[.slice A l.length c,D s] 101]) (λI=>l.length-I.2.1) ([],0,0,none,0) ?_ ?_ ?_
  ·exact⟨afl,zero_le _,Nat.le_refl _,E,o8⟩
  ·exact rU
  rintro⟨acc,p,m,A9,c9⟩ MZ ⟨J,aBH,hi21,M,O⟩
  try dsimp only at J aBH hi21 M O
  refine bI (l':=[(2,.slice none 0 0),(3,D 0),(4,D 0),(5,.pointer (some ⟨b10,0,none⟩)),(7,.slice A9 m c9),(8,D (p:Int))]) ⟨E,E,E,E,E,E,trivial⟩ (EF (aQ (aC (vv (wo 0 Zn) ?_))));refine zN 2 ?_;obtain⟨A23,aBI,aup⟩:=NR (b:=l) (c:=Z) (lo:=(some (D (p:Int)))) (hi:=none) (mx:=none) (l:=p) (k:=l.length) (q:=Z) (m:=(l.drop p).length) (c':=Z-p) underlying99 kQ (ah5 p E Y) (St.Rn 2 O E) Y Y Y length_drop.symm E;rw[take_length]at aup;refine vv (v:=.slice A23 ((l.drop p).length) (Z-p)) (jZ E E (jy E) nZ nZ (aBI _)) ?_;refine dJ eQ (Vm A23 (Z-p) (l.drop p) _ aup (by rw[length_drop];omega) Y (by rw[length_drop];omega)) ?_;rintro _ M4 ⟨rfl,aiv⟩;refine⟨_,E,?_⟩;have sS:=O.on aiv;clear aiv O;have hfl:= @xZ (l.drop p);rw[length_drop]at hfl;refine zN 3 ?_;refine gD sS xC ?_;intro b29 VX oW;refine sa 0 oW kQ ?_;intro w32 vR;refine zN 7 ?_;by_cases h34:(((Nb (l.drop p)).2:Nat):Int)=0
  ·refine zN 19 ?_;have Cc:=vR.aO [4,3,2,0];have hz:uP l s=(acc,p,0):=ab9 hm J Y;rw[hz];subst M;exact⟨_,_,E,Cc⟩
  refine zN 10 ?_;refine SG vR ?_;intro Oj w37 Az;refine dU (news:=[D ((Nb (l.drop p)).1.kind),D ((Nb (l.drop p)).1.Nt),D ((Nb (l.drop p)).1.Mc),D ((Nb (l.drop p)).1.Rl),D ((Nb (l.drop p)).1.ev.kind),D ((Nb (l.drop p)).1.ev.Mr),D ((Nb (l.drop p)).1.ev.id),D ((Nb (l.drop p)).1.ev.body),D ((Nb (l.drop p)).1.ev.MF),D ((Nb (l.drop p)).1.ev.Nc)]) (xs':=(acc++[(Nb (l.drop p)).1]).flatMap cO.cells) 2 Az (wn E) E E E E E E (St.mD (xs:=[D ((Nb (l.drop p)).1.kind),D ((Nb (l.drop p)).1.Nt),D ((Nb (l.drop p)).1.Mc),D ((Nb (l.drop p)).1.Rl),D ((Nb (l.drop p)).1.ev.kind),D ((Nb (l.drop p)).1.ev.Mr),D ((Nb (l.drop p)).1.ev.id),D ((Nb (l.drop p)).1.ev.body),D ((Nb (l.drop p)).1.ev.MF),D ((Nb (l.drop p)).1.ev.Nc)]) 0 Az E E E) underlying126 PZ E dQ (bY E) lQ Y (jB (enc:=cO.cells) E E) ?_;intro A39 c40 w41 aKz aKA Eo;refine zN 6 ?_;refine vv (v:=D ((p+((Nb (l.drop p)).2):Nat):Int)) iI ?_;refine zN 3 ?_;have pQ:=Eo.aO [1,0];refine bC (acc++[(Nb (l.drop p)).1],p+(Nb (l.drop p)).2,m+1,A39,c40) ?_ rU (by first|omega|(dsimp only;omega));exact⟨(Vn J Y),uQ,uQ,(by dsimp only;simp[M]),pQ⟩
 have HO:=λw h=>l7 A l.length c l s w h;rw[ho]at HO;refine dJ eQ (HO _ (St.rd 1 S3 E)) ?_;rintro _ VY ⟨A46,c47,rfl,hb48,auq⟩;refine⟨_,E,?_⟩;have vk:=S3.uG hb48 auq;clear HO hb48 auq S3;refine zN 3 ?_;refine gD vk zn ?_;intro b52 w53 uO;refine sa 0 uO kQ ?_;intro w55 V4;refine zN 21 ?_;have vQ:=V4.aO [3,2,1,0];rw[show uP l s=([],0,6)from if_neg (by rw[hm];simp)];exact⟨none,0,E,vQ.nil 138 10⟩
def ak5{l:List UInt8}{s:Int}(h:dx l s=true):II l s=(l,s,true):=by
 rcases AB l s with⟨h1,_⟩|⟨_,h1⟩
 ·exact h1
 rw[h]at h1;cases h1
def jC(l:List UInt8)(s:Int):List UInt8×Int×Int:=if dx l s=true then(l.take (bT l).2,min s (bT l).2,0)else([],0,6)
def ak6(w:World)(r:List UInt8×Int×Int)(e:Ending)(w':World):Prop:=
 ∃A c,e=.returned (.tuple #[.agg #[.slice A r.1.length c,D r.2.1],D r.2.2])/\St w.heap.size w w' [.cZ 1 A r.1.length (Gt r.1)]
def afm(A:Option Addr)(c:Nat)(l:List UInt8)(s:Int)(w:World)(h:Rd w w.heap.size 1 A l.length (Gt l)):
 Calls prog 39 #[.agg #[.slice A l.length c,D s]] w (ak6 w (jC l s)):=by
 have S:=(St.start w).bV h;refine gP 34 func39 ?_;refine cw [0] ?_;refine zN 2 ?_;refine iU S ?_;intro b1 w2 S3;refine gD S3 zn ?_;intro b4 w5 S6;refine zN 6 ?_;have hle:=Ox (l.length+1) l;rw[<-show bT l=qL (l.length+1) l from E]at hle
 cases hm:dx l s
 ·have HR:=λw h=>DY A c l s w h;rw[show uP l s=([],0,6)from if_neg (by rw[hm];simp)]at HR;refine dJ eQ (HR _ (St.rd 2 S6 E)) ?_;rintro _ w9 ⟨A7,c8,rfl,T11⟩;refine⟨_,E,?_⟩;have DI:=S6.ext T11 E;change St _ _ _ [.own 138 10 (.slice A7 (([]:List cO).length) c8) (([]:List cO).length) ((([]:List cO)).flatMap cO.cells),_,_,_]at DI;refine zN 21 ?_;refine sa 1 DI kQ ?_;intro w12 Ld;refine zN 6 ?_;have mZ:=Ld.aO [3,2,1,0];rw[show jC l s=([],0,6)from if_neg (by rw[hm];simp)];exact⟨none,0,E,aA mZ⟩
 have HR:=λw h=>DY A c l s w h;rw[show uP l s=((bT l).1,(bT l).2,0)from if_pos hm]at HR;have hlen:l.length<=100000:=(pI hm).1;refine dJ eQ (HR _ (St.rd 2 S6 E)) ?_;rintro _ MZ ⟨A15,c16,rfl,T19⟩;refine⟨_,E,?_⟩;have J:=S6.ext T19 E;change St _ _ _ [.own 138 10 (.slice A15 ((bT l).1.length) c16) ((bT l).1.length) (((bT l).1).flatMap cO.cells),_,_,_]at J;refine zN 8 ?_;refine VT (vv (v:=D 0) ym ?_);refine vv av6 ?_;refine zN 8 ?_;have HO:=λw h=>l7 A l.length c l s w h;rw[ak5 hm]at HO;refine dJ eQ (HO _ (St.rd 3 J E)) ?_;rintro _ Oc ⟨A20,c21,rfl,O,Z⟩;refine⟨_,E,?_⟩;have lH:=J.uG O Z;clear HO O Z J;change St _ _ _ [.own 5 1 (.slice A20 l.length c21) l.length (Gt l),.own 138 10 (.slice A15 ((bT l).1.length) c16) ((bT l).1.length) (((bT l).1).flatMap cO.cells),.Mg b4 #[.slice none 0 0,D 0] 101,.Mg b1 #[.slice A l.length c,D s] 101,.rd 1 A l.length (Gt l)]at lH;have hcap:=Oy (lH.own 0 E);unfold maxLen at hcap;refine zN 3 ?_;refine gD lH zn ?_;intro b26 NZ tC;refine sa 0 tC kQ ?_;intro w29 zP;refine zN 4 ?_;have I:=zP.drew;refine fM 12 10 I [] ?_;iterate 4 refine gW ?_
 obtain⟨M,aBJ,aBK,aBL⟩:=ajE (b:=l) (A:=A20) (c:=c21) (lo:=none) (hi:=some (D (((bT l).2:Nat):Int))) (mx:=some (D (((bT l).2:Nat):Int))) (l:=0) (k:=(bT l).2) (q:=(bT l).2) (m:=(bT l).2) (c':=(bT l).2) underlying99 kQ (amn ((bT l).2) ((bT l).2) E E (Nat.le_refl _) Y) Y Y Y E E;refine gk (v:=.slice M ((bT l).2) ((bT l).2)) 4 E I (λ_ _=>(jZ E E nZ (jy E) (jy E) (aBJ _))) ?_;iterate 3 refine gW ?_
 refine Ef (v:=D (min s ((((bT l).2:Nat):Int)))) (i:=8) (m:=3) E kQ kQ kQ E kQ E I E (wn E) E E (λ_ _=>(nU (vs:=[D s,D (((bT l).2:Nat):Int)]) E xR λ_=>amo)) ?_;refine Ef (v:=.agg #[.slice M ((bT l).2) ((bT l).2),D (min s ((((bT l).2:Nat):Int)))]) (i:=9) (m:=2) E kQ kQ kQ E kQ E I E (wn E) E E (λ_ _=>(Ed (vs:=[(0,.slice M ((bT l).2) ((bT l).2)),(1,D (min s ((((bT l).2:Nat):Int))))]) E jX kQ)) ?_;refine fC kQ E E E ?_;refine sa 3 I kQ ?_;intro ZR zx;refine zN 2 ?_;refine jg ?_;refine zN 3 ?_;have AA:=zx.seal 1 E (aBK _ _ (St.Rn 1 zx E)) (λa h=>aBL a h);have xX:=AA.aO [5,4,3,2,0];have hlt:(l.take (bT l).2).length=(bT l).2:=by rw[length_take];omega
 rw[show jC l s=(l.take (bT l).2,min s (bT l).2,0)from if_pos hm];exact⟨M,(bT l).2,by rw[hlt];rfl,by rw[hlt];exact xX⟩
noncomputable def q9(d:QK)(q:Int):Pl×Int:=if gI d≠0 then(nH,gI d)else if q<0\/3<q then(nH,2)else(d.at q.toNat,0)
noncomputable def aJ(d:QK)(q:Int):Pl×Int:=if (q9 d q).2=0/\(q9 d q).1=nowhere then(nH,7)else q9 d q
def Lx{d:QK}{q:Int}(h:gI d≠0):q9 d q=(nH,gI d):=if_pos h
def LA{d:QK}{q:Int}(h:gI d=0)(I:q<0\/3<q):q9 d q=(nH,2):=by
 unfold q9;rw[if_neg Y,if_pos I]
def Qb{d:QK}{q:Int}(h:gI d=0)(I:¬(q<0\/3<q)):q9 d q=(d.at q.toNat,0):=by
 unfold q9;rw[if_neg Y,if_neg I]
def afn{d:QK}{q:Int}(h:gI d≠0):aJ d q=(nH,gI d):=by
 unfold aJ;rw[Lx h,if_neg (λI=>h I.1)]
def afu{d:QK}{q:Int}(h:gI d=0)(I:q<0\/3<q):aJ d q=(nH,2):=by
 unfold aJ;rw[LA h I,if_neg (λJ=>by cases J.1)]
def Vo{d:QK}{q:Int}(h:gI d=0)(I:¬(q<0\/3<q))(hn:d.at q.toNat=nowhere):aJ d q=(nH,7):=by
 unfold aJ;rw[Qb h I,if_pos ⟨E,hn⟩]
def Iu{d:QK}{q:Int}(h:gI d=0)(I:¬(q<0\/3<q))(hn:d.at q.toNat≠nowhere):aJ d q=(d.at q.toNat,0):=by
 unfold aJ;rw[Qb h I,if_neg (λJ=>hn J.2)]
def Oz(d:QK)(q:Int)(w:World)(hn:Nw w):Calls prog 61 #[d.val,.int .i64 q] w (aeU w (q9 d q)):=by
 have HN:=Lib.hid hn;have HC:=Lib.hid (λw h=>ae3 d w h);have HR0:Hid (∀r,r=q9 d q->r=if gI d≠0 then(nH,gI d)else if q<0\/3<q then(nH,2)else(d.at q.toNat,0)):=Lib.hid (λr h=>h);generalize hr:q9 d q=r;have HR:=Lib.hid (HR0.out r hr.symm);clear hn hr HR0;generalize gI d=z at HC HR;obtain⟨⟨n0,e0⟩,⟨n1,e1⟩,⟨n2,e2⟩,⟨n3,e3⟩⟩:=d;unfold QK.val at*;simp only at HC⊢
 go_enter func61,ntmps61
 go_wp2_with fail
 refine(HC.out _ (HN.out.on gQ)).mono ?_;rintro e w1 ⟨rfl,hb1⟩;have B0:=((gB.new w _ _).alloc _).below hb1 jQ;have B1:=(gB.new1 w _ _ _).below hb1 iQ;obtain⟨c0,c1,c2,c3,c4,c5,c6,c7,cf⟩:=B0.CF;obtain⟨r0,r1,rf⟩:=B1.vO;have hz0:w.heap.size<w1.heap.size:=B0.lt;have hz1:w.heap.size+1<w1.heap.size:=B1.lt;have HB:Hid (Below w.heap.size w w1):=Lib.hid (Below.trans gQ (hb1.mono jQ));clear hb1;by_cases hz:z=0
 ·subst hz;by_cases q0:q<0
  ·have e:=HR.out;rw[if_neg Y,if_pos Y]at e;subst e
   go_wp2_with fail
   refine bodyPost_ret (v:=.tuple #[.agg #[.int .i64 0,.int .i64 0],.int .i64 2]) (by simp[results,results61,go_sem,r0,r1]) E ?_;have hB:=HB.out;exact⟨E,by go_grown⟩
  by_cases q4:4<=q
  ·have e:=HR.out;rw[if_neg Y,if_pos Y]at e;subst e
   go_wp2_with fail
   refine bodyPost_ret (v:=.tuple #[.agg #[.int .i64 0,.int .i64 0],.int .i64 2]) (by simp[results,results61,go_sem,r0,r1]) E ?_;have hB:=HB.out;exact⟨E,by go_grown⟩
  rcases(show q=0\/q=1\/q=2\/q=3 by omega)with rfl|rfl|rfl|rfl
  ·have e:=HR.out;rw[if_neg Y,if_neg Y]at e;subst e
   go_wp2_with fail
   refine bodyPost_ret (v:=.tuple #[.agg #[.int .i64 n0,.int .i64 e0],.int .i64 0]) (by simp[results,results61,go_sem,r0,r1]) E ?_;have hB:=HB.out;exact⟨E,by go_grown⟩
  ·have e:=HR.out;rw[if_neg Y,if_neg Y]at e;subst e
   go_wp2_with fail
   refine bodyPost_ret (v:=.tuple #[.agg #[.int .i64 n1,.int .i64 e1],.int .i64 0]) (by simp[results,results61,go_sem,r0,r1]) E ?_;have hB:=HB.out;exact⟨E,by go_grown⟩
  ·have e:=HR.out;rw[if_neg Y,if_neg Y]at e;subst e
   go_wp2_with fail
   refine bodyPost_ret (v:=.tuple #[.agg #[.int .i64 n2,.int .i64 e2],.int .i64 0]) (by simp[results,results61,go_sem,r0,r1]) E ?_;have hB:=HB.out;exact⟨E,by go_grown⟩
  have e:=HR.out;rw[if_neg Y,if_neg Y]at e;subst e
  go_wp2_with fail
  refine bodyPost_ret (v:=.tuple #[.agg #[.int .i64 n3,.int .i64 e3],.int .i64 0]) (by simp[results,results61,go_sem,r0,r1]) E ?_;have hB:=HB.out;exact⟨E,by go_grown⟩
 have e:=HR.out;rw[if_pos hz]at e;subst e
 go_wp2_with fail
 refine bodyPost_ret (v:=.tuple #[.agg #[.int .i64 0,.int .i64 0],.int .i64 z]) (by simp[results,results61,go_sem,r0,r1]) E ?_;have hB:=HB.out;exact⟨E,by go_grown⟩
def acd{d:QK}{q:Int}(h:(q9 d q).2=0):0<=q/\q<=3:=by
 by_cases I:gI d=0
 ·by_cases J:q<0\/3<q
  ·rw[LA I J]at h
   cases h
  exact⟨by omega,by omega⟩
 rw[Lx I]at h;exact absurd h I
noncomputable def r9(d:QK)(q node:Int):QK×Int:=
 if (q9 d q).2≠0 then(kY,(q9 d q).2)else if node<0\/4<node then(kY,2)else if (q9 d q).1≠nowhere then(kY,8)else(d.set q.toNat ⟨node,1⟩,0)
def Iw{d:QK}{q:Int}(h:(aJ d q).2=0):0<=q/\q<=3/\(aJ d q).1=d.at q.toNat/\(aJ d q).1≠nowhere/\yS (aJ d q).1:=by
 by_cases I:gI d=0
 ·by_cases J:q<0\/3<q
  ·rw[afu I J]at h
   cases h
  by_cases hn:d.at q.toNat=nowhere
  ·rw[Vo I J hn]at h
   cases h
  rw[Iu I J hn];exact⟨by omega,by omega,E,hn,abH I _ Y⟩
 rw[afn I]at h;exact absurd h I
noncomputable def vX(d:QK)(q Mc node:Int):QK×Int:=
 if (aJ d q).2≠0 then(kY,(aJ d q).2)else if node<0\/4<node then(kY,2)else if (aJ d q).1.Mc≠Mc then(kY,15)
 else if (aJ d q).1.node=node then(kY,8)else if Mc=1048576 then(kY,14)else(d.set q.toNat ⟨node,Mc+1⟩,0)
def E8{a:UInt8}{n:Int}(h:n=a.toNat):UInt8.ofNat n.toNat=a:=by
 subst h;simp
def ace{a b c d:UInt8}{n:Int}(h:n=16777216*(a.toNat:Int)+65536*(b.toNat:Int)+256*(c.toNat:Int)+(d.toNat:Int)):zL n=[a,b,c,d]:=by
 have:=Q6 a;have:=Q6 b;have:=Q6 c;have:=Q6 d;unfold zL;rw[E8 (a:=a) Y,E8 (a:=b) Y,E8 (a:=c) Y,E8 (a:=d) Y]
def OB{a b c d:UInt8}:qz [a,b,c,d]=16777216*(a.toNat:Int)+65536*(b.toNat:Int)+256*(c.toNat:Int)+(d.toNat:Int):=by
 simp[qz];omega
def agT{q:List UInt8}{s:Int}(I:q.length=4)(h0:0<=s)(h1:s<=4294967295):qz q=s↔zL s=q:=by
 match q,I with
 |[a,b,c,d],_=>
  constructor
  ·intro h;rw[OB]at h;exact ace h.symm
  intro h;have ha:=Q6 a;have hb:=Q6 b;have hc:=Q6 c;have hd:=Q6 d;unfold zL at h;simp only[List.cons.injEq,and_true]at h;obtain⟨J,M,O,Z⟩:=h;subst J;subst M;subst O;subst Z;rw[OB];simp only[UInt8.toNat_ofNat'];omega
section
variable {b:List UInt8}
def YA(h:¬b.length<2)(h1:¬b.length<dh b+6):QZ ((b.drop 2).take (dh b))=b.take (2+dh b):=by
 match b,h,h1 with
 |x::y::r,_,h1=>
  have e:dh (x::y::r)=x.toNat*256+y.toNat:=rfl;have J:=x.toNat_lt;have M:=y.toNat_lt;have I:((List.drop 2 (x::y::r)).take (dh (x::y::r))).length=dh (x::y::r):=by
   rw[length_take,length_drop];omega
  unfold QZ;rw[I,show UInt8.ofNat (dh (x::y::r) / 256)=x by rw[e,show(x.toNat*256+y.toNat) / 256=x.toNat by omega];simp,
   show UInt8.ofNat (dh (x::y::r) % 256)=y by rw[e,show(x.toNat*256+y.toNat) % 256=y.toNat by omega];simp]
  rw[Nat.add_comm 2];rfl
 |[],h,_=>simp at h
 |[_],h,_=>simp at h
def acf(h:¬b.length<2)(h1:¬b.length<dh b+6):qz ((b.drop (2+dh b)).take 4)=Al (b.take (2+dh b))↔jT ((b.drop 2).take (dh b))=b.take (dh b+6):=by
 unfold jT;rw[YA h h1,show dh b+6=(2+dh b)+4 by omega,take_add (i:=2+dh b) (j:=4),append_cancel_left_eq];obtain⟨I,J⟩:=Lj (b.take (2+dh b));exact agT (by rw[length_take,length_drop];omega) I Y
def afw(h:¬b.length<2)(h1:¬b.length<dh b+6)(I:(tQ ((b.drop 2).take (dh b))).2=0)(J:jT ((b.drop 2).take (dh b))=b.take (dh b+6)):Nb b=((tQ ((b.drop 2).take (dh b))).1,dh b+6):=
 Ov h h1 ((acf h h1).2 J) I
end
def JY(n:Int):Prop:=0<=n/\n<=2147483647
def ak7{n:Int}(h:JY n):(qR n).1=zL n:=by unfold qR;unfold JY at h;rw[if_pos h]
def agU{n:Int}(h:JY n)(t:List UInt8):pz (zL n++t)=(n,0):=by
 obtain⟨I,h1⟩:=h;unfold zL pz;simp only[cons_append,nil_append,UInt8.toNat_ofNat'];rw[if_neg Y];simp only[Prod.mk.injEq,and_true];omega
def GV{n:Int}{l:List Int}(h:JY n):jN (n::l)=zL n++jN l:=by
 show(n::l).flatMap _=_
 rw[flatMap_cons,ak7 h];rfl
def ZY:∀ {l:List Int},(∀n∈l,JY n)->(jN l).length=4*l.length
 |[],_=>rfl
 |n::l,h=>by
  rw[GV (h n iQ),length_append,ZY (λm I=>h m (by simp[I])),show(zL n).length=4 from E,length_cons];omega
def Tq:∀ {l:List Int} {j:Nat},(∀n∈l,JY n)->(jN l).drop (4*j)=jN (l.drop j)
 |l,0,_=>rfl
 |[],j+1,_=>by simp[jN]
 |n::l,j+1,h=>by
  rw[GV (h n iQ),drop_succ_cons,<-Tq (j:=j) (λm I=>h m (by simp[I])),show 4*(j+1)=(zL n).length+4*j by show _=4+_;omega,<-drop_drop,drop_left]
def V8{l:List Int}{j:Nat}{n:Int}(h:∀n∈l,JY n)(J:l[j]? =some n):tk (jN l) j=(n,0):=by
 unfold tk;obtain⟨I,hn⟩:=List.getElem?_eq_some_iff.1 J;rw[Tq h,drop_eq_getElem_cons I,hn,GV (h n (by rw[<-hn];exact getElem_mem I))];exact agU (h n (by rw[<-hn];exact getElem_mem I)) _
def arp{e:Ev}(h:aZ e=0):JY e.kind/\JY e.Mr/\JY e.id/\JY e.body/\JY e.MF/\JY e.Nc:=by
 unfold aZ at h;unfold JY
 repeat' split at h
 all_goals first
  |exact absurd h dQ
  |(clear h;simp only[kL,Bool.and_eq_true,decide_eq_true_eq,not_and,Classical.not_not]at*;omega)
def ak8{r:cO}(h:aH r=0):∀n∈gJ r,JY n:=by
 unfold aH at h
 split at h
 ·cases h
 split at h
 ·cases h
 rename_i h1 I
 simp only[kL,Bool.and_eq_true,decide_eq_true_eq,Bool.not_eq_false]at h1 I;intro n hn;unfold gJ at hn;by_cases he:kR r.kind=true
 ·rw[if_pos he]at h hn;obtain⟨J,g2,M,O,Z,g6⟩:=arp h;simp only[cons_append,nil_append,mem_cons,not_mem_nil,or_false]at hn
  rcases hn with rfl|rfl|rfl|rfl|rfl|rfl|rfl|rfl|rfl|rfl
  any_goals assumption
  all_goals (unfold JY;omega)
 rw[if_neg he]at hn;simp only[append_nil,mem_cons,not_mem_nil,or_false]at hn
 rcases hn with rfl|rfl|rfl|rfl
 all_goals (unfold JY;omega)
def agV{r:cO}(h:aH r=0)(he:¬kR r.kind=true):r.ev=aI:=by
 unfold aH at h
 split at h
 ·cases h
 split at h
 ·cases h
 try rw[if_neg he]at h
 split at h
 ·assumption
 cases h
def ak9{r:cO}(h:aH r=0):tQ (jN (gJ r))=(r,0):=by
 have J:=ak8 h;have O:tk (jN (gJ r)) 0=(r.kind,0):=V8 J E;have Z:lI (jN (gJ r))=(gJ r).length:=by
  unfold lI;rw[O];by_cases he:kR r.kind=true
  ·rw[if_pos (show kR (r.kind,(0:Int)).1=true from he)];unfold gJ;rw[if_pos he];rfl
  rw[if_neg (show ¬kR (r.kind,(0:Int)).1=true from he)];unfold gJ;rw[if_neg he];rfl
 have hz:zy (jN (gJ r)) (gJ r).length=0:=vD λj I=>by rw[V8 J (getElem?_eq_getElem I)]
 have M:om (jN (gJ r)) (gJ r).length=r:=by
  have hv:∀j n,(gJ r)[j]? =some n->iM (jN (gJ r)) (gJ r).length j=n:=λj n I=>by
   unfold iM;rw[if_pos (List.getElem?_eq_some_iff.1 I).1,V8 J I]
  have hw:∀j,(gJ r).length<=j->iM (jN (gJ r)) (gJ r).length j=0:=λj I=>if_neg Y;unfold om;rw[hv 0 r.kind E,hv 1 r.Nt E,hv 2 r.Mc E,hv 3 r.Rl E];by_cases he:kR r.kind=true
  ·have hn:gJ r=[r.kind,r.Nt,r.Mc,r.Rl,r.ev.kind,r.ev.Mr,r.ev.id,r.ev.body,r.ev.MF,r.ev.Nc]:=by unfold gJ;rw[if_pos he];rfl
   rw[hv 4 r.ev.kind (by rw[hn];rfl),hv 5 r.ev.Mr (by rw[hn];rfl),hv 6 r.ev.id (by rw[hn];rfl),hv 7 r.ev.body (by rw[hn];rfl),hv 8 r.ev.MF (by rw[hn];rfl),hv 9 r.ev.Nc (by rw[hn];rfl)]
  have hn:(gJ r).length=4:=by unfold gJ;rw[if_neg he];rfl
  rw[hw 4 Y,hw 5 Y,hw 6 Y,hw 7 Y,hw 8 Y,hw 9 Y];have:=agV h he;unfold aI at this;rw[<-this]
 unfold tQ;rw[Z,if_neg (by rw[hz];simp),M,if_neg (by rw[ZY J,h];simp)]
def ae6{r:cO}(h:aH r=0):nW r=(jN (gJ r),0):=by unfold nW;rw[if_neg (by simpa using h)]
def mJ(r:cO):List UInt8:=jT (nW r).1
def bK(rs:List cO):List UInt8:=rs.flatMap mJ
def lY(a b:List cO):bK (a++b)=bK a++bK b:=flatMap_append
def AQ(r:cO):6<=(mJ r).length/\(mJ r).length<=46:=by
 unfold mJ;rw[vE];have:=EU r;omega
def OC{p t:List UInt8}(h:p.length<=65535){k:Nat}(I:2<=k):dh ((jT p).take k++t)=p.length:=by
 obtain⟨k,rfl⟩:∃j,k=j+2:=⟨k-2,by omega⟩;unfold jT QZ;simp only[cons_append,take_succ_cons,dh,UInt8.toNat_ofNat'];omega
def Vp{r:cO}(h:aH r=0)(t:List UInt8):Nb (mJ r++t)=(r,(mJ r).length):=by
 have hl:=EU r;have J:(mJ r).length=(nW r).1.length+6:=vE _;have I:dh (mJ r++t)=(nW r).1.length:=by
  have:=OC (p:=(nW r).1) (t:=t) Y (k:=(mJ r).length) Y;rwa [show take (mJ r).length (jT (nW r).1)=mJ r from take_length]at this
 have O:(mJ r++t).length=(nW r).1.length+6+t.length:=by rw[length_append,J]
 have M:((mJ r++t).drop 2).take (dh (mJ r++t))=(nW r).1:=by
  rw[I];unfold mJ jT QZ;simp
 have Z:tQ (nW r).1=(r,0):=by rw[ae6 h];exact ak9 h
 rw[afw Y (by rw[I];omega) (by rw[M,Z]) (by rw[M,I,<-J,take_left];rfl),M,Z,I,J]
def YB{r:cO}{k:Nat}(O:k< (mJ r).length):(Nb ((mJ r).take k)).2=0:=by
 have Z:=EU r;have J:(mJ r).length=(nW r).1.length+6:=vE _;have M:((mJ r).take k).length=k:=by rw[length_take];omega
 by_cases hs:k<2
 ·rw[zD Y];rfl
 have h:=OC (p:=(nW r).1) (t:=[]) Y (k:=k) Y;rw[append_nil]at h;have I:dh ((mJ r).take k)=(nW r).1.length:=h;rw[Lv Y (by rw[M,I];omega)];rfl
def yY:∀ {rs:List cO} {t:List UInt8},(∀r∈rs,aH r=0)->(Nb t).2=0->bT (bK rs++t)=(rs,(bK rs).length)
 |[],t,_,I=>Ir (by simpa[bK]using I)
 |r::rs,t,h,I=>by
  have e:bK (r::rs)++t=mJ r++(bK rs++t):=by simp[bK,flatMap_cons]
  have J:=Vp (h r iQ) (bK rs++t);have M:=AQ r;rw[e,Ow (by rw[J];show ¬(mJ r).length=0;omega),J];simp only[drop_left];rw[yY (λx O=>h x (by simp[O])) I];simp[bK,flatMap_cons]
def x9:(Nb []).2=0:=by rw[zD iQ];rfl
def OD:∀(rs:List cO) (k:Nat),k<=(bK rs).length-> ∃j t,(bK rs).take k=bK (rs.take j)++t/\(Nb t).2=0/\j<=rs.length
 |[],k,_=>⟨0,[],by simp[bK],x9,Nat.le_refl _⟩
 |r::rs,k,I=>by
  have e:bK (r::rs)=mJ r++bK rs:=by simp[bK,flatMap_cons]
  by_cases h:k< (mJ r).length
  ·refine⟨0,(mJ r).take k,?_,YB h,zero_le _⟩;rw[e,take_append_of_le_length Y];simp[bK]
  rw[e,length_append]at I;obtain⟨j,t,h1,J,M⟩:=OD rs (k-(mJ r).length) Y;refine⟨j+1,t,?_,J,by simp;omega⟩;rw[e,take_append,take_of_length_le Y,h1];simp[bK,flatMap_cons]
def agW{l:List UInt8}{s:Int}{r:cO}(h:aH r=0)(I:0<=s)(h1:s<=l.length)(J:l.length+46<=100000):jc l s r=(l++mJ r,s,0):=by
 unfold jc;have:=AQ r;rw[if_neg (by simp[dx];omega),if_neg (by rw[ae6 h];simp),if_neg (by show ¬_<_+(mJ r).length;omega)];rfl
def OE{l:List UInt8}{s:Int}{r:cO}(h:(jc l s r).2.2=0):jc l s r=(l++mJ r,s,0)/\aH r=0/\l.length+(mJ r).length<=100000:=by
 unfold jc at h⊢
 split at h
 ·cases h
 split at h
 ·rename_i I;exact absurd h I
 split at h
 ·cases h
 rename_i h1 I J
 rw[if_neg h1,if_neg I,if_neg J];refine⟨E,?_,by show _+(jT (nW r).1).length<=_;omega⟩;unfold nW at I
 split at I
 ·exact Classical.not_not.1 I
 rename_i M;exact Classical.not_not.1 M
def nQ(d:QK)(q:Int)(w:World)(hn:Nw w):Calls prog 51 #[d.val,D q] w (aeU w (aJ d q)):=by
 have HN:=Lib.hid hn;have HC:=Lib.hid (λw h=>Oz d q w h);have HR:Hid (aJ d q=if (q9 d q).2=0/\(q9 d q).1=nowhere then(nH,7)else q9 d q):=Lib.hid E;clear hn;generalize aJ d q=r at*;generalize q9 d q=a at*;obtain⟨⟨pn,pe⟩,z⟩:=a;have hq:=Lm ⟨pn,pe⟩ nowhere;unfold nowhere at hq;simp only at hq;obtain⟨⟨n0,e0⟩,⟨n1,e1⟩,⟨n2,e2⟩,⟨n3,e3⟩⟩:=d;unfold QK.val at*;simp only at HC HR⊢
 go_enter func51,ntmps51
 go_wp2_with fail
 refine(HC.out _ (HN.out.on gQ)).mono ?_;rintro e w1 ⟨rfl,hb1⟩;have B1:=(gB.new1 w _ _ _).below hb1 iQ;obtain⟨r0,r1,rf⟩:=B1.vO;have hz1:w.heap.size+1<w1.heap.size:=B1.lt;have HB:Hid (Below w.heap.size w w1):=Lib.hid (Below.trans gQ (hb1.mono jQ));obtain⟨g0,g1,g2⟩:=HN.out.on HB.out;clear hb1;by_cases hz:z=0
 ·by_cases hp:(⟨pn,pe⟩:Pl)=nowhere
  ·have e:=HR.out;rw[if_pos ⟨hz,hp⟩]at e;subst e;subst hz;have hd:decide ((⟨pn,pe⟩:Pl)=⟨-1,0⟩)=true:=by simpa[nowhere]using hp
   rw[hd]at hq;clear hp hd
   go_wp2_with fail
   refine bodyPost_ret (v:=.tuple #[.agg #[D 0,D 0],D 7]) (by simp[results,results51,go_sem,World.cell?_alloc_lt,hz1,r0,r1]) E ?_;have hB:=HB.out;exact⟨E,by go_grown⟩
  have e:=HR.out;rw[if_neg (λh=>hp h.2)]at e;subst e;subst hz;have hd:decide ((⟨pn,pe⟩:Pl)=⟨-1,0⟩)=false:=by simpa[nowhere]using hp
  rw[hd]at hq;clear hp hd
  go_wp2_with fail
  refine bodyPost_ret (v:=.tuple #[.agg #[D pn,D pe],D 0]) (by simp[results,results51,go_sem,World.cell?_alloc_lt,hz1,r0,r1]) E ?_;have hB:=HB.out;exact⟨E,by go_grown⟩
 have e:=HR.out;rw[if_neg (λh=>hz h.1)]at e;subst e;have hz':(z==0)=false:=by simpa using hz
 clear hq
 go_wp2_with fail
 refine bodyPost_ret (v:=.tuple #[.agg #[D pn,D pe],D z]) (by simp[results,results51,go_sem,World.cell?_alloc_lt,hz1,r0,r1]) E ?_;have hB:=HB.out;exact⟨E,by go_grown⟩
def YC(d:QK)(q Mc node:Int)(w:World)(hn:Nw w):Calls prog 50 #[d.val,.int .i64 q,.int .i64 Mc,.int .i64 node] w (ZV w (vX d q Mc node)):=by
 have HN:=Lib.hid hn;clear hn;have HC:=Lib.hid (λw h=>nQ d q w h);have HR:Hid (vX d q Mc node=if (aJ d q).2≠0 then(kY,(aJ d q).2)else if node<0\/4<node then(kY,2)else if (aJ d q).1.Mc≠Mc then(kY,15)
 else if (aJ d q).1.node=node then(kY,8)else if Mc=1048576 then(kY,14)else(d.set q.toNat ⟨node,Mc+1⟩,0)):=Lib.hid E
 have HZ:=Lib.hid (Iw (d:=d) (q:=q));generalize vX d q Mc node=r at*;generalize aJ d q=a at*;obtain⟨⟨pn,pe⟩,z⟩:=a;obtain⟨⟨n0,e0⟩,⟨n1,e1⟩,⟨n2,e2⟩,⟨n3,e3⟩⟩:=d;unfold QK.val at*
 try simp only at HC⊢
 go_enter func50,ntmps50
 go_wp2_with fail
 refine(HC.out _ (HN.out.on gQ)).mono ?_;rintro e w1 ⟨rfl,hb1⟩;have B0:=((gB.new w _ _).alloc _).below hb1 jQ;have B1:=(gB.new1 w _ _ _).below hb1 iQ;have hz0:w.heap.size<w1.heap.size:=B0.lt;have hz1:w.heap.size+1<w1.heap.size:=B1.lt;have HB1:Hid (Below w.heap.size w w1):=Lib.hid (Below.trans gQ (hb1.mono jQ))
 go_upto_region 2 with fail
 have C0:=B0.alloc (.cells #[.int .i64 pn,.int .i64 pe] 27);have C1:=B1.alloc (.cells #[.int .i64 pn,.int .i64 pe] 27);have C2:=gB.new w1 #[.int .i64 pn,.int .i64 pe] 27;have HB:Hid (Below w.heap.size w (w1.alloc (.cells #[.int .i64 pn,.int .i64 pe] 27))):=Lib.hid (HB1.out.alloc Y _);generalize hw2:w1.alloc (.cells #[.int .i64 pn,.int .i64 pe] 27)=w2 at C0 C1 C2 HB⊢;clear hw2 HB1;obtain⟨c0,c1,c2,c3,c4,c5,c6,c7,cf⟩:=C0.CF;obtain⟨r0,r1,r2,r3,r4,r5,r6,r7,rf⟩:=C1.CF;obtain⟨p0,p1,pf⟩:=C2.vO;have hne1:¬w1.heap.size=w.heap.size:=Y;have hne2:¬w1.heap.size=w.heap.size+1:=Y
 try simp only at HR HZ
 clear hb1;by_cases hz:z=0
 ·obtain⟨q0,q3,_,_,hpl⟩:=HZ.out hz;have hpe:pe<=1048576/\0<=pe:=by
   unfold yS at hpl;simp only at hpl;omega
  obtain⟨pe1,pe2⟩:=hpe;have HR2:=Lib.hid (HR.out.trans (if_neg (by simpa using hz)));subst hz;clear hpl HR;by_cases b1:node<0
  ·have e:=HR2.out;rw[if_pos Y]at e;subst e
   go_wp2_with fail
   refine bodyPost_ret (v:=.tuple #[.agg #[.int .i64 0,.int .i64 0,.int .i64 0,.int .i64 0,.int .i64 0,.int .i64 0,.int .i64 0,.int .i64 0],.int .i64 2]) (by simp[results,results50,go_sem,r0,r1,r2,r3,r4,r5,r6,r7]) E ?_;have hB:=HB.out;exact⟨E,by go_grown⟩
  by_cases b2:5<=node
  ·have e:=HR2.out;rw[if_pos Y]at e;subst e
   go_wp2_with fail
   refine bodyPost_ret (v:=.tuple #[.agg #[.int .i64 0,.int .i64 0,.int .i64 0,.int .i64 0,.int .i64 0,.int .i64 0,.int .i64 0,.int .i64 0],.int .i64 2]) (by simp[results,results50,go_sem,r0,r1,r2,r3,r4,r5,r6,r7]) E ?_;have hB:=HB.out;exact⟨E,by go_grown⟩
  have HR3:=Lib.hid (HR2.out.trans (if_neg Y));clear HR2;by_cases b3:pe=Mc
  ·have HR4:=Lib.hid (HR3.out.trans (if_neg (by simpa using b3)));subst b3;clear HR3;by_cases b4:pn=node
   ·have e:=HR4.out;rw[if_pos b4]at e;subst e;have t4:(pn==node)=true:=by simpa using b4
    clear b4
    go_wp2_with fail
    refine bodyPost_ret (v:=.tuple #[.agg #[.int .i64 0,.int .i64 0,.int .i64 0,.int .i64 0,.int .i64 0,.int .i64 0,.int .i64 0,.int .i64 0],.int .i64 8]) (by simp[results,results50,go_sem,r0,r1,r2,r3,r4,r5,r6,r7]) E ?_;have hB:=HB.out;exact⟨E,by go_grown⟩
   have HR5:=Lib.hid (HR4.out.trans (if_neg b4));have t4:(pn==node)=false:=by simpa using b4
   clear b4 HR4;by_cases b5:pe=1048576
   ·have e:=HR5.out;rw[if_pos b5]at e;subst e;subst b5
    go_wp2_with fail
    refine bodyPost_ret (v:=.tuple #[.agg #[.int .i64 0,.int .i64 0,.int .i64 0,.int .i64 0,.int .i64 0,.int .i64 0,.int .i64 0,.int .i64 0],.int .i64 14]) (by simp[results,results50,go_sem,r0,r1,r2,r3,r4,r5,r6,r7]) E ?_;have hB:=HB.out;exact⟨E,by go_grown⟩
   have e:=HR5.out;rw[if_neg b5]at e;subst e;have t5:(pe==1048576)=false:=by simpa using b5
   clear b5 HR5
   rcases(show q=0\/q=1\/q=2\/q=3 by omega)with rfl|rfl|rfl|rfl
   ·go_wp2_with fail
    refine bodyPost_ret (v:=.tuple #[.agg #[.int .i64 node,.int .i64 (pe+1),.int .i64 n1,.int .i64 e1,.int .i64 n2,.int .i64 e2,.int .i64 n3,.int .i64 e3],.int .i64 0]) (by simp[results,results50,go_sem,r0,r1,r2,r3,r4,r5,r6,r7,c0,c1,c2,c3,c4,c5,c6,c7]) E ?_;have hB:=HB.out;exact⟨E,by go_grown⟩
   ·go_wp2_with fail
    refine bodyPost_ret (v:=.tuple #[.agg #[.int .i64 n0,.int .i64 e0,.int .i64 node,.int .i64 (pe+1),.int .i64 n2,.int .i64 e2,.int .i64 n3,.int .i64 e3],.int .i64 0]) (by simp[results,results50,go_sem,r0,r1,r2,r3,r4,r5,r6,r7,c0,c1,c2,c3,c4,c5,c6,c7]) E ?_;have hB:=HB.out;exact⟨E,by go_grown⟩
   ·go_wp2_with fail
    refine bodyPost_ret (v:=.tuple #[.agg #[.int .i64 n0,.int .i64 e0,.int .i64 n1,.int .i64 e1,.int .i64 node,.int .i64 (pe+1),.int .i64 n3,.int .i64 e3],.int .i64 0]) (by simp[results,results50,go_sem,r0,r1,r2,r3,r4,r5,r6,r7,c0,c1,c2,c3,c4,c5,c6,c7]) E ?_;have hB:=HB.out;exact⟨E,by go_grown⟩
   go_wp2_with fail
   refine bodyPost_ret (v:=.tuple #[.agg #[.int .i64 n0,.int .i64 e0,.int .i64 n1,.int .i64 e1,.int .i64 n2,.int .i64 e2,.int .i64 node,.int .i64 (pe+1)],.int .i64 0]) (by simp[results,results50,go_sem,r0,r1,r2,r3,r4,r5,r6,r7,c0,c1,c2,c3,c4,c5,c6,c7]) E ?_;have hB:=HB.out;exact⟨E,by go_grown⟩
  have e:=HR3.out;rw[if_pos (by simpa using b3)]at e;subst e;have t3:(pe==Mc)=false:=by simpa using b3
  have t3':(pe != Mc)=true:=by simpa using b3
  clear b3
  go_wp2_with fail
  refine bodyPost_ret (v:=.tuple #[.agg #[.int .i64 0,.int .i64 0,.int .i64 0,.int .i64 0,.int .i64 0,.int .i64 0,.int .i64 0,.int .i64 0],.int .i64 15]) (by simp[results,results50,go_sem,r0,r1,r2,r3,r4,r5,r6,r7]) E ?_;have hB:=HB.out;exact⟨E,by go_grown⟩
 have e:=HR.out;rw[if_pos hz]at e;subst e;have t0:(z==0)=false:=by simpa using hz
 have t0':(z != 0)=true:=by simpa using hz
 clear hz
 go_wp2_with fail
 refine bodyPost_ret (v:=.tuple #[.agg #[.int .i64 0,.int .i64 0,.int .i64 0,.int .i64 0,.int .i64 0,.int .i64 0,.int .i64 0,.int .i64 0],.int .i64 z]) (by simp[results,results50,go_sem,r0,r1,r2,r3,r4,r5,r6,r7]) E ?_;have hB:=HB.out;exact⟨E,by go_grown⟩
instance:zJ Ac where
 size:=11
 QF x:=x.QF
 of l:=⟨l.getD 0 0,l.getD 1 0,l.getD 2 0,l.getD 3 0,l.getD 4 0,l.getD 5 0,l.getD 6 0,l.getD 7 0,l.getD 8 0,l.getD 9 0,l.getD 10 0⟩
 pos:=Y
 len _:=rfl
 inv xs h:=by
  obtain⟨a1,xs,rfl⟩:=exists_cons_of_length_eq_add_one h;obtain⟨a2,xs,rfl⟩:=exists_cons_of_length_eq_add_one (Nat.succ.inj h);have h:=Nat.succ.inj (Nat.succ.inj h);obtain⟨a3,xs,rfl⟩:=exists_cons_of_length_eq_add_one h;obtain⟨a4,xs,rfl⟩:=exists_cons_of_length_eq_add_one (Nat.succ.inj h);have h:=Nat.succ.inj (Nat.succ.inj h);obtain⟨a5,xs,rfl⟩:=exists_cons_of_length_eq_add_one h;obtain⟨a6,xs,rfl⟩:=exists_cons_of_length_eq_add_one (Nat.succ.inj h);have h:=Nat.succ.inj (Nat.succ.inj h);obtain⟨a7,xs,rfl⟩:=exists_cons_of_length_eq_add_one h;obtain⟨a8,xs,rfl⟩:=exists_cons_of_length_eq_add_one (Nat.succ.inj h);have h:=Nat.succ.inj (Nat.succ.inj h);obtain⟨a9,xs,rfl⟩:=exists_cons_of_length_eq_add_one h;obtain⟨a10,xs,rfl⟩:=exists_cons_of_length_eq_add_one (Nat.succ.inj h);have h:=Nat.succ.inj (Nat.succ.inj h);obtain⟨a11,xs,rfl⟩:=exists_cons_of_length_eq_add_one h;obtain rfl:=eq_nil_of_length_eq_zero (Nat.succ.inj h);rfl
def ala(x:Ev)(w:World):(binOp .eql 49 (.agg (x.cells).toArray) (.agg (x.cells).toArray)).run prog w=.ok (.bool true) w:=
 afi w (l:=(.at_ (.int .i64):: .at_ (.int .i64):: .at_ (.int .i64):: .at_ (.int .i64):: .at_ (.int .i64):: .at_ (.int .i64)::[])) (by kernel_rfl) (by kernel_rfl) (λxs=>by unfold mkV;rw[underlying49]) ⟨⟨_,E⟩,⟨_,E⟩,⟨_,E⟩,⟨_,E⟩,⟨_,E⟩,⟨_,E⟩,trivial⟩
def Vq{A A':Option Addr}{c c':Nat}{l:List Ev}{w:World}(h:Rd w w.heap.size 6 A l.length (l.flatMap Ev.cells))(h':Rd w w.heap.size 6 A' l.length (l.flatMap Ev.cells))(hm:l.length<=2000):
 Calls prog 13 #[.slice A l.length c,.slice A' l.length c'] w (λe w'=>e=.returned (.int .i64 (l.length:Int))/\Below w.heap.size w w'):=by
 have S:=((St.start w).bV h').bV h;clear h h';refine gP 27 func13 ?_;refine cw [0,1] ?_;refine zN 12 ?_;refine fJ (X:=Nat) (λM=>[(0,.slice A l.length c),(1,.slice A' l.length c'),(5,.int .i64 (M:Int))]) (λM wr=>(M<=l.length)/\St w.heap.size w wr [.rd 6 A l.length ((l).flatMap Ev.cells),.rd 6 A' l.length ((l).flatMap Ev.cells)]) (λM=>l.length-M) (0) ?_ ?_ ?_
 ·exact⟨zero_le _,S⟩
 ·exact⟨E,E,E,trivial⟩
 rintro i w1 ⟨Z,J⟩
 try dsimp only at Z J
 refine bI (l':=[(0,.slice A l.length c),(1,.slice A' l.length c'),(5,.int .i64 (i:Int))]) ⟨E,E,E,trivial⟩ (aQ ?_);by_cases hlt:i<l.length
 ·obtain⟨b4,o5,rfl⟩:=Rd.addr (St.rd 0 J E) (by omega);obtain⟨b6,o7,rfl⟩:=Rd.addr (St.rd 1 J E) (by omega);obtain⟨I,O⟩:=JH i (St.rd 0 J E) (by omega);refine zQ ?_;refine fu J mixed (by kernel_rfl) ?_;refine zN 5 ?_;refine uv (v:=.int .i64 (l.length:Int)) (λ_ _=>(nU (vs:=[.int .i64 (l.length:Int),.int .i64 (l.length:Int)]) E ⟨E,E,trivial⟩ λ_=>by rw[JF,Nat.min_self])) ?_;refine zN 4 ?_;refine ug (v:=.pointer (some ⟨b4,o5+i*6,none⟩)) (λ_ _=>(aM E E E (jP i underlying40 kQ (by omega) (by omega)))) ?_;refine ug (v:=.agg #[.int .i64 I.kind,.int .i64 I.Mr,.int .i64 I.id,.int .i64 I.body,.int .i64 I.MF,.int .i64 I.Nc]) (λ_ aod=>(aj E E (rD (cs:=Ev.cells I) underlying49 E kQ E (Rd.wZ (St.rd 0 aod E) (λ_ _ h=>bE (enc:=Ev.cells) (sz:=6) (λ_=>E) O h))))) ?_;refine zN 2 ?_;refine ug (v:=.pointer (some ⟨b6,o7+i*6,none⟩)) (λ_ _=>(aM E E E (jP i underlying40 kQ (by omega) (by omega)))) ?_;refine ug (v:=.agg #[.int .i64 I.kind,.int .i64 I.Mr,.int .i64 I.id,.int .i64 I.body,.int .i64 I.MF,.int .i64 I.Nc]) (λ_ aBM=>(aj E E (rD (cs:=Ev.cells I) underlying49 E kQ E (Rd.wZ (St.rd 1 aBM E) (λ_ _ h=>bE (enc:=Ev.cells) (sz:=6) (λ_=>E) O h))))) ?_;refine ug (v:=.bool true) (λ_ _=>(bM E E E (C9 (by kernel_rfl) (ala I _)))) ?_;refine zQ ?_;refine eP λV3 tF=>?_;refine zN 7 ?_;refine vv (v:=.int .i64 ((i+1:Nat):Int)) iI ?_;refine zN 3 ?_;refine bC (i+1) ?_ ⟨E,E,E,trivial⟩ (by first|omega|(dsimp only;omega));exact⟨(by omega),tF⟩
 refine zQ ?_;refine fu J mixed (by kernel_rfl) ?_;refine zN 5 ?_;refine uv (v:=.int .i64 (l.length:Int)) (λ_ _=>(nU (vs:=[.int .i64 (l.length:Int),.int .i64 (l.length:Int)]) E ⟨E,E,trivial⟩ λ_=>by rw[JF,Nat.min_self])) ?_;refine zN 12 ?_;refine eP λw39 vS=>?_;refine zN 15 ?_;obtain rfl:i=l.length:=by omega
 exact⟨E,vS.Nr⟩
def Qc{t z:Int}{f:Nat->Bool}:∀ {k:Nat},z∈jG t f k-> ∃j,j<k/\f j=true/\z=t-8+j
 | 0,h=>by simp[jG]at h
 |k+1,h=>by
  unfold jG at h
  split at h
  ·rename_i J
   rcases mem_append.1 h with h|h
   ·obtain⟨j,h1,I⟩:=Qc h;exact⟨j,by omega,I⟩
   rw[mem_singleton]at h;exact⟨k,by omega,J,h⟩
  obtain⟨j,h1,I⟩:=Qc h;exact⟨j,by omega,I⟩
def agX{t:Int}{bs:List Bool}{i:Nat}(hi:i<8):(ad4 t bs).at i=bs.getD i false:=by
 have h:i=0\/i=1\/i=2\/i=3\/i=4\/i=5\/i=6\/i=7:=Y
 rcases h with rfl|rfl|rfl|rfl|rfl|rfl|rfl|rfl<;>rfl
def arq{x:lq}{id:Int}(h:(qI x id).2=0):dO (C8 x id)=0:=by
 obtain⟨h1,h2,h3⟩:=Gx h;have h0:=sJ h1;have J:=aeI h1;have hx:FC x.top x.at=true:=by
  unfold dO at h1
  split at h1
  ·rename_i O
   simp only[Bool.and_eq_true]at O;exact O.1.2
  cases h1
 have Z:(C8 x id).top=max x.top (id+1):=rfl;have M:∀i,i<8->(C8 x id).at i=decide (max x.top (id+1)-8+i∈jG x.top x.at 8++[id]):=λi hi=>by
  unfold C8;rw[agX hi,XZ _ _ _ hi]
 unfold dO;refine if_pos ?_;have hw:FC (C8 x id).top (C8 x id).at=true:=rG.2 λk hk I=>by
  rw[M k hk,decide_eq_true_eq]at I;rw[Z]
  rcases mem_append.1 I with I|I
  ·obtain⟨j,j1,j2,j3⟩:=Qc I;have:=rG.1 hx j j1 j2;omega
  rw[mem_singleton]at I;omega
 have h7:(C8 x id).b7=true:=by
  show(C8 x id).at 7=true
  rw[M 7 Y,decide_eq_true_eq];by_cases c:x.top<=id
  ·rw[show max x.top (id+1)=id+1 by omega];exact mem_append_right _ (by rw[mem_singleton];omega)
  rw[show max x.top (id+1)=x.top by omega];refine mem_append_left _ ?_
  rcases J with⟨h4,_⟩|⟨_,h5,h6⟩
  ·omega
  have:=getLast_mem h5;rw[getLastD_eq_getLast?,getLast?_eq_some_getLast h5,Option.getD_some]at h6;rw[h6]at this;rwa [show x.top-8+((7:Nat):Int)=x.top-1 by omega]
 rw[hw,h7,Z];simp only[Bool.and_true,Bool.or_true,Bool.and_eq_true,decide_eq_true_eq];omega
def alb{x:lq}{id:Int}(h:(jh x id).2.2=0)(h1:(jh x id).2.1=true):dO (jh x id).1=0:=by
 unfold jh at h h1⊢;by_cases c1:(qI x id).2≠0
 ·rw[if_pos c1]at h;exact absurd h c1
 rw[if_neg c1]at h h1⊢;by_cases c2:(qI x id).1=true
 ·rw[if_pos c2]at h1;cases h1
 rw[if_neg c2];exact arq (Classical.not_not.1 c1)
section
variable {ep nx gv p:Int}{rs:List gF}{ls:List Ls}{W:kN}
def Ep:∀ {rs:List gF} {p:Int},ku nx p rs=true↔(∀x∈rs,rH nx x=true/\p<x.no)/\rs.Pairwise λa b=>a.no<b.no
 |[],p=>by simp[ku]
 |m::r,p=>by
  simp only[ku,Bool.and_eq_true,decide_eq_true_eq,Ep (rs:=r),pairwise_cons,mem_cons,forall_eq_or_imp]
  constructor
  ·rintro⟨⟨h1,J⟩,I,M⟩;exact⟨⟨⟨h1,J⟩,λx h=>⟨(I x h).1,Int.lt_trans J (I x h).2⟩⟩,λx h=>(I x h).2,M⟩
  rintro⟨⟨⟨h1,J⟩,I⟩,M,O⟩;exact⟨⟨h1,J⟩,λx h=>⟨(I x h).1,M x h⟩,O⟩
def JZ:∀ {ls:List Ls} {p:Int},lX ep nx gv p ls=true↔(∀x∈ls,rH nx x.Rk=true/\x.fO=ep/\p<x.Nc/\x.Nc<gv)/\ls.Pairwise λa b=>a.Nc<b.Nc
 |[],p=>by simp[lX]
 |m::r,p=>by
  simp only[lX,Mh,Bool.and_eq_true,decide_eq_true_eq,JZ (ls:=r),pairwise_cons,mem_cons,forall_eq_or_imp]
  constructor
  ·rintro⟨⟨h1,O,J,h⟩,M,Z⟩;exact⟨⟨⟨h1,O,J,h⟩,λx I=>⟨(M x I).1,(M x I).2.1,Int.lt_trans J (M x I).2.2.1,(M x I).2.2.2⟩⟩,λx I=>(M x I).2.2.1,Z⟩
  rintro⟨⟨⟨h1,O,J,h⟩,M⟩,Z,h5⟩;exact⟨⟨h1,O,J,h⟩,λx I=>⟨(M x I).1,(M x I).2.1,Z x I,(M x I).2.2.2⟩,h5⟩
def Tt{I:Int}{m:gF}(h:rH nx m=true)(hn:nx<=I):rH I m=true:=by
 have:=xD h;exact decide_eq_true Y
def Rp(h:R8 ep nx gv rs ls)(h1:zM W)(I:ku nx (-1) rs=true)(J:lX ep nx gv (-1) ls=true)(M:(oh rs ls).Nodup):gy ep nx gv rs ls W=0:=by
 unfold gy;rw[if_neg (λe=>e h),if_neg (λe=>e h1),if_pos ⟨I,J,M⟩]
def agY{k:Nat}{y:lq}(h:zM W)(M:dO y=0)(hk:k<4):zM (W.put k y):=λj hj=>by
 have O:=h 0 Y;have h1:=h 1 Y;have Z:=h 2 Y;have h3:=h 3 Y;have I:k=0\/k=1\/k=2\/k=3:=Y;have J:j=0\/j=1\/j=2\/j=3:=Y
 rcases I with rfl|rfl|rfl|rfl<;>rcases J with rfl|rfl|rfl|rfl<;>first|exact M|exact O|exact h1|exact Z|exact h3
def Kz{m:gF}:∀ {l:List gF},(kC m l).Perm (m::l)
 |[]=>.refl _
 |x::l=>by
  unfold kC
  split
  ·exact .refl _
  exact((Kz (l:=l)).cons x).trans (.swap m x l)
def Z0{m:gF}:∀ {l:List gF},rJ l->rJ (kC m l)
 |[],_=>pairwise_singleton _ _
 |x::l,h=>by
  obtain⟨h1,J⟩:=pairwise_cons.1 h;unfold kC
  split
  ·rename_i M
   refine pairwise_cons.2 ⟨λy I=>?_,h⟩
   rcases mem_cons.1 I with rfl|I
   ·omega
   have:=h1 y I;omega
  rename_i M
  refine pairwise_cons.2 ⟨λy I=>?_,Z0 J⟩
  rcases mem_cons.1 (Kz.mem_iff.1 I)with rfl|I
  ·omega
  exact h1 y I
def OG:∀(ls:List Ls) (rs:List gF),(ls.foldl (λl x=>kC x.Rk l) rs).Perm (rs++ls.map (·.Rk))
 |[],rs=>by simp
 |x::ls,rs=>by
  refine(OG ls (kC x.Rk rs)).trans ?_;refine(Kz.append_right _).trans ?_;rw[map_cons];exact(perm_middle).symm
def Tv:∀(ls:List Ls) (rs:List gF),rJ rs->rJ (ls.foldl (λl x=>kC x.Rk l) rs)
 |[],rs,h=>h
 |x::ls,rs,h=>Tv ls _ (Z0 h)
def YD{l:List gF}(h:rJ l)(hn:(l.map (·.no)).Nodup):l.Pairwise λa b=>a.no<b.no:=by
 have I:l.Pairwise λa b=>a.no≠b.no:=pairwise_map.1 hn;exact(h.and I).imp λh=>by omega
end
def agZ{Q:Qd}{e:Ev}(h:Q.Rj=0)(he:aZ e=0):(Nu Q e).1.Rj=0:=by
 obtain⟨hr,hw,h2,h3,M⟩:=P8 h;have hp:=ZG he;obtain⟨ep,nx,gv,rs,ls,W⟩:=Q;dsimp only at hr hw h2 h3 M;obtain⟨r1,r2,r3,r4,r5,r6,r7⟩:=hr;obtain⟨a1,a2⟩:=Ep.1 h2;obtain⟨b1,b2⟩:=JZ.1 h3;unfold Nu
 split
 ·unfold BU
  split
  ·exact h
  split
  ·exact h
  split
  ·exact h
  rename_i k1 k2 k3 k4
  dsimp only at k2 k3 k4⊢;have hlt:∀z∈oh rs ls,z<nx:=λz Z=>by
   unfold oh at Z
   rcases mem_append.1 Z with Z|Z
   ·obtain⟨x,I,rfl⟩:=mem_map.1 Z;exact(xD (a1 x I).1).2.1
   obtain⟨x,I,rfl⟩:=mem_map.1 Z;exact(xD (b1 x I).1).2.1
  have hbd:0<=e.body/\e.body<=1000000:=by
   unfold aZ at he
   repeat' split at he
   all_goals first
    |(cases he;done)
    |(simp only[kL,Bool.and_eq_true,decide_eq_true_eq,not_and,Classical.not_not]at*;omega)
  show gy ep (nx+1) gv (rs++[⟨nx,e.body⟩]) ls (W.put e.Mr.toNat (jh (W.at e.Mr.toNat) e.id).1)=0
  refine Rp ⟨r1,r2,by omega,by omega,r5,r6,by rw[length_append,length_singleton];omega⟩ (agY hw (alb (Classical.not_not.1 k2) (by simpa using k3)) Y) (Ep.2 ⟨λx I=>?_,?_⟩) (JZ.2 ⟨λx I=>⟨Tt (b1 x I).1 Y,(b1 x I).2⟩,b2⟩) ?_
  ·rcases mem_append.1 I with I|I
   ·exact⟨Tt (a1 x I).1 Y,(a1 x I).2⟩
   rw[mem_singleton]at I;subst I;exact⟨decide_eq_true uQ,by dsimp only;omega⟩
  ·refine pairwise_append.2 ⟨a2,pairwise_singleton _ _,λx I y O=>?_⟩;rw[mem_singleton]at O;subst O;exact hlt _ (mem_append_left _ (mem_map_of_mem I))
  have:(oh (rs++[⟨nx,e.body⟩]) ls).Perm (nx::oh rs ls):=by
   unfold oh;rw[map_append,append_assoc];exact perm_middle
  exact this.nodup_iff.2 (nodup_cons.2 ⟨λhm=>by have:=hlt _ hm;omega,M⟩)
 split
 ·unfold GA;dsimp only
  split
  ·exact h
  rename_i m rest
  split
  ·exact h
  rename_i k1
  obtain⟨a3,a4⟩:=pairwise_cons.1 a2;have hm:=a1 m iQ
  show gy ep nx (gv+1) rest (ls++[⟨ep,gv,m⟩]) W=0
  refine Rp ⟨r1,r2,r3,r4,by omega,by omega,by rw[length_append,length_singleton];rw[length_cons]at r7;omega⟩ hw (Ep.2 ⟨λx I=>a1 x (by simp[I]),a4⟩) (JZ.2 ⟨λx I=>?_,?_⟩) ?_
  ·rcases mem_append.1 I with I|I
   ·have:=b1 x I;exact⟨this.1,this.2.1,this.2.2.1,by omega⟩
   rw[mem_singleton]at I;subst I;exact⟨hm.1,E,by dsimp only;omega,by dsimp only;omega⟩
  ·refine pairwise_append.2 ⟨b2,pairwise_singleton _ _,λx I y O=>?_⟩;rw[mem_singleton]at O;subst O;exact(b1 x I).2.2.2
  refine(Perm.nodup_iff ?_).1 M;unfold oh;rw[map_cons,map_append,cons_append,<-append_assoc];exact(perm_append_comm (l₁:=[m.no]) (l₂:=rest.map (·.no)++ls.map (·.Rk.no)))
 split
 ·unfold EL;dsimp only
  split
  ·exact h
  split
  ·exact h
  have J:(ls.filter λx=>decide (x.Nc≠e.Nc)).Sublist ls:=filter_sublist
  show gy ep nx gv rs (ls.filter λx=>decide (x.Nc≠e.Nc)) W=0
  refine Rp ⟨r1,r2,r3,r4,r5,r6,by have:=J.length_le;omega⟩ hw h2 (JZ.2 ⟨λx I=>b1 x (J.subset I),b2.sublist J⟩) ?_;unfold oh at M⊢;exact M.sublist ((Sublist.refl _).append (J.map _))
 unfold EM;dsimp only
 split
 ·exact h
 have hP:=OG ls rs;have hlen:=hP.length_eq;rw[length_append,length_map]at hlen;have hnn:((ls.foldl (λl x=>kC x.Rk l) rs).map (·.no)).Nodup:=by
  refine((hP.map (·.no)).nodup_iff).2 ?_;unfold oh at M;rw[map_append,map_map];exact M
 show gy (ep+1) nx 0 (ls.foldl (λl x=>kC x.Rk l) rs) [] W=0
 refine Rp ⟨by omega,by omega,r3,r4,by omega,by omega,by rw[length_nil];omega⟩ hw (Ep.2 ⟨λx I=>?_,YD (Tv ls rs (a2.imp λh=>Int.le_of_lt h)) hnn⟩) E ?_
 ·rcases mem_append.1 (hP.mem_iff.1 I)with I|I
  ·exact a1 x I
  obtain⟨y,O,rfl⟩:=mem_map.1 I;have:=(b1 y O).1;exact⟨this,by have:=xD this;omega⟩
 unfold oh;rw[map_nil,append_nil];exact hnn
def ars{Q:Qd}{e:Ev}(h:(iO Q e).2.2.2=0):(iO Q e).1.Rj=0:=by
 by_cases c1:Q.Rj=0
 ·by_cases c2:aZ e=0
  ·rw[zq c1 c2];exact agZ c1 c2
  rw[QO c1 c2]at h;exact absurd h c2
 rw[ML c1]at h;exact absurd h c1
def acg:dV.Rj=0:=by
 refine Rp ⟨by decide,by decide,by decide,by decide,by decide,by decide,by decide⟩ (λj I=>?_) E E nodup_nil;have h:j=0\/j=1\/j=2\/j=3:=Y
 rcases h with rfl|rfl|rfl|rfl<;>decide
section
open ChangeAt
def pW:Char:=Char.ofNat 32
def Vr(b:List Char):wordsSigns (pW::b)=[]::wordsSigns b:=rfl
def yZ:∀(a b:List Char),a.all (λc=> !(c==pW))=true->wordsSigns (a++pW::b)=a::wordsSigns b
 |[],b,_=>Vr b
 |c::a,b,h=>by
  simp only[all_cons,Bool.and_eq_true,Bool.not_eq_true',beq_eq_false_iff_ne]at h;have I:=yZ a b h.2;rw[cons_append,wordsSigns,I];intro e;exact h.1 e
def YE{l:List Char}(h1:l.take 8= "harness".toList++[pW])(h:((l.drop 8).take 64).all (λc=> !(c==pW))=true)(J:(l.drop 72).take 5=[pW]++("cut".toList++[pW])):
 ∃s rest,s=(l.drop 8).take 64/\wordsSigns l= "harness".toList::s:: "cut".toList::rest:=by
 refine⟨_,wordsSigns (l.drop 77),E,?_⟩;generalize hs:(l.drop 8).take 64=s at h;have I:l= "harness".toList++pW::(s++pW::("cut".toList++pW::l.drop 77)):=by
  have a1:l.take 8++l.drop 8=l:=take_append_drop 8 l;have a2:(l.drop 8).take 64++(l.drop 8).drop 64=l.drop 8:=take_append_drop 64 _;have a3:(l.drop 72).take 5++(l.drop 72).drop 5=l.drop 72:=take_append_drop 5 _;rw[drop_drop]at a2 a3;rw[J]at a3;rw[h1]at a1;rw[hs]at a2
  calc l=_:=a1.symm
   _=_:=by rw[<-a2,show 8+64=72 from E,<-a3];simp
 generalize l.drop 77=r at I;rw[I,yZ _ _ dQ,yZ _ _ h,yZ _ _ dQ]
def OH(rest:List (List Char)):stripLifts liftWords ("cut".toList::rest)=([], "cut".toList::rest):=by
 unfold liftWords
 repeat (rw[stripLifts,if_neg dQ])
 rw[stripLifts]
section
variable {P:Program}{s:List Char}{rest:List (List Char)}(hw:wordsSigns P.initOrder.toList= "harness".toList::s:: "cut".toList::rest)(hs:isSumSigns s=true)
include hw hs
def za:behindMainWord (wordsSigns P.initOrder.toList)= "cut".toList::rest:=by
 rw[hw,behindMainWord,if_pos (by rw[hs];decide)]
def afx(h1:P.laysLater=false)(h:P.bearsReflect=false)(I:P.doorFits []=true):P.mayEnter=true:=by
 unfold Program.mayEnter;rw[za hw hs];simp only;rw[OH];simp only[h1,h];rw[I];simp
def abK:P.headLifts=[]:=by
 unfold Program.headLifts;rw[za hw hs,OH];rfl
def aa6:P.liftsFinal=false:=by
 unfold Program.liftsFinal;rw[abK hw hs,za hw hs];simp only[head?_cons];rw[show(some "cut".toList==some "carried".toList)=false by decide]
 rfl
def ag0:P.make=some .cut:=by
 unfold Program.make;rw[za hw hs];simp only;rw[if_neg dQ,if_pos (by rw[show("cut".toList== "cut".toList)=true by decide];rfl)]
end
def ag1{P:Program}{s t:List Char}{rest:List (List Char)}(hw:wordsSigns P.initOrder.toList= "harness".toList::s::rest)(hs:isSumSigns s=true)(e:s=t):P.mainIs=some (true,t):=by
 subst e;unfold Program.mainIs;rw[hw];simp[hs]
def Qe(P:Program)(f:FuncId)(fn:Func)(s:ChangeSpec)(c:OpenClaim):Bool:=
 c.wf (OpenSpec.ofChange s)&&laidOutB P&&mapsRowed P&&
 fn.params.all (P.readableRec ·)&&namedTie P c.named s.vars&&
 (c.stops==[])&&(P.stops==[])&&(c.knobs==[])&&(P.stopKnobs==[])&&
 (c.inPlace==P.inPlace f)&&(c.unfollowed==P.unfollowed f)&&(c.recurses==P.recurses f)&&(c.named==P.varsNamed f)&&
 (c.maps==(fn.params.toList++s.plain.varTypes P).any (P.mapsRec ·))&&(c.ifaces==(fn.params.toList++s.plain.varTypes P).any (P.ifacesRec ·))&&(c.mapsOut==P.mapsAmong fn.resultTypes.toList)&&
 (c.loops==(fn.params.toList++s.plain.varTypes P).any (P.loopsFrom ·))&&(c.wideKeys==(fn.params.toList++s.plain.varTypes P++fn.resultTypes.toList).any (P.wideKeysFrom ·))&&
 s.vars.all (P.varReadable ·)&&fn.resultTypes.all (λt=>P.readableRec t&&decide (t<P.types.size))&&(c.ifacesOut==fn.resultTypes.toList.any (P.ifacesRec ·))&&(c.loopsOut==fn.resultTypes.toList.any (P.loopsFrom ·))&&(c.plainKeys==P.plainKeys)&&c.shortTexts.isNone&&P.stopsHeard
def ach{P:Program}{f:FuncId}{fn:Func}{s:ChangeSpec}{c:OpenClaim}(h:Qe P f fn s c=true)(h1:P.mayEnter=true)(I:(c.lifted==P.liftsFinal)=true)(J:(P.make==some c.make)=true)
  (M:((c.kinds==(if c.domain.isEmpty then[]else fn.params.toList.map λt=>match P.underlying t with|some (.int k)=>some k|_=>none))&&(c.pinned==c.pinnedBy)&&
   (c.veiled==(fn.params.toList++s.plain.varTypes P++fn.resultTypes.toList).any (P.veiledRec ·))&&c.veiledFits P fn.params.toList (fn.params.toList++s.plain.varTypes P++fn.resultTypes.toList))=true):joinedFacts P f fn s c=true:=by
 have e:joinedFacts P f fn s c=(Qe P f fn s c&&P.mayEnter&&(c.lifted==P.liftsFinal)&&(P.make==some c.make)&&(c.kinds==(if c.domain.isEmpty then[]else fn.params.toList.map λt=>match P.underlying t with|some (.int k)=>some k|_=>none))&&(c.pinned==c.pinnedBy)&&
   (c.veiled==(fn.params.toList++s.plain.varTypes P++fn.resultTypes.toList).any (P.veiledRec ·))&&c.veiledFits P fn.params.toList (fn.params.toList++s.plain.varTypes P++fn.resultTypes.toList)):=rfl
 rw[e,h,h1,I,J];simpa using M
def aci:∃l:List Char,prog.initOrder.toList=l/\l.take 8= "harness".toList++[pW]/\((l.drop 8).take 64).all (λc=> !(c==pW))=true/\(l.drop 72).take 5=[pW]++("cut".toList++[pW])/\isSumSigns ((l.drop 8).take 64)=true/\(l.drop 8).take 64= "6fe912de042e0117d9696fbd5412dddc085af7f5c1166ba28784109a3e82b126".toList:=by
 rw[show prog.initOrder=tables.initOrder by kernel_rfl];unfold tables;simp only[];exact⟨_,String.toList_ofList,by kernel_rfl,by kernel_rfl,by kernel_rfl,by kernel_rfl,by kernel_rfl⟩
def Cm:∃s rest,wordsSigns prog.initOrder.toList= "harness".toList::s:: "cut".toList::rest/\isSumSigns s=true/\s= "6fe912de042e0117d9696fbd5412dddc085af7f5c1166ba28784109a3e82b126".toList:=by
 obtain⟨l,e,h1,h,I,J,M⟩:=aci;obtain⟨s,rest,es,hw⟩:=YE h1 h I;subst es;exact⟨_,rest,by rw[e];exact hw,J,M⟩
def YF:prog.laysLater=false:=kQ
def afy:prog.bearsReflect=false:=kQ
def YG:prog.doorFits []=true:=kQ
def YH:prog.mayEnter=true:=by
 obtain⟨s,rest,hw,hs,_⟩:=Cm;exact afx hw hs YF afy YG
def YI:(false==prog.liftsFinal)=true:=by
 obtain⟨s,rest,hw,hs,_⟩:=Cm;rw[aa6 hw hs];rfl
def acj:(prog.make==some .cut)=true:=by
 obtain⟨s,rest,hw,hs,_⟩:=Cm;rw[ag0 hw hs]
 decide
def acn:prog.mainIs=some (true, "6fe912de042e0117d9696fbd5412dddc085af7f5c1166ba28784109a3e82b126".toList):=by
 obtain⟨s,rest,hw,hs,e⟩:=Cm;exact ag1 hw hs e
def YJ:true=Tryz.pinned.checked.prog.looks []:=kQ
end
end Go.Proofs.YtefabpdniidmbaaGreatDoor
