import Derived.Test.YtefabpdniidmbaaGreatDoorG0ec74
import Derived.Test.YtefabpdniidmbaaGreatDoorGa0c93
set_option linter.all false
set_option maxRecDepth 100000
set_option maxHeartbeats 8000000
namespace Go.Proofs.YtefabpdniidmbaaGreatDoor
open List Nat Go.Proofs.Tryz
section
open ChangeShapes WideShapes RowKit
def qo (l:List UInt8):Int:=l.foldl (λs c=>s*256+(c.toNat:Int)) 0
def abQ (l:List UInt8)(c:UInt8):qo (l++[c])=qo l*256+c.toNat:=by simp[qo]
def akA:∀(l:List UInt8),l.length<=4->0<=qo l/\qo l<=4294967295
 |[],_=>by simp[qo]
 |[a],_=>by have:=u8_in a;simp[qo];omega
 |[a,b],_=>by have:=u8_in a;have:=u8_in b;simp[qo];omega
 |[a,b,c],_=>by have:=u8_in a;have:=u8_in b;have:=u8_in c;simp[qo];omega
 |[a,b,c,d],_=>by have:=u8_in a;have:=u8_in b;have:=u8_in c;have:=u8_in d;simp[qo];omega
 |_::_::_::_::_::_,h=>by simp at h
def CY:cB×Nat:=(qg,0)
def cO (b:List UInt8):Nat:=match b with
 |x::y::_=>x.toNat*256+y.toNat
 |_=>0
def firstM (b:List UInt8):cB×Nat:=
 if b.length<2 then CY else if b.length<cO b+6 then CY else if qo ((b.drop (2+cO b)).take 4)≠zT (b.take (2+cO b))then CY
 else if (tu ((b.drop 2).take (cO b))).2≠0 then CY else((tu ((b.drop 2).take (cO b))).1,cO b+6)
section
variable {b:List UInt8}
def zw (h:b.length<2):firstM b=CY:=if_pos h
def K9 (h:¬b.length<2)(h1:b.length<cO b+6):firstM b=CY:=by unfold firstM;rw[if_neg h,if_pos h1]
def Ym (h:¬b.length<2)(h1:¬b.length<cO b+6)(I:qo ((b.drop (2+cO b)).take 4)≠zT (b.take (2+cO b))):firstM b=CY:=by unfold firstM;rw[if_neg h,if_neg h1,if_pos I]
def Yn (h:¬b.length<2)(h1:¬b.length<cO b+6)(I:qo ((b.drop (2+cO b)).take 4)=zT (b.take (2+cO b)))(J:(tu ((b.drop 2).take (cO b))).2≠0):firstM b=CY:=by
 unfold firstM;rw[if_neg h,if_neg h1,if_neg (by simpa using I),if_pos J]
def Og (h:¬b.length<2)(h1:¬b.length<cO b+6)(I:qo ((b.drop (2+cO b)).take 4)=zT (b.take (2+cO b)))(J:(tu ((b.drop 2).take (cO b))).2=0):firstM b=((tu ((b.drop 2).take (cO b))).1,cO b+6):=by
 unfold firstM;rw[if_neg h,if_neg h1,if_neg (by simpa using I),if_neg (by simpa using J)]
def xQ:(firstM b).2<=b.length:=by
 unfold firstM CY
 split
 ·exact zero_le _
 split
 ·exact zero_le _
 split
 ·exact zero_le _
 split
 ·exact zero_le _
 simp;omega
def aqK {x y:UInt8}(I:b[0]? =some x)(h:b[1]? =some y):cO b=x.toNat*256+y.toNat:=by
 match b,I,h with
 |x'::J::r,I,h=>
  simp at I h;subst I;subst h;rfl
 |[_],_,h=>simp at h
end
def qM:Nat->List UInt8->List cB×Nat
 | 0,_=>([],0)
 |f+1,b=>if (firstM b).2=0 then([],0)else((firstM b).1::(qM f (b.drop (firstM b).2)).1,(firstM b).2+(qM f (b.drop (firstM b).2)).2)
def Ic:∀(f g:Nat) (b:List UInt8),b.length<f->b.length<g->qM f b=qM g b
 | 0,_,b,h,_=>absurd h Y
 |_,0,b,_,h=>absurd h Y
 |f+1,g+1,b,hf,hg=>by
  unfold qM;by_cases h:(firstM b).2=0
  ·rw[if_pos h,if_pos h]
  rw[if_neg h,if_neg h,Ic f g _ (by rw[length_drop];have:= @xQ b;omega) (by rw[length_drop];have:= @xQ b;omega)]
def bS (b:List UInt8):List cB×Nat:=qM (b.length+1) b
def Ie {b:List UInt8}(h:(firstM b).2=0):bS b=([],0):=by unfold bS qM;rw[if_pos h]
def Oh {b:List UInt8}(h:¬(firstM b).2=0):bS b=((firstM b).1::(bS (b.drop (firstM b).2)).1,(firstM b).2+(bS (b.drop (firstM b).2)).2):=by
 unfold bS;rw[qM,if_neg h,Ic b.length ((b.drop (firstM b).2).length+1) _ (by rw[length_drop];have:= @xQ b;omega) Y]
def Oi:∀(f:Nat) (b:List UInt8),(qM f b).2<=b.length/\(qM f b).1.length<=b.length
 | 0,b=>by simp[qM]
 |f+1,b=>by
  unfold qM
  split
  ·simp
  rename_i h
  have h1:=Oi f (b.drop (firstM b).2);rw[length_drop]at h1;have I:= @xQ b;simp;omega
def uI (l:List UInt8)(s:Int):List cB×Nat×Int:=if dw l s=true then((bS l).1,(bS l).2,0)else([],0,6)
def cB.cells (r:cB):List Value:=[D r.kind,D r.queue,D r.epoch,D r.peer,D r.ev.kind,D r.ev.producer,D r.ev.id,D r.ev.body,D r.ev.aN,D r.ev.hno]
def agv (w:World)(r:List cB×Nat×Int)(e:Ending)(w':World):Prop:=
 ∃A c,e=.returned (.tuple #[.slice A r.1.length c,D (r.2.1:Int),D r.2.2])/\St w.heap.size w w' [.own 138 10 (.slice A r.1.length c) r.1.length (r.1.flatMap cB.cells)]
def Mc (x:UInt8):List Value:=[.int .u8 x.toNat]
def Tg (l:List UInt8):byteCells l=l.flatMap Mc:=by
 induction l with
 |nil=>rfl
 |cons a l h=>rw[flatMap_cons,<-h];rfl
def atK {w:World}{B:Nat}{A:Option Addr}{n:Nat}{l:List UInt8}(h:Rd w B 1 A n (byteCells l)):Rd w B 1 A n (l.flatMap Mc):=Tg l▸h
def an0 {w:World}{B:Nat}{A:Option Addr}{n:Nat}{l:List UInt8}(h:Rd w B 1 A n (l.flatMap Mc)):Rd w B 1 A n (byteCells l):=(Tg l).symm▸h
def aeJ {l:List UInt8}:(l.take 4).take 4=l.take 4:=by simp[take_take]
def abR {l:List UInt8}{k:Nat}{x:UInt8}(h:l[k]? =some x):qo (l.take k)*256+(x.toNat:Int)=qo (l.take (k+1)):=by
 rw[take_add_one,h,<-abQ];rfl
def abS (w:World)(r:cB×Nat)(e:Ending)(w':World):Prop:=e=.returned (.tuple #[r.1.val,D (r.2:Int)])/\Below w.heap.size w w'
def Vg (A:Option Addr) (c:Nat) (b:List UInt8) (w:World) (h:Rd w w.heap.size 1 A b.length (byteCells b)) (hn:b.length<=c) (hcm:c<=9223372036854775807) (hb:b.length<=100000):
    Calls prog 58 #[.slice A b.length c] w (abS w (firstM b)):=by
 have S:=(St.start w).bX (atK h);refine gK 69 func58 ?_;refine cw [0] ?_;refine zN 2 ?_;refine gB S wY ?_;intro b1 w2 S3;refine zN 8 ?_;by_cases h4:((b.length:Nat):Int)<2
 ·refine zN 7 ?_;refine sa 0 S3 kQ ?_;intro w5 S6;refine zN 6 ?_;exact⟨by rw[zw Y];rfl,S6.low⟩
 refine zN 7 ?_;refine iD S3 mixed kQ ?_;refine zQ ?_;obtain⟨b8,o9,rfl⟩:=Rd.addr (St.rd 1 S3 E) Y;obtain⟨I,atL⟩:=KQ 0 (St.rd 1 S3 E) Y;refine uv (λ_ _=>kZ 0) ?_;refine uv (v:=.int .u8 ((I).toNat:Int)) (λ_ R6=>(au E E (aK (Rd.cl2 (i:=0) (St.rd 1 R6 E) (dh (enc:=Mc) (sz:=1) (λ_=>E) atL E))))) ?_;refine uv (v:=D ((I).toNat:Int)) (λ_ _=>(Gd E E (PI (a:=I) E kQ))) ?_;have aJK:=u8_in I;refine uv (v:=D (((I).toNat:Int)*256)) (λ_ _=>(bC E E E (aeb E Y Y))) ?_;refine uv (v:=D (2+(((I).toNat:Int)*256))) (λ_ _=>jc) ?_;refine zQ ?_;obtain⟨M,atM⟩:=KQ 1 (St.rd 1 S3 E) Y;refine uv (λ_ _=>kZ 1) ?_;refine uv (v:=.int .u8 ((M).toNat:Int)) (λ_ Gt=>(au E E (aK (Rd.cl2 (i:=0) (St.rd 1 Gt E) (dh (enc:=Mc) (sz:=1) (λ_=>E) atM E))))) ?_;refine uv (v:=D ((M).toNat:Int)) (λ_ _=>(Gd E E (PI (a:=M) E kQ))) ?_;have aJL:=u8_in M;have aJM:=aqK atL atM;have aJN:cO b<=65535:=Y;refine uv (v:=D ((2+cO b:Nat):Int)) (λ_ _=>(bC E E E (by rw[show((2+cO b:Nat):Int)=2+(((I).toNat:Int)*256)+((M).toNat:Int) by omega];exact Mk Y Y))) ?_;refine zQ ?_;refine iH λZu uD=>?_;refine zN 7 ?_;refine vv (v:=D (((2+cO b)+4:Nat):Int)) jc ?_;by_cases h30:((b.length:Nat):Int)< (((2+cO b)+4:Nat):Int)
 ·refine zN 7 ?_;refine sa 0 uD kQ ?_;intro w31 uW;refine zN 6 ?_;exact⟨by rw[K9 Y Y];rfl,uW.low⟩
 refine zN 17 ?_;refine vv (v:=D (((2+cO b)+4:Nat):Int)) jc ?_;refine zQ ?_;refine vv (v:=D (((2+cO b)+4:Nat):Int)) jc ?_;obtain⟨A33,aA4,O⟩:=NC (b:=b) (c:=c) (lo:=(some (D ((2+cO b:Nat):Int)))) (hi:=(some (D (((2+cO b)+4:Nat):Int)))) (mx:=(some (D (((2+cO b)+4:Nat):Int)))) (l:=2+cO b) (k:=2+cO b+4) (q:=2+cO b+4) (m:=4) (c':=4) underlying99 kQ (aea (2+cO b) (2+cO b+4) (2+cO b+4) E E E Y Y Y) (an0 (show Rd _ _ _ _ _ _ from uD.all 1 _ E)) Y Y Y Y Y
 replace O:Rd _ _ _ _ _ (((b.drop (2+cO b)).take 4).flatMap Mc):=atK O
 have sU:=uD.bX O;refine vv (v:=.slice A33 4 4) (jY E E (jv E) (jv E) (jv E) (aA4 _)) ?_;refine zN 5 ?_;refine fO (X:=Nat) (λxv=>[(0,.slice (some ⟨b8,o9,none⟩) b.length c),(2,.pointer (some ⟨b1,0,none⟩)),(3,D 0),(4,D ((2+cO b:Nat):Int)),(37,.slice A33 4 4),(38,D 4),(5,D (qo (((b.drop (2+cO b)).take 4).take xv))),(39,D ((xv:Nat):Int))]) (λxv wr=>(xv<=4)/\St w.heap.size w wr [.rd 1 A33 4 (((b.drop (2+cO b)).take 4).flatMap Mc),.blk b1 #[D 0,D 0,D 0,D 0,D 0,D 0,D 0,D 0,D 0,D 0] 138,.rd 1 (some ⟨b8,o9,none⟩) b.length ((b).flatMap Mc)]) (λxv=>4-xv) (0) ?_ ?_ ?_
 ·exact⟨zero_le _,sU⟩
 ·exact VH
 rintro k ZE ⟨Sc,J⟩
 try dsimp only at Sc J
 refine bH (l':=[(0,.slice (some ⟨b8,o9,none⟩) b.length c),(2,.pointer (some ⟨b1,0,none⟩)),(3,D 0),(4,D ((2+cO b:Nat):Int)),(37,.slice A33 4 4),(38,D 4),(5,D (qo (((b.drop (2+cO b)).take 4).take k))),(39,D ((k:Nat):Int))]) VH (aM (av ?_));by_cases h40:((k:Nat):Int)<4
 ·refine zN 11 ?_;obtain⟨b41,o42,rfl⟩:=Rd.addr (St.rd 0 J E) Y;obtain⟨x43,atN⟩:=KQ k (St.rd 0 J E) Y;refine vv (kZ k) ?_;refine vv (au E E (aK (Rd.cl2 (i:=0) (St.rd 0 J E) (dh (enc:=Mc) (sz:=1) (λ_=>E) atN E)))) ?_;refine zN 5 ?_;have aJO:=akA (((b.drop (2+cO b)).take 4).take k) jQ;refine vv (v:=D (qo (((b.drop (2+cO b)).take 4).take k)*256)) (bC E E E (aeb E Y Y)) ?_;refine zQ ?_;refine vv (v:=D ((x43).toNat:Int)) (Gd E E (PI (a:=x43) E kQ)) ?_;have aJP:=u8_in x43;refine vv (v:=D (qo (((b.drop (2+cO b)).take 4).take k)*256+((x43).toNat:Int))) (bC E E E (avf E Y Y Y Y)) ?_;refine zN 5 ?_;refine vv (v:=D ((k+1:Nat):Int)) jc ?_;refine zN 2 ?_;refine bQ (k+1) ?_ ⟨E,E,E,E,E,E,(aoU (abR atN)),E,trivial⟩ (by first|omega|(dsimp only;omega));exact⟨Y,J⟩
 refine zN 16 ?_;obtain⟨MU,aA5,Z⟩:=NC (b:=b) (c:=c) (lo:=none) (hi:=(some (D ((2+cO b:Nat):Int)))) (mx:=none) (l:=0) (k:=2+cO b) (q:=c) (m:=2+cO b) (c':=c) underlying99 kQ (ayN (2+cO b) E Y) (an0 (show Rd _ _ _ _ _ _ from J.all 2 _ E)) Y Y Y Y Y
 replace Z:Rd _ _ _ _ _ (byteCells (b.take (2+cO b))):=Z
 have xL:=J.bX Z;refine vv (v:=.slice MU (2+cO b) c) (jY E E nW (jv E) nW (aA5 _)) ?_;refine dO eQ (NY _ _ _ (b.take (2+cO b)) _ (St.rd 0 xL E) Y) ?_;rintro _ w51 ⟨rfl,q53,rfl⟩;refine⟨_,E,?_⟩;have o8:=xL.drewN q53;obtain rfl:k=4:=Y;by_cases h54:qo ((b.drop (2+cO b)).take 4)=zT (b.take (2+cO b))
 ·refine vv (v:=.bool false) (bC E E E (PD (by rw[aeJ];exact h54))) ?_;refine zN 9 ?_;obtain⟨A55,aA6,an1⟩:=NC (b:=b) (c:=c) (lo:=(some (D 2))) (hi:=(some (D ((2+cO b:Nat):Int)))) (mx:=none) (l:=2) (k:=2+cO b) (q:=c) (m:=cO b) (c':=c-2) underlying99 kQ (WJ 2 (2+cO b) E E Y Y) (an0 (show Rd _ _ _ _ _ _ from o8.all 3 _ E)) Y Y Y Y Y
  replace an1:Rd _ _ _ _ _ (byteCells ((b.drop 2).take (cO b))):=an1
  have Du:=o8.bX an1;refine vv (v:=.slice A55 (cO b) (c-2)) (jY E E (jv E) (jv E) nW (aA6 _)) ?_;refine cab eQ Du (QT A55 (cO b) (c-2) ((b.drop 2).take (cO b)) _ (St.rd 0 Du E) Y (by unfold maxLen;omega)) ?_;intro w59 VT;refine zN 3 ?_;refine gB VT wY ?_;intro b62 w63 S64;refine sa 0 S64 kQ ?_;intro w65 Hz;refine zN 7 ?_;by_cases CF:(tu ((b.drop 2).take (cO b))).2=0
  ·refine zN 10 ?_;refine vv (v:=D (((2+cO b)+4:Nat):Int)) jc ?_;refine sa 4 Hz kQ ?_;intro w68 Ak;refine zN 5 ?_;exact⟨by rw[Og Y Y h54 CF];exact congrArg Ending.returned (by show Value.tuple #[_,D _]=Value.tuple #[_,D _];rw[show((2+cO b+4:Nat):Int)=((cO b+6:Nat):Int) by omega];rfl),Ak.low⟩
  refine zN 7 ?_;refine sa 4 Hz kQ ?_;intro w70 sS;refine zN 6 ?_;exact⟨by rw[Yn Y Y h54 CF];rfl,sS.low⟩
 refine vv (v:=.bool true) (bC E E E (Y5 (by rw[aeJ];exact h54))) ?_;refine zN 6 ?_;refine sa 2 o8 kQ ?_;intro w72 tV;refine zN 6 ?_;exact⟨by rw[Ym Y Y h54];rfl,tV.low⟩
def Oj {w:World}{base:Nat}{e:TypeId}{size:Nat}{A:Option Addr}{n c:Nat}{xs:List Value}(h:w.ownsRow base e size (.slice A n c) n xs):n<=c/\c<=maxLen:=by
 obtain⟨A',c',I,h1,J⟩:=mW h
 cases I;exact⟨h1,J⟩
def Q6 {l:List UInt8}:bS l=([]++(bS (l.drop 0)).1,0+(bS (l.drop 0)).2):=by simp
def Vh {l:List UInt8}{I:List cB}{p:Nat}(h:bS l=(I++(bS (l.drop p)).1,p+(bS (l.drop p)).2))(h1:¬(firstM (l.drop p)).2=0):
  bS l=(I++[(firstM (l.drop p)).1]++(bS (l.drop (p+(firstM (l.drop p)).2))).1,p+(firstM (l.drop p)).2+(bS (l.drop (p+(firstM (l.drop p)).2))).2):=by
 rw[h,Oh h1,drop_drop,append_assoc,Nat.add_assoc];rfl
def abT {l:List UInt8}{s:Int}{I:List cB}{p:Nat}(J:dw l s=true)(h:bS l=(I++(bS (l.drop p)).1,p+(bS (l.drop p)).2))(h1:(firstM (l.drop p)).2=0):uI l s=(I,p,0):=by
 unfold uI;rw[if_pos J,h,Ie h1];simp
def DF (A:Option Addr) (c:Nat) (l:List UInt8) (s:Int) (w:World) (h:Rd w w.heap.size 1 A l.length (byteCells l)):
    Calls prog 40 #[.agg #[.slice A l.length c,D s]] w (agv w (uI l s)):=by
 have S:=(St.start w).bX h;refine gK 37 func40 ?_;refine cw [0] ?_;refine zN 2 ?_;refine iP S ?_;intro b1 w2 S3;refine zN 8 ?_
 rcases Am l s with⟨ho,hm⟩|⟨ho,hm⟩
 ·have HO:=λw h=>l5 A l.length c l s w h;rw[ho]at HO;refine dO eQ (HO _ (St.rd 1 S3 E)) ?_;rintro _ w8 ⟨A4,Z,rfl,hb6,hO7⟩;refine⟨_,E,?_⟩;have S9:=S3.uj hb6 hO7;clear HO hb6 hO7 S3;change St _ _ _ [.own 5 1 (.slice A4 l.length Z) l.length (byteCells l),.blk b1 #[.slice A l.length c,D s] 101,.rd 1 A l.length (byteCells l)]at S9;have hcap:=Oj (S9.own 0 E);unfold maxLen at hcap;have hlen:l.length<=100000:=(pE hm).1;refine zN 3 ?_;refine gB S9 zh ?_;intro b10 Ht oF;refine sa 0 oF kQ ?_;intro Ea mX;refine zN 15 ?_;have jh:=mX.nil 138 10;refine zN 9 ?_;have qK:=jh.aO [4];refine fO (X:=(List cB)×Nat×Nat×(Option Addr)×Nat) (λI=>[(2,.slice none 0 0),(3,D 0),(4,D 0),(5,.pointer (some ⟨b10,0,none⟩)),(7,.slice I.2.2.2.1 I.2.2.1 I.2.2.2.2),(8,D ((I.2.1:Nat):Int))]) (λI wr=>(bS l=(I.1++(bS (l.drop I.2.1)).1,I.2.1+(bS (l.drop I.2.1)).2))/\(I.2.1<=l.length)/\(I.2.2.1<=I.2.1)/\(I.2.2.1=I.1.length)/\St w.heap.size w wr [.own 138 10 (.slice I.2.2.2.1 I.2.2.1 I.2.2.2.2) I.2.2.1 ((I.1).flatMap cB.cells),.blk b10 #[.slice A4 l.length Z,D s] 101,.own 5 1 (.slice A4 l.length Z) l.length (byteCells l),.blk b1 #[.slice A l.length c,D s] 101]) (λI=>l.length-I.2.1) ([],0,0,none,0) ?_ ?_ ?_
  ·exact⟨Q6,zero_le _,Nat.le_refl _,E,qK⟩
  ·exact rO
  rintro⟨acc,p,m,A9,c9⟩ ML ⟨J,aA7,hi21,M,O⟩
  try dsimp only at J aA7 hi21 M O
  refine bH (l':=[(2,.slice none 0 0),(3,D 0),(4,D 0),(5,.pointer (some ⟨b10,0,none⟩)),(7,.slice A9 m c9),(8,D ((p:Nat):Int))]) ⟨E,E,E,E,E,E,trivial⟩ (rM (aM (av (vv (xI 0 Y9) ?_))));refine zN 2 ?_;obtain⟨A23,aA8,atP⟩:=NC (b:=l) (c:=Z) (lo:=(some (D ((p:Nat):Int)))) (hi:=none) (mx:=none) (l:=p) (k:=l.length) (q:=Z) (m:=(l.drop p).length) (c':=Z-p) underlying99 kQ (ahB p E Y) (St.ord 2 O E) Y Y Y length_drop.symm E;rw[take_length]at atP;refine vv (v:=.slice A23 ((l.drop p).length) (Z-p)) (jY E E (jv E) nW nW (aA8 _)) ?_;refine dO eQ (Vg A23 (Z-p) (l.drop p) _ atP (by rw[length_drop];omega) Y (by rw[length_drop];omega)) ?_;rintro _ NP ⟨rfl,ahW⟩;refine⟨_,E,?_⟩;have tT:=O.on ahW;clear ahW O;have hfl:= @xQ (l.drop p);rw[length_drop]at hfl;refine zN 3 ?_;refine gB tT wY ?_;intro b29 Zt qB;refine sa 0 qB kQ ?_;intro w32 tX;refine zN 7 ?_;by_cases h34:(((firstM (l.drop p)).2:Nat):Int)=0
  ·refine zN 19 ?_;have zo:=tX.aO [4,3,2,0];have hz:uI l s=(acc,p,0):=abT hm J Y;rw[hz];subst M;exact⟨_,_,E,zo⟩
  refine zN 10 ?_;refine Sy tX ?_;intro MS ZE yC;refine dU (news:=[D ((firstM (l.drop p)).1.kind),D ((firstM (l.drop p)).1.queue),D ((firstM (l.drop p)).1.epoch),D ((firstM (l.drop p)).1.peer),D ((firstM (l.drop p)).1.ev.kind),D ((firstM (l.drop p)).1.ev.producer),D ((firstM (l.drop p)).1.ev.id),D ((firstM (l.drop p)).1.ev.body),D ((firstM (l.drop p)).1.ev.aN),D ((firstM (l.drop p)).1.ev.hno)]) (xs':=(acc++[(firstM (l.drop p)).1]).flatMap cB.cells) 2 yC (wn E) E E E E E E (St.mq (xs:=[D ((firstM (l.drop p)).1.kind),D ((firstM (l.drop p)).1.queue),D ((firstM (l.drop p)).1.epoch),D ((firstM (l.drop p)).1.peer),D ((firstM (l.drop p)).1.ev.kind),D ((firstM (l.drop p)).1.ev.producer),D ((firstM (l.drop p)).1.ev.id),D ((firstM (l.drop p)).1.ev.body),D ((firstM (l.drop p)).1.ev.aN),D ((firstM (l.drop p)).1.ev.hno)]) 0 yC E E E) underlying126 PN E dQ (bP E) lQ Y (jy (enc:=cB.cells) E E) ?_;intro A39 c40 w41 aJQ aJR Cx;refine zN 6 ?_;refine vv (v:=D ((p+((firstM (l.drop p)).2):Nat):Int)) jc ?_;refine zN 3 ?_;have qC:=Cx.aO [1,0];refine bQ (acc++[(firstM (l.drop p)).1],p+(firstM (l.drop p)).2,m+1,A39,c40) ?_ rO (by first|omega|(dsimp only;omega));exact⟨(Vh J Y),uQ,uQ,(by dsimp only;simp[M]),qC⟩
 have HO:=λw h=>l5 A l.length c l s w h;rw[ho]at HO;refine dO eQ (HO _ (St.rd 1 S3 E)) ?_;rintro _ VP ⟨A46,c47,rfl,hb48,atQ⟩;refine⟨_,E,?_⟩;have vT:=S3.uj hb48 atQ;clear HO hb48 atQ S3;refine zN 3 ?_;refine gB vT zh ?_;intro b52 w53 uH;refine sa 0 uH kQ ?_;intro w55 VR;refine zN 21 ?_;have vJ:=VR.aO [3,2,1,0];rw[show uI l s=([],0,6)from if_neg (by rw[hm];simp)];exact⟨none,0,E,vJ.nil 138 10⟩
def akB {l:List UInt8}{s:Int}(h:dw l s=true):Ir l s=(l,s,true):=by
 rcases Am l s with⟨h1,_⟩|⟨_,h1⟩
 ·exact h1
 rw[h]at h1;cases h1
def jA (l:List UInt8)(s:Int):List UInt8×Int×Int:=if dw l s=true then(l.take (bS l).2,min s (bS l).2,0)else([],0,6)
def akC (w:World)(r:List UInt8×Int×Int)(e:Ending)(w':World):Prop:=
 ∃A c,e=.returned (.tuple #[.agg #[.slice A r.1.length c,D r.2.1],D r.2.2])/\St w.heap.size w w' [.cK 1 A r.1.length (byteCells r.1)]
def Q7 (A:Option Addr) (c:Nat) (l:List UInt8) (s:Int) (w:World) (h:Rd w w.heap.size 1 A l.length (byteCells l)):
    Calls prog 39 #[.agg #[.slice A l.length c,D s]] w (akC w (jA l s)):=by
 have S:=(St.start w).bX h;refine gK 34 func39 ?_;refine cw [0] ?_;refine zN 2 ?_;refine iP S ?_;intro b1 w2 S3;refine gB S3 zh ?_;intro b4 w5 S6;refine zN 6 ?_;have hle:=Oi (l.length+1) l;rw[<-show bS l=qM (l.length+1) l from E]at hle
 cases hm:dw l s
 ·have HR:=λw h=>DF A c l s w h;rw[show uI l s=([],0,6)from if_neg (by rw[hm];simp)]at HR;refine dO eQ (HR _ (St.rd 2 S6 E)) ?_;rintro _ w9 ⟨A7,c8,rfl,T11⟩;refine⟨_,E,?_⟩;have Dr:=S6.ext T11 E;change St _ _ _ [.own 138 10 (.slice A7 (([]:List cB).length) c8) (([]:List cB).length) ((([]:List cB)).flatMap cB.cells),_,_,_]at Dr;refine zN 21 ?_;refine sa 1 Dr kQ ?_;intro w12 SK;refine zN 6 ?_;have mX:=SK.aO [3,2,1,0];rw[show jA l s=([],0,6)from if_neg (by rw[hm];simp)];exact⟨none,0,E,aB mX⟩
 have HR:=λw h=>DF A c l s w h;rw[show uI l s=((bS l).1,(bS l).2,0)from if_pos hm]at HR;have hlen:l.length<=100000:=(pE hm).1;refine dO eQ (HR _ (St.rd 2 S6 E)) ?_;rintro _ ML ⟨A15,c16,rfl,T19⟩;refine⟨_,E,?_⟩;have J:=S6.ext T19 E;change St _ _ _ [.own 138 10 (.slice A15 ((bS l).1.length) c16) ((bS l).1.length) (((bS l).1).flatMap cB.cells),_,_,_]at J;refine zN 8 ?_;refine ND (vv (v:=D 0) ym ?_);refine vv WK ?_;refine zN 8 ?_;have HO:=λw h=>l5 A l.length c l s w h;rw[akB hm]at HO;refine dO eQ (HO _ (St.rd 3 J E)) ?_;rintro _ NU ⟨A20,c21,rfl,O,Z⟩;refine⟨_,E,?_⟩;have lC:=J.uj O Z;clear HO O Z J;change St _ _ _ [.own 5 1 (.slice A20 l.length c21) l.length (byteCells l),.own 138 10 (.slice A15 ((bS l).1.length) c16) ((bS l).1.length) (((bS l).1).flatMap cB.cells),.blk b4 #[.slice none 0 0,D 0] 101,.blk b1 #[.slice A l.length c,D s] 101,.rd 1 A l.length (byteCells l)]at lC;have hcap:=Oj (lC.own 0 E);unfold maxLen at hcap;refine zN 3 ?_;refine gB lC zh ?_;intro b26 MN sP;refine sa 0 sP kQ ?_;intro w29 BH;refine zN 4 ?_;have I:=BH.drew;refine fK 12 10 I [] ?_;iterate 4 refine gU ?_
 obtain⟨M,aA9,aBa,aBb⟩:=ajb (b:=l) (A:=A20) (c:=c21) (lo:=none) (hi:=some (D (((bS l).2:Nat):Int))) (mx:=some (D (((bS l).2:Nat):Int))) (l:=0) (k:=(bS l).2) (q:=(bS l).2) (m:=(bS l).2) (c':=(bS l).2) underlying99 kQ (alT ((bS l).2) ((bS l).2) E E (Nat.le_refl _) Y) Y Y Y E E;refine gk (v:=.slice M ((bS l).2) ((bS l).2)) 4 E I (λ_ _=>(jY E E nW (jv E) (jv E) (aA9 _))) ?_;iterate 3 refine gU ?_
 refine D5 (v:=D (min s ((((bS l).2:Nat):Int)))) (i:=8) (m:=3) E kQ kQ kQ E kQ E I E (wn E) E E (λ_ _=>(pI (vs:=[D s,D (((bS l).2:Nat):Int)]) E xH λ_=>alU)) ?_;refine D5 (v:=.agg #[.slice M ((bS l).2) ((bS l).2),D (min s ((((bS l).2:Nat):Int)))]) (i:=9) (m:=2) E kQ kQ kQ E kQ E I E (wn E) E E (λ_ _=>(DX (vs:=[(0,.slice M ((bS l).2) ((bS l).2)),(1,D (min s ((((bS l).2:Nat):Int))))]) E jW kQ)) ?_;refine fu kQ E E E ?_;refine sa 3 I kQ ?_;intro ZC zn;refine zN 2 ?_;refine iX ?_;refine zN 3 ?_;have Al:=zn.seal 1 E (aBa _ _ (St.ord 1 zn E)) (λa h=>aBb a h);have xO:=Al.aO [5,4,3,2,0];have hlt:(l.take (bS l).2).length=(bS l).2:=by rw[length_take];omega
 rw[show jA l s=(l.take (bS l).2,min s (bS l).2,0)from if_pos hm];exact⟨M,(bS l).2,by rw[hlt];rfl,by rw[hlt];exact xO⟩
noncomputable def q8 (d:Dir)(q:Int):Pl×Int:=if gH d≠0 then(nE,gH d)else if q<0\/3<q then(nE,2)else(d.at q.toNat,0)
noncomputable def aI (d:Dir)(q:Int):Pl×Int:=if (q8 d q).2=0/\(q8 d q).1=nowhere then(nE,7)else q8 d q
def La {d:Dir}{q:Int}(h:gH d≠0):q8 d q=(nE,gH d):=if_pos h
def Lb {d:Dir}{q:Int}(h:gH d=0)(I:q<0\/3<q):q8 d q=(nE,2):=by
 unfold q8;rw[if_neg Y,if_pos I]
def PY {d:Dir}{q:Int}(h:gH d=0)(I:¬(q<0\/3<q)):q8 d q=(d.at q.toNat,0):=by
 unfold q8;rw[if_neg Y,if_neg I]
def Q8 {d:Dir}{q:Int}(h:gH d≠0):aI d q=(nE,gH d):=by
 unfold aI;rw[La h,if_neg (λI=>h I.1)]
def Q9 {d:Dir}{q:Int}(h:gH d=0)(I:q<0\/3<q):aI d q=(nE,2):=by
 unfold aI;rw[Lb h I,if_neg (λJ=>by cases J.1)]
def Vi {d:Dir}{q:Int}(h:gH d=0)(I:¬(q<0\/3<q))(hn:d.at q.toNat=nowhere):aI d q=(nE,7):=by
 unfold aI;rw[PY h I,if_pos ⟨E,hn⟩]
def Ig {d:Dir}{q:Int}(h:gH d=0)(I:¬(q<0\/3<q))(hn:d.at q.toNat≠nowhere):aI d q=(d.at q.toNat,0):=by
 unfold aI;rw[PY h I,if_neg (λJ=>hn J.2)]
def Ol (d:Dir)(q:Int)(w:World)(hn:Nw w):Calls prog 61 #[d.val,.int .i64 q] w (aeA w (q8 d q)):=by
 have HN:=Lib.hid hn;have HC:=Lib.hid (λw h=>QX d w h);have HR0:Hid (∀r,r=q8 d q->r=if gH d≠0 then(nE,gH d)else if q<0\/3<q then(nE,2)else(d.at q.toNat,0)):=Lib.hid (λr h=>h);generalize hr:q8 d q=r;have HR:=Lib.hid (HR0.out r hr.symm);clear hn hr HR0;generalize gH d=z at HC HR;obtain⟨⟨n0,e0⟩,⟨n1,e1⟩,⟨n2,e2⟩,⟨n3,e3⟩⟩:=d;unfold Dir.val at*;simp only at HC⊢
 go_enter func61,ntmps61
 go_wp2_with fail
 refine(HC.out _ (HN.out.on gQ)).mono ?_;rintro e w1 ⟨rfl,hb1⟩;have B0:=((gq.new w _ _).alloc _).below hb1 jQ;have B1:=(gq.new1 w _ _ _).below hb1 iQ;obtain⟨c0,c1,c2,c3,c4,c5,c6,c7,cf⟩:=B0.Cm;obtain⟨r0,r1,rf⟩:=B1.vH;have hz0:w.heap.size<w1.heap.size:=B0.lt;have hz1:w.heap.size+1<w1.heap.size:=B1.lt;have HB:Hid (Below w.heap.size w w1):=Lib.hid (Below.trans gQ (hb1.mono jQ));clear hb1;by_cases hz:z=0
 ·subst hz;by_cases q0:q<0
  ·have e:=HR.out;rw[if_neg Y,if_pos Y]at e;subst e
   go_wp2_with fail
   refine bodyPost_ret (v:=.tuple #[.agg #[.int .i64 0,.int .i64 0],.int .i64 2]) (by simp[results,results61,go_sem,r0,r1]) E ?_;have hB:=HB.out;exact⟨E,by go_grown⟩
  by_cases q4:4<=q
  ·have e:=HR.out;rw[if_neg Y,if_pos Y]at e;subst e
   go_wp2_with fail
   refine bodyPost_ret (v:=.tuple #[.agg #[.int .i64 0,.int .i64 0],.int .i64 2]) (by simp[results,results61,go_sem,r0,r1]) E ?_;have hB:=HB.out;exact⟨E,by go_grown⟩
  rcases(show q=0\/q=1\/q=2\/q=3 by omega)with rfl|rfl|rfl|rfl
  ·have e:=HR.out;rw[if_neg Y,if_neg Y]at e;subst e
   go_wp2_with fail
   refine bodyPost_ret (v:=.tuple #[.agg #[.int .i64 n0,.int .i64 e0],.int .i64 0]) (by simp[results,results61,go_sem,r0,r1]) E ?_;have hB:=HB.out;exact⟨E,by go_grown⟩
  ·have e:=HR.out;rw[if_neg Y,if_neg Y]at e;subst e
   go_wp2_with fail
   refine bodyPost_ret (v:=.tuple #[.agg #[.int .i64 n1,.int .i64 e1],.int .i64 0]) (by simp[results,results61,go_sem,r0,r1]) E ?_;have hB:=HB.out;exact⟨E,by go_grown⟩
  ·have e:=HR.out;rw[if_neg Y,if_neg Y]at e;subst e
   go_wp2_with fail
   refine bodyPost_ret (v:=.tuple #[.agg #[.int .i64 n2,.int .i64 e2],.int .i64 0]) (by simp[results,results61,go_sem,r0,r1]) E ?_;have hB:=HB.out;exact⟨E,by go_grown⟩
  have e:=HR.out;rw[if_neg Y,if_neg Y]at e;subst e
  go_wp2_with fail
  refine bodyPost_ret (v:=.tuple #[.agg #[.int .i64 n3,.int .i64 e3],.int .i64 0]) (by simp[results,results61,go_sem,r0,r1]) E ?_;have hB:=HB.out;exact⟨E,by go_grown⟩
 have e:=HR.out;rw[if_pos hz]at e;subst e
 go_wp2_with fail
 refine bodyPost_ret (v:=.tuple #[.agg #[.int .i64 0,.int .i64 0],.int .i64 z]) (by simp[results,results61,go_sem,r0,r1]) E ?_;have hB:=HB.out;exact⟨E,by go_grown⟩
def abU {d:Dir}{q:Int}(h:(q8 d q).2=0):0<=q/\q<=3:=by
 by_cases I:gH d=0
 ·by_cases J:q<0\/3<q
  ·rw[Lb I J]at h
   cases h
  exact⟨by omega,by omega⟩
 rw[La I]at h;exact absurd h I
noncomputable def rU (d:Dir)(q node:Int):Dir×Int:=
 if (q8 d q).2≠0 then(kU,(q8 d q).2)else if node<0\/4<node then(kU,2)else if (q8 d q).1≠nowhere then(kU,8)else(d.set q.toNat ⟨node,1⟩,0)
def Ih {d:Dir}{q:Int}(h:(aI d q).2=0):0<=q/\q<=3/\(aI d q).1=d.at q.toNat/\(aI d q).1≠nowhere/\yK (aI d q).1:=by
 by_cases I:gH d=0
 ·by_cases J:q<0\/3<q
  ·rw[Q9 I J]at h
   cases h
  by_cases hn:d.at q.toNat=nowhere
  ·rw[Vi I J hn]at h
   cases h
  rw[Ig I J hn];exact⟨by omega,by omega,E,hn,M8 I _ Y⟩
 rw[Q8 I]at h;exact absurd h I
noncomputable def vP (d:Dir)(q epoch node:Int):Dir×Int:=
 if (aI d q).2≠0 then(kU,(aI d q).2)else if node<0\/4<node then(kU,2)else if (aI d q).1.epoch≠epoch then(kU,15)
 else if (aI d q).1.node=node then(kU,8)else if epoch=1048576 then(kU,14)else(d.set q.toNat ⟨node,epoch+1⟩,0)
def EN {a:UInt8}{n:Int}(h:n=a.toNat):UInt8.ofNat n.toNat=a:=by
 subst h;simp
def abV {a b c d:UInt8}{n:Int}(h:n=16777216*(a.toNat:Int)+65536*(b.toNat:Int)+256*(c.toNat:Int)+(d.toNat:Int)):zF n=[a,b,c,d]:=by
 have:=u8_in a;have:=u8_in b;have:=u8_in c;have:=u8_in d;unfold zF;rw[EN (a:=a) Y,EN (a:=b) Y,EN (a:=c) Y,EN (a:=d) Y]
def Om {a b c d:UInt8}:qo [a,b,c,d]=16777216*(a.toNat:Int)+65536*(b.toNat:Int)+256*(c.toNat:Int)+(d.toNat:Int):=by
 simp[qo];omega
def agw {q:List UInt8}{s:Int}(I:q.length=4)(h0:0<=s)(h1:s<=4294967295):qo q=s↔zF s=q:=by
 match q,I with
 |[a,b,c,d],_=>
  constructor
  ·intro h;rw[Om]at h;exact abV h.symm
  intro h;have ha:=u8_in a;have hb:=u8_in b;have hc:=u8_in c;have hd:=u8_in d;unfold zF at h;simp only[List.cons.injEq,and_true]at h;obtain⟨J,M,O,Z⟩:=h;subst J;subst M;subst O;subst Z;rw[Om];simp only[UInt8.toNat_ofNat'];omega
section
variable {b:List UInt8}
def Yo (h:¬b.length<2)(h1:¬b.length<cO b+6):headed ((b.drop 2).take (cO b))=b.take (2+cO b):=by
 match b,h,h1 with
 |x::y::r,_,h1=>
  have e:cO (x::y::r)=x.toNat*256+y.toNat:=rfl;have J:=x.toNat_lt;have M:=y.toNat_lt;have I:((List.drop 2 (x::y::r)).take (cO (x::y::r))).length=cO (x::y::r):=by
   rw[length_take,length_drop];omega
  unfold headed;rw[I,show UInt8.ofNat (cO (x::y::r) / 256)=x by rw[e,show(x.toNat*256+y.toNat) / 256=x.toNat by omega];simp,
   show UInt8.ofNat (cO (x::y::r) % 256)=y by rw[e,show(x.toNat*256+y.toNat) % 256=y.toNat by omega];simp]
  rw[Nat.add_comm 2];rfl
 |[],h,_=>simp at h
 |[_],h,_=>simp at h
def abW (h:¬b.length<2)(h1:¬b.length<cO b+6):qo ((b.drop (2+cO b)).take 4)=zT (b.take (2+cO b))↔jS ((b.drop 2).take (cO b))=b.take (cO b+6):=by
 unfold jS;rw[Yo h h1,show cO b+6=(2+cO b)+4 by omega,take_add (i:=2+cO b) (j:=4),append_cancel_left_eq];obtain⟨I,J⟩:=K3 (b.take (2+cO b));exact agw (by rw[length_take,length_drop];omega) I Y
def Ra (h:¬b.length<2)(h1:¬b.length<cO b+6)(I:(tu ((b.drop 2).take (cO b))).2=0)(J:jS ((b.drop 2).take (cO b))=b.take (cO b+6)):firstM b=((tu ((b.drop 2).take (cO b))).1,cO b+6):=
 Og h h1 ((abW h h1).2 J) I
end
def JH (n:Int):Prop:=0<=n/\n<=2147483647
def akD {n:Int}(h:JH n):(qQ n).1=zF n:=by unfold qQ;unfold JH at h;rw[if_pos h]
def agx {n:Int}(h:JH n)(t:List UInt8):oV (zF n++t)=(n,0):=by
 obtain⟨I,h1⟩:=h;unfold zF oV;simp only[cons_append,nil_append,UInt8.toNat_ofNat'];rw[if_neg Y];simp only[Prod.mk.injEq,and_true];omega
def GD {n:Int}{l:List Int}(h:JH n):jL (n::l)=zF n++jL l:=by
 show(n::l).flatMap _=_
 rw[flatMap_cons,akD h];rfl
def ZK:∀ {l:List Int},(∀n∈l,JH n)->(jL l).length=4*l.length
 |[],_=>rfl
 |n::l,h=>by
  rw[GD (h n iQ),length_append,ZK (λm I=>h m (by simp[I])),show(zF n).length=4 from E,length_cons];omega
def Ti:∀ {l:List Int} {j:Nat},(∀n∈l,JH n)->(jL l).drop (4*j)=jL (l.drop j)
 |l,0,_=>rfl
 |[],j+1,_=>by simp[jL]
 |n::l,j+1,h=>by
  rw[GD (h n iQ),drop_succ_cons,<-Ti (j:=j) (λm I=>h m (by simp[I])),show 4*(j+1)=(zF n).length+4*j by show _=4+_;omega,<-drop_drop,drop_left]
def VX {l:List Int}{j:Nat}{n:Int}(h:∀n∈l,JH n)(J:l[j]? =some n):tk (jL l) j=(n,0):=by
 unfold tk;obtain⟨I,hn⟩:=List.getElem?_eq_some_iff.1 J;rw[Ti h,drop_eq_getElem_cons I,hn,GD (h n (by rw[<-hn];exact getElem_mem I))];exact agx (h n (by rw[<-hn];exact getElem_mem I)) _
def aqN {e:Ev}(h:aX e=0):JH e.kind/\JH e.producer/\JH e.id/\JH e.body/\JH e.aN/\JH e.hno:=by
 unfold aX at h;unfold JH
 repeat' split at h
 all_goals first
  |exact absurd h dQ
  |(clear h;simp only[kJ,Bool.and_eq_true,decide_eq_true_eq,not_and,Classical.not_not]at*;omega)
def akE {r:cB}(h:aG r=0):∀n∈gI r,JH n:=by
 unfold aG at h
 split at h
 ·cases h
 split at h
 ·cases h
 rename_i h1 I
 simp only[kJ,Bool.and_eq_true,decide_eq_true_eq,Bool.not_eq_false]at h1 I;intro n hn;unfold gI at hn;by_cases he:kM r.kind=true
 ·rw[if_pos he]at h hn;obtain⟨J,g2,M,O,Z,g6⟩:=aqN h;simp only[cons_append,nil_append,mem_cons,not_mem_nil,or_false]at hn
  rcases hn with rfl|rfl|rfl|rfl|rfl|rfl|rfl|rfl|rfl|rfl
  any_goals assumption
  all_goals (unfold JH;omega)
 rw[if_neg he]at hn;simp only[append_nil,mem_cons,not_mem_nil,or_false]at hn
 rcases hn with rfl|rfl|rfl|rfl
 all_goals (unfold JH;omega)
def agy {r:cB}(h:aG r=0)(he:¬kM r.kind=true):r.ev=aH:=by
 unfold aG at h
 split at h
 ·cases h
 split at h
 ·cases h
 try rw[if_neg he]at h
 split at h
 ·assumption
 cases h
def akF {r:cB}(h:aG r=0):tu (jL (gI r))=(r,0):=by
 have J:=akE h;have O:tk (jL (gI r)) 0=(r.kind,0):=VX J E;have Z:lD (jL (gI r))=(gI r).length:=by
  unfold lD;rw[O];by_cases he:kM r.kind=true
  ·rw[if_pos (show kM (r.kind,(0:Int)).1=true from he)];unfold gI;rw[if_pos he];rfl
  rw[if_neg (show ¬kM (r.kind,(0:Int)).1=true from he)];unfold gI;rw[if_neg he];rfl
 have hz:zq (jL (gI r)) (gI r).length=0:=uX λj I=>by rw[VX J (getElem?_eq_getElem I)]
 have M:nZ (jL (gI r)) (gI r).length=r:=by
  have hv:∀j n,(gI r)[j]? =some n->iI (jL (gI r)) (gI r).length j=n:=λj n I=>by
   unfold iI;rw[if_pos (List.getElem?_eq_some_iff.1 I).1,VX J I]
  have hw:∀j,(gI r).length<=j->iI (jL (gI r)) (gI r).length j=0:=λj I=>if_neg Y;unfold nZ;rw[hv 0 r.kind E,hv 1 r.queue E,hv 2 r.epoch E,hv 3 r.peer E];by_cases he:kM r.kind=true
  ·have hn:gI r=[r.kind,r.queue,r.epoch,r.peer,r.ev.kind,r.ev.producer,r.ev.id,r.ev.body,r.ev.aN,r.ev.hno]:=by unfold gI;rw[if_pos he];rfl
   rw[hv 4 r.ev.kind (by rw[hn];rfl),hv 5 r.ev.producer (by rw[hn];rfl),hv 6 r.ev.id (by rw[hn];rfl),hv 7 r.ev.body (by rw[hn];rfl),hv 8 r.ev.aN (by rw[hn];rfl),hv 9 r.ev.hno (by rw[hn];rfl)]
  have hn:(gI r).length=4:=by unfold gI;rw[if_neg he];rfl
  rw[hw 4 Y,hw 5 Y,hw 6 Y,hw 7 Y,hw 8 Y,hw 9 Y];have:=agy h he;unfold aH at this;rw[<-this]
 unfold tu;rw[Z,if_neg (by rw[hz];simp),M,if_neg (by rw[ZK J,h];simp)]
def aeK {r:cB}(h:aG r=0):nT r=(jL (gI r),0):=by unfold nT;rw[if_neg (by simpa using h)]
def mF (r:cB):List UInt8:=jS (nT r).1
def bI (rs:List cB):List UInt8:=rs.flatMap mF
def lW (a b:List cB):bI (a++b)=bI a++bI b:=flatMap_append
def Av (r:cB):6<=(mF r).length/\(mF r).length<=46:=by
 unfold mF;rw[uY];have:=EG r;omega
def Oo {p t:List UInt8}(h:p.length<=65535){k:Nat}(I:2<=k):cO ((jS p).take k++t)=p.length:=by
 obtain⟨k,rfl⟩:∃j,k=j+2:=⟨k-2,by omega⟩;unfold jS headed;simp only[cons_append,take_succ_cons,cO,UInt8.toNat_ofNat'];omega
def Vj {r:cB}(h:aG r=0)(t:List UInt8):firstM (mF r++t)=(r,(mF r).length):=by
 have hl:=EG r;have J:(mF r).length=(nT r).1.length+6:=uY _;have I:cO (mF r++t)=(nT r).1.length:=by
  have:=Oo (p:=(nT r).1) (t:=t) Y (k:=(mF r).length) Y;rwa [show take (mF r).length (jS (nT r).1)=mF r from take_length]at this
 have O:(mF r++t).length=(nT r).1.length+6+t.length:=by rw[length_append,J]
 have M:((mF r++t).drop 2).take (cO (mF r++t))=(nT r).1:=by
  rw[I];unfold mF jS headed;simp
 have Z:tu (nT r).1=(r,0):=by rw[aeK h];exact akF h
 rw[Ra Y (by rw[I];omega) (by rw[M,Z]) (by rw[M,I,<-J,take_left];rfl),M,Z,I,J]
def Yp {r:cB}{k:Nat}(O:k< (mF r).length):(firstM ((mF r).take k)).2=0:=by
 have Z:=EG r;have J:(mF r).length=(nT r).1.length+6:=uY _;have M:((mF r).take k).length=k:=by rw[length_take];omega
 by_cases hs:k<2
 ·rw[zw Y];rfl
 have h:=Oo (p:=(nT r).1) (t:=[]) Y (k:=k) Y;rw[append_nil]at h;have I:cO ((mF r).take k)=(nT r).1.length:=h;rw[K9 Y (by rw[M,I];omega)];rfl
def yQ:∀ {rs:List cB} {t:List UInt8},(∀r∈rs,aG r=0)->(firstM t).2=0->bS (bI rs++t)=(rs,(bI rs).length)
 |[],t,_,I=>Ie (by simpa[bI]using I)
 |r::rs,t,h,I=>by
  have e:bI (r::rs)++t=mF r++(bI rs++t):=by simp[bI,flatMap_cons]
  have J:=Vj (h r iQ) (bI rs++t);have M:=Av r;rw[e,Oh (by rw[J];show ¬(mF r).length=0;omega),J];simp only[drop_left];rw[yQ (λx O=>h x (by simp[O])) I];simp[bI,flatMap_cons]
def xR:(firstM []).2=0:=by rw[zw iQ];rfl
def Oq:∀(rs:List cB) (k:Nat),k<=(bI rs).length-> ∃j t,(bI rs).take k=bI (rs.take j)++t/\(firstM t).2=0/\j<=rs.length
 |[],k,_=>⟨0,[],by simp[bI],xR,Nat.le_refl _⟩
 |r::rs,k,I=>by
  have e:bI (r::rs)=mF r++bI rs:=by simp[bI,flatMap_cons]
  by_cases h:k< (mF r).length
  ·refine⟨0,(mF r).take k,?_,Yp h,zero_le _⟩;rw[e,take_append_of_le_length Y];simp[bI]
  rw[e,length_append]at I;obtain⟨j,t,h1,J,M⟩:=Oq rs (k-(mF r).length) Y;refine⟨j+1,t,?_,J,by simp;omega⟩;rw[e,take_append,take_of_length_le Y,h1];simp[bI,flatMap_cons]
def agz {l:List UInt8}{s:Int}{r:cB}(h:aG r=0)(I:0<=s)(h1:s<=l.length)(J:l.length+46<=100000):iU l s r=(l++mF r,s,0):=by
 unfold iU;have:=Av r;rw[if_neg (by simp[dw];omega),if_neg (by rw[aeK h];simp),if_neg (by show ¬_<_+(mF r).length;omega)];rfl
def Ot {l:List UInt8}{s:Int}{r:cB}(h:(iU l s r).2.2=0):iU l s r=(l++mF r,s,0)/\aG r=0/\l.length+(mF r).length<=100000:=by
 unfold iU at h⊢
 split at h
 ·cases h
 split at h
 ·rename_i I;exact absurd h I
 split at h
 ·cases h
 rename_i h1 I J
 rw[if_neg h1,if_neg I,if_neg J];refine⟨E,?_,by show _+(jS (nT r).1).length<=_;omega⟩;unfold nT at I
 split at I
 ·exact Classical.not_not.1 I
 rename_i M;exact Classical.not_not.1 M
def nO (d:Dir)(q:Int)(w:World)(hn:Nw w):Calls prog 51 #[d.val,D q] w (aeA w (aI d q)):=by
 have HN:=Lib.hid hn;have HC:=Lib.hid (λw h=>Ol d q w h);have HR:Hid (aI d q=if (q8 d q).2=0/\(q8 d q).1=nowhere then(nE,7)else q8 d q):=Lib.hid E;clear hn;generalize aI d q=r at*;generalize q8 d q=a at*;obtain⟨⟨pn,pe⟩,z⟩:=a;have hq:=K5 ⟨pn,pe⟩ nowhere;unfold nowhere at hq;simp only at hq;obtain⟨⟨n0,e0⟩,⟨n1,e1⟩,⟨n2,e2⟩,⟨n3,e3⟩⟩:=d;unfold Dir.val at*;simp only at HC HR⊢
 go_enter func51,ntmps51
 go_wp2_with fail
 refine(HC.out _ (HN.out.on gQ)).mono ?_;rintro e w1 ⟨rfl,hb1⟩;have B1:=(gq.new1 w _ _ _).below hb1 iQ;obtain⟨r0,r1,rf⟩:=B1.vH;have hz1:w.heap.size+1<w1.heap.size:=B1.lt;have HB:Hid (Below w.heap.size w w1):=Lib.hid (Below.trans gQ (hb1.mono jQ));obtain⟨g0,g1,g2⟩:=HN.out.on HB.out;clear hb1;by_cases hz:z=0
 ·by_cases hp:(⟨pn,pe⟩:Pl)=nowhere
  ·have e:=HR.out;rw[if_pos ⟨hz,hp⟩]at e;subst e;subst hz;have hd:decide ((⟨pn,pe⟩:Pl)=⟨-1,0⟩)=true:=by simpa[nowhere]using hp
   rw[hd]at hq;clear hp hd
   go_wp2_with fail
   refine bodyPost_ret (v:=.tuple #[.agg #[D 0,D 0],D 7]) (by simp[results,results51,go_sem,World.cell?_alloc_lt,hz1,r0,r1]) E ?_;have hB:=HB.out;exact⟨E,by go_grown⟩
  have e:=HR.out;rw[if_neg (λh=>hp h.2)]at e;subst e;subst hz;have hd:decide ((⟨pn,pe⟩:Pl)=⟨-1,0⟩)=false:=by simpa[nowhere]using hp
  rw[hd]at hq;clear hp hd
  go_wp2_with fail
  refine bodyPost_ret (v:=.tuple #[.agg #[D pn,D pe],D 0]) (by simp[results,results51,go_sem,World.cell?_alloc_lt,hz1,r0,r1]) E ?_;have hB:=HB.out;exact⟨E,by go_grown⟩
 have e:=HR.out;rw[if_neg (λh=>hz h.1)]at e;subst e;have hz':(z==0)=false:=by simpa using hz
 clear hq
 go_wp2_with fail
 refine bodyPost_ret (v:=.tuple #[.agg #[D pn,D pe],D z]) (by simp[results,results51,go_sem,World.cell?_alloc_lt,hz1,r0,r1]) E ?_;have hB:=HB.out;exact⟨E,by go_grown⟩
def Yq (d:Dir)(q epoch node:Int)(w:World)(hn:Nw w):Calls prog 50 #[d.val,.int .i64 q,.int .i64 epoch,.int .i64 node] w (ZH w (vP d q epoch node)):=by
 have HN:=Lib.hid hn;clear hn;have HC:=Lib.hid (λw h=>nO d q w h);have HR:Hid (vP d q epoch node=if (aI d q).2≠0 then(kU,(aI d q).2)else if node<0\/4<node then(kU,2)else if (aI d q).1.epoch≠epoch then(kU,15)
 else if (aI d q).1.node=node then(kU,8)else if epoch=1048576 then(kU,14)else(d.set q.toNat ⟨node,epoch+1⟩,0)):=Lib.hid E
 have HZ:=Lib.hid (Ih (d:=d) (q:=q));generalize vP d q epoch node=r at*;generalize aI d q=a at*;obtain⟨⟨pn,pe⟩,z⟩:=a;obtain⟨⟨n0,e0⟩,⟨n1,e1⟩,⟨n2,e2⟩,⟨n3,e3⟩⟩:=d;unfold Dir.val at*
 try simp only at HC⊢
 go_enter func50,ntmps50
 go_wp2_with fail
 refine(HC.out _ (HN.out.on gQ)).mono ?_;rintro e w1 ⟨rfl,hb1⟩;have B0:=((gq.new w _ _).alloc _).below hb1 jQ;have B1:=(gq.new1 w _ _ _).below hb1 iQ;have hz0:w.heap.size<w1.heap.size:=B0.lt;have hz1:w.heap.size+1<w1.heap.size:=B1.lt;have HB1:Hid (Below w.heap.size w w1):=Lib.hid (Below.trans gQ (hb1.mono jQ))
 go_upto_region 2 with fail
 have C0:=B0.alloc (.cells #[.int .i64 pn,.int .i64 pe] 27);have C1:=B1.alloc (.cells #[.int .i64 pn,.int .i64 pe] 27);have C2:=gq.new w1 #[.int .i64 pn,.int .i64 pe] 27;have HB:Hid (Below w.heap.size w (w1.alloc (.cells #[.int .i64 pn,.int .i64 pe] 27))):=Lib.hid (HB1.out.alloc Y _);generalize hw2:w1.alloc (.cells #[.int .i64 pn,.int .i64 pe] 27)=w2 at C0 C1 C2 HB⊢;clear hw2 HB1;obtain⟨c0,c1,c2,c3,c4,c5,c6,c7,cf⟩:=C0.Cm;obtain⟨r0,r1,r2,r3,r4,r5,r6,r7,rf⟩:=C1.Cm;obtain⟨p0,p1,pf⟩:=C2.vH;have hne1:¬w1.heap.size=w.heap.size:=Y;have hne2:¬w1.heap.size=w.heap.size+1:=Y
 try simp only at HR HZ
 clear hb1;by_cases hz:z=0
 ·obtain⟨q0,q3,_,_,hpl⟩:=HZ.out hz;have hpe:pe<=1048576/\0<=pe:=by
   unfold yK at hpl;simp only at hpl;omega
  obtain⟨pe1,pe2⟩:=hpe;have HR2:=Lib.hid (HR.out.trans (if_neg (by simpa using hz)));subst hz;clear hpl HR;by_cases b1:node<0
  ·have e:=HR2.out;rw[if_pos Y]at e;subst e
   go_wp2_with fail
   refine bodyPost_ret (v:=.tuple #[.agg #[.int .i64 0,.int .i64 0,.int .i64 0,.int .i64 0,.int .i64 0,.int .i64 0,.int .i64 0,.int .i64 0],.int .i64 2]) (by simp[results,results50,go_sem,r0,r1,r2,r3,r4,r5,r6,r7]) E ?_;have hB:=HB.out;exact⟨E,by go_grown⟩
  by_cases b2:5<=node
  ·have e:=HR2.out;rw[if_pos Y]at e;subst e
   go_wp2_with fail
   refine bodyPost_ret (v:=.tuple #[.agg #[.int .i64 0,.int .i64 0,.int .i64 0,.int .i64 0,.int .i64 0,.int .i64 0,.int .i64 0,.int .i64 0],.int .i64 2]) (by simp[results,results50,go_sem,r0,r1,r2,r3,r4,r5,r6,r7]) E ?_;have hB:=HB.out;exact⟨E,by go_grown⟩
  have HR3:=Lib.hid (HR2.out.trans (if_neg Y));clear HR2;by_cases b3:pe=epoch
  ·have HR4:=Lib.hid (HR3.out.trans (if_neg (by simpa using b3)));subst b3;clear HR3;by_cases b4:pn=node
   ·have e:=HR4.out;rw[if_pos b4]at e;subst e;have t4:(pn==node)=true:=by simpa using b4
    clear b4
    go_wp2_with fail
    refine bodyPost_ret (v:=.tuple #[.agg #[.int .i64 0,.int .i64 0,.int .i64 0,.int .i64 0,.int .i64 0,.int .i64 0,.int .i64 0,.int .i64 0],.int .i64 8]) (by simp[results,results50,go_sem,r0,r1,r2,r3,r4,r5,r6,r7]) E ?_;have hB:=HB.out;exact⟨E,by go_grown⟩
   have HR5:=Lib.hid (HR4.out.trans (if_neg b4));have t4:(pn==node)=false:=by simpa using b4
   clear b4 HR4;by_cases b5:pe=1048576
   ·have e:=HR5.out;rw[if_pos b5]at e;subst e;subst b5
    go_wp2_with fail
    refine bodyPost_ret (v:=.tuple #[.agg #[.int .i64 0,.int .i64 0,.int .i64 0,.int .i64 0,.int .i64 0,.int .i64 0,.int .i64 0,.int .i64 0],.int .i64 14]) (by simp[results,results50,go_sem,r0,r1,r2,r3,r4,r5,r6,r7]) E ?_;have hB:=HB.out;exact⟨E,by go_grown⟩
   have e:=HR5.out;rw[if_neg b5]at e;subst e;have t5:(pe==1048576)=false:=by simpa using b5
   clear b5 HR5
   rcases(show q=0\/q=1\/q=2\/q=3 by omega)with rfl|rfl|rfl|rfl
   ·go_wp2_with fail
    refine bodyPost_ret (v:=.tuple #[.agg #[.int .i64 node,.int .i64 (pe+1),.int .i64 n1,.int .i64 e1,.int .i64 n2,.int .i64 e2,.int .i64 n3,.int .i64 e3],.int .i64 0]) (by simp[results,results50,go_sem,r0,r1,r2,r3,r4,r5,r6,r7,c0,c1,c2,c3,c4,c5,c6,c7]) E ?_;have hB:=HB.out;exact⟨E,by go_grown⟩
   ·go_wp2_with fail
    refine bodyPost_ret (v:=.tuple #[.agg #[.int .i64 n0,.int .i64 e0,.int .i64 node,.int .i64 (pe+1),.int .i64 n2,.int .i64 e2,.int .i64 n3,.int .i64 e3],.int .i64 0]) (by simp[results,results50,go_sem,r0,r1,r2,r3,r4,r5,r6,r7,c0,c1,c2,c3,c4,c5,c6,c7]) E ?_;have hB:=HB.out;exact⟨E,by go_grown⟩
   ·go_wp2_with fail
    refine bodyPost_ret (v:=.tuple #[.agg #[.int .i64 n0,.int .i64 e0,.int .i64 n1,.int .i64 e1,.int .i64 node,.int .i64 (pe+1),.int .i64 n3,.int .i64 e3],.int .i64 0]) (by simp[results,results50,go_sem,r0,r1,r2,r3,r4,r5,r6,r7,c0,c1,c2,c3,c4,c5,c6,c7]) E ?_;have hB:=HB.out;exact⟨E,by go_grown⟩
   go_wp2_with fail
   refine bodyPost_ret (v:=.tuple #[.agg #[.int .i64 n0,.int .i64 e0,.int .i64 n1,.int .i64 e1,.int .i64 n2,.int .i64 e2,.int .i64 node,.int .i64 (pe+1)],.int .i64 0]) (by simp[results,results50,go_sem,r0,r1,r2,r3,r4,r5,r6,r7,c0,c1,c2,c3,c4,c5,c6,c7]) E ?_;have hB:=HB.out;exact⟨E,by go_grown⟩
  have e:=HR3.out;rw[if_pos (by simpa using b3)]at e;subst e;have t3:(pe==epoch)=false:=by simpa using b3
  have t3':(pe != epoch)=true:=by simpa using b3
  clear b3
  go_wp2_with fail
  refine bodyPost_ret (v:=.tuple #[.agg #[.int .i64 0,.int .i64 0,.int .i64 0,.int .i64 0,.int .i64 0,.int .i64 0,.int .i64 0,.int .i64 0],.int .i64 15]) (by simp[results,results50,go_sem,r0,r1,r2,r3,r4,r5,r6,r7]) E ?_;have hB:=HB.out;exact⟨E,by go_grown⟩
 have e:=HR.out;rw[if_pos hz]at e;subst e;have t0:(z==0)=false:=by simpa using hz
 have t0':(z != 0)=true:=by simpa using hz
 clear hz
 go_wp2_with fail
 refine bodyPost_ret (v:=.tuple #[.agg #[.int .i64 0,.int .i64 0,.int .i64 0,.int .i64 0,.int .i64 0,.int .i64 0,.int .i64 0,.int .i64 0],.int .i64 z]) (by simp[results,results50,go_sem,r0,r1,r2,r3,r4,r5,r6,r7]) E ?_;have hB:=HB.out;exact⟨E,by go_grown⟩
instance:zC Ac where
 size:=11
 ints x:=x.ints
 of l:=⟨l.getD 0 0,l.getD 1 0,l.getD 2 0,l.getD 3 0,l.getD 4 0,l.getD 5 0,l.getD 6 0,l.getD 7 0,l.getD 8 0,l.getD 9 0,l.getD 10 0⟩
 pos:=Y
 len _:=rfl
 inv xs h:=by
  obtain⟨a1,xs,rfl⟩:=exists_cons_of_length_eq_add_one h;obtain⟨a2,xs,rfl⟩:=exists_cons_of_length_eq_add_one (Nat.succ.inj h);have h:=Nat.succ.inj (Nat.succ.inj h);obtain⟨a3,xs,rfl⟩:=exists_cons_of_length_eq_add_one h;obtain⟨a4,xs,rfl⟩:=exists_cons_of_length_eq_add_one (Nat.succ.inj h);have h:=Nat.succ.inj (Nat.succ.inj h);obtain⟨a5,xs,rfl⟩:=exists_cons_of_length_eq_add_one h;obtain⟨a6,xs,rfl⟩:=exists_cons_of_length_eq_add_one (Nat.succ.inj h);have h:=Nat.succ.inj (Nat.succ.inj h);obtain⟨a7,xs,rfl⟩:=exists_cons_of_length_eq_add_one h;obtain⟨a8,xs,rfl⟩:=exists_cons_of_length_eq_add_one (Nat.succ.inj h);have h:=Nat.succ.inj (Nat.succ.inj h);obtain⟨a9,xs,rfl⟩:=exists_cons_of_length_eq_add_one h;obtain⟨a10,xs,rfl⟩:=exists_cons_of_length_eq_add_one (Nat.succ.inj h);have h:=Nat.succ.inj (Nat.succ.inj h);obtain⟨a11,xs,rfl⟩:=exists_cons_of_length_eq_add_one h;obtain rfl:=eq_nil_of_length_eq_zero (Nat.succ.inj h);rfl
def PZ {t z:Int}{f:Nat->Bool}:∀ {k:Nat},z∈jE t f k-> ∃j,j<k/\f j=true/\z=t-8+j
 | 0,h=>by simp[jE]at h
 |k+1,h=>by
  unfold jE at h
  split at h
  ·rename_i J
   rcases mem_append.1 h with h|h
   ·obtain⟨j,h1,I⟩:=PZ h;exact⟨j,by omega,I⟩
   rw[mem_singleton]at h;exact⟨k,by omega,J,h⟩
  obtain⟨j,h1,I⟩:=PZ h;exact⟨j,by omega,I⟩
def agA {t:Int}{bs:List Bool}{i:Nat}(hi:i<8):(adN t bs).at i=bs.getD i false:=by
 have h:i=0\/i=1\/i=2\/i=3\/i=4\/i=5\/i=6\/i=7:=Y
 rcases h with rfl|rfl|rfl|rfl|rfl|rfl|rfl|rfl<;>rfl
def aqO {x:kY}{id:Int}(h:(qI x id).2=0):dN (CO x id)=0:=by
 obtain⟨h1,h2,h3⟩:=Gg h;have h0:=sj h1;have J:=Qx h1;have hx:E9 x.top x.at=true:=by
  unfold dN at h1
  split at h1
  ·rename_i O
   simp only[Bool.and_eq_true]at O;exact O.1.2
  cases h1
 have Z:(CO x id).top=max x.top (id+1):=rfl;have M:∀i,i<8->(CO x id).at i=decide (max x.top (id+1)-8+i∈jE x.top x.at 8++[id]):=λi hi=>by
  unfold CO;rw[agA hi,XL _ _ _ hi]
 unfold dN;refine if_pos ?_;have hw:E9 (CO x id).top (CO x id).at=true:=rC.2 λk hk I=>by
  rw[M k hk,decide_eq_true_eq]at I;rw[Z]
  rcases mem_append.1 I with I|I
  ·obtain⟨j,j1,j2,j3⟩:=PZ I;have:=rC.1 hx j j1 j2;omega
  rw[mem_singleton]at I;omega
 have h7:(CO x id).b7=true:=by
  show(CO x id).at 7=true
  rw[M 7 Y,decide_eq_true_eq];by_cases c:x.top<=id
  ·rw[show max x.top (id+1)=id+1 by omega];exact mem_append_right _ (by rw[mem_singleton];omega)
  rw[show max x.top (id+1)=x.top by omega];refine mem_append_left _ ?_
  rcases J with⟨h4,_⟩|⟨_,h5,h6⟩
  ·omega
  have:=getLast_mem h5;rw[getLastD_eq_getLast?,getLast?_eq_some_getLast h5,Option.getD_some]at h6;rw[h6]at this;rwa [show x.top-8+((7:Nat):Int)=x.top-1 by omega]
 rw[hw,h7,Z];simp only[Bool.and_true,Bool.or_true,Bool.and_eq_true,decide_eq_true_eq];omega
def akG {x:kY}{id:Int}(h:(iY x id).2.2=0)(h1:(iY x id).2.1=true):dN (iY x id).1=0:=by
 unfold iY at h h1⊢;by_cases c1:(qI x id).2≠0
 ·rw[if_pos c1]at h;exact absurd h c1
 rw[if_neg c1]at h h1⊢;by_cases c2:(qI x id).1=true
 ·rw[if_pos c2]at h1;cases h1
 rw[if_neg c2];exact aqO (Classical.not_not.1 c1)
section
variable {ep nx gv p:Int}{rs:List gy}{ls:List Ls}{W:kK}
def Eb:∀ {rs:List gy} {p:Int},ko nx p rs=true↔(∀x∈rs,rD nx x=true/\p<x.no)/\rs.Pairwise λa b=>a.no<b.no
 |[],p=>by simp[ko]
 |m::r,p=>by
  simp only[ko,Bool.and_eq_true,decide_eq_true_eq,Eb (rs:=r),pairwise_cons,mem_cons,forall_eq_or_imp]
  constructor
  ·rintro⟨⟨h1,J⟩,I,M⟩;exact⟨⟨⟨h1,J⟩,λx h=>⟨(I x h).1,Int.lt_trans J (I x h).2⟩⟩,λx h=>(I x h).2,M⟩
  rintro⟨⟨⟨h1,J⟩,I⟩,M,O⟩;exact⟨⟨h1,J⟩,λx h=>⟨(I x h).1,M x h⟩,O⟩
def JI:∀ {ls:List Ls} {p:Int},lV ep nx gv p ls=true↔(∀x∈ls,rD nx x.msg=true/\x.fG=ep/\p<x.hno/\x.hno<gv)/\ls.Pairwise λa b=>a.hno<b.hno
 |[],p=>by simp[lV]
 |m::r,p=>by
  simp only[lV,LK,Bool.and_eq_true,decide_eq_true_eq,JI (ls:=r),pairwise_cons,mem_cons,forall_eq_or_imp]
  constructor
  ·rintro⟨⟨h1,O,J,h⟩,M,Z⟩;exact⟨⟨⟨h1,O,J,h⟩,λx I=>⟨(M x I).1,(M x I).2.1,Int.lt_trans J (M x I).2.2.1,(M x I).2.2.2⟩⟩,λx I=>(M x I).2.2.1,Z⟩
  rintro⟨⟨⟨h1,O,J,h⟩,M⟩,Z,h5⟩;exact⟨⟨h1,O,J,h⟩,λx I=>⟨(M x I).1,(M x I).2.1,Z x I,(M x I).2.2.2⟩,h5⟩
def Tj {I:Int}{m:gy}(h:rD nx m=true)(hn:nx<=I):rD I m=true:=by
 have:=wZ h;exact decide_eq_true Y
def Rb (h:RU ep nx gv rs ls)(h1:zG W)(I:ko nx (-1) rs=true)(J:lV ep nx gv (-1) ls=true)(M:(nY rs ls).Nodup):fZ ep nx gv rs ls W=0:=by
 unfold fZ;rw[if_neg (λe=>e h),if_neg (λe=>e h1),if_pos ⟨I,J,M⟩]
def agB {k:Nat}{y:kY}(h:zG W)(M:dN y=0)(hk:k<4):zG (W.put k y):=λj hj=>by
 have O:=h 0 Y;have h1:=h 1 Y;have Z:=h 2 Y;have h3:=h 3 Y;have I:k=0\/k=1\/k=2\/k=3:=Y;have J:j=0\/j=1\/j=2\/j=3:=Y
 rcases I with rfl|rfl|rfl|rfl<;>rcases J with rfl|rfl|rfl|rfl<;>first|exact M|exact O|exact h1|exact Z|exact h3
def Kg {m:gy}:∀ {l:List gy},(kr m l).Perm (m::l)
 |[]=>.refl _
 |x::l=>by
  unfold kr
  split
  ·exact .refl _
  exact((Kg (l:=l)).cons x).trans (.swap m x l)
def ZL {m:gy}:∀ {l:List gy},rE l->rE (kr m l)
 |[],_=>pairwise_singleton _ _
 |x::l,h=>by
  obtain⟨h1,J⟩:=pairwise_cons.1 h;unfold kr
  split
  ·rename_i M
   refine pairwise_cons.2 ⟨λy I=>?_,h⟩
   rcases mem_cons.1 I with rfl|I
   ·omega
   have:=h1 y I;omega
  rename_i M
  refine pairwise_cons.2 ⟨λy I=>?_,ZL J⟩
  rcases mem_cons.1 (Kg.mem_iff.1 I)with rfl|I
  ·omega
  exact h1 y I
def Ou:∀(ls:List Ls) (rs:List gy),(ls.foldl (λl x=>kr x.msg l) rs).Perm (rs++ls.map (·.msg))
 |[],rs=>by simp
 |x::ls,rs=>by
  refine(Ou ls (kr x.msg rs)).trans ?_;refine(Kg.append_right _).trans ?_;rw[map_cons];exact(perm_middle).symm
def Tk:∀(ls:List Ls) (rs:List gy),rE rs->rE (ls.foldl (λl x=>kr x.msg l) rs)
 |[],rs,h=>h
 |x::ls,rs,h=>Tk ls _ (ZL h)
def Yr {l:List gy}(h:rE l)(hn:(l.map (·.no)).Nodup):l.Pairwise λa b=>a.no<b.no:=by
 have I:l.Pairwise λa b=>a.no≠b.no:=pairwise_map.1 hn;exact(h.and I).imp λh=>by omega
end
def agC {Q:Qd}{e:Ev}(h:Q.fault=0)(he:aX e=0):(stepM Q e).1.fault=0:=by
 obtain⟨hr,hw,h2,h3,M⟩:=PV h;have hp:=Zq he;obtain⟨ep,nx,gv,rs,ls,W⟩:=Q;dsimp only at hr hw h2 h3 M;obtain⟨r1,r2,r3,r4,r5,r6,r7⟩:=hr;obtain⟨a1,a2⟩:=Eb.1 h2;obtain⟨b1,b2⟩:=JI.1 h3;unfold stepM
 split
 ·unfold BG
  split
  ·exact h
  split
  ·exact h
  split
  ·exact h
  rename_i k1 k2 k3 k4
  dsimp only at k2 k3 k4⊢;have hlt:∀z∈nY rs ls,z<nx:=λz Z=>by
   unfold nY at Z
   rcases mem_append.1 Z with Z|Z
   ·obtain⟨x,I,rfl⟩:=mem_map.1 Z;exact(wZ (a1 x I).1).2.1
   obtain⟨x,I,rfl⟩:=mem_map.1 Z;exact(wZ (b1 x I).1).2.1
  have hbd:0<=e.body/\e.body<=1000000:=by
   unfold aX at he
   repeat' split at he
   all_goals first
    |(cases he;done)
    |(simp only[kJ,Bool.and_eq_true,decide_eq_true_eq,not_and,Classical.not_not]at*;omega)
  show fZ ep (nx+1) gv (rs++[⟨nx,e.body⟩]) ls (W.put e.producer.toNat (iY (W.at e.producer.toNat) e.id).1)=0
  refine Rb ⟨r1,r2,by omega,by omega,r5,r6,by rw[length_append,length_singleton];omega⟩ (agB hw (akG (Classical.not_not.1 k2) (by simpa using k3)) Y) (Eb.2 ⟨λx I=>?_,?_⟩) (JI.2 ⟨λx I=>⟨Tj (b1 x I).1 Y,(b1 x I).2⟩,b2⟩) ?_
  ·rcases mem_append.1 I with I|I
   ·exact⟨Tj (a1 x I).1 Y,(a1 x I).2⟩
   rw[mem_singleton]at I;subst I;exact⟨decide_eq_true uQ,by dsimp only;omega⟩
  ·refine pairwise_append.2 ⟨a2,pairwise_singleton _ _,λx I y O=>?_⟩;rw[mem_singleton]at O;subst O;exact hlt _ (mem_append_left _ (mem_map_of_mem I))
  have:(nY (rs++[⟨nx,e.body⟩]) ls).Perm (nx::nY rs ls):=by
   unfold nY;rw[map_append,append_assoc];exact perm_middle
  exact this.nodup_iff.2 (nodup_cons.2 ⟨λhm=>by have:=hlt _ hm;omega,M⟩)
 split
 ·unfold Gl;dsimp only
  split
  ·exact h
  rename_i m rest
  split
  ·exact h
  rename_i k1
  obtain⟨a3,a4⟩:=pairwise_cons.1 a2;have hm:=a1 m iQ
  show fZ ep nx (gv+1) rest (ls++[⟨ep,gv,m⟩]) W=0
  refine Rb ⟨r1,r2,r3,r4,by omega,by omega,by rw[length_append,length_singleton];rw[length_cons]at r7;omega⟩ hw (Eb.2 ⟨λx I=>a1 x (by simp[I]),a4⟩) (JI.2 ⟨λx I=>?_,?_⟩) ?_
  ·rcases mem_append.1 I with I|I
   ·have:=b1 x I;exact⟨this.1,this.2.1,this.2.2.1,by omega⟩
   rw[mem_singleton]at I;subst I;exact⟨hm.1,E,by dsimp only;omega,by dsimp only;omega⟩
  ·refine pairwise_append.2 ⟨b2,pairwise_singleton _ _,λx I y O=>?_⟩;rw[mem_singleton]at O;subst O;exact(b1 x I).2.2.2
  refine(Perm.nodup_iff ?_).1 M;unfold nY;rw[map_cons,map_append,cons_append,<-append_assoc];exact(perm_append_comm (l₁:=[m.no]) (l₂:=rest.map (·.no)++ls.map (·.msg.no)))
 split
 ·unfold Ew;dsimp only
  split
  ·exact h
  split
  ·exact h
  have J:(ls.filter λx=>decide (x.hno≠e.hno)).Sublist ls:=filter_sublist
  show fZ ep nx gv rs (ls.filter λx=>decide (x.hno≠e.hno)) W=0
  refine Rb ⟨r1,r2,r3,r4,r5,r6,by have:=J.length_le;omega⟩ hw h2 (JI.2 ⟨λx I=>b1 x (J.subset I),b2.sublist J⟩) ?_;unfold nY at M⊢;exact M.sublist ((Sublist.refl _).append (J.map _))
 unfold Ey;dsimp only
 split
 ·exact h
 have hP:=Ou ls rs;have hlen:=hP.length_eq;rw[length_append,length_map]at hlen;have hnn:((ls.foldl (λl x=>kr x.msg l) rs).map (·.no)).Nodup:=by
  refine((hP.map (·.no)).nodup_iff).2 ?_;unfold nY at M;rw[map_append,map_map];exact M
 show fZ (ep+1) nx 0 (ls.foldl (λl x=>kr x.msg l) rs) [] W=0
 refine Rb ⟨by omega,by omega,r3,r4,by omega,by omega,by rw[length_nil];omega⟩ hw (Eb.2 ⟨λx I=>?_,Yr (Tk ls rs (a2.imp λh=>Int.le_of_lt h)) hnn⟩) E ?_
 ·rcases mem_append.1 (hP.mem_iff.1 I)with I|I
  ·exact a1 x I
  obtain⟨y,O,rfl⟩:=mem_map.1 I;have:=(b1 y O).1;exact⟨this,by have:=wZ this;omega⟩
 unfold nY;rw[map_nil,append_nil];exact hnn
def aqP {Q:Qd}{e:Ev}(h:(iK Q e).2.2.2=0):(iK Q e).1.fault=0:=by
 by_cases c1:Q.fault=0
 ·by_cases c2:aX e=0
  ·rw[zk c1 c2];exact agC c1 c2
  rw[QE c1 c2]at h;exact absurd h c2
 rw[Mt c1]at h;exact absurd h c1
def abX:dW.fault=0:=by
 refine Rb ⟨by decide,by decide,by decide,by decide,by decide,by decide,by decide⟩ (λj I=>?_) E E nodup_nil;have h:j=0\/j=1\/j=2\/j=3:=Y
 rcases h with rfl|rfl|rfl|rfl<;>decide
end
section
open ChangeShapes WideShapes ChangeAt RowKit
def pR:Char:=Char.ofNat 32
def Vk (b:List Char):wordsSigns (pR::b)=[]::wordsSigns b:=rfl
def yR:∀(a b:List Char),a.all (λc=> !(c==pR))=true->wordsSigns (a++pR::b)=a::wordsSigns b
 |[],b,_=>Vk b
 |c::a,b,h=>by
  simp only[all_cons,Bool.and_eq_true,Bool.not_eq_true',beq_eq_false_iff_ne]at h;have I:=yR a b h.2;rw[cons_append,wordsSigns,I];intro e;exact h.1 e
def Yt {l:List Char}(h1:l.take 8= "harness".toList++[pR])(h:((l.drop 8).take 64).all (λc=> !(c==pR))=true)(J:(l.drop 72).take 5=[pR]++("cut".toList++[pR])):
  ∃s rest,s=(l.drop 8).take 64/\wordsSigns l= "harness".toList::s:: "cut".toList::rest:=by
 refine⟨_,wordsSigns (l.drop 77),E,?_⟩;generalize hs:(l.drop 8).take 64=s at h;have I:l= "harness".toList++pR::(s++pR::("cut".toList++pR::l.drop 77)):=by
  have a1:l.take 8++l.drop 8=l:=take_append_drop 8 l;have a2:(l.drop 8).take 64++(l.drop 8).drop 64=l.drop 8:=take_append_drop 64 _;have a3:(l.drop 72).take 5++(l.drop 72).drop 5=l.drop 72:=take_append_drop 5 _;rw[drop_drop]at a2 a3;rw[J]at a3;rw[h1]at a1;rw[hs]at a2
  calc l=_:=a1.symm
   _=_:=by rw[<-a2,show 8+64=72 from E,<-a3];simp
 generalize l.drop 77=r at I;rw[I,yR _ _ dQ,yR _ _ h,yR _ _ dQ]
def Ov (rest:List (List Char)):stripLifts liftWords ("cut".toList::rest)=([], "cut".toList::rest):=by
 unfold liftWords
 repeat (rw[stripLifts,if_neg dQ])
 rw[stripLifts]
section
variable {P:Program}{s:List Char}{rest:List (List Char)}(hw:wordsSigns P.initOrder.toList= "harness".toList::s:: "cut".toList::rest)(hs:isSumSigns s=true)
include hw hs
def yS:behindMainWord (wordsSigns P.initOrder.toList)= "cut".toList::rest:=by
 rw[hw,behindMainWord,if_pos (by rw[hs];decide)]
def Rc (h1:P.laysLater=false)(h:P.bearsReflect=false)(I:P.doorFits []=true):P.mayEnter=true:=by
 unfold Program.mayEnter;rw[yS hw hs];simp only;rw[Ov];simp only[h1,h];rw[I];simp
def M9:P.headLifts=[]:=by
 unfold Program.headLifts;rw[yS hw hs,Ov];rfl
def Md:P.liftsFinal=false:=by
 unfold Program.liftsFinal;rw[M9 hw hs,yS hw hs];simp only[head?_cons];rw[show(some "cut".toList==some "carried".toList)=false by decide]
 rfl
def agD:P.make=some .cut:=by
 unfold Program.make;rw[yS hw hs];simp only;rw[if_neg dQ,if_pos (by rw[show("cut".toList== "cut".toList)=true by decide];rfl)]
end
def agE {P:Program}{s t:List Char}{rest:List (List Char)}(hw:wordsSigns P.initOrder.toList= "harness".toList::s::rest)(hs:isSumSigns s=true)(e:s=t):P.mainIs=some (true,t):=by
 subst e;unfold Program.mainIs;rw[hw];simp[hs]
def P5 (P:Program)(f:FuncId)(fn:Func)(s:ChangeSpec)(c:OpenClaim):Bool:=
 c.wf (OpenSpec.ofChange s)&&laidOutB P&&mapsRowed P&&
 fn.params.all (P.readableRec ·)&&namedTie P c.named s.vars&&
 (c.stops==[])&&(P.stops==[])&&(c.knobs==[])&&(P.stopKnobs==[])&&
 (c.inPlace==P.inPlace f)&&(c.unfollowed==P.unfollowed f)&&(c.recurses==P.recurses f)&&(c.named==P.varsNamed f)&&
 (c.maps==(fn.params.toList++s.plain.varTypes P).any (P.mapsRec ·))&&(c.ifaces==(fn.params.toList++s.plain.varTypes P).any (P.ifacesRec ·))&&(c.mapsOut==P.mapsAmong fn.resultTypes.toList)&&
 (c.loops==(fn.params.toList++s.plain.varTypes P).any (P.loopsFrom ·))&&(c.wideKeys==(fn.params.toList++s.plain.varTypes P++fn.resultTypes.toList).any (P.wideKeysFrom ·))&&
 s.vars.all (P.varReadable ·)&&fn.resultTypes.all (λt=>P.readableRec t&&decide (t<P.types.size))&&(c.ifacesOut==fn.resultTypes.toList.any (P.ifacesRec ·))&&(c.loopsOut==fn.resultTypes.toList.any (P.loopsFrom ·))&&(c.plainKeys==P.plainKeys)&&c.shortTexts.isNone&&P.stopsHeard
def abY {P:Program}{f:FuncId}{fn:Func}{s:ChangeSpec}{c:OpenClaim}(h:P5 P f fn s c=true)(h1:P.mayEnter=true)(I:(c.lifted==P.liftsFinal)=true)(J:(P.make==some c.make)=true)
  (M:((c.kinds==(if c.domain.isEmpty then[]else fn.params.toList.map λt=>match P.underlying t with|some (.int k)=>some k|_=>none))&&(c.pinned==c.pinnedBy)&&
   (c.veiled==(fn.params.toList++s.plain.varTypes P++fn.resultTypes.toList).any (P.veiledRec ·))&&c.veiledFits P fn.params.toList (fn.params.toList++s.plain.varTypes P++fn.resultTypes.toList))=true):joinedFacts P f fn s c=true:=by
 have e:joinedFacts P f fn s c=(P5 P f fn s c&&P.mayEnter&&(c.lifted==P.liftsFinal)&&(P.make==some c.make)&&(c.kinds==(if c.domain.isEmpty then[]else fn.params.toList.map λt=>match P.underlying t with|some (.int k)=>some k|_=>none))&&(c.pinned==c.pinnedBy)&&
   (c.veiled==(fn.params.toList++s.plain.varTypes P++fn.resultTypes.toList).any (P.veiledRec ·))&&c.veiledFits P fn.params.toList (fn.params.toList++s.plain.varTypes P++fn.resultTypes.toList)):=rfl
 rw[e,h,h1,I,J];simpa using M
def abZ:∃l:List Char,prog.initOrder.toList=l/\l.take 8= "harness".toList++[pR]/\((l.drop 8).take 64).all (λc=> !(c==pR))=true/\(l.drop 72).take 5=[pR]++("cut".toList++[pR])/\isSumSigns ((l.drop 8).take 64)=true/\(l.drop 8).take 64= "6fe912de042e0117d9696fbd5412dddc085af7f5c1166ba28784109a3e82b126".toList:=by
 rw[show prog.initOrder=tables.initOrder by kernel_rfl];unfold tables;simp only[];exact⟨_,String.toList_ofList,by kernel_rfl,by kernel_rfl,by kernel_rfl,by kernel_rfl,by kernel_rfl⟩
def BQ:∃s rest,wordsSigns prog.initOrder.toList= "harness".toList::s:: "cut".toList::rest/\isSumSigns s=true/\s= "6fe912de042e0117d9696fbd5412dddc085af7f5c1166ba28784109a3e82b126".toList:=by
 obtain⟨l,e,h1,h,I,J,M⟩:=abZ;obtain⟨s,rest,es,hw⟩:=Yt h1 h I;subst es;exact⟨_,rest,by rw[e];exact hw,J,M⟩
def Yu:prog.laysLater=false:=kQ
def Rf:prog.bearsReflect=false:=kQ
def Yv:prog.doorFits []=true:=kQ
def Yw:prog.mayEnter=true:=by
 obtain⟨s,rest,hw,hs,_⟩:=BQ;exact Rc hw hs Yu Rf Yv
def Yx:(false==prog.liftsFinal)=true:=by
 obtain⟨s,rest,hw,hs,_⟩:=BQ;rw[Md hw hs];rfl
def ab0:(prog.make==some .cut)=true:=by
 obtain⟨s,rest,hw,hs,_⟩:=BQ;rw[agD hw hs]
 decide
def ab1:prog.mainIs=some (true, "6fe912de042e0117d9696fbd5412dddc085af7f5c1166ba28784109a3e82b126".toList):=by
 obtain⟨s,rest,hw,hs,e⟩:=BQ;exact agE hw hs e
def Yy:true=Tryz.pinned.checked.prog.looks []:=kQ
end
end Go.Proofs.YtefabpdniidmbaaGreatDoor
