import Derived.Test.YtefabpdniidmbaaGreatDoorG30fb2
import Derived.Test.YtefabpdniidmbaaGreatDoorG33e83
import Derived.Test.YtefabpdniidmbaaGreatDoorG6094f
set_option linter.all false
set_option maxRecDepth 100000
set_option maxHeartbeats 8000000
namespace Go.Proofs.YtefabpdniidmbaaGreatDoor
open List Nat Go.Proofs.Tryz ChangeShapes WideShapes RowKit
def sU(l:List UInt8):Int:=l.foldl (λs c=>s*256+(c.toNat:Int)) 0
def aeY(l:List UInt8)(c:UInt8):sU (l++[c])=sU l*256+c.toNat:=by simp[sU]
def anO:∀(l:List UInt8),l.length<=4->0<=sU l/\sU l<=4294967295
 |[],_=>by simp[sU]
 |[a],_=>by have:=Uj a;simp[sU];omega
 |[a,b],_=>by have:=Uj a;have:=Uj b;simp[sU];omega
 |[a,b,c],_=>by have:=Uj a;have:=Uj b;have:=Uj c;simp[sU];omega
 |[a,b,c,d],_=>by have:=Uj a;have:=Uj b;have:=Uj c;have:=Uj d;simp[sU];omega
 |_::_::_::_::_::_,h=>by simp at h
def E9:dN×Nat:=(sJ,0)
def dS(b:List UInt8):Nat:=match b with
 |x::y::_=>x.toNat*256+y.toNat
 |_=>0
def PV(b:List UInt8):dN×Nat:=
 if b.length<2 then E9 else if b.length<dS b+6 then E9 else if sU ((b.drop (2+dS b)).take 4)≠Cz (b.take (2+dS b))then E9
 else if (wo ((b.drop 2).take (dS b))).2≠0 then E9 else((wo ((b.drop 2).take (dS b))).1,dS b+6)
section
variable {b:List UInt8}
def Ca(h:b.length<2):PV b=E9:=au h
def NY(h:¬b.length<2)(h1:b.length<dS b+6):PV b=E9:=by unfold PV;rw[ah h,au h1]
def aaY(h:¬b.length<2)(h1:¬b.length<dS b+6)(I:sU ((b.drop (2+dS b)).take 4)≠Cz (b.take (2+dS b))):PV b=E9:=by unfold PV;rw[ah h,ah h1,au I]
def aaZ(h:¬b.length<2)(h1:¬b.length<dS b+6)(I:sU ((b.drop (2+dS b)).take 4)=Cz (b.take (2+dS b)))(J:(wo ((b.drop 2).take (dS b))).2≠0):PV b=E9:=by
 unfold PV;rw[ah h,ah h1,ah (by simpa using I),au J]
def QZ(h:¬b.length<2)(h1:¬b.length<dS b+6)(I:sU ((b.drop (2+dS b)).take 4)=Cz (b.take (2+dS b)))(J:(wo ((b.drop 2).take (dS b))).2=0):PV b=((wo ((b.drop 2).take (dS b))).1,dS b+6):=by
 unfold PV;rw[ah h,ah h1,ah (by simpa using I),ah (by simpa using J)]
def zW:(PV b).2<=b.length:=by
 unfold PV E9
 split
 ·exact aG _
 split
 ·exact aG _
 split
 ·exact aG _
 split
 ·exact aG _
 simp;omega
def auA{x y:UInt8}(I:b[0]? =some x)(h:b[1]? =some y):dS b=x.toNat*256+y.toNat:=by
 match b,I,h with
 |x'::J::r,I,h=>
  simp at I h;subst I;subst h;rfl
 |[_],_,h=>simp at h
def tT:Nat->List UInt8->List dN×Nat
 | 0,_=>([],0)
 |f+1,b=>if (PV b).2=0 then([],0)else((PV b).1::(tT f (b.drop (PV b).2)).1,(PV b).2+(tT f (b.drop (PV b).2)).2)
def Ko:∀(f g:Nat) (b:List UInt8),b.length<f->b.length<g->tT f b=tT g b
 | 0,_,b,h,_=>av h Y
 |_,0,b,_,h=>av h Y
 |f+1,g+1,b,hf,hg=>by
  unfold tT;by_cases h:(PV b).2=0
  ·rw[au h,au h]
  rw[ah h,ah h,Ko f g _ (by rw[dO];have:= @zW b;omega) (by rw[dO];have:= @zW b;omega)]
def dB(b:List UInt8):List dN×Nat:=tT (b.length+1) b
def Kq{b:List UInt8}(h:(PV b).2=0):dB b=([],0):=by unfold dB tT;rw[au h]
def Q0{b:List UInt8}(h:¬(PV b).2=0):dB b=((PV b).1::(dB (b.drop (PV b).2)).1,(PV b).2+(dB (b.drop (PV b).2)).2):=by
 unfold dB;rw[tT,ah h,Ko b.length ((b.drop (PV b).2).length+1) _ (by rw[dO];have:= @zW b;omega) Y]
def Q5:∀(f:Nat) (b:List UInt8),(tT f b).2<=b.length/\(tT f b).1.length<=b.length
 | 0,b=>by simp[tT]
 |f+1,b=>by
  unfold tT
  split
  ·simp
  rename_i h
  have h1:=Q5 f (b.drop (PV b).2);rw[dO]at h1;have I:= @zW b;simp;omega
def xA(l:List UInt8)(s:Int):List dN×Nat×Int:=if dX l s=true then((dB l).1,(dB l).2,0)else([],0,6)
def dN.cells(r:dN):List Value:=[D r.kind,D r.Qg,D r.ME,D r.UE,D r.ev.kind,D r.ev.OU,D r.ev.id,D r.ev.body,D r.ev.OZ,D r.ev.PX]
def ajh(w:World)(r:List dN×Nat×Int)(e:Ending)(w':World):Prop:=
 ∃A c,e=.returned (.tuple #[.slice A r.1.length c,D (r.2.1:Int),D r.2.2])/\St w.heap.size w w' [.own 138 10 (.slice A r.1.length c) r.1.length (r.1.flatMap dN.cells)]
def OP(x:UInt8):List Value:=[.int .u8 x.toNat]
def V8(l:List UInt8):Jq l=l.flatMap OP:=by
 induction l with
 |nil=>rfl
 |cons a l h=>rw[nM,<-h];rfl
def axq{w:World}{B:Nat}{A:Option Addr}{n:Nat}{l:List UInt8}(h:Rd w B 1 A n (Jq l)):Rd w B 1 A n (l.flatMap OP):=V8 l▸h
def ari{w:World}{B:Nat}{A:Option Addr}{n:Nat}{l:List UInt8}(h:Rd w B 1 A n (l.flatMap OP)):Rd w B 1 A n (Jq l):=(V8 l).symm▸h
def ahB{l:List UInt8}:(l.take 4).take 4=l.take 4:=by simp[take_take]
def aeZ{l:List UInt8}{k:Nat}{x:UInt8}(h:l[k]? =some x):sU (l.take k)*256+(x.toNat:Int)=sU (l.take (k+1)):=by
 rw[qY,h,<-aeY];rfl
def ae0(w:World)(r:dN×Nat)(e:Ending)(w':World):Prop:=e=.returned (.tuple #[r.1.val,D (r.2:Int)])/\Below w.heap.size w w'
def Yc(A:Option Addr)(c:Nat)(b:List UInt8)(w:World)(h:Rd w w.heap.size 1 A b.length (Jq b))(hn:b.length<=c)(hcm:c<=9223372036854775807)(hb:b.length<=100000):
 Calls prog 58 #[.slice A b.length c] w (ae0 w (PV b)):=by
 have S:=(St.start w).dJ (axq h);refine jc 69 func58 ?_;refine cw [0] ?_;refine zN 2 ?_;refine iU S zn ?_;intro b1 w2 S3;refine zN 8 ?_;by_cases h4:(b.length:Int)<2
 ·refine zN 7 ?_;refine sa 0 S3 kQ ?_;intro w5 S6;refine zN 6 ?_;exact⟨by rw[Ca Y];rfl,S6.Qe⟩
 refine zN 7 ?_;refine je S3 mixed kQ ?_;refine zQ ?_;obtain⟨b8,o9,rfl⟩:=Rd.addr (St.rd 1 S3 E) Y;obtain⟨I,axr⟩:=NA 0 (St.rd 1 S3 E) Y;refine uv (λ_ _=>nC 0) ?_;refine uv (v:=.int .u8 ((I).toNat:Int)) (λ_ Vq=>(aA E E (aV (Rd.cl2 (i:=0) (St.rd 1 Vq E) (dF (enc:=OP) (sz:=1) (λ_=>E) axr E))))) ?_;refine uv (v:=D ((I).toNat:Int)) (λ_ _=>(Js E E (SL (a:=I) E kQ))) ?_;have aOB:=Uj I;refine uv (v:=D (((I).toNat:Int)*256)) (λ_ _=>(cK E E E (ahk E Y Y))) ?_;refine uv (v:=D (2+(((I).toNat:Int)*256))) (λ_ _=>jW) ?_;refine zQ ?_;obtain⟨M,axt⟩:=NA 1 (St.rd 1 S3 E) Y;refine uv (λ_ _=>nC 1) ?_;refine uv (v:=.int .u8 ((M).toNat:Int)) (λ_ JA=>(aA E E (aV (Rd.cl2 (i:=0) (St.rd 1 JA E) (dF (enc:=OP) (sz:=1) (λ_=>E) axt E))))) ?_;refine uv (v:=D ((M).toNat:Int)) (λ_ _=>(Js E E (SL (a:=M) E kQ))) ?_;have aOC:=Uj M;have aOD:=auA axr axt;have aOE:dS b<=65535:=Y;refine uv (v:=D ((2+dS b:Nat):Int)) (λ_ _=>(cK E E E (by rw[show((2+dS b:Nat):Int)=2+(((I).toNat:Int)*256)+((M).toNat:Int) by omega];exact agA Y Y))) ?_;refine zQ ?_;refine jB λYQ vT=>?_;refine zN 7 ?_;refine vv (v:=D (((2+dS b)+4:Nat):Int)) jW ?_;by_cases h30:(b.length:Int)< (((2+dS b)+4:Nat):Int)
 ·refine zN 7 ?_;refine sa 0 vT kQ ?_;intro w31 wP;refine zN 6 ?_;exact⟨by rw[NY Y Y];rfl,wP.Qe⟩
 refine zN 17 ?_;refine vv (v:=D (((2+dS b)+4:Nat):Int)) jW ?_;refine zQ ?_;refine vv (v:=D (((2+dS b)+4:Nat):Int)) jW ?_;obtain⟨A33,aEZ,O⟩:=Qz (b:=b) (c:=c) (lo:=(some (D ((2+dS b:Nat):Int)))) (hi:=(some (D (((2+dS b)+4:Nat):Int)))) (mx:=(some (D (((2+dS b)+4:Nat):Int)))) (l:=2+dS b) (k:=2+dS b+4) (q:=2+dS b+4) (m:=4) (c':=4) underlying99 kQ (ahj (2+dS b) (2+dS b+4) (2+dS b+4) E E E Y Y Y) (ari (show Rd _ _ _ _ _ _ from vT.all 1 _ E)) Y Y Y Y Y
 replace O:Rd _ _ _ _ _ (((b.drop (2+dS b)).take 4).flatMap OP):=axq O
 have vU:=vT.dJ O;refine vv (v:=.slice A33 4 4) (lX E E (kN E) (kN E) (kN E) (aEZ _)) ?_;refine zN 5 ?_;refine iO (X:=Nat) (λxv=>[(0,.slice (some ⟨b8,o9,none⟩) b.length c),(2,.pointer (some ⟨b1,0,none⟩)),(3,D 0),(4,D ((2+dS b:Nat):Int)),(37,.slice A33 4 4),(38,D 4),(5,D (sU (((b.drop (2+dS b)).take 4).take xv))),(39,D (xv:Int))]) (λxv wr=>(xv<=4)/\St w.heap.size w wr [.rd 1 A33 4 (((b.drop (2+dS b)).take 4).flatMap OP),.Oy b1 #[D 0,D 0,D 0,D 0,D 0,D 0,D 0,D 0,D 0,D 0] 138,.rd 1 (some ⟨b8,o9,none⟩) b.length ((b).flatMap OP)]) (λxv=>4-xv) (0) ?_ ?_ ?_
 ·exact⟨aG _,vU⟩
 ·exact YH
 rintro k w37 ⟨Vv,J⟩
 try dsimp only at Vv J
 refine cB (l':=[(0,.slice (some ⟨b8,o9,none⟩) b.length c),(2,.pointer (some ⟨b1,0,none⟩)),(3,D 0),(4,D ((2+dS b:Nat):Int)),(37,.slice A33 4 4),(38,D 4),(5,D (sU (((b.drop (2+dS b)).take 4).take k))),(39,D (k:Int))]) YH (bH (aL ?_));by_cases h40:(k:Int)<4
 ·refine zN 11 ?_;obtain⟨b41,o42,rfl⟩:=Rd.addr (St.rd 0 J E) Y;obtain⟨x43,axu⟩:=NA k (St.rd 0 J E) Y;refine vv (nC k) ?_;refine vv (aA E E (aV (Rd.cl2 (i:=0) (St.rd 0 J E) (dF (enc:=OP) (sz:=1) (λ_=>E) axu E)))) ?_;refine zN 5 ?_;have aOF:=anO (((b.drop (2+dS b)).take 4).take k) jQ;refine vv (v:=D (sU (((b.drop (2+dS b)).take 4).take k)*256)) (cK E E E (ahk E Y Y)) ?_;refine zQ ?_;refine vv (v:=D ((x43).toNat:Int)) (Js E E (SL (a:=x43) E kQ)) ?_;have aOG:=Uj x43;refine vv (v:=D (sU (((b.drop (2+dS b)).take 4).take k)*256+((x43).toNat:Int))) (cK E E E (azE E Y Y Y Y)) ?_;refine zN 5 ?_;refine vv (v:=D ((k+1:Nat):Int)) jW ?_;refine zN 2 ?_;refine dL (k+1) ?_ ⟨E,E,E,E,E,E,(atW (aeZ axu)),E,trivial⟩ (by first|omega|(dsimp only;omega));exact⟨Y,J⟩
 refine zN 16 ?_;obtain⟨PD,aE0,Z⟩:=Qz (b:=b) (c:=c) (lo:=none) (hi:=(some (D ((2+dS b:Nat):Int)))) (mx:=none) (l:=0) (k:=2+dS b) (q:=c) (m:=2+dS b) (c':=c) underlying99 kQ (aC5 (2+dS b) E Y) (ari (show Rd _ _ _ _ _ _ from J.all 2 _ E)) Y Y Y Y Y
 replace Z:Rd _ _ _ _ _ (Jq (b.take (2+dS b))):=Z
 have zS:=J.dJ Z;refine vv (v:=.slice PD (2+dS b) c) (lX E E qG (kN E) qG (aE0 _)) ?_;refine dZ eQ (QT _ _ _ (b.take (2+dS b)) _ (St.rd 0 zS E) Y) ?_;rintro _ w51 ⟨rfl,q53,rfl⟩;refine⟨_,E,?_⟩;have qO:=zS.drewN q53;obtain rfl:k=4:=Y;by_cases h54:sU ((b.drop (2+dS b)).take 4)=Cz (b.take (2+dS b))
 ·refine vv (v:=.bool false) (cK E E E (Sy (by rw[ahB];exact h54))) ?_;refine zN 9 ?_;obtain⟨A55,aE1,arj⟩:=Qz (b:=b) (c:=c) (lo:=(some (D 2))) (hi:=(some (D ((2+dS b:Nat):Int)))) (mx:=none) (l:=2) (k:=2+dS b) (q:=c) (m:=dS b) (c':=c-2) underlying99 kQ (Zl 2 (2+dS b) E E Y Y) (ari (show Rd _ _ _ _ _ _ from qO.all 3 _ E)) Y Y Y Y Y
  replace arj:Rd _ _ _ _ _ (Jq ((b.drop 2).take (dS b))):=arj
  have FC:=qO.dJ arj;refine vv (v:=.slice A55 (dS b) (c-2)) (lX E E (kN E) (kN E) qG (aE1 _)) ?_;refine UR eQ FC (ahw A55 (dS b) (c-2) ((b.drop 2).take (dS b)) _ (St.rd 0 FC E) Y (by unfold maxLen;omega)) ?_;intro w59 YV;refine zN 3 ?_;refine iU YV zn ?_;intro b62 w63 S64;refine sa 0 S64 kQ ?_;intro w65 Ke;refine zN 7 ?_;by_cases EP:(wo ((b.drop 2).take (dS b))).2=0
  ·refine zN 10 ?_;refine vv (v:=D (((2+dS b)+4:Nat):Int)) jW ?_;refine sa 4 Ke kQ ?_;intro w68 CQ;refine zN 5 ?_;exact⟨by rw[QZ Y Y h54 EP];exact bP Ending.returned (by show Value.tuple #[_,D _]=Value.tuple #[_,D _];rw[show((2+dS b+4:Nat):Int)=((dS b+6:Nat):Int) by omega];rfl),CQ.Qe⟩
  refine zN 7 ?_;refine sa 4 Ke kQ ?_;intro w70 vS;refine zN 6 ?_;exact⟨by rw[aaZ Y Y h54 EP];rfl,vS.Qe⟩
 refine vv (v:=.bool true) (cK E E E (abI (by rw[ahB];exact h54))) ?_;refine zN 6 ?_;refine sa 2 qO kQ ?_;intro w72 tQ;refine zN 6 ?_;exact⟨by rw[aaY Y Y h54];rfl,tQ.Qe⟩
def Q6{w:World}{base:Nat}{e:TypeId}{size:Nat}{A:Option Addr}{n c:Nat}{xs:List Value}(h:w.ownsRow base e size (.slice A n c) n xs):n<=c/\c<=maxLen:=by
 obtain⟨A',c',I,h1,J⟩:=nX h
 cases I;exact⟨h1,J⟩
def ahX{l:List UInt8}:dB l=([]++(dB (l.drop 0)).1,0+(dB (l.drop 0)).2):=by simp
def Yd{l:List UInt8}{I:List dN}{p:Nat}(h:dB l=(I++(dB (l.drop p)).1,p+(dB (l.drop p)).2))(h1:¬(PV (l.drop p)).2=0):
 dB l=(I++[(PV (l.drop p)).1]++(dB (l.drop (p+(PV (l.drop p)).2))).1,p+(PV (l.drop p)).2+(dB (l.drop (p+(PV (l.drop p)).2))).2):=by
 rw[h,Q0 h1,lW,gP,kR];rfl
def ae1{l:List UInt8}{s:Int}{I:List dN}{p:Nat}(J:dX l s=true)(h:dB l=(I++(dB (l.drop p)).1,p+(dB (l.drop p)).2))(h1:(PV (l.drop p)).2=0):xA l s=(I,p,0):=by
 unfold xA;rw[au J,h,Kq h1];simp
def FM(A:Option Addr)(c:Nat)(l:List UInt8)(s:Int)(w:World)(h:Rd w w.heap.size 1 A l.length (Jq l)):
 Calls prog 40 #[.agg #[.slice A l.length c,D s]] w (ajh w (xA l s)):=by
 have S:=(St.start w).dJ h;refine jc 37 func40 ?_;refine cw [0] ?_;refine zN 2 ?_;refine jT S ?_;intro b1 w2 S3;refine zN 8 ?_
 rcases CW l s with⟨ho,hm⟩|⟨ho,hm⟩
 ·have HO:=λw h=>nW A l.length c l s w h;rw[ho]at HO;refine dZ eQ (HO _ (St.rd 1 S3 E)) ?_;rintro _ w8 ⟨A4,Z,rfl,hb6,hO7⟩;refine⟨_,E,?_⟩;have S9:=S3.wT hb6 hO7;clear HO hb6 hO7 S3;change St _ _ _ [.own 5 1 (.slice A4 l.length Z) l.length (Jq l),.Oy b1 #[.slice A l.length c,D s] 101,.rd 1 A l.length (Jq l)]at S9;have hcap:=Q6 (S9.own 0 E);unfold maxLen at hcap;have hlen:l.length<=100000:=(rH hm).1;refine zN 3 ?_;refine iU S9 BM ?_;intro b10 L6 sI;refine sa 0 sI kQ ?_;intro Fy pz;refine zN 15 ?_;have kP:=pz.nil 138 10;refine zN 9 ?_;have tO:=kP.bq [4];refine iO (X:=(List dN)×Nat×Nat×(Option Addr)×Nat) (λI=>[(2,.slice none 0 0),(3,D 0),(4,D 0),(5,.pointer (some ⟨b10,0,none⟩)),(7,.slice I.2.2.2.1 I.2.2.1 I.2.2.2.2),(8,D (I.2.1:Int))]) (λI wr=>(dB l=(I.1++(dB (l.drop I.2.1)).1,I.2.1+(dB (l.drop I.2.1)).2))/\(I.2.1<=l.length)/\(I.2.2.1<=I.2.1)/\(I.2.2.1=I.1.length)/\St w.heap.size w wr [.own 138 10 (.slice I.2.2.2.1 I.2.2.1 I.2.2.2.2) I.2.2.1 ((I.1).flatMap dN.cells),.Oy b10 #[.slice A4 l.length Z,D s] 101,.own 5 1 (.slice A4 l.length Z) l.length (Jq l),.Oy b1 #[.slice A l.length c,D s] 101]) (λI=>l.length-I.2.1) ([],0,0,none,0) ?_ ?_ ?_
  ·exact⟨ahX,aG _,aB,E,tO⟩
  ·exact uV
  rintro⟨acc,p,m,A9,c9⟩ Pp ⟨J,aE2,hi21,M,O⟩
  try dsimp only at J aE2 hi21 M O
  refine cB (l':=[(2,.slice none 0 0),(3,D 0),(4,D 0),(5,.pointer (some ⟨b10,0,none⟩)),(7,.slice A9 m c9),(8,D (p:Int))]) ⟨E,E,E,E,E,E,trivial⟩ (GI (bH (aL (vv (vP 0 abM) ?_))));refine zN 2 ?_;obtain⟨A23,aE3,axw⟩:=Qz (b:=l) (c:=Z) (lo:=(some (D (p:Int)))) (hi:=none) (mx:=none) (l:=p) (k:=l.length) (q:=Z) (m:=(l.drop p).length) (c':=Z-p) underlying99 kQ (akA p E Y) (St.Uz 2 O E) Y Y Y length_drop.symm E;rw[jM]at axw;refine vv (v:=.slice A23 ((l.drop p).length) (Z-p)) (lX E E (kN E) qG qG (aE3 _)) ?_;refine dZ eQ (Yc A23 (Z-p) (l.drop p) _ axw (by rw[dO];omega) Y (by rw[dO];omega)) ?_;rintro _ Pt ⟨rfl,akT⟩;refine⟨_,E,?_⟩;have vJ:=O.on akT;clear akT O;have hfl:= @zW (l.drop p);rw[dO]at hfl;refine zN 3 ?_;refine iU vJ zn ?_;intro b29 YM tu;refine sa 0 tu kQ ?_;intro w32 yB;refine zN 7 ?_;by_cases h34:(((PV (l.drop p)).2:Nat):Int)=0
  ·refine zN 19 ?_;have CV:=yB.bq [4,3,2,0];have hz:xA l s=(acc,p,0):=ae1 hm J Y;rw[hz];subst M;exact⟨_,_,E,CV⟩
  refine zN 10 ?_;refine Uc yB ?_;intro Q7 w37 CS;refine eG (news:=[D ((PV (l.drop p)).1.kind),D ((PV (l.drop p)).1.Qg),D ((PV (l.drop p)).1.ME),D ((PV (l.drop p)).1.UE),D ((PV (l.drop p)).1.ev.kind),D ((PV (l.drop p)).1.ev.OU),D ((PV (l.drop p)).1.ev.id),D ((PV (l.drop p)).1.ev.body),D ((PV (l.drop p)).1.ev.OZ),D ((PV (l.drop p)).1.ev.PX)]) (xs':=(acc++[(PV (l.drop p)).1]).flatMap dN.cells) 2 CS (wn E) E E E E E E (St.nP (xs:=[D ((PV (l.drop p)).1.kind),D ((PV (l.drop p)).1.Qg),D ((PV (l.drop p)).1.ME),D ((PV (l.drop p)).1.UE),D ((PV (l.drop p)).1.ev.kind),D ((PV (l.drop p)).1.ev.OU),D ((PV (l.drop p)).1.ev.id),D ((PV (l.drop p)).1.ev.body),D ((PV (l.drop p)).1.ev.OZ),D ((PV (l.drop p)).1.ev.PX)]) 0 CS E E E) underlying126 SG E dQ (dx E) lQ Y (jO (enc:=dN.cells) E E) ?_;intro A39 c40 w41 aOH aOI Ee;refine zN 6 ?_;refine vv (v:=D ((p+((PV (l.drop p)).2):Nat):Int)) jW ?_;refine zN 3 ?_;have tC:=Ee.bq [1,0];refine dL (acc++[(PV (l.drop p)).1],p+(PV (l.drop p)).2,m+1,A39,c40) ?_ uV (by first|omega|(dsimp only;omega));exact⟨(Yd J Y),uQ,uQ,(by dsimp only;simp[M]),tC⟩
 have HO:=λw h=>nW A l.length c l s w h;rw[ho]at HO;refine dZ eQ (HO _ (St.rd 1 S3 E)) ?_;rintro _ YO ⟨A46,c47,rfl,hb48,axx⟩;refine⟨_,E,?_⟩;have yK:=S3.wT hb48 axx;clear HO hb48 axx S3;refine zN 3 ?_;refine iU yK BM ?_;intro b52 w53 xw;refine sa 0 xw kQ ?_;intro w55 YU;refine zN 21 ?_;have wY:=YU.bq [3,2,1,0];rw[show xA l s=([],0,6)from ah (by rw[hm];simp)];exact⟨none,0,E,wY.nil 138 10⟩
def anP{l:List UInt8}{s:Int}(h:dX l s=true):KA l s=(l,s,true):=by
 rcases CW l s with⟨h1,_⟩|⟨_,h1⟩
 ·exact h1
 rw[h]at h1;cases h1
def lH(l:List UInt8)(s:Int):List UInt8×Int×Int:=if dX l s=true then(l.take (dB l).2,min s (dB l).2,0)else([],0,6)
def anQ(w:World)(r:List UInt8×Int×Int)(e:Ending)(w':World):Prop:=
 ∃A c,e=.returned (.tuple #[.agg #[.slice A r.1.length c,D r.2.1],D r.2.2])/\St w.heap.size w w' [.dR 1 A r.1.length (Jq r.1)]
def ahY(A:Option Addr)(c:Nat)(l:List UInt8)(s:Int)(w:World)(h:Rd w w.heap.size 1 A l.length (Jq l)):
 Calls prog 39 #[.agg #[.slice A l.length c,D s]] w (anQ w (lH l s)):=by
 have S:=(St.start w).dJ h;refine jc 34 func39 ?_;refine cw [0] ?_;refine zN 2 ?_;refine jT S ?_;intro b1 w2 S3;refine iU S3 BM ?_;intro b4 w5 S6;refine zN 6 ?_;have hle:=Q5 (l.length+1) l;rw[<-show dB l=tT (l.length+1) l from E]at hle
 cases hm:dX l s
 ·have HR:=λw h=>FM A c l s w h;rw[show xA l s=([],0,6)from ah (by rw[hm];simp)]at HR;refine dZ eQ (HR _ (St.rd 2 S6 E)) ?_;rintro _ w9 ⟨A7,c8,rfl,T11⟩;refine⟨_,E,?_⟩;have Fx:=S6.ext T11 E;change St _ _ _ [.own 138 10 (.slice A7 (([]:List dN).length) c8) (([]:List dN).length) ((([]:List dN)).flatMap dN.cells),_,_,_]at Fx;refine zN 21 ?_;refine sa 1 Fx kQ ?_;intro w12 VU;refine zN 6 ?_;have pz:=VU.bq [3,2,1,0];rw[show lH l s=([],0,6)from ah (by rw[hm];simp)];exact⟨none,0,E,aI pz⟩
 have HR:=λw h=>FM A c l s w h;rw[show xA l s=((dB l).1,(dB l).2,0)from au hm]at HR;have hlen:l.length<=100000:=(rH hm).1;refine dZ eQ (HR _ (St.rd 2 S6 E)) ?_;rintro _ Pp ⟨A15,c16,rfl,T19⟩;refine⟨_,E,?_⟩;have J:=S6.ext T19 E;change St _ _ _ [.own 138 10 (.slice A15 ((dB l).1.length) c16) ((dB l).1.length) (((dB l).1).flatMap dN.cells),_,_,_]at J;refine zN 8 ?_;refine YG (vv (v:=D 0) ym ?_);refine vv azC ?_;refine zN 8 ?_;have HO:=λw h=>nW A l.length c l s w h;rw[anP hm]at HO;refine dZ eQ (HO _ (St.rd 3 J E)) ?_;rintro _ QL ⟨A20,c21,rfl,O,Z⟩;refine⟨_,E,?_⟩;have nH:=J.wT O Z;clear HO O Z J;change St _ _ _ [.own 5 1 (.slice A20 l.length c21) l.length (Jq l),.own 138 10 (.slice A15 ((dB l).1.length) c16) ((dB l).1.length) (((dB l).1).flatMap dN.cells),.Oy b4 #[.slice none 0 0,D 0] 101,.Oy b1 #[.slice A l.length c,D s] 101,.rd 1 A l.length (Jq l)]at nH;have hcap:=Q6 (nH.own 0 E);unfold maxLen at hcap;refine zN 3 ?_;refine iU nH BM ?_;intro b26 QF vR;refine sa 0 vR kQ ?_;intro w29 Ed;refine zN 4 ?_;have I:=Ed.drew;refine gV 12 10 I [] ?_;iterate 4 refine ji ?_
 obtain⟨M,aE4,aE5,aE6⟩:=am7 (b:=l) (A:=A20) (c:=c21) (lo:=none) (hi:=some (D (((dB l).2:Nat):Int))) (mx:=some (D (((dB l).2:Nat):Int))) (l:=0) (k:=(dB l).2) (q:=(dB l).2) (m:=(dB l).2) (c':=(dB l).2) underlying99 kQ (apm ((dB l).2) ((dB l).2) E E aB Y) Y Y Y E E;refine gk (v:=.slice M ((dB l).2) ((dB l).2)) 4 E I (λ_ _=>(lX E E qG (kN E) (kN E) (aE4 _))) ?_;iterate 3 refine ji ?_
 refine Ga (v:=D (min s ((((dB l).2:Nat):Int)))) (i:=8) (m:=3) E kQ kQ kQ E kQ E I E (wn E) E E (λ_ _=>(uq (vs:=[D s,D (((dB l).2:Nat):Int)]) E zL λ_=>apn)) ?_;refine Ga (v:=.agg #[.slice M ((dB l).2) ((dB l).2),D (min s ((((dB l).2:Nat):Int)))]) (i:=9) (m:=2) E kQ kQ kQ E kQ E I E (wn E) E E (λ_ _=>(F4 (vs:=[(0,.slice M ((dB l).2) ((dB l).2)),(1,D (min s ((((dB l).2:Nat):Int))))]) E lU kQ)) ?_;refine gF kQ E E E ?_;refine sa 3 I kQ ?_;intro w46 BS;refine zN 2 ?_;refine kC ?_;refine zN 3 ?_;have CU:=BS.seal 1 E (aE5 _ _ (St.Uz 1 BS E)) (λa h=>aE6 a h);have yM:=CU.bq [5,4,3,2,0];have hlt:(l.take (dB l).2).length=(dB l).2:=by rw[eD];omega
 rw[show lH l s=(l.take (dB l).2,min s (dB l).2,0)from au hm];exact⟨M,(dB l).2,by rw[hlt];rfl,by rw[hlt];exact yM⟩
def Hq{a:UInt8}{n:Int}(h:n=a.toNat):UInt8.ofNat n.toNat=a:=by
 subst h;simp
def ae2{a b c d:UInt8}{n:Int}(h:n=16777216*(a.toNat:Int)+65536*(b.toNat:Int)+256*(c.toNat:Int)+(d.toNat:Int)):Ck n=[a,b,c,d]:=by
 have:=Uj a;have:=Uj b;have:=Uj c;have:=Uj d;unfold Ck;rw[Hq (a:=a) Y,Hq (a:=b) Y,Hq (a:=c) Y,Hq (a:=d) Y]
def Q8{a b c d:UInt8}:sU [a,b,c,d]=16777216*(a.toNat:Int)+65536*(b.toNat:Int)+256*(c.toNat:Int)+(d.toNat:Int):=by
 simp[sU];omega
def aji{q:List UInt8}{s:Int}(I:q.length=4)(h0:0<=s)(h1:s<=4294967295):sU q=s↔Ck s=q:=by
 match q,I with
 |[a,b,c,d],_=>
  constructor
  ·intro h;rw[Q8]at h;exact ae2 h.symm
  intro h;have ha:=Uj a;have hb:=Uj b;have hc:=Uj c;have hd:=Uj d;unfold Ck at h;simp only[List.cons.injEq,and_true]at h;obtain⟨J,M,O,Z⟩:=h;subst J;subst M;subst O;subst Z;rw[Q8];simp only[UInt8.toNat_ofNat'];omega
def aa0(h:¬b.length<2)(h1:¬b.length<dS b+6):Ue ((b.drop 2).take (dS b))=b.take (2+dS b):=by
 match b,h,h1 with
 |x::y::r,_,h1=>
  have e:dS (x::y::r)=x.toNat*256+y.toNat:=rfl;have J:=x.toNat_lt;have M:=y.toNat_lt;have I:((List.drop 2 (x::y::r)).take (dS (x::y::r))).length=dS (x::y::r):=by
   rw[eD,dO];omega
  unfold Ue;rw[I,show UInt8.ofNat (dS (x::y::r) / 256)=x by rw[e,show(x.toNat*256+y.toNat) / 256=x.toNat by omega];simp,
   show UInt8.ofNat (dS (x::y::r) % 256)=y by rw[e,show(x.toNat*256+y.toNat) % 256=y.toNat by omega];simp]
  rw[qU 2];rfl
 |[],h,_=>simp at h
 |[_],h,_=>simp at h
def ae3(h:¬b.length<2)(h1:¬b.length<dS b+6):sU ((b.drop (2+dS b)).take 4)=Cz (b.take (2+dS b))↔lN ((b.drop 2).take (dS b))=b.take (dS b+6):=by
 unfold lN;rw[aa0 h h1,show dS b+6=(2+dS b)+4 by omega,take_add (i:=2+dS b) (j:=4),append_cancel_left_eq];obtain⟨I,J⟩:=NU (b.take (2+dS b));exact aji (by rw[eD,dO];omega) I Y
def ah3(h:¬b.length<2)(h1:¬b.length<dS b+6)(I:(wo ((b.drop 2).take (dS b))).2=0)(J:lN ((b.drop 2).take (dS b))=b.take (dS b+6)):PV b=((wo ((b.drop 2).take (dS b))).1,dS b+6):=
 QZ h h1 ((ae3 h h1).2 J) I
end
def Mi(n:Int):Prop:=0<=n/\n<=2147483647
def anR{n:Int}(h:Mi n):(um n).1=Ck n:=by unfold um;unfold Mi at h;rw[au h]
def ajj{n:Int}(h:Mi n)(t:List UInt8):rz (Ck n++t)=(n,0):=by
 obtain⟨I,h1⟩:=h;unfold Ck rz;simp only[cons_append,nil_append,UInt8.toNat_ofNat'];rw[ah Y];simp only[Prod.mk.injEq,and_true];omega
def JH{n:Int}{l:List Int}(h:Mi n):lG (n::l)=Ck n++lG l:=by
 show(n::l).flatMap _=_
 rw[nM,anR h];rfl
def acz:∀ {l:List Int},(∀n∈l,Mi n)->(lG l).length=4*l.length
 |[],_=>rfl
 |n::l,h=>by
  rw[JH (h n iQ),aZ,acz (λm I=>h m (by simp[I])),show(Ck n).length=4 from E,mV];omega
def V9:∀ {l:List Int} {j:Nat},(∀n∈l,Mi n)->(lG l).drop (4*j)=lG (l.drop j)
 |l,0,_=>rfl
 |[],j+1,_=>by simp[lG]
 |n::l,j+1,h=>by
  rw[JH (h n iQ),drop_succ_cons,<-V9 (j:=j) (λm I=>h m (by simp[I])),show 4*(j+1)=(Ck n).length+4*j by show _=4+_;omega,<-lW,drop_left]
def YW{l:List Int}{j:Nat}{n:Int}(h:∀n∈l,Mi n)(J:l[j]? =some n):tk (lG l) j=(n,0):=by
 unfold tk;obtain⟨I,hn⟩:=dw.1 J;rw[V9 h,yc I,hn,JH (h n (by rw[<-hn];exact Di I))];exact ajj (h n (by rw[<-hn];exact Di I)) _
def auE{e:Ev}(h:bK e=0):Mi e.kind/\Mi e.OU/\Mi e.id/\Mi e.body/\Mi e.OZ/\Mi e.PX:=by
 unfold bK at h;unfold Mi
 repeat' split at h
 all_goals first
  |exact av h dQ
  |(clear h;simp only[mK,Bool.and_eq_true,decide_eq_true_eq,not_and,Classical.not_not]at*;omega)
def anS{r:dN}(h:aO r=0):∀n∈iY r,Mi n:=by
 unfold aO at h
 split at h
 ·cases h
 split at h
 ·cases h
 rename_i h1 I
 simp only[mK,Bool.and_eq_true,decide_eq_true_eq,Bool.not_eq_false]at h1 I;intro n hn;unfold iY at hn;by_cases he:mQ r.kind=true
 ·rw[au he]at h hn;obtain⟨J,g2,M,O,Z,g6⟩:=auE h;simp only[cons_append,nil_append,mem_cons,not_mem_nil,or_false]at hn
  rcases hn with rfl|rfl|rfl|rfl|rfl|rfl|rfl|rfl|rfl|rfl
  any_goals assumption
  all_goals (unfold Mi;omega)
 rw[ah he]at hn;simp only[append_nil,mem_cons,not_mem_nil,or_false]at hn
 rcases hn with rfl|rfl|rfl|rfl
 all_goals (unfold Mi;omega)
def ajk{r:dN}(h:aO r=0)(he:¬mQ r.kind=true):r.ev=aQ:=by
 unfold aO at h
 split at h
 ·cases h
 split at h
 ·cases h
 try rw[ah he]at h
 split at h
 ·assumption
 cases h
def anT{r:dN}(h:aO r=0):wo (lG (iY r))=(r,0):=by
 have J:=anS h;have O:tk (lG (iY r)) 0=(r.kind,0):=YW J E;have Z:nI (lG (iY r))=(iY r).length:=by
  unfold nI;rw[O];by_cases he:mQ r.kind=true
  ·rw[au (show mQ (r.kind,(0:Int)).1=true from he)];unfold iY;rw[au he];rfl
  rw[ah (show ¬mQ (r.kind,(0:Int)).1=true from he)];unfold iY;rw[ah he];rfl
 have hz:BU (lG (iY r)) (iY r).length=0:=xO λj I=>by rw[YW J (eT I)]
 have M:qJ (lG (iY r)) (iY r).length=r:=by
  have hv:∀j n,(iY r)[j]? =some n->jJ (lG (iY r)) (iY r).length j=n:=λj n I=>by
   unfold jJ;rw[au (dw.1 I).1,YW J I]
  have hw:∀j,(iY r).length<=j->jJ (lG (iY r)) (iY r).length j=0:=λj I=>ah Y;unfold qJ;rw[hv 0 r.kind E,hv 1 r.Qg E,hv 2 r.ME E,hv 3 r.UE E];by_cases he:mQ r.kind=true
  ·have hn:iY r=[r.kind,r.Qg,r.ME,r.UE,r.ev.kind,r.ev.OU,r.ev.id,r.ev.body,r.ev.OZ,r.ev.PX]:=by unfold iY;rw[au he];rfl
   rw[hv 4 r.ev.kind (by rw[hn];rfl),hv 5 r.ev.OU (by rw[hn];rfl),hv 6 r.ev.id (by rw[hn];rfl),hv 7 r.ev.body (by rw[hn];rfl),hv 8 r.ev.OZ (by rw[hn];rfl),hv 9 r.ev.PX (by rw[hn];rfl)]
  have hn:(iY r).length=4:=by unfold iY;rw[ah he];rfl
  rw[hw 4 Y,hw 5 Y,hw 6 Y,hw 7 Y,hw 8 Y,hw 9 Y];have:=ajk h he;unfold aQ at this;rw[<-this]
 unfold wo;rw[Z,ah (by rw[hz];simp),M,ah (by rw[acz J,h];simp)]
def ahC{r:dN}(h:aO r=0):qF r=(lG (iY r),0):=by unfold qF;rw[ah (by simpa using h)]
def oI(r:dN):List UInt8:=lN (qF r).1
def dz(rs:List dN):List UInt8:=rs.flatMap oI
def nV(a b:List dN):dz (a++b)=dz a++dz b:=flatMap_append
def CY(r:dN):6<=(oI r).length/\(oI r).length<=46:=by
 unfold oI;rw[xP];have:=He r;omega
def Q9{p t:List UInt8}(h:p.length<=65535){k:Nat}(I:2<=k):dS ((lN p).take k++t)=p.length:=by
 obtain⟨k,rfl⟩:∃j,k=j+2:=⟨k-2,by omega⟩;unfold lN Ue;simp only[cons_append,take_succ_cons,dS,UInt8.toNat_ofNat'];omega
def Ye{r:dN}(h:aO r=0)(t:List UInt8):PV (oI r++t)=(r,(oI r).length):=by
 have hl:=He r;have J:(oI r).length=(qF r).1.length+6:=xP _;have I:dS (oI r++t)=(qF r).1.length:=by
  have:=Q9 (p:=(qF r).1) (t:=t) Y (k:=(oI r).length) Y;rwa [show take (oI r).length (lN (qF r).1)=oI r from jM]at this
 have O:(oI r++t).length=(qF r).1.length+6+t.length:=by rw[aZ,J]
 have M:((oI r++t).drop 2).take (dS (oI r++t))=(qF r).1:=by
  rw[I];unfold oI lN Ue;simp
 have Z:wo (qF r).1=(r,0):=by rw[ahC h];exact anT h
 rw[ah3 Y (by rw[I];omega) (by rw[M,Z]) (by rw[M,I,<-J,Gf];rfl),M,Z,I,J]
def aa1{r:dN}{k:Nat}(O:k< (oI r).length):(PV ((oI r).take k)).2=0:=by
 have Z:=He r;have J:(oI r).length=(qF r).1.length+6:=xP _;have M:((oI r).take k).length=k:=by rw[eD];omega
 by_cases hs:k<2
 ·rw[Ca Y];rfl
 have h:=Q9 (p:=(qF r).1) (t:=[]) Y (k:=k) Y;rw[bI]at h;have I:dS ((oI r).take k)=(qF r).1.length:=h;rw[NY Y (by rw[M,I];omega)];rfl
def BD:∀ {rs:List dN} {t:List UInt8},(∀r∈rs,aO r=0)->(PV t).2=0->dB (dz rs++t)=(rs,(dz rs).length)
 |[],t,_,I=>Kq (by simpa[dz]using I)
 |r::rs,t,h,I=>by
  have e:dz (r::rs)++t=oI r++(dz rs++t):=by simp[dz,flatMap_cons]
  have J:=Ye (h r iQ) (dz rs++t);have M:=CY r;rw[e,Q0 (by rw[J];show ¬(oI r).length=0;omega),J];simp only[drop_left];rw[BD (λx O=>h x (by simp[O])) I];simp[dz,flatMap_cons]
def zX:(PV []).2=0:=by rw[Ca iQ];rfl
def Ra:∀(rs:List dN) (k:Nat),k<=(dz rs).length-> ∃j t,(dz rs).take k=dz (rs.take j)++t/\(PV t).2=0/\j<=rs.length
 |[],k,_=>⟨0,[],by simp[dz],zX,aB⟩
 |r::rs,k,I=>by
  have e:dz (r::rs)=oI r++dz rs:=by simp[dz,flatMap_cons]
  by_cases h:k< (oI r).length
  ·refine⟨0,(oI r).take k,?_,aa1 h,aG _⟩;rw[e,AB Y];simp[dz]
  rw[e,aZ]at I;obtain⟨j,t,h1,J,M⟩:=Ra rs (k-(oI r).length) Y;refine⟨j+1,t,?_,J,by simp;omega⟩;rw[e,take_append,kg Y,h1];simp[dz,flatMap_cons]
def ajl{l:List UInt8}{s:Int}{r:dN}(h:aO r=0)(I:0<=s)(h1:s<=l.length)(J:l.length+46<=100000):jZ l s r=(l++oI r,s,0):=by
 unfold jZ;have:=CY r;rw[ah (by simp[dX];omega),ah (by rw[ahC h];simp),ah (by show ¬_<_+(oI r).length;omega)];rfl
def Rb{l:List UInt8}{s:Int}{r:dN}(h:(jZ l s r).2.2=0):jZ l s r=(l++oI r,s,0)/\aO r=0/\l.length+(oI r).length<=100000:=by
 unfold jZ at h⊢
 split at h
 ·cases h
 split at h
 ·rename_i I;exact av h I
 split at h
 ·cases h
 rename_i h1 I J
 rw[ah h1,ah I,ah J];refine⟨E,?_,by show _+(lN (qF r).1).length<=_;omega⟩;unfold qF at I
 split at I
 ·exact fE.1 I
 rename_i M;exact fE.1 M
def aa2(d:TW)(q ME node:Int)(w:World)(hn:Nw w):Calls prog 50 #[d.val,.int .i64 q,.int .i64 ME,.int .i64 node] w (ab5 w (yI d q ME node)):=by
 have HN:=Lib.hid hn;clear hn;have HC:=Lib.hid (λw h=>qz d q w h);have HR:Hid (yI d q ME node=if (aN d q).2≠0 then(mX,(aN d q).2)else if node<0\/4<node then(mX,2)else if (aN d q).1.ME≠ME then(mX,15)
 else if (aN d q).1.node=node then(mX,8)else if ME=1048576 then(mX,14)else(d.set q.toNat ⟨node,ME+1⟩,0)):=Lib.hid E
 have HZ:=Lib.hid (Ki (d:=d) (q:=q));generalize yI d q ME node=r at*;generalize aN d q=a at*;obtain⟨⟨pn,pe⟩,z⟩:=a;obtain⟨⟨n0,e0⟩,⟨n1,e1⟩,⟨n2,e2⟩,⟨n3,e3⟩⟩:=d;unfold TW.val at*
 try simp only at HC⊢
 go_enter func50,ntmps50
 go_wp2_with fail
 refine(HC.out _ (HN.out.on gQ)).mono ?_;rintro e w1 ⟨rfl,hb1⟩;have B0:=((iM.new w _ _).alloc _).below hb1 jQ;have B1:=(iM.new1 w _ _ _).below hb1 iQ;have hz0:w.heap.size<w1.heap.size:=B0.lt;have hz1:w.heap.size+1<w1.heap.size:=B1.lt;have HB1:Hid (Below w.heap.size w w1):=Lib.hid (Below.trans gQ (hb1.mono jQ))
 go_upto_region 2 with fail
 have C0:=B0.alloc (.cells #[.int .i64 pn,.int .i64 pe] 27);have C1:=B1.alloc (.cells #[.int .i64 pn,.int .i64 pe] 27);have C2:=iM.new w1 #[.int .i64 pn,.int .i64 pe] 27;have HB:Hid (Below w.heap.size w (w1.alloc (.cells #[.int .i64 pn,.int .i64 pe] 27))):=Lib.hid (HB1.out.alloc Y _);generalize hw2:w1.alloc (.cells #[.int .i64 pn,.int .i64 pe] 27)=w2 at C0 C1 C2 HB⊢;clear hw2 HB1;obtain⟨c0,c1,c2,c3,c4,c5,c6,c7,cf⟩:=C0.ED;obtain⟨r0,r1,r2,r3,r4,r5,r6,r7,rf⟩:=C1.ED;obtain⟨p0,p1,pf⟩:=C2.xZ;have hne1:¬w1.heap.size=w.heap.size:=Y;have hne2:¬w1.heap.size=w.heap.size+1:=Y
 try simp only at HR HZ
 clear hb1;by_cases hz:z=0
 ·obtain⟨q0,q3,_,_,hpl⟩:=HZ.out hz;have hpe:pe<=1048576/\0<=pe:=by
   unfold zP at hpl;simp only at hpl;omega
  obtain⟨pe1,pe2⟩:=hpe;have HR2:=Lib.hid (HR.out.trans (ah (by simpa using hz)));subst hz;clear hpl HR;by_cases b1:node<0
  ·have e:=HR2.out;rw[au Y]at e;subst e
   go_wp2_with fail
   refine bodyPost_ret (v:=.tuple #[.agg #[.int .i64 0,.int .i64 0,.int .i64 0,.int .i64 0,.int .i64 0,.int .i64 0,.int .i64 0,.int .i64 0],.int .i64 2]) (by simp[results,results50,go_sem,r0,r1,r2,r3,r4,r5,r6,r7]) E ?_;have hB:=HB.out;exact⟨E,by go_grown⟩
  by_cases b2:5<=node
  ·have e:=HR2.out;rw[au Y]at e;subst e
   go_wp2_with fail
   refine bodyPost_ret (v:=.tuple #[.agg #[.int .i64 0,.int .i64 0,.int .i64 0,.int .i64 0,.int .i64 0,.int .i64 0,.int .i64 0,.int .i64 0],.int .i64 2]) (by simp[results,results50,go_sem,r0,r1,r2,r3,r4,r5,r6,r7]) E ?_;have hB:=HB.out;exact⟨E,by go_grown⟩
  have HR3:=Lib.hid (HR2.out.trans (ah Y));clear HR2;by_cases b3:pe=ME
  ·have HR4:=Lib.hid (HR3.out.trans (ah (by simpa using b3)));subst b3;clear HR3;by_cases b4:pn=node
   ·have e:=HR4.out;rw[au b4]at e;subst e;have t4:(pn==node)=true:=by simpa using b4
    clear b4
    go_wp2_with fail
    refine bodyPost_ret (v:=.tuple #[.agg #[.int .i64 0,.int .i64 0,.int .i64 0,.int .i64 0,.int .i64 0,.int .i64 0,.int .i64 0,.int .i64 0],.int .i64 8]) (by simp[results,results50,go_sem,r0,r1,r2,r3,r4,r5,r6,r7]) E ?_;have hB:=HB.out;exact⟨E,by go_grown⟩
   have HR5:=Lib.hid (HR4.out.trans (ah b4));have t4:(pn==node)=false:=by simpa using b4
   clear b4 HR4;by_cases b5:pe=1048576
   ·have e:=HR5.out;rw[au b5]at e;subst e;subst b5
    go_wp2_with fail
    refine bodyPost_ret (v:=.tuple #[.agg #[.int .i64 0,.int .i64 0,.int .i64 0,.int .i64 0,.int .i64 0,.int .i64 0,.int .i64 0,.int .i64 0],.int .i64 14]) (by simp[results,results50,go_sem,r0,r1,r2,r3,r4,r5,r6,r7]) E ?_;have hB:=HB.out;exact⟨E,by go_grown⟩
   have e:=HR5.out;rw[ah b5]at e;subst e;have t5:(pe==1048576)=false:=by simpa using b5
   clear b5 HR5
   rcases(show q=0\/q=1\/q=2\/q=3 by omega)with rfl|rfl|rfl|rfl
   ·go_wp2_with fail
    refine bodyPost_ret (v:=.tuple #[.agg #[.int .i64 node,.int .i64 (pe+1),.int .i64 n1,.int .i64 e1,.int .i64 n2,.int .i64 e2,.int .i64 n3,.int .i64 e3],.int .i64 0]) (by simp[results,results50,go_sem,r0,r1,r2,r3,r4,r5,r6,r7,c0,c1,c2,c3,c4,c5,c6,c7]) E ?_;have hB:=HB.out;exact⟨E,by go_grown⟩
   ·go_wp2_with fail
    refine bodyPost_ret (v:=.tuple #[.agg #[.int .i64 n0,.int .i64 e0,.int .i64 node,.int .i64 (pe+1),.int .i64 n2,.int .i64 e2,.int .i64 n3,.int .i64 e3],.int .i64 0]) (by simp[results,results50,go_sem,r0,r1,r2,r3,r4,r5,r6,r7,c0,c1,c2,c3,c4,c5,c6,c7]) E ?_;have hB:=HB.out;exact⟨E,by go_grown⟩
   ·go_wp2_with fail
    refine bodyPost_ret (v:=.tuple #[.agg #[.int .i64 n0,.int .i64 e0,.int .i64 n1,.int .i64 e1,.int .i64 node,.int .i64 (pe+1),.int .i64 n3,.int .i64 e3],.int .i64 0]) (by simp[results,results50,go_sem,r0,r1,r2,r3,r4,r5,r6,r7,c0,c1,c2,c3,c4,c5,c6,c7]) E ?_;have hB:=HB.out;exact⟨E,by go_grown⟩
   go_wp2_with fail
   refine bodyPost_ret (v:=.tuple #[.agg #[.int .i64 n0,.int .i64 e0,.int .i64 n1,.int .i64 e1,.int .i64 n2,.int .i64 e2,.int .i64 node,.int .i64 (pe+1)],.int .i64 0]) (by simp[results,results50,go_sem,r0,r1,r2,r3,r4,r5,r6,r7,c0,c1,c2,c3,c4,c5,c6,c7]) E ?_;have hB:=HB.out;exact⟨E,by go_grown⟩
  have e:=HR3.out;rw[au (by simpa using b3)]at e;subst e;have t3:(pe==ME)=false:=by simpa using b3
  have t3':(pe != ME)=true:=by simpa using b3
  clear b3
  go_wp2_with fail
  refine bodyPost_ret (v:=.tuple #[.agg #[.int .i64 0,.int .i64 0,.int .i64 0,.int .i64 0,.int .i64 0,.int .i64 0,.int .i64 0,.int .i64 0],.int .i64 15]) (by simp[results,results50,go_sem,r0,r1,r2,r3,r4,r5,r6,r7]) E ?_;have hB:=HB.out;exact⟨E,by go_grown⟩
 have e:=HR.out;rw[au hz]at e;subst e;have t0:(z==0)=false:=by simpa using hz
 have t0':(z != 0)=true:=by simpa using hz
 clear hz
 go_wp2_with fail
 refine bodyPost_ret (v:=.tuple #[.agg #[.int .i64 0,.int .i64 0,.int .i64 0,.int .i64 0,.int .i64 0,.int .i64 0,.int .i64 0,.int .i64 0],.int .i64 z]) (by simp[results,results50,go_sem,r0,r1,r2,r3,r4,r5,r6,r7]) E ?_;have hB:=HB.out;exact⟨E,by go_grown⟩
end Go.Proofs.YtefabpdniidmbaaGreatDoor
