import Derived.Test.YtceeleolddkibaaGreatDoorG03368
import Derived.Test.YtceeleolddkibaaGreatDoorG701e8
import Derived.Test.YtceeleolddkibaaGreatDoorGd9b5f
import Derived.Test.YtceeleolddkibaaGreatDoorGf4ad5
set_option linter.all false
set_option maxRecDepth 100000
set_option maxHeartbeats 8000000
namespace Go.Proofs.YtceeleolddkibaaGreatDoor
open List Nat Go.Proofs.Tryz ChangeShapes WideShapes RowKit
def tH(l:List UInt8):Int:=l.foldl (λs c=>s*256+(c.toNat:Int)) 0
def aft(l:List UInt8)(c:UInt8):tH (l++[c])=tH l*256+c.toNat:=by simp[tH]
def aox:∀(l:List UInt8),l.length<=4->0<=tH l/\tH l<=4294967295
 |[],_=>by simp[tH]
 |[a],_=>by have:=UU a;simp[tH];omega
 |[a,b],_=>by have:=UU a;have:=UU b;simp[tH];omega
 |[a,b,c],_=>by have:=UU a;have:=UU b;have:=UU c;simp[tH];omega
 |[a,b,c,d],_=>by have:=UU a;have:=UU b;have:=UU c;have:=UU d;simp[tH];omega
 |_::_::_::_::_::_,h=>by simp at h
def FP:dN×Nat:=(sV,0)
def dO(b:List UInt8):Nat:=match b with
 |x::y::_=>x.toNat*256+y.toNat
 |_=>0
def Qy(b:List UInt8):dN×Nat:=
 if b.length<2 then FP else if b.length<dO b+6 then FP else if tH ((b.drop (2+dO b)).take 4)≠CW (b.take (2+dO b))then FP
 else if (wS ((b.drop 2).take (dO b))).2≠0 then FP else((wS ((b.drop 2).take (dO b))).1,dO b+6)
section
variable {b:List UInt8}
def Cw(h:b.length<2):Qy b=FP:=aj h
def OO(h:¬b.length<2)(h1:b.length<dO b+6):Qy b=FP:=by unfold Qy;rw[ah h,aj h1]
def abv(h:¬b.length<2)(h1:¬b.length<dO b+6)(I:tH ((b.drop (2+dO b)).take 4)≠CW (b.take (2+dO b))):Qy b=FP:=by unfold Qy;rw[ah h,ah h1,aj I]
def abw(h:¬b.length<2)(h1:¬b.length<dO b+6)(I:tH ((b.drop (2+dO b)).take 4)=CW (b.take (2+dO b)))(J:(wS ((b.drop 2).take (dO b))).2≠0):Qy b=FP:=by
 unfold Qy;rw[ah h,ah h1,ah (by simpa using I),aj J]
def RI(h:¬b.length<2)(h1:¬b.length<dO b+6)(I:tH ((b.drop (2+dO b)).take 4)=CW (b.take (2+dO b)))(J:(wS ((b.drop 2).take (dO b))).2=0):Qy b=((wS ((b.drop 2).take (dO b))).1,dO b+6):=by
 unfold Qy;rw[ah h,ah h1,ah (by simpa using I),ah (by simpa using J)]
def AO:(Qy b).2<=b.length:=by
 unfold Qy FP
 split
 ·exact aC _
 split
 ·exact aC _
 split
 ·exact aC _
 split
 ·exact aC _
 simp;omega
def auW{x y:UInt8}(I:b[0]? =some x)(h:b[1]? =some y):dO b=x.toNat*256+y.toNat:=by
 match b,I,h with
 |x'::J::r,I,h=>
  simp at I h;subst I;subst h;rfl
 |[_],_,h=>simp at h
def um:Nat->List UInt8->List dN×Nat
 | 0,_=>([],0)
 |f+1,b=>if (Qy b).2=0 then([],0)else((Qy b).1::(um f (b.drop (Qy b).2)).1,(Qy b).2+(um f (b.drop (Qy b).2)).2)
def KX:∀(f g:Nat) (b:List UInt8),b.length<f->b.length<g->um f b=um g b
 | 0,_,b,h,_=>av h Y
 |_,0,b,_,h=>av h Y
 |f+1,g+1,b,hf,hg=>by
  unfold um;by_cases h:(Qy b).2=0
  ·rw[aj h,aj h]
  rw[ah h,ah h,KX f g _ (by rw[dL];have:= @AO b;omega) (by rw[dL];have:= @AO b;omega)]
def dx(b:List UInt8):List dN×Nat:=um (b.length+1) b
def KY{b:List UInt8}(h:(Qy b).2=0):dx b=([],0):=by unfold dx um;rw[aj h]
def RJ{b:List UInt8}(h:¬(Qy b).2=0):dx b=((Qy b).1::(dx (b.drop (Qy b).2)).1,(Qy b).2+(dx (b.drop (Qy b).2)).2):=by
 unfold dx;rw[um,ah h,KX b.length ((b.drop (Qy b).2).length+1) _ (by rw[dL];have:= @AO b;omega) Y]
def RL:∀(f:Nat) (b:List UInt8),(um f b).2<=b.length/\(um f b).1.length<=b.length
 | 0,b=>by simp[um]
 |f+1,b=>by
  unfold um
  split
  ·simp
  rename_i h
  have h1:=RL f (b.drop (Qy b).2);rw[dL]at h1;have I:= @AO b;simp;omega
def xQ(l:List UInt8)(s:Int):List dN×Nat×Int:=if dS l s=true then((dx l).1,(dx l).2,0)else([],0,6)
def dN.cells(r:dN):List Value:=[D r.kind,D r.Qu,D r.Pf,D r.Vk,D r.ev.kind,D r.ev.Pv,D r.ev.id,D r.ev.body,D r.ev.Qs,D r.ev.Qz]
def ajY(w:World)(r:List dN×Nat×Int)(e:Ending)(w':World):Prop:=
 ∃A c,e=.returned (.tuple #[.slice A r.1.length c,D (r.2.1:Int),D r.2.2])/\St w.heap.size w w' [.own 132 10 (.slice A r.1.length c) r.1.length (r.1.flatMap dN.cells)]
def Py(x:UInt8):List Value:=[.int .u8 x.toNat]
def WU(l:List UInt8):JV l=l.flatMap Py:=by
 induction l with
 |nil=>rfl
 |cons a l h=>rw[nK,<-h];rfl
def axC{w:World}{B:Nat}{A:Option Addr}{n:Nat}{l:List UInt8}(h:Rd w B 1 A n (JV l)):Rd w B 1 A n (l.flatMap Py):=WU l▸h
def arN{w:World}{B:Nat}{A:Option Addr}{n:Nat}{l:List UInt8}(h:Rd w B 1 A n (l.flatMap Py)):Rd w B 1 A n (JV l):=(WU l).symm▸h
def aia{l:List UInt8}:(l.take 4).take 4=l.take 4:=by simp[take_take]
def afu{l:List UInt8}{k:Nat}{x:UInt8}(h:l[k]? =some x):tH (l.take k)*256+(x.toNat:Int)=tH (l.take (k+1)):=by
 rw[mQ,h,<-aft];rfl
def afv(w:World)(r:dN×Nat)(e:Ending)(w':World):Prop:=e=.returned (.tuple #[r.1.val,D (r.2:Int)])/\Below w.heap.size w w'
def YD(A:Option Addr)(c:Nat)(b:List UInt8)(w:World)(h:Rd w w.heap.size 1 A b.length (JV b))(hn:b.length<=c)(hcm:c<=9223372036854775807)(hb:b.length<=100000):
 Calls prog 52 #[.slice A b.length c] w (afv w (Qy b)):=by
 have S:=(St.start w).dG (axC h);refine iW 69 func52 ?_;refine cw [0] ?_;refine zN 2 ?_;refine iL S zR ?_;intro b1 w2 S3;refine zN 8 ?_;by_cases h4:(b.length:Int)<2
 ·refine zN 7 ?_;refine sa 0 S3 kQ ?_;intro w5 S6;refine zN 6 ?_;exact⟨by rw[Cw Y];rfl,S6.QM⟩
 refine zN 7 ?_;refine iN S3 mixed kQ ?_;refine zQ ?_;obtain⟨b8,o9,rfl⟩:=Rd.addr (St.rd 1 S3 E) Y;obtain⟨I,axD⟩:=GX 0 (St.rd 1 S3 E) Y;refine uv (λ_ _=>mY 0) ?_;refine uv (v:=.int .u8 ((I).toNat:Int)) (λ_ VX=>(ay E E (aV (Rd.Qg (i:=0) (St.rd 1 VX E) (dw (enc:=Py) (sz:=1) (λ_=>E) axD E))))) ?_;refine uv (v:=D ((I).toNat:Int)) (λ_ _=>(JX E E (TS (a:=I) E kQ))) ?_;have aNg:=UU I;refine uv (v:=D (((I).toNat:Int)*256)) (λ_ _=>(cO E E E (ahT E Y Y))) ?_;refine uv (v:=D (2+(((I).toNat:Int)*256))) (λ_ _=>jB) ?_;refine zQ ?_;obtain⟨M,axE⟩:=GX 1 (St.rd 1 S3 E) Y;refine uv (λ_ _=>mY 1) ?_;refine uv (v:=.int .u8 ((M).toNat:Int)) (λ_ J8=>(ay E E (aV (Rd.Qg (i:=0) (St.rd 1 J8 E) (dw (enc:=Py) (sz:=1) (λ_=>E) axE E))))) ?_;refine uv (v:=D ((M).toNat:Int)) (λ_ _=>(JX E E (TS (a:=M) E kQ))) ?_;have aNh:=UU M;have aNi:=auW axD axE;have aNj:dO b<=65535:=Y;refine uv (v:=D ((2+dO b:Nat):Int)) (λ_ _=>(cO E E E (by rw[show((2+dO b:Nat):Int)=2+(((I).toNat:Int)*256)+((M).toNat:Int) by omega];exact ag8 Y Y))) ?_;refine zQ ?_;refine iw λw28 xL=>?_;refine zN 7 ?_;refine vv (v:=D (((2+dO b)+4:Nat):Int)) jB ?_;by_cases h30:(b.length:Int)< (((2+dO b)+4:Nat):Int)
 ·refine zN 7 ?_;refine sa 0 xL kQ ?_;intro w31 uh;refine zN 6 ?_;exact⟨by rw[OO Y Y];rfl,uh.QM⟩
 refine zN 17 ?_;refine vv (v:=D (((2+dO b)+4:Nat):Int)) jB ?_;refine zQ ?_;refine vv (v:=D (((2+dO b)+4:Nat):Int)) jB ?_;obtain⟨A33,aEd,O⟩:=Rn (b:=b) (c:=c) (lo:=(some (D ((2+dO b:Nat):Int)))) (hi:=(some (D (((2+dO b)+4:Nat):Int)))) (mx:=(some (D (((2+dO b)+4:Nat):Int)))) (l:=2+dO b) (k:=2+dO b+4) (q:=2+dO b+4) (m:=4) (c':=4) Tryz.underlying89 kQ (ahS (2+dO b) (2+dO b+4) (2+dO b+4) E E E Y Y Y) (arN (show Rd _ _ _ _ _ _ from xL.all 1 _ E)) Y Y Y Y Y
 replace O:Rd _ _ _ _ _ (((b.drop (2+dO b)).take 4).flatMap Py):=axC O
 have wu:=xL.dG O;refine vv (v:=.slice A33 4 4) (lU E E (kI E) (kI E) (kI E) (aEd _)) ?_;refine zN 5 ?_;refine fV (X:=Nat) (λxv=>[(0,.slice (some ⟨b8,o9,none⟩) b.length c),(2,.pointer (some ⟨b1,0,none⟩)),(3,D 0),(4,D ((2+dO b:Nat):Int)),(37,.slice A33 4 4),(38,D 4),(5,D (tH (((b.drop (2+dO b)).take 4).take xv))),(39,D (xv:Int))]) (λxv wr=>(xv<=4)/\St w.heap.size w wr [.rd 1 A33 4 (((b.drop (2+dO b)).take 4).flatMap Py),.Pj b1 #[D 0,D 0,D 0,D 0,D 0,D 0,D 0,D 0,D 0,D 0] 132,.rd 1 (some ⟨b8,o9,none⟩) b.length ((b).flatMap Py)]) (λxv=>4-xv) (0) ?_ ?_ ?_
 ·exact⟨aC _,wu⟩
 ·exact Y8
 rintro k w37 ⟨VZ,J⟩
 try dsimp only at VZ J
 refine bK (l':=[(0,.slice (some ⟨b8,o9,none⟩) b.length c),(2,.pointer (some ⟨b1,0,none⟩)),(3,D 0),(4,D ((2+dO b:Nat):Int)),(37,.slice A33 4 4),(38,D 4),(5,D (tH (((b.drop (2+dO b)).take 4).take k))),(39,D (k:Int))]) Y8 (aX (aH ?_));by_cases h40:(k:Int)<4
 ·refine zN 11 ?_;obtain⟨b41,o42,rfl⟩:=Rd.addr (St.rd 0 J E) Y;obtain⟨x43,axF⟩:=GX k (St.rd 0 J E) Y;refine vv (mY k) ?_;refine vv (ay E E (aV (Rd.Qg (i:=0) (St.rd 0 J E) (dw (enc:=Py) (sz:=1) (λ_=>E) axF E)))) ?_;refine zN 5 ?_;have aNk:=aox (((b.drop (2+dO b)).take 4).take k) jQ;refine vv (v:=D (tH (((b.drop (2+dO b)).take 4).take k)*256)) (cO E E E (ahT E Y Y)) ?_;refine zQ ?_;refine vv (v:=D ((x43).toNat:Int)) (JX E E (TS (a:=x43) E kQ)) ?_;have aNl:=UU x43;refine vv (v:=D (tH (((b.drop (2+dO b)).take 4).take k)*256+((x43).toNat:Int))) (cO E E E (azW E Y Y Y Y)) ?_;refine zN 5 ?_;refine vv (v:=D ((k+1:Nat):Int)) jB ?_;refine zN 2 ?_;refine bQ (k+1) ?_ ⟨E,E,E,E,E,E,(aup (afu axF)),E,trivial⟩ (by first|omega|(dsimp only;omega));exact⟨Y,J⟩
 refine zN 16 ?_;obtain⟨Qm,aEe,Z⟩:=Rn (b:=b) (c:=c) (lo:=none) (hi:=(some (D ((2+dO b:Nat):Int)))) (mx:=none) (l:=0) (k:=2+dO b) (q:=c) (m:=2+dO b) (c':=c) Tryz.underlying89 kQ (aDk (2+dO b) E Y) (arN (show Rd _ _ _ _ _ _ from J.all 2 _ E)) Y Y Y Y Y
 replace Z:Rd _ _ _ _ _ (JV (b.take (2+dO b))):=Z
 have AA:=J.dG Z;refine vv (v:=.slice Qm (2+dO b) c) (lU E E qD (kI E) qD (aEe _)) ?_;refine eB eQ (Rp _ _ _ (b.take (2+dO b)) _ (St.rd 0 AA E) Y) ?_;rintro _ w51 ⟨rfl,q53,rfl⟩;refine⟨_,E,?_⟩;have rH:=AA.drewN q53;obtain rfl:k=4:=Y;by_cases h54:tH ((b.drop (2+dO b)).take 4)=CW (b.take (2+dO b))
 ·refine vv (v:=.bool false) (cO E E E (Tv (by rw[aia];exact h54))) ?_;refine zN 9 ?_;obtain⟨A55,aEf,arO⟩:=Rn (b:=b) (c:=c) (lo:=(some (D 2))) (hi:=(some (D ((2+dO b:Nat):Int)))) (mx:=none) (l:=2) (k:=2+dO b) (q:=c) (m:=dO b) (c':=c-2) Tryz.underlying89 kQ (ZK 2 (2+dO b) E E Y Y) (arN (show Rd _ _ _ _ _ _ from rH.all 3 _ E)) Y Y Y Y Y
  replace arO:Rd _ _ _ _ _ (JV ((b.drop 2).take (dO b))):=arO
  have Gd:=rH.dG arO;refine vv (v:=.slice A55 (dO b) (c-2)) (lU E E (kI E) (kI E) qD (aEf _)) ?_;refine Vm eQ Gd (ah0 A55 (dO b) (c-2) ((b.drop 2).take (dO b)) _ (St.rd 0 Gd E) Y (by unfold maxLen;omega)) ?_;intro w59 Gf;refine zN 3 ?_;refine iL Gf zR ?_;intro b62 w63 S64;refine sa 0 S64 kQ ?_;intro w65 Jq;refine zN 7 ?_;by_cases Fx:(wS ((b.drop 2).take (dO b))).2=0
  ·refine zN 10 ?_;refine vv (v:=D (((2+dO b)+4:Nat):Int)) jB ?_;refine sa 4 Jq kQ ?_;intro w68 Df;refine zN 5 ?_;exact⟨by rw[RI Y Y h54 Fx];exact bM Ending.returned (by show Value.tuple #[_,D _]=Value.tuple #[_,D _];rw[show((2+dO b+4:Nat):Int)=((dO b+6:Nat):Int) by omega];rfl),Df.QM⟩
  refine zN 7 ?_;refine sa 4 Jq kQ ?_;intro w70 wo;refine zN 6 ?_;exact⟨by rw[abw Y Y h54 Fx];rfl,wo.QM⟩
 refine vv (v:=.bool true) (cO E E E (acg (by rw[aia];exact h54))) ?_;refine zN 6 ?_;refine sa 2 rH kQ ?_;intro w72 xu;refine zN 6 ?_;exact⟨by rw[abv Y Y h54];rfl,xu.QM⟩
def RN{w:World}{base:Nat}{e:TypeId}{size:Nat}{A:Option Addr}{n c:Nat}{xs:List Value}(h:w.ownsRow base e size (.slice A n c) n xs):n<=c/\c<=maxLen:=by
 obtain⟨A',c',I,h1,J⟩:=nZ h
 cases I;exact⟨h1,J⟩
def aij{l:List UInt8}:dx l=([]++(dx (l.drop 0)).1,0+(dx (l.drop 0)).2):=by simp
def YE{l:List UInt8}{I:List dN}{p:Nat}(h:dx l=(I++(dx (l.drop p)).1,p+(dx (l.drop p)).2))(h1:¬(Qy (l.drop p)).2=0):
 dx l=(I++[(Qy (l.drop p)).1]++(dx (l.drop (p+(Qy (l.drop p)).2))).1,p+(Qy (l.drop p)).2+(dx (l.drop (p+(Qy (l.drop p)).2))).2):=by
 rw[h,RJ h1,lT,gq,jT];rfl
def afw{l:List UInt8}{s:Int}{I:List dN}{p:Nat}(J:dS l s=true)(h:dx l=(I++(dx (l.drop p)).1,p+(dx (l.drop p)).2))(h1:(Qy (l.drop p)).2=0):xQ l s=(I,p,0):=by
 unfold xQ;rw[aj J,h,KY h1];simp
def Gu(A:Option Addr)(c:Nat)(l:List UInt8)(s:Int)(w:World)(h:Rd w w.heap.size 1 A l.length (JV l)):
 Calls prog 34 #[.agg #[.slice A l.length c,D s]] w (ajY w (xQ l s)):=by
 have S:=(St.start w).dG h;refine iW 37 func34 ?_;refine cw [0] ?_;refine zN 2 ?_;refine jM S ?_;intro b1 w2 S3;refine zN 8 ?_
 rcases Di l s with⟨ho,hm⟩|⟨ho,hm⟩
 ·have HO:=λw h=>nX A l.length c l s w h;rw[ho]at HO;refine eB eQ (HO _ (St.rd 1 S3 E)) ?_;rintro _ w8 ⟨A4,Z,rfl,hb6,hO7⟩;refine⟨_,E,?_⟩;have S9:=S3.xB hb6 hO7;clear HO hb6 hO7 S3;change St _ _ _ [.own 5 1 (.slice A4 l.length Z) l.length (JV l),.Pj b1 #[.slice A l.length c,D s] 91,.rd 1 A l.length (JV l)]at S9;have hcap:=RN (S9.own 0 E);unfold maxLen at hcap;have hlen:l.length<=100000:=(rO hm).1;refine zN 3 ?_;refine iL S9 Ck ?_;intro b10 KM rA;refine sa 0 rA kQ ?_;intro Hq oJ;refine zN 15 ?_;have ku:=oJ.nil 132 10;refine zN 9 ?_;have rX:=ku.bg [4];refine fV (X:=(List dN)×Nat×Nat×(Option Addr)×Nat) (λI=>[(2,.slice none 0 0),(3,D 0),(4,D 0),(5,.pointer (some ⟨b10,0,none⟩)),(7,.slice I.2.2.2.1 I.2.2.1 I.2.2.2.2),(8,D (I.2.1:Int))]) (λI wr=>(dx l=(I.1++(dx (l.drop I.2.1)).1,I.2.1+(dx (l.drop I.2.1)).2))/\(I.2.1<=l.length)/\(I.2.2.1<=I.2.1)/\(I.2.2.1=I.1.length)/\St w.heap.size w wr [.own 132 10 (.slice I.2.2.2.1 I.2.2.1 I.2.2.2.2) I.2.2.1 ((I.1).flatMap dN.cells),.Pj b10 #[.slice A4 l.length Z,D s] 91,.own 5 1 (.slice A4 l.length Z) l.length (JV l),.Pj b1 #[.slice A l.length c,D s] 91]) (λI=>l.length-I.2.1) ([],0,0,none,0) ?_ ?_ ?_
  ·exact⟨aij,aC _,aB,E,rX⟩
  ·exact vD
  rintro⟨acc,p,m,A9,c9⟩ Qh ⟨J,alx,hi21,M,O⟩
  try dsimp only at J alx hi21 M O
  refine bK (l':=[(2,.slice none 0 0),(3,D 0),(4,D 0),(5,.pointer (some ⟨b10,0,none⟩)),(7,.slice A9 m c9),(8,D (p:Int))]) ⟨E,E,E,E,E,E,trivial⟩ (Ii (aX (aH (vv (rV 0 acs) ?_))));refine zN 2 ?_;obtain⟨A23,aEg,axH⟩:=Rn (b:=l) (c:=Z) (lo:=(some (D (p:Int)))) (hi:=none) (mx:=none) (l:=p) (k:=l.length) (q:=Z) (m:=(l.drop p).length) (c':=Z-p) Tryz.underlying89 kQ (ali p E Y) (St.Vj 2 O E) Y Y Y length_drop.symm E;rw[jy]at axH;refine vv (v:=.slice A23 ((l.drop p).length) (Z-p)) (lU E E (kI E) qD qD (aEg _)) ?_;refine eB eQ (YD A23 (Z-p) (l.drop p) _ axH (by rw[dL];omega) Y (by rw[dL];omega)) ?_;rintro _ Rt ⟨rfl,aly⟩;refine⟨_,E,?_⟩;have xq:=O.on aly;clear aly O;have hfl:= @AO (l.drop p);rw[dL]at hfl;refine zN 3 ?_;refine iL xq zR ?_;intro b29 Za tN;refine sa 0 tN kQ ?_;intro w32 yS;refine zN 7 ?_;by_cases h34:(((Qy (l.drop p)).2:Nat):Int)=0
  ·refine zN 19 ?_;have Gc:=yS.bg [4,3,2,0];have hz:xQ l s=(acc,p,0):=afw hm J Y;rw[hz];subst M;exact⟨_,_,E,Gc⟩
  refine zN 10 ?_;refine Wp yS ?_;intro RF w37 Dg;refine eu (news:=[D ((Qy (l.drop p)).1.kind),D ((Qy (l.drop p)).1.Qu),D ((Qy (l.drop p)).1.Pf),D ((Qy (l.drop p)).1.Vk),D ((Qy (l.drop p)).1.ev.kind),D ((Qy (l.drop p)).1.ev.Pv),D ((Qy (l.drop p)).1.ev.id),D ((Qy (l.drop p)).1.ev.body),D ((Qy (l.drop p)).1.ev.Qs),D ((Qy (l.drop p)).1.ev.Qz)]) (xs':=(acc++[(Qy (l.drop p)).1]).flatMap dN.cells) 2 Dg (wn E) E E E E E E (St.nO (xs:=[D ((Qy (l.drop p)).1.kind),D ((Qy (l.drop p)).1.Qu),D ((Qy (l.drop p)).1.Pf),D ((Qy (l.drop p)).1.Vk),D ((Qy (l.drop p)).1.ev.kind),D ((Qy (l.drop p)).1.ev.Pv),D ((Qy (l.drop p)).1.ev.id),D ((Qy (l.drop p)).1.ev.body),D ((Qy (l.drop p)).1.ev.Qs),D ((Qy (l.drop p)).1.ev.Qz)]) 0 Dg E E E) Tryz.underlying120 TK E dQ (dh E) lQ Y (jV (enc:=dN.cells) E E) ?_;intro A39 c40 w41 aNm aNn Hr;refine zN 6 ?_;refine vv (v:=D ((p+((Qy (l.drop p)).2):Nat):Int)) jB ?_;refine zN 3 ?_;have tO:=Hr.bg [1,0];refine bQ (acc++[(Qy (l.drop p)).1],p+(Qy (l.drop p)).2,m+1,A39,c40) ?_ vD (by first|omega|(dsimp only;omega));exact⟨(YE J Y),uQ,uQ,(by dsimp only;simp[M]),tO⟩
 have HO:=λw h=>nX A l.length c l s w h;rw[ho]at HO;refine eB eQ (HO _ (St.rd 1 S3 E)) ?_;rintro _ Zb ⟨A46,WV,rfl,hb48,axI⟩;refine⟨_,E,?_⟩;have yh:=S3.xB hb48 axI;clear HO hb48 axI S3;refine zN 3 ?_;refine iL yh Ck ?_;intro b52 w53 xP;refine sa 0 xP kQ ?_;intro w55 Zg;refine zN 21 ?_;have yR:=Zg.bg [3,2,1,0];rw[show xQ l s=([],0,6)from ah (by rw[hm];simp)];exact⟨none,0,E,yR.nil 132 10⟩
def aoy{l:List UInt8}{s:Int}(h:dS l s=true):La l s=(l,s,true):=by
 rcases Di l s with⟨h1,_⟩|⟨_,h1⟩
 ·exact h1
 rw[h]at h1;cases h1
def lC(l:List UInt8)(s:Int):List UInt8×Int×Int:=if dS l s=true then(l.take (dx l).2,min s (dx l).2,0)else([],0,6)
def aoz(w:World)(r:List UInt8×Int×Int)(e:Ending)(w':World):Prop:=
 ∃A c,e=.returned (.tuple #[.agg #[.slice A r.1.length c,D r.2.1],D r.2.2])/\St w.heap.size w w' [.dB 1 A r.1.length (JV r.1)]
def aik(A:Option Addr)(c:Nat)(l:List UInt8)(s:Int)(w:World)(h:Rd w w.heap.size 1 A l.length (JV l)):
 Calls prog 33 #[.agg #[.slice A l.length c,D s]] w (aoz w (lC l s)):=by
 have S:=(St.start w).dG h;refine iW 34 func33 ?_;refine cw [0] ?_;refine zN 2 ?_;refine jM S ?_;intro b1 w2 S3;refine iL S3 Ck ?_;intro b4 w5 S6;refine zN 6 ?_;have hle:=RL (l.length+1) l;rw[<-show dx l=um (l.length+1) l from E]at hle
 cases hm:dS l s
 ·have HR:=λw h=>Gu A c l s w h;rw[show xQ l s=([],0,6)from ah (by rw[hm];simp)]at HR;refine eB eQ (HR _ (St.rd 2 S6 E)) ?_;rintro _ w9 ⟨A7,c8,rfl,T11⟩;refine⟨_,E,?_⟩;have F8:=S6.ext T11 E;change St _ _ _ [.own 132 10 (.slice A7 (([]:List dN).length) c8) (([]:List dN).length) ((([]:List dN)).flatMap dN.cells),_,_,_]at F8;refine zN 21 ?_;refine sa 1 F8 kQ ?_;intro w12 Rw;refine zN 6 ?_;have oJ:=Rw.bg [3,2,1,0];rw[show lC l s=([],0,6)from ah (by rw[hm];simp)];exact⟨none,0,E,aG oJ⟩
 have HR:=λw h=>Gu A c l s w h;rw[show xQ l s=((dx l).1,(dx l).2,0)from aj hm]at HR;have hlen:l.length<=100000:=(rO hm).1;refine eB eQ (HR _ (St.rd 2 S6 E)) ?_;rintro _ Qh ⟨A15,c16,rfl,T19⟩;refine⟨_,E,?_⟩;have J:=S6.ext T19 E;change St _ _ _ [.own 132 10 (.slice A15 ((dx l).1.length) c16) ((dx l).1.length) (((dx l).1).flatMap dN.cells),_,_,_]at J;refine zN 8 ?_;refine Y3 (vv (v:=D 0) ym ?_);refine vv azq ?_;refine zN 8 ?_;have HO:=λw h=>nX A l.length c l s w h;rw[aoy hm]at HO;refine eB eQ (HO _ (St.rd 3 J E)) ?_;rintro _ RD ⟨A20,c21,rfl,O,Z⟩;refine⟨_,E,?_⟩;have nC:=J.xB O Z;clear HO O Z J;change St _ _ _ [.own 5 1 (.slice A20 l.length c21) l.length (JV l),.own 132 10 (.slice A15 ((dx l).1.length) c16) ((dx l).1.length) (((dx l).1).flatMap dN.cells),.Pj b4 #[.slice none 0 0,D 0] 91,.Pj b1 #[.slice A l.length c,D s] 91,.rd 1 A l.length (JV l)]at nC;have hcap:=RN (nC.own 0 E);unfold maxLen at hcap;refine zN 3 ?_;refine iL nC Ck ?_;intro b26 Rs wm;refine sa 0 wm kQ ?_;intro w29 Ew;refine zN 4 ?_;have I:=Ew.drew;refine gT 12 10 I [] ?_;iterate 4 refine jf ?_
 obtain⟨M,aEh,aEi,aEj⟩:=anT (b:=l) (A:=A20) (c:=c21) (lo:=none) (hi:=some (D (((dx l).2:Nat):Int))) (mx:=some (D (((dx l).2:Nat):Int))) (l:=0) (k:=(dx l).2) (q:=(dx l).2) (m:=(dx l).2) (c':=(dx l).2) Tryz.underlying89 kQ (ap1 ((dx l).2) ((dx l).2) E E aB Y) Y Y Y E E;refine gk (v:=.slice M ((dx l).2) ((dx l).2)) 4 E I (λ_ _=>(lU E E qD (kI E) (kI E) (aEh _))) ?_;iterate 3 refine jf ?_
 refine GU (v:=D (min s ((((dx l).2:Nat):Int)))) (i:=8) (m:=3) E kQ kQ kQ E kQ E I E (wn E) E E (λ_ _=>(lg (vs:=[D s,D (((dx l).2:Nat):Int)]) E Aq λ_=>ap2)) ?_;refine GU (v:=.agg #[.slice M ((dx l).2) ((dx l).2),D (min s ((((dx l).2:Nat):Int)))]) (i:=9) (m:=2) E kQ kQ kQ E kQ E I E (wn E) E E (λ_ _=>(GK (vs:=[(0,.slice M ((dx l).2) ((dx l).2)),(1,D (min s ((((dx l).2:Nat):Int))))]) E lS kQ)) ?_;refine gy kQ E E E ?_;refine sa 3 I kQ ?_;intro w46 Cu;refine zN 2 ?_;refine jY ?_;refine zN 3 ?_;have Dh:=Cu.seal 1 E (aEi _ _ (St.Vj 1 Cu E)) (λa h=>aEj a h);have yT:=Dh.bg [5,4,3,2,0];have hlt:(l.take (dx l).2).length=(dx l).2:=by rw[dV];omega
 rw[show lC l s=(l.take (dx l).2,min s (dx l).2,0)from aj hm];exact⟨M,(dx l).2,by rw[hlt];rfl,by rw[hlt];exact yT⟩
def II{a:UInt8}{n:Int}(h:n=a.toNat):UInt8.ofNat n.toNat=a:=by
 subst h;simp
def afx{a b c d:UInt8}{n:Int}(h:n=16777216*(a.toNat:Int)+65536*(b.toNat:Int)+256*(c.toNat:Int)+(d.toNat:Int)):CG n=[a,b,c,d]:=by
 have:=UU a;have:=UU b;have:=UU c;have:=UU d;unfold CG;rw[II (a:=a) Y,II (a:=b) Y,II (a:=c) Y,II (a:=d) Y]
def RO{a b c d:UInt8}:tH [a,b,c,d]=16777216*(a.toNat:Int)+65536*(b.toNat:Int)+256*(c.toNat:Int)+(d.toNat:Int):=by
 simp[tH];omega
def ajZ{q:List UInt8}{s:Int}(I:q.length=4)(h0:0<=s)(h1:s<=4294967295):tH q=s↔CG s=q:=by
 match q,I with
 |[a,b,c,d],_=>
  constructor
  ·intro h;rw[RO]at h;exact afx h.symm
  intro h;have ha:=UU a;have hb:=UU b;have hc:=UU c;have hd:=UU d;unfold CG at h;simp only[List.cons.injEq,and_true]at h;obtain⟨J,M,O,Z⟩:=h;subst J;subst M;subst O;subst Z;rw[RO];simp only[UInt8.toNat_ofNat'];omega
def abx(h:¬b.length<2)(h1:¬b.length<dO b+6):UM ((b.drop 2).take (dO b))=b.take (2+dO b):=by
 match b,h,h1 with
 |x::y::r,_,h1=>
  have e:dO (x::y::r)=x.toNat*256+y.toNat:=rfl;have J:=x.toNat_lt;have M:=y.toNat_lt;have I:((List.drop 2 (x::y::r)).take (dO (x::y::r))).length=dO (x::y::r):=by
   rw[dV,dL];omega
  unfold UM;rw[I,show UInt8.ofNat (dO (x::y::r) / 256)=x by rw[e,show(x.toNat*256+y.toNat) / 256=x.toNat by omega];simp,
   show UInt8.ofNat (dO (x::y::r) % 256)=y by rw[e,show(x.toNat*256+y.toNat) % 256=y.toNat by omega];simp]
  rw[qR 2];rfl
 |[],h,_=>simp at h
 |[_],h,_=>simp at h
def afy(h:¬b.length<2)(h1:¬b.length<dO b+6):tH ((b.drop (2+dO b)).take 4)=CW (b.take (2+dO b))↔lI ((b.drop 2).take (dO b))=b.take (dO b+6):=by
 unfold lI;rw[abx h h1,show dO b+6=(2+dO b)+4 by omega,take_add (i:=2+dO b) (j:=4),append_cancel_left_eq];obtain⟨I,J⟩:=OD (b.take (2+dO b));exact ajZ (by rw[dV,dL];omega) I Y
def ail(h:¬b.length<2)(h1:¬b.length<dO b+6)(I:(wS ((b.drop 2).take (dO b))).2=0)(J:lI ((b.drop 2).take (dO b))=b.take (dO b+6)):Qy b=((wS ((b.drop 2).take (dO b))).1,dO b+6):=
 RI h h1 ((afy h h1).2 J) I
end
end Go.Proofs.YtceeleolddkibaaGreatDoor
