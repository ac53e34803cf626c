import Derived.Test.YtefabpdniidmbaaGreatDoorG2f5c8
import Derived.Test.YtefabpdniidmbaaGreatDoorGa23b2
import Derived.Test.YtefabpdniidmbaaGreatDoorGa782c
set_option linter.all false
set_option maxRecDepth 100000
set_option maxHeartbeats 8000000
namespace Go.Proofs.YtefabpdniidmbaaGreatDoor
open List Nat Go.Proofs.Tryz ChangeShapes WideShapes RowKit
noncomputable def Fa(b:bC)(e:Ev):bC×Int:=if ay ⟨b.F9,b.ep,b.fr,b.tg,b.rd,b.Jp++[e]⟩≠0 then(bX,3)else(⟨b.F9,b.ep,b.fr,b.tg,b.rd,b.Jp++[e]⟩,0)
def Zy(b:bC)(pe:Int):bC×Int:=(⟨3,b.ep,b.fr,pe,b.rd,b.Jp⟩,0)
noncomputable def mO(b:bC)(r:dN):bC×Int:=
 if r.kind=1 then jX b r.ME else if r.kind=4 then dV b r.ME r.UE
 else if ¬(b.F9=(if r.kind=2\/r.kind=3 then 1 else if r.kind=7 then 3 else 4)/\b.ep=r.ME)then(bX,3)
 else if r.kind=3 then Zy b r.UE else if r.kind=6 then dP b r.ME b.Jp.length [] true else if r.kind=7 then iw b (r.ME+1)else Fa b r.ev
noncomputable def fO(b:bC)(r:dN):bC×Int:=
 if ay b≠0 then(bX,ay b)else if aO r≠0 then(bX,aO r)
 else if b.F9=2\/(r.kind≠3/\r.kind≠4/\r.UE≠0)then(bX,3)else if (mO b r).2≠0 then(bX,3)else((mO b r).1,0)
def yY(ro ep fr tg rd:Int)(A:Option Addr)(c:Nat)(l:List Ev)(kd qu e pe:Int)(x:Ev)(w:World)(h:Rd w w.heap.size 6 A l.length (bU l))(hb:l.length*48<=reachBytes):
 Calls tP 103 #[.agg #[D ro,D ep,D fr,D tg,D rd,.slice A l.length c],.agg (rR kd qu e pe x)] w (mY w (jX ⟨ro,ep,fr,tg,rd,l⟩ e)):=by
 have S:=(St.start w).dJ h;have I:=hb;unfold reachBytes at I;obtain⟨R,hR⟩:∃R,jX ⟨ro,ep,fr,tg,rd,l⟩ e=R:=⟨_,E⟩;rw[hR];refine jc 12 func103 ?_;refine cw [0,1] ?_;refine zN 2 ?_;refine jT S ?_;intro b1 w2 S3;refine jT S3 ?_;intro b4 w5 S6;refine iU S6 iN ?_;intro b7 w8 S9;refine zN 8 ?_;refine dZ eQ ((hR▸NW ro ep fr tg rd A c l e _ (St.rd 3 S9 E) hb)) ?_;rintro _ Fy ⟨J,M,O,rfl,Z⟩;refine⟨_,E,?_⟩;have pz:=S9.ext Z E;refine zN 2 ?_;refine sa 1 pz kQ ?_;intro w16 Bc;refine zN 5 ?_;have tq:=Bc.bq [4,3,2,1];exact⟨J,M,by assumption,E,tq⟩
def yZ(ro ep fr tg rd:Int)(A:Option Addr)(c:Nat)(l:List Ev)(kd qu e pe:Int)(x:Ev)(w:World)(h:Rd w w.heap.size 6 A l.length (bU l))(hb:l.length*48<=reachBytes):
 Calls tP 107 #[.agg #[D ro,D ep,D fr,D tg,D rd,.slice A l.length c],.agg (rR kd qu e pe x)] w (mY w (dV ⟨ro,ep,fr,tg,rd,l⟩ e pe)):=by
 have S:=(St.start w).dJ h;have I:=hb;unfold reachBytes at I;obtain⟨R,hR⟩:∃R,dV ⟨ro,ep,fr,tg,rd,l⟩ e pe=R:=⟨_,E⟩;rw[hR];refine jc 14 func107 ?_;refine cw [0,1] ?_;refine zN 2 ?_;refine jT S ?_;intro b1 w2 S3;refine jT S3 ?_;intro b4 w5 S6;refine iU S6 iN ?_;intro b7 w8 S9;refine zN 10 ?_;refine dZ eQ ((hR▸Km ro ep fr tg rd A c l e pe _ (St.rd 3 S9 E) hb)) ?_;rintro _ Fy ⟨J,M,O,rfl,Z⟩;refine⟨_,E,?_⟩;have pz:=S9.ext Z E;refine zN 2 ?_;refine sa 1 pz kQ ?_;intro w16 Bc;refine zN 5 ?_;have tq:=Bc.bq [4,3,2,1];exact⟨J,M,by assumption,E,tq⟩
def Yf(ro ep fr tg rd:Int)(A:Option Addr)(c:Nat)(l:List Ev)(kd qu e pe:Int)(x:Ev)(I:l.length<=c)(w:World)(h:Rd w w.heap.size 6 A l.length (bU l))(hb:l.length*48<=reachBytes):
 Calls tP 108 #[.agg #[D ro,D ep,D fr,D tg,D rd,.slice A l.length c],.agg (rR kd qu e pe x)] w (mY w (dP ⟨ro,ep,fr,tg,rd,l⟩ e (l.length:Int) [] true)):=by
 have S:=(St.start w).dJ h;have J:=hb;unfold reachBytes at J;obtain⟨R,hR⟩:∃R,dP ⟨ro,ep,fr,tg,rd,l⟩ e (l.length:Int) [] true=R:=⟨_,E⟩;rw[hR];refine jc 15 func108 ?_;refine cw [0,1] ?_;refine zN 2 ?_;refine jT S ?_;intro b1 w2 S3;refine jT S3 ?_;intro b4 w5 S6;refine iU S6 iN ?_;intro b7 w8 S9;refine zN 11 ?_;refine dZ eQ ((hR▸IQ ro ep fr tg rd A c l e (l.length:Int) none 0 [] true I (iR 0) _ Rd.Ur (St.rd 3 S9 E) hb dQ)) ?_;rintro _ Fy ⟨M,O,Z,rfl,T15⟩;refine⟨_,E,?_⟩;have pz:=S9.ext T15 E;refine zN 2 ?_;refine sa 1 pz kQ ?_;intro w16 Bc;refine zN 5 ?_;have tq:=Bc.bq [4,3,2,1];exact⟨M,O,by assumption,E,tq⟩
def Yg(ro ep fr tg rd:Int)(A:Option Addr)(c:Nat)(l:List Ev)(kd qu e pe:Int)(x:Ev)(he:0<=e/\e<=1048576)(w:World)(h:Rd w w.heap.size 6 A l.length (bU l))(hb:l.length*48<=reachBytes):
 Calls tP 109 #[.agg #[D ro,D ep,D fr,D tg,D rd,.slice A l.length c],.agg (rR kd qu e pe x)] w (mY w (iw ⟨ro,ep,fr,tg,rd,l⟩ (e+1))):=by
 have S:=(St.start w).dJ h;have I:=hb;unfold reachBytes at I;obtain⟨R,hR⟩:∃R,iw ⟨ro,ep,fr,tg,rd,l⟩ (e+1)=R:=⟨_,E⟩;rw[hR];refine jc 13 func109 ?_;refine cw [0,1] ?_;refine zN 2 ?_;refine jT S ?_;intro b1 w2 S3;refine jT S3 ?_;intro b4 w5 S6;refine iU S6 iN ?_;intro b7 w8 S9;refine zN 8 ?_;refine vv (v:=D (e+1)) jW ?_;refine dZ eQ ((hR▸IU ro ep fr tg rd A c l (e+1) _ (St.rd 3 S9 E) hb)) ?_;rintro _ Fy ⟨J,M,O,rfl,Z⟩;refine⟨_,E,?_⟩;have pz:=S9.ext Z E;refine zN 2 ?_;refine sa 1 pz kQ ?_;intro w16 Bc;refine zN 5 ?_;have tq:=Bc.bq [4,3,2,1];exact⟨J,M,by assumption,E,tq⟩
def aa3(ro ep fr tg rd:Int)(A:Option Addr)(c:Nat)(l:List Ev)(kd qu e pe:Int)(x:Ev)(hl2:l.length<=2000)(w:World)(h:Rd w w.heap.size 6 A l.length (bU l))(hb:l.length*48<=reachBytes):
 Calls tP 105 #[.agg #[D ro,D ep,D fr,D tg,D rd,.slice A l.length c],.agg (rR kd qu e pe x)] w (mY w (Fa ⟨ro,ep,fr,tg,rd,l⟩ x)):=by
 have S:=(St.start w).dJ h;have hb2:=hb;unfold reachBytes at hb2;refine jc 19 func105 ?_;refine cw [0,1] ?_;refine zN 2 ?_;refine jT S ?_;intro b1 w2 S3;refine jT S3 ?_;intro b4 w5 S6;refine iU S6 iN ?_;intro b7 w8 S9;refine zN 3 ?_;have Fx:=S9.nil 49 6;refine qb (X:=Nat×(Option Addr)×Nat) (λxv=>[(2,pV b1 0),(4,pV b7 0),(5,D 0)]) (λxv wr=>St w.heap.size w wr [.Oy xv.1 #[D x.kind,D x.OU,D x.id,D x.body,D x.OZ,D x.PX] 49,.own 49 6 (.slice xv.2.1 ((0+l.length)+1) xv.2.2) ((0+l.length)+1) ((l++[x]).flatMap Ev.cells),.Oy b7 zB 42,.Oy b4 (rR kd qu e pe x) 138,.Oy b1 #[D ro,D ep,D fr,D tg,D rd,.slice xv.2.1 ((0+l.length)+1) xv.2.2] 42,.rd 6 A l.length ((l).flatMap Ev.cells)]) ?_ ?_
 ·have I:=Fx.drew;refine gV 9 7 I [0] ?_;iterate 3 refine ji ?_
  refine gk (v:=.agg #[D x.kind,D x.OU,D x.id,D x.body,D x.OZ,D x.PX]) 4 E (St.del 0 I) (λ_ aqJ=>(aA E E (fu (cs:=[D x.kind,D x.OU,D x.id,D x.body,D x.OZ,D x.PX]) (St.rg 1 aqJ E (oG (x:=4) (m:=6) E))))) ?_;refine ahb (m:=4) (r:=2) (s:=5) kQ ?_ ?_
  ·refine nG (i:=2) E E (news:=(l).flatMap Ev.cells) (xs':=(l).flatMap Ev.cells) 0 I (wn E) E E E E E E (St.rd 4 I E) underlying40 tK E dQ (gX _) lQ Y (E) ?_;intro A16 c17 Pq axz axA xg;refine ji ?_;refine gI (m:=3) (r:=5) kQ ?_;refine o8 (i:=5) E E (V:=λb=>.slice (aD b 0) 1 1) (row:= #[D x.kind,D x.OU,D x.id,D x.body,D x.OZ,D x.PX]) (t:=49) xg (wn E) E E (bD (vs:=[(0,.agg #[D x.kind,D x.OU,D x.id,D x.body,D x.OZ,D x.PX])]) E zL kQ) ?_;intro b22 Ma l7;refine ji ?_;refine gI (m:=2) (r:=6) kQ ?_;refine nG (i:=6) E E (news:=[D x.kind,D x.OU,D x.id,D x.body,D x.OZ,D x.PX]) (xs':=(l++[x]).flatMap Ev.cells) 1 l7 (wn E) E E E E E E (St.nP (xs:=[D x.kind,D x.OU,D x.id,D x.body,D x.OZ,D x.PX]) 0 l7 E E E) underlying40 tK E dQ (dx E) lQ Y (jO (enc:=Ev.cells) E E) ?_;intro A25 c26 QF hc29 aE7 vR;refine ji ?_;refine gF kQ E E E ?_;refine zQ ?_;refine J7 4 vR kQ ?_;intro w31 wP;refine zQ ?_;refine kC ?_;refine eO (b22,A25,c26) ?_ Ip;exact wP
  refine o8 (i:=5) E E (V:=λb=>.slice (aD b 0) 1 1) (row:= #[D x.kind,D x.OU,D x.id,D x.body,D x.OZ,D x.PX]) (t:=49) I (wn E) E E (bD (vs:=[(0,.agg #[D x.kind,D x.OU,D x.id,D x.body,D x.OZ,D x.PX])]) E zL kQ) ?_;intro b33 w34 CV;refine ji ?_;refine gI (m:=3) (r:=2) kQ ?_;refine nG (i:=2) E E (news:=(l).flatMap Ev.cells) (xs':=(l).flatMap Ev.cells) 1 CV (wn E) E E E E E E (St.rd 5 CV E) underlying40 tK E dQ (gX _) lQ Y (E) ?_;intro A36 c37 w38 axB axC Co;refine ji ?_;refine gI (m:=2) (r:=6) kQ ?_;refine nG (i:=6) E E (news:=[D x.kind,D x.OU,D x.id,D x.body,D x.OZ,D x.PX]) (xs':=(l++[x]).flatMap Ev.cells) 1 Co (wn E) E E E E E E (St.nP (xs:=[D x.kind,D x.OU,D x.id,D x.body,D x.OZ,D x.PX]) 0 Co E E E) underlying40 tK E dQ (dx E) lQ Y (jO (enc:=Ev.cells) E E) ?_;intro A42 c43 Un aOJ aOK tC;refine ji ?_;refine gF kQ E E E ?_;refine zQ ?_;refine J7 4 tC kQ ?_;intro YR yM;refine zQ ?_;refine kC ?_;refine eO (b33,A42,c43) ?_ Ip;exact yM
 rintro⟨b50,Z,c52⟩ w53 J
 try dsimp only at J
 refine cB (l':=[(2,pV b1 0),(4,pV b7 0),(5,D 0)]) Ip (bH (bH (aL (vv (aA E E (rG 4 J E underlying42 E kQ E)) ?_))));have M:(l++[x]).length=(0+l.length)+1:=by simp only[length_append,length_cons,length_nil,length_drop,Nat.zero_add]
 have axD:=λ(w:World) (h:Rd w w.heap.size 6 Z ((l++[x]).length) (bU (l++[x])))=>fJ ro ep fr tg rd Z c52 (l++[x]) w h Y;rw[M]at axD;refine dZ eQ (axD _ (St.Uz 1 J E)) ?_;rintro _ w56 ⟨rfl,O⟩;refine⟨_,E,?_⟩;have wY:=J.on O;clear O J;by_cases h59:ay ⟨ro,ep,fr,tg,rd,l++[x]⟩=0
 ·have hsh:=(gG h59).1;unfold bL at hsh;have hln:=jd (gG h59).2;dsimp only at hsh hln;refine zN 9 ?_;refine sa 2 wY kQ ?_;intro w60 IE;refine zN 5 ?_;have Ef:=IE.bq [5,4,3,2,0];have hcp:=(fH (Ef.own 0 E)).1;have ze:=Ef.bZ 0 E;rw[show Fa ⟨ro,ep,fr,tg,rd,l⟩ x=(⟨ro,ep,fr,tg,rd,l++[x]⟩,0)from by unfold Fa;(try dsimp only);exact ni];refine⟨Z,c52,?_,?_,?_⟩
  · dsimp only;rw[M];exact hcp
  · dsimp only;rw[M];rfl
  · dsimp only;rw[M];exact ze
 refine zN 6 ?_;refine vv kL ?_;refine sa 2 wY kQ ?_;intro w64 JF;refine zN 6 ?_;have Ke:=JF.bq [5,4,3,2,1,0];rw[show Fa ⟨ro,ep,fr,tg,rd,l⟩ x=(⟨0,0,0,0,0,[]⟩,3)from by unfold Fa;(try dsimp only);exact ni];exact⟨none,0,oH,E,aI Ke⟩
def Yh(ro ep fr tg rd:Int)(A:Option Addr)(c:Nat)(l:List Ev)(kd qu e pe:Int)(x:Ev)(w:World)(h:Rd w w.heap.size 6 A l.length (bU l))(hb:l.length*48<=reachBytes):
 Calls tP 106 #[.agg #[D ro,D ep,D fr,D tg,D rd,.slice A l.length c],.agg (rR kd qu e pe x)] w λe w'=>e=.returned (.tuple #[.agg #[D 3,D ep,D fr,D pe,D rd,.slice A l.length c],D 0])/\Below w.heap.size w w':=by
 have S:=(St.start w).dJ h;have J:=hb;unfold reachBytes at J;refine jc 11 func106 ?_;refine cw [0,1] ?_;refine zN 2 ?_;refine jT S ?_;intro b1 w2 S3;refine jT S3 ?_;intro b4 w5 S6;refine iU S6 iN ?_;intro b7 w8 S9;refine zN 4 ?_;have I:=S9.drew;refine aU 6 I [2] ?_;refine aW 3 ?_;refine bJ 3 ?_;refine snz (row':= #[D 3,D ep,D fr,D tg,D rd,.slice A l.length c]) 3 E 2 I kQ ?_;intro Py M;refine aW 2 ?_;refine bJ 5 ?_;refine snz (row':= #[D 3,D ep,D fr,D pe,D rd,.slice A l.length c]) 5 E 2 M kQ ?_;intro Pp O;refine aW 2 ?_;refine zN 4 ?_;refine sa 0 O kQ ?_;intro J9 Z;refine zN 5 ?_;exact⟨E,Z.Qe⟩
def Wh(ro ep fr tg rd:Int)(A:Option Addr)(c:Nat)(l:List Ev)(kd qu e pe:Int)(x:Ev)(z:Int)(b1 b2:Nat)(J:l.length<=2000)(w:World)(h:Rd w w.heap.size 6 A l.length (bU l))(hb:l.length*48<=reachBytes)(h1:Rd w w.heap.size 1 (aD b1 0) 1 [D z])(h2:Rd w w.heap.size 1 (aD b2 0) 1 [.func (.func 105) #[] #[]]):
 Calls tP 116 #[.agg #[D ro,D ep,D fr,D tg,D rd,.slice A l.length c],.agg (rR kd qu e pe x),pV b1 0,pV b2 0] w (mY w (if ¬(ro=z/\ep=e)then(bX,3)else Fa ⟨ro,ep,fr,tg,rd,l⟩ x)):=by
 have S:=(((St.start w).dJ h2).dJ h1).dJ h;have M:=hb;unfold reachBytes at M;obtain⟨R,hR⟩:∃R,Fa ⟨ro,ep,fr,tg,rd,l⟩ x=R:=⟨_,E⟩;rw[hR];refine jc 26 func116 ?_;refine cw [0,1,2,3] ?_;refine zN 2 ?_;refine jT S ?_;intro b1 w2 S3;refine jT S3 ?_;intro b4 w5 S6;refine iU S6 iN ?_;intro b7 w8 I;refine zN 8 ?_;refine vv (v:=D z) (aA E E (aV (Rd.cl (j:=0) (St.rd 4 I E) E))) ?_;by_cases h10:ro=z
 ·refine zN 6 ?_;by_cases h11:ep=e
  ·refine zN 9 ?_;refine vv (v:=.func (.func 105) #[] #[]) (aA E E (aV (Rd.cl (j:=0) (St.rd 5 I E) E))) ?_;refine zN 2 ?_;refine yR eQ ((hR▸aa3 ro ep fr tg rd A c l kd qu e pe x J _ (St.rd 3 I E) hb)) ?_;rintro _ NP ⟨O,Z,az1,rfl,T17⟩;refine⟨_,E,?_⟩;have tO:=I.ext T17 E;refine zN 2 ?_;refine sa 1 tO kQ ?_;intro Pq xg;refine zN 5 ?_;rw[ah Y];have tN:=xg.bq [6,5,4,3,2,1];exact⟨O,Z,by assumption,E,tN⟩
  refine zN 7 ?_;refine vv kL ?_;refine sa 0 I kQ ?_;intro Iz l6;refine zN 6 ?_;have xq:=l6.bq [5,4,3,2,1,0];rw[au Y];exact⟨none,0,aG _,E,aI xq⟩
 refine zN 13 ?_;refine vv kL ?_;refine sa 0 I kQ ?_;intro QL nH;refine zN 6 ?_;have vK:=nH.bq [5,4,3,2,1,0];rw[au Y];exact⟨none,0,aG _,E,aI vK⟩
def rU(ro ep fr tg rd:Int)(A:Option Addr)(c:Nat)(l:List Ev)(kd qu e pe:Int)(x:Ev)(z:Int)(b1 b2:Nat)(w:World)(h:Rd w w.heap.size 6 A l.length (bU l))(hb:l.length*48<=reachBytes)(h1:Rd w w.heap.size 1 (aD b1 0) 1 [D z])(h2:Rd w w.heap.size 1 (aD b2 0) 1 [.func (.func 106) #[] #[]]):
 Calls tP 116 #[.agg #[D ro,D ep,D fr,D tg,D rd,.slice A l.length c],.agg (rR kd qu e pe x),pV b1 0,pV b2 0] w λe' w'=>(¬(ro=z/\ep=e)/\e'=.returned (.tuple #[.agg zB,D 3])\/(ro=z/\ep=e)/\e'=.returned (.tuple #[.agg #[D 3,D ep,D fr,D pe,D rd,.slice A l.length c],D 0]))/\Below w.heap.size w w':=by
 have S:=(((St.start w).dJ h2).dJ h1).dJ h;have M:=hb;unfold reachBytes at M;refine jc 26 func116 ?_;refine cw [0,1,2,3] ?_;refine zN 2 ?_;refine jT S ?_;intro b1 w2 S3;refine jT S3 ?_;intro b4 w5 S6;refine iU S6 iN ?_;intro b7 w8 I;refine zN 8 ?_;refine vv (v:=D z) (aA E E (aV (Rd.cl (j:=0) (St.rd 4 I E) E))) ?_;by_cases h10:ro=z
 ·refine zN 6 ?_;by_cases h11:ep=e
  ·refine zN 9 ?_;refine vv (v:=.func (.func 106) #[] #[]) (aA E E (aV (Rd.cl (j:=0) (St.rd 5 I E) E))) ?_;refine zN 2 ?_;refine yR eQ (Yh ro ep fr tg rd A c l kd qu e pe x _ (St.rd 3 I E) hb) ?_;rintro _ w12 ⟨rfl,J⟩;refine⟨_,E,?_⟩;have O:=I.on J;refine zN 2 ?_;refine sa 0 O kQ ?_;intro NP Z;refine zN 5 ?_;exact⟨.inr ⟨by omega,E⟩,Z.Qe⟩
  refine zN 7 ?_;refine vv kL ?_;refine sa 0 I kQ ?_;intro Pp tq;refine zN 6 ?_;exact⟨.inl ⟨by omega,E⟩,tq.Qe⟩
 refine zN 13 ?_;refine vv kL ?_;refine sa 0 I kQ ?_;intro J9 tN;refine zN 6 ?_;exact⟨.inl ⟨by omega,E⟩,tN.Qe⟩
def ajm(ro ep fr tg rd:Int)(A:Option Addr)(c:Nat)(l:List Ev)(kd qu e pe:Int)(x:Ev)(z:Int)(b1 b2:Nat)(J:l.length<=c)(w:World)(h:Rd w w.heap.size 6 A l.length (bU l))(hb:l.length*48<=reachBytes)(h1:Rd w w.heap.size 1 (aD b1 0) 1 [D z])(h2:Rd w w.heap.size 1 (aD b2 0) 1 [.func (.func 108) #[] #[]]):
 Calls tP 116 #[.agg #[D ro,D ep,D fr,D tg,D rd,.slice A l.length c],.agg (rR kd qu e pe x),pV b1 0,pV b2 0] w (mY w (if ¬(ro=z/\ep=e)then(bX,3)else dP ⟨ro,ep,fr,tg,rd,l⟩ e (l.length:Int) [] true)):=by
 have S:=(((St.start w).dJ h2).dJ h1).dJ h;have M:=hb;unfold reachBytes at M;obtain⟨R,hR⟩:∃R,dP ⟨ro,ep,fr,tg,rd,l⟩ e (l.length:Int) [] true=R:=⟨_,E⟩;rw[hR];refine jc 26 func116 ?_;refine cw [0,1,2,3] ?_;refine zN 2 ?_;refine jT S ?_;intro b1 w2 S3;refine jT S3 ?_;intro b4 w5 S6;refine iU S6 iN ?_;intro b7 w8 I;refine zN 8 ?_;refine vv (v:=D z) (aA E E (aV (Rd.cl (j:=0) (St.rd 4 I E) E))) ?_;by_cases h10:ro=z
 ·refine zN 6 ?_;by_cases h11:ep=e
  ·refine zN 9 ?_;refine vv (v:=.func (.func 108) #[] #[]) (aA E E (aV (Rd.cl (j:=0) (St.rd 5 I E) E))) ?_;refine zN 2 ?_;refine yR eQ ((hR▸Yf ro ep fr tg rd A c l kd qu e pe x J _ (St.rd 3 I E) hb)) ?_;rintro _ NP ⟨O,Z,az1,rfl,T17⟩;refine⟨_,E,?_⟩;have tO:=I.ext T17 E;refine zN 2 ?_;refine sa 1 tO kQ ?_;intro Pq xg;refine zN 5 ?_;rw[ah Y];have tN:=xg.bq [6,5,4,3,2,1];exact⟨O,Z,by assumption,E,tN⟩
  refine zN 7 ?_;refine vv kL ?_;refine sa 0 I kQ ?_;intro Iz l6;refine zN 6 ?_;have xq:=l6.bq [5,4,3,2,1,0];rw[au Y];exact⟨none,0,aG _,E,aI xq⟩
 refine zN 13 ?_;refine vv kL ?_;refine sa 0 I kQ ?_;intro QL nH;refine zN 6 ?_;have vK:=nH.bq [5,4,3,2,1,0];rw[au Y];exact⟨none,0,aG _,E,aI vK⟩
def ajn(ro ep fr tg rd:Int)(A:Option Addr)(c:Nat)(l:List Ev)(kd qu e pe:Int)(x:Ev)(z:Int)(b1 b2:Nat)(he:0<=e/\e<=1048576)(w:World)(h:Rd w w.heap.size 6 A l.length (bU l))(hb:l.length*48<=reachBytes)(h1:Rd w w.heap.size 1 (aD b1 0) 1 [D z])(h2:Rd w w.heap.size 1 (aD b2 0) 1 [.func (.func 109) #[] #[]]):
 Calls tP 116 #[.agg #[D ro,D ep,D fr,D tg,D rd,.slice A l.length c],.agg (rR kd qu e pe x),pV b1 0,pV b2 0] w (mY w (if ¬(ro=z/\ep=e)then(bX,3)else iw ⟨ro,ep,fr,tg,rd,l⟩ (e+1))):=by
 have S:=(((St.start w).dJ h2).dJ h1).dJ h;have J:=hb;unfold reachBytes at J;obtain⟨R,hR⟩:∃R,iw ⟨ro,ep,fr,tg,rd,l⟩ (e+1)=R:=⟨_,E⟩;rw[hR];refine jc 26 func116 ?_;refine cw [0,1,2,3] ?_;refine zN 2 ?_;refine jT S ?_;intro b1 w2 S3;refine jT S3 ?_;intro b4 w5 S6;refine iU S6 iN ?_;intro b7 w8 I;refine zN 8 ?_;refine vv (v:=D z) (aA E E (aV (Rd.cl (j:=0) (St.rd 4 I E) E))) ?_;by_cases h10:ro=z
 ·refine zN 6 ?_;by_cases h11:ep=e
  ·refine zN 9 ?_;refine vv (v:=.func (.func 109) #[] #[]) (aA E E (aV (Rd.cl (j:=0) (St.rd 5 I E) E))) ?_;refine zN 2 ?_;refine yR eQ ((hR▸Yg ro ep fr tg rd A c l kd qu e pe x he _ (St.rd 3 I E) hb)) ?_;rintro _ NP ⟨M,O,Z,rfl,T17⟩;refine⟨_,E,?_⟩;have tO:=I.ext T17 E;refine zN 2 ?_;refine sa 1 tO kQ ?_;intro Pq xg;refine zN 5 ?_;rw[ah Y];have tN:=xg.bq [6,5,4,3,2,1];exact⟨M,O,by assumption,E,tN⟩
  refine zN 7 ?_;refine vv kL ?_;refine sa 0 I kQ ?_;intro Iz l6;refine zN 6 ?_;have xq:=l6.bq [5,4,3,2,1,0];rw[au Y];exact⟨none,0,aG _,E,aI xq⟩
 refine zN 13 ?_;refine vv kL ?_;refine sa 0 I kQ ?_;intro QL nH;refine zN 6 ?_;have vK:=nH.bq [5,4,3,2,1,0];rw[au Y];exact⟨none,0,aG _,E,aI vK⟩
def vL(z:Int)(n:FuncId)(w:World):
 Calls tP 104 #[D z,.func (.func n) #[] #[]] w λe w'=> ∃b1 b2,e=.returned (.func (.func 116) #[] #[pV b1 0,pV b2 0])/\St w.heap.size w w' [.Oy b1 #[D z] 3,.Oy b2 #[.func (.func n) #[] #[]] 172]:=by
 have S:=St.start w;refine jc 6 func104 ?_;refine cw [0,1] ?_;refine zN 2 ?_;refine YK S ?_;intro b1 O h;refine YK h ?_;intro b4 I J;refine zN 5 ?_;refine vv LZ ?_;refine zN 5 ?_;have M:St w.heap.size w I [_,_]:=J.re [1,0] dQ;exact⟨b1,b4,E,M⟩
def ajo(w:World)(e:Ending)(w':World):Prop:= ∃m d1 g1 d2 g2 d3 g3 d4 g4 d5 g5,e=.returned (.map (some m))/\St w.heap.size w w' [.Oy d5 #[D 3] 3,.Oy g5 #[.func (.func 109) #[] #[]] 172,.Oy d4 #[D 4] 3,.Oy g4 #[.func (.func 108) #[] #[]] 172,.Oy d3 #[D 4] 3,.Oy g3 #[.func (.func 105) #[] #[]] 172,.Oy d2 #[D 1] 3,.Oy g2 #[.func (.func 106) #[] #[]] 172,.Oy d1 #[D 1] 3,.Oy g1 #[.func (.func 105) #[] #[]] 172,.loc m (sP tP 3 (λy=>if y=7 then some (.func (.func 116) #[] #[pV d5 0,pV g5 0])else(λy=>if y=6 then some (.func (.func 116) #[] #[pV d4 0,pV g4 0])else(λy=>if y=5 then some (.func (.func 116) #[] #[pV d3 0,pV g3 0])else(λy=>if y=4 then some (.func (.func 107) #[] #[])else(λy=>if y=3 then some (.func (.func 116) #[] #[pV d2 0,pV g2 0])else(λy=>if y=2 then some (.func (.func 116) #[] #[pV d1 0,pV g1 0])else(λy=>if y=1 then some (.func (.func 103) #[] #[])else(λ_=>none) y) y) y) y) y) y) y) 7)]
def qA(w:World):
 Calls tP 80 #[] w (ajo w):=by
 have S:=St.start w;refine jc 8 func80 ?_;refine cB (l':=[]) trivial (bH (aL (va ?_)));refine zN 4 ?_;refine MJ (k:=3) S (wn E) E E E ?_;intro b1 w2 S3;refine mW (e:=172) 0 S3 (wn E) E E E E E E underlying3 underlying173 dQ dQ ?_;intro w4 S5;refine dZ eQ (vL 1 105 _) ?_;rintro _ w8 ⟨b6,b7,rfl,h⟩;refine⟨_,E,?_⟩;have S9:=S5.ext h E;refine mW (e:=172) 2 S9 (wn E) E E E E E E underlying3 underlying173 dQ dQ ?_;intro L6 I;refine dZ eQ (vL 1 106 _) ?_;rintro _ NP ⟨J,M,rfl,O⟩;refine⟨_,E,?_⟩;have Z:=I.ext O E;refine mW (e:=172) 4 Z (wn E) E E E E E E underlying3 underlying173 dQ dQ ?_;intro Pq xg;refine mW (e:=172) 4 xg (wn E) E E E E E E underlying3 underlying173 dQ dQ ?_;intro w20 xM;refine dZ eQ (vL 4 105 _) ?_;rintro _ QL ⟨b22,CZ,rfl,T26⟩;refine⟨_,E,?_⟩;have nH:=xM.ext T26 E;refine mW (e:=172) 6 nH (wn E) E E E E E E underlying3 underlying173 dQ dQ ?_;intro QF vR;refine dZ eQ (vL 4 108 _) ?_;rintro _ w31 ⟨b29,b30,rfl,T33⟩;refine⟨_,E,?_⟩;have wP:=vR.ext T33 E;refine mW (e:=172) 8 wP (wn E) E E E E E E underlying3 underlying173 dQ dQ ?_;intro w34 CV;refine dZ eQ (vL 3 109 _) ?_;rintro _ w38 ⟨Q7,b37,rfl,T40⟩;refine⟨_,E,?_⟩;have Co:=CV.ext T40 E;refine mW (e:=172) 10 Co (wn E) E E E E E E underlying3 underlying173 dQ dQ ?_;intro w41 Ee;refine zN 6 ?_;exact⟨b1,b6,b7,J,M,b22,CZ,b29,b30,Q7,b37,E,Ee⟩
def oJ(w:World)(r:bC×Int)(e:Ending)(w':World):Prop:= ∃A c,∃_:r.1.Jp.length<=c,e=.returned (.tuple #[.agg #[D r.1.F9,D r.1.ep,D r.1.fr,D r.1.tg,D r.1.rd,.slice A r.1.Jp.length c],D r.2])/\St w.heap.size w w' [.dR 6 A r.1.Jp.length (bU r.1.Jp)]
section
variable {b:bC}{r:dN}{qu e pe:Int}{x:Ev}{l:List dN}{k:Nat}{T:List bC}{R:bC×Int}
def C8(h:aO r=0):1<=r.kind/\r.kind<=7/\0<=r.Qg/\r.Qg<=3/\0<=r.ME/\r.ME<=1048576/\0<=r.UE/\r.UE<=4:=by
 unfold aO at h
 split at h
 ·cases h
 rename_i h1
 split at h
 ·cases h
 rename_i I
 simp[mK]at h1 I;omega
def ajp(h:¬(1<=r.kind/\r.kind<=7)):aO r=3:=by
 unfold aO;rw[au (by simp[mK];omega)]
def C9(h:¬ay b=0):fO b r=(bX,ay b):=by unfold fO;rw[au h]
def Da(h:ay b=0)(h1:¬aO r=0):fO b r=(bX,aO r):=by unfold fO;rw[ah (λk=>k h),au h1]
def DI(h:ay b=0)(h1:aO r=0)(I:b.F9=2\/(r.kind≠3/\r.kind≠4/\r.UE≠0)):fO b r=(bX,3):=by unfold fO;rw[ah (λk=>k h),ah (λk=>k h1),au I]
def xI(h:ay b=0)(h1:aO r=0)(I:¬(mO b r).2=0):fO b r=(bX,3):=by
 unfold fO;rw[ah (λk=>k h),ah (λk=>k h1)];split
 ·rfl
 first|rfl|rw[au I]
def mD(h:ay b=0)(h1:aO r=0)(I:¬(b.F9=2\/(r.kind≠3/\r.kind≠4/\r.UE≠0)))(J:(mO b r).2=0):fO b r=((mO b r).1,0):=by
 unfold fO;rw[ah (λk=>k h),ah (λk=>k h1),ah I,ah (λk=>k J)]
def auG:mO b ⟨1,qu,e,pe,x⟩=jX b e:=by simp[mO]
def ahD:mO b ⟨2,qu,e,pe,x⟩=if ¬(b.F9=1/\b.ep=e)then(bX,3)else Fa b x:=by simp[mO]
def uZ:mO b ⟨3,qu,e,pe,x⟩=if ¬(b.F9=1/\b.ep=e)then(bX,3)else Zy b pe:=by simp[mO]
def auH:mO b ⟨4,qu,e,pe,x⟩=dV b e pe:=by simp[mO]
def ahE:mO b ⟨5,qu,e,pe,x⟩=if ¬(b.F9=4/\b.ep=e)then(bX,3)else Fa b x:=by simp[mO]
def auI:mO b ⟨6,qu,e,pe,x⟩=if ¬(b.F9=4/\b.ep=e)then(bX,3)else dP b e b.Jp.length [] true:=by simp[mO]
def auJ:mO b ⟨7,qu,e,pe,x⟩=if ¬(b.F9=3/\b.ep=e)then(bX,3)else iw b (e+1):=by simp[mO]
def ajq{a:Int}:(dP b e a [] true).1.Jp.length<=b.Jp.length+1:=by
 unfold dP
 repeat' split
 all_goals simp[bX]
def Hr:(mO b r).1.Jp.length<=b.Jp.length+1:=by
 have h:=ajq (b:=b) (e:=r.ME) (a:=b.Jp.length);unfold mO
 (repeat' split)<;>first|exact h|(unfold jX;(repeat' split)<;>simp[bX])|(unfold dV;(repeat' split)<;>simp[bX])|(unfold iw;(repeat' split)<;>simp[bX])|(unfold Fa;(repeat' split)<;>simp[bX])|simp[bX,Zy]
def Lf{P:Program}{f:FuncId}{vs:Array Value}{w:World}{p:Prop}{X cO:Ending}{B:Nat}(h:Calls P f vs w (λI w'=>(¬p/\I=X\/p/\I=cO)/\Below B w w'))(J:p):Calls P f vs w (λI w'=>I=cO/\Below B w w'):=
 h.mono λ_ _ k=>⟨k.1.elim (λq=>av J q.1) (λq=>q.2),k.2⟩
def Rc{P:Program}{f:FuncId}{vs:Array Value}{w:World}{p:Prop}{X cO:Ending}{B:Nat}(h:Calls P f vs w (λI w'=>(¬p/\I=X\/p/\I=cO)/\Below B w w'))(J:¬p):Calls P f vs w (λI w'=>I=X/\Below B w w'):=
 h.mono λ_ _ k=>⟨k.1.elim (λq=>q.2) (λq=>av q.1 J),k.2⟩
def St.AP{B:Nat}{w0 w:World}{fs:List OJ}{b:Nat}{R R':Obj->Prop}(i:Nat)(S:St B w0 w fs)(hi:fs[i]? =some (.loc b R))(h:∀o,R o->R' o):St B w0 w (fs.set i (.loc b R')):=by
 obtain⟨o,I,J⟩:=S.loc i hi;exact S.YC i hi ⟨E,E,E,E,λ_ _=>E⟩ I (h _ J)
def uE{P:Program}{k:TypeId}{f:Int->Option Value}{n:Nat}{o:Obj}{z:Int}{v:Value}(h:sP P k f n o)(M:f z=some v):sP P k (λy=>if y=z then some v else none) n o:=by
 obtain⟨es,c,e,h⟩:=h;refine⟨es,c,e,λw b O=>?_⟩;obtain⟨eZ,h1,Z⟩:=h w b O;refine⟨eZ,h1,λy u I=>?_⟩;dsimp only at I;by_cases J:y=z
 ·rw[au J]at I;cases I;rw[J];exact Z z v M
 rw[ah J]at I;cases I
def Wi(w:World):Calls tP 80 #[] w λe w'=> ∃m,e=.returned (.map (some m))/\St w.heap.size w w' [.loc m (sP tP 3 (λy=>if y=1 then some (.func (.func 103) #[] #[])else none) 7)]:=
 (qA w).mono λ_ _ ⟨m,I,J,M,g2,O,Z,d4,g4,d5,g5,h,S⟩=>⟨m,h,(St.del 0 (St.del 1 (St.del 2 (St.del 3 (St.del 4 (St.del 5 (St.del 6 (St.del 7 (St.del 8 (St.del 9 (St.AP 10 S E (λ_ h=>uE h (z:=1) E))))))))))))⟩
def ajr(w:World):Calls tP 80 #[] w λe w'=> ∃m I J,e=.returned (.map (some m))/\St w.heap.size w w' [.Oy I #[D 1] 3,.Oy J #[.func (.func 105) #[] #[]] 172,.loc m (sP tP 3 (λy=>if y=2 then some (.func (.func 116) #[] #[pV I 0,pV J 0])else none) 7)]:=
 (qA w).mono λ_ _ ⟨m,I,J,M,g2,O,Z,d4,g4,d5,g5,h,S⟩=>⟨m,I,J,h,(St.del 0 (St.del 1 (St.del 2 (St.del 3 (St.del 4 (St.del 5 (St.del 6 (St.del 7 (St.AP 10 S E (λ_ h=>uE h (z:=2) E))))))))))⟩
def Wj(w:World):Calls tP 80 #[] w λe w'=> ∃m I g2,e=.returned (.map (some m))/\St w.heap.size w w' [.Oy I #[D 1] 3,.Oy g2 #[.func (.func 106) #[] #[]] 172,.loc m (sP tP 3 (λy=>if y=3 then some (.func (.func 116) #[] #[pV I 0,pV g2 0])else none) 7)]:=
 (qA w).mono λ_ _ ⟨m,J,M,I,g2,O,Z,d4,g4,d5,g5,h,S⟩=>⟨m,I,g2,h,(St.del 0 (St.del 1 (St.del 2 (St.del 3 (St.del 4 (St.del 5 (St.del 8 (St.del 9 (St.AP 10 S E (λ_ h=>uE h (z:=3) E))))))))))⟩
def Wm(w:World):Calls tP 80 #[] w λe w'=> ∃m,e=.returned (.map (some m))/\St w.heap.size w w' [.loc m (sP tP 3 (λy=>if y=4 then some (.func (.func 107) #[] #[])else none) 7)]:=
 (qA w).mono λ_ _ ⟨m,I,J,M,g2,O,Z,d4,g4,d5,g5,h,S⟩=>⟨m,h,(St.del 0 (St.del 1 (St.del 2 (St.del 3 (St.del 4 (St.del 5 (St.del 6 (St.del 7 (St.del 8 (St.del 9 (St.AP 10 S E (λ_ h=>uE h (z:=4) E))))))))))))⟩
def ajs(w:World):Calls tP 80 #[] w λe w'=> ∃m I J,e=.returned (.map (some m))/\St w.heap.size w w' [.Oy I #[D 4] 3,.Oy J #[.func (.func 105) #[] #[]] 172,.loc m (sP tP 3 (λy=>if y=5 then some (.func (.func 116) #[] #[pV I 0,pV J 0])else none) 7)]:=
 (qA w).mono λ_ _ ⟨m,M,O,Z,g2,I,J,d4,g4,d5,g5,h,S⟩=>⟨m,I,J,h,(St.del 0 (St.del 1 (St.del 2 (St.del 3 (St.del 6 (St.del 7 (St.del 8 (St.del 9 (St.AP 10 S E (λ_ h=>uE h (z:=5) E))))))))))⟩
def ajt(w:World):Calls tP 80 #[] w λe w'=> ∃m I J,e=.returned (.map (some m))/\St w.heap.size w w' [.Oy I #[D 4] 3,.Oy J #[.func (.func 108) #[] #[]] 172,.loc m (sP tP 3 (λy=>if y=6 then some (.func (.func 116) #[] #[pV I 0,pV J 0])else none) 7)]:=
 (qA w).mono λ_ _ ⟨m,M,O,Z,g2,d3,g3,I,J,d5,g5,h,S⟩=>⟨m,I,J,h,(St.del 0 (St.del 1 (St.del 4 (St.del 5 (St.del 6 (St.del 7 (St.del 8 (St.del 9 (St.AP 10 S E (λ_ h=>uE h (z:=6) E))))))))))⟩
def aju(w:World):Calls tP 80 #[] w λe w'=> ∃m I J,e=.returned (.map (some m))/\St w.heap.size w w' [.Oy I #[D 3] 3,.Oy J #[.func (.func 109) #[] #[]] 172,.loc m (sP tP 3 (λy=>if y=7 then some (.func (.func 116) #[] #[pV I 0,pV J 0])else none) 7)]:=
 (qA w).mono λ_ _ ⟨m,M,O,Z,g2,d3,g3,d4,g4,I,J,h,S⟩=>⟨m,I,J,h,(St.del 2 (St.del 3 (St.del 4 (St.del 5 (St.del 6 (St.del 7 (St.del 8 (St.del 9 (St.AP 10 S E (λ_ h=>uE h (z:=7) E))))))))))⟩
def NZ(k:Int)(h:k≠3/\k≠4)(w:World):
 Calls tP 79 #[D k] w (Iy w true):=by
 have S:=St.start w;refine jc 9 func79 ?_;refine cw [0] ?_;refine zN 18 ?_;exact⟨E,S.Qe⟩
def N7(k:Int)(h:k=3\/k=4)(w:World):
 Calls tP 79 #[D k] w (Iy w false):=by
 have S:=St.start w;refine jc 9 func79 ?_;refine cw [0] ?_;refine zN 8 ?_;by_cases h1:k=3
 ·refine zN 10 ?_;exact⟨E,S.Qe⟩
 refine zN 3 ?_;by_cases I:k=4
 ·refine zN 7 ?_;exact⟨E,S.Qe⟩
 refine zN 7 ?_;omega
def Lg(T:List bC)(q:Int):bC:=T.getD q.toNat bX
noncomputable def qK:List dN->Nat->List bC->Option (List bC)×Nat×Int
 |[],_,T=>(some T,0,0)
 |r::rs,i,T=>if aO r≠0 then(none,i,aO r)else if (fO (Lg T r.Qg) r).2≠0 then(none,i,(fO (Lg T r.Qg) r).2)else qK rs (i+1) (T.set r.Qg.toNat (fO (Lg T r.Qg) r).1)
noncomputable def allM(l:List dN):Option (List bC)×Nat×Int:=qK l 0 [bX,bX,bX,bX]
def Uu{α:Type}{l:List α}{k:Nat}{x:α}(h:l[k]? =some x):l.drop k=x::l.drop (k+1):=by
 obtain⟨I,rfl⟩:=dw.1 h;exact yc I
def anU(h:l[k]? =some r)(I:¬aO r=0):qK (l.drop k) k T=(none,k,aO r):=by rw[Uu h,qK,au I]
def acA(h:l[k]? =some r)(I:aO r=0)(J:fO (Lg T r.Qg) r=R)(M:¬R.2=0):qK (l.drop k) k T=(none,k,R.2):=by subst J;rw[Uu h,qK,ah (by simp[I]),au M]
def Wn(h:l[k]? =some r)(I:aO r=0)(J:fO (Lg T r.Qg) r=R)(M:R.2=0):qK (l.drop k) k T=qK (l.drop (k+1)) (k+1) (T.set r.Qg.toNat R.1):=by subst J;rw[Uu h,qK,ah (by simp[I]),ah (by simp[M])]
def anV(h:l.length<=k):qK (l.drop k) k T=(some T,0,0):=by rw[F5 h,qK]
end
structure BX where
 b:bC
 A:Option Addr
 c:Nat
def BX.cells(x:BX):List Value:=[D x.b.F9,D x.b.ep,D x.b.fr,D x.b.tg,D x.b.rd,.slice x.A x.b.Jp.length x.c]
def UG:BX:=⟨bX,none,0⟩
def vO:List BX:=[UG,UG,UG,UG]
def anW(l:List BX):∀u∈l.flatMap BX.cells,u.oneCell'=true:=by
 intro u h;rw[Dj]at h;obtain⟨z,_,I⟩:=h;simp[BX.cells]at I
 rcases I with rfl|rfl|rfl|rfl|rfl|rfl<;>rfl
def ahF(x:BX):OJ:=.dR 6 x.A x.b.Jp.length (bU x.b.Jp)
def gT(bs:List BX):List OJ:=bs.map ahF
section
variable {B:Nat}{w0 w:World}{bs:List BX}{k:Nat}{y:BX}{l:List Ev}{e:Ev}
def anX{q:Int}(h:bs[q.toNat]? =some y):Lg (bs.map BX.b) q=y.b:=by
 unfold Lg;rw[acB,vX,h];rfl
def ahG(pre:List OJ)(S:St B w0 w (pre++gT bs))(h:bs[k]? =some y):Rd w w.heap.size 6 y.A y.b.Jp.length (bU y.b.Jp):=
 St.dR (pre.length+k) S (by rw[pO (oK _ _),Gc,gT,vX,h];rfl)
def St.pull{fs fs':List OJ}(σ:Nat->Nat)(S:St B w0 w fs)(hs:∀(i:Nat) (f:OJ),fs'[i]? =some f->fs[σ i]? =some f)(hi:∀i j:Nat,i≠j->i<fs'.length->j<fs'.length->σ i≠σ j):St B w0 w fs':=
 ⟨S.Qe,S.base,λi f h=>S.all _ f (hs i f h),λi j f g I h1 J=>S.sep _ _ f g (hi i j I (dw.1 h1).1 (dw.1 J).1) (hs i f h1) (hs j g J)⟩
def ahH(pre:List OJ){z:BX}(S:St B w0 w (pre++(ahF z::gT bs)))(J:k<bs.length):St B w0 w (pre++gT (bs.set k z)):=by
 refine St.pull (λi=>if i<pre.length then i else if i=pre.length+k then pre.length else i+1) S (λi f h=>?_) (λi j M _ _=>?_)
 ·by_cases h1:i<pre.length
  ·simp only[if_pos h1];rw[oC h1]at h⊢;exact h
  obtain⟨d,rfl⟩:∃d,i=pre.length+d:=⟨i-pre.length,by omega⟩;rw[pO (oK _ _),Gc,gT,map_set,getElem?_set]at h;simp only[if_neg h1];by_cases I:k=d
  ·subst I;rw[au E]at h;rw[au E,pO aB,SI];rw[iE,au J]at h;exact h
  rw[ah I]at h;rw[ah Y,pO Y,show pre.length+d+1-pre.length=d+1 from by omega];exact h
 repeat' split
 all_goals omega
def anY{h I:OJ}(S:St B w0 w [h,I]):St B w0 w (h::I::gT vO):=(aI (s:=6) (aI (s:=6) (aI (s:=6) (aI (s:=6) S)))).re [4,5,0,1,2,3] dQ
def tV{α:Type}{enc:α->List Value}{sz:Nat}(I:∀x,(enc x).length=sz)(z:α):∀(k:Nat) (l:List α),k<l.length->vG (l.flatMap enc) (k*sz) (enc z)=(l.set k z).flatMap enc
 |_,[],h=>av h (Tf _)
 | 0,x::l,_=>by
  rw[nM,F6,set_cons_zero,nM];have:∀(vs us xs:List Value),us.length=vs.length->vG (us++xs) 0 vs=vs++xs:=by
   have J:∀(vs us ps xs:List Value),us.length=vs.length->vG (ps++(us++xs)) ps.length vs=ps++(vs++xs):=by
    intro vs
    induction vs with
    |nil=>intro us ps xs h;rw[pW.1 h];rfl
    |cons v vs M=>
     intro us ps xs h;obtain⟨u,us,rfl⟩:∃u O,us=u::O:=by
      cases us with
      |nil=>simp at h
      |cons u us=>exact⟨u,us,E⟩
     rw[vG];have e:(ps++(u::us++xs)).set ps.length v=(ps++[v])++(us++xs):=by simp
     rw[e];have:=M us (ps++[v]) xs (by simpa using h);rw[aZ]at this;rw[show ps.length+1=ps.length+[v].length from E,this];simp
   intro vs us xs h;exact J vs us [] xs h
  exact this _ _ _ (by rw[I,I])
 |k+1,x::l,h=>by
  rw[nM,KR,nM,<-tV I z k l (by simpa using h)];have J:∀(vs us xs:List Value) (j:Nat),vG (us++xs) (us.length+j) vs=us++vG xs j vs:=by
   intro vs
   induction vs with
   |nil=>intro us xs j;rfl
   |cons v vs M=>
    intro us xs j;rw[vG,vG,set_append_right _ _ (oK _ _),Gc,kR,M]
  rw[mR,qU,<-I x,J]
def auK(w:World)(R:Option (List bC)×Nat×Int)(e:Ending)(w':World):Prop:=
 (R.1=none->e=.returned (.tuple #[.slice none 0 0,D (R.2.1:Int),D R.2.2])/\Below w.heap.size w w')/\
 (∀T,R.1=some T-> ∃b bs,bs.map BX.b=T/\bs.length=4/\(∀y∈bs,y.b.Jp.length<=y.c)/\e=.returned (.tuple #[.slice (some ⟨b,0,none⟩) 4 4,D (R.2.1:Int),D R.2.2])/\St w.heap.size w w' (.own 42 6 (.slice (some ⟨b,0,none⟩) 4 4) 4 (bs.flatMap BX.cells)::gT bs))
def ae4{b:bC}{r:dN}:(fO b r).1.Jp.length<=b.Jp.length+1:=by
 have h:=Hr (b:=b) (r:=r);unfold fO
 repeat' split
 all_goals first|exact h|simp[bX]
structure tZ where
 num:Int
 Ut:kE
 pl:Pl
structure bO where
 kd:Int:=0
 fr:Int:=0
 tg:Int:=0
 q:Nat:=0
 ep:Int:=0
 at_:Int:=0
 nd:Int:=0
 op:Ev:=aQ
 Jp:List Ev:=[]
 last:Bool:=false
 num:Int:=0
 bQ:tZ:=⟨0,iX,qg⟩
structure l9 where
 nd:Nat
 q:Nat
 ep:Int
 op:Ev
 Ut:kE
 num:Int
inductive dh
 |serve (q:Nat) (Jp:List Ev) (op:Ev) (num:Int) (a:kE)
 |P8 (q:Nat) (b:bC)
 |T9 (q:Nat) (b:bC) (last:Bool)
 |gy (q:Nat) (b:bC) (at_:Int)
 |P5 (q:Nat) (b:bC)
structure Nd where
 up:Bool
 data:List UInt8
 OY:Int
 bs:Nat->bC
 PS:Nat->Pl
 PZ:Nat->Bool
 Mv:List bO
 OO:Option dh
 turn:Nat
structure Cl where
 aj:Nat->Nd
 off:TW
 OM:List bO
 PU:Nat->Nat->Int×Int
 bG:List l9
 bQ:List tZ
 calls:Nat
def PN{α:Type}(f:Nat->α)(k:Nat)(v:α):Nat->α:=λj=>if j=k then v else f j
def kM{α:Type}(f:Nat->Nat->α)(n q:Nat)(v:α):Nat->Nat->α:=λi j=>if i=n/\j=q then v else f i j
def Cl.put(w:Cl)(n:Nat)(x:Nd):Cl:={w with aj:=PN w.aj n x}
def Cl.aC(w:Cl)(n q:Nat)(b:bC):Cl:=w.put n {w.aj n with bs:=PN (w.aj n).bs q b}
def Cl.send(w:Cl)(l:bO):Cl:={w with OM:=w.OM++[l]}
def Nd.blank(x:Nd):Nd:={x with bs:=λ_=>bX,PZ:=λ_=>false,PS:=λ_=>nowhere,Mv:=[],OO:=none}
def nd0:Nd:=⟨true,[],0,λ_=>bX,λ_=>nowhere,λ_=>false,[],none,0⟩
def lT:Cl:=⟨λ_=>nd0,⟨nowhere,nowhere,nowhere,nowhere⟩,[],λ_ _=>(0,0),[],[],0⟩
def gH(l:List UInt8)(s:Int):List dN->Option (List UInt8)
 |[]=>some l
 |r::rs=>if (jZ l s r).2.2≠0 then none else gH (jZ l s r).1 s rs
def Nd.write(x:Nd)(rs:List dN):Option Nd:=(gH x.data x.OY rs).map λd=>{x with data:=d}
def gZ(k:Int)(q:Nat)(ep pe:Int)(e:Ev):dN:=⟨k,q,ep,pe,e⟩
def Cl.Ug(w:Cl)(n q:Nat)(e:Ev)(a:kE)(num:Int):Cl:=
 {w with bG:=w.bG++[⟨n,q,((w.aj n).bs q).ep,e,a,num⟩],PU:=kM w.PU n q (((w.aj n).bs q).ep,((w.aj n).bs q).Jp.length)}
def Qc(b:bC):Prop:=b.F9=1\/b.F9=2
instance (b:bC):Decidable (Qc b):=by unfold Qc;exact inferInstance
def mg(n:Nat)(num:Int)(a:kE)(p:Pl):bO:={kd:=1,fr:=n,tg:= -1,bQ:=⟨num,a,p⟩}
def Cl.done(w:Cl)(n q:Nat)(op:Ev)(num:Int)(a:kE):Cl:=
 if Qc ((w.aj n).bs q)then(w.Ug n q op a num).send (mg n num a nowhere)else w.send (mg n num a ((w.aj n).PS q))
noncomputable def Cl.serve(w:Cl)(n:Nat)(l:bO):Cl:=
 if (iK ((w.aj n).bs l.q) l.op).2.2.1=false then w.done n l.q l.op l.num (iK ((w.aj n).bs l.q) l.op).2.1
 else match (w.aj n).write [gZ 2 l.q (iK ((w.aj n).bs l.q) l.op).1.ep 0 l.op]with
  |none=>w.done n l.q l.op l.num (rA 14)
  |some x=>w.put n {x with OO:=some (.serve l.q (iK ((w.aj n).bs l.q) l.op).1.Jp l.op l.num (iK ((w.aj n).bs l.q) l.op).2.1)}
def ou(n q:Nat)(b:bC):bO:={kd:=3,fr:=n,tg:=b.fr,q:=q,ep:=b.ep,at_:=b.Jp.length}
def Cl.TV(w:Cl)(n q:Nat):Cl:=w.send (ou n q ((w.aj n).bs q))
noncomputable def Cl.TM(w:Cl)(n:Nat)(l:bO):Cl:=
 if (dV ((w.aj n).bs l.q) l.ep l.fr).2≠0 then w
 else if (dV ((w.aj n).bs l.q) l.ep l.fr).1.ep=((w.aj n).bs l.q).ep then w.TV n l.q
 else match (w.aj n).write [gZ 4 l.q (dV ((w.aj n).bs l.q) l.ep l.fr).1.ep l.fr aQ]with
  |none=>w
  |some x=>w.put n {x with OO:=some (.P8 l.q (dV ((w.aj n).bs l.q) l.ep l.fr).1)}
def r9(q:Nat)(b:bC)(k m:Nat)(last:Bool):List dN:=
 ((b.Jp.take m).drop k).map (λx=>gZ 5 q b.ep 0 x)++if last=true then[gZ 6 q b.ep 0 aQ]else[]
noncomputable def Cl.T9(w:Cl)(n:Nat)(l:bO):Cl:=
 if ((w.aj n).bs l.q).F9≠4\/((w.aj n).bs l.q).fr≠l.fr then w
 else if (dP ((w.aj n).bs l.q) l.ep l.at_ l.Jp l.last).2=2 then w.TV n l.q
 else if (dP ((w.aj n).bs l.q) l.ep l.at_ l.Jp l.last).2≠0\/(dP ((w.aj n).bs l.q) l.ep l.at_ l.Jp l.last).1.Jp.length=((w.aj n).bs l.q).Jp.length then w
 else match (w.aj n).write (r9 l.q (dP ((w.aj n).bs l.q) l.ep l.at_ l.Jp l.last).1 ((w.aj n).bs l.q).Jp.length (l.at_.toNat+l.Jp.length) l.last)with
  |none=>w
  |some x=>w.put n {x with OO:=some (.T9 l.q (dP ((w.aj n).bs l.q) l.ep l.at_ l.Jp l.last).1 l.last)}
noncomputable def IV(n q:Nat)(b:bC)(at_:Int):bO:={kd:=4,fr:=n,tg:=b.tg,q:=q,ep:=b.ep+1,at_:=at_,Jp:=(jq b at_).1,last:=(jq b at_).2.1}
noncomputable def Cl.part(w:Cl)(n q:Nat)(at_:Int):Cl:=if (jq ((w.aj n).bs q) at_).2.2≠0 then w else w.send (IV n q ((w.aj n).bs q) at_)
noncomputable def Cl.Ud(w:Cl)(n:Nat)(l:bO):Cl:=
 if ((w.aj n).bs l.q).tg≠l.fr\/((w.aj n).bs l.q).ep+1≠l.ep then w
 else if (bY ((w.aj n).bs l.q) l.at_).2≠0 then w
 else if (bY ((w.aj n).bs l.q) l.at_).1.F9=((w.aj n).bs l.q).F9 then(w.aC n l.q (bY ((w.aj n).bs l.q) l.at_).1).part n l.q l.at_
 else match (w.aj n).write [gZ 3 l.q (bY ((w.aj n).bs l.q) l.at_).1.ep (bY ((w.aj n).bs l.q) l.at_).1.tg aQ]with
  |none=>w
  |some x=>w.put n {x with OO:=some (.gy l.q (bY ((w.aj n).bs l.q) l.at_).1 l.at_)}
def Nd.Qf(x:Nd)(n:Nat)(l:bO):Nd:=
 {x with PS:=if (x.PS l.q).ME<l.ep then PN x.PS l.q ⟨l.nd,l.ep⟩else x.PS,PZ:=if l.nd=n/\(x.bs l.q).ep=l.ep then PN x.PZ l.q true else x.PZ}
noncomputable def Cl.Ui(w:Cl)(n:Nat)(l:bO):Cl:=
 if (iw ((w.aj n).bs l.q) l.ep).2≠0 then w.put n ((w.aj n).Qf n l)
 else match ((w.aj n).Qf n l).write [gZ 7 l.q ((w.aj n).bs l.q).ep 0 aQ]with
  |none=>w.put n ((w.aj n).Qf n l)
  |some x=>w.put n {x with OO:=some (.P5 l.q (iw ((w.aj n).bs l.q) l.ep).1)}
def yC(n q:Nat)(b:bC):bO:={kd:=2,fr:=n,tg:=b.tg,q:=q,ep:=b.ep+1}
def Rf(n q:Nat):bO:={kd:=5,fr:=n,tg:= -2,q:=q,nd:= -1}
def Pb(n q:Nat)(b:bC):bO:={kd:=5,fr:=n,tg:= -2,q:=q,ep:=b.ep-1,nd:=n}
def ig(n q:Nat)(b:bC)(PZ:Bool):List bO:=
 (if b.F9=2\/b.F9=3 then[yC n q b]else[])++(if b.F9=3 then[Rf n q]else[])++if b.F9=1/\1<b.ep/\PZ=false then[Pb n q b]else[]
def Cl.lu(w:Cl)(n:Nat):Cl:=
 let q:=(w.aj n).turn % 4
 { (w.put n {w.aj n with turn:=(w.aj n).turn+1})with OM:=w.OM++ig n q ((w.aj n).bs q) ((w.aj n).PZ q)}
noncomputable def Cl.zY(w:Cl)(n:Nat):dh->Cl
 | .serve q Jp op num a=>(w.aC n q { (w.aj n).bs q with Jp:=Jp}).done n q op num a
 | .P8 q b=>(w.aC n q b).TV n q
 | .T9 q b last=>if last=true then((w.aC n q b).put n { (w.aC n q b).aj n with PZ:=PN (w.aj n).PZ q false}).Ug n q bg iX (-1)else(w.aC n q b).TV n q
 | .gy q b at_=>(w.aC n q b).part n q at_
 | .P5 q b=>w.aC n q b
noncomputable def Cl.PY(w:Cl)(n:Nat)(l:bO):Cl:=
 if l.kd=0 then w.serve n l else if l.kd=2 then w.TM n l else if l.kd=3 then w.Ud n l else if l.kd=4 then w.T9 n l else w.Ui n l
noncomputable def Cl.drain(n:Nat):List bO->Cl->Cl
 |[],w=>w
 |l::r,w=>if ((w.put n {w.aj n with Mv:=r}).PY n l |>.aj n).OO=none then Cl.drain n r ((w.put n {w.aj n with Mv:=r}).PY n l)else(w.put n {w.aj n with Mv:=r}).PY n l
noncomputable def Cl.step(w:Cl)(n:Nat):Cl:=
 if (w.aj n).up=false then w else match (w.aj n).OO with
  |some p=>(w.put n {w.aj n with OY:=(w.aj n).data.length,OO:=none}).zY n p
  |none=>if ((Cl.drain n (w.aj n).Mv w).aj n).OO=none then(Cl.drain n (w.aj n).Mv w).lu n else Cl.drain n (w.aj n).Mv w
def mE(tg:Int)(q:Nat)(p:Pl):bO:={kd:=6,fr:= -2,tg:=tg,q:=q,ep:=p.ME,nd:=p.node}
noncomputable def eu(d:TW)(l:bO):TW:=if 0<=l.nd/\(yI d l.q l.ep l.nd).2=0 then(yI d l.q l.ep l.nd).1 else d
noncomputable def Cl.P6(w:Cl)(l:bO):Cl:=
 if l.tg= -1 then{w with bQ:=w.bQ++[l.bQ]}
 else if l.tg= -2 then
  if (aN (eu w.off l) l.q).2=0 then{w with off:=eu w.off l,OM:=w.OM++[mE l.fr l.q (aN (eu w.off l) l.q).1]}else{w with off:=eu w.off l}
 else if (w.aj l.tg.toNat).up=true then w.put l.tg.toNat {w.aj l.tg.toNat with Mv:=(w.aj l.tg.toNat).Mv++[l]}else w
noncomputable def Cl.pick(w:Cl)(at_:Nat)(comes stays:Bool):Cl:=
 match w.OM[at_ % w.OM.length]? with
 |none=>w
 |some l=>
  let w1:=if stays=true then w else{w with OM:=w.OM.eraseIdx (at_ % w.OM.length)}
  if comes=true then w1.P6 l else w1
noncomputable def Cl.make(w:Cl)(n q:Nat):Cl:=
 if (w.aj n).up=false\/(w.aj n).OO.isSome=true\/(uX w.off q n).2≠0 then w
 else if (jX ((w.aj n).bs q) 1).2≠0 then w
 else match (w.aj n).write [gZ 1 q (jX ((w.aj n).bs q) 1).1.ep 0 aQ]with
  |none=>w
  |some x=>{w.put n {x with OY:=x.data.length,bs:=PN x.bs q (jX ((w.aj n).bs q) 1).1}with off:=(uX w.off q n).1,PU:=kM w.PU n q (1,0)}
noncomputable def Cl.move(w:Cl)(q:Nat)(tg:Int):Cl:=
 if (aN w.off q).2≠0\/(aN w.off q).1.node=tg\/(w.aj (aN w.off q).1.node.toNat).up=false then w
 else if (vQ ((w.aj (aN w.off q).1.node.toNat).bs q) tg).2=0/\(vQ ((w.aj (aN w.off q).1.node.toNat).bs q) tg).1.ep=(aN w.off q).1.ME then
  w.aC (aN w.off q).1.node.toNat q (vQ ((w.aj (aN w.off q).1.node.toNat).bs q) tg).1
 else w
noncomputable def Fb(data:List UInt8)(OY:Int):Option (List bC):=(allM (xA (lH data OY).1 (lH data OY).2.1).1).1
noncomputable def dK(data:List UInt8)(OY:Int):Nat->bC:=λq=>Lg ((Fb data OY).getD []) q
def Cl.recovered(w:Cl)(n q:Nat)(Jp:List Ev)(an:List kE):List Nat->Cl
 |[]=>w
 |i::r=>Cl.recovered (w.Ug n q (Jp.getD i aQ) (an.getD i iX) (-1)) n q Jp an r
noncomputable def Cl.recover(w:Cl)(n q:Nat):Cl:=
 if (w.PU n q).1≠((w.aj n).bs q).ep then w.Ug n q bg iX (-1)
 else w.recovered n q ((w.aj n).bs q).Jp (aM ((w.aj n).bs q).Jp).2.1 ((range ((w.aj n).bs q).Jp.length).drop (w.PU n q).2.toNat)
noncomputable def gU(OY:Int)(bs:Nat->bC):List Nat->List UInt8->Option (List UInt8)
 |[],d=>some d
 |q::r,d=>if (bs q).F9≠1 then gU OY bs r d else if (gW (bs q)).2≠0 then none else
  match gH d OY [gZ 2 q (bs q).ep 0 bg]with
  |none=>none
  |some d'=>gU OY bs r d'
noncomputable def Cl.TY(n:Nat)(bs:Nat->bC):List Nat->Cl->Cl
 |[],w=>w
 |q::r,w=>if (bs q).F9≠1 then Cl.TY n bs r w else Cl.TY n bs r (((w.recover n q).aC n q (gW (bs q)).1).Ug n q bg iX (-1))
noncomputable def Cl.start(w:Cl)(n:Nat):Cl:=
 if (w.aj n).up=true then w else
 match gU (lH (w.aj n).data (w.aj n).OY).2.1 (dK (w.aj n).data (w.aj n).OY) [0,1,2,3] (lH (w.aj n).data (w.aj n).OY).1 with
 |none=>w
 |some d=>Cl.TY n (dK (w.aj n).data (w.aj n).OY) [0,1,2,3] (w.put n { (w.aj n).blank with up:=true,data:=d,OY:=d.length,bs:=dK (w.aj n).data (w.aj n).OY})
def Cl.UZ(w:Cl)(n:Nat)(keep:Int):Cl:=
 if (w.aj n).up=true then w.put n { (w.aj n).blank with up:=false,data:=(rT (w.aj n).data (w.aj n).OY keep).1,OY:=(rT (w.aj n).data (w.aj n).OY keep).2.1}else w
def Ac.op(a:Ac):Ev:=⟨a.ek,a.ep,a.ei,a.eb,a.eh,a.en⟩
def xB(n:Int)(q:Nat)(op:Ev)(num:Int):bO:={kd:=0,fr:= -1,tg:=n,q:=q,op:=op,num:=num}
noncomputable def Cl.all(w:Cl):Cl:=w.OM.foldl Cl.P6 {w with OM:=[]}
noncomputable def Cl.Ub(w:Cl)(a:Ac):Cl:=
 if a.kd=1 then w.make a.nd.toNat a.qu.toNat
 else if a.kd=2 then{w with OM:=w.OM++[xB a.nd a.qu.toNat a.op w.calls],calls:=w.calls+1}
 else if a.kd=3 then w.step a.nd.toNat
 else if a.kd=4\/a.kd=5\/a.kd=6 then w.pick a.at_.toNat (decide (a.kd≠5)) (decide (a.kd=6))
 else if a.kd=7 then w.all
 else if a.kd=8 then w.UZ a.nd.toNat a.kp
 else if a.kd=9 then w.start a.nd.toNat
 else w.move a.qu.toNat a.nd
noncomputable def Cl.run(w:Cl)(l:List Ac):Cl:=l.foldl Cl.Ub w
noncomputable def Nd.view(x:Nd):Nat->bC:=if x.up=true then x.bs else dK x.data x.OY
def xQ:∀(a b:List Ev) (Q:Qd) (an:List kE),jo Q an (a++b)=(jo Q an a).bind λr=>jo r.1 r.2 b
 |[],b,Q,an=>rfl
 |e::a,b,Q,an=>by
  simp only[cons_append,jo]
  split
  ·exact xQ a b _ _
  rfl
def Ua(l:List Ev):Prop:=(aM l).2.2=0
def xJ:Ua l↔l.length<=2000/\ ∃r,jo gu [] l=some r:=by
 unfold Ua
 constructor
 ·intro h;refine⟨jd h,?_⟩;have J:¬ 2000<l.length:=by have:=jd h;omega
  cases I:jo gu [] l with
  |none=>rw[MP J I]at h;cases h
  |some r=>exact⟨r,E⟩
 rintro⟨h,r,I⟩;rw[GY Y I]
def AQ{r:Qd×List kE}(h:l.length<=2000)(I:jo gu [] l=some r):aM l=(r.1,r.2,0):=GY Y I
def zu:Ua []:=xJ.2 ⟨by simp,_,E⟩
def Wo{a b:List Ev}(h:Ua (a++b)):Ua a:=by
 obtain⟨h1,r,I⟩:=xJ.1 h;rw[xQ]at I;rw[aZ]at h1
 cases J:jo gu [] a with
 |none=>rw[J]at I;cases I
 |some s=>exact xJ.2 ⟨by omega,s,J⟩
def xC(h:Ua l):Ua (l.take k):=Wo (b:=l.drop k) (by rwa [yg])
def mF(h:Ua l):l.length<=2000:=jd h
def UF(h:Ua (l++[e])):(jU (aM l).1 e).2.2.2=0/\(jU (aM l).1 e).2.2.1=true/\aM (l++[e])=((jU (aM l).1 e).1,(aM l).2.1++[(jU (aM l).1 e).2.1],0):=by
 obtain⟨h1,r,I⟩:=xJ.1 h;rw[aZ]at h1;rw[xQ]at I
 cases J:jo gu [] l with
 |none=>rw[J]at I;cases I
 |some s=>
  have hs:=AQ Y J;rw[J]at I;simp only[Option.bind_some,jo]at I
  split at I
  ·rename_i M
   rw[hs];refine⟨M.1,M.2,?_⟩
   cases I;refine AQ (r:=((jU s.1 e).1,s.2++[(jU s.1 e).2.1])) (by rw[aZ];exact h1) ?_;rw[xQ,J];simp only[Option.bind_some,jo];rw[au M]
  cases I
def Rh(h:Ua l)(O:l.length<2000)(I:(jU (aM l).1 e).2.2.2=0)(J:(jU (aM l).1 e).2.2.1=true):Ua (l++[e]):=by
 obtain⟨h1,s,M⟩:=xJ.1 h;have hs:=AQ h1 M;rw[hs]at I J;refine xJ.2 ⟨by simp;omega,((jU s.1 e).1,s.2++[(jU s.1 e).2.1]),?_⟩;rw[xQ,M];simp only[Option.bind_some,jo];rw[au ⟨I,J⟩]
def ae5(h:Ua l):(aM l).2.1.length=l.length:=by
 obtain⟨h1,s,I⟩:=xJ.1 h;rw[AQ h1 I];have:=(FK (by simp[gu]) I).2;simpa using this
def uF(h:k<l.length):l.take (k+1)=l.take k++[l[k]]:=by rw[qY,eT h];rfl
def auL{Q:Qd}(h:(jU Q bg).2.2.1=true):(jU Q bg).2.1=iX:=by
 by_cases I:Q.Uy=0
 ·have he:bK bg=0:=by decide
  rw[BO I he]at h⊢
  show(Qh Q bg).2.1=iX
  have h1:(Qh Q bg).2.2=true:=h;unfold Qh at h1⊢;simp only[bg,Int.reduceEq,if_false]at h1⊢;unfold GV at h1⊢
  split at h1
  ·cases h1
  rename_i J;rw[ah J]
 rw[O8 I]at h
 cases h
def anZ{Q:Qd}{e:Ev}(J:(jU Q e).2.2.2=0)(h:(jU Q e).2.2.1=false):(jU Q e).1=Q:=by
 by_cases M:Q.Uy=0
 ·by_cases h1:bK e=0
  ·rw[BO M h1]at h⊢
   show(Qh Q e).1=Q
   have I:(Qh Q e).2.2=false:=h;unfold Qh at I⊢
   split at I
   ·rename_i g;rw[au g]
    unfold Ec at I⊢
    repeat' split at I
    all_goals first
     |(cases I;done)
     |(simp_all)
   rename_i g;rw[ah g]
   split at I
   ·rename_i O;rw[au O]
    unfold Jv at I⊢
    split at I
    ·simp_all
    split at I
    ·simp_all
    cases I
   rename_i O;rw[ah O]
   split at I
   ·rename_i g2;rw[au g2]
    unfold GU at I⊢
    repeat' split at I
    all_goals first
     |(cases I;done)
     |(simp_all)
   rename_i g2;rw[ah g2]
   unfold GV at I⊢
   split at I
   ·simp_all
   cases I
  rw[Uh M h1]at J;exact av J h1
 rw[O8 M]at J;exact av J M
end
noncomputable def rp:Qd->List l9->Option Qd
 |x,[]=>some x
 |x,s::r=>if (jU x s.op).2.2.2=0/\(jU x s.op).2.1=s.Ut then rp (jU x s.op).1 r else none
def ahI:∀(a b:List l9) (x:Qd),rp x (a++b)=(rp x a).bind λy=>rp y b
 |[],b,x=>rfl
 |s::a,b,x=>by
  simp only[cons_append,rp]
  split
  ·exact ahI a b _
  rfl
def Tj{x y:Qd}{a:List l9}{s:l9}(h:rp x a=some y)(I:(jU y s.op).2.2.2=0)(J:(jU y s.op).2.1=s.Ut):rp x (a++[s])=some (jU y s.op).1:=by
 rw[ahI,h];simp only[Option.bind_some,rp];rw[au ⟨I,J⟩]
structure Gh where
 m:Nat
 own:Nat->Nat
 len:Nat->Nat
 G:List Ev
 F:Nat
 t:Nat
def Gh.bd(g:Gh)(k:Nat):Nat:=if k=g.m then g.G.length else g.len k
def Gh.o(g:Gh):Nat:=g.own g.m
def Oth(g:Gh)(n:Nat)(b:bC):Prop:=
 (b.F9=0/\0<=b.ep/\b.ep<g.m)\/
 (∃k:Nat,b.F9=3/\b.ep=k/\1<=k/\k<g.m/\g.own k=n/\b.Jp=g.G.take (g.len k)/\b.tg=g.own (k+1))\/
 (∃k:Nat,b.F9=4/\b.ep=(k:Int)+1/\1<=k/\k<=g.m/\b.fr=g.own k/\b.Jp=g.G.take b.Jp.length/\b.Jp.length<=g.bd k/\(k<g.m->g.own (k+1)≠n))
def ER(g:Gh)(V:Nat->bC)(pl:Pl)(l:bO):Prop:=
 (l.kd=2-> ∃k:Nat,l.ep=(k:Int)+1/\1<=k/\k<=g.m/\l.fr=g.own k)/\
 (l.kd=4-> ∃k:Nat,l.ep=(k:Int)+1/\1<=k/\k<=g.m/\l.fr=g.own k/\0<=l.at_/\l.Jp=(g.G.drop l.at_.toNat).take l.Jp.length/\l.at_.toNat+l.Jp.length<=g.bd k/\
  (l.last=true->(k<g.m/\(g.own (k+1):Int)=l.tg)\/(k=g.m/\(V g.o).F9=3/\(V g.o).tg=l.tg/\l.at_.toNat+l.Jp.length=g.G.length)))/\
 (l.kd=5->0<=l.nd-> ∃k:Nat,l.ep=k/\1<=k/\k<g.m/\(g.own (k+1):Int)=l.nd)/\
 (l.kd=6-> ∃k:Nat,l.ep=k/\1<=k/\(k:Int)<=pl.ME/\(g.own k:Int)=l.nd)
def Gq(g:Gh)(V:Nat->bC)(n:Nat):dh->Prop
 | .serve _ Jp op _ a=>n=g.o/\Qc (V n)/\Jp=g.G++[op]/\(jU (aM g.G).1 op).2.1=a/\Ua Jp
 | .P8 _ b=> ∃k:Nat,b=⟨4,(k:Int)+1,g.own k,0,0,[]⟩/\1<=k/\k<=g.m/\((V n).F9=0\/(V n).F9=4)/\(V n).ep< (k:Int)+1
 | .T9 _ b last=>(V n).F9=4/\(last=false-> ∃j,b={V n with Jp:=g.G.take j}/\(V n).Jp.length<=j/\ ∀k:Nat,(V n).ep=(k:Int)+1->j<=g.bd k)/\
   (last=true->(V n).ep=(g.m:Int)+1/\(V g.o).F9=3/\(V g.o).tg=n/\b=⟨1,(g.m:Int)+1,0,0,0,g.G++[bg]⟩/\Ua (g.G++[bg]))
 | .gy _ b _=>n=g.o/\(V n).F9=2/\b={V n with F9:=3,rd:=0}
 | .P5 _ b=>(V n).F9=3/\b=⟨0,(V n).ep,0,0,0,[]⟩/\(V n).ep<g.m
structure UH (own:Nat->Nat)(t:Nat)(sv:List l9):Prop where
 each:∀s∈sv,∃k:Nat,s.ep=k/\1<=k/\k<=t/\s.nd=own k
 two:∀i a b,sv[i]? =some a->sv[i+1]? =some b->b.ep=a.ep\/(b.ep=a.ep+1/\b.op=bg)
 last:∀s,sv.getLast?=some s->s.ep=t
 nil:sv=[]->t=1
structure TU (g:Gh)(V:Nat->bC)(P:Nat->Option dh)(U:Nat->Bool)(Lt:bO->Prop)(pl:Pl)(sh:Nat->Int×Int)(sv:List l9):Prop where
 m1:1<=g.m
 Zz:∀k,1<=k->k<=g.m->g.own k<5
 adj:∀k,1<=k->k<g.m->g.own k≠g.own (k+1)
 dir:∃d:Nat,pl=⟨g.own d,d⟩/\1<=d/\(d=g.m\/d+1=g.m)
 vV:(V g.o).ep=g.m
 yN:(V g.o).Jp=g.G
 ES:(V g.o).F9=1\/(V g.o).F9=2\/(V g.o).F9=3
 UJ:(V g.o).F9≠1->pl.ME=g.m/\(V g.o).tg≠g.o/\0<=(V g.o).tg/\(V g.o).tg<5
 gd:Ua g.G
 oM:∀n,n<5->n≠g.o->Oth g n (V n)
 ge:∀k,1<=k->k<=g.m->(k:Int)<=(V (g.own k)).ep
 brk:∀k,1<=k->k<g.m->g.G[g.len k]? =some bg/\g.len k<g.bd (k+1)
 nD:∀l,Lt l->ER g V pl l
 nQ:∀n,n<5-> ∀p,P n=some p->U n=true/\Gq g V n p
 UK:(g.t=g.m/\sh g.o=((g.m:Int),(g.F:Int))/\g.F<=g.G.length)\/(g.t+1=g.m/\(sh g.o).1<g.m/\U g.o=false/\g.F+1=g.G.length/\g.G[g.F]? =some bg)
 upF:U g.o=true->g.F=g.G.length
 slF:(V g.o).F9=3->g.F=g.G.length
 sho:∀n,n<5->n≠g.o->(sh n).1<g.m
 rps:rp gu sv=some (aM (g.G.take g.F)).1
 svs:UH g.own g.t sv
section
variable {g:Gh}{V:Nat->bC}{P:Nat->Option dh}{U:Nat->Bool}{Lt:bO->Prop}{pl:Pl}{sh:Nat->Int×Int}{sv:List l9}{n:Nat}{l:bO}{b:bC}
def TU.o5(I:TU g V P U Lt pl sh sv):g.o<5:=I.Zz _ I.m1 aB
def TU.ZA(I:TU g V P U Lt pl sh sv){k:Nat}(h:1<=k)(h1:k<=g.m):g.bd k<=g.G.length:=by
 unfold Gh.bd
 split
 ·exact aB
 have:=(I.brk k h Y).1;exact Gs (dw.1 this).1
def TU.Pd(I:TU g V P U Lt pl sh sv){k:Nat}(h:1<=k)(h1:k<g.m):g.len k<g.G.length:=(dw.1 (I.brk k h h1).1).1
def TU.who(I:TU g V P U Lt pl sh sv)(hn:n<5)(h:Qc (V n)):n=g.o:=by
 by_cases e:n=g.o
 ·exact e
 have:=I.oM n hn e;unfold Qc at h
 rcases this with⟨h1,_⟩|⟨k,h1,_⟩|⟨k,h1,_⟩<;>omega
def Jo{α:Type}(f:Nat->α)(k:Nat)(v:α):PN f k v k=v:=au E
def Ox{α:Type}{f:Nat->α}{k j:Nat}{v:α}(h:j≠k):PN f k v j=f j:=ah h
def aJ{α:Type}{f:Nat->α}{k:Nat}{v:α}(h:f k=v):PN f k v=f:=by
 funext j
 unfold PN
 split
 ·rename_i e;rw[e,h]
 rfl
def TU.En{Lt':bO->Prop}(I:TU g V P U Lt pl sh sv)(h:∀l,Lt' l->Lt l\/ER g V pl l):TU g V P U Lt' pl sh sv:=
 {I with nD:=λl J=>(h l J).elim (I.nD l) id}
def TU.axE{P':Nat->Option dh}(I:TU g V P U Lt pl sh sv)(h:∀n p,n<5->P' n=some p->P n=some p\/(U n=true/\Gq g V n p)):TU g V P' U Lt pl sh sv:=
 {I with nQ:=λn hn p J=>(h n p hn J).elim (I.nQ n hn p) id}
def TU.down(I:TU g V P U Lt pl sh sv)(n:Nat):TU g V (PN P n none) (PN U n false) Lt pl sh sv:=
 {I with
  nQ:=λk M p J=>by
   by_cases e:k=n
   ·subst e;rw[Jo]at J;cases J
   rw[Ox e]at J⊢;exact I.nQ k M p J
  UK:=by
   rcases I.UK with h|⟨h1,O,Z,h4⟩
   ·exact .inl h
   refine .inr ⟨h1,O,?_,h4⟩;by_cases e:g.o=n
   ·rw[e,Jo]
   rw[Ox e];exact Z
  upF:=λh=>by
   by_cases e:g.o=n
   ·rw[e,Jo]at h;cases h
   rw[Ox e]at h;exact I.upF h}
def TU.up(I:TU g V P U Lt pl sh sv)(n:Nat)(h:n=g.o->g.t=g.m/\g.F=g.G.length):TU g V P (PN U n true) Lt pl sh sv:=
 {I with
  nQ:=λk O p Z=>by
   obtain⟨h1,J⟩:=I.nQ k O p Z;refine⟨?_,J⟩;by_cases e:k=n
   ·rw[e,Jo]
   rw[Ox e];exact h1
  UK:=by
   by_cases e:g.o=n
   ·obtain⟨h1,J⟩:=h e.symm
    rcases I.UK with h|⟨h3,_⟩
    ·exact .inl h
    omega
   rw[Ox e];exact I.UK
  upF:=λM=>by
   by_cases e:g.o=n
   ·exact(h e.symm).2
   rw[Ox e]at M;exact I.upF M}
def Gq.mono{V':Nat->bC}{p:dh}(h:Gq g V n p)(hv:V' n=V n)(I:(V g.o).F9=3->(V' g.o).F9=3/\(V' g.o).tg=(V g.o).tg):Gq g V' n p:=by
 cases p with
 |serve q Jp op num a=>unfold Gq at h⊢;rw[hv];exact h
 |P8 q b=>unfold Gq at h⊢;rw[hv];exact h
 |T9 q b last=>
  unfold Gq at h⊢;rw[hv];refine⟨h.1,h.2.1,λJ=>?_⟩;obtain⟨h1,M,O,Z⟩:=h.2.2 J;obtain⟨h5,h6⟩:=I M;exact⟨h1,h5,h6.trans O,Z⟩
 |gy q b at_=>unfold Gq at h⊢;rw[hv];exact h
 |P5 q b=>unfold Gq at h⊢;rw[hv];exact h
def ER.mono{V':Nat->bC}(h:ER g V pl l)(I:(V g.o).F9=3->(V' g.o).F9=3/\(V' g.o).tg=(V g.o).tg):ER g V' pl l:=by
 obtain⟨h1,J,M⟩:=h;refine⟨h1,λO=>?_,M⟩;obtain⟨k,a,b,c,d,e,f,i,j⟩:=J O;refine⟨k,a,b,c,d,e,f,i,λZ=>?_⟩
 rcases j Z with j|⟨j1,j2,j3,j4⟩
 ·exact .inl j
 obtain⟨h5,h6⟩:=I j2;exact .inr ⟨j1,h5,h6.trans j3,j4⟩
def TU.Vw(I:TU g V P U Lt pl sh sv)(hn:n<5)(PX:n≠g.o)(hp:P n=none)(hb:Oth g n b)(hge:(V n).ep<=b.ep):TU g (PN V n b) P U Lt pl sh sv:=by
 have J:PN V n b g.o=V g.o:=Ox (λe=>PX e.symm);exact{I with
  vV:=by rw[J];exact I.vV
  yN:=by rw[J];exact I.yN
  ES:=by rw[J];exact I.ES
  UJ:=by rw[J];exact I.UJ
  slF:=by rw[J];exact I.slF
  oM:=λk O Z=>by
   by_cases e:k=n
   ·subst e;rw[Jo];exact hb
   rw[Ox e];exact I.oM k O Z
  ge:=λk h1 h2=>by
   have:=I.ge k h1 h2;by_cases e:g.own k=n
   ·rw[e]at this⊢;rw[Jo];omega
   rw[Ox e];exact this
  nD:=λl hl=>(I.nD l hl).mono λh=>by rw[J];exact⟨h,E⟩
  nQ:=λk O p M=>by
   obtain⟨h1,h2⟩:=I.nQ k O p M;refine⟨h1,h2.mono (Ox λe=>?_) λh=>by rw[J];exact⟨h,E⟩⟩;subst e;rw[hp]at M;cases M}
def TU.ae6(I:TU g V P U Lt pl sh sv)(hp:∀p,P g.o=some p->Gq g (PN V g.o b) g.o p)(h1:b.ep=g.m)(h2:b.Jp=g.G)(h3:b.F9=1\/b.F9=2\/b.F9=3)(h4:b.F9≠1->pl.ME=g.m/\b.tg≠g.o/\0<=b.tg/\b.tg<5)
  (h5:(V g.o).F9=3->b.F9=3/\b.tg=(V g.o).tg) (h6:b.F9=3->g.F=g.G.length):TU g (PN V g.o b) P U Lt pl sh sv:=by
 have J:PN V g.o b g.o=b:=Jo _ _ _;exact{I with
  vV:=by rw[J];exact h1
  yN:=by rw[J];exact h2
  ES:=by rw[J];exact h3
  UJ:=by rw[J];exact h4
  slF:=by rw[J];exact h6
  oM:=λk Z M=>by rw[Ox M];exact I.oM k Z M
  ge:=λk j1 j2=>by
   have:=I.ge k j1 j2;by_cases e:g.own k=g.o
   ·rw[e]at this⊢;rw[J,h1];rw[I.vV]at this;exact this
   rw[Ox e];exact this
  nD:=λl hl=>(I.nD l hl).mono λh=>by rw[J];exact h5 h
  nQ:=λk Z p O=>by
   obtain⟨j1,j2⟩:=I.nQ k Z p O;refine⟨j1,?_⟩;by_cases e:k=g.o
   ·subst e;exact hp p O
   exact j2.mono (Ox e) λh=>by rw[J];exact h5 h}
def sV{l x:List Ev}{k:Nat}(h:k<=l.length):(l++x).take k=l.take k:=AB h
def FH{l x:List Ev}{a k:Nat}(h:a+k<=l.length):((l++x).drop a).take k=(l.drop a).take k:=by
 rw[drop_append_of_le_length Y,AB (by rw[dO];omega)]
def Gh.app(g:Gh)(e:Ev):Gh:={g with G:=g.G++[e]}
def Gh.Ri{g:Gh}{e:Ev}{k:Nat}(h:g.bd k<=g.G.length):g.bd k<=(g.app e).bd k:=by
 unfold Gh.bd Gh.app at*;dsimp only
 split
 ·rw[aZ];omega
 exact iR _
def TU.append{e:Ev}(I:TU g V P U Lt pl sh sv)(hp:P g.o=none)(hu:U g.o=false)(hr:(V g.o).F9≠3)(ht:g.t=g.m)(hg:Ua (g.G++[e]))(hb:b.ep=(V g.o).ep)(hb1:b.F9=(V g.o).F9)(hb2:b.tg=(V g.o).tg)(hb3:b.Jp=g.G++[e]):
 TU (g.app e) (PN V g.o b) P U Lt pl sh sv:=by
 have ho:PN V g.o b g.o=b:=Jo _ _ _;have M:(g.app e).o=g.o:=rfl;have hle:=λk h1 J=>I.ZA (k:=k) h1 J;have hF:g.F<=g.G.length:=by rcases I.UK with⟨_,_,h⟩|⟨h,_⟩<;>omega
 refine⟨I.m1,I.Zz,I.adj,I.dir,?_,?_,?_,?_,hg,?_,?_,?_,?_,?_,?_,?_,?_,I.sho,?_,I.svs⟩
 ·rw[M,ho,hb];exact I.vV
 ·rw[M,ho,hb3];rfl
 ·rw[M,ho,hb1];exact I.ES
 ·rw[M,ho,hb1,hb2];exact I.UJ
 ·intro n hn PX;rw[M]at PX;rw[Ox PX]
  rcases I.oM n hn PX with h|⟨k,h1,J,O,h4,h5,h6,h7⟩|⟨k,h1,J,O,h4,h5,h6,h7,h8⟩
  ·exact .inl h
  ·refine .inr (.inl ⟨k,h1,J,O,h4,h5,?_,h7⟩)
   show _=(g.G++[e]).take _
   have:=I.Pd O h4;rw[h6];exact(sV (Gs this)).symm
  refine .inr (.inr ⟨k,h1,J,O,h4,h5,?_,gB h7 (Gh.Ri (hle k O h4)),h8⟩)
  show _=(g.G++[e]).take _
  have:=hle k O h4;rw[sV Y];exact h6
 ·intro k h1 J;have:=I.ge k h1 J;by_cases e:g.own k=g.o
  ·show(k:Int)<=(PN V g.o b (g.own k)).ep
   rw[e]at this⊢;rw[ho,hb];exact this
  show(k:Int)<=(PN V g.o b (g.own k)).ep
  rw[Ox e];exact this
 ·intro k h1 J;obtain⟨O,h4⟩:=I.brk k h1 J;refine⟨?_,SS h4 (Gh.Ri (hle (k+1) Y J))⟩
  show(g.G++[e])[g.len k]? =_
  rw[oC (I.Pd h1 J)];exact O
 ·intro l hl;obtain⟨h1,J,O⟩:=I.nD l hl;refine⟨h1,λhk=>?_,O⟩;obtain⟨k,a,b',c,d,e',f,i,j⟩:=J hk;have hbd:=hle k b' c;refine⟨k,a,b',c,d,e',?_,gB i (Gh.Ri hbd),λhlast=>?_⟩
  ·show _=((g.G++[e]).drop _).take _
   rw[FH Y];exact f
  rcases j hlast with j|⟨_,Z,_⟩
  ·exact .inl j
  exact av Z hr
 ·intro k hk p hk';obtain⟨j1,Z⟩:=I.nQ k hk p hk';refine⟨j1,?_⟩;by_cases e':k=g.o
  ·subst e';rw[hp]at hk';cases hk'
  cases p with
  |serve q Jp op num a=>exact av Z.1 e'
  |P8 q b'=>unfold Gq at Z⊢;rw[Ox e'];exact Z
  |T9 q b' last=>
   unfold Gq at Z⊢;rw[Ox e'];refine⟨Z.1,λhl=>?_,λhl=>?_⟩
   ·obtain⟨j,a1,a2,a3⟩:=Z.2.1 hl
    rcases I.oM k hk e' with h|⟨k',h,_⟩|⟨k',h,h1,J,O,_⟩
    ·omega
    ·omega
    have hj:=a3 k' h1;have hbd:=hle k' J O;refine⟨j,?_,a2,λk2 hk2=>?_⟩
    ·show _={V k with Jp:=(g.G++[e]).take j}
     rw[sV Y];exact a1
    have:k2=k':=Y;subst this;exact gB hj (Gh.Ri hbd)
   exact av (Z.2.2 hl).2.1 hr
  |gy q b' at_=>exact av Z.1 e'
  |P5 q b'=>unfold Gq at Z⊢;rw[Ox e'];exact Z
 ·rcases I.UK with⟨h1,J,O⟩|⟨h1,_⟩
  ·exact .inl ⟨h1,J,by show g.F<=(g.G++[e]).length;rw[aZ];omega⟩
  omega
 ·intro h;rw[M,hu]at h;cases h
 ·intro h;rw[M,ho,hb1]at h;exact av h hr
 show rp gu sv=some (aM ((g.G++[e]).take g.F)).1
 rw[sV hF];exact I.rps
def UH.app{own:Nat->Nat}{t:Nat}(Z:1<=t):∀ {sv2 sv:List l9},UH own t sv->(∀s∈sv2,s.ep=t/\s.nd=own t)->UH own t (sv++sv2)
 |[],sv,h,_=>by rw[bI];exact h
 |s::r,sv,h,h2=>by
  have hs:=h2 s iQ;have h1:UH own t (sv++[s]):=by
   refine⟨λx I=>?_,λi a b M J=>?_,λx I=>?_,λhn=>by simp at hn⟩
   ·rcases aP.1 I with I|I
    ·exact h.each x I
    rw[aF]at I;subst I;exact⟨t,hs.1,Z,aB,hs.2⟩
   ·by_cases hi:i+1<sv.length
    ·rw[oC Y]at M;rw[oC hi]at J;exact h.two i a b M J
    have O:i+1< (sv++[s]).length:=(dw.1 J).1;rw[aZ,l8]at O;rw[oC Y]at M;rw[pO Y,show i+1-sv.length=0 by omega]at J
    cases J;refine .inl ?_;rw[hs.1];refine(h.last a ?_).symm;rw[getLast?_eq_getElem?,show sv.length-1=i by omega];exact M
   rw[getLast?_concat]at I
   cases I;exact hs.1
  have:=UH.app Z (sv2:=r) h1 λx I=>h2 x (by simp[I]);rwa [gP]at this
def UH.brk{own:Nat->Nat}{t:Nat}{s:l9}(h:UH own t sv)(iD:s.ep=(t:Int)+1)(hnd:s.nd=own (t+1))(O:s.op=bg):UH own (t+1) (sv++[s]):=by
 refine⟨λx I=>?_,λi a b M J=>?_,λx I=>?_,λhn=>by simp at hn⟩
 ·rcases aP.1 I with I|I
  ·obtain⟨k,a,b,c,d⟩:=h.each x I;exact⟨k,a,b,by omega,d⟩
  rw[aF]at I;subst I;exact⟨t+1,by rw[iD];rfl,by omega,aB,hnd⟩
 ·by_cases hi:i+1<sv.length
  ·rw[oC Y]at M;rw[oC hi]at J;exact h.two i a b M J
  have Z:i+1< (sv++[s]).length:=(dw.1 J).1;rw[aZ,l8]at Z;rw[oC Y]at M;rw[pO Y,show i+1-sv.length=0 by omega]at J
  cases J;refine .inr ⟨?_,O⟩;rw[iD,h.last a (by rw[getLast?_eq_getElem?,show sv.length-1=i by omega];exact M)]
 rw[getLast?_concat]at I
 cases I;rw[iD];rfl
def UH.own{own I:Nat->Nat}{t:Nat}(h:UH own t sv)(he:∀k,k<=t->I k=own k):UH I t sv:=
 ⟨λs hs=>by obtain⟨k,a,b,c,d⟩:=h.each s hs;exact⟨k,a,b,c,by rw[he k c];exact d⟩,h.two,h.last,h.nil⟩
def Gh.all(g:Gh):Gh:={g with F:=g.G.length,t:=g.m}
def TU.told(I:TU g V P U Lt pl sh sv)(M:g.t=g.m){sv2:List l9}(J:rp gu (sv++sv2)=some (aM g.G).1)(he:∀s∈sv2,s.ep=g.m/\s.nd=g.o):TU g.all V P U Lt pl (PN sh g.o ((g.m:Int),(g.G.length:Int))) (sv++sv2):=
 {I with
  UK:=.inl ⟨E,Jo _ _ _,aB⟩
  upF:=λ_=>E
  slF:=λ_=>E
  sho:=λn hn PX=>by
   have:n≠g.o:=PX;rw[Ox this];exact I.sho n hn PX
  rps:=by show rp _ _=some (aM (g.G.take g.G.length)).1;rw[jM];exact J
  svs:=by
   have h:=I.svs;rw[M]at h;exact UH.app I.m1 h he}
def TU.an0(I:TU g V P U Lt pl sh sv)(Z:¬g.t=g.m){s:l9}(J:s.op=bg)(ha:s.Ut=iX)(iD:s.ep=g.m)(hnd:s.nd=g.o):TU g.all V P U Lt pl (PN sh g.o ((g.m:Int),(g.G.length:Int))) (sv++[s]):=by
 rcases I.UK with⟨h,_⟩|⟨h1,h2,h3,h4,h5⟩
 ·exact av h Z
 have O:g.F<g.G.length:=Y;have e:g.G=g.G.take g.F++[bg]:=by
  have:=uF O;rw[h4,jM]at this;have h6:g.G[g.F]=bg:=by
   have:=eT O;rw[h5]at this;exact(AU this).symm
  rw[h6]at this;exact this
 have M:=I.gd;rw[e]at M;obtain⟨s1,s2,s3⟩:=UF M;exact{I with
  UK:=.inl ⟨E,Jo _ _ _,aB⟩
  upF:=λ_=>E
  slF:=λ_=>E
  sho:=λn hn PX=>by
   have:n≠g.o:=PX;rw[Ox this];exact I.sho n hn PX
  rps:=by
   show rp _ _=some (aM (g.G.take g.G.length)).1
   rw[jM,Tj I.rps (by rw[J];exact s1) (by rw[J,ha];exact auL s2),J,e,s3,<-e]
  svs:=by
   have h:=I.svs.brk (s:=s) (by rw[iD,<-h1];rfl) (by rw[hnd,h1];rfl) J;rw[h1]at h;exact h}
def TU.az2(I:TU g V P U Lt pl sh sv){p':Pl}(h:p'=⟨g.own g.m,g.m⟩):TU g V P U Lt p' sh sv:=by
 subst h;exact{I with
  dir:=⟨g.m,E,I.m1,.inl E⟩
  UJ:=λJ=>⟨E,(I.UJ J).2⟩
  nD:=λl M=>by
   obtain⟨h1,O,Z,h4⟩:=I.nD l M;refine⟨h1,O,Z,λhk=>?_⟩;obtain⟨k,a,b,c,d⟩:=h4 hk;refine⟨k,a,b,?_,d⟩;obtain⟨d',hd,_,hd2⟩:=I.dir;rw[hd]at c;dsimp only at c⊢;omega}
def Gh.Ub(g:Gh)(T:Nat):Gh:={g with m:=g.m+1,own:=PN g.own (g.m+1) T,len:=PN g.len g.m g.G.length,G:=g.G++[bg]}
def TU.activate{T:Nat}(I:TU g V P U Lt pl sh sv)(hr:(V g.o).F9=3)(Bd:(V g.o).tg=T)(hp:P T=none)(hu:U T=false)(hg:Ua (g.G++[bg]))(hge:(V T).ep<=(g.m:Int)+1):
 TU (g.Ub T) (PN V T ⟨1,(g.m:Int)+1,0,0,0,g.G++[bg]⟩) P U Lt pl sh sv:=by
 obtain⟨ha1,ha2,ha3,ha4⟩:=I.UJ Y;rw[Bd]at ha2 ha4;have hT5:T<5:=Y;have hTo:T≠g.o:=Y;have hF:=I.slF hr;have htm:g.t=g.m/\sh g.o=((g.m:Int),(g.F:Int)):=by
  rcases I.UK with h|⟨_,_,_,h,_⟩
  ·exact⟨h.1,h.2.1⟩
  omega
 have PX:(g.Ub T).o=T:=Jo _ _ _;have J:∀k,k<=g.m->(g.Ub T).own k=g.own k:=λk hk=>Ox Y;have M:(g.Ub T).own (g.m+1)=T:=Jo _ _ _;have O:(g.Ub T).m=g.m+1:=rfl;have hG:(g.Ub T).G=g.G++[bg]:=rfl;have hlen:∀k,k<g.m->(g.Ub T).len k=g.len k:=λk hk=>Ox Y;have hbd:∀k,k<=g.m->(g.Ub T).bd k=g.bd k:=λk hk=>by
  unfold Gh.bd;rw[ah (by rw[O];omega)];by_cases e:k=g.m
  ·rw[au e];subst e;exact Jo _ _ _
  rw[ah e];exact hlen k Y
 have hvT:PN V T (⟨1,(g.m:Int)+1,0,0,0,g.G++[bg]⟩:bC) (g.Ub T).o=⟨1,(g.m:Int)+1,0,0,0,g.G++[bg]⟩:=by rw[PX];exact Jo _ _ _
 have hle:=λk h1 Z=>I.ZA (k:=k) h1 Z;refine⟨by rw[O];omega,?_,?_,?_,by rw[hvT,O];rfl,by rw[hvT,hG],by rw[hvT];exact .inl E,λh=>by rw[hvT]at h;exact av E h,by rw[hG];exact hg,?_,?_,?_,?_,?_,?_,?_,λh=>by rw[hvT]at h;exact av h iQ,?_,?_,?_⟩
 ·intro k h1 Z;rw[O]at Z;by_cases e:k=g.m+1
  ·rw[e,M];exact hT5
  rw[J k Y];exact I.Zz k h1 Y
 ·intro k h1 Z;rw[O]at Z;by_cases e:k=g.m
  ·rw[J k Y,e,M];exact λh=>hTo h.symm
  rw[J k Y,J (k+1) Y];exact I.adj k h1 Y
 ·obtain⟨d,h1,Z,h3⟩:=I.dir;have:d=g.m:=by rw[h1]at ha1;dsimp only at ha1;omega
  refine⟨d,?_,Z,.inr (by rw[O,this])⟩;rw[h1,J d Y]
 ·intro n hn hn2;rw[PX]at hn2;rw[Ox hn2];by_cases e:n=g.o
  ·subst e;refine .inr (.inl ⟨g.m,hr,I.vV,I.m1,by rw[O];omega,J _ aB,?_,?_⟩)
   ·rw[hG,show(g.Ub T).len g.m=g.G.length from Jo _ _ _,Gf];exact I.yN
   rw[M];exact Bd
  rcases I.oM n hn e with h|⟨k,h1,Z,h3,h4,h5,h6,h7⟩|⟨k,h1,Z,h3,h4,h5,h6,h7,h8⟩
  ·exact .inl ⟨h.1,h.2.1,by rw[O];have:=h.2.2;omega⟩
  ·refine .inr (.inl ⟨k,h1,Z,h3,by rw[O];omega,by rw[J k Y];exact h5,?_,by rw[J (k+1) Y];exact h7⟩);rw[hlen k h4,hG,sV (Gs (I.Pd h3 h4))];exact h6
  refine .inr (.inr ⟨k,h1,Z,h3,by rw[O];omega,by rw[J k h4];exact h5,?_,by rw[hbd k h4];exact h7,λhk=>?_⟩)
  ·have:=hle k h3 h4;rw[hG,sV Y];exact h6
  by_cases e2:k=g.m
  ·rw[e2,M];exact λh=>hn2 h.symm
  rw[J (k+1) Y];exact h8 Y
 ·intro k h1 Z;rw[O]at Z;by_cases e:k=g.m+1
  ·rw[e,M,Jo];dsimp only;omega
  rw[J k Y];have:=I.ge k h1 Y;by_cases e2:g.own k=T
  ·rw[e2,Jo];dsimp only;omega
  rw[Ox e2];exact this
 ·intro k h1 Z;rw[O]at Z;by_cases e:k=g.m
  ·subst e;rw[show(g.Ub T).len g.m=g.G.length from Jo _ _ _,hG];refine⟨by rw[pO aB,SI];rfl,?_⟩;unfold Gh.bd;rw[au O.symm,hG,aZ];exact lt_succ_self _
  obtain⟨h3,h4⟩:=I.brk k h1 Y;rw[hlen k Y,hbd (k+1) Y,hG,oC (I.Pd h1 Y)];exact⟨h3,h4⟩
 ·intro l hl;obtain⟨h1,Z,h3,h4⟩:=I.nD l hl;refine⟨λhk=>?_,λhk=>?_,λhk hd=>?_,λhk=>?_⟩
  ·obtain⟨k,a,b,c,d⟩:=h1 hk;exact⟨k,a,b,by rw[O];omega,by rw[J k c];exact d⟩
  ·obtain⟨k,a,b,c,d,e,f,i,j⟩:=Z hk;have:=hle k b c;refine⟨k,a,b,by rw[O];omega,by rw[J k c];exact d,e,by rw[hG,FH Y];exact f,by rw[hbd k c];exact i,λhlast=>.inl ?_⟩
   rcases j hlast with⟨j1,j2⟩|⟨j1,j2,j3,j4⟩
   ·exact⟨by rw[O];omega,by rw[J (k+1) Y];exact j2⟩
   subst j1;exact⟨by rw[O];omega,by rw[M,<-Bd];exact j3⟩
  ·obtain⟨k,a,b,c,d⟩:=h3 hk hd;exact⟨k,a,b,by rw[O];omega,by rw[J (k+1) Y];exact d⟩
  obtain⟨k,a,b,c,d⟩:=h4 hk;exact⟨k,a,b,c,by rw[J k Y];exact d⟩
 ·intro n hn p hp';have hnT:n≠T:=λe=>by subst e;rw[hp]at hp';cases hp'
  obtain⟨j1,j2⟩:=I.nQ n hn p hp';refine⟨j1,?_⟩
  cases p with
  |serve q Jp op num a=>
   obtain⟨k1,k2,_⟩:=j2;subst k1;unfold Qc at k2;omega
  |P8 q b=>
   unfold Gq at j2⊢;obtain⟨k,k1,k2,k3,k4⟩:=j2;rw[Ox hnT];exact⟨k,by rw[J k k3];exact k1,k2,by rw[O];omega,k4⟩
  |T9 q b last=>
   unfold Gq at j2⊢;rw[Ox hnT];refine⟨j2.1,λhl=>?_,λhl=>?_⟩
   ·obtain⟨j,a1,a2,a3⟩:=j2.2.1 hl
    rcases I.oM n hn (λe=>by subst e;omega)with h|⟨k',h,_⟩|⟨k',h,h1,Z,h3,_⟩
    ·omega
    ·omega
    have hj:=a3 k' h1;have:=hle k' Z h3;refine⟨j,by rw[hG,sV Y];exact a1,a2,λk2 hk2=>?_⟩;have:k2=k':=Y;subst this;rw[hbd k2 h3];exact hj
   have:=(j2.2.2 hl).2.2.1;omega
  |gy q b at_=>
   obtain⟨k1,k2,_⟩:=j2;subst k1;omega
  |P5 q b=>
   unfold Gq at j2⊢;rw[Ox hnT];exact⟨j2.1,j2.2.1,by rw[O];have:=j2.2.2;omega⟩
 ·refine .inr ⟨by show g.t+1=g.m+1;omega,?_,?_,?_,?_⟩
  ·rw[PX,O];have:=I.sho T hT5 hTo;omega
  ·rw[PX];exact hu
  ·show g.F+1=(g.G++[bg]).length;rw[aZ,hF];rfl
  show(g.G++[bg])[g.F]? =_
  rw[hF,pO aB,SI];rfl
 ·intro h;rw[PX,hu]at h;cases h
 ·intro n hn hn2;rw[PX]at hn2;rw[O];by_cases e:n=g.o
  ·subst e;rw[htm.2];dsimp only;omega
  have:=I.sho n hn e;omega
 ·show rp gu sv=some (aM ((g.G++[bg]).take g.F)).1
  rw[sV Y];exact I.rps
 exact I.svs.own λk hk=>J k (by show k<=g.m;have:k<=g.t:=hk;omega)
end
def kU(b:bC):bC:=if b.F9=2 then⟨1,b.ep,0,0,0,b.Jp⟩else b
def vB(f:Nat->bC):List bC:=[f 0,f 1,f 2,f 3]
section
variable {f:Nat->bC}{q:Nat}{b:bC}{rs:List dN}{r:dN}
def ahL(I:q<4):Lg (vB f) (q:Int)=f q:=by
 have h:q=0\/q=1\/q=2\/q=3:=Y
 rcases h with rfl|rfl|rfl|rfl<;>rfl
def YX(I:q<4):(vB f).set q b=vB (PN f q b):=by
 have h:q=0\/q=1\/q=2\/q=3:=Y
 rcases h with rfl|rfl|rfl|rfl<;>rfl
def Db{f':Nat->bC}(h:∀q,q<4->f q=f' q):vB f=vB f':=by unfold vB;rw[h 0 Y,h 1 Y,h 2 Y,h 3 Y]
def jK(rs:List dN)(f:Nat->bC):Prop:=(∀r∈rs,aO r=0)/\(allM rs).1=some (vB f)
def N8:∀(a:List dN) (i:Nat) (T T':List bC),(qK a i T).1=some T'->qK (a++[r]) i T=qK [r] (i+a.length) T'
 |[],i,T,T',h=>by
  rw[qK]at h
  cases h;rfl
 |x::a,i,T,T',h=>by
  rw[vW,qK];rw[qK]at h
  split at h
  ·cases h
  rename_i h1
  rw[ah h1]
  split at h
  ·cases h
  rename_i I
  rw[ah I,N8 a (i+1) _ T' h,mV,show i+1+a.length=i+(a.length+1) by omega]
def jK.nil:jK [] λ_=>bX:=⟨λr h=>by simp at h,E⟩
def jK.snoc(h:jK rs f)(M:aO r=0)(O:q<4)(J:r.Qg=q)(Z:fO (f q) r=(b,0)):jK (rs++[r]) (PN f q b):=by
 refine⟨λx I=>?_,?_⟩
 ·rcases aP.1 I with I|I
  ·exact h.1 x I
  rw[aF]at I;subst I;exact M
 have h2:=h.2;unfold allM at h2⊢;rw[N8 _ _ _ _ h2,qK,J,ahL O,ah (by simpa using M),ah (by rw[Z];simp),Z,show((q:Int)).toNat=q from E,YX O,qK]
def jK.congr{f':Nat->bC}(h:jK rs f)(he:∀q,q<4->f q=f' q):jK rs f':=⟨h.1,by rw[h.2,Db he]⟩
def jK.read{t data:List UInt8}{OY:Int}(h:jK rs f)(M:data=dz rs++t)(Z:(PV t).2=0)(hz:data.length<=100000)(h0:0<=OY)(h1:OY<=data.length):
 lH data OY=(dz rs,min OY (dz rs).length,0)/\Fb data OY=some (vB f)/\ ∀q,q<4->dK data OY q=f q:=by
 have hm:dX data OY=true:=by simp[dX];omega
 have O:dB data=(rs,(dz rs).length):=by rw[M];exact BD h.1 Z
 have I:lH data OY=(dz rs,min OY (dz rs).length,0):=by
  unfold lH;rw[au hm,O,M,Gf]
 have hl:(dz rs).length<=data.length:=by rw[M,aZ];omega
 have J:Fb data OY=some (vB f):=by
  unfold Fb;rw[I];unfold xA;rw[au (by simp[dX];omega)];have:=BD (t:=[]) h.1 zX;rw[bI]at this;dsimp only;rw[this];exact h.2
 refine⟨I,J,λq hq=>?_⟩;unfold dK;rw[J];exact ahL hq
def fI(h:ay b=0):bL b:=(gG h).1
def kT(h:ay b=0):Ua b.Jp:=(gG h).2
def qh(h:bL b)(I:b.F9≠0)(l:List Ev):bL ⟨b.F9,b.ep,b.fr,b.tg,b.rd,l⟩:=h.elim (λh=>av h.1 I) .inr
def zZ{ep:Int}(h:1<=ep)(h1:ep<=1048576)(l:List Ev):bL ⟨1,ep,0,0,0,l⟩:=.inr ⟨h,h1,.inl ⟨E,E,E,E⟩⟩
def rV{k ep pe:Int}{e:Ev}(J:1<=k/\k<=7)(M:q<4)(iD:0<=ep/\ep<=1048576)(I:0<=pe/\pe<=4)(he:if mQ k=true then bK e=0 else e=aQ):aO (gZ k q ep pe e)=0:=by
 unfold aO gZ;dsimp only;rw[ah (by simp[mK];omega),ah (by simp[mK];omega)];by_cases h:mQ k=true
 ·rw[au h]at he⊢;exact he
 rw[ah h]at he⊢;rw[au he]
def Tk(h:ay b=0)(M:b.F9=0)(he:b.ep<1)(O:q<4):jX b 1=(⟨1,1,0,0,0,[]⟩,0)/\fO b (gZ 1 q 1 0 aQ)=(⟨1,1,0,0,0,[]⟩,0):=by
 have I:jX b 1=(⟨1,1,0,0,0,[]⟩,0):=by unfold jX;rw[ah (by simp[h]),ah Y,ah (by simp[M]),ah Y]
 have J:mO b (gZ 1 q 1 0 aQ)=(⟨1,1,0,0,0,[]⟩,0):=by unfold mO gZ;simpa using I
 exact⟨I,by rw[mD h (rV Y O Y Y dQ) (by simp[gZ];omega) (by rw[J]),J]⟩
def Wp{e:Ev}{ep:Int}(J:ay b=0)(Z:b.F9=1)(iD:b.ep=ep)(hq:q<4)(he:bK e=0)(hg:Ua (b.Jp++[e])):fO b (gZ 2 q ep 0 e)=({b with Jp:=b.Jp++[e]},0)/\aO (gZ 2 q ep 0 e)=0:=by
 subst iD;have hs:=fI J;unfold bL at hs;have I:aO (gZ 2 q b.ep 0 e)=0:=rV Y hq Y Y (by simpa[mQ]using he);have M:ay ⟨b.F9,b.ep,b.fr,b.tg,b.rd,b.Jp++[e]⟩=0:=om (qh (fI J) Y _) hg;have O:mO b (gZ 2 q b.ep 0 e)=({b with Jp:=b.Jp++[e]},0):=by
  have h1:=ahD (b:=b) (qu:=q) (e:=b.ep) (pe:=0) (x:=e);rw[ah (λh=>h ⟨Z,E⟩)]at h1;unfold Fa at h1;rw[ah (λh=>h M)]at h1;exact h1
 exact⟨by rw[mD J I (by simp[gZ];omega) (by rw[O]),O],I⟩
def ae7{e:Ev}{ep:Int}(M:ay b=0)(Z:b.F9=4)(iD:b.ep=ep)(hq:q<4)(he:bK e=0)(hg:Ua (b.Jp++[e])):fO b (gZ 5 q ep 0 e)=({b with Jp:=b.Jp++[e]},0)/\aO (gZ 5 q ep 0 e)=0/\ay {b with Jp:=b.Jp++[e]}=0:=by
 subst iD;have hs:=fI M;unfold bL at hs;have I:aO (gZ 5 q b.ep 0 e)=0:=rV Y hq Y Y (by simpa[mQ]using he);have J:ay ⟨b.F9,b.ep,b.fr,b.tg,b.rd,b.Jp++[e]⟩=0:=om (qh (fI M) Y _) hg;have O:mO b (gZ 5 q b.ep 0 e)=({b with Jp:=b.Jp++[e]},0):=by
  have h1:=ahE (b:=b) (qu:=q) (e:=b.ep) (pe:=0) (x:=e);rw[ah (λh=>h ⟨Z,E⟩)]at h1;unfold Fa at h1;rw[ah (λh=>h J)]at h1;exact h1
 exact⟨by rw[mD M I (by simp[gZ];omega) (by rw[O]),O],I,J⟩
def an1{ep tg:Int}(I:ay b=0)(M:b.F9=1)(iD:b.ep=ep)(O:q<4)(ht:0<=tg/\tg<=4):fO b (gZ 3 q ep tg aQ)=(⟨3,b.ep,0,tg,0,b.Jp⟩,0)/\aO (gZ 3 q ep tg aQ)=0:=by
 subst iD;have hs:=fI I;unfold bL at hs;have h:aO (gZ 3 q b.ep tg aQ)=0:=rV Y O Y Y dQ;have J:mO b (gZ 3 q b.ep tg aQ)=(⟨3,b.ep,0,tg,0,b.Jp⟩,0):=by
  unfold mO gZ Zy;have h1:b.fr=0:=Y;have Z:b.rd=0:=Y;simp[M,h1,Z]
 exact⟨by rw[mD I h (by simp[gZ];omega) (by rw[J]),J],h⟩
def ajv{ep fr:Int}(I:ay b=0)(O:b.F9=0\/b.F9=4)(iD:b.ep<ep)(h1:1<=ep/\ep<=1048576)(M:q<4)(Z:0<=fr/\fr<=4):fO b (gZ 4 q ep fr aQ)=(⟨4,ep,fr,0,0,[]⟩,0)/\aO (gZ 4 q ep fr aQ)=0:=by
 have h:aO (gZ 4 q ep fr aQ)=0:=rV Y M Y Y dQ;have J:mO b (gZ 4 q ep fr aQ)=(⟨4,ep,fr,0,0,[]⟩,0):=by
  unfold mO gZ dV;rw[ah iQ,au E];dsimp only;rw[ah (by simp[I]),ah Y,ah Y,ah Y,ah Y]
 exact⟨by rw[mD I h (by simp[gZ];omega) (by rw[J]),J],h⟩
def auO{ep:Int}(I:ay b=0)(M:b.F9=4)(iD:b.ep=ep)(Z:q<4)(hg:Ua (b.Jp++[bg])):fO b (gZ 6 q ep 0 aQ)=(⟨1,b.ep,0,0,0,b.Jp++[bg]⟩,0)/\aO (gZ 6 q ep 0 aQ)=0:=by
 subst iD;have hs:=fI I;unfold bL at hs;have h:aO (gZ 6 q b.ep 0 aQ)=0:=rV Y Z Y Y dQ;have J:ay ⟨1,b.ep,0,0,0,b.Jp++[bg]⟩=0:=om (zZ Y Y _) hg;have hi:dP b b.ep b.Jp.length [] true=(⟨1,b.ep,0,0,0,b.Jp++[bg]⟩,0):=by
  unfold dP;rw[ah (by simp[I]),ah (by simp[M]),ah iQ,ah Y,ah iQ,ah iQ];simp only[if_pos,drop_nil,append_nil];rw[ah (by simpa using J)]
 have O:mO b (gZ 6 q b.ep 0 aQ)=(⟨1,b.ep,0,0,0,b.Jp++[bg]⟩,0):=by
  unfold mO gZ;simp[M,hi]
 exact⟨by rw[mD I h (by simp[gZ];omega) (by rw[O]),O],h⟩
def ae8{ep:Int}(I:ay b=0)(M:b.F9=3)(iD:b.ep=ep)(O:q<4):fO b (gZ 7 q ep 0 aQ)=(⟨0,b.ep,0,0,0,[]⟩,0)/\aO (gZ 7 q ep 0 aQ)=0:=by
 subst iD;have hs:=fI I;unfold bL at hs;have h:aO (gZ 7 q b.ep 0 aQ)=0:=rV Y O Y Y dQ;have J:mO b (gZ 7 q b.ep 0 aQ)=(⟨0,b.ep,0,0,0,[]⟩,0):=by
  unfold mO gZ iw;simp[M,I];omega
 exact⟨by rw[mD I h (by simp[gZ];omega) (by rw[J]),J],h⟩
def xD(h:ay b=0):ay (kU b)=0:=by
 unfold kU
 split
 ·rename_i I
  have hs:=fI h;unfold bL at hs;exact om (zZ Y Y _) (kT (b:=b) h)
 exact h
def YZ:(kU b).ep=b.ep:=by unfold kU;split<;>rfl
def an2:(kU b).Jp=b.Jp:=by unfold kU;split<;>rfl
def MX:(kU b).F9≠2:=by unfold kU;split<;>first|assumption|simp
def sW(h:b.F9≠2):kU b=b:=ah h
def BF(h:Qc b)(I:ay b=0):kU b=⟨1,b.ep,0,0,0,b.Jp⟩:=by
 unfold kU
 split
 ·rfl
 have hs:=fI I;unfold bL at hs;unfold Qc at h;obtain⟨ro,ep,fr,tg,rd,Jp⟩:=b;dsimp only at*;simp only[bC.mk.injEq,and_true,true_and];omega
end
def dh.q:dh->Nat
 | .serve q .. =>q
 | .P8 q _=>q
 | .T9 q .. =>q
 | .gy q .. =>q
 | .P5 q _=>q
def dh.b(bs:Nat->bC):dh->bC
 | .serve q Jp _ _ _=>{bs q with Jp:=Jp}
 | .P8 _ b=>b
 | .T9 _ b _=>b
 | .gy _ b _=>b
 | .P5 _ b=>b
def dh.rs(bs:Nat->bC):dh->List dN
 | .serve q _ op _ _=>[gZ 2 q (bs q).ep 0 op]
 | .P8 q b=>[gZ 4 q b.ep b.fr aQ]
 | .T9 q b last=>r9 q b (bs q).Jp.length (b.Jp.length-if last=true then 1 else 0) last
 | .gy q b _=>[gZ 3 q b.ep b.tg aQ]
 | .P5 q _=>[gZ 7 q (bs q).ep 0 aQ]
def dh.ok(bs:Nat->bC):dh->Prop
 | .serve q Jp op _ _=>Qc (bs q)/\Jp=(bs q).Jp++[op]/\bK op=0/\Ua Jp
 | .P8 q b=>((bs q).F9=0\/(bs q).F9=4)/\ ∃e f,b=⟨4,e,f,0,0,[]⟩/\(bs q).ep<e/\1<=e/\e<=1048576/\0<=f/\f<=4
 | .T9 q b last=>(bs q).F9=4/\Ua b.Jp/\(∀e∈b.Jp,bK e=0)/\(last=false->b={bs q with Jp:=b.Jp}/\(bs q).Jp=b.Jp.take (bs q).Jp.length)/\
   (last=true-> ∃es,b=⟨1,(bs q).ep,0,0,0,es++[bg]⟩/\(bs q).Jp=es.take (bs q).Jp.length)
 | .gy q b _=>(bs q).F9=2/\b={bs q with F9:=3,rd:=0}
 | .P5 q b=>(bs q).F9=3/\b=⟨0,(bs q).ep,0,0,0,[]⟩
def bO.ok(l:bO):Prop:=l.q<4/\l.Jp.length<=2000/\(l.kd=0\/l.kd=2\/l.kd=3\/l.kd=4\/l.kd=6)
def DZ{b:bC}{hv:Int}(h:ay b=0)(M:(bY b hv).2=0):ay (bY b hv).1=0:=by
 have O:=gG h;have hs:=O.1;unfold bL at hs;unfold bY at M⊢;rw[ah (λe=>e h)]at M⊢;by_cases c1:b.F9≠2/\b.F9≠3
 ·rw[au c1]at M;exact av M dQ
 rw[ah c1]at M⊢;by_cases c2:¬(0<=hv/\hv<=b.Jp.length)
 ·rw[au c2]at M;exact av M dQ
 rw[ah c2]at M⊢;by_cases c3:b.F9=3
 ·rw[au c3];exact h
 rw[ah c3];have I:∀r d,bL ⟨r,b.ep,b.fr,b.tg,d,b.Jp⟩->ay ⟨r,b.ep,b.fr,b.tg,d,b.Jp⟩=0:=λr d h=>om h O.2;by_cases Z:hv=b.Jp.length\/b.rd=4
 ·rw[au Z];refine I 3 0 ?_;clear M I h O;unfold bL;dsimp only;omega
 rw[ah Z];have hr:b.F9=2:=by clear M I h O c2 Z;omega
 have hd:¬b.rd=4:=λe=>Z (.inr e);rw[hr]at hs;have J:1<=b.ep/\b.ep<=1048576/\b.fr=0/\0<=b.tg/\b.tg<5/\0<=b.rd/\b.rd<=4:=by clear M I h O c1 c2 c3 Z;omega
 refine I b.F9 (b.rd+1) (.inr ⟨J.1,J.2.1,.inr (.inl ⟨hr,J.2.2.1,J.2.2.2.1,J.2.2.2.2.1,?_,?_⟩)⟩)
 ·show 0<=b.rd+1
  have:=J.2.2.2.2.2;clear M I h O c1 c2 c3 Z hs;omega
 show b.rd+1<=4
 have:=J.2.2.2.2.2;clear M I h O c1 c2 c3 Z hs;omega
structure CF (m m':Cl)(n:Nat):Prop where
 oM:∀j,j≠n->m'.aj j=m.aj j
 up:(m'.aj n).up=(m.aj n).up
 jk:(m'.aj n).Mv=(m.aj n).Mv
 IW:(m'.aj n).turn=(m.aj n).turn
 mG:(∀q,q<4->ay ((m.aj n).bs q)=0)-> ∀q,q<4->ay ((m'.aj n).bs q)=0
 OM:m'.OM.length<=m.OM.length+1
 bG:m'.bG.length<=m.bG.length+1
section
variable {m m':Cl}{n:Nat}{l:bO}
def Dc(h:m'.aj=m.aj)(h1:m'.OM.length<=m.OM.length+1)(I:m'.bG.length<=m.bG.length+1):CF m m' n:=
 ⟨λj _=>by rw[h],by rw[h],by rw[h],by rw[h],λJ=>by rw[h];exact J,h1,I⟩
def sZ:CF m m n:=Dc E (mh _) (mh _)
def Gt{X:Nd}(h:m'.aj=PN m.aj n X)(I:X.up=(m.aj n).up)(J:X.Mv=(m.aj n).Mv)(M:X.turn=(m.aj n).turn)(O:(∀q,q<4->ay ((m.aj n).bs q)=0)-> ∀q,q<4->ay (X.bs q)=0)(h1:m'.OM.length<=m.OM.length+1)(Z:m'.bG.length<=m.bG.length+1):CF m m' n:=by
 have e:m'.aj n=X:=by rw[h];exact au E
 exact⟨λj hj=>by rw[h];exact ah hj,by rw[e,I],by rw[e,J],by rw[e,M],λhb=>by rw[e];exact O hb,h1,Z⟩
def Ws{q:Nat}{op:Ev}{num:Int}{a:kE}:CF m (m.done n q op num a) n:=by
 unfold Cl.done
 split
 ·exact Dc E (by simp[Cl.send,Cl.Ug]) (by simp[Cl.send,Cl.Ug])
 exact Dc E (by simp[Cl.send]) (by simp[Cl.send])
def Wt{q:Nat}:CF m (m.TV n q) n:=Dc E (by simp[Cl.TV,Cl.send]) (by simp[Cl.TV,Cl.send])
def ajw{q:Nat}{a:Int}:CF m (m.part n q a) n:=by
 unfold Cl.part
 split
 ·exact sZ
 exact Dc E (by simp[Cl.send]) (by simp[Cl.send])
def Rj{X x:Nd}{rs:List dN}(h:X.write rs=some x):x.up=X.up/\x.Mv=X.Mv/\x.turn=X.turn/\x.bs=X.bs:=by
 unfold Nd.write at h;rw[Dn]at h;obtain⟨d,_,rfl⟩:=h;exact⟨E,E,E,E⟩
def Ht{x:Nd}{p:dh}{rs:List dN}(h:(m.aj n).write rs=some x):CF m (m.put n {x with OO:=some p}) n:=by
 obtain⟨h1,I,J,M⟩:=Rj h;exact Gt E h1 I J (λO q Z=>by show ay (x.bs q)=0;rw[M];exact O q Z) (mh _) (mh _)
def CF.auP{m2:Cl}(h:CF m m2 n)(h1:m2.OM.length<=m.OM.length)(O:m2.bG.length<=m.bG.length)(I:CF m2 m' n):CF m m' n:=
 ⟨λj J=>(I.oM j J).trans (h.oM j J),I.up.trans h.up,I.jk.trans h.jk,I.IW.trans h.IW,λM=>I.mG (h.mG M),by have:=I.OM;omega,by have:=I.bG;omega⟩
def jG(J:l.q<4):CF m (m.PY n l) n:=by
 unfold Cl.PY
 split
 ·unfold Cl.serve
  split
  ·exact Ws
  split
  ·exact Ws
  exact Ht ‹_›
 split
 ·unfold Cl.TM
  split
  ·exact sZ
  split
  ·exact Wt
  split
  ·exact sZ
  exact Ht ‹_›
 split
 ·unfold Cl.Ud
  split
  ·exact sZ
  split
  ·exact sZ
  rename_i h1 O
  split
  ·refine CF.auP (m2:=m.aC n l.q (bY ((m.aj n).bs l.q) l.at_).1) (Gt E E E E (λI q M=>?_) (mh _) (mh _)) aB aB ajw
   show ay (PN (m.aj n).bs l.q (bY ((m.aj n).bs l.q) l.at_).1 q)=0
   unfold PN
   split
   ·exact DZ (I _ J) Y
   exact I q M
  split
  ·exact sZ
  exact Ht ‹_›
 split
 ·unfold Cl.T9
  split
  ·exact sZ
  split
  ·exact Wt
  split
  ·exact sZ
  split
  ·exact sZ
  exact Ht ‹_›
 unfold Cl.Ui
 split
 ·exact Gt E E E E (λI=>I) (mh _) (mh _)
 split
 ·exact Gt E E E E (λI=>I) (mh _) (mh _)
 rename_i x h
 obtain⟨h1,O,Z,h4⟩:=Rj h;exact Gt E h1 O Z (λI q J=>by show ay (x.bs q)=0;rw[h4];exact I q J) (mh _) (mh _)
end
section
open ChangeAt
structure LX where
 l:bO
 A:Option Addr
 c:Nat
def ajx(l:bO)(s:Value):List Value:=[D l.kd,D l.fr,D l.tg,D (l.q:Int),D l.ep,D l.at_,D l.nd,D l.op.kind,D l.op.OU,D l.op.id,D l.op.body,D l.op.OZ,D l.op.PX,s,.bool l.last,D l.num,
 D l.bQ.num,D l.bQ.Ut.code,D l.bQ.Ut.iD,D l.bQ.Ut.PX,D l.bQ.Ut.body,D l.bQ.pl.node,D l.bQ.pl.ME]
def LX.cells(x:LX):List Value:=ajx x.l (.slice x.A x.l.Jp.length x.c)
def LX.row(x:LX):Array Value:=x.cells.toArray
def tZ.cells(t:tZ):List Value:=[D t.num,D t.Ut.code,D t.Ut.iD,D t.Ut.PX,D t.Ut.body,D t.pl.node,D t.pl.ME]
def l9.cells(s:l9):List Value:=[D (s.nd:Int),D (s.q:Int),D s.ep,D s.op.kind,D s.op.OU,D s.op.id,D s.op.body,D s.op.OZ,D s.op.PX,D s.Ut.code,D s.Ut.iD,D s.Ut.PX,D s.Ut.body,D s.num]
def Gu(x:LX):∀u∈x.cells,u.oneCell'=true:=dx E
def an3(l:List LX):∀u∈l.flatMap LX.cells,u.oneCell'=true:=by
 intro u h;rw[Dj]at h;obtain⟨z,_,I⟩:=h;exact Gu z u I
def eP(me:Nat)(up:Bool)(tv:Value)(OY:Int)(bv:Value)(H:Nat->Pl)(U:Nat->Bool)(iv pv:Value)(turn:Nat):Array Value:=
 #[D (me:Int),.bool up,tv,D OY,bv,D (H 0).node,D (H 0).ME,D (H 1).node,D (H 1).ME,D (H 2).node,D (H 2).ME,D (H 3).node,D (H 3).ME,.bool (U 0),.bool (U 1),.bool (U 2),.bool (U 3),iv,pv,D (turn:Int)]
def UL(p:Int×Int):List Value:=[D p.1,D p.2]
def UM(sh:Nat->Nat->Int×Int)(n:Nat):List Value:=UL (sh n 0)++(UL (sh n 1)++(UL (sh n 2)++UL (sh n 3)))
def an4(sh:Nat->Nat->Int×Int):List Value:=UM sh 0++(UM sh 1++(UM sh 2++(UM sh 3++UM sh 4)))
def Rl(nv:Value)(d:TW)(fv:Value)(sh:Nat->Nat->Int×Int)(sv tv:Value)(calls:Nat):List Value:=
 nv::(d.cells++(fv::(an4 sh++[D 0,.bool false,.bool false,.bool false,.bool false,.bool false,D 0,D 0,D 0,D 0,D 0,D 0,D 0,D 0,.slice none 0 0,sv,tv,D (calls:Int)])))
def nJ(nv:Value)(d:TW)(fv:Value)(sh:Nat->Nat->Int×Int)(sv tv:Value)(calls:Nat):Array Value:=(Rl nv d fv sh sv tv calls).toArray
section
variable {me turn calls k:Nat}{up:Bool}{tv bv iv pv nv fv sv uv x:Value}{OY:Int}{H:Nat->Pl}{U:Nat->Bool}{d:TW}{sh:Nat->Nat->Int×Int}{L L':List OJ}{s n:Nat}{A:Option Addr}{xs:List Value}{B:Nat}{w w0:World}{fs:List OJ}
def CG:(nJ nv d fv sh sv tv calls)[0]? =some nv:=rfl
def Vx:(nJ nv d fv sh sv tv calls)[9]? =some fv:=rfl
def az3:(nJ nv d fv sh sv tv calls)[65]? =some sv:=rfl
def az4:(nJ nv d fv sh sv tv calls)[66]? =some tv:=rfl
def apR:(nJ nv d fv sh sv tv calls)[67]? =some (D (calls:Int)):=rfl
def KD{J M O Z:Value}{d':TW}{sh':Nat->Nat->Int×Int}{I o:Nat}{vs:List Value}(h:o+vs.length<=68)(he:(Rl nv d fv sh sv tv calls).take o++vs++(Rl nv d fv sh sv tv calls).drop (o+vs.length)=Rl J d' M sh' O Z I):
 dU (nJ nv d fv sh sv tv calls) o vs=nJ J d' M sh' O Z I:=Array.ext' (by rw[jw _ _ _ h];exact he)
def ark:dU (nJ nv d fv sh sv tv calls) 9 [x]=nJ nv d x sh sv tv calls:=KD (fV E) E
def az5:dU (nJ nv d fv sh sv tv calls) 65 [x]=nJ nv d fv sh x tv calls:=KD (fV E) E
def az6:dU (nJ nv d fv sh sv tv calls) 66 [x]=nJ nv d fv sh sv x calls:=KD (fV E) E
def az7{c':Nat}:dU (nJ nv d fv sh sv tv calls) 67 [D (c':Int)]=nJ nv d fv sh sv tv c':=KD (fV E) E
def arn{d':TW}:dU (nJ nv d fv sh sv tv calls) 1 d'.cells=nJ nv d' fv sh sv tv calls:=KD (fV E) E
def Ak:∀(j:Nat) (u:Value),d.cells[j]? =some u->(nJ nv d fv sh sv tv calls)[1+j]? =some u:=by
 intro j u h;have I:j<8:=(dw.1 h).1;have:j=0\/j=1\/j=2\/j=3\/j=4\/j=5\/j=6\/j=7:=Y
 rcases this with rfl|rfl|rfl|rfl|rfl|rfl|rfl|rfl<;>exact h
def ahM:(nJ nv d fv sh sv tv calls).size=68:=rfl
def apS{n q:Nat}(hn:n<5)(I:q<4){a b:Int}:dU (nJ nv d fv sh sv tv calls) (10+n*8+q*2) [D a,D b]=nJ nv d fv (kM sh n q (a,b)) sv tv calls:=by
 have h1:n=0\/n=1\/n=2\/n=3\/n=4:=Y;have h:q=0\/q=1\/q=2\/q=3:=Y
 rcases h1 with rfl|rfl|rfl|rfl|rfl<;>rcases h with rfl|rfl|rfl|rfl<;>exact KD (fV E) E
def az8{n q:Nat}(hn:n<5)(M:q<4):∀(j:Nat) (u:Value),(UL (sh n q))[j]? =some u->(nJ nv d fv sh sv tv calls)[10+n*8+q*2+j]? =some u:=by
 intro j u h;have O:j<2:=(dw.1 h).1;have I:j=0\/j=1:=Y;have h1:n=0\/n=1\/n=2\/n=3\/n=4:=Y;have J:q=0\/q=1\/q=2\/q=3:=Y
 rcases h1 with rfl|rfl|rfl|rfl|rfl<;>rcases J with rfl|rfl|rfl|rfl<;>rcases I with rfl|rfl<;>exact h
def Gv{q:Nat}(I:q<4){p:Pl}:dU (eP me up tv OY bv H U iv pv turn) (5+q*2) [D p.node,D p.ME]=eP me up tv OY bv (PN H q p) U iv pv turn:=by
 have h:q=0\/q=1\/q=2\/q=3:=Y
 rcases h with rfl|rfl|rfl|rfl<;>rfl
def Tm{q:Nat}(I:q<4):(eP me up tv OY bv H U iv pv turn)[5+q*2]? =some (D (H q).node)/\(eP me up tv OY bv H U iv pv turn)[5+q*2+1]? =some (D (H q).ME):=by
 have h:q=0\/q=1\/q=2\/q=3:=Y
 rcases h with rfl|rfl|rfl|rfl<;>exact⟨E,E⟩
def acC{q:Nat}(I:q<4){v:Bool}:dU (eP me up tv OY bv H U iv pv turn) (13+q*1) [.bool v]=eP me up tv OY bv H (PN U q v) iv pv turn:=by
 have h:q=0\/q=1\/q=2\/q=3:=Y
 rcases h with rfl|rfl|rfl|rfl<;>rfl
def an5{q:Nat}(I:q<4):(eP me up tv OY bv H U iv pv turn)[13+q*1]? =some (.bool (U q)):=by
 have h:q=0\/q=1\/q=2\/q=3:=Y
 rcases h with rfl|rfl|rfl|rfl<;>rfl
def Ro(L:List OJ)(s:Nat)(A:Option Addr)(n:Nat)(xs:List Value):Prop:= ∀B w,(∀f∈L,f.holds B w)->Rd w w.heap.size s A n xs
def Ro.mono(h:Ro L s A n xs)(I:∀f∈L,f∈L'):Ro L' s A n xs:=λB w hw=>h B w λf J=>hw f (I f J)
def Ro.rd(h:Ro L s A n xs)(S:St B w0 w fs)(I:∀f∈L,f∈fs):Rd w w.heap.size s A n xs:=h B w λf J=>S.has (I f J)
def Ro.Ur:Ro L s none 0 []:=λ_ _ _=>Rd.Ur
def Ro.dR(h:OJ.dR s A n xs∈L):Ro L s A n xs:=λ_ _ hw=>(hw _ h).1
def Ro.own{e:TypeId}{c:Nat}(h:OJ.own e s (.slice A n c) n xs∈L):Ro L s A n xs:=λ_ _ hw=>Rd.wE (hw _ h)
end
structure NX where
 bb:Nat
 tA:Option Addr
 tc:Nat
 bx:List BX
 iA:Option Addr
 ic:Nat
 ix:List LX
 pv:Value
structure CX where
 nx:Nat->NX
 fA:Option Addr
 fc:Nat
 fx:List LX
 sA:Option Addr
 sc:Nat
 tA:Option Addr
 tc:Nat
 nA:Option Addr
 nc:Nat
 L:List OJ
structure CK where
 wb:Nat
 nb:Nat->Nat
def jh(b:Nat):Value:=.pointer (some ⟨b,0,none⟩)
def an6(n:Nat)(X:Nd)(x:NX):Array Value:=eP n X.up (.slice x.tA X.data.length x.tc) X.OY (.slice (some ⟨x.bb,0,none⟩) 4 4) X.PS X.PZ (.slice x.iA x.ix.length x.ic) x.pv X.turn
def az9(R:CX)(m:Cl):Array Value:=nJ (.slice R.nA 5 R.nc) m.off (.slice R.fA R.fx.length R.fc) m.PU (.slice R.sA m.bG.length R.sc) (.slice R.tA m.bQ.length R.tc) m.calls
def FN(kn n:Nat)(X:Nd)(x:NX):List OJ:=
 [.Oy kn (an6 n X x) 105,.own 42 6 (.slice (some ⟨x.bb,0,none⟩) 4 4) 4 (x.bx.flatMap BX.cells),.off 119 23 x.iA x.ix.length x.ic (x.ix.flatMap LX.cells)]
def mJ(K:CK)(n:Nat)(X:Nd)(x:NX):List OJ:=FN (K.nb n) n X x
def FP(kw:Nat)(R:CX)(m:Cl):List OJ:=
 [.Oy kw (az9 R m) 97,.own 119 23 (.slice R.fA R.fx.length R.fc) R.fx.length (R.fx.flatMap LX.cells),.own 164 14 (.slice R.sA m.bG.length R.sc) m.bG.length (m.bG.flatMap l9.cells),.own 56 7 (.slice R.tA m.bQ.length R.tc) m.bQ.length (m.bQ.flatMap tZ.cells)]
def xE(K:CK)(R:CX)(m:Cl):List OJ:=FP K.wb R m
def nZ(K:CK)(R:CX)(m:Cl)(n:Nat):List OJ:=((range 5).filter (· ≠n)).flatMap λj=>mJ K j (m.aj j) (R.nx j)
def iW(K:CK)(R:CX)(m:Cl)(fs:List OJ)(n:Nat):List OJ:=fs++(nZ K R m n++R.L)
def nO(K:CK)(R:CX)(m:Cl):List OJ:=xE K R m++(((range 5).flatMap λj=>mJ K j (m.aj j) (R.nx j))++R.L)
def JI(L:List OJ)(A:Option Addr)(c:Nat)(l:List Ev):Prop:=Ro L 6 A l.length (bU l)/\l.length<=c
def UN(L:List OJ)(x:LX):Prop:=JI L x.A x.c x.l.Jp
def Eo(L:List OJ)(y:BX):Prop:=JI L y.A y.c y.b.Jp
def JI.mono{L L':List OJ}{A:Option Addr}{c:Nat}{l:List Ev}(h:JI L A c l)(I:∀f∈L,f∈L'):JI L' A c l:=⟨h.1.mono I,h.2⟩
def sj(kn kw:Nat)(L:List OJ):Option dh->Value->Prop
 |none,v=>v=.nilFunc
 |some (.serve q Jp op num a),v=> ∃b1 b2 b3 b4 b5 b6 b7 y x,v=.func (.func 88) #[] #[jh b1,jh b2,jh b3,jh b4,jh b5]/\ .Oy b1 (BX.cells y).toArray 42∈L/\y.b.Jp=Jp/\Eo L y/\ .Oy b2 #[jh kn] 98∈L/\ .Oy b3 #[.int .i64 (q:Int)] 3∈L/\
   .Oy b4 #[.func (.func 87) #[] #[jh b6,jh b2,jh b3,jh b7]] 190∈L/\ .Oy b5 (kE.cells a).toArray 54∈L/\ .Oy b6 (LX.row x) 119∈L/\x.l.op=op/\x.l.num=num/\ .Oy b7 #[jh kw] 87∈L
 |some (.P8 q b),v=> ∃b1 b2 b3 b4 y,v=.func (.func 91) #[] #[jh b1,jh b2,jh b3,jh b4]/\ .Oy b1 (BX.cells y).toArray 42∈L/\y.b=b/\Eo L y/\ .Oy b2 #[jh kn] 98∈L/\ .Oy b3 #[.int .i64 (q:Int)] 3∈L/\ .Oy b4 #[jh kw] 87∈L
 |some (.T9 q b last),v=> ∃b1 b2 b3 b4 b5 y x,v=.func (.func 96) #[] #[jh b1,jh b2,jh b3,jh b4,jh b5]/\ .Oy b1 (BX.cells y).toArray 42∈L/\y.b=b/\Eo L y/\ .Oy b2 #[jh kn] 98∈L/\ .Oy b3 #[.int .i64 (q:Int)] 3∈L/\
   .Oy b4 (LX.row x) 119∈L/\x.l.last=last/\ .Oy b5 #[jh kw] 87∈L
 |some (.gy q b at_),v=> ∃b1 b2 b3 b4 b5 y x,v=.func (.func 94) #[] #[jh b1,jh b2,jh b3,jh b4,jh b5]/\ .Oy b1 (BX.cells y).toArray 42∈L/\y.b=b/\Eo L y/\ .Oy b2 #[jh kn] 98∈L/\ .Oy b3 #[.int .i64 (q:Int)] 3∈L/\
   .Oy b4 #[jh kw] 87∈L/\ .Oy b5 (LX.row x) 119∈L/\x.l.at_=at_
 |some (.P5 q b),v=> ∃b1 b2 b3 y,v=.func (.func 98) #[] #[jh b1,jh b2,jh b3]/\ .Oy b1 (BX.cells y).toArray 42∈L/\y.b=b/\Eo L y/\ .Oy b2 #[jh kn] 98∈L/\ .Oy b3 #[.int .i64 (q:Int)] 3∈L
def aE8(K:CK)(L:List OJ)(n:Nat)(p:Option dh)(v:Value):Prop:=sj (K.nb n) K.wb L p v
structure fF (K:CK)(L:List OJ)(n:Nat)(X:Nd)(x:NX):Prop where
 UO:x.bx.map BX.b=vB X.bs
 Wu:∀y∈x.bx,Eo L y
 Al:Ro L 1 x.tA X.data.length (Jq X.data)
 ixm:x.ix.map LX.l=X.Mv
 ixo:∀y∈x.ix,UN L y
 nQ:aE8 K L n X.OO x.pv
structure Good (K:CK)(R:CX)(m:Cl)(H:List LX):Prop where
 OM:R.fx.map LX.l=m.OM
 flo:∀x∈R.fx,UN R.L x
 jH:∀n,n<5->fF K R.L n (m.aj n) (R.nx n)
 arr:Ro R.L 1 R.nA 5 ((range 5).map λj=>jh (K.nb j))
 hld:∀x∈H,UN R.L x
def Wd(K:CK)(B:Nat)(w0 w:World)(fs:List OJ)(m:Cl)(H:List LX):Prop:= ∃R,Good K R m H/\St B w0 w (fs++nO K R m)
section
variable {K:CK}{B n:Nat}{w0 w w':World}{fs N:List OJ}{m m':Cl}{H H':List LX}{R R':CX}
def sj.mono{kn kw:Nat}{L L':List OJ}{p:Option dh}{v:Value}(h:sj kn kw L p v)(I:∀f∈L,f∈L'):sj kn kw L' p v:=by
 match p,h with
 |none,h=>exact h
 |some (.serve q Jp op num a),⟨b1,b2,b3,b4,b5,b6,b7,y,x,h1,J,M,O,Z,h6,h7,h8,h9,h10,h11,h12⟩=>
  exact⟨b1,b2,b3,b4,b5,b6,b7,y,x,h1,I _ J,M,JI.mono O I,I _ Z,I _ h6,I _ h7,I _ h8,I _ h9,h10,h11,I _ h12⟩
 |some (.P8 q b),⟨b1,b2,b3,b4,y,h1,J,M,O,Z,h6,h7⟩=>exact⟨b1,b2,b3,b4,y,h1,I _ J,M,JI.mono O I,I _ Z,I _ h6,I _ h7⟩
 |some (.T9 q b last),⟨b1,b2,b3,b4,b5,y,x,h1,J,M,O,Z,h6,h7,h8,h9⟩=>exact⟨b1,b2,b3,b4,b5,y,x,h1,I _ J,M,JI.mono O I,I _ Z,I _ h6,I _ h7,h8,I _ h9⟩
 |some (.gy q b at_),⟨b1,b2,b3,b4,b5,y,x,h1,J,M,O,Z,h6,h7,h8,h9⟩=>exact⟨b1,b2,b3,b4,b5,y,x,h1,I _ J,M,JI.mono O I,I _ Z,I _ h6,I _ h7,I _ h8,h9⟩
 |some (.P5 q b),⟨b1,b2,b3,y,h1,J,M,O,Z,h6⟩=>exact⟨b1,b2,b3,y,h1,I _ J,M,JI.mono O I,I _ Z,I _ h6⟩
def fF.mono{L L':List OJ}{X:Nd}{x:NX}(h:fF K L n X x)(I:∀f∈L,f∈L'):fF K L' n X x:=
 ⟨h.UO,λy J=>(h.Wu y J).mono I,h.Al.mono I,h.ixm,λy J=>(h.ixo y J).mono I,sj.mono h.nQ I⟩
def xR{α:Type}(f:Nat->List α)(hn:n<5):((range 5).flatMap f).Perm (f n++((range 5).filter (· ≠n)).flatMap f):=by
 have h:n=0\/n=1\/n=2\/n=3\/n=4:=Y;have I:∀l:List Nat,(range 5).Perm (n::l)->((range 5).flatMap f).Perm (f n++l.flatMap f):=λl J=>by
  have:=J.flatMap_right f;rwa [nM]at this
 refine I _ ?_
 rcases h with rfl|rfl|rfl|rfl|rfl<;>decide
open Classical in
def Wd.open(h:Wd K B w0 w fs m H)(hn:n<5):∃R,Good K R m H/\St B w0 w (mJ K n (m.aj n) (R.nx n)++(xE K R m++iW K R m fs n)):=by
 obtain⟨R,I,S⟩:=h;refine⟨R,I,S.perm (uo.2 λa=>?_)⟩;have h1:=uo.1 (xR (λj=>mJ K j (m.aj j) (R.nx j)) hn) a;unfold nO iW nZ;simp only[List.count_append]at h1⊢;omega
def afb(hs:∀j,j<5->j≠n->m'.aj j=m.aj j/\R'.nx j=R.nx j):nZ K R' m' n=nZ K R m n:=by
 unfold nZ;rw[flatMap_def,flatMap_def]
 congr 1
 refine map_congr_left λj h=>?_;rw[mem_filter,KH]at h;obtain⟨h1,I⟩:=hs j h.1 (by simpa using h.2);rw[h1,I]
open Classical in
def Wd.close{Ls:List OJ}(G:Good K R' m' H')(S:St B w0 w' (mJ K n (m'.aj n) (R'.nx n)++(xE K R' m'++(Ls++(iW K R m fs n++N)))))(hn:n<5)(h:R'.L=R.L++(N++Ls))(hs:∀j,j<5->j≠n->m'.aj j=m.aj j/\R'.nx j=R.nx j):Wd K B w0 w' fs m' H':=by
 refine⟨R',G,S.perm (uo.2 λa=>?_)⟩;have h1:=uo.1 (xR (λj=>mJ K j (m'.aj j) (R'.nx j)) hn) a;unfold iW nO;rw[h,<-afb hs];unfold nZ;simp only[List.count_append]at h1⊢;omega
def PO{L gs fs:List OJ}(k:Nat)(h:gs.drop k=fs)(I:∀f∈L,f∈fs):∀f∈L,f∈gs:=λf J=>SX (h▸I f J)
def ZB{L fs N:List OJ}(I:∀f∈L,f∈fs):∀f∈L++N,f∈fs++N:=λf J=>(aP.1 J).elim (λh=>bM _ (I f h)) (λh=>aK _ h)
def fG{fs:List OJ}:∀f∈fs,f∈fs:=λ_ h=>h
def ahO{L N:List OJ}{x:OJ}:x∈L++(N++[x]):=by simp
def St.toEnd{f:OJ}(i:Nat)(S:St B w0 w fs)(hi:fs[i]? =some f):St B w0 w (fs.eraseIdx i++[f]):=(S.bring i hi).perm (AO (l₁:=[f]) (l₂:=fs.eraseIdx i))
def St.UQ{a b c d e f g:OJ}(S:St B w0 w (a::b::c::d::e::f::g::(fs++N))):St B w0 w (a::b::c::d::e::f::g::fs):=
 S.sub (((((((Gi fs N).cons_cons g).cons_cons f).cons_cons e).cons_cons d).cons_cons c).cons_cons b |>.cons_cons a)
def Ro.Oy{L:List OJ}{b n s:Nat}{row:Array Value}{t:TypeId}{xs:List Value}(h:OJ.Oy b row t∈L)(J:row.toList=xs)(M:xs.length=n*s):Ro L s (some ⟨b,0,none⟩) n xs:=λ_ _ hw=>
 ⟨M,λ_=>⟨b,0,E,(hw _ h).2.lt,λj u I=>by
  rw[fU];exact(hw _ h).2.cell (by rw[<-J]at I;simpa using I)⟩⟩
end
end
abbrev oL (a:Option Addr)(l:List LX)(c:Nat):OJ:=.own 119 23 (.slice a l.length c) l.length (l.flatMap LX.cells)
abbrev oS (a:Option Addr)(l:List l9)(c:Nat):OJ:=.own 164 14 (.slice a l.length c) l.length (l.flatMap l9.cells)
abbrev oT (a:Option Addr)(l:List tZ)(c:Nat):OJ:=.own 56 7 (.slice a l.length c) l.length (l.flatMap tZ.cells)
abbrev oB (b:Nat)(l:List BX):OJ:=.own 42 6 (.slice (some ⟨b,0,none⟩) 4 4) 4 (l.flatMap BX.cells)
abbrev fL (a:Option Addr)(l:List LX)(c:Nat):OJ:=.off 119 23 a l.length c (l.flatMap LX.cells)
abbrev bW (k:Nat)(n:Value)(d:TW)(fA:Option Addr)(fx:List LX)(fc:Nat)(sh:Nat->Nat->Int×Int)(sA:Option Addr)(sr:List l9)(sc:Nat)(tA:Option Addr)(tl:List tZ)(tc cs:Nat):OJ:=.Oy k (nJ n d (.slice fA fx.length fc) sh (.slice sA sr.length sc) (.slice tA tl.length tc) cs) 97
abbrev bN (k n:Nat)(u:Bool)(tA:Option Addr)(dd:List UInt8)(tc:Nat)(sy:Int)(b:Nat)(H:Nat->Pl)(U:Nat->Bool)(iA:Option Addr)(ix:List LX)(ic:Nat)(pv:Value)(tn:Nat):OJ:=.Oy k (eP n u (.slice tA dd.length tc) sy (.slice (some ⟨b,0,none⟩) 4 4) H U (.slice iA ix.length ic) pv tn) 105
abbrev wF (k:Nat)(n:Value)(d:TW)(fA:Option Addr)(fx:List LX)(fc:Nat)(sh:Nat->Nat->Int×Int)(sA:Option Addr)(sr:List l9)(sc:Nat)(tA:Option Addr)(tl:List tZ)(tc cs:Nat)(r:List OJ):List OJ:=bW k n d fA fx fc sh sA sr sc tA tl tc cs::oL fA fx fc::oS sA sr sc::oT tA tl tc::r
abbrev nF (k n:Nat)(u:Bool)(tA:Option Addr)(dd:List UInt8)(tc:Nat)(sy:Int)(b:Nat)(H:Nat->Pl)(U:Nat->Bool)(iA:Option Addr)(ix:List LX)(ic:Nat)(pv:Value)(tn:Nat)(bs:List BX)(r:List OJ):List OJ:=bN k n u tA dd tc sy b H U iA ix ic pv tn::oB b bs::fL iA ix ic::r
abbrev cF (k:Nat)(R:CX)(m:Cl)(r:List OJ):List OJ:=wF k (.slice R.nA 5 R.nc) m.off R.fA R.fx R.fc m.PU R.sA m.bG R.sc R.tA m.bQ R.tc m.calls r
abbrev cN (k n:Nat)(X:Nd)(z:NX)(pv:Value)(r:List OJ):List OJ:=nF k n X.up z.tA X.data z.tc X.OY z.bb X.PS X.PZ z.iA z.ix z.ic pv X.turn z.bx r
def ZC{x:LX}:∀(j:Nat) (u:Value),[Value.int .i64 x.l.op.kind,D x.l.op.OU,D x.l.op.id,D x.l.op.body,D x.l.op.OZ,D x.l.op.PX][j]? =some u->(LX.row x)[7+j]? =some u:=by
 intro j u h;have I:j<6:=(dw.1 h).1;have:j=0\/j=1\/j=2\/j=3\/j=4\/j=5:=Y
 rcases this with rfl|rfl|rfl|rfl|rfl|rfl<;>exact h
def auQ{x:LX}:∀(j:Nat) (u:Value),[Value.int .i64 x.l.bQ.num,D x.l.bQ.Ut.code,D x.l.bQ.Ut.iD,D x.l.bQ.Ut.PX,D x.l.bQ.Ut.body,D x.l.bQ.pl.node,D x.l.bQ.pl.ME][j]? =some u->(LX.row x)[16+j]? =some u:=by
 intro j u h;have I:j<7:=(dw.1 h).1;have:j=0\/j=1\/j=2\/j=3\/j=4\/j=5\/j=6:=Y
 rcases this with rfl|rfl|rfl|rfl|rfl|rfl|rfl<;>exact h
def u6{me turn:Nat}{up:Bool}{tv bv iv pv:Value}{OY:Int}{H:Nat->Pl}{U:Nat->Bool}:∀(j:Nat) (u:Value),[tv,D OY][j]? =some u->(eP me up tv OY bv H U iv pv turn)[2+j]? =some u:=by
 intro j u h;have I:j<2:=(dw.1 h).1;have:j=0\/j=1:=Y
 rcases this with rfl|rfl<;>exact h
def yD(d:TW):∀u∈d.cells.toArray.toList,u.oneCell'=true:=dx E
def an7{me turn q:Nat}{up:Bool}{tv bv iv pv:Value}{OY:Int}{H:Nat->Pl}{U:Nat->Bool}(I:q<4):∀(j:Nat) (u:Value),[Value.int .i64 (H q).node,D (H q).ME][j]? =some u->(eP me up tv OY bv H U iv pv turn)[5+q*2+j]? =some u:=by
 intro j u h;have J:j<2:=(dw.1 h).1;have:j=0\/j=1:=Y
 rcases this with rfl|rfl
 ·rw[Nat.add_zero,(Tm I).1];exact h
 rw[(Tm I).2];exact h
def auR{bs:List BX}{q c:Nat}{y:BX}{A:Option Addr}{Jp:List Ev}(J:bs[q]? =some y):vG (bs.flatMap BX.cells) (0+q*6+5) [.slice A Jp.length c]=(bs.set q ⟨{y.b with Jp:=Jp},A,c⟩).flatMap BX.cells:=by
 obtain⟨M,he⟩:=dw.1 J;rw[<-tV (enc:=BX.cells) (sz:=6) (λ_=>E) ⟨{y.b with Jp:=Jp},A,c⟩ q bs M,fU];have I:∀j u,(BX.cells y)[j]? =some u->(bs.flatMap BX.cells)[q*6+j]? =some u:=λj u h=>dF (enc:=BX.cells) (sz:=6) (λ_=>E) J h;simp only[vG,BX.cells];have e:∀(l:List Value) (k:Nat) (u:Value),l[k]? =some u->l.set k u=l:=λl k u h=>by
  obtain⟨h1,O⟩:=dw.1 h;subst O;exact set_getElem_self h1
 rw[e _ (q*6) _ (I 0 _ E),e _ (q*6+1) _ (I 1 _ E),e _ (q*6+1+1) _ (I 2 _ E),e _ (q*6+1+1+1) _ (I 3 _ E),e _ (q*6+1+1+1+1) _ (I 4 _ E)]
def kI(k:Int)(q:Nat)(y:BX)(w:World):
 Calls tP 45 #[D k,D (q:Int),.agg (bR y.b y.A y.c)] w (λe w'=>e=.returned (.agg (dN.cells (gZ k q y.b.ep 0 aQ)).toArray)/\Below w.heap.size w w'):=by
 have S:=St.start w;refine jc 12 func45 ?_;refine cw [0,1,2] ?_;refine zN 2 ?_;refine jT S ?_;intro b1 M h;refine iU h zn ?_;intro b4 O I;refine zN 8 ?_;refine vv (v:=.agg #[D k,D (q:Int),D y.b.ep,D 0,D 0,D 0,D 0,D 0,D 0,D 0]) iJ ?_;refine sa 0 I kQ ?_;intro Z J;refine zN 4 ?_;exact⟨E,J.Qe⟩
def jl{B kw calls fc sc tc:Nat}{fA sA tA:Option Addr}{nv:Value}{d:TW}{sh:Nat->Nat->Int×Int}{fx:List LX}{bG:List l9}{tl:List tZ}{w0 w:World}{fs:List OJ}{x:LX}(S:St B w0 w ((.Oy kw (nJ (nv) d (.slice fA fx.length fc) sh (.slice sA bG.length sc) (.slice tA tl.length tc) calls) 97)::(.own 119 23 (.slice fA fx.length fc) fx.length ((fx).flatMap LX.cells))::fs))(hb:(fx.length+1)*200<=140737488355328):
 Calls tP 32 #[pV kw 0,.agg (LX.row x)] w (λe w'=>e=.returned (.tuple #[])/\ ∃A' c' h,h=fx++[x]/\St B w0 w' ((.Oy kw (nJ (nv) d (.slice A' h.length c') sh (.slice sA bG.length sc) (.slice tA tl.length tc) calls) 97)::(.own 119 23 (.slice A' h.length c') h.length ((h).flatMap LX.cells))::fs)):=by
 refine jc 14 func32 ?_;refine cw [0,1] ?_;refine zN 2 ?_;refine jT S ?_;intro b1 w2 S3;refine zN 2 ?_;have J:=S3.drew;refine gV 11 8 J [2] ?_;iterate 4 refine ji ?_
 refine gk (v:=.slice fA fx.length fc) 4 E (St.del 2 J) (λ_ Sx9=>(aA E E (aV (St.cl 1 Sx9 E Vx)))) ?_;refine ji ?_;refine gI (m:=4) (r:=6) kQ ?_;refine o8 (i:=6) E E (V:=λb=>.slice (aD b 0) 1 1) (row:=LX.row x) (t:=119) J (wn E) E E (bD (vs:=[(0,.agg (LX.row x))]) E zL kQ) ?_;intro b11 w12 I;refine ji ?_;refine gI (m:=3) (r:=7) kQ ?_;refine nG (i:=7) E E (news:=(LX.cells x)) (xs':=(fx++[x]).flatMap LX.cells) 3 I (wn E) E E E E E E (St.nP (xs:=(LX.cells x)) 0 I E E E) underlying91 abO E dQ (Gu _) lQ Y (jO (enc:=LX.cells) E E) ?_;intro M O w16 hc18 aOL Z;refine ji ?_;refine gF kQ E E E ?_;refine zN 2 ?_;refine kZ 2 Z kQ ?_ (hs:=by exact ark);intro w20 xM;refine zQ ?_;refine kC ?_;refine dG (l':=[]) trivial (q9 ?_);have l6:=xM.bq [1,0];refine⟨E,M,O,fx++[x],E,?_⟩;rw[aZ];exact l6
def qB{B kn kw bb n turn calls dc ic fc sc tc:Nat}{up:Bool}{dA iA fA sA tA:Option Addr}{data:List UInt8}{OY:Int}{Hh:Nat->Pl}{Us:Nat->Bool}{pv nv:Value}{d:TW}{sh:Nat->Nat->Int×Int}{bs:List BX}{ix fx:List LX}{bG:List l9}{tl:List tZ}{w0 w:World}{fs:List OJ}{q:Nat}(hn:n<5)(hq:q<4){y:BX}(hy:bs[q]? =some y)(e:Ev)(a:kE)(num:Int)(S:St B w0 w ((.Oy kn (eP n up (.slice dA data.length dc) OY (.slice (aD bb 0) 4 4) Hh Us (.slice iA ix.length ic) (pv) turn) 105)::(.own 42 6 (.slice (aD bb 0) 4 4) 4 ((bs).flatMap BX.cells))::(.off 119 23 iA ix.length ic ((ix).flatMap LX.cells))::(.Oy kw (nJ (nv) d (.slice fA fx.length fc) sh (.slice sA bG.length sc) (.slice tA tl.length tc) calls) 97)::(.own 119 23 (.slice fA fx.length fc) fx.length ((fx).flatMap LX.cells))::(.own 164 14 (.slice sA bG.length sc) bG.length ((bG).flatMap l9.cells))::(.own 56 7 (.slice tA tl.length tc) tl.length ((tl).flatMap tZ.cells))::fs))(hb:(bG.length+1)*112<=140737488355328):
 Calls tP 56 #[pV kw 0,pV kn 0,D (q:Int),.agg #[D e.kind,D e.OU,D e.id,D e.body,D e.OZ,D e.PX],.agg #[D a.code,D a.iD,D a.PX,D a.body],D num] w (λe' w'=>e'=.returned (.tuple #[])/\ ∃A' c' I,I=bG++[(⟨n,q,y.b.ep,e,a,num⟩:l9)]/\St B w0 w' ((.Oy kn (eP n up (.slice dA data.length dc) OY (.slice (aD bb 0) 4 4) Hh Us (.slice iA ix.length ic) (pv) turn) 105)::(.own 42 6 (.slice (aD bb 0) 4 4) 4 ((bs).flatMap BX.cells))::(.off 119 23 iA ix.length ic ((ix).flatMap LX.cells))::(.Oy kw (nJ (nv) d (.slice fA fx.length fc) (kM sh n q (y.b.ep,(y.b.Jp.length:Int))) (.slice A' I.length c') (.slice tA tl.length tc) calls) 97)::(.own 119 23 (.slice fA fx.length fc) fx.length ((fx).flatMap LX.cells))::(.own 164 14 (.slice A' I.length c') I.length ((I).flatMap l9.cells))::(.own 56 7 (.slice tA tl.length tc) tl.length ((tl).flatMap tZ.cells))::fs)):=by
 have Z:=(S.own 1 E).1;rw[jI (sz:=6) (λ_=>E)]at Z;refine jc 68 func56 ?_;refine cw [0,1,2,3,4,5] ?_;refine zN 2 ?_;refine jT S ?_;intro b1 w2 S3;refine jT S3 ?_;intro b4 w5 S6;refine zN 3 ?_;have O:=S6.drew;refine gV 29 25 O [7] ?_;iterate 5 refine ji ?_
 refine gk (v:=.slice sA bG.length sc) 5 E (St.del 7 O) (λ_ Vq=>(aA E E (aV (St.cl 5 Vq E az3)))) ?_;iterate 10 refine ji ?_
 refine gk 16 E (St.del 7 O) (λ_ _=>nC q) ?_;refine ji ?_;refine gk (v:=D y.b.ep) 18 E (St.del 7 O) (λ_ aqO=>(aA E E (aV (Rd.cl2 (i:=1) (St.Uz 3 aqO E) (dF (enc:=BX.cells) (sz:=6) (λ_=>E) hy E))))) ?_;iterate 3 refine ji ?_
 refine gk (v:=.agg #[D (n:Int),D (q:Int),D y.b.ep,D e.kind,D e.OU,D e.id,D e.body,D e.OZ,D e.PX,D a.code,D a.iD,D a.PX,D a.body,D num]) 22 E (St.del 7 O) (λ_ _=>iJ) ?_;refine gI (m:=5) (r:=23) kQ ?_;refine o8 (i:=23) E E (V:=λb=>.slice (aD b 0) 1 1) (row:= #[D (n:Int),D (q:Int),D y.b.ep,D e.kind,D e.OU,D e.id,D e.body,D e.OZ,D e.PX,D a.code,D a.iD,D a.PX,D a.body,D num]) (t:=164) O (wn E) E E (bD (vs:=[(0,.agg #[D (n:Int),D (q:Int),D y.b.ep,D e.kind,D e.OU,D e.id,D e.body,D e.OZ,D e.PX,D a.code,D a.iD,D a.PX,D a.body,D num])]) E zL kQ) ?_;intro b31 w32 yB;refine ji ?_;refine gI (m:=4) (r:=24) kQ ?_;refine nG (i:=24) E E (news:=[D (n:Int),D (q:Int),D y.b.ep,D e.kind,D e.OU,D e.id,D e.body,D e.OZ,D e.PX,D a.code,D a.iD,D a.PX,D a.body,D num]) (xs':=(bG++[(⟨n,q,y.b.ep,e,a,num⟩:l9)]).flatMap l9.cells) 8 yB (wn E) E E E E E E (St.nP (xs:=[D (n:Int),D (q:Int),D y.b.ep,D e.kind,D e.OU,D e.id,D e.body,D e.OZ,D e.PX,D a.code,D a.iD,D a.PX,D a.body,D num]) 0 yB E E E) underlying32 atr E dQ (dx E) lQ Y (jO (enc:=l9.cells) E E) ?_;intro J M w36 hc38 aE9 Fz;refine ji ?_;refine gF kQ E E E ?_;refine zN 3 ?_;refine kZ 6 Fz kQ ?_ (hs:=by exact az5);intro w40 L9;refine zQ ?_;refine kC ?_;refine zQ ?_;have h:=L9.drew;refine aU 29 h [6] ?_;refine aW 11 ?_;refine ak 11 E (St.del 6 h) (λ_ _=>nC q) ?_;refine dI ?_;refine ak (v:=D y.b.ep) 13 E (St.del 6 h) (λ_ afc=>(aA E E (aV (Rd.cl2 (i:=1) (St.Uz 4 afc E) (dF (enc:=BX.cells) (sz:=6) (λ_=>E) hy E))))) ?_;refine aW 5 ?_;refine ak 19 E (St.del 6 h) (λ_ _=>nC q) ?_;refine dI ?_;refine ak (v:=.slice y.A y.b.Jp.length y.c) 21 E (St.del 6 h) (λ_ ad6=>(aA E E (aV (Rd.cl2 (i:=5) (St.Uz 4 ad6 E) (dF (enc:=BX.cells) (sz:=6) (λ_=>E) hy E))))) ?_;refine dI ?_;refine ak (v:=.agg #[D y.b.ep,D (y.b.Jp.length:Int)]) 23 E (St.del 6 h) (λ_ _=>iJ) ?_;refine aW 2 ?_;refine ak (v:=pV kw (10+n*8)) 26 E (St.del 6 h) (λ_ _=>(bF E E E (fP n underlying95 kQ E hn))) ?_;refine ak (v:=pV kw (10+n*8+q*2)) 27 E (St.del 6 h) (λ_ _=>(bF E E E (fP q underlying94 kQ E hq))) ?_;refine bJ 28 ?_;refine wV (i:=28) E E (cs:= #[D y.b.ep,D (y.b.Jp.length:Int)]) (row':=nJ (nv) d (.slice fA fx.length fc) (kM sh n q (y.b.ep,(y.b.Jp.length:Int))) (.slice J (bG.length+1) M) (.slice tA tl.length tc) calls) (fs':=(_::_::_::_::_::_::(.Oy kw (nJ (nv) d (.slice fA fx.length fc) (kM sh n q (y.b.ep,(y.b.Jp.length:Int))) (.slice J (bG.length+1) M) (.slice tA tl.length tc) calls) 97)::_::_::_::fs)) 6 h (wn E) E E E E E E YF E (dx E) (by rw[ahM];omega) (apS hn hq (a:=y.b.ep) (b:=(y.b.Jp.length:Int))) E ?_;intro w71 IB;refine aW 2 ?_;refine dG (l':=[]) trivial (q9 ?_);have tQ:=IB.bq [2,1,0];refine⟨E,J,M,bG++[(⟨n,q,y.b.ep,e,a,num⟩:l9)],E,?_⟩;rw[aZ];exact tQ
def BG{B kn kw bb n turn calls dc ic fc sc tc:Nat}{up:Bool}{dA iA fA sA tA:Option Addr}{data:List UInt8}{OY:Int}{Hh:Nat->Pl}{Us:Nat->Bool}{pv nv:Value}{d:TW}{sh:Nat->Nat->Int×Int}{bs:List BX}{ix fx:List LX}{bG:List l9}{tl:List tZ}{w0 w:World}{fs:List OJ}{q:Nat}(hn:n<5)(hq:q<4){y:BX}(hy:bs[q]? =some y)(S:St B w0 w (nF kn n up dA data dc OY bb Hh Us iA ix ic pv turn bs (wF kw nv d fA fx fc sh sA bG sc tA tl tc calls fs)))(hb:(fx.length+1)*200<=140737488355328):
 Calls prog 90 #[pV kw 0,pV kn 0,D (q:Int)] w (λe w'=>e=.returned (.tuple #[])/\ ∃A' c' I,I=fx++[⟨ou n q y.b,none,0⟩]/\St B w0 w' (nF kn n up dA data dc OY bb Hh Us iA ix ic pv turn bs (wF kw nv d A' I c' sh sA bG sc tA tl tc calls fs))):=by
 have J:=(S.own 1 E).1;rw[jI (sz:=6) (λ_=>E)]at J;refine jc 29 func90 ?_;refine cw [0,1,2] ?_;refine zN 7 ?_;refine vv (nC q) ?_;refine vv (aA E E (fu (cs:=BX.cells y) (Rd.Bb (St.Uz 1 S E) (λ_ _ h=>dF (enc:=BX.cells) (sz:=6) (λ_=>E) hy h)))) ?_;refine iU S iN ?_;intro b1 w2 S3;refine sa 0 S3 kQ ?_;intro w4 S5;refine zN 2 ?_;have S6:=S5.fC [5,5];have Z:=S6.drew;refine aU 15 Z [1,0] ?_;refine aW 13 ?_;refine ak (v:=.agg #[D 3,D (n:Int),D y.b.fr,D (q:Int),D y.b.ep,D (y.b.Jp.length:Int),D 0,D 0,D 0,D 0,D 0,D 0,D 0,.slice none 0 0,.bool false,D 0,D 0,D 0,D 0,D 0,D 0,D 0,D 0]) 13 E (Z.lV [1,0]) (λ_ _=>iJ) ?_;refine bJ 14 ?_;refine ku 14 E eQ (jl (x:=⟨ou n q y.b,none,0⟩) Z Y) ?_;rintro _ Pt ⟨rfl,A22,c23,M,O,vJ⟩;refine⟨_,E,?_⟩;refine aW 2 ?_;refine dG (l':=[]) trivial (q9 ?_);have vR:=vJ.bq [2];have vT:=vR.fC [6,6,3,3,6,6,6];exact⟨E,A22,c23,M,O,vT⟩
noncomputable def lI(n q:Nat)(b:bC)(at_:Int)(fl:List bO):List bO:=if (jq b at_).2.2≠0 then fl else fl++[IV n q b at_]
def aFa{B:Nat}{w0 w:World}{a b c d e f g x:OJ}{fs:List OJ}(S:St B w0 w (a::b::c::d::e::f::g::x::fs)):St B w0 w (a::b::c::d::e::f::g::(fs++[x])):=
 S.perm (Perm.cons _ (Perm.cons _ (Perm.cons _ (Perm.cons _ (Perm.cons _ (Perm.cons _ (Perm.cons _ (AO (l₁:=[x]) (l₂:=fs)))))))))
def Oa{B kn kw bb n turn calls dc ic fc sc tc:Nat}{up:Bool}{dA iA fA sA tA:Option Addr}{data:List UInt8}{OY:Int}{Hh:Nat->Pl}{Us:Nat->Bool}{pv nv:Value}{d:TW}{sh:Nat->Nat->Int×Int}{bs:List BX}{ix fx:List LX}{bG:List l9}{tl:List tZ}{w0 w:World}{fs:List OJ}{q:Nat}{L:List OJ}(hn:n<5)(hq:q<4){y:BX}(hy:bs[q]? =some y)(at_:Int)(Z:Eo L y)(hL:∀f∈L,f∈fs)(aFb:y.b.Jp.length*48<=reachBytes)(iD: -2<=y.b.ep/\y.b.ep<=2000000)(S:St B w0 w (nF kn n up dA data dc OY bb Hh Us iA ix ic pv turn bs (wF kw nv d fA fx fc sh sA bG sc tA tl tc calls fs)))(hb:(fx.length+1)*200<=140737488355328):
 Calls prog 93 #[pV kw 0,pV kn 0,D (q:Int),D at_] w (λe w'=>e=.returned (.tuple #[])/\ ∃(A':Option Addr) (c':Nat) (O:List LX) (N:List OJ),O.map LX.l=lI n q y.b at_ (fx.map LX.l)/\(∀x∈O,x∈fx\/UN N x)/\St B w0 w' (nF kn n up dA data dc OY bb Hh Us iA ix ic pv turn bs (wF kw nv d A' O c' sh sA bG sc tA tl tc calls (fs++N)))):=by
 have hlen:=(S.own 1 E).1;rw[jI (sz:=6) (λ_=>E)]at hlen;refine jc 44 func93 ?_;refine cw [0,1,2,3] ?_;refine zN 7 ?_;refine vv (nC q) ?_;refine vv (aA E E (fu (cs:=BX.cells y) (Rd.Bb (St.Uz 1 S E) (λ_ _ h=>dF (enc:=BX.cells) (sz:=6) (λ_=>E) hy h)))) ?_;refine iU S iN ?_;intro b1 w2 S3;refine sa 0 S3 kQ ?_;intro w4 S5;refine zN 6 ?_;refine dZ eQ ((show Calls _ _ _ _ (VX _ (jq y.b at_))from aaV y.b.F9 y.b.ep y.b.fr y.b.tg y.b.rd y.A y.c y.b.Jp at_ Z.2 _ (Z.1.rd S5 (PO 8 E hL)) aFb)) ?_;rintro _ w9 ⟨A6,c7,aFc,rfl,T11⟩;refine⟨_,E,?_⟩;have Fx:=S5.ext T11 E;refine zN 13 ?_;by_cases h12:(jq y.b at_).2.2=0
 ·refine zN 6 ?_;have VU:=Fx.fC [6,6];have I:=VU.drew;refine aU 16 I [1,0] ?_;refine aW 10 ?_;refine ak (v:=D (y.b.ep+1)) 10 E (I.lV [1,0]) (λ_ _=>jW) ?_;refine aW 3 ?_;refine ak (v:=.agg #[D 4,D (n:Int),D y.b.tg,D (q:Int),D (y.b.ep+1),D at_,D 0,D 0,D 0,D 0,D 0,D 0,D 0,.slice A6 ((jq y.b at_).1.length) c7,.bool ((jq y.b at_).2.1),D 0,D 0,D 0,D 0,D 0,D 0,D 0,D 0]) 14 E (I.lV [1,0]) (λ_ _=>iJ) ?_;refine bJ 15 ?_;refine ku 15 E eQ (jl (x:=⟨IV n q y.b at_,A6,c7⟩) I Y) ?_;rintro _ w34 ⟨rfl,A30,c31,aFd,M,CV⟩;refine⟨_,E,?_⟩;refine aW 2 ?_;refine dG (l':=[]) trivial (q9 ?_);have vU:=CV.bq [3];have Fz:=vU.fC [7,7,3,3,7,7,7];refine⟨E,A30,c31,aFd,[.dR 6 A6 ((jq y.b at_).1.length) (((jq y.b at_).1).flatMap Ev.cells)],?_,?_,?_⟩
  · rw[lI,ah (λh=>h h12),M,iP];rfl
  · intro x J;rw[M]at J;rcases aP.1 J with J|J;exact .inl J;rw[aF]at J;subst J;exact .inr ⟨Ro.dR (aF.2 E),aFc⟩
  · exact aFa Fz
 refine zN 7 ?_;have CS:=Fx.bq [1];have Co:=CS.fC [7,7,7,7,7,7,7];have zh:=Co.bq [7];refine⟨E,fA,fc,fx,[],?_,?_,?_⟩
 · rw[lI,au h12]
 · exact λx J=>.inl J
 · rw[bI];exact zh
def aFe(w:World)(r:List UInt8×Int×Int)(e:Ending)(w':World):Prop:=
 ∃A c,e=.returned (.tuple #[.agg #[.slice A r.1.length c,D r.2.1],D r.2.2])/\St w.heap.size w w' [.dR 1 A r.1.length (Jq r.1)]
def DJ{P:Program}{f:FuncId}{vs:Array Value}{w:World}{r:List UInt8×Int×Int}(h:Calls P f vs w (uY w r)):Calls P f vs w (aFe w r):=h.mono λe w' ⟨A,c,h1,I,J,M⟩=>
 ⟨A,c,h1,((St.start w).on I).cons ⟨J,M⟩ λk _ i g O=>by simp at O⟩
def Lh{d:List UInt8}{s:Int}{rs:List dN}{k:Nat}{r:dN}(h:rs[k]? =some r):gH d s (rs.drop k)=if (jZ d s r).2.2≠0 then none else gH (jZ d s r).1 s (rs.drop (k+1)):=by rw[Uu h,gH]
def ahP{d:List UInt8}{s:Int}{r:dN}(h:(jZ d s r).2.2=0):(jZ d s r).2.1=s:=by rw[(Rb h).1]
def sw{B kn kw bb n turn calls dc ic fc sc tc:Nat}{up:Bool}{dA iA fA sA tA:Option Addr}{data:List UInt8}{OY:Int}{Hh:Nat->Pl}{Us:Nat->Bool}{pv nv:Value}{d:TW}{sh:Nat->Nat->Int×Int}{bs:List BX}{ix fx:List LX}{bG:List l9}{tl:List tZ}{w0 w:World}{fs:List OJ}{L:List OJ}{rs:List dN}{RA:Option Addr}{rc:Nat}(hrs:Ro fs 10 RA rs.length (rs.flatMap dN.cells))(htp:Ro L 1 dA data.length (Jq data))(hL:∀f∈L,f∈fs)(hrl:rs.length<=1000000)(S:St B w0 w (nF kn n up dA data dc OY bb Hh Us iA ix ic pv turn bs (wF kw nv d fA fx fc sh sA bG sc tA tl tc calls fs))):
 Calls prog 44 #[pV kn 0,.slice RA rs.length rc] w (λe w'=>(gH data OY rs=none/\e=.returned (.bool false)/\St B w0 w' (nF kn n up dA data dc OY bb Hh Us iA ix ic pv turn bs (wF kw nv d fA fx fc sh sA bG sc tA tl tc calls fs)))\/ ∃d' A' c' N,gH data OY rs=some d'/\e=.returned (.bool true)/\Ro (L++N) 1 A' d'.length (Jq d')/\St B w0 w' (nF kn n up A' d' c' OY bb Hh Us iA ix ic pv turn bs (wF kw nv d fA fx fc sh sA bG sc tA tl tc calls (fs++N)))):=by
 refine jc 34 func44 ?_;refine cw [0,1] ?_;refine zN 10 ?_;refine vv (aA E E (fu (cs:=[.slice dA data.length dc,D OY]) (St.rg 0 S E (u6)))) ?_;refine iU S BM ?_;intro b1 w2 S3;refine sa 0 S3 kQ ?_;intro w4 S5;refine zN 11 ?_;refine iO (X:=Nat×(Option Addr)×Nat×(List UInt8)×(List OJ)) (λI=>[(0,pV kn 0),(5,pV b1 0),(14,.slice RA rs.length rc),(15,D (rs.length:Int)),(16,D (I.1:Int))]) (λI wr=>(I.1<=rs.length)/\(gH data OY rs=gH I.2.2.2.1 OY (rs.drop I.1))/\(Ro (L++I.2.2.2.2) 1 I.2.1 I.2.2.2.1.length (Jq I.2.2.2.1))/\St B w0 wr ((.Oy b1 #[.slice I.2.1 I.2.2.2.1.length I.2.2.1,D OY] 101)::(nF kn n up dA data dc OY bb Hh Us iA ix ic pv turn bs (wF kw nv d fA fx fc sh sA bG sc tA tl tc calls (fs++I.2.2.2.2))))) (λI=>rs.length-I.1) (0,dA,dc,data,[]) ?_ ?_ ?_
 ·exact⟨aG _,E,by rw[bI];exact htp,by rw[bI];exact S5⟩
 ·exact CO
 rintro⟨k,A1,c1,M,N1⟩ w6 ⟨hi8,O,J,S7⟩
 try dsimp only at hi8 O J S7
 refine cB (l':=[(0,pV kn 0),(5,pV b1 0),(14,.slice RA rs.length rc),(15,D (rs.length:Int)),(16,D (k:Int))]) CO (bH (aL ?_));by_cases h11:(k:Int)< (rs.length:Int)
 ·refine zN 10 ?_;obtain⟨x,hx⟩:∃x,rs[k]? =some x:=⟨_,eT Y⟩;refine zQ ?_;obtain⟨rb,ro,hra,_,hrc⟩:=(hrs.rd S7 (PO 8 E (λf hf=>bM _ hf))).2 Y;subst hra;refine vv (nC k) ?_;refine vv (v:=.agg #[D x.kind,D x.Qg,D x.ME,D x.UE,D x.ev.kind,D x.ev.OU,D x.ev.id,D x.ev.body,D x.ev.OZ,D x.ev.PX]) (aA E E (fu (cs:=dN.cells x) (λj u hu=>by rw[kR];exact hrc (k*10+j) u (dF (enc:=dN.cells) (sz:=10) (λ_=>E) hx hu)))) ?_;refine iU S7 zn ?_;intro b12 Fy pz;refine stA 0 pz kQ ?_;intro NP tO;refine zN 6 ?_;refine dZ eQ (DJ (Kl A1 M.length c1 M OY x _ (J.rd tO (PO 9 E (ZB hL))))) ?_;rintro _ J9 ⟨Z,c18,rfl,T21⟩;refine⟨_,E,?_⟩;have tN:=tO.ext T21 E;refine zN 3 ?_;refine iU tN BM ?_;intro b22 Ma l7;refine stA 0 l7 kQ ?_;intro w25 vK;refine zN 7 ?_;by_cases h27:(jZ M OY x).2.2=0
  ·have hsy:=ahP h27;rw[hsy]at vK;refine zN 8 ?_;refine stA 3 vK kQ ?_;intro YQ vT;refine zN 4 ?_;refine vv (v:=D ((k+1:Nat):Int)) jW ?_;refine zN 2 ?_;have Ed:=vT.bq [2,0];have tu:=Ed.fC [8,8,8,8,8,8,8,8];have wP:St B w0 YQ (_::_::_::_::_::_::_::_::((fs++N1)++[.dR 1 Z ((jZ M OY x).1.length) (Jq ((jZ M OY x).1))])):=tu.toEnd 8 E;have yB:=wP;rw[gP]at yB;refine dL (k+1,Z,c18,(jZ M OY x).1,N1++[.dR 1 Z ((jZ M OY x).1.length) (Jq ((jZ M OY x).1))]) ?_ CO (by first|omega|(dsimp only;omega));exact⟨uQ,(by dsimp only;rw[O,Lh hx,ah (λh=>h h27)]),(Ro.dR ahO),yB⟩
  refine zN 17 ?_;have uy:=vK.bq [3,2,1,0];exact .inl ⟨by rw[O,Lh hx,au h27],E,uy.UQ⟩
 refine zN 16 ?_;refine kZ (row':=eP n up (.slice A1 M.length c1) OY (.slice (aD bb 0) 4 4) Hh Us (.slice iA ix.length ic) (pv) turn) 1 S7 kQ ?_;intro w35 vU;refine zQ ?_;refine dG (l':=[]) trivial (jD (bH (aL (va ?_))));refine zN 4 ?_;have Fz:=vU.bq [0];exact .inr ⟨M,A1,c1,N1,by rw[O,sH Y];rfl,E,J,Fz⟩
structure Uk (B:Nat)(w0:World):Prop where
 u0:w0.cell? ⟨1,0,none⟩=some (D (-1))
 u1:w0.cell? ⟨1,1,none⟩=some (D 0)
 ul:1<B
 n0:w0.cell? ⟨0,0,none⟩=some (D (-1))
 n1:w0.cell? ⟨0,1,none⟩=some (D 0)
 nl:0<B
def Uk.rg{B:Nat}{w0 w:World}{fs:List OJ}(h:Uk B w0)(S:St B w0 w fs):w.rangeAt 1 0 [D (-1),D 0]:=λj u I=>by
 have J:j<2:=(dw.1 I).1;have:j=0\/j=1:=Y
 rcases this with rfl|rfl
 ·rw[<-I];exact(S.Qe.cell (p:=⟨1,0,none⟩) h.ul).trans h.u0
 rw[<-I];exact(S.Qe.cell (p:=⟨1,1,none⟩) h.ul).trans h.u1
def Uk.nw{B:Nat}{w0 w:World}{fs:List OJ}(h:Uk B w0)(S:St B w0 w fs):Nw w:=
 ⟨(S.Qe.cell (p:=⟨0,0,none⟩) h.nl).trans h.n0,(S.Qe.cell (p:=⟨0,1,none⟩) h.nl).trans h.n1,SS h.nl S.base⟩
def vM{P:Program}{t:TypeId}{w:World}{b m:Nat}{row:Array Value}{tt:TypeId}{ds:TypeDesc}(I:iM w b row tt)(J:P.underlying t=some ds)(M:ds.isRow=true)(O:(P.info? t).map (·.size)=some m)(Z:row.size=m):(Instr.loadAt t (pV b 0)).run P w=.ok (.agg row) w:=by
 have:=qc (P:=P) (w:=w) (t:=t) (b:=b) (off:=0) (cs:=row.toList) J M O (by simpa using Z) (λj u h=>by rw[fU];exact I.cell (by simpa using h));simpa using this
def FQ{B kn kw bb n turn calls dc ic fc sc tc:Nat}{up:Bool}{dA iA fA sA tA:Option Addr}{data:List UInt8}{OY:Int}{Hh:Nat->Pl}{Us:Nat->Bool}{pv nv:Value}{d:TW}{sh:Nat->Nat->Int×Int}{bs:List BX}{ix fx:List LX}{bG:List l9}{tl:List tZ}{w0 w:World}{fs:List OJ}{q b6 b2 b3 b7:Nat}(hn:n<5)(hq:q<4){y:BX}(hy:bs[q]? =some y)(x:LX)(a:kE)(S:St B w0 w (nF kn n up dA data dc OY bb Hh Us iA ix ic pv turn bs (wF kw nv d fA fx fc sh sA bG sc tA tl tc calls fs)))(O:OJ.Oy b6 (LX.row x) 119∈fs)(J:OJ.Oy b2 #[jh kn] 98∈fs)(JJ:OJ.Oy b3 #[D (q:Int)] 3∈fs)(Z:OJ.Oy b7 #[jh kw] 87∈fs)(hu:Uk B w0)(hb:(fx.length+1)*200<=140737488355328)(hb2:(bG.length+1)*112<=140737488355328):
 Calls prog 87 #[.agg #[D a.code,D a.iD,D a.PX,D a.body],pV b6 0,pV b2 0,pV b3 0,pV b7 0] w (λe w'=>e=.returned (.tuple #[])/\(Qc y.b-> ∃sA' sc' aff Mj Mk Rn,aff=bG++[(⟨n,q,y.b.ep,x.l.op,a,x.l.num⟩:l9)]/\Rn=fx++[⟨mg n x.l.num a nowhere,none,0⟩]/\St B w0 w' (nF kn n up dA data dc OY bb Hh Us iA ix ic pv turn bs (wF kw nv d Mj Rn Mk (kM sh n q (y.b.ep,(y.b.Jp.length:Int))) sA' aff sc' tA tl tc calls fs)))/\(¬Qc y.b-> ∃Mj Mk Rn,Rn=fx++[⟨mg n x.l.num a (Hh q),none,0⟩]/\St B w0 w' (nF kn n up dA data dc OY bb Hh Us iA ix ic pv turn bs (wF kw nv d Mj Rn Mk sh sA bG sc tA tl tc calls fs)))):=by
 have hlen:=(S.own 1 E).1;rw[jI (sz:=6) (λ_=>E)]at hlen;refine jc 51 func87 ?_;refine cw [0,1,2,3,4] ?_;refine zN 2 ?_;refine jT S ?_;intro b1 w2 S3;refine zN 5 ?_;refine vv (aA E E (aV ((St.Qi S3 (PO 8 E fG _ O)).cell E))) ?_;refine zQ ?_;refine vv (aA E E (fu (cs:=[D (-1),D 0]) (Uk.rg hu S3))) ?_;refine vv (v:=.agg #[D x.l.num,D a.code,D a.iD,D a.PX,D a.body,D (-1),D 0]) iJ ?_;refine iU S3 aDx ?_;intro b4 w5 S6;refine sa 0 S6 kQ ?_;intro w7 S8;refine zN 4 ?_;refine je S8 mixed kQ ?_;refine uv (v:=pV kn 0) (λ_ Sx9=>(aA E E (aV ((St.Qi Sx9 (PO 9 E fG _ J)).cell E)))) ?_;refine zN 3 ?_;refine uv (v:=D (q:Int)) (λ_ Vq=>(aA E E (aV ((St.Qi Vq (PO 9 E fG _ JJ)).cell E)))) ?_;refine uv (λ_ _=>nC q) ?_;refine zQ ?_;refine uv (v:=D y.b.F9) (λ_ aFf=>(aA E E (aV (Rd.cl2 (i:=0) (St.Uz 3 aFf E) (dF (enc:=BX.cells) (sz:=6) (λ_=>E) hy E))))) ?_;refine zQ ?_;refine jB λPq I=>?_;refine zN 4 ?_;by_cases h20:y.b.F9=1
 ·refine zN 9 ?_;refine vv (aA E E (aV ((St.Qi I (PO 9 E fG _ Z)).cell E))) ?_;refine vv (aA E E (aV ((St.Qi I (PO 9 E fG _ J)).cell E))) ?_;refine vv (aA E E (aV ((St.Qi I (PO 9 E fG _ JJ)).cell E))) ?_;refine zQ ?_;refine vv (aA E E (fu (cs:=[D x.l.op.kind,D x.l.op.OU,D x.l.op.id,D x.l.op.body,D x.l.op.OZ,D x.l.op.PX]) (λj u hj=>(St.Qi I (PO 9 E fG _ O)).cell (ZC j u hj)))) ?_;refine zN 2 ?_;refine vv (aA E E (aV ((St.Qi I (PO 9 E fG _ O)).cell E))) ?_;have xM:=I.fC [8,8,8,8,8,8,8];refine dZ eQ (qB hn hq hy x.l.op a x.l.num xM Y) ?_;rintro _ Pt ⟨rfl,A22,c23,aFg,aFh,vJ⟩;refine⟨_,E,?_⟩;refine zN 2 ?_;have vR:=vJ.fC [4,4];have vT:=vR.drew;refine aU 8 vT [1,0] ?_;refine ak (v:=pV kw 0) 0 E (vT.lV [1,0]) (λ_ afg=>(aA E E (aV ((St.Qi afg (PO 7 E fG _ Z)).cell E)))) ?_;refine ak (v:=pV kn 0) 1 E (vT.lV [1,0]) (λ_ aef=>(aA E E (aV ((St.Qi aef (PO 7 E fG _ J)).cell E)))) ?_;refine aW 4 ?_;refine ak (v:=.agg #[D 1,D (n:Int),D (-1),D 0,D 0,D 0,D 0,D 0,D 0,D 0,D 0,D 0,D 0,.slice none 0 0,.bool false,D 0,D x.l.num,D a.code,D a.iD,D a.PX,D a.body,D (-1),D 0]) 6 E (vT.lV [1,0]) (λ_ _=>iJ) ?_;refine bJ 7 ?_;refine ku 7 E eQ (jl (x:=⟨mg n x.l.num a nowhere,none,0⟩) vT Y) ?_;rintro _ w41 ⟨rfl,A37,c38,axG,aro,Ee⟩;refine⟨_,E,?_⟩;refine aW 2 ?_;refine dG (l':=[]) trivial (q9 ?_);have wO:=Ee.bq [8,7];have EK:=wO.fC [6,6,3,3,6,6,6];exact⟨E,λ_=>⟨A22,c23,aFg,A37,c38,axG,aFh,aro,EK⟩,λh=>av (by unfold Qc;omega) h⟩
 refine zN 3 ?_;by_cases h45:y.b.F9=2
 ·refine zN 6 ?_;refine vv (aA E E (aV ((St.Qi I (PO 9 E fG _ Z)).cell E))) ?_;refine vv (aA E E (aV ((St.Qi I (PO 9 E fG _ J)).cell E))) ?_;refine vv (aA E E (aV ((St.Qi I (PO 9 E fG _ JJ)).cell E))) ?_;refine zQ ?_;refine vv (aA E E (fu (cs:=[D x.l.op.kind,D x.l.op.OU,D x.l.op.id,D x.l.op.body,D x.l.op.OZ,D x.l.op.PX]) (λj u hj=>(St.Qi I (PO 9 E fG _ O)).cell (ZC j u hj)))) ?_;refine zN 2 ?_;refine vv (aA E E (aV ((St.Qi I (PO 9 E fG _ O)).cell E))) ?_;have zf:=I.fC [8,8,8,8,8,8,8];refine dZ eQ (qB hn hq hy x.l.op a x.l.num zf Y) ?_;rintro _ w51 ⟨rfl,PD,c48,arp,akU,qO⟩;refine⟨_,E,?_⟩;refine zN 2 ?_;have CP:=qO.fC [4,4];have xw:=CP.drew;refine aU 8 xw [1,0] ?_;refine ak (v:=pV kw 0) 0 E (xw.lV [1,0]) (λ_ arq=>(aA E E (aV ((St.Qi arq (PO 7 E fG _ Z)).cell E)))) ?_;refine ak (v:=pV kn 0) 1 E (xw.lV [1,0]) (λ_ afc=>(aA E E (aV ((St.Qi afc (PO 7 E fG _ J)).cell E)))) ?_;refine aW 4 ?_;refine ak (v:=.agg #[D 1,D (n:Int),D (-1),D 0,D 0,D 0,D 0,D 0,D 0,D 0,D 0,D 0,D 0,.slice none 0 0,.bool false,D 0,D x.l.num,D a.code,D a.iD,D a.PX,D a.body,D (-1),D 0]) 6 E (xw.lV [1,0]) (λ_ _=>iJ) ?_;refine bJ 7 ?_;refine ku 7 E eQ (jl (x:=⟨mg n x.l.num a nowhere,none,0⟩) xw Y) ?_;rintro _ YP ⟨rfl,A62,c63,aFi,aFj,wZ⟩;refine⟨_,E,?_⟩;refine aW 2 ?_;refine dG (l':=[]) trivial (q9 ?_);have EL:=wZ.bq [8,7];have CQ:=EL.fC [6,6,3,3,6,6,6];exact⟨E,λ_=>⟨PD,c48,arp,A62,c63,aFi,akU,aFj,CQ⟩,λh=>av (by unfold Qc;omega) h⟩
 refine zN 5 ?_;have M:=I.drew;refine gV 8 6 M [] ?_;refine gk (v:=pV kn 0) 0 E M (λ_ aFk=>(aA E E (aV ((St.Qi aFk (PO 9 E fG _ J)).cell E)))) ?_;refine gk (v:=D (q:Int)) 1 E M (λ_ aFl=>(aA E E (aV ((St.Qi aFl (PO 9 E fG _ JJ)).cell E)))) ?_;iterate 2 refine ji ?_
 refine gk (v:=pV kn (5+q*2)) 4 E M (λ_ _=>(bF E E E (fP q underlying28 kQ E hq))) ?_;refine gk (v:=.agg #[D ((Hh q).node),D ((Hh q).ME)]) 5 E M (λ_ ars=>(aA E E (fu (cs:=[D ((Hh q).node),D ((Hh q).ME)]) (St.rg 2 ars E (an7 hq))))) ?_;refine gF kQ E E E ?_;refine zQ ?_;refine kZ (row':= #[D x.l.num,D a.code,D a.iD,D a.PX,D a.body,D ((Hh q).node),D ((Hh q).ME)]) 0 M kQ ?_;intro w77 Mf;refine zQ ?_;refine kC ?_;refine zQ ?_;have Fu:=Mf.fC [6,6];have Eh:=Fu.drew;refine aU 8 Eh [1,0] ?_;refine ak (v:=pV kw 0) 0 E (Eh.lV [1,0]) (λ_ aFm=>(aA E E (aV ((St.Qi aFm (PO 7 E fG _ Z)).cell E)))) ?_;refine ak (v:=pV kn 0) 1 E (Eh.lV [1,0]) (λ_ aFo=>(aA E E (aV ((St.Qi aFo (PO 7 E fG _ J)).cell E)))) ?_;refine aW 4 ?_;refine ak (v:=.agg #[D 1,D (n:Int),D (-1),D 0,D 0,D 0,D 0,D 0,D 0,D 0,D 0,D 0,D 0,.slice none 0 0,.bool false,D 0,D x.l.num,D a.code,D a.iD,D a.PX,D a.body,D ((Hh q).node),D ((Hh q).ME)]) 6 E (Eh.lV [1,0]) (λ_ _=>iJ) ?_;refine bJ 7 ?_;refine ku 7 E eQ (jl (x:=⟨mg n x.l.num a (Hh q),none,0⟩) Eh Y) ?_;rintro _ w92 ⟨rfl,A88,c89,aFp,aFq,Fw⟩;refine⟨_,E,?_⟩;refine aW 2 ?_;refine dG (l':=[]) trivial (q9 ?_);have Ka:=Fw.bq [3,2];have NV:=Ka.fC [6,6,3,3,6,6,6];exact⟨E,λh=>av h (by unfold Qc;omega),λ_=>⟨A88,c89,aFp,aFq,NV⟩⟩
section
open ChangeAt
section
variable {K:CK}{B n q:Nat}{w0 w w':World}{fs N Ls L:List OJ}{m m':Cl}{H H':List LX}{R:CX}{X X':Nd}{z z':NX}
def zw{b:bC}(h:ay b=0): -2<=b.ep/\b.ep<=2000000:=by
 have h1:=(gG h).1;unfold bL at h1;omega
def fF.at_(h:fF K L n X z)(J:q<4):∃y,z.bx[q]? =some y/\y.b=X.bs q/\Eo L y:=by
 have M:z.bx.length=4:=by have:=bP length h.UO;simpa[vB]using this
 refine⟨z.bx[q],eT Y,?_,h.Wu _ (Di _)⟩;have h1:(z.bx.map BX.b)[q]? =some (z.bx[q]).b:=by rw[vX,eT Y];rfl
 rw[h.UO]at h1;have I:q=0\/q=1\/q=2\/q=3:=Y
 rcases I with rfl|rfl|rfl|rfl<;>(simp only[vB]at h1;exact(AU h1).symm)
def Li{bx:List BX}{f:Nat->bC}{y:BX}(h:bx.map BX.b=vB f)(I:q<4):(bx.set q y).map BX.b=vB (PN f q y.b):=by rw[map_set,h,YX I]
def Gw{bx:List BX}{y:BX}(h:∀u∈bx,Eo L u)(I:Eo L y):∀u∈bx.set q y,Eo L u:=λu J=>by
 rcases mem_or_eq_of_mem_set J with h1|h1
 ·exact h u h1
 rw[h1];exact I
def CX.go(R:CX)(n:Nat)(z':NX)(fA:Option Addr)(fc:Nat)(fx:List LX)(sA:Option Addr)(sc:Nat)(tA:Option Addr)(tc:Nat)(N:List OJ):CX:=
 {R with nx:=PN R.nx n z',fA:=fA,fc:=fc,fx:=fx,sA:=sA,sc:=sc,tA:=tA,tc:=tc,L:=R.L++N}
def Wd.fin{fA sA tA:Option Addr}{fc sc tc kn kw:Nat}{fx:List LX}{rr:List OJ}(M:K.nb n=kn)(O:K.wb=kw)(Z:iW K R m fs n=rr)(G:Good K R m H)(hn:n<5)
  (S:St B w0 w' (FN kn n X' z'++(FP kw (R.go n z' fA fc fx sA sc tA tc (N++Ls)) m'++(Ls++(rr++N)))))
  (hX:fF K (R.L++(N++Ls)) n X' z') (hf:∀u∈fx,u∈R.fx\/UN (R.L++(N++Ls)) u) (h1:m'.aj=PN m.aj n X') (h2:m'.OM=fx.map LX.l) (hH:∀u∈H',u∈H\/UN (R.L++(N++Ls)) u):Wd K B w0 w' fs m' H':=by
 subst M;subst O;subst Z;have I:∀f∈R.L,f∈R.L++(N++Ls):=λf h=>bM _ h;have ez:(R.go n z' fA fc fx sA sc tA tc (N++Ls)).nx n=z':=Jo _ _ _;have eX:m'.aj n=X':=by rw[h1];exact Jo _ _ _
 refine Wd.close (n:=n) (R:=R) (m:=m) (N:=N) (Ls:=Ls) (R':=R.go n z' fA fc fx sA sc tA tc (N++Ls)) ?_ (by rw[ez,eX];exact S) hn E ?_
 ·refine⟨h2.symm,λu hu=>(hf u hu).elim (λh=>(G.flo u h).mono I) id,λj J=>?_,G.arr.mono I,λu hu=>(hH u hu).elim (λh=>(G.hld u h).mono I) id⟩;by_cases e:j=n
  ·subst e;rw[ez,eX];exact hX
  rw[h1,Ox e]
  show fF K _ j _ (PN R.nx n z' j)
  rw[Ox e];exact(G.jH j J).mono I
 intro j _ J;exact⟨by rw[h1,Ox J],Ox J⟩
def Wd.fq{fA sA tA:Option Addr}{fc sc tc kn kw:Nat}{fx:List LX}{rr:List OJ}(h:K.nb n=kn)(I:K.wb=kw)(J:iW K R m fs n=rr)(G:Good K R m H)(hn:n<5)
  (S:St B w0 w' (FN kn n X' z'++(FP kw (R.go n z' fA fc fx sA sc tA tc Ls) m'++(Ls++rr))))
  (M:fF K (R.L++Ls) n X' z') (O:∀u∈fx,u∈R.fx\/UN (R.L++Ls) u) (h1:m'.aj=PN m.aj n X') (Z:m'.OM=fx.map LX.l) (hH:∀u∈H',u∈H\/UN (R.L++Ls) u):Wd K B w0 w' fs m' H':=
 Wd.fin (N:=[]) h I J G hn (by rw[bI];exact S) M O h1 Z hH
def fF.more(h:fF K L n X z):fF K (L++N) n X z:=h.mono λ_ I=>bM _ I
def fF.Qf{hs:Nat->Pl}{su:Nat->Bool}(h:fF K L n X z):fF K L n {X with PS:=hs,PZ:=su} z:=⟨h.UO,h.Wu,h.Al,h.ixm,h.ixo,h.nQ⟩
def mH{x:LX}{P:LX->Prop}:∀u∈H,u∈x::H\/P u:=λ_ h=>.inl (dM _ h)
def rC{fx:List LX}{x:LX}{P:LX->Prop}(I:P x):∀u∈fx++[x],u∈fx\/P u:=λu J=>(aP.1 J).elim .inl λh=>by rw[aF]at h;subst h;exact .inr I
def kr{l:bO}{c:Nat}(h:l.Jp=[]):UN L ⟨l,none,c⟩:=by
 unfold UN JI;dsimp only;rw[h];exact⟨Ro.Ur,aG _⟩
def u7{f:OJ}(h:f∈Ls):f∈L++(N++Ls):=aK _ (aK _ h)
def mLN:∀f∈L++N,f∈L++(N++Ls):=λf h=>by rw[<-gP];exact bM _ h
end
section
variable {m:Cl}{n q:Nat}{X:Nd}{b:bC}{op:Ev}{num:Int}{a:kE}{l:bO}{d:List UInt8}
def Hu(I:m.aj n=X)(J:X.bs q=b)(h:Qc b):m.done n q op num a={m with bG:=m.bG++[⟨n,q,b.ep,op,a,num⟩],PU:=kM m.PU n q (b.ep,b.Jp.length),OM:=m.OM++[mg n num a nowhere]}:=by
 subst I;subst J;unfold Cl.done;rw[au h];rfl
def Lj(I:m.aj n=X)(J:X.bs q=b)(h:¬Qc b):m.done n q op num a={m with OM:=m.OM++[mg n num a (X.PS q)]}:=by
 subst I;subst J;unfold Cl.done;rw[ah h];rfl
def ajy{SR:bC×kE×Bool×Int}(I:m.aj n=X)(J:X.bs l.q=b)(M:iK b l.op=SR)(h:SR.2.2.1=false):m.serve n l=m.done n l.q l.op l.num SR.2.1:=by
 subst I;subst J;subst M;unfold Cl.serve;rw[au h]
def aa4{SR:bC×kE×Bool×Int}(I:m.aj n=X)(J:X.bs l.q=b)(M:iK b l.op=SR)(h:SR.2.2.1=true)(hw:gH X.data X.OY [gZ 2 l.q SR.1.ep 0 l.op]=none):m.serve n l=m.done n l.q l.op l.num (rA 14):=by
 subst I;subst J;subst M;unfold Cl.serve Nd.write;rw[ah (by rw[h];simp),hw];rfl
def ajz{SR:bC×kE×Bool×Int}(I:m.aj n=X)(J:X.bs l.q=b)(M:iK b l.op=SR)(h:SR.2.2.1=true)(hw:gH X.data X.OY [gZ 2 l.q SR.1.ep 0 l.op]=some d):
 m.serve n l=m.put n {X with data:=d,OO:=some (.serve l.q SR.1.Jp l.op l.num SR.2.1)}:=by
 subst I;subst J;subst M;unfold Cl.serve Nd.write;rw[ah (by rw[h];simp),hw];rfl
def aa5{BR:bC×Int}(I:m.aj n=X)(J:X.bs l.q=b)(M:dV b l.ep l.fr=BR)(h:BR.2≠0):m.TM n l=m:=by
 subst I;subst J;subst M;unfold Cl.TM;rw[au h]
def ah5{BR:bC×Int}(I:m.aj n=X)(J:X.bs l.q=b)(M:dV b l.ep l.fr=BR)(h:BR.2=0)(O:BR.1.ep=b.ep):m.TM n l={m with OM:=m.OM++[ou n l.q b]}:=by
 subst I;subst J;subst M;unfold Cl.TM;rw[ah (λe=>e h),au O];rfl
def ah6{BR:bC×Int}(I:m.aj n=X)(J:X.bs l.q=b)(M:dV b l.ep l.fr=BR)(h:BR.2=0)(O:BR.1.ep≠b.ep)(hw:gH X.data X.OY [gZ 4 l.q BR.1.ep l.fr aQ]=none):m.TM n l=m:=by
 subst I;subst J;subst M;unfold Cl.TM Nd.write;rw[ah (λe=>e h),ah O,hw];rfl
def aa6{BR:bC×Int}(I:m.aj n=X)(J:X.bs l.q=b)(M:dV b l.ep l.fr=BR)(h:BR.2=0)(O:BR.1.ep≠b.ep)(hw:gH X.data X.OY [gZ 4 l.q BR.1.ep l.fr aQ]=some d):
 m.TM n l=m.put n {X with data:=d,OO:=some (.P8 l.q BR.1)}:=by
 subst I;subst J;subst M;unfold Cl.TM Nd.write;rw[ah (λe=>e h),ah O,hw];rfl
def Rp(I:m.aj n=X)(J:X.bs l.q=b)(h:b.tg≠l.fr\/b.ep+1≠l.ep):m.Ud n l=m:=by
 subst I;subst J;unfold Cl.Ud;rw[au h]
def aa7{BR:bC×Int}(I:m.aj n=X)(J:X.bs l.q=b)(M:bY b l.at_=BR)(h1:¬(b.tg≠l.fr\/b.ep+1≠l.ep))(h:BR.2≠0):m.Ud n l=m:=by
 subst I;subst J;subst M;unfold Cl.Ud;rw[ah h1,au h]
def Yi{BR:bC×Int}(I:m.aj n=X)(J:X.bs l.q=b)(M:bY b l.at_=BR)(h1:¬(b.tg≠l.fr\/b.ep+1≠l.ep))(h:BR.2=0)(O:BR.1.F9=b.F9):
 m.Ud n l={ (m.put n {X with bs:=PN X.bs l.q BR.1})with OM:=lI n l.q BR.1 l.at_ m.OM}:=by
 subst I;subst J;subst M;unfold Cl.Ud;rw[ah h1,ah (λe=>e h),au O];have e:((m.aC n l.q (bY ((m.aj n).bs l.q) l.at_).1).aj n).bs l.q=(bY ((m.aj n).bs l.q) l.at_).1:=by
  unfold Cl.aC Cl.put;dsimp only;rw[Jo];exact Jo _ _ _
 unfold Cl.part lI;rw[e]
 split
 ·rfl
 rfl
def Yj{BR:bC×Int}(I:m.aj n=X)(J:X.bs l.q=b)(M:bY b l.at_=BR)(h1:¬(b.tg≠l.fr\/b.ep+1≠l.ep))(h:BR.2=0)(O:BR.1.F9≠b.F9)(hw:gH X.data X.OY [gZ 3 l.q BR.1.ep BR.1.tg aQ]=none):m.Ud n l=m:=by
 subst I;subst J;subst M;unfold Cl.Ud Nd.write;rw[ah h1,ah (λe=>e h),ah O,hw];rfl
def afi{BR:bC×Int}(I:m.aj n=X)(J:X.bs l.q=b)(M:bY b l.at_=BR)(h1:¬(b.tg≠l.fr\/b.ep+1≠l.ep))(h:BR.2=0)(O:BR.1.F9≠b.F9)(hw:gH X.data X.OY [gZ 3 l.q BR.1.ep BR.1.tg aQ]=some d):
 m.Ud n l=m.put n {X with data:=d,OO:=some (.gy l.q BR.1 l.at_)}:=by
 subst I;subst J;subst M;unfold Cl.Ud Nd.write;rw[ah h1,ah (λe=>e h),ah O,hw];rfl
def ahQ(I:m.aj n=X)(J:X.bs l.q=b)(h:b.F9≠4\/b.fr≠l.fr):m.T9 n l=m:=by
 subst I;subst J;unfold Cl.T9;rw[au h]
def ajA{BR:bC×Int}(I:m.aj n=X)(J:X.bs l.q=b)(M:dP b l.ep l.at_ l.Jp l.last=BR)(h1:¬(b.F9≠4\/b.fr≠l.fr))(h:BR.2=2):m.T9 n l={m with OM:=m.OM++[ou n l.q b]}:=by
 subst I;subst J;subst M;unfold Cl.T9;rw[ah h1,au h];rfl
def Wv{BR:bC×Int}(I:m.aj n=X)(J:X.bs l.q=b)(M:dP b l.ep l.at_ l.Jp l.last=BR)(h1:¬(b.F9≠4\/b.fr≠l.fr))(h:BR.2≠2)(O:BR.2≠0\/BR.1.Jp.length=b.Jp.length):m.T9 n l=m:=by
 subst I;subst J;subst M;unfold Cl.T9;rw[ah h1,ah h,au O]
def Ww{BR:bC×Int}(I:m.aj n=X)(J:X.bs l.q=b)(M:dP b l.ep l.at_ l.Jp l.last=BR)(h1:¬(b.F9≠4\/b.fr≠l.fr))(h:BR.2≠2)(O:¬(BR.2≠0\/BR.1.Jp.length=b.Jp.length))
  (hw:gH X.data X.OY (r9 l.q BR.1 b.Jp.length (l.at_.toNat+l.Jp.length) l.last)=none):m.T9 n l=m:=by
 subst I;subst J;subst M;unfold Cl.T9 Nd.write;rw[ah h1,ah h,ah O,hw];rfl
def ahR{BR:bC×Int}(I:m.aj n=X)(J:X.bs l.q=b)(M:dP b l.ep l.at_ l.Jp l.last=BR)(h1:¬(b.F9≠4\/b.fr≠l.fr))(h:BR.2≠2)(O:¬(BR.2≠0\/BR.1.Jp.length=b.Jp.length))
  (hw:gH X.data X.OY (r9 l.q BR.1 b.Jp.length (l.at_.toNat+l.Jp.length) l.last)=some d):m.T9 n l=m.put n {X with data:=d,OO:=some (.T9 l.q BR.1 l.last)}:=by
 subst I;subst J;subst M;unfold Cl.T9 Nd.write;rw[ah h1,ah h,ah O,hw];rfl
def afj{BR:bC×Int}(I:m.aj n=X)(J:X.bs l.q=b)(M:iw b l.ep=BR)(h:BR.2≠0):m.Ui n l=m.put n (X.Qf n l):=by
 subst I;subst J;subst M;unfold Cl.Ui;rw[au h]
def Yk{BR:bC×Int}(J:m.aj n=X)(M:X.bs l.q=b)(O:iw b l.ep=BR)(h:BR.2=0)(hw:gH X.data X.OY [gZ 7 l.q b.ep 0 aQ]=none):m.Ui n l=m.put n (X.Qf n l):=by
 subst J;subst M;subst O;unfold Cl.Ui Nd.write;rw[ah (λe=>e h)];have I:gH ((m.aj n).Qf n l).data ((m.aj n).Qf n l).OY [gZ 7 l.q ((m.aj n).bs l.q).ep 0 aQ]=none:=hw;rw[I];rfl
def afk{BR:bC×Int}(J:m.aj n=X)(M:X.bs l.q=b)(O:iw b l.ep=BR)(h:BR.2=0)(hw:gH X.data X.OY [gZ 7 l.q b.ep 0 aQ]=some d):
 m.Ui n l=m.put n { (X.Qf n l)with data:=d,OO:=some (.P5 l.q BR.1)}:=by
 subst J;subst M;subst O;unfold Cl.Ui Nd.write;rw[ah (λe=>e h)];have I:gH ((m.aj n).Qf n l).data ((m.aj n).Qf n l).OY [gZ 7 l.q ((m.aj n).bs l.q).ep 0 aQ]=some d:=hw;rw[I];rfl
end
end
def Yl{K:CK}{B n kn kw:Nat}{w0 w:World}{fs:List OJ}{m:Cl}{H:List LX}{x:LX}(hn:n<5)(hkn:K.nb n=kn)(jC:K.wb=kw)(hu:Uk B w0)(hB1:m.OM.length<=1000000000)(hB2:m.bG.length<=1000000000000)(HW:Wd K B w0 w fs m (x::H))(hq:x.l.q<4)(hv:∀q,q<4->ay ((m.aj n).bs q)=0):
 Calls tP 64 #[pV kw 0,pV kn 0,.agg (LX.row x)] w (λe w'=>e=.returned (.tuple #[])/\Wd K B w0 w' fs (m.serve n x.l) H):=by
 obtain⟨R,G,S0⟩:=HW.open hn;have hfl:R.fx.length=m.OM.length:=by rw[<-G.OM,iE]
 have NG:=G.jH n hn;obtain⟨X,hX⟩:∃X,m.aj n=X:=⟨_,E⟩;obtain⟨z,hz⟩:∃z,R.nx n=z:=⟨_,E⟩;rw[hX,hz]at S0 NG;have hL:∀f∈R.L,f∈iW K R m fs n:=λf h=>aK _ (aK _ h);obtain⟨rr,hrr⟩:∃r,iW K R m fs n=r:=⟨_,E⟩;rw[hrr]at S0 hL;have S:St B w0 w (cN kn n X z z.pv (cF kw R m rr)):=by subst hkn;subst jC;exact S0
 clear S0 HW;have hlen:=(S.own 1 E).1;rw[jI (sz:=6) (λ_=>E)]at hlen;rw[hX]at hv;obtain⟨y,hy,hyb,tF⟩:=NG.at_ hq;have hln:=mF (kT (hyb▸hv _ hq));have BH:y.b.Jp.length*48<=reachBytes:=by unfold reachBytes;omega
 have OQ:=zw (hyb▸hv _ hq);refine jc 54 func64 ?_;refine cw [0,1,2] ?_;refine zN 2 ?_;refine YK S ?_;intro b1 w2 S3;refine YK S3 ?_;intro b4 w5 S6;refine jT S6 ?_;intro b7 w8 S9;refine zN 6 ?_;refine iU S9 zr3 ?_;intro I L6 sI;refine kZ (row':= #[D (x.l.q:Int)]) 0 sI kQ ?_;intro Fy pz;refine zN 2 ?_;obtain⟨SR,hSR⟩:∃r,iK y.b x.l.op=r:=⟨_,E⟩;have HP:=λw h=>Yb y.b.F9 y.b.ep y.b.fr y.b.tg y.b.rd y.A y.c y.b.Jp x.l.op w h BH;rw[show iK ⟨y.b.F9,y.b.ep,y.b.fr,y.b.tg,y.b.rd,y.b.Jp⟩ x.l.op=SR from hSR]at HP;refine qb (X:=Nat×Nat×(Option Addr)×Nat) (λxv=>[(3,pV b1 0),(4,pV b4 0),(5,pV b7 0),(6,pV I 0),(7,pV xv.1 0),(8,pV xv.2.1 0),(9,.bool SR.2.2.1)]) (λxv wr=>(SR.1.Jp.length<=xv.2.2.2)/\St B w0 wr ((.Oy xv.2.1 #[D SR.2.1.code,D SR.2.1.iD,D SR.2.1.PX,D SR.2.1.body] 54)::(.Oy xv.1 (bR SR.1 xv.2.2.1 xv.2.2.2) 42)::(.dR 6 xv.2.2.1 SR.1.Jp.length ((SR.1.Jp).flatMap Ev.cells))::(.Oy I #[D (x.l.q:Int)] 3)::(.Oy b7 (LX.row x) 119)::(.Oy b4 #[pV kn 0] 98)::(.Oy b1 #[pV kw 0] 87)::(cN kn n X z z.pv (cF kw R m rr)))) ?_ ?_
 ·have kP:=pz.drew;refine aU 21 kP [] ?_;refine aW 5 ?_;refine ak 5 E kP (λ_ _=>nC x.l.q) ?_;refine ak (v:=.agg (bR y.b y.A y.c)) 6 E kP (λ_ JA=>(aA E E (fu (cs:=BX.cells y) (Rd.Bb (St.Uz 5 JA E) (λ_ _ h=>dF (enc:=BX.cells) (sz:=6) (λ_=>E) hy h))))) ?_;refine dI ?_;refine ak (v:=.agg #[D x.l.op.kind,D x.l.op.OU,D x.l.op.id,D x.l.op.body,D x.l.op.OZ,D x.l.op.PX]) 8 E kP (λ_ aFr=>(aA E E (fu (cs:=[D x.l.op.kind,D x.l.op.OU,D x.l.op.id,D x.l.op.body,D x.l.op.OZ,D x.l.op.PX]) (St.rg 1 aFr E (ZC))))) ?_;refine GL (n:=11) (r:=9) (s:=15) (t:=16) kQ ?_ ?_ ?_
  ·refine ku 9 E eQ (HP _ (tF.1.rd kP (PO 11 E hL))) ?_;rintro _ YQ ⟨A25,c26,apU,rfl,T30⟩;refine⟨_,E,?_⟩;have vT:=kP.ext T30 E;refine aW 6 ?_;refine gL (n:=5) (r:=15) (s:=16) kQ ?_ ?_
   ·refine nT 15 E vT iN ?_;intro Q7 w37 CS;refine dI ?_;refine bJ 16 ?_;refine nT 16 E CS vY ?_;intro b39 w40 L9;refine dI ?_;refine bJ 17 ?_;refine sn 17 E 1 L9 kQ ?_;intro YN wO;refine dI ?_;refine bJ 18 ?_;refine sn 18 E 0 wO kQ ?_;intro Un tC;refine aW 4 ?_;refine eO (Q7,b39,A25,c26) ?_ Fj;exact⟨apU,tC⟩
   refine nT 16 E vT vY ?_;intro b48 w49 zS;refine dI ?_;refine bJ 15 ?_;refine nT 15 E zS iN ?_;intro b51 w52 CP;refine dI ?_;refine bJ 17 ?_;refine sn 17 E 0 CP kQ ?_;intro w54 yL;refine dI ?_;refine bJ 18 ?_;refine sn 18 E 1 yL kQ ?_;intro w56 wY;refine aW 4 ?_;have YV:=wY.fC [13,13,13,13,13,13,13,13,13,13,13,13,12,13];refine eO (b51,b48,A25,c26) ?_ Fj;exact⟨apU,YV⟩
  ·refine nT 15 E kP iN ?_;intro b61 w62 ze;refine dI ?_;refine gL (n:=10) (r:=9) (s:=16) kQ ?_ ?_
   ·refine ku 9 E eQ (HP _ (tF.1.rd ze (PO 12 E hL))) ?_;rintro _ w67 ⟨A64,c65,aAa,rfl,T69⟩;refine⟨_,E,?_⟩;have EL:=ze.ext T69 E;refine aW 6 ?_;refine bJ 16 ?_;refine nT 16 E EL vY ?_;intro b75 w76 IC;refine dI ?_;refine bJ 17 ?_;refine sn 17 E 2 IC kQ ?_;intro w78 Fu;refine dI ?_;refine bJ 18 ?_;refine sn 18 E 0 Fu kQ ?_;intro w80 yw;refine aW 4 ?_;have IG:=yw.fC [13,13,13,13,13,13,13,13,13,13,13,12,13,13];refine eO (b61,b75,A64,c65) ?_ Fj;exact⟨aAa,IG⟩
   refine nT 16 E ze vY ?_;intro b85 w86 JC;refine dI ?_;refine bJ 9 ?_;refine ku 9 E eQ (HP _ (tF.1.rd JC (PO 13 E hL))) ?_;rintro _ w91 ⟨A88,c89,apV,rfl,T93⟩;refine⟨_,E,?_⟩;have BQ:=JC.ext T93 E;refine aW 6 ?_;refine bJ 17 ?_;refine sn 17 E 2 BQ kQ ?_;intro w99 yT;refine dI ?_;refine bJ 18 ?_;refine sn 18 E 1 yT kQ ?_;intro awx wh;refine aW 4 ?_;have vH:=wh.fC [13,13,13,13,13,13,13,13,13,13,13,11,13,13];refine eO (b61,b85,A88,c89) ?_ Fj;exact⟨apV,vH⟩
  refine nT 16 E kP vY ?_;intro akV aDZ xV;refine dI ?_;refine gL (n:=10) (r:=9) (s:=15) kQ ?_ ?_
  ·refine ku 9 E eQ (HP _ (tF.1.rd xV (PO 12 E hL))) ?_;rintro _ aes ⟨Rq,Vy,auS,rfl,aFs⟩;refine⟨_,E,?_⟩;have xW:=xV.ext aFs E;refine aW 6 ?_;refine bJ 15 ?_;refine nT 15 E xW iN ?_;intro aFt aeI E5;refine dI ?_;refine bJ 17 ?_;refine sn 17 E 0 E5 kQ ?_;intro aFu Rs;refine dI ?_;refine bJ 18 ?_;refine sn 18 E 2 Rs kQ ?_;intro aq3 zU;refine aW 4 ?_;have CB:=zU.fC [13,13,13,13,13,13,13,13,13,13,13,12,12,13];refine eO (aFt,akV,Rq,Vy) ?_ Fj;exact⟨auS,CB⟩
  refine nT 15 E xV iN ?_;intro akW akF Bo;refine dI ?_;refine bJ 9 ?_;refine ku 9 E eQ (HP _ (tF.1.rd Bo (PO 13 E hL))) ?_;rintro _ aeu ⟨aFv,aFw,auT,rfl,aru⟩;refine⟨_,E,?_⟩;have G8:=Bo.ext aru E;refine aW 6 ?_;refine bJ 17 ?_;refine sn 17 E 1 G8 kQ ?_;intro akG OE;refine dI ?_;refine bJ 18 ?_;refine sn 18 E 2 OE kQ ?_;intro aOM Vl;refine aW 4 ?_;have afl:=Vl.fC [13,13,13,13,13,13,13,13,13,13,13,11,12,13];refine eO (akW,akV,aFv,aFw) ?_ Fj;exact⟨auT,afl⟩
 rintro⟨M,O,J,c154⟩ aFx ⟨hx157,aeP⟩
 try dsimp only at hx157 aeP
 refine cB (l':=[(3,pV b1 0),(4,pV b4 0),(5,pV b7 0),(6,pV I 0),(7,pV M 0),(8,pV O 0),(9,.bool SR.2.2.1)]) Fj (bH (aL (vv (v:=.func (.func 87) #[] #[pV b7 0,pV b4 0,pV I 0,pV b1 0]) (Nz (vs:=[]) (us:=[pV b7 0,pV b4 0,pV I 0,pV b1 0]) E trivial lU) ?_)));refine iU aeP azN ?_;intro Z awo QK;refine kZ (row':= #[.func (.func 87) #[] #[pV b7 0,pV b4 0,pV I 0,pV b1 0]]) 0 QK kQ ?_;intro aD3 La;refine zN 6 ?_
 cases aKM:(SR.2.2.1)
 ·refine zN 8 ?_;have ZE:=La.fC [14,14,14,14,14,14,14];refine yR eQ (FQ (b6:=b7) (b2:=b4) (b3:=I) (b7:=b1) hn hq hy x SR.2.1 ZE (bS.2 ⟨5,E⟩) (bS.2 ⟨6,E⟩) (bS.2 ⟨4,E⟩) (bS.2 ⟨7,E⟩) hu Y Y) ?_;rintro _ aON ⟨rfl,aAb,hd167⟩;refine⟨_,E,?_⟩;refine zQ ?_;refine dG (l':=[]) trivial (jD (rM (jv (fK (rs:=[]) (vs:=[]) E trivial ?_))));have hch:SR.2.2.1=false:=by assumption
  rw[ajy hX hyb.symm hSR hch];by_cases hs:Qc y.b
  ·obtain⟨sA,sc,sv,fA,fc,fx,h1,h2,S9⟩:=aAb hs;subst h1;subst h2;rw[Hu hX hyb.symm hs];exact⟨E,Wd.fq (X':=X) (z':=z) (Ls:=[.Oy Z #[.func (.func 87) #[] #[pV b7 0,pV b4 0,pV I 0,pV b1 0]] 190,.Oy O #[D SR.2.1.code,D SR.2.1.iD,D SR.2.1.PX,D SR.2.1.body] 54,.Oy M (bR SR.1 J c154) 42,.dR 6 J SR.1.Jp.length ((SR.1.Jp).flatMap Ev.cells),.Oy I #[D (x.l.q:Int)] 3,.Oy b7 (LX.row x) 119,.Oy b4 #[pV kn 0] 98,.Oy b1 #[pV kw 0] 87]) (sA:=sA) (sc:=sc) (tA:=R.tA) (tc:=R.tc) hkn jC hrr G hn S9 NG.more (rC (kr E)) (aJ hX).symm (by rw[iP,G.OM];rfl) mH⟩
  obtain⟨fA,fc,fx,h2,S9⟩:=hd167 hs;subst h2;rw[Lj hX hyb.symm hs];exact⟨E,Wd.fq (X':=X) (z':=z) (Ls:=[.Oy Z #[.func (.func 87) #[] #[pV b7 0,pV b4 0,pV I 0,pV b1 0]] 190,.Oy O #[D SR.2.1.code,D SR.2.1.iD,D SR.2.1.PX,D SR.2.1.body] 54,.Oy M (bR SR.1 J c154) 42,.dR 6 J SR.1.Jp.length ((SR.1.Jp).flatMap Ev.cells),.Oy I #[D (x.l.q:Int)] 3,.Oy b7 (LX.row x) 119,.Oy b4 #[pV kn 0] 98,.Oy b1 #[pV kw 0] 87]) (sA:=R.sA) (sc:=R.sc) (tA:=R.tA) (tc:=R.tc) hkn jC hrr G hn S9 NG.more (rC (kr E)) (aJ hX).symm (by rw[iP,G.OM];rfl) mH⟩
 refine zN 10 ?_;refine UR eQ La (kI 2 x.l.q ⟨SR.1,J,c154⟩ _) ?_;intro aqR OH;refine iU OH zn ?_;intro arv arw ZF;refine sa 0 ZF kQ ?_;intro aFy Zr;refine zN 5 ?_;refine vv (aA E E (fu (cs:=[D x.l.op.kind,D x.l.op.OU,D x.l.op.id,D x.l.op.body,D x.l.op.OZ,D x.l.op.PX]) (St.rg 6 Zr E (ZC)))) ?_;refine zQ ?_;refine kZ (row':= #[D 2,D (x.l.q:Int),D SR.1.ep,D 0,D x.l.op.kind,D x.l.op.OU,D x.l.op.id,D x.l.op.body,D x.l.op.OZ,D x.l.op.PX]) 0 Zr kQ ?_;intro aFz akX;refine zN 7 ?_;refine Uc akX ?_;intro afm aFA aeQ;have Vs:=aeQ.fC [16,16,16,16,16,16,16];refine dZ eQ (sw (rs:=[gZ 2 x.l.q SR.1.ep 0 x.l.op]) (Ro.Oy (bS.2 ⟨0,E⟩) E E) NG.Al (by exact PO 10 E hL) (fV E) Vs) ?_;rintro _ aOO (⟨agM,rfl,arx⟩|⟨apW,axI,axJ,aFB,agM,rfl,auU,arx⟩)
 ·refine⟨_,E,?_⟩;refine zN 7 ?_;refine vv (v:=.agg #[D 14,D 0,D 0,D 0]) iJ ?_;refine yR eQ (FQ (b6:=b7) (b2:=b4) (b3:=I) (b7:=b1) hn hq hy x (rA 14) arx (bS.2 ⟨7,E⟩) (bS.2 ⟨8,E⟩) (bS.2 ⟨6,E⟩) (bS.2 ⟨9,E⟩) hu Y Y) ?_;rintro _ aEJ ⟨rfl,aAc,aAd⟩;refine⟨_,E,?_⟩;refine zQ ?_;refine dG (l':=[]) trivial (jD (rM (jv (fK (rs:=[]) (vs:=[]) E trivial ?_))));have hch:SR.2.2.1=true:=by assumption
  rw[aa4 hX hyb.symm hSR hch agM];by_cases hs:Qc y.b
  ·obtain⟨sA,sc,sv,fA,fc,fx,h1,h2,S9⟩:=aAc hs;subst h1;subst h2;rw[Hu hX hyb.symm hs];exact⟨E,Wd.fq (X':=X) (z':=z) (Ls:=[.Oy afm #[D 2,D (x.l.q:Int),D SR.1.ep,D 0,D x.l.op.kind,D x.l.op.OU,D x.l.op.id,D x.l.op.body,D x.l.op.OZ,D x.l.op.PX] 138,.Oy arv #[D 2,D (x.l.q:Int),D SR.1.ep,D 0,D x.l.op.kind,D x.l.op.OU,D x.l.op.id,D x.l.op.body,D x.l.op.OZ,D x.l.op.PX] 138,.Oy Z #[.func (.func 87) #[] #[pV b7 0,pV b4 0,pV I 0,pV b1 0]] 190,.Oy O #[D SR.2.1.code,D SR.2.1.iD,D SR.2.1.PX,D SR.2.1.body] 54,.Oy M (bR SR.1 J c154) 42,.dR 6 J SR.1.Jp.length ((SR.1.Jp).flatMap Ev.cells),.Oy I #[D (x.l.q:Int)] 3,.Oy b7 (LX.row x) 119,.Oy b4 #[pV kn 0] 98,.Oy b1 #[pV kw 0] 87]) (sA:=sA) (sc:=sc) (tA:=R.tA) (tc:=R.tc) hkn jC hrr G hn S9 NG.more (rC (kr E)) (aJ hX).symm (by rw[iP,G.OM];rfl) mH⟩
  obtain⟨fA,fc,fx,h2,S9⟩:=aAd hs;subst h2;rw[Lj hX hyb.symm hs];exact⟨E,Wd.fq (X':=X) (z':=z) (Ls:=[.Oy afm #[D 2,D (x.l.q:Int),D SR.1.ep,D 0,D x.l.op.kind,D x.l.op.OU,D x.l.op.id,D x.l.op.body,D x.l.op.OZ,D x.l.op.PX] 138,.Oy arv #[D 2,D (x.l.q:Int),D SR.1.ep,D 0,D x.l.op.kind,D x.l.op.OU,D x.l.op.id,D x.l.op.body,D x.l.op.OZ,D x.l.op.PX] 138,.Oy Z #[.func (.func 87) #[] #[pV b7 0,pV b4 0,pV I 0,pV b1 0]] 190,.Oy O #[D SR.2.1.code,D SR.2.1.iD,D SR.2.1.PX,D SR.2.1.body] 54,.Oy M (bR SR.1 J c154) 42,.dR 6 J SR.1.Jp.length ((SR.1.Jp).flatMap Ev.cells),.Oy I #[D (x.l.q:Int)] 3,.Oy b7 (LX.row x) 119,.Oy b4 #[pV kn 0] 98,.Oy b1 #[pV kw 0] 87]) (sA:=R.sA) (sc:=R.sc) (tA:=R.tA) (tc:=R.tc) hkn jC hrr G hn S9 NG.more (rC (kr E)) (aJ hX).symm (by rw[iP,G.OM];rfl) mH⟩
 refine⟨_,E,?_⟩;refine zN 8 ?_;refine vv LZ ?_;refine zN 2 ?_;refine kZ (row':=eP n X.up (.slice axI apW.length axJ) X.OY (.slice (aD z.bb 0) 4 4) X.PS X.PZ (.slice z.iA z.ix.length z.ic) (.func (.func 88) #[] #[pV M 0,pV b4 0,pV I 0,pV Z 0,pV O 0]) X.turn) 0 arx kQ ?_;intro aFC Vt;refine zQ ?_;refine dG (l':=[]) trivial (q9 ?_);have hch:SR.2.2.1=true:=by assumption
 rw[ajz hX hyb.symm hSR hch agM];refine⟨E,Wd.fin (X':={X with data:=apW,OO:=some (.serve x.l.q SR.1.Jp x.l.op x.l.num SR.2.1)}) (z':={z with tA:=axI,tc:=axJ,pv:=.func (.func 88) #[] #[pV M 0,pV b4 0,pV I 0,pV Z 0,pV O 0]}) (N:=aFB) (Ls:=[.Oy afm #[D 2,D (x.l.q:Int),D SR.1.ep,D 0,D x.l.op.kind,D x.l.op.OU,D x.l.op.id,D x.l.op.body,D x.l.op.OZ,D x.l.op.PX] 138,.Oy arv #[D 2,D (x.l.q:Int),D SR.1.ep,D 0,D x.l.op.kind,D x.l.op.OU,D x.l.op.id,D x.l.op.body,D x.l.op.OZ,D x.l.op.PX] 138,.Oy Z #[.func (.func 87) #[] #[pV b7 0,pV b4 0,pV I 0,pV b1 0]] 190,.Oy O #[D SR.2.1.code,D SR.2.1.iD,D SR.2.1.PX,D SR.2.1.body] 54,.Oy M (bR SR.1 J c154) 42,.dR 6 J SR.1.Jp.length ((SR.1.Jp).flatMap Ev.cells),.Oy I #[D (x.l.q:Int)] 3,.Oy b7 (LX.row x) 119,.Oy b4 #[pV kn 0] 98,.Oy b1 #[pV kw 0] 87]) (fA:=R.fA) (fc:=R.fc) (fx:=R.fx) (sA:=R.sA) (sc:=R.sc) (tA:=R.tA) (tc:=R.tc) hkn jC hrr G hn Vt ?_ (λu hu=>.inl hu) E G.OM.symm mH⟩;refine{ (NG.more:fF K _ n X z)with Al:=auU.mono mLN,nQ:=?_ }
 show sj (K.nb n) K.wb _ _ _
 rw[hkn,jC];exact⟨M,b4,I,Z,O,b7,b1,⟨SR.1,J,c154⟩,x,E,(u7 (bS.2 ⟨4,E⟩)),E,⟨Ro.dR (u7 (bS.2 ⟨5,E⟩)),hx157⟩,(u7 (bS.2 ⟨8,E⟩)),(u7 (bS.2 ⟨6,E⟩)),(u7 (bS.2 ⟨2,E⟩)),(u7 (bS.2 ⟨3,E⟩)),(u7 (bS.2 ⟨7,E⟩)),E,E,(u7 (bS.2 ⟨9,E⟩))⟩
def IX{B kn kw bb n turn calls Z ic fc sc tc:Nat}{up:Bool}{h iA fA sA tA:Option Addr}{data:List UInt8}{OY:Int}{Hh:Nat->Pl}{Us:Nat->Bool}{pv nv:Value}{d:TW}{sh:Nat->Nat->Int×Int}{bs:List BX}{ix fx:List LX}{bG:List l9}{tl:List tZ}{w0 w:World}{fs:List OJ}{L:List OJ}{rs:List dN}{RA:Option Addr}{rc nn:Nat}(I:nn=rs.length)(J:Ro fs 10 RA nn (rs.flatMap dN.cells))(M:Ro L 1 h data.length (Jq data))(hL:∀f∈L,f∈fs)(O:nn<=1000000)(S:St B w0 w (nF kn n up h data Z OY bb Hh Us iA ix ic pv turn bs (wF kw nv d fA fx fc sh sA bG sc tA tl tc calls fs))):
 Calls tP 44 #[pV kn 0,.slice RA nn rc] w (λe w'=>(gH data OY rs=none/\e=.returned (.bool false)/\St B w0 w' (nF kn n up h data Z OY bb Hh Us iA ix ic pv turn bs (wF kw nv d fA fx fc sh sA bG sc tA tl tc calls fs)))\/ ∃d' A' c' N,gH data OY rs=some d'/\e=.returned (.bool true)/\Ro (L++N) 1 A' d'.length (Jq d')/\St B w0 w' (nF kn n up A' d' c' OY bb Hh Us iA ix ic pv turn bs (wF kw nv d fA fx fc sh sA bG sc tA tl tc calls (fs++N)))):=by
 subst I;exact sw J M hL O S
def afn{b:bC}{ep at_:Int}{l:List Ev}{last:Bool}{BR:bC×Int}(hR:dP b ep at_ l last=BR)(h:ay b=0)(h1:BR.2=0)(I:¬BR.1.Jp.length=b.Jp.length):0<=at_/\b.Jp.length<=at_.toNat+l.length/\at_.toNat+l.length<=BR.1.Jp.length/\at_<=2000:=by
 have hl:=mF (kT h);subst hR;unfold dP at h1 I⊢;rw[ah (λe=>e h)]at h1 I⊢;by_cases c0:b.F9≠4
 ·rw[au c0]at h1;exact av h1 dQ
 rw[ah c0]at h1 I⊢;by_cases c1:b.ep≠ep
 ·rw[au c1]at h1;exact av h1 dQ
 rw[ah c1]at h1 I⊢;by_cases c2:¬(0<=at_/\at_<=b.Jp.length)
 ·rw[au c2]at h1;exact av h1 dQ
 rw[ah c2]at h1 I⊢;by_cases c3:¬(b.Jp.drop at_.toNat).take l.length=l.take (b.Jp.length-at_.toNat)
 ·rw[au c3]at h1;exact av h1 dQ
 rw[ah c3]at h1 I⊢;by_cases M:last=true/\at_.toNat+l.length<b.Jp.length
 ·rw[au M]at h1;exact av h1 dQ
 rw[ah M]at h1 I⊢;by_cases O:ay (if last=true then(⟨1,ep,0,0,0,b.Jp++l.drop (b.Jp.length-at_.toNat)++[bg]⟩:bC)else{b with Jp:=b.Jp++l.drop (b.Jp.length-at_.toNat)})≠0
 ·rw[au O]at h1;exact av h1 dQ
 rw[ah O]at I⊢;have Z:(l.drop (b.Jp.length-at_.toNat)).length=l.length-(b.Jp.length-at_.toNat):=dO;by_cases J:last=true
 ·rw[au J]at I⊢;have:¬(at_.toNat+l.length<b.Jp.length):=λe=>M ⟨J,e⟩;simp only[length_append,Z,length_singleton]at I⊢;omega
 rw[ah J]at I⊢;simp only[length_append,Z]at I⊢;omega
def Hw{q:Nat}{b:bC}{k m m0 kk:Nat}{last:Bool}{G:List Ev}{h:List dN}(J:G=(b.Jp.drop k).take m0)(M:m0=m-k)(I:h=(G.take kk).map (λx=>gZ 5 q b.ep 0 x))(O:G.length<=kk):r9 q b k m last=h++(if last=true then[gZ 6 q b.ep 0 aQ]else[]):=by
 subst M;subst I;unfold r9;rw[kg O,J,Aw]
def aa8{K:CK}{B n kn kw:Nat}{w0 w:World}{fs:List OJ}{m:Cl}{H:List LX}{x:LX}(hn:n<5)(hkn:K.nb n=kn)(jC:K.wb=kw)(hu:Uk B w0)(hB1:m.OM.length<=1000000000)(hB2:m.bG.length<=1000000000000)(HW:Wd K B w0 w fs m (x::H))(hq:x.l.q<4)(hv:∀q,q<4->ay ((m.aj n).bs q)=0)(hxe:x.l.Jp.length<=2000):
 Calls tP 67 #[pV kw 0,pV kn 0,.agg (LX.row x)] w (λe w'=>e=.returned (.tuple #[])/\Wd K B w0 w' fs (m.T9 n x.l) H):=by
 obtain⟨R,G,S0⟩:=HW.open hn;have hfl:R.fx.length=m.OM.length:=by rw[<-G.OM,iE]
 have NG:=G.jH n hn;obtain⟨X,hX⟩:∃X,m.aj n=X:=⟨_,E⟩;obtain⟨z,hz⟩:∃z,R.nx n=z:=⟨_,E⟩;rw[hX,hz]at S0 NG;have hL:∀f∈R.L,f∈iW K R m fs n:=λf h=>aK _ (aK _ h);obtain⟨rr,hrr⟩:∃r,iW K R m fs n=r:=⟨_,E⟩;rw[hrr]at S0 hL;have S:St B w0 w (cN kn n X z z.pv (cF kw R m rr)):=by subst hkn;subst jC;exact S0
 clear S0 HW;have hlen:=(S.own 1 E).1;rw[jI (sz:=6) (λ_=>E)]at hlen;rw[hX]at hv;obtain⟨y,hy,hyb,tF⟩:=NG.at_ hq;have hln:=mF (kT (hyb▸hv _ hq));have BH:y.b.Jp.length*48<=reachBytes:=by unfold reachBytes;omega
 have OQ:=zw (hyb▸hv _ hq);have hxo:=G.hld x (gJ ..);have hbK:(x.l.Jp.length+2001)*48<=reachBytes:=by unfold reachBytes;omega
 refine jc 108 func67 ?_;refine cw [0,1,2] ?_;refine zN 2 ?_;refine YK S ?_;intro b1 w2 S3;refine YK S3 ?_;intro b4 w5 S6;refine jT S6 ?_;intro b7 w8 S9;refine zN 6 ?_;refine iU S9 zr3 ?_;intro J L6 sI;refine kZ (row':= #[D (x.l.q:Int)]) 0 sI kQ ?_;intro Fy pz;refine zN 3 ?_;have kP:=pz.drew;refine gV 9 8 kP [] ?_;iterate 5 refine ji ?_
 refine gk 5 E kP (λ_ _=>nC x.l.q) ?_;refine gk (v:=.agg (bR y.b y.A y.c)) 6 E kP (λ_ JA=>(aA E E (fu (cs:=BX.cells y) (Rd.Bb (St.Uz 5 JA E) (λ_ _ h=>dF (enc:=BX.cells) (sz:=6) (λ_=>E) hy h))))) ?_;refine gI (m:=1) (r:=7) kQ ?_;refine o8 (i:=7) E E (V:=λb=>pV b 0) (row:=zB) (t:=42) kP (wn E) E E (gK E (zeroValue42 _) E) ?_;intro CZ QL nH;refine ji ?_;refine gF kQ E E E ?_;refine sa 0 nH kQ ?_;intro Pt vJ;refine zQ ?_;refine kC ?_;refine zN 6 ?_;by_cases h28:y.b.F9=4
 ·refine zN 6 ?_;by_cases h29:y.b.fr=x.l.fr
  ·refine zN 8 ?_;obtain⟨BR,tH⟩:∃r,dP y.b x.l.ep x.l.at_ x.l.Jp x.l.last=r:=⟨_,E⟩;have HP:=λw hK h=>IQ y.b.F9 y.b.ep y.b.fr y.b.tg y.b.rd y.A y.c y.b.Jp x.l.ep x.l.at_ x.A x.c x.l.Jp x.l.last tF.2 hxo.2 w hK h BH hbK;rw[show dP ⟨y.b.F9,y.b.ep,y.b.fr,y.b.tg,y.b.rd,y.b.Jp⟩ x.l.ep x.l.at_ x.l.Jp x.l.last=BR from tH]at HP;refine zN 10 ?_;refine dZ eQ (HP _ (hxo.1.rd vJ (PO 12 E hL)) (tF.1.rd vJ (PO 12 E hL))) ?_;rintro _ w33 ⟨I,O,Pe,rfl,T35⟩;refine⟨_,E,?_⟩;have uy:=vJ.ext T35 E;refine zN 3 ?_;refine iU uy iN ?_;intro Z w37 CS;refine sa 0 CS kQ ?_;intro w39 zh;refine zN 7 ?_;by_cases h41:BR.2=2
   ·refine zN 9 ?_;have Ee:=zh.fC [13,13,13,13,13,13,13];refine dZ eQ (BG hn hq hy Ee Y) ?_;rintro _ w47 ⟨rfl,A43,c44,aFD,axK,CU⟩;refine⟨_,E,?_⟩;refine zQ ?_;refine dG (l':=[]) trivial (jD (rM (jv (fK (rs:=[]) (vs:=[]) E trivial ?_))));rw[ajA hX hyb.symm tH Y Y];exact⟨E,Wd.fq (X':=X) (z':=z) (Ls:=[.Oy Z (bR BR.1 I O) 42,.dR 6 I BR.1.Jp.length ((BR.1.Jp).flatMap Ev.cells),.Oy CZ (bR y.b y.A y.c) 42,.Oy J #[D (x.l.q:Int)] 3,.Oy b7 (LX.row x) 119,.Oy b4 #[pV kn 0] 98,.Oy b1 #[pV kw 0] 87]) (fA:=A43) (fc:=c44) (fx:=aFD) (sA:=R.sA) (sc:=R.sc) (tA:=R.tA) (tc:=R.tc) hkn jC hrr G hn CU NG.more (by rw[axK];exact rC (kr E)) (aJ hX).symm (by rw[axK,iP,G.OM];rfl) mH⟩
   refine zN 10 ?_;by_cases h49:BR.2=0
   ·refine zN 8 ?_;by_cases h50:(BR.1.Jp.length:Int)=(y.b.Jp.length:Int)
    ·refine zN 8 ?_;have yK:=zh.fC [13,13,13,13,13,13,13];rw[Wv hX hyb.symm tH Y Y Y];exact⟨E,Wd.fq (X':=X) (z':=z) (Ls:=[.Oy Z (bR BR.1 I O) 42,.dR 6 I BR.1.Jp.length ((BR.1.Jp).flatMap Ev.cells),.Oy CZ (bR y.b y.A y.c) 42,.Oy J #[D (x.l.q:Int)] 3,.Oy b7 (LX.row x) 119,.Oy b4 #[pV kn 0] 98,.Oy b1 #[pV kw 0] 87]) (fA:=R.fA) (fc:=R.fc) (fx:=R.fx) (sA:=R.sA) (sc:=R.sc) (tA:=R.tA) (tc:=R.tc) hkn jC hrr G hn yK NG.more (λu hu=>.inl hu) (aJ hX).symm G.OM.symm mH⟩
    refine zN 8 ?_;obtain⟨ha0,ha1,ha2,ha3⟩:=afn tH (hyb▸hv _ hq) Y Y;obtain⟨M,hM⟩:∃k,k=x.l.at_.toNat+x.l.Jp.length:=⟨_,E⟩;rw[<-hM]at ha1 ha2;obtain⟨m0,hm0⟩:∃k,k=M-y.b.Jp.length:=⟨_,E⟩;refine zQ ?_;have qO:=zh.nil 138 10;refine zN 10 ?_;refine vv (v:=D (M:Int)) (cK E E E (agA (z:=(M:Int)) Y Y)) ?_;refine zN 12 ?_;obtain⟨A2,hs2,hr2,_⟩:=Iw (P:=tP) (t:=40) (enc:=Ev.cells) (s:=6) (λ_=>E) (A:=I) (b:=BR.1.Jp) (n:=BR.1.Jp.length) (c:=O) (lo:=(some (D (y.b.Jp.length:Int)))) (hi:=(some (D (M:Int)))) (mx:=none) (l:=y.b.Jp.length) (k:=M) (q:=O) (m:=m0) (c':=O-y.b.Jp.length) underlying40 kQ (Zl (y.b.Jp.length) M E E Y Y) Y Y Y hm0.symm E;obtain⟨GE,hG⟩:∃g,g=(BR.1.Jp.drop y.b.Jp.length).take m0:=⟨_,E⟩;rw[<-hG]at hr2;have hGl:GE.length=m0:=by rw[hG,eD,dO];omega
    refine vv (v:=.slice A2 m0 (O-y.b.Jp.length)) (lX E E (kN E) (kN E) qG (hs2 _)) ?_;refine zN 5 ?_;refine iO (X:=(List dN)×Nat×(Option Addr)×Nat) (λxv=>[(3,pV b1 0),(4,pV b4 0),(5,pV b7 0),(6,pV J 0),(8,pV Z 0),(76,.slice A2 m0 (O-y.b.Jp.length)),(77,D (m0:Int)),(10,.slice xv.2.2.1 xv.2.1 xv.2.2.2),(78,D (xv.2.1:Int))]) (λxv wr=>(xv.1=(GE.take xv.2.1).map (λu=>gZ 5 x.l.q BR.1.ep 0 u))/\(xv.2.1<=m0)/\(xv.2.1=xv.1.length)/\St B w0 wr ((.own 138 10 (.slice xv.2.2.1 xv.2.1 xv.2.2.2) xv.2.1 ((xv.1).flatMap dN.cells))::(.Oy Z (bR BR.1 I O) 42)::(.dR 6 I BR.1.Jp.length ((BR.1.Jp).flatMap Ev.cells))::(.Oy CZ (bR y.b y.A y.c) 42)::(.Oy J #[D (x.l.q:Int)] 3)::(.Oy b7 (LX.row x) 119)::(.Oy b4 #[pV kn 0] 98)::(.Oy b1 #[pV kw 0] 87)::(cN kn n X z z.pv (cF kw R m rr)))) (λxv=>m0-xv.2.1) ([],0,none,0) ?_ ?_ ?_
    ·exact⟨iQ,aG _,E,qO⟩
    ·exact tU9
    rintro⟨acc,k,A9,c9⟩ w53 ⟨QX,aFE,akY,xw⟩
    try dsimp only at QX aFE akY xw
    refine cB (l':=[(3,pV b1 0),(4,pV b4 0),(5,pV b7 0),(6,pV J 0),(8,pV Z 0),(76,.slice A2 m0 (O-y.b.Jp.length)),(77,D (m0:Int)),(10,.slice A9 k c9),(78,D ((k:Nat):Int))]) tU9 (bH (aL ?_));by_cases h58:((k:Nat):Int)< (m0:Int)
    ·refine zN 10 ?_;obtain⟨e,he⟩:∃e,GE[k]? =some e:=⟨_,eT Y⟩;refine zQ ?_;obtain⟨rb,ro,hra,_,hrc⟩:=(hr2 _ _ (St.dR 2 xw E)).2 Y;subst hra;refine vv (nC k) ?_;refine vv (v:=.agg #[D e.kind,D e.OU,D e.id,D e.body,D e.OZ,D e.PX]) (aA E E (fu (cs:=Ev.cells e) (λj u hu=>by rw[kR];exact hrc (k*6+j) u (dF (enc:=Ev.cells) (sz:=6) (λ_=>E) he hu)))) ?_;refine iU xw adT ?_;intro b59 w60 IE;refine sa 0 IE kQ ?_;intro w62 ze;refine zN 6 ?_;refine UR eQ ze (kI 5 x.l.q ⟨BR.1,I,O⟩ _) ?_;intro w64 JF;refine iU JF zn ?_;intro b67 w68 CQ;refine sa 0 CQ kQ ?_;intro w70 vS;refine zN 6 ?_;refine kZ (row':= #[D 5,D (x.l.q:Int),D BR.1.ep,D 0,D e.kind,D e.OU,D e.id,D e.body,D e.OZ,D e.PX]) 0 vS kQ ?_;intro w72 tQ;refine zN 5 ?_;refine Uc tQ ?_;intro b74 w75 Pv;refine eG (news:=[D 5,D (x.l.q:Int),D BR.1.ep,D 0,D e.kind,D e.OU,D e.id,D e.body,D e.OZ,D e.PX]) (xs':=(acc++[gZ 5 x.l.q BR.1.ep 0 e]).flatMap dN.cells) 3 Pv (wn E) E E E E E E (St.nP (xs:=[D 5,D (x.l.q:Int),D BR.1.ep,D 0,D e.kind,D e.OU,D e.id,D e.body,D e.OZ,D e.PX]) 0 Pv E E E) underlying126 SG E dQ (dx E) lQ Y (jO (enc:=dN.cells) E E) ?_;intro A77 c78 w79 aOP aOQ Eh;change St _ _ _ (_::_::_::(.own 138 10 (.slice A77 (k+1) c78) (k+1) ((acc++[gZ 5 x.l.q BR.1.ep 0 e]).flatMap dN.cells))::_::_::_::_::_::_::_::_::_::_::_::_::_::_::rr)at Eh;refine zN 5 ?_;refine vv (v:=D ((k+1:Nat):Int)) jW ?_;refine zN 2 ?_;have Fv:=Eh.bq [2,1,0];refine dL (acc++[gZ 5 x.l.q BR.1.ep 0 e],k+1,A77,c78) ?_ tU9 (by first|omega|(dsimp only;omega));exact⟨(by dsimp only;rw[QX,qY,he];simp),uQ,(by dsimp only;simp[akY]),Fv⟩
    refine zN 14 ?_;refine vv (v:=.bool x.l.last) (aA E E (aV (St.cl 5 xw E E))) ?_;refine qk [3,4,5,6,8,10,93] ?_;refine jD ?_
    cases aOR:(x.l.last)
    ·refine cB (l':=[(3,pV b1 0),(4,pV b4 0),(5,pV b7 0),(6,pV J 0),(8,pV Z 0),(10,.slice A9 k c9),(93,.bool false)]) Fj (oF E (uh (jD (bH (bH (aL (vv (aA E E (aV (St.cl 6 xw E E))) ?_)))))));refine zQ ?_;have Mg:=xw.fC [14,14,14,14,14,14,14];refine dZ eQ (IX (nn:=k) (rs:=acc) (by simp[<-akY]) (Ro.own (bS.2 ⟨0,E⟩)) NG.Al (by exact PO 8 E hL) Y Mg) ?_;rintro _ w92 (⟨arz,rfl,Fw⟩|⟨axL,A87,c88,N89,arz,rfl,aAe,Fw⟩)
     ·refine⟨_,E,?_⟩;refine zN 7 ?_;have hgr:r9 x.l.q BR.1 y.b.Jp.length (x.l.at_.toNat+x.l.Jp.length) x.l.last=acc:=by
       rw[<-hM,Hw hG hm0 QX Y,ah (by simp[*])];exact bI _
      rw[Ww hX hyb.symm tH Y Y Y (by rw[hgr];exact arz)];exact⟨E,Wd.fq (X':=X) (z':=z) (Ls:=[.own 138 10 (.slice A9 k c9) k ((acc).flatMap dN.cells),.Oy Z (bR BR.1 I O) 42,.dR 6 I BR.1.Jp.length ((BR.1.Jp).flatMap Ev.cells),.Oy CZ (bR y.b y.A y.c) 42,.Oy J #[D (x.l.q:Int)] 3,.Oy b7 (LX.row x) 119,.Oy b4 #[pV kn 0] 98,.Oy b1 #[pV kw 0] 87]) (fA:=R.fA) (fc:=R.fc) (fx:=R.fx) (sA:=R.sA) (sc:=R.sc) (tA:=R.tA) (tc:=R.tc) hkn jC hrr G hn Fw NG.more (λu hu=>.inl hu) (aJ hX).symm G.OM.symm mH⟩
     refine⟨_,E,?_⟩;refine zN 8 ?_;refine vv LZ ?_;refine zN 2 ?_;refine kZ (row':=eP n X.up (.slice A87 axL.length c88) X.OY (.slice (aD z.bb 0) 4 4) X.PS X.PZ (.slice z.iA z.ix.length z.ic) (.func (.func 96) #[] #[pV Z 0,pV b4 0,pV J 0,pV b7 0,pV b1 0]) X.turn) 0 Fw kQ ?_;intro w94 NV;refine zQ ?_;refine dG (l':=[]) trivial (q9 ?_);have hgr:r9 x.l.q BR.1 y.b.Jp.length (x.l.at_.toNat+x.l.Jp.length) x.l.last=acc:=by
      rw[<-hM,Hw hG hm0 QX Y,ah (by simp[*])];exact bI _
     rw[ahR hX hyb.symm tH Y Y Y (by rw[hgr];exact arz)];refine⟨E,Wd.fin (X':={X with data:=axL,OO:=some (.T9 x.l.q BR.1 x.l.last)}) (z':={z with tA:=A87,tc:=c88,pv:=.func (.func 96) #[] #[pV Z 0,pV b4 0,pV J 0,pV b7 0,pV b1 0]}) (N:=N89) (Ls:=[.own 138 10 (.slice A9 k c9) k ((acc).flatMap dN.cells),.Oy Z (bR BR.1 I O) 42,.dR 6 I BR.1.Jp.length ((BR.1.Jp).flatMap Ev.cells),.Oy CZ (bR y.b y.A y.c) 42,.Oy J #[D (x.l.q:Int)] 3,.Oy b7 (LX.row x) 119,.Oy b4 #[pV kn 0] 98,.Oy b1 #[pV kw 0] 87]) (fA:=R.fA) (fc:=R.fc) (fx:=R.fx) (sA:=R.sA) (sc:=R.sc) (tA:=R.tA) (tc:=R.tc) hkn jC hrr G hn NV ?_ (λu hu=>.inl hu) E G.OM.symm mH⟩;refine{ (NG.more:fF K _ n X z)with Al:=aAe.mono mLN,nQ:=?_ }
     show sj (K.nb n) K.wb _ _ _
     rw[hkn,jC];exact⟨Z,b4,J,b7,b1,⟨BR.1,I,O⟩,x,E,(u7 (bS.2 ⟨1,E⟩)),E,⟨(Ro.dR (u7 (bS.2 ⟨2,E⟩))),Pe⟩,(u7 (bS.2 ⟨6,E⟩)),(u7 (bS.2 ⟨4,E⟩)),(u7 (bS.2 ⟨5,E⟩)),E,(u7 (bS.2 ⟨7,E⟩))⟩
    refine cB (l':=[(3,pV b1 0),(4,pV b4 0),(5,pV b7 0),(6,pV J 0),(8,pV Z 0),(10,.slice A9 k c9),(93,.bool true)]) Fj (oD E (aL (vm ?_)));refine zN 2 ?_;refine UR eQ xw (kI 6 x.l.q ⟨BR.1,I,O⟩ _) ?_;intro w96 II;refine Uc II ?_;intro b99 akL yV;refine eG (news:=[D 6,D (x.l.q:Int),D BR.1.ep,D 0,D 0,D 0,D 0,D 0,D 0,D 0]) (xs':=(acc++[gZ 6 x.l.q BR.1.ep 0 aQ]).flatMap dN.cells) 1 yV (wn E) E E E E E E (St.nP (xs:=[D 6,D (x.l.q:Int),D BR.1.ep,D 0,D 0,D 0,D 0,D 0,D 0,D 0]) 0 yV E E E) underlying126 SG E dQ (dx E) lQ Y (jO (enc:=dN.cells) E E) ?_;intro arA arB aw0 aKN aKO vH;refine zN 8 ?_;have xV:=vH.fC [15,15,15,15,15,15,15];refine dZ eQ (IX (nn:=k+1) (rs:=acc++[gZ 6 x.l.q BR.1.ep 0 aQ]) (by simp[<-akY]) (Ro.own (bS.2 ⟨1,E⟩)) NG.Al (by exact PO 9 E hL) Y xV) ?_;rintro _ arC (⟨agN,rfl,Bt⟩|⟨apX,akZ,ak0,aFF,agN,rfl,auX,Bt⟩)
    ·refine⟨_,E,?_⟩;refine zN 7 ?_;have hgr:r9 x.l.q BR.1 y.b.Jp.length (x.l.at_.toNat+x.l.Jp.length) x.l.last=acc++[gZ 6 x.l.q BR.1.ep 0 aQ]:=by
      rw[<-hM,Hw hG hm0 QX Y,au ‹_›]
     rw[Ww hX hyb.symm tH Y Y Y (by rw[hgr];exact agN)];exact⟨E,Wd.fq (X':=X) (z':=z) (Ls:=[.Oy b99 #[D 6,D (x.l.q:Int),D BR.1.ep,D 0,D 0,D 0,D 0,D 0,D 0,D 0] 138,.own 138 10 (.slice arA (k+1) arB) (k+1) ((acc++[gZ 6 x.l.q BR.1.ep 0 aQ]).flatMap dN.cells),.Oy Z (bR BR.1 I O) 42,.dR 6 I BR.1.Jp.length ((BR.1.Jp).flatMap Ev.cells),.Oy CZ (bR y.b y.A y.c) 42,.Oy J #[D (x.l.q:Int)] 3,.Oy b7 (LX.row x) 119,.Oy b4 #[pV kn 0] 98,.Oy b1 #[pV kw 0] 87]) (fA:=R.fA) (fc:=R.fc) (fx:=R.fx) (sA:=R.sA) (sc:=R.sc) (tA:=R.tA) (tc:=R.tc) hkn jC hrr G hn Bt NG.more (λu hu=>.inl hu) (aJ hX).symm G.OM.symm mH⟩
    refine⟨_,E,?_⟩;refine zN 8 ?_;refine vv LZ ?_;refine zN 2 ?_;refine kZ (row':=eP n X.up (.slice akZ apX.length ak0) X.OY (.slice (aD z.bb 0) 4 4) X.PS X.PZ (.slice z.iA z.ix.length z.ic) (.func (.func 96) #[] #[pV Z 0,pV b4 0,pV J 0,pV b7 0,pV b1 0]) X.turn) 0 Bt kQ ?_;intro aeH yU;refine zQ ?_;refine dG (l':=[]) trivial (q9 ?_);have hgr:r9 x.l.q BR.1 y.b.Jp.length (x.l.at_.toNat+x.l.Jp.length) x.l.last=acc++[gZ 6 x.l.q BR.1.ep 0 aQ]:=by
     rw[<-hM,Hw hG hm0 QX Y,au ‹_›]
    rw[ahR hX hyb.symm tH Y Y Y (by rw[hgr];exact agN)];refine⟨E,Wd.fin (X':={X with data:=apX,OO:=some (.T9 x.l.q BR.1 x.l.last)}) (z':={z with tA:=akZ,tc:=ak0,pv:=.func (.func 96) #[] #[pV Z 0,pV b4 0,pV J 0,pV b7 0,pV b1 0]}) (N:=aFF) (Ls:=[.Oy b99 #[D 6,D (x.l.q:Int),D BR.1.ep,D 0,D 0,D 0,D 0,D 0,D 0,D 0] 138,.own 138 10 (.slice arA (k+1) arB) (k+1) ((acc++[gZ 6 x.l.q BR.1.ep 0 aQ]).flatMap dN.cells),.Oy Z (bR BR.1 I O) 42,.dR 6 I BR.1.Jp.length ((BR.1.Jp).flatMap Ev.cells),.Oy CZ (bR y.b y.A y.c) 42,.Oy J #[D (x.l.q:Int)] 3,.Oy b7 (LX.row x) 119,.Oy b4 #[pV kn 0] 98,.Oy b1 #[pV kw 0] 87]) (fA:=R.fA) (fc:=R.fc) (fx:=R.fx) (sA:=R.sA) (sc:=R.sc) (tA:=R.tA) (tc:=R.tc) hkn jC hrr G hn yU ?_ (λu hu=>.inl hu) E G.OM.symm mH⟩;refine{ (NG.more:fF K _ n X z)with Al:=auX.mono mLN,nQ:=?_ }
    show sj (K.nb n) K.wb _ _ _
    rw[hkn,jC];exact⟨Z,b4,J,b7,b1,⟨BR.1,I,O⟩,x,E,(u7 (bS.2 ⟨2,E⟩)),E,⟨(Ro.dR (u7 (bS.2 ⟨3,E⟩))),Pe⟩,(u7 (bS.2 ⟨7,E⟩)),(u7 (bS.2 ⟨5,E⟩)),(u7 (bS.2 ⟨6,E⟩)),E,(u7 (bS.2 ⟨8,E⟩))⟩
   refine zN 16 ?_;have zV:=zh.fC [13,13,13,13,13,13,13];rw[Wv hX hyb.symm tH Y Y Y];exact⟨E,Wd.fq (X':=X) (z':=z) (Ls:=[.Oy Z (bR BR.1 I O) 42,.dR 6 I BR.1.Jp.length ((BR.1.Jp).flatMap Ev.cells),.Oy CZ (bR y.b y.A y.c) 42,.Oy J #[D (x.l.q:Int)] 3,.Oy b7 (LX.row x) 119,.Oy b4 #[pV kn 0] 98,.Oy b1 #[pV kw 0] 87]) (fA:=R.fA) (fc:=R.fc) (fx:=R.fx) (sA:=R.sA) (sc:=R.sc) (tA:=R.tA) (tc:=R.tc) hkn jC hrr G hn zV NG.more (λu hu=>.inl hu) (aJ hX).symm G.OM.symm mH⟩
  refine zN 8 ?_;have xk:=vJ.fC [11,11,11,11,11,11,11];rw[ahQ hX hyb.symm Y];exact⟨E,Wd.fq (X':=X) (z':=z) (Ls:=[.Oy CZ (bR y.b y.A y.c) 42,.Oy J #[D (x.l.q:Int)] 3,.Oy b7 (LX.row x) 119,.Oy b4 #[pV kn 0] 98,.Oy b1 #[pV kw 0] 87]) (fA:=R.fA) (fc:=R.fc) (fx:=R.fx) (sA:=R.sA) (sc:=R.sc) (tA:=R.tA) (tc:=R.tc) hkn jC hrr G hn xk NG.more (λu hu=>.inl hu) (aJ hX).symm G.OM.symm mH⟩
 refine zN 14 ?_;have JK:=vJ.fC [11,11,11,11,11,11,11];rw[ahQ hX hyb.symm Y];exact⟨E,Wd.fq (X':=X) (z':=z) (Ls:=[.Oy CZ (bR y.b y.A y.c) 42,.Oy J #[D (x.l.q:Int)] 3,.Oy b7 (LX.row x) 119,.Oy b4 #[pV kn 0] 98,.Oy b1 #[pV kw 0] 87]) (fA:=R.fA) (fc:=R.fc) (fx:=R.fx) (sA:=R.sA) (sc:=R.sc) (tA:=R.tA) (tc:=R.tc) hkn jC hrr G hn JK NG.more (λu hu=>.inl hu) (aJ hX).symm G.OM.symm mH⟩
end Go.Proofs.YtefabpdniidmbaaGreatDoor
