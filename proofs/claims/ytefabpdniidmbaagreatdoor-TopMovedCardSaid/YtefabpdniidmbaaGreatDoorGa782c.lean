import Derived.Test.YtefabpdniidmbaaGreatDoorG33e83
set_option linter.all false
set_option maxRecDepth 100000
set_option maxHeartbeats 8000000
set_option linter.unusedSimpArgs false
namespace Go.Proofs.YtefabpdniidmbaaGreatDoor
open List Nat Go.Proofs.Tryz ChangeShapes WideShapes RowKit
def NW(ro ep fr tg rd:Int)(A:Option Addr)(c:Nat)(l:List Ev)(e:Int)(w:World)(h:Rd w w.heap.size 6 A l.length (bU l))(hb:l.length*48<=reachBytes):
 Calls prog 43 #[.agg #[D ro,D ep,D fr,D tg,D rd,.slice A l.length c],D e] w (mY w (jX ⟨ro,ep,fr,tg,rd,l⟩ e)):=by
 have S:=(St.start w).dJ h;have O:=hb;unfold reachBytes at O;refine jc 35 func43 ?_;refine cw [0,1] ?_;refine zN 2 ?_;refine jT S ?_;intro b1 w2 S3;refine iU S3 iN ?_;intro b4 w5 S6;refine zN 7 ?_;refine UR eQ S6 (fJ ro ep fr tg rd A c l _ (St.rd 2 S6 E) Y) ?_;intro w7 I;refine zN 7 ?_;by_cases J:ay ⟨ro,ep,fr,tg,rd,l⟩=0
 ·have M:=(gG J).1;unfold bL at M;have Z:=jd (gG J).2;dsimp only at M Z;refine zN 8 ?_;by_cases h11:e<1
  ·refine zN 11 ?_;refine vv kL ?_;refine sa 0 I kQ ?_;intro w12 VU;refine zN 7 ?_;have pz:=VU.bq [2,1,0];rw[show jX ⟨ro,ep,fr,tg,rd,l⟩ e=(⟨0,0,0,0,0,[]⟩,2)from by unfold jX;(try dsimp only);exact ni];exact⟨none,0,oH,E,aI pz⟩
  refine zN 3 ?_;by_cases h15:1048576<e
  ·refine zN 8 ?_;refine vv kL ?_;refine sa 0 I kQ ?_;intro w16 Bc;refine zN 7 ?_;have tq:=Bc.bq [2,1,0];rw[show jX ⟨ro,ep,fr,tg,rd,l⟩ e=(⟨0,0,0,0,0,[]⟩,2)from by unfold jX;(try dsimp only);exact ni];exact⟨none,0,oH,E,aI tq⟩
  refine zN 10 ?_;by_cases h19:ro=0
  ·refine zN 10 ?_;by_cases h20:e<=ep
   ·refine zN 7 ?_;refine vv kL ?_;refine sa 0 I kQ ?_;intro Iz l6;refine zN 7 ?_;have xq:=l6.bq [2,1,0];rw[show jX ⟨ro,ep,fr,tg,rd,l⟩ e=(⟨0,0,0,0,0,[]⟩,15)from by unfold jX;(try dsimp only);exact ni];exact⟨none,0,oH,E,aI xq⟩
   refine zN 11 ?_;refine vv (v:=.agg #[D 1,D e,D 0,D 0,D 0,.slice none 0 0]) iJ ?_;refine sa 0 I kQ ?_;intro QL nH;refine zN 5 ?_;have vK:=nH.bq [2,1,0];rw[show jX ⟨ro,ep,fr,tg,rd,l⟩ e=(⟨1,e,0,0,0,[]⟩,0)from by unfold jX;(try dsimp only);exact ni];exact⟨none,0,oH,E,aI vK⟩
  refine zN 7 ?_;refine vv kL ?_;refine sa 0 I kQ ?_;intro QF vR;refine zN 7 ?_;have vT:=vR.bq [2,1,0];rw[show jX ⟨ro,ep,fr,tg,rd,l⟩ e=(⟨0,0,0,0,0,[]⟩,8)from by unfold jX;(try dsimp only);exact ni];exact⟨none,0,oH,E,aI vT⟩
 refine zN 7 ?_;refine vv kL ?_;refine zQ ?_;refine sa 0 I kQ ?_;intro YM tu;refine zN 7 ?_;have wP:=tu.bq [2,1,0];rw[show jX ⟨ro,ep,fr,tg,rd,l⟩ e=(⟨0,0,0,0,0,[]⟩,ay ⟨ro,ep,fr,tg,rd,l⟩)from by unfold jX;(try dsimp only);exact ni];exact⟨none,0,oH,E,aI wP⟩
def ajc(ro ep fr tg rd:Int)(A:Option Addr)(c:Nat)(l:List Ev)(t:Int)(w:World)(h:Rd w w.heap.size 6 A l.length (bU l))(hb:l.length*48<=reachBytes):
 Calls prog 57 #[.agg #[D ro,D ep,D fr,D tg,D rd,.slice A l.length c],D t] w (mY w (vQ ⟨ro,ep,fr,tg,rd,l⟩ t)):=by
 have S:=(St.start w).dJ h;have hb2:=hb;unfold reachBytes at hb2;refine jc 44 func57 ?_;refine cw [0,1] ?_;refine zN 2 ?_;refine jT S ?_;intro b1 w2 S3;refine iU S3 iN ?_;intro b4 w5 S6;refine zN 7 ?_;refine UR eQ S6 (fJ ro ep fr tg rd A c l _ (St.rd 2 S6 E) Y) ?_;intro w7 Z;refine zN 7 ?_;by_cases h10:ay ⟨ro,ep,fr,tg,rd,l⟩=0
 ·have hsh:=(gG h10).1;unfold bL at hsh;have hln:=jd (gG h10).2;dsimp only at hsh hln;refine zN 8 ?_;by_cases J:0<=t/\t<5
  ·have aw3:=λ(w:World)=>mZ t w;rw[ko J]at aw3;refine dZ eQ (aw3 _) ?_;rintro _ Fy ⟨rfl,M⟩;refine⟨_,E,?_⟩;have I:=Z.on M;clear M Z;refine zN 9 ?_;by_cases h16:ro=2
   ·refine zN 12 ?_;refine vv kL ?_;refine sa 0 I kQ ?_;intro Pp tq;refine zN 7 ?_;have xg:=tq.bq [2,1,0];rw[show vQ ⟨ro,ep,fr,tg,rd,l⟩ t=(⟨0,0,0,0,0,[]⟩,12)from by unfold vQ;(try dsimp only);exact ni];exact⟨none,0,oH,E,aI xg⟩
   refine zN 4 ?_;by_cases h20:ro=3
   ·refine zN 8 ?_;refine vv kL ?_;refine sa 0 I kQ ?_;intro Iz l6;refine zN 7 ?_;have xq:=l6.bq [2,1,0];rw[show vQ ⟨ro,ep,fr,tg,rd,l⟩ t=(⟨0,0,0,0,0,[]⟩,12)from by unfold vQ;(try dsimp only);exact ni];exact⟨none,0,oH,E,aI xq⟩
   refine zN 10 ?_;by_cases Um:ro=1
   ·refine zN 9 ?_;by_cases xu:ep=1048576
    ·refine zN 7 ?_;refine vv kL ?_;refine sa 0 I kQ ?_;intro Pt vJ;refine zN 7 ?_;have vR:=vJ.bq [2,1,0];rw[show vQ ⟨ro,ep,fr,tg,rd,l⟩ t=(⟨0,0,0,0,0,[]⟩,14)from by unfold vQ;(try dsimp only);exact ni];exact⟨none,0,oH,E,aI vR⟩
    refine zN 12 ?_;refine J7 1 I kQ ?_;intro w29 Ed;refine zQ ?_;refine J7 1 Ed kQ ?_;intro w31 wP;refine zN 5 ?_;refine dZ eQ (kK 2 ep fr t rd A c l _ (St.rd 2 wP E) hb) ?_;rintro _ w35 ⟨A33,c34,rfl,T37⟩;refine⟨_,E,?_⟩;have vU:=wP.ext T37 E;refine sa 1 vU kQ ?_;intro w38 Co;refine zN 5 ?_;have zh:=Co.bq [3,2,1];have hcp:=(fH (zh.own 0 E)).1;have L9:=zh.bZ 0 E;rw[show vQ ⟨ro,ep,fr,tg,rd,l⟩ t=(⟨2,ep,fr,t,rd,l⟩,0)from by unfold vQ;(try dsimp only);exact ni];exact⟨A33,c34,oH,E,L9⟩
   refine zN 7 ?_;refine vv kL ?_;refine sa 0 I kQ ?_;intro YN wO;refine zN 7 ?_;have EK:=wO.bq [2,1,0];rw[show vQ ⟨ro,ep,fr,tg,rd,l⟩ t=(⟨0,0,0,0,0,[]⟩,7)from by unfold vQ;(try dsimp only);exact ni];exact⟨none,0,oH,E,aI EK⟩
  have aw4:=λ(w:World)=>mZ t w;rw[jf J]at aw4;refine dZ eQ (aw4 _) ?_;rintro _ w46 ⟨rfl,O⟩;refine⟨_,E,?_⟩;have BS:=Z.on O;clear O Z;refine zN 7 ?_;refine vv kL ?_;refine sa 0 BS kQ ?_;intro w49 zS;refine zN 7 ?_;have yK:=zS.bq [2,1,0];rw[show vQ ⟨ro,ep,fr,tg,rd,l⟩ t=(⟨0,0,0,0,0,[]⟩,2)from by unfold vQ;(try dsimp only);exact ni];exact⟨none,0,oH,E,aI yK⟩
 refine zN 7 ?_;refine vv kL ?_;refine zQ ?_;refine sa 0 Z kQ ?_;intro w52 CP;refine zN 7 ?_;have xw:=CP.bq [2,1,0];rw[show vQ ⟨ro,ep,fr,tg,rd,l⟩ t=(⟨0,0,0,0,0,[]⟩,ay ⟨ro,ep,fr,tg,rd,l⟩)from by unfold vQ;(try dsimp only);exact ni];exact⟨none,0,oH,E,aI xw⟩
def ahU(ro ep fr tg rd:Int)(A:Option Addr)(c:Nat)(l:List Ev)(hv:Int)(w:World)(h:Rd w w.heap.size 6 A l.length (bU l))(M:l.length*48<=reachBytes):
 Calls prog 92 #[.agg #[D ro,D ep,D fr,D tg,D rd,.slice A l.length c],D hv] w (mY w (bY ⟨ro,ep,fr,tg,rd,l⟩ hv)):=by
 have S:=(St.start w).dJ h;have hb2:=M;unfold reachBytes at hb2;refine jc 55 func92 ?_;refine cw [0,1] ?_;refine zN 2 ?_;refine jT S ?_;intro b1 w2 S3;refine iU S3 iN ?_;intro b4 w5 S6;refine zN 7 ?_;refine UR eQ S6 (fJ ro ep fr tg rd A c l _ (St.rd 2 S6 E) Y) ?_;intro w7 I;refine zN 6 ?_;by_cases O:ay ⟨ro,ep,fr,tg,rd,l⟩=0
 ·have Z:=(gG O).1;unfold bL at Z;have hln:=jd (gG O).2;dsimp only at Z hln;refine zN 11 ?_;by_cases h11:ro=2
  ·refine zN 15 ?_;by_cases h12:hv<0
   ·refine zN 13 ?_;refine vv kL ?_;refine sa 0 I kQ ?_;intro Fy pz;refine zN 6 ?_;have kP:=pz.bq [2,1,0];rw[show bY ⟨ro,ep,fr,tg,rd,l⟩ hv=(⟨0,0,0,0,0,[]⟩,2)from by unfold bY;(try dsimp only);exact ni];exact⟨none,0,oH,E,aI kP⟩
   refine zN 6 ?_;by_cases h16:(l.length:Int)<hv
   ·refine zN 7 ?_;refine vv kL ?_;refine sa 0 I kQ ?_;intro Pp tq;refine zN 6 ?_;have xg:=tq.bq [2,1,0];rw[show bY ⟨ro,ep,fr,tg,rd,l⟩ hv=(⟨0,0,0,0,0,[]⟩,2)from by unfold bY;(try dsimp only);exact ni];exact⟨none,0,oH,E,aI xg⟩
   refine zN 24 ?_;by_cases h20:hv=(l.length:Int)
   ·refine zN 12 ?_;refine J7 1 I kQ ?_;intro Iz l6;refine zQ ?_;refine J7 1 l6 kQ ?_;intro Ma l7;refine zN 6 ?_;refine dZ eQ (kK 3 ep fr tg 0 A c l _ (St.rd 2 l7 E) M) ?_;rintro _ QF ⟨A25,c26,rfl,T29⟩;refine⟨_,E,?_⟩;have vR:=l7.ext T29 E;refine sa 1 vR kQ ?_;intro YM tu;refine zN 5 ?_;have wP:=tu.bq [3,2,1];have J:=(fH (wP.own 0 E)).1;have yB:=wP.bZ 0 E;rw[show bY ⟨ro,ep,fr,tg,rd,l⟩ hv=(⟨3,ep,fr,tg,0,l⟩,0)from by unfold bY;(try dsimp only);exact ni];exact⟨A25,c26,oH,E,yB⟩
   refine zN 4 ?_;by_cases h34:rd=4
   ·refine zN 8 ?_;refine J7 1 I kQ ?_;intro w35 vU;refine zQ ?_;refine J7 1 vU kQ ?_;intro w37 CS;refine zN 6 ?_;refine dZ eQ (kK 3 ep fr tg 0 A c l _ (St.rd 2 CS E) M) ?_;rintro _ w41 ⟨A39,c40,rfl,T43⟩;refine⟨_,E,?_⟩;have Ee:=CS.ext T43 E;refine sa 1 Ee kQ ?_;intro Un tC;refine zN 5 ?_;have zf:=tC.bq [3,2,1];have J:=(fH (zf.own 0 E)).1;have BS:=zf.bZ 0 E;rw[show bY ⟨ro,ep,fr,tg,rd,l⟩ hv=(⟨3,ep,fr,tg,0,l⟩,0)from by unfold bY;(try dsimp only);exact ni];exact⟨A39,c40,oH,E,BS⟩
   refine zN 9 ?_;refine vv (v:=D (rd+1)) jW ?_;refine zQ ?_;refine J7 1 I kQ ?_;intro YR yM;refine zN 6 ?_;refine dZ eQ (kK ro ep fr tg (rd+1) A c l _ (St.rd 2 yM E) M) ?_;rintro _ w52 ⟨A50,c51,rfl,T54⟩;refine⟨_,E,?_⟩;have CP:=yM.ext T54 E;refine sa 1 CP kQ ?_;intro w55 YU;refine zN 5 ?_;have wY:=YU.bq [3,2,1];have J:=(fH (wY.own 0 E)).1;have FC:=wY.bZ 0 E;rw[show bY ⟨ro,ep,fr,tg,rd,l⟩ hv=(⟨ro,ep,fr,tg,rd+1,l⟩,0)from by unfold bY;(try dsimp only);exact ni];exact⟨A50,c51,oH,E,FC⟩
  refine zN 4 ?_;by_cases h59:ro=3
  ·refine zN 11 ?_;by_cases h60:hv<0
   ·refine zN 13 ?_;refine vv kL ?_;refine sa 0 I kQ ?_;intro w61 Ef;refine zN 6 ?_;have ze:=Ef.bq [2,1,0];rw[show bY ⟨ro,ep,fr,tg,rd,l⟩ hv=(⟨0,0,0,0,0,[]⟩,2)from by unfold bY;(try dsimp only);exact ni];exact⟨none,0,oH,E,aI ze⟩
   refine zN 6 ?_;by_cases h64:(l.length:Int)<hv
   ·refine zN 7 ?_;refine vv kL ?_;refine sa 0 I kQ ?_;intro w65 Ke;refine zN 6 ?_;have wZ:=Ke.bq [2,1,0];rw[show bY ⟨ro,ep,fr,tg,rd,l⟩ hv=(⟨0,0,0,0,0,[]⟩,2)from by unfold bY;(try dsimp only);exact ni];exact⟨none,0,oH,E,aI wZ⟩
   refine zN 24 ?_;refine dZ eQ (kK ro ep fr tg rd A c l _ (St.rd 2 I E) M) ?_;rintro _ w70 ⟨A68,c69,rfl,T72⟩;refine⟨_,E,?_⟩;have vS:=I.ext T72 E;refine sa 1 vS kQ ?_;intro w73 QG;refine zN 5 ?_;have Jy:=QG.bq [3,2,1];have J:=(fH (Jy.own 0 E)).1;have Pv:=Jy.bZ 0 E;rw[show bY ⟨ro,ep,fr,tg,rd,l⟩ hv=(⟨ro,ep,fr,tg,rd,l⟩,0)from by unfold bY;(try dsimp only);exact ni];exact⟨A68,c69,oH,E,Pv⟩
  refine zN 7 ?_;refine vv kL ?_;refine sa 0 I kQ ?_;intro w77 Mf;refine zN 6 ?_;have Fu:=Mf.bq [2,1,0];rw[show bY ⟨ro,ep,fr,tg,rd,l⟩ hv=(⟨0,0,0,0,0,[]⟩,7)from by unfold bY;(try dsimp only);exact ni];exact⟨none,0,oH,E,aI Fu⟩
 refine zN 6 ?_;refine vv kL ?_;refine zQ ?_;refine sa 0 I kQ ?_;intro w80 yw;refine zN 6 ?_;have S82:=yw.bq [2,1,0];rw[show bY ⟨ro,ep,fr,tg,rd,l⟩ hv=(⟨0,0,0,0,0,[]⟩,ay ⟨ro,ep,fr,tg,rd,l⟩)from by unfold bY;(try dsimp only);exact ni];exact⟨none,0,oH,E,aI S82⟩
def Km(ro ep fr tg rd:Int)(A:Option Addr)(c:Nat)(l:List Ev)(e f:Int)(w:World)(h:Rd w w.heap.size 6 A l.length (bU l))(hb:l.length*48<=reachBytes):
 Calls prog 89 #[.agg #[D ro,D ep,D fr,D tg,D rd,.slice A l.length c],D e,D f] w (mY w (dV ⟨ro,ep,fr,tg,rd,l⟩ e f)):=by
 have S:=(St.start w).dJ h;have hb2:=hb;unfold reachBytes at hb2;refine jc 66 func89 ?_;refine cw [0,1,2] ?_;refine zN 2 ?_;refine jT S ?_;intro b1 w2 S3;refine iU S3 iN ?_;intro b4 w5 S6;refine zN 7 ?_;refine UR eQ S6 (fJ ro ep fr tg rd A c l _ (St.rd 2 S6 E) Y) ?_;intro w7 Z;refine zN 7 ?_;by_cases h10:ay ⟨ro,ep,fr,tg,rd,l⟩=0
 ·have hsh:=(gG h10).1;unfold bL at hsh;have hln:=jd (gG h10).2;dsimp only at hsh hln;refine zN 8 ?_;by_cases h11:e<1
  ·refine zN 16 ?_;refine vv kL ?_;refine sa 0 Z kQ ?_;intro w12 VU;refine zN 7 ?_;have pz:=VU.bq [2,1,0];rw[show dV ⟨ro,ep,fr,tg,rd,l⟩ e f=(⟨0,0,0,0,0,[]⟩,2)from by unfold dV;(try dsimp only);exact ni];exact⟨none,0,oH,E,aI pz⟩
  refine zN 3 ?_;by_cases h15:1048576<e
  ·refine zN 13 ?_;refine vv kL ?_;refine sa 0 Z kQ ?_;intro w16 Bc;refine zN 7 ?_;have tq:=Bc.bq [2,1,0];rw[show dV ⟨ro,ep,fr,tg,rd,l⟩ e f=(⟨0,0,0,0,0,[]⟩,2)from by unfold dV;(try dsimp only);exact ni];exact⟨none,0,oH,E,aI tq⟩
  refine zN 4 ?_;by_cases J:0<=f/\f<5
  ·have aez:=λ(w:World)=>mZ f w;rw[ko J]at aez;refine Bg eQ (aez _) ?_;rintro _ Iz ⟨rfl,M⟩;refine⟨_,E,?_⟩;have I:=Z.on M;clear M Z;refine zN 10 ?_;by_cases Um:ro=0
   ·refine zN 36 ?_;by_cases xu:e<=ep
    ·refine zN 7 ?_;refine vv kL ?_;refine sa 0 I kQ ?_;intro Pt vJ;refine zN 7 ?_;have vR:=vJ.bq [2,1,0];rw[show dV ⟨ro,ep,fr,tg,rd,l⟩ e f=(⟨0,0,0,0,0,[]⟩,15)from by unfold dV;(try dsimp only);exact ni];exact⟨none,0,oH,E,aI vR⟩
    refine zN 12 ?_;refine vv (v:=.agg #[D 4,D e,D f,D 0,D 0,.slice none 0 0]) iJ ?_;refine sa 0 I kQ ?_;intro w29 Ed;refine zN 5 ?_;have tu:=Ed.bq [2,1,0];rw[show dV ⟨ro,ep,fr,tg,rd,l⟩ e f=(⟨4,e,f,0,0,[]⟩,0)from by unfold dV;(try dsimp only);exact ni];exact⟨none,0,oH,E,aI tu⟩
   refine zN 4 ?_;by_cases h32:ro=4
   ·refine zN 15 ?_;by_cases h33:ep=e
    ·refine zN 6 ?_;by_cases h34:fr=f
     ·refine zN 9 ?_;refine dZ eQ (kK ro ep fr tg rd A c l _ (St.rd 2 I E) hb) ?_;rintro _ w37 ⟨A35,c36,rfl,T39⟩;refine⟨_,E,?_⟩;have CS:=I.ext T39 E;refine sa 1 CS kQ ?_;intro w40 L9;refine zN 7 ?_;have Ee:=L9.bq [3,2,1];have hcp:=(fH (Ee.own 0 E)).1;have wO:=Ee.bZ 0 E;rw[show dV ⟨ro,ep,fr,tg,rd,l⟩ e f=(⟨ro,ep,fr,tg,rd,l⟩,0)from by unfold dV;(try dsimp only);exact ni];exact⟨A35,c36,oH,E,wO⟩
     refine zN 11 ?_;by_cases h44:e<=ep
     ·refine zN 7 ?_;refine vv kL ?_;refine sa 0 I kQ ?_;intro w45 zf;refine zN 7 ?_;have BS:=zf.bq [2,1,0];rw[show dV ⟨ro,ep,fr,tg,rd,l⟩ e f=(⟨0,0,0,0,0,[]⟩,15)from by unfold dV;(try dsimp only);exact ni];exact⟨none,0,oH,E,aI BS⟩
     refine zN 12 ?_;refine vv (v:=.agg #[D 4,D e,D f,D 0,D 0,.slice none 0 0]) iJ ?_;refine sa 0 I kQ ?_;intro YR yM;refine zN 5 ?_;have zS:=yM.bq [2,1,0];rw[show dV ⟨ro,ep,fr,tg,rd,l⟩ e f=(⟨4,e,f,0,0,[]⟩,0)from by unfold dV;(try dsimp only);exact ni];exact⟨none,0,oH,E,aI zS⟩
    refine zN 17 ?_;by_cases h51:e<=ep
    ·refine zN 7 ?_;refine vv kL ?_;refine sa 0 I kQ ?_;intro w52 CP;refine zN 7 ?_;have xw:=CP.bq [2,1,0];rw[show dV ⟨ro,ep,fr,tg,rd,l⟩ e f=(⟨0,0,0,0,0,[]⟩,15)from by unfold dV;(try dsimp only);exact ni];exact⟨none,0,oH,E,aI xw⟩
    refine zN 12 ?_;refine vv (v:=.agg #[D 4,D e,D f,D 0,D 0,.slice none 0 0]) iJ ?_;refine sa 0 I kQ ?_;intro w55 YU;refine zN 5 ?_;have wY:=YU.bq [2,1,0];rw[show dV ⟨ro,ep,fr,tg,rd,l⟩ e f=(⟨4,e,f,0,0,[]⟩,0)from by unfold dV;(try dsimp only);exact ni];exact⟨none,0,oH,E,aI wY⟩
   refine zN 8 ?_;refine vv kL ?_;refine sa 0 I kQ ?_;intro w58 zT;refine zN 7 ?_;have YV:=zT.bq [2,1,0];rw[show dV ⟨ro,ep,fr,tg,rd,l⟩ e f=(⟨0,0,0,0,0,[]⟩,8)from by unfold dV;(try dsimp only);exact ni];exact⟨none,0,oH,E,aI YV⟩
  have aw8:=λ(w:World)=>mZ f w;rw[jf J]at aw8;refine Bg eQ (aw8 _) ?_;rintro _ w62 ⟨rfl,O⟩;refine⟨_,E,?_⟩;have ze:=Z.on O;clear O Z;refine zN 8 ?_;refine vv kL ?_;refine sa 0 ze kQ ?_;intro w65 Ke;refine zN 7 ?_;have wZ:=Ke.bq [2,1,0];rw[show dV ⟨ro,ep,fr,tg,rd,l⟩ e f=(⟨0,0,0,0,0,[]⟩,2)from by unfold dV;(try dsimp only);exact ni];exact⟨none,0,oH,E,aI wZ⟩
 refine zN 7 ?_;refine vv kL ?_;refine zQ ?_;refine sa 0 Z kQ ?_;intro w68 CQ;refine zN 7 ?_;have Cq:=CQ.bq [2,1,0];rw[show dV ⟨ro,ep,fr,tg,rd,l⟩ e f=(⟨0,0,0,0,0,[]⟩,ay ⟨ro,ep,fr,tg,rd,l⟩)from by unfold dV;(try dsimp only);exact ni];exact⟨none,0,oH,E,aI Cq⟩
def IU(ro ep fr tg rd:Int)(A:Option Addr)(c:Nat)(l:List Ev)(e:Int)(w:World)(h:Rd w w.heap.size 6 A l.length (bU l))(hb:l.length*48<=reachBytes):
 Calls prog 97 #[.agg #[D ro,D ep,D fr,D tg,D rd,.slice A l.length c],D e] w (mY w (iw ⟨ro,ep,fr,tg,rd,l⟩ e)):=by
 have S:=(St.start w).dJ h;have O:=hb;unfold reachBytes at O;refine jc 28 func97 ?_;refine cw [0,1] ?_;refine zN 2 ?_;refine jT S ?_;intro b1 w2 S3;refine iU S3 iN ?_;intro b4 w5 S6;refine zN 7 ?_;refine UR eQ S6 (fJ ro ep fr tg rd A c l _ (St.rd 2 S6 E) Y) ?_;intro w7 M;refine zN 7 ?_;by_cases I:ay ⟨ro,ep,fr,tg,rd,l⟩=0
 ·have J:=(gG I).1;unfold bL at J;have Z:=jd (gG I).2;dsimp only at J Z;refine zN 9 ?_;by_cases h11:ro=3
  ·refine zN 10 ?_;by_cases h12:e<=ep
   ·refine zN 7 ?_;refine vv kL ?_;refine sa 0 M kQ ?_;intro Fy pz;refine zN 7 ?_;have kP:=pz.bq [2,1,0];rw[show iw ⟨ro,ep,fr,tg,rd,l⟩ e=(⟨0,0,0,0,0,[]⟩,15)from by unfold iw;(try dsimp only);exact ni];exact⟨none,0,oH,E,aI kP⟩
   refine zN 12 ?_;refine vv (v:=.agg #[D 0,D ep,D 0,D 0,D 0,.slice none 0 0]) iJ ?_;refine sa 0 M kQ ?_;intro w16 Bc;refine zN 5 ?_;have tq:=Bc.bq [2,1,0];rw[show iw ⟨ro,ep,fr,tg,rd,l⟩ e=(⟨0,ep,0,0,0,[]⟩,0)from by unfold iw;(try dsimp only);exact ni];exact⟨none,0,oH,E,aI tq⟩
  refine zN 7 ?_;refine vv kL ?_;refine sa 0 M kQ ?_;intro J9 tN;refine zN 7 ?_;have xM:=tN.bq [2,1,0];rw[show iw ⟨ro,ep,fr,tg,rd,l⟩ e=(⟨0,0,0,0,0,[]⟩,7)from by unfold iw;(try dsimp only);exact ni];exact⟨none,0,oH,E,aI xM⟩
 refine zN 7 ?_;refine vv kL ?_;refine zQ ?_;refine sa 0 M kQ ?_;intro w22 xq;refine zN 7 ?_;have l7:=xq.bq [2,1,0];rw[show iw ⟨ro,ep,fr,tg,rd,l⟩ e=(⟨0,0,0,0,0,[]⟩,ay ⟨ro,ep,fr,tg,rd,l⟩)from by unfold iw;(try dsimp only);exact ni];exact⟨none,0,oH,E,aI l7⟩
section
variable {b:bC}{k m:Nat}{ep nx gv p:Int}{rs:List iT}{ls:List Ls}{W:mM}
def DF(h:ay b=0)(I:b.F9=2\/b.F9=3)(J:k<=b.Jp.length)(M:min (k+3) b.Jp.length=k+m):jq b k=((b.Jp.drop k).take m,decide (b.F9=3/\k+m=b.Jp.length),0):=by
 unfold jq;rw[ah (λh1=>h1 h),ah Y,ah Y];refine Prod.ext ?_ (Prod.ext ?_ E)
 ·simp only[Int.toNat_natCast];rw[acp,dO];omega
 simp only[Int.toNat_natCast]
 congr 1
 exact propext ⟨λh=>⟨h.1,by omega⟩,λh=>⟨h.1,by omega⟩⟩
def MV{b:bC}{e:Ev}(h:ay b=0)(h1:bK e=0)(I:¬e.kind=4)(J:b.F9=1\/b.F9=2):iK b e=
  if (jU (aM b.Jp).1 e).2.2.1=false then(b,(jU (aM b.Jp).1 e).2.1,false,0)else if 1999<=b.Jp.length then(b,rA 14,false,0)else({b with Jp:=b.Jp++[e]},(jU (aM b.Jp).1 e).2.1,true,0):=by
 unfold iK;rw[ah (λh1=>h1 h),ah (λh=>h h1),ah I,ah Y,ah Y]
def FE(ro ep fr tg rd:Int)(A:Option Addr)(c:Nat)(l:List Ev)(w:World)(h:Rd w w.heap.size 6 A l.length (bU l))(J:l.length<=1152921504606846976):
 Calls tP 70 #[.agg #[D ro,D ep,D fr,D tg,D rd,.slice A l.length c]] w (Iy w (decide (ro=1\/ro=2))):=by
 have S:=(St.start w).dJ h;refine jc 11 func70 ?_;refine cw [0] ?_;refine zN 2 ?_;refine jT S ?_;intro b1 M I;refine zN 7 ?_;by_cases O:ro=1
 ·refine zN 11 ?_;exact⟨reT Y,I.Qe⟩
 refine zN 4 ?_;by_cases Z:ro=2
 ·refine zN 7 ?_;exact⟨reT Y,I.Qe⟩
 refine zN 7 ?_;exact⟨Cj Y,I.Qe⟩
def aaU(ro ep fr tg rd:Int)(A:Option Addr)(c:Nat)(l:List Ev)(w:World)(h:Rd w w.heap.size 6 A l.length (bU l))(hb:l.length*48<=reachBytes):
 Calls tP 54 #[.agg #[D ro,D ep,D fr,D tg,D rd,.slice A l.length c]] w (mY w (gW ⟨ro,ep,fr,tg,rd,l⟩)):=by
 have S:=(St.start w).dJ h;have hb2:=hb;unfold reachBytes at hb2;refine jc 30 func54 ?_;refine cw [0] ?_;refine zN 2 ?_;refine jT S ?_;intro b1 w2 S3;refine iU S3 iN ?_;intro b4 w5 S6;refine zN 7 ?_;refine UR eQ S6 (fJ ro ep fr tg rd A c l _ (St.rd 2 S6 E) Y) ?_;intro w7 O;refine zN 6 ?_;by_cases h10:ay ⟨ro,ep,fr,tg,rd,l⟩=0
 ·have I:=(gG h10).1;unfold bL at I;have Z:=jd (gG h10).2;dsimp only at I Z;refine zN 10 ?_;have HC:=λ(w:World) (h:Rd w w.heap.size 6 A l.length (bU l))=>FE ro ep fr tg rd A c l w h Y;by_cases hsv:ro=1\/ro=2
  ·rw[ko hsv]at HC;refine dZ eQ (HC _ (St.rd 2 O E)) ?_;rintro _ L6 ⟨rfl,J⟩;refine⟨_,E,?_⟩;have sI:=O.on J;clear J O;refine zN 12 ?_;refine vv (v:=.agg #[D 1,D ep,D 0,D 0,D 0,.slice A l.length c]) iJ ?_;refine vv (v:=.agg #[D 4,D 0,D 0,D 0,D 0,D 0]) iJ ?_;refine Uc sI ?_;intro b14 NP tO;refine dZ eQ (uR 1 ep 0 0 0 A c l (aD b14 0) 1 [bg] _ (St.rd 3 tO E) (St.nP (xs:=bU [bg]) 0 tO E E E) (by simp only[length_cons,length_nil];unfold reachBytes;omega)) ?_;rintro _ J9 ⟨A17,c18,rfl,T21⟩;refine⟨_,E,?_⟩;have tN:=tO.ext T21 E;refine iU tN iN ?_;intro b22 Ma l7;refine sa 0 l7 kQ ?_;intro w25 vK;refine zN 6 ?_;refine UR eQ vK (fJ 1 ep 0 0 0 A17 c18 (l++[bg]) _ (St.Uz 1 vK E) (by simp only[length_append,length_cons,length_nil,length_drop];omega)) ?_;intro QF vR;by_cases h30:ay ⟨1,ep,0,0,0,l++[bg]⟩=0
   ·have I:=(gG h30).1;unfold bL at I;have Z:=jd (gG h30).2;dsimp only at I Z;refine zN 9 ?_;refine sa 3 vR kQ ?_;intro w31 wP;refine zN 5 ?_;have yB:=wP.bq [5,4,3,2,0];have hcp:=(fH (yB.own 0 E)).1;have uy:=yB.bZ 0 E;rw[show gW ⟨ro,ep,fr,tg,rd,l⟩=(⟨1,ep,0,0,0,l++[bg]⟩,0)from by unfold gW;(try dsimp only);exact ni];exact⟨A17,c18,oH,E,uy⟩
   refine zN 6 ?_;refine vv kL ?_;refine sa 3 vR kQ ?_;intro w35 vU;refine zN 6 ?_;have Fz:=vU.bq [5,4,3,2,1,0];rw[show gW ⟨ro,ep,fr,tg,rd,l⟩=(⟨0,0,0,0,0,[]⟩,14)from by unfold gW;(try dsimp only);exact ni];exact⟨none,0,oH,E,aI Fz⟩
  rw[jf hsv]at HC;refine dZ eQ (HC _ (St.rd 2 O E)) ?_;rintro _ w38 ⟨rfl,M⟩;refine⟨_,E,?_⟩;have Co:=O.on M;clear M O;refine zN 7 ?_;refine dZ eQ (kK ro ep fr tg rd A c l _ (St.rd 2 Co E) hb) ?_;rintro _ w43 ⟨A41,c42,rfl,T45⟩;refine⟨_,E,?_⟩;have EK:=Co.ext T45 E;refine sa 1 EK kQ ?_;intro w46 BS;refine zN 6 ?_;have CU:=BS.bq [3,2,1];have hcp:=(fH (CU.own 0 E)).1;have yM:=CU.bZ 0 E;rw[show gW ⟨ro,ep,fr,tg,rd,l⟩=(⟨ro,ep,fr,tg,rd,l⟩,0)from by unfold gW;(try dsimp only);exact ni];exact⟨A41,c42,oH,E,yM⟩
 refine zN 6 ?_;refine vv kL ?_;refine zQ ?_;refine sa 0 O kQ ?_;intro YO yK;refine zN 6 ?_;have qO:=yK.bq [2,1,0];rw[show gW ⟨ro,ep,fr,tg,rd,l⟩=(⟨0,0,0,0,0,[]⟩,ay ⟨ro,ep,fr,tg,rd,l⟩)from by unfold gW;(try dsimp only);exact ni];exact⟨none,0,oH,E,aI qO⟩
def Yb(ro ep fr tg rd:Int)(A:Option Addr)(c:Nat)(l:List Ev)(x:Ev)(w:World)(h:Rd w w.heap.size 6 A l.length (bU l))(hb:l.length*48<=reachBytes):
 Calls tP 86 #[.agg #[D ro,D ep,D fr,D tg,D rd,.slice A l.length c],.agg #[D x.kind,D x.OU,D x.id,D x.body,D x.OZ,D x.PX]] w (aey w (iK ⟨ro,ep,fr,tg,rd,l⟩ x)):=by
 have S:=(St.start w).dJ h;have hb2:=hb;unfold reachBytes at hb2;refine jc 80 func86 ?_;refine cw [0,1] ?_;refine zN 2 ?_;refine jT S ?_;intro b1 w2 S3;refine jT S3 ?_;intro b4 w5 S6;refine iU S6 iN ?_;intro b7 w8 S9;refine iU S9 vY ?_;intro b10 L6 sI;refine zN 8 ?_;refine UR eQ sI (fJ ro ep fr tg rd A c l _ (St.rd 4 sI E) Y) ?_;intro Fy pz;refine zN 6 ?_;by_cases J:ay ⟨ro,ep,fr,tg,rd,l⟩=0
 ·have hsh:=(gG J).1;unfold bL at hsh;have hln:=jd (gG J).2;dsimp only at hsh hln;refine zN 10 ?_;refine UR eQ pz (Kc x _) ?_;intro Pp I;refine zN 6 ?_;by_cases h20:bK x=0
  ·refine zN 11 ?_;by_cases hk4:x.kind=4
   ·refine zN 6 ?_;refine vv kL ?_;refine zQ ?_;refine sa 1 I kQ ?_;intro Iz l6;refine sa 0 l6 kQ ?_;intro Ma l7;refine zN 6 ?_;refine fK (rs:=[.cell 4 42,.cell 5 54,.tmp 6,.tmp 7]) (vs:=[.agg zB,.agg #[D 0,D 0,D 0,D 0],.bool false,D 3]) E ⟨⟨_,E,gD 1 l7 E underlying42 E kQ⟩,⟨_,E,gD 0 l7 E underlying54 E kQ⟩,E,E,trivial⟩ ?_;have nH:=l7.bq [4,3,2,1,0];rw[show iK ⟨ro,ep,fr,tg,rd,l⟩ x=(⟨0,0,0,0,0,[]⟩,⟨0,0,0,0⟩,false,3)from by unfold iK;(try dsimp only);exact ni];exact⟨none,0,oH,E,aI nH⟩
   refine zN 12 ?_;by_cases h26:ro=3
   ·refine zN 8 ?_;refine dZ eQ (kK ro ep fr tg rd A c l _ (St.rd 4 I E) hb) ?_;rintro _ w29 ⟨A27,c28,rfl,T31⟩;refine⟨_,E,?_⟩;have Ed:=I.ext T31 E;refine vv (v:=.agg #[D 12,D 0,D 0,D 0]) iJ ?_;refine sa 2 Ed kQ ?_;intro w32 yB;refine sa 1 yB kQ ?_;intro w34 CV;refine zN 7 ?_;refine fK (rs:=[.cell 4 42,.cell 5 54,.tmp 6,.tmp 7]) (vs:=[.agg #[D ro,D ep,D fr,D tg,D rd,.slice A27 l.length c28],.agg #[D 12,D 0,D 0,D 0],.bool false,D 0]) E ⟨⟨_,E,gD 2 CV E underlying42 E kQ⟩,⟨_,E,gD 1 CV E underlying54 E kQ⟩,E,E,trivial⟩ ?_;have vU:=CV.bq [5,4,3,2,1];have hcp:=(fH (vU.own 0 E)).1;have Fz:=vU.bZ 0 E;rw[show iK ⟨ro,ep,fr,tg,rd,l⟩ x=(⟨ro,ep,fr,tg,rd,l⟩,⟨12,0,0,0⟩,false,0)from by unfold iK;(try dsimp only);exact ni];exact⟨A27,c28,oH,E,Fz⟩
   refine zN 8 ?_;have HC:=λ(w:World) (h:Rd w w.heap.size 6 A l.length (bU l))=>FE ro ep fr tg rd A c l w h Y;by_cases M:ro=1\/ro=2
   ·rw[ko M]at HC;refine dZ eQ (HC _ (St.rd 4 I E)) ?_;rintro _ w38 ⟨rfl,aw9⟩;refine⟨_,E,?_⟩;have Co:=I.on aw9;clear aw9 I;refine zN 12 ?_;refine dZ eQ (IK A c l _ (St.rd 4 Co E) Y) ?_;rintro _ w45 ⟨A41,c42,A43,c44,rfl,T47⟩;refine⟨_,E,?_⟩;have zf:=Co.ext T47 E;refine zN 3 ?_;refine nR (V:=λb=>pV b 0) (row:=dY 0 0 0 (.slice none 0 0) (.slice none 0 0) lg) (t:=183) zf (wn E) E E (gK E (zeroValue183 _) E) ?_;intro b48 w49 zS;refine saq 0 zS kQ ?_;intro w51 qO;refine zN 7 ?_;obtain⟨R,hR⟩:∃R,jU (aM l).1 x=R:=⟨_,E⟩;have hql:=aaH (l:=l);have HD:=λA1 A2 c1 c2 w h1 h2=>zq (aM l).1.ep (aM l).1.nx (aM l).1.gv x.kind x.OU x.id x.body x.OZ x.PX A1 A2 c1 c2 (aM l).1.ready (aM l).1.cZ (aM l).1.ws w h1 h2 hQ hQ;rw[show jU ⟨(aM l).1.ep,(aM l).1.nx,(aM l).1.gv,(aM l).1.ready,(aM l).1.cZ,(aM l).1.ws⟩ ⟨x.kind,x.OU,x.id,x.body,x.OZ,x.PX⟩=R from hR]at HD;refine dZ eQ (HD A41 A43 c42 c44 _ (St.dR 1 qO E) (St.dR 2 qO E)) ?_;rintro _ w57 ⟨A53,c54,A55,c56,rfl,T59⟩;refine⟨_,E,?_⟩;have FC:=qO.ext T59 E;clear HD;refine zN 5 ?_;refine nR (V:=λb=>pV b 0) (row:=dY 0 0 0 (.slice none 0 0) (.slice none 0 0) lg) (t:=183) FC (wn E) E E (gK E (zeroValue183 _) E) ?_;intro b60 w61 Ef;refine iU Ef vY ?_;intro b63 w64 JF;refine saq 1 JF kQ ?_;intro YP wZ;refine sa 0 wZ kQ ?_;intro w68 CQ;refine zN 8 ?_
    cases hch:R.2.2.1
    ·refine zN 5 ?_;have Cq:=CQ.drew;refine aU 7 Cq [8,7] ?_;refine aW 2 ?_;refine bJ 1 ?_;refine ku 1 E eQ (kK ro ep fr tg rd A c l _ (St.rd 11 Cq E) hb) ?_;rintro _ w75 ⟨A73,c74,rfl,T77⟩;refine⟨_,E,?_⟩;have Pv:=Cq.ext T77 E;refine dI ?_;refine bJ 3 ?_;refine sn 3 E 9 Pv kQ ?_;intro w78 Fu;refine dI ?_;refine bJ 4 ?_;refine sn 4 E 8 Fu kQ ?_;intro w80 yw;refine aW 4 ?_;refine zN 3 ?_;refine fK (rs:=[.cell 4 42,.cell 5 54,.tmp 6,.tmp 7]) (vs:=[.agg #[D ro,D ep,D fr,D tg,D rd,.slice A73 l.length c74],.agg #[D R.2.1.code,D R.2.1.iD,D R.2.1.PX,D R.2.1.body],.bool false,D 0]) E ⟨⟨_,E,gD 9 yw E underlying42 E kQ⟩,⟨_,E,gD 8 yw E underlying54 E kQ⟩,E,E,trivial⟩ ?_;have IG:=yw.bq [12,11,10,9,8,7,6,5,4,3,2,1];have hcp:=(fH (IG.own 0 E)).1;have Mg:=IG.bZ 0 E;rw[MV (b:=⟨ro,ep,fr,tg,rd,l⟩) (e:=x) J h20 hk4 M,hR];rw[au hch];exact⟨A73,c74,oH,E,Mg⟩
    refine zN 12 ?_;by_cases axc:1999<=l.length
    ·refine zN 7 ?_;refine dZ eQ (kK ro ep fr tg rd A c l _ (St.rd 11 CQ E) hb) ?_;rintro _ w88 ⟨A86,c87,rfl,T90⟩;refine⟨_,E,?_⟩;have Pw:=CQ.ext T90 E;refine vv (v:=.agg #[D 14,D 0,D 0,D 0]) iJ ?_;refine sa 9 Pw kQ ?_;intro w91 BQ;refine sa 8 BQ kQ ?_;intro w93 Ka;refine zN 6 ?_;refine fK (rs:=[.cell 4 42,.cell 5 54,.tmp 6,.tmp 7]) (vs:=[.agg #[D ro,D ep,D fr,D tg,D rd,.slice A86 l.length c87],.agg #[D 14,D 0,D 0,D 0],.bool false,D 0]) E ⟨⟨_,E,gD 9 Ka E underlying42 E kQ⟩,⟨_,E,gD 8 Ka E underlying54 E kQ⟩,E,E,trivial⟩ ?_;have NV:=Ka.bq [12,11,10,9,8,7,6,5,4,3,2,1];have hcp:=(fH (NV.own 0 E)).1;have IJ:=NV.bZ 0 E;rw[MV (b:=⟨ro,ep,fr,tg,rd,l⟩) (e:=x) J h20 hk4 M,hR];rw[ah (by rw[hch];simp),au axc];exact⟨A86,c87,oH,E,IJ⟩
    refine zN 7 ?_;have II:=CQ.drew;refine aU 9 II [8,7] ?_;refine aW 3 ?_;refine bJ 2 ?_;refine zM 2 E II ?_;intro aq0 aq2 O;refine dI ?_;refine bJ 3 ?_;refine ku 3 E eQ (uR ro ep fr tg rd A c l (aD aq0 0) 1 [x] _ (St.rd 12 O E) (St.nP (xs:=bU [x]) 0 O E E E) (by simp only[length_cons,length_nil];unfold reachBytes;omega)) ?_;rintro _ aeN ⟨aeO,c105,rfl,aEr⟩;refine⟨_,E,?_⟩;have Hg:=O.ext aEr E;refine dI ?_;refine bJ 5 ?_;refine sn 5 E 10 Hg kQ ?_;intro ad8 uz;refine dI ?_;refine bJ 6 ?_;refine sn 6 E 9 uz kQ ?_;intro aeG Z;refine aW 4 ?_;refine zN 2 ?_;refine fK (rs:=[.cell 4 42,.cell 5 54,.tmp 6,.tmp 7]) (vs:=[.agg #[D ro,D ep,D fr,D tg,D rd,.slice aeO ((l++[x]).length) c105],.agg #[D R.2.1.code,D R.2.1.iD,D R.2.1.PX,D R.2.1.body],.bool true,D 0]) E ⟨⟨_,E,gD 10 Z E underlying42 E kQ⟩,⟨_,E,gD 9 Z E underlying54 E kQ⟩,E,E,trivial⟩ ?_;have sS:=Z.bq [13,12,11,10,9,8,7,6,5,4,3,2,1];have hcp:=(fH (sS.own 0 E)).1;have Bt:=sS.bZ 0 E;rw[MV (b:=⟨ro,ep,fr,tg,rd,l⟩) (e:=x) J h20 hk4 M,hR];rw[ah (by rw[hch];simp),ah axc];exact⟨aeO,c105,oH,E,Bt⟩
   rw[jf M]at HC;refine dZ eQ (HC _ (St.rd 4 I E)) ?_;rintro _ aeH ⟨rfl,apK⟩;refine⟨_,E,?_⟩;have yU:=I.on apK;clear apK I;refine zN 8 ?_;refine dZ eQ (kK ro ep fr tg rd A c l _ (St.rd 4 yU E) hb) ?_;rintro _ aqQ ⟨axe,axf,rfl,aEs⟩;refine⟨_,E,?_⟩;have Cw:=yU.ext aEs E;refine vv (v:=.agg #[D 7,D 0,D 0,D 0]) iJ ?_;refine sa 2 Cw kQ ?_;intro aq3 zU;refine sa 1 zU kQ ?_;intro ad9 E8;refine zN 7 ?_;refine fK (rs:=[.cell 4 42,.cell 5 54,.tmp 6,.tmp 7]) (vs:=[.agg #[D ro,D ep,D fr,D tg,D rd,.slice axe l.length axf],.agg #[D 7,D 0,D 0,D 0],.bool false,D 0]) E ⟨⟨_,E,gD 2 E8 E underlying42 E kQ⟩,⟨_,E,gD 1 E8 E underlying54 E kQ⟩,E,E,trivial⟩ ?_;have CB:=E8.bq [5,4,3,2,1];have hcp:=(fH (CB.own 0 E)).1;have aeJ:=CB.bZ 0 E;rw[show iK ⟨ro,ep,fr,tg,rd,l⟩ x=(⟨ro,ep,fr,tg,rd,l⟩,⟨7,0,0,0⟩,false,0)from by unfold iK;(try dsimp only);exact ni];exact⟨axe,axf,oH,E,aeJ⟩
  refine zN 6 ?_;refine vv kL ?_;refine zN 2 ?_;refine sa 1 I kQ ?_;intro akF Bo;refine sa 0 Bo kQ ?_;intro aeh Cx;refine zN 6 ?_;refine fK (rs:=[.cell 4 42,.cell 5 54,.tmp 6,.tmp 7]) (vs:=[.agg zB,.agg #[D 0,D 0,D 0,D 0],.bool false,D (bK x)]) E ⟨⟨_,E,gD 1 Cx E underlying42 E kQ⟩,⟨_,E,gD 0 Cx E underlying54 E kQ⟩,E,E,trivial⟩ ?_;have OI:=Cx.bq [4,3,2,1,0];rw[show iK ⟨ro,ep,fr,tg,rd,l⟩ x=(⟨0,0,0,0,0,[]⟩,⟨0,0,0,0⟩,false,bK x)from by unfold iK;(try dsimp only);exact ni];exact⟨none,0,oH,E,aI OI⟩
 refine zN 6 ?_;refine vv kL ?_;refine zN 2 ?_;refine sa 1 pz kQ ?_;intro aeu G8;refine sa 0 G8 kQ ?_;intro aEt JD;refine zN 6 ?_;refine fK (rs:=[.cell 4 42,.cell 5 54,.tmp 6,.tmp 7]) (vs:=[.agg zB,.agg #[D 0,D 0,D 0,D 0],.bool false,D (ay ⟨ro,ep,fr,tg,rd,l⟩)]) E ⟨⟨_,E,gD 1 JD E underlying42 E kQ⟩,⟨_,E,gD 0 JD E underlying54 E kQ⟩,E,E,trivial⟩ ?_;have Jz:=JD.bq [4,3,2,1,0];rw[show iK ⟨ro,ep,fr,tg,rd,l⟩ x=(⟨0,0,0,0,0,[]⟩,⟨0,0,0,0⟩,false,ay ⟨ro,ep,fr,tg,rd,l⟩)from by unfold iK;(try dsimp only);exact ni];exact⟨none,0,oH,E,aI Jz⟩
def aaV(ro ep fr tg rd:Int)(A:Option Addr)(c:Nat)(l:List Ev)(hv:Int)(hlc:l.length<=c)(w:World)(h:Rd w w.heap.size 6 A l.length (bU l))(hb:l.length*48<=reachBytes):
 Calls tP 112 #[.agg #[D ro,D ep,D fr,D tg,D rd,.slice A l.length c],D hv] w (VX w (jq ⟨ro,ep,fr,tg,rd,l⟩ hv)):=by
 have S:=(St.start w).dJ h;have hb2:=hb;unfold reachBytes at hb2;refine jc 53 func112 ?_;refine cw [0,1] ?_;refine zN 2 ?_;refine jT S ?_;intro b1 w2 S3;refine zN 9 ?_;refine UR eQ S3 (fJ ro ep fr tg rd A c l _ (St.rd 1 S3 E) Y) ?_;intro w4 S5;refine zN 6 ?_;by_cases h7:ay ⟨ro,ep,fr,tg,rd,l⟩=0
 ·have hsh:=(gG h7).1;unfold bL at hsh;have hln:=jd (gG h7).2;dsimp only at hsh hln;refine zN 11 ?_;by_cases h8:ro=2
  ·refine zN 15 ?_;by_cases h9:hv<0
   ·refine zN 21 ?_;have Fx:=S5.bq [1,0];rw[show jq ⟨ro,ep,fr,tg,rd,l⟩ hv=([],false,2)from by unfold jq;(try dsimp only);exact ni];exact⟨none,0,aG _,E,aI Fx⟩
   refine zN 6 ?_;by_cases h11:(l.length:Int)<hv
   ·refine zN 15 ?_;have sI:=S5.bq [1,0];rw[show jq ⟨ro,ep,fr,tg,rd,l⟩ hv=([],false,2)from by unfold jq;(try dsimp only);exact ni];exact⟨none,0,aG _,E,aI sI⟩
   refine zN 8 ?_;obtain⟨k,rfl⟩:∃k:Nat,hv=k:=⟨hv.toNat,by omega⟩;obtain⟨m,hm⟩:∃m,min (k+3) l.length=k+m:=⟨min (k+3) l.length-k,by omega⟩;refine zN 2 ?_;refine vv (v:=D ((k+3:Nat):Int)) jW ?_;refine zN 3 ?_;refine vv (v:=D ((k+m:Nat):Int)) (uq (vs:=[D ((k+3:Nat):Int),D (l.length:Int)]) E zL λ_=>by rw[YI,hm]) ?_;refine zN 3 ?_;obtain⟨A13,aq4,aEu,aOd⟩:=Iw (P:=tP) (t:=40) (enc:=Ev.cells) (s:=6) (λ_=>E) (A:=A) (b:=l) (n:=l.length) (c:=c) (lo:=(some (D (k:Int)))) (hi:=(some (D ((k+m:Nat):Int)))) (mx:=none) (l:=k) (k:=k+m) (q:=c) (m:=m) (c':=c-k) underlying40 kQ (Zl k (k+m) E E Y Y) Y Y Y Y Y;have Bc:=S5.dJ (aEu _ _ (S5.all 1 _ E));by_cases hr3:ro=3
   ·by_cases hend:((k+m:Nat):Int)=(l.length:Int)
    ·refine zQ ?_;have tq:=Bc.drew;refine aU 19 tq [] ?_;refine aW 4 ?_;refine ak (v:=.slice A13 m (c-k)) 4 E tq (λ_ _=>(lX E E (kN E) (kN E) qG (aq4 _))) ?_;refine aW 3 ?_;refine bJ 5 ?_;refine ku 5 E eQ (oq A13 m (c-k) _ _ (St.rd 0 tq E) (gX _) hQ) ?_;rintro _ w31 ⟨A27,c28,rfl,aEv,aEw⟩;refine⟨_,E,?_⟩;have wP:=tq.wT aEv aEw;refine aW 12 ?_;refine zN 3 ?_;have wO:=wP.bq [3,2,1];have O:=(fH (wO.own 0 E)).1;have EK:=wO.bZ 0 E;have I:((l.drop k).take m).length=m:=by rw[eD,dO];omega
     rw[DF (b:=⟨ro,ep,fr,tg,rd,l⟩) h7 uQ uQ hm];dsimp only;rw[ko ⟨hr3,by omega⟩];refine⟨A27,c28,?_,?_,?_⟩
     · dsimp only;rw[I];exact O
     · dsimp only;rw[I];rfl
     · dsimp only;rw[I];exact EK
    refine zQ ?_;have tC:=Bc.drew;refine aU 19 tC [] ?_;refine aW 4 ?_;refine ak (v:=.slice A13 m (c-k)) 4 E tC (λ_ _=>(lX E E (kN E) (kN E) qG (aq4 _))) ?_;refine aW 3 ?_;refine bJ 5 ?_;refine ku 5 E eQ (oq A13 m (c-k) _ _ (St.rd 0 tC E) (gX _) hQ) ?_;rintro _ w58 ⟨A54,c55,rfl,aEx,aEy⟩;refine⟨_,E,?_⟩;have zT:=tC.wT aEx aEy;refine aW 12 ?_;refine zN 3 ?_;have Cq:=zT.bq [3,2,1];have O:=(fH (Cq.own 0 E)).1;have vS:=Cq.bZ 0 E;have I:((l.drop k).take m).length=m:=by rw[eD,dO];omega
    rw[DF (b:=⟨ro,ep,fr,tg,rd,l⟩) h7 uQ uQ hm];dsimp only;rw[jf (λh=>hend Y)];refine⟨A54,c55,?_,?_,?_⟩
    · dsimp only;rw[I];exact O
    · dsimp only;rw[I];rfl
    · dsimp only;rw[I];exact vS
   refine zQ ?_;have IB:=Bc.drew;refine aU 19 IB [] ?_;refine aW 4 ?_;refine ak (v:=.slice A13 m (c-k)) 4 E IB (λ_ _=>(lX E E (kN E) (kN E) qG (aq4 _))) ?_;refine aW 3 ?_;refine bJ 5 ?_;refine ku 5 E eQ (oq A13 m (c-k) _ _ (St.rd 0 IB E) (gX _) hQ) ?_;rintro _ w85 ⟨A81,c82,rfl,aEz,aEA⟩;refine⟨_,E,?_⟩;have Ei:=IB.wT aEz aEA;refine aW 12 ?_;refine zN 3 ?_;have BQ:=Ei.bq [3,2,1];have O:=(fH (BQ.own 0 E)).1;have Fw:=BQ.bZ 0 E;have I:((l.drop k).take m).length=m:=by rw[eD,dO];omega
   rw[DF (b:=⟨ro,ep,fr,tg,rd,l⟩) h7 uQ uQ hm];dsimp only;rw[jf (λh=>hr3 h.1)];refine⟨A81,c82,?_,?_,?_⟩
   · dsimp only;rw[I];exact O
   · dsimp only;rw[I];rfl
   · dsimp only;rw[I];exact Fw
  refine zN 4 ?_;by_cases h94:ro=3
  ·refine zN 11 ?_;by_cases h95:hv<0
   ·refine zN 21 ?_;have IJ:=S5.bq [1,0];rw[show jq ⟨ro,ep,fr,tg,rd,l⟩ hv=([],false,2)from by unfold jq;(try dsimp only);exact ni];exact⟨none,0,aG _,E,aI IJ⟩
   refine zN 6 ?_;by_cases h97:(l.length:Int)<hv
   ·refine zN 15 ?_;have FB:=S5.bq [1,0];rw[show jq ⟨ro,ep,fr,tg,rd,l⟩ hv=([],false,2)from by unfold jq;(try dsimp only);exact ni];exact⟨none,0,aG _,E,aI FB⟩
   refine zN 8 ?_;obtain⟨k,rfl⟩:∃k:Nat,hv=k:=⟨hv.toNat,by omega⟩;obtain⟨m,hm⟩:∃m,min (k+3) l.length=k+m:=⟨min (k+3) l.length-k,by omega⟩;refine zN 2 ?_;refine vv (v:=D ((k+3:Nat):Int)) jW ?_;refine zN 3 ?_;refine vv (v:=D ((k+m:Nat):Int)) (uq (vs:=[D ((k+3:Nat):Int),D (l.length:Int)]) E zL λ_=>by rw[YI,hm]) ?_;refine zN 3 ?_;obtain⟨Z,agK,azT,aKL⟩:=Iw (P:=tP) (t:=40) (enc:=Ev.cells) (s:=6) (λ_=>E) (A:=A) (b:=l) (n:=l.length) (c:=c) (lo:=(some (D (k:Int)))) (hi:=(some (D ((k+m:Nat):Int)))) (mx:=none) (l:=k) (k:=k+m) (q:=c) (m:=m) (c':=c-k) underlying40 kQ (Zl k (k+m) E E Y Y) Y Y Y Y Y;have xX:=S5.dJ (azT _ _ (S5.all 1 _ E));by_cases hr3:ro=3
   ·by_cases hend:((k+m:Nat):Int)=(l.length:Int)
    ·refine zQ ?_;have Bu:=xX.drew;refine aU 19 Bu [] ?_;refine aW 4 ?_;refine ak (v:=.slice Z m (c-k)) 4 E Bu (λ_ _=>(lX E E (kN E) (kN E) qG (agK _))) ?_;refine aW 3 ?_;refine bJ 5 ?_;refine ku 5 E eQ (oq Z m (c-k) _ _ (St.rd 0 Bu E) (gX _) hQ) ?_;rintro _ aeH ⟨aEB,aEC,rfl,azU,azV⟩;refine⟨_,E,?_⟩;have yU:=Bu.wT azU azV;refine aW 12 ?_;refine zN 3 ?_;have CB:=yU.bq [3,2,1];have O:=(fH (CB.own 0 E)).1;have aeJ:=CB.bZ 0 E;have I:((l.drop k).take m).length=m:=by rw[eD,dO];omega
     rw[DF (b:=⟨ro,ep,fr,tg,rd,l⟩) h7 uQ uQ hm];dsimp only;rw[ko ⟨hr3,by omega⟩];refine⟨aEB,aEC,?_,?_,?_⟩
     · dsimp only;rw[I];exact O
     · dsimp only;rw[I];rfl
     · dsimp only;rw[I];exact aeJ
    refine zQ ?_;have Bv:=xX.drew;refine aU 19 Bv [] ?_;refine aW 4 ?_;refine ak (v:=.slice Z m (c-k)) 4 E Bv (λ_ _=>(lX E E (kN E) (kN E) qG (agK _))) ?_;refine aW 3 ?_;refine bJ 5 ?_;refine ku 5 E eQ (oq Z m (c-k) _ _ (St.rd 0 Bv E) (gX _) hQ) ?_;rintro _ akG ⟨aED,c141,rfl,azW,azX⟩;refine⟨_,E,?_⟩;have OE:=Bv.wT azW azX;refine aW 12 ?_;refine zN 3 ?_;have aeP:=OE.bq [3,2,1];have O:=(fH (aeP.own 0 E)).1;have aq5:=aeP.bZ 0 E;have I:((l.drop k).take m).length=m:=by rw[eD,dO];omega
    rw[DF (b:=⟨ro,ep,fr,tg,rd,l⟩) h7 uQ uQ hm];dsimp only;rw[jf (λh=>hend Y)];refine⟨aED,c141,?_,?_,?_⟩
    · dsimp only;rw[I];exact O
    · dsimp only;rw[I];rfl
    · dsimp only;rw[I];exact aq5
   refine zQ ?_;have M:=xX.drew;refine F8 (C:=λw'=>St w.heap.size w w' [.rd 6 Z m (((l.drop k).take m).flatMap Ev.cells),.Oy b1 #[D ro,D ep,D fr,D tg,D rd,.slice A l.length c] 42,.rd 6 A l.length ((l).flatMap Ev.cells)]) (n:=19) (listed:= #[false,false,false,false,false,false,false,false,false,false,false,false,false,false,false,false,false,false,false]) mixed E E ?_;refine ak (v:=pV b1 5) 0 E M (λ_ _=>vP _ ahd) ?_;refine ak (v:=.slice A l.length c) 1 E M (λ_ agL=>(aA E E (aV (St.cl 1 agL E E)))) ?_;refine ak (v:=D (k:Int)) 2 E M (λ_ _=>ym) ?_;refine ak (v:=D ((k+m:Nat):Int)) 3 E M (λ_ _=>ym) ?_;refine ak (v:=.slice Z m (c-k)) 4 E M (λ_ _=>(lX E E (kN E) (kN E) qG (agK _))) ?_;refine ak (v:=pV b1 0) 6 E M (λ_ _=>vP _ ahc) ?_;refine ak (v:=D ro) 7 E M (λ_ azY=>(aA E E (aV (St.cl 1 azY E E)))) ?_;refine ak (v:=.bool false) 8 E M (λ_ _=>azB hr3) ?_;refine bJ 5 ?_;refine ku 5 E eQ (oq Z m (c-k) _ _ (St.rd 0 M E) (gX _) hQ) ?_;rintro _ aD5 ⟨axg,c168,rfl,azZ,az0⟩;refine⟨_,E,?_⟩;have J:=M.wT azZ az0;refine⟨(St.del 0 J),?_⟩;refine ak (v:=.bool false) 9 E (St.del 0 J) (λ_ _=>ym) ?_;refine Dp (i:=10) (n:=8) E kQ kQ kQ (St.del 0 J) E (wg E E E E) E E ?_;refine Dp (i:=11) (n:=7) E kQ kQ kQ (St.del 0 J) E (wg E E E E) E E ?_;refine Dp (i:=12) (n:=6) E kQ kQ kQ (St.del 0 J) E (wg E E E E) E E ?_;refine Dp (i:=13) (n:=5) E kQ kQ kQ (St.del 0 J) E (wg E E E E) E E ?_;refine Dp (i:=14) (n:=4) E kQ kQ kQ (St.del 0 J) E (wg E E E E) E E ?_;refine ak (v:=.bool false) 15 E (St.del 0 J) (λ_ _=>ypF) ?_;refine ak (v:=.slice axg m c168) 16 E (St.del 0 J) (λ_ _=>ya) ?_;refine ak (v:=.bool false) 17 E (St.del 0 J) (λ_ _=>ya) ?_;refine ak (v:=D 0) 18 E (St.del 0 J) (λ_ _=>ya) ?_;refine dI ?_;refine zN 3 ?_;have Zu:=J.bq [3,2,1];have O:=(fH (Zu.own 0 E)).1;have aEE:=Zu.bZ 0 E;have I:((l.drop k).take m).length=m:=by rw[eD,dO];omega
   rw[DF (b:=⟨ro,ep,fr,tg,rd,l⟩) h7 uQ uQ hm];dsimp only;rw[jf (λh=>hr3 h.1)];refine⟨axg,c168,?_,?_,?_⟩
   · dsimp only;rw[I];exact O
   · dsimp only;rw[I];rfl
   · dsimp only;rw[I];exact aEE
  refine zN 15 ?_;have aeQ:=S5.bq [1,0];rw[show jq ⟨ro,ep,fr,tg,rd,l⟩ hv=([],false,7)from by unfold jq;(try dsimp only);exact ni];exact⟨none,0,aG _,E,aI aeQ⟩
 refine zN 15 ?_;have Vs:=S5.bq [1,0];rw[show jq ⟨ro,ep,fr,tg,rd,l⟩ hv=([],false,ay ⟨ro,ep,fr,tg,rd,l⟩)from by unfold jq;(try dsimp only);exact ni];exact⟨none,0,aG _,E,aI Vs⟩
def adI(A:Option Addr)(n c:Nat)(l:List Value)(w:World)(h:Rd w w.heap.size 6 A n l)(I:∀u∈l,u.oneCell'=true)(Z:n*64<=reachBytes):
 Calls prog 53 #[.slice A n c] w (kS w 42 6 n l):=by
 unfold reachBytes at Z;have S:=(St.start w).dJ h;refine jc 8 func53 ?_;refine cw [0] ?_;refine zN 9 ?_
 cases A with
 |none=>
  obtain⟨rfl,rfl⟩:=K5 h;refine vv (v:=.bool true) (cK E E E (yu underlying43)) ?_;refine zN 11 ?_;exact kS.of (Below.refl _ _) (kH _ _ _ _)
 |some a=>
  refine vv (v:=.bool false) (cK E E E (yu underlying43)) ?_;refine zN 7 ?_;refine uw (V:=λb=>.slice (aD b 0) 0 0) (row:= #[]) (t:=42) (n:=0) (s:=6) (xs:=[]) S (wn E) E E (bD (vs:=[]) E trivial kQ) iQ (aG _) E ?_;intro b1 w2 M;refine zQ ?_;refine eG (news:=l) (xs':=l) 0 M (wn E) E E E E E E (St.rd 1 M E) underlying43 asX E dQ I lQ Y E ?_;intro A4 c5 w6 hc8 BP S7;refine zN 5 ?_;have J:=S7.bq [1];have O:=J.own 0 E;simp only[Nat.zero_add]at O⊢;exact kS.of J.Qe O
def St.lS{B:Nat}{w0 w:World}{fs:List OJ}{b n s:Nat}{row:Array Value}{t:TypeId}{xs:List Value}(i:Nat)(S:St B w0 w fs)(hi:fs[i]? =some (.Oy b row t))(I:row.toList=xs)(J:xs.length=n*s):St B w0 w (fs.set i (.dR s (some ⟨b,0,none⟩) n xs)):=
 St.turn i S hi S.Qe aB (λ_ _ _=>E) ⟨St.nP i S hi I J,λa h=>by cases h;exact⟨St.ge i S hi,St.lt i S hi⟩⟩ (λk M=>.inl M)
def eF(g:Nat)(p:Nat×Int):List Value:=[.pointer (some ⟨g,p.1,none⟩),.int .i64 p.2]
def dH(kd ek:Int):ByteArray:=
 if kd=1 then⟨#[109,97,107,101]⟩else if kd=10 then⟨#[109,111,118,101]⟩else if kd=3 then⟨#[115,116,101,112]⟩else if kd=9 then⟨#[115,116,97,114,116]⟩else if kd=8 then⟨#[99,114,97,115,104]⟩
 else if kd=4 then⟨#[99,97,114,114,121]⟩else if kd=5 then⟨#[108,111,115,101]⟩else if kd=6 then⟨#[100,111,117,98,108,101]⟩else if kd=7 then⟨#[97,108,108]⟩
 else if kd=2 then(if ek=1 then⟨#[112,117,98,108,105,115,104]⟩else if ek=2 then⟨#[114,101,99,101,105,118,101]⟩else if ek=3 then⟨#[97,99,107]⟩else⟨#[]⟩)else⟨#[]⟩
def ajd(w:World)(g:Nat)(u:ByteArray)(r:Option (List (Nat×Int)))(e:Ending)(w':World):Prop:=match r with
 |none=>e=.returned (.tuple #[.string u,.slice none 0 0,.bool false])/\Below w.heap.size w w'
 |some l=> ∃A,e=.returned (.tuple #[.string u,.slice A l.length l.length,.bool true])/\St w.heap.size w w' [.dR 2 A l.length (l.flatMap (eF g))]
def Ac.apM(x:Ac){i:Nat}(h:i<11):x.cells.toArray[i]? =some (.int .i64 (x.get i)):=by rw[getElem?_toArray];exact x.cell h
def aaW(g:Nat)(x:Ac)(w:World)(h:Rd w w.heap.size 11 (aD g 0) 1 x.cells):
 Calls prog 28 #[pV g 0] w (ajd w g (dH x.kd x.ek) (dD x.kd x.ek)):=by
 have S:=(St.start w).dJ h;refine jc 111 func28 ?_;refine cw [0] ?_;refine zN 8 ?_;have S1:=S.drew;refine F8 (C:=λw'=>St w.heap.size w w' [.rd 11 (aD g 0) 1 x.cells]) (n:=12) (listed:= #[false,false,false,false,false,false,false,false,false,false,false,false]) mixed E E ?_;refine aW 3 ?_;refine ak (v:=.agg #[pV g 1,D 4]) 3 E S1 (λ_ _=>iJ) ?_;refine aW 3 ?_;refine ak (v:=.agg #[pV g 2,D 3]) 7 E S1 (λ_ _=>iJ) ?_;refine gL (n:=3) (r:=8) (s:=9) kQ ?_ ?_
 ·refine nT 8 E S1 Iu ?_;intro b10 L6 sI;refine dI ?_;refine bJ 9 ?_;refine nT 9 E sI Iu ?_;intro b13 Py kP;refine dI ?_;refine bJ 10 ?_;refine sn 10 E 1 kP kQ ?_;intro w16 Bc;refine dI ?_;refine bJ 11 ?_;refine sn 11 E 0 Bc kQ ?_;intro Pq xg;refine aW 2 ?_;refine zN 6 ?_;refine vv (v:=.agg #[pV g 3,D 1048576]) iJ ?_;refine iU xg Iu ?_;intro b20 Iz l6;refine sa 0 l6 kQ ?_;intro Ma l7;refine zN 8 ?_;refine vv (v:=D x.kd) (aA E E (aV (Rd.cl (j:=0) (St.rd 3 l7 E) E))) ?_;refine zN 5 ?_;by_cases xu:x.kd=1
  ·refine zN 6 ?_;have vK:=l7.drew;refine aU 6 vK [] ?_;refine aW 3 ?_;refine bJ 2 ?_;refine jm (i:=2) E E (V:=λb=>.slice (aD b 0) 2 2) (row:= #[pV g 2,D 3,pV g 1,D 4]) (t:=114) vK (wn E) E E (bD (vs:=[(0,.agg #[pV g 2,D 3]),(1,.agg #[pV g 1,D 4])]) E lU kQ) ?_;intro b30 w31 wP;refine aW 4 ?_;refine zN 5 ?_;rw[show dH x.kd x.ek=⟨#[109,97,107,101]⟩from by simp[dH,xu]];have CV:=wP.bq [4,3,2,1];rw[show dD x.kd x.ek=some [(2,3),(1,4)]from by simp[dD,xu]];exact⟨_,E,St.lS (n:=2) (xs:=([(2,3),(1,4)]:List (Nat×Int)).flatMap (eF g)) 0 CV E E E⟩
  refine zN 7 ?_;by_cases BZ:x.kd=10
  ·refine zN 6 ?_;have Fz:=l7.drew;refine aU 6 Fz [] ?_;refine aW 3 ?_;refine bJ 2 ?_;refine jm (i:=2) E E (V:=λb=>.slice (aD b 0) 2 2) (row:= #[pV g 2,D 3,pV g 1,D 4]) (t:=114) Fz (wn E) E E (bD (vs:=[(0,.agg #[pV g 2,D 3]),(1,.agg #[pV g 1,D 4])]) E lU kQ) ?_;intro b41 YN wO;refine aW 4 ?_;refine zN 5 ?_;rw[show dH x.kd x.ek=⟨#[109,111,118,101]⟩from by simp[dH,xu,BZ]];have zf:=wO.bq [4,3,2,1];rw[show dD x.kd x.ek=some [(2,3),(1,4)]from by simp[dD,xu,BZ]];exact⟨_,E,St.lS (n:=2) (xs:=([(2,3),(1,4)]:List (Nat×Int)).flatMap (eF g)) 0 zf E E E⟩
  refine zN 7 ?_;by_cases h47:x.kd=3
  ·refine zN 6 ?_;have CU:=l7.drew;refine aU 5 CU [] ?_;refine aW 2 ?_;refine bJ 1 ?_;refine zM 1 E CU ?_;intro b51 w52 CP;refine aW 4 ?_;refine zN 5 ?_;rw[show dH x.kd x.ek=⟨#[115,116,101,112]⟩from by simp[dH,xu,BZ,h47]];have YU:=CP.bq [4,3,2,1];rw[show dD x.kd x.ek=some [(1,4)]from by simp[dD,xu,BZ,h47]];exact⟨_,E,St.lS (n:=1) (xs:=([(1,4)]:List (Nat×Int)).flatMap (eF g)) 0 YU E E E⟩
  refine zN 7 ?_;by_cases h57:x.kd=9
  ·refine zN 6 ?_;have FC:=l7.drew;refine aU 5 FC [] ?_;refine aW 2 ?_;refine bJ 1 ?_;refine zM 1 E FC ?_;intro b61 w62 ze;refine aW 4 ?_;refine zN 5 ?_;rw[show dH x.kd x.ek=⟨#[115,116,97,114,116]⟩from by simp[dH,xu,BZ,h47,h57]];have Ke:=ze.bq [4,3,2,1];rw[show dD x.kd x.ek=some [(1,4)]from by simp[dD,xu,BZ,h47,h57]];exact⟨_,E,St.lS (n:=1) (xs:=([(1,4)]:List (Nat×Int)).flatMap (eF g)) 0 Ke E E E⟩
  refine zN 7 ?_;by_cases EP:x.kd=8
  ·refine zN 6 ?_;have EL:=l7.drew;refine aU 9 EL [] ?_;refine aW 4 ?_;refine ak (v:=.agg #[pV g 4,D 100000]) 4 E EL (λ_ _=>iJ) ?_;refine dI ?_;refine bJ 5 ?_;refine jm (i:=5) E E (V:=λb=>.slice (aD b 0) 2 2) (row:= #[pV g 1,D 4,pV g 4,D 100000]) (t:=114) EL (wn E) E E (bD (vs:=[(0,.agg #[pV g 1,D 4]),(1,.agg #[pV g 4,D 100000])]) E lU kQ) ?_;intro b75 w76 IC;refine aW 4 ?_;refine zN 5 ?_;rw[show dH x.kd x.ek=⟨#[99,114,97,115,104]⟩from by simp[dH,xu,BZ,h47,h57,EP]];have Eh:=IC.bq [4,3,2,1];rw[show dD x.kd x.ek=some [(1,4),(4,100000)]from by simp[dD,xu,BZ,h47,h57,EP]];exact⟨_,E,St.lS (n:=2) (xs:=([(1,4),(4,100000)]:List (Nat×Int)).flatMap (eF g)) 0 Eh E E E⟩
  refine zN 7 ?_;by_cases Kn:x.kd=4
  ·refine zN 6 ?_;have S82:=l7.drew;refine aU 5 S82 [] ?_;refine aW 2 ?_;refine bJ 1 ?_;refine zM 1 E S82 ?_;intro b85 w86 JC;refine aW 4 ?_;refine zN 5 ?_;rw[show dH x.kd x.ek=⟨#[99,97,114,114,121]⟩from by simp[dH,xu,BZ,h47,h57,EP,Kn]];have S90:=JC.bq [4,3,2,1];rw[show dD x.kd x.ek=some [(3,1048576)]from by simp[dD,xu,BZ,h47,h57,EP,Kn]];exact⟨_,E,St.lS (n:=1) (xs:=([(3,1048576)]:List (Nat×Int)).flatMap (eF g)) 0 S90 E E E⟩
  refine zN 7 ?_;by_cases JE:x.kd=5
  ·refine zN 6 ?_;have BQ:=l7.drew;refine aU 5 BQ [] ?_;refine aW 2 ?_;refine bJ 1 ?_;refine zM 1 E BQ ?_;intro b95 w96 II;refine aW 4 ?_;refine zN 5 ?_;rw[show dH x.kd x.ek=⟨#[108,111,115,101]⟩from by simp[dH,xu,BZ,h47,h57,EP,Kn,JE]];have yT:=II.bq [4,3,2,1];rw[show dD x.kd x.ek=some [(3,1048576)]from by simp[dD,xu,BZ,h47,h57,EP,Kn,JE]];exact⟨_,E,St.lS (n:=1) (xs:=([(3,1048576)]:List (Nat×Int)).flatMap (eF g)) 0 yT E E E⟩
  refine zN 7 ?_;by_cases El:x.kd=6
  ·refine zN 6 ?_;have wh:=l7.drew;refine aU 5 wh [] ?_;refine aW 2 ?_;refine bJ 1 ?_;refine zM 1 E wh ?_;intro aOe aeN Hg;refine aW 4 ?_;refine zN 5 ?_;rw[show dH x.kd x.ek=⟨#[100,111,117,98,108,101]⟩from by simp[dH,xu,BZ,h47,h57,EP,Kn,JE,El]];have uz:=Hg.bq [4,3,2,1];rw[show dD x.kd x.ek=some [(3,1048576)]from by simp[dD,xu,BZ,h47,h57,EP,Kn,JE,El]];exact⟨_,E,St.lS (n:=1) (xs:=([(3,1048576)]:List (Nat×Int)).flatMap (eF g)) 0 uz E E E⟩
  refine zN 7 ?_;by_cases Hl:x.kd=7
  ·refine zN 16 ?_;rw[show dH x.kd x.ek=⟨#[97,108,108]⟩from by simp[dH,xu,BZ,h47,h57,EP,Kn,JE,El,Hl]];have Ej:=l7.bq [3,2,1,0];rw[show dD x.kd x.ek=some []from by simp[dD,xu,BZ,h47,h57,EP,Kn,JE,El,Hl]];exact⟨none,E,aI Ej⟩
  refine zN 7 ?_;by_cases Ld:x.kd=2
  ·refine zN 18 ?_;refine vv (v:=D x.ek) (aA E E (aV (Rd.cl (j:=5) (St.rd 3 l7 E) E))) ?_;refine zN 5 ?_;by_cases JG:x.ek=1
   ·refine zN 6 ?_;have sS:=l7.drew;refine aU 18 sS [] ?_;refine aW 5 ?_;refine ak (v:=.agg #[pV g 6,D 3]) 5 E sS (λ_ _=>iJ) ?_;refine aW 3 ?_;refine ak (v:=.agg #[pV g 7,D 1073741824]) 9 E sS (λ_ _=>iJ) ?_;refine aW 3 ?_;refine ak (v:=.agg #[pV g 8,D 1000000]) 13 E sS (λ_ _=>iJ) ?_;refine dI ?_;refine bJ 14 ?_;refine jm (i:=14) E E (V:=λb=>.slice (aD b 0) 5 5) (row:= #[pV g 1,D 4,pV g 2,D 3,pV g 6,D 3,pV g 7,D 1073741824,pV g 8,D 1000000]) (t:=114) sS (wn E) E E (bD (vs:=[(0,.agg #[pV g 1,D 4]),(1,.agg #[pV g 2,D 3]),(2,.agg #[pV g 6,D 3]),(3,.agg #[pV g 7,D 1073741824]),(4,.agg #[pV g 8,D 1000000])]) E avV kQ) ?_;intro aOf aEF Vr;refine aW 4 ?_;refine zN 6 ?_;rw[show dH x.kd x.ek=⟨#[112,117,98,108,105,115,104]⟩from by simp[dH,xu,BZ,h47,h57,EP,Kn,JE,El,Hl,Ld,JG]];have OG:=Vr.bq [4,3,2,1];rw[show dD x.kd x.ek=some [(1,4),(2,3),(6,3),(7,1073741824),(8,1000000)]from by simp[dD,xu,BZ,h47,h57,EP,Kn,JE,El,Hl,Ld,JG]];exact⟨_,E,St.lS (n:=5) (xs:=([(1,4),(2,3),(6,3),(7,1073741824),(8,1000000)]:List (Nat×Int)).flatMap (eF g)) 0 OG E E E⟩
   refine zN 7 ?_;by_cases Zv:x.ek=2
   ·refine zN 6 ?_;have GZ:=l7.drew;refine aU 6 GZ [] ?_;refine aW 3 ?_;refine bJ 2 ?_;refine jm (i:=2) E E (V:=λb=>.slice (aD b 0) 2 2) (row:= #[pV g 1,D 4,pV g 2,D 3]) (t:=114) GZ (wn E) E E (bD (vs:=[(0,.agg #[pV g 1,D 4]),(1,.agg #[pV g 2,D 3])]) E lU kQ) ?_;intro awC aEG Zw;refine aW 4 ?_;refine zN 6 ?_;rw[show dH x.kd x.ek=⟨#[114,101,99,101,105,118,101]⟩from by simp[dH,xu,BZ,h47,h57,EP,Kn,JE,El,Hl,Ld,JG,Zv]];have Vl:=Zw.bq [4,3,2,1];rw[show dD x.kd x.ek=some [(1,4),(2,3)]from by simp[dD,xu,BZ,h47,h57,EP,Kn,JE,El,Hl,Ld,JG,Zv]];exact⟨_,E,St.lS (n:=2) (xs:=([(1,4),(2,3)]:List (Nat×Int)).flatMap (eF g)) 0 Vl E E E⟩
   refine zN 7 ?_;by_cases akM:x.ek=3
   ·refine zN 6 ?_;have Cy:=l7.drew;refine aU 16 Cy [] ?_;refine aW 6 ?_;refine ak (v:=.agg #[pV g 9,D 1048576]) 6 E Cy (λ_ _=>iJ) ?_;refine aW 4 ?_;refine ak (v:=.agg #[pV g 10,D 1073741824]) 11 E Cy (λ_ _=>iJ) ?_;refine dI ?_;refine bJ 12 ?_;refine jm (i:=12) E E (V:=λb=>.slice (aD b 0) 4 4) (row:= #[pV g 1,D 4,pV g 2,D 3,pV g 9,D 1048576,pV g 10,D 1073741824]) (t:=114) Cy (wn E) E E (bD (vs:=[(0,.agg #[pV g 1,D 4]),(1,.agg #[pV g 2,D 3]),(2,.agg #[pV g 9,D 1048576]),(3,.agg #[pV g 10,D 1073741824])]) E YH kQ) ?_;intro aOg awG Bq;refine aW 4 ?_;refine zN 6 ?_;rw[show dH x.kd x.ek=⟨#[97,99,107]⟩from by simp[dH,xu,BZ,h47,h57,EP,Kn,JE,El,Hl,Ld,JG,Zv,akM]];have aeR:=Bq.bq [4,3,2,1];rw[show dD x.kd x.ek=some [(1,4),(2,3),(9,1048576),(10,1073741824)]from by simp[dD,xu,BZ,h47,h57,EP,Kn,JE,El,Hl,Ld,JG,Zv,akM]];exact⟨_,E,St.lS (n:=4) (xs:=([(1,4),(2,3),(9,1048576),(10,1073741824)]:List (Nat×Int)).flatMap (eF g)) 0 aeR E E E⟩
   refine zN 18 ?_;rw[show dH x.kd x.ek=⟨#[]⟩from by simp[dH,xu,BZ,h47,h57,EP,Kn,JE,El,Hl,Ld,JG,Zv,akM]];rw[show dD x.kd x.ek=none from by simp[dD,xu,BZ,h47,h57,EP,Kn,JE,El,Hl,Ld,JG,Zv,akM]];exact⟨E,l7.Qe⟩
  refine zN 17 ?_;rw[show dH x.kd x.ek=⟨#[]⟩from by simp[dH,xu,BZ,h47,h57,EP,Kn,JE,El,Hl,Ld]];rw[show dD x.kd x.ek=none from by simp[dD,xu,BZ,h47,h57,EP,Kn,JE,El,Hl,Ld]];exact⟨E,l7.Qe⟩
 refine nT 9 E S1 Iu ?_;intro aOh aOi aqW;refine dI ?_;refine bJ 8 ?_;refine nT 8 E aqW Iu ?_;intro aq6 aD6 aek;refine dI ?_;refine bJ 10 ?_;refine sn 10 E 0 aek kQ ?_;intro aOj aeS;refine dI ?_;refine bJ 11 ?_;refine sn 11 E 1 aeS kQ ?_;intro aEH Zu;refine aW 2 ?_;refine zN 6 ?_;refine vv (v:=.agg #[pV g 3,D 1048576]) iJ ?_;refine iU Zu Iu ?_;intro aOk aEI Vs;refine sa 0 Vs kQ ?_;intro aOl Bw;refine zN 8 ?_;refine vv (v:=D x.kd) (aA E E (aV (Rd.cl (j:=0) (St.rd 3 Bw E) E))) ?_;refine zN 5 ?_;by_cases I:x.kd=1
 ·refine zN 6 ?_;have axh:=Bw.drew;refine aU 6 axh [] ?_;refine aW 3 ?_;refine bJ 2 ?_;refine jm (i:=2) E E (V:=λb=>.slice (aD b 0) 2 2) (row:= #[pV g 2,D 3,pV g 1,D 4]) (t:=114) axh (wn E) E E (bD (vs:=[(0,.agg #[pV g 2,D 3]),(1,.agg #[pV g 1,D 4])]) E lU kQ) ?_;intro aOm aEJ aq7;refine aW 4 ?_;refine zN 5 ?_;rw[show dH x.kd x.ek=⟨#[109,97,107,101]⟩from by simp[dH,I]];have Vt:=aq7.bq [4,3,2,1];rw[show dD x.kd x.ek=some [(2,3),(1,4)]from by simp[dD,I]];exact⟨_,E,St.lS (n:=2) (xs:=([(2,3),(1,4)]:List (Nat×Int)).flatMap (eF g)) 0 Vt E E E⟩
 refine zN 7 ?_;by_cases J:x.kd=10
 ·refine zN 6 ?_;have axi:=Bw.drew;refine aU 6 axi [] ?_;refine aW 3 ?_;refine bJ 2 ?_;refine jm (i:=2) E E (V:=λb=>.slice (aD b 0) 2 2) (row:= #[pV g 2,D 3,pV g 1,D 4]) (t:=114) axi (wn E) E E (bD (vs:=[(0,.agg #[pV g 2,D 3]),(1,.agg #[pV g 1,D 4])]) E lU kQ) ?_;intro aOn aOo aEK;refine aW 4 ?_;refine zN 5 ?_;rw[show dH x.kd x.ek=⟨#[109,111,118,101]⟩from by simp[dH,I,J]];have aq8:=aEK.bq [4,3,2,1];rw[show dD x.kd x.ek=some [(2,3),(1,4)]from by simp[dD,I,J]];exact⟨_,E,St.lS (n:=2) (xs:=([(2,3),(1,4)]:List (Nat×Int)).flatMap (eF g)) 0 aq8 E E E⟩
 refine zN 7 ?_;by_cases M:x.kd=3
 ·refine zN 6 ?_;have akN:=Bw.drew;refine aU 5 akN [] ?_;refine aW 2 ?_;refine bJ 1 ?_;refine zM 1 E akN ?_;intro axj aEL aeT;refine aW 4 ?_;refine zN 5 ?_;rw[show dH x.kd x.ek=⟨#[115,116,101,112]⟩from by simp[dH,I,J,M]];have aEM:=aeT.bq [4,3,2,1];rw[show dD x.kd x.ek=some [(1,4)]from by simp[dD,I,J,M]];exact⟨_,E,St.lS (n:=1) (xs:=([(1,4)]:List (Nat×Int)).flatMap (eF g)) 0 aEM E E E⟩
 refine zN 7 ?_;by_cases O:x.kd=9
 ·refine zN 6 ?_;have axk:=Bw.drew;refine aU 5 axk [] ?_;refine aW 2 ?_;refine bJ 1 ?_;refine zM 1 E axk ?_;intro aOp aOq aEN;refine aW 4 ?_;refine zN 5 ?_;rw[show dH x.kd x.ek=⟨#[115,116,97,114,116]⟩from by simp[dH,I,J,M,O]];have aq9:=aEN.bq [4,3,2,1];rw[show dD x.kd x.ek=some [(1,4)]from by simp[dD,I,J,M,O]];exact⟨_,E,St.lS (n:=1) (xs:=([(1,4)]:List (Nat×Int)).flatMap (eF g)) 0 aq9 E E E⟩
 refine zN 7 ?_;by_cases Z:x.kd=8
 ·refine zN 6 ?_;have aeU:=Bw.drew;refine aU 9 aeU [] ?_;refine aW 4 ?_;refine ak (v:=.agg #[pV g 4,D 100000]) 4 E aeU (λ_ _=>iJ) ?_;refine dI ?_;refine bJ 5 ?_;refine jm (i:=5) E E (V:=λb=>.slice (aD b 0) 2 2) (row:= #[pV g 1,D 4,pV g 4,D 100000]) (t:=114) aeU (wn E) E E (bD (vs:=[(0,.agg #[pV g 1,D 4]),(1,.agg #[pV g 4,D 100000])]) E lU kQ) ?_;intro aOr aOs aEO;refine aW 4 ?_;refine zN 5 ?_;rw[show dH x.kd x.ek=⟨#[99,114,97,115,104]⟩from by simp[dH,I,J,M,O,Z]];have ara:=aEO.bq [4,3,2,1];rw[show dD x.kd x.ek=some [(1,4),(4,100000)]from by simp[dD,I,J,M,O,Z]];exact⟨_,E,St.lS (n:=2) (xs:=([(1,4),(4,100000)]:List (Nat×Int)).flatMap (eF g)) 0 ara E E E⟩
 refine zN 7 ?_;by_cases yX:x.kd=4
 ·refine zN 6 ?_;have axl:=Bw.drew;refine aU 5 axl [] ?_;refine aW 2 ?_;refine bJ 1 ?_;refine zM 1 E axl ?_;intro aOt aOu aEP;refine aW 4 ?_;refine zN 5 ?_;rw[show dH x.kd x.ek=⟨#[99,97,114,114,121]⟩from by simp[dH,I,J,M,O,Z,yX]];have aEQ:=aEP.bq [4,3,2,1];rw[show dD x.kd x.ek=some [(3,1048576)]from by simp[dD,I,J,M,O,Z,yX]];exact⟨_,E,St.lS (n:=1) (xs:=([(3,1048576)]:List (Nat×Int)).flatMap (eF g)) 0 aEQ E E E⟩
 refine zN 7 ?_;by_cases Bz:x.kd=5
 ·refine zN 6 ?_;have Vu:=Bw.drew;refine aU 5 Vu [] ?_;refine aW 2 ?_;refine bJ 1 ?_;refine zM 1 E Vu ?_;intro axn aER arb;refine aW 4 ?_;refine zN 5 ?_;rw[show dH x.kd x.ek=⟨#[108,111,115,101]⟩from by simp[dH,I,J,M,O,Z,yX,Bz]];have akO:=arb.bq [4,3,2,1];rw[show dD x.kd x.ek=some [(3,1048576)]from by simp[dD,I,J,M,O,Z,yX,Bz]];exact⟨_,E,St.lS (n:=1) (xs:=([(3,1048576)]:List (Nat×Int)).flatMap (eF g)) 0 akO E E E⟩
 refine zN 7 ?_;by_cases Em:x.kd=6
 ·refine zN 6 ?_;have axo:=Bw.drew;refine aU 5 axo [] ?_;refine aW 2 ?_;refine bJ 1 ?_;refine zM 1 E axo ?_;intro aOv aOw aES;refine aW 4 ?_;refine zN 5 ?_;rw[show dH x.kd x.ek=⟨#[100,111,117,98,108,101]⟩from by simp[dH,I,J,M,O,Z,yX,Bz,Em]];have aET:=aES.bq [4,3,2,1];rw[show dD x.kd x.ek=some [(3,1048576)]from by simp[dD,I,J,M,O,Z,yX,Bz,Em]];exact⟨_,E,St.lS (n:=1) (xs:=([(3,1048576)]:List (Nat×Int)).flatMap (eF g)) 0 aET E E E⟩
 refine zN 7 ?_;by_cases Ho:x.kd=7
 ·refine zN 16 ?_;rw[show dH x.kd x.ek=⟨#[97,108,108]⟩from by simp[dH,I,J,M,O,Z,yX,Bz,Em,Ho]];have ard:=Bw.bq [3,2,1,0];rw[show dD x.kd x.ek=some []from by simp[dD,I,J,M,O,Z,yX,Bz,Em,Ho]];exact⟨none,E,aI ard⟩
 refine zN 7 ?_;by_cases Le:x.kd=2
 ·refine zN 18 ?_;refine vv (v:=D x.ek) (aA E E (aV (Rd.cl (j:=5) (St.rd 3 Bw E) E))) ?_;refine zN 5 ?_;by_cases QW:x.ek=1
  ·refine zN 6 ?_;have aeV:=Bw.drew;refine aU 18 aeV [] ?_;refine aW 5 ?_;refine ak (v:=.agg #[pV g 6,D 3]) 5 E aeV (λ_ _=>iJ) ?_;refine aW 3 ?_;refine ak (v:=.agg #[pV g 7,D 1073741824]) 9 E aeV (λ_ _=>iJ) ?_;refine aW 3 ?_;refine ak (v:=.agg #[pV g 8,D 1000000]) 13 E aeV (λ_ _=>iJ) ?_;refine dI ?_;refine bJ 14 ?_;refine jm (i:=14) E E (V:=λb=>.slice (aD b 0) 5 5) (row:= #[pV g 1,D 4,pV g 2,D 3,pV g 6,D 3,pV g 7,D 1073741824,pV g 8,D 1000000]) (t:=114) aeV (wn E) E E (bD (vs:=[(0,.agg #[pV g 1,D 4]),(1,.agg #[pV g 2,D 3]),(2,.agg #[pV g 6,D 3]),(3,.agg #[pV g 7,D 1073741824]),(4,.agg #[pV g 8,D 1000000])]) E avV kQ) ?_;intro aOx aOy arf;refine aW 4 ?_;refine zN 6 ?_;rw[show dH x.kd x.ek=⟨#[112,117,98,108,105,115,104]⟩from by simp[dH,I,J,M,O,Z,yX,Bz,Em,Ho,Le,QW]];have aEU:=arf.bq [4,3,2,1];rw[show dD x.kd x.ek=some [(1,4),(2,3),(6,3),(7,1073741824),(8,1000000)]from by simp[dD,I,J,M,O,Z,yX,Bz,Em,Ho,Le,QW]];exact⟨_,E,St.lS (n:=5) (xs:=([(1,4),(2,3),(6,3),(7,1073741824),(8,1000000)]:List (Nat×Int)).flatMap (eF g)) 0 aEU E E E⟩
  refine zN 7 ?_;by_cases Zx:x.ek=2
  ·refine zN 6 ?_;have akP:=Bw.drew;refine aU 6 akP [] ?_;refine aW 3 ?_;refine bJ 2 ?_;refine jm (i:=2) E E (V:=λb=>.slice (aD b 0) 2 2) (row:= #[pV g 1,D 4,pV g 2,D 3]) (t:=114) akP (wn E) E E (bD (vs:=[(0,.agg #[pV g 1,D 4]),(1,.agg #[pV g 2,D 3])]) E lU kQ) ?_;intro aOz aOA aEV;refine aW 4 ?_;refine zN 6 ?_;rw[show dH x.kd x.ek=⟨#[114,101,99,101,105,118,101]⟩from by simp[dH,I,J,M,O,Z,yX,Bz,Em,Ho,Le,QW,Zx]];have aEW:=aEV.bq [4,3,2,1];rw[show dD x.kd x.ek=some [(1,4),(2,3)]from by simp[dD,I,J,M,O,Z,yX,Bz,Em,Ho,Le,QW,Zx]];exact⟨_,E,St.lS (n:=2) (xs:=([(1,4),(2,3)]:List (Nat×Int)).flatMap (eF g)) 0 aEW E E E⟩
  refine zN 7 ?_;by_cases akQ:x.ek=3
  ·refine zN 6 ?_;have akR:=Bw.drew;refine aU 16 akR [] ?_;refine aW 6 ?_;refine ak (v:=.agg #[pV g 9,D 1048576]) 6 E akR (λ_ _=>iJ) ?_;refine aW 4 ?_;refine ak (v:=.agg #[pV g 10,D 1073741824]) 11 E akR (λ_ _=>iJ) ?_;refine dI ?_;refine bJ 12 ?_;refine jm (i:=12) E E (V:=λb=>.slice (aD b 0) 4 4) (row:= #[pV g 1,D 4,pV g 2,D 3,pV g 9,D 1048576,pV g 10,D 1073741824]) (t:=114) akR (wn E) E E (bD (vs:=[(0,.agg #[pV g 1,D 4]),(1,.agg #[pV g 2,D 3]),(2,.agg #[pV g 9,D 1048576]),(3,.agg #[pV g 10,D 1073741824])]) E YH kQ) ?_;intro axp aEX aeW;refine aW 4 ?_;refine zN 6 ?_;rw[show dH x.kd x.ek=⟨#[97,99,107]⟩from by simp[dH,I,J,M,O,Z,yX,Bz,Em,Ho,Le,QW,Zx,akQ]];have akS:=aeW.bq [4,3,2,1];rw[show dD x.kd x.ek=some [(1,4),(2,3),(9,1048576),(10,1073741824)]from by simp[dD,I,J,M,O,Z,yX,Bz,Em,Ho,Le,QW,Zx,akQ]];exact⟨_,E,St.lS (n:=4) (xs:=([(1,4),(2,3),(9,1048576),(10,1073741824)]:List (Nat×Int)).flatMap (eF g)) 0 akS E E E⟩
  refine zN 18 ?_;rw[show dH x.kd x.ek=⟨#[]⟩from by simp[dH,I,J,M,O,Z,yX,Bz,Em,Ho,Le,QW,Zx,akQ]];rw[show dD x.kd x.ek=none from by simp[dD,I,J,M,O,Z,yX,Bz,Em,Ho,Le,QW,Zx,akQ]];exact⟨E,Bw.Qe⟩
 refine zN 17 ?_;rw[show dH x.kd x.ek=⟨#[]⟩from by simp[dH,I,J,M,O,Z,yX,Bz,Em,Ho,Le]];rw[show dD x.kd x.ek=none from by simp[dD,I,J,M,O,Z,yX,Bz,Em,Ho,Le]];exact⟨E,Bw.Qe⟩
def ahW(x:Ac)(w:World):
 Calls prog 23 #[.agg (aR x)] w (pR w (dn x)):=by
 have S:=St.start w;refine jc 57 func23 ?_;refine cw [0] ?_;refine zN 2 ?_;refine jT S ?_;intro b1 w2 S3;refine zN 4 ?_;have HF:=λw h=>aaW b1 x w h
 rcases hf:dD x.kd x.ek with _|l
 ·rw[hf]at HF;refine zQ ?_;refine dZ eQ (HF _ (St.nP 0 S3 E E E)) ?_;rintro _ w4 ⟨rfl,hb6⟩;refine⟨_,E,?_⟩;have S5:=S3.on hb6;refine zN 25 ?_;rw[ab1 hf];exact⟨E,S5.Qe⟩
 rw[hf]at HF;have hl5:=aiM hf;refine zQ ?_;refine dZ eQ (HF _ (St.nP 0 S3 E E E)) ?_;rintro _ w8 ⟨A7,rfl,T10⟩;refine⟨_,E,?_⟩;have S9:=S3.ext T10 E;refine zN 28 ?_;refine iO (X:=Nat) (λxv=>[(1,pV b1 0),(2,D 0),(4,.slice A7 l.length l.length),(17,.slice A7 l.length l.length),(18,D (l.length:Int)),(19,D (xv:Int))]) (λxv wr=>(xv<=l.length)/\((l.take xv).all (QC x)=true)/\St w.heap.size w wr [.dR 2 A7 l.length ((l).flatMap (eF b1)),.Oy b1 (aR x) 51]) (λxv=>l.length-xv) (0) ?_ ?_ ?_
 ·exact⟨aG _,E,S9⟩
 ·exact uV
 rintro k L6 ⟨aqG,OD,sI⟩
 try dsimp only at aqG OD sI
 refine cB (l':=[(1,pV b1 0),(2,D 0),(4,.slice A7 l.length l.length),(17,.slice A7 l.length l.length),(18,D (l.length:Int)),(19,D (k:Int))]) uV (bH (aL ?_));by_cases h15:(k:Int)< (l.length:Int)
 ·refine zN 11 ?_;obtain⟨b16,o17,rfl⟩:=Rd.addr (St.dR 0 sI E) Y;obtain⟨Z,M⟩:=NA k (St.dR 0 sI E) Y;refine vv (nC k) ?_;refine vv (aA E E (fu (cs:=(eF b1) Z) (Rd.Bb (St.dR 0 sI E) (λ_ _ h=>dF (enc:=(eF b1)) (sz:=2) (λ_=>E) M h)))) ?_;refine iU sI Iu ?_;intro b20 Iz l6;refine sa 0 l6 kQ ?_;intro Ma l7;refine zN 2 ?_;have hp:=SY hf Z (jN M);refine zQ ?_;refine je l7 mixed kQ ?_;refine zN 3 ?_;refine uv (v:=D (x.get Z.1)) (λ_ aqP=>(aA E E (aV (St.cl 2 aqP E (Ac.apM x hp.2.1))))) ?_;by_cases h29:x.get Z.1<0
  ·refine zN 10 ?_;refine jB λw33 uy=>?_;refine zN 14 ?_;rw[MK hf (ab2 M Y)];exact⟨E,uy.Qe⟩
  refine zN 5 ?_;refine ug (v:=D (x.get Z.1)) (λ_ aEY=>(aA E E (aV (St.cl 2 aEY E (Ac.apM x hp.2.1))))) ?_;refine zN 2 ?_;by_cases h43:Z.2<x.get Z.1
  ·refine zN 2 ?_;refine jB λw46 BS=>?_;refine zN 14 ?_;rw[MK hf (ab2 M Y)];exact⟨E,BS.Qe⟩
  refine zN 2 ?_;refine jB λYO yK=>?_;refine zN 6 ?_;refine vv (v:=D ((k+1:Nat):Int)) jW ?_;refine zN 2 ?_;have qO:=yK.bq [0];refine dL (k+1) ?_ uV (by first|omega|(dsimp only;omega));exact⟨Y,(aiO M OD Y),qO⟩
 refine zN 19 ?_;obtain rfl:k=l.length:=Y;have O:=OD;rw[jM]at O;refine iO (X:=Nat) (λxv=>[(1,pV b1 0),(2,D 0),(38,.slice A7 l.length l.length),(39,D (l.length:Int)),(40,D (xv:Int))]) (λxv wr=>(xv<=l.length)/\St w.heap.size w wr [.dR 2 A7 l.length ((l).flatMap (eF b1)),.Oy b1 (rZ (BN x.TQ (l.take xv))) 51]) (λxv=>l.length-xv) (0) ?_ ?_ ?_
 ·exact⟨aG _,sI⟩
 ·exact CO
 rintro j w53 ⟨QX,I⟩
 try dsimp only at QX I
 refine cB (l':=[(1,pV b1 0),(2,D 0),(38,.slice A7 l.length l.length),(39,D (l.length:Int)),(40,D (j:Int))]) CO (bH (aL ?_));by_cases h56:(j:Int)< (l.length:Int)
 ·refine zN 11 ?_;obtain⟨b57,o58,rfl⟩:=Rd.addr (St.dR 0 I E) Y;obtain⟨x59,arh⟩:=NA j (St.dR 0 I E) Y;refine vv (nC j) ?_;refine vv (aA E E (fu (cs:=(eF b1) x59) (Rd.Bb (St.dR 0 I E) (λ_ _ h=>dF (enc:=(eF b1)) (sz:=2) (λ_=>E) arh h)))) ?_;refine iU I Iu ?_;intro b61 w62 ze;refine sa 0 ze kQ ?_;intro w64 JF;refine zN 6 ?_;have hp:=SY hf x59 (jN arh);refine KS (row':=rZ (BN x.TQ (l.take (j+1)))) 2 JF (wn E) E E E E E E kQ E (by rw[qd (by rw[AJ];rfl)];omega) (by rw[Ea,aiP arh]) ?_;intro YP wZ;refine zN 4 ?_;refine vv (v:=D ((j+1:Nat):Int)) jW ?_;refine zN 2 ?_;have EL:=wZ.bq [0];refine dL (j+1) ?_ CO (by first|omega|(dsimp only;omega));exact⟨Y,EL⟩
 refine zN 12 ?_;obtain rfl:j=l.length:=Y;rw[jM]at I;refine zN 2 ?_;refine vv (aA E E (aV (St.cl 1 I E (adU (by rw[VO _ _ (λp hp=>(SY hf p hp).1)];rfl))))) ?_;by_cases h69:x.kd=2
 ·refine zN 7 ?_;refine KS (row':=rZ ((BN x.TQ l).set 5 0)) 1 I (wn E) E E E E E E kQ E (by rw[qd (by simp only[length_set,AJ];rfl)];decide) Ea ?_;intro w70 vS;refine zN 5 ?_;refine KS (row':=rZ (((BN x.TQ l).set 5 0).set 0 0)) 1 vS (wn E) E E E E E E kQ E (by rw[qd (by simp only[length_set,AJ];rfl)];decide) Ea ?_;intro w72 tQ;refine zN 4 ?_;have hfn:fin x l=((BN x.TQ l).set 5 0).set 0 0:=by unfold fin;rw[au h69]
  have hfl:(((BN x.TQ l).set 5 0).set 0 0).length=11:=by simp only[length_set,AJ];rfl
  have HN:=λw=>ahm (a:=((BN x.TQ l).set 5 0).set 0 0) (b:=UW) hfl E w;rw[<-hfn]at HN;by_cases J:fin x l=UW
  ·rw[ko J]at HN;rw[hfn]at HN;refine zQ ?_;refine vv (v:=.agg (rZ (((BN x.TQ l).set 5 0).set 0 0))) (aA E E (rG 1 tQ E underlying51 E kQ (qd hfl))) ?_;refine zQ ?_;refine vv (v:=.bool false) (cK E E E (Dx kQ (HN _))) ?_;refine zN 12 ?_;rw[apu hf O J];exact⟨E,tQ.Qe⟩
  rw[jf J]at HN;rw[hfn]at HN;refine zQ ?_;refine vv (v:=.agg (rZ (((BN x.TQ l).set 5 0).set 0 0))) (aA E E (rG 1 tQ E underlying51 E kQ (qd hfl))) ?_;refine zQ ?_;refine vv (v:=.bool true) (cK E E E (Dx kQ (HN _))) ?_;refine zN 11 ?_;rw[Ta hf O J];exact⟨E,tQ.Qe⟩
 refine zN 9 ?_;refine KS (row':=rZ ((BN x.TQ l).set 0 0)) 1 I (wn E) E E E E E E kQ E (by rw[qd (by simp only[length_set,AJ];rfl)];decide) Ea ?_;intro w74 Jy;refine zN 4 ?_;have hfn:fin x l=(BN x.TQ l).set 0 0:=by unfold fin;rw[ah h69]
 have hfl:((BN x.TQ l).set 0 0).length=11:=by simp only[length_set,AJ];rfl
 have HN:=λw=>ahm (a:=(BN x.TQ l).set 0 0) (b:=UW) hfl E w;rw[<-hfn]at HN;by_cases J:fin x l=UW
 ·rw[ko J]at HN;rw[hfn]at HN;refine zQ ?_;refine vv (v:=.agg (rZ ((BN x.TQ l).set 0 0))) (aA E E (rG 1 Jy E underlying51 E kQ (qd hfl))) ?_;refine zQ ?_;refine vv (v:=.bool false) (cK E E E (Dx kQ (HN _))) ?_;refine zN 12 ?_;rw[apu hf O J];exact⟨E,Jy.Qe⟩
 rw[jf J]at HN;rw[hfn]at HN;refine zQ ?_;refine vv (v:=.agg (rZ ((BN x.TQ l).set 0 0))) (aA E E (rG 1 Jy E underlying51 E kQ (qd hfl))) ?_;refine zQ ?_;refine vv (v:=.bool true) (cK E E E (Dx kQ (HN _))) ?_;refine zN 11 ?_;rw[Ta hf O J];exact⟨E,Jy.Qe⟩
def Ti{t z:Int}{f:Nat->Bool}:∀ {k:Nat},z∈kX t f k-> ∃j,j<k/\f j=true/\z=t-8+j
 | 0,h=>by simp[kX]at h
 |k+1,h=>by
  unfold kX at h
  split at h
  ·rename_i J
   rcases aP.1 h with h|h
   ·obtain⟨j,h1,I⟩:=Ti h;exact⟨j,by omega,I⟩
   rw[aF]at h;exact⟨k,by omega,J,h⟩
  obtain⟨j,h1,I⟩:=Ti h;exact⟨j,by omega,I⟩
def aje{t:Int}{bs:List Bool}{i:Nat}(hi:i<8):(agD t bs).at i=bs.getD i false:=by
 have h:i=0\/i=1\/i=2\/i=3\/i=4\/i=5\/i=6\/i=7:=Y
 rcases h with rfl|rfl|rfl|rfl|rfl|rfl|rfl|rfl<;>rfl
def auy{x:ny}{id:Int}(h:(tL x id).2=0):eU (EW x id)=0:=by
 obtain⟨h1,h2,h3⟩:=Jt h;have h0:=vF h1;have J:=afa h1;have hx:Il x.top x.at=true:=by
  unfold eU at h1
  split at h1
  ·rename_i O
   simp only[Bool.and_eq_true]at O;exact O.1.2
  cases h1
 have Z:(EW x id).top=max x.top (id+1):=rfl;have M:∀i,i<8->(EW x id).at i=decide (max x.top (id+1)-8+i∈kX x.top x.at 8++[id]):=λi hi=>by
  unfold EW;rw[aje hi,aao _ _ _ hi]
 unfold eU;refine au ?_;have hw:Il (EW x id).top (EW x id).at=true:=uN.2 λk hk I=>by
  rw[M k hk,acu]at I;rw[Z]
  rcases aP.1 I with I|I
  ·obtain⟨j,j1,j2,j3⟩:=Ti I;have:=uN.1 hx j j1 j2;omega
  rw[aF]at I;omega
 have h7:(EW x id).b7=true:=by
  show(EW x id).at 7=true
  rw[M 7 Y,acu];by_cases c:x.top<=id
  ·rw[show max x.top (id+1)=id+1 by omega];exact aK _ (by rw[aF];omega)
  rw[show max x.top (id+1)=x.top by omega];refine bM _ ?_
  rcases J with⟨h4,_⟩|⟨_,h5,h6⟩
  ·omega
  have:=getLast_mem h5;rw[getLastD_eq_getLast?,getLast?_eq_some_getLast h5,Option.getD_some]at h6;rw[h6]at this;rwa [show x.top-8+((7:Nat):Int)=x.top-1 by omega]
 rw[hw,h7,Z];simp only[Bool.and_true,Bool.or_true,Bool.and_eq_true,decide_eq_true_eq];omega
def anN{x:ny}{id:Int}(h:(kD x id).2.2=0)(h1:(kD x id).2.1=true):eU (kD x id).1=0:=by
 unfold kD at h h1⊢;by_cases c1:(tL x id).2≠0
 ·rw[au c1]at h;exact av h c1
 rw[ah c1]at h h1⊢;by_cases c2:(tL x id).1=true
 ·rw[au c2]at h1;cases h1
 rw[ah c2];exact auy (fE.1 c1)
def Gp:∀ {rs:List iT} {p:Int},lZ nx p rs=true↔(∀x∈rs,uO nx x=true/\p<x.no)/\rs.Pairwise λa b=>a.no<b.no
 |[],p=>by simp[lZ]
 |m::r,p=>by
  simp only[lZ,Bool.and_eq_true,decide_eq_true_eq,Gp (rs:=r),pairwise_cons,mem_cons,forall_eq_or_imp]
  constructor
  ·rintro⟨⟨h1,J⟩,I,M⟩;exact⟨⟨⟨h1,J⟩,λx h=>⟨(I x h).1,K4 J (I x h).2⟩⟩,λx h=>(I x h).2,M⟩
  rintro⟨⟨⟨h1,J⟩,I⟩,M,O⟩;exact⟨⟨h1,J⟩,λx h=>⟨(I x h).1,M x h⟩,O⟩
def Mh:∀ {ls:List Ls} {p:Int},nU ep nx gv p ls=true↔(∀x∈ls,uO nx x.UD=true/\x.iD=ep/\p<x.PX/\x.PX<gv)/\ls.Pairwise λa b=>a.PX<b.PX
 |[],p=>by simp[nU]
 |m::r,p=>by
  simp only[nU,OC,Bool.and_eq_true,decide_eq_true_eq,Mh (ls:=r),pairwise_cons,mem_cons,forall_eq_or_imp]
  constructor
  ·rintro⟨⟨h1,O,J,h⟩,M,Z⟩;exact⟨⟨⟨h1,O,J,h⟩,λx I=>⟨(M x I).1,(M x I).2.1,K4 J (M x I).2.2.1,(M x I).2.2.2⟩⟩,λx I=>(M x I).2.2.1,Z⟩
  rintro⟨⟨⟨h1,O,J,h⟩,M⟩,Z,h5⟩;exact⟨⟨h1,O,J,h⟩,λx I=>⟨(M x I).1,(M x I).2.1,Z x I,(M x I).2.2.2⟩,h5⟩
def V6{I:Int}{m:iT}(h:uO nx m=true)(hn:nx<=I):uO I m=true:=by
 have:=zo h;exact ko Y
def UC(h:Vj ep nx gv rs ls)(h1:Cm W)(I:lZ nx (-1) rs=true)(J:nU ep nx gv (-1) ls=true)(M:(qH rs ls).Nodup):iL ep nx gv rs ls W=0:=by
 unfold iL;rw[ah (λe=>e h),ah (λe=>e h1),au ⟨I,J,M⟩]
def ajf{k:Nat}{y:ny}(h:Cm W)(M:eU y=0)(hk:k<4):Cm (W.put k y):=λj hj=>by
 have O:=h 0 Y;have h1:=h 1 Y;have Z:=h 2 Y;have h3:=h 3 Y;have I:k=0\/k=1\/k=2\/k=3:=Y;have J:j=0\/j=1\/j=2\/j=3:=Y
 rcases I with rfl|rfl|rfl|rfl<;>rcases J with rfl|rfl|rfl|rfl<;>first|exact M|exact O|exact h1|exact Z|exact h3
def MW{m:iT}:∀ {l:List iT},(l5 m l).Perm (m::l)
 |[]=>.refl _
 |x::l=>by
  unfold l5
  split
  ·exact .refl _
  exact((MW (l:=l)).cons x).trans (.swap m x l)
def acv{m:iT}:∀ {l:List iT},uP l->uP (l5 m l)
 |[],_=>acw _ _
 |x::l,h=>by
  obtain⟨h1,J⟩:=yj.1 h;unfold l5
  split
  ·rename_i M
   refine yj.2 ⟨λy I=>?_,h⟩
   rcases iq.1 I with rfl|I
   ·omega
   have:=h1 y I;omega
  rename_i M
  refine yj.2 ⟨λy I=>?_,acv J⟩
  rcases iq.1 (MW.mem_iff.1 I)with rfl|I
  ·omega
  exact h1 y I
def QY:∀(ls:List Ls) (rs:List iT),(ls.foldl (λl x=>l5 x.UD l) rs).Perm (rs++ls.map (·.UD))
 |[],rs=>by simp
 |x::ls,rs=>by
  refine(QY ls (l5 x.UD rs)).trans ?_;refine(MW.append_right _).trans ?_;rw[KN];exact(perm_middle).symm
def V7:∀(ls:List Ls) (rs:List iT),uP rs->uP (ls.foldl (λl x=>l5 x.UD l) rs)
 |[],rs,h=>h
 |x::ls,rs,h=>V7 ls _ (acv h)
def aaX{l:List iT}(h:uP l)(hn:(l.map (·.no)).Nodup):l.Pairwise λa b=>a.no<b.no:=by
 have I:l.Pairwise λa b=>a.no≠b.no:=pairwise_map.1 hn;exact(h.and I).imp λh=>by omega
end
def ajg{Q:Qd}{e:Ev}(h:Q.Uy=0)(he:bK e=0):(Qh Q e).1.Uy=0:=by
 obtain⟨hr,hw,h2,h3,M⟩:=Tc h;have hp:=ab8 he;obtain⟨ep,nx,gv,rs,ls,W⟩:=Q;dsimp only at hr hw h2 h3 M;obtain⟨r1,r2,r3,r4,r5,r6,r7⟩:=hr;obtain⟨a1,a2⟩:=Gp.1 h2;obtain⟨b1,b2⟩:=Mh.1 h3;unfold Qh
 split
 ·unfold Ec
  split
  ·exact h
  split
  ·exact h
  split
  ·exact h
  rename_i k1 k2 k3 k4
  dsimp only at k2 k3 k4⊢;have hlt:∀z∈qH rs ls,z<nx:=λz Z=>by
   unfold qH at Z
   rcases aP.1 Z with Z|Z
   ·obtain⟨x,I,rfl⟩:=pJ.1 Z;exact(zo (a1 x I).1).2.1
   obtain⟨x,I,rfl⟩:=pJ.1 Z;exact(zo (b1 x I).1).2.1
  have hbd:0<=e.body/\e.body<=1000000:=by
   unfold bK at he
   repeat' split at he
   all_goals first
    |(cases he;done)
    |(simp only[mK,Bool.and_eq_true,decide_eq_true_eq,not_and,Classical.not_not]at*;omega)
  show iL ep (nx+1) gv (rs++[⟨nx,e.body⟩]) ls (W.put e.OU.toNat (kD (W.at e.OU.toNat) e.id).1)=0
  refine UC ⟨r1,r2,by omega,by omega,r5,r6,by rw[aZ,l8];omega⟩ (ajf hw (anN (fE.1 k2) (by simpa using k3)) Y) (Gp.2 ⟨λx I=>?_,?_⟩) (Mh.2 ⟨λx I=>⟨V6 (b1 x I).1 Y,(b1 x I).2⟩,b2⟩) ?_
  ·rcases aP.1 I with I|I
   ·exact⟨V6 (a1 x I).1 Y,(a1 x I).2⟩
   rw[aF]at I;subst I;exact⟨ko uQ,by dsimp only;omega⟩
  ·refine pairwise_append.2 ⟨a2,acw _ _,λx I y O=>?_⟩;rw[aF]at O;subst O;exact hlt _ (bM _ (acy I))
  have:(qH (rs++[⟨nx,e.body⟩]) ls).Perm (nx::qH rs ls):=by
   unfold qH;rw[iP,gP];exact perm_middle
  exact this.nodup_iff.2 (Sr.2 ⟨λhm=>by have:=hlt _ hm;omega,M⟩)
 split
 ·unfold Jv;dsimp only
  split
  ·exact h
  rename_i m rest
  split
  ·exact h
  rename_i k1
  obtain⟨a3,a4⟩:=yj.1 a2;have hm:=a1 m iQ
  show iL ep nx (gv+1) rest (ls++[⟨ep,gv,m⟩]) W=0
  refine UC ⟨r1,r2,r3,r4,by omega,by omega,by rw[aZ,l8];rw[mV]at r7;omega⟩ hw (Gp.2 ⟨λx I=>a1 x (by simp[I]),a4⟩) (Mh.2 ⟨λx I=>?_,?_⟩) ?_
  ·rcases aP.1 I with I|I
   ·have:=b1 x I;exact⟨this.1,this.2.1,this.2.2.1,by omega⟩
   rw[aF]at I;subst I;exact⟨hm.1,E,by dsimp only;omega,by dsimp only;omega⟩
  ·refine pairwise_append.2 ⟨b2,acw _ _,λx I y O=>?_⟩;rw[aF]at O;subst O;exact(b1 x I).2.2.2
  refine(Perm.nodup_iff ?_).1 M;unfold qH;rw[KN,iP,vW,<-gP];exact(AO (l₁:=[m.no]) (l₂:=rest.map (·.no)++ls.map (·.UD.no)))
 split
 ·unfold GU;dsimp only
  split
  ·exact h
  split
  ·exact h
  have J:(ls.filter λx=>decide (x.PX≠e.PX)).Sublist ls:=filter_sublist
  show iL ep nx gv rs (ls.filter λx=>decide (x.PX≠e.PX)) W=0
  refine UC ⟨r1,r2,r3,r4,r5,r6,by have:=J.length_le;omega⟩ hw h2 (Mh.2 ⟨λx I=>b1 x (J.subset I),b2.sublist J⟩) ?_;unfold qH at M⊢;exact M.sublist ((Sublist.refl _).append (J.map _))
 unfold GV;dsimp only
 split
 ·exact h
 have hP:=QY ls rs;have hlen:=hP.length_eq;rw[aZ,iE]at hlen;have hnn:((ls.foldl (λl x=>l5 x.UD l) rs).map (·.no)).Nodup:=by
  refine((hP.map (·.no)).nodup_iff).2 ?_;unfold qH at M;rw[iP,map_map];exact M
 show iL (ep+1) nx 0 (ls.foldl (λl x=>l5 x.UD l) rs) [] W=0
 refine UC ⟨by omega,by omega,r3,r4,by omega,by omega,by rw[length_nil];omega⟩ hw (Gp.2 ⟨λx I=>?_,aaX (V7 ls rs (a2.imp λh=>Td h)) hnn⟩) E ?_
 ·rcases aP.1 (hP.mem_iff.1 I)with I|I
  ·exact a1 x I
  obtain⟨y,O,rfl⟩:=pJ.1 I;have:=(b1 y O).1;exact⟨this,by have:=zo this;omega⟩
 unfold qH;rw[map_nil,bI];exact hnn
def auz{Q:Qd}{e:Ev}(h:(jU Q e).2.2.2=0):(jU Q e).1.Uy=0:=by
 by_cases c1:Q.Uy=0
 ·by_cases c2:bK e=0
  ·rw[BO c1 c2];exact ajg c1 c2
  rw[Uh c1 c2]at h;exact av h c2
 rw[O8 c1]at h;exact av h c1
def aeX:gu.Uy=0:=by
 refine UC ⟨by decide,by decide,by decide,by decide,by decide,by decide,by decide⟩ (λj I=>?_) E E nodup_nil;have h:j=0\/j=1\/j=2\/j=3:=Y
 rcases h with rfl|rfl|rfl|rfl<;>decide
end Go.Proofs.YtefabpdniidmbaaGreatDoor
