import Derived.Test.YtefabpdniidmbaaGreatDoorGa0c93
set_option linter.all false
set_option maxRecDepth 100000
set_option maxHeartbeats 8000000
set_option linter.unusedSimpArgs false
namespace Go.Proofs.YtefabpdniidmbaaGreatDoor
open List Nat Go.Proofs.Tryz
open ChangeShapes WideShapes RowKit
section
variable {b:aQ}{k m:Nat}
def Bd (h:aj b=0)(I:b.role=2\/b.role=3)(J:k<=b.evs.length)(M:min (k+3) b.evs.length=k+m):gX b k=((b.evs.drop k).take m,decide (b.role=3/\k+m=b.evs.length),0):=by
 unfold gX;rw[if_neg (λh1=>h1 h),if_neg Y,if_neg Y];refine Prod.ext ?_ (Prod.ext ?_ E)
 ·simp only[Int.toNat_natCast];rw[take_eq_take_iff,length_drop];omega
 simp only[Int.toNat_natCast]
 congr 1
 exact propext ⟨λh=>⟨h.1,by omega⟩,λh=>⟨h.1,by omega⟩⟩
end
def Ke {b:aQ}{e:Ev}(h:aj b=0)(h1:aX e=0)(I:¬e.kind=4)(J:b.role=1\/b.role=2):gL b e=
  if (iK (ay b.evs).1 e).2.2.1=false then(b,(iK (ay b.evs).1 e).2.1,false,0)else if 1999<=b.evs.length then(b,sw 14,false,0)else({b with evs:=b.evs++[e]},(iK (ay b.evs).1 e).2.1,true,0):=by
 unfold gL;rw[if_neg (λh1=>h1 h),if_neg (λh=>h h1),if_neg I,if_neg Y,if_neg Y]
def Dv (ro ep fr tg rd:Int) (A:Option Addr) (c:Nat) (l:List Ev) (w:World) (h:Rd w w.heap.size 6 A l.length (bq l)) (J:l.length<=1152921504606846976):
    Calls tP 70 #[.agg #[D ro,D ep,D fr,D tg,D rd,.slice A l.length c]] w (Fp w (decide (ro=1\/ro=2))):=by
 have S:=(St.start w).bX h;refine gK 11 func70 ?_;refine cw [0] ?_;refine zN 2 ?_;refine iP S ?_;intro b1 M I;refine zN 7 ?_;by_cases O:ro=1
 ·refine zN 11 ?_;exact⟨reT Y,I.low⟩
 refine zN 4 ?_;by_cases Z:ro=2
 ·refine zN 7 ?_;exact⟨reT Y,I.low⟩
 refine zN 7 ?_;exact⟨zD Y,I.low⟩
def Yi (ro ep fr tg rd:Int) (A:Option Addr) (c:Nat) (l:List Ev) (w:World) (h:Rd w w.heap.size 6 A l.length (bq l)) (hb:l.length*48<=reachBytes):
    Calls tP 54 #[.agg #[D ro,D ep,D fr,D tg,D rd,.slice A l.length c]] w (kS w (dK ⟨ro,ep,fr,tg,rd,l⟩)):=by
 have S:=(St.start w).bX h;have hb2:=hb;unfold reachBytes at hb2;refine gK 30 func54 ?_;refine cw [0] ?_;refine zN 2 ?_;refine iP S ?_;intro b1 w2 S3;refine gB S3 gu ?_;intro b4 w5 S6;refine zN 7 ?_;refine cab eQ S6 (eB ro ep fr tg rd A c l _ (St.rd 2 S6 E) Y) ?_;intro w7 O;refine zN 6 ?_;by_cases h10:aj ⟨ro,ep,fr,tg,rd,l⟩=0
 ·have I:=(eP h10).1;unfold aZ at I;have Z:=gJ (eP h10).2;dsimp only at I Z;refine zN 10 ?_;have HC:=λ(w:World) (h:Rd w w.heap.size 6 A l.length (bq l))=>Dv ro ep fr tg rd A c l w h Y;by_cases hsv:ro=1\/ro=2
  ·rw[decide_eq_true hsv]at HC;refine dO eQ (HC _ (St.rd 2 O E)) ?_;rintro _ Ht ⟨rfl,J⟩;refine⟨_,E,?_⟩;have oF:=O.on J;clear J O;refine zN 12 ?_;refine vv (v:=.agg #[D 1,D ep,D 0,D 0,D 0,.slice A l.length c]) gG ?_;refine vv (v:=.agg #[D 4,D 0,D 0,D 0,D 0,D 0]) gG ?_;refine Sy oF ?_;intro b14 KY qK;refine dO eQ (rF 1 ep 0 0 0 A c l (aD b14 0) 1 [aF] _ (St.rd 3 qK E) (St.mq (xs:=bq [aF]) 0 qK E E E) (by simp only[length_cons,length_nil];unfold reachBytes;omega)) ?_;rintro _ Gn ⟨A17,c18,rfl,T21⟩;refine⟨_,E,?_⟩;have pK:=qK.ext T21 E;refine gB pK gu ?_;intro b22 JB jP;refine sa 0 jP kQ ?_;intro w25 sI;refine zN 6 ?_;refine cab eQ sI (eB 1 ep 0 0 0 A17 c18 (l++[aF]) _ (St.ord 1 sI E) (by simp only[length_append,length_cons,length_nil,length_drop];omega)) ?_;intro MN sP;by_cases h30:aj ⟨1,ep,0,0,0,l++[aF]⟩=0
   ·have I:=(eP h30).1;unfold aZ at I;have Z:=gJ (eP h30).2;dsimp only at I Z;refine zN 9 ?_;refine sa 3 sP kQ ?_;intro w31 uW;refine zN 5 ?_;have tX:=uW.aO [5,4,3,2,0];have hcp:=(eu (tX.own 0 E)).1;have qW:=tX.bF 0 E;rw[show dK ⟨ro,ep,fr,tg,rd,l⟩=(⟨1,ep,0,0,0,l++[aF]⟩,0)from by unfold dK;(try dsimp only);exact kV];exact⟨A17,c18,mD,E,qW⟩
   refine zN 6 ?_;refine vv jo ?_;refine sa 3 sP kQ ?_;intro Zv sU;refine zN 6 ?_;have Dt:=sU.aO [5,4,3,2,1,0];rw[show dK ⟨ro,ep,fr,tg,rd,l⟩=(⟨0,0,0,0,0,[]⟩,14)from by unfold dK;(try dsimp only);exact kV];exact⟨none,0,mD,E,aB Dt⟩
  rw[decide_eq_false hsv]at HC;refine dO eQ (HC _ (St.rd 2 O E)) ?_;rintro _ w38 ⟨rfl,M⟩;refine⟨_,E,?_⟩;have BI:=O.on M;clear M O;refine zN 7 ?_;refine dO eQ (jk ro ep fr tg rd A c l _ (St.rd 2 BI E) hb) ?_;rintro _ w43 ⟨A41,c42,rfl,T45⟩;refine⟨_,E,?_⟩;have Fw:=BI.ext T45 E;refine sa 1 Fw kQ ?_;intro ZC zn;refine zN 6 ?_;have Al:=zn.aO [3,2,1];have hcp:=(eu (Al.own 0 E)).1;have xO:=Al.bF 0 E;rw[show dK ⟨ro,ep,fr,tg,rd,l⟩=(⟨ro,ep,fr,tg,rd,l⟩,0)from by unfold dK;(try dsimp only);exact kV];exact⟨A41,c42,mD,E,xO⟩
 refine zN 6 ?_;refine vv jo ?_;refine zQ ?_;refine sa 0 O kQ ?_;intro VP vT;refine zN 6 ?_;have o8:=vT.aO [2,1,0];rw[show dK ⟨ro,ep,fr,tg,rd,l⟩=(⟨0,0,0,0,0,[]⟩,aj ⟨ro,ep,fr,tg,rd,l⟩)from by unfold dK;(try dsimp only);exact kV];exact⟨none,0,mD,E,aB o8⟩
def U8 (ro ep fr tg rd:Int) (A:Option Addr) (c:Nat) (l:List Ev) (x:Ev) (w:World) (h:Rd w w.heap.size 6 A l.length (bq l)) (hb:l.length*48<=reachBytes):
    Calls tP 86 #[.agg #[D ro,D ep,D fr,D tg,D rd,.slice A l.length c],.agg #[D x.kind,D x.producer,D x.id,D x.body,D x.aN,D x.hno]] w (abt w (gL ⟨ro,ep,fr,tg,rd,l⟩ x)):=by
 have S:=(St.start w).bX h;have hb2:=hb;unfold reachBytes at hb2;refine gK 80 func86 ?_;refine cw [0,1] ?_;refine zN 2 ?_;refine iP S ?_;intro b1 w2 S3;refine iP S3 ?_;intro b4 w5 S6;refine gB S6 gu ?_;intro b7 w8 S9;refine gB S9 sV ?_;intro b10 Ht oF;refine zN 8 ?_;refine cab eQ oF (eB ro ep fr tg rd A c l _ (St.rd 4 oF E) Y) ?_;intro Ea mX;refine zN 6 ?_;by_cases J:aj ⟨ro,ep,fr,tg,rd,l⟩=0
 ·have hsh:=(eP J).1;unfold aZ at hsh;have hln:=gJ (eP J).2;dsimp only at hsh hln;refine zN 10 ?_;refine cab eQ mX (Hy x _) ?_;intro ML I;refine zN 6 ?_;by_cases h20:aX x=0
  ·refine zN 11 ?_;by_cases hk4:x.kind=4
   ·refine zN 6 ?_;refine vv jo ?_;refine zQ ?_;refine sa 1 I kQ ?_;intro Fq jX;refine sa 0 jX kQ ?_;intro JB jP;refine zN 6 ?_;refine dX (rs:=[.cell 4 42,.cell 5 54,.tmp 6,.tmp 7]) (vs:=[.agg zB,.agg #[D 0,D 0,D 0,D 0],.bool false,D 3]) E ⟨⟨_,E,eZ 1 jP E underlying42 E kQ⟩,⟨_,E,eZ 0 jP E underlying54 E kQ⟩,E,E,trivial⟩ ?_;have lC:=jP.aO [4,3,2,1,0];rw[show gL ⟨ro,ep,fr,tg,rd,l⟩ x=(⟨0,0,0,0,0,[]⟩,⟨0,0,0,0⟩,false,3)from by unfold gL;(try dsimp only);exact kV];exact⟨none,0,mD,E,aB lC⟩
   refine zN 12 ?_;by_cases h26:ro=3
   ·refine zN 8 ?_;refine dO eQ (jk ro ep fr tg rd A c l _ (St.rd 4 I E) hb) ?_;rintro _ w29 ⟨A27,c28,rfl,T31⟩;refine⟨_,E,?_⟩;have BH:=I.ext T31 E;refine vv (v:=.agg #[D 12,D 0,D 0,D 0]) gG ?_;refine sa 2 BH kQ ?_;intro w32 tX;refine sa 1 tX kQ ?_;intro ZB zo;refine zN 7 ?_;refine dX (rs:=[.cell 4 42,.cell 5 54,.tmp 6,.tmp 7]) (vs:=[.agg #[D ro,D ep,D fr,D tg,D rd,.slice A27 l.length c28],.agg #[D 12,D 0,D 0,D 0],.bool false,D 0]) E ⟨⟨_,E,eZ 2 zo E underlying42 E kQ⟩,⟨_,E,eZ 1 zo E underlying54 E kQ⟩,E,E,trivial⟩ ?_;have sU:=zo.aO [5,4,3,2,1];have hcp:=(eu (sU.own 0 E)).1;have Dt:=sU.bF 0 E;rw[show gL ⟨ro,ep,fr,tg,rd,l⟩ x=(⟨ro,ep,fr,tg,rd,l⟩,⟨12,0,0,0⟩,false,0)from by unfold gL;(try dsimp only);exact kV];exact⟨A27,c28,mD,E,Dt⟩
   refine zN 8 ?_;have HC:=λ(w:World) (h:Rd w w.heap.size 6 A l.length (bq l))=>Dv ro ep fr tg rd A c l w h Y;by_cases M:ro=1\/ro=2
   ·rw[decide_eq_true M]at HC;refine dO eQ (HC _ (St.rd 4 I E)) ?_;rintro _ w38 ⟨rfl,ata⟩;refine⟨_,E,?_⟩;have BI:=I.on ata;clear ata I;refine zN 12 ?_;refine dO eQ (FB A c l _ (St.rd 4 BI E) Y) ?_;rintro _ w45 ⟨A41,c42,A43,c44,rfl,T47⟩;refine⟨_,E,?_⟩;have wP:=BI.ext T47 E;refine zN 3 ?_;refine lS (V:=λb=>pV b 0) (row:=dx 0 0 0 (.slice none 0 0) (.slice none 0 0) jG) (t:=183) wP (wn E) E E (iM E (zeroValue183 _) E) ?_;intro ZI w49 xL;refine saq 0 xL kQ ?_;intro w51 o8;refine zN 7 ?_;obtain⟨R,hR⟩:∃R,iK (ay l).1 x=R:=⟨_,E⟩;have hql:=X6 (l:=l);have HD:=λA1 A2 c1 c2 w h1 h2=>xg (ay l).1.ep (ay l).1.nx (ay l).1.gv x.kind x.producer x.id x.body x.aN x.hno A1 A2 c1 c2 (ay l).1.ready (ay l).1.bL (ay l).1.ws w h1 h2 hQ hQ;rw[show iK ⟨(ay l).1.ep,(ay l).1.nx,(ay l).1.gv,(ay l).1.ready,(ay l).1.bL,(ay l).1.ws⟩ ⟨x.kind,x.producer,x.id,x.body,x.aN,x.hno⟩=R from hR]at HD;refine dO eQ (HD A41 A43 c42 c44 _ (St.cK 1 o8 E) (St.cK 2 o8 E)) ?_;rintro _ w57 ⟨A53,c54,A55,c56,rfl,T59⟩;refine⟨_,E,?_⟩;have Du:=o8.ext T59 E;clear HD;refine zN 5 ?_;refine lS (V:=λb=>pV b 0) (row:=dx 0 0 0 (.slice none 0 0) (.slice none 0 0) jG) (t:=183) Du (wn E) E E (iM E (zeroValue183 _) E) ?_;intro b60 w61 JC;refine gB JC sV ?_;intro b63 w64 Gx;refine saq 1 Gx kQ ?_;intro VQ uy;refine sa 0 uy kQ ?_;intro w68 Ak;refine zN 8 ?_
    cases hch:R.2.2.1
    ·refine zN 5 ?_;have zJ:=Ak.drew;refine aJ 7 zJ [8,7] ?_;refine aL 2 ?_;refine aY 1 ?_;refine kD 1 E eQ (jk ro ep fr tg rd A c l _ (St.rd 11 zJ E) hb) ?_;rintro _ w75 ⟨A73,c74,rfl,T77⟩;refine⟨_,E,?_⟩;have MP:=zJ.ext T77 E;refine dR ?_;refine aY 3 ?_;refine sn 3 E 9 MP kQ ?_;intro w78 Dn;refine dR ?_;refine aY 4 ?_;refine sn 4 E 8 Dn kQ ?_;intro w80 vK;refine aL 4 ?_;refine zN 3 ?_;refine dX (rs:=[.cell 4 42,.cell 5 54,.tmp 6,.tmp 7]) (vs:=[.agg #[D ro,D ep,D fr,D tg,D rd,.slice A73 l.length c74],.agg #[D R.2.1.code,D R.2.1.fG,D R.2.1.hno,D R.2.1.body],.bool false,D 0]) E ⟨⟨_,E,eZ 9 vK E underlying42 E kQ⟩,⟨_,E,eZ 8 vK E underlying54 E kQ⟩,E,E,trivial⟩ ?_;have Fx:=vK.aO [12,11,10,9,8,7,6,5,4,3,2,1];have hcp:=(eu (Fx.own 0 E)).1;have JF:=Fx.bF 0 E;rw[Ke (b:=⟨ro,ep,fr,tg,rd,l⟩) (e:=x) J h20 hk4 M,hR];rw[if_pos hch];exact⟨A73,c74,mD,E,JF⟩
    refine zN 12 ?_;by_cases atd:1999<=l.length
    ·refine zN 7 ?_;refine dO eQ (jk ro ep fr tg rd A c l _ (St.rd 11 Ak E) hb) ?_;rintro _ w88 ⟨A86,c87,rfl,T90⟩;refine⟨_,E,?_⟩;have MQ:=Ak.ext T90 E;refine vv (v:=.agg #[D 14,D 0,D 0,D 0]) gG ?_;refine sa 9 MQ kQ ?_;intro w91 zm;refine sa 8 zm kQ ?_;intro w93 Hu;refine zN 6 ?_;refine dX (rs:=[.cell 4 42,.cell 5 54,.tmp 6,.tmp 7]) (vs:=[.agg #[D ro,D ep,D fr,D tg,D rd,.slice A86 l.length c87],.agg #[D 14,D 0,D 0,D 0],.bool false,D 0]) E ⟨⟨_,E,eZ 9 Hu E underlying42 E kQ⟩,⟨_,E,eZ 8 Hu E underlying54 E kQ⟩,E,E,trivial⟩ ?_;have K6:=Hu.aO [12,11,10,9,8,7,6,5,4,3,2,1];have hcp:=(eu (K6.own 0 E)).1;have Fz:=K6.bF 0 E;rw[Ke (b:=⟨ro,ep,fr,tg,rd,l⟩) (e:=x) J h20 hk4 M,hR];rw[if_neg (by rw[hch];simp),if_pos atd];exact⟨A86,c87,mD,E,Fz⟩
    refine zN 7 ?_;have Fy:=Ak.drew;refine aJ 9 Fy [8,7] ?_;refine aL 3 ?_;refine aY 2 ?_;refine Gj 2 E Fy ?_;intro anE anF O;refine dR ?_;refine aY 3 ?_;refine kD 3 E eQ (rF ro ep fr tg rd A c l (aD anE 0) 1 [x] _ (St.rd 12 O E) (St.mq (xs:=bq [x]) 0 O E E E) (by simp only[length_cons,length_nil];unfold reachBytes;omega)) ?_;rintro _ abD ⟨abE,c105,rfl,az3⟩;refine⟨_,E,?_⟩;have EI:=O.ext az3 E;refine dR ?_;refine aY 5 ?_;refine sn 5 E 10 EI kQ ?_;intro aa2 qX;refine dR ?_;refine aY 6 ?_;refine sn 6 E 9 qX kQ ?_;intro abF Z;refine aL 4 ?_;refine zN 2 ?_;refine dX (rs:=[.cell 4 42,.cell 5 54,.tmp 6,.tmp 7]) (vs:=[.agg #[D ro,D ep,D fr,D tg,D rd,.slice abE ((l++[x]).length) c105],.agg #[D R.2.1.code,D R.2.1.fG,D R.2.1.hno,D R.2.1.body],.bool true,D 0]) E ⟨⟨_,E,eZ 10 Z E underlying42 E kQ⟩,⟨_,E,eZ 9 Z E underlying54 E kQ⟩,E,E,trivial⟩ ?_;have qY:=Z.aO [13,12,11,10,9,8,7,6,5,4,3,2,1];have hcp:=(eu (qY.own 0 E)).1;have yL:=qY.bF 0 E;rw[Ke (b:=⟨ro,ep,fr,tg,rd,l⟩) (e:=x) J h20 hk4 M,hR];rw[if_neg (by rw[hch];simp),if_neg atd];exact⟨abE,c105,mD,E,yL⟩
   rw[decide_eq_false M]at HC;refine dO eQ (HC _ (St.rd 4 I E)) ?_;rintro _ abG ⟨rfl,amq⟩;refine⟨_,E,?_⟩;have wo:=I.on amq;clear amq I;refine zN 8 ?_;refine dO eQ (jk ro ep fr tg rd A c l _ (St.rd 4 wo E) hb) ?_;rintro _ anu ⟨atf,atg,rfl,az4⟩;refine⟨_,E,?_⟩;have zP:=wo.ext az4 E;refine vv (v:=.agg #[D 7,D 0,D 0,D 0]) gG ?_;refine sa 2 zP kQ ?_;intro anG xM;refine sa 1 xM kQ ?_;intro aa3 CU;refine zN 7 ?_;refine dX (rs:=[.cell 4 42,.cell 5 54,.tmp 6,.tmp 7]) (vs:=[.agg #[D ro,D ep,D fr,D tg,D rd,.slice atf l.length atg],.agg #[D 7,D 0,D 0,D 0],.bool false,D 0]) E ⟨⟨_,E,eZ 2 CU E underlying42 E kQ⟩,⟨_,E,eZ 1 CU E underlying54 E kQ⟩,E,E,trivial⟩ ?_;have zU:=CU.aO [5,4,3,2,1];have hcp:=(eu (zU.own 0 E)).1;have abH:=zU.bF 0 E;rw[show gL ⟨ro,ep,fr,tg,rd,l⟩ x=(⟨ro,ep,fr,tg,rd,l⟩,⟨7,0,0,0⟩,false,0)from by unfold gL;(try dsimp only);exact kV];exact⟨atf,atg,mD,E,abH⟩
  refine zN 6 ?_;refine vv jo ?_;refine zN 2 ?_;refine sa 1 I kQ ?_;intro ahG yH;refine sa 0 yH kQ ?_;intro abd zR;refine zN 6 ?_;refine dX (rs:=[.cell 4 42,.cell 5 54,.tmp 6,.tmp 7]) (vs:=[.agg zB,.agg #[D 0,D 0,D 0,D 0],.bool false,D (aX x)]) E ⟨⟨_,E,eZ 1 zR E underlying42 E kQ⟩,⟨_,E,eZ 0 zR E underlying54 E kQ⟩,E,E,trivial⟩ ?_;have LV:=zR.aO [4,3,2,1,0];rw[show gL ⟨ro,ep,fr,tg,rd,l⟩ x=(⟨0,0,0,0,0,[]⟩,⟨0,0,0,0⟩,false,aX x)from by unfold gL;(try dsimp only);exact kV];exact⟨none,0,mD,E,aB LV⟩
 refine zN 6 ?_;refine vv jo ?_;refine zN 2 ?_;refine sa 1 mX kQ ?_;intro abp ED;refine sa 0 ED kQ ?_;intro az5 Gw;refine zN 6 ?_;refine dX (rs:=[.cell 4 42,.cell 5 54,.tmp 6,.tmp 7]) (vs:=[.agg zB,.agg #[D 0,D 0,D 0,D 0],.bool false,D (aj ⟨ro,ep,fr,tg,rd,l⟩)]) E ⟨⟨_,E,eZ 1 Gw E underlying42 E kQ⟩,⟨_,E,eZ 0 Gw E underlying54 E kQ⟩,E,E,trivial⟩ ?_;have Gs:=Gw.aO [4,3,2,1,0];rw[show gL ⟨ro,ep,fr,tg,rd,l⟩ x=(⟨0,0,0,0,0,[]⟩,⟨0,0,0,0⟩,false,aj ⟨ro,ep,fr,tg,rd,l⟩)from by unfold gL;(try dsimp only);exact kV];exact⟨none,0,mD,E,aB Gs⟩
def Yj (ro ep fr tg rd:Int) (A:Option Addr) (c:Nat) (l:List Ev) (hv:Int) (hlc:l.length<=c) (w:World) (h:Rd w w.heap.size 6 A l.length (bq l)) (hb:l.length*48<=reachBytes):
    Calls tP 112 #[.agg #[D ro,D ep,D fr,D tg,D rd,.slice A l.length c],D hv] w (SN w (gX ⟨ro,ep,fr,tg,rd,l⟩ hv)):=by
 have S:=(St.start w).bX h;have hb2:=hb;unfold reachBytes at hb2;refine gK 53 func112 ?_;refine cw [0,1] ?_;refine zN 2 ?_;refine iP S ?_;intro b1 w2 S3;refine zN 9 ?_;refine cab eQ S3 (eB ro ep fr tg rd A c l _ (St.rd 1 S3 E) Y) ?_;intro w4 S5;refine zN 6 ?_;by_cases h7:aj ⟨ro,ep,fr,tg,rd,l⟩=0
 ·have hsh:=(eP h7).1;unfold aZ at hsh;have hln:=gJ (eP h7).2;dsimp only at hsh hln;refine zN 11 ?_;by_cases h8:ro=2
  ·refine zN 15 ?_;by_cases h9:hv<0
   ·refine zN 21 ?_;have Dr:=S5.aO [1,0];rw[show gX ⟨ro,ep,fr,tg,rd,l⟩ hv=([],false,2)from by unfold gX;(try dsimp only);exact kV];exact⟨none,0,zero_le _,E,aB Dr⟩
   refine zN 6 ?_;by_cases h11:((l.length:Nat):Int)<hv
   ·refine zN 15 ?_;have oF:=S5.aO [1,0];rw[show gX ⟨ro,ep,fr,tg,rd,l⟩ hv=([],false,2)from by unfold gX;(try dsimp only);exact kV];exact⟨none,0,zero_le _,E,aB oF⟩
   refine zN 8 ?_;obtain⟨k,rfl⟩:∃k:Nat,hv=k:=⟨hv.toNat,by omega⟩;obtain⟨m,hm⟩:∃m,min (k+3) l.length=k+m:=⟨min (k+3) l.length-k,by omega⟩;refine zN 2 ?_;refine vv (v:=D ((k+3:Nat):Int)) jc ?_;refine zN 3 ?_;refine vv (v:=D ((k+m:Nat):Int)) (pI (vs:=[D ((k+3:Nat):Int),D ((l.length:Nat):Int)]) E xH λ_=>by rw[VI,hm]) ?_;refine zN 3 ?_;obtain⟨A13,anH,az6,aIQ⟩:=Fj (P:=tP) (t:=40) (enc:=Ev.cells) (s:=6) (λ_=>E) (A:=A) (b:=l) (n:=l.length) (c:=c) (lo:=(some (D ((k:Nat):Int)))) (hi:=(some (D ((k+m:Nat):Int)))) (mx:=none) (l:=k) (k:=k+m) (q:=c) (m:=m) (c':=c-k) underlying40 kQ (WJ k (k+m) E E Y Y) Y Y Y Y Y;have zI:=S5.bX (az6 _ _ (S5.all 1 _ E));by_cases hr3:ro=3
   ·by_cases hend:((k+m:Nat):Int)=((l.length:Nat):Int)
    ·refine zQ ?_;have qO:=zI.drew;refine aJ 19 qO [] ?_;refine aL 4 ?_;refine ak (v:=.slice A13 m (c-k)) 4 E qO (λ_ _=>(jY E E (jv E) (jv E) nW (anH _))) ?_;refine aL 3 ?_;refine aY 5 ?_;refine kD 5 E eQ (mg A13 m (c-k) _ _ (St.rd 0 qO E) (fM _) hQ) ?_;rintro _ w31 ⟨A27,c28,rfl,az7,az8⟩;refine⟨_,E,?_⟩;have uW:=qO.uj az7 az8;refine aL 12 ?_;refine zN 3 ?_;have tQ:=uW.aO [3,2,1];have O:=(eu (tQ.own 0 E)).1;have Fw:=tQ.bF 0 E;have I:((l.drop k).take m).length=m:=by rw[length_take,length_drop];omega
     rw[Bd (b:=⟨ro,ep,fr,tg,rd,l⟩) h7 uQ uQ hm];dsimp only;rw[decide_eq_true ⟨hr3,by omega⟩];refine⟨A27,c28,?_,?_,?_⟩
     · dsimp only;rw[I];exact O
     · dsimp only;rw[I];rfl
     · dsimp only;rw[I];exact Fw
    refine zQ ?_;have qC:=zI.drew;refine aJ 19 qC [] ?_;refine aL 4 ?_;refine ak (v:=.slice A13 m (c-k)) 4 E qC (λ_ _=>(jY E E (jv E) (jv E) nW (anH _))) ?_;refine aL 3 ?_;refine aY 5 ?_;refine kD 5 E eQ (mg A13 m (c-k) _ _ (St.rd 0 qC E) (fM _) hQ) ?_;rintro _ w58 ⟨A54,c55,rfl,az9,aAa⟩;refine⟨_,E,?_⟩;have BJ:=qC.uj az9 aAa;refine aL 12 ?_;refine zN 3 ?_;have zJ:=BJ.aO [3,2,1];have O:=(eu (zJ.own 0 E)).1;have sS:=zJ.bF 0 E;have I:((l.drop k).take m).length=m:=by rw[length_take,length_drop];omega
    rw[Bd (b:=⟨ro,ep,fr,tg,rd,l⟩) h7 uQ uQ hm];dsimp only;rw[decide_eq_false (λh=>hend Y)];refine⟨A54,c55,?_,?_,?_⟩
    · dsimp only;rw[I];exact O
    · dsimp only;rw[I];rfl
    · dsimp only;rw[I];exact sS
   refine zQ ?_;have Fu:=zI.drew;refine aJ 19 Fu [] ?_;refine aL 4 ?_;refine ak (v:=.slice A13 m (c-k)) 4 E Fu (λ_ _=>(jY E E (jv E) (jv E) nW (anH _))) ?_;refine aL 3 ?_;refine aY 5 ?_;refine kD 5 E eQ (mg A13 m (c-k) _ _ (St.rd 0 Fu E) (fM _) hQ) ?_;rintro _ w85 ⟨A81,c82,rfl,aAb,aAc⟩;refine⟨_,E,?_⟩;have BM:=Fu.uj aAb aAc;refine aL 12 ?_;refine zN 3 ?_;have zm:=BM.aO [3,2,1];have O:=(eu (zm.own 0 E)).1;have Dq:=zm.bF 0 E;have I:((l.drop k).take m).length=m:=by rw[length_take,length_drop];omega
   rw[Bd (b:=⟨ro,ep,fr,tg,rd,l⟩) h7 uQ uQ hm];dsimp only;rw[decide_eq_false (λh=>hr3 h.1)];refine⟨A81,c82,?_,?_,?_⟩
   · dsimp only;rw[I];exact O
   · dsimp only;rw[I];rfl
   · dsimp only;rw[I];exact Dq
  refine zN 4 ?_;by_cases h94:ro=3
  ·refine zN 11 ?_;by_cases h95:hv<0
   ·refine zN 21 ?_;have Fz:=S5.aO [1,0];rw[show gX ⟨ro,ep,fr,tg,rd,l⟩ hv=([],false,2)from by unfold gX;(try dsimp only);exact kV];exact⟨none,0,zero_le _,E,aB Fz⟩
   refine zN 6 ?_;by_cases h97:((l.length:Nat):Int)<hv
   ·refine zN 15 ?_;have Dw:=S5.aO [1,0];rw[show gX ⟨ro,ep,fr,tg,rd,l⟩ hv=([],false,2)from by unfold gX;(try dsimp only);exact kV];exact⟨none,0,zero_le _,E,aB Dw⟩
   refine zN 8 ?_;obtain⟨k,rfl⟩:∃k:Nat,hv=k:=⟨hv.toNat,by omega⟩;obtain⟨m,hm⟩:∃m,min (k+3) l.length=k+m:=⟨min (k+3) l.length-k,by omega⟩;refine zN 2 ?_;refine vv (v:=D ((k+3:Nat):Int)) jc ?_;refine zN 3 ?_;refine vv (v:=D ((k+m:Nat):Int)) (pI (vs:=[D ((k+3:Nat):Int),D ((l.length:Nat):Int)]) E xH λ_=>by rw[VI,hm]) ?_;refine zN 3 ?_;obtain⟨Z,adS,avR,aFy⟩:=Fj (P:=tP) (t:=40) (enc:=Ev.cells) (s:=6) (λ_=>E) (A:=A) (b:=l) (n:=l.length) (c:=c) (lo:=(some (D ((k:Nat):Int)))) (hi:=(some (D ((k+m:Nat):Int)))) (mx:=none) (l:=k) (k:=k+m) (q:=c) (m:=m) (c':=c-k) underlying40 kQ (WJ k (k+m) E E Y Y) Y Y Y Y Y;have vF:=S5.bX (avR _ _ (S5.all 1 _ E));by_cases hr3:ro=3
   ·by_cases hend:((k+m:Nat):Int)=((l.length:Nat):Int)
    ·refine zQ ?_;have yM:=vF.drew;refine aJ 19 yM [] ?_;refine aL 4 ?_;refine ak (v:=.slice Z m (c-k)) 4 E yM (λ_ _=>(jY E E (jv E) (jv E) nW (adS _))) ?_;refine aL 3 ?_;refine aY 5 ?_;refine kD 5 E eQ (mg Z m (c-k) _ _ (St.rd 0 yM E) (fM _) hQ) ?_;rintro _ abG ⟨aAd,aAe,rfl,avS,avT⟩;refine⟨_,E,?_⟩;have wo:=yM.uj avS avT;refine aL 12 ?_;refine zN 3 ?_;have zU:=wo.aO [3,2,1];have O:=(eu (zU.own 0 E)).1;have abH:=zU.bF 0 E;have I:((l.drop k).take m).length=m:=by rw[length_take,length_drop];omega
     rw[Bd (b:=⟨ro,ep,fr,tg,rd,l⟩) h7 uQ uQ hm];dsimp only;rw[decide_eq_true ⟨hr3,by omega⟩];refine⟨aAd,aAe,?_,?_,?_⟩
     · dsimp only;rw[I];exact O
     · dsimp only;rw[I];rfl
     · dsimp only;rw[I];exact abH
    refine zQ ?_;have yN:=vF.drew;refine aJ 19 yN [] ?_;refine aL 4 ?_;refine ak (v:=.slice Z m (c-k)) 4 E yN (λ_ _=>(jY E E (jv E) (jv E) nW (adS _))) ?_;refine aL 3 ?_;refine aY 5 ?_;refine kD 5 E eQ (mg Z m (c-k) _ _ (St.rd 0 yN E) (fM _) hQ) ?_;rintro _ ahH ⟨aAf,c141,rfl,avU,avV⟩;refine⟨_,E,?_⟩;have LP:=yN.uj avU avV;refine aL 12 ?_;refine zN 3 ?_;have abI:=LP.aO [3,2,1];have O:=(eu (abI.own 0 E)).1;have anI:=abI.bF 0 E;have I:((l.drop k).take m).length=m:=by rw[length_take,length_drop];omega
    rw[Bd (b:=⟨ro,ep,fr,tg,rd,l⟩) h7 uQ uQ hm];dsimp only;rw[decide_eq_false (λh=>hend Y)];refine⟨aAf,c141,?_,?_,?_⟩
    · dsimp only;rw[I];exact O
    · dsimp only;rw[I];rfl
    · dsimp only;rw[I];exact anI
   refine zQ ?_;have M:=vF.drew;refine IB (C:=λw'=>St w.heap.size w w' [.rd 6 Z m (((l.drop k).take m).flatMap Ev.cells),.blk b1 #[D ro,D ep,D fr,D tg,D rd,.slice A l.length c] 42,.rd 6 A l.length ((l).flatMap Ev.cells)]) (n:=19) (listed:= #[false,false,false,false,false,false,false,false,false,false,false,false,false,false,false,false,false,false,false]) mixed E E ?_;refine ak (v:=pV b1 5) 0 E M (λ_ _=>xI _ aed) ?_;refine ak (v:=.slice A l.length c) 1 E M (λ_ adT=>(au E E (aK (St.cl 1 adT E E)))) ?_;refine ak (v:=D ((k:Nat):Int)) 2 E M (λ_ _=>ym) ?_;refine ak (v:=D ((k+m:Nat):Int)) 3 E M (λ_ _=>ym) ?_;refine ak (v:=.slice Z m (c-k)) 4 E M (λ_ _=>(jY E E (jv E) (jv E) nW (adS _))) ?_;refine ak (v:=pV b1 0) 6 E M (λ_ _=>xI _ aec) ?_;refine ak (v:=D ro) 7 E M (λ_ avW=>(au E E (aK (St.cl 1 avW E E)))) ?_;refine ak (v:=.bool false) 8 E M (λ_ _=>avC hr3) ?_;refine aY 5 ?_;refine kD 5 E eQ (mg Z m (c-k) _ _ (St.rd 0 M E) (fM _) hQ) ?_;rintro _ azR ⟨ath,c168,rfl,avX,avY⟩;refine⟨_,E,?_⟩;have J:=M.uj avX avY;refine⟨(St.del 0 J),?_⟩;refine ak (v:=.bool false) 9 E (St.del 0 J) (λ_ _=>ym) ?_;refine AQ (i:=10) (n:=8) E kQ kQ kQ (St.del 0 J) E (wg E E E E) E E ?_;refine AQ (i:=11) (n:=7) E kQ kQ kQ (St.del 0 J) E (wg E E E E) E E ?_;refine AQ (i:=12) (n:=6) E kQ kQ kQ (St.del 0 J) E (wg E E E E) E E ?_;refine AQ (i:=13) (n:=5) E kQ kQ kQ (St.del 0 J) E (wg E E E E) E E ?_;refine AQ (i:=14) (n:=4) E kQ kQ kQ (St.del 0 J) E (wg E E E E) E E ?_;refine ak (v:=.bool false) 15 E (St.del 0 J) (λ_ _=>Sw) ?_;refine ak (v:=.slice ath m c168) 16 E (St.del 0 J) (λ_ _=>ya) ?_;refine ak (v:=.bool false) 17 E (St.del 0 J) (λ_ _=>ya) ?_;refine ak (v:=D 0) 18 E (St.del 0 J) (λ_ _=>ya) ?_;refine dR ?_;refine zN 3 ?_;have WU:=J.aO [3,2,1];have O:=(eu (WU.own 0 E)).1;have aAg:=WU.bF 0 E;have I:((l.drop k).take m).length=m:=by rw[length_take,length_drop];omega
   rw[Bd (b:=⟨ro,ep,fr,tg,rd,l⟩) h7 uQ uQ hm];dsimp only;rw[decide_eq_false (λh=>hr3 h.1)];refine⟨ath,c168,?_,?_,?_⟩
   · dsimp only;rw[I];exact O
   · dsimp only;rw[I];rfl
   · dsimp only;rw[I];exact aAg
  refine zN 15 ?_;have abJ:=S5.aO [1,0];rw[show gX ⟨ro,ep,fr,tg,rd,l⟩ hv=([],false,7)from by unfold gX;(try dsimp only);exact kV];exact⟨none,0,zero_le _,E,aB abJ⟩
 refine zN 15 ?_;have abK:=S5.aO [1,0];rw[show gX ⟨ro,ep,fr,tg,rd,l⟩ hv=([],false,aj ⟨ro,ep,fr,tg,rd,l⟩)from by unfold gX;(try dsimp only);exact kV];exact⟨none,0,zero_le _,E,aB abK⟩
def JG (b:aQ)(ep:Int)(d:Nat)(l:List Ev)(last:Bool):aQ:=if last=true then⟨1,ep,0,0,0,b.evs++l.drop d++[aF]⟩else{b with evs:=b.evs++l.drop d}
def SV {b:aQ}{ep:Int}{d:Nat}{l:List Ev}:JG b ep d l true=⟨1,ep,0,0,0,b.evs++l.drop d++[aF]⟩:=rfl
def SX {b:aQ}{ep:Int}{d:Nat}{l:List Ev}:JG b ep d l false={b with evs:=b.evs++l.drop d}:=rfl
def FE {b:aQ}{ep:Int}{k:Nat}{K:List Ev}{last:Bool}(h:aj b=0)(I:b.role=4)(he:b.ep=ep)(J:k<=b.evs.length):cu b ep k K last=
  if ¬(b.evs.drop k).take K.length=K.take (b.evs.length-k)then(bD,3)else if last=true/\k+K.length<b.evs.length then(bD,3)
  else if aj (JG b ep (b.evs.length-k) K last)≠0 then(bD,3)else(JG b ep (b.evs.length-k) K last,0):=by
 unfold cu JG;rw[if_neg (λh1=>h1 h),if_neg (λh1=>h1 I),if_neg (λh1=>h1 he),if_neg Y,Int.toNat_natCast]
section
variable {l K:List Ev}{k d p i:Nat}
def aks (J:l.length=k+d)(M:min d K.length=p):((l.drop k).take K.length=K.take d)↔((l.drop k).take p=K.take p):=by
 have h:(l.drop k).take K.length=(l.drop k).take p:=by rw[take_eq_take_iff,length_drop];omega
 have I:K.take d=K.take p:=by rw[take_eq_take_iff];omega
 rw[h,I]
def af9 (I:min d K.length=p):K.drop p=K.drop d:=by
 rcases Nat.le_total d K.length with h|h
 ·rw[show p=d by omega]
 rw[drop_eq_nil_of_le h,drop_eq_nil_of_le Y]
end
def akt {a b:Ev}(h:a=b)(w:World):(binOp .neq 49 (.agg #[D a.kind,D a.producer,D a.id,D a.body,D a.aN,D a.hno])
  (.agg #[D b.kind,D b.producer,D b.id,D b.body,D b.aN,D b.hno])).run tP w=.ok (.bool false) w:=by
 rw[rA,decide_eq_true h];rfl
def aku {a b:Ev}(h:¬a=b)(w:World):(binOp .neq 49 (.agg #[D a.kind,D a.producer,D a.id,D a.body,D a.aN,D a.hno])
  (.agg #[D b.kind,D b.producer,D b.id,D b.body,D b.aN,D b.hno])).run tP w=.ok (.bool true) w:=by
 rw[rA,decide_eq_false h];rfl
def aqA {x y:List Ev}{k:Nat}{a b:Ev}(I:x[k]? =some a)(J:y[k]? =some b)(h:¬a=b):¬x=y:=λe=>by
 rw[e,J]at I
 injection I with h1
 exact h h1.symm
def QZ (A A':Option Addr) (c c' n:Nat) (xs ys:List Ev) (w:World) (h:Rd w w.heap.size 6 A n (bq xs)) (h':Rd w w.heap.size 6 A' n (bq ys)) (hx:xs.length=n) (hy:ys.length=n) (hn:n<=1152921504606846976):
    Calls tP 113 #[.slice A n c,.slice A' n c'] w (Fp w (decide (xs=ys))):=by
 have S:=((St.start w).bX h').bX h;clear h h';refine gK 26 func113 ?_;refine cw [0,1] ?_;refine zN 27 ?_;refine fO (X:=Nat) (λxv=>[(0,.slice A n c),(1,.slice A' n c'),(4,.bool false),(12,D ((n:Nat):Int)),(13,D ((xv:Nat):Int))]) (λxv wr=>(xv<=n)/\(xs.take xv=ys.take xv)/\St w.heap.size w wr [.rd 6 A n ((xs).flatMap Ev.cells),.rd 6 A' n ((ys).flatMap Ev.cells)]) (λxv=>n-xv) (0) ?_ ?_ ?_
 ·exact⟨zero_le _,E,S⟩
 ·exact zZ
 rintro k w1 ⟨hi3,hi4,S2⟩
 try dsimp only at hi3 hi4 S2
 refine bH (l':=[(0,.slice A n c),(1,.slice A' n c'),(4,.bool false),(12,D ((n:Nat):Int)),(13,D ((k:Nat):Int))]) zZ (aM (av ?_));by_cases h5:((k:Nat):Int)< ((n:Nat):Int)
 ·refine zN 16 ?_;refine iD S2 mixed kQ ?_;refine zN 2 ?_;obtain⟨b8,o9,rfl⟩:=Rd.addr (St.rd 0 S2 E) Y;obtain⟨I,M⟩:=KQ k (St.rd 0 S2 E) Y;refine uv (λ_ _=>kZ k) ?_;refine uv (v:=.agg #[D I.kind,D I.producer,D I.id,D I.body,D I.aN,D I.hno]) (λ_ R6=>(au E E (dS (cs:=Ev.cells I) (Rd.yB (St.rd 0 R6 E) (λ_ _ h=>dh (enc:=Ev.cells) (sz:=6) (λ_=>E) M h))))) ?_;refine zN 2 ?_;obtain⟨b16,o17,rfl⟩:=Rd.addr (St.rd 1 S2 E) Y;obtain⟨J,O⟩:=KQ k (St.rd 1 S2 E) Y;refine uv (λ_ _=>kZ k) ?_;refine uv (v:=.agg #[D J.kind,D J.producer,D J.id,D J.body,D J.aN,D J.hno]) (λ_ aAh=>(au E E (dS (cs:=Ev.cells J) (Rd.yB (St.rd 1 aAh E) (λ_ _ h=>dh (enc:=Ev.cells) (sz:=6) (λ_=>E) O h))))) ?_;by_cases Z:I=J
  ·refine uv (v:=.bool false) (λ_ _=>(bC E E E (Ip kQ (akt Z _)))) ?_;refine iH λJB jP=>?_;refine zN 6 ?_;refine vv (v:=D ((k+1:Nat):Int)) jc ?_;refine zN 2 ?_;refine bQ (k+1) ?_ zZ (by first|omega|(dsimp only;omega));exact⟨Y,(by rw[take_add_one,take_add_one,hi4,M,O,Z]),jP⟩
  refine uv (v:=.bool true) (λ_ _=>(bC E E E (Ip kQ (aku Z _)))) ?_;refine iH λNP tT=>?_;refine zN 14 ?_;exact⟨zD (aqA M O Z),tT.low⟩
 refine zN 17 ?_;obtain rfl:n=k:=Y;have he:xs=ys:=by rw[<-take_of_length_le (Nat.le_of_eq hx),<-take_of_length_le (l:=ys) (Nat.le_of_eq hy)];exact hi4
 exact⟨reT he,S2.low⟩
def FH (ro ep fr tg rd:Int) (A:Option Addr) (c:Nat) (l:List Ev) (e at_:Int) (A2:Option Addr) (c2:Nat) (K:List Ev) (last:Bool) (hlc:l.length<=c) (hkc:K.length<=c2) (w:World) (hK:Rd w w.heap.size 6 A2 K.length (bq K)) (h:Rd w w.heap.size 6 A l.length (bq l)) (hb:l.length*48<=reachBytes) (hbK:(K.length+2001)*48<=reachBytes):
    Calls tP 95 #[.agg #[D ro,D ep,D fr,D tg,D rd,.slice A l.length c],D e,D at_,.slice A2 K.length c2,.bool last] w (kS w (cu ⟨ro,ep,fr,tg,rd,l⟩ e at_ K last)):=by
 have S:=((St.start w).bX hK).bX h;have hb2:=hb;unfold reachBytes at hb2;refine gK 101 func95 ?_;refine cw [0,1,2,3,4] ?_;refine zN 2 ?_;refine iP S ?_;intro b1 w2 S3;refine gB S3 gu ?_;intro b4 w5 S6;refine zN 7 ?_;refine cab eQ S6 (eB ro ep fr tg rd A c l _ (St.rd 2 S6 E) Y) ?_;intro w7 S8;refine zN 7 ?_;by_cases I:aj ⟨ro,ep,fr,tg,rd,l⟩=0
 ·have hsh:=(eP I).1;unfold aZ at hsh;have hln:=gJ (eP I).2;dsimp only at hsh hln;refine zN 9 ?_;by_cases h11:ro=4
  ·refine zN 10 ?_;by_cases h12:ep=e
   ·refine zN 8 ?_;by_cases h13:at_<0
    ·refine zN 14 ?_;refine vv jo ?_;refine sa 0 S8 kQ ?_;intro KV jh;refine zN 7 ?_;have qK:=jh.aO [3,2,1,0];rw[show cu ⟨ro,ep,fr,tg,rd,l⟩ e at_ K last=(bD,2)from by unfold cu;(try dsimp only);exact kV];exact⟨none,0,zero_le _,E,aB qK⟩
    refine zN 6 ?_;by_cases h17:((l.length:Nat):Int)<at_
    ·refine zN 8 ?_;refine vv jo ?_;refine sa 0 S8 kQ ?_;intro MO uz;refine zN 7 ?_;have pK:=uz.aO [3,2,1,0];rw[show cu ⟨ro,ep,fr,tg,rd,l⟩ e at_ K last=(bD,2)from by unfold cu;(try dsimp only);exact kV];exact⟨none,0,zero_le _,E,aB pK⟩
    refine zN 10 ?_;obtain rfl:ro=4:=Y;obtain rfl:tg=0:=Y;obtain rfl:rd=0:=Y;obtain rfl:e=ep:=Y;clear hsh;have hbL:(l.length+K.length+1)*48<=reachBytes:=Nat.le_trans (mul_le_mul_right 48 Y) hbK;have hb3:=hbL;unfold reachBytes at hb3;obtain⟨k,rfl⟩:∃k:Nat,at_=k:=⟨at_.toNat,by omega⟩;obtain⟨d,hd⟩:∃d,l.length=k+d:=⟨l.length-k,by omega⟩;obtain⟨p,hp⟩:∃p,min d K.length=p:=⟨_,E⟩;have J:=Lib.hid (aks (l:=l) (K:=K) hd hp);refine zN 5 ?_;refine vv (v:=D ((d:Nat):Int)) ysu ?_;refine zN 2 ?_;refine vv (v:=D ((p:Nat):Int)) (pI (vs:=[D ((d:Nat):Int),D ((K.length:Nat):Int)]) E xH λ_=>by rw[VI,hp]) ?_;refine zN 4 ?_;obtain⟨Z,aAi,aAj,aIR⟩:=Fj (P:=tP) (t:=40) (enc:=Ev.cells) (s:=6) (λ_=>E) (A:=A) (b:=l) (n:=l.length) (c:=c) (lo:=(some (D ((k:Nat):Int)))) (hi:=(some (D ((k+p:Nat):Int)))) (mx:=(some (D ((k+p:Nat):Int)))) (l:=k) (k:=k+p) (q:=k+p) (m:=p) (c':=p) underlying40 kQ (aea k (k+p) (k+p) E E E Y Y Y) Y Y Y Y Y;have lC:=S8.bX (aAj _ _ (S8.all 2 _ E));obtain⟨A26,aAk,aAl,aIS⟩:=Fj (P:=tP) (t:=40) (enc:=Ev.cells) (s:=6) (λ_=>E) (A:=A2) (b:=K) (n:=K.length) (c:=c2) (lo:=none) (hi:=(some (D ((p:Nat):Int)))) (mx:=(some (D ((p:Nat):Int)))) (l:=0) (k:=p) (q:=p) (m:=p) (c':=p) underlying40 kQ (alT p p E E Y Y) Y Y Y Y Y;have BH:=lC.bX (aAl _ _ (lC.all 4 _ E));have qB:=BH;rw[drop_zero]at qB;refine zQ ?_;refine iD qB mixed kQ ?_;refine zN 5 ?_;refine uv (v:=D ((k+p:Nat):Int)) (λ_ _=>jc) ?_;refine zN 2 ?_;refine uv (v:=D ((k+p:Nat):Int)) (λ_ _=>jc) ?_;refine uv (v:=.slice Z p p) (λ_ _=>(jY E E (jv E) (jv E) (jv E) (aAi _))) ?_;refine zN 3 ?_;refine uv (v:=.slice A26 p p) (λ_ _=>(jY E E nW (jv E) (jv E) (aAk _))) ?_;have HE:=λ(w:World) h h1=>QZ Z A26 p p p ((l.drop k).take p) (K.take p) w h h1 (by rw[length_take,length_drop];omega) (by rw[length_take];omega) Y;by_cases hq:(l.drop k).take p=K.take p
    ·rw[decide_eq_true hq]at HE;refine Y6 (v:=.bool true) (wn E) E E (λ_=>(jd (vs:=[.slice Z p p,.slice A26 p p]) E eQ xH)) (λ_ anJ=>(HE _ (St.rd 1 anJ E) (St.rd 0 anJ E)).mono λ_ _ h=>⟨h.1,anJ.on h.2⟩) ?_;clear HE;refine zQ ?_;refine iH λZA xO=>?_;refine zN 4 ?_;have SY:=af9 (K:=K) hp;obtain⟨M,aAm,aAn,aIT⟩:=Fj (P:=tP) (t:=40) (enc:=Ev.cells) (s:=6) (λ_=>E) (A:=A2) (b:=K) (n:=K.length) (c:=c2) (lo:=(some (D ((p:Nat):Int)))) (hi:=none) (mx:=none) (l:=p) (k:=K.length) (q:=c2) (m:=(K.drop d).length) (c':=c2-p) underlying40 kQ (ahB p E Y) Y Y Y (by rw[length_drop];omega) Y;have uH:=xO.bX (aAn _ _ (xO.all 5 _ E));have vU:=uH;rw[SY,take_length]at vU;have hlk:(l++(K.drop d)).length=l.length+(K.length-d):=by simp
     have hw2:((l++(K.drop d)).length+([aF]:List Ev).length)*48<=reachBytes:=by rw[hlk];exact Nat.le_trans (mul_le_mul_right 48 (by simp only[length_cons,length_nil];omega)) hbL
     refine ny (X:=Nat×(Option Addr)×Nat) (λxv=>[(1,D e),(2,D ((k:Nat):Int)),(3,.slice A2 K.length c2),(4,.bool last),(5,pV b1 0),(10,pV b4 0),(11,D 0),(14,pV xv.1 0)]) (λxv wr=>St w.heap.size w wr [.blk xv.1 #[D 4,D e,D fr,D 0,D 0,.slice xv.2.1 ((l++(K.drop d)).length) xv.2.2] 42,.own 49 6 (.slice xv.2.1 ((l++(K.drop d)).length) xv.2.2) ((l++(K.drop d)).length) ((l++(K.drop d)).flatMap Ev.cells),.rd 6 M ((K.drop d).length) ((K.drop d).flatMap Ev.cells),.rd 6 A26 p ((K.take p).flatMap Ev.cells),.rd 6 Z p (((l.drop k).take p).flatMap Ev.cells),.blk b4 zB 42,.blk b1 #[D 4,D e,D fr,D 0,D 0,.slice A l.length c] 42,.rd 6 A l.length ((l).flatMap Ev.cells),.rd 6 A2 K.length ((K).flatMap Ev.cells)]) ?_ ?_
     ·have O:=vU.drew;refine fK 7 6 O [] ?_;iterate 3 refine gU ?_
      refine gk (v:=.slice M ((K.drop d).length) (c2-p)) 3 E O (λ_ _=>(jY E E (jv E) nW nW (aAm _))) ?_;refine ad8 (m:=2) (r:=4) (s:=5) kQ ?_ ?_
      ·refine lI (i:=4) E E (wn E) E E (jd (vs:=[.agg #[D 4,D e,D fr,D 0,D 0,.slice A l.length c],.slice M ((K.drop d).length) (c2-p)]) E eQ xH) (rF 4 e fr 0 0 A c l M (c2-p) (K.drop d) _ (St.rd 5 O E) (St.rd 0 O E) (by rw[length_drop];unfold reachBytes;omega)) ?_;rintro _ w63 ⟨A61,c62,rfl,T65⟩;refine⟨_,E,?_⟩;have S64:=O.ext T65 E;refine gU ?_;refine fC (m:=1) (r:=5) kQ ?_;refine mQ (i:=5) E E (V:=λb=>pV b 0) (row:=zB) (t:=42) S64 (wn E) E E (iM E (zeroValue42 _) E) ?_;intro b66 w67 Cy;refine gU ?_;refine fu kQ E E E ?_;refine sa 0 Cy kQ ?_;intro w69 zJ;refine zQ ?_;refine iX ?_;refine dL (b66,A61,c62) ?_ VH;exact zJ
      refine mQ (i:=5) E E (V:=λb=>pV b 0) (row:=zB) (t:=42) O (wn E) E E (iM E (zeroValue42 _) E) ?_;intro b71 w72 tV;refine gU ?_;refine fC (m:=1) (r:=4) kQ ?_;refine lI (i:=4) E E (wn E) E E (jd (vs:=[.agg #[D 4,D e,D fr,D 0,D 0,.slice A l.length c],.slice M ((K.drop d).length) (c2-p)]) E eQ xH) (rF 4 e fr 0 0 A c l M (c2-p) (K.drop d) _ (St.rd 6 tV E) (St.rd 1 tV E) (by rw[length_drop];unfold reachBytes;omega)) ?_;rintro _ w76 ⟨A74,c75,rfl,T78⟩;refine⟨_,E,?_⟩;have Fv:=tV.ext T78 E;refine gU ?_;refine fu kQ E E E ?_;refine sa 1 Fv kQ ?_;intro w79 BK;refine zQ ?_;refine iX ?_;have vK:St w.heap.size w w79 [_,_,_,_,_,_,_,_,_]:=BK.re [1,0,2,3,4,5,6,7,8] dQ;refine dL (b71,A74,c75) ?_ VH;exact vK
     rintro⟨b82,A83,c84⟩ w85 BM
     try dsimp only at BM
     refine bH (l':=[(1,D e),(2,D ((k:Nat):Int)),(3,.slice A2 K.length c2),(4,.bool last),(5,pV b1 0),(10,pV b4 0),(11,D 0),(14,pV b82 0)]) VH (aM (rM (aM (av (vm ?_)))));refine zQ ?_
     cases atm:(last)
     ·refine zN 27 ?_;refine cab eQ BM (eB 4 e fr 0 0 A83 c84 (l++(K.drop d)) _ (St.ord 1 BM E) (by simp only[length_append,length_cons,length_nil,length_drop];omega)) ?_;intro w88 MQ;by_cases Gy:aj ⟨4,e,fr,0,0,l++(K.drop d)⟩=0
      ·refine zN 9 ?_;refine sa 5 MQ kQ ?_;intro w92 Dq;refine zN 5 ?_;rw[FE (b:=⟨4,e,fr,0,0,l⟩) (k:=k) I E E uQ];dsimp only;rw[show l.length-k=d from by omega];rw[if_neg (λh=>h (J.out.2 hq))];rw[if_neg iQ];rw[SX];dsimp only;rw[if_neg (λh=>h Gy)];have Hu:=Dq.aO [8,7,6,5,4,3,2,0];have hcp:=(eu (Hu.own 0 E)).1;have K6:=Hu.bF 0 E;exact⟨A83,c84,mD,E,K6⟩
      refine zN 6 ?_;refine vv jo ?_;refine sa 5 MQ kQ ?_;intro w96 Fy;refine zN 6 ?_;rw[FE (b:=⟨4,e,fr,0,0,l⟩) (k:=k) I E E uQ];dsimp only;rw[show l.length-k=d from by omega];rw[if_neg (λh=>h (J.out.2 hq))];rw[if_neg iQ];rw[SX];dsimp only;rw[if_pos Gy];have Dw:=Fy.aO [8,7,6,5,4,3,2,1,0];exact⟨none,0,zero_le _,E,aB Dw⟩
     refine zN 3 ?_;refine vg (v:=D ((k+K.length:Nat):Int)) jc ?_;refine zN 3 ?_;by_cases h99:((k+K.length:Nat):Int)< ((l.length:Nat):Int)
     ·refine zN 8 ?_;refine vv jo ?_;refine sa 5 BM kQ ?_;intro ahL wu;refine zN 7 ?_;rw[FE (b:=⟨4,e,fr,0,0,l⟩) (k:=k) I E E uQ];dsimp only;rw[show l.length-k=d from by omega];rw[if_neg (λh=>h (J.out.2 hq))];rw[if_pos ⟨E,by omega⟩];have tq:=wu.aO [8,7,6,5,4,3,2,1,0];exact⟨none,0,zero_le _,E,aB tq⟩
     refine zN 17 ?_;refine vv (v:=.agg #[D 1,D e,D 0,D 0,D 0,.slice A83 ((l++(K.drop d)).length) c84]) gG ?_;refine vv (v:=.agg #[D 4,D 0,D 0,D 0,D 0,D 0]) gG ?_;refine Sy BM ?_;intro aAo atn sF;refine dO eQ (rF 1 e 0 0 0 A83 c84 (l++(K.drop d)) (aD aAo 0) 1 [aF] _ (St.ord 2 sF E) (St.mq (xs:=bq [aF]) 0 sF E E E) hw2) ?_;rintro _ ato ⟨atp,c107,rfl,aAp⟩;refine⟨_,E,?_⟩;have I6:=sF.ext aAp E;refine sa 2 I6 kQ ?_;intro abF BN;refine zN 7 ?_;refine cab eQ BN (eB 1 e 0 0 0 atp c107 (l++(K.drop d)++[aF]) _ (St.ord 0 BN E) (by simp only[length_append,length_cons,length_nil,length_drop];omega)) ?_;intro anK EC;by_cases h116:aj ⟨1,e,0,0,0,l++(K.drop d)++[aF]⟩=0
     ·refine zN 9 ?_;refine sa 7 EC kQ ?_;intro abG wo;refine zN 5 ?_;rw[FE (b:=⟨4,e,fr,0,0,l⟩) (k:=k) I E E uQ];dsimp only;rw[show l.length-k=d from by omega];rw[if_neg (λh=>h (J.out.2 hq))];rw[if_neg jQ];rw[SV];dsimp only;rw[if_neg (λh=>h h116)];have xP:=wo.aO [10,9,8,7,6,5,4,3,2,1];have hcp:=(eu (xP.own 0 E)).1;have uE:=xP.bF 0 E;exact⟨atp,c107,mD,E,uE⟩
     refine zN 6 ?_;refine vv jo ?_;refine sa 7 EC kQ ?_;intro abL CV;refine zN 6 ?_;rw[FE (b:=⟨4,e,fr,0,0,l⟩) (k:=k) I E E uQ];dsimp only;rw[show l.length-k=d from by omega];rw[if_neg (λh=>h (J.out.2 hq))];rw[if_neg jQ];rw[SV];dsimp only;rw[if_pos h116];have zP:=CV.aO [10,9,8,7,6,5,4,3,2,1,0];exact⟨none,0,zero_le _,E,aB zP⟩
    rw[decide_eq_false hq]at HE;refine Y6 (v:=.bool false) (wn E) E E (λ_=>(jd (vs:=[.slice Z p p,.slice A26 p p]) E eQ xH)) (λ_ adU=>(HE _ (St.rd 1 adU E) (St.rd 0 adU E)).mono λ_ _ h=>⟨h.1,adU.on h.2⟩) ?_;clear HE;refine zQ ?_;refine iH λanz RZ=>?_;refine zN 4 ?_;refine vv jo ?_;refine sa 2 RZ kQ ?_;intro aAq zU;refine zN 6 ?_;rw[FE (b:=⟨4,e,fr,0,0,l⟩) (k:=k) I E E uQ];dsimp only;rw[show l.length-k=d from by omega];rw[if_pos (λh=>hq (J.out.1 h))];have abH:=zU.aO [5,4,3,2,1,0];exact⟨none,0,zero_le _,E,aB abH⟩
   refine zN 7 ?_;refine vv jo ?_;refine sa 0 S8 kQ ?_;intro ahG yH;refine zN 7 ?_;have R8:=yH.aO [3,2,1,0];rw[show cu ⟨ro,ep,fr,tg,rd,l⟩ e at_ K last=(bD,15)from by unfold cu;(try dsimp only);exact kV];exact⟨none,0,zero_le _,E,aB R8⟩
  refine zN 7 ?_;refine vv jo ?_;refine sa 0 S8 kQ ?_;intro asK LV;refine zN 7 ?_;have LQ:=LV.aO [3,2,1,0];rw[show cu ⟨ro,ep,fr,tg,rd,l⟩ e at_ K last=(bD,7)from by unfold cu;(try dsimp only);exact kV];exact⟨none,0,zero_le _,E,aB LQ⟩
 refine zN 7 ?_;refine vv jo ?_;refine zQ ?_;refine sa 0 S8 kQ ?_;intro asg EB;refine zN 7 ?_;have Gw:=EB.aO [3,2,1,0];rw[show cu ⟨ro,ep,fr,tg,rd,l⟩ e at_ K last=(bD,aj ⟨ro,ep,fr,tg,rd,l⟩)from by unfold cu;(try dsimp only);exact kV];exact⟨none,0,zero_le _,E,aB Gw⟩
noncomputable def CW (b:aQ)(e:Ev):aQ×Int:=if aj ⟨b.role,b.ep,b.fr,b.tg,b.rd,b.evs++[e]⟩≠0 then(bD,3)else(⟨b.role,b.ep,b.fr,b.tg,b.rd,b.evs++[e]⟩,0)
def WV (b:aQ)(pe:Int):aQ×Int:=(⟨3,b.ep,b.fr,pe,b.rd,b.evs⟩,0)
noncomputable def kL (b:aQ)(r:cB):aQ×Int:=
 if r.kind=1 then iT b r.epoch else if r.kind=4 then dn b r.epoch r.peer
 else if ¬(b.role=(if r.kind=2\/r.kind=3 then 1 else if r.kind=7 then 3 else 4)/\b.ep=r.epoch)then(bD,3)
 else if r.kind=3 then WV b r.peer else if r.kind=6 then cu b r.epoch b.evs.length [] true else if r.kind=7 then fP b (r.epoch+1)else CW b r.ev
noncomputable def eD (b:aQ)(r:cB):aQ×Int:=
 if aj b≠0 then(bD,aj b)else if aG r≠0 then(bD,aG r)
 else if b.role=2\/(r.kind≠3/\r.kind≠4/\r.peer≠0)then(bD,3)else if (kL b r).2≠0 then(bD,3)else((kL b r).1,0)
def wz (ro ep fr tg rd:Int) (A:Option Addr) (c:Nat) (l:List Ev) (kd qu e pe:Int) (x:Ev) (w:World) (h:Rd w w.heap.size 6 A l.length (bq l)) (hb:l.length*48<=reachBytes):
    Calls tP 103 #[.agg #[D ro,D ep,D fr,D tg,D rd,.slice A l.length c],.agg (rR kd qu e pe x)] w (kS w (iT ⟨ro,ep,fr,tg,rd,l⟩ e)):=by
 have S:=(St.start w).bX h;have I:=hb;unfold reachBytes at I;obtain⟨R,hR⟩:∃R,iT ⟨ro,ep,fr,tg,rd,l⟩ e=R:=⟨_,E⟩;rw[hR];refine gK 12 func103 ?_;refine cw [0,1] ?_;refine zN 2 ?_;refine iP S ?_;intro b1 w2 S3;refine iP S3 ?_;intro b4 w5 S6;refine gB S6 gu ?_;intro b7 w8 S9;refine zN 8 ?_;refine dO eQ ((hR▸KZ ro ep fr tg rd A c l e _ (St.rd 3 S9 E) hb)) ?_;rintro _ Ea ⟨J,M,O,rfl,Z⟩;refine⟨_,E,?_⟩;have mX:=S9.ext Z E;refine zN 2 ?_;refine sa 1 mX kQ ?_;intro w16 zI;refine zN 5 ?_;have qO:=zI.aO [4,3,2,1];exact⟨J,M,by assumption,E,qO⟩
def wD (ro ep fr tg rd:Int) (A:Option Addr) (c:Nat) (l:List Ev) (kd qu e pe:Int) (x:Ev) (w:World) (h:Rd w w.heap.size 6 A l.length (bq l)) (hb:l.length*48<=reachBytes):
    Calls tP 107 #[.agg #[D ro,D ep,D fr,D tg,D rd,.slice A l.length c],.agg (rR kd qu e pe x)] w (kS w (dn ⟨ro,ep,fr,tg,rd,l⟩ e pe)):=by
 have S:=(St.start w).bX h;have I:=hb;unfold reachBytes at I;obtain⟨R,hR⟩:∃R,dn ⟨ro,ep,fr,tg,rd,l⟩ e pe=R:=⟨_,E⟩;rw[hR];refine gK 14 func107 ?_;refine cw [0,1] ?_;refine zN 2 ?_;refine iP S ?_;intro b1 w2 S3;refine iP S3 ?_;intro b4 w5 S6;refine gB S6 gu ?_;intro b7 w8 S9;refine zN 10 ?_;refine dO eQ ((hR▸HY ro ep fr tg rd A c l e pe _ (St.rd 3 S9 E) hb)) ?_;rintro _ Ea ⟨J,M,O,rfl,Z⟩;refine⟨_,E,?_⟩;have mX:=S9.ext Z E;refine zN 2 ?_;refine sa 1 mX kQ ?_;intro w16 zI;refine zN 5 ?_;have qO:=zI.aO [4,3,2,1];exact⟨J,M,by assumption,E,qO⟩
def Va (ro ep fr tg rd:Int) (A:Option Addr) (c:Nat) (l:List Ev) (kd qu e pe:Int) (x:Ev) (I:l.length<=c) (w:World) (h:Rd w w.heap.size 6 A l.length (bq l)) (hb:l.length*48<=reachBytes):
    Calls tP 108 #[.agg #[D ro,D ep,D fr,D tg,D rd,.slice A l.length c],.agg (rR kd qu e pe x)] w (kS w (cu ⟨ro,ep,fr,tg,rd,l⟩ e ((l.length:Nat):Int) [] true)):=by
 have S:=(St.start w).bX h;have J:=hb;unfold reachBytes at J;obtain⟨R,hR⟩:∃R,cu ⟨ro,ep,fr,tg,rd,l⟩ e ((l.length:Nat):Int) [] true=R:=⟨_,E⟩;rw[hR];refine gK 15 func108 ?_;refine cw [0,1] ?_;refine zN 2 ?_;refine iP S ?_;intro b1 w2 S3;refine iP S3 ?_;intro b4 w5 S6;refine gB S6 gu ?_;intro b7 w8 S9;refine zN 11 ?_;refine dO eQ ((hR▸FH ro ep fr tg rd A c l e ((l.length:Nat):Int) none 0 [] true I (Nat.le_refl 0) _ Rd.none_ (St.rd 3 S9 E) hb dQ)) ?_;rintro _ Ea ⟨M,O,Z,rfl,T15⟩;refine⟨_,E,?_⟩;have mX:=S9.ext T15 E;refine zN 2 ?_;refine sa 1 mX kQ ?_;intro w16 zI;refine zN 5 ?_;have qO:=zI.aO [4,3,2,1];exact⟨M,O,by assumption,E,qO⟩
def Vb (ro ep fr tg rd:Int) (A:Option Addr) (c:Nat) (l:List Ev) (kd qu e pe:Int) (x:Ev) (he:0<=e/\e<=1048576) (w:World) (h:Rd w w.heap.size 6 A l.length (bq l)) (hb:l.length*48<=reachBytes):
    Calls tP 109 #[.agg #[D ro,D ep,D fr,D tg,D rd,.slice A l.length c],.agg (rR kd qu e pe x)] w (kS w (fP ⟨ro,ep,fr,tg,rd,l⟩ (e+1))):=by
 have S:=(St.start w).bX h;have I:=hb;unfold reachBytes at I;obtain⟨R,hR⟩:∃R,fP ⟨ro,ep,fr,tg,rd,l⟩ (e+1)=R:=⟨_,E⟩;rw[hR];refine gK 13 func109 ?_;refine cw [0,1] ?_;refine zN 2 ?_;refine iP S ?_;intro b1 w2 S3;refine iP S3 ?_;intro b4 w5 S6;refine gB S6 gu ?_;intro b7 w8 S9;refine zN 8 ?_;refine vv (v:=D (e+1)) jc ?_;refine dO eQ ((hR▸FC ro ep fr tg rd A c l (e+1) _ (St.rd 3 S9 E) hb)) ?_;rintro _ Ea ⟨J,M,O,rfl,Z⟩;refine⟨_,E,?_⟩;have mX:=S9.ext Z E;refine zN 2 ?_;refine sa 1 mX kQ ?_;intro w16 zI;refine zN 5 ?_;have qO:=zI.aO [4,3,2,1];exact⟨J,M,by assumption,E,qO⟩
def Yk (ro ep fr tg rd:Int) (A:Option Addr) (c:Nat) (l:List Ev) (kd qu e pe:Int) (x:Ev) (hl2:l.length<=2000) (w:World) (h:Rd w w.heap.size 6 A l.length (bq l)) (hb:l.length*48<=reachBytes):
    Calls tP 105 #[.agg #[D ro,D ep,D fr,D tg,D rd,.slice A l.length c],.agg (rR kd qu e pe x)] w (kS w (CW ⟨ro,ep,fr,tg,rd,l⟩ x)):=by
 have S:=(St.start w).bX h;have hb2:=hb;unfold reachBytes at hb2;refine gK 19 func105 ?_;refine cw [0,1] ?_;refine zN 2 ?_;refine iP S ?_;intro b1 w2 S3;refine iP S3 ?_;intro b4 w5 S6;refine gB S6 gu ?_;intro b7 w8 S9;refine zN 3 ?_;have Dr:=S9.nil 49 6;refine ny (X:=Nat×(Option Addr)×Nat) (λxv=>[(2,pV b1 0),(4,pV b7 0),(5,D 0)]) (λxv wr=>St w.heap.size w wr [.blk xv.1 #[D x.kind,D x.producer,D x.id,D x.body,D x.aN,D x.hno] 49,.own 49 6 (.slice xv.2.1 ((0+l.length)+1) xv.2.2) ((0+l.length)+1) ((l++[x]).flatMap Ev.cells),.blk b7 zB 42,.blk b4 (rR kd qu e pe x) 138,.blk b1 #[D ro,D ep,D fr,D tg,D rd,.slice xv.2.1 ((0+l.length)+1) xv.2.2] 42,.rd 6 A l.length ((l).flatMap Ev.cells)]) ?_ ?_
 ·have I:=Dr.drew;refine fK 9 7 I [0] ?_;iterate 3 refine gU ?_
  refine gk (v:=.agg #[D x.kind,D x.producer,D x.id,D x.body,D x.aN,D x.hno]) 4 E (St.del 0 I) (λ_ anl=>(au E E (dS (cs:=[D x.kind,D x.producer,D x.id,D x.body,D x.aN,D x.hno]) (St.rg 1 anl E (oK (x:=4) (m:=6) E))))) ?_;refine ad8 (m:=4) (r:=2) (s:=5) kQ ?_ ?_
  ·refine lu (i:=2) E E (news:=(l).flatMap Ev.cells) (xs':=(l).flatMap Ev.cells) 0 I (wn E) E E E E E E (St.rd 4 I E) underlying40 qJ E dQ (fM _) lQ Y (E) ?_;intro A16 c17 MO atr att uz;refine gU ?_;refine fC (m:=3) (r:=5) kQ ?_;refine mQ (i:=5) E E (V:=λb=>.slice (aD b 0) 1 1) (row:= #[D x.kind,D x.producer,D x.id,D x.body,D x.aN,D x.hno]) (t:=49) uz (wn E) E E (aP (vs:=[(0,.agg #[D x.kind,D x.producer,D x.id,D x.body,D x.aN,D x.hno])]) E xH kQ) ?_;intro b22 JB jP;refine gU ?_;refine fC (m:=2) (r:=6) kQ ?_;refine lu (i:=6) E E (news:=[D x.kind,D x.producer,D x.id,D x.body,D x.aN,D x.hno]) (xs':=(l++[x]).flatMap Ev.cells) 1 jP (wn E) E E E E E E (St.mq (xs:=[D x.kind,D x.producer,D x.id,D x.body,D x.aN,D x.hno]) 0 jP E E E) underlying40 qJ E dQ (bP E) lQ Y (jy (enc:=Ev.cells) E E) ?_;intro A25 c26 MN hc29 aAr sP;refine gU ?_;refine fu kQ E E E ?_;refine zQ ?_;refine Hl 4 sP kQ ?_;intro w31 uW;refine zQ ?_;refine iX ?_;refine dL (b22,A25,c26) ?_ Fb;exact uW
  refine mQ (i:=5) E E (V:=λb=>.slice (aD b 0) 1 1) (row:= #[D x.kind,D x.producer,D x.id,D x.body,D x.aN,D x.hno]) (t:=49) I (wn E) E E (aP (vs:=[(0,.agg #[D x.kind,D x.producer,D x.id,D x.body,D x.aN,D x.hno])]) E xH kQ) ?_;intro b33 ZB zo;refine gU ?_;refine fC (m:=3) (r:=2) kQ ?_;refine lu (i:=2) E E (news:=(l).flatMap Ev.cells) (xs':=(l).flatMap Ev.cells) 1 zo (wn E) E E E E E E (St.rd 5 zo E) underlying40 qJ E dQ (fM _) lQ Y (E) ?_;intro A36 c37 w38 aAs aAt BI;refine gU ?_;refine fC (m:=2) (r:=6) kQ ?_;refine lu (i:=6) E E (news:=[D x.kind,D x.producer,D x.id,D x.body,D x.aN,D x.hno]) (xs':=(l++[x]).flatMap Ev.cells) 1 BI (wn E) E E E E E E (St.mq (xs:=[D x.kind,D x.producer,D x.id,D x.body,D x.aN,D x.hno]) 0 BI E E E) underlying40 qJ E dQ (bP E) lQ Y (jy (enc:=Ev.cells) E E) ?_;intro A42 c43 QK aIU aIV qC;refine gU ?_;refine fu kQ E E E ?_;refine zQ ?_;refine Hl 4 qC kQ ?_;intro ZA xO;refine zQ ?_;refine iX ?_;refine dL (b33,A42,c43) ?_ Fb;exact xO
 rintro⟨b50,Z,c52⟩ w53 J
 try dsimp only at J
 refine bH (l':=[(2,pV b1 0),(4,pV b7 0),(5,D 0)]) Fb (aM (aM (av (vv (au E E (pz 4 J E underlying42 E kQ E)) ?_))));have M:(l++[x]).length=(0+l.length)+1:=by simp only[length_append,length_cons,length_nil,length_drop,Nat.zero_add]
 have atu:=λ(w:World) (h:Rd w w.heap.size 6 Z ((l++[x]).length) (bq (l++[x])))=>eB ro ep fr tg rd Z c52 (l++[x]) w h Y;rw[M]at atu;refine dO eQ (atu _ (St.ord 1 J E)) ?_;rintro _ w56 ⟨rfl,O⟩;refine⟨_,E,?_⟩;have vJ:=J.on O;clear O J;by_cases h59:aj ⟨ro,ep,fr,tg,rd,l++[x]⟩=0
 ·have hsh:=(eP h59).1;unfold aZ at hsh;have hln:=gJ (eP h59).2;dsimp only at hsh hln;refine zN 9 ?_;refine sa 2 vJ kQ ?_;intro w60 Hw;refine zN 5 ?_;have JC:=Hw.aO [5,4,3,2,0];have hcp:=(eu (JC.own 0 E)).1;have wO:=JC.bF 0 E;rw[show CW ⟨ro,ep,fr,tg,rd,l⟩ x=(⟨ro,ep,fr,tg,rd,l++[x]⟩,0)from by unfold CW;(try dsimp only);exact kV];refine⟨Z,c52,?_,?_,?_⟩
  · dsimp only;rw[M];exact hcp
  · dsimp only;rw[M];rfl
  · dsimp only;rw[M];exact wO
 refine zN 6 ?_;refine vv jo ?_;refine sa 2 vJ kQ ?_;intro w64 Gx;refine zN 6 ?_;have Hz:=Gx.aO [5,4,3,2,1,0];rw[show CW ⟨ro,ep,fr,tg,rd,l⟩ x=(⟨0,0,0,0,0,[]⟩,3)from by unfold CW;(try dsimp only);exact kV];exact⟨none,0,mD,E,aB Hz⟩
def Ve (ro ep fr tg rd:Int) (A:Option Addr) (c:Nat) (l:List Ev) (kd qu e pe:Int) (x:Ev) (w:World) (h:Rd w w.heap.size 6 A l.length (bq l)) (hb:l.length*48<=reachBytes):
    Calls tP 106 #[.agg #[D ro,D ep,D fr,D tg,D rd,.slice A l.length c],.agg (rR kd qu e pe x)] w λe w'=>e=.returned (.tuple #[.agg #[D 3,D ep,D fr,D pe,D rd,.slice A l.length c],D 0])/\Below w.heap.size w w':=by
 have S:=(St.start w).bX h;have J:=hb;unfold reachBytes at J;refine gK 11 func106 ?_;refine cw [0,1] ?_;refine zN 2 ?_;refine iP S ?_;intro b1 w2 S3;refine iP S3 ?_;intro b4 w5 S6;refine gB S6 gu ?_;intro b7 w8 S9;refine zN 4 ?_;have I:=S9.drew;refine aJ 6 I [2] ?_;refine aL 3 ?_;refine aY 3 ?_;refine snz (row':= #[D 3,D ep,D fr,D tg,D rd,.slice A l.length c]) 3 E 2 I kQ ?_;intro KV M;refine aL 2 ?_;refine aY 5 ?_;refine snz (row':= #[D 3,D ep,D fr,D pe,D rd,.slice A l.length c]) 5 E 2 M kQ ?_;intro ML O;refine aL 2 ?_;refine zN 4 ?_;refine sa 0 O kQ ?_;intro Gn Z;refine zN 5 ?_;exact⟨E,Z.low⟩
def Ta (ro ep fr tg rd:Int) (A:Option Addr) (c:Nat) (l:List Ev) (kd qu e pe:Int) (x:Ev) (z:Int) (b1 b2:Nat) (J:l.length<=2000) (w:World) (h:Rd w w.heap.size 6 A l.length (bq l)) (hb:l.length*48<=reachBytes) (h1:Rd w w.heap.size 1 (aD b1 0) 1 [D z]) (h2:Rd w w.heap.size 1 (aD b2 0) 1 [.func (.func 105) #[] #[]]):
    Calls tP 116 #[.agg #[D ro,D ep,D fr,D tg,D rd,.slice A l.length c],.agg (rR kd qu e pe x),pV b1 0,pV b2 0] w (kS w (if ¬(ro=z/\ep=e)then(bD,3)else CW ⟨ro,ep,fr,tg,rd,l⟩ x)):=by
 have S:=(((St.start w).bX h2).bX h1).bX h;have M:=hb;unfold reachBytes at M;obtain⟨R,hR⟩:∃R,CW ⟨ro,ep,fr,tg,rd,l⟩ x=R:=⟨_,E⟩;rw[hR];refine gK 26 func116 ?_;refine cw [0,1,2,3] ?_;refine zN 2 ?_;refine iP S ?_;intro b1 w2 S3;refine iP S3 ?_;intro b4 w5 S6;refine gB S6 gu ?_;intro b7 w8 I;refine zN 8 ?_;refine vv (v:=D z) (au E E (aK (Rd.cl (j:=0) (St.rd 4 I E) E))) ?_;by_cases h10:ro=z
 ·refine zN 6 ?_;by_cases h11:ep=e
  ·refine zN 9 ?_;refine vv (v:=.func (.func 105) #[] #[]) (au E E (aK (Rd.cl (j:=0) (St.rd 5 I E) E))) ?_;refine zN 2 ?_;refine wh eQ ((hR▸Yk ro ep fr tg rd A c l kd qu e pe x J _ (St.rd 3 I E) hb)) ?_;rintro _ KY ⟨O,Z,avZ,rfl,T17⟩;refine⟨_,E,?_⟩;have qK:=I.ext T17 E;refine zN 2 ?_;refine sa 1 qK kQ ?_;intro MO uz;refine zN 5 ?_;rw[if_neg Y];have pK:=uz.aO [6,5,4,3,2,1];exact⟨O,Z,by assumption,E,pK⟩
  refine zN 7 ?_;refine vv jo ?_;refine sa 0 I kQ ?_;intro Fq jX;refine zN 6 ?_;have uF:=jX.aO [5,4,3,2,1,0];rw[if_pos Y];exact⟨none,0,zero_le _,E,aB uF⟩
 refine zN 13 ?_;refine vv jo ?_;refine sa 0 I kQ ?_;intro NU lC;refine zN 6 ?_;have sI:=lC.aO [5,4,3,2,1,0];rw[if_pos Y];exact⟨none,0,zero_le _,E,aB sI⟩
def pQ (ro ep fr tg rd:Int) (A:Option Addr) (c:Nat) (l:List Ev) (kd qu e pe:Int) (x:Ev) (z:Int) (b1 b2:Nat) (w:World) (h:Rd w w.heap.size 6 A l.length (bq l)) (hb:l.length*48<=reachBytes) (h1:Rd w w.heap.size 1 (aD b1 0) 1 [D z]) (h2:Rd w w.heap.size 1 (aD b2 0) 1 [.func (.func 106) #[] #[]]):
    Calls tP 116 #[.agg #[D ro,D ep,D fr,D tg,D rd,.slice A l.length c],.agg (rR kd qu e pe x),pV b1 0,pV b2 0] w λe' w'=>(¬(ro=z/\ep=e)/\e'=.returned (.tuple #[.agg zB,D 3])\/(ro=z/\ep=e)/\e'=.returned (.tuple #[.agg #[D 3,D ep,D fr,D pe,D rd,.slice A l.length c],D 0]))/\Below w.heap.size w w':=by
 have S:=(((St.start w).bX h2).bX h1).bX h;have M:=hb;unfold reachBytes at M;refine gK 26 func116 ?_;refine cw [0,1,2,3] ?_;refine zN 2 ?_;refine iP S ?_;intro b1 w2 S3;refine iP S3 ?_;intro b4 w5 S6;refine gB S6 gu ?_;intro b7 w8 I;refine zN 8 ?_;refine vv (v:=D z) (au E E (aK (Rd.cl (j:=0) (St.rd 4 I E) E))) ?_;by_cases h10:ro=z
 ·refine zN 6 ?_;by_cases h11:ep=e
  ·refine zN 9 ?_;refine vv (v:=.func (.func 106) #[] #[]) (au E E (aK (Rd.cl (j:=0) (St.rd 5 I E) E))) ?_;refine zN 2 ?_;refine wh eQ (Ve ro ep fr tg rd A c l kd qu e pe x _ (St.rd 3 I E) hb) ?_;rintro _ w12 ⟨rfl,J⟩;refine⟨_,E,?_⟩;have O:=I.on J;refine zN 2 ?_;refine sa 0 O kQ ?_;intro KY Z;refine zN 5 ?_;exact⟨.inr ⟨by omega,E⟩,Z.low⟩
  refine zN 7 ?_;refine vv jo ?_;refine sa 0 I kQ ?_;intro ML qO;refine zN 6 ?_;exact⟨.inl ⟨by omega,E⟩,qO.low⟩
 refine zN 13 ?_;refine vv jo ?_;refine sa 0 I kQ ?_;intro Gn pK;refine zN 6 ?_;exact⟨.inl ⟨by omega,E⟩,pK.low⟩
def aga (ro ep fr tg rd:Int) (A:Option Addr) (c:Nat) (l:List Ev) (kd qu e pe:Int) (x:Ev) (z:Int) (b1 b2:Nat) (J:l.length<=c) (w:World) (h:Rd w w.heap.size 6 A l.length (bq l)) (hb:l.length*48<=reachBytes) (h1:Rd w w.heap.size 1 (aD b1 0) 1 [D z]) (h2:Rd w w.heap.size 1 (aD b2 0) 1 [.func (.func 108) #[] #[]]):
    Calls tP 116 #[.agg #[D ro,D ep,D fr,D tg,D rd,.slice A l.length c],.agg (rR kd qu e pe x),pV b1 0,pV b2 0] w (kS w (if ¬(ro=z/\ep=e)then(bD,3)else cu ⟨ro,ep,fr,tg,rd,l⟩ e ((l.length:Nat):Int) [] true)):=by
 have S:=(((St.start w).bX h2).bX h1).bX h;have M:=hb;unfold reachBytes at M;obtain⟨R,hR⟩:∃R,cu ⟨ro,ep,fr,tg,rd,l⟩ e ((l.length:Nat):Int) [] true=R:=⟨_,E⟩;rw[hR];refine gK 26 func116 ?_;refine cw [0,1,2,3] ?_;refine zN 2 ?_;refine iP S ?_;intro b1 w2 S3;refine iP S3 ?_;intro b4 w5 S6;refine gB S6 gu ?_;intro b7 w8 I;refine zN 8 ?_;refine vv (v:=D z) (au E E (aK (Rd.cl (j:=0) (St.rd 4 I E) E))) ?_;by_cases h10:ro=z
 ·refine zN 6 ?_;by_cases h11:ep=e
  ·refine zN 9 ?_;refine vv (v:=.func (.func 108) #[] #[]) (au E E (aK (Rd.cl (j:=0) (St.rd 5 I E) E))) ?_;refine zN 2 ?_;refine wh eQ ((hR▸Va ro ep fr tg rd A c l kd qu e pe x J _ (St.rd 3 I E) hb)) ?_;rintro _ KY ⟨O,Z,avZ,rfl,T17⟩;refine⟨_,E,?_⟩;have qK:=I.ext T17 E;refine zN 2 ?_;refine sa 1 qK kQ ?_;intro MO uz;refine zN 5 ?_;rw[if_neg Y];have pK:=uz.aO [6,5,4,3,2,1];exact⟨O,Z,by assumption,E,pK⟩
  refine zN 7 ?_;refine vv jo ?_;refine sa 0 I kQ ?_;intro Fq jX;refine zN 6 ?_;have uF:=jX.aO [5,4,3,2,1,0];rw[if_pos Y];exact⟨none,0,zero_le _,E,aB uF⟩
 refine zN 13 ?_;refine vv jo ?_;refine sa 0 I kQ ?_;intro NU lC;refine zN 6 ?_;have sI:=lC.aO [5,4,3,2,1,0];rw[if_pos Y];exact⟨none,0,zero_le _,E,aB sI⟩
def agb (ro ep fr tg rd:Int) (A:Option Addr) (c:Nat) (l:List Ev) (kd qu e pe:Int) (x:Ev) (z:Int) (b1 b2:Nat) (he:0<=e/\e<=1048576) (w:World) (h:Rd w w.heap.size 6 A l.length (bq l)) (hb:l.length*48<=reachBytes) (h1:Rd w w.heap.size 1 (aD b1 0) 1 [D z]) (h2:Rd w w.heap.size 1 (aD b2 0) 1 [.func (.func 109) #[] #[]]):
    Calls tP 116 #[.agg #[D ro,D ep,D fr,D tg,D rd,.slice A l.length c],.agg (rR kd qu e pe x),pV b1 0,pV b2 0] w (kS w (if ¬(ro=z/\ep=e)then(bD,3)else fP ⟨ro,ep,fr,tg,rd,l⟩ (e+1))):=by
 have S:=(((St.start w).bX h2).bX h1).bX h;have J:=hb;unfold reachBytes at J;obtain⟨R,hR⟩:∃R,fP ⟨ro,ep,fr,tg,rd,l⟩ (e+1)=R:=⟨_,E⟩;rw[hR];refine gK 26 func116 ?_;refine cw [0,1,2,3] ?_;refine zN 2 ?_;refine iP S ?_;intro b1 w2 S3;refine iP S3 ?_;intro b4 w5 S6;refine gB S6 gu ?_;intro b7 w8 I;refine zN 8 ?_;refine vv (v:=D z) (au E E (aK (Rd.cl (j:=0) (St.rd 4 I E) E))) ?_;by_cases h10:ro=z
 ·refine zN 6 ?_;by_cases h11:ep=e
  ·refine zN 9 ?_;refine vv (v:=.func (.func 109) #[] #[]) (au E E (aK (Rd.cl (j:=0) (St.rd 5 I E) E))) ?_;refine zN 2 ?_;refine wh eQ ((hR▸Vb ro ep fr tg rd A c l kd qu e pe x he _ (St.rd 3 I E) hb)) ?_;rintro _ KY ⟨M,O,Z,rfl,T17⟩;refine⟨_,E,?_⟩;have qK:=I.ext T17 E;refine zN 2 ?_;refine sa 1 qK kQ ?_;intro MO uz;refine zN 5 ?_;rw[if_neg Y];have pK:=uz.aO [6,5,4,3,2,1];exact⟨M,O,by assumption,E,pK⟩
  refine zN 7 ?_;refine vv jo ?_;refine sa 0 I kQ ?_;intro Fq jX;refine zN 6 ?_;have uF:=jX.aO [5,4,3,2,1,0];rw[if_pos Y];exact⟨none,0,zero_le _,E,aB uF⟩
 refine zN 13 ?_;refine vv jo ?_;refine sa 0 I kQ ?_;intro NU lC;refine zN 6 ?_;have sI:=lC.aO [5,4,3,2,1,0];rw[if_pos Y];exact⟨none,0,zero_le _,E,aB sI⟩
def sJ (z:Int) (n:FuncId) (w:World):
    Calls tP 104 #[D z,.func (.func n) #[] #[]] w λe w'=> ∃b1 b2,e=.returned (.func (.func 116) #[] #[pV b1 0,pV b2 0])/\St w.heap.size w w' [.blk b1 #[D z] 3,.blk b2 #[.func (.func n) #[] #[]] 172]:=by
 have S:=St.start w;refine gK 6 func104 ?_;refine cw [0,1] ?_;refine zN 2 ?_;refine VN S ?_;intro b1 O h;refine VN h ?_;intro b4 I J;refine zN 5 ?_;refine vv Jz ?_;refine zN 5 ?_;have M:St w.heap.size w I [_,_]:=J.re [1,0] dQ;exact⟨b1,b4,E,M⟩
def agc (w:World)(e:Ending)(w':World):Prop:= ∃m d1 g1 d2 g2 d3 g3 d4 g4 d5 g5,e=.returned (.map (some m))/\St w.heap.size w w' [.blk d5 #[D 3] 3,.blk g5 #[.func (.func 109) #[] #[]] 172,.blk d4 #[D 4] 3,.blk g4 #[.func (.func 108) #[] #[]] 172,.blk d3 #[D 4] 3,.blk g3 #[.func (.func 105) #[] #[]] 172,.blk d2 #[D 1] 3,.blk g2 #[.func (.func 106) #[] #[]] 172,.blk d1 #[D 1] 3,.blk g1 #[.func (.func 105) #[] #[]] 172,.loc m (qj tP 3 (λy=>if y=7 then some (.func (.func 116) #[] #[pV d5 0,pV g5 0])else(λy=>if y=6 then some (.func (.func 116) #[] #[pV d4 0,pV g4 0])else(λy=>if y=5 then some (.func (.func 116) #[] #[pV d3 0,pV g3 0])else(λy=>if y=4 then some (.func (.func 107) #[] #[])else(λy=>if y=3 then some (.func (.func 116) #[] #[pV d2 0,pV g2 0])else(λy=>if y=2 then some (.func (.func 116) #[] #[pV d1 0,pV g1 0])else(λy=>if y=1 then some (.func (.func 103) #[] #[])else(λ_=>none) y) y) y) y) y) y) y) 7)]
def nN (w:World):
    Calls tP 80 #[] w (agc w):=by
 have S:=St.start w;refine gK 8 func80 ?_;refine bH (l':=[]) trivial (aM (av (va ?_)));refine zN 4 ?_;refine JZ (k:=3) S (wn E) E E E ?_;intro b1 w2 S3;refine kR (e:=172) 0 S3 (wn E) E E E E E E underlying3 underlying173 dQ dQ ?_;intro w4 S5;refine dO eQ (sJ 1 105 _) ?_;rintro _ w8 ⟨b6,b7,rfl,h⟩;refine⟨_,E,?_⟩;have S9:=S5.ext h E;refine kR (e:=172) 2 S9 (wn E) E E E E E E underlying3 underlying173 dQ dQ ?_;intro Ht I;refine dO eQ (sJ 1 106 _) ?_;rintro _ KY ⟨J,M,rfl,O⟩;refine⟨_,E,?_⟩;have Z:=I.ext O E;refine kR (e:=172) 4 Z (wn E) E E E E E E underlying3 underlying173 dQ dQ ?_;intro MO uz;refine kR (e:=172) 4 uz (wn E) E E E E E E underlying3 underlying173 dQ dQ ?_;intro Zz uV;refine dO eQ (sJ 4 105 _) ?_;rintro _ NU ⟨b22,Ao,rfl,T26⟩;refine⟨_,E,?_⟩;have lC:=uV.ext T26 E;refine kR (e:=172) 6 lC (wn E) E E E E E E underlying3 underlying173 dQ dQ ?_;intro MN sP;refine dO eQ (sJ 4 108 _) ?_;rintro _ w31 ⟨b29,b30,rfl,T33⟩;refine⟨_,E,?_⟩;have uW:=sP.ext T33 E;refine kR (e:=172) 8 uW (wn E) E E E E E E underlying3 underlying173 dQ dQ ?_;intro ZB zo;refine dO eQ (sJ 3 109 _) ?_;rintro _ w38 ⟨MS,b37,rfl,T40⟩;refine⟨_,E,?_⟩;have BI:=zo.ext T40 E;refine kR (e:=172) 10 BI (wn E) E E E E E E underlying3 underlying173 dQ dQ ?_;intro w41 Cx;refine zN 6 ?_;exact⟨b1,b6,b7,J,M,b22,Ao,b29,b30,MS,b37,E,Cx⟩
def mE (w:World)(r:aQ×Int)(e:Ending)(w':World):Prop:= ∃A c,∃_:r.1.evs.length<=c,e=.returned (.tuple #[.agg #[D r.1.role,D r.1.ep,D r.1.fr,D r.1.tg,D r.1.rd,.slice A r.1.evs.length c],D r.2])/\St w.heap.size w w' [.cK 6 A r.1.evs.length (bq r.1.evs)]
section
variable {b:aQ}{r:cB}{qu e pe:Int}{x:Ev}
def Ap (h:aG r=0):1<=r.kind/\r.kind<=7/\0<=r.queue/\r.queue<=3/\0<=r.epoch/\r.epoch<=1048576/\0<=r.peer/\r.peer<=4:=by
 unfold aG at h
 split at h
 ·cases h
 rename_i h1
 split at h
 ·cases h
 rename_i I
 simp[kJ]at h1 I;omega
def agf (h:¬(1<=r.kind/\r.kind<=7)):aG r=3:=by
 unfold aG;rw[if_pos (by simp[kJ];omega)]
def Aq (h:¬aj b=0):eD b r=(bD,aj b):=by unfold eD;rw[if_pos h]
def Au (h:aj b=0)(h1:¬aG r=0):eD b r=(bD,aG r):=by unfold eD;rw[if_neg (λk=>k h),if_pos h1]
def Bf (h:aj b=0)(h1:aG r=0)(I:b.role=2\/(r.kind≠3/\r.kind≠4/\r.peer≠0)):eD b r=(bD,3):=by unfold eD;rw[if_neg (λk=>k h),if_neg (λk=>k h1),if_pos I]
def uR (h:aj b=0)(h1:aG r=0)(I:¬(kL b r).2=0):eD b r=(bD,3):=by
 unfold eD;rw[if_neg (λk=>k h),if_neg (λk=>k h1)];split
 ·rfl
 first|rfl|rw[if_pos I]
def kE (h:aj b=0)(h1:aG r=0)(I:¬(b.role=2\/(r.kind≠3/\r.kind≠4/\r.peer≠0)))(J:(kL b r).2=0):eD b r=((kL b r).1,0):=by
 unfold eD;rw[if_neg (λk=>k h),if_neg (λk=>k h1),if_neg I,if_neg (λk=>k J)]
def aqE:kL b ⟨1,qu,e,pe,x⟩=iT b e:=by simp[kL]
def aeC:kL b ⟨2,qu,e,pe,x⟩=if ¬(b.role=1/\b.ep=e)then(bD,3)else CW b x:=by simp[kL]
def rT:kL b ⟨3,qu,e,pe,x⟩=if ¬(b.role=1/\b.ep=e)then(bD,3)else WV b pe:=by simp[kL]
def aqF:kL b ⟨4,qu,e,pe,x⟩=dn b e pe:=by simp[kL]
def aeD:kL b ⟨5,qu,e,pe,x⟩=if ¬(b.role=4/\b.ep=e)then(bD,3)else CW b x:=by simp[kL]
def aqG:kL b ⟨6,qu,e,pe,x⟩=if ¬(b.role=4/\b.ep=e)then(bD,3)else cu b e b.evs.length [] true:=by simp[kL]
def aqH:kL b ⟨7,qu,e,pe,x⟩=if ¬(b.role=3/\b.ep=e)then(bD,3)else fP b (e+1):=by simp[kL]
def agh {a:Int}:(cu b e a [] true).1.evs.length<=b.evs.length+1:=by
 unfold cu
 repeat' split
 all_goals simp[bD]
def EJ:(kL b r).1.evs.length<=b.evs.length+1:=by
 have h:=agh (b:=b) (e:=r.epoch) (a:=b.evs.length);unfold kL
 (repeat' split)<;>first|exact h|(unfold iT;(repeat' split)<;>simp[bD])|(unfold dn;(repeat' split)<;>simp[bD])|(unfold fP;(repeat' split)<;>simp[bD])|(unfold CW;(repeat' split)<;>simp[bD])|simp[bD,WV]
end
def I7 {P:Program}{f:FuncId}{vs:Array Value}{w:World}{p:Prop}{X dB:Ending}{B:Nat}(h:Calls P f vs w (λI w'=>(¬p/\I=X\/p/\I=dB)/\Below B w w'))(J:p):Calls P f vs w (λI w'=>I=dB/\Below B w w'):=
 h.mono λ_ _ k=>⟨k.1.elim (λq=>absurd J q.1) (λq=>q.2),k.2⟩
def N8 {P:Program}{f:FuncId}{vs:Array Value}{w:World}{p:Prop}{X dB:Ending}{B:Nat}(h:Calls P f vs w (λI w'=>(¬p/\I=X\/p/\I=dB)/\Below B w w'))(J:¬p):Calls P f vs w (λI w'=>I=X/\Below B w w'):=
 h.mono λ_ _ k=>⟨k.1.elim (λq=>q.2) (λq=>absurd q.1 J),k.2⟩
def St.yg {B:Nat}{w0 w:World}{fs:List Fact}{b:Nat}{R R':Obj->Prop}(i:Nat)(S:St B w0 w fs)(hi:fs[i]? =some (.loc b R))(h:∀o,R o->R' o):St B w0 w (fs.set i (.loc b R')):=by
 obtain⟨o,I,J⟩:=S.loc i hi;exact S.VF i hi ⟨E,E,E,E,λ_ _=>E⟩ I (h _ J)
def qZ {P:Program}{k:TypeId}{f:Int->Option Value}{n:Nat}{o:Obj}{z:Int}{v:Value}(h:qj P k f n o)(M:f z=some v):qj P k (λy=>if y=z then some v else none) n o:=by
 obtain⟨es,c,e,h⟩:=h;refine⟨es,c,e,λw b O=>?_⟩;obtain⟨dV,h1,Z⟩:=h w b O;refine⟨dV,h1,λy u I=>?_⟩;dsimp only at I;by_cases J:y=z
 ·rw[if_pos J]at I;cases I;rw[J];exact Z z v M
 rw[if_neg J]at I;cases I
def Tc (w:World):Calls tP 80 #[] w λe w'=> ∃m,e=.returned (.map (some m))/\St w.heap.size w w' [.loc m (qj tP 3 (λy=>if y=1 then some (.func (.func 103) #[] #[])else none) 7)]:=
 (nN w).mono λ_ _ ⟨m,I,J,M,g2,O,Z,d4,g4,d5,g5,h,S⟩=>⟨m,h,(St.del 0 (St.del 1 (St.del 2 (St.del 3 (St.del 4 (St.del 5 (St.del 6 (St.del 7 (St.del 8 (St.del 9 (St.yg 10 S E (λ_ h=>qZ h (z:=1) E))))))))))))⟩
def agi (w:World):Calls tP 80 #[] w λe w'=> ∃m I J,e=.returned (.map (some m))/\St w.heap.size w w' [.blk I #[D 1] 3,.blk J #[.func (.func 105) #[] #[]] 172,.loc m (qj tP 3 (λy=>if y=2 then some (.func (.func 116) #[] #[pV I 0,pV J 0])else none) 7)]:=
 (nN w).mono λ_ _ ⟨m,I,J,M,g2,O,Z,d4,g4,d5,g5,h,S⟩=>⟨m,I,J,h,(St.del 0 (St.del 1 (St.del 2 (St.del 3 (St.del 4 (St.del 5 (St.del 6 (St.del 7 (St.yg 10 S E (λ_ h=>qZ h (z:=2) E))))))))))⟩
def Td (w:World):Calls tP 80 #[] w λe w'=> ∃m I g2,e=.returned (.map (some m))/\St w.heap.size w w' [.blk I #[D 1] 3,.blk g2 #[.func (.func 106) #[] #[]] 172,.loc m (qj tP 3 (λy=>if y=3 then some (.func (.func 116) #[] #[pV I 0,pV g2 0])else none) 7)]:=
 (nN w).mono λ_ _ ⟨m,J,M,I,g2,O,Z,d4,g4,d5,g5,h,S⟩=>⟨m,I,g2,h,(St.del 0 (St.del 1 (St.del 2 (St.del 3 (St.del 4 (St.del 5 (St.del 8 (St.del 9 (St.yg 10 S E (λ_ h=>qZ h (z:=3) E))))))))))⟩
def Te (w:World):Calls tP 80 #[] w λe w'=> ∃m,e=.returned (.map (some m))/\St w.heap.size w w' [.loc m (qj tP 3 (λy=>if y=4 then some (.func (.func 107) #[] #[])else none) 7)]:=
 (nN w).mono λ_ _ ⟨m,I,J,M,g2,O,Z,d4,g4,d5,g5,h,S⟩=>⟨m,h,(St.del 0 (St.del 1 (St.del 2 (St.del 3 (St.del 4 (St.del 5 (St.del 6 (St.del 7 (St.del 8 (St.del 9 (St.yg 10 S E (λ_ h=>qZ h (z:=4) E))))))))))))⟩
def agj (w:World):Calls tP 80 #[] w λe w'=> ∃m I J,e=.returned (.map (some m))/\St w.heap.size w w' [.blk I #[D 4] 3,.blk J #[.func (.func 105) #[] #[]] 172,.loc m (qj tP 3 (λy=>if y=5 then some (.func (.func 116) #[] #[pV I 0,pV J 0])else none) 7)]:=
 (nN w).mono λ_ _ ⟨m,M,O,Z,g2,I,J,d4,g4,d5,g5,h,S⟩=>⟨m,I,J,h,(St.del 0 (St.del 1 (St.del 2 (St.del 3 (St.del 6 (St.del 7 (St.del 8 (St.del 9 (St.yg 10 S E (λ_ h=>qZ h (z:=5) E))))))))))⟩
def agk (w:World):Calls tP 80 #[] w λe w'=> ∃m I J,e=.returned (.map (some m))/\St w.heap.size w w' [.blk I #[D 4] 3,.blk J #[.func (.func 108) #[] #[]] 172,.loc m (qj tP 3 (λy=>if y=6 then some (.func (.func 116) #[] #[pV I 0,pV J 0])else none) 7)]:=
 (nN w).mono λ_ _ ⟨m,M,O,Z,g2,d3,g3,I,J,d5,g5,h,S⟩=>⟨m,I,J,h,(St.del 0 (St.del 1 (St.del 4 (St.del 5 (St.del 6 (St.del 7 (St.del 8 (St.del 9 (St.yg 10 S E (λ_ h=>qZ h (z:=6) E))))))))))⟩
def agl (w:World):Calls tP 80 #[] w λe w'=> ∃m I J,e=.returned (.map (some m))/\St w.heap.size w w' [.blk I #[D 3] 3,.blk J #[.func (.func 109) #[] #[]] 172,.loc m (qj tP 3 (λy=>if y=7 then some (.func (.func 116) #[] #[pV I 0,pV J 0])else none) 7)]:=
 (nN w).mono λ_ _ ⟨m,M,O,Z,g2,d3,g3,d4,g4,I,J,h,S⟩=>⟨m,I,J,h,(St.del 2 (St.del 3 (St.del 4 (St.del 5 (St.del 6 (St.del 7 (St.del 8 (St.del 9 (St.yg 10 S E (λ_ h=>qZ h (z:=7) E))))))))))⟩
def K7 (k:Int) (h:k≠3/\k≠4) (w:World):
    Calls tP 79 #[D k] w (Fp w true):=by
 have S:=St.start w;refine gK 9 func79 ?_;refine cw [0] ?_;refine zN 18 ?_;exact⟨E,S.low⟩
def K8 (k:Int) (h:k=3\/k=4) (w:World):
    Calls tP 79 #[D k] w (Fp w false):=by
 have S:=St.start w;refine gK 9 func79 ?_;refine cw [0] ?_;refine zN 8 ?_;by_cases h1:k=3
 ·refine zN 10 ?_;exact⟨E,S.low⟩
 refine zN 3 ?_;by_cases I:k=4
 ·refine zN 7 ?_;exact⟨E,S.low⟩
 refine zN 7 ?_;omega
def I8 (T:List aQ)(q:Int):aQ:=T.getD q.toNat bD
noncomputable def og:List cB->Nat->List aQ->Option (List aQ)×Nat×Int
 |[],_,T=>(some T,0,0)
 |r::rs,i,T=>if aG r≠0 then(none,i,aG r)else if (eD (I8 T r.queue) r).2≠0 then(none,i,(eD (I8 T r.queue) r).2)else og rs (i+1) (T.set r.queue.toNat (eD (I8 T r.queue) r).1)
noncomputable def allM (l:List cB):Option (List aQ)×Nat×Int:=og l 0 [bD,bD,bD,bD]
section
variable {l:List cB}{k:Nat}{r:cB}{T:List aQ}{R:aQ×Int}
def drop_cons {α:Type}{l:List α}{k:Nat}{x:α}(h:l[k]? =some x):l.drop k=x::l.drop (k+1):=by
 obtain⟨I,rfl⟩:=List.getElem?_eq_some_iff.1 h;exact drop_eq_getElem_cons I
def akv (h:l[k]? =some r)(I:¬aG r=0):og (l.drop k) k T=(none,k,aG r):=by rw[drop_cons h,og,if_pos I]
def ZJ (h:l[k]? =some r)(I:aG r=0)(J:eD (I8 T r.queue) r=R)(M:¬R.2=0):og (l.drop k) k T=(none,k,R.2):=by subst J;rw[drop_cons h,og,if_neg (by simp[I]),if_pos M]
def Tf (h:l[k]? =some r)(I:aG r=0)(J:eD (I8 T r.queue) r=R)(M:R.2=0):og (l.drop k) k T=og (l.drop (k+1)) (k+1) (T.set r.queue.toNat R.1):=by subst J;rw[drop_cons h,og,if_neg (by simp[I]),if_neg (by simp[M])]
def akw (h:l.length<=k):og (l.drop k) k T=(some T,0,0):=by rw[drop_of_length_le h,og]
end
structure BX where
 b:aQ
 A:Option Addr
 c:Nat
def BX.cells (x:BX):List Value:=[D x.b.role,D x.b.ep,D x.b.fr,D x.b.tg,D x.b.rd,.slice x.A x.b.evs.length x.c]
def Q0:BX:=⟨bD,none,0⟩
def sO:List BX:=[Q0,Q0,Q0,Q0]
def akx (l:List BX):∀u∈l.flatMap BX.cells,u.oneCell'=true:=by
 intro u h;rw[mem_flatMap]at h;obtain⟨z,_,I⟩:=h;simp[BX.cells]at I
 rcases I with rfl|rfl|rfl|rfl|rfl|rfl<;>rfl
def aeE (x:BX):Fact:=.cK 6 x.A x.b.evs.length (bq x.b.evs)
def fJ (bs:List BX):List Fact:=bs.map aeE
section
variable {B:Nat}{w0 w:World}{bs:List BX}{k:Nat}{y:BX}
def aky {q:Int}(h:bs[q.toNat]? =some y):I8 (bs.map BX.b) q=y.b:=by
 unfold I8;rw[getD_eq_getElem?_getD,getElem?_map,h];rfl
def aeF (pre:List Fact)(S:St B w0 w (pre++fJ bs))(h:bs[k]? =some y):Rd w w.heap.size 6 y.A y.b.evs.length (bq y.b.evs):=
 St.cK (pre.length+k) S (by rw[getElem?_append_right (le_add_right _ _),Nat.add_sub_cancel_left,fJ,getElem?_map,h];rfl)
def St.pull {fs fs':List Fact}(σ:Nat->Nat)(S:St B w0 w fs)(hs:∀(i:Nat) (f:Fact),fs'[i]? =some f->fs[σ i]? =some f)(hi:∀i j:Nat,i≠j->i<fs'.length->j<fs'.length->σ i≠σ j):St B w0 w fs':=
 ⟨S.low,S.base,λi f h=>S.all _ f (hs i f h),λi j f g I h1 J=>S.sep _ _ f g (hi i j I (List.getElem?_eq_some_iff.1 h1).1 (List.getElem?_eq_some_iff.1 J).1) (hs i f h1) (hs j g J)⟩
def aeG (pre:List Fact){z:BX}(S:St B w0 w (pre++(aeE z::fJ bs)))(J:k<bs.length):St B w0 w (pre++fJ (bs.set k z)):=by
 refine St.pull (λi=>if i<pre.length then i else if i=pre.length+k then pre.length else i+1) S (λi f h=>?_) (λi j M _ _=>?_)
 ·by_cases h1:i<pre.length
  ·simp only[if_pos h1];rw[getElem?_append_left h1]at h⊢;exact h
  obtain⟨d,rfl⟩:∃d,i=pre.length+d:=⟨i-pre.length,by omega⟩;rw[getElem?_append_right (le_add_right _ _),Nat.add_sub_cancel_left,fJ,map_set,getElem?_set]at h;simp only[if_neg h1];by_cases I:k=d
  ·subst I;rw[if_pos E]at h;rw[if_pos E,getElem?_append_right (Nat.le_refl _),Nat.sub_self];rw[length_map,if_pos J]at h;exact h
  rw[if_neg I]at h;rw[if_neg Y,getElem?_append_right Y,show pre.length+d+1-pre.length=d+1 from by omega];exact h
 repeat' split
 all_goals omega
def akz {h I:Fact}(S:St B w0 w [h,I]):St B w0 w (h::I::fJ sO):=(aB (s:=6) (aB (s:=6) (aB (s:=6) (aB (s:=6) S)))).re [4,5,0,1,2,3] dQ
end
def qL {α:Type}{enc:α->List Value}{sz:Nat}(I:∀x,(enc x).length=sz)(z:α):∀(k:Nat) (l:List α),k<l.length->sD (l.flatMap enc) (k*sz) (enc z)=(l.set k z).flatMap enc
 |_,[],h=>absurd h (not_lt_zero _)
 | 0,x::l,_=>by
  rw[flatMap_cons,Nat.zero_mul,set_cons_zero,flatMap_cons];have:∀(vs us xs:List Value),us.length=vs.length->sD (us++xs) 0 vs=vs++xs:=by
   have J:∀(vs us ps xs:List Value),us.length=vs.length->sD (ps++(us++xs)) ps.length vs=ps++(vs++xs):=by
    intro vs
    induction vs with
    |nil=>intro us ps xs h;rw[length_eq_zero_iff.1 h];rfl
    |cons v vs M=>
     intro us ps xs h;obtain⟨u,us,rfl⟩:∃u O,us=u::O:=by
      cases us with
      |nil=>simp at h
      |cons u us=>exact⟨u,us,E⟩
     rw[sD];have e:(ps++(u::us++xs)).set ps.length v=(ps++[v])++(us++xs):=by simp
     rw[e];have:=M us (ps++[v]) xs (by simpa using h);rw[length_append]at this;rw[show ps.length+1=ps.length+[v].length from E,this];simp
   intro vs us xs h;exact J vs us [] xs h
  exact this _ _ _ (by rw[I,I])
 |k+1,x::l,h=>by
  rw[flatMap_cons,set_cons_succ,flatMap_cons,<-qL I z k l (by simpa using h)];have J:∀(vs us xs:List Value) (j:Nat),sD (us++xs) (us.length+j) vs=us++sD xs j vs:=by
   intro vs
   induction vs with
   |nil=>intro us xs j;rfl
   |cons v vs M=>
    intro us xs j;rw[sD,sD,set_append_right _ _ (le_add_right _ _),Nat.add_sub_cancel_left,Nat.add_assoc,M]
  rw[succ_mul,Nat.add_comm,<-I x,J]
def aqI (w:World)(R:Option (List aQ)×Nat×Int)(e:Ending)(w':World):Prop:=
 (R.1=none->e=.returned (.tuple #[.slice none 0 0,D ((R.2.1:Nat):Int),D R.2.2])/\Below w.heap.size w w')/\
 (∀T,R.1=some T-> ∃b bs,bs.map BX.b=T/\bs.length=4/\(∀y∈bs,y.b.evs.length<=y.c)/\e=.returned (.tuple #[.slice (some ⟨b,0,none⟩) 4 4,D ((R.2.1:Nat):Int),D R.2.2])/\St w.heap.size w w' (.own 42 6 (.slice (some ⟨b,0,none⟩) 4 4) 4 (bs.flatMap BX.cells)::fJ bs))
def abM {b:aQ}{r:cB}:(eD b r).1.evs.length<=b.evs.length+1:=by
 have h:=EJ (b:=b) (r:=r);unfold eD
 repeat' split
 all_goals first|exact h|simp[bD]
def agm (ro ep fr tg rd:Int) (A:Option Addr) (c:Nat) (l:List Ev) (kd qu e pe:Int) (x:Ev) (hk: ¬ (1<=kd/\kd<=7)) (w:World) (h:Rd w w.heap.size 6 A l.length (bq l)) (hb:l.length*48<=reachBytes):
    Calls prog 60 #[.agg #[D ro,D ep,D fr,D tg,D rd,.slice A l.length c],.agg #[D kd,D qu,D e,D pe,D x.kind,D x.producer,D x.id,D x.body,D x.aN,D x.hno]] w (mE w (eD ⟨ro,ep,fr,tg,rd,l⟩ ⟨kd,qu,e,pe,x⟩)):=by
 have S:=(St.start w).bX h;have M:=hb;unfold reachBytes at M;refine gK 54 func60 ?_;refine cw [0,1] ?_;refine zN 2 ?_;refine iP S ?_;intro b1 w2 S3;refine iP S3 ?_;intro b4 w5 S6;refine gB S6 gu ?_;intro b7 w8 S9;refine zN 7 ?_;refine cab eQ S9 (eB ro ep fr tg rd A c l _ (St.rd 3 S9 E) Y) ?_;intro w10 J;refine zN 6 ?_;by_cases I:aj ⟨ro,ep,fr,tg,rd,l⟩=0
 ·have O:=gJ (eP I).2;dsimp only at O;refine zN 10 ?_;refine cab eQ J (jK ⟨kd,qu,e,pe,x⟩ _) ?_;intro KV Z;refine zN 6 ?_;have hne:¬aG ⟨kd,qu,e,pe,x⟩=0:=by rw[agf (by exact hk)];decide
  refine zN 6 ?_;refine vv jo ?_;refine zQ ?_;refine sa 0 Z kQ ?_;intro ML qO;refine zN 6 ?_;have uz:=qO.aO [3,2,1,0];rw[Au I hne];exact⟨none,0,Nat.le_refl 0,E,aB uz⟩
 refine zN 6 ?_;refine vv jo ?_;refine zQ ?_;refine sa 0 J kQ ?_;intro Zz uV;refine zN 6 ?_;have jX:=uV.aO [3,2,1,0];rw[Aq I];exact⟨none,0,Nat.le_refl 0,E,aB jX⟩
def agn (ro ep fr tg rd:Int) (A:Option Addr) (c:Nat) (l:List Ev) (qu e pe:Int) (x:Ev) (hlc:l.length<=c) (w:World) (h:Rd w w.heap.size 6 A l.length (bq l)) (hb:l.length*48<=reachBytes):
    Calls tP 60 #[.agg #[D ro,D ep,D fr,D tg,D rd,.slice A l.length c],.agg (rR 1 qu e pe x)] w (mE w (eD ⟨ro,ep,fr,tg,rd,l⟩ ⟨1,qu,e,pe,x⟩)):=by
 have S:=(St.start w).bX h;have hb2:=hb;unfold reachBytes at hb2;obtain⟨R,hR⟩:∃R,kL ⟨ro,ep,fr,tg,rd,l⟩ ⟨1,qu,e,pe,x⟩=R:=⟨_,E⟩;have hM:=hR;rw[aqE]at hM
 try dsimp only at hM
 have amu:R.1.evs.length<=l.length+1:=by rw[<-hR];exact EJ
 refine gK 54 func60 ?_;refine cw [0,1] ?_;refine zN 2 ?_;refine iP S ?_;intro b1 w2 S3;refine iP S3 ?_;intro b4 w5 S6;refine gB S6 gu ?_;intro b7 w8 S9;refine zN 7 ?_;refine cab eQ S9 (eB ro ep fr tg rd A c l _ (St.rd 3 S9 E) Y) ?_;intro w10 Cw;refine zN 6 ?_;by_cases I:aj ⟨ro,ep,fr,tg,rd,l⟩=0
 ·have hln:=gJ (eP I).2;dsimp only at hln;refine zN 10 ?_;refine cab eQ Cw (jK ⟨1,qu,e,pe,x⟩ _) ?_;intro KV jh;refine zN 6 ?_;by_cases J:aG ⟨1,qu,e,pe,x⟩=0
  ·have hrz:=Ap J;dsimp only at hrz;refine zN 11 ?_;by_cases h18:ro=2
   ·refine zN 16 ?_;refine vv jo ?_;refine sa 0 jh kQ ?_;intro Gn pK;refine zN 6 ?_;have uV:=pK.aO [3,2,1,0];rw[Bf I J uQ];exact⟨none,0,Nat.le_refl 0,E,aB uV⟩
   refine zN 4 ?_;refine yG eQ (K7 1 dQ _) ?_;rintro _ w22 ⟨rfl,Oa⟩;refine⟨_,E,?_⟩;have uF:=jh.on Oa;refine zN 3 ?_;by_cases uG:pe=0
   ·refine zN 8 ?_;refine ny (X:=Nat×(Option Addr)×Nat×Nat) (λxv=>[(4,pV b7 0),(5,D 0),(8,pV xv.1 0),(9,D R.2)]) (λxv wr=>St w.heap.size w wr [.blk xv.1 (bR R.1 xv.2.1 xv.2.2.1) 42,.cK 6 xv.2.1 R.1.evs.length ((R.1.evs).flatMap Ev.cells),.loc xv.2.2.2 (qj tP 3 (λy=>if y=1 then some (.func (.func 103) #[] #[])else none) 7),.blk b7 zB 42,.blk b4 (rR 1 qu e pe x) 138,.blk b1 #[D ro,D ep,D fr,D tg,D rd,.slice A l.length c] 42,.rd 6 A l.length ((l).flatMap Ev.cells)]) ?_ ?_
    ·have sI:=uF.drew;refine aJ 13 sI [] ?_;refine aL 4 ?_;refine iB (n:=8) (r:=0) (s:=10) kQ ?_ ?_
     ·refine kD 0 E eQ (Tc _) ?_;rintro _ w32 ⟨m31,rfl,T34⟩;refine⟨_,E,?_⟩;have M:=sI.ext T34 E;refine dR ?_;refine iB (n:=7) (r:=3) (s:=10) kQ ?_ ?_
      ·refine je (i:=3) E E (v:=.func (.func 103) #[] #[]) (wn E) E E (kg 0 M E E E E underlying3 underlying173 (zeroValue172 _) dQ E) ?_;refine dR ?_;refine iB (n:=6) (r:=6) (s:=10) kQ ?_ ?_
       ·have HC:=wz ro ep fr tg rd A c l 1 qu e pe x _ (St.rd 4 M E) hb;rw[hM]at HC;refine nu 6 E eQ (HC) ?_;rintro _ w38 ⟨A35,c36,aFz,rfl,T40⟩;refine⟨_,E,?_⟩;have BI:=M.ext T40 E;clear HC;refine aL 4 ?_;refine aY 10 ?_;refine lU 10 E BI gu ?_;intro b44 w45 wP;refine dR ?_;refine aY 11 ?_;refine sn 11 E 0 wP kQ ?_;intro w47 Al;refine aL 3 ?_;refine dL (b44,A35,c36,m31) ?_ jW;exact Al
       refine lU 10 E M gu ?_;intro b50 w51 o8;refine dR ?_;refine aY 6 ?_;have HC:=wz ro ep fr tg rd A c l 1 qu e pe x _ (St.rd 5 o8 E) hb;rw[hM]at HC;refine nu 6 E eQ (HC) ?_;rintro _ w56 ⟨A53,c54,aFA,rfl,T58⟩;refine⟨_,E,?_⟩;have vJ:=o8.ext T58 E;clear HC;refine aL 4 ?_;refine aY 11 ?_;refine sn 11 E 1 vJ kQ ?_;intro Zx wO;refine aL 3 ?_;have Gx:St w.heap.size w Zx [_,_,_,_,_,_,_]:=wO.re [1,0,2,3,4,5,6] dQ;refine dL (b50,A53,c54,m31) ?_ jW;exact Gx
      refine lU 10 E M gu ?_;intro b66 w67 Cy;refine dR ?_;refine aY 3 ?_;refine je (i:=3) E E (v:=.func (.func 103) #[] #[]) (wn E) E E (kg 1 Cy E E E E underlying3 underlying173 (zeroValue172 _) dQ E) ?_;refine dR ?_;refine aY 6 ?_;have HC:=wz ro ep fr tg rd A c l 1 qu e pe x _ (St.rd 5 Cy E) hb;rw[hM]at HC;refine nu 6 E eQ (HC) ?_;rintro _ w72 ⟨A69,c70,aFB,rfl,T74⟩;refine⟨_,E,?_⟩;have tV:=Cy.ext T74 E;clear HC;refine aL 4 ?_;refine aY 11 ?_;refine sn 11 E 1 tV kQ ?_;intro w78 Dn;refine aL 3 ?_;have vK:St w.heap.size w w78 [_,_,_,_,_,_,_]:=Dn.re [1,0,2,3,4,5,6] dQ;refine dL (b66,A69,c70,m31) ?_ jW;exact vK
     refine lU 10 E sI gu ?_;intro b82 w83 Fx;refine dR ?_;refine aY 0 ?_;refine kD 0 E eQ (Tc _) ?_;rintro _ w86 ⟨m85,rfl,T88⟩;refine⟨_,E,?_⟩;have Gv:=Fx.ext T88 E;refine dR ?_;refine aY 3 ?_;refine je (i:=3) E E (v:=.func (.func 103) #[] #[]) (wn E) E E (kg 0 Gv E E E E underlying3 underlying173 (zeroValue172 _) dQ E) ?_;refine dR ?_;refine aY 6 ?_;have HC:=wz ro ep fr tg rd A c l 1 qu e pe x _ (St.rd 5 Gv E) hb;rw[hM]at HC;refine nu 6 E eQ (HC) ?_;rintro _ w92 ⟨A89,c90,aFC,rfl,T94⟩;refine⟨_,E,?_⟩;have Dq:=Gv.ext T94 E;clear HC;refine aL 4 ?_;refine aY 11 ?_;refine sn 11 E 2 Dq kQ ?_;intro w98 S99;refine aL 3 ?_;have wu:St w.heap.size w w98 [_,_,_,_,_,_,_]:=S99.re [2,0,1,3,4,5,6] dQ;refine dL (b82,A89,c90,m85) ?_ jW;exact wu
    rintro⟨aAu,aIW,aIX,aIY⟩ abD O
    try dsimp only at O
    refine bH (l':=[(4,pV b7 0),(5,D 0),(8,pV aAu 0),(9,D R.2)]) jW (aM (aM (av (vm ?_))));by_cases anL:R.2=0
    ·refine zN 7 ?_;have I6:=O.nil 49 6;refine zN 3 ?_;refine dU (news:=(R.1.evs).flatMap Ev.cells) (xs':=(R.1.evs).flatMap Ev.cells) 0 I6 (wn E) E E E E E E (St.cK 2 I6 E) underlying40 qJ E dQ (fM _) lQ Y (E) ?_;intro ahM ahN abo hc114 aFD vE;refine zQ ?_;refine Hl 1 vE kQ ?_;intro atv zV;refine zN 5 ?_;refine sa 4 zV kQ ?_;intro anM xP;refine zN 5 ?_;have Z:=xP.aO [7,6,5,4,3,2,1];rw[kE I J uQ (by rw[hR];exact anL),hR];rw[Nat.zero_add]at Z⊢;exact⟨ahM,ahN,(eu (Z.own 0 E)).1,E,Z.bF 0 E⟩
    refine zN 6 ?_;refine vv jo ?_;refine sa 3 O kQ ?_;intro abL CV;refine zN 6 ?_;have zP:=CV.aO [6,5,4,3,2,1,0];rw[uR I J (by rw[hR];exact anL)];exact⟨none,0,Nat.le_refl 0,E,aB zP⟩
   refine zN 8 ?_;refine vv jo ?_;refine sa 0 uF kQ ?_;intro asy RY;refine zN 6 ?_;have xM:=RY.aO [3,2,1,0];rw[Bf I J uQ];exact⟨none,0,Nat.le_refl 0,E,aB xM⟩
  refine zN 6 ?_;refine vv jo ?_;refine zQ ?_;refine sa 0 jh kQ ?_;intro aa3 CU;refine zN 6 ?_;have zU:=CU.aO [3,2,1,0];rw[Au I J];exact⟨none,0,Nat.le_refl 0,E,aB zU⟩
 refine zN 6 ?_;refine vv jo ?_;refine zQ ?_;refine sa 0 Cw kQ ?_;intro anN yN;refine zN 6 ?_;have yH:=yN.aO [3,2,1,0];rw[Aq I];exact⟨none,0,Nat.le_refl 0,E,aB yH⟩
def EK {k z:Int} {F:FuncId} {AR:aQ×Int} (ro ep fr tg rd:Int) (A:Option Addr) (c:Nat) (l:List Ev) (qu e pe:Int) (x:Ev) (hk:k≠3/\k≠4) (hkr: -9223372036854775808<=k/\k<=9223372036854775807) (hact:kL ⟨ro,ep,fr,tg,rd,l⟩ ⟨k,qu,e,pe,x⟩=if ¬ (ro=z/\ep=e) then (bD,3) else AR)
    (hra:∀w,Calls tP 80 #[] w λe w'=> ∃m d g,e=.returned (.map (some m))/\St w.heap.size w w' [.blk d #[D z] 3,.blk g #[.func (.func F) #[] #[]] 172,.loc m (qj tP 3 (λy=>if y=k then some (.func (.func 116) #[] #[pV d 0,pV g 0])else none) 7)])
    (ho:∀(b1 b2:Nat) (_:l.length<=2000) (_:0<=e/\e<=1048576) (w:World) (_:Rd w w.heap.size 6 A l.length (bq l)) (_:l.length*48<=reachBytes) (_:Rd w w.heap.size 1 (aD b1 0) 1 [D z]) (_:Rd w w.heap.size 1 (aD b2 0) 1 [.func (.func F) #[] #[]]),Calls tP 116 #[.agg #[D ro,D ep,D fr,D tg,D rd,.slice A l.length c],.agg (rR k qu e pe x),pV b1 0,pV b2 0] w (kS w (if ¬(ro=z/\ep=e)then(bD,3)else AR)))
    (hlc:l.length<=c) (w:World) (h:Rd w w.heap.size 6 A l.length (bq l)) (hb:l.length*48<=reachBytes):
    Calls tP 60 #[.agg #[D ro,D ep,D fr,D tg,D rd,.slice A l.length c],.agg (rR k qu e pe x)] w (mE w (eD ⟨ro,ep,fr,tg,rd,l⟩ ⟨k,qu,e,pe,x⟩)):=by
 have S:=(St.start w).bX h;have hb2:=hb;unfold reachBytes at hb2;obtain⟨R,hR⟩:∃R,kL ⟨ro,ep,fr,tg,rd,l⟩ ⟨k,qu,e,pe,x⟩=R:=⟨_,E⟩;have hM:=hR;rw[hact]at hM
 try dsimp only at hM
 have amu:R.1.evs.length<=l.length+1:=by rw[<-hR];exact EJ
 refine gK 54 func60 ?_;refine cw [0,1] ?_;refine zN 2 ?_;refine iP S ?_;intro b1 w2 S3;refine iP S3 ?_;intro b4 w5 S6;refine gB S6 gu ?_;intro b7 w8 S9;refine zN 7 ?_;refine cab eQ S9 (eB ro ep fr tg rd A c l _ (St.rd 3 S9 E) Y) ?_;intro w10 Cw;refine zN 6 ?_;by_cases M:aj ⟨ro,ep,fr,tg,rd,l⟩=0
 ·have hln:=gJ (eP M).2;dsimp only at hln;refine zN 10 ?_;refine cab eQ Cw (jK ⟨k,qu,e,pe,x⟩ _) ?_;intro KV jh;refine zN 6 ?_;by_cases Z:aG ⟨k,qu,e,pe,x⟩=0
  ·have hrz:=Ap Z;dsimp only at hrz;refine zN 11 ?_;by_cases h18:ro=2
   ·refine zN 16 ?_;refine vv jo ?_;refine sa 0 jh kQ ?_;intro Gn pK;refine zN 6 ?_;have uV:=pK.aO [3,2,1,0];rw[Bf M Z uQ];exact⟨none,0,Nat.le_refl 0,E,aB uV⟩
   refine zN 4 ?_;refine yG eQ (K7 k hk _) ?_;rintro _ w22 ⟨rfl,Oa⟩;refine⟨_,E,?_⟩;have uF:=jh.on Oa;refine zN 3 ?_;by_cases uG:pe=0
   ·refine zN 8 ?_;refine ny (X:=Nat×(Option Addr)×Nat×Nat×Nat×Nat) (λxv=>[(4,pV b7 0),(5,D 0),(8,pV xv.1 0),(9,D R.2)]) (λxv wr=>St w.heap.size w wr [.blk xv.1 (bR R.1 xv.2.1 xv.2.2.1) 42,.cK 6 xv.2.1 R.1.evs.length ((R.1.evs).flatMap Ev.cells),.blk xv.2.2.2.1 #[D z] 3,.blk xv.2.2.2.2.1 #[.func (.func F) #[] #[]] 172,.loc xv.2.2.2.2.2 (qj tP 3 (λy=>if y=k then some (.func (.func 116) #[] #[pV xv.2.2.2.1 0,pV xv.2.2.2.2.1 0])else none) 7),.blk b7 zB 42,.blk b4 (rR k qu e pe x) 138,.blk b1 #[D ro,D ep,D fr,D tg,D rd,.slice A l.length c] 42,.rd 6 A l.length ((l).flatMap Ev.cells)]) ?_ ?_
    ·have sI:=uF.drew;refine aJ 13 sI [] ?_;refine aL 4 ?_;refine iB (n:=8) (r:=0) (s:=10) kQ ?_ ?_
     ·refine kD 0 E eQ (hra _) ?_;rintro _ ZB ⟨m31,I,J,rfl,T36⟩;refine⟨_,E,?_⟩;have O:=sI.ext T36 E;refine dR ?_;refine iB (n:=7) (r:=3) (s:=10) kQ ?_ ?_
      ·refine je (i:=3) E E (v:=.func (.func 116) #[] #[pV I 0,pV J 0]) (wn E) E E (kg 2 O E E E E underlying3 underlying173 (zeroValue172 _) hkr (if_pos E)) ?_;refine dR ?_;refine iB (n:=6) (r:=6) (s:=10) kQ ?_ ?_
       ·have HC:=ho I J Y Y _ (St.rd 6 O E) hb (St.mq (xs:=[D z]) 0 O E E E) (St.mq (xs:=[.func (.func F) #[] #[]]) 1 O E E E);rw[hM]at HC;refine nu 6 E eQ (HC) ?_;rintro _ w40 ⟨A37,c38,aFE,rfl,T42⟩;refine⟨_,E,?_⟩;have Gp:=O.ext T42 E;clear HC;refine aL 4 ?_;refine aY 10 ?_;refine lU 10 E Gp gu ?_;intro b46 w47 Al;refine dR ?_;refine aY 11 ?_;refine sn 11 E 0 Al kQ ?_;intro w49 xL;refine aL 3 ?_;refine dL (b46,A37,c38,I,J,m31) ?_ jW;exact xL
       refine lU 10 E O gu ?_;intro b52 w53 uH;refine dR ?_;refine aY 6 ?_;have HC:=ho I J Y Y _ (St.rd 7 uH E) hb (St.mq (xs:=[D z]) 1 uH E E E) (St.mq (xs:=[.func (.func F) #[] #[]]) 2 uH E E E);rw[hM]at HC;refine nu 6 E eQ (HC) ?_;rintro _ w58 ⟨A55,c56,aFF,rfl,T60⟩;refine⟨_,E,?_⟩;have BJ:=uH.ext T60 E;clear HC;refine aL 4 ?_;refine aY 11 ?_;refine sn 11 E 1 BJ kQ ?_;intro w64 Gx;refine aL 3 ?_;have uy:St w.heap.size w w64 [_,_,_,_,_,_,_,_,_]:=Gx.re [1,0,2,3,4,5,6,7,8] dQ;refine dL (b52,A55,c56,I,J,m31) ?_ jW;exact uy
      refine lU 10 E O gu ?_;intro b68 w69 zJ;refine dR ?_;refine aY 3 ?_;refine je (i:=3) E E (v:=.func (.func 116) #[] #[pV I 0,pV J 0]) (wn E) E E (kg 3 zJ E E E E underlying3 underlying173 (zeroValue172 _) hkr (if_pos E)) ?_;refine dR ?_;refine aY 6 ?_;have HC:=ho I J Y Y _ (St.rd 7 zJ E) hb (St.mq (xs:=[D z]) 1 zJ E E E) (St.mq (xs:=[.func (.func F) #[] #[]]) 2 zJ E E E);rw[hM]at HC;refine nu 6 E eQ (HC) ?_;rintro _ w74 ⟨A71,c72,aFG,rfl,T76⟩;refine⟨_,E,?_⟩;have Gq:=zJ.ext T76 E;clear HC;refine aL 4 ?_;refine aY 11 ?_;refine sn 11 E 1 Gq kQ ?_;intro w80 vK;refine aL 3 ?_;have Dp:St w.heap.size w w80 [_,_,_,_,_,_,_,_,_]:=vK.re [1,0,2,3,4,5,6,7,8] dQ;refine dL (b68,A71,c72,I,J,m31) ?_ jW;exact Dp
     refine lU 10 E sI gu ?_;intro b84 w85 BM;refine dR ?_;refine aY 0 ?_;refine kD 0 E eQ (hra _) ?_;rintro _ w90 ⟨m87,d88,g89,rfl,T92⟩;refine⟨_,E,?_⟩;have QL:=BM.ext T92 E;refine dR ?_;refine aY 3 ?_;refine je (i:=3) E E (v:=.func (.func 116) #[] #[pV d88 0,pV g89 0]) (wn E) E E (kg 2 QL E E E E underlying3 underlying173 (zeroValue172 _) hkr (if_pos E)) ?_;refine dR ?_;refine aY 6 ?_;have HC:=ho d88 g89 Y Y _ (St.rd 7 QL E) hb (St.mq (xs:=[D z]) 0 QL E E E) (St.mq (xs:=[.func (.func F) #[] #[]]) 1 QL E E E);rw[hM]at HC;refine nu 6 E eQ (HC) ?_;rintro _ w96 ⟨A93,c94,aFH,rfl,T98⟩;refine⟨_,E,?_⟩;have Fy:=QL.ext T98 E;clear HC;refine aL 4 ?_;refine aY 11 ?_;refine sn 11 E 4 Fy kQ ?_;intro anF vF;refine aL 3 ?_;have sF:St w.heap.size w anF [_,_,_,_,_,_,_,_,_]:=vF.re [4,0,1,2,3,5,6,7,8] dQ;refine dL (b84,A93,c94,d88,g89,m87) ?_ jW;exact sF
    rintro⟨ahO,WW,WX,aIZ,aI0,aI1⟩ abo vE
    try dsimp only at vE
    refine bH (l':=[(4,pV b7 0),(5,D 0),(8,pV ahO 0),(9,D R.2)]) jW (aM (aM (av (vm ?_))));by_cases Gz:R.2=0
    ·refine zN 7 ?_;have qY:=vE.nil 49 6;refine zN 3 ?_;refine dU (news:=(R.1.evs).flatMap Ev.cells) (xs':=(R.1.evs).flatMap Ev.cells) 0 qY (wn E) E E E E E E (St.cK 2 qY E) underlying40 qJ E dQ (fM _) lQ Y (E) ?_;intro aAv c117 anM aFI aFJ xP;refine zQ ?_;refine Hl 1 xP kQ ?_;intro anu zP;refine zN 5 ?_;refine sa 6 zP kQ ?_;intro asy RY;refine zN 5 ?_;have xM:=RY.aO [9,8,7,6,5,4,3,2,1];rw[kE M Z uQ (by rw[hR];exact Gz),hR];rw[Nat.zero_add]at xM⊢;exact⟨aAv,c117,(eu (xM.own 0 E)).1,E,xM.bF 0 E⟩
    refine zN 6 ?_;refine vv jo ?_;refine sa 5 vE kQ ?_;intro aa3 CU;refine zN 6 ?_;have zU:=CU.aO [8,7,6,5,4,3,2,1,0];rw[uR M Z (by rw[hR];exact Gz)];exact⟨none,0,Nat.le_refl 0,E,aB zU⟩
   refine zN 8 ?_;refine vv jo ?_;refine sa 0 uF kQ ?_;intro anN yN;refine zN 6 ?_;have yH:=yN.aO [3,2,1,0];rw[Bf M Z uQ];exact⟨none,0,Nat.le_refl 0,E,aB yH⟩
  refine zN 6 ?_;refine vv jo ?_;refine zQ ?_;refine sa 0 jh kQ ?_;intro abd zR;refine zN 6 ?_;have LV:=zR.aO [3,2,1,0];rw[Au M Z];exact⟨none,0,Nat.le_refl 0,E,aB LV⟩
 refine zN 6 ?_;refine vv jo ?_;refine zQ ?_;refine sa 0 Cw kQ ?_;intro abp ED;refine zN 6 ?_;have EB:=ED.aO [3,2,1,0];rw[Aq M];exact⟨none,0,Nat.le_refl 0,E,aB EB⟩
def agp (ro ep fr tg rd:Int)(A:Option Addr)(c:Nat)(l:List Ev)(qu e pe:Int)(x:Ev)(I:l.length<=c)(w:World)(h:Rd w w.heap.size 6 A l.length (bq l))(J:l.length*48<=reachBytes):
  Calls tP 60 #[.agg #[D ro,D ep,D fr,D tg,D rd,.slice A l.length c],.agg (rR 2 qu e pe x)] w (mE w (eD ⟨ro,ep,fr,tg,rd,l⟩ ⟨2,qu,e,pe,x⟩)):=
 EK (z:=1) (F:=105) ro ep fr tg rd A c l qu e pe x dQ dQ aeC agi (λb1 b2 h1 M=>Ta ro ep fr tg rd A c l 2 qu e pe x _ b1 b2 h1) I w h J
def agq (ro ep fr tg rd:Int)(A:Option Addr)(c:Nat)(l:List Ev)(qu e pe:Int)(x:Ev)(I:l.length<=c)(w:World)(h:Rd w w.heap.size 6 A l.length (bq l))(J:l.length*48<=reachBytes):
  Calls tP 60 #[.agg #[D ro,D ep,D fr,D tg,D rd,.slice A l.length c],.agg (rR 5 qu e pe x)] w (mE w (eD ⟨ro,ep,fr,tg,rd,l⟩ ⟨5,qu,e,pe,x⟩)):=
 EK (z:=4) (F:=105) ro ep fr tg rd A c l qu e pe x dQ dQ aeD agj (λb1 b2 h1 M=>Ta ro ep fr tg rd A c l 5 qu e pe x _ b1 b2 h1) I w h J
def agr (ro ep fr tg rd:Int)(A:Option Addr)(c:Nat)(l:List Ev)(qu e pe:Int)(x:Ev)(I:l.length<=c)(w:World)(h:Rd w w.heap.size 6 A l.length (bq l))(J:l.length*48<=reachBytes):
  Calls tP 60 #[.agg #[D ro,D ep,D fr,D tg,D rd,.slice A l.length c],.agg (rR 6 qu e pe x)] w (mE w (eD ⟨ro,ep,fr,tg,rd,l⟩ ⟨6,qu,e,pe,x⟩)):=
 EK (z:=4) (F:=108) ro ep fr tg rd A c l qu e pe x dQ dQ aqG agk (λb1 b2 h1 M=>aga ro ep fr tg rd A c l 6 qu e pe x _ b1 b2 I) I w h J
def ags (ro ep fr tg rd:Int)(A:Option Addr)(c:Nat)(l:List Ev)(qu e pe:Int)(x:Ev)(I:l.length<=c)(w:World)(h:Rd w w.heap.size 6 A l.length (bq l))(J:l.length*48<=reachBytes):
  Calls tP 60 #[.agg #[D ro,D ep,D fr,D tg,D rd,.slice A l.length c],.agg (rR 7 qu e pe x)] w (mE w (eD ⟨ro,ep,fr,tg,rd,l⟩ ⟨7,qu,e,pe,x⟩)):=
 EK (z:=3) (F:=109) ro ep fr tg rd A c l qu e pe x dQ dQ aqH agl (λb1 b2 h1 M=>agb ro ep fr tg rd A c l 7 qu e pe x _ b1 b2 M) I w h J
def agt (ro ep fr tg rd:Int) (A:Option Addr) (c:Nat) (l:List Ev) (qu e pe:Int) (x:Ev) (hlc:l.length<=c) (w:World) (h:Rd w w.heap.size 6 A l.length (bq l)) (hb:l.length*48<=reachBytes):
    Calls prog 60 #[.agg #[D ro,D ep,D fr,D tg,D rd,.slice A l.length c],.agg #[D 3,D qu,D e,D pe,D x.kind,D x.producer,D x.id,D x.body,D x.aN,D x.hno]] w (mE w (eD ⟨ro,ep,fr,tg,rd,l⟩ ⟨3,qu,e,pe,x⟩)):=by
 have S:=(St.start w).bX h;have hb2:=hb;unfold reachBytes at hb2;refine gK 54 func60 ?_;refine cw [0,1] ?_;refine zN 2 ?_;refine iP S ?_;intro b1 w2 S3;refine iP S3 ?_;intro b4 w5 S6;refine gB S6 gu ?_;intro b7 w8 S9;refine zN 7 ?_;refine cab eQ S9 (eB ro ep fr tg rd A c l _ (St.rd 3 S9 E) Y) ?_;intro w10 Cw;refine zN 6 ?_;by_cases O:aj ⟨ro,ep,fr,tg,rd,l⟩=0
 ·have hln:=gJ (eP O).2;dsimp only at hln;refine zN 10 ?_;refine cab eQ Cw (jK ⟨3,qu,e,pe,x⟩ _) ?_;intro KV jh;refine zN 6 ?_;by_cases Z:aG ⟨3,qu,e,pe,x⟩=0
  ·have hrz:=Ap Z;dsimp only at hrz;refine zN 11 ?_;by_cases h18:ro=2
   ·refine zN 16 ?_;refine vv jo ?_;refine sa 0 jh kQ ?_;intro Gn pK;refine zN 6 ?_;have uV:=pK.aO [3,2,1,0];rw[Bf O Z uQ];exact⟨none,0,Nat.le_refl 0,E,aB uV⟩
   refine zN 4 ?_;refine yG eQ (K8 3 dQ _) ?_;rintro _ w22 ⟨rfl,Oa⟩;refine⟨_,E,?_⟩;have uF:=jh.on Oa;refine zN 12 ?_;have lC:=uF.drew;refine aJ 13 lC [] ?_;refine aL 4 ?_;refine iB (n:=8) (r:=0) (s:=10) kQ ?_ ?_
   ·refine kD 0 E eQ (Td _) ?_;rintro _ w33 ⟨m30,d31,g32,rfl,T35⟩;refine⟨_,E,?_⟩;have qW:=lC.ext T35 E;refine dR ?_;refine iB (n:=7) (r:=3) (s:=10) kQ ?_ ?_
    ·refine je (i:=3) E E (v:=.func (.func 116) #[] #[pV d31 0,pV g32 0]) (wn E) E E (kg 2 qW E E E E underlying3 underlying173 (zeroValue172 _) dQ E) ?_;refine dR ?_;refine iB (n:=6) (r:=6) (s:=10) kQ ?_ ?_
     ·by_cases I:ro=1/\ep=e
      ·refine nu 6 E eQ (I7 (pQ ro ep fr tg rd A c l 3 qu e pe x 1 d31 g32 _ (St.rd 6 qW E) hb (St.mq (xs:=[D 1]) 0 qW E E E) (St.mq (xs:=[.func (.func 106) #[] #[]]) 1 qW E E E)) I) ?_;rintro _ w36 ⟨rfl,aAw⟩;refine⟨_,E,?_⟩;have Dt:=qW.on aAw;refine aL 4 ?_;refine aY 10 ?_;refine lU 10 E Dt gu ?_;intro b42 w43 Fw;refine dR ?_;refine aY 11 ?_;refine sn 11 E 0 Fw kQ ?_;intro w45 wP;refine aL 3 ?_;refine zN 12 ?_;have Al:=wP.nil 49 6;refine zN 3 ?_;refine dU (news:=(l).flatMap Ev.cells) (xs':=(l).flatMap Ev.cells) 0 Al (wn E) E E E E E E (St.rd 8 Al E) underlying40 qJ E dQ (fM _) lQ Y (E) ?_;intro A49 c50 w51 aI2 aI3 o8;refine zQ ?_;refine Hl 1 o8 kQ ?_;intro w55 VR;refine zN 5 ?_;refine sa 5 VR kQ ?_;intro w57 Du;refine zN 5 ?_;have BJ:=Du.aO [8,7,6,5,4,3,2,1];rw[kE O Z uQ (by rw[rT,if_neg (λh=>h I)];rfl),rT,if_neg (λh=>h I)];rw[Nat.zero_add]at BJ⊢;exact⟨A49,c50,(eu (BJ.own 0 E)).1,E,BJ.bF 0 E⟩
      refine nu 6 E eQ (N8 (pQ ro ep fr tg rd A c l 3 qu e pe x 1 d31 g32 _ (St.rd 6 qW E) hb (St.mq (xs:=[D 1]) 0 qW E E E) (St.mq (xs:=[.func (.func 106) #[] #[]]) 1 qW E E E)) I) ?_;rintro _ w60 ⟨rfl,aty⟩;refine⟨_,E,?_⟩;have Hw:=qW.on aty;refine aL 4 ?_;refine aY 10 ?_;refine lU 10 E Hw gu ?_;intro b66 w67 Cy;refine dR ?_;refine aY 11 ?_;refine sn 11 E 0 Cy kQ ?_;intro w69 zJ;refine aL 3 ?_;refine zN 11 ?_;refine vv jo ?_;refine sa 4 zJ kQ ?_;intro w72 tV;refine zN 6 ?_;have NQ:=tV.aO [7,6,5,4,3,2,1,0];rw[uR O Z (by rw[rT,if_pos I];decide)];exact⟨none,0,Nat.le_refl 0,E,aB NQ⟩
     refine lU 10 E qW gu ?_;intro b75 w76 Fv;refine dR ?_;refine aY 6 ?_;by_cases I:ro=1/\ep=e
     ·refine nu 6 E eQ (I7 (pQ ro ep fr tg rd A c l 3 qu e pe x 1 d31 g32 _ (St.rd 7 Fv E) hb (St.mq (xs:=[D 1]) 1 Fv E E E) (St.mq (xs:=[.func (.func 106) #[] #[]]) 2 Fv E E E)) I) ?_;rintro _ w78 ⟨rfl,aAx⟩;refine⟨_,E,?_⟩;have Dn:=Fv.on aAx;refine aL 4 ?_;refine aY 11 ?_;refine sn 11 E 0 Dn kQ ?_;intro w84 JF;refine aL 3 ?_;refine zN 12 ?_;have Gv:=JF.nil 49 6;refine zN 3 ?_;refine dU (news:=(l).flatMap Ev.cells) (xs':=(l).flatMap Ev.cells) 0 Gv (wn E) E E E E E E (St.rd 8 Gv E) underlying40 qJ E dQ (fM _) lQ Y (E) ?_;intro A88 c89 w90 aI4 aI5 QL;refine zQ ?_;refine Hl 1 QL kQ ?_;intro w94 K6;refine zN 5 ?_;refine sa 5 K6 kQ ?_;intro w96 Fy;refine zN 5 ?_;have Dw:=Fy.aO [8,7,6,5,4,3,2,1];rw[kE O Z uQ (by rw[rT,if_neg (λh=>h I)];rfl),rT,if_neg (λh=>h I)];rw[Nat.zero_add]at Dw⊢;exact⟨A88,c89,(eu (Dw.own 0 E)).1,E,Dw.bF 0 E⟩
     refine nu 6 E eQ (N8 (pQ ro ep fr tg rd A c l 3 qu e pe x 1 d31 g32 _ (St.rd 7 Fv E) hb (St.mq (xs:=[D 1]) 1 Fv E E E) (St.mq (xs:=[.func (.func 106) #[] #[]]) 2 Fv E E E)) I) ?_;rintro _ w99 ⟨rfl,av0⟩;refine⟨_,E,?_⟩;have wm:=Fv.on av0;refine aL 4 ?_;refine aY 11 ?_;refine sn 11 E 0 wm kQ ?_;intro atA Ma;refine aL 3 ?_;refine zN 11 ?_;refine vv jo ?_;refine sa 4 Ma kQ ?_;intro ato I6;refine zN 6 ?_;have qX:=I6.aO [7,6,5,4,3,2,1,0];rw[uR O Z (by rw[rT,if_pos I];decide)];exact⟨none,0,Nat.le_refl 0,E,aB qX⟩
    refine lU 10 E qW gu ?_;intro aI6 abo J;refine dR ?_;refine aY 3 ?_;refine je (i:=3) E E (v:=.func (.func 116) #[] #[pV d31 0,pV g32 0]) (wn E) E E (kg 3 J E E E E underlying3 underlying173 (zeroValue172 _) dQ E) ?_;refine dR ?_;refine aY 6 ?_;by_cases I:ro=1/\ep=e
    ·refine nu 6 E eQ (I7 (pQ ro ep fr tg rd A c l 3 qu e pe x 1 d31 g32 _ (St.rd 7 J E) hb (St.mq (xs:=[D 1]) 1 J E E E) (St.mq (xs:=[.func (.func 106) #[] #[]]) 2 J E E E)) I) ?_;rintro _ anx ⟨rfl,av1⟩;refine⟨_,E,?_⟩;have qY:=J.on av1;refine aL 4 ?_;refine aY 11 ?_;refine sn 11 E 0 qY kQ ?_;intro asJ GA;refine aL 3 ?_;refine zN 12 ?_;have zP:=GA.nil 49 6;refine zN 3 ?_;refine dU (news:=(l).flatMap Ev.cells) (xs':=(l).flatMap Ev.cells) 0 zP (wn E) E E E E E E (St.rd 8 zP E) underlying40 qJ E dQ (fM _) lQ Y (E) ?_;intro anA anB anz aFK aFL RZ;refine zQ ?_;refine Hl 1 RZ kQ ?_;intro anN yN;refine zN 5 ?_;refine sa 5 yN kQ ?_;intro aAy R8;refine zN 5 ?_;have zR:=R8.aO [8,7,6,5,4,3,2,1];rw[kE O Z uQ (by rw[rT,if_neg (λh=>h I)];rfl),rT,if_neg (λh=>h I)];rw[Nat.zero_add]at zR⊢;exact⟨anA,anB,(eu (zR.own 0 E)).1,E,zR.bF 0 E⟩
    refine nu 6 E eQ (N8 (pQ ro ep fr tg rd A c l 3 qu e pe x 1 d31 g32 _ (St.rd 7 J E) hb (St.mq (xs:=[D 1]) 1 J E E E) (St.mq (xs:=[.func (.func 106) #[] #[]]) 2 J E E E)) I) ?_;rintro _ asf ⟨rfl,av2⟩;refine⟨_,E,?_⟩;have LQ:=J.on av2;refine aL 4 ?_;refine aY 11 ?_;refine sn 11 E 0 LQ kQ ?_;intro atB IV;refine aL 3 ?_;refine zN 11 ?_;refine vv jo ?_;refine sa 4 IV kQ ?_;intro ahH LP;refine zN 6 ?_;have RV:=LP.aO [7,6,5,4,3,2,1,0];rw[uR O Z (by rw[rT,if_pos I];decide)];exact⟨none,0,Nat.le_refl 0,E,aB RV⟩
   refine lU 10 E lC gu ?_;intro azN azO zS;refine dR ?_;refine aY 0 ?_;refine kD 0 E eQ (Td _) ?_;rintro _ atC ⟨aI7,anO,anP,rfl,aAz⟩;refine⟨_,E,?_⟩;have M:=zS.ext aAz E;refine dR ?_;refine aY 3 ?_;refine je (i:=3) E E (v:=.func (.func 116) #[] #[pV anO 0,pV anP 0]) (wn E) E E (kg 2 M E E E E underlying3 underlying173 (zeroValue172 _) dQ E) ?_;refine dR ?_;refine aY 6 ?_;by_cases I:ro=1/\ep=e
   ·refine nu 6 E eQ (I7 (pQ ro ep fr tg rd A c l 3 qu e pe x 1 anO anP _ (St.rd 7 M E) hb (St.mq (xs:=[D 1]) 0 M E E E) (St.mq (xs:=[.func (.func 106) #[] #[]]) 1 M E E E)) I) ?_;rintro _ aI8 ⟨rfl,av3⟩;refine⟨_,E,?_⟩;have anI:=M.on av3;refine aL 4 ?_;refine aY 11 ?_;refine sn 11 E 3 anI kQ ?_;intro aI9 aAA;refine aL 3 ?_;refine zN 12 ?_;have yJ:=aAA.nil 49 6;refine zN 3 ?_;refine dU (news:=(l).flatMap Ev.cells) (xs':=(l).flatMap Ev.cells) 0 yJ (wn E) E E E E E E (St.rd 8 yJ E) underlying40 qJ E dQ (fM _) lQ Y (E) ?_;intro aAB c167 anv aFM aFN LU;refine zQ ?_;refine Hl 4 LU kQ ?_;intro anQ WY;refine zN 5 ?_;refine sa 5 WY kQ ?_;intro aAC WS;refine zN 5 ?_;have abN:=WS.aO [8,7,6,5,4,3,2,1];rw[kE O Z uQ (by rw[rT,if_neg (λh=>h I)];rfl),rT,if_neg (λh=>h I)];rw[Nat.zero_add]at abN⊢;exact⟨aAB,c167,(eu (abN.own 0 E)).1,E,abN.bF 0 E⟩
   refine nu 6 E eQ (N8 (pQ ro ep fr tg rd A c l 3 qu e pe x 1 anO anP _ (St.rd 7 M E) hb (St.mq (xs:=[D 1]) 0 M E E E) (St.mq (xs:=[.func (.func 106) #[] #[]]) 1 M E E E)) I) ?_;rintro _ aAD ⟨rfl,av4⟩;refine⟨_,E,?_⟩;have WU:=M.on av4;refine aL 4 ?_;refine aY 11 ?_;refine sn 11 E 3 WU kQ ?_;intro aJa aAE;refine aL 3 ?_;refine zN 11 ?_;refine vv jo ?_;refine sa 4 aAE kQ ?_;intro aJb aAF;refine zN 6 ?_;have anR:=aAF.aO [7,6,5,4,3,2,1,0];rw[uR O Z (by rw[rT,if_pos I];decide)];exact⟨none,0,Nat.le_refl 0,E,aB anR⟩
  refine zN 6 ?_;refine vv jo ?_;refine zQ ?_;refine sa 0 jh kQ ?_;intro aJc aAG;refine zN 6 ?_;have anS:=aAG.aO [3,2,1,0];rw[Au O Z];exact⟨none,0,Nat.le_refl 0,E,aB anS⟩
 refine zN 6 ?_;refine vv jo ?_;refine zQ ?_;refine sa 0 Cw kQ ?_;intro aJd aAH;refine zN 6 ?_;have R9:=aAH.aO [3,2,1,0];rw[Aq O];exact⟨none,0,Nat.le_refl 0,E,aB R9⟩
def agu (ro ep fr tg rd:Int) (A:Option Addr) (c:Nat) (l:List Ev) (qu e pe:Int) (x:Ev) (hlc:l.length<=c) (w:World) (h:Rd w w.heap.size 6 A l.length (bq l)) (hb:l.length*48<=reachBytes):
    Calls tP 60 #[.agg #[D ro,D ep,D fr,D tg,D rd,.slice A l.length c],.agg (rR 4 qu e pe x)] w (mE w (eD ⟨ro,ep,fr,tg,rd,l⟩ ⟨4,qu,e,pe,x⟩)):=by
 have S:=(St.start w).bX h;have hb2:=hb;unfold reachBytes at hb2;obtain⟨R,hR⟩:∃R,kL ⟨ro,ep,fr,tg,rd,l⟩ ⟨4,qu,e,pe,x⟩=R:=⟨_,E⟩;have hM:=hR;rw[aqF]at hM
 try dsimp only at hM
 have amu:R.1.evs.length<=l.length+1:=by rw[<-hR];exact EJ
 refine gK 54 func60 ?_;refine cw [0,1] ?_;refine zN 2 ?_;refine iP S ?_;intro b1 w2 S3;refine iP S3 ?_;intro b4 w5 S6;refine gB S6 gu ?_;intro b7 w8 S9;refine zN 7 ?_;refine cab eQ S9 (eB ro ep fr tg rd A c l _ (St.rd 3 S9 E) Y) ?_;intro w10 Cw;refine zN 6 ?_;by_cases I:aj ⟨ro,ep,fr,tg,rd,l⟩=0
 ·have hln:=gJ (eP I).2;dsimp only at hln;refine zN 10 ?_;refine cab eQ Cw (jK ⟨4,qu,e,pe,x⟩ _) ?_;intro KV jh;refine zN 6 ?_;by_cases J:aG ⟨4,qu,e,pe,x⟩=0
  ·have hrz:=Ap J;dsimp only at hrz;refine zN 11 ?_;by_cases h18:ro=2
   ·refine zN 16 ?_;refine vv jo ?_;refine sa 0 jh kQ ?_;intro Gn pK;refine zN 6 ?_;have uV:=pK.aO [3,2,1,0];rw[Bf I J uQ];exact⟨none,0,Nat.le_refl 0,E,aB uV⟩
   refine zN 4 ?_;refine yG eQ (K8 4 dQ _) ?_;rintro _ w22 ⟨rfl,Oa⟩;refine⟨_,E,?_⟩;have uF:=jh.on Oa;refine zN 11 ?_;refine ny (X:=Nat×(Option Addr)×Nat×Nat) (λxv=>[(4,pV b7 0),(5,D 0),(8,pV xv.1 0),(9,D R.2)]) (λxv wr=>St w.heap.size w wr [.blk xv.1 (bR R.1 xv.2.1 xv.2.2.1) 42,.cK 6 xv.2.1 R.1.evs.length ((R.1.evs).flatMap Ev.cells),.loc xv.2.2.2 (qj tP 3 (λy=>if y=4 then some (.func (.func 107) #[] #[])else none) 7),.blk b7 zB 42,.blk b4 (rR 4 qu e pe x) 138,.blk b1 #[D ro,D ep,D fr,D tg,D rd,.slice A l.length c] 42,.rd 6 A l.length ((l).flatMap Ev.cells)]) ?_ ?_
   ·have lC:=uF.drew;refine aJ 13 lC [] ?_;refine aL 4 ?_;refine iB (n:=8) (r:=0) (s:=10) kQ ?_ ?_
    ·refine kD 0 E eQ (Te _) ?_;rintro _ w31 ⟨m30,rfl,T33⟩;refine⟨_,E,?_⟩;have M:=lC.ext T33 E;refine dR ?_;refine iB (n:=7) (r:=3) (s:=10) kQ ?_ ?_
     ·refine je (i:=3) E E (v:=.func (.func 107) #[] #[]) (wn E) E E (kg 0 M E E E E underlying3 underlying173 (zeroValue172 _) dQ E) ?_;refine dR ?_;refine iB (n:=6) (r:=6) (s:=10) kQ ?_ ?_
      ·have HC:=wD ro ep fr tg rd A c l 4 qu e pe x _ (St.rd 4 M E) hb;rw[hM]at HC;refine nu 6 E eQ (HC) ?_;rintro _ ZE ⟨A34,c35,aFO,rfl,T39⟩;refine⟨_,E,?_⟩;have yC:=M.ext T39 E;clear HC;refine aL 4 ?_;refine aY 10 ?_;refine lU 10 E yC gu ?_;intro b43 QK qC;refine dR ?_;refine aY 11 ?_;refine sn 11 E 0 qC kQ ?_;intro ZC zn;refine aL 3 ?_;refine dL (b43,A34,c35,m30) ?_ jW;exact zn
      refine lU 10 E M gu ?_;intro b49 VP vT;refine dR ?_;refine aY 6 ?_;have HC:=wD ro ep fr tg rd A c l 4 qu e pe x _ (St.rd 5 vT E) hb;rw[hM]at HC;refine nu 6 E eQ (HC) ?_;rintro _ w55 ⟨A52,c53,aFP,rfl,T57⟩;refine⟨_,E,?_⟩;have VR:=vT.ext T57 E;clear HC;refine aL 4 ?_;refine aY 11 ?_;refine sn 11 E 1 VR kQ ?_;intro w61 JC;refine aL 3 ?_;have S64:St w.heap.size w w61 [_,_,_,_,_,_,_]:=JC.re [1,0,2,3,4,5,6] dQ;refine dL (b49,A52,c53,m30) ?_ jW;exact S64
     refine lU 10 E M gu ?_;intro b65 VQ uy;refine dR ?_;refine aY 3 ?_;refine je (i:=3) E E (v:=.func (.func 107) #[] #[]) (wn E) E E (kg 1 uy E E E E underlying3 underlying173 (zeroValue172 _) dQ E) ?_;refine dR ?_;refine aY 6 ?_;have HC:=wD ro ep fr tg rd A c l 4 qu e pe x _ (St.rd 5 uy E) hb;rw[hM]at HC;refine nu 6 E eQ (HC) ?_;rintro _ w71 ⟨A68,c69,aFQ,rfl,T73⟩;refine⟨_,E,?_⟩;have Fu:=uy.ext T73 E;clear HC;refine aL 4 ?_;refine aY 11 ?_;refine sn 11 E 1 Fu kQ ?_;intro w77 JD;refine aL 3 ?_;have BK:St w.heap.size w w77 [_,_,_,_,_,_,_]:=JD.re [1,0,2,3,4,5,6] dQ;refine dL (b65,A68,c69,m30) ?_ jW;exact BK
    refine lU 10 E lC gu ?_;intro b81 w82 Dp;refine dR ?_;refine aY 0 ?_;refine kD 0 E eQ (Te _) ?_;rintro _ w85 ⟨m84,rfl,T87⟩;refine⟨_,E,?_⟩;have BM:=Dp.ext T87 E;refine dR ?_;refine aY 3 ?_;refine je (i:=3) E E (v:=.func (.func 107) #[] #[]) (wn E) E E (kg 0 BM E E E E underlying3 underlying173 (zeroValue172 _) dQ E) ?_;refine dR ?_;refine aY 6 ?_;have HC:=wD ro ep fr tg rd A c l 4 qu e pe x _ (St.rd 5 BM E) hb;rw[hM]at HC;refine nu 6 E eQ (HC) ?_;rintro _ w91 ⟨A88,c89,amv,rfl,T93⟩;refine⟨_,E,?_⟩;have zm:=BM.ext T93 E;clear HC;refine aL 4 ?_;refine aY 11 ?_;refine sn 11 E 2 zm kQ ?_;intro w97 Dw;refine aL 3 ?_;have wm:St w.heap.size w w97 [_,_,_,_,_,_,_]:=Dw.re [2,0,1,3,4,5,6] dQ;refine dL (b81,A88,c89,m84) ?_ jW;exact wm
   rintro⟨anE,anT,anU,aJe⟩ atA O
   try dsimp only at O
   refine bH (l':=[(4,pV b7 0),(5,D 0),(8,pV anE 0),(9,D R.2)]) jW (aM (aM (av (vm ?_))));by_cases atE:R.2=0
   ·refine zN 7 ?_;have vD:=O.nil 49 6;refine zN 3 ?_;refine dU (news:=(R.1.evs).flatMap Ev.cells) (xs':=(R.1.evs).flatMap Ev.cells) 0 vD (wn E) E E E E E E (St.cK 2 vD E) underlying40 qJ E dQ (fM _) lQ Y (E) ?_;intro Ob Sb abF hc113 aFR BN;refine zQ ?_;refine Hl 1 BN kQ ?_;intro anV yL;refine zN 5 ?_;refine sa 4 yL kQ ?_;intro abG wo;refine zN 5 ?_;have Z:=wo.aO [7,6,5,4,3,2,1];rw[kE I J uQ (by rw[hR];exact atE),hR];rw[Nat.zero_add]at Z⊢;exact⟨Ob,Sb,(eu (Z.own 0 E)).1,E,Z.bF 0 E⟩
   refine zN 6 ?_;refine vv jo ?_;refine sa 3 O kQ ?_;intro asJ GA;refine zN 6 ?_;have CV:=GA.aO [6,5,4,3,2,1,0];rw[uR I J (by rw[hR];exact atE)];exact⟨none,0,Nat.le_refl 0,E,aB CV⟩
  refine zN 6 ?_;refine vv jo ?_;refine zQ ?_;refine sa 0 jh kQ ?_;intro aAI Oc;refine zN 6 ?_;have RY:=Oc.aO [3,2,1,0];rw[Au I J];exact⟨none,0,Nat.le_refl 0,E,aB RY⟩
 refine zN 6 ?_;refine vv jo ?_;refine zQ ?_;refine sa 0 Cw kQ ?_;intro anz RZ;refine zN 6 ?_;have CU:=RZ.aO [3,2,1,0];rw[Aq I];exact⟨none,0,Nat.le_refl 0,E,aB CU⟩
def Vf (ro ep fr tg rd:Int)(A:Option Addr)(c:Nat)(l:List Ev)(kd qu e pe:Int)(x:Ev)(I:l.length<=c)(w:World)(h:Rd w w.heap.size 6 A l.length (bq l))(J:l.length*48<=reachBytes):
  Calls prog 60 #[.agg #[D ro,D ep,D fr,D tg,D rd,.slice A l.length c],.agg #[D kd,D qu,D e,D pe,D x.kind,D x.producer,D x.id,D x.body,D x.aN,D x.hno]] w (mE w (eD ⟨ro,ep,fr,tg,rd,l⟩ ⟨kd,qu,e,pe,x⟩)):=by
 by_cases M:1<=kd/\kd<=7
 ·rcases(by omega:kd=1\/kd=2\/kd=3\/kd=4\/kd=5\/kd=6\/kd=7)with rfl|rfl|rfl|rfl|rfl|rfl|rfl
  ·exact agn ro ep fr tg rd A c l qu e pe x I w h J
  ·exact agp ro ep fr tg rd A c l qu e pe x I w h J
  ·exact agt ro ep fr tg rd A c l qu e pe x I w h J
  ·exact agu ro ep fr tg rd A c l qu e pe x I w h J
  ·exact agq ro ep fr tg rd A c l qu e pe x I w h J
  ·exact agr ro ep fr tg rd A c l qu e pe x I w h J
  exact ags ro ep fr tg rd A c l qu e pe x I w h J
 exact agm ro ep fr tg rd A c l kd qu e pe x M w h J
def Yl (g:Nat) (x:Ac) (w:World) (h:Rd w w.heap.size 11 (aD g 0) 1 x.cells):
    Calls prog 28 #[pV g 0] w (af0 w g (bV x.kd x.ek) (bT x.kd x.ek)):=by
 have S:=(St.start w).bX h;refine gK 111 func28 ?_;refine cw [0] ?_;refine zN 8 ?_;have S1:=S.drew;refine IB (C:=λw'=>St w.heap.size w w' [.rd 11 (aD g 0) 1 x.cells]) (n:=12) (listed:= #[false,false,false,false,false,false,false,false,false,false,false,false]) mixed E E ?_;refine aL 3 ?_;refine ak (v:=.agg #[pV g 1,D 4]) 3 E S1 (λ_ _=>gG) ?_;refine aL 3 ?_;refine ak (v:=.agg #[pV g 2,D 3]) 7 E S1 (λ_ _=>gG) ?_;refine iB (n:=3) (r:=8) (s:=9) kQ ?_ ?_
 ·refine lU 8 E S1 Fh ?_;intro b10 Ht oF;refine dR ?_;refine aY 9 ?_;refine lU 9 E oF Fh ?_;intro b13 KV jh;refine dR ?_;refine aY 10 ?_;refine sn 10 E 1 jh kQ ?_;intro w16 zI;refine dR ?_;refine aY 11 ?_;refine sn 11 E 0 zI kQ ?_;intro MO uz;refine aL 2 ?_;refine zN 6 ?_;refine vv (v:=.agg #[pV g 3,D 1048576]) gG ?_;refine gB uz Fh ?_;intro b20 Fq jX;refine sa 0 jX kQ ?_;intro JB jP;refine zN 8 ?_;refine vv (v:=D x.kd) (au E E (aK (Rd.cl (j:=0) (St.rd 3 jP E) E))) ?_;refine zN 5 ?_;by_cases uG:x.kd=1
  ·refine zN 6 ?_;have sI:=jP.drew;refine aJ 6 sI [] ?_;refine aL 3 ?_;refine aY 2 ?_;refine jZ (i:=2) E E (V:=λb=>.slice (aD b 0) 2 2) (row:= #[pV g 2,D 3,pV g 1,D 4]) (t:=114) sI (wn E) E E (aP (vs:=[(0,.agg #[pV g 2,D 3]),(1,.agg #[pV g 1,D 4])]) E jW kQ) ?_;intro b30 w31 uW;refine aL 4 ?_;refine zN 5 ?_;rw[show bV x.kd x.ek=⟨#[109,97,107,101]⟩from by simp[bV,uG]];have zo:=uW.aO [4,3,2,1];rw[show bT x.kd x.ek=some [(2,3),(1,4)]from by simp[bT,uG]];exact⟨_,E,St.jR (n:=2) (xs:=([(2,3),(1,4)]:List (Nat×Int)).flatMap (dH g)) 0 zo E E E⟩
  refine zN 7 ?_;by_cases zu:x.kd=10
  ·refine zN 6 ?_;have Dt:=jP.drew;refine aJ 6 Dt [] ?_;refine aL 3 ?_;refine aY 2 ?_;refine jZ (i:=2) E E (V:=λb=>.slice (aD b 0) 2 2) (row:= #[pV g 2,D 3,pV g 1,D 4]) (t:=114) Dt (wn E) E E (aP (vs:=[(0,.agg #[pV g 2,D 3]),(1,.agg #[pV g 1,D 4])]) E jW kQ) ?_;intro b41 VO tQ;refine aL 4 ?_;refine zN 5 ?_;rw[show bV x.kd x.ek=⟨#[109,111,118,101]⟩from by simp[bV,uG,zu]];have wP:=tQ.aO [4,3,2,1];rw[show bT x.kd x.ek=some [(2,3),(1,4)]from by simp[bT,uG,zu]];exact⟨_,E,St.jR (n:=2) (xs:=([(2,3),(1,4)]:List (Nat×Int)).flatMap (dH g)) 0 wP E E E⟩
  refine zN 7 ?_;by_cases h47:x.kd=3
  ·refine zN 6 ?_;have Al:=jP.drew;refine aJ 5 Al [] ?_;refine aL 2 ?_;refine aY 1 ?_;refine Gj 1 E Al ?_;intro b51 w52 Cv;refine aL 4 ?_;refine zN 5 ?_;rw[show bV x.kd x.ek=⟨#[115,116,101,112]⟩from by simp[bV,uG,zu,h47]];have VR:=Cv.aO [4,3,2,1];rw[show bT x.kd x.ek=some [(1,4)]from by simp[bT,uG,zu,h47]];exact⟨_,E,St.jR (n:=1) (xs:=([(1,4)]:List (Nat×Int)).flatMap (dH g)) 0 VR E E E⟩
  refine zN 7 ?_;by_cases h57:x.kd=9
  ·refine zN 6 ?_;have Du:=jP.drew;refine aJ 5 Du [] ?_;refine aL 2 ?_;refine aY 1 ?_;refine Gj 1 E Du ?_;intro b61 Zx wO;refine aL 4 ?_;refine zN 5 ?_;rw[show bV x.kd x.ek=⟨#[115,116,97,114,116]⟩from by simp[bV,uG,zu,h47,h57]];have Hz:=wO.aO [4,3,2,1];rw[show bT x.kd x.ek=some [(1,4)]from by simp[bT,uG,zu,h47,h57]];exact⟨_,E,St.jR (n:=1) (xs:=([(1,4)]:List (Nat×Int)).flatMap (dH g)) 0 Hz E E E⟩
  refine zN 7 ?_;by_cases CF:x.kd=8
  ·refine zN 6 ?_;have Cy:=jP.drew;refine aJ 9 Cy [] ?_;refine aL 4 ?_;refine ak (v:=.agg #[pV g 4,D 100000]) 4 E Cy (λ_ _=>gG) ?_;refine dR ?_;refine aY 5 ?_;refine jZ (i:=5) E E (V:=λb=>.slice (aD b 0) 2 2) (row:= #[pV g 1,D 4,pV g 4,D 100000]) (t:=114) Cy (wn E) E E (aP (vs:=[(0,.agg #[pV g 1,D 4]),(1,.agg #[pV g 4,D 100000])]) E jW kQ) ?_;intro b75 w76 Fv;refine aL 4 ?_;refine zN 5 ?_;rw[show bV x.kd x.ek=⟨#[99,114,97,115,104]⟩from by simp[bV,uG,zu,h47,h57,CF]];have BK:=Fv.aO [4,3,2,1];rw[show bT x.kd x.ek=some [(1,4),(4,100000)]from by simp[bT,uG,zu,h47,h57,CF]];exact⟨_,E,St.jR (n:=2) (xs:=([(1,4),(4,100000)]:List (Nat×Int)).flatMap (dH g)) 0 BK E E E⟩
  refine zN 7 ?_;by_cases Ib:x.kd=4
  ·refine zN 6 ?_;have S82:=jP.drew;refine aJ 5 S82 [] ?_;refine aL 2 ?_;refine aY 1 ?_;refine Gj 1 E S82 ?_;intro b85 w86 Gv;refine aL 4 ?_;refine zN 5 ?_;rw[show bV x.kd x.ek=⟨#[99,97,114,114,121]⟩from by simp[bV,uG,zu,h47,h57,CF,Ib]];have S90:=Gv.aO [4,3,2,1];rw[show bT x.kd x.ek=some [(3,1048576)]from by simp[bT,uG,zu,h47,h57,CF,Ib]];exact⟨_,E,St.jR (n:=1) (xs:=([(3,1048576)]:List (Nat×Int)).flatMap (dH g)) 0 S90 E E E⟩
  refine zN 7 ?_;by_cases Gy:x.kd=5
  ·refine zN 6 ?_;have zm:=jP.drew;refine aJ 5 zm [] ?_;refine aL 2 ?_;refine aY 1 ?_;refine Gj 1 E zm ?_;intro b95 w96 Fy;refine aL 4 ?_;refine zN 5 ?_;rw[show bV x.kd x.ek=⟨#[108,111,115,101]⟩from by simp[bV,uG,zu,h47,h57,CF,Ib,Gy]];have wm:=Fy.aO [4,3,2,1];rw[show bT x.kd x.ek=some [(3,1048576)]from by simp[bT,uG,zu,h47,h57,CF,Ib,Gy]];exact⟨_,E,St.jR (n:=1) (xs:=([(3,1048576)]:List (Nat×Int)).flatMap (dH g)) 0 wm E E E⟩
  refine zN 7 ?_;by_cases BO:x.kd=6
  ·refine zN 6 ?_;have tq:=jP.drew;refine aJ 5 tq [] ?_;refine aL 2 ?_;refine aY 1 ?_;refine Gj 1 E tq ?_;intro aJf abD EI;refine aL 4 ?_;refine zN 5 ?_;rw[show bV x.kd x.ek=⟨#[100,111,117,98,108,101]⟩from by simp[bV,uG,zu,h47,h57,CF,Ib,Gy,BO]];have qX:=EI.aO [4,3,2,1];rw[show bT x.kd x.ek=some [(3,1048576)]from by simp[bT,uG,zu,h47,h57,CF,Ib,Gy,BO]];exact⟨_,E,St.jR (n:=1) (xs:=([(3,1048576)]:List (Nat×Int)).flatMap (dH g)) 0 qX E E E⟩
  refine zN 7 ?_;by_cases EL:x.kd=7
  ·refine zN 16 ?_;rw[show bV x.kd x.ek=⟨#[97,108,108]⟩from by simp[bV,uG,zu,h47,h57,CF,Ib,Gy,BO,EL]];have BN:=jP.aO [3,2,1,0];rw[show bT x.kd x.ek=some []from by simp[bT,uG,zu,h47,h57,CF,Ib,Gy,BO,EL]];exact⟨none,E,aB BN⟩
  refine zN 7 ?_;by_cases I9:x.kd=2
  ·refine zN 18 ?_;refine vv (v:=D x.ek) (au E E (aK (Rd.cl (j:=5) (St.rd 3 jP E) E))) ?_;refine zN 5 ?_;by_cases Gz:x.ek=1
   ·refine zN 6 ?_;have qY:=jP.drew;refine aJ 18 qY [] ?_;refine aL 5 ?_;refine ak (v:=.agg #[pV g 6,D 3]) 5 E qY (λ_ _=>gG) ?_;refine aL 3 ?_;refine ak (v:=.agg #[pV g 7,D 1073741824]) 9 E qY (λ_ _=>gG) ?_;refine aL 3 ?_;refine ak (v:=.agg #[pV g 8,D 1000000]) 13 E qY (λ_ _=>gG) ?_;refine dR ?_;refine aY 14 ?_;refine jZ (i:=14) E E (V:=λb=>.slice (aD b 0) 5 5) (row:= #[pV g 1,D 4,pV g 2,D 3,pV g 6,D 3,pV g 7,D 1073741824,pV g 8,D 1000000]) (t:=114) qY (wn E) E E (aP (vs:=[(0,.agg #[pV g 1,D 4]),(1,.agg #[pV g 2,D 3]),(2,.agg #[pV g 6,D 3]),(3,.agg #[pV g 7,D 1073741824]),(4,.agg #[pV g 8,D 1000000])]) E ar0 kQ) ?_;intro aJg aAy R8;refine aL 4 ?_;refine zN 6 ?_;rw[show bV x.kd x.ek=⟨#[112,117,98,108,105,115,104]⟩from by simp[bV,uG,zu,h47,h57,CF,Ib,Gy,BO,EL,I9,Gz]];have LQ:=R8.aO [4,3,2,1];rw[show bT x.kd x.ek=some [(1,4),(2,3),(6,3),(7,1073741824),(8,1000000)]from by simp[bT,uG,zu,h47,h57,CF,Ib,Gy,BO,EL,I9,Gz]];exact⟨_,E,St.jR (n:=5) (xs:=([(1,4),(2,3),(6,3),(7,1073741824),(8,1000000)]:List (Nat×Int)).flatMap (dH g)) 0 LQ E E E⟩
   refine zN 7 ?_;by_cases WZ:x.ek=2
   ·refine zN 6 ?_;have EB:=jP.drew;refine aJ 6 EB [] ?_;refine aL 3 ?_;refine aY 2 ?_;refine jZ (i:=2) E E (V:=λb=>.slice (aD b 0) 2 2) (row:= #[pV g 1,D 4,pV g 2,D 3]) (t:=114) EB (wn E) E E (aP (vs:=[(0,.agg #[pV g 1,D 4]),(1,.agg #[pV g 2,D 3])]) E jW kQ) ?_;intro asL aAJ W9;refine aL 4 ?_;refine zN 6 ?_;rw[show bV x.kd x.ek=⟨#[114,101,99,101,105,118,101]⟩from by simp[bV,uG,zu,h47,h57,CF,Ib,Gy,BO,EL,I9,Gz,WZ]];have RX:=W9.aO [4,3,2,1];rw[show bT x.kd x.ek=some [(1,4),(2,3)]from by simp[bT,uG,zu,h47,h57,CF,Ib,Gy,BO,EL,I9,Gz,WZ]];exact⟨_,E,St.jR (n:=2) (xs:=([(1,4),(2,3)]:List (Nat×Int)).flatMap (dH g)) 0 RX E E E⟩
   refine zN 7 ?_;by_cases ahP:x.ek=3
   ·refine zN 6 ?_;have zS:=jP.drew;refine aJ 16 zS [] ?_;refine aL 6 ?_;refine ak (v:=.agg #[pV g 9,D 1048576]) 6 E zS (λ_ _=>gG) ?_;refine aL 4 ?_;refine ak (v:=.agg #[pV g 10,D 1073741824]) 11 E zS (λ_ _=>gG) ?_;refine dR ?_;refine aY 12 ?_;refine jZ (i:=12) E E (V:=λb=>.slice (aD b 0) 4 4) (row:= #[pV g 1,D 4,pV g 2,D 3,pV g 9,D 1048576,pV g 10,D 1073741824]) (t:=114) zS (wn E) E E (aP (vs:=[(0,.agg #[pV g 1,D 4]),(1,.agg #[pV g 2,D 3]),(2,.agg #[pV g 9,D 1048576]),(3,.agg #[pV g 10,D 1073741824])]) E VH kQ) ?_;intro aJh asP yJ;refine aL 4 ?_;refine zN 6 ?_;rw[show bV x.kd x.ek=⟨#[97,99,107]⟩from by simp[bV,uG,zu,h47,h57,CF,Ib,Gy,BO,EL,I9,Gz,WZ,ahP]];have anW:=yJ.aO [4,3,2,1];rw[show bT x.kd x.ek=some [(1,4),(2,3),(9,1048576),(10,1073741824)]from by simp[bT,uG,zu,h47,h57,CF,Ib,Gy,BO,EL,I9,Gz,WZ,ahP]];exact⟨_,E,St.jR (n:=4) (xs:=([(1,4),(2,3),(9,1048576),(10,1073741824)]:List (Nat×Int)).flatMap (dH g)) 0 anW E E E⟩
   refine zN 18 ?_;rw[show bV x.kd x.ek=⟨#[]⟩from by simp[bV,uG,zu,h47,h57,CF,Ib,Gy,BO,EL,I9,Gz,WZ,ahP]];rw[show bT x.kd x.ek=none from by simp[bT,uG,zu,h47,h57,CF,Ib,Gy,BO,EL,I9,Gz,WZ,ahP]];exact⟨E,jP.low⟩
  refine zN 17 ?_;rw[show bV x.kd x.ek=⟨#[]⟩from by simp[bV,uG,zu,h47,h57,CF,Ib,Gy,BO,EL,I9]];rw[show bT x.kd x.ek=none from by simp[bT,uG,zu,h47,h57,CF,Ib,Gy,BO,EL,I9]];exact⟨E,jP.low⟩
 refine lU 9 E S1 Fh ?_;intro aJi aJj anC;refine dR ?_;refine aY 8 ?_;refine lU 8 E anC Fh ?_;intro aJk azS abg;refine dR ?_;refine aY 10 ?_;refine sn 10 E 0 abg kQ ?_;intro aJl abN;refine dR ?_;refine aY 11 ?_;refine sn 11 E 1 abN kQ ?_;intro aAD WU;refine aL 2 ?_;refine zN 6 ?_;refine vv (v:=.agg #[pV g 3,D 1048576]) gG ?_;refine gB WU Fh ?_;intro aJm aJn abK;refine sa 0 abK kQ ?_;intro aJo yO;refine zN 8 ?_;refine vv (v:=D x.kd) (au E E (aK (Rd.cl (j:=0) (St.rd 3 yO E) E))) ?_;refine zN 5 ?_;by_cases I:x.kd=1
 ·refine zN 6 ?_;have atF:=yO.drew;refine aJ 6 atF [] ?_;refine aL 3 ?_;refine aY 2 ?_;refine jZ (i:=2) E E (V:=λb=>.slice (aD b 0) 2 2) (row:= #[pV g 2,D 3,pV g 1,D 4]) (t:=114) atF (wn E) E E (aP (vs:=[(0,.agg #[pV g 2,D 3]),(1,.agg #[pV g 1,D 4])]) E jW kQ) ?_;intro aJp aAK anS;refine aL 4 ?_;refine zN 5 ?_;rw[show bV x.kd x.ek=⟨#[109,97,107,101]⟩from by simp[bV,I]];have R9:=anS.aO [4,3,2,1];rw[show bT x.kd x.ek=some [(2,3),(1,4)]from by simp[bT,I]];exact⟨_,E,St.jR (n:=2) (xs:=([(2,3),(1,4)]:List (Nat×Int)).flatMap (dH g)) 0 R9 E E E⟩
 refine zN 7 ?_;by_cases J:x.kd=10
 ·refine zN 6 ?_;have atG:=yO.drew;refine aJ 6 atG [] ?_;refine aL 3 ?_;refine aY 2 ?_;refine jZ (i:=2) E E (V:=λb=>.slice (aD b 0) 2 2) (row:= #[pV g 2,D 3,pV g 1,D 4]) (t:=114) atG (wn E) E E (aP (vs:=[(0,.agg #[pV g 2,D 3]),(1,.agg #[pV g 1,D 4])]) E jW kQ) ?_;intro aJq aJr aAL;refine aL 4 ?_;refine zN 5 ?_;rw[show bV x.kd x.ek=⟨#[109,111,118,101]⟩from by simp[bV,I,J]];have aAM:=aAL.aO [4,3,2,1];rw[show bT x.kd x.ek=some [(2,3),(1,4)]from by simp[bT,I,J]];exact⟨_,E,St.jR (n:=2) (xs:=([(2,3),(1,4)]:List (Nat×Int)).flatMap (dH g)) 0 aAM E E E⟩
 refine zN 7 ?_;by_cases M:x.kd=3
 ·refine zN 6 ?_;have ahQ:=yO.drew;refine aJ 5 ahQ [] ?_;refine aL 2 ?_;refine aY 1 ?_;refine Gj 1 E ahQ ?_;intro aJs aJt aAN;refine aL 4 ?_;refine zN 5 ?_;rw[show bV x.kd x.ek=⟨#[115,116,101,112]⟩from by simp[bV,I,J,M]];have aAO:=aAN.aO [4,3,2,1];rw[show bT x.kd x.ek=some [(1,4)]from by simp[bT,I,J,M]];exact⟨_,E,St.jR (n:=1) (xs:=([(1,4)]:List (Nat×Int)).flatMap (dH g)) 0 aAO E E E⟩
 refine zN 7 ?_;by_cases O:x.kd=9
 ·refine zN 6 ?_;have atH:=yO.drew;refine aJ 5 atH [] ?_;refine aL 2 ?_;refine aY 1 ?_;refine Gj 1 E atH ?_;intro aJu aJv aAP;refine aL 4 ?_;refine zN 5 ?_;rw[show bV x.kd x.ek=⟨#[115,116,97,114,116]⟩from by simp[bV,I,J,M,O]];have anX:=aAP.aO [4,3,2,1];rw[show bT x.kd x.ek=some [(1,4)]from by simp[bT,I,J,M,O]];exact⟨_,E,St.jR (n:=1) (xs:=([(1,4)]:List (Nat×Int)).flatMap (dH g)) 0 anX E E E⟩
 refine zN 7 ?_;by_cases Z:x.kd=8
 ·refine zN 6 ?_;have abO:=yO.drew;refine aJ 9 abO [] ?_;refine aL 4 ?_;refine ak (v:=.agg #[pV g 4,D 100000]) 4 E abO (λ_ _=>gG) ?_;refine dR ?_;refine aY 5 ?_;refine jZ (i:=5) E E (V:=λb=>.slice (aD b 0) 2 2) (row:= #[pV g 1,D 4,pV g 4,D 100000]) (t:=114) abO (wn E) E E (aP (vs:=[(0,.agg #[pV g 1,D 4]),(1,.agg #[pV g 4,D 100000])]) E jW kQ) ?_;intro aJw aJx aAQ;refine aL 4 ?_;refine zN 5 ?_;rw[show bV x.kd x.ek=⟨#[99,114,97,115,104]⟩from by simp[bV,I,J,M,O,Z]];have anY:=aAQ.aO [4,3,2,1];rw[show bT x.kd x.ek=some [(1,4),(4,100000)]from by simp[bT,I,J,M,O,Z]];exact⟨_,E,St.jR (n:=2) (xs:=([(1,4),(4,100000)]:List (Nat×Int)).flatMap (dH g)) 0 anY E E E⟩
 refine zN 7 ?_;by_cases wE:x.kd=4
 ·refine zN 6 ?_;have atI:=yO.drew;refine aJ 5 atI [] ?_;refine aL 2 ?_;refine aY 1 ?_;refine Gj 1 E atI ?_;intro aJy aJz aAR;refine aL 4 ?_;refine zN 5 ?_;rw[show bV x.kd x.ek=⟨#[99,97,114,114,121]⟩from by simp[bV,I,J,M,O,Z,wE]];have aAS:=aAR.aO [4,3,2,1];rw[show bT x.kd x.ek=some [(3,1048576)]from by simp[bT,I,J,M,O,Z,wE]];exact⟨_,E,St.jR (n:=1) (xs:=([(3,1048576)]:List (Nat×Int)).flatMap (dH g)) 0 aAS E E E⟩
 refine zN 7 ?_;by_cases yP:x.kd=5
 ·refine zN 6 ?_;have ahR:=yO.drew;refine aJ 5 ahR [] ?_;refine aL 2 ?_;refine aY 1 ?_;refine Gj 1 E ahR ?_;intro aJA aJB aAT;refine aL 4 ?_;refine zN 5 ?_;rw[show bV x.kd x.ek=⟨#[108,111,115,101]⟩from by simp[bV,I,J,M,O,Z,wE,yP]];have aAU:=aAT.aO [4,3,2,1];rw[show bT x.kd x.ek=some [(3,1048576)]from by simp[bT,I,J,M,O,Z,wE,yP]];exact⟨_,E,St.jR (n:=1) (xs:=([(3,1048576)]:List (Nat×Int)).flatMap (dH g)) 0 aAU E E E⟩
 refine zN 7 ?_;by_cases BP:x.kd=6
 ·refine zN 6 ?_;have atJ:=yO.drew;refine aJ 5 atJ [] ?_;refine aL 2 ?_;refine aY 1 ?_;refine Gj 1 E atJ ?_;intro aJC aJD aAV;refine aL 4 ?_;refine zN 5 ?_;rw[show bV x.kd x.ek=⟨#[100,111,117,98,108,101]⟩from by simp[bV,I,J,M,O,Z,wE,yP,BP]];have aAW:=aAV.aO [4,3,2,1];rw[show bT x.kd x.ek=some [(3,1048576)]from by simp[bT,I,J,M,O,Z,wE,yP,BP]];exact⟨_,E,St.jR (n:=1) (xs:=([(3,1048576)]:List (Nat×Int)).flatMap (dH g)) 0 aAW E E E⟩
 refine zN 7 ?_;by_cases EM:x.kd=7
 ·refine zN 16 ?_;rw[show bV x.kd x.ek=⟨#[97,108,108]⟩from by simp[bV,I,J,M,O,Z,wE,yP,BP,EM]];have aAX:=yO.aO [3,2,1,0];rw[show bT x.kd x.ek=some []from by simp[bT,I,J,M,O,Z,wE,yP,BP,EM]];exact⟨none,E,aB aAX⟩
 refine zN 7 ?_;by_cases Ja:x.kd=2
 ·refine zN 18 ?_;refine vv (v:=D x.ek) (au E E (aK (Rd.cl (j:=5) (St.rd 3 yO E) E))) ?_;refine zN 5 ?_;by_cases Od:x.ek=1
  ·refine zN 6 ?_;have abP:=yO.drew;refine aJ 18 abP [] ?_;refine aL 5 ?_;refine ak (v:=.agg #[pV g 6,D 3]) 5 E abP (λ_ _=>gG) ?_;refine aL 3 ?_;refine ak (v:=.agg #[pV g 7,D 1073741824]) 9 E abP (λ_ _=>gG) ?_;refine aL 3 ?_;refine ak (v:=.agg #[pV g 8,D 1000000]) 13 E abP (λ_ _=>gG) ?_;refine dR ?_;refine aY 14 ?_;refine jZ (i:=14) E E (V:=λb=>.slice (aD b 0) 5 5) (row:= #[pV g 1,D 4,pV g 2,D 3,pV g 6,D 3,pV g 7,D 1073741824,pV g 8,D 1000000]) (t:=114) abP (wn E) E E (aP (vs:=[(0,.agg #[pV g 1,D 4]),(1,.agg #[pV g 2,D 3]),(2,.agg #[pV g 6,D 3]),(3,.agg #[pV g 7,D 1073741824]),(4,.agg #[pV g 8,D 1000000])]) E ar0 kQ) ?_;intro aJE aJF aAY;refine aL 4 ?_;refine zN 6 ?_;rw[show bV x.kd x.ek=⟨#[112,117,98,108,105,115,104]⟩from by simp[bV,I,J,M,O,Z,wE,yP,BP,EM,Ja,Od]];have aAZ:=aAY.aO [4,3,2,1];rw[show bT x.kd x.ek=some [(1,4),(2,3),(6,3),(7,1073741824),(8,1000000)]from by simp[bT,I,J,M,O,Z,wE,yP,BP,EM,Ja,Od]];exact⟨_,E,St.jR (n:=5) (xs:=([(1,4),(2,3),(6,3),(7,1073741824),(8,1000000)]:List (Nat×Int)).flatMap (dH g)) 0 aAZ E E E⟩
  refine zN 7 ?_;by_cases Xa:x.ek=2
  ·refine zN 6 ?_;have ahS:=yO.drew;refine aJ 6 ahS [] ?_;refine aL 3 ?_;refine aY 2 ?_;refine jZ (i:=2) E E (V:=λb=>.slice (aD b 0) 2 2) (row:= #[pV g 1,D 4,pV g 2,D 3]) (t:=114) ahS (wn E) E E (aP (vs:=[(0,.agg #[pV g 1,D 4]),(1,.agg #[pV g 2,D 3])]) E jW kQ) ?_;intro aJG aJH aA0;refine aL 4 ?_;refine zN 6 ?_;rw[show bV x.kd x.ek=⟨#[114,101,99,101,105,118,101]⟩from by simp[bV,I,J,M,O,Z,wE,yP,BP,EM,Ja,Od,Xa]];have aA1:=aA0.aO [4,3,2,1];rw[show bT x.kd x.ek=some [(1,4),(2,3)]from by simp[bT,I,J,M,O,Z,wE,yP,BP,EM,Ja,Od,Xa]];exact⟨_,E,St.jR (n:=2) (xs:=([(1,4),(2,3)]:List (Nat×Int)).flatMap (dH g)) 0 aA1 E E E⟩
  refine zN 7 ?_;by_cases ahT:x.ek=3
  ·refine zN 6 ?_;have ahU:=yO.drew;refine aJ 16 ahU [] ?_;refine aL 6 ?_;refine ak (v:=.agg #[pV g 9,D 1048576]) 6 E ahU (λ_ _=>gG) ?_;refine aL 4 ?_;refine ak (v:=.agg #[pV g 10,D 1073741824]) 11 E ahU (λ_ _=>gG) ?_;refine dR ?_;refine aY 12 ?_;refine jZ (i:=12) E E (V:=λb=>.slice (aD b 0) 4 4) (row:= #[pV g 1,D 4,pV g 2,D 3,pV g 9,D 1048576,pV g 10,D 1073741824]) (t:=114) ahU (wn E) E E (aP (vs:=[(0,.agg #[pV g 1,D 4]),(1,.agg #[pV g 2,D 3]),(2,.agg #[pV g 9,D 1048576]),(3,.agg #[pV g 10,D 1073741824])]) E VH kQ) ?_;intro aJI aJJ aA2;refine aL 4 ?_;refine zN 6 ?_;rw[show bV x.kd x.ek=⟨#[97,99,107]⟩from by simp[bV,I,J,M,O,Z,wE,yP,BP,EM,Ja,Od,Xa,ahT]];have ahV:=aA2.aO [4,3,2,1];rw[show bT x.kd x.ek=some [(1,4),(2,3),(9,1048576),(10,1073741824)]from by simp[bT,I,J,M,O,Z,wE,yP,BP,EM,Ja,Od,Xa,ahT]];exact⟨_,E,St.jR (n:=4) (xs:=([(1,4),(2,3),(9,1048576),(10,1073741824)]:List (Nat×Int)).flatMap (dH g)) 0 ahV E E E⟩
  refine zN 18 ?_;rw[show bV x.kd x.ek=⟨#[]⟩from by simp[bV,I,J,M,O,Z,wE,yP,BP,EM,Ja,Od,Xa,ahT]];rw[show bT x.kd x.ek=none from by simp[bT,I,J,M,O,Z,wE,yP,BP,EM,Ja,Od,Xa,ahT]];exact⟨E,yO.low⟩
 refine zN 17 ?_;rw[show bV x.kd x.ek=⟨#[]⟩from by simp[bV,I,J,M,O,Z,wE,yP,BP,EM,Ja]];rw[show bT x.kd x.ek=none from by simp[bT,I,J,M,O,Z,wE,yP,BP,EM,Ja]];exact⟨E,yO.low⟩
def Q5 (x:Ac) (w:World):
    Calls prog 23 #[.agg (aR x)] w (ni w (dz x)):=by
 have S:=St.start w;refine gK 57 func23 ?_;refine cw [0] ?_;refine zN 2 ?_;refine iP S ?_;intro b1 w2 S3;refine zN 4 ?_;have HF:=λw h=>Yl b1 x w h
 rcases hf:bT x.kd x.ek with _|l
 ·rw[hf]at HF;refine zQ ?_;refine dO eQ (HF _ (St.mq 0 S3 E E E)) ?_;rintro _ w4 ⟨rfl,hb6⟩;refine⟨_,E,?_⟩;have S5:=S3.on hb6;refine zN 25 ?_;rw[Zm hf];exact⟨E,S5.low⟩
 rw[hf]at HF;have hl5:=afG hf;refine zQ ?_;refine dO eQ (HF _ (St.mq 0 S3 E E E)) ?_;rintro _ w8 ⟨A7,rfl,T10⟩;refine⟨_,E,?_⟩;have S9:=S3.ext T10 E;refine zN 28 ?_;refine fO (X:=Nat) (λxv=>[(1,pV b1 0),(2,D 0),(4,.slice A7 l.length l.length),(17,.slice A7 l.length l.length),(18,D ((l.length:Nat):Int)),(19,D ((xv:Nat):Int))]) (λxv wr=>(xv<=l.length)/\((l.take xv).all (NJ x)=true)/\St w.heap.size w wr [.cK 2 A7 l.length ((l).flatMap (dH b1)),.blk b1 (aR x) 51]) (λxv=>l.length-xv) (0) ?_ ?_ ?_
 ·exact⟨zero_le _,E,S9⟩
 ·exact rO
 rintro k Ht ⟨ani,LM,oF⟩
 try dsimp only at ani LM oF
 refine bH (l':=[(1,pV b1 0),(2,D 0),(4,.slice A7 l.length l.length),(17,.slice A7 l.length l.length),(18,D ((l.length:Nat):Int)),(19,D ((k:Nat):Int))]) rO (aM (av ?_));by_cases h15:((k:Nat):Int)< ((l.length:Nat):Int)
 ·refine zN 11 ?_;obtain⟨b16,o17,rfl⟩:=Rd.addr (St.cK 0 oF E) Y;obtain⟨Z,M⟩:=KQ k (St.cK 0 oF E) Y;refine vv (kZ k) ?_;refine vv (au E E (dS (cs:=(dH b1) Z) (Rd.yB (St.cK 0 oF E) (λ_ _ h=>dh (enc:=(dH b1)) (sz:=2) (λ_=>E) M h)))) ?_;refine gB oF Fh ?_;intro b20 Fq jX;refine sa 0 jX kQ ?_;intro JB jP;refine zN 2 ?_;have hp:=PS hf Z (mem_of_getElem? M);refine zQ ?_;refine iD jP mixed kQ ?_;refine zN 3 ?_;refine uv (v:=D (x.get Z.1)) (λ_ ant=>(au E E (aK (St.cl 2 ant E (Ac.amk x hp.2.1))))) ?_;by_cases h29:x.get Z.1<0
  ·refine zN 10 ?_;refine iH λw33 qW=>?_;refine zN 14 ?_;rw[J2 hf (Zn M Y)];exact⟨E,qW.low⟩
  refine zN 5 ?_;refine ug (v:=D (x.get Z.1)) (λ_ aA3=>(au E E (aK (St.cl 2 aA3 E (Ac.amk x hp.2.1))))) ?_;refine zN 2 ?_;by_cases h43:Z.2<x.get Z.1
  ·refine zN 2 ?_;refine iH λZC zn=>?_;refine zN 14 ?_;rw[J2 hf (Zn M Y)];exact⟨E,zn.low⟩
  refine zN 2 ?_;refine iH λVP vT=>?_;refine zN 6 ?_;refine vv (v:=D ((k+1:Nat):Int)) jc ?_;refine zN 2 ?_;have o8:=vT.aO [0];refine bQ (k+1) ?_ rO (by first|omega|(dsimp only;omega));exact⟨Y,(afI M LM Y),o8⟩
 refine zN 19 ?_;obtain rfl:k=l.length:=Y;have O:=LM;rw[take_length]at O;refine fO (X:=Nat) (λxv=>[(1,pV b1 0),(2,D 0),(38,.slice A7 l.length l.length),(39,D ((l.length:Nat):Int)),(40,D ((xv:Nat):Int))]) (λxv wr=>(xv<=l.length)/\St w.heap.size w wr [.cK 2 A7 l.length ((l).flatMap (dH b1)),.blk b1 (pY (zi x.ints (l.take xv))) 51]) (λxv=>l.length-xv) (0) ?_ ?_ ?_
 ·exact⟨zero_le _,oF⟩
 ·exact zZ
 rintro j w53 ⟨Oe,I⟩
 try dsimp only at Oe I
 refine bH (l':=[(1,pV b1 0),(2,D 0),(38,.slice A7 l.length l.length),(39,D ((l.length:Nat):Int)),(40,D ((j:Nat):Int))]) zZ (aM (av ?_));by_cases h56:((j:Nat):Int)< ((l.length:Nat):Int)
 ·refine zN 11 ?_;obtain⟨b57,o58,rfl⟩:=Rd.addr (St.cK 0 I E) Y;obtain⟨x59,anZ⟩:=KQ j (St.cK 0 I E) Y;refine vv (kZ j) ?_;refine vv (au E E (dS (cs:=(dH b1) x59) (Rd.yB (St.cK 0 I E) (λ_ _ h=>dh (enc:=(dH b1)) (sz:=2) (λ_=>E) anZ h)))) ?_;refine gB I Fh ?_;intro b61 Zx wO;refine sa 0 wO kQ ?_;intro w64 Gx;refine zN 6 ?_;have hp:=PS hf x59 (mem_of_getElem? anZ);refine IZ (row':=pY (zi x.ints (l.take (j+1)))) 2 Gx (wn E) E E E E E E kQ E (by rw[nC (by rw[x9];rfl)];omega) (by rw[BF,afJ anZ]) ?_;intro VQ uy;refine zN 4 ?_;refine vv (v:=D ((j+1:Nat):Int)) jc ?_;refine zN 2 ?_;have Cy:=uy.aO [0];refine bQ (j+1) ?_ zZ (by first|omega|(dsimp only;omega));exact⟨Y,Cy⟩
 refine zN 12 ?_;obtain rfl:j=l.length:=Y;rw[take_length]at I;refine zN 2 ?_;refine vv (au E E (aK (St.cl 1 I E (aaQ (by rw[SE _ _ (λp hp=>(PS hf p hp).1)];rfl))))) ?_;by_cases h69:x.kd=2
 ·refine zN 7 ?_;refine IZ (row':=pY ((zi x.ints l).set 5 0)) 1 I (wn E) E E E E E E kQ E (by rw[nC (by simp only[length_set,x9];rfl)];decide) BF ?_;intro w70 sS;refine zN 5 ?_;refine IZ (row':=pY (((zi x.ints l).set 5 0).set 0 0)) 1 sS (wn E) E E E E E E kQ E (by rw[nC (by simp only[length_set,x9];rfl)];decide) BF ?_;intro w72 tV;refine zN 4 ?_;have hfn:fin x l=((zi x.ints l).set 5 0).set 0 0:=by unfold fin;rw[if_pos h69]
  have hfl:(((zi x.ints l).set 5 0).set 0 0).length=11:=by simp only[length_set,x9];rfl
  have HN:=λw=>aej (a:=((zi x.ints l).set 5 0).set 0 0) (b:=zeros) hfl E w;rw[<-hfn]at HN;by_cases J:fin x l=zeros
  ·rw[decide_eq_true J]at HN;rw[hfn]at HN;refine zQ ?_;refine vv (v:=.agg (pY (((zi x.ints l).set 5 0).set 0 0))) (au E E (pz 1 tV E underlying51 E kQ (nC hfl))) ?_;refine zQ ?_;refine vv (v:=.bool false) (bC E E E (Ip kQ (HN _))) ?_;refine zN 12 ?_;rw[al8 hf O J];exact⟨E,tV.low⟩
  rw[decide_eq_false J]at HN;rw[hfn]at HN;refine zQ ?_;refine vv (v:=.agg (pY (((zi x.ints l).set 5 0).set 0 0))) (au E E (pz 1 tV E underlying51 E kQ (nC hfl))) ?_;refine zQ ?_;refine vv (v:=.bool true) (bC E E E (Ip kQ (HN _))) ?_;refine zN 11 ?_;rw[PU hf O J];exact⟨E,tV.low⟩
 refine zN 9 ?_;refine IZ (row':=pY ((zi x.ints l).set 0 0)) 1 I (wn E) E E E E E E kQ E (by rw[nC (by simp only[length_set,x9];rfl)];decide) BF ?_;intro w74 Gq;refine zN 4 ?_;have hfn:fin x l=(zi x.ints l).set 0 0:=by unfold fin;rw[if_neg h69]
 have hfl:((zi x.ints l).set 0 0).length=11:=by simp only[length_set,x9];rfl
 have HN:=λw=>aej (a:=(zi x.ints l).set 0 0) (b:=zeros) hfl E w;rw[<-hfn]at HN;by_cases J:fin x l=zeros
 ·rw[decide_eq_true J]at HN;rw[hfn]at HN;refine zQ ?_;refine vv (v:=.agg (pY ((zi x.ints l).set 0 0))) (au E E (pz 1 Gq E underlying51 E kQ (nC hfl))) ?_;refine zQ ?_;refine vv (v:=.bool false) (bC E E E (Ip kQ (HN _))) ?_;refine zN 12 ?_;rw[al8 hf O J];exact⟨E,Gq.low⟩
 rw[decide_eq_false J]at HN;rw[hfn]at HN;refine zQ ?_;refine vv (v:=.agg (pY ((zi x.ints l).set 0 0))) (au E E (pz 1 Gq E underlying51 E kQ (nC hfl))) ?_;refine zQ ?_;refine vv (v:=.bool true) (bC E E E (Ip kQ (HN _))) ?_;refine zN 11 ?_;rw[PU hf O J];exact⟨E,Gq.low⟩
end Go.Proofs.YtefabpdniidmbaaGreatDoor
