import Derived.Test.YtefabpdniidmbaaGreatDoorG4a0d4
set_option linter.all false
set_option maxRecDepth 100000
set_option maxHeartbeats 8000000
set_option linter.unusedSimpArgs false
namespace Go.Proofs.YtefabpdniidmbaaGreatDoor
open List Nat Go.Proofs.Tryz ChangeShapes WideShapes RowKit
section
variable {b:aU}{k m:Nat}
def Bw(h:au b=0)(I:b.Gq=2\/b.Gq=3)(J:k<=b.Gs.length)(M:min (k+3) b.Gs.length=k+m):ig b k=((b.Gs.drop k).take m,decide (b.Gq=3/\k+m=b.Gs.length),0):=by
 unfold ig;rw[if_neg (λh1=>h1 h),if_neg Y,if_neg Y];refine Prod.ext ?_ (Prod.ext ?_ E)
 ·simp only[Int.toNat_natCast];rw[take_eq_take_iff,length_drop];omega
 simp only[Int.toNat_natCast]
 congr 1
 exact propext ⟨λh=>⟨h.1,by omega⟩,λh=>⟨h.1,by omega⟩⟩
end
def Ky{b:aU}{e:Ev}(h:au b=0)(h1:aZ e=0)(I:¬e.kind=4)(J:b.Gq=1\/b.Gq=2):gU b e=
  if (iO (av b.Gs).1 e).2.2.1=false then(b,(iO (av b.Gs).1 e).2.1,false,0)else if 1999<=b.Gs.length then(b,sK 14,false,0)else({b with Gs:=b.Gs++[e]},(iO (av b.Gs).1 e).2.1,true,0):=by
 unfold gU;rw[if_neg (λh1=>h1 h),if_neg (λh=>h h1),if_neg I,if_neg Y,if_neg Y]
def DN(ro ep fr tg rd:Int)(A:Option Addr)(c:Nat)(l:List Ev)(w:World)(h:Rd w w.heap.size 6 A l.length (aY l))(J:l.length<=1152921504606846976):
 Calls tP 70 #[.agg #[D ro,D ep,D fr,D tg,D rd,.slice A l.length c]] w (FM w (decide (ro=1\/ro=2))):=by
 have S:=(St.start w).bV h;refine gP 11 func70 ?_;refine cw [0] ?_;refine zN 2 ?_;refine iU S ?_;intro b1 M I;refine zN 7 ?_;by_cases O:ro=1
 ·refine zN 11 ?_;exact⟨reT Y,I.Nr⟩
 refine zN 4 ?_;by_cases Z:ro=2
 ·refine zN 7 ?_;exact⟨reT Y,I.Nr⟩
 refine zN 7 ?_;exact⟨zK Y,I.Nr⟩
def Yu(ro ep fr tg rd:Int)(A:Option Addr)(c:Nat)(l:List Ev)(w:World)(h:Rd w w.heap.size 6 A l.length (aY l))(hb:l.length*48<=reachBytes):
 Calls tP 54 #[.agg #[D ro,D ep,D fr,D tg,D rd,.slice A l.length c]] w (kW w (dL ⟨ro,ep,fr,tg,rd,l⟩)):=by
 have S:=(St.start w).bV h;have hb2:=hb;unfold reachBytes at hb2;refine gP 30 func54 ?_;refine cw [0] ?_;refine zN 2 ?_;refine iU S ?_;intro b1 w2 S3;refine gD S3 fZ ?_;intro b4 w5 S6;refine zN 7 ?_;refine Rq eQ S6 (eB ro ep fr tg rd A c l _ (St.rd 2 S6 E) Y) ?_;intro w7 O;refine zN 6 ?_;by_cases h10:au ⟨ro,ep,fr,tg,rd,l⟩=0
 ·have I:=(eT h10).1;unfold bq at I;have Z:=gT (eT h10).2;dsimp only at I Z;refine zN 10 ?_;have HC:=λ(w:World) (h:Rd w w.heap.size 6 A l.length (aY l))=>DN ro ep fr tg rd A c l w h Y;by_cases hsv:ro=1\/ro=2
  ·rw[decide_eq_true hsv]at HC;refine dJ eQ (HC _ (St.rd 2 O E)) ?_;rintro _ Ib ⟨rfl,J⟩;refine⟨_,E,?_⟩;have pF:=O.on J;clear J O;refine zN 12 ?_;refine vv (v:=.agg #[D 1,D ep,D 0,D 0,D 0,.slice A l.length c]) gH ?_;refine vv (v:=.agg #[D 4,D 0,D 0,D 0,D 0,D 0]) gH ?_;refine SG pF ?_;intro b14 JR o8;refine dJ eQ (rM 1 ep 0 0 0 A c l (aD b14 0) 1 [aF] _ (St.rd 3 o8 E) (St.mD (xs:=aY [aF]) 0 o8 E E E) (by simp only[length_cons,length_nil];unfold reachBytes;omega)) ?_;rintro _ GH ⟨A17,c18,rfl,T21⟩;refine⟨_,E,?_⟩;have qj:=o8.ext T21 E;refine gD qj fZ ?_;intro b22 JN kF;refine sa 0 kF kQ ?_;intro w25 sU;refine zN 6 ?_;refine Rq eQ sU (eB 1 ep 0 0 0 A17 c18 (l++[aF]) _ (St.Rn 1 sU E) (by simp only[length_append,length_cons,length_nil,length_drop];omega)) ?_;intro NZ tC;by_cases h30:au ⟨1,ep,0,0,0,l++[aF]⟩=0
   ·have I:=(eT h30).1;unfold bq at I;have Z:=gT (eT h30).2;dsimp only at I Z;refine zN 9 ?_;refine sa 3 tC kQ ?_;intro w31 uw;refine zN 5 ?_;have vR:=uw.aO [5,4,3,2,0];have hcp:=(eu (vR.own 0 E)).1;have qY:=vR.bJ 0 E;rw[show dL ⟨ro,ep,fr,tg,rd,l⟩=(⟨1,ep,0,0,0,l++[aF]⟩,0)from by unfold dL;(try dsimp only);exact kZ];exact⟨A17,c18,mF,E,qY⟩
   refine zN 6 ?_;refine vv jv ?_;refine sa 3 tC kQ ?_;intro ZI tH;refine zN 6 ?_;have yJ:=tH.aO [5,4,3,2,1,0];rw[show dL ⟨ro,ep,fr,tg,rd,l⟩=(⟨0,0,0,0,0,[]⟩,14)from by unfold dL;(try dsimp only);exact kZ];exact⟨none,0,mF,E,aA yJ⟩
  rw[decide_eq_false hsv]at HC;refine dJ eQ (HC _ (St.rd 2 O E)) ?_;rintro _ ZO ⟨rfl,M⟩;refine⟨_,E,?_⟩;have xV:=O.on M;clear M O;refine zN 7 ?_;refine dJ eQ (jo ro ep fr tg rd A c l _ (St.rd 2 xV E) hb) ?_;rintro _ w43 ⟨A41,c42,rfl,T45⟩;refine⟨_,E,?_⟩;have FQ:=xV.ext T45 E;refine sa 1 FQ kQ ?_;intro ZR zx;refine zN 6 ?_;have AA:=zx.aO [3,2,1];have hcp:=(eu (AA.own 0 E)).1;have xX:=AA.bJ 0 E;rw[show dL ⟨ro,ep,fr,tg,rd,l⟩=(⟨ro,ep,fr,tg,rd,l⟩,0)from by unfold dL;(try dsimp only);exact kZ];exact⟨A41,c42,mF,E,xX⟩
 refine zN 6 ?_;refine vv jv ?_;refine zQ ?_;refine sa 0 O kQ ?_;intro VY vk;refine zN 6 ?_;have pG:=vk.aO [2,1,0];rw[show dL ⟨ro,ep,fr,tg,rd,l⟩=(⟨0,0,0,0,0,[]⟩,au ⟨ro,ep,fr,tg,rd,l⟩)from by unfold dL;(try dsimp only);exact kZ];exact⟨none,0,mF,E,aA pG⟩
def Vg(ro ep fr tg rd:Int)(A:Option Addr)(c:Nat)(l:List Ev)(x:Ev)(w:World)(h:Rd w w.heap.size 6 A l.length (aY l))(hb:l.length*48<=reachBytes):
 Calls tP 86 #[.agg #[D ro,D ep,D fr,D tg,D rd,.slice A l.length c],.agg #[D x.kind,D x.Mr,D x.id,D x.body,D x.MF,D x.Nc]] w (abI w (gU ⟨ro,ep,fr,tg,rd,l⟩ x)):=by
 have S:=(St.start w).bV h;have hb2:=hb;unfold reachBytes at hb2;refine gP 80 func86 ?_;refine cw [0,1] ?_;refine zN 2 ?_;refine iU S ?_;intro b1 w2 S3;refine iU S3 ?_;intro b4 w5 S6;refine gD S6 fZ ?_;intro b7 w8 S9;refine gD S9 tK ?_;intro b10 Ib pF;refine zN 8 ?_;refine Rq eQ pF (eB ro ep fr tg rd A c l _ (St.rd 4 pF E) Y) ?_;intro En mZ;refine zN 6 ?_;by_cases J:au ⟨ro,ep,fr,tg,rd,l⟩=0
 ·have hsh:=(eT J).1;unfold bq at hsh;have hln:=gT (eT J).2;dsimp only at hsh hln;refine zN 10 ?_;refine Rq eQ mZ (Ig x _) ?_;intro MZ I;refine zN 6 ?_;by_cases h20:aZ x=0
  ·refine zN 11 ?_;by_cases hk4:x.kind=4
   ·refine zN 6 ?_;refine vv jv ?_;refine zQ ?_;refine sa 1 I kQ ?_;intro FN jY;refine sa 0 jY kQ ?_;intro JN kF;refine zN 6 ?_;refine dW (rs:=[.cell 4 42,.cell 5 54,.tmp 6,.tmp 7]) (vs:=[.agg zB,.agg #[D 0,D 0,D 0,D 0],.bool false,D 3]) E ⟨⟨_,E,fB 1 kF E underlying42 E kQ⟩,⟨_,E,fB 0 kF E underlying54 E kQ⟩,E,E,trivial⟩ ?_;have lH:=kF.aO [4,3,2,1,0];rw[show gU ⟨ro,ep,fr,tg,rd,l⟩ x=(⟨0,0,0,0,0,[]⟩,⟨0,0,0,0⟩,false,3)from by unfold gU;(try dsimp only);exact kZ];exact⟨none,0,mF,E,aA lH⟩
   refine zN 12 ?_;by_cases h26:ro=3
   ·refine zN 8 ?_;refine dJ eQ (jo ro ep fr tg rd A c l _ (St.rd 4 I E) hb) ?_;rintro _ w29 ⟨A27,c28,rfl,T31⟩;refine⟨_,E,?_⟩;have zP:=I.ext T31 E;refine vv (v:=.agg #[D 12,D 0,D 0,D 0]) gH ?_;refine sa 2 zP kQ ?_;intro w32 vR;refine sa 1 vR kQ ?_;intro ZQ Cc;refine zN 7 ?_;refine dW (rs:=[.cell 4 42,.cell 5 54,.tmp 6,.tmp 7]) (vs:=[.agg #[D ro,D ep,D fr,D tg,D rd,.slice A27 l.length c28],.agg #[D 12,D 0,D 0,D 0],.bool false,D 0]) E ⟨⟨_,E,fB 2 Cc E underlying42 E kQ⟩,⟨_,E,fB 1 Cc E underlying54 E kQ⟩,E,E,trivial⟩ ?_;have tH:=Cc.aO [5,4,3,2,1];have hcp:=(eu (tH.own 0 E)).1;have yJ:=tH.bJ 0 E;rw[show gU ⟨ro,ep,fr,tg,rd,l⟩ x=(⟨ro,ep,fr,tg,rd,l⟩,⟨12,0,0,0⟩,false,0)from by unfold gU;(try dsimp only);exact kZ];exact⟨A27,c28,mF,E,yJ⟩
   refine zN 8 ?_;have HC:=λ(w:World) (h:Rd w w.heap.size 6 A l.length (aY l))=>DN ro ep fr tg rd A c l w h Y;by_cases M:ro=1\/ro=2
   ·rw[decide_eq_true M]at HC;refine dJ eQ (HC _ (St.rd 4 I E)) ?_;rintro _ ZO ⟨rfl,atF⟩;refine⟨_,E,?_⟩;have xV:=I.on atF;clear atF I;refine zN 12 ?_;refine dJ eQ (FT A c l _ (St.rd 4 xV E) Y) ?_;rintro _ w45 ⟨A41,c42,A43,c44,rfl,T47⟩;refine⟨_,E,?_⟩;have xk:=xV.ext T47 E;refine zN 3 ?_;refine mV (V:=λb=>pV b 0) (row:=dB 0 0 0 (.slice none 0 0) (.slice none 0 0) jI) (t:=183) xk (wn E) E E (jd E (zeroValue183 _) E) ?_;intro ZW w49 wu;refine saq 0 wu kQ ?_;intro w51 pG;refine zN 7 ?_;obtain⟨R,hR⟩:∃R,iO (av l).1 x=R:=⟨_,E⟩;have hql:=Yh (l:=l);have HD:=λA1 A2 c1 c2 w h1 h2=>xE (av l).1.ep (av l).1.nx (av l).1.gv x.kind x.Mr x.id x.body x.MF x.Nc A1 A2 c1 c2 (av l).1.ready (av l).1.bP (av l).1.ws w h1 h2 hQ hQ;rw[show iO ⟨(av l).1.ep,(av l).1.nx,(av l).1.gv,(av l).1.ready,(av l).1.bP,(av l).1.ws⟩ ⟨x.kind,x.Mr,x.id,x.body,x.MF,x.Nc⟩=R from hR]at HD;refine dJ eQ (HD A41 A43 c42 c44 _ (St.cZ 1 pG E) (St.cZ 2 pG E)) ?_;rintro _ w57 ⟨A53,c54,A55,c56,rfl,T59⟩;refine⟨_,E,?_⟩;have DL:=pG.ext T59 E;clear HD;refine zN 5 ?_;refine mV (V:=λb=>pV b 0) (row:=dB 0 0 0 (.slice none 0 0) (.slice none 0 0) jI) (t:=183) DL (wn E) E E (jd E (zeroValue183 _) E) ?_;intro b60 w61 JO;refine gD JO tK ?_;intro b63 w64 GQ;refine saq 1 GQ kQ ?_;intro VZ uL;refine sa 0 uL kQ ?_;intro w68 Aw;refine zN 8 ?_
    cases hch:R.2.2.1
    ·refine zN 5 ?_;have yK:=Aw.drew;refine aK 7 yK [8,7] ?_;refine aL 2 ?_;refine bg 1 ?_;refine kE 1 E eQ (jo ro ep fr tg rd A c l _ (St.rd 11 yK E) hb) ?_;rintro _ w75 ⟨A73,c74,rfl,T77⟩;refine⟨_,E,?_⟩;have M5:=yK.ext T77 E;refine dG ?_;refine bg 3 ?_;refine sn 3 E 9 M5 kQ ?_;intro w78 BZ;refine dG ?_;refine bg 4 ?_;refine sn 4 E 8 BZ kQ ?_;intro w80 uo;refine aL 4 ?_;refine zN 3 ?_;refine dW (rs:=[.cell 4 42,.cell 5 54,.tmp 6,.tmp 7]) (vs:=[.agg #[D ro,D ep,D fr,D tg,D rd,.slice A73 l.length c74],.agg #[D R.2.1.code,D R.2.1.fO,D R.2.1.Nc,D R.2.1.body],.bool false,D 0]) E ⟨⟨_,E,fB 9 uo E underlying42 E kQ⟩,⟨_,E,fB 8 uo E underlying54 E kQ⟩,E,E,trivial⟩ ?_;have FR:=uo.aO [12,11,10,9,8,7,6,5,4,3,2,1];have hcp:=(eu (FR.own 0 E)).1;have JW:=FR.bJ 0 E;rw[Ky (b:=⟨ro,ep,fr,tg,rd,l⟩) (e:=x) J h20 hk4 M,hR];rw[if_pos hch];exact⟨A73,c74,mF,E,JW⟩
    refine zN 12 ?_;by_cases atI:1999<=l.length
    ·refine zN 7 ?_;refine dJ eQ (jo ro ep fr tg rd A c l _ (St.rd 11 Aw E) hb) ?_;rintro _ w88 ⟨A86,c87,rfl,T90⟩;refine⟨_,E,?_⟩;have JM:=Aw.ext T90 E;refine vv (v:=.agg #[D 14,D 0,D 0,D 0]) gH ?_;refine sa 9 JM kQ ?_;intro w91 zw;refine sa 8 zw kQ ?_;intro w93 Ic;refine zN 6 ?_;refine dW (rs:=[.cell 4 42,.cell 5 54,.tmp 6,.tmp 7]) (vs:=[.agg #[D ro,D ep,D fr,D tg,D rd,.slice A86 l.length c87],.agg #[D 14,D 0,D 0,D 0],.bool false,D 0]) E ⟨⟨_,E,fB 9 Ic E underlying42 E kQ⟩,⟨_,E,fB 8 Ic E underlying54 E kQ⟩,E,E,trivial⟩ ?_;have Lp:=Ic.aO [12,11,10,9,8,7,6,5,4,3,2,1];have hcp:=(eu (Lp.own 0 E)).1;have DK:=Lp.bJ 0 E;rw[Ky (b:=⟨ro,ep,fr,tg,rd,l⟩) (e:=x) J h20 hk4 M,hR];rw[if_neg (by rw[hch];simp),if_pos atI];exact⟨A86,c87,mF,E,DK⟩
    refine zN 7 ?_;have DJ:=Aw.drew;refine aK 9 DJ [8,7] ?_;refine aL 3 ?_;refine bg 2 ?_;refine Gz 2 E DJ ?_;intro an8 an9 O;refine dG ?_;refine bg 3 ?_;refine kE 3 E eQ (rM ro ep fr tg rd A c l (aD an8 0) 1 [x] _ (St.rd 12 O E) (St.mD (xs:=aY [x]) 0 O E E E) (by simp only[length_cons,length_nil];unfold reachBytes;omega)) ?_;rintro _ abT ⟨abU,c105,rfl,aAE⟩;refine⟨_,E,?_⟩;have EX:=O.ext aAE E;refine dG ?_;refine bg 5 ?_;refine sn 5 E 10 EX kQ ?_;intro abk qZ;refine dG ?_;refine bg 6 ?_;refine sn 6 E 9 qZ kQ ?_;intro abV Z;refine aL 4 ?_;refine zN 2 ?_;refine dW (rs:=[.cell 4 42,.cell 5 54,.tmp 6,.tmp 7]) (vs:=[.agg #[D ro,D ep,D fr,D tg,D rd,.slice abU ((l++[x]).length) c105],.agg #[D R.2.1.code,D R.2.1.fO,D R.2.1.Nc,D R.2.1.body],.bool true,D 0]) E ⟨⟨_,E,fB 10 Z E underlying42 E kQ⟩,⟨_,E,fB 9 Z E underlying54 E kQ⟩,E,E,trivial⟩ ?_;have qx:=Z.aO [13,12,11,10,9,8,7,6,5,4,3,2,1];have hcp:=(eu (qx.own 0 E)).1;have wP:=qx.bJ 0 E;rw[Ky (b:=⟨ro,ep,fr,tg,rd,l⟩) (e:=x) J h20 hk4 M,hR];rw[if_neg (by rw[hch];simp),if_neg atI];exact⟨abU,c105,mF,E,wP⟩
   rw[decide_eq_false M]at HC;refine dJ eQ (HC _ (St.rd 4 I E)) ?_;rintro _ abW ⟨rfl,amT⟩;refine⟨_,E,?_⟩;have wO:=I.on amT;clear amT I;refine zN 8 ?_;refine dJ eQ (jo ro ep fr tg rd A c l _ (St.rd 4 wO E) hb) ?_;rintro _ anZ ⟨atK,atL,rfl,aAF⟩;refine⟨_,E,?_⟩;have zY:=wO.ext aAF E;refine vv (v:=.agg #[D 7,D 0,D 0,D 0]) gH ?_;refine sa 2 zY kQ ?_;intro aoa xW;refine sa 1 xW kQ ?_;intro abl Dh;refine zN 7 ?_;refine dW (rs:=[.cell 4 42,.cell 5 54,.tmp 6,.tmp 7]) (vs:=[.agg #[D ro,D ep,D fr,D tg,D rd,.slice atK l.length atL],.agg #[D 7,D 0,D 0,D 0],.bool false,D 0]) E ⟨⟨_,E,fB 2 Dh E underlying42 E kQ⟩,⟨_,E,fB 1 Dh E underlying54 E kQ⟩,E,E,trivial⟩ ?_;have Am:=Dh.aO [5,4,3,2,1];have hcp:=(eu (Am.own 0 E)).1;have abX:=Am.bJ 0 E;rw[show gU ⟨ro,ep,fr,tg,rd,l⟩ x=(⟨ro,ep,fr,tg,rd,l⟩,⟨7,0,0,0⟩,false,0)from by unfold gU;(try dsimp only);exact kZ];exact⟨atK,atL,mF,E,abX⟩
  refine zN 6 ?_;refine vv jv ?_;refine zN 2 ?_;refine sa 1 I kQ ?_;intro aia yP;refine sa 0 yP kQ ?_;intro abv zZ;refine zN 6 ?_;refine dW (rs:=[.cell 4 42,.cell 5 54,.tmp 6,.tmp 7]) (vs:=[.agg zB,.agg #[D 0,D 0,D 0,D 0],.bool false,D (aZ x)]) E ⟨⟨_,E,fB 1 zZ E underlying42 E kQ⟩,⟨_,E,fB 0 zZ E underlying54 E kQ⟩,E,E,trivial⟩ ?_;have GN:=zZ.aO [4,3,2,1,0];rw[show gU ⟨ro,ep,fr,tg,rd,l⟩ x=(⟨0,0,0,0,0,[]⟩,⟨0,0,0,0⟩,false,aZ x)from by unfold gU;(try dsimp only);exact kZ];exact⟨none,0,mF,E,aA GN⟩
 refine zN 6 ?_;refine vv jv ?_;refine zN 2 ?_;refine sa 1 mZ kQ ?_;intro abF ES;refine sa 0 ES kQ ?_;intro atM Dg;refine zN 6 ?_;refine dW (rs:=[.cell 4 42,.cell 5 54,.tmp 6,.tmp 7]) (vs:=[.agg zB,.agg #[D 0,D 0,D 0,D 0],.bool false,D (au ⟨ro,ep,fr,tg,rd,l⟩)]) E ⟨⟨_,E,fB 1 Dg E underlying42 E kQ⟩,⟨_,E,fB 0 Dg E underlying54 E kQ⟩,E,E,trivial⟩ ?_;have Df:=Dg.aO [4,3,2,1,0];rw[show gU ⟨ro,ep,fr,tg,rd,l⟩ x=(⟨0,0,0,0,0,[]⟩,⟨0,0,0,0⟩,false,au ⟨ro,ep,fr,tg,rd,l⟩)from by unfold gU;(try dsimp only);exact kZ];exact⟨none,0,mF,E,aA Df⟩
def Yv(ro ep fr tg rd:Int)(A:Option Addr)(c:Nat)(l:List Ev)(hv:Int)(hlc:l.length<=c)(w:World)(h:Rd w w.heap.size 6 A l.length (aY l))(hb:l.length*48<=reachBytes):
 Calls tP 112 #[.agg #[D ro,D ep,D fr,D tg,D rd,.slice A l.length c],D hv] w (Ta w (ig ⟨ro,ep,fr,tg,rd,l⟩ hv)):=by
 have S:=(St.start w).bV h;have hb2:=hb;unfold reachBytes at hb2;refine gP 53 func112 ?_;refine cw [0,1] ?_;refine zN 2 ?_;refine iU S ?_;intro b1 w2 S3;refine zN 9 ?_;refine Rq eQ S3 (eB ro ep fr tg rd A c l _ (St.rd 1 S3 E) Y) ?_;intro w4 S5;refine zN 6 ?_;by_cases h7:au ⟨ro,ep,fr,tg,rd,l⟩=0
 ·have hsh:=(eT h7).1;unfold bq at hsh;have hln:=gT (eT h7).2;dsimp only at hsh hln;refine zN 11 ?_;by_cases h8:ro=2
  ·refine zN 15 ?_;by_cases h9:hv<0
   ·refine zN 21 ?_;have DI:=S5.aO [1,0];rw[show ig ⟨ro,ep,fr,tg,rd,l⟩ hv=([],false,2)from by unfold ig;(try dsimp only);exact kZ];exact⟨none,0,zero_le _,E,aA DI⟩
   refine zN 6 ?_;by_cases h11:(l.length:Int)<hv
   ·refine zN 15 ?_;have pF:=S5.aO [1,0];rw[show ig ⟨ro,ep,fr,tg,rd,l⟩ hv=([],false,2)from by unfold ig;(try dsimp only);exact kZ];exact⟨none,0,zero_le _,E,aA pF⟩
   refine zN 8 ?_;obtain⟨k,rfl⟩:∃k:Nat,hv=k:=⟨hv.toNat,by omega⟩;obtain⟨m,hm⟩:∃m,min (k+3) l.length=k+m:=⟨min (k+3) l.length-k,by omega⟩;refine zN 2 ?_;refine vv (v:=D ((k+3:Nat):Int)) iI ?_;refine zN 3 ?_;refine vv (v:=D ((k+m:Nat):Int)) (nU (vs:=[D ((k+3:Nat):Int),D (l.length:Int)]) E xR λ_=>by rw[JF,hm]) ?_;refine zN 3 ?_;obtain⟨A13,aob,aAG,aJz⟩:=FL (P:=tP) (t:=40) (enc:=Ev.cells) (s:=6) (λ_=>E) (A:=A) (b:=l) (n:=l.length) (c:=c) (lo:=(some (D (k:Int)))) (hi:=(some (D ((k+m:Nat):Int)))) (mx:=none) (l:=k) (k:=k+m) (q:=c) (m:=m) (c':=c-k) underlying40 kQ (WU k (k+m) E E Y Y) Y Y Y Y Y;have zR:=S5.bV (aAG _ _ (S5.all 1 _ E));by_cases hr3:ro=3
   ·by_cases hend:((k+m:Nat):Int)=(l.length:Int)
    ·refine zQ ?_;have qO:=zR.drew;refine aK 19 qO [] ?_;refine aL 4 ?_;refine ak (v:=.slice A13 m (c-k)) 4 E qO (λ_ _=>(jZ E E (jy E) (jy E) nZ (aob _))) ?_;refine aL 3 ?_;refine bg 5 ?_;refine kE 5 E eQ (mh A13 m (c-k) _ _ (St.rd 0 qO E) (fP _) hQ) ?_;rintro _ w31 ⟨A27,c28,rfl,aAH,aAI⟩;refine⟨_,E,?_⟩;have uw:=qO.uG aAH aAI;refine aL 12 ?_;refine zN 3 ?_;have rW:=uw.aO [3,2,1];have O:=(eu (rW.own 0 E)).1;have FQ:=rW.bJ 0 E;have I:((l.drop k).take m).length=m:=by rw[length_take,length_drop];omega
     rw[Bw (b:=⟨ro,ep,fr,tg,rd,l⟩) h7 uQ uQ hm];dsimp only;rw[decide_eq_true ⟨hr3,by omega⟩];refine⟨A27,c28,?_,?_,?_⟩
     · dsimp only;rw[I];exact O
     · dsimp only;rw[I];rfl
     · dsimp only;rw[I];exact FQ
    refine zQ ?_;have pQ:=zR.drew;refine aK 19 pQ [] ?_;refine aL 4 ?_;refine ak (v:=.slice A13 m (c-k)) 4 E pQ (λ_ _=>(jZ E E (jy E) (jy E) nZ (aob _))) ?_;refine aL 3 ?_;refine bg 5 ?_;refine kE 5 E eQ (mh A13 m (c-k) _ _ (St.rd 0 pQ E) (fP _) hQ) ?_;rintro _ w58 ⟨A54,c55,rfl,aAJ,aAK⟩;refine⟨_,E,?_⟩;have Ca:=pQ.uG aAJ aAK;refine aL 12 ?_;refine zN 3 ?_;have yK:=Ca.aO [3,2,1];have O:=(eu (yK.own 0 E)).1;have rX:=yK.bJ 0 E;have I:((l.drop k).take m).length=m:=by rw[length_take,length_drop];omega
    rw[Bw (b:=⟨ro,ep,fr,tg,rd,l⟩) h7 uQ uQ hm];dsimp only;rw[decide_eq_false (λh=>hend Y)];refine⟨A54,c55,?_,?_,?_⟩
    · dsimp only;rw[I];exact O
    · dsimp only;rw[I];rfl
    · dsimp only;rw[I];exact rX
   refine zQ ?_;have FP:=zR.drew;refine aK 19 FP [] ?_;refine aL 4 ?_;refine ak (v:=.slice A13 m (c-k)) 4 E FP (λ_ _=>(jZ E E (jy E) (jy E) nZ (aob _))) ?_;refine aL 3 ?_;refine bg 5 ?_;refine kE 5 E eQ (mh A13 m (c-k) _ _ (St.rd 0 FP E) (fP _) hQ) ?_;rintro _ w85 ⟨A81,c82,rfl,aAL,aAM⟩;refine⟨_,E,?_⟩;have Cg:=FP.uG aAL aAM;refine aL 12 ?_;refine zN 3 ?_;have zw:=Cg.aO [3,2,1];have O:=(eu (zw.own 0 E)).1;have DF:=zw.bJ 0 E;have I:((l.drop k).take m).length=m:=by rw[length_take,length_drop];omega
   rw[Bw (b:=⟨ro,ep,fr,tg,rd,l⟩) h7 uQ uQ hm];dsimp only;rw[decide_eq_false (λh=>hr3 h.1)];refine⟨A81,c82,?_,?_,?_⟩
   · dsimp only;rw[I];exact O
   · dsimp only;rw[I];rfl
   · dsimp only;rw[I];exact DF
  refine zN 4 ?_;by_cases h94:ro=3
  ·refine zN 11 ?_;by_cases h95:hv<0
   ·refine zN 21 ?_;have DK:=S5.aO [1,0];rw[show ig ⟨ro,ep,fr,tg,rd,l⟩ hv=([],false,2)from by unfold ig;(try dsimp only);exact kZ];exact⟨none,0,zero_le _,E,aA DK⟩
   refine zN 6 ?_;by_cases h97:(l.length:Int)<hv
   ·refine zN 15 ?_;have DT:=S5.aO [1,0];rw[show ig ⟨ro,ep,fr,tg,rd,l⟩ hv=([],false,2)from by unfold ig;(try dsimp only);exact kZ];exact⟨none,0,zero_le _,E,aA DT⟩
   refine zN 8 ?_;obtain⟨k,rfl⟩:∃k:Nat,hv=k:=⟨hv.toNat,by omega⟩;obtain⟨m,hm⟩:∃m,min (k+3) l.length=k+m:=⟨min (k+3) l.length-k,by omega⟩;refine zN 2 ?_;refine vv (v:=D ((k+3:Nat):Int)) iI ?_;refine zN 3 ?_;refine vv (v:=D ((k+m:Nat):Int)) (nU (vs:=[D ((k+3:Nat):Int),D (l.length:Int)]) E xR λ_=>by rw[JF,hm]) ?_;refine zN 3 ?_;obtain⟨Z,aea,awn,aGe⟩:=FL (P:=tP) (t:=40) (enc:=Ev.cells) (s:=6) (λ_=>E) (A:=A) (b:=l) (n:=l.length) (c:=c) (lo:=(some (D (k:Int)))) (hi:=(some (D ((k+m:Nat):Int)))) (mx:=none) (l:=k) (k:=k+m) (q:=c) (m:=m) (c':=c-k) underlying40 kQ (WU k (k+m) E E Y Y) Y Y Y Y Y;have vN:=S5.bV (awn _ _ (S5.all 1 _ E));by_cases hr3:ro=3
   ·by_cases hend:((k+m:Nat):Int)=(l.length:Int)
    ·refine zQ ?_;have yT:=vN.drew;refine aK 19 yT [] ?_;refine aL 4 ?_;refine ak (v:=.slice Z m (c-k)) 4 E yT (λ_ _=>(jZ E E (jy E) (jy E) nZ (aea _))) ?_;refine aL 3 ?_;refine bg 5 ?_;refine kE 5 E eQ (mh Z m (c-k) _ _ (St.rd 0 yT E) (fP _) hQ) ?_;rintro _ abW ⟨aAN,aAO,rfl,awo,awp⟩;refine⟨_,E,?_⟩;have wO:=yT.uG awo awp;refine aL 12 ?_;refine zN 3 ?_;have Am:=wO.aO [3,2,1];have O:=(eu (Am.own 0 E)).1;have abX:=Am.bJ 0 E;have I:((l.drop k).take m).length=m:=by rw[length_take,length_drop];omega
     rw[Bw (b:=⟨ro,ep,fr,tg,rd,l⟩) h7 uQ uQ hm];dsimp only;rw[decide_eq_true ⟨hr3,by omega⟩];refine⟨aAN,aAO,?_,?_,?_⟩
     · dsimp only;rw[I];exact O
     · dsimp only;rw[I];rfl
     · dsimp only;rw[I];exact abX
    refine zQ ?_;have yU:=vN.drew;refine aK 19 yU [] ?_;refine aL 4 ?_;refine ak (v:=.slice Z m (c-k)) 4 E yU (λ_ _=>(jZ E E (jy E) (jy E) nZ (aea _))) ?_;refine aL 3 ?_;refine bg 5 ?_;refine kE 5 E eQ (mh Z m (c-k) _ _ (St.rd 0 yU E) (fP _) hQ) ?_;rintro _ aib ⟨aAP,c141,rfl,awq,awr⟩;refine⟨_,E,?_⟩;have Mj:=yU.uG awq awr;refine aL 12 ?_;refine zN 3 ?_;have abY:=Mj.aO [3,2,1];have O:=(eu (abY.own 0 E)).1;have aoc:=abY.bJ 0 E;have I:((l.drop k).take m).length=m:=by rw[length_take,length_drop];omega
    rw[Bw (b:=⟨ro,ep,fr,tg,rd,l⟩) h7 uQ uQ hm];dsimp only;rw[decide_eq_false (λh=>hend Y)];refine⟨aAP,c141,?_,?_,?_⟩
    · dsimp only;rw[I];exact O
    · dsimp only;rw[I];rfl
    · dsimp only;rw[I];exact aoc
   refine zQ ?_;have M:=vN.drew;refine IQ (C:=λw'=>St w.heap.size w w' [.rd 6 Z m (((l.drop k).take m).flatMap Ev.cells),.Mg b1 #[D ro,D ep,D fr,D tg,D rd,.slice A l.length c] 42,.rd 6 A l.length ((l).flatMap Ev.cells)]) (n:=19) (listed:= #[false,false,false,false,false,false,false,false,false,false,false,false,false,false,false,false,false,false,false]) mixed E E ?_;refine ak (v:=pV b1 5) 0 E M (λ_ _=>wo _ aez) ?_;refine ak (v:=.slice A l.length c) 1 E M (λ_ aeb=>(aj E E (aG (St.cl 1 aeb E E)))) ?_;refine ak (v:=D (k:Int)) 2 E M (λ_ _=>ym) ?_;refine ak (v:=D ((k+m:Nat):Int)) 3 E M (λ_ _=>ym) ?_;refine ak (v:=.slice Z m (c-k)) 4 E M (λ_ _=>(jZ E E (jy E) (jy E) nZ (aea _))) ?_;refine ak (v:=pV b1 0) 6 E M (λ_ _=>wo _ NS) ?_;refine ak (v:=D ro) 7 E M (λ_ awt=>(aj E E (aG (St.cl 1 awt E E)))) ?_;refine ak (v:=.bool false) 8 E M (λ_ _=>ad6 hr3) ?_;refine bg 5 ?_;refine kE 5 E eQ (mh Z m (c-k) _ _ (St.rd 0 M E) (fP _) hQ) ?_;rintro _ aAs ⟨atN,c168,rfl,awu,awv⟩;refine⟨_,E,?_⟩;have J:=M.uG awu awv;refine⟨(St.del 0 J),?_⟩;refine ak (v:=.bool false) 9 E (St.del 0 J) (λ_ _=>ym) ?_;refine Bh (i:=10) (n:=8) E kQ kQ kQ (St.del 0 J) E (wg E E E E) E E ?_;refine Bh (i:=11) (n:=7) E kQ kQ kQ (St.del 0 J) E (wg E E E E) E E ?_;refine Bh (i:=12) (n:=6) E kQ kQ kQ (St.del 0 J) E (wg E E E E) E E ?_;refine Bh (i:=13) (n:=5) E kQ kQ kQ (St.del 0 J) E (wg E E E E) E E ?_;refine Bh (i:=14) (n:=4) E kQ kQ kQ (St.del 0 J) E (wg E E E E) E E ?_;refine ak (v:=.bool false) 15 E (St.del 0 J) (λ_ _=>ypF) ?_;refine ak (v:=.slice atN m c168) 16 E (St.del 0 J) (λ_ _=>ya) ?_;refine ak (v:=.bool false) 17 E (St.del 0 J) (λ_ _=>ya) ?_;refine ak (v:=D 0) 18 E (St.del 0 J) (λ_ _=>ya) ?_;refine dG ?_;refine zN 3 ?_;have Xc:=J.aO [3,2,1];have O:=(eu (Xc.own 0 E)).1;have aAQ:=Xc.bJ 0 E;have I:((l.drop k).take m).length=m:=by rw[length_take,length_drop];omega
   rw[Bw (b:=⟨ro,ep,fr,tg,rd,l⟩) h7 uQ uQ hm];dsimp only;rw[decide_eq_false (λh=>hr3 h.1)];refine⟨atN,c168,?_,?_,?_⟩
   · dsimp only;rw[I];exact O
   · dsimp only;rw[I];rfl
   · dsimp only;rw[I];exact aAQ
  refine zN 15 ?_;have abZ:=S5.aO [1,0];rw[show ig ⟨ro,ep,fr,tg,rd,l⟩ hv=([],false,7)from by unfold ig;(try dsimp only);exact kZ];exact⟨none,0,zero_le _,E,aA abZ⟩
 refine zN 15 ?_;have ab0:=S5.aO [1,0];rw[show ig ⟨ro,ep,fr,tg,rd,l⟩ hv=([],false,au ⟨ro,ep,fr,tg,rd,l⟩)from by unfold ig;(try dsimp only);exact kZ];exact⟨none,0,zero_le _,E,aA ab0⟩
def JX(b:aU)(ep:Int)(d:Nat)(l:List Ev)(last:Bool):aU:=if last=true then⟨1,ep,0,0,0,b.Gs++l.drop d++[aF]⟩else{b with Gs:=b.Gs++l.drop d}
def Te{b:aU}{ep:Int}{d:Nat}{l:List Ev}:JX b ep d l true=⟨1,ep,0,0,0,b.Gs++l.drop d++[aF]⟩:=rfl
def Tf{b:aU}{ep:Int}{d:Nat}{l:List Ev}:JX b ep d l false={b with Gs:=b.Gs++l.drop d}:=rfl
def FV{b:aU}{ep:Int}{k:Nat}{K:List Ev}{last:Bool}(h:au b=0)(I:b.Gq=4)(he:b.ep=ep)(J:k<=b.Gs.length):cK b ep k K last=
  if ¬(b.Gs.drop k).take K.length=K.take (b.Gs.length-k)then(bF,3)else if last=true/\k+K.length<b.Gs.length then(bF,3)
  else if au (JX b ep (b.Gs.length-k) K last)≠0 then(bF,3)else(JX b ep (b.Gs.length-k) K last,0):=by
 unfold cK JX;rw[if_neg (λh1=>h1 h),if_neg (λh1=>h1 I),if_neg (λh1=>h1 he),if_neg Y,Int.toNat_natCast]
section
variable {l K:List Ev}{k d p i:Nat}
def akW(J:l.length=k+d)(M:min d K.length=p):((l.drop k).take K.length=K.take d)↔((l.drop k).take p=K.take p):=by
 have h:(l.drop k).take K.length=(l.drop k).take p:=by rw[take_eq_take_iff,length_drop];omega
 have I:K.take d=K.take p:=by rw[take_eq_take_iff];omega
 rw[h,I]
def agA(I:min d K.length=p):K.drop p=K.drop d:=by
 rcases Nat.le_total d K.length with h|h
 ·rw[show p=d by omega]
 rw[drop_eq_nil_of_le h,drop_eq_nil_of_le Y]
end
def akX{a b:Ev}(h:a=b)(w:World):(binOp .neq 49 (.agg #[D a.kind,D a.Mr,D a.id,D a.body,D a.MF,D a.Nc])
  (.agg #[D b.kind,D b.Mr,D b.id,D b.body,D b.MF,D b.Nc])).run tP w=.ok (.bool false) w:=by
 rw[rE,decide_eq_true h];rfl
def akY{a b:Ev}(h:¬a=b)(w:World):(binOp .neq 49 (.agg #[D a.kind,D a.Mr,D a.id,D a.body,D a.MF,D a.Nc])
  (.agg #[D b.kind,D b.Mr,D b.id,D b.body,D b.MF,D b.Nc])).run tP w=.ok (.bool true) w:=by
 rw[rE,decide_eq_false h];rfl
def aq7{x y:List Ev}{k:Nat}{a b:Ev}(I:x[k]? =some a)(J:y[k]? =some b)(h:¬a=b):¬x=y:=λe=>by
 rw[e,J]at I
 injection I with h1
 exact h h1.symm
def ae9(A A':Option Addr)(c c' n:Nat)(xs ys:List Ev)(w:World)(h:Rd w w.heap.size 6 A n (aY xs))(h':Rd w w.heap.size 6 A' n (aY ys))(hx:xs.length=n)(hy:ys.length=n)(hn:n<=1152921504606846976):
 Calls tP 113 #[.slice A n c,.slice A' n c'] w (FM w (decide (xs=ys))):=by
 have S:=((St.start w).bV h').bV h;clear h h';refine gP 26 func113 ?_;refine cw [0,1] ?_;refine zN 27 ?_;refine fJ (X:=Nat) (λxv=>[(0,.slice A n c),(1,.slice A' n c'),(4,.bool false),(12,D (n:Int)),(13,D (xv:Int))]) (λxv wr=>(xv<=n)/\(xs.take xv=ys.take xv)/\St w.heap.size w wr [.rd 6 A n ((xs).flatMap Ev.cells),.rd 6 A' n ((ys).flatMap Ev.cells)]) (λxv=>n-xv) (0) ?_ ?_ ?_
 ·exact⟨zero_le _,E,S⟩
 ·exact Av
 rintro k w1 ⟨hi3,hi4,S2⟩
 try dsimp only at hi3 hi4 S2
 refine bI (l':=[(0,.slice A n c),(1,.slice A' n c'),(4,.bool false),(12,D (n:Int)),(13,D (k:Int))]) Av (aQ (aC ?_));by_cases h5:(k:Int)< (n:Int)
 ·refine zN 16 ?_;refine fu S2 mixed kQ ?_;refine zN 2 ?_;obtain⟨b8,o9,rfl⟩:=Rd.addr (St.rd 0 S2 E) Y;obtain⟨I,M⟩:=JH k (St.rd 0 S2 E) Y;refine uv (λ_ _=>ko k) ?_;refine uv (v:=.agg #[D I.kind,D I.Mr,D I.id,D I.body,D I.MF,D I.Nc]) (λ_ Si=>(aj E E (dP (cs:=Ev.cells I) (Rd.wZ (St.rd 0 Si E) (λ_ _ h=>bE (enc:=Ev.cells) (sz:=6) (λ_=>E) M h))))) ?_;refine zN 2 ?_;obtain⟨b16,o17,rfl⟩:=Rd.addr (St.rd 1 S2 E) Y;obtain⟨J,O⟩:=JH k (St.rd 1 S2 E) Y;refine uv (λ_ _=>ko k) ?_;refine uv (v:=.agg #[D J.kind,D J.Mr,D J.id,D J.body,D J.MF,D J.Nc]) (λ_ aod=>(aj E E (dP (cs:=Ev.cells J) (Rd.wZ (St.rd 1 aod E) (λ_ _ h=>bE (enc:=Ev.cells) (sz:=6) (λ_=>E) O h))))) ?_;by_cases Z:I=J
  ·refine uv (v:=.bool false) (λ_ _=>(bM E E E (C9 kQ (akX Z _)))) ?_;refine eP λJN kF=>?_;refine zN 6 ?_;refine vv (v:=D ((k+1:Nat):Int)) iI ?_;refine zN 2 ?_;refine bC (k+1) ?_ Av (by first|omega|(dsimp only;omega));exact⟨Y,(by rw[take_add_one,take_add_one,hi4,M,O,Z]),kF⟩
  refine uv (v:=.bool true) (λ_ _=>(bM E E E (C9 kQ (akY Z _)))) ?_;refine eP λM4 sS=>?_;refine zN 14 ?_;exact⟨zK (aq7 M O Z),sS.Nr⟩
 refine zN 17 ?_;obtain rfl:n=k:=Y;have he:xs=ys:=by rw[<-take_of_length_le (Nat.le_of_eq hx),<-take_of_length_le (l:=ys) (Nat.le_of_eq hy)];exact hi4
 exact⟨reT he,S2.Nr⟩
def FW(ro ep fr tg rd:Int)(A:Option Addr)(c:Nat)(l:List Ev)(e at_:Int)(A2:Option Addr)(c2:Nat)(K:List Ev)(last:Bool)(hlc:l.length<=c)(hkc:K.length<=c2)(w:World)(hK:Rd w w.heap.size 6 A2 K.length (aY K))(h:Rd w w.heap.size 6 A l.length (aY l))(hb:l.length*48<=reachBytes)(hbK:(K.length+2001)*48<=reachBytes):
 Calls tP 95 #[.agg #[D ro,D ep,D fr,D tg,D rd,.slice A l.length c],D e,D at_,.slice A2 K.length c2,.bool last] w (kW w (cK ⟨ro,ep,fr,tg,rd,l⟩ e at_ K last)):=by
 have S:=((St.start w).bV hK).bV h;have hb2:=hb;unfold reachBytes at hb2;refine gP 101 func95 ?_;refine cw [0,1,2,3,4] ?_;refine zN 2 ?_;refine iU S ?_;intro b1 w2 S3;refine gD S3 fZ ?_;intro b4 w5 S6;refine zN 7 ?_;refine Rq eQ S6 (eB ro ep fr tg rd A c l _ (St.rd 2 S6 E) Y) ?_;intro w7 S8;refine zN 7 ?_;by_cases I:au ⟨ro,ep,fr,tg,rd,l⟩=0
 ·have hsh:=(eT I).1;unfold bq at hsh;have hln:=gT (eT I).2;dsimp only at hsh hln;refine zN 9 ?_;by_cases h11:ro=4
  ·refine zN 10 ?_;by_cases h12:ep=e
   ·refine zN 8 ?_;by_cases h13:at_<0
    ·refine zN 14 ?_;refine vv jv ?_;refine sa 0 S8 kQ ?_;intro Lf jm;refine zN 7 ?_;have o8:=jm.aO [3,2,1,0];rw[show cK ⟨ro,ep,fr,tg,rd,l⟩ e at_ K last=(bF,2)from by unfold cK;(try dsimp only);exact kZ];exact⟨none,0,zero_le _,E,aA o8⟩
    refine zN 6 ?_;by_cases h17:(l.length:Int)<at_
    ·refine zN 8 ?_;refine vv jv ?_;refine sa 0 S8 kQ ?_;intro M0 uM;refine zN 7 ?_;have qj:=uM.aO [3,2,1,0];rw[show cK ⟨ro,ep,fr,tg,rd,l⟩ e at_ K last=(bF,2)from by unfold cK;(try dsimp only);exact kZ];exact⟨none,0,zero_le _,E,aA qj⟩
    refine zN 10 ?_;obtain rfl:ro=4:=Y;obtain rfl:tg=0:=Y;obtain rfl:rd=0:=Y;obtain rfl:e=ep:=Y;clear hsh;have hbL:(l.length+K.length+1)*48<=reachBytes:=Nat.le_trans (mul_le_mul_right 48 Y) hbK;have hb3:=hbL;unfold reachBytes at hb3;obtain⟨k,rfl⟩:∃k:Nat,at_=k:=⟨at_.toNat,by omega⟩;obtain⟨d,hd⟩:∃d,l.length=k+d:=⟨l.length-k,by omega⟩;obtain⟨p,hp⟩:∃p,min d K.length=p:=⟨_,E⟩;have J:=Lib.hid (akW (l:=l) (K:=K) hd hp);refine zN 5 ?_;refine vv (v:=D ((d:Nat):Int)) ysu ?_;refine zN 2 ?_;refine vv (v:=D ((p:Nat):Int)) (nU (vs:=[D ((d:Nat):Int),D (K.length:Int)]) E xR λ_=>by rw[JF,hp]) ?_;refine zN 4 ?_;obtain⟨Z,aAR,aAS,aJA⟩:=FL (P:=tP) (t:=40) (enc:=Ev.cells) (s:=6) (λ_=>E) (A:=A) (b:=l) (n:=l.length) (c:=c) (lo:=(some (D (k:Int)))) (hi:=(some (D ((k+p:Nat):Int)))) (mx:=(some (D ((k+p:Nat):Int)))) (l:=k) (k:=k+p) (q:=k+p) (m:=p) (c':=p) underlying40 kQ (aex k (k+p) (k+p) E E E Y Y Y) Y Y Y Y Y;have lH:=S8.bV (aAS _ _ (S8.all 2 _ E));obtain⟨A26,aAT,aAU,aJB⟩:=FL (P:=tP) (t:=40) (enc:=Ev.cells) (s:=6) (λ_=>E) (A:=A2) (b:=K) (n:=K.length) (c:=c2) (lo:=none) (hi:=(some (D ((p:Nat):Int)))) (mx:=(some (D ((p:Nat):Int)))) (l:=0) (k:=p) (q:=p) (m:=p) (c':=p) underlying40 kQ (amn p p E E Y Y) Y Y Y Y Y;have zP:=lH.bV (aAU _ _ (lH.all 4 _ E));have oW:=zP;rw[drop_zero]at oW;refine zQ ?_;refine fu oW mixed kQ ?_;refine zN 5 ?_;refine uv (v:=D ((k+p:Nat):Int)) (λ_ _=>iI) ?_;refine zN 2 ?_;refine uv (v:=D ((k+p:Nat):Int)) (λ_ _=>iI) ?_;refine uv (v:=.slice Z p p) (λ_ _=>(jZ E E (jy E) (jy E) (jy E) (aAR _))) ?_;refine zN 3 ?_;refine uv (v:=.slice A26 p p) (λ_ _=>(jZ E E nZ (jy E) (jy E) (aAT _))) ?_;have HE:=λ(w:World) h h1=>ae9 Z A26 p p p ((l.drop k).take p) (K.take p) w h h1 (by rw[length_take,length_drop];omega) (by rw[length_take];omega) Y;by_cases hq:(l.drop k).take p=K.take p
    ·rw[decide_eq_true hq]at HE;refine Zk (v:=.bool true) (wn E) E E (λ_=>(iY (vs:=[.slice Z p p,.slice A26 p p]) E eQ xR)) (λ_ aoe=>(HE _ (St.rd 1 aoe E) (St.rd 0 aoe E)).mono λ_ _ h=>⟨h.1,aoe.on h.2⟩) ?_;clear HE;refine zQ ?_;refine eP λZP xX=>?_;refine zN 4 ?_;have Tg:=agA (K:=K) hp;obtain⟨M,aAV,aAW,aJC⟩:=FL (P:=tP) (t:=40) (enc:=Ev.cells) (s:=6) (λ_=>E) (A:=A2) (b:=K) (n:=K.length) (c:=c2) (lo:=(some (D ((p:Nat):Int)))) (hi:=none) (mx:=none) (l:=p) (k:=K.length) (q:=c2) (m:=(K.drop d).length) (c':=c2-p) underlying40 kQ (ah5 p E Y) Y Y Y (by rw[length_drop];omega) Y;have uO:=xX.bV (aAW _ _ (xX.all 5 _ E));have vo:=uO;rw[Tg,take_length]at vo;have hlk:(l++(K.drop d)).length=l.length+(K.length-d):=by simp
     have hw2:((l++(K.drop d)).length+([aF]:List Ev).length)*48<=reachBytes:=by rw[hlk];exact Nat.le_trans (mul_le_mul_right 48 (by simp only[length_cons,length_nil];omega)) hbL
     refine nD (X:=Nat×(Option Addr)×Nat) (λxv=>[(1,D e),(2,D (k:Int)),(3,.slice A2 K.length c2),(4,.bool last),(5,pV b1 0),(10,pV b4 0),(11,D 0),(14,pV xv.1 0)]) (λxv wr=>St w.heap.size w wr [.Mg xv.1 #[D 4,D e,D fr,D 0,D 0,.slice xv.2.1 ((l++(K.drop d)).length) xv.2.2] 42,.own 49 6 (.slice xv.2.1 ((l++(K.drop d)).length) xv.2.2) ((l++(K.drop d)).length) ((l++(K.drop d)).flatMap Ev.cells),.rd 6 M ((K.drop d).length) ((K.drop d).flatMap Ev.cells),.rd 6 A26 p ((K.take p).flatMap Ev.cells),.rd 6 Z p (((l.drop k).take p).flatMap Ev.cells),.Mg b4 zB 42,.Mg b1 #[D 4,D e,D fr,D 0,D 0,.slice A l.length c] 42,.rd 6 A l.length ((l).flatMap Ev.cells),.rd 6 A2 K.length ((K).flatMap Ev.cells)]) ?_ ?_
     ·have O:=vo.drew;refine fM 7 6 O [] ?_;iterate 3 refine gW ?_
      refine gk (v:=.slice M ((K.drop d).length) (c2-p)) 3 E O (λ_ _=>(jZ E E (jy E) nZ nZ (aAV _))) ?_;refine aes (m:=2) (r:=4) (s:=5) kQ ?_ ?_
      ·refine lM (i:=4) E E (wn E) E E (iY (vs:=[.agg #[D 4,D e,D fr,D 0,D 0,.slice A l.length c],.slice M ((K.drop d).length) (c2-p)]) E eQ xR) (rM 4 e fr 0 0 A c l M (c2-p) (K.drop d) _ (St.rd 5 O E) (St.rd 0 O E) (by rw[length_drop];unfold reachBytes;omega)) ?_;rintro _ w63 ⟨A61,c62,rfl,T65⟩;refine⟨_,E,?_⟩;have S64:=O.ext T65 E;refine gW ?_;refine fE (m:=1) (r:=5) kQ ?_;refine mW (i:=5) E E (V:=λb=>pV b 0) (row:=zB) (t:=42) S64 (wn E) E E (jd E (zeroValue42 _) E) ?_;intro b66 w67 CU;refine gW ?_;refine fC kQ E E E ?_;refine sa 0 CU kQ ?_;intro w69 yK;refine zQ ?_;refine jg ?_;refine dM (b66,A61,c62) ?_ VP;exact yK
      refine mW (i:=5) E E (V:=λb=>pV b 0) (row:=zB) (t:=42) O (wn E) E E (jd E (zeroValue42 _) E) ?_;intro b71 w72 uq;refine gW ?_;refine fE (m:=1) (r:=4) kQ ?_;refine lM (i:=4) E E (wn E) E E (iY (vs:=[.agg #[D 4,D e,D fr,D 0,D 0,.slice A l.length c],.slice M ((K.drop d).length) (c2-p)]) E eQ xR) (rM 4 e fr 0 0 A c l M (c2-p) (K.drop d) _ (St.rd 6 uq E) (St.rd 1 uq E) (by rw[length_drop];unfold reachBytes;omega)) ?_;rintro _ w76 ⟨A74,c75,rfl,T78⟩;refine⟨_,E,?_⟩;have DC:=uq.ext T78 E;refine gW ?_;refine fC kQ E E E ?_;refine sa 1 DC kQ ?_;intro w79 Cb;refine zQ ?_;refine jg ?_;have uo:St w.heap.size w w79 [_,_,_,_,_,_,_,_,_]:=Cb.re [1,0,2,3,4,5,6,7,8] dQ;refine dM (b71,A74,c75) ?_ VP;exact uo
     rintro⟨b82,A83,c84⟩ w85 Cg
     try dsimp only at Cg
     refine bI (l':=[(1,D e),(2,D (k:Int)),(3,.slice A2 K.length c2),(4,.bool last),(5,pV b1 0),(10,pV b4 0),(11,D 0),(14,pV b82 0)]) VP (aQ (EF (aQ (aC (vm ?_)))));refine zQ ?_
     cases atT:(last)
     ·refine zN 27 ?_;refine Rq eQ Cg (eB 4 e fr 0 0 A83 c84 (l++(K.drop d)) _ (St.Rn 1 Cg E) (by simp only[length_append,length_cons,length_nil,length_drop];omega)) ?_;intro w88 JM;by_cases FX:au ⟨4,e,fr,0,0,l++(K.drop d)⟩=0
      ·refine zN 9 ?_;refine sa 5 JM kQ ?_;intro w92 DF;refine zN 5 ?_;rw[FV (b:=⟨4,e,fr,0,0,l⟩) (k:=k) I E E uQ];dsimp only;rw[show l.length-k=d from by omega];rw[if_neg (λh=>h (J.out.2 hq))];rw[if_neg iQ];rw[Tf];dsimp only;rw[if_neg (λh=>h FX)];have Ic:=DF.aO [8,7,6,5,4,3,2,0];have hcp:=(eu (Ic.own 0 E)).1;have Lp:=Ic.bJ 0 E;exact⟨A83,c84,mF,E,Lp⟩
      refine zN 6 ?_;refine vv jv ?_;refine sa 5 JM kQ ?_;intro w96 DJ;refine zN 6 ?_;rw[FV (b:=⟨4,e,fr,0,0,l⟩) (k:=k) I E E uQ];dsimp only;rw[show l.length-k=d from by omega];rw[if_neg (λh=>h (J.out.2 hq))];rw[if_neg iQ];rw[Tf];dsimp only;rw[if_pos FX];have DT:=DJ.aO [8,7,6,5,4,3,2,1,0];exact⟨none,0,zero_le _,E,aA DT⟩
     refine zN 3 ?_;refine vg (v:=D ((k+K.length:Nat):Int)) iI ?_;refine zN 3 ?_;by_cases h99:((k+K.length:Nat):Int)< (l.length:Int)
     ·refine zN 8 ?_;refine vv jv ?_;refine sa 5 Cg kQ ?_;intro aij wR;refine zN 7 ?_;rw[FV (b:=⟨4,e,fr,0,0,l⟩) (k:=k) I E E uQ];dsimp only;rw[show l.length-k=d from by omega];rw[if_neg (λh=>h (J.out.2 hq))];rw[if_pos ⟨E,by omega⟩];have tO:=wR.aO [8,7,6,5,4,3,2,1,0];exact⟨none,0,zero_le _,E,aA tO⟩
     refine zN 17 ?_;refine vv (v:=.agg #[D 1,D e,D 0,D 0,D 0,.slice A83 ((l++(K.drop d)).length) c84]) gH ?_;refine vv (v:=.agg #[D 4,D 0,D 0,D 0,D 0,D 0]) gH ?_;refine SG Cg ?_;intro aAX atU sO;refine dJ eQ (rM 1 e 0 0 0 A83 c84 (l++(K.drop d)) (aD aAX 0) 1 [aF] _ (St.Rn 2 sO E) (St.mD (xs:=aY [aF]) 0 sO E E E) hw2) ?_;rintro _ atV ⟨atW,c107,rfl,aAY⟩;refine⟨_,E,?_⟩;have Je:=sO.ext aAY E;refine sa 2 Je kQ ?_;intro abV Ch;refine zN 7 ?_;refine Rq eQ Ch (eB 1 e 0 0 0 atW c107 (l++(K.drop d)++[aF]) _ (St.Rn 0 Ch E) (by simp only[length_append,length_cons,length_nil,length_drop];omega)) ?_;intro aof ER;by_cases h116:au ⟨1,e,0,0,0,l++(K.drop d)++[aF]⟩=0
     ·refine zN 9 ?_;refine sa 7 ER kQ ?_;intro abW wO;refine zN 5 ?_;rw[FV (b:=⟨4,e,fr,0,0,l⟩) (k:=k) I E E uQ];dsimp only;rw[show l.length-k=d from by omega];rw[if_neg (λh=>h (J.out.2 hq))];rw[if_neg jQ];rw[Te];dsimp only;rw[if_neg (λh=>h h116)];have xY:=wO.aO [10,9,8,7,6,5,4,3,2,1];have hcp:=(eu (xY.own 0 E)).1;have sM:=xY.bJ 0 E;exact⟨atW,c107,mF,E,sM⟩
     refine zN 6 ?_;refine vv jv ?_;refine sa 7 ER kQ ?_;intro ab1 Di;refine zN 6 ?_;rw[FV (b:=⟨4,e,fr,0,0,l⟩) (k:=k) I E E uQ];dsimp only;rw[show l.length-k=d from by omega];rw[if_neg (λh=>h (J.out.2 hq))];rw[if_neg jQ];rw[Te];dsimp only;rw[if_pos h116];have zY:=Di.aO [10,9,8,7,6,5,4,3,2,1,0];exact⟨none,0,zero_le _,E,aA zY⟩
    rw[decide_eq_false hq]at HE;refine Zk (v:=.bool false) (wn E) E E (λ_=>(iY (vs:=[.slice Z p p,.slice A26 p p]) E eQ xR)) (λ_ aec=>(HE _ (St.rd 1 aec E) (St.rd 0 aec E)).mono λ_ _ h=>⟨h.1,aec.on h.2⟩) ?_;clear HE;refine zQ ?_;refine eP λan2 Sd=>?_;refine zN 4 ?_;refine vv jv ?_;refine sa 2 Sd kQ ?_;intro aAZ Am;refine zN 6 ?_;rw[FV (b:=⟨4,e,fr,0,0,l⟩) (k:=k) I E E uQ];dsimp only;rw[show l.length-k=d from by omega];rw[if_pos (λh=>hq (J.out.1 h))];have abX:=Am.aO [5,4,3,2,1,0];exact⟨none,0,zero_le _,E,aA abX⟩
   refine zN 7 ?_;refine vv jv ?_;refine sa 0 S8 kQ ?_;intro aia yP;refine zN 7 ?_;have Sj:=yP.aO [3,2,1,0];rw[show cK ⟨ro,ep,fr,tg,rd,l⟩ e at_ K last=(bF,15)from by unfold cK;(try dsimp only);exact kZ];exact⟨none,0,zero_le _,E,aA Sj⟩
  refine zN 7 ?_;refine vv jv ?_;refine sa 0 S8 kQ ?_;intro an5 GN;refine zN 7 ?_;have GL:=GN.aO [3,2,1,0];rw[show cK ⟨ro,ep,fr,tg,rd,l⟩ e at_ K last=(bF,7)from by unfold cK;(try dsimp only);exact kZ];exact⟨none,0,zero_le _,E,aA GL⟩
 refine zN 7 ?_;refine vv jv ?_;refine zQ ?_;refine sa 0 S8 kQ ?_;intro asR EP;refine zN 7 ?_;have Dg:=EP.aO [3,2,1,0];rw[show cK ⟨ro,ep,fr,tg,rd,l⟩ e at_ K last=(bF,au ⟨ro,ep,fr,tg,rd,l⟩)from by unfold cK;(try dsimp only);exact kZ];exact⟨none,0,zero_le _,E,aA Dg⟩
noncomputable def Dj(b:aU)(e:Ev):aU×Int:=if au ⟨b.Gq,b.ep,b.fr,b.tg,b.rd,b.Gs++[e]⟩≠0 then(bF,3)else(⟨b.Gq,b.ep,b.fr,b.tg,b.rd,b.Gs++[e]⟩,0)
def Xd(b:aU)(pe:Int):aU×Int:=(⟨3,b.ep,b.fr,pe,b.rd,b.Gs⟩,0)
noncomputable def kP(b:aU)(r:cO):aU×Int:=
 if r.kind=1 then iX b r.Mc else if r.kind=4 then dw b r.Mc r.Rl
 else if ¬(b.Gq=(if r.kind=2\/r.kind=3 then 1 else if r.kind=7 then 3 else 4)/\b.ep=r.Mc)then(bF,3)
 else if r.kind=3 then Xd b r.Rl else if r.kind=6 then cK b r.Mc b.Gs.length [] true else if r.kind=7 then fT b (r.Mc+1)else Dj b r.ev
noncomputable def eF(b:aU)(r:cO):aU×Int:=
 if au b≠0 then(bF,au b)else if aH r≠0 then(bF,aH r)
 else if b.Gq=2\/(r.kind≠3/\r.kind≠4/\r.Rl≠0)then(bF,3)else if (kP b r).2≠0 then(bF,3)else((kP b r).1,0)
def wS(ro ep fr tg rd:Int)(A:Option Addr)(c:Nat)(l:List Ev)(kd qu e pe:Int)(x:Ev)(w:World)(h:Rd w w.heap.size 6 A l.length (aY l))(hb:l.length*48<=reachBytes):
 Calls tP 103 #[.agg #[D ro,D ep,D fr,D tg,D rd,.slice A l.length c],.agg (rR kd qu e pe x)] w (kW w (iX ⟨ro,ep,fr,tg,rd,l⟩ e)):=by
 have S:=(St.start w).bV h;have I:=hb;unfold reachBytes at I;obtain⟨R,hR⟩:∃R,iX ⟨ro,ep,fr,tg,rd,l⟩ e=R:=⟨_,E⟩;rw[hR];refine gP 12 func103 ?_;refine cw [0,1] ?_;refine zN 2 ?_;refine iU S ?_;intro b1 w2 S3;refine iU S3 ?_;intro b4 w5 S6;refine gD S6 fZ ?_;intro b7 w8 S9;refine zN 8 ?_;refine dJ eQ ((hR▸Li ro ep fr tg rd A c l e _ (St.rd 3 S9 E) hb)) ?_;rintro _ En ⟨J,M,O,rfl,Z⟩;refine⟨_,E,?_⟩;have mZ:=S9.ext Z E;refine zN 2 ?_;refine sa 1 mZ kQ ?_;intro w16 zR;refine zN 5 ?_;have qO:=zR.aO [4,3,2,1];exact⟨J,M,by assumption,E,qO⟩
def wT(ro ep fr tg rd:Int)(A:Option Addr)(c:Nat)(l:List Ev)(kd qu e pe:Int)(x:Ev)(w:World)(h:Rd w w.heap.size 6 A l.length (aY l))(hb:l.length*48<=reachBytes):
 Calls tP 107 #[.agg #[D ro,D ep,D fr,D tg,D rd,.slice A l.length c],.agg (rR kd qu e pe x)] w (kW w (dw ⟨ro,ep,fr,tg,rd,l⟩ e pe)):=by
 have S:=(St.start w).bV h;have I:=hb;unfold reachBytes at I;obtain⟨R,hR⟩:∃R,dw ⟨ro,ep,fr,tg,rd,l⟩ e pe=R:=⟨_,E⟩;rw[hR];refine gP 14 func107 ?_;refine cw [0,1] ?_;refine zN 2 ?_;refine iU S ?_;intro b1 w2 S3;refine iU S3 ?_;intro b4 w5 S6;refine gD S6 fZ ?_;intro b7 w8 S9;refine zN 10 ?_;refine dJ eQ ((hR▸Ii ro ep fr tg rd A c l e pe _ (St.rd 3 S9 E) hb)) ?_;rintro _ En ⟨J,M,O,rfl,Z⟩;refine⟨_,E,?_⟩;have mZ:=S9.ext Z E;refine zN 2 ?_;refine sa 1 mZ kQ ?_;intro w16 zR;refine zN 5 ?_;have qO:=zR.aO [4,3,2,1];exact⟨J,M,by assumption,E,qO⟩
def Vh(ro ep fr tg rd:Int)(A:Option Addr)(c:Nat)(l:List Ev)(kd qu e pe:Int)(x:Ev)(I:l.length<=c)(w:World)(h:Rd w w.heap.size 6 A l.length (aY l))(hb:l.length*48<=reachBytes):
 Calls tP 108 #[.agg #[D ro,D ep,D fr,D tg,D rd,.slice A l.length c],.agg (rR kd qu e pe x)] w (kW w (cK ⟨ro,ep,fr,tg,rd,l⟩ e (l.length:Int) [] true)):=by
 have S:=(St.start w).bV h;have J:=hb;unfold reachBytes at J;obtain⟨R,hR⟩:∃R,cK ⟨ro,ep,fr,tg,rd,l⟩ e (l.length:Int) [] true=R:=⟨_,E⟩;rw[hR];refine gP 15 func108 ?_;refine cw [0,1] ?_;refine zN 2 ?_;refine iU S ?_;intro b1 w2 S3;refine iU S3 ?_;intro b4 w5 S6;refine gD S6 fZ ?_;intro b7 w8 S9;refine zN 11 ?_;refine dJ eQ ((hR▸FW ro ep fr tg rd A c l e (l.length:Int) none 0 [] true I (Nat.le_refl 0) _ Rd.Q8 (St.rd 3 S9 E) hb dQ)) ?_;rintro _ En ⟨M,O,Z,rfl,T15⟩;refine⟨_,E,?_⟩;have mZ:=S9.ext T15 E;refine zN 2 ?_;refine sa 1 mZ kQ ?_;intro w16 zR;refine zN 5 ?_;have qO:=zR.aO [4,3,2,1];exact⟨M,O,by assumption,E,qO⟩
def Vi(ro ep fr tg rd:Int)(A:Option Addr)(c:Nat)(l:List Ev)(kd qu e pe:Int)(x:Ev)(he:0<=e/\e<=1048576)(w:World)(h:Rd w w.heap.size 6 A l.length (aY l))(hb:l.length*48<=reachBytes):
 Calls tP 109 #[.agg #[D ro,D ep,D fr,D tg,D rd,.slice A l.length c],.agg (rR kd qu e pe x)] w (kW w (fT ⟨ro,ep,fr,tg,rd,l⟩ (e+1))):=by
 have S:=(St.start w).bV h;have I:=hb;unfold reachBytes at I;obtain⟨R,hR⟩:∃R,fT ⟨ro,ep,fr,tg,rd,l⟩ (e+1)=R:=⟨_,E⟩;rw[hR];refine gP 13 func109 ?_;refine cw [0,1] ?_;refine zN 2 ?_;refine iU S ?_;intro b1 w2 S3;refine iU S3 ?_;intro b4 w5 S6;refine gD S6 fZ ?_;intro b7 w8 S9;refine zN 8 ?_;refine vv (v:=D (e+1)) iI ?_;refine dJ eQ ((hR▸FU ro ep fr tg rd A c l (e+1) _ (St.rd 3 S9 E) hb)) ?_;rintro _ En ⟨J,M,O,rfl,Z⟩;refine⟨_,E,?_⟩;have mZ:=S9.ext Z E;refine zN 2 ?_;refine sa 1 mZ kQ ?_;intro w16 zR;refine zN 5 ?_;have qO:=zR.aO [4,3,2,1];exact⟨J,M,by assumption,E,qO⟩
def Yw(ro ep fr tg rd:Int)(A:Option Addr)(c:Nat)(l:List Ev)(kd qu e pe:Int)(x:Ev)(hl2:l.length<=2000)(w:World)(h:Rd w w.heap.size 6 A l.length (aY l))(hb:l.length*48<=reachBytes):
 Calls tP 105 #[.agg #[D ro,D ep,D fr,D tg,D rd,.slice A l.length c],.agg (rR kd qu e pe x)] w (kW w (Dj ⟨ro,ep,fr,tg,rd,l⟩ x)):=by
 have S:=(St.start w).bV h;have hb2:=hb;unfold reachBytes at hb2;refine gP 19 func105 ?_;refine cw [0,1] ?_;refine zN 2 ?_;refine iU S ?_;intro b1 w2 S3;refine iU S3 ?_;intro b4 w5 S6;refine gD S6 fZ ?_;intro b7 w8 S9;refine zN 3 ?_;have DI:=S9.nil 49 6;refine nD (X:=Nat×(Option Addr)×Nat) (λxv=>[(2,pV b1 0),(4,pV b7 0),(5,D 0)]) (λxv wr=>St w.heap.size w wr [.Mg xv.1 #[D x.kind,D x.Mr,D x.id,D x.body,D x.MF,D x.Nc] 49,.own 49 6 (.slice xv.2.1 ((0+l.length)+1) xv.2.2) ((0+l.length)+1) ((l++[x]).flatMap Ev.cells),.Mg b7 zB 42,.Mg b4 (rR kd qu e pe x) 138,.Mg b1 #[D ro,D ep,D fr,D tg,D rd,.slice xv.2.1 ((0+l.length)+1) xv.2.2] 42,.rd 6 A l.length ((l).flatMap Ev.cells)]) ?_ ?_
 ·have I:=DI.drew;refine fM 9 7 I [0] ?_;iterate 3 refine gW ?_
  refine gk (v:=.agg #[D x.kind,D x.Mr,D x.id,D x.body,D x.MF,D x.Nc]) 4 E (St.del 0 I) (λ_ anQ=>(aj E E (dP (cs:=[D x.kind,D x.Mr,D x.id,D x.body,D x.MF,D x.Nc]) (St.rg 1 anQ E (mE (x:=4) (m:=6) E))))) ?_;refine aes (m:=4) (r:=2) (s:=5) kQ ?_ ?_
  ·refine lG (i:=2) E E (news:=(l).flatMap Ev.cells) (xs':=(l).flatMap Ev.cells) 0 I (wn E) E E E E E E (St.rd 4 I E) underlying40 qJ E dQ (fP _) lQ Y (E) ?_;intro A16 c17 M0 atY atZ uM;refine gW ?_;refine fE (m:=3) (r:=5) kQ ?_;refine mW (i:=5) E E (V:=λb=>.slice (aD b 0) 1 1) (row:= #[D x.kind,D x.Mr,D x.id,D x.body,D x.MF,D x.Nc]) (t:=49) uM (wn E) E E (aV (vs:=[(0,.agg #[D x.kind,D x.Mr,D x.id,D x.body,D x.MF,D x.Nc])]) E xR kQ) ?_;intro b22 JN kF;refine gW ?_;refine fE (m:=2) (r:=6) kQ ?_;refine lG (i:=6) E E (news:=[D x.kind,D x.Mr,D x.id,D x.body,D x.MF,D x.Nc]) (xs':=(l++[x]).flatMap Ev.cells) 1 kF (wn E) E E E E E E (St.mD (xs:=[D x.kind,D x.Mr,D x.id,D x.body,D x.MF,D x.Nc]) 0 kF E E E) underlying40 qJ E dQ (bY E) lQ Y (jB (enc:=Ev.cells) E E) ?_;intro A25 c26 NZ hc29 aA0 tC;refine gW ?_;refine fC kQ E E E ?_;refine zQ ?_;refine H7 4 tC kQ ?_;intro w31 uw;refine zQ ?_;refine jg ?_;refine dM (b22,A25,c26) ?_ FH;exact uw
  refine mW (i:=5) E E (V:=λb=>.slice (aD b 0) 1 1) (row:= #[D x.kind,D x.Mr,D x.id,D x.body,D x.MF,D x.Nc]) (t:=49) I (wn E) E E (aV (vs:=[(0,.agg #[D x.kind,D x.Mr,D x.id,D x.body,D x.MF,D x.Nc])]) E xR kQ) ?_;intro b33 ZQ Cc;refine gW ?_;refine fE (m:=3) (r:=2) kQ ?_;refine lG (i:=2) E E (news:=(l).flatMap Ev.cells) (xs':=(l).flatMap Ev.cells) 1 Cc (wn E) E E E E E E (St.rd 5 Cc E) underlying40 qJ E dQ (fP _) lQ Y (E) ?_;intro A36 c37 ZO aA1 aA2 xV;refine gW ?_;refine fE (m:=2) (r:=6) kQ ?_;refine lG (i:=6) E E (news:=[D x.kind,D x.Mr,D x.id,D x.body,D x.MF,D x.Nc]) (xs':=(l++[x]).flatMap Ev.cells) 1 xV (wn E) E E E E E E (St.mD (xs:=[D x.kind,D x.Mr,D x.id,D x.body,D x.MF,D x.Nc]) 0 xV E E E) underlying40 qJ E dQ (bY E) lQ Y (jB (enc:=Ev.cells) E E) ?_;intro A42 c43 N7 aJD aJE pQ;refine gW ?_;refine fC kQ E E E ?_;refine zQ ?_;refine H7 4 pQ kQ ?_;intro ZP xX;refine zQ ?_;refine jg ?_;refine dM (b33,A42,c43) ?_ FH;exact xX
 rintro⟨b50,Z,c52⟩ w53 J
 try dsimp only at J
 refine bI (l':=[(2,pV b1 0),(4,pV b7 0),(5,D 0)]) FH (aQ (aQ (aC (vv (aj E E (l6 4 J E underlying42 E kQ E)) ?_))));have M:(l++[x]).length=(0+l.length)+1:=by simp only[length_append,length_cons,length_nil,length_drop,Nat.zero_add]
 have at0:=λ(w:World) (h:Rd w w.heap.size 6 Z ((l++[x]).length) (aY (l++[x])))=>eB ro ep fr tg rd Z c52 (l++[x]) w h Y;rw[M]at at0;refine dJ eQ (at0 _ (St.Rn 1 J E)) ?_;rintro _ w56 ⟨rfl,O⟩;refine⟨_,E,?_⟩;have vQ:=J.on O;clear O J;by_cases h59:au ⟨ro,ep,fr,tg,rd,l++[x]⟩=0
 ·have hsh:=(eT h59).1;unfold bq at hsh;have hln:=gT (eT h59).2;dsimp only at hsh hln;refine zN 9 ?_;refine sa 2 vQ kQ ?_;intro w60 Ie;refine zN 5 ?_;have JO:=Ie.aO [5,4,3,2,0];have hcp:=(eu (JO.own 0 E)).1;have xg:=JO.bJ 0 E;rw[show Dj ⟨ro,ep,fr,tg,rd,l⟩ x=(⟨ro,ep,fr,tg,rd,l++[x]⟩,0)from by unfold Dj;(try dsimp only);exact kZ];refine⟨Z,c52,?_,?_,?_⟩
  · dsimp only;rw[M];exact hcp
  · dsimp only;rw[M];rfl
  · dsimp only;rw[M];exact xg
 refine zN 6 ?_;refine vv jv ?_;refine sa 2 vQ kQ ?_;intro w64 GQ;refine zN 6 ?_;have Ih:=GQ.aO [5,4,3,2,1,0];rw[show Dj ⟨ro,ep,fr,tg,rd,l⟩ x=(⟨0,0,0,0,0,[]⟩,3)from by unfold Dj;(try dsimp only);exact kZ];exact⟨none,0,mF,E,aA Ih⟩
def Vj(ro ep fr tg rd:Int)(A:Option Addr)(c:Nat)(l:List Ev)(kd qu e pe:Int)(x:Ev)(w:World)(h:Rd w w.heap.size 6 A l.length (aY l))(hb:l.length*48<=reachBytes):
 Calls tP 106 #[.agg #[D ro,D ep,D fr,D tg,D rd,.slice A l.length c],.agg (rR kd qu e pe x)] w λe w'=>e=.returned (.tuple #[.agg #[D 3,D ep,D fr,D pe,D rd,.slice A l.length c],D 0])/\Below w.heap.size w w':=by
 have S:=(St.start w).bV h;have J:=hb;unfold reachBytes at J;refine gP 11 func106 ?_;refine cw [0,1] ?_;refine zN 2 ?_;refine iU S ?_;intro b1 w2 S3;refine iU S3 ?_;intro b4 w5 S6;refine gD S6 fZ ?_;intro b7 w8 S9;refine zN 4 ?_;have I:=S9.drew;refine aK 6 I [2] ?_;refine aL 3 ?_;refine bg 3 ?_;refine snz (row':= #[D 3,D ep,D fr,D tg,D rd,.slice A l.length c]) 3 E 2 I kQ ?_;intro Lf M;refine aL 2 ?_;refine bg 5 ?_;refine snz (row':= #[D 3,D ep,D fr,D pe,D rd,.slice A l.length c]) 5 E 2 M kQ ?_;intro MZ O;refine aL 2 ?_;refine zN 4 ?_;refine sa 0 O kQ ?_;intro GH Z;refine zN 5 ?_;exact⟨E,Z.Nr⟩
def Ti(ro ep fr tg rd:Int)(A:Option Addr)(c:Nat)(l:List Ev)(kd qu e pe:Int)(x:Ev)(z:Int)(b1 b2:Nat)(J:l.length<=2000)(w:World)(h:Rd w w.heap.size 6 A l.length (aY l))(hb:l.length*48<=reachBytes)(h1:Rd w w.heap.size 1 (aD b1 0) 1 [D z])(h2:Rd w w.heap.size 1 (aD b2 0) 1 [.func (.func 105) #[] #[]]):
 Calls tP 116 #[.agg #[D ro,D ep,D fr,D tg,D rd,.slice A l.length c],.agg (rR kd qu e pe x),pV b1 0,pV b2 0] w (kW w (if ¬(ro=z/\ep=e)then(bF,3)else Dj ⟨ro,ep,fr,tg,rd,l⟩ x)):=by
 have S:=(((St.start w).bV h2).bV h1).bV h;have M:=hb;unfold reachBytes at M;obtain⟨R,hR⟩:∃R,Dj ⟨ro,ep,fr,tg,rd,l⟩ x=R:=⟨_,E⟩;rw[hR];refine gP 26 func116 ?_;refine cw [0,1,2,3] ?_;refine zN 2 ?_;refine iU S ?_;intro b1 w2 S3;refine iU S3 ?_;intro b4 w5 S6;refine gD S6 fZ ?_;intro b7 w8 I;refine zN 8 ?_;refine vv (v:=D z) (aj E E (aG (Rd.cl (j:=0) (St.rd 4 I E) E))) ?_;by_cases h10:ro=z
 ·refine zN 6 ?_;by_cases h11:ep=e
  ·refine zN 9 ?_;refine vv (v:=.func (.func 105) #[] #[]) (aj E E (aG (Rd.cl (j:=0) (St.rd 5 I E) E))) ?_;refine zN 2 ?_;refine wJ eQ ((hR▸Yw ro ep fr tg rd A c l kd qu e pe x J _ (St.rd 3 I E) hb)) ?_;rintro _ JR ⟨O,Z,aww,rfl,T17⟩;refine⟨_,E,?_⟩;have o8:=I.ext T17 E;refine zN 2 ?_;refine sa 1 o8 kQ ?_;intro M0 uM;refine zN 5 ?_;rw[if_neg Y];have qj:=uM.aO [6,5,4,3,2,1];exact⟨O,Z,by assumption,E,qj⟩
  refine zN 7 ?_;refine vv jv ?_;refine sa 0 I kQ ?_;intro FN jY;refine zN 6 ?_;have tJ:=jY.aO [5,4,3,2,1,0];rw[if_pos Y];exact⟨none,0,zero_le _,E,aA tJ⟩
 refine zN 13 ?_;refine vv jv ?_;refine sa 0 I kQ ?_;intro Oc lH;refine zN 6 ?_;have sU:=lH.aO [5,4,3,2,1,0];rw[if_pos Y];exact⟨none,0,zero_le _,E,aA sU⟩
def pU(ro ep fr tg rd:Int)(A:Option Addr)(c:Nat)(l:List Ev)(kd qu e pe:Int)(x:Ev)(z:Int)(b1 b2:Nat)(w:World)(h:Rd w w.heap.size 6 A l.length (aY l))(hb:l.length*48<=reachBytes)(h1:Rd w w.heap.size 1 (aD b1 0) 1 [D z])(h2:Rd w w.heap.size 1 (aD b2 0) 1 [.func (.func 106) #[] #[]]):
 Calls tP 116 #[.agg #[D ro,D ep,D fr,D tg,D rd,.slice A l.length c],.agg (rR kd qu e pe x),pV b1 0,pV b2 0] w λe' w'=>(¬(ro=z/\ep=e)/\e'=.returned (.tuple #[.agg zB,D 3])\/(ro=z/\ep=e)/\e'=.returned (.tuple #[.agg #[D 3,D ep,D fr,D pe,D rd,.slice A l.length c],D 0]))/\Below w.heap.size w w':=by
 have S:=(((St.start w).bV h2).bV h1).bV h;have M:=hb;unfold reachBytes at M;refine gP 26 func116 ?_;refine cw [0,1,2,3] ?_;refine zN 2 ?_;refine iU S ?_;intro b1 w2 S3;refine iU S3 ?_;intro b4 w5 S6;refine gD S6 fZ ?_;intro b7 w8 I;refine zN 8 ?_;refine vv (v:=D z) (aj E E (aG (Rd.cl (j:=0) (St.rd 4 I E) E))) ?_;by_cases h10:ro=z
 ·refine zN 6 ?_;by_cases h11:ep=e
  ·refine zN 9 ?_;refine vv (v:=.func (.func 106) #[] #[]) (aj E E (aG (Rd.cl (j:=0) (St.rd 5 I E) E))) ?_;refine zN 2 ?_;refine wJ eQ (Vj ro ep fr tg rd A c l kd qu e pe x _ (St.rd 3 I E) hb) ?_;rintro _ w12 ⟨rfl,J⟩;refine⟨_,E,?_⟩;have O:=I.on J;refine zN 2 ?_;refine sa 0 O kQ ?_;intro JR Z;refine zN 5 ?_;exact⟨.inr ⟨by omega,E⟩,Z.Nr⟩
  refine zN 7 ?_;refine vv jv ?_;refine sa 0 I kQ ?_;intro MZ qO;refine zN 6 ?_;exact⟨.inl ⟨by omega,E⟩,qO.Nr⟩
 refine zN 13 ?_;refine vv jv ?_;refine sa 0 I kQ ?_;intro GH qj;refine zN 6 ?_;exact⟨.inl ⟨by omega,E⟩,qj.Nr⟩
def agB(ro ep fr tg rd:Int)(A:Option Addr)(c:Nat)(l:List Ev)(kd qu e pe:Int)(x:Ev)(z:Int)(b1 b2:Nat)(J:l.length<=c)(w:World)(h:Rd w w.heap.size 6 A l.length (aY l))(hb:l.length*48<=reachBytes)(h1:Rd w w.heap.size 1 (aD b1 0) 1 [D z])(h2:Rd w w.heap.size 1 (aD b2 0) 1 [.func (.func 108) #[] #[]]):
 Calls tP 116 #[.agg #[D ro,D ep,D fr,D tg,D rd,.slice A l.length c],.agg (rR kd qu e pe x),pV b1 0,pV b2 0] w (kW w (if ¬(ro=z/\ep=e)then(bF,3)else cK ⟨ro,ep,fr,tg,rd,l⟩ e (l.length:Int) [] true)):=by
 have S:=(((St.start w).bV h2).bV h1).bV h;have M:=hb;unfold reachBytes at M;obtain⟨R,hR⟩:∃R,cK ⟨ro,ep,fr,tg,rd,l⟩ e (l.length:Int) [] true=R:=⟨_,E⟩;rw[hR];refine gP 26 func116 ?_;refine cw [0,1,2,3] ?_;refine zN 2 ?_;refine iU S ?_;intro b1 w2 S3;refine iU S3 ?_;intro b4 w5 S6;refine gD S6 fZ ?_;intro b7 w8 I;refine zN 8 ?_;refine vv (v:=D z) (aj E E (aG (Rd.cl (j:=0) (St.rd 4 I E) E))) ?_;by_cases h10:ro=z
 ·refine zN 6 ?_;by_cases h11:ep=e
  ·refine zN 9 ?_;refine vv (v:=.func (.func 108) #[] #[]) (aj E E (aG (Rd.cl (j:=0) (St.rd 5 I E) E))) ?_;refine zN 2 ?_;refine wJ eQ ((hR▸Vh ro ep fr tg rd A c l kd qu e pe x J _ (St.rd 3 I E) hb)) ?_;rintro _ JR ⟨O,Z,aww,rfl,T17⟩;refine⟨_,E,?_⟩;have o8:=I.ext T17 E;refine zN 2 ?_;refine sa 1 o8 kQ ?_;intro M0 uM;refine zN 5 ?_;rw[if_neg Y];have qj:=uM.aO [6,5,4,3,2,1];exact⟨O,Z,by assumption,E,qj⟩
  refine zN 7 ?_;refine vv jv ?_;refine sa 0 I kQ ?_;intro FN jY;refine zN 6 ?_;have tJ:=jY.aO [5,4,3,2,1,0];rw[if_pos Y];exact⟨none,0,zero_le _,E,aA tJ⟩
 refine zN 13 ?_;refine vv jv ?_;refine sa 0 I kQ ?_;intro Oc lH;refine zN 6 ?_;have sU:=lH.aO [5,4,3,2,1,0];rw[if_pos Y];exact⟨none,0,zero_le _,E,aA sU⟩
def agC(ro ep fr tg rd:Int)(A:Option Addr)(c:Nat)(l:List Ev)(kd qu e pe:Int)(x:Ev)(z:Int)(b1 b2:Nat)(he:0<=e/\e<=1048576)(w:World)(h:Rd w w.heap.size 6 A l.length (aY l))(hb:l.length*48<=reachBytes)(h1:Rd w w.heap.size 1 (aD b1 0) 1 [D z])(h2:Rd w w.heap.size 1 (aD b2 0) 1 [.func (.func 109) #[] #[]]):
 Calls tP 116 #[.agg #[D ro,D ep,D fr,D tg,D rd,.slice A l.length c],.agg (rR kd qu e pe x),pV b1 0,pV b2 0] w (kW w (if ¬(ro=z/\ep=e)then(bF,3)else fT ⟨ro,ep,fr,tg,rd,l⟩ (e+1))):=by
 have S:=(((St.start w).bV h2).bV h1).bV h;have J:=hb;unfold reachBytes at J;obtain⟨R,hR⟩:∃R,fT ⟨ro,ep,fr,tg,rd,l⟩ (e+1)=R:=⟨_,E⟩;rw[hR];refine gP 26 func116 ?_;refine cw [0,1,2,3] ?_;refine zN 2 ?_;refine iU S ?_;intro b1 w2 S3;refine iU S3 ?_;intro b4 w5 S6;refine gD S6 fZ ?_;intro b7 w8 I;refine zN 8 ?_;refine vv (v:=D z) (aj E E (aG (Rd.cl (j:=0) (St.rd 4 I E) E))) ?_;by_cases h10:ro=z
 ·refine zN 6 ?_;by_cases h11:ep=e
  ·refine zN 9 ?_;refine vv (v:=.func (.func 109) #[] #[]) (aj E E (aG (Rd.cl (j:=0) (St.rd 5 I E) E))) ?_;refine zN 2 ?_;refine wJ eQ ((hR▸Vi ro ep fr tg rd A c l kd qu e pe x he _ (St.rd 3 I E) hb)) ?_;rintro _ JR ⟨M,O,Z,rfl,T17⟩;refine⟨_,E,?_⟩;have o8:=I.ext T17 E;refine zN 2 ?_;refine sa 1 o8 kQ ?_;intro M0 uM;refine zN 5 ?_;rw[if_neg Y];have qj:=uM.aO [6,5,4,3,2,1];exact⟨M,O,by assumption,E,qj⟩
  refine zN 7 ?_;refine vv jv ?_;refine sa 0 I kQ ?_;intro FN jY;refine zN 6 ?_;have tJ:=jY.aO [5,4,3,2,1,0];rw[if_pos Y];exact⟨none,0,zero_le _,E,aA tJ⟩
 refine zN 13 ?_;refine vv jv ?_;refine sa 0 I kQ ?_;intro Oc lH;refine zN 6 ?_;have sU:=lH.aO [5,4,3,2,1,0];rw[if_pos Y];exact⟨none,0,zero_le _,E,aA sU⟩
def sV(z:Int)(n:FuncId)(w:World):
 Calls tP 104 #[D z,.func (.func n) #[] #[]] w λe w'=> ∃b1 b2,e=.returned (.func (.func 116) #[] #[pV b1 0,pV b2 0])/\St w.heap.size w w' [.Mg b1 #[D z] 3,.Mg b2 #[.func (.func n) #[] #[]] 172]:=by
 have S:=St.start w;refine gP 6 func104 ?_;refine cw [0,1] ?_;refine zN 2 ?_;refine VW S ?_;intro b1 O h;refine VW h ?_;intro b4 I J;refine zN 5 ?_;refine vv JJ ?_;refine zN 5 ?_;have M:St w.heap.size w I [_,_]:=J.re [1,0] dQ;exact⟨b1,b4,E,M⟩
def agD(w:World)(e:Ending)(w':World):Prop:= ∃m d1 g1 d2 g2 d3 g3 d4 g4 d5 g5,e=.returned (.map (some m))/\St w.heap.size w w' [.Mg d5 #[D 3] 3,.Mg g5 #[.func (.func 109) #[] #[]] 172,.Mg d4 #[D 4] 3,.Mg g4 #[.func (.func 108) #[] #[]] 172,.Mg d3 #[D 4] 3,.Mg g3 #[.func (.func 105) #[] #[]] 172,.Mg d2 #[D 1] 3,.Mg g2 #[.func (.func 106) #[] #[]] 172,.Mg d1 #[D 1] 3,.Mg g1 #[.func (.func 105) #[] #[]] 172,.loc m (qw tP 3 (λy=>if y=7 then some (.func (.func 116) #[] #[pV d5 0,pV g5 0])else(λy=>if y=6 then some (.func (.func 116) #[] #[pV d4 0,pV g4 0])else(λy=>if y=5 then some (.func (.func 116) #[] #[pV d3 0,pV g3 0])else(λy=>if y=4 then some (.func (.func 107) #[] #[])else(λy=>if y=3 then some (.func (.func 116) #[] #[pV d2 0,pV g2 0])else(λy=>if y=2 then some (.func (.func 116) #[] #[pV d1 0,pV g1 0])else(λy=>if y=1 then some (.func (.func 103) #[] #[])else(λ_=>none) y) y) y) y) y) y) y) 7)]
def nP(w:World):
 Calls tP 80 #[] w (agD w):=by
 have S:=St.start w;refine gP 8 func80 ?_;refine bI (l':=[]) trivial (aQ (aC (va ?_)));refine zN 4 ?_;refine Kk (k:=3) S (wn E) E E E ?_;intro b1 w2 S3;refine kV (e:=172) 0 S3 (wn E) E E E E E E underlying3 underlying173 dQ dQ ?_;intro w4 S5;refine dJ eQ (sV 1 105 _) ?_;rintro _ w8 ⟨b6,b7,rfl,h⟩;refine⟨_,E,?_⟩;have S9:=S5.ext h E;refine kV (e:=172) 2 S9 (wn E) E E E E E E underlying3 underlying173 dQ dQ ?_;intro Ib I;refine dJ eQ (sV 1 106 _) ?_;rintro _ JR ⟨J,M,rfl,O⟩;refine⟨_,E,?_⟩;have Z:=I.ext O E;refine kV (e:=172) 4 Z (wn E) E E E E E E underlying3 underlying173 dQ dQ ?_;intro M0 uM;refine kV (e:=172) 4 uM (wn E) E E E E E E underlying3 underlying173 dQ dQ ?_;intro ZN vC;refine dJ eQ (sV 4 105 _) ?_;rintro _ Oc ⟨b22,AJ,rfl,T26⟩;refine⟨_,E,?_⟩;have lH:=vC.ext T26 E;refine kV (e:=172) 6 lH (wn E) E E E E E E underlying3 underlying173 dQ dQ ?_;intro NZ tC;refine dJ eQ (sV 4 108 _) ?_;rintro _ w31 ⟨b29,b30,rfl,T33⟩;refine⟨_,E,?_⟩;have uw:=tC.ext T33 E;refine kV (e:=172) 8 uw (wn E) E E E E E E underlying3 underlying173 dQ dQ ?_;intro ZQ Cc;refine dJ eQ (sV 3 109 _) ?_;rintro _ ZO ⟨Oj,b37,rfl,T40⟩;refine⟨_,E,?_⟩;have xV:=Cc.ext T40 E;refine kV (e:=172) 10 xV (wn E) E E E E E E underlying3 underlying173 dQ dQ ?_;intro w41 Eo;refine zN 6 ?_;exact⟨b1,b6,b7,J,M,b22,AJ,b29,b30,Oj,b37,E,Eo⟩
def mG(w:World)(r:aU×Int)(e:Ending)(w':World):Prop:= ∃A c,∃_:r.1.Gs.length<=c,e=.returned (.tuple #[.agg #[D r.1.Gq,D r.1.ep,D r.1.fr,D r.1.tg,D r.1.rd,.slice A r.1.Gs.length c],D r.2])/\St w.heap.size w w' [.cZ 6 A r.1.Gs.length (aY r.1.Gs)]
section
variable {b:aU}{r:cO}{qu e pe:Int}{x:Ev}
def AL(h:aH r=0):1<=r.kind/\r.kind<=7/\0<=r.Nt/\r.Nt<=3/\0<=r.Mc/\r.Mc<=1048576/\0<=r.Rl/\r.Rl<=4:=by
 unfold aH at h
 split at h
 ·cases h
 rename_i h1
 split at h
 ·cases h
 rename_i I
 simp[kL]at h1 I;omega
def agE(h:¬(1<=r.kind/\r.kind<=7)):aH r=3:=by
 unfold aH;rw[if_pos (by simp[kL];omega)]
def AO(h:¬au b=0):eF b r=(bF,au b):=by unfold eF;rw[if_pos h]
def AP(h:au b=0)(h1:¬aH r=0):eF b r=(bF,aH r):=by unfold eF;rw[if_neg (λk=>k h),if_pos h1]
def Bz(h:au b=0)(h1:aH r=0)(I:b.Gq=2\/(r.kind≠3/\r.kind≠4/\r.Rl≠0)):eF b r=(bF,3):=by unfold eF;rw[if_neg (λk=>k h),if_neg (λk=>k h1),if_pos I]
def uY(h:au b=0)(h1:aH r=0)(I:¬(kP b r).2=0):eF b r=(bF,3):=by
 unfold eF;rw[if_neg (λk=>k h),if_neg (λk=>k h1)];split
 ·rfl
 first|rfl|rw[if_pos I]
def kG(h:au b=0)(h1:aH r=0)(I:¬(b.Gq=2\/(r.kind≠3/\r.kind≠4/\r.Rl≠0)))(J:(kP b r).2=0):eF b r=((kP b r).1,0):=by
 unfold eF;rw[if_neg (λk=>k h),if_neg (λk=>k h1),if_neg I,if_neg (λk=>k J)]
def ara:kP b ⟨1,qu,e,pe,x⟩=iX b e:=by simp[kP]
def aeY:kP b ⟨2,qu,e,pe,x⟩=if ¬(b.Gq=1/\b.ep=e)then(bF,3)else Dj b x:=by simp[kP]
def rZ:kP b ⟨3,qu,e,pe,x⟩=if ¬(b.Gq=1/\b.ep=e)then(bF,3)else Xd b pe:=by simp[kP]
def arb:kP b ⟨4,qu,e,pe,x⟩=dw b e pe:=by simp[kP]
def aeZ:kP b ⟨5,qu,e,pe,x⟩=if ¬(b.Gq=4/\b.ep=e)then(bF,3)else Dj b x:=by simp[kP]
def ard:kP b ⟨6,qu,e,pe,x⟩=if ¬(b.Gq=4/\b.ep=e)then(bF,3)else cK b e b.Gs.length [] true:=by simp[kP]
def arf:kP b ⟨7,qu,e,pe,x⟩=if ¬(b.Gq=3/\b.ep=e)then(bF,3)else fT b (e+1):=by simp[kP]
def agF{a:Int}:(cK b e a [] true).1.Gs.length<=b.Gs.length+1:=by
 unfold cK
 repeat' split
 all_goals simp[bF]
def EY:(kP b r).1.Gs.length<=b.Gs.length+1:=by
 have h:=agF (b:=b) (e:=r.Mc) (a:=b.Gs.length);unfold kP
 (repeat' split)<;>first|exact h|(unfold iX;(repeat' split)<;>simp[bF])|(unfold dw;(repeat' split)<;>simp[bF])|(unfold fT;(repeat' split)<;>simp[bF])|(unfold Dj;(repeat' split)<;>simp[bF])|simp[bF,Xd]
end
def Jf{P:Program}{f:FuncId}{vs:Array Value}{w:World}{p:Prop}{X dz:Ending}{B:Nat}(h:Calls P f vs w (λI w'=>(¬p/\I=X\/p/\I=dz)/\Below B w w'))(J:p):Calls P f vs w (λI w'=>I=dz/\Below B w w'):=
 h.mono λ_ _ k=>⟨k.1.elim (λq=>absurd J q.1) (λq=>q.2),k.2⟩
def Ol{P:Program}{f:FuncId}{vs:Array Value}{w:World}{p:Prop}{X dz:Ending}{B:Nat}(h:Calls P f vs w (λI w'=>(¬p/\I=X\/p/\I=dz)/\Below B w w'))(J:¬p):Calls P f vs w (λI w'=>I=X/\Below B w w'):=
 h.mono λ_ _ k=>⟨k.1.elim (λq=>q.2) (λq=>absurd q.1 J),k.2⟩
def St.yD{B:Nat}{w0 w:World}{fs:List J8}{b:Nat}{R R':Obj->Prop}(i:Nat)(S:St B w0 w fs)(hi:fs[i]? =some (.loc b R))(h:∀o,R o->R' o):St B w0 w (fs.set i (.loc b R')):=by
 obtain⟨o,I,J⟩:=S.loc i hi;exact S.VN i hi ⟨E,E,E,E,λ_ _=>E⟩ I (h _ J)
def q8{P:Program}{k:TypeId}{f:Int->Option Value}{n:Nat}{o:Obj}{z:Int}{v:Value}(h:qw P k f n o)(M:f z=some v):qw P k (λy=>if y=z then some v else none) n o:=by
 obtain⟨es,c,e,h⟩:=h;refine⟨es,c,e,λw b O=>?_⟩;obtain⟨dS,h1,Z⟩:=h w b O;refine⟨dS,h1,λy u I=>?_⟩;dsimp only at I;by_cases J:y=z
 ·rw[if_pos J]at I;cases I;rw[J];exact Z z v M
 rw[if_neg J]at I;cases I
def Tj(w:World):Calls tP 80 #[] w λe w'=> ∃m,e=.returned (.map (some m))/\St w.heap.size w w' [.loc m (qw tP 3 (λy=>if y=1 then some (.func (.func 103) #[] #[])else none) 7)]:=
 (nP w).mono λ_ _ ⟨m,I,J,M,g2,O,Z,d4,g4,d5,g5,h,S⟩=>⟨m,h,(St.del 0 (St.del 1 (St.del 2 (St.del 3 (St.del 4 (St.del 5 (St.del 6 (St.del 7 (St.del 8 (St.del 9 (St.yD 10 S E (λ_ h=>q8 h (z:=1) E))))))))))))⟩
def agG(w:World):Calls tP 80 #[] w λe w'=> ∃m I J,e=.returned (.map (some m))/\St w.heap.size w w' [.Mg I #[D 1] 3,.Mg J #[.func (.func 105) #[] #[]] 172,.loc m (qw tP 3 (λy=>if y=2 then some (.func (.func 116) #[] #[pV I 0,pV J 0])else none) 7)]:=
 (nP w).mono λ_ _ ⟨m,I,J,M,g2,O,Z,d4,g4,d5,g5,h,S⟩=>⟨m,I,J,h,(St.del 0 (St.del 1 (St.del 2 (St.del 3 (St.del 4 (St.del 5 (St.del 6 (St.del 7 (St.yD 10 S E (λ_ h=>q8 h (z:=2) E))))))))))⟩
def Tk(w:World):Calls tP 80 #[] w λe w'=> ∃m I g2,e=.returned (.map (some m))/\St w.heap.size w w' [.Mg I #[D 1] 3,.Mg g2 #[.func (.func 106) #[] #[]] 172,.loc m (qw tP 3 (λy=>if y=3 then some (.func (.func 116) #[] #[pV I 0,pV g2 0])else none) 7)]:=
 (nP w).mono λ_ _ ⟨m,J,M,I,g2,O,Z,d4,g4,d5,g5,h,S⟩=>⟨m,I,g2,h,(St.del 0 (St.del 1 (St.del 2 (St.del 3 (St.del 4 (St.del 5 (St.del 8 (St.del 9 (St.yD 10 S E (λ_ h=>q8 h (z:=3) E))))))))))⟩
def Tm(w:World):Calls tP 80 #[] w λe w'=> ∃m,e=.returned (.map (some m))/\St w.heap.size w w' [.loc m (qw tP 3 (λy=>if y=4 then some (.func (.func 107) #[] #[])else none) 7)]:=
 (nP w).mono λ_ _ ⟨m,I,J,M,g2,O,Z,d4,g4,d5,g5,h,S⟩=>⟨m,h,(St.del 0 (St.del 1 (St.del 2 (St.del 3 (St.del 4 (St.del 5 (St.del 6 (St.del 7 (St.del 8 (St.del 9 (St.yD 10 S E (λ_ h=>q8 h (z:=4) E))))))))))))⟩
def agH(w:World):Calls tP 80 #[] w λe w'=> ∃m I J,e=.returned (.map (some m))/\St w.heap.size w w' [.Mg I #[D 4] 3,.Mg J #[.func (.func 105) #[] #[]] 172,.loc m (qw tP 3 (λy=>if y=5 then some (.func (.func 116) #[] #[pV I 0,pV J 0])else none) 7)]:=
 (nP w).mono λ_ _ ⟨m,M,O,Z,g2,I,J,d4,g4,d5,g5,h,S⟩=>⟨m,I,J,h,(St.del 0 (St.del 1 (St.del 2 (St.del 3 (St.del 6 (St.del 7 (St.del 8 (St.del 9 (St.yD 10 S E (λ_ h=>q8 h (z:=5) E))))))))))⟩
def agI(w:World):Calls tP 80 #[] w λe w'=> ∃m I J,e=.returned (.map (some m))/\St w.heap.size w w' [.Mg I #[D 4] 3,.Mg J #[.func (.func 108) #[] #[]] 172,.loc m (qw tP 3 (λy=>if y=6 then some (.func (.func 116) #[] #[pV I 0,pV J 0])else none) 7)]:=
 (nP w).mono λ_ _ ⟨m,M,O,Z,g2,d3,g3,I,J,d5,g5,h,S⟩=>⟨m,I,J,h,(St.del 0 (St.del 1 (St.del 4 (St.del 5 (St.del 6 (St.del 7 (St.del 8 (St.del 9 (St.yD 10 S E (λ_ h=>q8 h (z:=6) E))))))))))⟩
def agJ(w:World):Calls tP 80 #[] w λe w'=> ∃m I J,e=.returned (.map (some m))/\St w.heap.size w w' [.Mg I #[D 3] 3,.Mg J #[.func (.func 109) #[] #[]] 172,.loc m (qw tP 3 (λy=>if y=7 then some (.func (.func 116) #[] #[pV I 0,pV J 0])else none) 7)]:=
 (nP w).mono λ_ _ ⟨m,M,O,Z,g2,d3,g3,d4,g4,I,J,h,S⟩=>⟨m,I,J,h,(St.del 2 (St.del 3 (St.del 4 (St.del 5 (St.del 6 (St.del 7 (St.del 8 (St.del 9 (St.yD 10 S E (λ_ h=>q8 h (z:=7) E))))))))))⟩
def Lr(k:Int)(h:k≠3/\k≠4)(w:World):
 Calls tP 79 #[D k] w (FM w true):=by
 have S:=St.start w;refine gP 9 func79 ?_;refine cw [0] ?_;refine zN 18 ?_;exact⟨E,S.Nr⟩
def Lu(k:Int)(h:k=3\/k=4)(w:World):
 Calls tP 79 #[D k] w (FM w false):=by
 have S:=St.start w;refine gP 9 func79 ?_;refine cw [0] ?_;refine zN 8 ?_;by_cases h1:k=3
 ·refine zN 10 ?_;exact⟨E,S.Nr⟩
 refine zN 3 ?_;by_cases I:k=4
 ·refine zN 7 ?_;exact⟨E,S.Nr⟩
 refine zN 7 ?_;omega
def Jg(T:List aU)(q:Int):aU:=T.getD q.toNat bF
noncomputable def oq:List cO->Nat->List aU->Option (List aU)×Nat×Int
 |[],_,T=>(some T,0,0)
 |r::rs,i,T=>if aH r≠0 then(none,i,aH r)else if (eF (Jg T r.Nt) r).2≠0 then(none,i,(eF (Jg T r.Nt) r).2)else oq rs (i+1) (T.set r.Nt.toNat (eF (Jg T r.Nt) r).1)
noncomputable def allM(l:List cO):Option (List aU)×Nat×Int:=oq l 0 [bF,bF,bF,bF]
section
variable {l:List cO}{k:Nat}{r:cO}{T:List aU}{R:aU×Int}
def Rc{α:Type}{l:List α}{k:Nat}{x:α}(h:l[k]? =some x):l.drop k=x::l.drop (k+1):=by
 obtain⟨I,rfl⟩:=List.getElem?_eq_some_iff.1 h;exact drop_eq_getElem_cons I
def akZ(h:l[k]? =some r)(I:¬aH r=0):oq (l.drop k) k T=(none,k,aH r):=by rw[Rc h,oq,if_pos I]
def ZX(h:l[k]? =some r)(I:aH r=0)(J:eF (Jg T r.Nt) r=R)(M:¬R.2=0):oq (l.drop k) k T=(none,k,R.2):=by subst J;rw[Rc h,oq,if_neg (by simp[I]),if_pos M]
def Tn(h:l[k]? =some r)(I:aH r=0)(J:eF (Jg T r.Nt) r=R)(M:R.2=0):oq (l.drop k) k T=oq (l.drop (k+1)) (k+1) (T.set r.Nt.toNat R.1):=by subst J;rw[Rc h,oq,if_neg (by simp[I]),if_neg (by simp[M])]
def ak0(h:l.length<=k):oq (l.drop k) k T=(some T,0,0):=by rw[drop_of_length_le h,oq]
end
structure BX where
 b:aU
 A:Option Addr
 c:Nat
def BX.cells(x:BX):List Value:=[D x.b.Gq,D x.b.ep,D x.b.fr,D x.b.tg,D x.b.rd,.slice x.A x.b.Gs.length x.c]
def Rb:BX:=⟨bF,none,0⟩
def tu:List BX:=[Rb,Rb,Rb,Rb]
def ak1(l:List BX):∀u∈l.flatMap BX.cells,u.oneCell'=true:=by
 intro u h;rw[mem_flatMap]at h;obtain⟨z,_,I⟩:=h;simp[BX.cells]at I
 rcases I with rfl|rfl|rfl|rfl|rfl|rfl<;>rfl
def ae0(x:BX):J8:=.cZ 6 x.A x.b.Gs.length (aY x.b.Gs)
def fK(bs:List BX):List J8:=bs.map ae0
section
variable {B:Nat}{w0 w:World}{bs:List BX}{k:Nat}{y:BX}
def ak2{q:Int}(h:bs[q.toNat]? =some y):Jg (bs.map BX.b) q=y.b:=by
 unfold Jg;rw[getD_eq_getElem?_getD,getElem?_map,h];rfl
def ae1(pre:List J8)(S:St B w0 w (pre++fK bs))(h:bs[k]? =some y):Rd w w.heap.size 6 y.A y.b.Gs.length (aY y.b.Gs):=
 St.cZ (pre.length+k) S (by rw[getElem?_append_right (le_add_right _ _),Nat.add_sub_cancel_left,fK,getElem?_map,h];rfl)
def St.pull{fs fs':List J8}(σ:Nat->Nat)(S:St B w0 w fs)(hs:∀(i:Nat) (f:J8),fs'[i]? =some f->fs[σ i]? =some f)(hi:∀i j:Nat,i≠j->i<fs'.length->j<fs'.length->σ i≠σ j):St B w0 w fs':=
 ⟨S.Nr,S.base,λi f h=>S.all _ f (hs i f h),λi j f g I h1 J=>S.sep _ _ f g (hi i j I (List.getElem?_eq_some_iff.1 h1).1 (List.getElem?_eq_some_iff.1 J).1) (hs i f h1) (hs j g J)⟩
def ae2(pre:List J8){z:BX}(S:St B w0 w (pre++(ae0 z::fK bs)))(J:k<bs.length):St B w0 w (pre++fK (bs.set k z)):=by
 refine St.pull (λi=>if i<pre.length then i else if i=pre.length+k then pre.length else i+1) S (λi f h=>?_) (λi j M _ _=>?_)
 ·by_cases h1:i<pre.length
  ·simp only[if_pos h1];rw[getElem?_append_left h1]at h⊢;exact h
  obtain⟨d,rfl⟩:∃d,i=pre.length+d:=⟨i-pre.length,by omega⟩;rw[getElem?_append_right (le_add_right _ _),Nat.add_sub_cancel_left,fK,map_set,getElem?_set]at h;simp only[if_neg h1];by_cases I:k=d
  ·subst I;rw[if_pos E]at h;rw[if_pos E,getElem?_append_right (Nat.le_refl _),Nat.sub_self];rw[length_map,if_pos J]at h;exact h
  rw[if_neg I]at h;rw[if_neg Y,getElem?_append_right Y,show pre.length+d+1-pre.length=d+1 from by omega];exact h
 repeat' split
 all_goals omega
def ak3{h I:J8}(S:St B w0 w [h,I]):St B w0 w (h::I::fK tu):=(aA (s:=6) (aA (s:=6) (aA (s:=6) (aA (s:=6) S)))).re [4,5,0,1,2,3] dQ
end
def qK{α:Type}{enc:α->List Value}{sz:Nat}(I:∀x,(enc x).length=sz)(z:α):∀(k:Nat) (l:List α),k<l.length->sN (l.flatMap enc) (k*sz) (enc z)=(l.set k z).flatMap enc
 |_,[],h=>absurd h (not_lt_zero _)
 | 0,x::l,_=>by
  rw[flatMap_cons,Nat.zero_mul,set_cons_zero,flatMap_cons];have:∀(vs us xs:List Value),us.length=vs.length->sN (us++xs) 0 vs=vs++xs:=by
   have J:∀(vs us ps xs:List Value),us.length=vs.length->sN (ps++(us++xs)) ps.length vs=ps++(vs++xs):=by
    intro vs
    induction vs with
    |nil=>intro us ps xs h;rw[length_eq_zero_iff.1 h];rfl
    |cons v vs M=>
     intro us ps xs h;obtain⟨u,us,rfl⟩:∃u O,us=u::O:=by
      cases us with
      |nil=>simp at h
      |cons u us=>exact⟨u,us,E⟩
     rw[sN];have e:(ps++(u::us++xs)).set ps.length v=(ps++[v])++(us++xs):=by simp
     rw[e];have:=M us (ps++[v]) xs (by simpa using h);rw[length_append]at this;rw[show ps.length+1=ps.length+[v].length from E,this];simp
   intro vs us xs h;exact J vs us [] xs h
  exact this _ _ _ (by rw[I,I])
 |k+1,x::l,h=>by
  rw[flatMap_cons,set_cons_succ,flatMap_cons,<-qK I z k l (by simpa using h)];have J:∀(vs us xs:List Value) (j:Nat),sN (us++xs) (us.length+j) vs=us++sN xs j vs:=by
   intro vs
   induction vs with
   |nil=>intro us xs j;rfl
   |cons v vs M=>
    intro us xs j;rw[sN,sN,set_append_right _ _ (le_add_right _ _),Nat.add_sub_cancel_left,Nat.add_assoc,M]
  rw[succ_mul,Nat.add_comm,<-I x,J]
def arh(w:World)(R:Option (List aU)×Nat×Int)(e:Ending)(w':World):Prop:=
 (R.1=none->e=.returned (.tuple #[.slice none 0 0,D (R.2.1:Int),D R.2.2])/\Below w.heap.size w w')/\
 (∀T,R.1=some T-> ∃b bs,bs.map BX.b=T/\bs.length=4/\(∀y∈bs,y.b.Gs.length<=y.c)/\e=.returned (.tuple #[.slice (some ⟨b,0,none⟩) 4 4,D (R.2.1:Int),D R.2.2])/\St w.heap.size w w' (.own 42 6 (.slice (some ⟨b,0,none⟩) 4 4) 4 (bs.flatMap BX.cells)::fK bs))
def ab2{b:aU}{r:cO}:(eF b r).1.Gs.length<=b.Gs.length+1:=by
 have h:=EY (b:=b) (r:=r);unfold eF
 repeat' split
 all_goals first|exact h|simp[bF]
def agK(ro ep fr tg rd:Int)(A:Option Addr)(c:Nat)(l:List Ev)(kd qu e pe:Int)(x:Ev)(hk:¬(1<=kd/\kd<=7))(w:World)(h:Rd w w.heap.size 6 A l.length (aY l))(hb:l.length*48<=reachBytes):
 Calls prog 60 #[.agg #[D ro,D ep,D fr,D tg,D rd,.slice A l.length c],.agg #[D kd,D qu,D e,D pe,D x.kind,D x.Mr,D x.id,D x.body,D x.MF,D x.Nc]] w (mG w (eF ⟨ro,ep,fr,tg,rd,l⟩ ⟨kd,qu,e,pe,x⟩)):=by
 have S:=(St.start w).bV h;have M:=hb;unfold reachBytes at M;refine gP 54 func60 ?_;refine cw [0,1] ?_;refine zN 2 ?_;refine iU S ?_;intro b1 w2 S3;refine iU S3 ?_;intro b4 w5 S6;refine gD S6 fZ ?_;intro b7 w8 S9;refine zN 7 ?_;refine Rq eQ S9 (eB ro ep fr tg rd A c l _ (St.rd 3 S9 E) Y) ?_;intro ZL J;refine zN 6 ?_;by_cases I:au ⟨ro,ep,fr,tg,rd,l⟩=0
 ·have O:=gT (eT I).2;dsimp only at O;refine zN 10 ?_;refine Rq eQ J (jM ⟨kd,qu,e,pe,x⟩ _) ?_;intro Lf Z;refine zN 6 ?_;have hne:¬aH ⟨kd,qu,e,pe,x⟩=0:=by rw[agE (by exact hk)];decide
  refine zN 6 ?_;refine vv jv ?_;refine zQ ?_;refine sa 0 Z kQ ?_;intro MZ qO;refine zN 6 ?_;have uM:=qO.aO [3,2,1,0];rw[AP I hne];exact⟨none,0,Nat.le_refl 0,E,aA uM⟩
 refine zN 6 ?_;refine vv jv ?_;refine zQ ?_;refine sa 0 J kQ ?_;intro ZN vC;refine zN 6 ?_;have jY:=vC.aO [3,2,1,0];rw[AO I];exact⟨none,0,Nat.le_refl 0,E,aA jY⟩
def agL(ro ep fr tg rd:Int)(A:Option Addr)(c:Nat)(l:List Ev)(qu e pe:Int)(x:Ev)(hlc:l.length<=c)(w:World)(h:Rd w w.heap.size 6 A l.length (aY l))(hb:l.length*48<=reachBytes):
 Calls tP 60 #[.agg #[D ro,D ep,D fr,D tg,D rd,.slice A l.length c],.agg (rR 1 qu e pe x)] w (mG w (eF ⟨ro,ep,fr,tg,rd,l⟩ ⟨1,qu,e,pe,x⟩)):=by
 have S:=(St.start w).bV h;have hb2:=hb;unfold reachBytes at hb2;obtain⟨R,hR⟩:∃R,kP ⟨ro,ep,fr,tg,rd,l⟩ ⟨1,qu,e,pe,x⟩=R:=⟨_,E⟩;have hM:=hR;rw[ara]at hM
 try dsimp only at hM
 have amY:R.1.Gs.length<=l.length+1:=by rw[<-hR];exact EY
 refine gP 54 func60 ?_;refine cw [0,1] ?_;refine zN 2 ?_;refine iU S ?_;intro b1 w2 S3;refine iU S3 ?_;intro b4 w5 S6;refine gD S6 fZ ?_;intro b7 w8 S9;refine zN 7 ?_;refine Rq eQ S9 (eB ro ep fr tg rd A c l _ (St.rd 3 S9 E) Y) ?_;intro ZL Ay;refine zN 6 ?_;by_cases I:au ⟨ro,ep,fr,tg,rd,l⟩=0
 ·have hln:=gT (eT I).2;dsimp only at hln;refine zN 10 ?_;refine Rq eQ Ay (jM ⟨1,qu,e,pe,x⟩ _) ?_;intro Lf jm;refine zN 6 ?_;by_cases J:aH ⟨1,qu,e,pe,x⟩=0
  ·have hrz:=AL J;dsimp only at hrz;refine zN 11 ?_;by_cases h18:ro=2
   ·refine zN 16 ?_;refine vv jv ?_;refine sa 0 jm kQ ?_;intro GH qj;refine zN 6 ?_;have vC:=qj.aO [3,2,1,0];rw[Bz I J uQ];exact⟨none,0,Nat.le_refl 0,E,aA vC⟩
   refine zN 4 ?_;refine yO eQ (Lr 1 dQ _) ?_;rintro _ w22 ⟨rfl,Om⟩;refine⟨_,E,?_⟩;have tJ:=jm.on Om;refine zN 3 ?_;by_cases uN:pe=0
   ·refine zN 8 ?_;refine nD (X:=Nat×(Option Addr)×Nat×Nat) (λxv=>[(4,pV b7 0),(5,D 0),(8,pV xv.1 0),(9,D R.2)]) (λxv wr=>St w.heap.size w wr [.Mg xv.1 (bR R.1 xv.2.1 xv.2.2.1) 42,.cZ 6 xv.2.1 R.1.Gs.length ((R.1.Gs).flatMap Ev.cells),.loc xv.2.2.2 (qw tP 3 (λy=>if y=1 then some (.func (.func 103) #[] #[])else none) 7),.Mg b7 zB 42,.Mg b4 (rR 1 qu e pe x) 138,.Mg b1 #[D ro,D ep,D fr,D tg,D rd,.slice A l.length c] 42,.rd 6 A l.length ((l).flatMap Ev.cells)]) ?_ ?_
    ·have sU:=tJ.drew;refine aK 13 sU [] ?_;refine aL 4 ?_;refine iG (n:=8) (r:=0) (s:=10) kQ ?_ ?_
     ·refine kE 0 E eQ (Tj _) ?_;rintro _ w32 ⟨m31,rfl,T34⟩;refine⟨_,E,?_⟩;have M:=sU.ext T34 E;refine dG ?_;refine iG (n:=7) (r:=3) (s:=10) kQ ?_ ?_
      ·refine ji (i:=3) E E (v:=.func (.func 103) #[] #[]) (wn E) E E (kr 0 M E E E E underlying3 underlying173 (zeroValue172 _) dQ E) ?_;refine dG ?_;refine iG (n:=6) (r:=6) (s:=10) kQ ?_ ?_
       ·have HC:=wS ro ep fr tg rd A c l 1 qu e pe x _ (St.rd 4 M E) hb;rw[hM]at HC;refine nC 6 E eQ (HC) ?_;rintro _ ZO ⟨A35,c36,aGf,rfl,T40⟩;refine⟨_,E,?_⟩;have xV:=M.ext T40 E;clear HC;refine aL 4 ?_;refine bg 10 ?_;refine lW 10 E xV fZ ?_;intro b44 w45 xk;refine dG ?_;refine bg 11 ?_;refine sn 11 E 0 xk kQ ?_;intro w47 AA;refine aL 3 ?_;refine dM (b44,A35,c36,m31) ?_ jX;exact AA
       refine lW 10 E M fZ ?_;intro b50 w51 pG;refine dG ?_;refine bg 6 ?_;have HC:=wS ro ep fr tg rd A c l 1 qu e pe x _ (St.rd 5 pG E) hb;rw[hM]at HC;refine nC 6 E eQ (HC) ?_;rintro _ w56 ⟨A53,c54,aGg,rfl,T58⟩;refine⟨_,E,?_⟩;have vQ:=pG.ext T58 E;clear HC;refine aL 4 ?_;refine bg 11 ?_;refine sn 11 E 1 vQ kQ ?_;intro ZK xg;refine aL 3 ?_;have GQ:St w.heap.size w ZK [_,_,_,_,_,_,_]:=xg.re [1,0,2,3,4,5,6] dQ;refine dM (b50,A53,c54,m31) ?_ jX;exact GQ
      refine lW 10 E M fZ ?_;intro b66 w67 CU;refine dG ?_;refine bg 3 ?_;refine ji (i:=3) E E (v:=.func (.func 103) #[] #[]) (wn E) E E (kr 1 CU E E E E underlying3 underlying173 (zeroValue172 _) dQ E) ?_;refine dG ?_;refine bg 6 ?_;have HC:=wS ro ep fr tg rd A c l 1 qu e pe x _ (St.rd 5 CU E) hb;rw[hM]at HC;refine nC 6 E eQ (HC) ?_;rintro _ w72 ⟨A69,c70,aGh,rfl,T74⟩;refine⟨_,E,?_⟩;have uq:=CU.ext T74 E;clear HC;refine aL 4 ?_;refine bg 11 ?_;refine sn 11 E 1 uq kQ ?_;intro w78 BZ;refine aL 3 ?_;have uo:St w.heap.size w w78 [_,_,_,_,_,_,_]:=BZ.re [1,0,2,3,4,5,6] dQ;refine dM (b66,A69,c70,m31) ?_ jX;exact uo
     refine lW 10 E sU fZ ?_;intro b82 w83 FR;refine dG ?_;refine bg 0 ?_;refine kE 0 E eQ (Tj _) ?_;rintro _ w86 ⟨m85,rfl,T88⟩;refine⟨_,E,?_⟩;have GK:=FR.ext T88 E;refine dG ?_;refine bg 3 ?_;refine ji (i:=3) E E (v:=.func (.func 103) #[] #[]) (wn E) E E (kr 0 GK E E E E underlying3 underlying173 (zeroValue172 _) dQ E) ?_;refine dG ?_;refine bg 6 ?_;have HC:=wS ro ep fr tg rd A c l 1 qu e pe x _ (St.rd 5 GK E) hb;rw[hM]at HC;refine nC 6 E eQ (HC) ?_;rintro _ w92 ⟨A89,c90,aGi,rfl,T94⟩;refine⟨_,E,?_⟩;have DF:=GK.ext T94 E;clear HC;refine aL 4 ?_;refine bg 11 ?_;refine sn 11 E 2 DF kQ ?_;intro w98 S99;refine aL 3 ?_;have wR:St w.heap.size w w98 [_,_,_,_,_,_,_]:=S99.re [2,0,1,3,4,5,6] dQ;refine dM (b82,A89,c90,m85) ?_ jX;exact wR
    rintro⟨aA3,aJF,aJG,aJH⟩ abT O
    try dsimp only at O
    refine bI (l':=[(4,pV b7 0),(5,D 0),(8,pV aA3 0),(9,D R.2)]) jX (aQ (aQ (aC (vm ?_))));by_cases aog:R.2=0
    ·refine zN 7 ?_;have Je:=O.nil 49 6;refine zN 3 ?_;refine dU (news:=(R.1.Gs).flatMap Ev.cells) (xs':=(R.1.Gs).flatMap Ev.cells) 0 Je (wn E) E E E E E E (St.cZ 2 Je E) underlying40 qJ E dQ (fP _) lQ Y (E) ?_;intro aik ail abE hc114 aGj vM;refine zQ ?_;refine H7 1 vM kQ ?_;intro at1 Ao;refine zN 5 ?_;refine sa 4 Ao kQ ?_;intro aoh xY;refine zN 5 ?_;have Z:=xY.aO [7,6,5,4,3,2,1];rw[kG I J uQ (by rw[hR];exact aog),hR];rw[Nat.zero_add]at Z⊢;exact⟨aik,ail,(eu (Z.own 0 E)).1,E,Z.bJ 0 E⟩
    refine zN 6 ?_;refine vv jv ?_;refine sa 3 O kQ ?_;intro ab1 Di;refine zN 6 ?_;have zY:=Di.aO [6,5,4,3,2,1,0];rw[uY I J (by rw[hR];exact aog)];exact⟨none,0,Nat.le_refl 0,E,aA zY⟩
   refine zN 8 ?_;refine vv jv ?_;refine sa 0 tJ kQ ?_;intro as3 Sc;refine zN 6 ?_;have xW:=Sc.aO [3,2,1,0];rw[Bz I J uQ];exact⟨none,0,Nat.le_refl 0,E,aA xW⟩
  refine zN 6 ?_;refine vv jv ?_;refine zQ ?_;refine sa 0 jm kQ ?_;intro abl Dh;refine zN 6 ?_;have Am:=Dh.aO [3,2,1,0];rw[AP I J];exact⟨none,0,Nat.le_refl 0,E,aA Am⟩
 refine zN 6 ?_;refine vv jv ?_;refine zQ ?_;refine sa 0 Ay kQ ?_;intro aoi yU;refine zN 6 ?_;have yP:=yU.aO [3,2,1,0];rw[AO I];exact⟨none,0,Nat.le_refl 0,E,aA yP⟩
def EZ {k z:Int} {F:FuncId} {AR:aU×Int} (ro ep fr tg rd:Int) (A:Option Addr) (c:Nat) (l:List Ev) (qu e pe:Int) (x:Ev) (hk:k≠3/\k≠4) (hkr: -9223372036854775808<=k/\k<=9223372036854775807) (hact:kP ⟨ro,ep,fr,tg,rd,l⟩ ⟨k,qu,e,pe,x⟩=if ¬ (ro=z/\ep=e) then (bF,3) else AR)
    (hra:∀w,Calls tP 80 #[] w λe w'=> ∃m d g,e=.returned (.map (some m))/\St w.heap.size w w' [.Mg d #[D z] 3,.Mg g #[.func (.func F) #[] #[]] 172,.loc m (qw tP 3 (λy=>if y=k then some (.func (.func 116) #[] #[pV d 0,pV g 0])else none) 7)])
    (ho:∀(b1 b2:Nat) (_:l.length<=2000) (_:0<=e/\e<=1048576) (w:World) (_:Rd w w.heap.size 6 A l.length (aY l)) (_:l.length*48<=reachBytes) (_:Rd w w.heap.size 1 (aD b1 0) 1 [D z]) (_:Rd w w.heap.size 1 (aD b2 0) 1 [.func (.func F) #[] #[]]),Calls tP 116 #[.agg #[D ro,D ep,D fr,D tg,D rd,.slice A l.length c],.agg (rR k qu e pe x),pV b1 0,pV b2 0] w (kW w (if ¬(ro=z/\ep=e)then(bF,3)else AR)))
    (hlc:l.length<=c) (w:World) (h:Rd w w.heap.size 6 A l.length (aY l)) (hb:l.length*48<=reachBytes):
    Calls tP 60 #[.agg #[D ro,D ep,D fr,D tg,D rd,.slice A l.length c],.agg (rR k qu e pe x)] w (mG w (eF ⟨ro,ep,fr,tg,rd,l⟩ ⟨k,qu,e,pe,x⟩)):=by
 have S:=(St.start w).bV h;have hb2:=hb;unfold reachBytes at hb2;obtain⟨R,hR⟩:∃R,kP ⟨ro,ep,fr,tg,rd,l⟩ ⟨k,qu,e,pe,x⟩=R:=⟨_,E⟩;have hM:=hR;rw[hact]at hM
 try dsimp only at hM
 have amY:R.1.Gs.length<=l.length+1:=by rw[<-hR];exact EY
 refine gP 54 func60 ?_;refine cw [0,1] ?_;refine zN 2 ?_;refine iU S ?_;intro b1 w2 S3;refine iU S3 ?_;intro b4 w5 S6;refine gD S6 fZ ?_;intro b7 w8 S9;refine zN 7 ?_;refine Rq eQ S9 (eB ro ep fr tg rd A c l _ (St.rd 3 S9 E) Y) ?_;intro ZL Ay;refine zN 6 ?_;by_cases M:au ⟨ro,ep,fr,tg,rd,l⟩=0
 ·have hln:=gT (eT M).2;dsimp only at hln;refine zN 10 ?_;refine Rq eQ Ay (jM ⟨k,qu,e,pe,x⟩ _) ?_;intro Lf jm;refine zN 6 ?_;by_cases Z:aH ⟨k,qu,e,pe,x⟩=0
  ·have hrz:=AL Z;dsimp only at hrz;refine zN 11 ?_;by_cases h18:ro=2
   ·refine zN 16 ?_;refine vv jv ?_;refine sa 0 jm kQ ?_;intro GH qj;refine zN 6 ?_;have vC:=qj.aO [3,2,1,0];rw[Bz M Z uQ];exact⟨none,0,Nat.le_refl 0,E,aA vC⟩
   refine zN 4 ?_;refine yO eQ (Lr k hk _) ?_;rintro _ w22 ⟨rfl,Om⟩;refine⟨_,E,?_⟩;have tJ:=jm.on Om;refine zN 3 ?_;by_cases uN:pe=0
   ·refine zN 8 ?_;refine nD (X:=Nat×(Option Addr)×Nat×Nat×Nat×Nat) (λxv=>[(4,pV b7 0),(5,D 0),(8,pV xv.1 0),(9,D R.2)]) (λxv wr=>St w.heap.size w wr [.Mg xv.1 (bR R.1 xv.2.1 xv.2.2.1) 42,.cZ 6 xv.2.1 R.1.Gs.length ((R.1.Gs).flatMap Ev.cells),.Mg xv.2.2.2.1 #[D z] 3,.Mg xv.2.2.2.2.1 #[.func (.func F) #[] #[]] 172,.loc xv.2.2.2.2.2 (qw tP 3 (λy=>if y=k then some (.func (.func 116) #[] #[pV xv.2.2.2.1 0,pV xv.2.2.2.2.1 0])else none) 7),.Mg b7 zB 42,.Mg b4 (rR k qu e pe x) 138,.Mg b1 #[D ro,D ep,D fr,D tg,D rd,.slice A l.length c] 42,.rd 6 A l.length ((l).flatMap Ev.cells)]) ?_ ?_
    ·have sU:=tJ.drew;refine aK 13 sU [] ?_;refine aL 4 ?_;refine iG (n:=8) (r:=0) (s:=10) kQ ?_ ?_
     ·refine kE 0 E eQ (hra _) ?_;rintro _ ZQ ⟨m31,I,J,rfl,T36⟩;refine⟨_,E,?_⟩;have O:=sU.ext T36 E;refine dG ?_;refine iG (n:=7) (r:=3) (s:=10) kQ ?_ ?_
      ·refine ji (i:=3) E E (v:=.func (.func 116) #[] #[pV I 0,pV J 0]) (wn E) E E (kr 2 O E E E E underlying3 underlying173 (zeroValue172 _) hkr (if_pos E)) ?_;refine dG ?_;refine iG (n:=6) (r:=6) (s:=10) kQ ?_ ?_
       ·have HC:=ho I J Y Y _ (St.rd 6 O E) hb (St.mD (xs:=[D z]) 0 O E E E) (St.mD (xs:=[.func (.func F) #[] #[]]) 1 O E E E);rw[hM]at HC;refine nC 6 E eQ (HC) ?_;rintro _ w40 ⟨A37,c38,aGk,rfl,T42⟩;refine⟨_,E,?_⟩;have JL:=O.ext T42 E;clear HC;refine aL 4 ?_;refine bg 10 ?_;refine lW 10 E JL fZ ?_;intro b46 w47 AA;refine dG ?_;refine bg 11 ?_;refine sn 11 E 0 AA kQ ?_;intro w49 wu;refine aL 3 ?_;refine dM (b46,A37,c38,I,J,m31) ?_ jX;exact wu
       refine lW 10 E O fZ ?_;intro b52 w53 uO;refine dG ?_;refine bg 6 ?_;have HC:=ho I J Y Y _ (St.rd 7 uO E) hb (St.mD (xs:=[D z]) 1 uO E E E) (St.mD (xs:=[.func (.func F) #[] #[]]) 2 uO E E E);rw[hM]at HC;refine nC 6 E eQ (HC) ?_;rintro _ w58 ⟨A55,c56,aGl,rfl,T60⟩;refine⟨_,E,?_⟩;have Ca:=uO.ext T60 E;clear HC;refine aL 4 ?_;refine bg 11 ?_;refine sn 11 E 1 Ca kQ ?_;intro w64 GQ;refine aL 3 ?_;have uL:St w.heap.size w w64 [_,_,_,_,_,_,_,_,_]:=GQ.re [1,0,2,3,4,5,6,7,8] dQ;refine dM (b52,A55,c56,I,J,m31) ?_ jX;exact uL
      refine lW 10 E O fZ ?_;intro b68 w69 yK;refine dG ?_;refine bg 3 ?_;refine ji (i:=3) E E (v:=.func (.func 116) #[] #[pV I 0,pV J 0]) (wn E) E E (kr 3 yK E E E E underlying3 underlying173 (zeroValue172 _) hkr (if_pos E)) ?_;refine dG ?_;refine bg 6 ?_;have HC:=ho I J Y Y _ (St.rd 7 yK E) hb (St.mD (xs:=[D z]) 1 yK E E E) (St.mD (xs:=[.func (.func F) #[] #[]]) 2 yK E E E);rw[hM]at HC;refine nC 6 E eQ (HC) ?_;rintro _ w74 ⟨A71,c72,aGm,rfl,T76⟩;refine⟨_,E,?_⟩;have Em:=yK.ext T76 E;clear HC;refine aL 4 ?_;refine bg 11 ?_;refine sn 11 E 1 Em kQ ?_;intro w80 uo;refine aL 3 ?_;have Dz:St w.heap.size w w80 [_,_,_,_,_,_,_,_,_]:=uo.re [1,0,2,3,4,5,6,7,8] dQ;refine dM (b68,A71,c72,I,J,m31) ?_ jX;exact Dz
     refine lW 10 E sU fZ ?_;intro b84 w85 Cg;refine dG ?_;refine bg 0 ?_;refine kE 0 E eQ (hra _) ?_;rintro _ w90 ⟨m87,d88,g89,rfl,T92⟩;refine⟨_,E,?_⟩;have QX:=Cg.ext T92 E;refine dG ?_;refine bg 3 ?_;refine ji (i:=3) E E (v:=.func (.func 116) #[] #[pV d88 0,pV g89 0]) (wn E) E E (kr 2 QX E E E E underlying3 underlying173 (zeroValue172 _) hkr (if_pos E)) ?_;refine dG ?_;refine bg 6 ?_;have HC:=ho d88 g89 Y Y _ (St.rd 7 QX E) hb (St.mD (xs:=[D z]) 0 QX E E E) (St.mD (xs:=[.func (.func F) #[] #[]]) 1 QX E E E);rw[hM]at HC;refine nC 6 E eQ (HC) ?_;rintro _ w96 ⟨A93,c94,aGn,rfl,T98⟩;refine⟨_,E,?_⟩;have DJ:=QX.ext T98 E;clear HC;refine aL 4 ?_;refine bg 11 ?_;refine sn 11 E 4 DJ kQ ?_;intro an9 vN;refine aL 3 ?_;have sO:St w.heap.size w an9 [_,_,_,_,_,_,_,_,_]:=vN.re [4,0,1,2,3,5,6,7,8] dQ;refine dM (b84,A93,c94,d88,g89,m87) ?_ jX;exact sO
    rintro⟨ain,Xe,Xf,aJI,aJJ,aJK⟩ abE vM
    try dsimp only at vM
    refine bI (l':=[(4,pV b7 0),(5,D 0),(8,pV ain 0),(9,D R.2)]) jX (aQ (aQ (aC (vm ?_))));by_cases GR:R.2=0
    ·refine zN 7 ?_;have qx:=vM.nil 49 6;refine zN 3 ?_;refine dU (news:=(R.1.Gs).flatMap Ev.cells) (xs':=(R.1.Gs).flatMap Ev.cells) 0 qx (wn E) E E E E E E (St.cZ 2 qx E) underlying40 qJ E dQ (fP _) lQ Y (E) ?_;intro aA4 c117 aoh aGo aGp xY;refine zQ ?_;refine H7 1 xY kQ ?_;intro anZ zY;refine zN 5 ?_;refine sa 6 zY kQ ?_;intro as3 Sc;refine zN 5 ?_;have xW:=Sc.aO [9,8,7,6,5,4,3,2,1];rw[kG M Z uQ (by rw[hR];exact GR),hR];rw[Nat.zero_add]at xW⊢;exact⟨aA4,c117,(eu (xW.own 0 E)).1,E,xW.bJ 0 E⟩
    refine zN 6 ?_;refine vv jv ?_;refine sa 5 vM kQ ?_;intro abl Dh;refine zN 6 ?_;have Am:=Dh.aO [8,7,6,5,4,3,2,1,0];rw[uY M Z (by rw[hR];exact GR)];exact⟨none,0,Nat.le_refl 0,E,aA Am⟩
   refine zN 8 ?_;refine vv jv ?_;refine sa 0 tJ kQ ?_;intro aoi yU;refine zN 6 ?_;have yP:=yU.aO [3,2,1,0];rw[Bz M Z uQ];exact⟨none,0,Nat.le_refl 0,E,aA yP⟩
  refine zN 6 ?_;refine vv jv ?_;refine zQ ?_;refine sa 0 jm kQ ?_;intro abv zZ;refine zN 6 ?_;have GN:=zZ.aO [3,2,1,0];rw[AP M Z];exact⟨none,0,Nat.le_refl 0,E,aA GN⟩
 refine zN 6 ?_;refine vv jv ?_;refine zQ ?_;refine sa 0 Ay kQ ?_;intro abF ES;refine zN 6 ?_;have EP:=ES.aO [3,2,1,0];rw[AO M];exact⟨none,0,Nat.le_refl 0,E,aA EP⟩
def agM(ro ep fr tg rd:Int)(A:Option Addr)(c:Nat)(l:List Ev)(qu e pe:Int)(x:Ev)(I:l.length<=c)(w:World)(h:Rd w w.heap.size 6 A l.length (aY l))(J:l.length*48<=reachBytes):
 Calls tP 60 #[.agg #[D ro,D ep,D fr,D tg,D rd,.slice A l.length c],.agg (rR 2 qu e pe x)] w (mG w (eF ⟨ro,ep,fr,tg,rd,l⟩ ⟨2,qu,e,pe,x⟩)):=
 EZ (z:=1) (F:=105) ro ep fr tg rd A c l qu e pe x dQ dQ aeY agG (λb1 b2 h1 M=>Ti ro ep fr tg rd A c l 2 qu e pe x _ b1 b2 h1) I w h J
def agN(ro ep fr tg rd:Int)(A:Option Addr)(c:Nat)(l:List Ev)(qu e pe:Int)(x:Ev)(I:l.length<=c)(w:World)(h:Rd w w.heap.size 6 A l.length (aY l))(J:l.length*48<=reachBytes):
 Calls tP 60 #[.agg #[D ro,D ep,D fr,D tg,D rd,.slice A l.length c],.agg (rR 5 qu e pe x)] w (mG w (eF ⟨ro,ep,fr,tg,rd,l⟩ ⟨5,qu,e,pe,x⟩)):=
 EZ (z:=4) (F:=105) ro ep fr tg rd A c l qu e pe x dQ dQ aeZ agH (λb1 b2 h1 M=>Ti ro ep fr tg rd A c l 5 qu e pe x _ b1 b2 h1) I w h J
def agO(ro ep fr tg rd:Int)(A:Option Addr)(c:Nat)(l:List Ev)(qu e pe:Int)(x:Ev)(I:l.length<=c)(w:World)(h:Rd w w.heap.size 6 A l.length (aY l))(J:l.length*48<=reachBytes):
 Calls tP 60 #[.agg #[D ro,D ep,D fr,D tg,D rd,.slice A l.length c],.agg (rR 6 qu e pe x)] w (mG w (eF ⟨ro,ep,fr,tg,rd,l⟩ ⟨6,qu,e,pe,x⟩)):=
 EZ (z:=4) (F:=108) ro ep fr tg rd A c l qu e pe x dQ dQ ard agI (λb1 b2 h1 M=>agB ro ep fr tg rd A c l 6 qu e pe x _ b1 b2 I) I w h J
def agP(ro ep fr tg rd:Int)(A:Option Addr)(c:Nat)(l:List Ev)(qu e pe:Int)(x:Ev)(I:l.length<=c)(w:World)(h:Rd w w.heap.size 6 A l.length (aY l))(J:l.length*48<=reachBytes):
 Calls tP 60 #[.agg #[D ro,D ep,D fr,D tg,D rd,.slice A l.length c],.agg (rR 7 qu e pe x)] w (mG w (eF ⟨ro,ep,fr,tg,rd,l⟩ ⟨7,qu,e,pe,x⟩)):=
 EZ (z:=3) (F:=109) ro ep fr tg rd A c l qu e pe x dQ dQ arf agJ (λb1 b2 h1 M=>agC ro ep fr tg rd A c l 7 qu e pe x _ b1 b2 M) I w h J
def agQ(ro ep fr tg rd:Int)(A:Option Addr)(c:Nat)(l:List Ev)(qu e pe:Int)(x:Ev)(hlc:l.length<=c)(w:World)(h:Rd w w.heap.size 6 A l.length (aY l))(hb:l.length*48<=reachBytes):
 Calls prog 60 #[.agg #[D ro,D ep,D fr,D tg,D rd,.slice A l.length c],.agg #[D 3,D qu,D e,D pe,D x.kind,D x.Mr,D x.id,D x.body,D x.MF,D x.Nc]] w (mG w (eF ⟨ro,ep,fr,tg,rd,l⟩ ⟨3,qu,e,pe,x⟩)):=by
 have S:=(St.start w).bV h;have hb2:=hb;unfold reachBytes at hb2;refine gP 54 func60 ?_;refine cw [0,1] ?_;refine zN 2 ?_;refine iU S ?_;intro b1 w2 S3;refine iU S3 ?_;intro b4 w5 S6;refine gD S6 fZ ?_;intro b7 w8 S9;refine zN 7 ?_;refine Rq eQ S9 (eB ro ep fr tg rd A c l _ (St.rd 3 S9 E) Y) ?_;intro ZL Ay;refine zN 6 ?_;by_cases O:au ⟨ro,ep,fr,tg,rd,l⟩=0
 ·have hln:=gT (eT O).2;dsimp only at hln;refine zN 10 ?_;refine Rq eQ Ay (jM ⟨3,qu,e,pe,x⟩ _) ?_;intro Lf jm;refine zN 6 ?_;by_cases Z:aH ⟨3,qu,e,pe,x⟩=0
  ·have hrz:=AL Z;dsimp only at hrz;refine zN 11 ?_;by_cases h18:ro=2
   ·refine zN 16 ?_;refine vv jv ?_;refine sa 0 jm kQ ?_;intro GH qj;refine zN 6 ?_;have vC:=qj.aO [3,2,1,0];rw[Bz O Z uQ];exact⟨none,0,Nat.le_refl 0,E,aA vC⟩
   refine zN 4 ?_;refine yO eQ (Lu 3 dQ _) ?_;rintro _ w22 ⟨rfl,Om⟩;refine⟨_,E,?_⟩;have tJ:=jm.on Om;refine zN 12 ?_;have lH:=tJ.drew;refine aK 13 lH [] ?_;refine aL 4 ?_;refine iG (n:=8) (r:=0) (s:=10) kQ ?_ ?_
   ·refine kE 0 E eQ (Tk _) ?_;rintro _ w33 ⟨m30,d31,g32,rfl,T35⟩;refine⟨_,E,?_⟩;have qY:=lH.ext T35 E;refine dG ?_;refine iG (n:=7) (r:=3) (s:=10) kQ ?_ ?_
    ·refine ji (i:=3) E E (v:=.func (.func 116) #[] #[pV d31 0,pV g32 0]) (wn E) E E (kr 2 qY E E E E underlying3 underlying173 (zeroValue172 _) dQ E) ?_;refine dG ?_;refine iG (n:=6) (r:=6) (s:=10) kQ ?_ ?_
     ·by_cases I:ro=1/\ep=e
      ·refine nC 6 E eQ (Jf (pU ro ep fr tg rd A c l 3 qu e pe x 1 d31 g32 _ (St.rd 6 qY E) hb (St.mD (xs:=[D 1]) 0 qY E E E) (St.mD (xs:=[.func (.func 106) #[] #[]]) 1 qY E E E)) I) ?_;rintro _ w36 ⟨rfl,aA5⟩;refine⟨_,E,?_⟩;have yJ:=qY.on aA5;refine aL 4 ?_;refine bg 10 ?_;refine lW 10 E yJ fZ ?_;intro b42 w43 FQ;refine dG ?_;refine bg 11 ?_;refine sn 11 E 0 FQ kQ ?_;intro w45 xk;refine aL 3 ?_;refine zN 12 ?_;have AA:=xk.nil 49 6;refine zN 3 ?_;refine dU (news:=(l).flatMap Ev.cells) (xs':=(l).flatMap Ev.cells) 0 AA (wn E) E E E E E E (St.rd 8 AA E) underlying40 qJ E dQ (fP _) lQ Y (E) ?_;intro A49 c50 w51 aJL aJM pG;refine zQ ?_;refine H7 1 pG kQ ?_;intro w55 V4;refine zN 5 ?_;refine sa 5 V4 kQ ?_;intro w57 DL;refine zN 5 ?_;have Ca:=DL.aO [8,7,6,5,4,3,2,1];rw[kG O Z uQ (by rw[rZ,if_neg (λh=>h I)];rfl),rZ,if_neg (λh=>h I)];rw[Nat.zero_add]at Ca⊢;exact⟨A49,c50,(eu (Ca.own 0 E)).1,E,Ca.bJ 0 E⟩
      refine nC 6 E eQ (Ol (pU ro ep fr tg rd A c l 3 qu e pe x 1 d31 g32 _ (St.rd 6 qY E) hb (St.mD (xs:=[D 1]) 0 qY E E E) (St.mD (xs:=[.func (.func 106) #[] #[]]) 1 qY E E E)) I) ?_;rintro _ w60 ⟨rfl,at6⟩;refine⟨_,E,?_⟩;have Ie:=qY.on at6;refine aL 4 ?_;refine bg 10 ?_;refine lW 10 E Ie fZ ?_;intro b66 w67 CU;refine dG ?_;refine bg 11 ?_;refine sn 11 E 0 CU kQ ?_;intro w69 yK;refine aL 3 ?_;refine zN 11 ?_;refine vv jv ?_;refine sa 4 yK kQ ?_;intro w72 uq;refine zN 6 ?_;have Lc:=uq.aO [7,6,5,4,3,2,1,0];rw[uY O Z (by rw[rZ,if_pos I];decide)];exact⟨none,0,Nat.le_refl 0,E,aA Lc⟩
     refine lW 10 E qY fZ ?_;intro b75 w76 DC;refine dG ?_;refine bg 6 ?_;by_cases I:ro=1/\ep=e
     ·refine nC 6 E eQ (Jf (pU ro ep fr tg rd A c l 3 qu e pe x 1 d31 g32 _ (St.rd 7 DC E) hb (St.mD (xs:=[D 1]) 1 DC E E E) (St.mD (xs:=[.func (.func 106) #[] #[]]) 2 DC E E E)) I) ?_;rintro _ w78 ⟨rfl,aA6⟩;refine⟨_,E,?_⟩;have BZ:=DC.on aA6;refine aL 4 ?_;refine bg 11 ?_;refine sn 11 E 0 BZ kQ ?_;intro w84 JW;refine aL 3 ?_;refine zN 12 ?_;have GK:=JW.nil 49 6;refine zN 3 ?_;refine dU (news:=(l).flatMap Ev.cells) (xs':=(l).flatMap Ev.cells) 0 GK (wn E) E E E E E E (St.rd 8 GK E) underlying40 qJ E dQ (fP _) lQ Y (E) ?_;intro A88 c89 w90 aJN aJO QX;refine zQ ?_;refine H7 1 QX kQ ?_;intro w94 Lp;refine zN 5 ?_;refine sa 5 Lp kQ ?_;intro w96 DJ;refine zN 5 ?_;have DT:=DJ.aO [8,7,6,5,4,3,2,1];rw[kG O Z uQ (by rw[rZ,if_neg (λh=>h I)];rfl),rZ,if_neg (λh=>h I)];rw[Nat.zero_add]at DT⊢;exact⟨A88,c89,(eu (DT.own 0 E)).1,E,DT.bJ 0 E⟩
     refine nC 6 E eQ (Ol (pU ro ep fr tg rd A c l 3 qu e pe x 1 d31 g32 _ (St.rd 7 DC E) hb (St.mD (xs:=[D 1]) 1 DC E E E) (St.mD (xs:=[.func (.func 106) #[] #[]]) 2 DC E E E)) I) ?_;rintro _ w99 ⟨rfl,awx⟩;refine⟨_,E,?_⟩;have wM:=DC.on awx;refine aL 4 ?_;refine bg 11 ?_;refine sn 11 E 0 wM kQ ?_;intro aua Mt;refine aL 3 ?_;refine zN 11 ?_;refine vv jv ?_;refine sa 4 Mt kQ ?_;intro atV Je;refine zN 6 ?_;have qZ:=Je.aO [7,6,5,4,3,2,1,0];rw[uY O Z (by rw[rZ,if_pos I];decide)];exact⟨none,0,Nat.le_refl 0,E,aA qZ⟩
    refine lW 10 E qY fZ ?_;intro aJP abE J;refine dG ?_;refine bg 3 ?_;refine ji (i:=3) E E (v:=.func (.func 116) #[] #[pV d31 0,pV g32 0]) (wn E) E E (kr 3 J E E E E underlying3 underlying173 (zeroValue172 _) dQ E) ?_;refine dG ?_;refine bg 6 ?_;by_cases I:ro=1/\ep=e
    ·refine nC 6 E eQ (Jf (pU ro ep fr tg rd A c l 3 qu e pe x 1 d31 g32 _ (St.rd 7 J E) hb (St.mD (xs:=[D 1]) 1 J E E E) (St.mD (xs:=[.func (.func 106) #[] #[]]) 2 J E E E)) I) ?_;rintro _ aif ⟨rfl,awy⟩;refine⟨_,E,?_⟩;have qx:=J.on awy;refine aL 4 ?_;refine bg 11 ?_;refine sn 11 E 0 qx kQ ?_;intro atd GU;refine aL 3 ?_;refine zN 12 ?_;have zY:=GU.nil 49 6;refine zN 3 ?_;refine dU (news:=(l).flatMap Ev.cells) (xs':=(l).flatMap Ev.cells) 0 zY (wn E) E E E E E E (St.rd 8 zY E) underlying40 qJ E dQ (fP _) lQ Y (E) ?_;intro an3 an4 an2 aGq aGr Sd;refine zQ ?_;refine H7 1 Sd kQ ?_;intro aoi yU;refine zN 5 ?_;refine sa 5 yU kQ ?_;intro aA7 Sj;refine zN 5 ?_;have zZ:=Sj.aO [8,7,6,5,4,3,2,1];rw[kG O Z uQ (by rw[rZ,if_neg (λh=>h I)];rfl),rZ,if_neg (λh=>h I)];rw[Nat.zero_add]at zZ⊢;exact⟨an3,an4,(eu (zZ.own 0 E)).1,E,zZ.bJ 0 E⟩
    refine nC 6 E eQ (Ol (pU ro ep fr tg rd A c l 3 qu e pe x 1 d31 g32 _ (St.rd 7 J E) hb (St.mD (xs:=[D 1]) 1 J E E E) (St.mD (xs:=[.func (.func 106) #[] #[]]) 2 J E E E)) I) ?_;rintro _ asQ ⟨rfl,awz⟩;refine⟨_,E,?_⟩;have GL:=J.on awz;refine aL 4 ?_;refine bg 11 ?_;refine sn 11 E 0 GL kQ ?_;intro aub I8;refine aL 3 ?_;refine zN 11 ?_;refine vv jv ?_;refine sa 4 I8 kQ ?_;intro aib Mj;refine zN 6 ?_;have R9:=Mj.aO [7,6,5,4,3,2,1,0];rw[uY O Z (by rw[rZ,if_pos I];decide)];exact⟨none,0,Nat.le_refl 0,E,aA R9⟩
   refine lW 10 E lH fZ ?_;intro aAo aAp Ak;refine dG ?_;refine bg 0 ?_;refine kE 0 E eQ (Tk _) ?_;rintro _ auc ⟨aJQ,aoj,aok,rfl,aA8⟩;refine⟨_,E,?_⟩;have M:=Ak.ext aA8 E;refine dG ?_;refine bg 3 ?_;refine ji (i:=3) E E (v:=.func (.func 116) #[] #[pV aoj 0,pV aok 0]) (wn E) E E (kr 2 M E E E E underlying3 underlying173 (zeroValue172 _) dQ E) ?_;refine dG ?_;refine bg 6 ?_;by_cases I:ro=1/\ep=e
   ·refine nC 6 E eQ (Jf (pU ro ep fr tg rd A c l 3 qu e pe x 1 aoj aok _ (St.rd 7 M E) hb (St.mD (xs:=[D 1]) 0 M E E E) (St.mD (xs:=[.func (.func 106) #[] #[]]) 1 M E E E)) I) ?_;rintro _ aJR ⟨rfl,awC⟩;refine⟨_,E,?_⟩;have aoc:=M.on awC;refine aL 4 ?_;refine bg 11 ?_;refine sn 11 E 3 aoc kQ ?_;intro aJS aA9;refine aL 3 ?_;refine zN 12 ?_;have yR:=aA9.nil 49 6;refine zN 3 ?_;refine dU (news:=(l).flatMap Ev.cells) (xs':=(l).flatMap Ev.cells) 0 yR (wn E) E E E E E E (St.rd 8 yR E) underlying40 qJ E dQ (fP _) lQ Y (E) ?_;intro aBa c167 an0 aGs aGt Mk;refine zQ ?_;refine H7 4 Mk kQ ?_;intro aol Xg;refine zN 5 ?_;refine sa 5 Xg kQ ?_;intro aBb Xa;refine zN 5 ?_;have ab3:=Xa.aO [8,7,6,5,4,3,2,1];rw[kG O Z uQ (by rw[rZ,if_neg (λh=>h I)];rfl),rZ,if_neg (λh=>h I)];rw[Nat.zero_add]at ab3⊢;exact⟨aBa,c167,(eu (ab3.own 0 E)).1,E,ab3.bJ 0 E⟩
   refine nC 6 E eQ (Ol (pU ro ep fr tg rd A c l 3 qu e pe x 1 aoj aok _ (St.rd 7 M E) hb (St.mD (xs:=[D 1]) 0 M E E E) (St.mD (xs:=[.func (.func 106) #[] #[]]) 1 M E E E)) I) ?_;rintro _ aBd ⟨rfl,awD⟩;refine⟨_,E,?_⟩;have Xc:=M.on awD;refine aL 4 ?_;refine bg 11 ?_;refine sn 11 E 3 Xc kQ ?_;intro aJT aBe;refine aL 3 ?_;refine zN 11 ?_;refine vv jv ?_;refine sa 4 aBe kQ ?_;intro aJU aBf;refine zN 6 ?_;have aom:=aBf.aO [7,6,5,4,3,2,1,0];rw[uY O Z (by rw[rZ,if_pos I];decide)];exact⟨none,0,Nat.le_refl 0,E,aA aom⟩
  refine zN 6 ?_;refine vv jv ?_;refine zQ ?_;refine sa 0 jm kQ ?_;intro aJV aBg;refine zN 6 ?_;have aon:=aBg.aO [3,2,1,0];rw[AP O Z];exact⟨none,0,Nat.le_refl 0,E,aA aon⟩
 refine zN 6 ?_;refine vv jv ?_;refine zQ ?_;refine sa 0 Ay kQ ?_;intro aJW aBh;refine zN 6 ?_;have Sk:=aBh.aO [3,2,1,0];rw[AO O];exact⟨none,0,Nat.le_refl 0,E,aA Sk⟩
def agR(ro ep fr tg rd:Int)(A:Option Addr)(c:Nat)(l:List Ev)(qu e pe:Int)(x:Ev)(hlc:l.length<=c)(w:World)(h:Rd w w.heap.size 6 A l.length (aY l))(hb:l.length*48<=reachBytes):
 Calls tP 60 #[.agg #[D ro,D ep,D fr,D tg,D rd,.slice A l.length c],.agg (rR 4 qu e pe x)] w (mG w (eF ⟨ro,ep,fr,tg,rd,l⟩ ⟨4,qu,e,pe,x⟩)):=by
 have S:=(St.start w).bV h;have hb2:=hb;unfold reachBytes at hb2;obtain⟨R,hR⟩:∃R,kP ⟨ro,ep,fr,tg,rd,l⟩ ⟨4,qu,e,pe,x⟩=R:=⟨_,E⟩;have hM:=hR;rw[arb]at hM
 try dsimp only at hM
 have amY:R.1.Gs.length<=l.length+1:=by rw[<-hR];exact EY
 refine gP 54 func60 ?_;refine cw [0,1] ?_;refine zN 2 ?_;refine iU S ?_;intro b1 w2 S3;refine iU S3 ?_;intro b4 w5 S6;refine gD S6 fZ ?_;intro b7 w8 S9;refine zN 7 ?_;refine Rq eQ S9 (eB ro ep fr tg rd A c l _ (St.rd 3 S9 E) Y) ?_;intro ZL Ay;refine zN 6 ?_;by_cases I:au ⟨ro,ep,fr,tg,rd,l⟩=0
 ·have hln:=gT (eT I).2;dsimp only at hln;refine zN 10 ?_;refine Rq eQ Ay (jM ⟨4,qu,e,pe,x⟩ _) ?_;intro Lf jm;refine zN 6 ?_;by_cases J:aH ⟨4,qu,e,pe,x⟩=0
  ·have hrz:=AL J;dsimp only at hrz;refine zN 11 ?_;by_cases h18:ro=2
   ·refine zN 16 ?_;refine vv jv ?_;refine sa 0 jm kQ ?_;intro GH qj;refine zN 6 ?_;have vC:=qj.aO [3,2,1,0];rw[Bz I J uQ];exact⟨none,0,Nat.le_refl 0,E,aA vC⟩
   refine zN 4 ?_;refine yO eQ (Lu 4 dQ _) ?_;rintro _ w22 ⟨rfl,Om⟩;refine⟨_,E,?_⟩;have tJ:=jm.on Om;refine zN 11 ?_;refine nD (X:=Nat×(Option Addr)×Nat×Nat) (λxv=>[(4,pV b7 0),(5,D 0),(8,pV xv.1 0),(9,D R.2)]) (λxv wr=>St w.heap.size w wr [.Mg xv.1 (bR R.1 xv.2.1 xv.2.2.1) 42,.cZ 6 xv.2.1 R.1.Gs.length ((R.1.Gs).flatMap Ev.cells),.loc xv.2.2.2 (qw tP 3 (λy=>if y=4 then some (.func (.func 107) #[] #[])else none) 7),.Mg b7 zB 42,.Mg b4 (rR 4 qu e pe x) 138,.Mg b1 #[D ro,D ep,D fr,D tg,D rd,.slice A l.length c] 42,.rd 6 A l.length ((l).flatMap Ev.cells)]) ?_ ?_
   ·have lH:=tJ.drew;refine aK 13 lH [] ?_;refine aL 4 ?_;refine iG (n:=8) (r:=0) (s:=10) kQ ?_ ?_
    ·refine kE 0 E eQ (Tm _) ?_;rintro _ w31 ⟨m30,rfl,T33⟩;refine⟨_,E,?_⟩;have M:=lH.ext T33 E;refine dG ?_;refine iG (n:=7) (r:=3) (s:=10) kQ ?_ ?_
     ·refine ji (i:=3) E E (v:=.func (.func 107) #[] #[]) (wn E) E E (kr 0 M E E E E underlying3 underlying173 (zeroValue172 _) dQ E) ?_;refine dG ?_;refine iG (n:=6) (r:=6) (s:=10) kQ ?_ ?_
      ·have HC:=wT ro ep fr tg rd A c l 4 qu e pe x _ (St.rd 4 M E) hb;rw[hM]at HC;refine nC 6 E eQ (HC) ?_;rintro _ w37 ⟨A34,c35,aGu,rfl,T39⟩;refine⟨_,E,?_⟩;have Az:=M.ext T39 E;clear HC;refine aL 4 ?_;refine bg 10 ?_;refine lW 10 E Az fZ ?_;intro b43 N7 pQ;refine dG ?_;refine bg 11 ?_;refine sn 11 E 0 pQ kQ ?_;intro ZR zx;refine aL 3 ?_;refine dM (b43,A34,c35,m30) ?_ jX;exact zx
      refine lW 10 E M fZ ?_;intro b49 VY vk;refine dG ?_;refine bg 6 ?_;have HC:=wT ro ep fr tg rd A c l 4 qu e pe x _ (St.rd 5 vk E) hb;rw[hM]at HC;refine nC 6 E eQ (HC) ?_;rintro _ w55 ⟨A52,c53,aGv,rfl,T57⟩;refine⟨_,E,?_⟩;have V4:=vk.ext T57 E;clear HC;refine aL 4 ?_;refine bg 11 ?_;refine sn 11 E 1 V4 kQ ?_;intro w61 JO;refine aL 3 ?_;have S64:St w.heap.size w w61 [_,_,_,_,_,_,_]:=JO.re [1,0,2,3,4,5,6] dQ;refine dM (b49,A52,c53,m30) ?_ jX;exact S64
     refine lW 10 E M fZ ?_;intro b65 VZ uL;refine dG ?_;refine bg 3 ?_;refine ji (i:=3) E E (v:=.func (.func 107) #[] #[]) (wn E) E E (kr 1 uL E E E E underlying3 underlying173 (zeroValue172 _) dQ E) ?_;refine dG ?_;refine bg 6 ?_;have HC:=wT ro ep fr tg rd A c l 4 qu e pe x _ (St.rd 5 uL E) hb;rw[hM]at HC;refine nC 6 E eQ (HC) ?_;rintro _ w71 ⟨A68,c69,aGw,rfl,T73⟩;refine⟨_,E,?_⟩;have FP:=uL.ext T73 E;clear HC;refine aL 4 ?_;refine bg 11 ?_;refine sn 11 E 1 FP kQ ?_;intro w77 JU;refine aL 3 ?_;have Cb:St w.heap.size w w77 [_,_,_,_,_,_,_]:=JU.re [1,0,2,3,4,5,6] dQ;refine dM (b65,A68,c69,m30) ?_ jX;exact Cb
    refine lW 10 E lH fZ ?_;intro b81 w82 Dz;refine dG ?_;refine bg 0 ?_;refine kE 0 E eQ (Tm _) ?_;rintro _ w85 ⟨m84,rfl,T87⟩;refine⟨_,E,?_⟩;have Cg:=Dz.ext T87 E;refine dG ?_;refine bg 3 ?_;refine ji (i:=3) E E (v:=.func (.func 107) #[] #[]) (wn E) E E (kr 0 Cg E E E E underlying3 underlying173 (zeroValue172 _) dQ E) ?_;refine dG ?_;refine bg 6 ?_;have HC:=wT ro ep fr tg rd A c l 4 qu e pe x _ (St.rd 5 Cg E) hb;rw[hM]at HC;refine nC 6 E eQ (HC) ?_;rintro _ w91 ⟨A88,c89,amZ,rfl,T93⟩;refine⟨_,E,?_⟩;have zw:=Cg.ext T93 E;clear HC;refine aL 4 ?_;refine bg 11 ?_;refine sn 11 E 2 zw kQ ?_;intro w97 DT;refine aL 3 ?_;have wM:St w.heap.size w w97 [_,_,_,_,_,_,_]:=DT.re [2,0,1,3,4,5,6] dQ;refine dM (b81,A88,c89,m84) ?_ jX;exact wM
   rintro⟨an8,aoo,aop,aJX⟩ aua O
   try dsimp only at O
   refine bI (l':=[(4,pV b7 0),(5,D 0),(8,pV an8 0),(9,D R.2)]) jX (aQ (aQ (aC (vm ?_))));by_cases aue:R.2=0
   ·refine zN 7 ?_;have vL:=O.nil 49 6;refine zN 3 ?_;refine dU (news:=(R.1.Gs).flatMap Ev.cells) (xs':=(R.1.Gs).flatMap Ev.cells) 0 vL (wn E) E E E E E E (St.cZ 2 vL E) underlying40 qJ E dQ (fP _) lQ Y (E) ?_;intro Oo Sl abV hc113 aGx Ch;refine zQ ?_;refine H7 1 Ch kQ ?_;intro aoq wP;refine zN 5 ?_;refine sa 4 wP kQ ?_;intro abW wO;refine zN 5 ?_;have Z:=wO.aO [7,6,5,4,3,2,1];rw[kG I J uQ (by rw[hR];exact aue),hR];rw[Nat.zero_add]at Z⊢;exact⟨Oo,Sl,(eu (Z.own 0 E)).1,E,Z.bJ 0 E⟩
   refine zN 6 ?_;refine vv jv ?_;refine sa 3 O kQ ?_;intro atd GU;refine zN 6 ?_;have Di:=GU.aO [6,5,4,3,2,1,0];rw[uY I J (by rw[hR];exact aue)];exact⟨none,0,Nat.le_refl 0,E,aA Di⟩
  refine zN 6 ?_;refine vv jv ?_;refine zQ ?_;refine sa 0 jm kQ ?_;intro aBi Oq;refine zN 6 ?_;have Sc:=Oq.aO [3,2,1,0];rw[AP I J];exact⟨none,0,Nat.le_refl 0,E,aA Sc⟩
 refine zN 6 ?_;refine vv jv ?_;refine zQ ?_;refine sa 0 Ay kQ ?_;intro an2 Sd;refine zN 6 ?_;have Dh:=Sd.aO [3,2,1,0];rw[AO I];exact⟨none,0,Nat.le_refl 0,E,aA Dh⟩
def Vk(ro ep fr tg rd:Int)(A:Option Addr)(c:Nat)(l:List Ev)(kd qu e pe:Int)(x:Ev)(I:l.length<=c)(w:World)(h:Rd w w.heap.size 6 A l.length (aY l))(J:l.length*48<=reachBytes):
 Calls prog 60 #[.agg #[D ro,D ep,D fr,D tg,D rd,.slice A l.length c],.agg #[D kd,D qu,D e,D pe,D x.kind,D x.Mr,D x.id,D x.body,D x.MF,D x.Nc]] w (mG w (eF ⟨ro,ep,fr,tg,rd,l⟩ ⟨kd,qu,e,pe,x⟩)):=by
 by_cases M:1<=kd/\kd<=7
 ·rcases(by omega:kd=1\/kd=2\/kd=3\/kd=4\/kd=5\/kd=6\/kd=7)with rfl|rfl|rfl|rfl|rfl|rfl|rfl
  ·exact agL ro ep fr tg rd A c l qu e pe x I w h J
  ·exact agM ro ep fr tg rd A c l qu e pe x I w h J
  ·exact agQ ro ep fr tg rd A c l qu e pe x I w h J
  ·exact agR ro ep fr tg rd A c l qu e pe x I w h J
  ·exact agN ro ep fr tg rd A c l qu e pe x I w h J
  ·exact agO ro ep fr tg rd A c l qu e pe x I w h J
  exact agP ro ep fr tg rd A c l qu e pe x I w h J
 exact agK ro ep fr tg rd A c l kd qu e pe x M w h J
def Yx(g:Nat)(x:Ac)(w:World)(h:Rd w w.heap.size 11 (aD g 0) 1 x.cells):
 Calls prog 28 #[pV g 0] w (ags w g (bZ x.kd x.ek) (bU x.kd x.ek)):=by
 have S:=(St.start w).bV h;refine gP 111 func28 ?_;refine cw [0] ?_;refine zN 8 ?_;have S1:=S.drew;refine IQ (C:=λw'=>St w.heap.size w w' [.rd 11 (aD g 0) 1 x.cells]) (n:=12) (listed:= #[false,false,false,false,false,false,false,false,false,false,false,false]) mixed E E ?_;refine aL 3 ?_;refine ak (v:=.agg #[pV g 1,D 4]) 3 E S1 (λ_ _=>gH) ?_;refine aL 3 ?_;refine ak (v:=.agg #[pV g 2,D 3]) 7 E S1 (λ_ _=>gH) ?_;refine iG (n:=3) (r:=8) (s:=9) kQ ?_ ?_
 ·refine lW 8 E S1 FK ?_;intro b10 Ib pF;refine dG ?_;refine bg 9 ?_;refine lW 9 E pF FK ?_;intro b13 Lf jm;refine dG ?_;refine bg 10 ?_;refine sn 10 E 1 jm kQ ?_;intro w16 zR;refine dG ?_;refine bg 11 ?_;refine sn 11 E 0 zR kQ ?_;intro M0 uM;refine aL 2 ?_;refine zN 6 ?_;refine vv (v:=.agg #[pV g 3,D 1048576]) gH ?_;refine gD uM FK ?_;intro b20 FN jY;refine sa 0 jY kQ ?_;intro JN kF;refine zN 8 ?_;refine vv (v:=D x.kd) (aj E E (aG (Rd.cl (j:=0) (St.rd 3 kF E) E))) ?_;refine zN 5 ?_;by_cases uN:x.kd=1
  ·refine zN 6 ?_;have sU:=kF.drew;refine aK 6 sU [] ?_;refine aL 3 ?_;refine bg 2 ?_;refine kg (i:=2) E E (V:=λb=>.slice (aD b 0) 2 2) (row:= #[pV g 2,D 3,pV g 1,D 4]) (t:=114) sU (wn E) E E (aV (vs:=[(0,.agg #[pV g 2,D 3]),(1,.agg #[pV g 1,D 4])]) E jX kQ) ?_;intro b30 w31 uw;refine aL 4 ?_;refine zN 5 ?_;rw[show bZ x.kd x.ek=⟨#[109,97,107,101]⟩from by simp[bZ,uN]];have Cc:=uw.aO [4,3,2,1];rw[show bU x.kd x.ek=some [(2,3),(1,4)]from by simp[bU,uN]];exact⟨_,E,St.jS (n:=2) (xs:=([(2,3),(1,4)]:List (Nat×Int)).flatMap (dI g)) 0 Cc E E E⟩
  refine zN 7 ?_;by_cases zA:x.kd=10
  ·refine zN 6 ?_;have yJ:=kF.drew;refine aK 6 yJ [] ?_;refine aL 3 ?_;refine bg 2 ?_;refine kg (i:=2) E E (V:=λb=>.slice (aD b 0) 2 2) (row:= #[pV g 2,D 3,pV g 1,D 4]) (t:=114) yJ (wn E) E E (aV (vs:=[(0,.agg #[pV g 2,D 3]),(1,.agg #[pV g 1,D 4])]) E jX kQ) ?_;intro b41 SX rW;refine aL 4 ?_;refine zN 5 ?_;rw[show bZ x.kd x.ek=⟨#[109,111,118,101]⟩from by simp[bZ,uN,zA]];have xk:=rW.aO [4,3,2,1];rw[show bU x.kd x.ek=some [(2,3),(1,4)]from by simp[bU,uN,zA]];exact⟨_,E,St.jS (n:=2) (xs:=([(2,3),(1,4)]:List (Nat×Int)).flatMap (dI g)) 0 xk E E E⟩
  refine zN 7 ?_;by_cases h47:x.kd=3
  ·refine zN 6 ?_;have AA:=kF.drew;refine aK 5 AA [] ?_;refine aL 2 ?_;refine bg 1 ?_;refine Gz 1 E AA ?_;intro b51 w52 CS;refine aL 4 ?_;refine zN 5 ?_;rw[show bZ x.kd x.ek=⟨#[115,116,101,112]⟩from by simp[bZ,uN,zA,h47]];have V4:=CS.aO [4,3,2,1];rw[show bU x.kd x.ek=some [(1,4)]from by simp[bU,uN,zA,h47]];exact⟨_,E,St.jS (n:=1) (xs:=([(1,4)]:List (Nat×Int)).flatMap (dI g)) 0 V4 E E E⟩
  refine zN 7 ?_;by_cases h57:x.kd=9
  ·refine zN 6 ?_;have DL:=kF.drew;refine aK 5 DL [] ?_;refine aL 2 ?_;refine bg 1 ?_;refine Gz 1 E DL ?_;intro b61 ZK xg;refine aL 4 ?_;refine zN 5 ?_;rw[show bZ x.kd x.ek=⟨#[115,116,97,114,116]⟩from by simp[bZ,uN,zA,h47,h57]];have Ih:=xg.aO [4,3,2,1];rw[show bU x.kd x.ek=some [(1,4)]from by simp[bU,uN,zA,h47,h57]];exact⟨_,E,St.jS (n:=1) (xs:=([(1,4)]:List (Nat×Int)).flatMap (dI g)) 0 Ih E E E⟩
  refine zN 7 ?_;by_cases Ci:x.kd=8
  ·refine zN 6 ?_;have CU:=kF.drew;refine aK 9 CU [] ?_;refine aL 4 ?_;refine ak (v:=.agg #[pV g 4,D 100000]) 4 E CU (λ_ _=>gH) ?_;refine dG ?_;refine bg 5 ?_;refine kg (i:=5) E E (V:=λb=>.slice (aD b 0) 2 2) (row:= #[pV g 1,D 4,pV g 4,D 100000]) (t:=114) CU (wn E) E E (aV (vs:=[(0,.agg #[pV g 1,D 4]),(1,.agg #[pV g 4,D 100000])]) E jX kQ) ?_;intro b75 w76 DC;refine aL 4 ?_;refine zN 5 ?_;rw[show bZ x.kd x.ek=⟨#[99,114,97,115,104]⟩from by simp[bZ,uN,zA,h47,h57,Ci]];have Cb:=DC.aO [4,3,2,1];rw[show bU x.kd x.ek=some [(1,4),(4,100000)]from by simp[bU,uN,zA,h47,h57,Ci]];exact⟨_,E,St.jS (n:=2) (xs:=([(1,4),(4,100000)]:List (Nat×Int)).flatMap (dI g)) 0 Cb E E E⟩
  refine zN 7 ?_;by_cases Ip:x.kd=4
  ·refine zN 6 ?_;have S82:=kF.drew;refine aK 5 S82 [] ?_;refine aL 2 ?_;refine bg 1 ?_;refine Gz 1 E S82 ?_;intro b85 w86 GK;refine aL 4 ?_;refine zN 5 ?_;rw[show bZ x.kd x.ek=⟨#[99,97,114,114,121]⟩from by simp[bZ,uN,zA,h47,h57,Ci,Ip]];have S90:=GK.aO [4,3,2,1];rw[show bU x.kd x.ek=some [(3,1048576)]from by simp[bU,uN,zA,h47,h57,Ci,Ip]];exact⟨_,E,St.jS (n:=1) (xs:=([(3,1048576)]:List (Nat×Int)).flatMap (dI g)) 0 S90 E E E⟩
  refine zN 7 ?_;by_cases FX:x.kd=5
  ·refine zN 6 ?_;have zw:=kF.drew;refine aK 5 zw [] ?_;refine aL 2 ?_;refine bg 1 ?_;refine Gz 1 E zw ?_;intro b95 w96 DJ;refine aL 4 ?_;refine zN 5 ?_;rw[show bZ x.kd x.ek=⟨#[108,111,115,101]⟩from by simp[bZ,uN,zA,h47,h57,Ci,Ip,FX]];have wM:=DJ.aO [4,3,2,1];rw[show bU x.kd x.ek=some [(3,1048576)]from by simp[bU,uN,zA,h47,h57,Ci,Ip,FX]];exact⟨_,E,St.jS (n:=1) (xs:=([(3,1048576)]:List (Nat×Int)).flatMap (dI g)) 0 wM E E E⟩
  refine zN 7 ?_;by_cases Cj:x.kd=6
  ·refine zN 6 ?_;have tO:=kF.drew;refine aK 5 tO [] ?_;refine aL 2 ?_;refine bg 1 ?_;refine Gz 1 E tO ?_;intro aJY abT EX;refine aL 4 ?_;refine zN 5 ?_;rw[show bZ x.kd x.ek=⟨#[100,111,117,98,108,101]⟩from by simp[bZ,uN,zA,h47,h57,Ci,Ip,FX,Cj]];have qZ:=EX.aO [4,3,2,1];rw[show bU x.kd x.ek=some [(3,1048576)]from by simp[bU,uN,zA,h47,h57,Ci,Ip,FX,Cj]];exact⟨_,E,St.jS (n:=1) (xs:=([(3,1048576)]:List (Nat×Int)).flatMap (dI g)) 0 qZ E E E⟩
  refine zN 7 ?_;by_cases Dl:x.kd=7
  ·refine zN 16 ?_;rw[show bZ x.kd x.ek=⟨#[97,108,108]⟩from by simp[bZ,uN,zA,h47,h57,Ci,Ip,FX,Cj,Dl]];have Ch:=kF.aO [3,2,1,0];rw[show bU x.kd x.ek=some []from by simp[bU,uN,zA,h47,h57,Ci,Ip,FX,Cj,Dl]];exact⟨none,E,aA Ch⟩
  refine zN 7 ?_;by_cases Jh:x.kd=2
  ·refine zN 18 ?_;refine vv (v:=D x.ek) (aj E E (aG (Rd.cl (j:=5) (St.rd 3 kF E) E))) ?_;refine zN 5 ?_;by_cases GR:x.ek=1
   ·refine zN 6 ?_;have qx:=kF.drew;refine aK 18 qx [] ?_;refine aL 5 ?_;refine ak (v:=.agg #[pV g 6,D 3]) 5 E qx (λ_ _=>gH) ?_;refine aL 3 ?_;refine ak (v:=.agg #[pV g 7,D 1073741824]) 9 E qx (λ_ _=>gH) ?_;refine aL 3 ?_;refine ak (v:=.agg #[pV g 8,D 1000000]) 13 E qx (λ_ _=>gH) ?_;refine dG ?_;refine bg 14 ?_;refine kg (i:=14) E E (V:=λb=>.slice (aD b 0) 5 5) (row:= #[pV g 1,D 4,pV g 2,D 3,pV g 6,D 3,pV g 7,D 1073741824,pV g 8,D 1000000]) (t:=114) qx (wn E) E E (aV (vs:=[(0,.agg #[pV g 1,D 4]),(1,.agg #[pV g 2,D 3]),(2,.agg #[pV g 6,D 3]),(3,.agg #[pV g 7,D 1073741824]),(4,.agg #[pV g 8,D 1000000])]) E asC kQ) ?_;intro aJZ aA7 Sj;refine aL 4 ?_;refine zN 6 ?_;rw[show bZ x.kd x.ek=⟨#[112,117,98,108,105,115,104]⟩from by simp[bZ,uN,zA,h47,h57,Ci,Ip,FX,Cj,Dl,Jh,GR]];have GL:=Sj.aO [4,3,2,1];rw[show bU x.kd x.ek=some [(1,4),(2,3),(6,3),(7,1073741824),(8,1000000)]from by simp[bU,uN,zA,h47,h57,Ci,Ip,FX,Cj,Dl,Jh,GR]];exact⟨_,E,St.jS (n:=5) (xs:=([(1,4),(2,3),(6,3),(7,1073741824),(8,1000000)]:List (Nat×Int)).flatMap (dI g)) 0 GL E E E⟩
   refine zN 7 ?_;by_cases Xh:x.ek=2
   ·refine zN 6 ?_;have EP:=kF.drew;refine aK 6 EP [] ?_;refine aL 3 ?_;refine bg 2 ?_;refine kg (i:=2) E E (V:=λb=>.slice (aD b 0) 2 2) (row:= #[pV g 1,D 4,pV g 2,D 3]) (t:=114) EP (wn E) E E (aV (vs:=[(0,.agg #[pV g 1,D 4]),(1,.agg #[pV g 2,D 3])]) E jX kQ) ?_;intro ate aBj Xi;refine aL 4 ?_;refine zN 6 ?_;rw[show bZ x.kd x.ek=⟨#[114,101,99,101,105,118,101]⟩from by simp[bZ,uN,zA,h47,h57,Ci,Ip,FX,Cj,Dl,Jh,GR,Xh]];have Sb:=Xi.aO [4,3,2,1];rw[show bU x.kd x.ek=some [(1,4),(2,3)]from by simp[bU,uN,zA,h47,h57,Ci,Ip,FX,Cj,Dl,Jh,GR,Xh]];exact⟨_,E,St.jS (n:=2) (xs:=([(1,4),(2,3)]:List (Nat×Int)).flatMap (dI g)) 0 Sb E E E⟩
   refine zN 7 ?_;by_cases aio:x.ek=3
   ·refine zN 6 ?_;have Ak:=kF.drew;refine aK 16 Ak [] ?_;refine aL 6 ?_;refine ak (v:=.agg #[pV g 9,D 1048576]) 6 E Ak (λ_ _=>gH) ?_;refine aL 4 ?_;refine ak (v:=.agg #[pV g 10,D 1073741824]) 11 E Ak (λ_ _=>gH) ?_;refine dG ?_;refine bg 12 ?_;refine kg (i:=12) E E (V:=λb=>.slice (aD b 0) 4 4) (row:= #[pV g 1,D 4,pV g 2,D 3,pV g 9,D 1048576,pV g 10,D 1073741824]) (t:=114) Ak (wn E) E E (aV (vs:=[(0,.agg #[pV g 1,D 4]),(1,.agg #[pV g 2,D 3]),(2,.agg #[pV g 9,D 1048576]),(3,.agg #[pV g 10,D 1073741824])]) E VP kQ) ?_;intro aJ0 ati yR;refine aL 4 ?_;refine zN 6 ?_;rw[show bZ x.kd x.ek=⟨#[97,99,107]⟩from by simp[bZ,uN,zA,h47,h57,Ci,Ip,FX,Cj,Dl,Jh,GR,Xh,aio]];have aor:=yR.aO [4,3,2,1];rw[show bU x.kd x.ek=some [(1,4),(2,3),(9,1048576),(10,1073741824)]from by simp[bU,uN,zA,h47,h57,Ci,Ip,FX,Cj,Dl,Jh,GR,Xh,aio]];exact⟨_,E,St.jS (n:=4) (xs:=([(1,4),(2,3),(9,1048576),(10,1073741824)]:List (Nat×Int)).flatMap (dI g)) 0 aor E E E⟩
   refine zN 18 ?_;rw[show bZ x.kd x.ek=⟨#[]⟩from by simp[bZ,uN,zA,h47,h57,Ci,Ip,FX,Cj,Dl,Jh,GR,Xh,aio]];rw[show bU x.kd x.ek=none from by simp[bU,uN,zA,h47,h57,Ci,Ip,FX,Cj,Dl,Jh,GR,Xh,aio]];exact⟨E,kF.Nr⟩
  refine zN 17 ?_;rw[show bZ x.kd x.ek=⟨#[]⟩from by simp[bZ,uN,zA,h47,h57,Ci,Ip,FX,Cj,Dl,Jh]];rw[show bU x.kd x.ek=none from by simp[bU,uN,zA,h47,h57,Ci,Ip,FX,Cj,Dl,Jh]];exact⟨E,kF.Nr⟩
 refine lW 9 E S1 FK ?_;intro aJ1 aJ2 an6;refine dG ?_;refine bg 8 ?_;refine lW 8 E an6 FK ?_;intro aJ3 aAt aby;refine dG ?_;refine bg 10 ?_;refine sn 10 E 0 aby kQ ?_;intro aJ4 ab3;refine dG ?_;refine bg 11 ?_;refine sn 11 E 1 ab3 kQ ?_;intro aBd Xc;refine aL 2 ?_;refine zN 6 ?_;refine vv (v:=.agg #[pV g 3,D 1048576]) gH ?_;refine gD Xc FK ?_;intro aJ5 aJ6 ab0;refine sa 0 ab0 kQ ?_;intro aJ7 yV;refine zN 8 ?_;refine vv (v:=D x.kd) (aj E E (aG (Rd.cl (j:=0) (St.rd 3 yV E) E))) ?_;refine zN 5 ?_;by_cases I:x.kd=1
 ·refine zN 6 ?_;have auf:=yV.drew;refine aK 6 auf [] ?_;refine aL 3 ?_;refine bg 2 ?_;refine kg (i:=2) E E (V:=λb=>.slice (aD b 0) 2 2) (row:= #[pV g 2,D 3,pV g 1,D 4]) (t:=114) auf (wn E) E E (aV (vs:=[(0,.agg #[pV g 2,D 3]),(1,.agg #[pV g 1,D 4])]) E jX kQ) ?_;intro aJ8 aBk aon;refine aL 4 ?_;refine zN 5 ?_;rw[show bZ x.kd x.ek=⟨#[109,97,107,101]⟩from by simp[bZ,I]];have Sk:=aon.aO [4,3,2,1];rw[show bU x.kd x.ek=some [(2,3),(1,4)]from by simp[bU,I]];exact⟨_,E,St.jS (n:=2) (xs:=([(2,3),(1,4)]:List (Nat×Int)).flatMap (dI g)) 0 Sk E E E⟩
 refine zN 7 ?_;by_cases J:x.kd=10
 ·refine zN 6 ?_;have aug:=yV.drew;refine aK 6 aug [] ?_;refine aL 3 ?_;refine bg 2 ?_;refine kg (i:=2) E E (V:=λb=>.slice (aD b 0) 2 2) (row:= #[pV g 2,D 3,pV g 1,D 4]) (t:=114) aug (wn E) E E (aV (vs:=[(0,.agg #[pV g 2,D 3]),(1,.agg #[pV g 1,D 4])]) E jX kQ) ?_;intro aJ9 aKa aBl;refine aL 4 ?_;refine zN 5 ?_;rw[show bZ x.kd x.ek=⟨#[109,111,118,101]⟩from by simp[bZ,I,J]];have aBm:=aBl.aO [4,3,2,1];rw[show bU x.kd x.ek=some [(2,3),(1,4)]from by simp[bU,I,J]];exact⟨_,E,St.jS (n:=2) (xs:=([(2,3),(1,4)]:List (Nat×Int)).flatMap (dI g)) 0 aBm E E E⟩
 refine zN 7 ?_;by_cases M:x.kd=3
 ·refine zN 6 ?_;have aip:=yV.drew;refine aK 5 aip [] ?_;refine aL 2 ?_;refine bg 1 ?_;refine Gz 1 E aip ?_;intro aKb aKc aBn;refine aL 4 ?_;refine zN 5 ?_;rw[show bZ x.kd x.ek=⟨#[115,116,101,112]⟩from by simp[bZ,I,J,M]];have aBo:=aBn.aO [4,3,2,1];rw[show bU x.kd x.ek=some [(1,4)]from by simp[bU,I,J,M]];exact⟨_,E,St.jS (n:=1) (xs:=([(1,4)]:List (Nat×Int)).flatMap (dI g)) 0 aBo E E E⟩
 refine zN 7 ?_;by_cases O:x.kd=9
 ·refine zN 6 ?_;have auh:=yV.drew;refine aK 5 auh [] ?_;refine aL 2 ?_;refine bg 1 ?_;refine Gz 1 E auh ?_;intro aKd aKe aBp;refine aL 4 ?_;refine zN 5 ?_;rw[show bZ x.kd x.ek=⟨#[115,116,97,114,116]⟩from by simp[bZ,I,J,M,O]];have aos:=aBp.aO [4,3,2,1];rw[show bU x.kd x.ek=some [(1,4)]from by simp[bU,I,J,M,O]];exact⟨_,E,St.jS (n:=1) (xs:=([(1,4)]:List (Nat×Int)).flatMap (dI g)) 0 aos E E E⟩
 refine zN 7 ?_;by_cases Z:x.kd=8
 ·refine zN 6 ?_;have ab4:=yV.drew;refine aK 9 ab4 [] ?_;refine aL 4 ?_;refine ak (v:=.agg #[pV g 4,D 100000]) 4 E ab4 (λ_ _=>gH) ?_;refine dG ?_;refine bg 5 ?_;refine kg (i:=5) E E (V:=λb=>.slice (aD b 0) 2 2) (row:= #[pV g 1,D 4,pV g 4,D 100000]) (t:=114) ab4 (wn E) E E (aV (vs:=[(0,.agg #[pV g 1,D 4]),(1,.agg #[pV g 4,D 100000])]) E jX kQ) ?_;intro aKf aKg aBq;refine aL 4 ?_;refine zN 5 ?_;rw[show bZ x.kd x.ek=⟨#[99,114,97,115,104]⟩from by simp[bZ,I,J,M,O,Z]];have aot:=aBq.aO [4,3,2,1];rw[show bU x.kd x.ek=some [(1,4),(4,100000)]from by simp[bU,I,J,M,O,Z]];exact⟨_,E,St.jS (n:=2) (xs:=([(1,4),(4,100000)]:List (Nat×Int)).flatMap (dI g)) 0 aot E E E⟩
 refine zN 7 ?_;by_cases wV:x.kd=4
 ·refine zN 6 ?_;have aui:=yV.drew;refine aK 5 aui [] ?_;refine aL 2 ?_;refine bg 1 ?_;refine Gz 1 E aui ?_;intro aKh aKi aBr;refine aL 4 ?_;refine zN 5 ?_;rw[show bZ x.kd x.ek=⟨#[99,97,114,114,121]⟩from by simp[bZ,I,J,M,O,Z,wV]];have aBs:=aBr.aO [4,3,2,1];rw[show bU x.kd x.ek=some [(3,1048576)]from by simp[bU,I,J,M,O,Z,wV]];exact⟨_,E,St.jS (n:=1) (xs:=([(3,1048576)]:List (Nat×Int)).flatMap (dI g)) 0 aBs E E E⟩
 refine zN 7 ?_;by_cases yX:x.kd=5
 ·refine zN 6 ?_;have aiq:=yV.drew;refine aK 5 aiq [] ?_;refine aL 2 ?_;refine bg 1 ?_;refine Gz 1 E aiq ?_;intro aKj aKk aBt;refine aL 4 ?_;refine zN 5 ?_;rw[show bZ x.kd x.ek=⟨#[108,111,115,101]⟩from by simp[bZ,I,J,M,O,Z,wV,yX]];have aBu:=aBt.aO [4,3,2,1];rw[show bU x.kd x.ek=some [(3,1048576)]from by simp[bU,I,J,M,O,Z,wV,yX]];exact⟨_,E,St.jS (n:=1) (xs:=([(3,1048576)]:List (Nat×Int)).flatMap (dI g)) 0 aBu E E E⟩
 refine zN 7 ?_;by_cases Ck:x.kd=6
 ·refine zN 6 ?_;have auj:=yV.drew;refine aK 5 auj [] ?_;refine aL 2 ?_;refine bg 1 ?_;refine Gz 1 E auj ?_;intro aKl aKm aBv;refine aL 4 ?_;refine zN 5 ?_;rw[show bZ x.kd x.ek=⟨#[100,111,117,98,108,101]⟩from by simp[bZ,I,J,M,O,Z,wV,yX,Ck]];have aBw:=aBv.aO [4,3,2,1];rw[show bU x.kd x.ek=some [(3,1048576)]from by simp[bU,I,J,M,O,Z,wV,yX,Ck]];exact⟨_,E,St.jS (n:=1) (xs:=([(3,1048576)]:List (Nat×Int)).flatMap (dI g)) 0 aBw E E E⟩
 refine zN 7 ?_;by_cases E5:x.kd=7
 ·refine zN 16 ?_;rw[show bZ x.kd x.ek=⟨#[97,108,108]⟩from by simp[bZ,I,J,M,O,Z,wV,yX,Ck,E5]];have aBx:=yV.aO [3,2,1,0];rw[show bU x.kd x.ek=some []from by simp[bU,I,J,M,O,Z,wV,yX,Ck,E5]];exact⟨none,E,aA aBx⟩
 refine zN 7 ?_;by_cases Ji:x.kd=2
 ·refine zN 18 ?_;refine vv (v:=D x.ek) (aj E E (aG (Rd.cl (j:=5) (St.rd 3 yV E) E))) ?_;refine zN 5 ?_;by_cases Ot:x.ek=1
  ·refine zN 6 ?_;have ab5:=yV.drew;refine aK 18 ab5 [] ?_;refine aL 5 ?_;refine ak (v:=.agg #[pV g 6,D 3]) 5 E ab5 (λ_ _=>gH) ?_;refine aL 3 ?_;refine ak (v:=.agg #[pV g 7,D 1073741824]) 9 E ab5 (λ_ _=>gH) ?_;refine aL 3 ?_;refine ak (v:=.agg #[pV g 8,D 1000000]) 13 E ab5 (λ_ _=>gH) ?_;refine dG ?_;refine bg 14 ?_;refine kg (i:=14) E E (V:=λb=>.slice (aD b 0) 5 5) (row:= #[pV g 1,D 4,pV g 2,D 3,pV g 6,D 3,pV g 7,D 1073741824,pV g 8,D 1000000]) (t:=114) ab5 (wn E) E E (aV (vs:=[(0,.agg #[pV g 1,D 4]),(1,.agg #[pV g 2,D 3]),(2,.agg #[pV g 6,D 3]),(3,.agg #[pV g 7,D 1073741824]),(4,.agg #[pV g 8,D 1000000])]) E asC kQ) ?_;intro aKn aKo aBy;refine aL 4 ?_;refine zN 6 ?_;rw[show bZ x.kd x.ek=⟨#[112,117,98,108,105,115,104]⟩from by simp[bZ,I,J,M,O,Z,wV,yX,Ck,E5,Ji,Ot]];have aBz:=aBy.aO [4,3,2,1];rw[show bU x.kd x.ek=some [(1,4),(2,3),(6,3),(7,1073741824),(8,1000000)]from by simp[bU,I,J,M,O,Z,wV,yX,Ck,E5,Ji,Ot]];exact⟨_,E,St.jS (n:=5) (xs:=([(1,4),(2,3),(6,3),(7,1073741824),(8,1000000)]:List (Nat×Int)).flatMap (dI g)) 0 aBz E E E⟩
  refine zN 7 ?_;by_cases Xj:x.ek=2
  ·refine zN 6 ?_;have air:=yV.drew;refine aK 6 air [] ?_;refine aL 3 ?_;refine bg 2 ?_;refine kg (i:=2) E E (V:=λb=>.slice (aD b 0) 2 2) (row:= #[pV g 1,D 4,pV g 2,D 3]) (t:=114) air (wn E) E E (aV (vs:=[(0,.agg #[pV g 1,D 4]),(1,.agg #[pV g 2,D 3])]) E jX kQ) ?_;intro aKp aKq aBA;refine aL 4 ?_;refine zN 6 ?_;rw[show bZ x.kd x.ek=⟨#[114,101,99,101,105,118,101]⟩from by simp[bZ,I,J,M,O,Z,wV,yX,Ck,E5,Ji,Ot,Xj]];have aBB:=aBA.aO [4,3,2,1];rw[show bU x.kd x.ek=some [(1,4),(2,3)]from by simp[bU,I,J,M,O,Z,wV,yX,Ck,E5,Ji,Ot,Xj]];exact⟨_,E,St.jS (n:=2) (xs:=([(1,4),(2,3)]:List (Nat×Int)).flatMap (dI g)) 0 aBB E E E⟩
  refine zN 7 ?_;by_cases ais:x.ek=3
  ·refine zN 6 ?_;have ait:=yV.drew;refine aK 16 ait [] ?_;refine aL 6 ?_;refine ak (v:=.agg #[pV g 9,D 1048576]) 6 E ait (λ_ _=>gH) ?_;refine aL 4 ?_;refine ak (v:=.agg #[pV g 10,D 1073741824]) 11 E ait (λ_ _=>gH) ?_;refine dG ?_;refine bg 12 ?_;refine kg (i:=12) E E (V:=λb=>.slice (aD b 0) 4 4) (row:= #[pV g 1,D 4,pV g 2,D 3,pV g 9,D 1048576,pV g 10,D 1073741824]) (t:=114) ait (wn E) E E (aV (vs:=[(0,.agg #[pV g 1,D 4]),(1,.agg #[pV g 2,D 3]),(2,.agg #[pV g 9,D 1048576]),(3,.agg #[pV g 10,D 1073741824])]) E VP kQ) ?_;intro aKr aKs aBC;refine aL 4 ?_;refine zN 6 ?_;rw[show bZ x.kd x.ek=⟨#[97,99,107]⟩from by simp[bZ,I,J,M,O,Z,wV,yX,Ck,E5,Ji,Ot,Xj,ais]];have aiu:=aBC.aO [4,3,2,1];rw[show bU x.kd x.ek=some [(1,4),(2,3),(9,1048576),(10,1073741824)]from by simp[bU,I,J,M,O,Z,wV,yX,Ck,E5,Ji,Ot,Xj,ais]];exact⟨_,E,St.jS (n:=4) (xs:=([(1,4),(2,3),(9,1048576),(10,1073741824)]:List (Nat×Int)).flatMap (dI g)) 0 aiu E E E⟩
  refine zN 18 ?_;rw[show bZ x.kd x.ek=⟨#[]⟩from by simp[bZ,I,J,M,O,Z,wV,yX,Ck,E5,Ji,Ot,Xj,ais]];rw[show bU x.kd x.ek=none from by simp[bU,I,J,M,O,Z,wV,yX,Ck,E5,Ji,Ot,Xj,ais]];exact⟨E,yV.Nr⟩
 refine zN 17 ?_;rw[show bZ x.kd x.ek=⟨#[]⟩from by simp[bZ,I,J,M,O,Z,wV,yX,Ck,E5,Ji]];rw[show bU x.kd x.ek=none from by simp[bU,I,J,M,O,Z,wV,yX,Ck,E5,Ji]];exact⟨E,yV.Nr⟩
def afa(x:Ac)(w:World):
 Calls prog 23 #[.agg (aR x)] w (ny w (dD x)):=by
 have S:=St.start w;refine gP 57 func23 ?_;refine cw [0] ?_;refine zN 2 ?_;refine iU S ?_;intro b1 w2 S3;refine zN 4 ?_;have HF:=λw h=>Yx b1 x w h
 rcases hf:bU x.kd x.ek with _|l
 ·rw[hf]at HF;refine zQ ?_;refine dJ eQ (HF _ (St.mD 0 S3 E E E)) ?_;rintro _ w4 ⟨rfl,hb6⟩;refine⟨_,E,?_⟩;have S5:=S3.on hb6;refine zN 25 ?_;rw[ZB hf];exact⟨E,S5.Nr⟩
 rw[hf]at HF;have hl5:=af4 hf;refine zQ ?_;refine dJ eQ (HF _ (St.mD 0 S3 E E E)) ?_;rintro _ w8 ⟨A7,rfl,T10⟩;refine⟨_,E,?_⟩;have S9:=S3.ext T10 E;refine zN 28 ?_;refine fJ (X:=Nat) (λxv=>[(1,pV b1 0),(2,D 0),(4,.slice A7 l.length l.length),(17,.slice A7 l.length l.length),(18,D (l.length:Int)),(19,D (xv:Int))]) (λxv wr=>(xv<=l.length)/\((l.take xv).all (NV x)=true)/\St w.heap.size w wr [.cZ 2 A7 l.length ((l).flatMap (dI b1)),.Mg b1 (aR x) 51]) (λxv=>l.length-xv) (0) ?_ ?_ ?_
 ·exact⟨zero_le _,E,S9⟩
 ·exact rU
 rintro k Ib ⟨anN,Mi,pF⟩
 try dsimp only at anN Mi pF
 refine bI (l':=[(1,pV b1 0),(2,D 0),(4,.slice A7 l.length l.length),(17,.slice A7 l.length l.length),(18,D (l.length:Int)),(19,D (k:Int))]) rU (aQ (aC ?_));by_cases h15:(k:Int)< (l.length:Int)
 ·refine zN 11 ?_;obtain⟨b16,o17,rfl⟩:=Rd.addr (St.cZ 0 pF E) Y;obtain⟨Z,M⟩:=JH k (St.cZ 0 pF E) Y;refine vv (ko k) ?_;refine vv (aj E E (dP (cs:=(dI b1) Z) (Rd.wZ (St.cZ 0 pF E) (λ_ _ h=>bE (enc:=(dI b1)) (sz:=2) (λ_=>E) M h)))) ?_;refine gD pF FK ?_;intro b20 FN jY;refine sa 0 jY kQ ?_;intro JN kF;refine zN 2 ?_;have hp:=P6 hf Z (mem_of_getElem? M);refine zQ ?_;refine fu kF mixed kQ ?_;refine zN 3 ?_;refine uv (v:=D (x.get Z.1)) (λ_ anX=>(aj E E (aG (St.cl 2 anX E (Ac.amO x hp.2.1))))) ?_;by_cases h29:x.get Z.1<0
  ·refine zN 10 ?_;refine eP λw33 qY=>?_;refine zN 14 ?_;rw[Kl hf (ZC M Y)];exact⟨E,qY.Nr⟩
  refine zN 5 ?_;refine ug (v:=D (x.get Z.1)) (λ_ aBD=>(aj E E (aG (St.cl 2 aBD E (Ac.amO x hp.2.1))))) ?_;refine zN 2 ?_;by_cases h43:Z.2<x.get Z.1
  ·refine zN 2 ?_;refine eP λZR zx=>?_;refine zN 14 ?_;rw[Kl hf (ZC M Y)];exact⟨E,zx.Nr⟩
  refine zN 2 ?_;refine eP λVY vk=>?_;refine zN 6 ?_;refine vv (v:=D ((k+1:Nat):Int)) iI ?_;refine zN 2 ?_;have pG:=vk.aO [0];refine bC (k+1) ?_ rU (by first|omega|(dsimp only;omega));exact⟨Y,(af6 M Mi Y),pG⟩
 refine zN 19 ?_;obtain rfl:k=l.length:=Y;have O:=Mi;rw[take_length]at O;refine fJ (X:=Nat) (λxv=>[(1,pV b1 0),(2,D 0),(38,.slice A7 l.length l.length),(39,D (l.length:Int)),(40,D (xv:Int))]) (λxv wr=>(xv<=l.length)/\St w.heap.size w wr [.cZ 2 A7 l.length ((l).flatMap (dI b1)),.Mg b1 (p9 (zo x.QF (l.take xv))) 51]) (λxv=>l.length-xv) (0) ?_ ?_ ?_
 ·exact⟨zero_le _,pF⟩
 ·exact Av
 rintro j w53 ⟨Ou,I⟩
 try dsimp only at Ou I
 refine bI (l':=[(1,pV b1 0),(2,D 0),(38,.slice A7 l.length l.length),(39,D (l.length:Int)),(40,D (j:Int))]) Av (aQ (aC ?_));by_cases h56:(j:Int)< (l.length:Int)
 ·refine zN 11 ?_;obtain⟨b57,o58,rfl⟩:=Rd.addr (St.cZ 0 I E) Y;obtain⟨x59,aou⟩:=JH j (St.cZ 0 I E) Y;refine vv (ko j) ?_;refine vv (aj E E (dP (cs:=(dI b1) x59) (Rd.wZ (St.cZ 0 I E) (λ_ _ h=>bE (enc:=(dI b1)) (sz:=2) (λ_=>E) aou h)))) ?_;refine gD I FK ?_;intro b61 ZK xg;refine sa 0 xg kQ ?_;intro w64 GQ;refine zN 6 ?_;have hp:=P6 hf x59 (mem_of_getElem? aou);refine Jc (row':=p9 (zo x.QF (l.take (j+1)))) 2 GQ (wn E) E E E E E E kQ E (by rw[nE (by rw[yB];rfl)];omega) (by rw[BS,af7 aou]) ?_;intro VZ uL;refine zN 4 ?_;refine vv (v:=D ((j+1:Nat):Int)) iI ?_;refine zN 2 ?_;have CU:=uL.aO [0];refine bC (j+1) ?_ Av (by first|omega|(dsimp only;omega));exact⟨Y,CU⟩
 refine zN 12 ?_;obtain rfl:j=l.length:=Y;rw[take_length]at I;refine zN 2 ?_;refine vv (aj E E (aG (St.cl 1 I E (aa5 (by rw[SL _ _ (λp hp=>(P6 hf p hp).1)];rfl))))) ?_;by_cases h69:x.kd=2
 ·refine zN 7 ?_;refine Jc (row':=p9 ((zo x.QF l).set 5 0)) 1 I (wn E) E E E E E E kQ E (by rw[nE (by simp only[length_set,yB];rfl)];decide) BS ?_;intro w70 rX;refine zN 5 ?_;refine Jc (row':=p9 (((zo x.QF l).set 5 0).set 0 0)) 1 rX (wn E) E E E E E E kQ E (by rw[nE (by simp only[length_set,yB];rfl)];decide) BS ?_;intro w72 uq;refine zN 4 ?_;have hfn:fin x l=((zo x.QF l).set 5 0).set 0 0:=by unfold fin;rw[if_pos h69]
  have hfl:(((zo x.QF l).set 5 0).set 0 0).length=11:=by simp only[length_set,yB];rfl
  have HN:=λw=>aeF (a:=((zo x.QF l).set 5 0).set 0 0) (b:=RF) hfl E w;rw[<-hfn]at HN;by_cases J:fin x l=RF
  ·rw[decide_eq_true J]at HN;rw[hfn]at HN;refine zQ ?_;refine vv (v:=.agg (p9 (((zo x.QF l).set 5 0).set 0 0))) (aj E E (l6 1 uq E underlying51 E kQ (nE hfl))) ?_;refine zQ ?_;refine vv (v:=.bool false) (bM E E E (C9 kQ (HN _))) ?_;refine zN 12 ?_;rw[amC hf O J];exact⟨E,uq.Nr⟩
  rw[decide_eq_false J]at HN;rw[hfn]at HN;refine zQ ?_;refine vv (v:=.agg (p9 (((zo x.QF l).set 5 0).set 0 0))) (aj E E (l6 1 uq E underlying51 E kQ (nE hfl))) ?_;refine zQ ?_;refine vv (v:=.bool true) (bM E E E (C9 kQ (HN _))) ?_;refine zN 11 ?_;rw[P7 hf O J];exact⟨E,uq.Nr⟩
 refine zN 9 ?_;refine Jc (row':=p9 ((zo x.QF l).set 0 0)) 1 I (wn E) E E E E E E kQ E (by rw[nE (by simp only[length_set,yB];rfl)];decide) BS ?_;intro w74 Em;refine zN 4 ?_;have hfn:fin x l=(zo x.QF l).set 0 0:=by unfold fin;rw[if_neg h69]
 have hfl:((zo x.QF l).set 0 0).length=11:=by simp only[length_set,yB];rfl
 have HN:=λw=>aeF (a:=(zo x.QF l).set 0 0) (b:=RF) hfl E w;rw[<-hfn]at HN;by_cases J:fin x l=RF
 ·rw[decide_eq_true J]at HN;rw[hfn]at HN;refine zQ ?_;refine vv (v:=.agg (p9 ((zo x.QF l).set 0 0))) (aj E E (l6 1 Em E underlying51 E kQ (nE hfl))) ?_;refine zQ ?_;refine vv (v:=.bool false) (bM E E E (C9 kQ (HN _))) ?_;refine zN 12 ?_;rw[amC hf O J];exact⟨E,Em.Nr⟩
 rw[decide_eq_false J]at HN;rw[hfn]at HN;refine zQ ?_;refine vv (v:=.agg (p9 ((zo x.QF l).set 0 0))) (aj E E (l6 1 Em E underlying51 E kQ (nE hfl))) ?_;refine zQ ?_;refine vv (v:=.bool true) (bM E E E (C9 kQ (HN _))) ?_;refine zN 11 ?_;rw[P7 hf O J];exact⟨E,Em.Nr⟩
end Go.Proofs.YtefabpdniidmbaaGreatDoor
