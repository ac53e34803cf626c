import Derived.Test.YtceeleolddkibaaGreatDoorG74672
set_option linter.all false
set_option maxRecDepth 100000
set_option maxHeartbeats 8000000
namespace Go.Proofs.YtceeleolddkibaaGreatDoor
open List Nat Go.Proofs.Tryz ChangeShapes WideShapes RowKit
def IQ {k z:Int} {F:FuncId} {AR:bF×Int} (ro ep fr tg rd:Int) (A:Option Addr) (c:Nat) (l:List Ev) (qu e pe:Int) (x:Ev) (hk:k≠3/\k≠4) (hkr: -9223372036854775808<=k/\k<=9223372036854775807) (hact:mD ⟨ro,ep,fr,tg,rd,l⟩ ⟨k,qu,e,pe,x⟩=if ¬ (ro=z/\ep=e) then (bV,3) else AR)
    (hra:∀w,Calls tP 74 #[] w λe w'=> ∃m d g,e=.returned (.map (some m))/\St w.heap.size w w' [.Pj d #[D z] 3,.Pj g #[.func (.func F) #[] #[]] 167,.loc m (tq tP 3 (λy=>if y=k then some (.func (.func 110) #[] #[pV d 0,pV g 0])else none) 7)])
    (ho:∀(b1 b2:Nat) (_:l.length<=2000) (_:0<=e/\e<=1048576) (w:World) (_:Rd w w.heap.size 6 A l.length (bT l)) (_:l.length*48<=reachBytes) (_:Rd w w.heap.size 1 (aD b1 0) 1 [D z]) (_:Rd w w.heap.size 1 (aD b2 0) 1 [.func (.func F) #[] #[]]),Calls tP 110 #[.agg #[D ro,D ep,D fr,D tg,D rd,.slice A l.length c],.agg (rR k qu e pe x),pV b1 0,pV b2 0] w (mU w (if ¬(ro=z/\ep=e)then(bV,3)else AR)))
    (hlc:l.length<=c) (w:World) (h:Rd w w.heap.size 6 A l.length (bT l)) (hb:l.length*48<=reachBytes):
    Calls tP 54 #[.agg #[D ro,D ep,D fr,D tg,D rd,.slice A l.length c],.agg (rR k qu e pe x)] w (oK w (fH ⟨ro,ep,fr,tg,rd,l⟩ ⟨k,qu,e,pe,x⟩)):=by
 have S:=(St.start w).dG h;have hb2:=hb;unfold reachBytes at hb2;obtain⟨R,hR⟩:∃R,mD ⟨ro,ep,fr,tg,rd,l⟩ ⟨k,qu,e,pe,x⟩=R:=⟨_,E⟩;have hM:=hR;rw[hact]at hM
 try dsimp only at hM
 have aqh:R.1.JU.length<=l.length+1:=by rw[<-hR];exact IC
 refine iW 54 func54 ?_;refine cw [0,1] ?_;refine zN 2 ?_;refine jM S ?_;intro b1 w2 S3;refine jM S3 ?_;intro b4 w5 S6;refine iL S6 iI ?_;intro b7 w8 S9;refine zN 7 ?_;refine Vm eQ S9 (fF ro ep fr tg rd A c l _ (St.rd 3 S9 E) Y) ?_;intro w10 Fp;refine zN 6 ?_;by_cases M:aA ⟨ro,ep,fr,tg,rd,l⟩=0
 ·have hln:=iX (gB M).2;dsimp only at hln;refine zN 10 ?_;refine Vm eQ Fp (lq ⟨k,qu,e,pe,x⟩ _) ?_;intro OE ku;refine zN 6 ?_;by_cases Z:aM ⟨k,qu,e,pe,x⟩=0
  ·have hrz:=Dl Z;dsimp only at hrz;refine zN 11 ?_;by_cases h18:ro=2
   ·refine zN 16 ?_;refine vv kF ?_;refine sa 0 ku kQ ?_;intro J4 sU;refine zN 6 ?_;have yj:=sU.bg [3,2,1,0];rw[DY M Z uQ];exact⟨none,0,iJ 0,E,aG yj⟩
   refine zN 4 ?_;refine BI eQ (OL k hk _) ?_;rintro _ w22 ⟨rfl,RH⟩;refine⟨_,E,?_⟩;have rJ:=ku.on RH;refine zN 3 ?_;by_cases xO:pe=0
   ·refine zN 8 ?_;refine pW (X:=Nat×(Option Addr)×Nat×Nat×Nat×Nat) (λxv=>[(4,pV b7 0),(5,D 0),(8,pV xv.1 0),(9,D R.2)]) (λxv wr=>St w.heap.size w wr [.Pj xv.1 (bR R.1 xv.2.1 xv.2.2.1) 58,.dB 6 xv.2.1 R.1.JU.length ((R.1.JU).flatMap Ev.cells),.Pj xv.2.2.2.1 #[D z] 3,.Pj xv.2.2.2.2.1 #[.func (.func F) #[] #[]] 167,.loc xv.2.2.2.2.2 (tq tP 3 (λy=>if y=k then some (.func (.func 110) #[] #[pV xv.2.2.2.1 0,pV xv.2.2.2.2.1 0])else none) 7),.Pj b7 zB 58,.Pj b4 (rR k qu e pe x) 132,.Pj b1 #[D ro,D ep,D fr,D tg,D rd,.slice A l.length c] 58,.rd 6 A l.length ((l).flatMap Ev.cells)]) ?_ ?_
    ·have uE:=rJ.drew;refine aO 13 uE [] ?_;refine aP 4 ?_;refine jv (n:=8) (r:=0) (s:=10) kQ ?_ ?_
     ·refine lN 0 E eQ (hra _) ?_;rintro _ w34 ⟨m31,I,J,rfl,T36⟩;refine⟨_,E,?_⟩;have O:=uE.ext T36 E;refine eH ?_;refine jv (n:=7) (r:=3) (s:=10) kQ ?_ ?_
      ·refine ko (i:=3) E E (v:=.func (.func 110) #[] #[pV I 0,pV J 0]) (wn E) E E (lV 2 O E E E E underlying3 Tryz.underlying168 (Tryz.zeroValue167 _) hkr (aj E)) ?_;refine eH ?_;refine jv (n:=6) (r:=6) (s:=10) kQ ?_ ?_
       ·have HC:=ho I J Y Y _ (St.rd 6 O E) hb (St.nO (xs:=[D z]) 0 O E E E) (St.nO (xs:=[.func (.func F) #[] #[]]) 1 O E E E);rw[hM]at HC;refine pQ 6 E eQ (HC) ?_;rintro _ w40 ⟨A37,c38,aJN,rfl,T42⟩;refine⟨_,E,?_⟩;have J5:=O.ext T42 E;clear HC;refine aP 4 ?_;refine bG 10 ?_;refine nQ 10 E J5 iI ?_;intro b46 w47 Dh;refine eH ?_;refine bG 11 ?_;refine sn 11 E 0 Dh kQ ?_;intro w49 AA;refine aP 3 ?_;refine eO (b46,A37,c38,I,J,m31) ?_ lS;exact AA
       refine nQ 10 E O iI ?_;intro b52 w53 xP;refine eH ?_;refine bG 6 ?_;have HC:=ho I J Y Y _ (St.rd 7 xP E) hb (St.nO (xs:=[D z]) 1 xP E E E) (St.nO (xs:=[.func (.func F) #[] #[]]) 2 xP E E E);rw[hM]at HC;refine pQ 6 E eQ (HC) ?_;rintro _ w58 ⟨A55,c56,aJO,rfl,T60⟩;refine⟨_,E,?_⟩;have Ez:=xP.ext T60 E;clear HC;refine aP 4 ?_;refine bG 11 ?_;refine sn 11 E 1 Ez kQ ?_;intro w64 Hu;refine aP 3 ?_;have xI:St w.heap.size w w64 [_,_,_,_,_,_,_,_,_]:=Hu.re [1,0,2,3,4,5,6,7,8] dQ;refine eO (b52,A55,c56,I,J,m31) ?_ lS;exact xI
      refine nQ 10 E O iI ?_;intro b68 w69 CP;refine eH ?_;refine bG 3 ?_;refine ko (i:=3) E E (v:=.func (.func 110) #[] #[pV I 0,pV J 0]) (wn E) E E (lV 3 CP E E E E underlying3 Tryz.underlying168 (Tryz.zeroValue167 _) hkr (aj E)) ?_;refine eH ?_;refine bG 6 ?_;have HC:=ho I J Y Y _ (St.rd 7 CP E) hb (St.nO (xs:=[D z]) 1 CP E E E) (St.nO (xs:=[.func (.func F) #[] #[]]) 2 CP E E E);rw[hM]at HC;refine pQ 6 E eQ (HC) ?_;rintro _ w74 ⟨A71,c72,aJP,rfl,T76⟩;refine⟨_,E,?_⟩;have J6:=CP.ext T76 E;clear HC;refine aP 4 ?_;refine bG 11 ?_;refine sn 11 E 1 J6 kQ ?_;intro w80 xJ;refine aP 3 ?_;have F5:St w.heap.size w w80 [_,_,_,_,_,_,_,_,_]:=xJ.re [1,0,2,3,4,5,6,7,8] dQ;refine eO (b68,A71,c72,I,J,m31) ?_ lS;exact F5
     refine nQ 10 E uE iI ?_;intro b84 w85 CQ;refine eH ?_;refine bG 0 ?_;refine lN 0 E eQ (hra _) ?_;rintro _ w90 ⟨m87,d88,g89,rfl,T92⟩;refine⟨_,E,?_⟩;have U5:=CQ.ext T92 E;refine eH ?_;refine bG 3 ?_;refine ko (i:=3) E E (v:=.func (.func 110) #[] #[pV d88 0,pV g89 0]) (wn E) E E (lV 2 U5 E E E E underlying3 Tryz.underlying168 (Tryz.zeroValue167 _) hkr (aj E)) ?_;refine eH ?_;refine bG 6 ?_;have HC:=ho d88 g89 Y Y _ (St.rd 7 U5 E) hb (St.nO (xs:=[D z]) 0 U5 E E E) (St.nO (xs:=[.func (.func F) #[] #[]]) 1 U5 E E E);rw[hM]at HC;refine pQ 6 E eQ (HC) ?_;rintro _ w96 ⟨A93,c94,aJQ,rfl,T98⟩;refine⟨_,E,?_⟩;have Gb:=U5.ext T98 E;clear HC;refine aP 4 ?_;refine bG 11 ?_;refine sn 11 E 4 Gb kQ ?_;intro arX wV;refine aP 3 ?_;have rD:St w.heap.size w arX [_,_,_,_,_,_,_,_,_]:=wV.re [4,0,1,2,3,5,6,7,8] dQ;refine eO (b84,A93,c94,d88,g89,m87) ?_ lS;exact rD
    rintro⟨alI,Z8,Z9,aOb,aOc,aOd⟩ afg yH
    try dsimp only at yH
    refine bK (l':=[(4,pV b7 0),(5,D 0),(8,pV alI 0),(9,D R.2)]) lS (aX (aX (aH (vm ?_))));by_cases Kg:R.2=0
    ·refine zN 7 ?_;have tF:=yH.nil 53 6;refine zN 3 ?_;refine eu (news:=(R.1.JU).flatMap Ev.cells) (xs':=(R.1.JU).flatMap Ev.cells) 0 tF (wn E) E E E E E E (St.dB 2 tF E) underlying56 tZ E dQ (gV _) lQ Y (E) ?_;intro aFe c117 alu aJR aJS yI;refine zQ ?_;refine KC 1 yI kQ ?_;intro arx CY;refine zN 5 ?_;refine sa 6 CY kQ ?_;intro awF VR;refine zN 5 ?_;have AJ:=VR.bg [9,8,7,6,5,4,3,2,1];rw[l8 M Z uQ (by rw[hR];exact Kg),hR];rw[fq]at AJ⊢;exact⟨aFe,c117,(fE (AJ.own 0 E)).1,E,AJ.bU 0 E⟩
    refine zN 6 ?_;refine vv kF ?_;refine sa 5 yH kQ ?_;intro ZO C9;refine zN 6 ?_;have AL:=C9.bg [8,7,6,5,4,3,2,1,0];rw[xZ M Z (by rw[hR];exact Kg)];exact⟨none,0,iJ 0,E,aG AL⟩
   refine zN 8 ?_;refine vv kF ?_;refine sa 0 rJ kQ ?_;intro arM BQ;refine zN 6 ?_;have BN:=BQ.bg [3,2,1,0];rw[DY M Z uQ];exact⟨none,0,iJ 0,E,aG BN⟩
  refine zN 6 ?_;refine vv kF ?_;refine zQ ?_;refine sa 0 ku kQ ?_;intro ae2 CZ;refine zN 6 ?_;have Pw:=CZ.bg [3,2,1,0];rw[Dn M Z];exact⟨none,0,iJ 0,E,aG Pw⟩
 refine zN 6 ?_;refine vv kF ?_;refine zQ ?_;refine sa 0 Fp kQ ?_;intro afh EH;refine zN 6 ?_;have Eu:=EH.bg [3,2,1,0];rw[Dm M];exact⟨none,0,iJ 0,E,aG Eu⟩
def aj9(ro ep fr tg rd:Int)(A:Option Addr)(c:Nat)(l:List Ev)(qu e pe:Int)(x:Ev)(I:l.length<=c)(w:World)(h:Rd w w.heap.size 6 A l.length (bT l))(J:l.length*48<=reachBytes):
 Calls tP 54 #[.agg #[D ro,D ep,D fr,D tg,D rd,.slice A l.length c],.agg (rR 2 qu e pe x)] w (oK w (fH ⟨ro,ep,fr,tg,rd,l⟩ ⟨2,qu,e,pe,x⟩)):=
 IQ (z:=1) (F:=99) ro ep fr tg rd A c l qu e pe x dQ dQ ah5 ajT (λb1 b2 h1 M=>WO ro ep fr tg rd A c l 2 qu e pe x _ b1 b2 h1) I w h J
def akb(ro ep fr tg rd:Int)(A:Option Addr)(c:Nat)(l:List Ev)(qu e pe:Int)(x:Ev)(I:l.length<=c)(w:World)(h:Rd w w.heap.size 6 A l.length (bT l))(J:l.length*48<=reachBytes):
 Calls tP 54 #[.agg #[D ro,D ep,D fr,D tg,D rd,.slice A l.length c],.agg (rR 5 qu e pe x)] w (oK w (fH ⟨ro,ep,fr,tg,rd,l⟩ ⟨5,qu,e,pe,x⟩)):=
 IQ (z:=4) (F:=99) ro ep fr tg rd A c l qu e pe x dQ dQ ah6 ajU (λb1 b2 h1 M=>WO ro ep fr tg rd A c l 5 qu e pe x _ b1 b2 h1) I w h J
def akc(ro ep fr tg rd:Int)(A:Option Addr)(c:Nat)(l:List Ev)(qu e pe:Int)(x:Ev)(I:l.length<=c)(w:World)(h:Rd w w.heap.size 6 A l.length (bT l))(J:l.length*48<=reachBytes):
 Calls tP 54 #[.agg #[D ro,D ep,D fr,D tg,D rd,.slice A l.length c],.agg (rR 6 qu e pe x)] w (oK w (fH ⟨ro,ep,fr,tg,rd,l⟩ ⟨6,qu,e,pe,x⟩)):=
 IQ (z:=4) (F:=102) ro ep fr tg rd A c l qu e pe x dQ dQ auR ajV (λb1 b2 h1 M=>ajO ro ep fr tg rd A c l 6 qu e pe x _ b1 b2 I) I w h J
def akd(ro ep fr tg rd:Int)(A:Option Addr)(c:Nat)(l:List Ev)(qu e pe:Int)(x:Ev)(I:l.length<=c)(w:World)(h:Rd w w.heap.size 6 A l.length (bT l))(J:l.length*48<=reachBytes):
 Calls tP 54 #[.agg #[D ro,D ep,D fr,D tg,D rd,.slice A l.length c],.agg (rR 7 qu e pe x)] w (oK w (fH ⟨ro,ep,fr,tg,rd,l⟩ ⟨7,qu,e,pe,x⟩)):=
 IQ (z:=3) (F:=103) ro ep fr tg rd A c l qu e pe x dQ dQ auS ajW (λb1 b2 h1 M=>ajP ro ep fr tg rd A c l 7 qu e pe x _ b1 b2 M) I w h J
end Go.Proofs.YtceeleolddkibaaGreatDoor
