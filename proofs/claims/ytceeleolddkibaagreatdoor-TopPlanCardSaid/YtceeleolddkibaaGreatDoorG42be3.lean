import Derived.Test.YtceeleolddkibaaGreatDoorG74672
set_option linter.all false
set_option maxRecDepth 100000
set_option maxHeartbeats 8000000
namespace Go.Proofs.YtceeleolddkibaaGreatDoor
open List Nat Go.Proofs.Tryz ChangeShapes WideShapes RowKit
def ake(ro ep fr tg rd:Int)(A:Option Addr)(c:Nat)(l:List Ev)(qu e pe:Int)(x:Ev)(hlc:l.length<=c)(w:World)(h:Rd w w.heap.size 6 A l.length (bT l))(hb:l.length*48<=reachBytes):
 Calls tP 54 #[.agg #[D ro,D ep,D fr,D tg,D rd,.slice A l.length c],.agg (rR 4 qu e pe x)] w (oK w (fH ⟨ro,ep,fr,tg,rd,l⟩ ⟨4,qu,e,pe,x⟩)):=by
 have S:=(St.start w).dG h;have hb2:=hb;unfold reachBytes at hb2;obtain⟨R,hR⟩:∃R,mD ⟨ro,ep,fr,tg,rd,l⟩ ⟨4,qu,e,pe,x⟩=R:=⟨_,E⟩;have hM:=hR;rw[auQ]at hM
 try dsimp only at hM
 have aqh:R.1.JU.length<=l.length+1:=by rw[<-hR];exact IC
 refine iW 54 func54 ?_;refine cw [0,1] ?_;refine zN 2 ?_;refine jM S ?_;intro b1 w2 S3;refine jM S3 ?_;intro b4 w5 S6;refine iL S6 iI ?_;intro b7 w8 S9;refine zN 7 ?_;refine Vm eQ S9 (fF ro ep fr tg rd A c l _ (St.rd 3 S9 E) Y) ?_;intro w10 Fp;refine zN 6 ?_;by_cases I:aA ⟨ro,ep,fr,tg,rd,l⟩=0
 ·have hln:=iX (gB I).2;dsimp only at hln;refine zN 10 ?_;refine Vm eQ Fp (lq ⟨4,qu,e,pe,x⟩ _) ?_;intro OE ku;refine zN 6 ?_;by_cases J:aM ⟨4,qu,e,pe,x⟩=0
  ·have hrz:=Dl J;dsimp only at hrz;refine zN 11 ?_;by_cases h18:ro=2
   ·refine zN 16 ?_;refine vv kF ?_;refine sa 0 ku kQ ?_;intro J4 sU;refine zN 6 ?_;have yj:=sU.bg [3,2,1,0];rw[DY I J uQ];exact⟨none,0,iJ 0,E,aG yj⟩
   refine zN 4 ?_;refine BI eQ (OM 4 dQ _) ?_;rintro _ w22 ⟨rfl,RH⟩;refine⟨_,E,?_⟩;have rJ:=ku.on RH;refine zN 11 ?_;refine pW (X:=Nat×(Option Addr)×Nat×Nat) (λxv=>[(4,pV b7 0),(5,D 0),(8,pV xv.1 0),(9,D R.2)]) (λxv wr=>St w.heap.size w wr [.Pj xv.1 (bR R.1 xv.2.1 xv.2.2.1) 58,.dB 6 xv.2.1 R.1.JU.length ((R.1.JU).flatMap Ev.cells),.loc xv.2.2.2 (tq tP 3 (λy=>if y=4 then some (.func (.func 101) #[] #[])else none) 7),.Pj b7 zB 58,.Pj b4 (rR 4 qu e pe x) 132,.Pj b1 #[D ro,D ep,D fr,D tg,D rd,.slice A l.length c] 58,.rd 6 A l.length ((l).flatMap Ev.cells)]) ?_ ?_
   ·have nC:=rJ.drew;refine aO 13 nC [] ?_;refine aP 4 ?_;refine jv (n:=8) (r:=0) (s:=10) kQ ?_ ?_
    ·refine lN 0 E eQ (WS _) ?_;rintro _ w31 ⟨m30,rfl,T33⟩;refine⟨_,E,?_⟩;have M:=nC.ext T33 E;refine eH ?_;refine jv (n:=7) (r:=3) (s:=10) kQ ?_ ?_
     ·refine ko (i:=3) E E (v:=.func (.func 101) #[] #[]) (wn E) E E (lV 0 M E E E E underlying3 Tryz.underlying168 (Tryz.zeroValue167 _) dQ E) ?_;refine eH ?_;refine jv (n:=6) (r:=6) (s:=10) kQ ?_ ?_
      ·have HC:=zy ro ep fr tg rd A c l 4 qu e pe x _ (St.rd 4 M E) hb;rw[hM]at HC;refine pQ 6 E eQ (HC) ?_;rintro _ w37 ⟨A34,c35,aJT,rfl,T39⟩;refine⟨_,E,?_⟩;have Dg:=M.ext T39 E;clear HC;refine aP 4 ?_;refine bG 10 ?_;refine nQ 10 E Dg iI ?_;intro b43 U4 tO;refine eH ?_;refine bG 11 ?_;refine sn 11 E 0 tO kQ ?_;intro w46 Cu;refine aP 3 ?_;refine eO (b43,A34,c35,m30) ?_ lS;exact Cu
      refine nQ 10 E M iI ?_;intro b49 Zb yh;refine eH ?_;refine bG 6 ?_;have HC:=zy ro ep fr tg rd A c l 4 qu e pe x _ (St.rd 5 yh E) hb;rw[hM]at HC;refine pQ 6 E eQ (HC) ?_;rintro _ w55 ⟨A52,c53,aJU,rfl,T57⟩;refine⟨_,E,?_⟩;have Zg:=yh.ext T57 E;clear HC;refine aP 4 ?_;refine bG 11 ?_;refine sn 11 E 1 Zg kQ ?_;intro w61 MR;refine aP 3 ?_;have S64:St w.heap.size w w61 [_,_,_,_,_,_,_]:=MR.re [1,0,2,3,4,5,6] dQ;refine eO (b49,A52,c53,m30) ?_ lS;exact S64
     refine nQ 10 E M iI ?_;intro b65 Zc xI;refine eH ?_;refine bG 3 ?_;refine ko (i:=3) E E (v:=.func (.func 101) #[] #[]) (wn E) E E (lV 1 xI E E E E underlying3 Tryz.underlying168 (Tryz.zeroValue167 _) dQ E) ?_;refine eH ?_;refine bG 6 ?_;have HC:=zy ro ep fr tg rd A c l 4 qu e pe x _ (St.rd 5 xI E) hb;rw[hM]at HC;refine pQ 6 E eQ (HC) ?_;rintro _ w71 ⟨A68,c69,aJV,rfl,T73⟩;refine⟨_,E,?_⟩;have Jo:=xI.ext T73 E;clear HC;refine aP 4 ?_;refine bG 11 ?_;refine sn 11 E 1 Jo kQ ?_;intro w77 MV;refine aP 3 ?_;have EF:St w.heap.size w w77 [_,_,_,_,_,_,_]:=MV.re [1,0,2,3,4,5,6] dQ;refine eO (b65,A68,c69,m30) ?_ lS;exact EF
    refine nQ 10 E nC iI ?_;intro b81 w82 F5;refine eH ?_;refine bG 0 ?_;refine lN 0 E eQ (WS _) ?_;rintro _ w85 ⟨m84,rfl,T87⟩;refine⟨_,E,?_⟩;have CQ:=F5.ext T87 E;refine eH ?_;refine bG 3 ?_;refine ko (i:=3) E E (v:=.func (.func 101) #[] #[]) (wn E) E E (lV 0 CQ E E E E underlying3 Tryz.underlying168 (Tryz.zeroValue167 _) dQ E) ?_;refine eH ?_;refine bG 6 ?_;have HC:=zy ro ep fr tg rd A c l 4 qu e pe x _ (St.rd 5 CQ E) hb;rw[hM]at HC;refine pQ 6 E eQ (HC) ?_;rintro _ w91 ⟨A88,c89,aqt,rfl,T93⟩;refine⟨_,E,?_⟩;have AB:=CQ.ext T93 E;clear HC;refine aP 4 ?_;refine bG 11 ?_;refine sn 11 E 2 AB kQ ?_;intro w97 Gg;refine aP 3 ?_;have xM:St w.heap.size w w97 [_,_,_,_,_,_,_]:=Gg.re [2,0,1,3,4,5,6] dQ;refine eO (b81,A88,c89,m84) ?_ lS;exact xM
   rintro⟨arW,ar4,ar5,aOe⟩ ax1 O
   try dsimp only at O
   refine bK (l':=[(4,pV b7 0),(5,D 0),(8,pV arW 0),(9,D R.2)]) lS (aX (aX (aH (vm ?_))));by_cases ar6:R.2=0
   ·refine zN 7 ?_;have yG:=O.nil 53 6;refine zN 3 ?_;refine eu (news:=(R.1.JU).flatMap Ev.cells) (xs':=(R.1.JU).flatMap Ev.cells) 0 yG (wn E) E E E E E E (St.dB 2 yG E) underlying56 tZ E dQ (gV _) lQ Y (E) ?_;intro R8 V7 afn hc113 aJW EI;refine zQ ?_;refine KC 1 EI kQ ?_;intro ar7 Ca;refine zN 5 ?_;refine sa 4 Ca kQ ?_;intro afo zu;refine zN 5 ?_;have Z:=zu.bg [7,6,5,4,3,2,1];rw[l8 I J uQ (by rw[hR];exact ar6),hR];rw[fq]at Z⊢;exact⟨R8,V7,(fE (Z.own 0 E)).1,E,Z.bU 0 E⟩
   refine zN 6 ?_;refine vv kF ?_;refine sa 3 O kQ ?_;intro awV Ki;refine zN 6 ?_;have FM:=Ki.bg [6,5,4,3,2,1,0];rw[xZ I J (by rw[hR];exact ar6)];exact⟨none,0,iJ 0,E,aG FM⟩
  refine zN 6 ?_;refine vv kF ?_;refine zQ ?_;refine sa 0 ku kQ ?_;intro aFf R9;refine zN 6 ?_;have VR:=R9.bg [3,2,1,0];rw[Dn I J];exact⟨none,0,iJ 0,E,aG VR⟩
 refine zN 6 ?_;refine vv kF ?_;refine zQ ?_;refine sa 0 Fp kQ ?_;intro arE VT;refine zN 6 ?_;have C9:=VT.bg [3,2,1,0];rw[Dm I];exact⟨none,0,iJ 0,E,aG C9⟩
end Go.Proofs.YtceeleolddkibaaGreatDoor
