import Derived.Test.YtcomidffhiilcaaGreatDoorG8266a
set_option maxRecDepth 100000
set_option maxHeartbeats 8000000
set_option linter.unusedSimpArgs false
set_option linter.unusedVariables false
namespace Go.Proofs.YtcomidffhiilcaaGreatDoor
open ChangeShapes WideShapes RowKit
theorem afe (ro ep fr tg rd:Int) (A:Option Addr) (c:Nat) (l:List Ev) (qu e pe:Int) (x:Ev) (hlc:l.length<=c) (w:World) (h:Rd w w.heap.size 6 A l.length (bn l)) (hb:l.length*48<=reachBytes):
    Calls tP 81 #[.agg #[iV ro,iV ep,iV fr,iV tg,iV rd,.slice A l.length c],.agg (rR 4 qu e pe x)] w (mo w (dV ⟨ro,ep,fr,tg,rd,l⟩ ⟨4,qu,e,pe,x⟩)):=by
 have S:=(St.start w).bX h;have hb2:=hb;unfold reachBytes at hb2;obtain ⟨R,hR⟩: ∃ R,ku ⟨ro,ep,fr,tg,rd,l⟩ ⟨4,qu,e,pe,x⟩=R:=⟨_,rfl⟩;have hM:=hR;rw [aoW] at hM
 try dsimp only at hM
 have akz:R.1.evs.length<=l.length+1:=by rw [<-hR];exact Es
 refine gK 54 Tryz.func81 ?_;refine cw [0,1] ?_;refine zN 2 ?_;refine iT S ?_;intro b1 w2 S3;refine iT S3 ?_;intro b4 w5 S6;refine fT S6 fM ?_;intro b7 w8 S9;refine zN 7 ?_;refine cab eQ S9 (dS ro ep fr tg rd A c l _ (St.rd 3 S9 rfl) oQ) ?_;intro Zo rJ;refine zN 6 ?_;by_cases oH:aj ⟨ro,ep,fr,tg,rd,l⟩=0
 ·have hln:=gG (eH oH).2;dsimp only at hln;refine zN 10 ?_;refine cab eQ rJ (jI ⟨4,qu,e,pe,x⟩ _) ?_;intro LB iW;refine zN 6 ?_;by_cases uO:aJ ⟨4,qu,e,pe,x⟩=0
  ·have hrz:=zP uO;dsimp only at hrz;refine zN 11 ?_;by_cases h18:ro=2
   ·refine zN 16 ?_;refine vv jm ?_;refine sa 0 iW kQ ?_;intro BZ kD;refine zN 6 ?_;have nO:=kD.aU [3,2,1,0];rw [Aw oH uO uQ];exact ⟨none,0,Nat.le_refl 0,rfl,aB nO⟩
   refine zN 4 ?_;refine xS eQ (KD 4 dQ _) ?_;rintro _ Px ⟨rfl,Ni⟩;refine ⟨_,rfl,?_⟩;have kS:=iW.on Ni;refine zN 11 ?_;refine mU (X:=Nat×(Option Addr)×Nat×Nat) (λxv=>[(4,pV b7 0),(5,iV 0),(8,pV xv.1 0),(9,iV R.2)]) (λxv wr=>St w.heap.size w wr [.blk xv.1 (bR R.1 xv.2.1 xv.2.2.1) 150,.bI 6 xv.2.1 R.1.evs.length ((R.1.evs).flatMap Ev.cells),.loc xv.2.2.2 (qd tP 3 (λy=>if y=4 then some (.func (.func 150) #[] #[]) else none) 7),.blk b7 zB 150,.blk b4 (rR 4 qu e pe x) 155,.blk b1 #[iV ro,iV ep,iV fr,iV tg,iV rd,.slice A l.length c] 150,.rd 6 A l.length ((l).flatMap Ev.cells)]) ?_ ?_
   ·have iy:=kS.drew;refine aF 13 iy [] ?_;refine aI 4 ?_;refine fu (n:=8) (r:=0) (s:=10) kQ ?_ ?_
    ·refine j5 0 rfl eQ (Ri _) ?_;rintro _ T9 ⟨m30,rfl,T33⟩;refine ⟨_,rfl,?_⟩;have pX:=iy.ext T33 rfl;refine dJ ?_;refine fu (n:=7) (r:=3) (s:=10) kQ ?_ ?_
     ·refine je (i:=3) rfl rfl (v:= .func (.func 150) #[] #[]) (wn rfl) rfl rfl (jX 0 pX rfl rfl rfl rfl Tryz.underlying3 Tryz.underlying204 (Tryz.zeroValue203 _) dQ rfl) ?_;refine dJ ?_;refine fu (n:=6) (r:=6) (s:=10) kQ ?_ ?_
      ·have HC:=vU ro ep fr tg rd A c l 4 qu e pe x _ (St.rd 4 pX rfl) hb;rw [hM] at HC;refine mP 6 rfl eQ (HC) ?_;rintro _ Ud ⟨A34,c35,aDv,rfl,T39⟩;refine ⟨_,rfl,?_⟩;have qD:=pX.ext T39 rfl;clear HC;refine aI 4 ?_;refine aY 10 ?_;refine lM 10 rfl qD fM ?_;intro b43 QU oP;refine dJ ?_;refine aY 11 ?_;refine sn 11 rfl 0 oP kQ ?_;intro Ub vJ;refine aI 3 ?_;refine dD (b43,A34,c35,m30) ?_ mG;exact vJ
      refine lM 10 rfl pX fM ?_;intro LK Pf uh;refine dJ ?_;refine aY 6 ?_;have HC:=vU ro ep fr tg rd A c l 4 qu e pe x _ (St.rd 5 uh rfl) hb;rw [hM] at HC;refine mP 6 rfl eQ (HC) ?_;rintro _ w55 ⟨A52,c53,aDw,rfl,T57⟩;refine ⟨_,rfl,?_⟩;have DJ:=uh.ext T57 rfl;clear HC;refine aI 4 ?_;refine aY 11 ?_;refine sn 11 rfl 1 DJ kQ ?_;intro w61 Jk;refine aI 3 ?_;have S64:St w.heap.size w w61 [_,_,_,_,_,_,_]:=Jk.re [1,0,2,3,4,5,6] dQ;refine dD (LK,A52,c53,m30) ?_ mG;exact S64
     refine lM 10 rfl pX fM ?_;intro b65 Pg qO;refine dJ ?_;refine aY 3 ?_;refine je (i:=3) rfl rfl (v:= .func (.func 150) #[] #[]) (wn rfl) rfl rfl (jX 1 qO rfl rfl rfl rfl Tryz.underlying3 Tryz.underlying204 (Tryz.zeroValue203 _) dQ rfl) ?_;refine dJ ?_;refine aY 6 ?_;have HC:=vU ro ep fr tg rd A c l 4 qu e pe x _ (St.rd 5 qO rfl) hb;rw [hM] at HC;refine mP 6 rfl eQ (HC) ?_;rintro _ w71 ⟨A68,c69,aDx,rfl,T73⟩;refine ⟨_,rfl,?_⟩;have Ca:=qO.ext T73 rfl;clear HC;refine aI 4 ?_;refine aY 11 ?_;refine sn 11 rfl 1 Ca kQ ?_;intro w77 Jm;refine aI 3 ?_;have Bg:St w.heap.size w w77 [_,_,_,_,_,_,_]:=Jm.re [1,0,2,3,4,5,6] dQ;refine dD (b65,A68,c69,m30) ?_ mG;exact Bg
    refine lM 10 rfl iy fM ?_;intro b81 w82 zK;refine dJ ?_;refine aY 0 ?_;refine j5 0 rfl eQ (Ri _) ?_;rintro _ w85 ⟨m84,rfl,T87⟩;refine ⟨_,rfl,?_⟩;have yQ:=zK.ext T87 rfl;refine dJ ?_;refine aY 3 ?_;refine je (i:=3) rfl rfl (v:= .func (.func 150) #[] #[]) (wn rfl) rfl rfl (jX 0 yQ rfl rfl rfl rfl Tryz.underlying3 Tryz.underlying204 (Tryz.zeroValue203 _) dQ rfl) ?_;refine dJ ?_;refine aY 6 ?_;have HC:=vU ro ep fr tg rd A c l 4 qu e pe x _ (St.rd 5 yQ rfl) hb;rw [hM] at HC;refine mP 6 rfl eQ (HC) ?_;rintro _ w91 ⟨A88,c89,akI,rfl,T93⟩;refine ⟨_,rfl,?_⟩;have yL:=yQ.ext T93 rfl;clear HC;refine aI 4 ?_;refine aY 11 ?_;refine sn 11 rfl 2 yL kQ ?_;intro w97 Bo;refine aI 3 ?_;have rW:St w.heap.size w w97 [_,_,_,_,_,_,_]:=Bo.re [2,0,1,3,4,5,6] dQ;refine dD (b81,A88,c89,m84) ?_ mG;exact rW
   rintro ⟨alO,amn,amo,aHW⟩ arK Cx
   try dsimp only at Cx
   refine bg (l':=[(4,pV b7 0),(5,iV 0),(8,pV alO 0),(9,iV R.2)]) mG (aA (aA (av (vm ?_))));by_cases ar5:R.2=0
   ·refine zN 7 ?_;have uU:=Cx.nil 46 6;refine zN 3 ?_;refine dY (news:=(R.1.evs).flatMap Ev.cells) (xs':=(R.1.evs).flatMap Ev.cells) 0 uU (wn rfl) rfl rfl rfl rfl rfl rfl (St.bI 2 uU rfl) Tryz.underlying121 qw rfl dQ (fB _) lQ oQ (rfl) ?_;intro NH Qu Z0 hc113 aDy vP;refine zQ ?_;refine Gz 1 vP kQ ?_;intro aml yh;refine zN 5 ?_;refine sa 4 yh kQ ?_;intro Z4 vR;refine zN 5 ?_;have tq:=vR.aU [7,6,5,4,3,2,1];rw [kg oH uO uQ (by rw [hR];exact ar5),hR];rw [Nat.zero_add] at tq⊢;exact ⟨NH,Qu,(dP (tq.own 0 rfl)).1,rfl,tq.bC 0 rfl⟩
   refine zN 6 ?_;refine vv jm ?_;refine sa 3 Cx kQ ?_;intro aqS zu;refine zN 6 ?_;have Cu:=zu.aU [6,5,4,3,2,1,0];rw [uH oH uO (by rw [hR];exact ar5)];exact ⟨none,0,Nat.le_refl 0,rfl,aB Cu⟩
  refine zN 6 ?_;refine vv jm ?_;refine zQ ?_;refine sa 0 iW kQ ?_;intro azs NI;refine zN 6 ?_;have Qp:=NI.aU [3,2,1,0];rw [zS oH uO];exact ⟨none,0,Nat.le_refl 0,rfl,aB Qp⟩
 refine zN 6 ?_;refine vv jm ?_;refine zQ ?_;refine sa 0 rJ kQ ?_;intro alK Qq;refine zN 6 ?_;have xU:=Qq.aU [3,2,1,0];rw [zR oH];exact ⟨none,0,Nat.le_refl 0,rfl,aB xU⟩
end Go.Proofs.YtcomidffhiilcaaGreatDoor
