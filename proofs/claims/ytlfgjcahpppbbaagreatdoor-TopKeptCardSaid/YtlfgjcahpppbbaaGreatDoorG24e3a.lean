import Derived.Test.YtlfgjcahpppbbaaGreatDoorGba5b0
set_option maxRecDepth 100000
set_option maxHeartbeats 8000000
set_option linter.unusedSimpArgs false
set_option linter.unusedVariables false
namespace Go.Proofs.YtlfgjcahpppbbaaGreatDoor
open ChangeShapes WideShapes RowKit
theorem ag3 (ro ep fr tg rd:Int) (A:Option Addr) (c:Nat) (l:List Ev) (qu e pe:Int) (x:Ev) (hlc:l.length<=c) (w:World) (h:Rd w w.heap.size 6 A l.length (bg l)) (hb:l.length*48<=reachBytes):
    Calls tP 77 #[.agg #[iV ro,iV ep,iV fr,iV tg,iV rd,.slice A l.length c],.agg (rR 4 qu e pe x)] w (l8 w (eu ⟨ro,ep,fr,tg,rd,l⟩ ⟨4,qu,e,pe,x⟩)):=by
 have S:=(St.start w).bL h;have hb2:=hb;unfold reachBytes at hb2;obtain ⟨R,hR⟩: ∃ R,ku ⟨ro,ep,fr,tg,rd,l⟩ ⟨4,qu,e,pe,x⟩=R:=⟨_,rfl⟩;have hM:=hR;rw [aru] at hM
 try dsimp only at hM
 have am7:R.1.evs.length<=l.length+1:=by rw [<-hR];exact Fh
 refine gu 54 Tryz.func77 ?_;refine cw [0,1] ?_;refine zN 2 ?_;refine iH S ?_;intro b1 w2 S3;refine iH S3 ?_;intro b4 w5 S6;refine gq S6 fP ?_;intro b7 w8 S9;refine zN 7 ?_;refine cab eQ S9 (dZ ro ep fr tg rd A c l _ (St.rd 3 S9 rfl) oQ) ?_;intro ZE qI;refine zN 6 ?_;by_cases pR:au ⟨ro,ep,fr,tg,rd,l⟩=0
 ·have hln:=gJ (eO pR).2;dsimp only at hln;refine zN 10 ?_;refine cab eQ qI (jH ⟨4,qu,e,pe,x⟩ _) ?_;intro JO iG;refine zN 6 ?_;by_cases u7:aJ ⟨4,qu,e,pe,x⟩=0
  ·have hrz:=Bf u7;dsimp only at hrz;refine zN 11 ?_;by_cases h18:ro=2
   ·refine zN 16 ?_;refine vv jl ?_;refine sa 0 iG kQ ?_;intro FX mM;refine zN 6 ?_;have tZ:=mM.aP [3,2,1,0];rw [BL pR u7 uQ];exact ⟨none,0,Nat.le_refl 0,rfl,aB tZ⟩
   refine zN 4 ?_;refine xY eQ (Lx 4 dQ _) ?_;rintro _ w22 ⟨rfl,Ox⟩;refine ⟨_,rfl,?_⟩;have oh:=iG.on Ox;refine zN 11 ?_;refine mh (X:=Nat×(Option Addr)×Nat×Nat) (λxv=>[(4,pV b7 0),(5,iV 0),(8,pV xv.1 0),(9,iV R.2)]) (λxv wr=>St w.heap.size w wr [.blk xv.1 (bR R.1 xv.2.1 xv.2.2.1) 57,.bJ 6 xv.2.1 R.1.evs.length ((R.1.evs).flatMap Ev.cells),.loc xv.2.2.2 (p9 tP 3 (λy=>if y=4 then some (.func (.func 136) #[] #[]) else none) 7),.blk b7 zB 57,.blk b4 (rR 4 qu e pe x) 171,.blk b1 #[iV ro,iV ep,iV fr,iV tg,iV rd,.slice A l.length c] 57,.rd 6 A l.length ((l).flatMap Ev.cells)]) ?_ ?_
   ·have jE:=oh.drew;refine aN 13 jE [] ?_;refine aL 4 ?_;refine gH (n:=8) (r:=0) (s:=10) kQ ?_ ?_
    ·refine jI 0 rfl eQ (Tm _) ?_;rintro _ ZI ⟨m30,rfl,T33⟩;refine ⟨_,rfl,?_⟩;have pU:=jE.ext T33 rfl;refine cO ?_;refine gH (n:=7) (r:=3) (s:=10) kQ ?_ ?_
     ·refine je (i:=3) rfl rfl (v:= .func (.func 136) #[] #[]) (wn rfl) rfl rfl (jS 0 pU rfl rfl rfl rfl Tryz.underlying3 Tryz.underlying206 (Tryz.zeroValue205 _) dQ rfl) ?_;refine cO ?_;refine gH (n:=6) (r:=6) (s:=10) kQ ?_ ?_
      ·have HC:=wW ro ep fr tg rd A c l 4 qu e pe x _ (St.rd 4 pU rfl) hb;rw [hM] at HC;refine mW 6 rfl eQ (HC) ?_;rintro _ Te ⟨A34,c35,aGA,rfl,T39⟩;refine ⟨_,rfl,?_⟩;have qJ:=pU.ext T39 rfl;clear HC;refine aL 4 ?_;refine aU 10 ?_;refine lH 10 rfl qJ fP ?_;intro b43 QX nX;refine cO ?_;refine aU 11 ?_;refine sn 11 rfl 0 nX kQ ?_;intro VW yg;refine aL 3 ?_;refine bX (b43,A34,c35,m30) ?_ ji;exact yg
      refine lH 10 rfl pU fP ?_;intro M8 VK uX;refine cO ?_;refine aU 6 ?_;have HC:=wW ro ep fr tg rd A c l 4 qu e pe x _ (St.rd 5 uX rfl) hb;rw [hM] at HC;refine mW 6 rfl eQ (HC) ?_;rintro _ w55 ⟨A52,c53,aGB,rfl,T57⟩;refine ⟨_,rfl,?_⟩;have F4:=uX.ext T57 rfl;clear HC;refine aL 4 ?_;refine aU 11 ?_;refine sn 11 rfl 1 F4 kQ ?_;intro w61 GN;refine aL 3 ?_;have S64:St w.heap.size w w61 [_,_,_,_,_,_,_]:=GN.re [1,0,2,3,4,5,6] dQ;refine bX (M8,A52,c53,m30) ?_ ji;exact S64
     refine lH 10 rfl pU fP ?_;intro b65 VL uD;refine cO ?_;refine aU 3 ?_;refine je (i:=3) rfl rfl (v:= .func (.func 136) #[] #[]) (wn rfl) rfl rfl (jS 1 uD rfl rfl rfl rfl Tryz.underlying3 Tryz.underlying206 (Tryz.zeroValue205 _) dQ rfl) ?_;refine cO ?_;refine aU 6 ?_;have HC:=wW ro ep fr tg rd A c l 4 qu e pe x _ (St.rd 5 uD rfl) hb;rw [hM] at HC;refine mW 6 rfl eQ (HC) ?_;rintro _ w71 ⟨A68,c69,aGC,rfl,T73⟩;refine ⟨_,rfl,?_⟩;have Bb:=uD.ext T73 rfl;clear HC;refine aL 4 ?_;refine aU 11 ?_;refine sn 11 rfl 1 Bb kQ ?_;intro w77 GU;refine aL 3 ?_;have Cm:St w.heap.size w w77 [_,_,_,_,_,_,_]:=GU.re [1,0,2,3,4,5,6] dQ;refine bX (b65,A68,c69,m30) ?_ ji;exact Cm
    refine lH 10 rfl jE fP ?_;intro b81 w82 DX;refine cO ?_;refine aU 0 ?_;refine jI 0 rfl eQ (Tm _) ?_;rintro _ w85 ⟨m84,rfl,T87⟩;refine ⟨_,rfl,?_⟩;have Cn:=DX.ext T87 rfl;refine cO ?_;refine aU 3 ?_;refine je (i:=3) rfl rfl (v:= .func (.func 136) #[] #[]) (wn rfl) rfl rfl (jS 0 Cn rfl rfl rfl rfl Tryz.underlying3 Tryz.underlying206 (Tryz.zeroValue205 _) dQ rfl) ?_;refine cO ?_;refine aU 6 ?_;have HC:=wW ro ep fr tg rd A c l 4 qu e pe x _ (St.rd 5 Cn rfl) hb;rw [hM] at HC;refine mW 6 rfl eQ (HC) ?_;rintro _ w91 ⟨A88,c89,am8,rfl,T93⟩;refine ⟨_,rfl,?_⟩;have zR:=Cn.ext T93 rfl;clear HC;refine aL 4 ?_;refine aU 11 ?_;refine sn 11 rfl 2 zR kQ ?_;intro w97 D8;refine aL 3 ?_;have sI:St w.heap.size w w97 [_,_,_,_,_,_,_]:=D8.re [2,0,1,3,4,5,6] dQ;refine bX (b81,A88,c89,m84) ?_ ji;exact sI
   rintro ⟨an8,aoI,aoJ,aKx⟩ auf Dx
   try dsimp only at Dx
   refine aZ (l':=[(4,pV b7 0),(5,iV 0),(8,pV an8 0),(9,iV R.2)]) ji (aH (aH (ay (vm ?_))));by_cases auH:R.2=0
   ·refine zN 7 ?_;have vG:=Dx.nil 65 6;refine zN 3 ?_;refine dx (news:=(R.1.evs).flatMap Ev.cells) (xs':=(R.1.evs).flatMap Ev.cells) 0 vG (wn rfl) rfl rfl rfl rfl rfl rfl (St.bJ 2 vG rfl) Tryz.underlying55 oO rfl dQ (fE _) lQ oQ (rfl) ?_;intro OU Sl abI hc113 aGD wR;refine zQ ?_;refine Hz 1 wR kQ ?_;intro aoK uH;refine zN 5 ?_;refine sa 4 uH kQ ?_;intro abJ wP;refine zN 5 ?_;have oZ:=wP.aP [7,6,5,4,3,2,1];rw [jY pR u7 uQ (by rw [hR];exact auH),hR];rw [Nat.zero_add] at oZ⊢;exact ⟨OU,Sl,(dY (oZ.own 0 rfl)).1,rfl,oZ.bD 0 rfl⟩
   refine zN 6 ?_;refine vv jl ?_;refine sa 3 Dx kQ ?_;intro ath AQ;refine zN 6 ?_;have Dv:=AQ.aP [6,5,4,3,2,1,0];rw [uS pR u7 (by rw [hR];exact auH)];exact ⟨none,0,Nat.le_refl 0,rfl,aB Dv⟩
  refine zN 6 ?_;refine vv jl ?_;refine zQ ?_;refine sa 0 iG kQ ?_;intro aB5 OV;refine zN 6 ?_;have Mg:=OV.aP [3,2,1,0];rw [Bh pR u7];exact ⟨none,0,Nat.le_refl 0,rfl,aB Mg⟩
 refine zN 6 ?_;refine vv jl ?_;refine zQ ?_;refine sa 0 qI kQ ?_;intro an1 R9;refine zN 6 ?_;have ze:=R9.aP [3,2,1,0];rw [Bg pR];exact ⟨none,0,Nat.le_refl 0,rfl,aB ze⟩
end Go.Proofs.YtlfgjcahpppbbaaGreatDoor
