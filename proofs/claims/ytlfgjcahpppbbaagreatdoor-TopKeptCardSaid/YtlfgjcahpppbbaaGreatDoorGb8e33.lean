import Derived.Test.YtlfgjcahpppbbaaGreatDoorGba5b0
set_option maxRecDepth 100000
set_option maxHeartbeats 8000000
set_option linter.unusedSimpArgs false
set_option linter.unusedVariables false
namespace Go.Proofs.YtlfgjcahpppbbaaGreatDoor
open ChangeShapes WideShapes RowKit
theorem ag2 (ro ep fr tg rd:Int) (A:Option Addr) (c:Nat) (l:List Ev) (qu e pe:Int) (x:Ev) (hlc:l.length<=c) (w:World) (h:Rd w w.heap.size 6 A l.length (bg l)) (hb:l.length*48<=reachBytes):
    Calls tP 77 #[.agg #[iV ro,iV ep,iV fr,iV tg,iV rd,.slice A l.length c],.agg (rR 1 qu e pe x)] w (l8 w (eu ⟨ro,ep,fr,tg,rd,l⟩ ⟨1,qu,e,pe,x⟩)):=by
 have S:=(St.start w).bL h;have hb2:=hb;unfold reachBytes at hb2;obtain ⟨R,hR⟩: ∃ R,ku ⟨ro,ep,fr,tg,rd,l⟩ ⟨1,qu,e,pe,x⟩=R:=⟨_,rfl⟩;have hM:=hR;rw [ars] at hM
 try dsimp only at hM
 have am7:R.1.evs.length<=l.length+1:=by rw [<-hR];exact Fh
 refine gu 54 Tryz.func77 ?_;refine cw [0,1] ?_;refine zN 2 ?_;refine iH S ?_;intro b1 w2 S3;refine iH S3 ?_;intro b4 w5 S6;refine gq S6 fP ?_;intro b7 w8 S9;refine zN 7 ?_;refine cab eQ S9 (dZ ro ep fr tg rd A c l _ (St.rd 3 S9 rfl) oQ) ?_;intro ZE qI;refine zN 6 ?_;by_cases pR:au ⟨ro,ep,fr,tg,rd,l⟩=0
 ·have hln:=gJ (eO pR).2;dsimp only at hln;refine zN 10 ?_;refine cab eQ qI (jH ⟨1,qu,e,pe,x⟩ _) ?_;intro JO iG;refine zN 6 ?_;by_cases u7:aJ ⟨1,qu,e,pe,x⟩=0
  ·have hrz:=Bf u7;dsimp only at hrz;refine zN 11 ?_;by_cases h18:ro=2
   ·refine zN 16 ?_;refine vv jl ?_;refine sa 0 iG kQ ?_;intro FX mM;refine zN 6 ?_;have tZ:=mM.aP [3,2,1,0];rw [BL pR u7 uQ];exact ⟨none,0,Nat.le_refl 0,rfl,aB tZ⟩
   refine zN 4 ?_;refine xY eQ (Lv 1 dQ _) ?_;rintro _ w22 ⟨rfl,Ox⟩;refine ⟨_,rfl,?_⟩;have oh:=iG.on Ox;refine zN 3 ?_;by_cases uG:pe=0
   ·refine zN 8 ?_;refine mh (X:=Nat×(Option Addr)×Nat×Nat) (λxv=>[(4,pV b7 0),(5,iV 0),(8,pV xv.1 0),(9,iV R.2)]) (λxv wr=>St w.heap.size w wr [.blk xv.1 (bR R.1 xv.2.1 xv.2.2.1) 57,.bJ 6 xv.2.1 R.1.evs.length ((R.1.evs).flatMap Ev.cells),.loc xv.2.2.2 (p9 tP 3 (λy=>if y=1 then some (.func (.func 132) #[] #[]) else none) 7),.blk b7 zB 57,.blk b4 (rR 1 qu e pe x) 171,.blk b1 #[iV ro,iV ep,iV fr,iV tg,iV rd,.slice A l.length c] 57,.rd 6 A l.length ((l).flatMap Ev.cells)]) ?_ ?_
    ·have l6:=oh.drew;refine aN 13 l6 [] ?_;refine aL 4 ?_;refine gH (n:=8) (r:=0) (s:=10) kQ ?_ ?_
     ·refine jI 0 rfl eQ (Tj _) ?_;rintro _ w32 ⟨m31,rfl,T34⟩;refine ⟨_,rfl,?_⟩;have rW:=l6.ext T34 rfl;refine cO ?_;refine gH (n:=7) (r:=3) (s:=10) kQ ?_ ?_
      ·refine je (i:=3) rfl rfl (v:= .func (.func 132) #[] #[]) (wn rfl) rfl rfl (jS 0 rW rfl rfl rfl rfl Tryz.underlying3 Tryz.underlying206 (Tryz.zeroValue205 _) dQ rfl) ?_;refine cO ?_;refine gH (n:=6) (r:=6) (s:=10) kQ ?_ ?_
       ·have HC:=wV ro ep fr tg rd A c l 1 qu e pe x _ (St.rd 4 rW rfl) hb;rw [hM] at HC;refine mW 6 rfl eQ (HC) ?_;rintro _ w38 ⟨M4,M5,aGv,rfl,T40⟩;refine ⟨_,rfl,?_⟩;have Ck:=rW.ext T40 rfl;clear HC;refine aL 4 ?_;refine aU 10 ?_;refine lH 10 rfl Ck fP ?_;intro b44 w45 rX;refine cO ?_;refine aU 11 ?_;refine sn 11 rfl 0 rX kQ ?_;intro w47 vO;refine aL 3 ?_;refine bX (b44,M4,M5,m31) ?_ ji;exact vO
       refine lH 10 rfl rW fP ?_;intro b50 SX lU;refine cO ?_;refine aU 6 ?_;have HC:=wV ro ep fr tg rd A c l 1 qu e pe x _ (St.rd 5 lU rfl) hb;rw [hM] at HC;refine mW 6 rfl eQ (HC) ?_;rintro _ w56 ⟨A53,c54,aGw,rfl,T58⟩;refine ⟨_,rfl,?_⟩;have qW:=lU.ext T58 rfl;clear HC;refine aL 4 ?_;refine aU 11 ?_;refine sn 11 rfl 1 qW kQ ?_;intro VQ vP;refine aL 3 ?_;have Bd:St w.heap.size w VQ [_,_,_,_,_,_,_]:=vP.re [1,0,2,3,4,5,6] dQ;refine bX (b50,A53,c54,m31) ?_ ji;exact Bd
      refine lH 10 rfl rW fP ?_;intro b66 w67 Bc;refine cO ?_;refine aU 3 ?_;refine je (i:=3) rfl rfl (v:= .func (.func 132) #[] #[]) (wn rfl) rfl rfl (jS 1 Bc rfl rfl rfl rfl Tryz.underlying3 Tryz.underlying206 (Tryz.zeroValue205 _) dQ rfl) ?_;refine cO ?_;refine aU 6 ?_;have HC:=wV ro ep fr tg rd A c l 1 qu e pe x _ (St.rd 5 Bc rfl) hb;rw [hM] at HC;refine mW 6 rfl eQ (HC) ?_;rintro _ w72 ⟨A69,c70,aGx,rfl,T74⟩;refine ⟨_,rfl,?_⟩;have tY:=Bc.ext T74 rfl;clear HC;refine aL 4 ?_;refine aU 11 ?_;refine sn 11 rfl 1 tY kQ ?_;intro w78 Ci;refine aL 3 ?_;have tV:St w.heap.size w w78 [_,_,_,_,_,_,_]:=Ci.re [1,0,2,3,4,5,6] dQ;refine bX (b66,A69,c70,m31) ?_ ji;exact tV
     refine lH 10 rfl l6 fP ?_;intro b82 w83 FZ;refine cO ?_;refine aU 0 ?_;refine jI 0 rfl eQ (Tj _) ?_;rintro _ w86 ⟨m85,rfl,T88⟩;refine ⟨_,rfl,?_⟩;have Ez:=FZ.ext T88 rfl;refine cO ?_;refine aU 3 ?_;refine je (i:=3) rfl rfl (v:= .func (.func 132) #[] #[]) (wn rfl) rfl rfl (jS 0 Ez rfl rfl rfl rfl Tryz.underlying3 Tryz.underlying206 (Tryz.zeroValue205 _) dQ rfl) ?_;refine cO ?_;refine aU 6 ?_;have HC:=wV ro ep fr tg rd A c l 1 qu e pe x _ (St.rd 5 Ez rfl) hb;rw [hM] at HC;refine mW 6 rfl eQ (HC) ?_;rintro _ w92 ⟨A89,c90,aGy,rfl,T94⟩;refine ⟨_,rfl,?_⟩;have DZ:=Ez.ext T94 rfl;clear HC;refine aL 4 ?_;refine aU 11 ?_;refine sn 11 rfl 2 DZ kQ ?_;intro w98 S99;refine aL 3 ?_;have wT:St w.heap.size w w98 [_,_,_,_,_,_,_]:=S99.re [2,0,1,3,4,5,6] dQ;refine bX (b82,A89,c90,m85) ?_ ji;exact wT
    rintro ⟨aB4,aKu,aKv,aKw⟩ abG zn
    try dsimp only at zn
    refine aZ (l':=[(4,pV b7 0),(5,iV 0),(8,pV aB4 0),(9,iV R.2)]) ji (aH (aH (ay (vm ?_))));by_cases aoL:R.2=0
    ·refine zN 7 ?_;have Jh:=zn.nil 65 6;refine zN 3 ?_;refine dx (news:=(R.1.evs).flatMap Ev.cells) (xs':=(R.1.evs).flatMap Ev.cells) 0 Jh (wn rfl) rfl rfl rfl rfl rfl rfl (St.bJ 2 Jh rfl) Tryz.underlying55 oO rfl dQ (fE _) lQ oQ (rfl) ?_;intro ait aiu R8 hc114 aGz mG;refine zQ ?_;refine Hz 1 mG kQ ?_;intro auF AX;refine zN 5 ?_;refine sa 4 AX kQ ?_;intro aiw oZ;refine zN 5 ?_;have oV:=oZ.aP [7,6,5,4,3,2,1];rw [jY pR u7 uQ (by rw [hR];exact aoL),hR];rw [Nat.zero_add] at oV⊢;exact ⟨ait,aiu,(dY (oV.own 0 rfl)).1,rfl,oV.bD 0 rfl⟩
    refine zN 6 ?_;refine vv jl ?_;refine sa 3 zn kQ ?_;intro abO Dv;refine zN 6 ?_;have AO:=Dv.aP [6,5,4,3,2,1,0];rw [uS pR u7 (by rw [hR];exact aoL)];exact ⟨none,0,Nat.le_refl 0,rfl,aB AO⟩
   refine zN 8 ?_;refine vv jl ?_;refine sa 0 oh kQ ?_;intro an0 Mg;refine zN 6 ?_;have yh:=Mg.aP [3,2,1,0];rw [BL pR u7 uQ];exact ⟨none,0,Nat.le_refl 0,rfl,aB yh⟩
  refine zN 6 ?_;refine vv jl ?_;refine zQ ?_;refine sa 0 iG kQ ?_;intro aa1 ze;refine zN 6 ?_;have AU:=ze.aP [3,2,1,0];rw [Bh pR u7];exact ⟨none,0,Nat.le_refl 0,rfl,aB AU⟩
 refine zN 6 ?_;refine vv jl ?_;refine zQ ?_;refine sa 0 qI kQ ?_;intro aof zo;refine zN 6 ?_;have zf:=zo.aP [3,2,1,0];rw [Bg pR];exact ⟨none,0,Nat.le_refl 0,rfl,aB zf⟩
end Go.Proofs.YtlfgjcahpppbbaaGreatDoor
