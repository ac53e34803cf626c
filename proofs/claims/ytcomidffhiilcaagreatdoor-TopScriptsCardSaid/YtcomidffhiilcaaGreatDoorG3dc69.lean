import Derived.Test.YtcomidffhiilcaaGreatDoorG8266a
set_option maxRecDepth 100000
set_option maxHeartbeats 8000000
set_option linter.unusedSimpArgs false
set_option linter.unusedVariables false
namespace Go.Proofs.YtcomidffhiilcaaGreatDoor
open ChangeShapes WideShapes RowKit
theorem afd (ro ep fr tg rd:Int) (A:Option Addr) (c:Nat) (l:List Ev) (qu e pe:Int) (x:Ev) (hlc:l.length<=c) (w:World) (h:Rd w w.heap.size 6 A l.length (bn l)) (hb:l.length*48<=reachBytes):
    Calls tP 81 #[.agg #[iV ro,iV ep,iV fr,iV tg,iV rd,.slice A l.length c],.agg (rR 1 qu e pe x)] w (mo w (dV ⟨ro,ep,fr,tg,rd,l⟩ ⟨1,qu,e,pe,x⟩)):=by
 have S:=(St.start w).bX h;have hb2:=hb;unfold reachBytes at hb2;obtain ⟨R,hR⟩: ∃ R,ku ⟨ro,ep,fr,tg,rd,l⟩ ⟨1,qu,e,pe,x⟩=R:=⟨_,rfl⟩;have hM:=hR;rw [aoV] at hM
 try dsimp only at hM
 have akz:R.1.evs.length<=l.length+1:=by rw [<-hR];exact Es
 refine gK 54 Tryz.func81 ?_;refine cw [0,1] ?_;refine zN 2 ?_;refine iT S ?_;intro b1 w2 S3;refine iT S3 ?_;intro b4 w5 S6;refine fT S6 fM ?_;intro b7 w8 S9;refine zN 7 ?_;refine cab eQ S9 (dS ro ep fr tg rd A c l _ (St.rd 3 S9 rfl) oQ) ?_;intro Zo rJ;refine zN 6 ?_;by_cases oH:aj ⟨ro,ep,fr,tg,rd,l⟩=0
 ·have hln:=gG (eH oH).2;dsimp only at hln;refine zN 10 ?_;refine cab eQ rJ (jI ⟨1,qu,e,pe,x⟩ _) ?_;intro LB iW;refine zN 6 ?_;by_cases uO:aJ ⟨1,qu,e,pe,x⟩=0
  ·have hrz:=zP uO;dsimp only at hrz;refine zN 11 ?_;by_cases h18:ro=2
   ·refine zN 16 ?_;refine vv jm ?_;refine sa 0 iW kQ ?_;intro BZ kD;refine zN 6 ?_;have nO:=kD.aU [3,2,1,0];rw [Aw oH uO uQ];exact ⟨none,0,Nat.le_refl 0,rfl,aB nO⟩
   refine zN 4 ?_;refine xS eQ (KC 1 dQ _) ?_;rintro _ Px ⟨rfl,Ni⟩;refine ⟨_,rfl,?_⟩;have kS:=iW.on Ni;refine zN 3 ?_;by_cases qo:pe=0
   ·refine zN 8 ?_;refine mU (X:=Nat×(Option Addr)×Nat×Nat) (λxv=>[(4,pV b7 0),(5,iV 0),(8,pV xv.1 0),(9,iV R.2)]) (λxv wr=>St w.heap.size w wr [.blk xv.1 (bR R.1 xv.2.1 xv.2.2.1) 150,.bI 6 xv.2.1 R.1.evs.length ((R.1.evs).flatMap Ev.cells),.loc xv.2.2.2 (qd tP 3 (λy=>if y=1 then some (.func (.func 146) #[] #[]) else none) 7),.blk b7 zB 150,.blk b4 (rR 1 qu e pe x) 155,.blk b1 #[iV ro,iV ep,iV fr,iV tg,iV rd,.slice A l.length c] 150,.rd 6 A l.length ((l).flatMap Ev.cells)]) ?_ ?_
    ·have nV:=kS.drew;refine aF 13 nV [] ?_;refine aI 4 ?_;refine fu (n:=8) (r:=0) (s:=10) kQ ?_ ?_
     ·refine j5 0 rfl eQ (Rf _) ?_;rintro _ w32 ⟨m31,rfl,T34⟩;refine ⟨_,rfl,?_⟩;have kE:=nV.ext T34 rfl;refine dJ ?_;refine fu (n:=7) (r:=3) (s:=10) kQ ?_ ?_
      ·refine je (i:=3) rfl rfl (v:= .func (.func 146) #[] #[]) (wn rfl) rfl rfl (jX 0 kE rfl rfl rfl rfl Tryz.underlying3 Tryz.underlying204 (Tryz.zeroValue203 _) dQ rfl) ?_;refine dJ ?_;refine fu (n:=6) (r:=6) (s:=10) kQ ?_ ?_
       ·have HC:=vT ro ep fr tg rd A c l 1 qu e pe x _ (St.rd 4 kE rfl) hb;rw [hM] at HC;refine mP 6 rfl eQ (HC) ?_;rintro _ w38 ⟨Q5,Q6,aDq,rfl,T40⟩;refine ⟨_,rfl,?_⟩;have CY:=kE.ext T40 rfl;clear HC;refine aI 4 ?_;refine aY 10 ?_;refine lM 10 rfl CY fM ?_;intro b44 w45 sN;refine dJ ?_;refine aY 11 ?_;refine sn 11 rfl 0 sN kQ ?_;intro w47 pW;refine aI 3 ?_;refine dD (b44,Q5,Q6,m31) ?_ mG;exact pW
       refine lM 10 rfl kE fM ?_;intro b50 Zm oh;refine dJ ?_;refine aY 6 ?_;have HC:=vT ro ep fr tg rd A c l 1 qu e pe x _ (St.rd 5 oh rfl) hb;rw [hM] at HC;refine mP 6 rfl eQ (HC) ?_;rintro _ w56 ⟨A53,c54,aDr,rfl,T58⟩;refine ⟨_,rfl,?_⟩;have qN:=oh.ext T58 rfl;clear HC;refine aI 4 ?_;refine aY 11 ?_;refine sn 11 rfl 1 qN kQ ?_;intro Ua uM;refine aI 3 ?_;have yN:St w.heap.size w Ua [_,_,_,_,_,_,_]:=uM.re [1,0,2,3,4,5,6] dQ;refine dD (b50,A53,c54,m31) ?_ mG;exact yN
      refine lM 10 rfl kE fM ?_;intro b66 w67 zL;refine dJ ?_;refine aY 3 ?_;refine je (i:=3) rfl rfl (v:= .func (.func 146) #[] #[]) (wn rfl) rfl rfl (jX 1 zL rfl rfl rfl rfl Tryz.underlying3 Tryz.underlying204 (Tryz.zeroValue203 _) dQ rfl) ?_;refine dJ ?_;refine aY 6 ?_;have HC:=vT ro ep fr tg rd A c l 1 qu e pe x _ (St.rd 5 zL rfl) hb;rw [hM] at HC;refine mP 6 rfl eQ (HC) ?_;rintro _ w72 ⟨A69,c70,aDs,rfl,T74⟩;refine ⟨_,rfl,?_⟩;have tQ:=zL.ext T74 rfl;clear HC;refine aI 4 ?_;refine aY 11 ?_;refine sn 11 rfl 1 tQ kQ ?_;intro w78 zJ;refine aI 3 ?_;have tO:St w.heap.size w w78 [_,_,_,_,_,_,_]:=zJ.re [1,0,2,3,4,5,6] dQ;refine dD (b66,A69,c70,m31) ?_ mG;exact tO
     refine lM 10 rfl nV fM ?_;intro b82 w83 CZ;refine dJ ?_;refine aY 0 ?_;refine j5 0 rfl eQ (Rf _) ?_;rintro _ w86 ⟨m85,rfl,T88⟩;refine ⟨_,rfl,?_⟩;have FU:=CZ.ext T88 rfl;refine dJ ?_;refine aY 3 ?_;refine je (i:=3) rfl rfl (v:= .func (.func 146) #[] #[]) (wn rfl) rfl rfl (jX 0 FU rfl rfl rfl rfl Tryz.underlying3 Tryz.underlying204 (Tryz.zeroValue203 _) dQ rfl) ?_;refine dJ ?_;refine aY 6 ?_;have HC:=vT ro ep fr tg rd A c l 1 qu e pe x _ (St.rd 5 FU rfl) hb;rw [hM] at HC;refine mP 6 rfl eQ (HC) ?_;rintro _ w92 ⟨A89,c90,aDt,rfl,T94⟩;refine ⟨_,rfl,?_⟩;have yZ:=FU.ext T94 rfl;clear HC;refine aI 4 ?_;refine aY 11 ?_;refine sn 11 rfl 2 yZ kQ ?_;intro w98 Zd;refine aI 3 ?_;have vS:St w.heap.size w w98 [_,_,_,_,_,_,_]:=Zd.re [2,0,1,3,4,5,6] dQ;refine dD (b82,A89,c90,m85) ?_ mG;exact vS
    rintro ⟨azP,aHT,aHU,aHV⟩ Zg xX
    try dsimp only at xX
    refine bg (l':=[(4,pV b7 0),(5,iV 0),(8,pV azP 0),(9,iV R.2)]) mG (aA (aA (av (vm ?_))));by_cases amq:R.2=0
    ·refine zN 7 ?_;have IE:=xX.nil 46 6;refine zN 3 ?_;refine dY (news:=(R.1.evs).flatMap Ev.cells) (xs':=(R.1.evs).flatMap Ev.cells) 0 IE (wn rfl) rfl rfl rfl rfl rfl rfl (St.bI 2 IE rfl) Tryz.underlying121 qw rfl dQ (fB _) lQ oQ (rfl) ?_;intro ags agt ZN hc114 aDu nI;refine zQ ?_;refine Gz 1 nI kQ ?_;intro ar3 zA;refine zN 5 ?_;refine sa 4 zA kQ ?_;intro alV tq;refine zN 5 ?_;have qC:=tq.aU [7,6,5,4,3,2,1];rw [kg oH uO uQ (by rw [hR];exact amq),hR];rw [Nat.zero_add] at qC⊢;exact ⟨ags,agt,(dP (qC.own 0 rfl)).1,rfl,qC.bC 0 rfl⟩
    refine zN 6 ?_;refine vv jm ?_;refine sa 3 xX kQ ?_;intro Z8 Cu;refine zN 6 ?_;have zo:=Cu.aU [6,5,4,3,2,1,0];rw [uH oH uO (by rw [hR];exact amq)];exact ⟨none,0,Nat.le_refl 0,rfl,aB zo⟩
   refine zN 8 ?_;refine vv jm ?_;refine sa 0 kS kQ ?_;intro aqK Qp;refine zN 6 ?_;have xk:=Qp.aU [3,2,1,0];rw [Aw oH uO uQ];exact ⟨none,0,Nat.le_refl 0,rfl,aB xk⟩
  refine zN 6 ?_;refine vv jm ?_;refine zQ ?_;refine sa 0 iW kQ ?_;intro Zf xU;refine zN 6 ?_;have zx:=xU.aU [3,2,1,0];rw [zS oH uO];exact ⟨none,0,Nat.le_refl 0,rfl,aB zx⟩
 refine zN 6 ?_;refine vv jm ?_;refine zQ ?_;refine sa 0 rJ kQ ?_;intro alW yt;refine zN 6 ?_;have xV:=yt.aU [3,2,1,0];rw [zR oH];exact ⟨none,0,Nat.le_refl 0,rfl,aB xV⟩
end Go.Proofs.YtcomidffhiilcaaGreatDoor
