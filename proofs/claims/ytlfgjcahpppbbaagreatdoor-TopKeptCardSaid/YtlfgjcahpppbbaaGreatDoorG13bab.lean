import Derived.Test.YtlfgjcahpppbbaaGreatDoorGba5b0
set_option maxRecDepth 100000
set_option maxHeartbeats 8000000
set_option linter.unusedSimpArgs false
set_option linter.unusedVariables false
namespace Go.Proofs.YtlfgjcahpppbbaaGreatDoor
open ChangeShapes WideShapes RowKit
theorem Fx {k z:Int} {F:FuncId} {AR:bn×Int} (ro ep fr tg rd:Int) (A:Option Addr) (c:Nat) (l:List Ev) (qu e pe:Int) (x:Ev) (hk:k≠3/\k≠4) (hkr: -9223372036854775808<=k/\k<=9223372036854775807) (hact:ku ⟨ro,ep,fr,tg,rd,l⟩ ⟨k,qu,e,pe,x⟩=if ¬ (ro=z/\ep=e) then (bF,3) else AR)
    (hra: ∀ w,Calls tP 100 #[] w λe w'=> ∃ m d g,e= .returned (.map (some m))/\St w.heap.size w w' [.blk d #[iV z] 3,.blk g #[.func (.func F) #[] #[]] 205,.loc m (p9 tP 3 (λy=>if y=k then some (.func (.func 148) #[] #[pV d 0,pV g 0]) else none) 7)])
    (ho: ∀ (b1 b2:Nat) (_:l.length<=2000) (_:0<=e/\e<=1048576) (w:World) (_:Rd w w.heap.size 6 A l.length (bg l)) (_:l.length*48<=reachBytes) (_:Rd w w.heap.size 1 (aD b1 0) 1 [iV z]) (_:Rd w w.heap.size 1 (aD b2 0) 1 [.func (.func F) #[] #[]]),Calls tP 148 #[.agg #[iV ro,iV ep,iV fr,iV tg,iV rd,.slice A l.length c],.agg (rR k qu e pe x),pV b1 0,pV b2 0] w (kI w (if ¬ (ro=z/\ep=e) then (bF,3) else AR)))
    (hlc:l.length<=c) (w:World) (h:Rd w w.heap.size 6 A l.length (bg l)) (hb:l.length*48<=reachBytes):
    Calls tP 77 #[.agg #[iV ro,iV ep,iV fr,iV tg,iV rd,.slice A l.length c],.agg (rR k qu e pe x)] w (l8 w (eu ⟨ro,ep,fr,tg,rd,l⟩ ⟨k,qu,e,pe,x⟩)):=by
 have S:=(St.start w).bL h;have hb2:=hb;unfold reachBytes at hb2;obtain ⟨R,hR⟩: ∃ R,ku ⟨ro,ep,fr,tg,rd,l⟩ ⟨k,qu,e,pe,x⟩=R:=⟨_,rfl⟩;have hM:=hR;rw [hact] at hM
 try dsimp only at hM
 have am7:R.1.evs.length<=l.length+1:=by rw [<-hR];exact Fh
 refine gu 54 Tryz.func77 ?_;refine cw [0,1] ?_;refine zN 2 ?_;refine iH S ?_;intro b1 w2 S3;refine iH S3 ?_;intro b4 w5 S6;refine gq S6 fP ?_;intro b7 w8 S9;refine zN 7 ?_;refine cab eQ S9 (dZ ro ep fr tg rd A c l _ (St.rd 3 S9 rfl) oQ) ?_;intro ZE qI;refine zN 6 ?_;by_cases pR:au ⟨ro,ep,fr,tg,rd,l⟩=0
 ·have hln:=gJ (eO pR).2;dsimp only at hln;refine zN 10 ?_;refine cab eQ qI (jH ⟨k,qu,e,pe,x⟩ _) ?_;intro JO iG;refine zN 6 ?_;by_cases u7:aJ ⟨k,qu,e,pe,x⟩=0
  ·have hrz:=Bf u7;dsimp only at hrz;refine zN 11 ?_;by_cases h18:ro=2
   ·refine zN 16 ?_;refine vv jl ?_;refine sa 0 iG kQ ?_;intro FX mM;refine zN 6 ?_;have tZ:=mM.aP [3,2,1,0];rw [BL pR u7 uQ];exact ⟨none,0,Nat.le_refl 0,rfl,aB tZ⟩
   refine zN 4 ?_;refine xY eQ (Lv k hk _) ?_;rintro _ w22 ⟨rfl,Ox⟩;refine ⟨_,rfl,?_⟩;have oh:=iG.on Ox;refine zN 3 ?_;by_cases uG:pe=0
   ·refine zN 8 ?_;refine mh (X:=Nat×(Option Addr)×Nat×Nat×Nat×Nat) (λxv=>[(4,pV b7 0),(5,iV 0),(8,pV xv.1 0),(9,iV R.2)]) (λxv wr=>St w.heap.size w wr [.blk xv.1 (bR R.1 xv.2.1 xv.2.2.1) 57,.bJ 6 xv.2.1 R.1.evs.length ((R.1.evs).flatMap Ev.cells),.blk xv.2.2.2.1 #[iV z] 3,.blk xv.2.2.2.2.1 #[.func (.func F) #[] #[]] 205,.loc xv.2.2.2.2.2 (p9 tP 3 (λy=>if y=k then some (.func (.func 148) #[] #[pV xv.2.2.2.1 0,pV xv.2.2.2.2.1 0]) else none) 7),.blk b7 zB 57,.blk b4 (rR k qu e pe x) 171,.blk b1 #[iV ro,iV ep,iV fr,iV tg,iV rd,.slice A l.length c] 57,.rd 6 A l.length ((l).flatMap Ev.cells)]) ?_ ?_
    ·have l6:=oh.drew;refine aN 13 l6 [] ?_;refine aL 4 ?_;refine gH (n:=8) (r:=0) (s:=10) kQ ?_ ?_
     ·refine jI 0 rfl eQ (hra _) ?_;rintro _ w34 ⟨m31,d32,g33,rfl,T36⟩;refine ⟨_,rfl,?_⟩;have uf:=l6.ext T36 rfl;refine cO ?_;refine gH (n:=7) (r:=3) (s:=10) kQ ?_ ?_
      ·refine je (i:=3) rfl rfl (v:= .func (.func 148) #[] #[pV d32 0,pV g33 0]) (wn rfl) rfl rfl (jS 2 uf rfl rfl rfl rfl Tryz.underlying3 Tryz.underlying206 (Tryz.zeroValue205 _) hkr (if_pos rfl)) ?_;refine cO ?_;refine gH (n:=6) (r:=6) (s:=10) kQ ?_ ?_
       ·have HC:=ho d32 g33 oQ oQ _ (St.rd 6 uf rfl) hb (St.lD (xs:=[iV z]) 0 uf rfl rfl rfl) (St.lD (xs:=[.func (.func F) #[] #[]]) 1 uf rfl rfl rfl);rw [hM] at HC;refine mW 6 rfl eQ (HC) ?_;rintro _ w40 ⟨A37,c38,aGp,rfl,T42⟩;refine ⟨_,rfl,?_⟩;have JL:=uf.ext T42 rfl;clear HC;refine aL 4 ?_;refine aU 10 ?_;refine lH 10 rfl JL fP ?_;intro b46 w47 vO;refine cO ?_;refine aU 11 ?_;refine sn 11 rfl 0 vO kQ ?_;intro VP oU;refine aL 3 ?_;refine bX (b46,A37,c38,d32,g33,m31) ?_ ji;exact oU
       refine lH 10 rfl uf fP ?_;intro b52 w53 l7;refine cO ?_;refine aU 6 ?_;have HC:=ho d32 g33 oQ oQ _ (St.rd 7 l7 rfl) hb (St.lD (xs:=[iV z]) 1 l7 rfl rfl rfl) (St.lD (xs:=[.func (.func F) #[] #[]]) 2 l7 rfl rfl rfl);rw [hM] at HC;refine mW 6 rfl eQ (HC) ?_;rintro _ w58 ⟨A55,c56,aGq,rfl,T60⟩;refine ⟨_,rfl,?_⟩;have Ar:=l7.ext T60 rfl;clear HC;refine aL 4 ?_;refine aU 11 ?_;refine sn 11 rfl 1 Ar kQ ?_;intro ZK Bd;refine aL 3 ?_;have uD:St w.heap.size w ZK [_,_,_,_,_,_,_,_,_]:=Bd.re [1,0,2,3,4,5,6,7,8] dQ;refine bX (b52,A55,c56,d32,g33,m31) ?_ ji;exact uD
      refine lH 10 rfl uf fP ?_;intro b68 w69 uh;refine cO ?_;refine aU 3 ?_;refine je (i:=3) rfl rfl (v:= .func (.func 148) #[] #[pV d32 0,pV g33 0]) (wn rfl) rfl rfl (jS 3 uh rfl rfl rfl rfl Tryz.underlying3 Tryz.underlying206 (Tryz.zeroValue205 _) hkr (if_pos rfl)) ?_;refine cO ?_;refine aU 6 ?_;have HC:=ho d32 g33 oQ oQ _ (St.rd 7 uh rfl) hb (St.lD (xs:=[iV z]) 1 uh rfl rfl rfl) (St.lD (xs:=[.func (.func F) #[] #[]]) 2 uh rfl rfl rfl);rw [hM] at HC;refine mW 6 rfl eQ (HC) ?_;rintro _ w74 ⟨A71,c72,aGr,rfl,T76⟩;refine ⟨_,rfl,?_⟩;have Ew:=uh.ext T76 rfl;clear HC;refine aL 4 ?_;refine aU 11 ?_;refine sn 11 rfl 1 Ew kQ ?_;intro w80 tV;refine aL 3 ?_;have DX:St w.heap.size w w80 [_,_,_,_,_,_,_,_,_]:=tV.re [1,0,2,3,4,5,6,7,8] dQ;refine bX (b68,A71,c72,d32,g33,m31) ?_ ji;exact DX
     refine lH 10 rfl l6 fP ?_;intro b84 w85 Cn;refine cO ?_;refine aU 0 ?_;refine jI 0 rfl eQ (hra _) ?_;rintro _ w90 ⟨m87,d88,g89,rfl,T92⟩;refine ⟨_,rfl,?_⟩;have M0:=Cn.ext T92 rfl;refine cO ?_;refine aU 3 ?_;refine je (i:=3) rfl rfl (v:= .func (.func 148) #[] #[pV d88 0,pV g89 0]) (wn rfl) rfl rfl (jS 2 M0 rfl rfl rfl rfl Tryz.underlying3 Tryz.underlying206 (Tryz.zeroValue205 _) hkr (if_pos rfl)) ?_;refine cO ?_;refine aU 6 ?_;have HC:=ho d88 g89 oQ oQ _ (St.rd 7 M0 rfl) hb (St.lD (xs:=[iV z]) 0 M0 rfl rfl rfl) (St.lD (xs:=[.func (.func F) #[] #[]]) 1 M0 rfl rfl rfl);rw [hM] at HC;refine mW 6 rfl eQ (HC) ?_;rintro _ w96 ⟨A93,c94,aGs,rfl,T98⟩;refine ⟨_,rfl,?_⟩;have Au:=M0.ext T98 rfl;clear HC;refine aL 4 ?_;refine aU 11 ?_;refine sn 11 rfl 4 Au kQ ?_;intro aib qd;refine aL 3 ?_;have sJ:St w.heap.size w aib [_,_,_,_,_,_,_,_,_]:=qd.re [4,0,1,2,3,5,6,7,8] dQ;refine bX (b84,A93,c94,d88,g89,m87) ?_ ji;exact sJ
    rintro ⟨aiv,WZ,W9,aKr,aKs,aKt⟩ R8 mG
    try dsimp only at mG
    refine aZ (l':=[(4,pV b7 0),(5,iV 0),(8,pV aiv 0),(9,iV R.2)]) ji (aH (aH (ay (vm ?_))));by_cases GX:R.2=0
    ·refine zN 7 ?_;have qc:=mG.nil 65 6;refine zN 3 ?_;refine dx (news:=(R.1.evs).flatMap Ev.cells) (xs':=(R.1.evs).flatMap Ev.cells) 0 qc (wn rfl) rfl rfl rfl rfl rfl rfl (St.bJ 2 qc rfl) Tryz.underlying55 oO rfl dQ (fE _) lQ oQ (rfl) ?_;intro aB3 c117 aiw aGt aGu oZ;refine zQ ?_;refine Hz 1 oZ kQ ?_;intro anZ AO;refine zN 5 ?_;refine sa 6 AO kQ ?_;intro an0 Mg;refine zN 5 ?_;have yh:=Mg.aP [9,8,7,6,5,4,3,2,1];rw [jY pR u7 uQ (by rw [hR];exact GX),hR];rw [Nat.zero_add] at yh⊢;exact ⟨aB3,c117,(dY (yh.own 0 rfl)).1,rfl,yh.bD 0 rfl⟩
    refine zN 6 ?_;refine vv jl ?_;refine sa 5 mG kQ ?_;intro aa1 ze;refine zN 6 ?_;have AU:=ze.aP [8,7,6,5,4,3,2,1,0];rw [uS pR u7 (by rw [hR];exact GX)];exact ⟨none,0,Nat.le_refl 0,rfl,aB AU⟩
   refine zN 8 ?_;refine vv jl ?_;refine sa 0 oh kQ ?_;intro aof zo;refine zN 6 ?_;have zf:=zo.aP [3,2,1,0];rw [BL pR u7 uQ];exact ⟨none,0,Nat.le_refl 0,rfl,aB zf⟩
  refine zN 6 ?_;refine vv jl ?_;refine zQ ?_;refine sa 0 iG kQ ?_;intro WJ yj;refine zN 6 ?_;have GR:=yj.aP [3,2,1,0];rw [Bh pR u7];exact ⟨none,0,Nat.le_refl 0,rfl,aB GR⟩
 refine zN 6 ?_;refine vv jl ?_;refine zQ ?_;refine sa 0 qI kQ ?_;intro abo E9;refine zN 6 ?_;have zi:=E9.aP [3,2,1,0];rw [Bg pR];exact ⟨none,0,Nat.le_refl 0,rfl,aB zi⟩
theorem agY (ro ep fr tg rd:Int) (A:Option Addr) (c:Nat) (l:List Ev) (qu e pe:Int) (x:Ev) (hlc:l.length<=c) (w:World) (h:Rd w w.heap.size 6 A l.length (bg l)) (hb:l.length*48<=reachBytes):
  Calls tP 77 #[.agg #[iV ro,iV ep,iV fr,iV tg,iV rd,.slice A l.length c],.agg (rR 2 qu e pe x)] w (l8 w (eu ⟨ro,ep,fr,tg,rd,l⟩ ⟨2,qu,e,pe,x⟩)):=
 Fx (z:=1) (F:=134) ro ep fr tg rd A c l qu e pe x dQ dQ aeP agF (λb1 b2 h1 h2=>Ti ro ep fr tg rd A c l 2 qu e pe x _ b1 b2 h1) hlc w h hb
theorem agZ (ro ep fr tg rd:Int) (A:Option Addr) (c:Nat) (l:List Ev) (qu e pe:Int) (x:Ev) (hlc:l.length<=c) (w:World) (h:Rd w w.heap.size 6 A l.length (bg l)) (hb:l.length*48<=reachBytes):
  Calls tP 77 #[.agg #[iV ro,iV ep,iV fr,iV tg,iV rd,.slice A l.length c],.agg (rR 5 qu e pe x)] w (l8 w (eu ⟨ro,ep,fr,tg,rd,l⟩ ⟨5,qu,e,pe,x⟩)):=
 Fx (z:=4) (F:=134) ro ep fr tg rd A c l qu e pe x dQ dQ aeQ agG (λb1 b2 h1 h2=>Ti ro ep fr tg rd A c l 5 qu e pe x _ b1 b2 h1) hlc w h hb
theorem ag0 (ro ep fr tg rd:Int) (A:Option Addr) (c:Nat) (l:List Ev) (qu e pe:Int) (x:Ev) (hlc:l.length<=c) (w:World) (h:Rd w w.heap.size 6 A l.length (bg l)) (hb:l.length*48<=reachBytes):
  Calls tP 77 #[.agg #[iV ro,iV ep,iV fr,iV tg,iV rd,.slice A l.length c],.agg (rR 6 qu e pe x)] w (l8 w (eu ⟨ro,ep,fr,tg,rd,l⟩ ⟨6,qu,e,pe,x⟩)):=
 Fx (z:=4) (F:=137) ro ep fr tg rd A c l qu e pe x dQ dQ arv agH (λb1 b2 h1 h2=>agA ro ep fr tg rd A c l 6 qu e pe x _ b1 b2 hlc) hlc w h hb
theorem ag1 (ro ep fr tg rd:Int) (A:Option Addr) (c:Nat) (l:List Ev) (qu e pe:Int) (x:Ev) (hlc:l.length<=c) (w:World) (h:Rd w w.heap.size 6 A l.length (bg l)) (hb:l.length*48<=reachBytes):
  Calls tP 77 #[.agg #[iV ro,iV ep,iV fr,iV tg,iV rd,.slice A l.length c],.agg (rR 7 qu e pe x)] w (l8 w (eu ⟨ro,ep,fr,tg,rd,l⟩ ⟨7,qu,e,pe,x⟩)):=
 Fx (z:=3) (F:=138) ro ep fr tg rd A c l qu e pe x dQ dQ arw agI (λb1 b2 h1 h2=>agB ro ep fr tg rd A c l 7 qu e pe x _ b1 b2 h2) hlc w h hb
end Go.Proofs.YtlfgjcahpppbbaaGreatDoor
